/-
  No cell of these rows narrows 'for every input' (looked for: loops, veiled, ifaces, maps, wideKeys, modest, calm, conditions, laid).
  DERIVED. THE GIVEN ROWS OF THIS SEAT. 8 by the template 'for every input the law returns true; each argument reads behind the call as it read before'; 0 by the template 'total and deterministic' (their statements: YtkncofhgmcpagaaTotals.lean).
  GIVEN WITH THE SEED: the statements are not yours to turn. If you find one false, say at which input.
  Laid BY PROGRAM, IN A SANDBOX (cutbox-rows.mjs): the forced cells as the released guide's own fill.sh prints them over the translation b2514fceede24eda… (all of the seat's roots in one cut). By AI agents, Wed Nov 11 2026. No macro, syntax, notation, axiom, sorry.
-/
import Derived.Test.YtkncofhgmcpagaaChecked
import GoSem.Claim
import GoSem.ClaimJoined
import GoSem.ClaimMapViews
import Derived.JoinedTies
import Derived.KernelRfl
namespace Go.Proofs.Ytkncofhgmcpagaa
/- THE CELL 'sum', in the pinned program and in every row, IS THE sha256 OF THE DUMP (.gsa) THAT YtkncofhgmcpagaaProg.lean LOADS. Nothing in Lean hashes anything: it is a label: what it is worth is what the hold of that sum in a sandbox is worth. -/
noncomputable def Try.pinned : Pinned := { name := "ytkncofhgmcpagaa", sum := "b2514fceede24eda70c784efe3fc6ee8e9d9975ac0628bc43404ccd34df64be7", checked := Try.checked }
namespace Rows
def none {H : Type} : Left H := { results := [], args := [] }

/-- 'incunablelaw29.ScanChance': WHATEVER THE INPUT: true; the input reads as it did. -/
def scanChanceSpec : ChangeSpec := { name := "scanChance", fn := fun _ => fun
  | [d1, d2, d3] => { results := [.lit (.bool true)], args := [d1, d2, d3] }
  | _ => none }
def scanChanceRow : OpenClaim := { program := "ytkncofhgmcpagaa", sum := "b2514fceede24eda70c784efe3fc6ee8e9d9975ac0628bc43404ccd34df64be7", func := "incunable/incunablelaw29.ScanChance", spec := "scanChance", apart := false }
def ScanChanceSaid : Prop := scanChanceRow.holds Try.pinned (OpenSpec.ofChange scanChanceSpec)

/-- ITS FALSE NEIGHBOUR: 'it returns false'. Refute it at one input. -/
def scanChanceWrong : ChangeSpec := { name := "scanChance", fn := fun _ => fun
  | [d1, d2, d3] => { results := [.lit (.bool false)], args := [d1, d2, d3] }
  | _ => none }
def ScanChanceWrongFalsely : Prop := scanChanceRow.holds Try.pinned (OpenSpec.ofChange scanChanceWrong)

/-- 'incunablelaw29.ScanNoise': WHATEVER THE INPUT: true; the input reads as it did. -/
def scanNoiseSpec : ChangeSpec := { name := "scanNoise", fn := fun _ => fun
  | [d1, d2, d3] => { results := [.lit (.bool true)], args := [d1, d2, d3] }
  | _ => none }
def scanNoiseRow : OpenClaim := { program := "ytkncofhgmcpagaa", sum := "b2514fceede24eda70c784efe3fc6ee8e9d9975ac0628bc43404ccd34df64be7", func := "incunable/incunablelaw29.ScanNoise", spec := "scanNoise", apart := false }
def ScanNoiseSaid : Prop := scanNoiseRow.holds Try.pinned (OpenSpec.ofChange scanNoiseSpec)

/-- ITS FALSE NEIGHBOUR: 'it returns false'. Refute it at one input. -/
def scanNoiseWrong : ChangeSpec := { name := "scanNoise", fn := fun _ => fun
  | [d1, d2, d3] => { results := [.lit (.bool false)], args := [d1, d2, d3] }
  | _ => none }
def ScanNoiseWrongFalsely : Prop := scanNoiseRow.holds Try.pinned (OpenSpec.ofChange scanNoiseWrong)

/-- 'incunablelaw29.ScanFrames': WHATEVER THE INPUT: true; the input reads as it did. -/
def scanFramesSpec : ChangeSpec := { name := "scanFrames", fn := fun _ => fun
  | [d1, d2, d3] => { results := [.lit (.bool true)], args := [d1, d2, d3] }
  | _ => none }
def scanFramesRow : OpenClaim := { program := "ytkncofhgmcpagaa", sum := "b2514fceede24eda70c784efe3fc6ee8e9d9975ac0628bc43404ccd34df64be7", func := "incunable/incunablelaw29.ScanFrames", spec := "scanFrames", apart := false }
def ScanFramesSaid : Prop := scanFramesRow.holds Try.pinned (OpenSpec.ofChange scanFramesSpec)

/-- ITS FALSE NEIGHBOUR: 'it returns false'. Refute it at one input. -/
def scanFramesWrong : ChangeSpec := { name := "scanFrames", fn := fun _ => fun
  | [d1, d2, d3] => { results := [.lit (.bool false)], args := [d1, d2, d3] }
  | _ => none }
def ScanFramesWrongFalsely : Prop := scanFramesRow.holds Try.pinned (OpenSpec.ofChange scanFramesWrong)

/-- 'incunablelaw29.ScanRings': WHATEVER THE INPUT: true; the input reads as it did. -/
def scanRingsSpec : ChangeSpec := { name := "scanRings", fn := fun _ => fun
  | [d1, d2, d3] => { results := [.lit (.bool true)], args := [d1, d2, d3] }
  | _ => none }
def scanRingsRow : OpenClaim := { program := "ytkncofhgmcpagaa", sum := "b2514fceede24eda70c784efe3fc6ee8e9d9975ac0628bc43404ccd34df64be7", func := "incunable/incunablelaw29.ScanRings", spec := "scanRings", apart := false }
def ScanRingsSaid : Prop := scanRingsRow.holds Try.pinned (OpenSpec.ofChange scanRingsSpec)

/-- ITS FALSE NEIGHBOUR: 'it returns false'. Refute it at one input. -/
def scanRingsWrong : ChangeSpec := { name := "scanRings", fn := fun _ => fun
  | [d1, d2, d3] => { results := [.lit (.bool false)], args := [d1, d2, d3] }
  | _ => none }
def ScanRingsWrongFalsely : Prop := scanRingsRow.holds Try.pinned (OpenSpec.ofChange scanRingsWrong)

/-- 'incunablelaw29.ScanUnshears': WHATEVER THE INPUT: true; the input reads as it did. -/
def scanUnshearsSpec : ChangeSpec := { name := "scanUnshears", fn := fun _ => fun
  | [d] => { results := [.lit (.bool true)], args := [d] }
  | _ => none }
def scanUnshearsRow : OpenClaim := { program := "ytkncofhgmcpagaa", sum := "b2514fceede24eda70c784efe3fc6ee8e9d9975ac0628bc43404ccd34df64be7", func := "incunable/incunablelaw29.ScanUnshears", spec := "scanUnshears", apart := false }
def ScanUnshearsSaid : Prop := scanUnshearsRow.holds Try.pinned (OpenSpec.ofChange scanUnshearsSpec)

/-- ITS FALSE NEIGHBOUR: 'it returns false'. Refute it at one input. -/
def scanUnshearsWrong : ChangeSpec := { name := "scanUnshears", fn := fun _ => fun
  | [d] => { results := [.lit (.bool false)], args := [d] }
  | _ => none }
def ScanUnshearsWrongFalsely : Prop := scanUnshearsRow.holds Try.pinned (OpenSpec.ofChange scanUnshearsWrong)

/-- 'incunablelaw29.ScanTilts': WHATEVER THE INPUT: true; the input reads as it did. -/
def scanTiltsSpec : ChangeSpec := { name := "scanTilts", fn := fun _ => fun
  | [d1, d2, d3] => { results := [.lit (.bool true)], args := [d1, d2, d3] }
  | _ => none }
def scanTiltsRow : OpenClaim := { program := "ytkncofhgmcpagaa", sum := "b2514fceede24eda70c784efe3fc6ee8e9d9975ac0628bc43404ccd34df64be7", func := "incunable/incunablelaw29.ScanTilts", spec := "scanTilts", unfollowed := true, recurses := true, apart := false }
def ScanTiltsSaid : Prop := scanTiltsRow.holds Try.pinned (OpenSpec.ofChange scanTiltsSpec)

/-- ITS FALSE NEIGHBOUR: 'it returns false'. Refute it at one input. -/
def scanTiltsWrong : ChangeSpec := { name := "scanTilts", fn := fun _ => fun
  | [d1, d2, d3] => { results := [.lit (.bool false)], args := [d1, d2, d3] }
  | _ => none }
def ScanTiltsWrongFalsely : Prop := scanTiltsRow.holds Try.pinned (OpenSpec.ofChange scanTiltsWrong)

/-- 'incunablelaw29.ScanShears': WHATEVER THE INPUT: true; the input reads as it did. -/
def scanShearsSpec : ChangeSpec := { name := "scanShears", fn := fun _ => fun
  | [d1, d2, d3] => { results := [.lit (.bool true)], args := [d1, d2, d3] }
  | _ => none }
def scanShearsRow : OpenClaim := { program := "ytkncofhgmcpagaa", sum := "b2514fceede24eda70c784efe3fc6ee8e9d9975ac0628bc43404ccd34df64be7", func := "incunable/incunablelaw29.ScanShears", spec := "scanShears", apart := false }
def ScanShearsSaid : Prop := scanShearsRow.holds Try.pinned (OpenSpec.ofChange scanShearsSpec)

/-- ITS FALSE NEIGHBOUR: 'it returns false'. Refute it at one input. -/
def scanShearsWrong : ChangeSpec := { name := "scanShears", fn := fun _ => fun
  | [d1, d2, d3] => { results := [.lit (.bool false)], args := [d1, d2, d3] }
  | _ => none }
def ScanShearsWrongFalsely : Prop := scanShearsRow.holds Try.pinned (OpenSpec.ofChange scanShearsWrong)

/-- 'incunablelaw29.ScanSpecks': WHATEVER THE INPUT: true; the input reads as it did. -/
def scanSpecksSpec : ChangeSpec := { name := "scanSpecks", fn := fun _ => fun
  | [d1, d2] => { results := [.lit (.bool true)], args := [d1, d2] }
  | _ => none }
def scanSpecksRow : OpenClaim := { program := "ytkncofhgmcpagaa", sum := "b2514fceede24eda70c784efe3fc6ee8e9d9975ac0628bc43404ccd34df64be7", func := "incunable/incunablelaw29.ScanSpecks", spec := "scanSpecks", inPlace := ["internal/bytealg.Count", "internal/bytealg.IndexByte", "internal/bytealg.Index"], unfollowed := true, recurses := true, named := ["internal/bytealg.MaxLen"], apart := false }
def ScanSpecksSaid : Prop := scanSpecksRow.holds Try.pinned (OpenSpec.ofChange scanSpecksSpec)

/-- ITS FALSE NEIGHBOUR: 'it returns false'. Refute it at one input. -/
def scanSpecksWrong : ChangeSpec := { name := "scanSpecks", fn := fun _ => fun
  | [d1, d2] => { results := [.lit (.bool false)], args := [d1, d2] }
  | _ => none }
def ScanSpecksWrongFalsely : Prop := scanSpecksRow.holds Try.pinned (OpenSpec.ofChange scanSpecksWrong)

/- THE SECOND FORM. 'bulk': how many values and letters a reading holds, each counted each time it is reached (what is shared counts as often as it is met; a slice's spare places count too). A statement '..UptoSaid' is the law's where the arguments, and the package variables that the reading takes, are together of bulk at most 1048576: NARROWER than '..Said'. Prove '..Said' where nothing that the law and all that it calls make is longer than what came in: it says more and counts as full. Else prove '..UptoSaid'. A law counts once. -/
mutual
def uptoBulk {H : Type} : DataW H → Nat
  | .lit (.string bytes) => bytes.length + 1
  | .lit _ => 1
  | .nil => 1
  | .ptr d => uptoBulk d + 1
  | .slice elems spare => uptoBulkAll elems + uptoBulkAll spare + 1
  | .agg parts => uptoBulkAll parts + 1
  | .iface _ d => uptoBulk d + 1
  | .map entries => uptoBulkEntries entries + 1
  | .held _ => 1
def uptoBulkAll {H : Type} : List (DataW H) → Nat
  | [] => 0
  | d :: r => uptoBulk d + uptoBulkAll r
def uptoBulkEntries {H : Type} : List (Lit × DataW H) → Nat
  | [] => 0
  | x :: r => uptoBulkEntry x + uptoBulkEntries r
def uptoBulkEntry {H : Type} : Lit × DataW H → Nat
  | (.string bytes, d) => bytes.length + uptoBulk d + 1
  | (_, d) => uptoBulk d + 1
 end
def uptoSmall : (H : Type) → List (DataW H) → Bool := fun _ ds => decide (uptoBulkAll ds ≤ 1048576)
def OpenSpec.upto (s : _root_.Go.ChangeSpec) : _root_.Go.OpenSpec := { _root_.Go.OpenSpec.ofChange s with cond := some uptoSmall }

/-- 'incunablelaw29.ScanChance', WHERE WHAT IT READS IS OF BULK AT MOST 1048576: true; the input reads as it did. -/
def scanChanceUptoRow : OpenClaim := { program := "ytkncofhgmcpagaa", sum := "b2514fceede24eda70c784efe3fc6ee8e9d9975ac0628bc43404ccd34df64be7", func := "incunable/incunablelaw29.ScanChance", spec := "scanChance", apart := false, narrowed := true }
def ScanChanceUptoSaid : Prop := scanChanceUptoRow.holds Try.pinned (OpenSpec.upto scanChanceSpec)

/-- 'incunablelaw29.ScanNoise', WHERE WHAT IT READS IS OF BULK AT MOST 1048576: true; the input reads as it did. -/
def scanNoiseUptoRow : OpenClaim := { program := "ytkncofhgmcpagaa", sum := "b2514fceede24eda70c784efe3fc6ee8e9d9975ac0628bc43404ccd34df64be7", func := "incunable/incunablelaw29.ScanNoise", spec := "scanNoise", apart := false, narrowed := true }
def ScanNoiseUptoSaid : Prop := scanNoiseUptoRow.holds Try.pinned (OpenSpec.upto scanNoiseSpec)

/-- 'incunablelaw29.ScanFrames', WHERE WHAT IT READS IS OF BULK AT MOST 1048576: true; the input reads as it did. -/
def scanFramesUptoRow : OpenClaim := { program := "ytkncofhgmcpagaa", sum := "b2514fceede24eda70c784efe3fc6ee8e9d9975ac0628bc43404ccd34df64be7", func := "incunable/incunablelaw29.ScanFrames", spec := "scanFrames", apart := false, narrowed := true }
def ScanFramesUptoSaid : Prop := scanFramesUptoRow.holds Try.pinned (OpenSpec.upto scanFramesSpec)

/-- 'incunablelaw29.ScanRings', WHERE WHAT IT READS IS OF BULK AT MOST 1048576: true; the input reads as it did. -/
def scanRingsUptoRow : OpenClaim := { program := "ytkncofhgmcpagaa", sum := "b2514fceede24eda70c784efe3fc6ee8e9d9975ac0628bc43404ccd34df64be7", func := "incunable/incunablelaw29.ScanRings", spec := "scanRings", apart := false, narrowed := true }
def ScanRingsUptoSaid : Prop := scanRingsUptoRow.holds Try.pinned (OpenSpec.upto scanRingsSpec)

/-- 'incunablelaw29.ScanUnshears', WHERE WHAT IT READS IS OF BULK AT MOST 1048576: true; the input reads as it did. -/
def scanUnshearsUptoRow : OpenClaim := { program := "ytkncofhgmcpagaa", sum := "b2514fceede24eda70c784efe3fc6ee8e9d9975ac0628bc43404ccd34df64be7", func := "incunable/incunablelaw29.ScanUnshears", spec := "scanUnshears", apart := false, narrowed := true }
def ScanUnshearsUptoSaid : Prop := scanUnshearsUptoRow.holds Try.pinned (OpenSpec.upto scanUnshearsSpec)

/-- 'incunablelaw29.ScanTilts', WHERE WHAT IT READS IS OF BULK AT MOST 1048576: true; the input reads as it did. -/
def scanTiltsUptoRow : OpenClaim := { program := "ytkncofhgmcpagaa", sum := "b2514fceede24eda70c784efe3fc6ee8e9d9975ac0628bc43404ccd34df64be7", func := "incunable/incunablelaw29.ScanTilts", spec := "scanTilts", unfollowed := true, recurses := true, apart := false, narrowed := true }
def ScanTiltsUptoSaid : Prop := scanTiltsUptoRow.holds Try.pinned (OpenSpec.upto scanTiltsSpec)

/-- 'incunablelaw29.ScanShears', WHERE WHAT IT READS IS OF BULK AT MOST 1048576: true; the input reads as it did. -/
def scanShearsUptoRow : OpenClaim := { program := "ytkncofhgmcpagaa", sum := "b2514fceede24eda70c784efe3fc6ee8e9d9975ac0628bc43404ccd34df64be7", func := "incunable/incunablelaw29.ScanShears", spec := "scanShears", apart := false, narrowed := true }
def ScanShearsUptoSaid : Prop := scanShearsUptoRow.holds Try.pinned (OpenSpec.upto scanShearsSpec)

/-- 'incunablelaw29.ScanSpecks', WHERE WHAT IT READS IS OF BULK AT MOST 1048576: true; the input reads as it did. -/
def scanSpecksUptoRow : OpenClaim := { program := "ytkncofhgmcpagaa", sum := "b2514fceede24eda70c784efe3fc6ee8e9d9975ac0628bc43404ccd34df64be7", func := "incunable/incunablelaw29.ScanSpecks", spec := "scanSpecks", inPlace := ["internal/bytealg.Count", "internal/bytealg.IndexByte", "internal/bytealg.Index"], unfollowed := true, recurses := true, named := ["internal/bytealg.MaxLen"], apart := false, narrowed := true }
def ScanSpecksUptoSaid : Prop := scanSpecksUptoRow.holds Try.pinned (OpenSpec.upto scanSpecksSpec)

end Rows
end Go.Proofs.Ytkncofhgmcpagaa
