/-
  No cell of these rows narrows 'for every input' (looked for: loops, veiled, ifaces, maps, wideKeys, modest, calm, conditions, laid).
  DERIVED. THE GIVEN ROWS OF THIS SEAT. 8 by the template 'for every input the law returns true; each argument reads behind the call as it read before'; 0 by the template 'total and deterministic' (their statements: YtgcjhpcegmblgaaTotals.lean).
  GIVEN WITH THE SEED: the statements are not yours to turn. If you find one false, say at which input.
  Laid BY PROGRAM, IN A SANDBOX (cutbox-rows.mjs): the forced cells as the released guide's own fill.sh prints them over the translation 27b6b95384bc1958… (all of the seat's roots in one cut). By AI agents, Wed Nov 11 2026. No macro, syntax, notation, axiom, sorry.
-/
import Derived.Test.YtgcjhpcegmblgaaChecked
import GoSem.Claim
import GoSem.ClaimJoined
import GoSem.ClaimMapViews
import Derived.JoinedTies
import Derived.KernelRfl
namespace Go.Proofs.Ytgcjhpcegmblgaa
/- THE CELL 'sum', in the pinned program and in every row, IS THE sha256 OF THE DUMP (.gsa) THAT YtgcjhpcegmblgaaProg.lean LOADS. Nothing in Lean hashes anything: it is a label: what it is worth is what the hold of that sum in a sandbox is worth. -/
noncomputable def Try.pinned : Pinned := { name := "ytgcjhpcegmblgaa", sum := "27b6b95384bc1958615c1145775bebd3365fddb88838e3542eef691c031b044d", checked := Try.checked }
namespace Rows
def none {H : Type} : Left H := { results := [], args := [] }

/-- 'incunablelaw05.BitmapTurns': WHATEVER THE INPUT: true; the input reads as it did. -/
def bitmapTurnsSpec : ChangeSpec := { name := "bitmapTurns", fn := fun _ => fun
  | [d1, d2, d3] => { results := [.lit (.bool true)], args := [d1, d2, d3] }
  | _ => none }
def bitmapTurnsRow : OpenClaim := { program := "ytgcjhpcegmblgaa", sum := "27b6b95384bc1958615c1145775bebd3365fddb88838e3542eef691c031b044d", func := "incunable/incunablelaw05.BitmapTurns", spec := "bitmapTurns", apart := false }
def BitmapTurnsSaid : Prop := bitmapTurnsRow.holds Try.pinned (OpenSpec.ofChange bitmapTurnsSpec)

/-- ITS FALSE NEIGHBOUR: 'it returns false'. Refute it at one input. -/
def bitmapTurnsWrong : ChangeSpec := { name := "bitmapTurns", fn := fun _ => fun
  | [d1, d2, d3] => { results := [.lit (.bool false)], args := [d1, d2, d3] }
  | _ => none }
def BitmapTurnsWrongFalsely : Prop := bitmapTurnsRow.holds Try.pinned (OpenSpec.ofChange bitmapTurnsWrong)

/-- 'incunablelaw05.BitmapNew': WHATEVER THE INPUT: true; the input reads as it did. -/
def bitmapNewSpec : ChangeSpec := { name := "bitmapNew", fn := fun _ => fun
  | [d] => { results := [.lit (.bool true)], args := [d] }
  | _ => none }
def bitmapNewRow : OpenClaim := { program := "ytgcjhpcegmblgaa", sum := "27b6b95384bc1958615c1145775bebd3365fddb88838e3542eef691c031b044d", func := "incunable/incunablelaw05.BitmapNew", spec := "bitmapNew", apart := false }
def BitmapNewSaid : Prop := bitmapNewRow.holds Try.pinned (OpenSpec.ofChange bitmapNewSpec)

/-- ITS FALSE NEIGHBOUR: 'it returns false'. Refute it at one input. -/
def bitmapNewWrong : ChangeSpec := { name := "bitmapNew", fn := fun _ => fun
  | [d] => { results := [.lit (.bool false)], args := [d] }
  | _ => none }
def BitmapNewWrongFalsely : Prop := bitmapNewRow.holds Try.pinned (OpenSpec.ofChange bitmapNewWrong)

/-- 'incunablelaw05.BitmapDraws': WHATEVER THE INPUT: true; the input reads as it did. -/
def bitmapDrawsSpec : ChangeSpec := { name := "bitmapDraws", fn := fun _ => fun
  | [d] => { results := [.lit (.bool true)], args := [d] }
  | _ => none }
def bitmapDrawsRow : OpenClaim := { program := "ytgcjhpcegmblgaa", sum := "27b6b95384bc1958615c1145775bebd3365fddb88838e3542eef691c031b044d", func := "incunable/incunablelaw05.BitmapDraws", spec := "bitmapDraws", apart := false }
def BitmapDrawsSaid : Prop := bitmapDrawsRow.holds Try.pinned (OpenSpec.ofChange bitmapDrawsSpec)

/-- ITS FALSE NEIGHBOUR: 'it returns false'. Refute it at one input. -/
def bitmapDrawsWrong : ChangeSpec := { name := "bitmapDraws", fn := fun _ => fun
  | [d] => { results := [.lit (.bool false)], args := [d] }
  | _ => none }
def BitmapDrawsWrongFalsely : Prop := bitmapDrawsRow.holds Try.pinned (OpenSpec.ofChange bitmapDrawsWrong)

/-- 'incunablelaw05.BitmapGrows': WHATEVER THE INPUT: true; the input reads as it did. -/
def bitmapGrowsSpec : ChangeSpec := { name := "bitmapGrows", fn := fun _ => fun
  | [d1, d2] => { results := [.lit (.bool true)], args := [d1, d2] }
  | _ => none }
def bitmapGrowsRow : OpenClaim := { program := "ytgcjhpcegmblgaa", sum := "27b6b95384bc1958615c1145775bebd3365fddb88838e3542eef691c031b044d", func := "incunable/incunablelaw05.BitmapGrows", spec := "bitmapGrows", apart := false }
def BitmapGrowsSaid : Prop := bitmapGrowsRow.holds Try.pinned (OpenSpec.ofChange bitmapGrowsSpec)

/-- ITS FALSE NEIGHBOUR: 'it returns false'. Refute it at one input. -/
def bitmapGrowsWrong : ChangeSpec := { name := "bitmapGrows", fn := fun _ => fun
  | [d1, d2] => { results := [.lit (.bool false)], args := [d1, d2] }
  | _ => none }
def BitmapGrowsWrongFalsely : Prop := bitmapGrowsRow.holds Try.pinned (OpenSpec.ofChange bitmapGrowsWrong)

/-- 'incunablelaw05.BitmapCuts': WHATEVER THE INPUT: true; the input reads as it did. -/
def bitmapCutsSpec : ChangeSpec := { name := "bitmapCuts", fn := fun _ => fun
  | [d] => { results := [.lit (.bool true)], args := [d] }
  | _ => none }
def bitmapCutsRow : OpenClaim := { program := "ytgcjhpcegmblgaa", sum := "27b6b95384bc1958615c1145775bebd3365fddb88838e3542eef691c031b044d", func := "incunable/incunablelaw05.BitmapCuts", spec := "bitmapCuts", apart := false }
def BitmapCutsSaid : Prop := bitmapCutsRow.holds Try.pinned (OpenSpec.ofChange bitmapCutsSpec)

/-- ITS FALSE NEIGHBOUR: 'it returns false'. Refute it at one input. -/
def bitmapCutsWrong : ChangeSpec := { name := "bitmapCuts", fn := fun _ => fun
  | [d] => { results := [.lit (.bool false)], args := [d] }
  | _ => none }
def BitmapCutsWrongFalsely : Prop := bitmapCutsRow.holds Try.pinned (OpenSpec.ofChange bitmapCutsWrong)

/-- 'incunablelaw05.BitmapDiffers': WHATEVER THE INPUT: true; the input reads as it did. -/
def bitmapDiffersSpec : ChangeSpec := { name := "bitmapDiffers", fn := fun _ => fun
  | [d1, d2] => { results := [.lit (.bool true)], args := [d1, d2] }
  | _ => none }
def bitmapDiffersRow : OpenClaim := { program := "ytgcjhpcegmblgaa", sum := "27b6b95384bc1958615c1145775bebd3365fddb88838e3542eef691c031b044d", func := "incunable/incunablelaw05.BitmapDiffers", spec := "bitmapDiffers", apart := false }
def BitmapDiffersSaid : Prop := bitmapDiffersRow.holds Try.pinned (OpenSpec.ofChange bitmapDiffersSpec)

/-- ITS FALSE NEIGHBOUR: 'it returns false'. Refute it at one input. -/
def bitmapDiffersWrong : ChangeSpec := { name := "bitmapDiffers", fn := fun _ => fun
  | [d1, d2] => { results := [.lit (.bool false)], args := [d1, d2] }
  | _ => none }
def BitmapDiffersWrongFalsely : Prop := bitmapDiffersRow.holds Try.pinned (OpenSpec.ofChange bitmapDiffersWrong)

/-- 'incunablelaw05.BitmapTrims': WHATEVER THE INPUT: true; the input reads as it did. -/
def bitmapTrimsSpec : ChangeSpec := { name := "bitmapTrims", fn := fun _ => fun
  | [d] => { results := [.lit (.bool true)], args := [d] }
  | _ => none }
def bitmapTrimsRow : OpenClaim := { program := "ytgcjhpcegmblgaa", sum := "27b6b95384bc1958615c1145775bebd3365fddb88838e3542eef691c031b044d", func := "incunable/incunablelaw05.BitmapTrims", spec := "bitmapTrims", apart := false }
def BitmapTrimsSaid : Prop := bitmapTrimsRow.holds Try.pinned (OpenSpec.ofChange bitmapTrimsSpec)

/-- ITS FALSE NEIGHBOUR: 'it returns false'. Refute it at one input. -/
def bitmapTrimsWrong : ChangeSpec := { name := "bitmapTrims", fn := fun _ => fun
  | [d] => { results := [.lit (.bool false)], args := [d] }
  | _ => none }
def BitmapTrimsWrongFalsely : Prop := bitmapTrimsRow.holds Try.pinned (OpenSpec.ofChange bitmapTrimsWrong)

/-- 'incunablelaw05.BitmapValid': WHATEVER THE INPUT: true; the input reads as it did. -/
def bitmapValidSpec : ChangeSpec := { name := "bitmapValid", fn := fun _ => fun
  | [d1, d2, d3] => { results := [.lit (.bool true)], args := [d1, d2, d3] }
  | _ => none }
def bitmapValidRow : OpenClaim := { program := "ytgcjhpcegmblgaa", sum := "27b6b95384bc1958615c1145775bebd3365fddb88838e3542eef691c031b044d", func := "incunable/incunablelaw05.BitmapValid", spec := "bitmapValid", inPlace := ["internal/bytealg.Count", "internal/bytealg.IndexByte", "internal/bytealg.Index"], named := ["internal/bytealg.MaxLen"], apart := false }
def BitmapValidSaid : Prop := bitmapValidRow.holds Try.pinned (OpenSpec.ofChange bitmapValidSpec)

/-- ITS FALSE NEIGHBOUR: 'it returns false'. Refute it at one input. -/
def bitmapValidWrong : ChangeSpec := { name := "bitmapValid", fn := fun _ => fun
  | [d1, d2, d3] => { results := [.lit (.bool false)], args := [d1, d2, d3] }
  | _ => none }
def BitmapValidWrongFalsely : Prop := bitmapValidRow.holds Try.pinned (OpenSpec.ofChange bitmapValidWrong)

/- THE SECOND FORM. 'bulk': how many values and letters a reading holds, each counted each time it is reached (what is shared counts as often as it is met; a slice's spare places count too). A statement '..UptoSaid' is the law's where the arguments, and the package variables that the reading takes, are together of bulk at most 1048576: NARROWER than '..Said'. Prove '..Said' where nothing that the law and all that it calls make is longer than what came in: it says more and counts as full. Else prove '..UptoSaid'. A law counts once. -/
mutual
def uptoBulk {H : Type} : DataW H → Nat
  | .lit (.string bytes) => bytes.length + 1
  | .lit _ => 1
  | .nil => 1
  | .ptr d => uptoBulk d + 1
  | .slice elems spare => uptoBulkAll elems + uptoBulkAll spare + 1
  | .agg parts => uptoBulkAll parts + 1
  | .iface _ d => uptoBulk d + 1
  | .map entries => uptoBulkEntries entries + 1
  | .held _ => 1
def uptoBulkAll {H : Type} : List (DataW H) → Nat
  | [] => 0
  | d :: r => uptoBulk d + uptoBulkAll r
def uptoBulkEntries {H : Type} : List (Lit × DataW H) → Nat
  | [] => 0
  | x :: r => uptoBulkEntry x + uptoBulkEntries r
def uptoBulkEntry {H : Type} : Lit × DataW H → Nat
  | (.string bytes, d) => bytes.length + uptoBulk d + 1
  | (_, d) => uptoBulk d + 1
 end
def uptoSmall : (H : Type) → List (DataW H) → Bool := fun _ ds => decide (uptoBulkAll ds ≤ 1048576)
def OpenSpec.upto (s : _root_.Go.ChangeSpec) : _root_.Go.OpenSpec := { _root_.Go.OpenSpec.ofChange s with cond := some uptoSmall }

/-- 'incunablelaw05.BitmapTurns', WHERE WHAT IT READS IS OF BULK AT MOST 1048576: true; the input reads as it did. -/
def bitmapTurnsUptoRow : OpenClaim := { program := "ytgcjhpcegmblgaa", sum := "27b6b95384bc1958615c1145775bebd3365fddb88838e3542eef691c031b044d", func := "incunable/incunablelaw05.BitmapTurns", spec := "bitmapTurns", apart := false, narrowed := true }
def BitmapTurnsUptoSaid : Prop := bitmapTurnsUptoRow.holds Try.pinned (OpenSpec.upto bitmapTurnsSpec)

/-- 'incunablelaw05.BitmapNew', WHERE WHAT IT READS IS OF BULK AT MOST 1048576: true; the input reads as it did. -/
def bitmapNewUptoRow : OpenClaim := { program := "ytgcjhpcegmblgaa", sum := "27b6b95384bc1958615c1145775bebd3365fddb88838e3542eef691c031b044d", func := "incunable/incunablelaw05.BitmapNew", spec := "bitmapNew", apart := false, narrowed := true }
def BitmapNewUptoSaid : Prop := bitmapNewUptoRow.holds Try.pinned (OpenSpec.upto bitmapNewSpec)

/-- 'incunablelaw05.BitmapDraws', WHERE WHAT IT READS IS OF BULK AT MOST 1048576: true; the input reads as it did. -/
def bitmapDrawsUptoRow : OpenClaim := { program := "ytgcjhpcegmblgaa", sum := "27b6b95384bc1958615c1145775bebd3365fddb88838e3542eef691c031b044d", func := "incunable/incunablelaw05.BitmapDraws", spec := "bitmapDraws", apart := false, narrowed := true }
def BitmapDrawsUptoSaid : Prop := bitmapDrawsUptoRow.holds Try.pinned (OpenSpec.upto bitmapDrawsSpec)

/-- 'incunablelaw05.BitmapGrows', WHERE WHAT IT READS IS OF BULK AT MOST 1048576: true; the input reads as it did. -/
def bitmapGrowsUptoRow : OpenClaim := { program := "ytgcjhpcegmblgaa", sum := "27b6b95384bc1958615c1145775bebd3365fddb88838e3542eef691c031b044d", func := "incunable/incunablelaw05.BitmapGrows", spec := "bitmapGrows", apart := false, narrowed := true }
def BitmapGrowsUptoSaid : Prop := bitmapGrowsUptoRow.holds Try.pinned (OpenSpec.upto bitmapGrowsSpec)

/-- 'incunablelaw05.BitmapCuts', WHERE WHAT IT READS IS OF BULK AT MOST 1048576: true; the input reads as it did. -/
def bitmapCutsUptoRow : OpenClaim := { program := "ytgcjhpcegmblgaa", sum := "27b6b95384bc1958615c1145775bebd3365fddb88838e3542eef691c031b044d", func := "incunable/incunablelaw05.BitmapCuts", spec := "bitmapCuts", apart := false, narrowed := true }
def BitmapCutsUptoSaid : Prop := bitmapCutsUptoRow.holds Try.pinned (OpenSpec.upto bitmapCutsSpec)

/-- 'incunablelaw05.BitmapDiffers', WHERE WHAT IT READS IS OF BULK AT MOST 1048576: true; the input reads as it did. -/
def bitmapDiffersUptoRow : OpenClaim := { program := "ytgcjhpcegmblgaa", sum := "27b6b95384bc1958615c1145775bebd3365fddb88838e3542eef691c031b044d", func := "incunable/incunablelaw05.BitmapDiffers", spec := "bitmapDiffers", apart := false, narrowed := true }
def BitmapDiffersUptoSaid : Prop := bitmapDiffersUptoRow.holds Try.pinned (OpenSpec.upto bitmapDiffersSpec)

/-- 'incunablelaw05.BitmapTrims', WHERE WHAT IT READS IS OF BULK AT MOST 1048576: true; the input reads as it did. -/
def bitmapTrimsUptoRow : OpenClaim := { program := "ytgcjhpcegmblgaa", sum := "27b6b95384bc1958615c1145775bebd3365fddb88838e3542eef691c031b044d", func := "incunable/incunablelaw05.BitmapTrims", spec := "bitmapTrims", apart := false, narrowed := true }
def BitmapTrimsUptoSaid : Prop := bitmapTrimsUptoRow.holds Try.pinned (OpenSpec.upto bitmapTrimsSpec)

/-- 'incunablelaw05.BitmapValid', WHERE WHAT IT READS IS OF BULK AT MOST 1048576: true; the input reads as it did. -/
def bitmapValidUptoRow : OpenClaim := { program := "ytgcjhpcegmblgaa", sum := "27b6b95384bc1958615c1145775bebd3365fddb88838e3542eef691c031b044d", func := "incunable/incunablelaw05.BitmapValid", spec := "bitmapValid", inPlace := ["internal/bytealg.Count", "internal/bytealg.IndexByte", "internal/bytealg.Index"], named := ["internal/bytealg.MaxLen"], apart := false, narrowed := true }
def BitmapValidUptoSaid : Prop := bitmapValidUptoRow.holds Try.pinned (OpenSpec.upto bitmapValidSpec)

end Rows
end Go.Proofs.Ytgcjhpcegmblgaa
