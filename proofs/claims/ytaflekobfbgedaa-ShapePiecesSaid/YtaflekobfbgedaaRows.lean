/-
  No cell of these rows narrows 'for every input' (looked for: loops, veiled, ifaces, maps, wideKeys, modest, calm, conditions, laid).
  DERIVED. THE GIVEN ROWS OF THIS SEAT. 7 by the template 'for every input the law returns true; each argument reads behind the call as it read before'; 0 by the template 'total and deterministic' (their statements: YtaflekobfbgedaaTotals.lean).
  GIVEN WITH THE SEED: the statements are not yours to turn. If you find one false, say at which input.
  Laid BY PROGRAM, IN A SANDBOX (cutbox-rows.mjs): the forced cells as the released guide's own fill.sh prints them over the translation aec4556168d1061b… (all of the seat's roots in one cut). By AI agents, Wed Nov 11 2026. No macro, syntax, notation, axiom, sorry.
-/
import Derived.Test.YtaflekobfbgedaaChecked
import GoSem.Claim
import GoSem.ClaimJoined
import GoSem.ClaimMapViews
import Derived.JoinedTies
import Derived.KernelRfl
namespace Go.Proofs.Ytaflekobfbgedaa
/- THE CELL 'sum', in the pinned program and in every row, IS THE sha256 OF THE DUMP (.gsa) THAT YtaflekobfbgedaaProg.lean LOADS. Nothing in Lean hashes anything: it is a label: what it is worth is what the hold of that sum in a sandbox is worth. -/
noncomputable def Try.pinned : Pinned := { name := "ytaflekobfbgedaa", sum := "aec4556168d1061b0cb7b74e74aa56860d68777ddf216814da225327a89e6518", checked := Try.checked }
namespace Rows
def none {H : Type} : Left H := { results := [], args := [] }

/-- 'incunablelaw15.ShapeHoles': WHATEVER THE INPUT: true; the input reads as it did. -/
def shapeHolesSpec : ChangeSpec := { name := "shapeHoles", fn := fun _ => fun
  | [d1, d2] => { results := [.lit (.bool true)], args := [d1, d2] }
  | _ => none }
def shapeHolesRow : OpenClaim := { program := "ytaflekobfbgedaa", sum := "aec4556168d1061b0cb7b74e74aa56860d68777ddf216814da225327a89e6518", func := "incunable/incunablelaw15.ShapeHoles", spec := "shapeHoles", unfollowed := true, recurses := true, apart := false }
def ShapeHolesSaid : Prop := shapeHolesRow.holds Try.pinned (OpenSpec.ofChange shapeHolesSpec)

/-- ITS FALSE NEIGHBOUR: 'it returns false'. Refute it at one input. -/
def shapeHolesWrong : ChangeSpec := { name := "shapeHoles", fn := fun _ => fun
  | [d1, d2] => { results := [.lit (.bool false)], args := [d1, d2] }
  | _ => none }
def ShapeHolesWrongFalsely : Prop := shapeHolesRow.holds Try.pinned (OpenSpec.ofChange shapeHolesWrong)

/-- 'incunablelaw15.ShapeHeads': WHATEVER THE INPUT: true; the input reads as it did. -/
def shapeHeadsSpec : ChangeSpec := { name := "shapeHeads", fn := fun _ => fun
  | [d1, d2] => { results := [.lit (.bool true)], args := [d1, d2] }
  | _ => none }
def shapeHeadsRow : OpenClaim := { program := "ytaflekobfbgedaa", sum := "aec4556168d1061b0cb7b74e74aa56860d68777ddf216814da225327a89e6518", func := "incunable/incunablelaw15.ShapeHeads", spec := "shapeHeads", unfollowed := true, recurses := true, apart := false }
def ShapeHeadsSaid : Prop := shapeHeadsRow.holds Try.pinned (OpenSpec.ofChange shapeHeadsSpec)

/-- ITS FALSE NEIGHBOUR: 'it returns false'. Refute it at one input. -/
def shapeHeadsWrong : ChangeSpec := { name := "shapeHeads", fn := fun _ => fun
  | [d1, d2] => { results := [.lit (.bool false)], args := [d1, d2] }
  | _ => none }
def ShapeHeadsWrongFalsely : Prop := shapeHeadsRow.holds Try.pinned (OpenSpec.ofChange shapeHeadsWrong)

/-- 'incunablelaw15.ShapeComponents': WHATEVER THE INPUT: true; the input reads as it did. -/
def shapeComponentsSpec : ChangeSpec := { name := "shapeComponents", fn := fun _ => fun
  | [d] => { results := [.lit (.bool true)], args := [d] }
  | _ => none }
def shapeComponentsRow : OpenClaim := { program := "ytaflekobfbgedaa", sum := "aec4556168d1061b0cb7b74e74aa56860d68777ddf216814da225327a89e6518", func := "incunable/incunablelaw15.ShapeComponents", spec := "shapeComponents", unfollowed := true, recurses := true, apart := false }
def ShapeComponentsSaid : Prop := shapeComponentsRow.holds Try.pinned (OpenSpec.ofChange shapeComponentsSpec)

/-- ITS FALSE NEIGHBOUR: 'it returns false'. Refute it at one input. -/
def shapeComponentsWrong : ChangeSpec := { name := "shapeComponents", fn := fun _ => fun
  | [d] => { results := [.lit (.bool false)], args := [d] }
  | _ => none }
def ShapeComponentsWrongFalsely : Prop := shapeComponentsRow.holds Try.pinned (OpenSpec.ofChange shapeComponentsWrong)

/-- 'incunablelaw15.ShapeDraws': WHATEVER THE INPUT: true; the input reads as it did. -/
def shapeDrawsSpec : ChangeSpec := { name := "shapeDraws", fn := fun _ => fun
  | [d] => { results := [.lit (.bool true)], args := [d] }
  | _ => none }
def shapeDrawsRow : OpenClaim := { program := "ytaflekobfbgedaa", sum := "aec4556168d1061b0cb7b74e74aa56860d68777ddf216814da225327a89e6518", func := "incunable/incunablelaw15.ShapeDraws", spec := "shapeDraws", unfollowed := true, recurses := true, apart := false }
def ShapeDrawsSaid : Prop := shapeDrawsRow.holds Try.pinned (OpenSpec.ofChange shapeDrawsSpec)

/-- ITS FALSE NEIGHBOUR: 'it returns false'. Refute it at one input. -/
def shapeDrawsWrong : ChangeSpec := { name := "shapeDraws", fn := fun _ => fun
  | [d] => { results := [.lit (.bool false)], args := [d] }
  | _ => none }
def ShapeDrawsWrongFalsely : Prop := shapeDrawsRow.holds Try.pinned (OpenSpec.ofChange shapeDrawsWrong)

/-- 'incunablelaw15.ShapeGroups': WHATEVER THE INPUT: true; the input reads as it did. -/
def shapeGroupsSpec : ChangeSpec := { name := "shapeGroups", fn := fun _ => fun
  | [d1, d2] => { results := [.lit (.bool true)], args := [d1, d2] }
  | _ => none }
def shapeGroupsRow : OpenClaim := { program := "ytaflekobfbgedaa", sum := "aec4556168d1061b0cb7b74e74aa56860d68777ddf216814da225327a89e6518", func := "incunable/incunablelaw15.ShapeGroups", spec := "shapeGroups", unfollowed := true, recurses := true, apart := false }
def ShapeGroupsSaid : Prop := shapeGroupsRow.holds Try.pinned (OpenSpec.ofChange shapeGroupsSpec)

/-- ITS FALSE NEIGHBOUR: 'it returns false'. Refute it at one input. -/
def shapeGroupsWrong : ChangeSpec := { name := "shapeGroups", fn := fun _ => fun
  | [d1, d2] => { results := [.lit (.bool false)], args := [d1, d2] }
  | _ => none }
def ShapeGroupsWrongFalsely : Prop := shapeGroupsRow.holds Try.pinned (OpenSpec.ofChange shapeGroupsWrong)

/-- 'incunablelaw15.ShapePieces': WHATEVER THE INPUT: true; the input reads as it did. -/
def shapePiecesSpec : ChangeSpec := { name := "shapePieces", fn := fun _ => fun
  | [d] => { results := [.lit (.bool true)], args := [d] }
  | _ => none }
def shapePiecesRow : OpenClaim := { program := "ytaflekobfbgedaa", sum := "aec4556168d1061b0cb7b74e74aa56860d68777ddf216814da225327a89e6518", func := "incunable/incunablelaw15.ShapePieces", spec := "shapePieces", unfollowed := true, recurses := true, apart := false }
def ShapePiecesSaid : Prop := shapePiecesRow.holds Try.pinned (OpenSpec.ofChange shapePiecesSpec)

/-- ITS FALSE NEIGHBOUR: 'it returns false'. Refute it at one input. -/
def shapePiecesWrong : ChangeSpec := { name := "shapePieces", fn := fun _ => fun
  | [d] => { results := [.lit (.bool false)], args := [d] }
  | _ => none }
def ShapePiecesWrongFalsely : Prop := shapePiecesRow.holds Try.pinned (OpenSpec.ofChange shapePiecesWrong)

/-- 'incunablelaw15.ShapeLines': WHATEVER THE INPUT: true; the input reads as it did. -/
def shapeLinesSpec : ChangeSpec := { name := "shapeLines", fn := fun _ => fun
  | [d] => { results := [.lit (.bool true)], args := [d] }
  | _ => none }
def shapeLinesRow : OpenClaim := { program := "ytaflekobfbgedaa", sum := "aec4556168d1061b0cb7b74e74aa56860d68777ddf216814da225327a89e6518", func := "incunable/incunablelaw15.ShapeLines", spec := "shapeLines", unfollowed := true, recurses := true, apart := false }
def ShapeLinesSaid : Prop := shapeLinesRow.holds Try.pinned (OpenSpec.ofChange shapeLinesSpec)

/-- ITS FALSE NEIGHBOUR: 'it returns false'. Refute it at one input. -/
def shapeLinesWrong : ChangeSpec := { name := "shapeLines", fn := fun _ => fun
  | [d] => { results := [.lit (.bool false)], args := [d] }
  | _ => none }
def ShapeLinesWrongFalsely : Prop := shapeLinesRow.holds Try.pinned (OpenSpec.ofChange shapeLinesWrong)

/- THE SECOND FORM. 'bulk': how many values and letters a reading holds, each counted each time it is reached (what is shared counts as often as it is met; a slice's spare places count too). A statement '..UptoSaid' is the law's where the arguments, and the package variables that the reading takes, are together of bulk at most 1048576: NARROWER than '..Said'. Prove '..Said' where nothing that the law and all that it calls make is longer than what came in: it says more and counts as full. Else prove '..UptoSaid'. A law counts once. -/
mutual
def uptoBulk {H : Type} : DataW H → Nat
  | .lit (.string bytes) => bytes.length + 1
  | .lit _ => 1
  | .nil => 1
  | .ptr d => uptoBulk d + 1
  | .slice elems spare => uptoBulkAll elems + uptoBulkAll spare + 1
  | .agg parts => uptoBulkAll parts + 1
  | .iface _ d => uptoBulk d + 1
  | .map entries => uptoBulkEntries entries + 1
  | .held _ => 1
def uptoBulkAll {H : Type} : List (DataW H) → Nat
  | [] => 0
  | d :: r => uptoBulk d + uptoBulkAll r
def uptoBulkEntries {H : Type} : List (Lit × DataW H) → Nat
  | [] => 0
  | x :: r => uptoBulkEntry x + uptoBulkEntries r
def uptoBulkEntry {H : Type} : Lit × DataW H → Nat
  | (.string bytes, d) => bytes.length + uptoBulk d + 1
  | (_, d) => uptoBulk d + 1
 end
def uptoSmall : (H : Type) → List (DataW H) → Bool := fun _ ds => decide (uptoBulkAll ds ≤ 1048576)
def OpenSpec.upto (s : _root_.Go.ChangeSpec) : _root_.Go.OpenSpec := { _root_.Go.OpenSpec.ofChange s with cond := some uptoSmall }

/-- 'incunablelaw15.ShapeHoles', WHERE WHAT IT READS IS OF BULK AT MOST 1048576: true; the input reads as it did. -/
def shapeHolesUptoRow : OpenClaim := { program := "ytaflekobfbgedaa", sum := "aec4556168d1061b0cb7b74e74aa56860d68777ddf216814da225327a89e6518", func := "incunable/incunablelaw15.ShapeHoles", spec := "shapeHoles", unfollowed := true, recurses := true, apart := false, narrowed := true }
def ShapeHolesUptoSaid : Prop := shapeHolesUptoRow.holds Try.pinned (OpenSpec.upto shapeHolesSpec)

/-- 'incunablelaw15.ShapeHeads', WHERE WHAT IT READS IS OF BULK AT MOST 1048576: true; the input reads as it did. -/
def shapeHeadsUptoRow : OpenClaim := { program := "ytaflekobfbgedaa", sum := "aec4556168d1061b0cb7b74e74aa56860d68777ddf216814da225327a89e6518", func := "incunable/incunablelaw15.ShapeHeads", spec := "shapeHeads", unfollowed := true, recurses := true, apart := false, narrowed := true }
def ShapeHeadsUptoSaid : Prop := shapeHeadsUptoRow.holds Try.pinned (OpenSpec.upto shapeHeadsSpec)

/-- 'incunablelaw15.ShapeComponents', WHERE WHAT IT READS IS OF BULK AT MOST 1048576: true; the input reads as it did. -/
def shapeComponentsUptoRow : OpenClaim := { program := "ytaflekobfbgedaa", sum := "aec4556168d1061b0cb7b74e74aa56860d68777ddf216814da225327a89e6518", func := "incunable/incunablelaw15.ShapeComponents", spec := "shapeComponents", unfollowed := true, recurses := true, apart := false, narrowed := true }
def ShapeComponentsUptoSaid : Prop := shapeComponentsUptoRow.holds Try.pinned (OpenSpec.upto shapeComponentsSpec)

/-- 'incunablelaw15.ShapeDraws', WHERE WHAT IT READS IS OF BULK AT MOST 1048576: true; the input reads as it did. -/
def shapeDrawsUptoRow : OpenClaim := { program := "ytaflekobfbgedaa", sum := "aec4556168d1061b0cb7b74e74aa56860d68777ddf216814da225327a89e6518", func := "incunable/incunablelaw15.ShapeDraws", spec := "shapeDraws", unfollowed := true, recurses := true, apart := false, narrowed := true }
def ShapeDrawsUptoSaid : Prop := shapeDrawsUptoRow.holds Try.pinned (OpenSpec.upto shapeDrawsSpec)

/-- 'incunablelaw15.ShapeGroups', WHERE WHAT IT READS IS OF BULK AT MOST 1048576: true; the input reads as it did. -/
def shapeGroupsUptoRow : OpenClaim := { program := "ytaflekobfbgedaa", sum := "aec4556168d1061b0cb7b74e74aa56860d68777ddf216814da225327a89e6518", func := "incunable/incunablelaw15.ShapeGroups", spec := "shapeGroups", unfollowed := true, recurses := true, apart := false, narrowed := true }
def ShapeGroupsUptoSaid : Prop := shapeGroupsUptoRow.holds Try.pinned (OpenSpec.upto shapeGroupsSpec)

/-- 'incunablelaw15.ShapePieces', WHERE WHAT IT READS IS OF BULK AT MOST 1048576: true; the input reads as it did. -/
def shapePiecesUptoRow : OpenClaim := { program := "ytaflekobfbgedaa", sum := "aec4556168d1061b0cb7b74e74aa56860d68777ddf216814da225327a89e6518", func := "incunable/incunablelaw15.ShapePieces", spec := "shapePieces", unfollowed := true, recurses := true, apart := false, narrowed := true }
def ShapePiecesUptoSaid : Prop := shapePiecesUptoRow.holds Try.pinned (OpenSpec.upto shapePiecesSpec)

/-- 'incunablelaw15.ShapeLines', WHERE WHAT IT READS IS OF BULK AT MOST 1048576: true; the input reads as it did. -/
def shapeLinesUptoRow : OpenClaim := { program := "ytaflekobfbgedaa", sum := "aec4556168d1061b0cb7b74e74aa56860d68777ddf216814da225327a89e6518", func := "incunable/incunablelaw15.ShapeLines", spec := "shapeLines", unfollowed := true, recurses := true, apart := false, narrowed := true }
def ShapeLinesUptoSaid : Prop := shapeLinesUptoRow.holds Try.pinned (OpenSpec.upto shapeLinesSpec)

end Rows
end Go.Proofs.Ytaflekobfbgedaa
