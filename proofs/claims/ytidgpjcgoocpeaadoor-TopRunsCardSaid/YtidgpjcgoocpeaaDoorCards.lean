/-
  DERIVED. GIVEN WITH THE SEED: THE CARDS: each row of YtidgpjcgoocpeaaDoorRows.lean that lists a variable, with what it lists TIED to the program's text (the seventh form; the later family's looks); each row that meets fmt, with fmt's text TOLD by the authors' own Lean function (tested against real Go, not proved from fmt's source: count such statements apart). THE CARD IS WHAT COUNTS. Prove the row's statement (the work); the ties are given (YtidgpjcgoocpeaaDoorTie.lean); close each card by the builder's one call (the guide's Derived/Test/ToyasCard.lean, 'card_holds'). Laid BY PROGRAM, IN A SANDBOX (cutbox-door.mjs). By AI agents, Wed Nov 11 2026. No macro, syntax, notation, axiom, sorry.
-/
import Derived.Test.YtidgpjcgoocpeaaDoorRows
import GoSem.ClaimSeven
namespace Go.Proofs.YtidgpjcgoocpeaaDoor
namespace Rows

/-- THE TIED CARD OF 'incunabletop.TopRuns'. -/
def topRunsCard : Claim7 := { stood := { row := topRunsRow, standIns := [], harness := (true, "dd9e0494cbcccd6306dcdb77dbf8b6ff00c7ae79655753c7ba823ca768471e57"), looks := false }, kinds := [], alts := [], laidByText := true, laidKinds := [.data, .data, .data], laidTests := true, laidLooks := .later }
def TopRunsCardSaid : Prop := Claim7.holds Tryd.pinned (.plain (OpenSpec.ofChange topRunsSpec)) topRunsCard

/-- THE SECOND FORM's CARD OF 'incunabletop.TopRuns'. -/
def topRunsUptoCard : Claim7 := { stood := { row := topRunsUptoRow, standIns := [], harness := (true, "dd9e0494cbcccd6306dcdb77dbf8b6ff00c7ae79655753c7ba823ca768471e57"), looks := false }, kinds := [], alts := [], laidByText := true, laidKinds := [.data, .data, .data], laidTests := true, laidLooks := .later }
def TopRunsUptoCardSaid : Prop := Claim7.holds Tryd.pinned (.plain (OpenSpec.upto topRunsSpec)) topRunsUptoCard
end Rows
end Go.Proofs.YtidgpjcgoocpeaaDoor
