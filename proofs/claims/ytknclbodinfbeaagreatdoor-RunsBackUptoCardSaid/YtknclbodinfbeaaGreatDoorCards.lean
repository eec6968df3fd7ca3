/-
  DERIVED. GIVEN WITH THE SEED: THE CARDS: each row of YtknclbodinfbeaaGreatDoorRows.lean that lists a variable, with what it lists TIED to the program's text (the seventh form; the later family's looks); each row that meets fmt, with fmt's text TOLD by the authors' own Lean function (tested against real Go, not proved from fmt's source: count such statements apart). THE CARD IS WHAT COUNTS. Prove the row's statement (the work); the ties are given (YtknclbodinfbeaaGreatDoorTie.lean); close each card by the builder's one call (the guide's Derived/Test/ToyasCard.lean, 'card_holds'). Laid BY PROGRAM, IN A SANDBOX (cutbox-door.mjs). By AI agents, Wed Nov 11 2026. No macro, syntax, notation, axiom, sorry.
-/
import Derived.Test.YtknclbodinfbeaaGreatDoorRows
import GoSem.ClaimSeven
namespace Go.Proofs.YtknclbodinfbeaaGreatDoor
namespace Rows

/-- THE TIED CARD OF 'incunablelaw06.RunsBack'. -/
def runsBackCard : Claim7 := { stood := { row := runsBackRow, standIns := [], harness := (true, "9fa7f69cc6b88ade73dbab99bf1f11bdc1ff52571b1ecbac77a0a97c5743b13f"), looks := false }, kinds := [], alts := [], laidByText := true, laidKinds := [.data, .data, .data], laidTests := true, laidLooks := .later }
def RunsBackCardSaid : Prop := Claim7.holds Tryz.pinned (.plain (OpenSpec.ofChange runsBackSpec)) runsBackCard

/-- THE SECOND FORM's CARD OF 'incunablelaw06.RunsBack'. -/
def runsBackUptoCard : Claim7 := { stood := { row := runsBackUptoRow, standIns := [], harness := (true, "9fa7f69cc6b88ade73dbab99bf1f11bdc1ff52571b1ecbac77a0a97c5743b13f"), looks := false }, kinds := [], alts := [], laidByText := true, laidKinds := [.data, .data, .data], laidTests := true, laidLooks := .later }
def RunsBackUptoCardSaid : Prop := Claim7.holds Tryz.pinned (.plain (OpenSpec.upto runsBackSpec)) runsBackUptoCard
end Rows
end Go.Proofs.YtknclbodinfbeaaGreatDoor
