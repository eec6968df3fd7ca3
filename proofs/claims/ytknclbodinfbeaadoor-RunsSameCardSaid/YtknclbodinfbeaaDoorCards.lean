/-
  DERIVED. GIVEN WITH THE SEED: THE CARDS: each row of YtknclbodinfbeaaDoorRows.lean that lists a variable, with what it lists TIED to the program's text (the seventh form; the later family's looks); each row that meets fmt, with fmt's text TOLD by the authors' own Lean function (tested against real Go, not proved from fmt's source: count such statements apart). THE CARD IS WHAT COUNTS. Prove the row's statement (the work); the ties are given (YtknclbodinfbeaaDoorTie.lean); close each card by the builder's one call (the guide's Derived/Test/ToyasCard.lean, 'card_holds'). Laid BY PROGRAM, IN A SANDBOX (cutbox-door.mjs). By AI agents, Wed Nov 11 2026. No macro, syntax, notation, axiom, sorry.
-/
import Derived.Test.YtknclbodinfbeaaDoorRows
import GoSem.ClaimSeven
namespace Go.Proofs.YtknclbodinfbeaaDoor
namespace Rows

/-- THE TIED CARD OF 'incunablelaw06.RunsRunBits'. -/
def runsRunBitsCard : Claim7 := { stood := { row := runsRunBitsRow, standIns := [], harness := (true, "6f6292575cf3ab41cc2c609fa4a0705450e26b8c8849a203240fafd44a1bd400"), looks := false }, kinds := [], alts := [], laidByText := true, laidKinds := [.data, .data, .data], laidTests := true, laidLooks := .later }
def RunsRunBitsCardSaid : Prop := Claim7.holds Tryd.pinned (.plain (OpenSpec.ofChange runsRunBitsSpec)) runsRunBitsCard

/-- THE TIED CARD OF 'incunablelaw06.RunsModes'. -/
def runsModesCard : Claim7 := { stood := { row := runsModesRow, standIns := [], harness := (true, "6f6292575cf3ab41cc2c609fa4a0705450e26b8c8849a203240fafd44a1bd400"), looks := false }, kinds := [], alts := [], laidByText := true, laidKinds := [.data, .data, .data], laidTests := true, laidLooks := .later }
def RunsModesCardSaid : Prop := Claim7.holds Tryd.pinned (.plain (OpenSpec.ofChange runsModesSpec)) runsModesCard

/-- THE TIED CARD OF 'incunablelaw06.RunsFromRow'. -/
def runsFromRowCard : Claim7 := { stood := { row := runsFromRowRow, standIns := [], harness := (true, "6f6292575cf3ab41cc2c609fa4a0705450e26b8c8849a203240fafd44a1bd400"), looks := false }, kinds := [], alts := [], laidByText := true, laidKinds := [.data, .data, .data], laidTests := true, laidLooks := .later }
def RunsFromRowCardSaid : Prop := Claim7.holds Tryd.pinned (.plain (OpenSpec.ofChange runsFromRowSpec)) runsFromRowCard

/-- THE TIED CARD OF 'incunablelaw06.RunsRow'. -/
def runsRowCard : Claim7 := { stood := { row := runsRowRow, standIns := [], harness := (true, "6f6292575cf3ab41cc2c609fa4a0705450e26b8c8849a203240fafd44a1bd400"), looks := false }, kinds := [], alts := [], laidByText := true, laidKinds := [.data, .data, .data], laidTests := true, laidLooks := .later }
def RunsRowCardSaid : Prop := Claim7.holds Tryd.pinned (.plain (OpenSpec.ofChange runsRowSpec)) runsRowCard

/-- THE TIED CARD OF 'incunablelaw06.RunsCodes'. -/
def runsCodesCard : Claim7 := { stood := { row := runsCodesRow, standIns := [], harness := (true, "6f6292575cf3ab41cc2c609fa4a0705450e26b8c8849a203240fafd44a1bd400"), looks := false }, kinds := [], alts := [], laidByText := true, laidKinds := [.data, .data, .data], laidTests := true, laidLooks := .later }
def RunsCodesCardSaid : Prop := Claim7.holds Tryd.pinned (.plain (OpenSpec.ofChange runsCodesSpec)) runsCodesCard

/-- THE TIED CARD OF 'incunablelaw06.RunsGetOne'. -/
def runsGetOneCard : Claim7 := { stood := { row := runsGetOneRow, standIns := [], harness := (true, "6f6292575cf3ab41cc2c609fa4a0705450e26b8c8849a203240fafd44a1bd400"), looks := false }, kinds := [], alts := [], laidByText := true, laidKinds := [.data, .data, .data], laidTests := true, laidLooks := .later }
def RunsGetOneCardSaid : Prop := Claim7.holds Tryd.pinned (.plain (OpenSpec.ofChange runsGetOneSpec)) runsGetOneCard

/-- THE TIED CARD OF 'incunablelaw06.RunsGetTwo'. -/
def runsGetTwoCard : Claim7 := { stood := { row := runsGetTwoRow, standIns := [], harness := (true, "6f6292575cf3ab41cc2c609fa4a0705450e26b8c8849a203240fafd44a1bd400"), looks := false }, kinds := [], alts := [], laidByText := true, laidKinds := [.data, .data, .data], laidTests := true, laidLooks := .later }
def RunsGetTwoCardSaid : Prop := Claim7.holds Tryd.pinned (.plain (OpenSpec.ofChange runsGetTwoSpec)) runsGetTwoCard

/-- THE TIED CARD OF 'incunablelaw06.RunsAgain'. -/
def runsAgainCard : Claim7 := { stood := { row := runsAgainRow, standIns := [], harness := (true, "6f6292575cf3ab41cc2c609fa4a0705450e26b8c8849a203240fafd44a1bd400"), looks := false }, kinds := [], alts := [], laidByText := true, laidKinds := [.data, .data, .data], laidTests := true, laidLooks := .later }
def RunsAgainCardSaid : Prop := Claim7.holds Tryd.pinned (.plain (OpenSpec.ofChange runsAgainSpec)) runsAgainCard

/-- THE TIED CARD OF 'incunablelaw06.RunsSame'. -/
def runsSameCard : Claim7 := { stood := { row := runsSameRow, standIns := [], harness := (true, "6f6292575cf3ab41cc2c609fa4a0705450e26b8c8849a203240fafd44a1bd400"), looks := false }, kinds := [], alts := [], laidByText := true, laidKinds := [.data, .data, .data], laidTests := true, laidLooks := .later }
def RunsSameCardSaid : Prop := Claim7.holds Tryd.pinned (.plain (OpenSpec.ofChange runsSameSpec)) runsSameCard

/-- THE SECOND FORM's CARD OF 'incunablelaw06.RunsRunBits'. -/
def runsRunBitsUptoCard : Claim7 := { stood := { row := runsRunBitsUptoRow, standIns := [], harness := (true, "6f6292575cf3ab41cc2c609fa4a0705450e26b8c8849a203240fafd44a1bd400"), looks := false }, kinds := [], alts := [], laidByText := true, laidKinds := [.data, .data, .data], laidTests := true, laidLooks := .later }
def RunsRunBitsUptoCardSaid : Prop := Claim7.holds Tryd.pinned (.plain (OpenSpec.upto runsRunBitsSpec)) runsRunBitsUptoCard

/-- THE SECOND FORM's CARD OF 'incunablelaw06.RunsModes'. -/
def runsModesUptoCard : Claim7 := { stood := { row := runsModesUptoRow, standIns := [], harness := (true, "6f6292575cf3ab41cc2c609fa4a0705450e26b8c8849a203240fafd44a1bd400"), looks := false }, kinds := [], alts := [], laidByText := true, laidKinds := [.data, .data, .data], laidTests := true, laidLooks := .later }
def RunsModesUptoCardSaid : Prop := Claim7.holds Tryd.pinned (.plain (OpenSpec.upto runsModesSpec)) runsModesUptoCard

/-- THE SECOND FORM's CARD OF 'incunablelaw06.RunsFromRow'. -/
def runsFromRowUptoCard : Claim7 := { stood := { row := runsFromRowUptoRow, standIns := [], harness := (true, "6f6292575cf3ab41cc2c609fa4a0705450e26b8c8849a203240fafd44a1bd400"), looks := false }, kinds := [], alts := [], laidByText := true, laidKinds := [.data, .data, .data], laidTests := true, laidLooks := .later }
def RunsFromRowUptoCardSaid : Prop := Claim7.holds Tryd.pinned (.plain (OpenSpec.upto runsFromRowSpec)) runsFromRowUptoCard

/-- THE SECOND FORM's CARD OF 'incunablelaw06.RunsRow'. -/
def runsRowUptoCard : Claim7 := { stood := { row := runsRowUptoRow, standIns := [], harness := (true, "6f6292575cf3ab41cc2c609fa4a0705450e26b8c8849a203240fafd44a1bd400"), looks := false }, kinds := [], alts := [], laidByText := true, laidKinds := [.data, .data, .data], laidTests := true, laidLooks := .later }
def RunsRowUptoCardSaid : Prop := Claim7.holds Tryd.pinned (.plain (OpenSpec.upto runsRowSpec)) runsRowUptoCard

/-- THE SECOND FORM's CARD OF 'incunablelaw06.RunsCodes'. -/
def runsCodesUptoCard : Claim7 := { stood := { row := runsCodesUptoRow, standIns := [], harness := (true, "6f6292575cf3ab41cc2c609fa4a0705450e26b8c8849a203240fafd44a1bd400"), looks := false }, kinds := [], alts := [], laidByText := true, laidKinds := [.data, .data, .data], laidTests := true, laidLooks := .later }
def RunsCodesUptoCardSaid : Prop := Claim7.holds Tryd.pinned (.plain (OpenSpec.upto runsCodesSpec)) runsCodesUptoCard

/-- THE SECOND FORM's CARD OF 'incunablelaw06.RunsGetOne'. -/
def runsGetOneUptoCard : Claim7 := { stood := { row := runsGetOneUptoRow, standIns := [], harness := (true, "6f6292575cf3ab41cc2c609fa4a0705450e26b8c8849a203240fafd44a1bd400"), looks := false }, kinds := [], alts := [], laidByText := true, laidKinds := [.data, .data, .data], laidTests := true, laidLooks := .later }
def RunsGetOneUptoCardSaid : Prop := Claim7.holds Tryd.pinned (.plain (OpenSpec.upto runsGetOneSpec)) runsGetOneUptoCard

/-- THE SECOND FORM's CARD OF 'incunablelaw06.RunsGetTwo'. -/
def runsGetTwoUptoCard : Claim7 := { stood := { row := runsGetTwoUptoRow, standIns := [], harness := (true, "6f6292575cf3ab41cc2c609fa4a0705450e26b8c8849a203240fafd44a1bd400"), looks := false }, kinds := [], alts := [], laidByText := true, laidKinds := [.data, .data, .data], laidTests := true, laidLooks := .later }
def RunsGetTwoUptoCardSaid : Prop := Claim7.holds Tryd.pinned (.plain (OpenSpec.upto runsGetTwoSpec)) runsGetTwoUptoCard

/-- THE SECOND FORM's CARD OF 'incunablelaw06.RunsAgain'. -/
def runsAgainUptoCard : Claim7 := { stood := { row := runsAgainUptoRow, standIns := [], harness := (true, "6f6292575cf3ab41cc2c609fa4a0705450e26b8c8849a203240fafd44a1bd400"), looks := false }, kinds := [], alts := [], laidByText := true, laidKinds := [.data, .data, .data], laidTests := true, laidLooks := .later }
def RunsAgainUptoCardSaid : Prop := Claim7.holds Tryd.pinned (.plain (OpenSpec.upto runsAgainSpec)) runsAgainUptoCard

/-- THE SECOND FORM's CARD OF 'incunablelaw06.RunsSame'. -/
def runsSameUptoCard : Claim7 := { stood := { row := runsSameUptoRow, standIns := [], harness := (true, "6f6292575cf3ab41cc2c609fa4a0705450e26b8c8849a203240fafd44a1bd400"), looks := false }, kinds := [], alts := [], laidByText := true, laidKinds := [.data, .data, .data], laidTests := true, laidLooks := .later }
def RunsSameUptoCardSaid : Prop := Claim7.holds Tryd.pinned (.plain (OpenSpec.upto runsSameSpec)) runsSameUptoCard
end Rows
end Go.Proofs.YtknclbodinfbeaaDoor
