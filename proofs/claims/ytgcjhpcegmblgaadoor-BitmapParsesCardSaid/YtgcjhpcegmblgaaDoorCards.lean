/-
  DERIVED. GIVEN WITH THE SEED: THE CARDS: each row of YtgcjhpcegmblgaaDoorRows.lean that lists a variable, with what it lists TIED to the program's text (the seventh form; the later family's looks); each row that meets fmt, with fmt's text TOLD by the authors' own Lean function (tested against real Go, not proved from fmt's source: count such statements apart). THE CARD IS WHAT COUNTS. Prove the row's statement (the work); the ties are given (YtgcjhpcegmblgaaDoorTie.lean); close each card by the builder's one call (the guide's Derived/Test/ToyasCard.lean, 'card_holds'). Laid BY PROGRAM, IN A SANDBOX (cutbox-door.mjs). By AI agents, Wed Nov 11 2026. No macro, syntax, notation, axiom, sorry.
-/
import Derived.Test.YtgcjhpcegmblgaaDoorRows
import GoSem.ClaimSeven
namespace Go.Proofs.YtgcjhpcegmblgaaDoor
namespace Rows

/-- THE TIED CARD OF 'incunablelaw05.BitmapFormats'. -/
def bitmapFormatsCard : Claim7 := { stood := { row := bitmapFormatsRow, standIns := [], harness := (true, "5afa8460485c25a65e6961eea58c0a6de51af4a4a1d17a08e8f194fe4acda64d"), looks := false }, kinds := [], alts := [], laidByText := true, laidKinds := [.data, .pinned], laidTests := true, laidLooks := .later }
def BitmapFormatsCardSaid : Prop := Claim7.holds Tryd.pinned (.plain (OpenSpec.ofChange bitmapFormatsSpec)) bitmapFormatsCard

/-- THE TIED CARD OF 'incunablelaw05.BitmapParses'. -/
def bitmapParsesCard : Claim7 := { stood := { row := bitmapParsesRow, standIns := [], harness := (true, "5afa8460485c25a65e6961eea58c0a6de51af4a4a1d17a08e8f194fe4acda64d"), looks := false }, kinds := [], alts := [], laidByText := true, laidKinds := [.data, .pinned], laidTests := true, laidLooks := .later }
def BitmapParsesCardSaid : Prop := Claim7.holds Tryd.pinned (.plain (OpenSpec.ofChange bitmapParsesSpec)) bitmapParsesCard

/-- THE SECOND FORM's CARD OF 'incunablelaw05.BitmapFormats'. -/
def bitmapFormatsUptoCard : Claim7 := { stood := { row := bitmapFormatsUptoRow, standIns := [], harness := (true, "5afa8460485c25a65e6961eea58c0a6de51af4a4a1d17a08e8f194fe4acda64d"), looks := false }, kinds := [], alts := [], laidByText := true, laidKinds := [.data, .pinned], laidTests := true, laidLooks := .later }
def BitmapFormatsUptoCardSaid : Prop := Claim7.holds Tryd.pinned (.plain (OpenSpec.upto bitmapFormatsSpec)) bitmapFormatsUptoCard

/-- THE SECOND FORM's CARD OF 'incunablelaw05.BitmapParses'. -/
def bitmapParsesUptoCard : Claim7 := { stood := { row := bitmapParsesUptoRow, standIns := [], harness := (true, "5afa8460485c25a65e6961eea58c0a6de51af4a4a1d17a08e8f194fe4acda64d"), looks := false }, kinds := [], alts := [], laidByText := true, laidKinds := [.data, .pinned], laidTests := true, laidLooks := .later }
def BitmapParsesUptoCardSaid : Prop := Claim7.holds Tryd.pinned (.plain (OpenSpec.upto bitmapParsesSpec)) bitmapParsesUptoCard
end Rows
end Go.Proofs.YtgcjhpcegmblgaaDoor
