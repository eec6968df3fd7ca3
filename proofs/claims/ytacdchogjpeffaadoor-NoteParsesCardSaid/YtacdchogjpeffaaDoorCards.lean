/-
  DERIVED. GIVEN WITH THE SEED: THE CARDS: each row of YtacdchogjpeffaaDoorRows.lean that lists a variable, with what it lists TIED to the program's text (the seventh form; the later family's looks); each row that meets fmt, with fmt's text TOLD by the authors' own Lean function (tested against real Go, not proved from fmt's source: count such statements apart). THE CARD IS WHAT COUNTS. Prove the row's statement (the work); the ties are given (YtacdchogjpeffaaDoorTie.lean); close each card by the builder's one call (the guide's Derived/Test/ToyasCard.lean, 'card_holds'). Laid BY PROGRAM, IN A SANDBOX (cutbox-door.mjs). By AI agents, Wed Nov 11 2026. No macro, syntax, notation, axiom, sorry.
-/
import Derived.Test.YtacdchogjpeffaaDoorRows
import GoSem.ClaimSeven
namespace Go.Proofs.YtacdchogjpeffaaDoor
namespace Rows

/-- THE TIED CARD OF 'incunablelaw25.NoteFlat'. -/
def noteFlatCard : Claim7 := { stood := { row := noteFlatRow, standIns := [], harness := (true, "2ba8ec605a5aea040fc9f751c8278fc8f0d9194eb8854a3b7ac96ef639568788"), looks := true }, kinds := [], alts := [], laidByText := true, laidKinds := [.data, .data, .data, .data, .pinned], laidTests := true, laidLooks := .later }
def NoteFlatCardSaid : Prop := Claim7.holds Tryd.pinned (.plain (OpenSpec.ofChange noteFlatSpec)) noteFlatCard

/-- THE TIED CARD OF 'incunablelaw25.NoteAreas'. -/
def noteAreasCard : Claim7 := { stood := { row := noteAreasRow, standIns := [], harness := (true, "2ba8ec605a5aea040fc9f751c8278fc8f0d9194eb8854a3b7ac96ef639568788"), looks := true }, kinds := [], alts := [], laidByText := true, laidKinds := [.data, .data, .data, .data, .pinned], laidTests := true, laidLooks := .later }
def NoteAreasCardSaid : Prop := Claim7.holds Tryd.pinned (.plain (OpenSpec.ofChange noteAreasSpec)) noteAreasCard

/-- THE TIED CARD OF 'incunablelaw25.NoteHits'. -/
def noteHitsCard : Claim7 := { stood := { row := noteHitsRow, standIns := [], harness := (true, "2ba8ec605a5aea040fc9f751c8278fc8f0d9194eb8854a3b7ac96ef639568788"), looks := true }, kinds := [], alts := [], laidByText := true, laidKinds := [.data, .data, .data, .data, .pinned], laidTests := true, laidLooks := .later }
def NoteHitsCardSaid : Prop := Claim7.holds Tryd.pinned (.plain (OpenSpec.ofChange noteHitsSpec)) noteHitsCard

/-- THE TIED CARD OF 'incunablelaw25.NoteOutlines'. -/
def noteOutlinesCard : Claim7 := { stood := { row := noteOutlinesRow, standIns := [], harness := (true, "2ba8ec605a5aea040fc9f751c8278fc8f0d9194eb8854a3b7ac96ef639568788"), looks := true }, kinds := [], alts := [], laidByText := true, laidKinds := [.data, .data, .data, .data, .pinned], laidTests := true, laidLooks := .later }
def NoteOutlinesCardSaid : Prop := Claim7.holds Tryd.pinned (.plain (OpenSpec.ofChange noteOutlinesSpec)) noteOutlinesCard

/-- THE TIED CARD OF 'incunablelaw25.NoteGets'. -/
def noteGetsCard : Claim7 := { stood := { row := noteGetsRow, standIns := [], harness := (true, "2ba8ec605a5aea040fc9f751c8278fc8f0d9194eb8854a3b7ac96ef639568788"), looks := true }, kinds := [], alts := [], laidByText := true, laidKinds := [.data, .data, .data, .data, .pinned], laidTests := true, laidLooks := .later }
def NoteGetsCardSaid : Prop := Claim7.holds Tryd.pinned (.plain (OpenSpec.ofChange noteGetsSpec)) noteGetsCard

/-- THE TIED CARD OF 'incunablelaw25.NoteFormats'. -/
def noteFormatsCard : Claim7 := { stood := { row := noteFormatsRow, standIns := [], harness := (true, "2ba8ec605a5aea040fc9f751c8278fc8f0d9194eb8854a3b7ac96ef639568788"), looks := true }, kinds := [], alts := [], laidByText := true, laidKinds := [.data, .data, .data, .data, .sentinel, .sentinel, .pinned], laidTests := true, laidLooks := .later }
def NoteFormatsCardSaid : Prop := Claim7.holds Tryd.pinned (.plain (OpenSpec.ofChange noteFormatsSpec)) noteFormatsCard

/-- THE TIED CARD OF 'incunablelaw25.NoteParses'. -/
def noteParsesCard : Claim7 := { stood := { row := noteParsesRow, standIns := [], harness := (true, "2ba8ec605a5aea040fc9f751c8278fc8f0d9194eb8854a3b7ac96ef639568788"), looks := true }, kinds := [], alts := [], laidByText := true, laidKinds := [.data, .data, .data, .data, .sentinel, .sentinel, .pinned], laidTests := true, laidLooks := .later }
def NoteParsesCardSaid : Prop := Claim7.holds Tryd.pinned (.plain (OpenSpec.ofChange noteParsesSpec)) noteParsesCard

/-- THE SECOND FORM's CARD OF 'incunablelaw25.NoteFlat'. -/
def noteFlatUptoCard : Claim7 := { stood := { row := noteFlatUptoRow, standIns := [], harness := (true, "2ba8ec605a5aea040fc9f751c8278fc8f0d9194eb8854a3b7ac96ef639568788"), looks := true }, kinds := [], alts := [], laidByText := true, laidKinds := [.data, .data, .data, .data, .pinned], laidTests := true, laidLooks := .later }
def NoteFlatUptoCardSaid : Prop := Claim7.holds Tryd.pinned (.plain (OpenSpec.upto noteFlatSpec)) noteFlatUptoCard

/-- THE SECOND FORM's CARD OF 'incunablelaw25.NoteAreas'. -/
def noteAreasUptoCard : Claim7 := { stood := { row := noteAreasUptoRow, standIns := [], harness := (true, "2ba8ec605a5aea040fc9f751c8278fc8f0d9194eb8854a3b7ac96ef639568788"), looks := true }, kinds := [], alts := [], laidByText := true, laidKinds := [.data, .data, .data, .data, .pinned], laidTests := true, laidLooks := .later }
def NoteAreasUptoCardSaid : Prop := Claim7.holds Tryd.pinned (.plain (OpenSpec.upto noteAreasSpec)) noteAreasUptoCard

/-- THE SECOND FORM's CARD OF 'incunablelaw25.NoteHits'. -/
def noteHitsUptoCard : Claim7 := { stood := { row := noteHitsUptoRow, standIns := [], harness := (true, "2ba8ec605a5aea040fc9f751c8278fc8f0d9194eb8854a3b7ac96ef639568788"), looks := true }, kinds := [], alts := [], laidByText := true, laidKinds := [.data, .data, .data, .data, .pinned], laidTests := true, laidLooks := .later }
def NoteHitsUptoCardSaid : Prop := Claim7.holds Tryd.pinned (.plain (OpenSpec.upto noteHitsSpec)) noteHitsUptoCard

/-- THE SECOND FORM's CARD OF 'incunablelaw25.NoteOutlines'. -/
def noteOutlinesUptoCard : Claim7 := { stood := { row := noteOutlinesUptoRow, standIns := [], harness := (true, "2ba8ec605a5aea040fc9f751c8278fc8f0d9194eb8854a3b7ac96ef639568788"), looks := true }, kinds := [], alts := [], laidByText := true, laidKinds := [.data, .data, .data, .data, .pinned], laidTests := true, laidLooks := .later }
def NoteOutlinesUptoCardSaid : Prop := Claim7.holds Tryd.pinned (.plain (OpenSpec.upto noteOutlinesSpec)) noteOutlinesUptoCard

/-- THE SECOND FORM's CARD OF 'incunablelaw25.NoteGets'. -/
def noteGetsUptoCard : Claim7 := { stood := { row := noteGetsUptoRow, standIns := [], harness := (true, "2ba8ec605a5aea040fc9f751c8278fc8f0d9194eb8854a3b7ac96ef639568788"), looks := true }, kinds := [], alts := [], laidByText := true, laidKinds := [.data, .data, .data, .data, .pinned], laidTests := true, laidLooks := .later }
def NoteGetsUptoCardSaid : Prop := Claim7.holds Tryd.pinned (.plain (OpenSpec.upto noteGetsSpec)) noteGetsUptoCard

/-- THE SECOND FORM's CARD OF 'incunablelaw25.NoteFormats'. -/
def noteFormatsUptoCard : Claim7 := { stood := { row := noteFormatsUptoRow, standIns := [], harness := (true, "2ba8ec605a5aea040fc9f751c8278fc8f0d9194eb8854a3b7ac96ef639568788"), looks := true }, kinds := [], alts := [], laidByText := true, laidKinds := [.data, .data, .data, .data, .sentinel, .sentinel, .pinned], laidTests := true, laidLooks := .later }
def NoteFormatsUptoCardSaid : Prop := Claim7.holds Tryd.pinned (.plain (OpenSpec.upto noteFormatsSpec)) noteFormatsUptoCard

/-- THE SECOND FORM's CARD OF 'incunablelaw25.NoteParses'. -/
def noteParsesUptoCard : Claim7 := { stood := { row := noteParsesUptoRow, standIns := [], harness := (true, "2ba8ec605a5aea040fc9f751c8278fc8f0d9194eb8854a3b7ac96ef639568788"), looks := true }, kinds := [], alts := [], laidByText := true, laidKinds := [.data, .data, .data, .data, .sentinel, .sentinel, .pinned], laidTests := true, laidLooks := .later }
def NoteParsesUptoCardSaid : Prop := Claim7.holds Tryd.pinned (.plain (OpenSpec.upto noteParsesSpec)) noteParsesUptoCard
end Rows
end Go.Proofs.YtacdchogjpeffaaDoor
