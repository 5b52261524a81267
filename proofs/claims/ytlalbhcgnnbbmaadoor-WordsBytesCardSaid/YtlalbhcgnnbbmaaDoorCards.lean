/-
  DERIVED. GIVEN WITH THE SEED: THE CARDS: each row of YtlalbhcgnnbbmaaDoorRows.lean that lists a variable, with what it lists TIED to the program's text (the seventh form; the later family's looks); each row that meets fmt, with fmt's text TOLD by the authors' own Lean function (tested against real Go, not proved from fmt's source: count such statements apart). THE CARD IS WHAT COUNTS. Prove the row's statement (the work); the ties are given (YtlalbhcgnnbbmaaDoorTie.lean); close each card by the builder's one call (the guide's Derived/Test/ToyasCard.lean, 'card_holds'). Laid BY PROGRAM, IN A SANDBOX (cutbox-door.mjs). By AI agents, Wed Nov 11 2026. No macro, syntax, notation, axiom, sorry.
-/
import Derived.Test.YtlalbhcgnnbbmaaDoorRows
import GoSem.ClaimSeven
namespace Go.Proofs.YtlalbhcgnnbbmaaDoor
namespace Rows

/-- THE TIED CARD OF 'umbralaw43.WordsLines'. -/
def wordsLinesCard : Claim7 := { stood := { row := wordsLinesRow, standIns := [], harness := (true, "f155d470a9d8266053d286469a7f62fb011a8600da59da78e46f439e497acc3d"), looks := true }, kinds := [], alts := [], laidByText := true, laidKinds := [.data, .data, .data, .data, .sentinel, .sentinel, .pinned], laidTests := true, laidLooks := .later }
def WordsLinesCardSaid : Prop := Claim7.holds Tryd.pinned (.plain (OpenSpec.ofChange wordsLinesSpec)) wordsLinesCard

/-- THE TIED CARD OF 'umbralaw43.WordsHex'. -/
def wordsHexCard : Claim7 := { stood := { row := wordsHexRow, standIns := [], harness := (true, "f155d470a9d8266053d286469a7f62fb011a8600da59da78e46f439e497acc3d"), looks := true }, kinds := [], alts := [], laidByText := true, laidKinds := [.data, .data, .data, .data, .sentinel, .sentinel, .pinned], laidTests := true, laidLooks := .later }
def WordsHexCardSaid : Prop := Claim7.holds Tryd.pinned (.plain (OpenSpec.ofChange wordsHexSpec)) wordsHexCard

/-- THE TIED CARD OF 'umbralaw43.WordsBytes'. -/
def wordsBytesCard : Claim7 := { stood := { row := wordsBytesRow, standIns := [], harness := (true, "f155d470a9d8266053d286469a7f62fb011a8600da59da78e46f439e497acc3d"), looks := true }, kinds := [], alts := [], laidByText := true, laidKinds := [.data, .data, .data, .data, .sentinel, .sentinel, .pinned], laidTests := true, laidLooks := .later }
def WordsBytesCardSaid : Prop := Claim7.holds Tryd.pinned (.plain (OpenSpec.ofChange wordsBytesSpec)) wordsBytesCard

/-- THE TIED CARD OF 'umbralaw43.WordsBack'. -/
def wordsBackCard : Claim7 := { stood := { row := wordsBackRow, standIns := [], harness := (true, "f155d470a9d8266053d286469a7f62fb011a8600da59da78e46f439e497acc3d"), looks := true }, kinds := [], alts := [], laidByText := true, laidKinds := [.data, .data, .data, .data, .sentinel, .sentinel, .pinned], laidTests := true, laidLooks := .later }
def WordsBackCardSaid : Prop := Claim7.holds Tryd.pinned (.plain (OpenSpec.ofChange wordsBackSpec)) wordsBackCard

/-- THE TIED CARD OF 'umbralaw43.WordsPrints'. -/
def wordsPrintsCard : Claim7 := { stood := { row := wordsPrintsRow, standIns := [], harness := (true, "f155d470a9d8266053d286469a7f62fb011a8600da59da78e46f439e497acc3d"), looks := true }, kinds := [], alts := [], laidByText := true, laidKinds := [.data, .data, .data, .data, .sentinel, .sentinel, .pinned], laidTests := true, laidLooks := .later }
def WordsPrintsCardSaid : Prop := Claim7.holds Tryd.pinned (.plain (OpenSpec.ofChange wordsPrintsSpec)) wordsPrintsCard

/-- THE SECOND FORM's CARD OF 'umbralaw43.WordsLines'. -/
def wordsLinesUptoCard : Claim7 := { stood := { row := wordsLinesUptoRow, standIns := [], harness := (true, "f155d470a9d8266053d286469a7f62fb011a8600da59da78e46f439e497acc3d"), looks := true }, kinds := [], alts := [], laidByText := true, laidKinds := [.data, .data, .data, .data, .sentinel, .sentinel, .pinned], laidTests := true, laidLooks := .later }
def WordsLinesUptoCardSaid : Prop := Claim7.holds Tryd.pinned (.plain (OpenSpec.upto wordsLinesSpec)) wordsLinesUptoCard

/-- THE SECOND FORM's CARD OF 'umbralaw43.WordsHex'. -/
def wordsHexUptoCard : Claim7 := { stood := { row := wordsHexUptoRow, standIns := [], harness := (true, "f155d470a9d8266053d286469a7f62fb011a8600da59da78e46f439e497acc3d"), looks := true }, kinds := [], alts := [], laidByText := true, laidKinds := [.data, .data, .data, .data, .sentinel, .sentinel, .pinned], laidTests := true, laidLooks := .later }
def WordsHexUptoCardSaid : Prop := Claim7.holds Tryd.pinned (.plain (OpenSpec.upto wordsHexSpec)) wordsHexUptoCard

/-- THE SECOND FORM's CARD OF 'umbralaw43.WordsBytes'. -/
def wordsBytesUptoCard : Claim7 := { stood := { row := wordsBytesUptoRow, standIns := [], harness := (true, "f155d470a9d8266053d286469a7f62fb011a8600da59da78e46f439e497acc3d"), looks := true }, kinds := [], alts := [], laidByText := true, laidKinds := [.data, .data, .data, .data, .sentinel, .sentinel, .pinned], laidTests := true, laidLooks := .later }
def WordsBytesUptoCardSaid : Prop := Claim7.holds Tryd.pinned (.plain (OpenSpec.upto wordsBytesSpec)) wordsBytesUptoCard

/-- THE SECOND FORM's CARD OF 'umbralaw43.WordsBack'. -/
def wordsBackUptoCard : Claim7 := { stood := { row := wordsBackUptoRow, standIns := [], harness := (true, "f155d470a9d8266053d286469a7f62fb011a8600da59da78e46f439e497acc3d"), looks := true }, kinds := [], alts := [], laidByText := true, laidKinds := [.data, .data, .data, .data, .sentinel, .sentinel, .pinned], laidTests := true, laidLooks := .later }
def WordsBackUptoCardSaid : Prop := Claim7.holds Tryd.pinned (.plain (OpenSpec.upto wordsBackSpec)) wordsBackUptoCard

/-- THE SECOND FORM's CARD OF 'umbralaw43.WordsPrints'. -/
def wordsPrintsUptoCard : Claim7 := { stood := { row := wordsPrintsUptoRow, standIns := [], harness := (true, "f155d470a9d8266053d286469a7f62fb011a8600da59da78e46f439e497acc3d"), looks := true }, kinds := [], alts := [], laidByText := true, laidKinds := [.data, .data, .data, .data, .sentinel, .sentinel, .pinned], laidTests := true, laidLooks := .later }
def WordsPrintsUptoCardSaid : Prop := Claim7.holds Tryd.pinned (.plain (OpenSpec.upto wordsPrintsSpec)) wordsPrintsUptoCard
end Rows
end Go.Proofs.YtlalbhcgnnbbmaaDoor
