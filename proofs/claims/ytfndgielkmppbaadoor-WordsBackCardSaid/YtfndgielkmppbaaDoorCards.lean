/-
  DERIVED. GIVEN WITH THE SEED: THE CARDS: each row of YtfndgielkmppbaaDoorRows.lean that lists a variable, with what it lists TIED to the program's text (the seventh form; the later family's looks); each row that meets fmt, with fmt's text TOLD by the authors' own Lean function (tested against real Go, not proved from fmt's source: count such statements apart). THE CARD IS WHAT COUNTS. Prove the row's statement (the work); the ties are given (YtfndgielkmppbaaDoorTie.lean); close each card by the builder's one call (the guide's Derived/Test/ToyasCard.lean, 'card_holds'). Laid BY PROGRAM, IN A SANDBOX (cutbox-door.mjs). By AI agents, Wed Nov 11 2026. No macro, syntax, notation, axiom, sorry.
-/
import Derived.Test.YtfndgielkmppbaaDoorRows
import GoSem.ClaimSeven
namespace Go.Proofs.YtfndgielkmppbaaDoor
namespace Rows

/-- THE TIED CARD OF 'umbralaw43.WordsBack'. -/
def wordsBackCard : Claim7 := { stood := { row := wordsBackRow, standIns := [], harness := (true, "cd0922fb36acffa2f59f882fe7f08287c59af6df286b6ada681a2c95fbd1f3ac"), looks := true }, kinds := [], alts := [], laidByText := true, laidKinds := [.data, .data, .data, .data, .sentinel, .sentinel, .pinned], laidTests := true, laidLooks := .later }
def WordsBackCardSaid : Prop := Claim7.holds Tryd.pinned (.plain (OpenSpec.ofChange wordsBackSpec)) wordsBackCard

/-- THE TIED CARD OF 'umbralaw43.WordsPrints'. -/
def wordsPrintsCard : Claim7 := { stood := { row := wordsPrintsRow, standIns := [], harness := (true, "cd0922fb36acffa2f59f882fe7f08287c59af6df286b6ada681a2c95fbd1f3ac"), looks := true }, kinds := [], alts := [], laidByText := true, laidKinds := [.data, .data, .data, .data, .sentinel, .sentinel, .pinned], laidTests := true, laidLooks := .later }
def WordsPrintsCardSaid : Prop := Claim7.holds Tryd.pinned (.plain (OpenSpec.ofChange wordsPrintsSpec)) wordsPrintsCard

/-- THE SECOND FORM's CARD OF 'umbralaw43.WordsBack'. -/
def wordsBackUptoCard : Claim7 := { stood := { row := wordsBackUptoRow, standIns := [], harness := (true, "cd0922fb36acffa2f59f882fe7f08287c59af6df286b6ada681a2c95fbd1f3ac"), looks := true }, kinds := [], alts := [], laidByText := true, laidKinds := [.data, .data, .data, .data, .sentinel, .sentinel, .pinned], laidTests := true, laidLooks := .later }
def WordsBackUptoCardSaid : Prop := Claim7.holds Tryd.pinned (.plain (OpenSpec.upto wordsBackSpec)) wordsBackUptoCard

/-- THE SECOND FORM's CARD OF 'umbralaw43.WordsPrints'. -/
def wordsPrintsUptoCard : Claim7 := { stood := { row := wordsPrintsUptoRow, standIns := [], harness := (true, "cd0922fb36acffa2f59f882fe7f08287c59af6df286b6ada681a2c95fbd1f3ac"), looks := true }, kinds := [], alts := [], laidByText := true, laidKinds := [.data, .data, .data, .data, .sentinel, .sentinel, .pinned], laidTests := true, laidLooks := .later }
def WordsPrintsUptoCardSaid : Prop := Claim7.holds Tryd.pinned (.plain (OpenSpec.upto wordsPrintsSpec)) wordsPrintsUptoCard
end Rows
end Go.Proofs.YtfndgielkmppbaaDoor
