/-
  DERIVED. GIVEN WITH THE SEED: THE CARDS: each row of YtbfieohdmihfpaaGreatDoorRows.lean that lists a variable, with what it lists TIED to the program's text (the seventh form; the later family's looks); each row that meets fmt, with fmt's text TOLD by the authors' own Lean function (tested against real Go, not proved from fmt's source: count such statements apart). THE CARD IS WHAT COUNTS. Prove the row's statement (the work); the ties are given (YtbfieohdmihfpaaGreatDoorTie.lean); close each card by the builder's one call (the guide's Derived/Test/ToyasCard.lean, 'card_holds'). Laid BY PROGRAM, IN A SANDBOX (cutbox-door.mjs). By AI agents, Wed Nov 11 2026. No macro, syntax, notation, axiom, sorry.
-/
import Derived.Test.YtbfieohdmihfpaaGreatDoorRows
import GoSem.ClaimSeven
namespace Go.Proofs.YtbfieohdmihfpaaGreatDoor
namespace Rows

/-- THE TIED CARD OF 'umbralaw44.VaultInner'. -/
def vaultInnerCard : Claim7 := { stood := { row := vaultInnerRow, standIns := [], harness := (true, "b4ee786c0e45c916eecab0c135424b611cddbb4864d46179ffb3de1f0972fa72"), looks := true }, kinds := [], alts := [], laidByText := true, laidKinds := [.pinned, .data, .sentinel, .sentinel, .data, .data, .data], laidTests := true, laidLooks := .later }
def VaultInnerCardSaid : Prop := Claim7.holds Tryz.pinned (.plain (OpenSpec.ofChange vaultInnerSpec)) vaultInnerCard

/-- THE SECOND FORM's CARD OF 'umbralaw44.VaultInner'. -/
def vaultInnerUptoCard : Claim7 := { stood := { row := vaultInnerUptoRow, standIns := [], harness := (true, "b4ee786c0e45c916eecab0c135424b611cddbb4864d46179ffb3de1f0972fa72"), looks := true }, kinds := [], alts := [], laidByText := true, laidKinds := [.pinned, .data, .sentinel, .sentinel, .data, .data, .data], laidTests := true, laidLooks := .later }
def VaultInnerUptoCardSaid : Prop := Claim7.holds Tryz.pinned (.plain (OpenSpec.upto vaultInnerSpec)) vaultInnerUptoCard
end Rows
end Go.Proofs.YtbfieohdmihfpaaGreatDoor
