/-
  DERIVED. GIVEN WITH THE SEED: THE CARDS: each row of YtkkanlcjjpoklaaGreatDoorRows.lean that lists a variable, with what it lists TIED to the program's text (the seventh form; the later family's looks); each row that meets fmt, with fmt's text TOLD by the authors' own Lean function (tested against real Go, not proved from fmt's source: count such statements apart). THE CARD IS WHAT COUNTS. Prove the row's statement (the work); the ties are given (YtkkanlcjjpoklaaGreatDoorTie.lean); close each card by the builder's one call (the guide's Derived/Test/ToyasCard.lean, 'card_holds'). Laid BY PROGRAM, IN A SANDBOX (cutbox-door.mjs). By AI agents, Wed Nov 11 2026. No macro, syntax, notation, axiom, sorry.
-/
import Derived.Test.YtkkanlcjjpoklaaGreatDoorRows
import GoSem.ClaimSeven
namespace Go.Proofs.YtkkanlcjjpoklaaGreatDoor
namespace Rows

/-- THE TIED CARD OF 'bodkinlaw28.StateRows'. -/
def stateRowsCard : Claim7 := { stood := { row := stateRowsRow, standIns := [], harness := (true, "38f1c5b772000730f811cc55395145d5b5ed6c6db77504d5e394fd30e1cb5661"), looks := true }, kinds := [], alts := [], laidByText := true, laidKinds := [.data, .data, .data], laidTests := true, laidLooks := .later }
def StateRowsCardSaid : Prop := Claim7.holds Tryz.pinned (.plain (OpenSpec.ofChange stateRowsSpec)) stateRowsCard

/-- THE TIED CARD OF 'bodkinlaw28.StateLines'. -/
def stateLinesCard : Claim7 := { stood := { row := stateLinesRow, standIns := [], harness := (true, "38f1c5b772000730f811cc55395145d5b5ed6c6db77504d5e394fd30e1cb5661"), looks := true }, kinds := [], alts := [], laidByText := true, laidKinds := [.data, .data, .data], laidTests := true, laidLooks := .later }
def StateLinesCardSaid : Prop := Claim7.holds Tryz.pinned (.plain (OpenSpec.ofChange stateLinesSpec)) stateLinesCard

/-- THE TIED CARD OF 'bodkinlaw28.StateParts'. -/
def statePartsCard : Claim7 := { stood := { row := statePartsRow, standIns := [], harness := (true, "38f1c5b772000730f811cc55395145d5b5ed6c6db77504d5e394fd30e1cb5661"), looks := true }, kinds := [], alts := [], laidByText := true, laidKinds := [.data, .data, .data], laidTests := true, laidLooks := .later }
def StatePartsCardSaid : Prop := Claim7.holds Tryz.pinned (.plain (OpenSpec.ofChange statePartsSpec)) statePartsCard

/-- THE TIED CARD OF 'bodkinlaw28.StateNew'. -/
def stateNewCard : Claim7 := { stood := { row := stateNewRow, standIns := [], harness := (true, "38f1c5b772000730f811cc55395145d5b5ed6c6db77504d5e394fd30e1cb5661"), looks := true }, kinds := [], alts := [], laidByText := true, laidKinds := [.data, .data, .data], laidTests := true, laidLooks := .later }
def StateNewCardSaid : Prop := Claim7.holds Tryz.pinned (.plain (OpenSpec.ofChange stateNewSpec)) stateNewCard

/-- THE TIED CARD OF 'bodkinlaw28.StateWith'. -/
def stateWithCard : Claim7 := { stood := { row := stateWithRow, standIns := [], harness := (true, "38f1c5b772000730f811cc55395145d5b5ed6c6db77504d5e394fd30e1cb5661"), looks := true }, kinds := [], alts := [], laidByText := true, laidKinds := [.data, .data, .data], laidTests := true, laidLooks := .later }
def StateWithCardSaid : Prop := Claim7.holds Tryz.pinned (.plain (OpenSpec.ofChange stateWithSpec)) stateWithCard

/-- THE TIED CARD OF 'bodkinlaw28.StateShown'. -/
def stateShownCard : Claim7 := { stood := { row := stateShownRow, standIns := [], harness := (true, "38f1c5b772000730f811cc55395145d5b5ed6c6db77504d5e394fd30e1cb5661"), looks := true }, kinds := [], alts := [], laidByText := true, laidKinds := [.data, .data, .data], laidTests := true, laidLooks := .later }
def StateShownCardSaid : Prop := Claim7.holds Tryz.pinned (.plain (OpenSpec.ofChange stateShownSpec)) stateShownCard

/-- THE SECOND FORM's CARD OF 'bodkinlaw28.StateRows'. -/
def stateRowsUptoCard : Claim7 := { stood := { row := stateRowsUptoRow, standIns := [], harness := (true, "38f1c5b772000730f811cc55395145d5b5ed6c6db77504d5e394fd30e1cb5661"), looks := true }, kinds := [], alts := [], laidByText := true, laidKinds := [.data, .data, .data], laidTests := true, laidLooks := .later }
def StateRowsUptoCardSaid : Prop := Claim7.holds Tryz.pinned (.plain (OpenSpec.upto stateRowsSpec)) stateRowsUptoCard

/-- THE SECOND FORM's CARD OF 'bodkinlaw28.StateLines'. -/
def stateLinesUptoCard : Claim7 := { stood := { row := stateLinesUptoRow, standIns := [], harness := (true, "38f1c5b772000730f811cc55395145d5b5ed6c6db77504d5e394fd30e1cb5661"), looks := true }, kinds := [], alts := [], laidByText := true, laidKinds := [.data, .data, .data], laidTests := true, laidLooks := .later }
def StateLinesUptoCardSaid : Prop := Claim7.holds Tryz.pinned (.plain (OpenSpec.upto stateLinesSpec)) stateLinesUptoCard

/-- THE SECOND FORM's CARD OF 'bodkinlaw28.StateParts'. -/
def statePartsUptoCard : Claim7 := { stood := { row := statePartsUptoRow, standIns := [], harness := (true, "38f1c5b772000730f811cc55395145d5b5ed6c6db77504d5e394fd30e1cb5661"), looks := true }, kinds := [], alts := [], laidByText := true, laidKinds := [.data, .data, .data], laidTests := true, laidLooks := .later }
def StatePartsUptoCardSaid : Prop := Claim7.holds Tryz.pinned (.plain (OpenSpec.upto statePartsSpec)) statePartsUptoCard

/-- THE SECOND FORM's CARD OF 'bodkinlaw28.StateNew'. -/
def stateNewUptoCard : Claim7 := { stood := { row := stateNewUptoRow, standIns := [], harness := (true, "38f1c5b772000730f811cc55395145d5b5ed6c6db77504d5e394fd30e1cb5661"), looks := true }, kinds := [], alts := [], laidByText := true, laidKinds := [.data, .data, .data], laidTests := true, laidLooks := .later }
def StateNewUptoCardSaid : Prop := Claim7.holds Tryz.pinned (.plain (OpenSpec.upto stateNewSpec)) stateNewUptoCard

/-- THE SECOND FORM's CARD OF 'bodkinlaw28.StateWith'. -/
def stateWithUptoCard : Claim7 := { stood := { row := stateWithUptoRow, standIns := [], harness := (true, "38f1c5b772000730f811cc55395145d5b5ed6c6db77504d5e394fd30e1cb5661"), looks := true }, kinds := [], alts := [], laidByText := true, laidKinds := [.data, .data, .data], laidTests := true, laidLooks := .later }
def StateWithUptoCardSaid : Prop := Claim7.holds Tryz.pinned (.plain (OpenSpec.upto stateWithSpec)) stateWithUptoCard

/-- THE SECOND FORM's CARD OF 'bodkinlaw28.StateShown'. -/
def stateShownUptoCard : Claim7 := { stood := { row := stateShownUptoRow, standIns := [], harness := (true, "38f1c5b772000730f811cc55395145d5b5ed6c6db77504d5e394fd30e1cb5661"), looks := true }, kinds := [], alts := [], laidByText := true, laidKinds := [.data, .data, .data], laidTests := true, laidLooks := .later }
def StateShownUptoCardSaid : Prop := Claim7.holds Tryz.pinned (.plain (OpenSpec.upto stateShownSpec)) stateShownUptoCard
end Rows
end Go.Proofs.YtkkanlcjjpoklaaGreatDoor
