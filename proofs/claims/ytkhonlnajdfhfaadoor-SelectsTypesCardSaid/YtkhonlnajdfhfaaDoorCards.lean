/-
  DERIVED. GIVEN WITH THE SEED: THE CARDS: each row of YtkhonlnajdfhfaaDoorRows.lean that lists a variable, with what it lists TIED to the program's text (the seventh form; the later family's looks); each row that meets fmt, with fmt's text TOLD by the authors' own Lean function (tested against real Go, not proved from fmt's source: count such statements apart). THE CARD IS WHAT COUNTS. Prove the row's statement (the work); the ties are given (YtkhonlnajdfhfaaDoorTie.lean); close each card by the builder's one call (the guide's Derived/Test/ToyasCard.lean, 'card_holds'). Laid BY PROGRAM, IN A SANDBOX (cutbox-door.mjs). By AI agents, Wed Nov 11 2026. No macro, syntax, notation, axiom, sorry.
-/
import Derived.Test.YtkhonlnajdfhfaaDoorRows
import GoSem.ClaimSeven
namespace Go.Proofs.YtkhonlnajdfhfaaDoor
namespace Rows

/-- THE TIED CARD OF 'bodkinlaw38.SelectsTypes'. -/
def selectsTypesCard : Claim7 := { stood := { row := selectsTypesRow, standIns := [], harness := (true, "25caf9d165ea45525b4c813e9c7aa42e2cc86a2c090100479e98cdca257359bd"), looks := true }, kinds := [], alts := [], laidByText := true, laidKinds := [.data], laidTests := true, laidLooks := .later }
def SelectsTypesCardSaid : Prop := Claim7.holds Tryd.pinned (.plain (OpenSpec.ofChange selectsTypesSpec)) selectsTypesCard

/-- THE SECOND FORM's CARD OF 'bodkinlaw38.SelectsTypes'. -/
def selectsTypesUptoCard : Claim7 := { stood := { row := selectsTypesUptoRow, standIns := [], harness := (true, "25caf9d165ea45525b4c813e9c7aa42e2cc86a2c090100479e98cdca257359bd"), looks := true }, kinds := [], alts := [], laidByText := true, laidKinds := [.data], laidTests := true, laidLooks := .later }
def SelectsTypesUptoCardSaid : Prop := Claim7.holds Tryd.pinned (.plain (OpenSpec.upto selectsTypesSpec)) selectsTypesUptoCard
end Rows
end Go.Proofs.YtkhonlnajdfhfaaDoor
