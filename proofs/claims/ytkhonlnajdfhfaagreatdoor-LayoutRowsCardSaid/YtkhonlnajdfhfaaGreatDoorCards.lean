/-
  DERIVED. GIVEN WITH THE SEED: THE CARDS: each row of YtkhonlnajdfhfaaGreatDoorRows.lean that lists a variable, with what it lists TIED to the program's text (the seventh form; the later family's looks); each row that meets fmt, with fmt's text TOLD by the authors' own Lean function (tested against real Go, not proved from fmt's source: count such statements apart). THE CARD IS WHAT COUNTS. Prove the row's statement (the work); the ties are given (YtkhonlnajdfhfaaGreatDoorTie.lean); close each card by the builder's one call (the guide's Derived/Test/ToyasCard.lean, 'card_holds'). Laid BY PROGRAM, IN A SANDBOX (cutbox-door.mjs). By AI agents, Wed Nov 11 2026. No macro, syntax, notation, axiom, sorry.
-/
import Derived.Test.YtkhonlnajdfhfaaGreatDoorRows
import GoSem.ClaimSeven
namespace Go.Proofs.YtkhonlnajdfhfaaGreatDoor
namespace Rows

/-- THE TIED CARD OF 'bodkinlaw23.LayoutRows'. -/
def layoutRowsCard : Claim7 := { stood := { row := layoutRowsRow, standIns := [], harness := (true, "fef0735253b16c1d28ea8deb4f8454d84ed411c7fc7c94ff7229731fe639b12e"), looks := true }, kinds := [], alts := [], laidByText := true, laidKinds := [.data, .data, .data], laidTests := true, laidLooks := .later }
def LayoutRowsCardSaid : Prop := Claim7.holds Tryz.pinned (.plain (OpenSpec.ofChange layoutRowsSpec)) layoutRowsCard

/-- THE SECOND FORM's CARD OF 'bodkinlaw23.LayoutRows'. -/
def layoutRowsUptoCard : Claim7 := { stood := { row := layoutRowsUptoRow, standIns := [], harness := (true, "fef0735253b16c1d28ea8deb4f8454d84ed411c7fc7c94ff7229731fe639b12e"), looks := true }, kinds := [], alts := [], laidByText := true, laidKinds := [.data, .data, .data], laidTests := true, laidLooks := .later }
def LayoutRowsUptoCardSaid : Prop := Claim7.holds Tryz.pinned (.plain (OpenSpec.upto layoutRowsSpec)) layoutRowsUptoCard
end Rows
end Go.Proofs.YtkhonlnajdfhfaaGreatDoor
