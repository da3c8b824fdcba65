/-
  DERIVED. GIVEN WITH THE SEED: THE CARDS: each row of YthjjncooaahejaaGreatDoorRows.lean that lists a variable, with what it lists TIED to the program's text (the seventh form; the later family's looks); each row that meets fmt, with fmt's text TOLD by the authors' own Lean function (tested against real Go, not proved from fmt's source: count such statements apart). THE CARD IS WHAT COUNTS. Prove the row's statement (the work); the ties are given (YthjjncooaahejaaGreatDoorTie.lean); close each card by the builder's one call (the guide's Derived/Test/ToyasCard.lean, 'card_holds'). Laid BY PROGRAM, IN A SANDBOX (cutbox-door.mjs). By AI agents, Wed Nov 11 2026. No macro, syntax, notation, axiom, sorry.
-/
import Derived.Test.YthjjncooaahejaaGreatDoorRows
import GoSem.ClaimSeven
namespace Go.Proofs.YthjjncooaahejaaGreatDoor
namespace Rows

/-- THE TIED CARD OF 'bodkinlaw41.BlocksNew'. -/
def blocksNewCard : Claim7 := { stood := { row := blocksNewRow, standIns := [], harness := (true, "a25ec6ca414efb1d15d123e6c7e660ae2550098eb942f03d1348ecc3afe0dbde"), looks := true }, kinds := [], alts := [], laidByText := true, laidKinds := [.data, .data, .data], laidTests := true, laidLooks := .later }
def BlocksNewCardSaid : Prop := Claim7.holds Tryz.pinned (.plain (OpenSpec.ofChange blocksNewSpec)) blocksNewCard

/-- THE TIED CARD OF 'bodkinlaw41.BlocksShift'. -/
def blocksShiftCard : Claim7 := { stood := { row := blocksShiftRow, standIns := [], harness := (true, "a25ec6ca414efb1d15d123e6c7e660ae2550098eb942f03d1348ecc3afe0dbde"), looks := true }, kinds := [], alts := [], laidByText := true, laidKinds := [.data, .data, .data], laidTests := true, laidLooks := .later }
def BlocksShiftCardSaid : Prop := Claim7.holds Tryz.pinned (.plain (OpenSpec.ofChange blocksShiftSpec)) blocksShiftCard

/-- THE SECOND FORM's CARD OF 'bodkinlaw41.BlocksNew'. -/
def blocksNewUptoCard : Claim7 := { stood := { row := blocksNewUptoRow, standIns := [], harness := (true, "a25ec6ca414efb1d15d123e6c7e660ae2550098eb942f03d1348ecc3afe0dbde"), looks := true }, kinds := [], alts := [], laidByText := true, laidKinds := [.data, .data, .data], laidTests := true, laidLooks := .later }
def BlocksNewUptoCardSaid : Prop := Claim7.holds Tryz.pinned (.plain (OpenSpec.upto blocksNewSpec)) blocksNewUptoCard

/-- THE SECOND FORM's CARD OF 'bodkinlaw41.BlocksShift'. -/
def blocksShiftUptoCard : Claim7 := { stood := { row := blocksShiftUptoRow, standIns := [], harness := (true, "a25ec6ca414efb1d15d123e6c7e660ae2550098eb942f03d1348ecc3afe0dbde"), looks := true }, kinds := [], alts := [], laidByText := true, laidKinds := [.data, .data, .data], laidTests := true, laidLooks := .later }
def BlocksShiftUptoCardSaid : Prop := Claim7.holds Tryz.pinned (.plain (OpenSpec.upto blocksShiftSpec)) blocksShiftUptoCard
end Rows
end Go.Proofs.YthjjncooaahejaaGreatDoor
