/-
  DERIVED. GIVEN WITH THE SEED: THE PROGRAM's TIES (one call each: nine closed facts by the kernel) AND EACH ROW's TIE, after the 31st guide's Derived/Test/Toyas{Tie, Card}.lean. No idea stands in it: it is a product of the set-up. Laid BY PROGRAM, IN A SANDBOX (cutbox-door.mjs). By AI agents, Wed Nov 11 2026. No macro, syntax, notation, axiom, sorry.
-/
import Derived.Test.YtlnimbnihbcnpaaGreatDoorRows
import Derived.LaidByTextLater
import Derived.SevenTiedAt
import Derived.LaidSub
import Derived.LaidOnce
namespace Go.Proofs.YtlnimbnihbcnpaaGreatDoor
open Go
set_option maxRecDepth 100000
theorem seatTie1 : Tryz.prog.laidByTextLater [("bodkin/utf.most", Rows.laid_bodkin_utf_most), ("bodkin/width.plainZero", Rows.laid_bodkin_width_plainZero), ("bodkin/width.plainWide", Rows.laid_bodkin_width_plainWide)] [.data, .data, .data] true :=
  Program.laidByTextLater_by_one 35 8 17 (by kernel_rfl) (by kernel_rfl) (by kernel_rfl) (by kernel_rfl) (by kernel_rfl) (by kernel_rfl) (fun _ _ => by kernel_rfl)
theorem noOwnUnsafe : Tryz.pinned.checked.prog.headLifts.contains "ownunsafe" = false := by kernel_rfl
theorem tie : Tryz.prog.laidByTextLater [("bodkin/utf.most", Rows.laid_bodkin_utf_most)] [.data] true :=
  Program.laidByTextLater.sub seatTie1 ["bodkin/utf.most"] (by kernel_rfl) (by kernel_rfl)
theorem sourceNil_row_tie : Rows.sourceNilRow.laidByTextAt .later Tryz.pinned [.data] true :=
  OpenClaim.laidByTextAt_later rfl rfl tie noOwnUnsafe
theorem tie2 : Tryz.prog.laidByTextLater [("bodkin/width.plainZero", Rows.laid_bodkin_width_plainZero), ("bodkin/width.plainWide", Rows.laid_bodkin_width_plainWide)] [.data, .data] true :=
  Program.laidByTextLater.sub seatTie1 ["bodkin/width.plainZero", "bodkin/width.plainWide"] (by kernel_rfl) (by kernel_rfl)
theorem selectsNil_row_tie : Rows.selectsNilRow.laidByTextAt .later Tryz.pinned [.data, .data] true :=
  OpenClaim.laidByTextAt_later rfl rfl tie2 noOwnUnsafe
theorem tie3 : Tryz.prog.laidByTextLater [("bodkin/utf.most", Rows.laid_bodkin_utf_most), ("bodkin/width.plainZero", Rows.laid_bodkin_width_plainZero), ("bodkin/width.plainWide", Rows.laid_bodkin_width_plainWide)] [.data, .data, .data] true :=
  Program.laidByTextLater.sub seatTie1 ["bodkin/utf.most", "bodkin/width.plainZero", "bodkin/width.plainWide"] (by kernel_rfl) (by kernel_rfl)
theorem stateNil_row_tie : Rows.stateNilRow.laidByTextAt .later Tryz.pinned [.data, .data, .data] true :=
  OpenClaim.laidByTextAt_later rfl rfl tie3 noOwnUnsafe
theorem convertNil_row_tie : Rows.convertNilRow.laidByTextAt .later Tryz.pinned [.data, .data, .data] true :=
  OpenClaim.laidByTextAt_later rfl rfl tie3 noOwnUnsafe
theorem modelNil_row_tie : Rows.modelNilRow.laidByTextAt .later Tryz.pinned [.data, .data, .data] true :=
  OpenClaim.laidByTextAt_later rfl rfl tie3 noOwnUnsafe
theorem movesClass_row_tie : Rows.movesClassRow.laidByTextAt .later Tryz.pinned [.data, .data, .data] true :=
  OpenClaim.laidByTextAt_later rfl rfl tie3 noOwnUnsafe
theorem movesNil_row_tie : Rows.movesNilRow.laidByTextAt .later Tryz.pinned [.data, .data, .data] true :=
  OpenClaim.laidByTextAt_later rfl rfl tie3 noOwnUnsafe
theorem blocksNil_row_tie : Rows.blocksNilRow.laidByTextAt .later Tryz.pinned [.data, .data, .data] true :=
  OpenClaim.laidByTextAt_later rfl rfl tie3 noOwnUnsafe
theorem reflowCover_row_tie : Rows.reflowCoverRow.laidByTextAt .later Tryz.pinned [.data, .data, .data] true :=
  OpenClaim.laidByTextAt_later rfl rfl tie3 noOwnUnsafe
theorem sourceNilUpto_row_tie : Rows.sourceNilUptoRow.laidByTextAt .later Tryz.pinned [.data] true :=
  OpenClaim.laidByTextAt_later rfl rfl tie noOwnUnsafe
theorem selectsNilUpto_row_tie : Rows.selectsNilUptoRow.laidByTextAt .later Tryz.pinned [.data, .data] true :=
  OpenClaim.laidByTextAt_later rfl rfl tie2 noOwnUnsafe
theorem stateNilUpto_row_tie : Rows.stateNilUptoRow.laidByTextAt .later Tryz.pinned [.data, .data, .data] true :=
  OpenClaim.laidByTextAt_later rfl rfl tie3 noOwnUnsafe
theorem convertNilUpto_row_tie : Rows.convertNilUptoRow.laidByTextAt .later Tryz.pinned [.data, .data, .data] true :=
  OpenClaim.laidByTextAt_later rfl rfl tie3 noOwnUnsafe
theorem modelNilUpto_row_tie : Rows.modelNilUptoRow.laidByTextAt .later Tryz.pinned [.data, .data, .data] true :=
  OpenClaim.laidByTextAt_later rfl rfl tie3 noOwnUnsafe
theorem movesClassUpto_row_tie : Rows.movesClassUptoRow.laidByTextAt .later Tryz.pinned [.data, .data, .data] true :=
  OpenClaim.laidByTextAt_later rfl rfl tie3 noOwnUnsafe
theorem movesNilUpto_row_tie : Rows.movesNilUptoRow.laidByTextAt .later Tryz.pinned [.data, .data, .data] true :=
  OpenClaim.laidByTextAt_later rfl rfl tie3 noOwnUnsafe
theorem blocksNilUpto_row_tie : Rows.blocksNilUptoRow.laidByTextAt .later Tryz.pinned [.data, .data, .data] true :=
  OpenClaim.laidByTextAt_later rfl rfl tie3 noOwnUnsafe
theorem reflowCoverUpto_row_tie : Rows.reflowCoverUptoRow.laidByTextAt .later Tryz.pinned [.data, .data, .data] true :=
  OpenClaim.laidByTextAt_later rfl rfl tie3 noOwnUnsafe
end Go.Proofs.YtlnimbnihbcnpaaGreatDoor
