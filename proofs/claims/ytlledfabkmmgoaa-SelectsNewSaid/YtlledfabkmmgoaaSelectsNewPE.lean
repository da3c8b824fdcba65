/- The law SelectsNew returns true for every input: which selections make a set, and how they are joined. No condition. -/
import Derived.WalkKit
import Derived.WalkSpells
import Derived.Carry
import Derived.Lib.Hide
import Derived.ProofKit
import Derived.Lib.SmallJoins
import Derived.OpenShut
import Derived.Deep.Slices
import Derived.Deep.Fields
import Derived.Test.YtlledfabkmmgoaaRows
import Derived.WideShapes
import Derived.Test.YtlledfabkmmgoaaSelectsNewPA
import Derived.Test.YtlledfabkmmgoaaSelectsNewPB
import Derived.Test.YtlledfabkmmgoaaSelectsNewPC
import Derived.Test.YtlledfabkmmgoaaSelectsNewPD
/- Sets of selections: made, read. -/
set_option linter.unusedSimpArgs false
set_option linter.unusedVariables false
set_option maxRecDepth 8000
namespace Go.Proofs.Ytlledfabkmmgoaa
abbrev nilV : V := .d (.lit (.pointer none))
abbrev setV (n : Int) (L : List Se) : V := .d (.pd 2 [.agg [.lit (.int .i64 n), .sd 2 false (L.map seD)]] 0 0)
def outB (n : Int) (x : Se) : Bool := decide (spanF x < 0) || decide (n < spanT x)
/-- Why selections make no set; 0 where they do. -/
def newErr (n : Int) (l : List Se) : Int := if n < 0 ∨ 1099511627776 < n then 1 else if l.length = 0 then 6 else if 64 < l.length then 5 else if l.any (outB n) = true then 1 else 0
def newV (n : Int) (l : List Se) : V := if newErr n l = 0 then .tup [setV n (joinedS l), iv 0] else .tup [nilV, iv (newErr n l)]
theorem newV_no {n k : Int} {l : List Se} (h : newErr n l = k) (hk : k ≠ 0) : newV n l = .tup [nilV, iv k] := by unfold newV; rw [h, if_neg hk]
theorem newV_ok {n : Int} {l : List Se} (h : newErr n l = 0) : newV n l = .tup [setV n (joinedS l), iv 0] := by unfold newV; rw [if_pos h]
theorem any_take {n : Int} {l : List Se} {i : Nat} {x : Se} (hx : l[i]? = some x) (h : (l.take i).any (outB n) = false) : (l.take (i + 1)).any (outB n) = outB n x := by
  rw [take_snoc' hx, List.any_append, h]
  simp
theorem any_of {n : Int} {l : List Se} {i : Nat} {x : Se} (hx : l[i]? = some x) (h : outB n x = true) : l.any (outB n) = true :=
  List.any_eq_true.2 ⟨x, List.mem_of_getElem? hx, h⟩
def newS (n : Int) (l : List Se) (i : Nat) : St := ⟨[(0, iv n), (1, seL l), (24, seL l), (25, iv l.length), (26, iv i)], [], 0⟩
attribute [push_cast] newS.eq_def
theorem New_fn (n : Int) (l : List Se) (hl : l.length ≤ 1000000) : OFn Try.prog G0 17 [iv n, seL l] [] 0 (newV n l) [] := by
  refine OFn.of_code mixed [0, 1, 4, 5, 7, 8, 9, 16, 20, 24, 25, 26, 27, 40] Try.func17 rfl Try.results17 Try.ntmps17 (by kernel_rfl) (by simp) ?_
  (repeat' (first | with_reducible refine GhW.now ?_ | with_reducible refine endW.now ?_ | with_reducible refine DoneW.out ?_ |  simp -implicitDefEqProofs -dsimp only [push_cast, ↓reduceIte, Nat.reduceMul, Nat.reduceAdd, Nat.reduceSub, Nat.reduceEqDiff, Nat.reduceBeqDiff, Nat.reduceLeDiff, Nat.reduceLT, reduceCtorEq, Int.reduceToNat, ↓ndW_true, ↓brM_true, ↓brM_false, ↓dstL_zero, ↓dstL_succ, ↓brW_true, ↓brW_false, ↓optW_some, ↓elW_zero, ↓elW_succ, ↓elW_map, ↓boolW_lit, ↓grdW_lit, ↓grdW_skip, ↓condW_lit, ↓pickW_lit, ↓calleeW_fn, ↓calleeW_d, ↓cellW_cell, ↓rowW_row, ↓iterW_iter, ↓seqK_normal, ↓seqK_exit, ↓seqK_ret, ↓blockK_normal, ↓blockK_ret, ↓blockK_exit, ↓retK_normal, ↓retK_ret, ↓loadV_pd, ↓loadV_po, ↓loadV_pe, ↓elemW, ↓evF_tmp, ↓evF_const, ↓evF_func, ↓guard_none, ↓guard_true, ↓guard_false, ↓codeW, ↓regW_true, ↓regW_false, ↓opsW_nil, ↓opsW_cons, ↓opsD_nil, ↓opsD_cons, ↓pvW_some, ↓pvsW_some, ↓vcallD_call] | (simp -implicitDefEqProofs -dsimp (disch := omega) only [w64, wu64, half64, half64']) | (with_reducible refine ndW.intro' (by first | omega | (simp; done) | (simp; omega) | (simp [allFit, Fit, appFits, V.cellOk, Value.oneCell', D.cells]; done) | (simp [allFit, Fit, appFits, V.cellOk, Value.oneCell', D.cells]; omega)) ?_) | ((first | with_reducible refine brW.dec (fun h => ?_) (fun h => ?_) | with_reducible refine brM.dec (fun h => ?_) (fun h => ?_) | with_reducible refine brW.beq (fun h => ?_) (fun h => ?_) | with_reducible refine brM.beq (fun h => ?_) (fun h => ?_) | with_reducible refine brM.ndec (fun h => ?_) (fun h => ?_) | with_reducible refine brW.ndec (fun h => ?_) (fun h => ?_) | with_reducible refine brM.dand (fun h => ?_) (fun h => ?_) | with_reducible refine brW.dand (fun h => ?_) (fun h => ?_) | with_reducible refine brM.dor (fun h => ?_) (fun h => ?_) | with_reducible refine brW.dor (fun h => ?_) (fun h => ?_) | with_reducible refine brM.bne (fun h => ?_) (fun h => ?_) | with_reducible refine brW.bne (fun h => ?_) (fun h => ?_)) <;> (first | (exfalso; omega) | skip)) | (with_reducible refine brW.two (fun h => ?_) (fun h => ?_)) | (with_reducible refine brM.two (fun h => ?_) (fun h => ?_))))
  · exact (newV_no (by unfold newErr; rw [if_pos h]) (by decide)).symm
  · rename_i g1
    exact (newV_no (by unfold newErr; rw [if_neg g1, if_pos (by omega)]) (by decide)).symm
  · rename_i g1 g2
    exact (newV_no (by unfold newErr; rw [if_neg g1, if_neg (by omega), if_pos (by omega)]) (by decide)).symm
  · rename_i g1 g2
    refine loopW_go (lv := [0, 1, 4, 5, 7, 8, 9, 16, 20, 24, 25, 26, 27, 40]) mixed (by kernel_rfl) (newS n l) (fun i => i ≤ l.length ∧ (l.take i).any (outB n) = false) (fun i => l.length - i) (0) ((GhW.go [0, 1, 24, 25, 26] (by (first | rfl | (simp -implicitDefEqProofs -dsimp only [push_cast, ↓reduceIte, Nat.reduceMul, Nat.reduceAdd, Nat.reduceSub, Nat.reduceEqDiff, Nat.reduceBeqDiff, Nat.reduceLeDiff, Nat.reduceLT, reduceCtorEq, Int.reduceToNat, ↓ndW_true, ↓brM_true, ↓brM_false, ↓dstL_zero, ↓dstL_succ, ↓brW_true, ↓brW_false, ↓optW_some, ↓elW_zero, ↓elW_succ, ↓elW_map, ↓boolW_lit, ↓grdW_lit, ↓grdW_skip, ↓condW_lit, ↓pickW_lit, ↓calleeW_fn, ↓calleeW_d, ↓cellW_cell, ↓rowW_row, ↓iterW_iter, ↓seqK_normal, ↓seqK_exit, ↓seqK_ret, ↓blockK_normal, ↓blockK_ret, ↓blockK_exit, ↓retK_normal, ↓retK_ret, ↓loadV_pd, ↓loadV_po, ↓loadV_pe, ↓elemW, ↓evF_tmp, ↓evF_const, ↓evF_func, ↓guard_none, ↓guard_true, ↓guard_false, ↓codeW, ↓regW_true, ↓regW_false, ↓opsW_nil, ↓opsW_cons, ↓opsD_nil, ↓opsD_cons, ↓pvW_some, ↓pvsW_some, ↓vcallD_call]; first | done | rfl | ((simp -implicitDefEqProofs -dsimp (disch := omega) only [w64, wu64, half64, half64']); first | done | (simp -implicitDefEqProofs -dsimp only [push_cast, ↓reduceIte, Nat.reduceMul, Nat.reduceAdd, Nat.reduceSub, Nat.reduceEqDiff, Nat.reduceBeqDiff, Nat.reduceLeDiff, Nat.reduceLT, reduceCtorEq, Int.reduceToNat, ↓ndW_true, ↓brM_true, ↓brM_false, ↓dstL_zero, ↓dstL_succ, ↓brW_true, ↓brW_false, ↓optW_some, ↓elW_zero, ↓elW_succ, ↓elW_map, ↓boolW_lit, ↓grdW_lit, ↓grdW_skip, ↓condW_lit, ↓pickW_lit, ↓calleeW_fn, ↓calleeW_d, ↓cellW_cell, ↓rowW_row, ↓iterW_iter, ↓seqK_normal, ↓seqK_exit, ↓seqK_ret, ↓blockK_normal, ↓blockK_ret, ↓blockK_exit, ↓retK_normal, ↓retK_ret, ↓loadV_pd, ↓loadV_po, ↓loadV_pe, ↓elemW, ↓evF_tmp, ↓evF_const, ↓evF_func, ↓guard_none, ↓guard_true, ↓guard_false, ↓codeW, ↓regW_true, ↓regW_false, ↓opsW_nil, ↓opsW_cons, ↓opsD_nil, ↓opsD_cons, ↓pvW_some, ↓pvsW_some, ↓vcallD_call]; done)) | ((try (simp -implicitDefEqProofs -dsimp (disch := omega) only [w64, wu64, half64, half64'])); simp only [St.mk.injEq, List.cons.injEq, Prod.mk.injEq, V.d.injEq, D.lit.injEq, Value.int.injEq, true_and, and_true]; omega)))) rfl)) ?_ ?_
    · exact ⟨Nat.zero_le _, by simp⟩
    rintro i ⟨hi, ha⟩
    (repeat' (first | with_reducible refine GhW.now ?_ | with_reducible refine endW.now ?_ | with_reducible refine DoneW.out ?_ |  simp -implicitDefEqProofs -dsimp only [push_cast, ↓reduceIte, Nat.reduceMul, Nat.reduceAdd, Nat.reduceSub, Nat.reduceEqDiff, Nat.reduceBeqDiff, Nat.reduceLeDiff, Nat.reduceLT, reduceCtorEq, Int.reduceToNat, ↓ndW_true, ↓brM_true, ↓brM_false, ↓dstL_zero, ↓dstL_succ, ↓brW_true, ↓brW_false, ↓optW_some, ↓elW_zero, ↓elW_succ, ↓elW_map, ↓boolW_lit, ↓grdW_lit, ↓grdW_skip, ↓condW_lit, ↓pickW_lit, ↓calleeW_fn, ↓calleeW_d, ↓cellW_cell, ↓rowW_row, ↓iterW_iter, ↓seqK_normal, ↓seqK_exit, ↓seqK_ret, ↓blockK_normal, ↓blockK_ret, ↓blockK_exit, ↓retK_normal, ↓retK_ret, ↓loadV_pd, ↓loadV_po, ↓loadV_pe, ↓elemW, ↓evF_tmp, ↓evF_const, ↓evF_func, ↓guard_none, ↓guard_true, ↓guard_false, ↓codeW, ↓regW_true, ↓regW_false, ↓opsW_nil, ↓opsW_cons, ↓opsD_nil, ↓opsD_cons, ↓pvW_some, ↓pvsW_some, ↓vcallD_call] | (simp -implicitDefEqProofs -dsimp (disch := omega) only [w64, wu64, half64, half64']) | (with_reducible refine ndW.intro' (by first | omega | (simp; done) | (simp; omega) | (simp [allFit, Fit, appFits, V.cellOk, Value.oneCell', D.cells]; done) | (simp [allFit, Fit, appFits, V.cellOk, Value.oneCell', D.cells]; omega)) ?_) | ((first | with_reducible refine brW.dec (fun h => ?_) (fun h => ?_) | with_reducible refine brM.dec (fun h => ?_) (fun h => ?_) | with_reducible refine brW.beq (fun h => ?_) (fun h => ?_) | with_reducible refine brM.beq (fun h => ?_) (fun h => ?_) | with_reducible refine brM.ndec (fun h => ?_) (fun h => ?_) | with_reducible refine brW.ndec (fun h => ?_) (fun h => ?_) | with_reducible refine brM.dand (fun h => ?_) (fun h => ?_) | with_reducible refine brW.dand (fun h => ?_) (fun h => ?_) | with_reducible refine brM.dor (fun h => ?_) (fun h => ?_) | with_reducible refine brW.dor (fun h => ?_) (fun h => ?_) | with_reducible refine brM.bne (fun h => ?_) (fun h => ?_) | with_reducible refine brW.bne (fun h => ?_) (fun h => ?_)) <;> (first | (exfalso; omega) | skip)) | (with_reducible refine brW.two (fun h => ?_) (fun h => ?_)) | (with_reducible refine brM.two (fun h => ?_) (fun h => ?_))))
    · refine elX.intro fun x hx => ?_
      (repeat' (first | with_reducible refine GhW.now ?_ | with_reducible refine endW.now ?_ | with_reducible refine DoneW.out ?_ | (with_reducible refine CallW.d (Sspan_fn _) (by kernel_rfl) rfl rfl ?_) |  simp -implicitDefEqProofs -dsimp only [push_cast, ↓reduceIte, Nat.reduceMul, Nat.reduceAdd, Nat.reduceSub, Nat.reduceEqDiff, Nat.reduceBeqDiff, Nat.reduceLeDiff, Nat.reduceLT, reduceCtorEq, Int.reduceToNat, ↓ndW_true, ↓brM_true, ↓brM_false, ↓dstL_zero, ↓dstL_succ, ↓brW_true, ↓brW_false, ↓optW_some, ↓elW_zero, ↓elW_succ, ↓elW_map, ↓boolW_lit, ↓grdW_lit, ↓grdW_skip, ↓condW_lit, ↓pickW_lit, ↓calleeW_fn, ↓calleeW_d, ↓cellW_cell, ↓rowW_row, ↓iterW_iter, ↓seqK_normal, ↓seqK_exit, ↓seqK_ret, ↓blockK_normal, ↓blockK_ret, ↓blockK_exit, ↓retK_normal, ↓retK_ret, ↓loadV_pd, ↓loadV_po, ↓loadV_pe, ↓elemW, ↓evF_tmp, ↓evF_const, ↓evF_func, ↓guard_none, ↓guard_true, ↓guard_false, ↓codeW, ↓regW_true, ↓regW_false, ↓opsW_nil, ↓opsW_cons, ↓opsD_nil, ↓opsD_cons, ↓pvW_some, ↓pvsW_some, ↓vcallD_call] | (simp -implicitDefEqProofs -dsimp (disch := omega) only [w64, wu64, half64, half64']) | (with_reducible refine ndW.intro' (by first | omega | (simp; done) | (simp; omega) | (simp [allFit, Fit, appFits, V.cellOk, Value.oneCell', D.cells]; done) | (simp [allFit, Fit, appFits, V.cellOk, Value.oneCell', D.cells]; omega)) ?_) | ((first | with_reducible refine brW.dec (fun h => ?_) (fun h => ?_) | with_reducible refine brM.dec (fun h => ?_) (fun h => ?_) | with_reducible refine brW.beq (fun h => ?_) (fun h => ?_) | with_reducible refine brM.beq (fun h => ?_) (fun h => ?_) | with_reducible refine brM.ndec (fun h => ?_) (fun h => ?_) | with_reducible refine brW.ndec (fun h => ?_) (fun h => ?_) | with_reducible refine brM.dand (fun h => ?_) (fun h => ?_) | with_reducible refine brW.dand (fun h => ?_) (fun h => ?_) | with_reducible refine brM.dor (fun h => ?_) (fun h => ?_) | with_reducible refine brW.dor (fun h => ?_) (fun h => ?_) | with_reducible refine brM.bne (fun h => ?_) (fun h => ?_) | with_reducible refine brW.bne (fun h => ?_) (fun h => ?_)) <;> (first | (exfalso; omega) | skip)) | (with_reducible refine brW.two (fun h => ?_) (fun h => ?_)) | (with_reducible refine brM.two (fun h => ?_) (fun h => ?_))))
      · have ho : outB n x = true := by simpa [outB] using h
        exact (newV_no (by unfold newErr; rw [if_neg g1, if_neg (by omega), if_neg (by omega), if_pos (any_of hx ho)]) (by decide)).symm
      · have ho : outB n x = false := by
          simp only [outB, Bool.or_eq_false_iff, decide_eq_false_iff_not]
          omega
        refine AgW.go (i + 1) [0, 1, 24, 25, 26] (by (first | rfl | (simp -implicitDefEqProofs -dsimp only [push_cast, ↓reduceIte, Nat.reduceMul, Nat.reduceAdd, Nat.reduceSub, Nat.reduceEqDiff, Nat.reduceBeqDiff, Nat.reduceLeDiff, Nat.reduceLT, reduceCtorEq, Int.reduceToNat, ↓ndW_true, ↓brM_true, ↓brM_false, ↓dstL_zero, ↓dstL_succ, ↓brW_true, ↓brW_false, ↓optW_some, ↓elW_zero, ↓elW_succ, ↓elW_map, ↓boolW_lit, ↓grdW_lit, ↓grdW_skip, ↓condW_lit, ↓pickW_lit, ↓calleeW_fn, ↓calleeW_d, ↓cellW_cell, ↓rowW_row, ↓iterW_iter, ↓seqK_normal, ↓seqK_exit, ↓seqK_ret, ↓blockK_normal, ↓blockK_ret, ↓blockK_exit, ↓retK_normal, ↓retK_ret, ↓loadV_pd, ↓loadV_po, ↓loadV_pe, ↓elemW, ↓evF_tmp, ↓evF_const, ↓evF_func, ↓guard_none, ↓guard_true, ↓guard_false, ↓codeW, ↓regW_true, ↓regW_false, ↓opsW_nil, ↓opsW_cons, ↓opsD_nil, ↓opsD_cons, ↓pvW_some, ↓pvsW_some, ↓vcallD_call]; first | done | rfl | ((simp -implicitDefEqProofs -dsimp (disch := omega) only [w64, wu64, half64, half64']); first | done | (simp -implicitDefEqProofs -dsimp only [push_cast, ↓reduceIte, Nat.reduceMul, Nat.reduceAdd, Nat.reduceSub, Nat.reduceEqDiff, Nat.reduceBeqDiff, Nat.reduceLeDiff, Nat.reduceLT, reduceCtorEq, Int.reduceToNat, ↓ndW_true, ↓brM_true, ↓brM_false, ↓dstL_zero, ↓dstL_succ, ↓brW_true, ↓brW_false, ↓optW_some, ↓elW_zero, ↓elW_succ, ↓elW_map, ↓boolW_lit, ↓grdW_lit, ↓grdW_skip, ↓condW_lit, ↓pickW_lit, ↓calleeW_fn, ↓calleeW_d, ↓cellW_cell, ↓rowW_row, ↓iterW_iter, ↓seqK_normal, ↓seqK_exit, ↓seqK_ret, ↓blockK_normal, ↓blockK_ret, ↓blockK_exit, ↓retK_normal, ↓retK_ret, ↓loadV_pd, ↓loadV_po, ↓loadV_pe, ↓elemW, ↓evF_tmp, ↓evF_const, ↓evF_func, ↓guard_none, ↓guard_true, ↓guard_false, ↓codeW, ↓regW_true, ↓regW_false, ↓opsW_nil, ↓opsW_cons, ↓opsD_nil, ↓opsD_cons, ↓pvW_some, ↓pvsW_some, ↓vcallD_call]; done)) | ((try (simp -implicitDefEqProofs -dsimp (disch := omega) only [w64, wu64, half64, half64'])); simp only [St.mk.injEq, List.cons.injEq, Prod.mk.injEq, V.d.injEq, D.lit.injEq, Value.int.injEq, true_and, and_true]; omega)))) ?_ ?_
        · show l.length - (i + 1) < l.length - i
          omega
        · exact ⟨by omega, by rw [any_take hx ha, ho]⟩
    · have e : newErr n l = 0 := by
        rw [List.take_of_length_le (by omega)] at ha
        unfold newErr
        rw [if_neg g1, if_neg (by omega), if_neg (by omega), if_neg (by simp [ha])]
      rw [newV_ok e]
      refine CallW.d (joined_fn l (by omega) (by omega)) (by kernel_rfl) rfl rfl ?_
      (repeat' (first | with_reducible refine GhW.now ?_ | with_reducible refine endW.now ?_ |  simp -implicitDefEqProofs -dsimp only [push_cast, ↓reduceIte, Nat.reduceMul, Nat.reduceAdd, Nat.reduceSub, Nat.reduceEqDiff, Nat.reduceBeqDiff, Nat.reduceLeDiff, Nat.reduceLT, reduceCtorEq, Int.reduceToNat, ↓ndW_true, ↓brM_true, ↓brM_false, ↓dstL_zero, ↓dstL_succ, ↓brW_true, ↓brW_false, ↓optW_some, ↓elW_zero, ↓elW_succ, ↓elW_map, ↓boolW_lit, ↓grdW_lit, ↓grdW_skip, ↓condW_lit, ↓pickW_lit, ↓calleeW_fn, ↓calleeW_d, ↓cellW_cell, ↓rowW_row, ↓iterW_iter, ↓seqK_normal, ↓seqK_exit, ↓seqK_ret, ↓blockK_normal, ↓blockK_ret, ↓blockK_exit, ↓retK_normal, ↓retK_ret, ↓loadV_pd, ↓loadV_po, ↓loadV_pe, ↓elemW, ↓evF_tmp, ↓evF_const, ↓evF_func, ↓guard_none, ↓guard_true, ↓guard_false, ↓codeW, ↓regW_true, ↓regW_false, ↓opsW_nil, ↓opsW_cons, ↓opsD_nil, ↓opsD_cons, ↓pvW_some, ↓pvsW_some, ↓vcallD_call] | (simp -implicitDefEqProofs -dsimp (disch := omega) only [w64, wu64, half64, half64']) | (with_reducible refine ndW.intro' (by first | omega | (simp; done) | (simp; omega) | (simp [allFit, Fit, appFits, V.cellOk, Value.oneCell', D.cells]; done) | (simp [allFit, Fit, appFits, V.cellOk, Value.oneCell', D.cells]; omega)) ?_) | ((first | with_reducible refine brW.dec (fun h => ?_) (fun h => ?_) | with_reducible refine brM.dec (fun h => ?_) (fun h => ?_) | with_reducible refine brW.beq (fun h => ?_) (fun h => ?_) | with_reducible refine brM.beq (fun h => ?_) (fun h => ?_) | with_reducible refine brM.ndec (fun h => ?_) (fun h => ?_) | with_reducible refine brW.ndec (fun h => ?_) (fun h => ?_) | with_reducible refine brM.dand (fun h => ?_) (fun h => ?_) | with_reducible refine brW.dand (fun h => ?_) (fun h => ?_) | with_reducible refine brM.dor (fun h => ?_) (fun h => ?_) | with_reducible refine brW.dor (fun h => ?_) (fun h => ?_) | with_reducible refine brM.bne (fun h => ?_) (fun h => ?_) | with_reducible refine brW.bne (fun h => ?_) (fun h => ?_)) <;> (first | (exfalso; omega) | skip)) | (with_reducible refine brW.two (fun h => ?_) (fun h => ?_)) | (with_reducible refine brM.two (fun h => ?_) (fun h => ?_))))
      refine DoneW.frz 20 (DoneW.out ?_)
      (repeat' (first | with_reducible refine GhW.now ?_ | with_reducible refine endW.now ?_ |  simp -implicitDefEqProofs -dsimp only [push_cast, ↓reduceIte, Nat.reduceMul, Nat.reduceAdd, Nat.reduceSub, Nat.reduceEqDiff, Nat.reduceBeqDiff, Nat.reduceLeDiff, Nat.reduceLT, reduceCtorEq, Int.reduceToNat, ↓ndW_true, ↓brM_true, ↓brM_false, ↓dstL_zero, ↓dstL_succ, ↓brW_true, ↓brW_false, ↓optW_some, ↓elW_zero, ↓elW_succ, ↓elW_map, ↓boolW_lit, ↓grdW_lit, ↓grdW_skip, ↓condW_lit, ↓pickW_lit, ↓calleeW_fn, ↓calleeW_d, ↓cellW_cell, ↓rowW_row, ↓iterW_iter, ↓seqK_normal, ↓seqK_exit, ↓seqK_ret, ↓blockK_normal, ↓blockK_ret, ↓blockK_exit, ↓retK_normal, ↓retK_ret, ↓loadV_pd, ↓loadV_po, ↓loadV_pe, ↓elemW, ↓evF_tmp, ↓evF_const, ↓evF_func, ↓guard_none, ↓guard_true, ↓guard_false, ↓codeW, ↓regW_true, ↓regW_false, ↓opsW_nil, ↓opsW_cons, ↓opsD_nil, ↓opsD_cons, ↓pvW_some, ↓pvsW_some, ↓vcallD_call] | (simp -implicitDefEqProofs -dsimp (disch := omega) only [w64, wu64, half64, half64']) | (with_reducible refine ndW.intro' (by first | omega | (simp; done) | (simp; omega) | (simp [allFit, Fit, appFits, V.cellOk, Value.oneCell', D.cells]; done) | (simp [allFit, Fit, appFits, V.cellOk, Value.oneCell', D.cells]; omega)) ?_) | ((first | with_reducible refine brW.dec (fun h => ?_) (fun h => ?_) | with_reducible refine brM.dec (fun h => ?_) (fun h => ?_) | with_reducible refine brW.beq (fun h => ?_) (fun h => ?_) | with_reducible refine brM.beq (fun h => ?_) (fun h => ?_) | with_reducible refine brM.ndec (fun h => ?_) (fun h => ?_) | with_reducible refine brW.ndec (fun h => ?_) (fun h => ?_) | with_reducible refine brM.dand (fun h => ?_) (fun h => ?_) | with_reducible refine brW.dand (fun h => ?_) (fun h => ?_) | with_reducible refine brM.dor (fun h => ?_) (fun h => ?_) | with_reducible refine brW.dor (fun h => ?_) (fun h => ?_) | with_reducible refine brM.bne (fun h => ?_) (fun h => ?_) | with_reducible refine brW.bne (fun h => ?_) (fun h => ?_)) <;> (first | (exfalso; omega) | skip)) | (with_reducible refine brW.two (fun h => ?_) (fun h => ?_)) | (with_reducible refine brM.two (fun h => ?_) (fun h => ?_))))
theorem Len_fn (n : Int) (L : List Se) : OFn Try.prog G0 31 [setV n L] [] 0 (iv n) [] := by
  refine OFn.of_code mixed [0, 2, 4] Try.func31 rfl Try.results31 Try.ntmps31 (by kernel_rfl) (by simp) ?_
  (repeat' (first | with_reducible refine GhW.now ?_ | with_reducible refine endW.now ?_ | with_reducible refine DoneW.out ?_ |  simp -implicitDefEqProofs -dsimp only [push_cast, ↓reduceIte, Nat.reduceMul, Nat.reduceAdd, Nat.reduceSub, Nat.reduceEqDiff, Nat.reduceBeqDiff, Nat.reduceLeDiff, Nat.reduceLT, reduceCtorEq, Int.reduceToNat, ↓ndW_true, ↓brM_true, ↓brM_false, ↓dstL_zero, ↓dstL_succ, ↓brW_true, ↓brW_false, ↓optW_some, ↓elW_zero, ↓elW_succ, ↓elW_map, ↓boolW_lit, ↓grdW_lit, ↓grdW_skip, ↓condW_lit, ↓pickW_lit, ↓calleeW_fn, ↓calleeW_d, ↓cellW_cell, ↓rowW_row, ↓iterW_iter, ↓seqK_normal, ↓seqK_exit, ↓seqK_ret, ↓blockK_normal, ↓blockK_ret, ↓blockK_exit, ↓retK_normal, ↓retK_ret, ↓loadV_pd, ↓loadV_po, ↓loadV_pe, ↓elemW, ↓evF_tmp, ↓evF_const, ↓evF_func, ↓guard_none, ↓guard_true, ↓guard_false, ↓codeW, ↓regW_true, ↓regW_false, ↓opsW_nil, ↓opsW_cons, ↓opsD_nil, ↓opsD_cons, ↓pvW_some, ↓pvsW_some, ↓vcallD_call] | (simp -implicitDefEqProofs -dsimp (disch := omega) only [w64, wu64, half64, half64']) | (with_reducible refine ndW.intro' (by first | omega | (simp; done) | (simp; omega) | (simp [allFit, Fit, appFits, V.cellOk, Value.oneCell', D.cells]; done) | (simp [allFit, Fit, appFits, V.cellOk, Value.oneCell', D.cells]; omega)) ?_) | ((first | with_reducible refine brW.dec (fun h => ?_) (fun h => ?_) | with_reducible refine brM.dec (fun h => ?_) (fun h => ?_) | with_reducible refine brW.beq (fun h => ?_) (fun h => ?_) | with_reducible refine brM.beq (fun h => ?_) (fun h => ?_) | with_reducible refine brM.ndec (fun h => ?_) (fun h => ?_) | with_reducible refine brW.ndec (fun h => ?_) (fun h => ?_) | with_reducible refine brM.dand (fun h => ?_) (fun h => ?_) | with_reducible refine brW.dand (fun h => ?_) (fun h => ?_) | with_reducible refine brM.dor (fun h => ?_) (fun h => ?_) | with_reducible refine brW.dor (fun h => ?_) (fun h => ?_) | with_reducible refine brM.bne (fun h => ?_) (fun h => ?_) | with_reducible refine brW.bne (fun h => ?_) (fun h => ?_)) <;> (first | (exfalso; omega) | skip)) | (with_reducible refine brW.two (fun h => ?_) (fun h => ?_)) | (with_reducible refine brM.two (fun h => ?_) (fun h => ?_))))
theorem Len_nil_fn : OFn Try.prog G0 31 [nilV] [] 0 (iv 0) [] := by
  refine OFn.of_code mixed [0, 2, 4] Try.func31 rfl Try.results31 Try.ntmps31 (by kernel_rfl) (by simp) ?_
  (repeat' (first | with_reducible refine GhW.now ?_ | with_reducible refine endW.now ?_ | with_reducible refine DoneW.out ?_ |  simp -implicitDefEqProofs -dsimp only [push_cast, ↓reduceIte, Nat.reduceMul, Nat.reduceAdd, Nat.reduceSub, Nat.reduceEqDiff, Nat.reduceBeqDiff, Nat.reduceLeDiff, Nat.reduceLT, reduceCtorEq, Int.reduceToNat, ↓ndW_true, ↓brM_true, ↓brM_false, ↓dstL_zero, ↓dstL_succ, ↓brW_true, ↓brW_false, ↓optW_some, ↓elW_zero, ↓elW_succ, ↓elW_map, ↓boolW_lit, ↓grdW_lit, ↓grdW_skip, ↓condW_lit, ↓pickW_lit, ↓calleeW_fn, ↓calleeW_d, ↓cellW_cell, ↓rowW_row, ↓iterW_iter, ↓seqK_normal, ↓seqK_exit, ↓seqK_ret, ↓blockK_normal, ↓blockK_ret, ↓blockK_exit, ↓retK_normal, ↓retK_ret, ↓loadV_pd, ↓loadV_po, ↓loadV_pe, ↓elemW, ↓evF_tmp, ↓evF_const, ↓evF_func, ↓guard_none, ↓guard_true, ↓guard_false, ↓codeW, ↓regW_true, ↓regW_false, ↓opsW_nil, ↓opsW_cons, ↓opsD_nil, ↓opsD_cons, ↓pvW_some, ↓pvsW_some, ↓vcallD_call] | (simp -implicitDefEqProofs -dsimp (disch := omega) only [w64, wu64, half64, half64']) | (with_reducible refine ndW.intro' (by first | omega | (simp; done) | (simp; omega) | (simp [allFit, Fit, appFits, V.cellOk, Value.oneCell', D.cells]; done) | (simp [allFit, Fit, appFits, V.cellOk, Value.oneCell', D.cells]; omega)) ?_) | ((first | with_reducible refine brW.dec (fun h => ?_) (fun h => ?_) | with_reducible refine brM.dec (fun h => ?_) (fun h => ?_) | with_reducible refine brW.beq (fun h => ?_) (fun h => ?_) | with_reducible refine brM.beq (fun h => ?_) (fun h => ?_) | with_reducible refine brM.ndec (fun h => ?_) (fun h => ?_) | with_reducible refine brW.ndec (fun h => ?_) (fun h => ?_) | with_reducible refine brM.dand (fun h => ?_) (fun h => ?_) | with_reducible refine brW.dand (fun h => ?_) (fun h => ?_) | with_reducible refine brM.dor (fun h => ?_) (fun h => ?_) | with_reducible refine brW.dor (fun h => ?_) (fun h => ?_) | with_reducible refine brM.bne (fun h => ?_) (fun h => ?_) | with_reducible refine brW.bne (fun h => ?_) (fun h => ?_)) <;> (first | (exfalso; omega) | skip)) | (with_reducible refine brW.two (fun h => ?_) (fun h => ?_)) | (with_reducible refine brM.two (fun h => ?_) (fun h => ?_))))
theorem All_fn (n : Int) (L : List Se) (h0 : 0 < L.length) (hl : L.length ≤ 100000) : OFn Try.prog G0 21 [setV n L] [] 0 (seL L) [] := by
  refine OFn.of_code mixed [0, 2, 4] Try.func21 rfl Try.results21 Try.ntmps21 (by kernel_rfl) (by simp) ?_
  (repeat' (first | with_reducible refine GhW.now ?_ | with_reducible refine endW.now ?_ | with_reducible refine DoneW.out ?_ |  simp -implicitDefEqProofs -dsimp only [push_cast, ↓reduceIte, Nat.reduceMul, Nat.reduceAdd, Nat.reduceSub, Nat.reduceEqDiff, Nat.reduceBeqDiff, Nat.reduceLeDiff, Nat.reduceLT, reduceCtorEq, Int.reduceToNat, ↓ndW_true, ↓brM_true, ↓brM_false, ↓dstL_zero, ↓dstL_succ, ↓brW_true, ↓brW_false, ↓optW_some, ↓elW_zero, ↓elW_succ, ↓elW_map, ↓boolW_lit, ↓grdW_lit, ↓grdW_skip, ↓condW_lit, ↓pickW_lit, ↓calleeW_fn, ↓calleeW_d, ↓cellW_cell, ↓rowW_row, ↓iterW_iter, ↓seqK_normal, ↓seqK_exit, ↓seqK_ret, ↓blockK_normal, ↓blockK_ret, ↓blockK_exit, ↓retK_normal, ↓retK_ret, ↓loadV_pd, ↓loadV_po, ↓loadV_pe, ↓elemW, ↓evF_tmp, ↓evF_const, ↓evF_func, ↓guard_none, ↓guard_true, ↓guard_false, ↓codeW, ↓regW_true, ↓regW_false, ↓opsW_nil, ↓opsW_cons, ↓opsD_nil, ↓opsD_cons, ↓pvW_some, ↓pvsW_some, ↓vcallD_call] | (simp -implicitDefEqProofs -dsimp (disch := omega) only [w64, wu64, half64, half64']) | (with_reducible refine ndW.intro' (by first | omega | (simp; done) | (simp; omega) | (simp [allFit, Fit, appFits, V.cellOk, Value.oneCell', D.cells]; done) | (simp [allFit, Fit, appFits, V.cellOk, Value.oneCell', D.cells]; omega)) ?_) | ((first | with_reducible refine brW.dec (fun h => ?_) (fun h => ?_) | with_reducible refine brM.dec (fun h => ?_) (fun h => ?_) | with_reducible refine brW.beq (fun h => ?_) (fun h => ?_) | with_reducible refine brM.beq (fun h => ?_) (fun h => ?_) | with_reducible refine brM.ndec (fun h => ?_) (fun h => ?_) | with_reducible refine brW.ndec (fun h => ?_) (fun h => ?_) | with_reducible refine brM.dand (fun h => ?_) (fun h => ?_) | with_reducible refine brW.dand (fun h => ?_) (fun h => ?_) | with_reducible refine brM.dor (fun h => ?_) (fun h => ?_) | with_reducible refine brW.dor (fun h => ?_) (fun h => ?_) | with_reducible refine brM.bne (fun h => ?_) (fun h => ?_) | with_reducible refine brW.bne (fun h => ?_) (fun h => ?_)) <;> (first | (exfalso; omega) | skip)) | (with_reducible refine brW.two (fun h => ?_) (fun h => ?_)) | (with_reducible refine brM.two (fun h => ?_) (fun h => ?_))))
  refine CallW.of [] (by kernel_rfl) (Clone_fn L h0 hl) rfl ?_
  (repeat' (first | with_reducible refine GhW.now ?_ | with_reducible refine endW.now ?_ |  simp -implicitDefEqProofs -dsimp only [push_cast, ↓reduceIte, Nat.reduceMul, Nat.reduceAdd, Nat.reduceSub, Nat.reduceEqDiff, Nat.reduceBeqDiff, Nat.reduceLeDiff, Nat.reduceLT, reduceCtorEq, Int.reduceToNat, ↓ndW_true, ↓brM_true, ↓brM_false, ↓dstL_zero, ↓dstL_succ, ↓brW_true, ↓brW_false, ↓optW_some, ↓elW_zero, ↓elW_succ, ↓elW_map, ↓boolW_lit, ↓grdW_lit, ↓grdW_skip, ↓condW_lit, ↓pickW_lit, ↓calleeW_fn, ↓calleeW_d, ↓cellW_cell, ↓rowW_row, ↓iterW_iter, ↓seqK_normal, ↓seqK_exit, ↓seqK_ret, ↓blockK_normal, ↓blockK_ret, ↓blockK_exit, ↓retK_normal, ↓retK_ret, ↓loadV_pd, ↓loadV_po, ↓loadV_pe, ↓elemW, ↓evF_tmp, ↓evF_const, ↓evF_func, ↓guard_none, ↓guard_true, ↓guard_false, ↓codeW, ↓regW_true, ↓regW_false, ↓opsW_nil, ↓opsW_cons, ↓opsD_nil, ↓opsD_cons, ↓pvW_some, ↓pvsW_some, ↓vcallD_call] | (simp -implicitDefEqProofs -dsimp (disch := omega) only [w64, wu64, half64, half64']) | (with_reducible refine ndW.intro' (by first | omega | (simp; done) | (simp; omega) | (simp [allFit, Fit, appFits, V.cellOk, Value.oneCell', D.cells]; done) | (simp [allFit, Fit, appFits, V.cellOk, Value.oneCell', D.cells]; omega)) ?_) | ((first | with_reducible refine brW.dec (fun h => ?_) (fun h => ?_) | with_reducible refine brM.dec (fun h => ?_) (fun h => ?_) | with_reducible refine brW.beq (fun h => ?_) (fun h => ?_) | with_reducible refine brM.beq (fun h => ?_) (fun h => ?_) | with_reducible refine brM.ndec (fun h => ?_) (fun h => ?_) | with_reducible refine brW.ndec (fun h => ?_) (fun h => ?_) | with_reducible refine brM.dand (fun h => ?_) (fun h => ?_) | with_reducible refine brW.dand (fun h => ?_) (fun h => ?_) | with_reducible refine brM.dor (fun h => ?_) (fun h => ?_) | with_reducible refine brW.dor (fun h => ?_) (fun h => ?_) | with_reducible refine brM.bne (fun h => ?_) (fun h => ?_) | with_reducible refine brW.bne (fun h => ?_) (fun h => ?_)) <;> (first | (exfalso; omega) | skip)) | (with_reducible refine brW.two (fun h => ?_) (fun h => ?_)) | (with_reducible refine brM.two (fun h => ?_) (fun h => ?_))))
  refine DoneW.frz 28 (DoneW.out ?_)
  (repeat' (first | with_reducible refine GhW.now ?_ | with_reducible refine endW.now ?_ |  simp -implicitDefEqProofs -dsimp only [push_cast, ↓reduceIte, Nat.reduceMul, Nat.reduceAdd, Nat.reduceSub, Nat.reduceEqDiff, Nat.reduceBeqDiff, Nat.reduceLeDiff, Nat.reduceLT, reduceCtorEq, Int.reduceToNat, ↓ndW_true, ↓brM_true, ↓brM_false, ↓dstL_zero, ↓dstL_succ, ↓brW_true, ↓brW_false, ↓optW_some, ↓elW_zero, ↓elW_succ, ↓elW_map, ↓boolW_lit, ↓grdW_lit, ↓grdW_skip, ↓condW_lit, ↓pickW_lit, ↓calleeW_fn, ↓calleeW_d, ↓cellW_cell, ↓rowW_row, ↓iterW_iter, ↓seqK_normal, ↓seqK_exit, ↓seqK_ret, ↓blockK_normal, ↓blockK_ret, ↓blockK_exit, ↓retK_normal, ↓retK_ret, ↓loadV_pd, ↓loadV_po, ↓loadV_pe, ↓elemW, ↓evF_tmp, ↓evF_const, ↓evF_func, ↓guard_none, ↓guard_true, ↓guard_false, ↓codeW, ↓regW_true, ↓regW_false, ↓opsW_nil, ↓opsW_cons, ↓opsD_nil, ↓opsD_cons, ↓pvW_some, ↓pvsW_some, ↓vcallD_call] | (simp -implicitDefEqProofs -dsimp (disch := omega) only [w64, wu64, half64, half64']) | (with_reducible refine ndW.intro' (by first | omega | (simp; done) | (simp; omega) | (simp [allFit, Fit, appFits, V.cellOk, Value.oneCell', D.cells]; done) | (simp [allFit, Fit, appFits, V.cellOk, Value.oneCell', D.cells]; omega)) ?_) | ((first | with_reducible refine brW.dec (fun h => ?_) (fun h => ?_) | with_reducible refine brM.dec (fun h => ?_) (fun h => ?_) | with_reducible refine brW.beq (fun h => ?_) (fun h => ?_) | with_reducible refine brM.beq (fun h => ?_) (fun h => ?_) | with_reducible refine brM.ndec (fun h => ?_) (fun h => ?_) | with_reducible refine brW.ndec (fun h => ?_) (fun h => ?_) | with_reducible refine brM.dand (fun h => ?_) (fun h => ?_) | with_reducible refine brW.dand (fun h => ?_) (fun h => ?_) | with_reducible refine brM.dor (fun h => ?_) (fun h => ?_) | with_reducible refine brW.dor (fun h => ?_) (fun h => ?_) | with_reducible refine brM.bne (fun h => ?_) (fun h => ?_) | with_reducible refine brW.bne (fun h => ?_) (fun h => ?_)) <;> (first | (exfalso; omega) | skip)) | (with_reducible refine brW.two (fun h => ?_) (fun h => ?_)) | (with_reducible refine brM.two (fun h => ?_) (fun h => ?_))))
  rw [List.take_of_length_le (by simp)]
theorem snoc_map (es : List Se) (a b : Int) : es.map seD ++ [D.agg [D.lit (.int .i64 a), D.lit (.int .i64 b)]] = (es ++ [(a, b)]).map seD := by rw [List.map_append]; rfl
def refsS (l : List Se) (x : Nat × List Se) : St := ⟨[(3, .so 0 2 0 x.2.length), (6, seL l), (7, iv l.length), (8, iv x.1)], [(0, seR x.2)], 1⟩
attribute [push_cast] refsS.eq_def
theorem refs_fn (l : List Se) (hl : l.length ≤ 100000) : OFn Try.prog G0 20 [seL l] [] 0 (seL l) [] := by
  refine OFn.of_code mixed [0, 2, 3, 5, 6, 7, 8, 9] Try.func20 rfl Try.results20 Try.ntmps20 (by kernel_rfl) (by simp) ?_
  (repeat' (first | with_reducible refine GhW.now ?_ | with_reducible refine endW.now ?_ |  simp -implicitDefEqProofs -dsimp only [push_cast, ↓reduceIte, Nat.reduceMul, Nat.reduceAdd, Nat.reduceSub, Nat.reduceEqDiff, Nat.reduceBeqDiff, Nat.reduceLeDiff, Nat.reduceLT, reduceCtorEq, Int.reduceToNat, ↓ndW_true, ↓brM_true, ↓brM_false, ↓dstL_zero, ↓dstL_succ, ↓brW_true, ↓brW_false, ↓optW_some, ↓elW_zero, ↓elW_succ, ↓elW_map, ↓boolW_lit, ↓grdW_lit, ↓grdW_skip, ↓condW_lit, ↓pickW_lit, ↓calleeW_fn, ↓calleeW_d, ↓cellW_cell, ↓rowW_row, ↓iterW_iter, ↓seqK_normal, ↓seqK_exit, ↓seqK_ret, ↓blockK_normal, ↓blockK_ret, ↓blockK_exit, ↓retK_normal, ↓retK_ret, ↓loadV_pd, ↓loadV_po, ↓loadV_pe, ↓elemW, ↓evF_tmp, ↓evF_const, ↓evF_func, ↓guard_none, ↓guard_true, ↓guard_false, ↓codeW, ↓regW_true, ↓regW_false, ↓opsW_nil, ↓opsW_cons, ↓opsD_nil, ↓opsD_cons, ↓pvW_some, ↓pvsW_some, ↓vcallD_call] | (simp -implicitDefEqProofs -dsimp (disch := omega) only [w64, wu64, half64, half64']) | (with_reducible refine ndW.intro' (by first | omega | (simp; done) | (simp; omega) | (simp [allFit, Fit, appFits, V.cellOk, Value.oneCell', D.cells]; done) | (simp [allFit, Fit, appFits, V.cellOk, Value.oneCell', D.cells]; omega)) ?_) | ((first | with_reducible refine brW.dec (fun h => ?_) (fun h => ?_) | with_reducible refine brM.dec (fun h => ?_) (fun h => ?_) | with_reducible refine brW.beq (fun h => ?_) (fun h => ?_) | with_reducible refine brM.beq (fun h => ?_) (fun h => ?_) | with_reducible refine brM.ndec (fun h => ?_) (fun h => ?_) | with_reducible refine brW.ndec (fun h => ?_) (fun h => ?_) | with_reducible refine brM.dand (fun h => ?_) (fun h => ?_) | with_reducible refine brW.dand (fun h => ?_) (fun h => ?_) | with_reducible refine brM.dor (fun h => ?_) (fun h => ?_) | with_reducible refine brW.dor (fun h => ?_) (fun h => ?_) | with_reducible refine brM.bne (fun h => ?_) (fun h => ?_) | with_reducible refine brW.bne (fun h => ?_) (fun h => ?_)) <;> (first | (exfalso; omega) | skip)) | (with_reducible refine brW.two (fun h => ?_) (fun h => ?_)) | (with_reducible refine brM.two (fun h => ?_) (fun h => ?_))))
  refine loopW_go (lv := [0, 2, 3, 5, 6, 7, 8, 9]) mixed (by kernel_rfl) (refsS l) (fun x => x.1 ≤ l.length ∧ x.2 = l.take x.1) (fun x => l.length - x.1) ((0, [])) (GhW.nil 3 2 (GhW.go [3, 6, 7, 8] (by (first | rfl | (simp -implicitDefEqProofs -dsimp only [push_cast, ↓reduceIte, Nat.reduceMul, Nat.reduceAdd, Nat.reduceSub, Nat.reduceEqDiff, Nat.reduceBeqDiff, Nat.reduceLeDiff, Nat.reduceLT, reduceCtorEq, Int.reduceToNat, ↓ndW_true, ↓brM_true, ↓brM_false, ↓dstL_zero, ↓dstL_succ, ↓brW_true, ↓brW_false, ↓optW_some, ↓elW_zero, ↓elW_succ, ↓elW_map, ↓boolW_lit, ↓grdW_lit, ↓grdW_skip, ↓condW_lit, ↓pickW_lit, ↓calleeW_fn, ↓calleeW_d, ↓cellW_cell, ↓rowW_row, ↓iterW_iter, ↓seqK_normal, ↓seqK_exit, ↓seqK_ret, ↓blockK_normal, ↓blockK_ret, ↓blockK_exit, ↓retK_normal, ↓retK_ret, ↓loadV_pd, ↓loadV_po, ↓loadV_pe, ↓elemW, ↓evF_tmp, ↓evF_const, ↓evF_func, ↓guard_none, ↓guard_true, ↓guard_false, ↓codeW, ↓regW_true, ↓regW_false, ↓opsW_nil, ↓opsW_cons, ↓opsD_nil, ↓opsD_cons, ↓pvW_some, ↓pvsW_some, ↓vcallD_call]; first | done | rfl | ((simp -implicitDefEqProofs -dsimp (disch := omega) only [w64, wu64, half64, half64']); first | done | (simp -implicitDefEqProofs -dsimp only [push_cast, ↓reduceIte, Nat.reduceMul, Nat.reduceAdd, Nat.reduceSub, Nat.reduceEqDiff, Nat.reduceBeqDiff, Nat.reduceLeDiff, Nat.reduceLT, reduceCtorEq, Int.reduceToNat, ↓ndW_true, ↓brM_true, ↓brM_false, ↓dstL_zero, ↓dstL_succ, ↓brW_true, ↓brW_false, ↓optW_some, ↓elW_zero, ↓elW_succ, ↓elW_map, ↓boolW_lit, ↓grdW_lit, ↓grdW_skip, ↓condW_lit, ↓pickW_lit, ↓calleeW_fn, ↓calleeW_d, ↓cellW_cell, ↓rowW_row, ↓iterW_iter, ↓seqK_normal, ↓seqK_exit, ↓seqK_ret, ↓blockK_normal, ↓blockK_ret, ↓blockK_exit, ↓retK_normal, ↓retK_ret, ↓loadV_pd, ↓loadV_po, ↓loadV_pe, ↓elemW, ↓evF_tmp, ↓evF_const, ↓evF_func, ↓guard_none, ↓guard_true, ↓guard_false, ↓codeW, ↓regW_true, ↓regW_false, ↓opsW_nil, ↓opsW_cons, ↓opsD_nil, ↓opsD_cons, ↓pvW_some, ↓pvsW_some, ↓vcallD_call]; done)) | ((try (simp -implicitDefEqProofs -dsimp (disch := omega) only [w64, wu64, half64, half64'])); simp only [St.mk.injEq, List.cons.injEq, Prod.mk.injEq, V.d.injEq, D.lit.injEq, Value.int.injEq, true_and, and_true]; omega)))) rfl)) ?_ ?_
  · simp
  rintro ⟨i, es⟩ ⟨hi, he⟩
  simp only at hi he
  have hel : es.length = i := by rw [he]; simp; omega
  (repeat' (first | with_reducible refine GhW.now ?_ | with_reducible refine endW.now ?_ |  simp -implicitDefEqProofs -dsimp only [push_cast, ↓reduceIte, Nat.reduceMul, Nat.reduceAdd, Nat.reduceSub, Nat.reduceEqDiff, Nat.reduceBeqDiff, Nat.reduceLeDiff, Nat.reduceLT, reduceCtorEq, Int.reduceToNat, ↓ndW_true, ↓brM_true, ↓brM_false, ↓dstL_zero, ↓dstL_succ, ↓brW_true, ↓brW_false, ↓optW_some, ↓elW_zero, ↓elW_succ, ↓elW_map, ↓boolW_lit, ↓grdW_lit, ↓grdW_skip, ↓condW_lit, ↓pickW_lit, ↓calleeW_fn, ↓calleeW_d, ↓cellW_cell, ↓rowW_row, ↓iterW_iter, ↓seqK_normal, ↓seqK_exit, ↓seqK_ret, ↓blockK_normal, ↓blockK_ret, ↓blockK_exit, ↓retK_normal, ↓retK_ret, ↓loadV_pd, ↓loadV_po, ↓loadV_pe, ↓elemW, ↓evF_tmp, ↓evF_const, ↓evF_func, ↓guard_none, ↓guard_true, ↓guard_false, ↓codeW, ↓regW_true, ↓regW_false, ↓opsW_nil, ↓opsW_cons, ↓opsD_nil, ↓opsD_cons, ↓pvW_some, ↓pvsW_some, ↓vcallD_call] | (simp -implicitDefEqProofs -dsimp (disch := omega) only [w64, wu64, half64, half64']) | (with_reducible refine ndW.intro' (by first | omega | (simp; done) | (simp; omega) | (simp [allFit, Fit, appFits, V.cellOk, Value.oneCell', D.cells]; done) | (simp [allFit, Fit, appFits, V.cellOk, Value.oneCell', D.cells]; omega)) ?_) | ((first | with_reducible refine brW.dec (fun h => ?_) (fun h => ?_) | with_reducible refine brM.dec (fun h => ?_) (fun h => ?_) | with_reducible refine brW.beq (fun h => ?_) (fun h => ?_) | with_reducible refine brM.beq (fun h => ?_) (fun h => ?_) | with_reducible refine brM.ndec (fun h => ?_) (fun h => ?_) | with_reducible refine brW.ndec (fun h => ?_) (fun h => ?_) | with_reducible refine brM.dand (fun h => ?_) (fun h => ?_) | with_reducible refine brW.dand (fun h => ?_) (fun h => ?_) | with_reducible refine brM.dor (fun h => ?_) (fun h => ?_) | with_reducible refine brW.dor (fun h => ?_) (fun h => ?_) | with_reducible refine brM.bne (fun h => ?_) (fun h => ?_) | with_reducible refine brW.bne (fun h => ?_) (fun h => ?_)) <;> (first | (exfalso; omega) | skip)) | (with_reducible refine brW.two (fun h => ?_) (fun h => ?_)) | (with_reducible refine brM.two (fun h => ?_) (fun h => ?_))))
  · refine elX.intro fun c hc => ?_
    (repeat' (first | with_reducible refine GhW.now ?_ | with_reducible refine endW.now ?_ |  simp -implicitDefEqProofs -dsimp only [push_cast, ↓reduceIte, Nat.reduceMul, Nat.reduceAdd, Nat.reduceSub, Nat.reduceEqDiff, Nat.reduceBeqDiff, Nat.reduceLeDiff, Nat.reduceLT, reduceCtorEq, Int.reduceToNat, ↓ndW_true, ↓brM_true, ↓brM_false, ↓dstL_zero, ↓dstL_succ, ↓brW_true, ↓brW_false, ↓optW_some, ↓elW_zero, ↓elW_succ, ↓elW_map, ↓boolW_lit, ↓grdW_lit, ↓grdW_skip, ↓condW_lit, ↓pickW_lit, ↓calleeW_fn, ↓calleeW_d, ↓cellW_cell, ↓rowW_row, ↓iterW_iter, ↓seqK_normal, ↓seqK_exit, ↓seqK_ret, ↓blockK_normal, ↓blockK_ret, ↓blockK_exit, ↓retK_normal, ↓retK_ret, ↓loadV_pd, ↓loadV_po, ↓loadV_pe, ↓elemW, ↓evF_tmp, ↓evF_const, ↓evF_func, ↓guard_none, ↓guard_true, ↓guard_false, ↓codeW, ↓regW_true, ↓regW_false, ↓opsW_nil, ↓opsW_cons, ↓opsD_nil, ↓opsD_cons, ↓pvW_some, ↓pvsW_some, ↓vcallD_call] | (simp -implicitDefEqProofs -dsimp (disch := omega) only [w64, wu64, half64, half64']) | (with_reducible refine ndW.intro' (by first | omega | (simp; done) | (simp; omega) | (simp [allFit, Fit, appFits, V.cellOk, Value.oneCell', D.cells]; done) | (simp [allFit, Fit, appFits, V.cellOk, Value.oneCell', D.cells]; omega)) ?_) | ((first | with_reducible refine brW.dec (fun h => ?_) (fun h => ?_) | with_reducible refine brM.dec (fun h => ?_) (fun h => ?_) | with_reducible refine brW.beq (fun h => ?_) (fun h => ?_) | with_reducible refine brM.beq (fun h => ?_) (fun h => ?_) | with_reducible refine brM.ndec (fun h => ?_) (fun h => ?_) | with_reducible refine brW.ndec (fun h => ?_) (fun h => ?_) | with_reducible refine brM.dand (fun h => ?_) (fun h => ?_) | with_reducible refine brW.dand (fun h => ?_) (fun h => ?_) | with_reducible refine brM.dor (fun h => ?_) (fun h => ?_) | with_reducible refine brW.dor (fun h => ?_) (fun h => ?_) | with_reducible refine brM.bne (fun h => ?_) (fun h => ?_) | with_reducible refine brW.bne (fun h => ?_) (fun h => ?_)) <;> (first | (exfalso; omega) | skip)) | (with_reducible refine brW.two (fun h => ?_) (fun h => ?_)) | (with_reducible refine brM.two (fun h => ?_) (fun h => ?_))))
    rw [snoc_map]
    refine AgW.go ((i + 1, es ++ [c])) [3, 6, 7, 8] (by (first | rfl | (simp -implicitDefEqProofs -dsimp only [push_cast, ↓reduceIte, Nat.reduceMul, Nat.reduceAdd, Nat.reduceSub, Nat.reduceEqDiff, Nat.reduceBeqDiff, Nat.reduceLeDiff, Nat.reduceLT, reduceCtorEq, Int.reduceToNat, ↓ndW_true, ↓brM_true, ↓brM_false, ↓dstL_zero, ↓dstL_succ, ↓brW_true, ↓brW_false, ↓optW_some, ↓elW_zero, ↓elW_succ, ↓elW_map, ↓boolW_lit, ↓grdW_lit, ↓grdW_skip, ↓condW_lit, ↓pickW_lit, ↓calleeW_fn, ↓calleeW_d, ↓cellW_cell, ↓rowW_row, ↓iterW_iter, ↓seqK_normal, ↓seqK_exit, ↓seqK_ret, ↓blockK_normal, ↓blockK_ret, ↓blockK_exit, ↓retK_normal, ↓retK_ret, ↓loadV_pd, ↓loadV_po, ↓loadV_pe, ↓elemW, ↓evF_tmp, ↓evF_const, ↓evF_func, ↓guard_none, ↓guard_true, ↓guard_false, ↓codeW, ↓regW_true, ↓regW_false, ↓opsW_nil, ↓opsW_cons, ↓opsD_nil, ↓opsD_cons, ↓pvW_some, ↓pvsW_some, ↓vcallD_call]; first | done | rfl | ((simp -implicitDefEqProofs -dsimp (disch := omega) only [w64, wu64, half64, half64']); first | done | (simp -implicitDefEqProofs -dsimp only [push_cast, ↓reduceIte, Nat.reduceMul, Nat.reduceAdd, Nat.reduceSub, Nat.reduceEqDiff, Nat.reduceBeqDiff, Nat.reduceLeDiff, Nat.reduceLT, reduceCtorEq, Int.reduceToNat, ↓ndW_true, ↓brM_true, ↓brM_false, ↓dstL_zero, ↓dstL_succ, ↓brW_true, ↓brW_false, ↓optW_some, ↓elW_zero, ↓elW_succ, ↓elW_map, ↓boolW_lit, ↓grdW_lit, ↓grdW_skip, ↓condW_lit, ↓pickW_lit, ↓calleeW_fn, ↓calleeW_d, ↓cellW_cell, ↓rowW_row, ↓iterW_iter, ↓seqK_normal, ↓seqK_exit, ↓seqK_ret, ↓blockK_normal, ↓blockK_ret, ↓blockK_exit, ↓retK_normal, ↓retK_ret, ↓loadV_pd, ↓loadV_po, ↓loadV_pe, ↓elemW, ↓evF_tmp, ↓evF_const, ↓evF_func, ↓guard_none, ↓guard_true, ↓guard_false, ↓codeW, ↓regW_true, ↓regW_false, ↓opsW_nil, ↓opsW_cons, ↓opsD_nil, ↓opsD_cons, ↓pvW_some, ↓pvsW_some, ↓vcallD_call]; done)) | ((try (simp -implicitDefEqProofs -dsimp (disch := omega) only [w64, wu64, half64, half64'])); simp only [St.mk.injEq, List.cons.injEq, Prod.mk.injEq, V.d.injEq, D.lit.injEq, Value.int.injEq, true_and, and_true]; omega)))) ?_ ?_
    · show l.length - (i + 1) < l.length - i
      omega
    · refine ⟨by simp only; omega, ?_⟩
      rw [he, take_snoc' hc]
  · refine DoneW.frz 0 (DoneW.out ?_)
    (repeat' (first | with_reducible refine GhW.now ?_ | with_reducible refine endW.now ?_ |  simp -implicitDefEqProofs -dsimp only [push_cast, ↓reduceIte, Nat.reduceMul, Nat.reduceAdd, Nat.reduceSub, Nat.reduceEqDiff, Nat.reduceBeqDiff, Nat.reduceLeDiff, Nat.reduceLT, reduceCtorEq, Int.reduceToNat, ↓ndW_true, ↓brM_true, ↓brM_false, ↓dstL_zero, ↓dstL_succ, ↓brW_true, ↓brW_false, ↓optW_some, ↓elW_zero, ↓elW_succ, ↓elW_map, ↓boolW_lit, ↓grdW_lit, ↓grdW_skip, ↓condW_lit, ↓pickW_lit, ↓calleeW_fn, ↓calleeW_d, ↓cellW_cell, ↓rowW_row, ↓iterW_iter, ↓seqK_normal, ↓seqK_exit, ↓seqK_ret, ↓blockK_normal, ↓blockK_ret, ↓blockK_exit, ↓retK_normal, ↓retK_ret, ↓loadV_pd, ↓loadV_po, ↓loadV_pe, ↓elemW, ↓evF_tmp, ↓evF_const, ↓evF_func, ↓guard_none, ↓guard_true, ↓guard_false, ↓codeW, ↓regW_true, ↓regW_false, ↓opsW_nil, ↓opsW_cons, ↓opsD_nil, ↓opsD_cons, ↓pvW_some, ↓pvsW_some, ↓vcallD_call] | (simp -implicitDefEqProofs -dsimp (disch := omega) only [w64, wu64, half64, half64']) | (with_reducible refine ndW.intro' (by first | omega | (simp; done) | (simp; omega) | (simp [allFit, Fit, appFits, V.cellOk, Value.oneCell', D.cells]; done) | (simp [allFit, Fit, appFits, V.cellOk, Value.oneCell', D.cells]; omega)) ?_) | ((first | with_reducible refine brW.dec (fun h => ?_) (fun h => ?_) | with_reducible refine brM.dec (fun h => ?_) (fun h => ?_) | with_reducible refine brW.beq (fun h => ?_) (fun h => ?_) | with_reducible refine brM.beq (fun h => ?_) (fun h => ?_) | with_reducible refine brM.ndec (fun h => ?_) (fun h => ?_) | with_reducible refine brW.ndec (fun h => ?_) (fun h => ?_) | with_reducible refine brM.dand (fun h => ?_) (fun h => ?_) | with_reducible refine brW.dand (fun h => ?_) (fun h => ?_) | with_reducible refine brM.dor (fun h => ?_) (fun h => ?_) | with_reducible refine brW.dor (fun h => ?_) (fun h => ?_) | with_reducible refine brM.bne (fun h => ?_) (fun h => ?_) | with_reducible refine brW.bne (fun h => ?_) (fun h => ?_)) <;> (first | (exfalso; omega) | skip)) | (with_reducible refine brW.two (fun h => ?_) (fun h => ?_)) | (with_reducible refine brM.two (fun h => ?_) (fun h => ?_))))
    rw [he, List.take_of_length_le (by simp), List.take_of_length_le (by omega)]
end Go.Proofs.Ytlledfabkmmgoaa
/- The document's sets of selections. -/
set_option linter.unusedSimpArgs false
set_option linter.unusedVariables false
set_option maxRecDepth 8000
namespace Go.Proofs.Ytlledfabkmmgoaa
def ordS (l : List Se) (x : Nat × List Se) : St := ⟨[(3, .so 0 2 0 x.2.length), (10, seL l), (11, iv l.length), (12, iv x.1)], [(0, seR x.2)], 1⟩
def ordS2 (l out : List Se) (i : Nat) (x : Se) (y : Nat × Bool × List Se) : St := ⟨[(5, .po 0 0), (6, .so 1 2 0 y.2.2.length), (7, bv y.2.1), (10, seL l), (11, iv l.length), (12, iv i), (16, .so 2 2 0 out.length), (17, iv out.length), (18, iv y.1)],
  [(0, .cell [iv x.1, iv x.2]), (1, seR y.2.2), (2, seR out)], 3⟩
attribute [push_cast] ordS.eq_def ordS2.eq_def
set_option maxHeartbeats 4000000 in
theorem ordered_fn (l : List Se) (hl : l.length ≤ 100000) : OFn Try.prog G0 51 [seL l] [] 0 (seL (sortS l)) [] := by
  refine OFn.of_code mixed [0, 2, 3, 5, 6, 7, 9, 10, 11, 12, 13, 16, 17, 18, 19, 28, 39] Try.func51 rfl Try.results51 Try.ntmps51 (by kernel_rfl) (by simp) ?_
  (repeat' (first | with_reducible refine GhW.now ?_ | with_reducible refine endW.now ?_ |  simp -implicitDefEqProofs -dsimp only [push_cast, ↓reduceIte, Nat.reduceMul, Nat.reduceAdd, Nat.reduceSub, Nat.reduceEqDiff, Nat.reduceBeqDiff, Nat.reduceLeDiff, Nat.reduceLT, reduceCtorEq, Int.reduceToNat, ↓ndW_true, ↓brM_true, ↓brM_false, ↓dstL_zero, ↓dstL_succ, ↓brW_true, ↓brW_false, ↓optW_some, ↓elW_zero, ↓elW_succ, ↓elW_map, ↓boolW_lit, ↓grdW_lit, ↓grdW_skip, ↓condW_lit, ↓pickW_lit, ↓calleeW_fn, ↓calleeW_d, ↓cellW_cell, ↓rowW_row, ↓iterW_iter, ↓seqK_normal, ↓seqK_exit, ↓seqK_ret, ↓blockK_normal, ↓blockK_ret, ↓blockK_exit, ↓retK_normal, ↓retK_ret, ↓loadV_pd, ↓loadV_po, ↓loadV_pe, ↓elemW, ↓evF_tmp, ↓evF_const, ↓evF_func, ↓guard_none, ↓guard_true, ↓guard_false, ↓codeW, ↓regW_true, ↓regW_false, ↓opsW_nil, ↓opsW_cons, ↓opsD_nil, ↓opsD_cons, ↓pvW_some, ↓pvsW_some, ↓vcallD_call] | (simp -implicitDefEqProofs -dsimp (disch := omega) only [w64, wu64, half64, half64']) | (with_reducible refine ndW.intro' (by first | omega | (simp; done) | (simp; omega) | (simp [allFit, Fit, appFits, V.cellOk, Value.oneCell', D.cells]; done) | (simp [allFit, Fit, appFits, V.cellOk, Value.oneCell', D.cells]; omega)) ?_) | ((first | with_reducible refine brW.dec (fun h => ?_) (fun h => ?_) | with_reducible refine brM.dec (fun h => ?_) (fun h => ?_) | with_reducible refine brW.beq (fun h => ?_) (fun h => ?_) | with_reducible refine brM.beq (fun h => ?_) (fun h => ?_) | with_reducible refine brM.ndec (fun h => ?_) (fun h => ?_) | with_reducible refine brW.ndec (fun h => ?_) (fun h => ?_) | with_reducible refine brM.dand (fun h => ?_) (fun h => ?_) | with_reducible refine brW.dand (fun h => ?_) (fun h => ?_) | with_reducible refine brM.dor (fun h => ?_) (fun h => ?_) | with_reducible refine brW.dor (fun h => ?_) (fun h => ?_) | with_reducible refine brM.bne (fun h => ?_) (fun h => ?_) | with_reducible refine brW.bne (fun h => ?_) (fun h => ?_)) <;> (first | (exfalso; omega) | skip)) | (with_reducible refine brW.two (fun h => ?_) (fun h => ?_)) | (with_reducible refine brM.two (fun h => ?_) (fun h => ?_))))
  refine loopW_go (lv := [0, 2, 3, 5, 6, 7, 9, 10, 11, 12, 13, 16, 17, 18, 19, 28, 39]) mixed (by kernel_rfl) (ordS l) (fun x => x.1 ≤ l.length ∧ x.2 = sortS (l.take x.1)) (fun x => l.length - x.1) ((0, [])) (GhW.nil 3 2 (GhW.go [3, 10, 11, 12] (by (first | rfl | (simp -implicitDefEqProofs -dsimp only [push_cast, ↓reduceIte, Nat.reduceMul, Nat.reduceAdd, Nat.reduceSub, Nat.reduceEqDiff, Nat.reduceBeqDiff, Nat.reduceLeDiff, Nat.reduceLT, reduceCtorEq, Int.reduceToNat, ↓ndW_true, ↓brM_true, ↓brM_false, ↓dstL_zero, ↓dstL_succ, ↓brW_true, ↓brW_false, ↓optW_some, ↓elW_zero, ↓elW_succ, ↓elW_map, ↓boolW_lit, ↓grdW_lit, ↓grdW_skip, ↓condW_lit, ↓pickW_lit, ↓calleeW_fn, ↓calleeW_d, ↓cellW_cell, ↓rowW_row, ↓iterW_iter, ↓seqK_normal, ↓seqK_exit, ↓seqK_ret, ↓blockK_normal, ↓blockK_ret, ↓blockK_exit, ↓retK_normal, ↓retK_ret, ↓loadV_pd, ↓loadV_po, ↓loadV_pe, ↓elemW, ↓evF_tmp, ↓evF_const, ↓evF_func, ↓guard_none, ↓guard_true, ↓guard_false, ↓codeW, ↓regW_true, ↓regW_false, ↓opsW_nil, ↓opsW_cons, ↓opsD_nil, ↓opsD_cons, ↓pvW_some, ↓pvsW_some, ↓vcallD_call]; first | done | rfl | ((simp -implicitDefEqProofs -dsimp (disch := omega) only [w64, wu64, half64, half64']); first | done | (simp -implicitDefEqProofs -dsimp only [push_cast, ↓reduceIte, Nat.reduceMul, Nat.reduceAdd, Nat.reduceSub, Nat.reduceEqDiff, Nat.reduceBeqDiff, Nat.reduceLeDiff, Nat.reduceLT, reduceCtorEq, Int.reduceToNat, ↓ndW_true, ↓brM_true, ↓brM_false, ↓dstL_zero, ↓dstL_succ, ↓brW_true, ↓brW_false, ↓optW_some, ↓elW_zero, ↓elW_succ, ↓elW_map, ↓boolW_lit, ↓grdW_lit, ↓grdW_skip, ↓condW_lit, ↓pickW_lit, ↓calleeW_fn, ↓calleeW_d, ↓cellW_cell, ↓rowW_row, ↓iterW_iter, ↓seqK_normal, ↓seqK_exit, ↓seqK_ret, ↓blockK_normal, ↓blockK_ret, ↓blockK_exit, ↓retK_normal, ↓retK_ret, ↓loadV_pd, ↓loadV_po, ↓loadV_pe, ↓elemW, ↓evF_tmp, ↓evF_const, ↓evF_func, ↓guard_none, ↓guard_true, ↓guard_false, ↓codeW, ↓regW_true, ↓regW_false, ↓opsW_nil, ↓opsW_cons, ↓opsD_nil, ↓opsD_cons, ↓pvW_some, ↓pvsW_some, ↓vcallD_call]; done)) | ((try (simp -implicitDefEqProofs -dsimp (disch := omega) only [w64, wu64, half64, half64'])); simp only [St.mk.injEq, List.cons.injEq, Prod.mk.injEq, V.d.injEq, D.lit.injEq, Value.int.injEq, true_and, and_true]; omega)))) rfl)) ?_ ?_
  · exact ⟨Nat.zero_le _, rfl⟩
  rintro ⟨i, out⟩ ⟨hi, ho⟩
  simp only at hi ho
  have hel : out.length = i := by rw [ho, sortS_len]; simp; omega
  (repeat' (first | with_reducible refine GhW.now ?_ | with_reducible refine endW.now ?_ |  simp -implicitDefEqProofs -dsimp only [push_cast, ↓reduceIte, Nat.reduceMul, Nat.reduceAdd, Nat.reduceSub, Nat.reduceEqDiff, Nat.reduceBeqDiff, Nat.reduceLeDiff, Nat.reduceLT, reduceCtorEq, Int.reduceToNat, ↓ndW_true, ↓brM_true, ↓brM_false, ↓dstL_zero, ↓dstL_succ, ↓brW_true, ↓brW_false, ↓optW_some, ↓elW_zero, ↓elW_succ, ↓elW_map, ↓boolW_lit, ↓grdW_lit, ↓grdW_skip, ↓condW_lit, ↓pickW_lit, ↓calleeW_fn, ↓calleeW_d, ↓cellW_cell, ↓rowW_row, ↓iterW_iter, ↓seqK_normal, ↓seqK_exit, ↓seqK_ret, ↓blockK_normal, ↓blockK_ret, ↓blockK_exit, ↓retK_normal, ↓retK_ret, ↓loadV_pd, ↓loadV_po, ↓loadV_pe, ↓elemW, ↓evF_tmp, ↓evF_const, ↓evF_func, ↓guard_none, ↓guard_true, ↓guard_false, ↓codeW, ↓regW_true, ↓regW_false, ↓opsW_nil, ↓opsW_cons, ↓opsD_nil, ↓opsD_cons, ↓pvW_some, ↓pvsW_some, ↓vcallD_call] | (simp -implicitDefEqProofs -dsimp (disch := omega) only [w64, wu64, half64, half64']) | (with_reducible refine ndW.intro' (by first | omega | (simp; done) | (simp; omega) | (simp [allFit, Fit, appFits, V.cellOk, Value.oneCell', D.cells]; done) | (simp [allFit, Fit, appFits, V.cellOk, Value.oneCell', D.cells]; omega)) ?_) | ((first | with_reducible refine brW.dec (fun h => ?_) (fun h => ?_) | with_reducible refine brM.dec (fun h => ?_) (fun h => ?_) | with_reducible refine brW.beq (fun h => ?_) (fun h => ?_) | with_reducible refine brM.beq (fun h => ?_) (fun h => ?_) | with_reducible refine brM.ndec (fun h => ?_) (fun h => ?_) | with_reducible refine brW.ndec (fun h => ?_) (fun h => ?_) | with_reducible refine brM.dand (fun h => ?_) (fun h => ?_) | with_reducible refine brW.dand (fun h => ?_) (fun h => ?_) | with_reducible refine brM.dor (fun h => ?_) (fun h => ?_) | with_reducible refine brW.dor (fun h => ?_) (fun h => ?_) | with_reducible refine brM.bne (fun h => ?_) (fun h => ?_) | with_reducible refine brW.bne (fun h => ?_) (fun h => ?_)) <;> (first | (exfalso; omega) | skip)) | (with_reducible refine brW.two (fun h => ?_) (fun h => ?_)) | (with_reducible refine brM.two (fun h => ?_) (fun h => ?_))))
  · refine elX.intro fun x hx => ?_
    (repeat' (first | with_reducible refine GhW.now ?_ | with_reducible refine endW.now ?_ |  simp -implicitDefEqProofs -dsimp only [push_cast, ↓reduceIte, Nat.reduceMul, Nat.reduceAdd, Nat.reduceSub, Nat.reduceEqDiff, Nat.reduceBeqDiff, Nat.reduceLeDiff, Nat.reduceLT, reduceCtorEq, Int.reduceToNat, ↓ndW_true, ↓brM_true, ↓brM_false, ↓dstL_zero, ↓dstL_succ, ↓brW_true, ↓brW_false, ↓optW_some, ↓elW_zero, ↓elW_succ, ↓elW_map, ↓boolW_lit, ↓grdW_lit, ↓grdW_skip, ↓condW_lit, ↓pickW_lit, ↓calleeW_fn, ↓calleeW_d, ↓cellW_cell, ↓rowW_row, ↓iterW_iter, ↓seqK_normal, ↓seqK_exit, ↓seqK_ret, ↓blockK_normal, ↓blockK_ret, ↓blockK_exit, ↓retK_normal, ↓retK_ret, ↓loadV_pd, ↓loadV_po, ↓loadV_pe, ↓elemW, ↓evF_tmp, ↓evF_const, ↓evF_func, ↓guard_none, ↓guard_true, ↓guard_false, ↓codeW, ↓regW_true, ↓regW_false, ↓opsW_nil, ↓opsW_cons, ↓opsD_nil, ↓opsD_cons, ↓pvW_some, ↓pvsW_some, ↓vcallD_call] | (simp -implicitDefEqProofs -dsimp (disch := omega) only [w64, wu64, half64, half64']) | (with_reducible refine ndW.intro' (by first | omega | (simp; done) | (simp; omega) | (simp [allFit, Fit, appFits, V.cellOk, Value.oneCell', D.cells]; done) | (simp [allFit, Fit, appFits, V.cellOk, Value.oneCell', D.cells]; omega)) ?_) | ((first | with_reducible refine brW.dec (fun h => ?_) (fun h => ?_) | with_reducible refine brM.dec (fun h => ?_) (fun h => ?_) | with_reducible refine brW.beq (fun h => ?_) (fun h => ?_) | with_reducible refine brM.beq (fun h => ?_) (fun h => ?_) | with_reducible refine brM.ndec (fun h => ?_) (fun h => ?_) | with_reducible refine brW.ndec (fun h => ?_) (fun h => ?_) | with_reducible refine brM.dand (fun h => ?_) (fun h => ?_) | with_reducible refine brW.dand (fun h => ?_) (fun h => ?_) | with_reducible refine brM.dor (fun h => ?_) (fun h => ?_) | with_reducible refine brW.dor (fun h => ?_) (fun h => ?_) | with_reducible refine brM.bne (fun h => ?_) (fun h => ?_) | with_reducible refine brW.bne (fun h => ?_) (fun h => ?_)) <;> (first | (exfalso; omega) | skip)) | (with_reducible refine brW.two (fun h => ?_) (fun h => ?_)) | (with_reducible refine brM.two (fun h => ?_) (fun h => ?_))))
    refine loopW_go (lv := [0, 2, 3, 5, 6, 7, 9, 10, 11, 12, 13, 16, 17, 18, 19, 28, 39]) mixed (by kernel_rfl) (ordS2 l out i x) (fun y => y.1 ≤ out.length ∧ y.2.2.length ≤ y.1 + y.2.1.toNat ∧ y.2.2 ++ (if y.2.1 = true then out.drop y.1 else insS x (out.drop y.1)) = insS x out) (fun y => out.length - y.1) ((0, false, [])) (GhW.nil 6 2 (GhW.go [5, 6, 7, 10, 11, 12, 16, 17, 18] (by (first | rfl | (simp -implicitDefEqProofs -dsimp only [push_cast, ↓reduceIte, Nat.reduceMul, Nat.reduceAdd, Nat.reduceSub, Nat.reduceEqDiff, Nat.reduceBeqDiff, Nat.reduceLeDiff, Nat.reduceLT, reduceCtorEq, Int.reduceToNat, ↓ndW_true, ↓brM_true, ↓brM_false, ↓dstL_zero, ↓dstL_succ, ↓brW_true, ↓brW_false, ↓optW_some, ↓elW_zero, ↓elW_succ, ↓elW_map, ↓boolW_lit, ↓grdW_lit, ↓grdW_skip, ↓condW_lit, ↓pickW_lit, ↓calleeW_fn, ↓calleeW_d, ↓cellW_cell, ↓rowW_row, ↓iterW_iter, ↓seqK_normal, ↓seqK_exit, ↓seqK_ret, ↓blockK_normal, ↓blockK_ret, ↓blockK_exit, ↓retK_normal, ↓retK_ret, ↓loadV_pd, ↓loadV_po, ↓loadV_pe, ↓elemW, ↓evF_tmp, ↓evF_const, ↓evF_func, ↓guard_none, ↓guard_true, ↓guard_false, ↓codeW, ↓regW_true, ↓regW_false, ↓opsW_nil, ↓opsW_cons, ↓opsD_nil, ↓opsD_cons, ↓pvW_some, ↓pvsW_some, ↓vcallD_call]; first | done | rfl | ((simp -implicitDefEqProofs -dsimp (disch := omega) only [w64, wu64, half64, half64']); first | done | (simp -implicitDefEqProofs -dsimp only [push_cast, ↓reduceIte, Nat.reduceMul, Nat.reduceAdd, Nat.reduceSub, Nat.reduceEqDiff, Nat.reduceBeqDiff, Nat.reduceLeDiff, Nat.reduceLT, reduceCtorEq, Int.reduceToNat, ↓ndW_true, ↓brM_true, ↓brM_false, ↓dstL_zero, ↓dstL_succ, ↓brW_true, ↓brW_false, ↓optW_some, ↓elW_zero, ↓elW_succ, ↓elW_map, ↓boolW_lit, ↓grdW_lit, ↓grdW_skip, ↓condW_lit, ↓pickW_lit, ↓calleeW_fn, ↓calleeW_d, ↓cellW_cell, ↓rowW_row, ↓iterW_iter, ↓seqK_normal, ↓seqK_exit, ↓seqK_ret, ↓blockK_normal, ↓blockK_ret, ↓blockK_exit, ↓retK_normal, ↓retK_ret, ↓loadV_pd, ↓loadV_po, ↓loadV_pe, ↓elemW, ↓evF_tmp, ↓evF_const, ↓evF_func, ↓guard_none, ↓guard_true, ↓guard_false, ↓codeW, ↓regW_true, ↓regW_false, ↓opsW_nil, ↓opsW_cons, ↓opsD_nil, ↓opsD_cons, ↓pvW_some, ↓pvsW_some, ↓vcallD_call]; done)) | ((try (simp -implicitDefEqProofs -dsimp (disch := omega) only [w64, wu64, half64, half64'])); simp only [St.mk.injEq, List.cons.injEq, Prod.mk.injEq, V.d.injEq, D.lit.injEq, Value.int.injEq, true_and, and_true]; omega)))) rfl)) ?_ ?_
    · exact ⟨Nat.zero_le _, by simp, by simp⟩
    rintro ⟨j, put, es⟩ ⟨hj, hes, he⟩
    simp only at hj hes he
    rcases put with _ | _
    · have hes : es.length ≤ j := by simpa using hes
      (repeat' (first | with_reducible refine GhW.now ?_ | with_reducible refine endW.now ?_ |  simp -implicitDefEqProofs -dsimp only [push_cast, ↓reduceIte, Nat.reduceMul, Nat.reduceAdd, Nat.reduceSub, Nat.reduceEqDiff, Nat.reduceBeqDiff, Nat.reduceLeDiff, Nat.reduceLT, reduceCtorEq, Int.reduceToNat, ↓ndW_true, ↓brM_true, ↓brM_false, ↓dstL_zero, ↓dstL_succ, ↓brW_true, ↓brW_false, ↓optW_some, ↓elW_zero, ↓elW_succ, ↓elW_map, ↓boolW_lit, ↓grdW_lit, ↓grdW_skip, ↓condW_lit, ↓pickW_lit, ↓calleeW_fn, ↓calleeW_d, ↓cellW_cell, ↓rowW_row, ↓iterW_iter, ↓seqK_normal, ↓seqK_exit, ↓seqK_ret, ↓blockK_normal, ↓blockK_ret, ↓blockK_exit, ↓retK_normal, ↓retK_ret, ↓loadV_pd, ↓loadV_po, ↓loadV_pe, ↓elemW, ↓evF_tmp, ↓evF_const, ↓evF_func, ↓guard_none, ↓guard_true, ↓guard_false, ↓codeW, ↓regW_true, ↓regW_false, ↓opsW_nil, ↓opsW_cons, ↓opsD_nil, ↓opsD_cons, ↓pvW_some, ↓pvsW_some, ↓vcallD_call] | (simp -implicitDefEqProofs -dsimp (disch := omega) only [w64, wu64, half64, half64']) | (with_reducible refine ndW.intro' (by first | omega | (simp; done) | (simp; omega) | (simp [allFit, Fit, appFits, V.cellOk, Value.oneCell', D.cells]; done) | (simp [allFit, Fit, appFits, V.cellOk, Value.oneCell', D.cells]; omega)) ?_) | ((first | with_reducible refine brW.dec (fun h => ?_) (fun h => ?_) | with_reducible refine brM.dec (fun h => ?_) (fun h => ?_) | with_reducible refine brW.beq (fun h => ?_) (fun h => ?_) | with_reducible refine brM.beq (fun h => ?_) (fun h => ?_) | with_reducible refine brM.ndec (fun h => ?_) (fun h => ?_) | with_reducible refine brW.ndec (fun h => ?_) (fun h => ?_) | with_reducible refine brM.dand (fun h => ?_) (fun h => ?_) | with_reducible refine brW.dand (fun h => ?_) (fun h => ?_) | with_reducible refine brM.dor (fun h => ?_) (fun h => ?_) | with_reducible refine brW.dor (fun h => ?_) (fun h => ?_) | with_reducible refine brM.bne (fun h => ?_) (fun h => ?_) | with_reducible refine brW.bne (fun h => ?_) (fun h => ?_)) <;> (first | (exfalso; omega) | skip)) | (with_reducible refine brW.two (fun h => ?_) (fun h => ?_)) | (with_reducible refine brM.two (fun h => ?_) (fun h => ?_))))
      · refine elX.intro fun y hy => ?_
        (repeat' (first | with_reducible refine GhW.now ?_ | with_reducible refine endW.now ?_ | (with_reducible refine callD.d (Rless_fn _ _) (by kernel_rfl) rfl rfl ?_) | (with_reducible refine CallW.d (Rless_fn _ _) (by kernel_rfl) rfl rfl ?_) |  simp -implicitDefEqProofs -dsimp only [push_cast, ↓reduceIte, Nat.reduceMul, Nat.reduceAdd, Nat.reduceSub, Nat.reduceEqDiff, Nat.reduceBeqDiff, Nat.reduceLeDiff, Nat.reduceLT, reduceCtorEq, Int.reduceToNat, ↓ndW_true, ↓brM_true, ↓brM_false, ↓dstL_zero, ↓dstL_succ, ↓brW_true, ↓brW_false, ↓optW_some, ↓elW_zero, ↓elW_succ, ↓elW_map, ↓boolW_lit, ↓grdW_lit, ↓grdW_skip, ↓condW_lit, ↓pickW_lit, ↓calleeW_fn, ↓calleeW_d, ↓cellW_cell, ↓rowW_row, ↓iterW_iter, ↓seqK_normal, ↓seqK_exit, ↓seqK_ret, ↓blockK_normal, ↓blockK_ret, ↓blockK_exit, ↓retK_normal, ↓retK_ret, ↓loadV_pd, ↓loadV_po, ↓loadV_pe, ↓elemW, ↓evF_tmp, ↓evF_const, ↓evF_func, ↓guard_none, ↓guard_true, ↓guard_false, ↓codeW, ↓regW_true, ↓regW_false, ↓opsW_nil, ↓opsW_cons, ↓opsD_nil, ↓opsD_cons, ↓pvW_some, ↓pvsW_some, ↓vcallD_call] | (simp -implicitDefEqProofs -dsimp (disch := omega) only [w64, wu64, half64, half64']) | (with_reducible refine ndW.intro' (by first | omega | (simp; done) | (simp; omega) | (simp [allFit, Fit, appFits, V.cellOk, Value.oneCell', D.cells]; done) | (simp [allFit, Fit, appFits, V.cellOk, Value.oneCell', D.cells]; omega)) ?_) | ((first | with_reducible refine brW.dec (fun h => ?_) (fun h => ?_) | with_reducible refine brM.dec (fun h => ?_) (fun h => ?_) | with_reducible refine brW.beq (fun h => ?_) (fun h => ?_) | with_reducible refine brM.beq (fun h => ?_) (fun h => ?_) | with_reducible refine brM.ndec (fun h => ?_) (fun h => ?_) | with_reducible refine brW.ndec (fun h => ?_) (fun h => ?_) | with_reducible refine brM.dand (fun h => ?_) (fun h => ?_) | with_reducible refine brW.dand (fun h => ?_) (fun h => ?_) | with_reducible refine brM.dor (fun h => ?_) (fun h => ?_) | with_reducible refine brW.dor (fun h => ?_) (fun h => ?_) | with_reducible refine brM.bne (fun h => ?_) (fun h => ?_) | with_reducible refine brW.bne (fun h => ?_) (fun h => ?_)) <;> (first | (exfalso; omega) | skip)) | (with_reducible refine brW.two (fun h => ?_) (fun h => ?_)) | (with_reducible refine brM.two (fun h => ?_) (fun h => ?_))))
        · rw [snoc_map, snoc_map]
          refine AgW.go ((j + 1, true, es ++ [(x.1, x.2)] ++ [(y.1, y.2)])) [5, 6, 7, 10, 11, 12, 16, 17, 18] (by (first | rfl | (simp -implicitDefEqProofs -dsimp only [push_cast, ↓reduceIte, Nat.reduceMul, Nat.reduceAdd, Nat.reduceSub, Nat.reduceEqDiff, Nat.reduceBeqDiff, Nat.reduceLeDiff, Nat.reduceLT, reduceCtorEq, Int.reduceToNat, ↓ndW_true, ↓brM_true, ↓brM_false, ↓dstL_zero, ↓dstL_succ, ↓brW_true, ↓brW_false, ↓optW_some, ↓elW_zero, ↓elW_succ, ↓elW_map, ↓boolW_lit, ↓grdW_lit, ↓grdW_skip, ↓condW_lit, ↓pickW_lit, ↓calleeW_fn, ↓calleeW_d, ↓cellW_cell, ↓rowW_row, ↓iterW_iter, ↓seqK_normal, ↓seqK_exit, ↓seqK_ret, ↓blockK_normal, ↓blockK_ret, ↓blockK_exit, ↓retK_normal, ↓retK_ret, ↓loadV_pd, ↓loadV_po, ↓loadV_pe, ↓elemW, ↓evF_tmp, ↓evF_const, ↓evF_func, ↓guard_none, ↓guard_true, ↓guard_false, ↓codeW, ↓regW_true, ↓regW_false, ↓opsW_nil, ↓opsW_cons, ↓opsD_nil, ↓opsD_cons, ↓pvW_some, ↓pvsW_some, ↓vcallD_call]; first | done | rfl | ((simp -implicitDefEqProofs -dsimp (disch := omega) only [w64, wu64, half64, half64']); first | done | (simp -implicitDefEqProofs -dsimp only [push_cast, ↓reduceIte, Nat.reduceMul, Nat.reduceAdd, Nat.reduceSub, Nat.reduceEqDiff, Nat.reduceBeqDiff, Nat.reduceLeDiff, Nat.reduceLT, reduceCtorEq, Int.reduceToNat, ↓ndW_true, ↓brM_true, ↓brM_false, ↓dstL_zero, ↓dstL_succ, ↓brW_true, ↓brW_false, ↓optW_some, ↓elW_zero, ↓elW_succ, ↓elW_map, ↓boolW_lit, ↓grdW_lit, ↓grdW_skip, ↓condW_lit, ↓pickW_lit, ↓calleeW_fn, ↓calleeW_d, ↓cellW_cell, ↓rowW_row, ↓iterW_iter, ↓seqK_normal, ↓seqK_exit, ↓seqK_ret, ↓blockK_normal, ↓blockK_ret, ↓blockK_exit, ↓retK_normal, ↓retK_ret, ↓loadV_pd, ↓loadV_po, ↓loadV_pe, ↓elemW, ↓evF_tmp, ↓evF_const, ↓evF_func, ↓guard_none, ↓guard_true, ↓guard_false, ↓codeW, ↓regW_true, ↓regW_false, ↓opsW_nil, ↓opsW_cons, ↓opsD_nil, ↓opsD_cons, ↓pvW_some, ↓pvsW_some, ↓vcallD_call]; done)) | ((try (simp -implicitDefEqProofs -dsimp (disch := omega) only [w64, wu64, half64, half64'])); simp only [St.mk.injEq, List.cons.injEq, Prod.mk.injEq, V.d.injEq, D.lit.injEq, Value.int.injEq, true_and, and_true]; omega)))) ?_ ?_
          · show out.length - (j + 1) < out.length - j
            omega
          · refine ⟨by simp only; omega, by simp; omega, ?_⟩
            rw [← he, drop_at hy]
            simp [insS, h]
        · rw [snoc_map]
          refine AgW.go ((j + 1, false, es ++ [(y.1, y.2)])) [5, 6, 7, 10, 11, 12, 16, 17, 18] (by (first | rfl | (simp -implicitDefEqProofs -dsimp only [push_cast, ↓reduceIte, Nat.reduceMul, Nat.reduceAdd, Nat.reduceSub, Nat.reduceEqDiff, Nat.reduceBeqDiff, Nat.reduceLeDiff, Nat.reduceLT, reduceCtorEq, Int.reduceToNat, ↓ndW_true, ↓brM_true, ↓brM_false, ↓dstL_zero, ↓dstL_succ, ↓brW_true, ↓brW_false, ↓optW_some, ↓elW_zero, ↓elW_succ, ↓elW_map, ↓boolW_lit, ↓grdW_lit, ↓grdW_skip, ↓condW_lit, ↓pickW_lit, ↓calleeW_fn, ↓calleeW_d, ↓cellW_cell, ↓rowW_row, ↓iterW_iter, ↓seqK_normal, ↓seqK_exit, ↓seqK_ret, ↓blockK_normal, ↓blockK_ret, ↓blockK_exit, ↓retK_normal, ↓retK_ret, ↓loadV_pd, ↓loadV_po, ↓loadV_pe, ↓elemW, ↓evF_tmp, ↓evF_const, ↓evF_func, ↓guard_none, ↓guard_true, ↓guard_false, ↓codeW, ↓regW_true, ↓regW_false, ↓opsW_nil, ↓opsW_cons, ↓opsD_nil, ↓opsD_cons, ↓pvW_some, ↓pvsW_some, ↓vcallD_call]; first | done | rfl | ((simp -implicitDefEqProofs -dsimp (disch := omega) only [w64, wu64, half64, half64']); first | done | (simp -implicitDefEqProofs -dsimp only [push_cast, ↓reduceIte, Nat.reduceMul, Nat.reduceAdd, Nat.reduceSub, Nat.reduceEqDiff, Nat.reduceBeqDiff, Nat.reduceLeDiff, Nat.reduceLT, reduceCtorEq, Int.reduceToNat, ↓ndW_true, ↓brM_true, ↓brM_false, ↓dstL_zero, ↓dstL_succ, ↓brW_true, ↓brW_false, ↓optW_some, ↓elW_zero, ↓elW_succ, ↓elW_map, ↓boolW_lit, ↓grdW_lit, ↓grdW_skip, ↓condW_lit, ↓pickW_lit, ↓calleeW_fn, ↓calleeW_d, ↓cellW_cell, ↓rowW_row, ↓iterW_iter, ↓seqK_normal, ↓seqK_exit, ↓seqK_ret, ↓blockK_normal, ↓blockK_ret, ↓blockK_exit, ↓retK_normal, ↓retK_ret, ↓loadV_pd, ↓loadV_po, ↓loadV_pe, ↓elemW, ↓evF_tmp, ↓evF_const, ↓evF_func, ↓guard_none, ↓guard_true, ↓guard_false, ↓codeW, ↓regW_true, ↓regW_false, ↓opsW_nil, ↓opsW_cons, ↓opsD_nil, ↓opsD_cons, ↓pvW_some, ↓pvsW_some, ↓vcallD_call]; done)) | ((try (simp -implicitDefEqProofs -dsimp (disch := omega) only [w64, wu64, half64, half64'])); simp only [St.mk.injEq, List.cons.injEq, Prod.mk.injEq, V.d.injEq, D.lit.injEq, Value.int.injEq, true_and, and_true]; omega)))) ?_ ?_
          · show out.length - (j + 1) < out.length - j
            omega
          · refine ⟨by simp only; omega, by simp; omega, ?_⟩
            rw [← he, drop_at hy]
            simp [insS, h]
      · rw [snoc_map]
        refine AgW.go ((i + 1, es ++ [(x.1, x.2)])) [3, 10, 11, 12] (by (first | rfl | (simp -implicitDefEqProofs -dsimp only [push_cast, ↓reduceIte, Nat.reduceMul, Nat.reduceAdd, Nat.reduceSub, Nat.reduceEqDiff, Nat.reduceBeqDiff, Nat.reduceLeDiff, Nat.reduceLT, reduceCtorEq, Int.reduceToNat, ↓ndW_true, ↓brM_true, ↓brM_false, ↓dstL_zero, ↓dstL_succ, ↓brW_true, ↓brW_false, ↓optW_some, ↓elW_zero, ↓elW_succ, ↓elW_map, ↓boolW_lit, ↓grdW_lit, ↓grdW_skip, ↓condW_lit, ↓pickW_lit, ↓calleeW_fn, ↓calleeW_d, ↓cellW_cell, ↓rowW_row, ↓iterW_iter, ↓seqK_normal, ↓seqK_exit, ↓seqK_ret, ↓blockK_normal, ↓blockK_ret, ↓blockK_exit, ↓retK_normal, ↓retK_ret, ↓loadV_pd, ↓loadV_po, ↓loadV_pe, ↓elemW, ↓evF_tmp, ↓evF_const, ↓evF_func, ↓guard_none, ↓guard_true, ↓guard_false, ↓codeW, ↓regW_true, ↓regW_false, ↓opsW_nil, ↓opsW_cons, ↓opsD_nil, ↓opsD_cons, ↓pvW_some, ↓pvsW_some, ↓vcallD_call]; first | done | rfl | ((simp -implicitDefEqProofs -dsimp (disch := omega) only [w64, wu64, half64, half64']); first | done | (simp -implicitDefEqProofs -dsimp only [push_cast, ↓reduceIte, Nat.reduceMul, Nat.reduceAdd, Nat.reduceSub, Nat.reduceEqDiff, Nat.reduceBeqDiff, Nat.reduceLeDiff, Nat.reduceLT, reduceCtorEq, Int.reduceToNat, ↓ndW_true, ↓brM_true, ↓brM_false, ↓dstL_zero, ↓dstL_succ, ↓brW_true, ↓brW_false, ↓optW_some, ↓elW_zero, ↓elW_succ, ↓elW_map, ↓boolW_lit, ↓grdW_lit, ↓grdW_skip, ↓condW_lit, ↓pickW_lit, ↓calleeW_fn, ↓calleeW_d, ↓cellW_cell, ↓rowW_row, ↓iterW_iter, ↓seqK_normal, ↓seqK_exit, ↓seqK_ret, ↓blockK_normal, ↓blockK_ret, ↓blockK_exit, ↓retK_normal, ↓retK_ret, ↓loadV_pd, ↓loadV_po, ↓loadV_pe, ↓elemW, ↓evF_tmp, ↓evF_const, ↓evF_func, ↓guard_none, ↓guard_true, ↓guard_false, ↓codeW, ↓regW_true, ↓regW_false, ↓opsW_nil, ↓opsW_cons, ↓opsD_nil, ↓opsD_cons, ↓pvW_some, ↓pvsW_some, ↓vcallD_call]; done)) | ((try (simp -implicitDefEqProofs -dsimp (disch := omega) only [w64, wu64, half64, half64'])); simp only [St.mk.injEq, List.cons.injEq, Prod.mk.injEq, V.d.injEq, D.lit.injEq, Value.int.injEq, true_and, and_true]; omega)))) ?_ ?_
        · show l.length - (i + 1) < l.length - i
          omega
        · refine ⟨by simp only; omega, ?_⟩
          rw [take_snoc' hx, sortS_snoc, ← ho, ← he, List.drop_of_length_le (by omega)]
          simp [insS]
    · have hes : es.length ≤ j + 1 := by simpa using hes
      (repeat' (first | with_reducible refine GhW.now ?_ | with_reducible refine endW.now ?_ |  simp -implicitDefEqProofs -dsimp only [push_cast, ↓reduceIte, Nat.reduceMul, Nat.reduceAdd, Nat.reduceSub, Nat.reduceEqDiff, Nat.reduceBeqDiff, Nat.reduceLeDiff, Nat.reduceLT, reduceCtorEq, Int.reduceToNat, ↓ndW_true, ↓brM_true, ↓brM_false, ↓dstL_zero, ↓dstL_succ, ↓brW_true, ↓brW_false, ↓optW_some, ↓elW_zero, ↓elW_succ, ↓elW_map, ↓boolW_lit, ↓grdW_lit, ↓grdW_skip, ↓condW_lit, ↓pickW_lit, ↓calleeW_fn, ↓calleeW_d, ↓cellW_cell, ↓rowW_row, ↓iterW_iter, ↓seqK_normal, ↓seqK_exit, ↓seqK_ret, ↓blockK_normal, ↓blockK_ret, ↓blockK_exit, ↓retK_normal, ↓retK_ret, ↓loadV_pd, ↓loadV_po, ↓loadV_pe, ↓elemW, ↓evF_tmp, ↓evF_const, ↓evF_func, ↓guard_none, ↓guard_true, ↓guard_false, ↓codeW, ↓regW_true, ↓regW_false, ↓opsW_nil, ↓opsW_cons, ↓opsD_nil, ↓opsD_cons, ↓pvW_some, ↓pvsW_some, ↓vcallD_call] | (simp -implicitDefEqProofs -dsimp (disch := omega) only [w64, wu64, half64, half64']) | (with_reducible refine ndW.intro' (by first | omega | (simp; done) | (simp; omega) | (simp [allFit, Fit, appFits, V.cellOk, Value.oneCell', D.cells]; done) | (simp [allFit, Fit, appFits, V.cellOk, Value.oneCell', D.cells]; omega)) ?_) | ((first | with_reducible refine brW.dec (fun h => ?_) (fun h => ?_) | with_reducible refine brM.dec (fun h => ?_) (fun h => ?_) | with_reducible refine brW.beq (fun h => ?_) (fun h => ?_) | with_reducible refine brM.beq (fun h => ?_) (fun h => ?_) | with_reducible refine brM.ndec (fun h => ?_) (fun h => ?_) | with_reducible refine brW.ndec (fun h => ?_) (fun h => ?_) | with_reducible refine brM.dand (fun h => ?_) (fun h => ?_) | with_reducible refine brW.dand (fun h => ?_) (fun h => ?_) | with_reducible refine brM.dor (fun h => ?_) (fun h => ?_) | with_reducible refine brW.dor (fun h => ?_) (fun h => ?_) | with_reducible refine brM.bne (fun h => ?_) (fun h => ?_) | with_reducible refine brW.bne (fun h => ?_) (fun h => ?_)) <;> (first | (exfalso; omega) | skip)) | (with_reducible refine brW.two (fun h => ?_) (fun h => ?_)) | (with_reducible refine brM.two (fun h => ?_) (fun h => ?_))))
      · refine elX.intro fun y hy => ?_
        (repeat' (first | with_reducible refine GhW.now ?_ | with_reducible refine endW.now ?_ |  simp -implicitDefEqProofs -dsimp only [push_cast, ↓reduceIte, Nat.reduceMul, Nat.reduceAdd, Nat.reduceSub, Nat.reduceEqDiff, Nat.reduceBeqDiff, Nat.reduceLeDiff, Nat.reduceLT, reduceCtorEq, Int.reduceToNat, ↓ndW_true, ↓brM_true, ↓brM_false, ↓dstL_zero, ↓dstL_succ, ↓brW_true, ↓brW_false, ↓optW_some, ↓elW_zero, ↓elW_succ, ↓elW_map, ↓boolW_lit, ↓grdW_lit, ↓grdW_skip, ↓condW_lit, ↓pickW_lit, ↓calleeW_fn, ↓calleeW_d, ↓cellW_cell, ↓rowW_row, ↓iterW_iter, ↓seqK_normal, ↓seqK_exit, ↓seqK_ret, ↓blockK_normal, ↓blockK_ret, ↓blockK_exit, ↓retK_normal, ↓retK_ret, ↓loadV_pd, ↓loadV_po, ↓loadV_pe, ↓elemW, ↓evF_tmp, ↓evF_const, ↓evF_func, ↓guard_none, ↓guard_true, ↓guard_false, ↓codeW, ↓regW_true, ↓regW_false, ↓opsW_nil, ↓opsW_cons, ↓opsD_nil, ↓opsD_cons, ↓pvW_some, ↓pvsW_some, ↓vcallD_call] | (simp -implicitDefEqProofs -dsimp (disch := omega) only [w64, wu64, half64, half64']) | (with_reducible refine ndW.intro' (by first | omega | (simp; done) | (simp; omega) | (simp [allFit, Fit, appFits, V.cellOk, Value.oneCell', D.cells]; done) | (simp [allFit, Fit, appFits, V.cellOk, Value.oneCell', D.cells]; omega)) ?_) | ((first | with_reducible refine brW.dec (fun h => ?_) (fun h => ?_) | with_reducible refine brM.dec (fun h => ?_) (fun h => ?_) | with_reducible refine brW.beq (fun h => ?_) (fun h => ?_) | with_reducible refine brM.beq (fun h => ?_) (fun h => ?_) | with_reducible refine brM.ndec (fun h => ?_) (fun h => ?_) | with_reducible refine brW.ndec (fun h => ?_) (fun h => ?_) | with_reducible refine brM.dand (fun h => ?_) (fun h => ?_) | with_reducible refine brW.dand (fun h => ?_) (fun h => ?_) | with_reducible refine brM.dor (fun h => ?_) (fun h => ?_) | with_reducible refine brW.dor (fun h => ?_) (fun h => ?_) | with_reducible refine brM.bne (fun h => ?_) (fun h => ?_) | with_reducible refine brW.bne (fun h => ?_) (fun h => ?_)) <;> (first | (exfalso; omega) | skip)) | (with_reducible refine brW.two (fun h => ?_) (fun h => ?_)) | (with_reducible refine brM.two (fun h => ?_) (fun h => ?_))))
        · rw [snoc_map]
          refine AgW.go ((j + 1, true, es ++ [(y.1, y.2)])) [5, 6, 7, 10, 11, 12, 16, 17, 18] (by (first | rfl | (simp -implicitDefEqProofs -dsimp only [push_cast, ↓reduceIte, Nat.reduceMul, Nat.reduceAdd, Nat.reduceSub, Nat.reduceEqDiff, Nat.reduceBeqDiff, Nat.reduceLeDiff, Nat.reduceLT, reduceCtorEq, Int.reduceToNat, ↓ndW_true, ↓brM_true, ↓brM_false, ↓dstL_zero, ↓dstL_succ, ↓brW_true, ↓brW_false, ↓optW_some, ↓elW_zero, ↓elW_succ, ↓elW_map, ↓boolW_lit, ↓grdW_lit, ↓grdW_skip, ↓condW_lit, ↓pickW_lit, ↓calleeW_fn, ↓calleeW_d, ↓cellW_cell, ↓rowW_row, ↓iterW_iter, ↓seqK_normal, ↓seqK_exit, ↓seqK_ret, ↓blockK_normal, ↓blockK_ret, ↓blockK_exit, ↓retK_normal, ↓retK_ret, ↓loadV_pd, ↓loadV_po, ↓loadV_pe, ↓elemW, ↓evF_tmp, ↓evF_const, ↓evF_func, ↓guard_none, ↓guard_true, ↓guard_false, ↓codeW, ↓regW_true, ↓regW_false, ↓opsW_nil, ↓opsW_cons, ↓opsD_nil, ↓opsD_cons, ↓pvW_some, ↓pvsW_some, ↓vcallD_call]; first | done | rfl | ((simp -implicitDefEqProofs -dsimp (disch := omega) only [w64, wu64, half64, half64']); first | done | (simp -implicitDefEqProofs -dsimp only [push_cast, ↓reduceIte, Nat.reduceMul, Nat.reduceAdd, Nat.reduceSub, Nat.reduceEqDiff, Nat.reduceBeqDiff, Nat.reduceLeDiff, Nat.reduceLT, reduceCtorEq, Int.reduceToNat, ↓ndW_true, ↓brM_true, ↓brM_false, ↓dstL_zero, ↓dstL_succ, ↓brW_true, ↓brW_false, ↓optW_some, ↓elW_zero, ↓elW_succ, ↓elW_map, ↓boolW_lit, ↓grdW_lit, ↓grdW_skip, ↓condW_lit, ↓pickW_lit, ↓calleeW_fn, ↓calleeW_d, ↓cellW_cell, ↓rowW_row, ↓iterW_iter, ↓seqK_normal, ↓seqK_exit, ↓seqK_ret, ↓blockK_normal, ↓blockK_ret, ↓blockK_exit, ↓retK_normal, ↓retK_ret, ↓loadV_pd, ↓loadV_po, ↓loadV_pe, ↓elemW, ↓evF_tmp, ↓evF_const, ↓evF_func, ↓guard_none, ↓guard_true, ↓guard_false, ↓codeW, ↓regW_true, ↓regW_false, ↓opsW_nil, ↓opsW_cons, ↓opsD_nil, ↓opsD_cons, ↓pvW_some, ↓pvsW_some, ↓vcallD_call]; done)) | ((try (simp -implicitDefEqProofs -dsimp (disch := omega) only [w64, wu64, half64, half64'])); simp only [St.mk.injEq, List.cons.injEq, Prod.mk.injEq, V.d.injEq, D.lit.injEq, Value.int.injEq, true_and, and_true]; omega)))) ?_ ?_
          · show out.length - (j + 1) < out.length - j
            omega
          · refine ⟨by simp only; omega, by simp; omega, ?_⟩
            rw [← he, drop_at hy]
            simp
      · skip
        refine AgW.go ((i + 1, es)) [3, 10, 11, 12] (by (first | rfl | (simp -implicitDefEqProofs -dsimp only [push_cast, ↓reduceIte, Nat.reduceMul, Nat.reduceAdd, Nat.reduceSub, Nat.reduceEqDiff, Nat.reduceBeqDiff, Nat.reduceLeDiff, Nat.reduceLT, reduceCtorEq, Int.reduceToNat, ↓ndW_true, ↓brM_true, ↓brM_false, ↓dstL_zero, ↓dstL_succ, ↓brW_true, ↓brW_false, ↓optW_some, ↓elW_zero, ↓elW_succ, ↓elW_map, ↓boolW_lit, ↓grdW_lit, ↓grdW_skip, ↓condW_lit, ↓pickW_lit, ↓calleeW_fn, ↓calleeW_d, ↓cellW_cell, ↓rowW_row, ↓iterW_iter, ↓seqK_normal, ↓seqK_exit, ↓seqK_ret, ↓blockK_normal, ↓blockK_ret, ↓blockK_exit, ↓retK_normal, ↓retK_ret, ↓loadV_pd, ↓loadV_po, ↓loadV_pe, ↓elemW, ↓evF_tmp, ↓evF_const, ↓evF_func, ↓guard_none, ↓guard_true, ↓guard_false, ↓codeW, ↓regW_true, ↓regW_false, ↓opsW_nil, ↓opsW_cons, ↓opsD_nil, ↓opsD_cons, ↓pvW_some, ↓pvsW_some, ↓vcallD_call]; first | done | rfl | ((simp -implicitDefEqProofs -dsimp (disch := omega) only [w64, wu64, half64, half64']); first | done | (simp -implicitDefEqProofs -dsimp only [push_cast, ↓reduceIte, Nat.reduceMul, Nat.reduceAdd, Nat.reduceSub, Nat.reduceEqDiff, Nat.reduceBeqDiff, Nat.reduceLeDiff, Nat.reduceLT, reduceCtorEq, Int.reduceToNat, ↓ndW_true, ↓brM_true, ↓brM_false, ↓dstL_zero, ↓dstL_succ, ↓brW_true, ↓brW_false, ↓optW_some, ↓elW_zero, ↓elW_succ, ↓elW_map, ↓boolW_lit, ↓grdW_lit, ↓grdW_skip, ↓condW_lit, ↓pickW_lit, ↓calleeW_fn, ↓calleeW_d, ↓cellW_cell, ↓rowW_row, ↓iterW_iter, ↓seqK_normal, ↓seqK_exit, ↓seqK_ret, ↓blockK_normal, ↓blockK_ret, ↓blockK_exit, ↓retK_normal, ↓retK_ret, ↓loadV_pd, ↓loadV_po, ↓loadV_pe, ↓elemW, ↓evF_tmp, ↓evF_const, ↓evF_func, ↓guard_none, ↓guard_true, ↓guard_false, ↓codeW, ↓regW_true, ↓regW_false, ↓opsW_nil, ↓opsW_cons, ↓opsD_nil, ↓opsD_cons, ↓pvW_some, ↓pvsW_some, ↓vcallD_call]; done)) | ((try (simp -implicitDefEqProofs -dsimp (disch := omega) only [w64, wu64, half64, half64'])); simp only [St.mk.injEq, List.cons.injEq, Prod.mk.injEq, V.d.injEq, D.lit.injEq, Value.int.injEq, true_and, and_true]; omega)))) ?_ ?_
        · show l.length - (i + 1) < l.length - i
          omega
        · refine ⟨by simp only; omega, ?_⟩
          rw [take_snoc' hx, sortS_snoc, ← ho, ← he, List.drop_of_length_le (by omega)]
          simp
  · refine DoneW.frz 0 (DoneW.out ?_)
    (repeat' (first | with_reducible refine GhW.now ?_ | with_reducible refine endW.now ?_ |  simp -implicitDefEqProofs -dsimp only [push_cast, ↓reduceIte, Nat.reduceMul, Nat.reduceAdd, Nat.reduceSub, Nat.reduceEqDiff, Nat.reduceBeqDiff, Nat.reduceLeDiff, Nat.reduceLT, reduceCtorEq, Int.reduceToNat, ↓ndW_true, ↓brM_true, ↓brM_false, ↓dstL_zero, ↓dstL_succ, ↓brW_true, ↓brW_false, ↓optW_some, ↓elW_zero, ↓elW_succ, ↓elW_map, ↓boolW_lit, ↓grdW_lit, ↓grdW_skip, ↓condW_lit, ↓pickW_lit, ↓calleeW_fn, ↓calleeW_d, ↓cellW_cell, ↓rowW_row, ↓iterW_iter, ↓seqK_normal, ↓seqK_exit, ↓seqK_ret, ↓blockK_normal, ↓blockK_ret, ↓blockK_exit, ↓retK_normal, ↓retK_ret, ↓loadV_pd, ↓loadV_po, ↓loadV_pe, ↓elemW, ↓evF_tmp, ↓evF_const, ↓evF_func, ↓guard_none, ↓guard_true, ↓guard_false, ↓codeW, ↓regW_true, ↓regW_false, ↓opsW_nil, ↓opsW_cons, ↓opsD_nil, ↓opsD_cons, ↓pvW_some, ↓pvsW_some, ↓vcallD_call] | (simp -implicitDefEqProofs -dsimp (disch := omega) only [w64, wu64, half64, half64']) | (with_reducible refine ndW.intro' (by first | omega | (simp; done) | (simp; omega) | (simp [allFit, Fit, appFits, V.cellOk, Value.oneCell', D.cells]; done) | (simp [allFit, Fit, appFits, V.cellOk, Value.oneCell', D.cells]; omega)) ?_) | ((first | with_reducible refine brW.dec (fun h => ?_) (fun h => ?_) | with_reducible refine brM.dec (fun h => ?_) (fun h => ?_) | with_reducible refine brW.beq (fun h => ?_) (fun h => ?_) | with_reducible refine brM.beq (fun h => ?_) (fun h => ?_) | with_reducible refine brM.ndec (fun h => ?_) (fun h => ?_) | with_reducible refine brW.ndec (fun h => ?_) (fun h => ?_) | with_reducible refine brM.dand (fun h => ?_) (fun h => ?_) | with_reducible refine brW.dand (fun h => ?_) (fun h => ?_) | with_reducible refine brM.dor (fun h => ?_) (fun h => ?_) | with_reducible refine brW.dor (fun h => ?_) (fun h => ?_) | with_reducible refine brM.bne (fun h => ?_) (fun h => ?_) | with_reducible refine brW.bne (fun h => ?_) (fun h => ?_)) <;> (first | (exfalso; omega) | skip)) | (with_reducible refine brW.two (fun h => ?_) (fun h => ?_)) | (with_reducible refine brM.two (fun h => ?_) (fun h => ?_))))
    rw [ho, List.take_of_length_le (by simp [sortS_len]), List.take_of_length_le (by omega)]
end Go.Proofs.Ytlledfabkmmgoaa
/- The document's joining, its sets. -/
set_option linter.unusedSimpArgs false
set_option linter.unusedVariables false
set_option maxRecDepth 8000
namespace Go.Proofs.Ytlledfabkmmgoaa
def joinRS (l : List Se) (x : Nat × List Se) : St := ⟨[(3, .so 0 2 0 x.2.length), (9, seL (sortS l)), (10, iv (sortS l).length), (11, iv x.1)], [(0, seR x.2)], 1⟩
attribute [push_cast] joinRS.eq_def
theorem set_map {out : List Se} {a b : Int} {i : Nat} (k : Nat) (h : i = k) : (out.map seD).set i (.agg [.lit (.int .i64 a), .lit (.int .i64 b)]) = (out.set k (a, b)).map seD := by subst h; rw [List.map_set]
theorem joinS_val (y x : Se) (a b : Int) (h : (y.2 < y.1 ∧ b = spanF y ∧ ((spanT y < spanT x ∧ a = spanT x) ∨ (¬ spanT y < spanT x ∧ a = spanT y))) ∨ (¬ y.2 < y.1 ∧ a = spanF y ∧ ((spanT y < spanT x ∧ b = spanT x) ∨ (¬ spanT y < spanT x ∧ b = spanT y)))) : joinS y x = (a, b) := by
  unfold joinS
  rcases h with ⟨h1, rfl, ⟨h2, rfl⟩ | ⟨h2, rfl⟩⟩ | ⟨h1, rfl, ⟨h2, rfl⟩ | ⟨h2, rfl⟩⟩ <;> simp [h1, h2]
set_option maxHeartbeats 4000000 in
theorem RJoined_fn (l : List Se) (hl : l.length ≤ 1000) : OFn Try.prog G0 34 [seL l] [] 0 (seL (joinedS l)) [] := by
  have hsl := sortS_len l
  refine OFn.of_code mixed [0, 2, 3, 5, 6, 7, 9, 10, 11, 12, 30, 45, 60] Try.func34 rfl Try.results34 Try.ntmps34 (by kernel_rfl) (by simp) ?_
  (repeat' (first | with_reducible refine GhW.now ?_ | with_reducible refine endW.now ?_ | (with_reducible refine CallW.d (ordered_fn _ (by omega)) (by kernel_rfl) rfl rfl ?_) | simp -implicitDefEqProofs -dsimp only [push_cast, ↓reduceIte, Nat.reduceMul, Nat.reduceAdd, Nat.reduceSub, Nat.reduceEqDiff, Nat.reduceBeqDiff, Nat.reduceLeDiff, Nat.reduceLT, reduceCtorEq, Int.reduceToNat, ↓ndW_true, ↓brM_true, ↓brM_false, ↓dstL_zero, ↓dstL_succ, ↓brW_true, ↓brW_false, ↓optW_some, ↓elW_zero, ↓elW_succ, ↓elW_map, ↓boolW_lit, ↓grdW_lit, ↓grdW_skip, ↓condW_lit, ↓pickW_lit, ↓calleeW_fn, ↓calleeW_d, ↓cellW_cell, ↓rowW_row, ↓iterW_iter, ↓seqK_normal, ↓seqK_exit, ↓seqK_ret, ↓blockK_normal, ↓blockK_ret, ↓blockK_exit, ↓retK_normal, ↓retK_ret, ↓loadV_pd, ↓loadV_po, ↓loadV_pe, ↓elemW, ↓evF_tmp, ↓evF_const, ↓evF_func, ↓guard_none, ↓guard_true, ↓guard_false, ↓codeW, ↓regW_true, ↓regW_false, ↓opsW_nil, ↓opsW_cons, ↓opsD_nil, ↓opsD_cons, ↓pvW_some, ↓pvsW_some, ↓vcallD_call] | (simp -implicitDefEqProofs -dsimp (disch := omega) only [w64, wu64, half64, half64']) | (with_reducible refine ndW.intro' (by first | omega | (simp; done) | (simp; omega) | (simp [allFit, Fit, appFits, V.cellOk, Value.oneCell', D.cells]; done) | (simp [allFit, Fit, appFits, V.cellOk, Value.oneCell', D.cells]; omega)) ?_) | ((first | with_reducible refine brW.dec (fun h => ?_) (fun h => ?_) | with_reducible refine brM.dec (fun h => ?_) (fun h => ?_) | with_reducible refine brW.beq (fun h => ?_) (fun h => ?_) | with_reducible refine brM.beq (fun h => ?_) (fun h => ?_) | with_reducible refine brM.ndec (fun h => ?_) (fun h => ?_) | with_reducible refine brW.ndec (fun h => ?_) (fun h => ?_) | with_reducible refine brM.dand (fun h => ?_) (fun h => ?_) | with_reducible refine brW.dand (fun h => ?_) (fun h => ?_) | with_reducible refine brM.dor (fun h => ?_) (fun h => ?_) | with_reducible refine brW.dor (fun h => ?_) (fun h => ?_) | with_reducible refine brM.bne (fun h => ?_) (fun h => ?_) | with_reducible refine brW.bne (fun h => ?_) (fun h => ?_)) <;> (first | (exfalso; omega) | skip)) | (with_reducible refine brW.two (fun h => ?_) (fun h => ?_)) | (with_reducible refine brM.two (fun h => ?_) (fun h => ?_))))
  refine loopW_go (lv := [0, 2, 3, 5, 6, 7, 9, 10, 11, 12, 30, 45, 60]) mixed (by kernel_rfl) (joinRS l) (fun x => x.1 ≤ l.length ∧ x.2 = outS l x.1) (fun x => l.length - x.1) ((0, [])) (GhW.nil 3 2 (GhW.go [3, 9, 10, 11] (by (first | rfl | (simp -implicitDefEqProofs -dsimp only [push_cast, ↓reduceIte, Nat.reduceMul, Nat.reduceAdd, Nat.reduceSub, Nat.reduceEqDiff, Nat.reduceBeqDiff, Nat.reduceLeDiff, Nat.reduceLT, reduceCtorEq, Int.reduceToNat, ↓ndW_true, ↓brM_true, ↓brM_false, ↓dstL_zero, ↓dstL_succ, ↓brW_true, ↓brW_false, ↓optW_some, ↓elW_zero, ↓elW_succ, ↓elW_map, ↓boolW_lit, ↓grdW_lit, ↓grdW_skip, ↓condW_lit, ↓pickW_lit, ↓calleeW_fn, ↓calleeW_d, ↓cellW_cell, ↓rowW_row, ↓iterW_iter, ↓seqK_normal, ↓seqK_exit, ↓seqK_ret, ↓blockK_normal, ↓blockK_ret, ↓blockK_exit, ↓retK_normal, ↓retK_ret, ↓loadV_pd, ↓loadV_po, ↓loadV_pe, ↓elemW, ↓evF_tmp, ↓evF_const, ↓evF_func, ↓guard_none, ↓guard_true, ↓guard_false, ↓codeW, ↓regW_true, ↓regW_false, ↓opsW_nil, ↓opsW_cons, ↓opsD_nil, ↓opsD_cons, ↓pvW_some, ↓pvsW_some, ↓vcallD_call]; first | done | rfl | ((simp -implicitDefEqProofs -dsimp (disch := omega) only [w64, wu64, half64, half64']); first | done | (simp -implicitDefEqProofs -dsimp only [push_cast, ↓reduceIte, Nat.reduceMul, Nat.reduceAdd, Nat.reduceSub, Nat.reduceEqDiff, Nat.reduceBeqDiff, Nat.reduceLeDiff, Nat.reduceLT, reduceCtorEq, Int.reduceToNat, ↓ndW_true, ↓brM_true, ↓brM_false, ↓dstL_zero, ↓dstL_succ, ↓brW_true, ↓brW_false, ↓optW_some, ↓elW_zero, ↓elW_succ, ↓elW_map, ↓boolW_lit, ↓grdW_lit, ↓grdW_skip, ↓condW_lit, ↓pickW_lit, ↓calleeW_fn, ↓calleeW_d, ↓cellW_cell, ↓rowW_row, ↓iterW_iter, ↓seqK_normal, ↓seqK_exit, ↓seqK_ret, ↓blockK_normal, ↓blockK_ret, ↓blockK_exit, ↓retK_normal, ↓retK_ret, ↓loadV_pd, ↓loadV_po, ↓loadV_pe, ↓elemW, ↓evF_tmp, ↓evF_const, ↓evF_func, ↓guard_none, ↓guard_true, ↓guard_false, ↓codeW, ↓regW_true, ↓regW_false, ↓opsW_nil, ↓opsW_cons, ↓opsD_nil, ↓opsD_cons, ↓pvW_some, ↓pvsW_some, ↓vcallD_call]; done)) | ((try (simp -implicitDefEqProofs -dsimp (disch := omega) only [w64, wu64, half64, half64'])); simp only [St.mk.injEq, List.cons.injEq, Prod.mk.injEq, V.d.injEq, D.lit.injEq, Value.int.injEq, true_and, and_true]; omega)))) rfl)) ?_ ?_
  · exact ⟨Nat.zero_le _, rfl⟩
  rintro ⟨i, out⟩ ⟨hi, ho⟩
  simp only at hi ho
  have h1 : out.length ≤ i := by rw [ho]; exact outS_len l i
  (repeat' (first | with_reducible refine GhW.now ?_ | with_reducible refine endW.now ?_ |  simp -implicitDefEqProofs -dsimp only [push_cast, ↓reduceIte, Nat.reduceMul, Nat.reduceAdd, Nat.reduceSub, Nat.reduceEqDiff, Nat.reduceBeqDiff, Nat.reduceLeDiff, Nat.reduceLT, reduceCtorEq, Int.reduceToNat, ↓ndW_true, ↓brM_true, ↓brM_false, ↓dstL_zero, ↓dstL_succ, ↓brW_true, ↓brW_false, ↓optW_some, ↓elW_zero, ↓elW_succ, ↓elW_map, ↓boolW_lit, ↓grdW_lit, ↓grdW_skip, ↓condW_lit, ↓pickW_lit, ↓calleeW_fn, ↓calleeW_d, ↓cellW_cell, ↓rowW_row, ↓iterW_iter, ↓seqK_normal, ↓seqK_exit, ↓seqK_ret, ↓blockK_normal, ↓blockK_ret, ↓blockK_exit, ↓retK_normal, ↓retK_ret, ↓loadV_pd, ↓loadV_po, ↓loadV_pe, ↓elemW, ↓evF_tmp, ↓evF_const, ↓evF_func, ↓guard_none, ↓guard_true, ↓guard_false, ↓codeW, ↓regW_true, ↓regW_false, ↓opsW_nil, ↓opsW_cons, ↓opsD_nil, ↓opsD_cons, ↓pvW_some, ↓pvsW_some, ↓vcallD_call] | (simp -implicitDefEqProofs -dsimp (disch := omega) only [w64, wu64, half64, half64']) | (with_reducible refine ndW.intro' (by first | omega | (simp; done) | (simp; omega) | (simp [allFit, Fit, appFits, V.cellOk, Value.oneCell', D.cells]; done) | (simp [allFit, Fit, appFits, V.cellOk, Value.oneCell', D.cells]; omega)) ?_) | ((first | with_reducible refine brW.dec (fun h => ?_) (fun h => ?_) | with_reducible refine brM.dec (fun h => ?_) (fun h => ?_) | with_reducible refine brW.beq (fun h => ?_) (fun h => ?_) | with_reducible refine brM.beq (fun h => ?_) (fun h => ?_) | with_reducible refine brM.ndec (fun h => ?_) (fun h => ?_) | with_reducible refine brW.ndec (fun h => ?_) (fun h => ?_) | with_reducible refine brM.dand (fun h => ?_) (fun h => ?_) | with_reducible refine brW.dand (fun h => ?_) (fun h => ?_) | with_reducible refine brM.dor (fun h => ?_) (fun h => ?_) | with_reducible refine brW.dor (fun h => ?_) (fun h => ?_) | with_reducible refine brM.bne (fun h => ?_) (fun h => ?_) | with_reducible refine brW.bne (fun h => ?_) (fun h => ?_)) <;> (first | (exfalso; omega) | skip)) | (with_reducible refine brW.two (fun h => ?_) (fun h => ?_)) | (with_reducible refine brM.two (fun h => ?_) (fun h => ?_))))
  · obtain ⟨x, hx⟩ : ∃ x, (sortS l)[i]? = some x := ⟨_, List.getElem?_eq_getElem (by omega)⟩
    refine elX.is i x (by omega) hx ?_
    (repeat' (first | with_reducible refine GhW.now ?_ | with_reducible refine endW.now ?_ | (with_reducible refine callD.d (RSpan_fn _) (by kernel_rfl) rfl rfl ?_) | (with_reducible refine callD.d (RMeet_fn _ _ _ _) (by kernel_rfl) rfl rfl ?_) | (with_reducible refine CallW.d (RSpan_fn _) (by kernel_rfl) rfl rfl ?_) | (with_reducible refine CallW.d (RMeet_fn _ _ _ _) (by kernel_rfl) rfl rfl ?_) | simp -implicitDefEqProofs -dsimp only [push_cast, ↓reduceIte, Nat.reduceMul, Nat.reduceAdd, Nat.reduceSub, Nat.reduceEqDiff, Nat.reduceBeqDiff, Nat.reduceLeDiff, Nat.reduceLT, reduceCtorEq, Int.reduceToNat, ↓ndW_true, ↓brM_true, ↓brM_false, ↓dstL_zero, ↓dstL_succ, ↓brW_true, ↓brW_false, ↓optW_some, ↓elW_zero, ↓elW_succ, ↓elW_map, ↓boolW_lit, ↓grdW_lit, ↓grdW_skip, ↓condW_lit, ↓pickW_lit, ↓calleeW_fn, ↓calleeW_d, ↓cellW_cell, ↓rowW_row, ↓iterW_iter, ↓seqK_normal, ↓seqK_exit, ↓seqK_ret, ↓blockK_normal, ↓blockK_ret, ↓blockK_exit, ↓retK_normal, ↓retK_ret, ↓loadV_pd, ↓loadV_po, ↓loadV_pe, ↓elemW, ↓evF_tmp, ↓evF_const, ↓evF_func, ↓guard_none, ↓guard_true, ↓guard_false, ↓codeW, ↓regW_true, ↓regW_false, ↓opsW_nil, ↓opsW_cons, ↓opsD_nil, ↓opsD_cons, ↓pvW_some, ↓pvsW_some, ↓vcallD_call] | (simp -implicitDefEqProofs -dsimp (disch := omega) only [w64, wu64, half64, half64']) | (with_reducible refine ndW.intro' (by first | omega | (simp; done) | (simp; omega) | (simp [allFit, Fit, appFits, V.cellOk, Value.oneCell', D.cells]; done) | (simp [allFit, Fit, appFits, V.cellOk, Value.oneCell', D.cells]; omega)) ?_) | ((first | with_reducible refine brW.dec (fun h => ?_) (fun h => ?_) | with_reducible refine brM.dec (fun h => ?_) (fun h => ?_) | with_reducible refine brW.beq (fun h => ?_) (fun h => ?_) | with_reducible refine brM.beq (fun h => ?_) (fun h => ?_) | with_reducible refine brM.ndec (fun h => ?_) (fun h => ?_) | with_reducible refine brW.ndec (fun h => ?_) (fun h => ?_) | with_reducible refine brM.dand (fun h => ?_) (fun h => ?_) | with_reducible refine brW.dand (fun h => ?_) (fun h => ?_) | with_reducible refine brM.dor (fun h => ?_) (fun h => ?_) | with_reducible refine brW.dor (fun h => ?_) (fun h => ?_) | with_reducible refine brM.bne (fun h => ?_) (fun h => ?_) | with_reducible refine brW.bne (fun h => ?_) (fun h => ?_)) <;> (first | (exfalso; omega) | skip)) | (with_reducible refine brW.two (fun h => ?_) (fun h => ?_)) | (with_reducible refine brM.two (fun h => ?_) (fun h => ?_))))
    · have h0 : out = [] := List.eq_nil_of_length_eq_zero (by omega)
      rw [snoc_map]
      refine AgW.go ((i + 1, out ++ [(x.1, x.2)])) [3, 9, 10, 11] (by (first | rfl | (simp -implicitDefEqProofs -dsimp only [push_cast, ↓reduceIte, Nat.reduceMul, Nat.reduceAdd, Nat.reduceSub, Nat.reduceEqDiff, Nat.reduceBeqDiff, Nat.reduceLeDiff, Nat.reduceLT, reduceCtorEq, Int.reduceToNat, ↓ndW_true, ↓brM_true, ↓brM_false, ↓dstL_zero, ↓dstL_succ, ↓brW_true, ↓brW_false, ↓optW_some, ↓elW_zero, ↓elW_succ, ↓elW_map, ↓boolW_lit, ↓grdW_lit, ↓grdW_skip, ↓condW_lit, ↓pickW_lit, ↓calleeW_fn, ↓calleeW_d, ↓cellW_cell, ↓rowW_row, ↓iterW_iter, ↓seqK_normal, ↓seqK_exit, ↓seqK_ret, ↓blockK_normal, ↓blockK_ret, ↓blockK_exit, ↓retK_normal, ↓retK_ret, ↓loadV_pd, ↓loadV_po, ↓loadV_pe, ↓elemW, ↓evF_tmp, ↓evF_const, ↓evF_func, ↓guard_none, ↓guard_true, ↓guard_false, ↓codeW, ↓regW_true, ↓regW_false, ↓opsW_nil, ↓opsW_cons, ↓opsD_nil, ↓opsD_cons, ↓pvW_some, ↓pvsW_some, ↓vcallD_call]; first | done | rfl | ((simp -implicitDefEqProofs -dsimp (disch := omega) only [w64, wu64, half64, half64']); first | done | (simp -implicitDefEqProofs -dsimp only [push_cast, ↓reduceIte, Nat.reduceMul, Nat.reduceAdd, Nat.reduceSub, Nat.reduceEqDiff, Nat.reduceBeqDiff, Nat.reduceLeDiff, Nat.reduceLT, reduceCtorEq, Int.reduceToNat, ↓ndW_true, ↓brM_true, ↓brM_false, ↓dstL_zero, ↓dstL_succ, ↓brW_true, ↓brW_false, ↓optW_some, ↓elW_zero, ↓elW_succ, ↓elW_map, ↓boolW_lit, ↓grdW_lit, ↓grdW_skip, ↓condW_lit, ↓pickW_lit, ↓calleeW_fn, ↓calleeW_d, ↓cellW_cell, ↓rowW_row, ↓iterW_iter, ↓seqK_normal, ↓seqK_exit, ↓seqK_ret, ↓blockK_normal, ↓blockK_ret, ↓blockK_exit, ↓retK_normal, ↓retK_ret, ↓loadV_pd, ↓loadV_po, ↓loadV_pe, ↓elemW, ↓evF_tmp, ↓evF_const, ↓evF_func, ↓guard_none, ↓guard_true, ↓guard_false, ↓codeW, ↓regW_true, ↓regW_false, ↓opsW_nil, ↓opsW_cons, ↓opsD_nil, ↓opsD_cons, ↓pvW_some, ↓pvsW_some, ↓vcallD_call]; done)) | ((try (simp -implicitDefEqProofs -dsimp (disch := omega) only [w64, wu64, half64, half64'])); simp only [St.mk.injEq, List.cons.injEq, Prod.mk.injEq, V.d.injEq, D.lit.injEq, Value.int.injEq, true_and, and_true]; omega)))) ?_ ?_
      · show l.length - (i + 1) < l.length - i
        omega
      · refine ⟨by simp only; omega, ?_⟩
        rw [outS_succ hx, ← ho, h0, addS_nil]
        rfl
    · obtain ⟨y, hy⟩ : ∃ y, out[out.length - 1]? = some y := ⟨_, List.getElem?_eq_getElem (by omega)⟩
      refine elX.is (out.length - 1) y (by omega) hy ?_
      (repeat' (first | with_reducible refine GhW.now ?_ | with_reducible refine endW.now ?_ | (with_reducible refine callD.d (RSpan_fn _) (by kernel_rfl) rfl rfl ?_) | (with_reducible refine callD.d (RMeet_fn _ _ _ _) (by kernel_rfl) rfl rfl ?_) | (with_reducible refine CallW.d (RSpan_fn _) (by kernel_rfl) rfl rfl ?_) | (with_reducible refine CallW.d (RMeet_fn _ _ _ _) (by kernel_rfl) rfl rfl ?_) | simp -implicitDefEqProofs -dsimp only [push_cast, ↓reduceIte, Nat.reduceMul, Nat.reduceAdd, Nat.reduceSub, Nat.reduceEqDiff, Nat.reduceBeqDiff, Nat.reduceLeDiff, Nat.reduceLT, reduceCtorEq, Int.reduceToNat, ↓ndW_true, ↓brM_true, ↓brM_false, ↓dstL_zero, ↓dstL_succ, ↓brW_true, ↓brW_false, ↓optW_some, ↓elW_zero, ↓elW_succ, ↓elW_map, ↓boolW_lit, ↓grdW_lit, ↓grdW_skip, ↓condW_lit, ↓pickW_lit, ↓calleeW_fn, ↓calleeW_d, ↓cellW_cell, ↓rowW_row, ↓iterW_iter, ↓seqK_normal, ↓seqK_exit, ↓seqK_ret, ↓blockK_normal, ↓blockK_ret, ↓blockK_exit, ↓retK_normal, ↓retK_ret, ↓loadV_pd, ↓loadV_po, ↓loadV_pe, ↓elemW, ↓evF_tmp, ↓evF_const, ↓evF_func, ↓guard_none, ↓guard_true, ↓guard_false, ↓codeW, ↓regW_true, ↓regW_false, ↓opsW_nil, ↓opsW_cons, ↓opsD_nil, ↓opsD_cons, ↓pvW_some, ↓pvsW_some, ↓vcallD_call] | (simp -implicitDefEqProofs -dsimp (disch := omega) only [w64, wu64, half64, half64']) | (with_reducible refine ndW.intro' (by first | omega | (simp; done) | (simp; omega) | (simp [allFit, Fit, appFits, V.cellOk, Value.oneCell', D.cells]; done) | (simp [allFit, Fit, appFits, V.cellOk, Value.oneCell', D.cells]; omega)) ?_) | ((first | with_reducible refine brW.dec (fun h => ?_) (fun h => ?_) | with_reducible refine brM.dec (fun h => ?_) (fun h => ?_) | with_reducible refine brW.beq (fun h => ?_) (fun h => ?_) | with_reducible refine brM.beq (fun h => ?_) (fun h => ?_) | with_reducible refine brM.ndec (fun h => ?_) (fun h => ?_) | with_reducible refine brW.ndec (fun h => ?_) (fun h => ?_) | with_reducible refine brM.dand (fun h => ?_) (fun h => ?_) | with_reducible refine brW.dand (fun h => ?_) (fun h => ?_) | with_reducible refine brM.dor (fun h => ?_) (fun h => ?_) | with_reducible refine brW.dor (fun h => ?_) (fun h => ?_) | with_reducible refine brM.bne (fun h => ?_) (fun h => ?_) | with_reducible refine brW.bne (fun h => ?_) (fun h => ?_)) <;> (first | (exfalso; omega) | skip)) | (with_reducible refine brW.two (fun h => ?_) (fun h => ?_)) | (with_reducible refine brM.two (fun h => ?_) (fun h => ?_))))
      · have hm : meetS y x = false := by simpa [meetS] using h
        rw [snoc_map]
        refine AgW.go ((i + 1, out ++ [(x.1, x.2)])) [3, 9, 10, 11] (by (first | rfl | (simp -implicitDefEqProofs -dsimp only [push_cast, ↓reduceIte, Nat.reduceMul, Nat.reduceAdd, Nat.reduceSub, Nat.reduceEqDiff, Nat.reduceBeqDiff, Nat.reduceLeDiff, Nat.reduceLT, reduceCtorEq, Int.reduceToNat, ↓ndW_true, ↓brM_true, ↓brM_false, ↓dstL_zero, ↓dstL_succ, ↓brW_true, ↓brW_false, ↓optW_some, ↓elW_zero, ↓elW_succ, ↓elW_map, ↓boolW_lit, ↓grdW_lit, ↓grdW_skip, ↓condW_lit, ↓pickW_lit, ↓calleeW_fn, ↓calleeW_d, ↓cellW_cell, ↓rowW_row, ↓iterW_iter, ↓seqK_normal, ↓seqK_exit, ↓seqK_ret, ↓blockK_normal, ↓blockK_ret, ↓blockK_exit, ↓retK_normal, ↓retK_ret, ↓loadV_pd, ↓loadV_po, ↓loadV_pe, ↓elemW, ↓evF_tmp, ↓evF_const, ↓evF_func, ↓guard_none, ↓guard_true, ↓guard_false, ↓codeW, ↓regW_true, ↓regW_false, ↓opsW_nil, ↓opsW_cons, ↓opsD_nil, ↓opsD_cons, ↓pvW_some, ↓pvsW_some, ↓vcallD_call]; first | done | rfl | ((simp -implicitDefEqProofs -dsimp (disch := omega) only [w64, wu64, half64, half64']); first | done | (simp -implicitDefEqProofs -dsimp only [push_cast, ↓reduceIte, Nat.reduceMul, Nat.reduceAdd, Nat.reduceSub, Nat.reduceEqDiff, Nat.reduceBeqDiff, Nat.reduceLeDiff, Nat.reduceLT, reduceCtorEq, Int.reduceToNat, ↓ndW_true, ↓brM_true, ↓brM_false, ↓dstL_zero, ↓dstL_succ, ↓brW_true, ↓brW_false, ↓optW_some, ↓elW_zero, ↓elW_succ, ↓elW_map, ↓boolW_lit, ↓grdW_lit, ↓grdW_skip, ↓condW_lit, ↓pickW_lit, ↓calleeW_fn, ↓calleeW_d, ↓cellW_cell, ↓rowW_row, ↓iterW_iter, ↓seqK_normal, ↓seqK_exit, ↓seqK_ret, ↓blockK_normal, ↓blockK_ret, ↓blockK_exit, ↓retK_normal, ↓retK_ret, ↓loadV_pd, ↓loadV_po, ↓loadV_pe, ↓elemW, ↓evF_tmp, ↓evF_const, ↓evF_func, ↓guard_none, ↓guard_true, ↓guard_false, ↓codeW, ↓regW_true, ↓regW_false, ↓opsW_nil, ↓opsW_cons, ↓opsD_nil, ↓opsD_cons, ↓pvW_some, ↓pvsW_some, ↓vcallD_call]; done)) | ((try (simp -implicitDefEqProofs -dsimp (disch := omega) only [w64, wu64, half64, half64'])); simp only [St.mk.injEq, List.cons.injEq, Prod.mk.injEq, V.d.injEq, D.lit.injEq, Value.int.injEq, true_and, and_true]; omega)))) ?_ ?_
        · show l.length - (i + 1) < l.length - i
          omega
        · refine ⟨by simp only; omega, ?_⟩
          rw [outS_succ hx, ← ho, addS_app hy hm]
      · have hm : meetS y x = true := by simpa [meetS] using h
        refine elX.is (out.length - 1) y (by omega) hy ?_
        (repeat' (first | with_reducible refine GhW.now ?_ | with_reducible refine endW.now ?_ | (with_reducible refine callD.d (RSpan_fn _) (by kernel_rfl) rfl rfl ?_) | (with_reducible refine callD.d (RMeet_fn _ _ _ _) (by kernel_rfl) rfl rfl ?_) | (with_reducible refine CallW.d (RSpan_fn _) (by kernel_rfl) rfl rfl ?_) | (with_reducible refine CallW.d (RMeet_fn _ _ _ _) (by kernel_rfl) rfl rfl ?_) | simp -implicitDefEqProofs -dsimp only [push_cast, ↓reduceIte, Nat.reduceMul, Nat.reduceAdd, Nat.reduceSub, Nat.reduceEqDiff, Nat.reduceBeqDiff, Nat.reduceLeDiff, Nat.reduceLT, reduceCtorEq, Int.reduceToNat, ↓ndW_true, ↓brM_true, ↓brM_false, ↓dstL_zero, ↓dstL_succ, ↓brW_true, ↓brW_false, ↓optW_some, ↓elW_zero, ↓elW_succ, ↓elW_map, ↓boolW_lit, ↓grdW_lit, ↓grdW_skip, ↓condW_lit, ↓pickW_lit, ↓calleeW_fn, ↓calleeW_d, ↓cellW_cell, ↓rowW_row, ↓iterW_iter, ↓seqK_normal, ↓seqK_exit, ↓seqK_ret, ↓blockK_normal, ↓blockK_ret, ↓blockK_exit, ↓retK_normal, ↓retK_ret, ↓loadV_pd, ↓loadV_po, ↓loadV_pe, ↓elemW, ↓evF_tmp, ↓evF_const, ↓evF_func, ↓guard_none, ↓guard_true, ↓guard_false, ↓codeW, ↓regW_true, ↓regW_false, ↓opsW_nil, ↓opsW_cons, ↓opsD_nil, ↓opsD_cons, ↓pvW_some, ↓pvsW_some, ↓vcallD_call] | (simp -implicitDefEqProofs -dsimp (disch := omega) only [w64, wu64, half64, half64']) | (with_reducible refine ndW.intro' (by first | omega | (simp; done) | (simp; omega) | (simp [allFit, Fit, appFits, V.cellOk, Value.oneCell', D.cells]; done) | (simp [allFit, Fit, appFits, V.cellOk, Value.oneCell', D.cells]; omega)) ?_) | ((first | with_reducible refine brW.dec (fun h => ?_) (fun h => ?_) | with_reducible refine brM.dec (fun h => ?_) (fun h => ?_) | with_reducible refine brW.beq (fun h => ?_) (fun h => ?_) | with_reducible refine brM.beq (fun h => ?_) (fun h => ?_) | with_reducible refine brM.ndec (fun h => ?_) (fun h => ?_) | with_reducible refine brW.ndec (fun h => ?_) (fun h => ?_) | with_reducible refine brM.dand (fun h => ?_) (fun h => ?_) | with_reducible refine brW.dand (fun h => ?_) (fun h => ?_) | with_reducible refine brM.dor (fun h => ?_) (fun h => ?_) | with_reducible refine brW.dor (fun h => ?_) (fun h => ?_) | with_reducible refine brM.bne (fun h => ?_) (fun h => ?_) | with_reducible refine brW.bne (fun h => ?_) (fun h => ?_)) <;> (first | (exfalso; omega) | skip)) | (with_reducible refine brW.two (fun h => ?_) (fun h => ?_)) | (with_reducible refine brM.two (fun h => ?_) (fun h => ?_))))
        all_goals
          refine elX.is (out.length - 1) y (by omega) hy ?_
          (repeat' (first | with_reducible refine GhW.now ?_ | with_reducible refine endW.now ?_ |  simp -implicitDefEqProofs -dsimp only [push_cast, ↓reduceIte, Nat.reduceMul, Nat.reduceAdd, Nat.reduceSub, Nat.reduceEqDiff, Nat.reduceBeqDiff, Nat.reduceLeDiff, Nat.reduceLT, reduceCtorEq, Int.reduceToNat, ↓ndW_true, ↓brM_true, ↓brM_false, ↓dstL_zero, ↓dstL_succ, ↓brW_true, ↓brW_false, ↓optW_some, ↓elW_zero, ↓elW_succ, ↓elW_map, ↓boolW_lit, ↓grdW_lit, ↓grdW_skip, ↓condW_lit, ↓pickW_lit, ↓calleeW_fn, ↓calleeW_d, ↓cellW_cell, ↓rowW_row, ↓iterW_iter, ↓seqK_normal, ↓seqK_exit, ↓seqK_ret, ↓blockK_normal, ↓blockK_ret, ↓blockK_exit, ↓retK_normal, ↓retK_ret, ↓loadV_pd, ↓loadV_po, ↓loadV_pe, ↓elemW, ↓evF_tmp, ↓evF_const, ↓evF_func, ↓guard_none, ↓guard_true, ↓guard_false, ↓codeW, ↓regW_true, ↓regW_false, ↓opsW_nil, ↓opsW_cons, ↓opsD_nil, ↓opsD_cons, ↓pvW_some, ↓pvsW_some, ↓vcallD_call] | (simp -implicitDefEqProofs -dsimp (disch := omega) only [w64, wu64, half64, half64']) | (with_reducible refine ndW.intro' (by first | omega | (simp; done) | (simp; omega) | (simp [allFit, Fit, appFits, V.cellOk, Value.oneCell', D.cells]; done) | (simp [allFit, Fit, appFits, V.cellOk, Value.oneCell', D.cells]; omega)) ?_) | ((first | with_reducible refine brW.dec (fun h => ?_) (fun h => ?_) | with_reducible refine brM.dec (fun h => ?_) (fun h => ?_) | with_reducible refine brW.beq (fun h => ?_) (fun h => ?_) | with_reducible refine brM.beq (fun h => ?_) (fun h => ?_) | with_reducible refine brM.ndec (fun h => ?_) (fun h => ?_) | with_reducible refine brW.ndec (fun h => ?_) (fun h => ?_) | with_reducible refine brM.dand (fun h => ?_) (fun h => ?_) | with_reducible refine brW.dand (fun h => ?_) (fun h => ?_) | with_reducible refine brM.dor (fun h => ?_) (fun h => ?_) | with_reducible refine brW.dor (fun h => ?_) (fun h => ?_) | with_reducible refine brM.bne (fun h => ?_) (fun h => ?_) | with_reducible refine brW.bne (fun h => ?_) (fun h => ?_)) <;> (first | (exfalso; omega) | skip)) | (with_reducible refine brW.two (fun h => ?_) (fun h => ?_)) | (with_reducible refine brM.two (fun h => ?_) (fun h => ?_))))
          refine elX.is (out.length - 1) y (by omega) hy ?_
          (repeat' (first | with_reducible refine GhW.now ?_ | with_reducible refine endW.now ?_ |  simp -implicitDefEqProofs -dsimp only [push_cast, ↓reduceIte, Nat.reduceMul, Nat.reduceAdd, Nat.reduceSub, Nat.reduceEqDiff, Nat.reduceBeqDiff, Nat.reduceLeDiff, Nat.reduceLT, reduceCtorEq, Int.reduceToNat, ↓ndW_true, ↓brM_true, ↓brM_false, ↓dstL_zero, ↓dstL_succ, ↓brW_true, ↓brW_false, ↓optW_some, ↓elW_zero, ↓elW_succ, ↓elW_map, ↓boolW_lit, ↓grdW_lit, ↓grdW_skip, ↓condW_lit, ↓pickW_lit, ↓calleeW_fn, ↓calleeW_d, ↓cellW_cell, ↓rowW_row, ↓iterW_iter, ↓seqK_normal, ↓seqK_exit, ↓seqK_ret, ↓blockK_normal, ↓blockK_ret, ↓blockK_exit, ↓retK_normal, ↓retK_ret, ↓loadV_pd, ↓loadV_po, ↓loadV_pe, ↓elemW, ↓evF_tmp, ↓evF_const, ↓evF_func, ↓guard_none, ↓guard_true, ↓guard_false, ↓codeW, ↓regW_true, ↓regW_false, ↓opsW_nil, ↓opsW_cons, ↓opsD_nil, ↓opsD_cons, ↓pvW_some, ↓pvsW_some, ↓vcallD_call] | (simp -implicitDefEqProofs -dsimp (disch := omega) only [w64, wu64, half64, half64']) | (with_reducible refine ndW.intro' (by first | omega | (simp; done) | (simp; omega) | (simp [allFit, Fit, appFits, V.cellOk, Value.oneCell', D.cells]; done) | (simp [allFit, Fit, appFits, V.cellOk, Value.oneCell', D.cells]; omega)) ?_) | ((first | with_reducible refine brW.dec (fun h => ?_) (fun h => ?_) | with_reducible refine brM.dec (fun h => ?_) (fun h => ?_) | with_reducible refine brW.beq (fun h => ?_) (fun h => ?_) | with_reducible refine brM.beq (fun h => ?_) (fun h => ?_) | with_reducible refine brM.ndec (fun h => ?_) (fun h => ?_) | with_reducible refine brW.ndec (fun h => ?_) (fun h => ?_) | with_reducible refine brM.dand (fun h => ?_) (fun h => ?_) | with_reducible refine brW.dand (fun h => ?_) (fun h => ?_) | with_reducible refine brM.dor (fun h => ?_) (fun h => ?_) | with_reducible refine brW.dor (fun h => ?_) (fun h => ?_) | with_reducible refine brM.bne (fun h => ?_) (fun h => ?_) | with_reducible refine brW.bne (fun h => ?_) (fun h => ?_)) <;> (first | (exfalso; omega) | skip)) | (with_reducible refine brW.two (fun h => ?_) (fun h => ?_)) | (with_reducible refine brM.two (fun h => ?_) (fun h => ?_))))
        all_goals rw [set_map (out.length - 1) (by omega)]
        · skip
          refine AgW.go ((i + 1, out.set (out.length - 1) (spanT x, spanF y))) [3, 9, 10, 11] (by simp only [joinRS, List.length_set]; (first | rfl | (simp -implicitDefEqProofs -dsimp only [push_cast, ↓reduceIte, Nat.reduceMul, Nat.reduceAdd, Nat.reduceSub, Nat.reduceEqDiff, Nat.reduceBeqDiff, Nat.reduceLeDiff, Nat.reduceLT, reduceCtorEq, Int.reduceToNat, ↓ndW_true, ↓brM_true, ↓brM_false, ↓dstL_zero, ↓dstL_succ, ↓brW_true, ↓brW_false, ↓optW_some, ↓elW_zero, ↓elW_succ, ↓elW_map, ↓boolW_lit, ↓grdW_lit, ↓grdW_skip, ↓condW_lit, ↓pickW_lit, ↓calleeW_fn, ↓calleeW_d, ↓cellW_cell, ↓rowW_row, ↓iterW_iter, ↓seqK_normal, ↓seqK_exit, ↓seqK_ret, ↓blockK_normal, ↓blockK_ret, ↓blockK_exit, ↓retK_normal, ↓retK_ret, ↓loadV_pd, ↓loadV_po, ↓loadV_pe, ↓elemW, ↓evF_tmp, ↓evF_const, ↓evF_func, ↓guard_none, ↓guard_true, ↓guard_false, ↓codeW, ↓regW_true, ↓regW_false, ↓opsW_nil, ↓opsW_cons, ↓opsD_nil, ↓opsD_cons, ↓pvW_some, ↓pvsW_some, ↓vcallD_call]; first | done | rfl | ((simp -implicitDefEqProofs -dsimp (disch := omega) only [w64, wu64, half64, half64']); first | done | (simp -implicitDefEqProofs -dsimp only [push_cast, ↓reduceIte, Nat.reduceMul, Nat.reduceAdd, Nat.reduceSub, Nat.reduceEqDiff, Nat.reduceBeqDiff, Nat.reduceLeDiff, Nat.reduceLT, reduceCtorEq, Int.reduceToNat, ↓ndW_true, ↓brM_true, ↓brM_false, ↓dstL_zero, ↓dstL_succ, ↓brW_true, ↓brW_false, ↓optW_some, ↓elW_zero, ↓elW_succ, ↓elW_map, ↓boolW_lit, ↓grdW_lit, ↓grdW_skip, ↓condW_lit, ↓pickW_lit, ↓calleeW_fn, ↓calleeW_d, ↓cellW_cell, ↓rowW_row, ↓iterW_iter, ↓seqK_normal, ↓seqK_exit, ↓seqK_ret, ↓blockK_normal, ↓blockK_ret, ↓blockK_exit, ↓retK_normal, ↓retK_ret, ↓loadV_pd, ↓loadV_po, ↓loadV_pe, ↓elemW, ↓evF_tmp, ↓evF_const, ↓evF_func, ↓guard_none, ↓guard_true, ↓guard_false, ↓codeW, ↓regW_true, ↓regW_false, ↓opsW_nil, ↓opsW_cons, ↓opsD_nil, ↓opsD_cons, ↓pvW_some, ↓pvsW_some, ↓vcallD_call]; done)) | ((try (simp -implicitDefEqProofs -dsimp (disch := omega) only [w64, wu64, half64, half64'])); simp only [St.mk.injEq, List.cons.injEq, Prod.mk.injEq, V.d.injEq, D.lit.injEq, Value.int.injEq, true_and, and_true]; omega)))) ?_ ?_
          · show l.length - (i + 1) < l.length - i
            omega
          · refine ⟨by simp only; omega, ?_⟩
            rw [outS_succ hx, ← ho, addS_join hy hm, joinS_val y x (spanT x) (spanF y) (by omega)]
        · skip
          refine AgW.go ((i + 1, out.set (out.length - 1) (spanF y, spanT x))) [3, 9, 10, 11] (by simp only [joinRS, List.length_set]; (first | rfl | (simp -implicitDefEqProofs -dsimp only [push_cast, ↓reduceIte, Nat.reduceMul, Nat.reduceAdd, Nat.reduceSub, Nat.reduceEqDiff, Nat.reduceBeqDiff, Nat.reduceLeDiff, Nat.reduceLT, reduceCtorEq, Int.reduceToNat, ↓ndW_true, ↓brM_true, ↓brM_false, ↓dstL_zero, ↓dstL_succ, ↓brW_true, ↓brW_false, ↓optW_some, ↓elW_zero, ↓elW_succ, ↓elW_map, ↓boolW_lit, ↓grdW_lit, ↓grdW_skip, ↓condW_lit, ↓pickW_lit, ↓calleeW_fn, ↓calleeW_d, ↓cellW_cell, ↓rowW_row, ↓iterW_iter, ↓seqK_normal, ↓seqK_exit, ↓seqK_ret, ↓blockK_normal, ↓blockK_ret, ↓blockK_exit, ↓retK_normal, ↓retK_ret, ↓loadV_pd, ↓loadV_po, ↓loadV_pe, ↓elemW, ↓evF_tmp, ↓evF_const, ↓evF_func, ↓guard_none, ↓guard_true, ↓guard_false, ↓codeW, ↓regW_true, ↓regW_false, ↓opsW_nil, ↓opsW_cons, ↓opsD_nil, ↓opsD_cons, ↓pvW_some, ↓pvsW_some, ↓vcallD_call]; first | done | rfl | ((simp -implicitDefEqProofs -dsimp (disch := omega) only [w64, wu64, half64, half64']); first | done | (simp -implicitDefEqProofs -dsimp only [push_cast, ↓reduceIte, Nat.reduceMul, Nat.reduceAdd, Nat.reduceSub, Nat.reduceEqDiff, Nat.reduceBeqDiff, Nat.reduceLeDiff, Nat.reduceLT, reduceCtorEq, Int.reduceToNat, ↓ndW_true, ↓brM_true, ↓brM_false, ↓dstL_zero, ↓dstL_succ, ↓brW_true, ↓brW_false, ↓optW_some, ↓elW_zero, ↓elW_succ, ↓elW_map, ↓boolW_lit, ↓grdW_lit, ↓grdW_skip, ↓condW_lit, ↓pickW_lit, ↓calleeW_fn, ↓calleeW_d, ↓cellW_cell, ↓rowW_row, ↓iterW_iter, ↓seqK_normal, ↓seqK_exit, ↓seqK_ret, ↓blockK_normal, ↓blockK_ret, ↓blockK_exit, ↓retK_normal, ↓retK_ret, ↓loadV_pd, ↓loadV_po, ↓loadV_pe, ↓elemW, ↓evF_tmp, ↓evF_const, ↓evF_func, ↓guard_none, ↓guard_true, ↓guard_false, ↓codeW, ↓regW_true, ↓regW_false, ↓opsW_nil, ↓opsW_cons, ↓opsD_nil, ↓opsD_cons, ↓pvW_some, ↓pvsW_some, ↓vcallD_call]; done)) | ((try (simp -implicitDefEqProofs -dsimp (disch := omega) only [w64, wu64, half64, half64'])); simp only [St.mk.injEq, List.cons.injEq, Prod.mk.injEq, V.d.injEq, D.lit.injEq, Value.int.injEq, true_and, and_true]; omega)))) ?_ ?_
          · show l.length - (i + 1) < l.length - i
            omega
          · refine ⟨by simp only; omega, ?_⟩
            rw [outS_succ hx, ← ho, addS_join hy hm, joinS_val y x (spanF y) (spanT x) (by omega)]
        · skip
          refine AgW.go ((i + 1, out.set (out.length - 1) (spanT y, spanF y))) [3, 9, 10, 11] (by simp only [joinRS, List.length_set]; (first | rfl | (simp -implicitDefEqProofs -dsimp only [push_cast, ↓reduceIte, Nat.reduceMul, Nat.reduceAdd, Nat.reduceSub, Nat.reduceEqDiff, Nat.reduceBeqDiff, Nat.reduceLeDiff, Nat.reduceLT, reduceCtorEq, Int.reduceToNat, ↓ndW_true, ↓brM_true, ↓brM_false, ↓dstL_zero, ↓dstL_succ, ↓brW_true, ↓brW_false, ↓optW_some, ↓elW_zero, ↓elW_succ, ↓elW_map, ↓boolW_lit, ↓grdW_lit, ↓grdW_skip, ↓condW_lit, ↓pickW_lit, ↓calleeW_fn, ↓calleeW_d, ↓cellW_cell, ↓rowW_row, ↓iterW_iter, ↓seqK_normal, ↓seqK_exit, ↓seqK_ret, ↓blockK_normal, ↓blockK_ret, ↓blockK_exit, ↓retK_normal, ↓retK_ret, ↓loadV_pd, ↓loadV_po, ↓loadV_pe, ↓elemW, ↓evF_tmp, ↓evF_const, ↓evF_func, ↓guard_none, ↓guard_true, ↓guard_false, ↓codeW, ↓regW_true, ↓regW_false, ↓opsW_nil, ↓opsW_cons, ↓opsD_nil, ↓opsD_cons, ↓pvW_some, ↓pvsW_some, ↓vcallD_call]; first | done | rfl | ((simp -implicitDefEqProofs -dsimp (disch := omega) only [w64, wu64, half64, half64']); first | done | (simp -implicitDefEqProofs -dsimp only [push_cast, ↓reduceIte, Nat.reduceMul, Nat.reduceAdd, Nat.reduceSub, Nat.reduceEqDiff, Nat.reduceBeqDiff, Nat.reduceLeDiff, Nat.reduceLT, reduceCtorEq, Int.reduceToNat, ↓ndW_true, ↓brM_true, ↓brM_false, ↓dstL_zero, ↓dstL_succ, ↓brW_true, ↓brW_false, ↓optW_some, ↓elW_zero, ↓elW_succ, ↓elW_map, ↓boolW_lit, ↓grdW_lit, ↓grdW_skip, ↓condW_lit, ↓pickW_lit, ↓calleeW_fn, ↓calleeW_d, ↓cellW_cell, ↓rowW_row, ↓iterW_iter, ↓seqK_normal, ↓seqK_exit, ↓seqK_ret, ↓blockK_normal, ↓blockK_ret, ↓blockK_exit, ↓retK_normal, ↓retK_ret, ↓loadV_pd, ↓loadV_po, ↓loadV_pe, ↓elemW, ↓evF_tmp, ↓evF_const, ↓evF_func, ↓guard_none, ↓guard_true, ↓guard_false, ↓codeW, ↓regW_true, ↓regW_false, ↓opsW_nil, ↓opsW_cons, ↓opsD_nil, ↓opsD_cons, ↓pvW_some, ↓pvsW_some, ↓vcallD_call]; done)) | ((try (simp -implicitDefEqProofs -dsimp (disch := omega) only [w64, wu64, half64, half64'])); simp only [St.mk.injEq, List.cons.injEq, Prod.mk.injEq, V.d.injEq, D.lit.injEq, Value.int.injEq, true_and, and_true]; omega)))) ?_ ?_
          · show l.length - (i + 1) < l.length - i
            omega
          · refine ⟨by simp only; omega, ?_⟩
            rw [outS_succ hx, ← ho, addS_join hy hm, joinS_val y x (spanT y) (spanF y) (by omega)]
        · skip
          refine AgW.go ((i + 1, out.set (out.length - 1) (spanF y, spanT y))) [3, 9, 10, 11] (by simp only [joinRS, List.length_set]; (first | rfl | (simp -implicitDefEqProofs -dsimp only [push_cast, ↓reduceIte, Nat.reduceMul, Nat.reduceAdd, Nat.reduceSub, Nat.reduceEqDiff, Nat.reduceBeqDiff, Nat.reduceLeDiff, Nat.reduceLT, reduceCtorEq, Int.reduceToNat, ↓ndW_true, ↓brM_true, ↓brM_false, ↓dstL_zero, ↓dstL_succ, ↓brW_true, ↓brW_false, ↓optW_some, ↓elW_zero, ↓elW_succ, ↓elW_map, ↓boolW_lit, ↓grdW_lit, ↓grdW_skip, ↓condW_lit, ↓pickW_lit, ↓calleeW_fn, ↓calleeW_d, ↓cellW_cell, ↓rowW_row, ↓iterW_iter, ↓seqK_normal, ↓seqK_exit, ↓seqK_ret, ↓blockK_normal, ↓blockK_ret, ↓blockK_exit, ↓retK_normal, ↓retK_ret, ↓loadV_pd, ↓loadV_po, ↓loadV_pe, ↓elemW, ↓evF_tmp, ↓evF_const, ↓evF_func, ↓guard_none, ↓guard_true, ↓guard_false, ↓codeW, ↓regW_true, ↓regW_false, ↓opsW_nil, ↓opsW_cons, ↓opsD_nil, ↓opsD_cons, ↓pvW_some, ↓pvsW_some, ↓vcallD_call]; first | done | rfl | ((simp -implicitDefEqProofs -dsimp (disch := omega) only [w64, wu64, half64, half64']); first | done | (simp -implicitDefEqProofs -dsimp only [push_cast, ↓reduceIte, Nat.reduceMul, Nat.reduceAdd, Nat.reduceSub, Nat.reduceEqDiff, Nat.reduceBeqDiff, Nat.reduceLeDiff, Nat.reduceLT, reduceCtorEq, Int.reduceToNat, ↓ndW_true, ↓brM_true, ↓brM_false, ↓dstL_zero, ↓dstL_succ, ↓brW_true, ↓brW_false, ↓optW_some, ↓elW_zero, ↓elW_succ, ↓elW_map, ↓boolW_lit, ↓grdW_lit, ↓grdW_skip, ↓condW_lit, ↓pickW_lit, ↓calleeW_fn, ↓calleeW_d, ↓cellW_cell, ↓rowW_row, ↓iterW_iter, ↓seqK_normal, ↓seqK_exit, ↓seqK_ret, ↓blockK_normal, ↓blockK_ret, ↓blockK_exit, ↓retK_normal, ↓retK_ret, ↓loadV_pd, ↓loadV_po, ↓loadV_pe, ↓elemW, ↓evF_tmp, ↓evF_const, ↓evF_func, ↓guard_none, ↓guard_true, ↓guard_false, ↓codeW, ↓regW_true, ↓regW_false, ↓opsW_nil, ↓opsW_cons, ↓opsD_nil, ↓opsD_cons, ↓pvW_some, ↓pvsW_some, ↓vcallD_call]; done)) | ((try (simp -implicitDefEqProofs -dsimp (disch := omega) only [w64, wu64, half64, half64'])); simp only [St.mk.injEq, List.cons.injEq, Prod.mk.injEq, V.d.injEq, D.lit.injEq, Value.int.injEq, true_and, and_true]; omega)))) ?_ ?_
          · show l.length - (i + 1) < l.length - i
            omega
          · refine ⟨by simp only; omega, ?_⟩
            rw [outS_succ hx, ← ho, addS_join hy hm, joinS_val y x (spanF y) (spanT y) (by omega)]
  · refine DoneW.frz 0 (DoneW.out ?_)
    (repeat' (first | with_reducible refine GhW.now ?_ | with_reducible refine endW.now ?_ |  simp -implicitDefEqProofs -dsimp only [push_cast, ↓reduceIte, Nat.reduceMul, Nat.reduceAdd, Nat.reduceSub, Nat.reduceEqDiff, Nat.reduceBeqDiff, Nat.reduceLeDiff, Nat.reduceLT, reduceCtorEq, Int.reduceToNat, ↓ndW_true, ↓brM_true, ↓brM_false, ↓dstL_zero, ↓dstL_succ, ↓brW_true, ↓brW_false, ↓optW_some, ↓elW_zero, ↓elW_succ, ↓elW_map, ↓boolW_lit, ↓grdW_lit, ↓grdW_skip, ↓condW_lit, ↓pickW_lit, ↓calleeW_fn, ↓calleeW_d, ↓cellW_cell, ↓rowW_row, ↓iterW_iter, ↓seqK_normal, ↓seqK_exit, ↓seqK_ret, ↓blockK_normal, ↓blockK_ret, ↓blockK_exit, ↓retK_normal, ↓retK_ret, ↓loadV_pd, ↓loadV_po, ↓loadV_pe, ↓elemW, ↓evF_tmp, ↓evF_const, ↓evF_func, ↓guard_none, ↓guard_true, ↓guard_false, ↓codeW, ↓regW_true, ↓regW_false, ↓opsW_nil, ↓opsW_cons, ↓opsD_nil, ↓opsD_cons, ↓pvW_some, ↓pvsW_some, ↓vcallD_call] | (simp -implicitDefEqProofs -dsimp (disch := omega) only [w64, wu64, half64, half64']) | (with_reducible refine ndW.intro' (by first | omega | (simp; done) | (simp; omega) | (simp [allFit, Fit, appFits, V.cellOk, Value.oneCell', D.cells]; done) | (simp [allFit, Fit, appFits, V.cellOk, Value.oneCell', D.cells]; omega)) ?_) | ((first | with_reducible refine brW.dec (fun h => ?_) (fun h => ?_) | with_reducible refine brM.dec (fun h => ?_) (fun h => ?_) | with_reducible refine brW.beq (fun h => ?_) (fun h => ?_) | with_reducible refine brM.beq (fun h => ?_) (fun h => ?_) | with_reducible refine brM.ndec (fun h => ?_) (fun h => ?_) | with_reducible refine brW.ndec (fun h => ?_) (fun h => ?_) | with_reducible refine brM.dand (fun h => ?_) (fun h => ?_) | with_reducible refine brW.dand (fun h => ?_) (fun h => ?_) | with_reducible refine brM.dor (fun h => ?_) (fun h => ?_) | with_reducible refine brW.dor (fun h => ?_) (fun h => ?_) | with_reducible refine brM.bne (fun h => ?_) (fun h => ?_) | with_reducible refine brW.bne (fun h => ?_) (fun h => ?_)) <;> (first | (exfalso; omega) | skip)) | (with_reducible refine brW.two (fun h => ?_) (fun h => ?_)) | (with_reducible refine brM.two (fun h => ?_) (fun h => ?_))))
    rw [ho, List.take_of_length_le (by simp)]
    unfold outS joinedS
    rw [List.take_of_length_le (by omega)]
abbrev rsE (e : Int) : V := .d (.agg [.lit (.int .i64 0), .lit (.slice none 0 0), .lit (.int .i64 e)])
abbrev rsO (n : Int) (L : List Se) : V := .d (.agg [.lit (.int .i64 n), .sd 2 false (L.map seD), .lit (.int .i64 0)])
def rnewV (n : Int) (l : List Se) : V := if newErr n l = 0 then rsO n (joinedS l) else rsE (newErr n l)
theorem rnewV_no {n k : Int} {l : List Se} (h : newErr n l = k) (hk : k ≠ 0) : rnewV n l = rsE k := by unfold rnewV; rw [h, if_neg hk]
theorem rnewV_ok {n : Int} {l : List Se} (h : newErr n l = 0) : rnewV n l = rsO n (joinedS l) := by unfold rnewV; rw [if_pos h]
def rnewS (n : Int) (l : List Se) (i : Nat) : St := ⟨[(0, iv n), (1, seL l), (4, .po 0 0), (22, seL l), (23, iv l.length), (24, iv i)], [(0, .cell [iv 0, .d (.lit (.slice none 0 0)), iv 0])], 1⟩
attribute [push_cast] rnewS.eq_def
set_option maxHeartbeats 4000000 in
theorem RNew_fn (n : Int) (l : List Se) (hl : l.length ≤ 1000000) : OFn Try.prog G0 19 [iv n, seL l] [] 0 (rnewV n l) [] := by
  refine OFn.of_code mixed [0, 1, 4, 6, 12, 16, 20, 22, 23, 24, 25, 38] Try.func19 rfl Try.results19 Try.ntmps19 (by kernel_rfl) (by simp) ?_
  (repeat' (first | with_reducible refine GhW.now ?_ | with_reducible refine endW.now ?_ | with_reducible refine DoneW.out ?_ |  simp -implicitDefEqProofs -dsimp only [push_cast, ↓reduceIte, Nat.reduceMul, Nat.reduceAdd, Nat.reduceSub, Nat.reduceEqDiff, Nat.reduceBeqDiff, Nat.reduceLeDiff, Nat.reduceLT, reduceCtorEq, Int.reduceToNat, ↓ndW_true, ↓brM_true, ↓brM_false, ↓dstL_zero, ↓dstL_succ, ↓brW_true, ↓brW_false, ↓optW_some, ↓elW_zero, ↓elW_succ, ↓elW_map, ↓boolW_lit, ↓grdW_lit, ↓grdW_skip, ↓condW_lit, ↓pickW_lit, ↓calleeW_fn, ↓calleeW_d, ↓cellW_cell, ↓rowW_row, ↓iterW_iter, ↓seqK_normal, ↓seqK_exit, ↓seqK_ret, ↓blockK_normal, ↓blockK_ret, ↓blockK_exit, ↓retK_normal, ↓retK_ret, ↓loadV_pd, ↓loadV_po, ↓loadV_pe, ↓elemW, ↓evF_tmp, ↓evF_const, ↓evF_func, ↓guard_none, ↓guard_true, ↓guard_false, ↓codeW, ↓regW_true, ↓regW_false, ↓opsW_nil, ↓opsW_cons, ↓opsD_nil, ↓opsD_cons, ↓pvW_some, ↓pvsW_some, ↓vcallD_call] | (simp -implicitDefEqProofs -dsimp (disch := omega) only [w64, wu64, half64, half64']) | (with_reducible refine ndW.intro' (by first | omega | (simp; done) | (simp; omega) | (simp [allFit, Fit, appFits, V.cellOk, Value.oneCell', D.cells]; done) | (simp [allFit, Fit, appFits, V.cellOk, Value.oneCell', D.cells]; omega)) ?_) | ((first | with_reducible refine brW.dec (fun h => ?_) (fun h => ?_) | with_reducible refine brM.dec (fun h => ?_) (fun h => ?_) | with_reducible refine brW.beq (fun h => ?_) (fun h => ?_) | with_reducible refine brM.beq (fun h => ?_) (fun h => ?_) | with_reducible refine brM.ndec (fun h => ?_) (fun h => ?_) | with_reducible refine brW.ndec (fun h => ?_) (fun h => ?_) | with_reducible refine brM.dand (fun h => ?_) (fun h => ?_) | with_reducible refine brW.dand (fun h => ?_) (fun h => ?_) | with_reducible refine brM.dor (fun h => ?_) (fun h => ?_) | with_reducible refine brW.dor (fun h => ?_) (fun h => ?_) | with_reducible refine brM.bne (fun h => ?_) (fun h => ?_) | with_reducible refine brW.bne (fun h => ?_) (fun h => ?_)) <;> (first | (exfalso; omega) | skip)) | (with_reducible refine brW.two (fun h => ?_) (fun h => ?_)) | (with_reducible refine brM.two (fun h => ?_) (fun h => ?_))))
  · exact (rnewV_no (by unfold newErr; rw [if_pos h]) (by decide)).symm
  · rename_i g1
    exact (rnewV_no (by unfold newErr; rw [if_neg g1, if_pos (by omega)]) (by decide)).symm
  · rename_i g1 g2
    exact (rnewV_no (by unfold newErr; rw [if_neg g1, if_neg (by omega), if_pos (by omega)]) (by decide)).symm
  · rename_i g1 g2
    refine loopW_go (lv := [0, 1, 4, 6, 12, 16, 20, 22, 23, 24, 25, 38]) mixed (by kernel_rfl) (rnewS n l) (fun i => i ≤ l.length ∧ (l.take i).any (outB n) = false) (fun i => l.length - i) (0) ((GhW.go [0, 1, 4, 22, 23, 24] (by (first | rfl | (simp -implicitDefEqProofs -dsimp only [push_cast, ↓reduceIte, Nat.reduceMul, Nat.reduceAdd, Nat.reduceSub, Nat.reduceEqDiff, Nat.reduceBeqDiff, Nat.reduceLeDiff, Nat.reduceLT, reduceCtorEq, Int.reduceToNat, ↓ndW_true, ↓brM_true, ↓brM_false, ↓dstL_zero, ↓dstL_succ, ↓brW_true, ↓brW_false, ↓optW_some, ↓elW_zero, ↓elW_succ, ↓elW_map, ↓boolW_lit, ↓grdW_lit, ↓grdW_skip, ↓condW_lit, ↓pickW_lit, ↓calleeW_fn, ↓calleeW_d, ↓cellW_cell, ↓rowW_row, ↓iterW_iter, ↓seqK_normal, ↓seqK_exit, ↓seqK_ret, ↓blockK_normal, ↓blockK_ret, ↓blockK_exit, ↓retK_normal, ↓retK_ret, ↓loadV_pd, ↓loadV_po, ↓loadV_pe, ↓elemW, ↓evF_tmp, ↓evF_const, ↓evF_func, ↓guard_none, ↓guard_true, ↓guard_false, ↓codeW, ↓regW_true, ↓regW_false, ↓opsW_nil, ↓opsW_cons, ↓opsD_nil, ↓opsD_cons, ↓pvW_some, ↓pvsW_some, ↓vcallD_call]; first | done | rfl | ((simp -implicitDefEqProofs -dsimp (disch := omega) only [w64, wu64, half64, half64']); first | done | (simp -implicitDefEqProofs -dsimp only [push_cast, ↓reduceIte, Nat.reduceMul, Nat.reduceAdd, Nat.reduceSub, Nat.reduceEqDiff, Nat.reduceBeqDiff, Nat.reduceLeDiff, Nat.reduceLT, reduceCtorEq, Int.reduceToNat, ↓ndW_true, ↓brM_true, ↓brM_false, ↓dstL_zero, ↓dstL_succ, ↓brW_true, ↓brW_false, ↓optW_some, ↓elW_zero, ↓elW_succ, ↓elW_map, ↓boolW_lit, ↓grdW_lit, ↓grdW_skip, ↓condW_lit, ↓pickW_lit, ↓calleeW_fn, ↓calleeW_d, ↓cellW_cell, ↓rowW_row, ↓iterW_iter, ↓seqK_normal, ↓seqK_exit, ↓seqK_ret, ↓blockK_normal, ↓blockK_ret, ↓blockK_exit, ↓retK_normal, ↓retK_ret, ↓loadV_pd, ↓loadV_po, ↓loadV_pe, ↓elemW, ↓evF_tmp, ↓evF_const, ↓evF_func, ↓guard_none, ↓guard_true, ↓guard_false, ↓codeW, ↓regW_true, ↓regW_false, ↓opsW_nil, ↓opsW_cons, ↓opsD_nil, ↓opsD_cons, ↓pvW_some, ↓pvsW_some, ↓vcallD_call]; done)) | ((try (simp -implicitDefEqProofs -dsimp (disch := omega) only [w64, wu64, half64, half64'])); simp only [St.mk.injEq, List.cons.injEq, Prod.mk.injEq, V.d.injEq, D.lit.injEq, Value.int.injEq, true_and, and_true]; omega)))) rfl)) ?_ ?_
    · exact ⟨Nat.zero_le _, by simp⟩
    rintro i ⟨hi, ha⟩
    (repeat' (first | with_reducible refine GhW.now ?_ | with_reducible refine endW.now ?_ | with_reducible refine DoneW.out ?_ |  simp -implicitDefEqProofs -dsimp only [push_cast, ↓reduceIte, Nat.reduceMul, Nat.reduceAdd, Nat.reduceSub, Nat.reduceEqDiff, Nat.reduceBeqDiff, Nat.reduceLeDiff, Nat.reduceLT, reduceCtorEq, Int.reduceToNat, ↓ndW_true, ↓brM_true, ↓brM_false, ↓dstL_zero, ↓dstL_succ, ↓brW_true, ↓brW_false, ↓optW_some, ↓elW_zero, ↓elW_succ, ↓elW_map, ↓boolW_lit, ↓grdW_lit, ↓grdW_skip, ↓condW_lit, ↓pickW_lit, ↓calleeW_fn, ↓calleeW_d, ↓cellW_cell, ↓rowW_row, ↓iterW_iter, ↓seqK_normal, ↓seqK_exit, ↓seqK_ret, ↓blockK_normal, ↓blockK_ret, ↓blockK_exit, ↓retK_normal, ↓retK_ret, ↓loadV_pd, ↓loadV_po, ↓loadV_pe, ↓elemW, ↓evF_tmp, ↓evF_const, ↓evF_func, ↓guard_none, ↓guard_true, ↓guard_false, ↓codeW, ↓regW_true, ↓regW_false, ↓opsW_nil, ↓opsW_cons, ↓opsD_nil, ↓opsD_cons, ↓pvW_some, ↓pvsW_some, ↓vcallD_call] | (simp -implicitDefEqProofs -dsimp (disch := omega) only [w64, wu64, half64, half64']) | (with_reducible refine ndW.intro' (by first | omega | (simp; done) | (simp; omega) | (simp [allFit, Fit, appFits, V.cellOk, Value.oneCell', D.cells]; done) | (simp [allFit, Fit, appFits, V.cellOk, Value.oneCell', D.cells]; omega)) ?_) | ((first | with_reducible refine brW.dec (fun h => ?_) (fun h => ?_) | with_reducible refine brM.dec (fun h => ?_) (fun h => ?_) | with_reducible refine brW.beq (fun h => ?_) (fun h => ?_) | with_reducible refine brM.beq (fun h => ?_) (fun h => ?_) | with_reducible refine brM.ndec (fun h => ?_) (fun h => ?_) | with_reducible refine brW.ndec (fun h => ?_) (fun h => ?_) | with_reducible refine brM.dand (fun h => ?_) (fun h => ?_) | with_reducible refine brW.dand (fun h => ?_) (fun h => ?_) | with_reducible refine brM.dor (fun h => ?_) (fun h => ?_) | with_reducible refine brW.dor (fun h => ?_) (fun h => ?_) | with_reducible refine brM.bne (fun h => ?_) (fun h => ?_) | with_reducible refine brW.bne (fun h => ?_) (fun h => ?_)) <;> (first | (exfalso; omega) | skip)) | (with_reducible refine brW.two (fun h => ?_) (fun h => ?_)) | (with_reducible refine brM.two (fun h => ?_) (fun h => ?_))))
    · refine elX.intro fun x hx => ?_
      (repeat' (first | with_reducible refine GhW.now ?_ | with_reducible refine endW.now ?_ | with_reducible refine DoneW.out ?_ | (with_reducible refine callD.d (RSpan_fn _) (by kernel_rfl) rfl rfl ?_) | (with_reducible refine callD.d (RMeet_fn _ _ _ _) (by kernel_rfl) rfl rfl ?_) | (with_reducible refine CallW.d (RSpan_fn _) (by kernel_rfl) rfl rfl ?_) | (with_reducible refine CallW.d (RMeet_fn _ _ _ _) (by kernel_rfl) rfl rfl ?_) | simp -implicitDefEqProofs -dsimp only [push_cast, ↓reduceIte, Nat.reduceMul, Nat.reduceAdd, Nat.reduceSub, Nat.reduceEqDiff, Nat.reduceBeqDiff, Nat.reduceLeDiff, Nat.reduceLT, reduceCtorEq, Int.reduceToNat, ↓ndW_true, ↓brM_true, ↓brM_false, ↓dstL_zero, ↓dstL_succ, ↓brW_true, ↓brW_false, ↓optW_some, ↓elW_zero, ↓elW_succ, ↓elW_map, ↓boolW_lit, ↓grdW_lit, ↓grdW_skip, ↓condW_lit, ↓pickW_lit, ↓calleeW_fn, ↓calleeW_d, ↓cellW_cell, ↓rowW_row, ↓iterW_iter, ↓seqK_normal, ↓seqK_exit, ↓seqK_ret, ↓blockK_normal, ↓blockK_ret, ↓blockK_exit, ↓retK_normal, ↓retK_ret, ↓loadV_pd, ↓loadV_po, ↓loadV_pe, ↓elemW, ↓evF_tmp, ↓evF_const, ↓evF_func, ↓guard_none, ↓guard_true, ↓guard_false, ↓codeW, ↓regW_true, ↓regW_false, ↓opsW_nil, ↓opsW_cons, ↓opsD_nil, ↓opsD_cons, ↓pvW_some, ↓pvsW_some, ↓vcallD_call] | (simp -implicitDefEqProofs -dsimp (disch := omega) only [w64, wu64, half64, half64']) | (with_reducible refine ndW.intro' (by first | omega | (simp; done) | (simp; omega) | (simp [allFit, Fit, appFits, V.cellOk, Value.oneCell', D.cells]; done) | (simp [allFit, Fit, appFits, V.cellOk, Value.oneCell', D.cells]; omega)) ?_) | ((first | with_reducible refine brW.dec (fun h => ?_) (fun h => ?_) | with_reducible refine brM.dec (fun h => ?_) (fun h => ?_) | with_reducible refine brW.beq (fun h => ?_) (fun h => ?_) | with_reducible refine brM.beq (fun h => ?_) (fun h => ?_) | with_reducible refine brM.ndec (fun h => ?_) (fun h => ?_) | with_reducible refine brW.ndec (fun h => ?_) (fun h => ?_) | with_reducible refine brM.dand (fun h => ?_) (fun h => ?_) | with_reducible refine brW.dand (fun h => ?_) (fun h => ?_) | with_reducible refine brM.dor (fun h => ?_) (fun h => ?_) | with_reducible refine brW.dor (fun h => ?_) (fun h => ?_) | with_reducible refine brM.bne (fun h => ?_) (fun h => ?_) | with_reducible refine brW.bne (fun h => ?_) (fun h => ?_)) <;> (first | (exfalso; omega) | skip)) | (with_reducible refine brW.two (fun h => ?_) (fun h => ?_)) | (with_reducible refine brM.two (fun h => ?_) (fun h => ?_))))
      · have ho : outB n x = true := by simp [outB, h]
        exact (rnewV_no (by unfold newErr; rw [if_neg g1, if_neg (by omega), if_neg (by omega), if_pos (any_of hx ho)]) (by decide)).symm
      · have ho : outB n x = true := by simp [outB, h]
        exact (rnewV_no (by unfold newErr; rw [if_neg g1, if_neg (by omega), if_neg (by omega), if_pos (any_of hx ho)]) (by decide)).symm
      · have ho : outB n x = false := by
          simp only [outB, Bool.or_eq_false_iff, decide_eq_false_iff_not]
          omega
        refine AgW.go (i + 1) [0, 1, 4, 22, 23, 24] (by (first | rfl | (simp -implicitDefEqProofs -dsimp only [push_cast, ↓reduceIte, Nat.reduceMul, Nat.reduceAdd, Nat.reduceSub, Nat.reduceEqDiff, Nat.reduceBeqDiff, Nat.reduceLeDiff, Nat.reduceLT, reduceCtorEq, Int.reduceToNat, ↓ndW_true, ↓brM_true, ↓brM_false, ↓dstL_zero, ↓dstL_succ, ↓brW_true, ↓brW_false, ↓optW_some, ↓elW_zero, ↓elW_succ, ↓elW_map, ↓boolW_lit, ↓grdW_lit, ↓grdW_skip, ↓condW_lit, ↓pickW_lit, ↓calleeW_fn, ↓calleeW_d, ↓cellW_cell, ↓rowW_row, ↓iterW_iter, ↓seqK_normal, ↓seqK_exit, ↓seqK_ret, ↓blockK_normal, ↓blockK_ret, ↓blockK_exit, ↓retK_normal, ↓retK_ret, ↓loadV_pd, ↓loadV_po, ↓loadV_pe, ↓elemW, ↓evF_tmp, ↓evF_const, ↓evF_func, ↓guard_none, ↓guard_true, ↓guard_false, ↓codeW, ↓regW_true, ↓regW_false, ↓opsW_nil, ↓opsW_cons, ↓opsD_nil, ↓opsD_cons, ↓pvW_some, ↓pvsW_some, ↓vcallD_call]; first | done | rfl | ((simp -implicitDefEqProofs -dsimp (disch := omega) only [w64, wu64, half64, half64']); first | done | (simp -implicitDefEqProofs -dsimp only [push_cast, ↓reduceIte, Nat.reduceMul, Nat.reduceAdd, Nat.reduceSub, Nat.reduceEqDiff, Nat.reduceBeqDiff, Nat.reduceLeDiff, Nat.reduceLT, reduceCtorEq, Int.reduceToNat, ↓ndW_true, ↓brM_true, ↓brM_false, ↓dstL_zero, ↓dstL_succ, ↓brW_true, ↓brW_false, ↓optW_some, ↓elW_zero, ↓elW_succ, ↓elW_map, ↓boolW_lit, ↓grdW_lit, ↓grdW_skip, ↓condW_lit, ↓pickW_lit, ↓calleeW_fn, ↓calleeW_d, ↓cellW_cell, ↓rowW_row, ↓iterW_iter, ↓seqK_normal, ↓seqK_exit, ↓seqK_ret, ↓blockK_normal, ↓blockK_ret, ↓blockK_exit, ↓retK_normal, ↓retK_ret, ↓loadV_pd, ↓loadV_po, ↓loadV_pe, ↓elemW, ↓evF_tmp, ↓evF_const, ↓evF_func, ↓guard_none, ↓guard_true, ↓guard_false, ↓codeW, ↓regW_true, ↓regW_false, ↓opsW_nil, ↓opsW_cons, ↓opsD_nil, ↓opsD_cons, ↓pvW_some, ↓pvsW_some, ↓vcallD_call]; done)) | ((try (simp -implicitDefEqProofs -dsimp (disch := omega) only [w64, wu64, half64, half64'])); simp only [St.mk.injEq, List.cons.injEq, Prod.mk.injEq, V.d.injEq, D.lit.injEq, Value.int.injEq, true_and, and_true]; omega)))) ?_ ?_
        · show l.length - (i + 1) < l.length - i
          omega
        · exact ⟨by omega, by rw [any_take hx ha, ho]⟩
    · have e : newErr n l = 0 := by
        rw [List.take_of_length_le (by omega)] at ha
        unfold newErr
        rw [if_neg g1, if_neg (by omega), if_neg (by omega), if_neg (by simp [ha])]
      rw [rnewV_ok e]
      refine CallW.d (RJoined_fn l (by omega)) (by kernel_rfl) rfl rfl ?_
      (repeat' (first | with_reducible refine GhW.now ?_ | with_reducible refine endW.now ?_ |  simp -implicitDefEqProofs -dsimp only [push_cast, ↓reduceIte, Nat.reduceMul, Nat.reduceAdd, Nat.reduceSub, Nat.reduceEqDiff, Nat.reduceBeqDiff, Nat.reduceLeDiff, Nat.reduceLT, reduceCtorEq, Int.reduceToNat, ↓ndW_true, ↓brM_true, ↓brM_false, ↓dstL_zero, ↓dstL_succ, ↓brW_true, ↓brW_false, ↓optW_some, ↓elW_zero, ↓elW_succ, ↓elW_map, ↓boolW_lit, ↓grdW_lit, ↓grdW_skip, ↓condW_lit, ↓pickW_lit, ↓calleeW_fn, ↓calleeW_d, ↓cellW_cell, ↓rowW_row, ↓iterW_iter, ↓seqK_normal, ↓seqK_exit, ↓seqK_ret, ↓blockK_normal, ↓blockK_ret, ↓blockK_exit, ↓retK_normal, ↓retK_ret, ↓loadV_pd, ↓loadV_po, ↓loadV_pe, ↓elemW, ↓evF_tmp, ↓evF_const, ↓evF_func, ↓guard_none, ↓guard_true, ↓guard_false, ↓codeW, ↓regW_true, ↓regW_false, ↓opsW_nil, ↓opsW_cons, ↓opsD_nil, ↓opsD_cons, ↓pvW_some, ↓pvsW_some, ↓vcallD_call] | (simp -implicitDefEqProofs -dsimp (disch := omega) only [w64, wu64, half64, half64']) | (with_reducible refine ndW.intro' (by first | omega | (simp; done) | (simp; omega) | (simp [allFit, Fit, appFits, V.cellOk, Value.oneCell', D.cells]; done) | (simp [allFit, Fit, appFits, V.cellOk, Value.oneCell', D.cells]; omega)) ?_) | ((first | with_reducible refine brW.dec (fun h => ?_) (fun h => ?_) | with_reducible refine brM.dec (fun h => ?_) (fun h => ?_) | with_reducible refine brW.beq (fun h => ?_) (fun h => ?_) | with_reducible refine brM.beq (fun h => ?_) (fun h => ?_) | with_reducible refine brM.ndec (fun h => ?_) (fun h => ?_) | with_reducible refine brW.ndec (fun h => ?_) (fun h => ?_) | with_reducible refine brM.dand (fun h => ?_) (fun h => ?_) | with_reducible refine brW.dand (fun h => ?_) (fun h => ?_) | with_reducible refine brM.dor (fun h => ?_) (fun h => ?_) | with_reducible refine brW.dor (fun h => ?_) (fun h => ?_) | with_reducible refine brM.bne (fun h => ?_) (fun h => ?_) | with_reducible refine brW.bne (fun h => ?_) (fun h => ?_)) <;> (first | (exfalso; omega) | skip)) | (with_reducible refine brW.two (fun h => ?_) (fun h => ?_)) | (with_reducible refine brM.two (fun h => ?_) (fun h => ?_))))
      refine DoneW.out ?_
      (repeat' (first | with_reducible refine GhW.now ?_ | with_reducible refine endW.now ?_ |  simp -implicitDefEqProofs -dsimp only [push_cast, ↓reduceIte, Nat.reduceMul, Nat.reduceAdd, Nat.reduceSub, Nat.reduceEqDiff, Nat.reduceBeqDiff, Nat.reduceLeDiff, Nat.reduceLT, reduceCtorEq, Int.reduceToNat, ↓ndW_true, ↓brM_true, ↓brM_false, ↓dstL_zero, ↓dstL_succ, ↓brW_true, ↓brW_false, ↓optW_some, ↓elW_zero, ↓elW_succ, ↓elW_map, ↓boolW_lit, ↓grdW_lit, ↓grdW_skip, ↓condW_lit, ↓pickW_lit, ↓calleeW_fn, ↓calleeW_d, ↓cellW_cell, ↓rowW_row, ↓iterW_iter, ↓seqK_normal, ↓seqK_exit, ↓seqK_ret, ↓blockK_normal, ↓blockK_ret, ↓blockK_exit, ↓retK_normal, ↓retK_ret, ↓loadV_pd, ↓loadV_po, ↓loadV_pe, ↓elemW, ↓evF_tmp, ↓evF_const, ↓evF_func, ↓guard_none, ↓guard_true, ↓guard_false, ↓codeW, ↓regW_true, ↓regW_false, ↓opsW_nil, ↓opsW_cons, ↓opsD_nil, ↓opsD_cons, ↓pvW_some, ↓pvsW_some, ↓vcallD_call] | (simp -implicitDefEqProofs -dsimp (disch := omega) only [w64, wu64, half64, half64']) | (with_reducible refine ndW.intro' (by first | omega | (simp; done) | (simp; omega) | (simp [allFit, Fit, appFits, V.cellOk, Value.oneCell', D.cells]; done) | (simp [allFit, Fit, appFits, V.cellOk, Value.oneCell', D.cells]; omega)) ?_) | ((first | with_reducible refine brW.dec (fun h => ?_) (fun h => ?_) | with_reducible refine brM.dec (fun h => ?_) (fun h => ?_) | with_reducible refine brW.beq (fun h => ?_) (fun h => ?_) | with_reducible refine brM.beq (fun h => ?_) (fun h => ?_) | with_reducible refine brM.ndec (fun h => ?_) (fun h => ?_) | with_reducible refine brW.ndec (fun h => ?_) (fun h => ?_) | with_reducible refine brM.dand (fun h => ?_) (fun h => ?_) | with_reducible refine brW.dand (fun h => ?_) (fun h => ?_) | with_reducible refine brM.dor (fun h => ?_) (fun h => ?_) | with_reducible refine brW.dor (fun h => ?_) (fun h => ?_) | with_reducible refine brM.bne (fun h => ?_) (fun h => ?_) | with_reducible refine brW.bne (fun h => ?_) (fun h => ?_)) <;> (first | (exfalso; omega) | skip)) | (with_reducible refine brW.two (fun h => ?_) (fun h => ?_)) | (with_reducible refine brM.two (fun h => ?_) (fun h => ?_))))
end Go.Proofs.Ytlledfabkmmgoaa
/- Calls that are handed an own block for good: it is settled first. -/
set_option linter.unusedSimpArgs false
namespace Go.Proofs.Ytlledfabkmmgoaa
open Go
section
variable {P : Program} {G : Gl} {w : World} {I : Nat → Prop} {β : Bet} {σ : Sig} {nx id : Nat} {blk : Blk}
theorem frz_step (h : Mem w I β σ nx) (hg : σ.get id = some blk) : MStep w I β σ nx w (fun b => I b ∨ ∃ c, β id = some (some (b, c))) β (σ.frz id blk) nx ∧ Set1 w I (fun b => I b ∨ ∃ c, β id = some (some (b, c))) β id blk := by
  have h1 := MStep.refl h
  have hown := h1.mem.own id blk hg
  let I' : Nat → Prop := fun b => I b ∨ ∃ c, β id = some (some (b, c))
  have hset : Set1 w I I' β id blk := ⟨fun b hb => .inl hb, hown, fun b c hb => .inr ⟨c, hb⟩⟩
  refine ⟨⟨⟨fun j b hj => ?_, fun j j' b b' k c c' g1 g2 g3 g4 => ?_, h1.mem.free, fun b hb => ?_⟩, h1.os, h1.tape, h1.output, h1.size, h1.block, fun b hb => .inl (h1.imm b hb), fun b hb => ?_, h1.bet, h1.nx, fun b ⟨j, bl, c, g1, g2⟩ => ?_⟩, hset⟩
  · rw [Sig.get_frz] at hj
    split at hj
    · cases hj
    · rename_i hne
      simp only [Option.map_eq_some_iff] at hj
      obtain ⟨b0, hb0, rfl⟩ := hj
      have ho := h1.mem.own j b0 hb0
      have hni : ∀ b c, β j = some (some (b, c)) → ¬ I' b := by
        intro b c hb hI
        rcases hI with hI | ⟨c', hc'⟩
        · exact (ho.not_imm hb).1 hI
        · exact hne (h1.mem.inj j id b0 blk b c c' hb0 hg hb hc')
      cases b0 with
      | cell cs =>
        obtain ⟨b, cap, cur, t, q1, q2, q3, q4⟩ := ho
        refine ⟨b, cap, cur, t, q1, q2, hni b cap q1, fun i c hi => ?_⟩
        simp only [List.getElem?_map, Option.map_eq_some_iff] at hi
        obtain ⟨c', hc', rfl⟩ := hi
        obtain ⟨v, v1, v2, v3⟩ := q4 i c' hc'
        exact ⟨v, v1, v2, hset.den v3⟩
      | row k es => exact ho.keep (fun _ _ => rfl) (fun b hb => .inl hb) hni (fun _ _ h => h)
      | map es => exact ho.keep (fun _ _ => rfl) (fun b hb => .inl hb) hni (fun _ _ h => h)
      | iter s pos => exact ho.keep (fun _ _ => rfl) (fun b hb => .inl hb) hni (fun _ _ h => h)
  · rw [Sig.get_frz] at g1 g2
    split at g1
    · cases g1
    · split at g2
      · cases g2
      · simp only [Option.map_eq_some_iff] at g1 g2
        obtain ⟨x, hx, _⟩ := g1
        obtain ⟨y, hy, _⟩ := g2
        exact h1.mem.inj j j' x y k c c' hx hy g3 g4
  · rcases hb with hb | ⟨c, hb⟩
    · exact h1.mem.lt b hb
    · exact (hown.not_imm hb).2
  · rcases hb with hb | ⟨c, hb⟩
    · exact h1.immn b hb
    · rcases h1.own' b ⟨id, blk, c, hg, hb⟩ with h | h
      · exact .inr (.inl h)
      · exact .inr (.inr h)
  · rw [Sig.get_frz] at g1
    split at g1
    · cases g1
    · simp only [Option.map_eq_some_iff] at g1
      obtain ⟨x, hx, _⟩ := g1
      exact h1.own' b ⟨j, x, c, hx, g2⟩
theorem Does.frz {f i : Nat} {args : List V} {v : V} {σ' : Sig} (hg : σ.get i = some blk) (h : Does P G f (args.map (V.frz i blk)) (σ.frz i blk) id v σ') : Does P G f args σ id v σ' := by
  intro w I β nx vals hm hG hf hnx hd
  obtain ⟨s, hset⟩ := frz_step hm hg
  refine (h w _ β nx vals s.mem (fun g x hx => (hG g x hx).keep (fun _ _ => rfl) (fun b hb => .inl hb)) hf hnx ⟨by simpa using hd.1, fun j c x hc hx => ?_⟩).mono ?_
  · simp only [List.getElem?_map, Option.map_eq_some_iff] at hc
    obtain ⟨c', hc', rfl⟩ := hc
    exact hset.den (hd.2 j c' x hc' hx)
  · rintro e w' ⟨u, I2, β2, e1, e2, e3, e4⟩
    exact ⟨u, I2, β2, e1, e2, s.trans e3, e4⟩
theorem CallW.frz {f : Nat} {args : List V} {K : V → Sig → Prop} (i : Nat) (hg : σ.get i = some blk) (h : CallW P G f (args.map (V.frz i blk)) (σ.frz i blk) id K) : CallW P G f args σ id K := by
  obtain ⟨v, σ', hK, he, hd⟩ := h
  exact ⟨v, σ', hK, he, hd.frz hg⟩
end
theorem beqT (b : Bool) : (b == true) = b := by cases b <;> rfl
theorem beqF (b : Bool) : (b == false) = !b := by cases b <;> rfl
attribute [push_cast] bne_self_eq_false beq_self_eq_true Bool.true_beq Bool.false_beq beqT beqF Bool.false_or Bool.true_or Bool.or_false Bool.or_true Bool.and_true Bool.true_and Bool.false_and Bool.and_false
end Go.Proofs.Ytlledfabkmmgoaa
/- Words for memory that all walks of this seat use. -/
namespace Go.Proofs.Ytlledfabkmmgoaa
open Go.RowKit

/-- The call returns v; what was there reads as it did. -/
def Rets (v : Value) (w : World) (e : Ending) (w' : World) : Prop := e = .returned v ∧ Below w.heap.size w w'

theorem bcell {W w1 : World} (hb : Below W.heap.size W w1) : (∀ b o, b < W.heap.size → w1.cell? ⟨b, o, none⟩ = W.cell? ⟨b, o, none⟩) ∧ (∀ b o, b < W.heap.size → w1.frozen? ⟨b, o, none⟩ = W.frozen? ⟨b, o, none⟩) :=
  ⟨fun b o h => hb.cell (p := ⟨b, o, none⟩) h, fun b o h => hb.frozen (p := ⟨b, o, none⟩) h⟩

theorem rets_bool {a b : Bool} {w w' : World} (h : a = b) (hb : Below w.heap.size w w') : Rets (.bool b) w (.returned (.bool a)) w' := ⟨by rw [h], hb⟩
theorem rets_int {k : IntKind} {a b : Int} {w w' : World} (h : a = b) (hb : Below w.heap.size w w') : Rets (.int k b) w (.returned (.int k a)) w' := ⟨by rw [h], hb⟩
theorem rets_int2 {k k' : IntKind} {a b a' b' : Int} {w w' : World} (h : a = b) (h' : a' = b') (hb : Below w.heap.size w w') :
    Rets (.tuple #[.int k b, .int k' b']) w (.returned (.tuple #[.int k a, .int k' a'])) w' := ⟨by rw [h, h'], hb⟩
theorem rets_val {v : Value} {w w' : World} (hb : Below w.heap.size w w') : Rets v w (.returned v) w' := ⟨rfl, hb⟩

/-- Block g holds just these cells, none of them frozen. -/
def Box (w : World) (g : Nat) (t : TypeId) (cs : Array Value) : Prop := w.heap[g]? = some (.cells cs t (0, 0))
section
variable {w w' : World} {g : Nat} {t : TypeId} {cs : Array Value}
theorem Box.lt (h : Box w g t cs) : g < w.heap.size := by
  rcases Nat.lt_or_ge g w.heap.size with hlt | hge
  · exact hlt
  · unfold Box at h; rw [Array.getElem?_eq_none hge] at h; cases h
theorem Box.cell (h : Box w g t cs) (i : Nat) : w.cell? ⟨g, i, none⟩ = cs[i]? := by
  unfold Box at h; simp [World.cell?, h]
theorem Box.free (h : Box w g t cs) (i : Nat) : w.frozen? ⟨g, i, none⟩ = false := by
  unfold Box at h; simp [World.frozen?, h]
theorem Box.drew (h : Box w g t cs) : Box w.drew g t cs := h
theorem Box.new (w : World) (t : TypeId) (cs : Array Value) : Box (w.alloc (.cells cs t)) w.heap.size t cs := by
  show (w.heap.push _)[w.heap.size]? = _
  simp
theorem Box.alloc (h : Box w g t cs) (o : Obj) : Box (w.alloc o) g t cs := (Below.heap_alloc w o g h.lt).trans h
theorem Box.set_ (h : Box w g t cs) (i : Nat) (u : Value) : Box (w.setCell ⟨g, i, none⟩ u) g t (cs.setIfInBounds i u) := by
  unfold Box at h ⊢
  simp [World.setCell, Array.getElem?_modify, h]
theorem Box.far (h : Box w g t cs) {p : Addr} (hp : g ≠ p.block) (u : Value) : Box (w.setCell p u) g t cs := (Below.heap_setCell w p u g hp).trans h
theorem Box.below {B : Nat} (h : Box w g t cs) (hb : Below B w w') (hg : g < B) : Box w' g t cs := (hb.block g hg).trans h
theorem Box.to (h : Box w g t cs) {cs' : Array Value} (e : cs = cs') : Box w g t cs' := e ▸ h
end

/-- Cells of a list of two-cell things: thing i at off + 2 * i. -/
def TwoAt (w : World) (B : Nat) (A : Option Addr) (n : Nat) (l : List (Int × Int)) : Prop :=
  l.length = n ∧ (0 < n → ∃ b off, A = some ⟨b, off, none⟩ ∧ b < B ∧ ∀ i x y, l[i]? = some (x, y) →
    w.cell? ⟨b, off + i * 2, none⟩ = some (.int .i64 x) ∧ w.cell? ⟨b, off + i * 2 + 1, none⟩ = some (.int .i64 y))

theorem TwoAt.below {w w' : World} {B : Nat} {A : Option Addr} {n : Nat} {l : List (Int × Int)} (h : TwoAt w B A n l) (hb : Below B w w') : TwoAt w' B A n l :=
  ⟨h.1, fun hn => by
    obtain ⟨b, off, e, hlt, hc⟩ := h.2 hn
    exact ⟨b, off, e, hlt, fun i x y hi => ⟨(hb.cell hlt).trans (hc i x y hi).1, (hb.cell hlt).trans (hc i x y hi).2⟩⟩⟩

theorem TwoAt.fwd {w W : World} {A : Option Addr} {n : Nat} {l : List (Int × Int)} (h : TwoAt w w.heap.size A n l) (hW : Below w.heap.size w W) : TwoAt W W.heap.size A n l :=
  ⟨h.1, fun hn => by
    obtain ⟨b, off, e, hlt, hc⟩ := h.2 hn
    have := hW.size
    exact ⟨b, off, e, by omega, fun i x y hi => ⟨(hW.cell hlt).trans (hc i x y hi).1, (hW.cell hlt).trans (hc i x y hi).2⟩⟩⟩

theorem TwoAt.nil (w : World) (B : Nat) (A : Option Addr) : TwoAt w B A 0 [] := ⟨rfl, fun h => absurd h (by omega)⟩

theorem TwoAt.at_ {w : World} {B : Nat} {A : Option Addr} {n k : Nat} {l : List (Int × Int)} (h : TwoAt w B A n l) (hk : k < n) :
    ∃ b off x y, A = some ⟨b, off, none⟩ ∧ b < B ∧ l[k]? = some (x, y) ∧ w.cell? ⟨b, off + k * 2, none⟩ = some (.int .i64 x) ∧ w.cell? ⟨b, off + k * 2 + 1, none⟩ = some (.int .i64 y) := by
  obtain ⟨b, off, e, hlt, hc⟩ := h.2 (by omega)
  have hl : k < l.length := by have := h.1; omega
  have hg : l[k]? = some (l[k].1, l[k].2) := List.getElem?_eq_getElem hl
  exact ⟨b, off, _, _, e, hlt, hg, hc k _ _ hg⟩

end Go.Proofs.Ytlledfabkmmgoaa
/- More words for memory. -/
namespace Go.Proofs.Ytlledfabkmmgoaa
open Go.RowKit

theorem bcellK {B : Nat} {W w1 : World} (hb : Below B W w1) {N : Nat} (h : N ≤ B) : (∀ b o, b < N → w1.cell? ⟨b, o, none⟩ = W.cell? ⟨b, o, none⟩) ∧ (∀ b o, b < N → w1.frozen? ⟨b, o, none⟩ = W.frozen? ⟨b, o, none⟩) :=
  ⟨fun b o hlt => hb.cell (p := ⟨b, o, none⟩) (Nat.lt_of_lt_of_le hlt h), fun b o hlt => hb.frozen (p := ⟨b, o, none⟩) (Nat.lt_of_lt_of_le hlt h)⟩

theorem keepCell {W w1 : World} (hb : Below W.heap.size W w1) {p : Addr} {v : Value} (h : W.cell? p = some v) : w1.cell? p = some v :=
  (hb.cell (World.block_lt_of_cell? W p h)).trans h

end Go.Proofs.Ytlledfabkmmgoaa
/- The way from a walk that returns true and leaves old memory alone to a law's row: once for all laws. -/
namespace Go.Proofs.Ytlledfabkmmgoaa
open Go.ChangeShapes Go.WideShapes Go.ChangeAt Go.RowKit Go.WideElems

section
variable {H : Type} {enc : TypeId × Value → H} {P : Program}

theorem trodAll_back (hl : laidOutB P = true) {W W' : World} {sp' : Nat → Bool} (hb : Below W.heap.size W W') :
    ∀ (ts : List TypeId) (vs : List Value) (ds : List (DataW H)) (ps : List MemPlace), (∀ t ∈ ts, P.readableRec t = true ∧ t < P.types.size) →
      DataW.TrodAll enc P W 0 (fun _ => true) true ts vs ds ps → (∀ p ∈ ps, p.block < W.heap.size) → (∀ p ∈ ps, sp' p.block = true) → DataW.TrodAll enc P W' 0 sp' true ts vs ds ps
  | [], [], [], _, _, h, _, _ => h
  | t :: ts, v :: vs, d :: ds, ps, hr, ⟨p, q, h1, h2, e⟩, hlt, hs => by
    subst e
    refine ⟨p, q, Trod_stays hl (hr t (by simp)).1 (hr t (by simp)).2 h1 (fun x hx => hb.same (hlt x (by simp [hx]))) (fun x hx => hs x (by simp [hx])), ?_, rfl⟩
    exact trodAll_back hl hb ts vs ds q (fun t ht => hr t (by simp [ht])) h2 (fun x hx => hlt x (by simp [hx])) (fun x hx => hs x (by simp [hx]))
  | [], [], _ :: _, _, _, h, _, _ => h.elim
  | [], _ :: _, _, _, _, h, _, _ => h.elim
  | _ :: _, [], _, _, _, h, _, _ => h.elim
  | _ :: _, _ :: _, [], _, _, h, _, _ => h.elim

theorem law_post {fn : Func} {s : ChangeSpec} {apart fresh handsOn again : Bool} {tb : TypeId} {W W' : World} {args : Array Value} {ds gs : List (DataW H)} {before : List MemPlace}
    (hl : laidOutB P = true) (hread : (fn.params.toList.all fun t => P.readableRec t && decide (t < P.types.size)) = true) (hv : s.vars = []) (hrt : fn.resultTypes = #[tb]) (ub : P.underlying tb = some .bool)
    (hW : DataW.Whole enc P fn.params.toList s.vars apart W args.toList ds gs before) (hsp : s.fn H (ds ++ gs) = { results := [.lit (.bool true)], args := ds }) (hb : Below W.heap.size W W') :
    s.post enc P fn apart fresh handsOn again W args (.bool true) W' := by
  have hlt : ∀ p ∈ before, p.block < W.heap.size := fun p hp => hW.lt p hp
  obtain ⟨p, q, hA, hV, rfl, hz, hn⟩ := id hW
  have hrd : ∀ t ∈ fn.params.toList, P.readableRec t = true ∧ t < P.types.size := fun t ht => by
    have := List.all_eq_true.1 hread t ht
    simpa using this
  have hq : gs = [] ∧ q = [] := by
    rw [hv] at hV
    obtain ⟨h1, h2⟩ := trodVars_none hV
    exact ⟨h1, h2⟩
  obtain ⟨rfl, rfl⟩ := hq
  have hargs : ∀ sp : Nat → Bool, (∀ x ∈ p ++ [], sp x.block = true) → DataW.TrodAll enc P W' 0 sp true fn.params.toList args.toList ds p := fun sp hs =>
    trodAll_back hl hb _ _ _ _ hrd hA (fun x hx => hlt x (by simp [hx])) (fun x hx => hs x (by simp [hx]))
  have hres : ∀ (b : Nat) (sp : Nat → Bool) (hd : Bool), DataW.TrodAll enc P W' b sp hd fn.resultTypes.toList ((Value.bool true).resultList fn.resultTypes.size) [.lit (.bool true)] [] := fun b sp hd => by
    rw [hrt]
    exact trodAll_mk1 (shut_bool ub true)
  have hvars : ∀ sp : Nat → Bool, DataW.TrodVars enc P W' sp s.vars [] [] := fun sp => by rw [hv]; rfl
  have hold : ∀ x ∈ p ++ [], (fun b => decide (b < W.heap.size)) x.block = true := fun x hx => by simpa using hlt x hx
  have hok : ∀ (j : Nat) (t : TypeId) (r : Value), fn.resultTypes[j]? = some t → ((Value.bool true).resultList fn.resultTypes.size)[j]? = some r → Value.okWide P W' .any 0 t r :=
    ok_one hrt rfl (okWide_bool_mk ub true)
  refine ⟨ds, [], p ++ [], [], p, [], hW, ?_, ?_, ?_, World.keptBut_mono (fun x hx => ⟨hx, ?_⟩) (hb.frame (· ∈ p ++ [])), fun _ => ?_⟩
  · rw [hsp]; exact hres _ _ _
  · rw [hsp]; exact hargs _ hold
  · rw [hsp]; exact hvars _
  · exact .inr (.inl (by simpa using hx))
  · refine ⟨hok, [.lit (.bool true)] ++ ds, [], p, ⟨[] ++ p, [], ?_, hvars _, by simp, ?_, ?_⟩, ?_⟩
    · exact trodAll_append (hargs (fun _ => true) (fun _ _ => rfl)) (hres 0 (fun _ => true) true)
    · intro b off hp
      have hin : MemPlace.cell b off ∈ p ++ [] := by simpa using hp
      rw [hb.frozen (p := ⟨b, off, none⟩) (hlt _ hin)]
      exact hz b off hin
    · intro ha
      simpa using hn ha
    · intro x hx _
      simpa using hx

theorem law_calls {f : FuncId} {fn : Func} {s : ChangeSpec} {apart fresh handsOn again : Bool} {tb : TypeId} {W : World} {args : Array Value} {ds gs : List (DataW H)} {before : List MemPlace}
    (hl : laidOutB P = true) (hread : (fn.params.toList.all fun t => P.readableRec t && decide (t < P.types.size)) = true) (hv : s.vars = []) (hrt : fn.resultTypes = #[tb]) (ub : P.underlying tb = some .bool)
    (hW : DataW.Whole enc P fn.params.toList s.vars apart W args.toList ds gs before) (hsp : s.fn H (ds ++ gs) = { results := [.lit (.bool true)], args := ds })
    (h : Calls P f args W (Rets (.bool true) W)) : Calls P f args W fun e W' => ∃ v, e = .returned v ∧ s.post enc P fn apart fresh handsOn again W args v W' :=
  h.mono fun _ _ ⟨he, hb⟩ => ⟨_, he, law_post hl hread hv hrt ub hW hsp hb⟩
end
end Go.Proofs.Ytlledfabkmmgoaa
/- Closed facts of the program that each row wants. -/
namespace Go.Proofs.Ytlledfabkmmgoaa
theorem Try.own : ownKnob Try.prog.godebug = none := by kernel_rfl
theorem Try.laidOut : laidOutB Try.prog = true := by kernel_rfl
theorem cells_int : Try.prog.cellsOf 3 = 1 := by kernel_rfl
end Go.Proofs.Ytlledfabkmmgoaa
/- Arguments opened: whatever is built of numbers, truths, strings, structs and slices is settled data. Over any program. -/
namespace Go.Proofs.Ytlledfabkmmgoaa
open Go Go.ChangeShapes Go.WideShapes Go.ChangeAt Go.RowKit Go.WideElems Go.Deep

/-- What a cell of a type's holds. -/
inductive Cs where
  | int (k : IntKind) | bool | str
  | sl (k : Nat) (ag : Bool) (e : List Cs)
def mkEl (ag : Bool) (ds : List D) : D := match ag, ds with
  | false, [d] => d
  | _, ds => .agg ds
mutual
def OfC : Cs → D → Prop
  | .int k, x => ∃ n, x = .lit (.int k n) ∧ (Lit.int k n).wf = true
  | .bool, x => ∃ b, x = .lit (.bool b)
  | .str, x => ∃ s : ByteArray, x = .lit (.string s) ∧ s.size ≤ maxLen
  | .sl k ag e, x => ∃ es, x = .sd k false es ∧ es.length ≤ maxLen ∧ ∀ y ∈ es, ∃ ds, y = mkEl ag ds ∧ OfCs e ds
def OfCs : List Cs → List D → Prop
  | [], [] => True
  | c :: r, d :: s => OfC c d ∧ OfCs r s
  | _, _ => False
end
theorem OfC.cells {c : Cs} {d : D} (h : OfC c d) : d.cells = [d] := by
  cases c with
  | int k => simp only [OfC] at h; obtain ⟨n, rfl, _⟩ := h; rfl
  | bool => simp only [OfC] at h; obtain ⟨n, rfl⟩ := h; rfl
  | str => simp only [OfC] at h; obtain ⟨n, rfl, _⟩ := h; rfl
  | sl k ag e => simp only [OfC] at h; obtain ⟨n, rfl, _⟩ := h; rfl
theorem OfCs.len : ∀ {l : List Cs} {ds : List D}, OfCs l ds → ds.length = l.length
  | [], [], _ => rfl
  | c :: r, d :: s, h => by simp only [OfCs] at h; simp [OfCs.len h.2]
  | [], _ :: _, h => by simp [OfCs] at h
  | _ :: _, [], h => by simp [OfCs] at h
theorem OfCs.app : ∀ {a b : List Cs} {x y : List D}, OfCs a x → OfCs b y → OfCs (a ++ b) (x ++ y)
  | [], _, [], _, _, h => h
  | c :: r, _, d :: s, _, h, k => by
    simp only [OfCs, List.cons_append] at h ⊢
    exact ⟨h.1, OfCs.app h.2 k⟩
  | [], _, _ :: _, _, h, _ => by simp [OfCs] at h
  | _ :: _, _, [], _, h, _ => by simp [OfCs] at h
theorem mkEl_cells {ag : Bool} {l : List Cs} {ds : List D} (h : OfCs l ds) : (mkEl ag ds).cells = ds := by
  unfold mkEl
  split
  · match l, h with
    | c :: [], h =>
      simp only [OfCs] at h
      exact h.1.cells
    | [], h => simp [OfCs] at h
    | _ :: _ :: _, h => simp [OfCs] at h
  · rfl
def isStT (P : Program) (t : Nat) : Bool := match P.underlying t with
  | some (.struct _) => true
  | _ => false
def fieldsC (P : Program) (g : Nat → Option (List Cs)) : List Field → Nat → Option (List Cs)
  | [], _ => some []
  | f :: r, o => if f.offset = o then (match g f.type with
    | some a => if P.cellsOf f.type = a.length then (fieldsC P g r (o + a.length)).map (a ++ ·) else none
    | none => none) else none
def shC (P : Program) : Nat → Nat → Option (List Cs)
  | 0, _ => none
  | d + 1, t => match P.underlying t with
    | some (.int k) => some [.int k]
    | some .bool => some [.bool]
    | some .string => some [.str]
    | some (.struct fs) => (match fieldsC P (shC P d) fs.toList 0 with
      | some l => if P.cellsOf t = l.length then some l else none
      | none => none)
    | some (.slice e) => (match shC P d e with
      | some l => if P.cellsOf e = l.length ∧ 0 < l.length then some [.sl l.length (isStT P e) l] else none
      | none => none)
    | _ => none

section
variable {H : Type} {enc : TypeId × Value → H} {P : Program} {w : World} {held : Bool}
def Old (w : World) : Nat → Prop := fun b => b < w.heap.size
def GoodL (w : World) (ds : List D) (cs : List Value) : Prop := ds.length = cs.length ∧ (∀ v ∈ cs, v.oneCell' = true) ∧ ∀ (i : Nat) c v, ds[i]? = some c → cs[i]? = some v → DenD w (Old w) c v
theorem GoodL.nil : GoodL w [] [] := ⟨rfl, (fun v hv => by cases hv), (fun i c v h => by simp at h)⟩
theorem GoodL.one {d : D} {v : Value} (ho : v.oneCell' = true) (h : DenD w (Old w) d v) : GoodL w [d] [v] :=
  ⟨rfl, fun x hx => by simp at hx; subst hx; exact ho, fun i c x hc hx => by
    match i, hc, hx with
    | 0, hc, hx => simp at hc hx; subst hc hx; exact h⟩
theorem GoodL.app {a b : List D} {x y : List Value} (h : GoodL w a x) (k : GoodL w b y) : GoodL w (a ++ b) (x ++ y) := by
  refine ⟨by simp [h.1, k.1], fun v hv => ?_, fun i c v hc hv => ?_⟩
  · rcases List.mem_append.1 hv with hv | hv
    · exact h.2.1 v hv
    · exact k.2.1 v hv
  · rw [List.getElem?_append] at hc hv
    rw [h.1] at hc
    split at hc
    · rename_i hlt
      rw [if_pos hlt] at hv
      exact h.2.2 i c v hc hv
    · rename_i hlt
      rw [if_neg hlt] at hv
      exact k.2.2 _ c v hc hv
theorem open_fields {d n : Nat} (ih : ∀ t l, shC P d t = some l → ∀ (fuel : Nat) cs x, DataW.trod enc P w 0 (fun _ => true) held fuel t cs = some x → ∃ ds, OfCs l ds ∧ GoodL w ds cs) {cs : List Value} :
    ∀ (fs : List Field) (o : Nat) (l : List Cs), fieldsC P (shC P d) fs o = some l → (∀ f ∈ fs, ∃ x, DataW.trod enc P w 0 (fun _ => true) held n f.type ((cs.drop f.offset).take (P.cellsOf f.type)) = some x) →
      ∃ ds, OfCs l ds ∧ GoodL w ds ((cs.drop o).take l.length)
  | [], o, l, h, _ => by
    simp only [fieldsC, Option.some.injEq] at h
    subst h
    exact ⟨[], by simp [OfCs], by simpa using GoodL.nil⟩
  | f :: fs, o, l, h, hx => by
    simp only [fieldsC] at h
    split at h
    rotate_left
    · cases h
    rename_i ho
    split at h
    rotate_left
    · cases h
    rename_i a ha
    split at h
    rotate_left
    · cases h
    rename_i hc
    simp only [Option.map_eq_some_iff] at h
    obtain ⟨b, hb, rfl⟩ := h
    obtain ⟨x, h1⟩ := hx f List.mem_cons_self
    obtain ⟨d1, p1, q1⟩ := ih f.type a ha n _ _ h1
    obtain ⟨d2, p2, q2⟩ := open_fields ih fs (o + a.length) b hb (fun g hg => hx g (List.mem_cons_of_mem _ hg))
    refine ⟨d1 ++ d2, p1.app p2, ?_⟩
    have e : (cs.drop o).take (a ++ b).length = (cs.drop f.offset).take (P.cellsOf f.type) ++ (cs.drop (o + a.length)).take b.length := by
      rw [ho, hc, List.length_append, List.take_add, List.drop_drop]
    rw [e]
    exact q1.app q2
theorem plain_addr {a : Addr} {v : Value} (h : w.cell? a = some v) : a = ⟨a.block, a.off, none⟩ ∧ a.block < w.heap.size := by
  refine ⟨?_, World.block_lt_of_cell? w _ h⟩
  rcases a with ⟨b, o, s⟩
  cases s with
  | none => rfl
  | some s => simp [World.cell?] at h; split at h <;> simp at h
theorem add_plain (b o n : Nat) : (Addr.mk b o none).add n = ⟨b, o + n, none⟩ := by
  unfold Addr.add
  split <;> simp_all
theorem open_cells : ∀ (d t : Nat) (l : List Cs), shC P d t = some l → ∀ (fuel : Nat) cs x, DataW.trod enc P w 0 (fun _ => true) held fuel t cs = some x → ∃ ds, OfCs l ds ∧ GoodL w ds cs := by
  intro d
  induction d with
  | zero => intro t l h; simp [shC] at h
  | succ d ih =>
    intro t l h fuel cs x ht
    simp only [shC] at h
    split at h
    · rename_i k hu
      injection h with h; subst h
      obtain ⟨n, rfl, _, hw⟩ := DataW.trod_int hu ht
      exact ⟨[.lit (.int k n)], by simp only [OfCs, OfC]; exact ⟨⟨n, rfl, hw⟩, trivial⟩, GoodL.one rfl (DenD.lit _)⟩
    · rename_i hu
      injection h with h; subst h
      obtain ⟨n, rfl, _⟩ := DataW.trod_bool hu ht
      exact ⟨[.lit (.bool n)], by simp only [OfCs, OfC]; exact ⟨⟨n, rfl⟩, trivial⟩, GoodL.one rfl (DenD.lit _)⟩
    · rename_i hu
      injection h with h; subst h
      obtain ⟨n, rfl, _, hw⟩ := DataW.trod_string hu ht
      exact ⟨[.lit (.string n)], by simp only [OfCs, OfC]; exact ⟨⟨n, rfl, hw⟩, trivial⟩, GoodL.one rfl (DenD.lit _)⟩
    · rename_i fs hu
      split at h
      rotate_left
      · cases h
      rename_i l' hl'
      split at h
      rotate_left
      · cases h
      rename_i hcl
      injection h with h; subst h
      obtain ⟨xs, n, _, _, hlen, hxs, hg⟩ := DataW.trod_struct hu ht
      obtain ⟨ds, h1, h2⟩ := open_fields (n := n) (cs := cs) ih fs.toList 0 l' hl' (fun f hf => by
        obtain ⟨i, hi, rfl⟩ := List.getElem_of_mem hf
        have hi' : i < fs.size := by simpa using hi
        have := hg i fs[i] (by simp [hi'])
        refine ⟨xs[i]'(by omega), ?_⟩
        have e : fs.toList[i] = fs[i] := by simp
        rw [e, this]
        exact List.getElem?_eq_getElem (by omega))
      refine ⟨ds, h1, ?_⟩
      rw [List.drop_zero, List.take_of_length_le (by omega)] at h2
      exact h2
    · rename_i e hu
      split at h
      rotate_left
      · cases h
      rename_i l' hl'
      split at h
      rotate_left
      · cases h
      rename_i hcl
      obtain ⟨hcl, hpos⟩ := hcl
      injection h with h; subst h
      rcases open_slice hu ht with ⟨rfl, _⟩ | ⟨a, len, cap, m, n, D', Pl, rfl, _, hle, hm, hmm, _, hall⟩
      · refine ⟨[.sd l'.length false []], ?_, GoodL.one rfl (DenD.sd0 _ _ _)⟩
        simp only [OfCs, OfC]
        exact ⟨⟨[], rfl, Nat.zero_le _, fun y hy => by cases hy⟩, trivial⟩
      · rw [if_pos rfl] at hmm
        subst hmm
        rw [hcl] at hall
        rcases Nat.eq_zero_or_pos m with h0 | h0
        · have hl0 : len = 0 := by omega
          subst hl0 h0
          refine ⟨[.sd l'.length false []], ?_, GoodL.one rfl (DenD.sd0 _ _ _)⟩
          simp only [OfCs, OfC]
          exact ⟨⟨[], rfl, Nat.zero_le _, fun y hy => by cases hy⟩, trivial⟩
        · have hpl : a = ⟨a.block, a.off, none⟩ ∧ a.block < w.heap.size := by
            obtain ⟨cs', hc', _⟩ := hall 0 h0
            obtain ⟨_, hcl', hat⟩ := World.cells?_some hc'
            have h1 := hat 0 hpos
            rw [List.getElem?_eq_getElem (by omega)] at h1
            rw [Go.Deep.add_add] at h1
            simpa [Addr.add] using plain_addr h1
          obtain ⟨ha, hbl⟩ := hpl
          have hel : ∀ i, i < m → ∃ ds, OfCs l' ds ∧ ∀ (j : Nat) c, ds[j]? = some c → ∃ v, w.cell? ⟨a.block, a.off + i * l'.length + j, none⟩ = some v ∧ v.oneCell' = true ∧ DenD w (Old w) c v := by
            intro i hi
            obtain ⟨cs', hc', ht'⟩ := hall i hi
            obtain ⟨_, hcl', hat⟩ := World.cells?_some hc'
            obtain ⟨ds, h1, h2⟩ := ih e l' hl' n cs' _ ht'
            refine ⟨ds, h1, fun j c hj => ?_⟩
            have hjl : j < cs'.length := by rw [← h2.1]; exact (List.getElem?_eq_some_iff.1 hj).1
            have h3 := hat j (by omega)
            rw [Go.Deep.add_add, ha, add_plain, List.getElem?_eq_getElem hjl] at h3
            refine ⟨cs'[j], ?_, h2.2.1 _ (List.getElem_mem hjl), h2.2.2 j c _ hj (List.getElem?_eq_getElem hjl)⟩
            rw [← h3, Nat.add_assoc]
          let F : Nat → List D := fun i => if hi : i < m then (hel i hi).choose else []
          have hF : ∀ i, i < m → OfCs l' (F i) ∧ ∀ (j : Nat) c, (F i)[j]? = some c → ∃ v, w.cell? ⟨a.block, a.off + i * l'.length + j, none⟩ = some v ∧ v.oneCell' = true ∧ DenD w (Old w) c v := by
            intro i hi
            have e : F i = (hel i hi).choose := by simp only [F, hi, dif_pos]
            rw [e]
            exact (hel i hi).choose_spec
          have hes : ∀ (i : Nat) y, ((List.range len).map fun i => mkEl (isStT P e) (F i))[i]? = some y → i < m ∧ y = mkEl (isStT P e) (F i) := by
            intro i y hy
            simp only [List.getElem?_map, Option.map_eq_some_iff] at hy
            obtain ⟨k, hk, rfl⟩ := hy
            obtain ⟨hk1, hk2⟩ := List.getElem?_eq_some_iff.1 hk
            simp at hk1 hk2
            subst hk2
            exact ⟨by omega, rfl⟩
          refine ⟨[.sd l'.length false ((List.range len).map fun i => mkEl (isStT P e) (F i))], ?_, GoodL.one rfl ?_⟩
          · simp only [OfCs, OfC]
            refine ⟨⟨_, rfl, by simp; omega, fun y hy => ?_⟩, trivial⟩
            obtain ⟨i, hi⟩ := List.mem_iff_getElem?.1 hy
            obtain ⟨h1, h2⟩ := hes i y hi
            exact ⟨F i, h2, (hF i h1).1⟩
          · rw [ha]
            have key := DenD.sd (w := w) (I := Old w) l'.length false ((List.range len).map fun i => mkEl (isStT P e) (F i)) a.block a.off m (fun i j => (w.cell? ⟨a.block, a.off + i * l'.length + j, none⟩).getD undef) hbl
              (fun i y hy => by
                obtain ⟨h1, rfl⟩ := hes i y hy
                rw [mkEl_cells (hF i h1).1, (hF i h1).1.len])
              (fun i y j c hy hj => by
                obtain ⟨h1, rfl⟩ := hes i y hy
                rw [mkEl_cells (hF i h1).1] at hj
                obtain ⟨v, v1, _, _⟩ := (hF i h1).2 j c hj
                rw [v1]; rfl)
              (fun i y j c hy hj => by
                obtain ⟨h1, rfl⟩ := hes i y hy
                rw [mkEl_cells (hF i h1).1] at hj
                obtain ⟨v, v1, v2, _⟩ := (hF i h1).2 j c hj
                simp only [v1, Option.getD_some]; exact v2)
              (fun i y j c hy hj => by
                obtain ⟨h1, rfl⟩ := hes i y hy
                rw [mkEl_cells (hF i h1).1] at hj
                obtain ⟨v, v1, _, v3⟩ := (hF i h1).2 j c hj
                simp only [v1, Option.getD_some]; exact v3)
              (by simp; omega) (by simp)
            simpa using key
    · cases h
/-- What an argument's settled data is. -/
def argD (P : Program) (t : Nat) (ds : List D) : D := mkEl (isStT P t) ds
theorem open_arg {d t b0 : Nat} {l : List Cs} {v : Value} {x : DataW H} {p : List MemPlace} (hs : shC P d t = some l) (hv : Value.okWide P w .any b0 t v) (h : DataW.Trod enc P w 0 (fun _ => true) held t v x p) :
    ∃ ds, OfCs l ds ∧ DenD w (Old w) (argD P t ds) v := by
  obtain ⟨fuel, hf⟩ := h
  obtain ⟨ds, h1, h2⟩ := open_cells d t l hs fuel _ _ hf
  refine ⟨ds, h1, ?_⟩
  have one : ∀ c, l = [c] → isStT P t = false → v.cells = #[v] → DenD w (Old w) (argD P t ds) v := by
    intro c hl hst hc
    subst hl
    match ds, h1 with
    | [d], h1 =>
      unfold argD
      rw [hst]
      exact h2.2.2 0 d v rfl (by rw [hc]; rfl)
    | [], h1 => simp [OfCs] at h1
    | _ :: _ :: _, h1 => simp [OfCs] at h1
  cases d with
  | zero => simp [shC] at hs
  | succ d =>
    simp only [shC] at hs
    split at hs
    · rename_i k hu
      injection hs with hs
      obtain ⟨n, rfl⟩ := okWide_int hu hv
      exact one _ hs.symm (by simp [isStT, hu]) rfl
    · rename_i hu
      injection hs with hs
      obtain ⟨n, rfl⟩ := okWide_bool hu hv
      exact one _ hs.symm (by simp [isStT, hu]) rfl
    · rename_i hu
      injection hs with hs
      obtain ⟨n, rfl⟩ := okWide_string hu hv
      exact one _ hs.symm (by simp [isStT, hu]) rfl
    · rename_i fs hu
      obtain ⟨cs, rfl, hsz⟩ := okWide_struct hu hv
      have e : argD P t ds = .agg ds := by
        have hst : isStT P t = true := by simp [isStT, hu]
        unfold argD mkEl
        rw [hst]
      rw [e]
      have hcs : cs = cs.toList.toArray := by simp
      rw [hcs]
      exact DenD.agg ds cs.toList h2.1 h2.2.1 h2.2.2
    · rename_i e hu
      split at hs
      rotate_left
      · cases hs
      split at hs
      rotate_left
      · cases hs
      injection hs with hs
      obtain ⟨a, n, c, rfl⟩ := okWide_slice hu hv
      exact one _ hs.symm (by simp [isStT, hu]) rfl
    · cases hs
end
end Go.Proofs.Ytlledfabkmmgoaa
/- From what a function does, told of settled data, to a law's row. Over any program. -/
namespace Go.Proofs.Ytlledfabkmmgoaa
open Go Go.ChangeShapes Go.WideShapes Go.ChangeAt Go.RowKit Go.WideElems Go.Deep
section
variable {H : Type} {enc : TypeId × Value → H} {P : Program} {w : World} {held : Bool}
theorem rets_of {f : Nat} {args : List V} {vals : List Value} {b : Bool} (h : OFn P G0 f args [] 0 (bv b) []) (hd : DenL w (Old w) (fun _ => none) args vals) : Calls P f vals.toArray w (Rets (.bool b) w) := by
  have hm : Mem w (Old w) (fun _ => none) [] 0 := ⟨(fun id blk h => by cases h), (fun id id' blk blk' b c c' h => by cases h), fun _ _ => rfl, fun b h => h⟩
  refine (h w (Old w) (fun _ => none) vals hm (fun g x hg => by simp [G0] at hg) hd).mono ?_
  rintro e w' ⟨u, I', β', rfl, h1, h2⟩
  have hu : u = .bool b := den_lit h1
  subst hu
  exact ⟨rfl, h2.os, h2.tape, h2.output, h2.size, fun k hk => h2.block k hk (fun ⟨j, bl, c, g1, _⟩ => by cases g1)⟩
def shCs (P : Program) (d : Nat) : List Nat → Option (List (List Cs))
  | [] => some []
  | t :: ts => match shC P d t, shCs P d ts with
    | some a, some b => some (a :: b)
    | _, _ => none
def OfAll : List (List Cs) → List (List D) → Prop
  | [], [] => True
  | a :: r, d :: s => OfCs a d ∧ OfAll r s
  | _, _ => False
def argsD (P : Program) : List Nat → List (List D) → List V
  | t :: ts, d :: ds => .d (argD P t d) :: argsD P ts ds
  | _, _ => []
theorem open_args {d b0 : Nat} : ∀ (ts : List Nat) (ls : List (List Cs)) (vs : List Value) (xs : List (DataW H)) (ps : List MemPlace), shCs P d ts = some ls →
    (∀ (j : Nat) t v, ts[j]? = some t → vs[j]? = some v → Value.okWide P w .any b0 t v) → DataW.TrodAll enc P w 0 (fun _ => true) held ts vs xs ps → ∃ dss, OfAll ls dss ∧ DenL w (Old w) (fun _ => none) (argsD P ts dss) vs
  | [], ls, [], [], _, hs, _, _ => by
    simp only [shCs, Option.some.injEq] at hs
    subst hs
    exact ⟨[], by simp [OfAll], ⟨rfl, fun i c x h => by cases h⟩⟩
  | t :: ts, ls, v :: vs, x :: xs, ps, hs, hv, ⟨p, q, h1, h2, _⟩ => by
    simp only [shCs] at hs
    split at hs
    rotate_left
    · cases hs
    rename_i a b ha hb
    injection hs with hs
    subst hs
    obtain ⟨ds, g1, g2⟩ := open_arg ha (hv 0 t v rfl rfl) h1
    obtain ⟨dss, g3, g4⟩ := open_args ts b vs xs q hb (fun j t v h k => hv (j + 1) t v h k) h2
    refine ⟨ds :: dss, ⟨g1, g3⟩, ⟨by simp [argsD, g4.1], fun i c x hc hx => ?_⟩⟩
    match i, hc, hx with
    | 0, hc, hx =>
      simp only [argsD, List.getElem?_cons_zero, Option.some.injEq] at hc hx
      subst hc hx
      exact g2
    | i + 1, hc, hx => exact g4.2 i c x hc hx
  | [], _, [], _ :: _, _, _, _, h => h.elim
  | [], _, _ :: _, _, _, _, _, h => h.elim
  | _ :: _, _, [], _, _, _, _, h => h.elim
  | _ :: _, _, _ :: _, [], _, _, _, h => h.elim
/-- Whatever the arguments, if the function returns true of all settled data of their types. -/
theorem law_open {d b0 : Nat} {f : Nat} {ts : List Nat} {ls : List (List Cs)} {args : Array Value} {xs : List (DataW H)} {ps : List MemPlace} (hs : shCs P d ts = some ls)
    (hv : ∀ (j : Nat) t v, ts[j]? = some t → args.toList[j]? = some v → Value.okWide P w .any b0 t v) (hA : DataW.TrodAll enc P w 0 (fun _ => true) held ts args.toList xs ps)
    (h : ∀ dss, OfAll ls dss → OFn P G0 f (argsD P ts dss) [] 0 (bv true) []) : Calls P f args w (Rets (.bool true) w) := by
  obtain ⟨dss, h1, h2⟩ := open_args ts ls args.toList xs ps hs hv hA
  have := rets_of (h dss h1) h2
  simpa using this
theorem list_of {α : Type} {es : List D} (f : α → D) (h : ∀ y ∈ es, ∃ x, y = f x) : ∃ l : List α, es = l.map f := by
  induction es with
  | nil => exact ⟨[], rfl⟩
  | cons e r ih =>
    obtain ⟨x, rfl⟩ := h e List.mem_cons_self
    obtain ⟨l, rfl⟩ := ih fun y hy => h y (List.mem_cons_of_mem _ hy)
    exact ⟨x :: l, rfl⟩
theorem trod_len : ∀ {ts : List Nat} {vs : List Value} {xs : List (DataW H)} {ps : List MemPlace}, DataW.TrodAll enc P w 0 (fun _ => true) held ts vs xs ps → xs.length = ts.length
  | [], [], [], _, _ => rfl
  | t :: ts, v :: vs, x :: xs, ps, ⟨p, q, h1, h2, _⟩ => by simp [trod_len h2]
  | [], [], _ :: _, _, h => h.elim
  | [], _ :: _, _, _, h => h.elim
  | _ :: _, [], _, _, h => h.elim
  | _ :: _, _ :: _, [], _, h => h.elim
end
end Go.Proofs.Ytlledfabkmmgoaa
/- The law's small functions; which selections make a set. -/
set_option linter.unusedSimpArgs false
set_option linter.unusedVariables false
set_option maxRecDepth 8000
namespace Go.Proofs.Ytlledfabkmmgoaa
theorem New_ok_fn (n : Int) (l : List Se) (hl : l.length ≤ 1000000) (h : newErr n l = 0) : OFn Try.prog G0 17 [iv n, seL l] [] 0 (.tup [setV n (joinedS l), iv 0]) [] := by
  have := New_fn n l hl
  rwa [newV_ok h] at this
theorem New_no_fn (n k : Int) (l : List Se) (hl : l.length ≤ 1000000) (h : newErr n l = k) (hk : k ≠ 0) : OFn Try.prog G0 17 [iv n, seL l] [] 0 (.tup [nilV, iv k]) [] := by
  have := New_fn n l hl
  rwa [newV_no h hk] at this
theorem RNew_ok_fn (n : Int) (l : List Se) (hl : l.length ≤ 1000000) (h : newErr n l = 0) : OFn Try.prog G0 19 [iv n, seL l] [] 0 (rsO n (joinedS l)) [] := by
  have := RNew_fn n l hl
  rwa [rnewV_ok h] at this
theorem RNew_no_fn (n k : Int) (l : List Se) (hl : l.length ≤ 1000000) (h : newErr n l = k) (hk : k ≠ 0) : OFn Try.prog G0 19 [iv n, seL l] [] 0 (rsE k) [] := by
  have := RNew_fn n l hl
  rwa [rnewV_no h hk] at this
theorem joins_fn : OFn Try.prog G0 16 [] [] 0 (bv true) [] := by
  have hN := New_ok_fn 9 [(1, 3), (5, 2)] (by decide) (by decide)
  rw [show joinedS [(1, 3), (5, 2)] = [(1, 5)] by decide] at hN
  refine OFn.of_code mixed [0, 1, 2, 3] Try.func16 rfl Try.results16 Try.ntmps16 (by kernel_rfl) (by simp) ?_
  (repeat' (first | with_reducible refine GhW.now ?_ | with_reducible refine endW.now ?_ |  simp -implicitDefEqProofs -dsimp only [push_cast, ↓reduceIte, Nat.reduceMul, Nat.reduceAdd, Nat.reduceSub, Nat.reduceEqDiff, Nat.reduceBeqDiff, Nat.reduceLeDiff, Nat.reduceLT, reduceCtorEq, Int.reduceToNat, ↓ndW_true, ↓brM_true, ↓brM_false, ↓dstL_zero, ↓dstL_succ, ↓brW_true, ↓brW_false, ↓optW_some, ↓elW_zero, ↓elW_succ, ↓elW_map, ↓boolW_lit, ↓grdW_lit, ↓grdW_skip, ↓condW_lit, ↓pickW_lit, ↓calleeW_fn, ↓calleeW_d, ↓cellW_cell, ↓rowW_row, ↓iterW_iter, ↓seqK_normal, ↓seqK_exit, ↓seqK_ret, ↓blockK_normal, ↓blockK_ret, ↓blockK_exit, ↓retK_normal, ↓retK_ret, ↓loadV_pd, ↓loadV_po, ↓loadV_pe, ↓elemW, ↓evF_tmp, ↓evF_const, ↓evF_func, ↓guard_none, ↓guard_true, ↓guard_false, ↓codeW, ↓regW_true, ↓regW_false, ↓opsW_nil, ↓opsW_cons, ↓opsD_nil, ↓opsD_cons, ↓pvW_some, ↓pvsW_some, ↓vcallD_call] | (simp -implicitDefEqProofs -dsimp (disch := omega) only [w64, wu64, half64, half64']) | (with_reducible refine ndW.intro' (by first | omega | (simp; done) | (simp; omega) | (simp [allFit, Fit, appFits, V.cellOk, Value.oneCell', D.cells]; done) | (simp [allFit, Fit, appFits, V.cellOk, Value.oneCell', D.cells]; omega)) ?_) | ((first | with_reducible refine brW.dec (fun h => ?_) (fun h => ?_) | with_reducible refine brM.dec (fun h => ?_) (fun h => ?_) | with_reducible refine brW.beq (fun h => ?_) (fun h => ?_) | with_reducible refine brM.beq (fun h => ?_) (fun h => ?_) | with_reducible refine brM.ndec (fun h => ?_) (fun h => ?_) | with_reducible refine brW.ndec (fun h => ?_) (fun h => ?_) | with_reducible refine brM.dand (fun h => ?_) (fun h => ?_) | with_reducible refine brW.dand (fun h => ?_) (fun h => ?_) | with_reducible refine brM.dor (fun h => ?_) (fun h => ?_) | with_reducible refine brW.dor (fun h => ?_) (fun h => ?_) | with_reducible refine brM.bne (fun h => ?_) (fun h => ?_) | with_reducible refine brW.bne (fun h => ?_) (fun h => ?_)) <;> (first | (exfalso; omega) | skip)) | (with_reducible refine brW.two (fun h => ?_) (fun h => ?_)) | (with_reducible refine brM.two (fun h => ?_) (fun h => ?_))))
  refine CallW.frz 12 rfl ?_
  refine CallW.d hN (by kernel_rfl) rfl rfl ?_
  (repeat' (first | with_reducible refine GhW.now ?_ | with_reducible refine endW.now ?_ | (with_reducible refine CallW.d (All_fn _ _ (by decide) (by decide)) (by kernel_rfl) rfl rfl ?_) | simp -implicitDefEqProofs -dsimp only [push_cast, ↓reduceIte, Nat.reduceMul, Nat.reduceAdd, Nat.reduceSub, Nat.reduceEqDiff, Nat.reduceBeqDiff, Nat.reduceLeDiff, Nat.reduceLT, reduceCtorEq, Int.reduceToNat, ↓ndW_true, ↓brM_true, ↓brM_false, ↓dstL_zero, ↓dstL_succ, ↓brW_true, ↓brW_false, ↓optW_some, ↓elW_zero, ↓elW_succ, ↓elW_map, ↓boolW_lit, ↓grdW_lit, ↓grdW_skip, ↓condW_lit, ↓pickW_lit, ↓calleeW_fn, ↓calleeW_d, ↓cellW_cell, ↓rowW_row, ↓iterW_iter, ↓seqK_normal, ↓seqK_exit, ↓seqK_ret, ↓blockK_normal, ↓blockK_ret, ↓blockK_exit, ↓retK_normal, ↓retK_ret, ↓loadV_pd, ↓loadV_po, ↓loadV_pe, ↓elemW, ↓evF_tmp, ↓evF_const, ↓evF_func, ↓guard_none, ↓guard_true, ↓guard_false, ↓codeW, ↓regW_true, ↓regW_false, ↓opsW_nil, ↓opsW_cons, ↓opsD_nil, ↓opsD_cons, ↓pvW_some, ↓pvsW_some, ↓vcallD_call] | (simp -implicitDefEqProofs -dsimp (disch := omega) only [w64, wu64, half64, half64']) | (with_reducible refine ndW.intro' (by first | omega | (simp; done) | (simp; omega) | (simp [allFit, Fit, appFits, V.cellOk, Value.oneCell', D.cells]; done) | (simp [allFit, Fit, appFits, V.cellOk, Value.oneCell', D.cells]; omega)) ?_) | ((first | with_reducible refine brW.dec (fun h => ?_) (fun h => ?_) | with_reducible refine brM.dec (fun h => ?_) (fun h => ?_) | with_reducible refine brW.beq (fun h => ?_) (fun h => ?_) | with_reducible refine brM.beq (fun h => ?_) (fun h => ?_) | with_reducible refine brM.ndec (fun h => ?_) (fun h => ?_) | with_reducible refine brW.ndec (fun h => ?_) (fun h => ?_) | with_reducible refine brM.dand (fun h => ?_) (fun h => ?_) | with_reducible refine brW.dand (fun h => ?_) (fun h => ?_) | with_reducible refine brM.dor (fun h => ?_) (fun h => ?_) | with_reducible refine brW.dor (fun h => ?_) (fun h => ?_) | with_reducible refine brM.bne (fun h => ?_) (fun h => ?_) | with_reducible refine brW.bne (fun h => ?_) (fun h => ?_)) <;> (first | (exfalso; omega) | skip)) | (with_reducible refine brW.two (fun h => ?_) (fun h => ?_)) | (with_reducible refine brM.two (fun h => ?_) (fun h => ?_))))
  skip
  (repeat' (first | with_reducible refine GhW.now ?_ | with_reducible refine endW.now ?_ | (with_reducible refine CallW.d (Len_fn _ _) (by kernel_rfl) rfl rfl ?_) | (with_reducible refine callD.d (Len_fn _ _) (by kernel_rfl) rfl rfl ?_) | with_reducible refine DoneW.out ?_ | simp -implicitDefEqProofs -dsimp only [push_cast, ↓reduceIte, Nat.reduceMul, Nat.reduceAdd, Nat.reduceSub, Nat.reduceEqDiff, Nat.reduceBeqDiff, Nat.reduceLeDiff, Nat.reduceLT, reduceCtorEq, Int.reduceToNat, ↓ndW_true, ↓brM_true, ↓brM_false, ↓dstL_zero, ↓dstL_succ, ↓brW_true, ↓brW_false, ↓optW_some, ↓elW_zero, ↓elW_succ, ↓elW_map, ↓boolW_lit, ↓grdW_lit, ↓grdW_skip, ↓condW_lit, ↓pickW_lit, ↓calleeW_fn, ↓calleeW_d, ↓cellW_cell, ↓rowW_row, ↓iterW_iter, ↓seqK_normal, ↓seqK_exit, ↓seqK_ret, ↓blockK_normal, ↓blockK_ret, ↓blockK_exit, ↓retK_normal, ↓retK_ret, ↓loadV_pd, ↓loadV_po, ↓loadV_pe, ↓elemW, ↓evF_tmp, ↓evF_const, ↓evF_func, ↓guard_none, ↓guard_true, ↓guard_false, ↓codeW, ↓regW_true, ↓regW_false, ↓opsW_nil, ↓opsW_cons, ↓opsD_nil, ↓opsD_cons, ↓pvW_some, ↓pvsW_some, ↓vcallD_call] | (simp -implicitDefEqProofs -dsimp (disch := omega) only [w64, wu64, half64, half64']) | (with_reducible refine ndW.intro' (by first | omega | (simp; done) | (simp; omega) | (simp [allFit, Fit, appFits, V.cellOk, Value.oneCell', D.cells]; done) | (simp [allFit, Fit, appFits, V.cellOk, Value.oneCell', D.cells]; omega)) ?_) | ((first | with_reducible refine brW.dec (fun h => ?_) (fun h => ?_) | with_reducible refine brM.dec (fun h => ?_) (fun h => ?_) | with_reducible refine brW.beq (fun h => ?_) (fun h => ?_) | with_reducible refine brM.beq (fun h => ?_) (fun h => ?_) | with_reducible refine brM.ndec (fun h => ?_) (fun h => ?_) | with_reducible refine brW.ndec (fun h => ?_) (fun h => ?_) | with_reducible refine brM.dand (fun h => ?_) (fun h => ?_) | with_reducible refine brW.dand (fun h => ?_) (fun h => ?_) | with_reducible refine brM.dor (fun h => ?_) (fun h => ?_) | with_reducible refine brW.dor (fun h => ?_) (fun h => ?_) | with_reducible refine brM.bne (fun h => ?_) (fun h => ?_) | with_reducible refine brW.bne (fun h => ?_) (fun h => ?_)) <;> (first | (exfalso; omega) | skip)) | (with_reducible refine brW.two (fun h => ?_) (fun h => ?_)) | (with_reducible refine brM.two (fun h => ?_) (fun h => ?_))))
  skip
theorem is_no_fn (k : Int) (hk : k ≠ 0) : OFn Try.prog G0 18 [nilV, iv k, rsE k] [] 0 (bv true) [] := by
  refine OFn.of_code mixed [0, 1, 2, 5, 6, 7, 8, 9, 21, 23, 27, 28, 29, 30, 47] Try.func18 rfl Try.results18 Try.ntmps18 (by kernel_rfl) (by simp) ?_
  (repeat' (first | with_reducible refine GhW.now ?_ | with_reducible refine endW.now ?_ | with_reducible refine DoneW.out ?_ | simp -implicitDefEqProofs -dsimp only [push_cast, ↓reduceIte, Nat.reduceMul, Nat.reduceAdd, Nat.reduceSub, Nat.reduceEqDiff, Nat.reduceBeqDiff, Nat.reduceLeDiff, Nat.reduceLT, reduceCtorEq, Int.reduceToNat, ↓ndW_true, ↓brM_true, ↓brM_false, ↓dstL_zero, ↓dstL_succ, ↓brW_true, ↓brW_false, ↓optW_some, ↓elW_zero, ↓elW_succ, ↓elW_map, ↓boolW_lit, ↓grdW_lit, ↓grdW_skip, ↓condW_lit, ↓pickW_lit, ↓calleeW_fn, ↓calleeW_d, ↓cellW_cell, ↓rowW_row, ↓iterW_iter, ↓seqK_normal, ↓seqK_exit, ↓seqK_ret, ↓blockK_normal, ↓blockK_ret, ↓blockK_exit, ↓retK_normal, ↓retK_ret, ↓loadV_pd, ↓loadV_po, ↓loadV_pe, ↓elemW, ↓evF_tmp, ↓evF_const, ↓evF_func, ↓guard_none, ↓guard_true, ↓guard_false, ↓codeW, ↓regW_true, ↓regW_false, ↓opsW_nil, ↓opsW_cons, ↓opsD_nil, ↓opsD_cons, ↓pvW_some, ↓pvsW_some, ↓vcallD_call] | (simp -implicitDefEqProofs -dsimp (disch := omega) only [w64, wu64, half64, half64']) | (with_reducible refine ndW.intro' (by first | omega | (simp; done) | (simp; omega) | (simp [allFit, Fit, appFits, V.cellOk, Value.oneCell', D.cells]; done) | (simp [allFit, Fit, appFits, V.cellOk, Value.oneCell', D.cells]; omega)) ?_) | ((first | with_reducible refine brW.dec (fun h => ?_) (fun h => ?_) | with_reducible refine brM.dec (fun h => ?_) (fun h => ?_) | with_reducible refine brW.beq (fun h => ?_) (fun h => ?_) | with_reducible refine brM.beq (fun h => ?_) (fun h => ?_) | with_reducible refine brM.ndec (fun h => ?_) (fun h => ?_) | with_reducible refine brW.ndec (fun h => ?_) (fun h => ?_) | with_reducible refine brM.dand (fun h => ?_) (fun h => ?_) | with_reducible refine brW.dand (fun h => ?_) (fun h => ?_) | with_reducible refine brM.dor (fun h => ?_) (fun h => ?_) | with_reducible refine brW.dor (fun h => ?_) (fun h => ?_) | with_reducible refine brM.bne (fun h => ?_) (fun h => ?_) | with_reducible refine brW.bne (fun h => ?_) (fun h => ?_)) <;> (first | (exfalso; omega) | skip)) | (with_reducible refine brW.two (fun h => ?_) (fun h => ?_)) | (with_reducible refine brM.two (fun h => ?_) (fun h => ?_))))
  · simp [hk] at h
def isS (n : Int) (L : List Se) (i : Nat) : St := ⟨[(0, setV n L), (5, .po 0 0), (7, seL L), (27, seL L), (28, iv L.length), (29, iv i)], [(0, .cell [iv n, seL L, iv 0])], 1⟩
attribute [push_cast] isS.eq_def
set_option maxHeartbeats 4000000 in
theorem is_ok_fn (n : Int) (L : List Se) (h0 : 0 < L.length) (hl : L.length ≤ 100000) : OFn Try.prog G0 18 [setV n L, iv 0, rsO n L] [] 0 (bv true) [] := by
  refine OFn.of_code mixed [0, 1, 2, 5, 6, 7, 8, 9, 21, 23, 27, 28, 29, 30, 47] Try.func18 rfl Try.results18 Try.ntmps18 (by kernel_rfl) (by simp) ?_
  (repeat' (first | with_reducible refine GhW.now ?_ | with_reducible refine endW.now ?_ | with_reducible refine DoneW.out ?_ | (with_reducible refine CallW.d (All_fn _ _ (by omega) (by omega)) (by kernel_rfl) rfl rfl ?_) | (with_reducible refine CallW.d (refs_fn _ (by omega)) (by kernel_rfl) rfl rfl ?_) | simp -implicitDefEqProofs -dsimp only [push_cast, ↓reduceIte, Nat.reduceMul, Nat.reduceAdd, Nat.reduceSub, Nat.reduceEqDiff, Nat.reduceBeqDiff, Nat.reduceLeDiff, Nat.reduceLT, reduceCtorEq, Int.reduceToNat, ↓ndW_true, ↓brM_true, ↓brM_false, ↓dstL_zero, ↓dstL_succ, ↓brW_true, ↓brW_false, ↓optW_some, ↓elW_zero, ↓elW_succ, ↓elW_map, ↓boolW_lit, ↓grdW_lit, ↓grdW_skip, ↓condW_lit, ↓pickW_lit, ↓calleeW_fn, ↓calleeW_d, ↓cellW_cell, ↓rowW_row, ↓iterW_iter, ↓seqK_normal, ↓seqK_exit, ↓seqK_ret, ↓blockK_normal, ↓blockK_ret, ↓blockK_exit, ↓retK_normal, ↓retK_ret, ↓loadV_pd, ↓loadV_po, ↓loadV_pe, ↓elemW, ↓evF_tmp, ↓evF_const, ↓evF_func, ↓guard_none, ↓guard_true, ↓guard_false, ↓codeW, ↓regW_true, ↓regW_false, ↓opsW_nil, ↓opsW_cons, ↓opsD_nil, ↓opsD_cons, ↓pvW_some, ↓pvsW_some, ↓vcallD_call] | (simp -implicitDefEqProofs -dsimp (disch := omega) only [w64, wu64, half64, half64']) | (with_reducible refine ndW.intro' (by first | omega | (simp; done) | (simp; omega) | (simp [allFit, Fit, appFits, V.cellOk, Value.oneCell', D.cells]; done) | (simp [allFit, Fit, appFits, V.cellOk, Value.oneCell', D.cells]; omega)) ?_) | ((first | with_reducible refine brW.dec (fun h => ?_) (fun h => ?_) | with_reducible refine brM.dec (fun h => ?_) (fun h => ?_) | with_reducible refine brW.beq (fun h => ?_) (fun h => ?_) | with_reducible refine brM.beq (fun h => ?_) (fun h => ?_) | with_reducible refine brM.ndec (fun h => ?_) (fun h => ?_) | with_reducible refine brW.ndec (fun h => ?_) (fun h => ?_) | with_reducible refine brM.dand (fun h => ?_) (fun h => ?_) | with_reducible refine brW.dand (fun h => ?_) (fun h => ?_) | with_reducible refine brM.dor (fun h => ?_) (fun h => ?_) | with_reducible refine brW.dor (fun h => ?_) (fun h => ?_) | with_reducible refine brM.bne (fun h => ?_) (fun h => ?_) | with_reducible refine brW.bne (fun h => ?_) (fun h => ?_)) <;> (first | (exfalso; omega) | skip)) | (with_reducible refine brW.two (fun h => ?_) (fun h => ?_)) | (with_reducible refine brM.two (fun h => ?_) (fun h => ?_))))
  refine loopW_go (lv := [0, 1, 2, 5, 6, 7, 8, 9, 21, 23, 27, 28, 29, 30, 47]) mixed (by kernel_rfl) (isS n L) (fun i => i ≤ L.length) (fun i => L.length - i) (0) ((GhW.go [0, 5, 7, 27, 28, 29] (by (first | rfl | (simp -implicitDefEqProofs -dsimp only [push_cast, ↓reduceIte, Nat.reduceMul, Nat.reduceAdd, Nat.reduceSub, Nat.reduceEqDiff, Nat.reduceBeqDiff, Nat.reduceLeDiff, Nat.reduceLT, reduceCtorEq, Int.reduceToNat, ↓ndW_true, ↓brM_true, ↓brM_false, ↓dstL_zero, ↓dstL_succ, ↓brW_true, ↓brW_false, ↓optW_some, ↓elW_zero, ↓elW_succ, ↓elW_map, ↓boolW_lit, ↓grdW_lit, ↓grdW_skip, ↓condW_lit, ↓pickW_lit, ↓calleeW_fn, ↓calleeW_d, ↓cellW_cell, ↓rowW_row, ↓iterW_iter, ↓seqK_normal, ↓seqK_exit, ↓seqK_ret, ↓blockK_normal, ↓blockK_ret, ↓blockK_exit, ↓retK_normal, ↓retK_ret, ↓loadV_pd, ↓loadV_po, ↓loadV_pe, ↓elemW, ↓evF_tmp, ↓evF_const, ↓evF_func, ↓guard_none, ↓guard_true, ↓guard_false, ↓codeW, ↓regW_true, ↓regW_false, ↓opsW_nil, ↓opsW_cons, ↓opsD_nil, ↓opsD_cons, ↓pvW_some, ↓pvsW_some, ↓vcallD_call]; first | done | rfl | ((simp -implicitDefEqProofs -dsimp (disch := omega) only [w64, wu64, half64, half64']); first | done | (simp -implicitDefEqProofs -dsimp only [push_cast, ↓reduceIte, Nat.reduceMul, Nat.reduceAdd, Nat.reduceSub, Nat.reduceEqDiff, Nat.reduceBeqDiff, Nat.reduceLeDiff, Nat.reduceLT, reduceCtorEq, Int.reduceToNat, ↓ndW_true, ↓brM_true, ↓brM_false, ↓dstL_zero, ↓dstL_succ, ↓brW_true, ↓brW_false, ↓optW_some, ↓elW_zero, ↓elW_succ, ↓elW_map, ↓boolW_lit, ↓grdW_lit, ↓grdW_skip, ↓condW_lit, ↓pickW_lit, ↓calleeW_fn, ↓calleeW_d, ↓cellW_cell, ↓rowW_row, ↓iterW_iter, ↓seqK_normal, ↓seqK_exit, ↓seqK_ret, ↓blockK_normal, ↓blockK_ret, ↓blockK_exit, ↓retK_normal, ↓retK_ret, ↓loadV_pd, ↓loadV_po, ↓loadV_pe, ↓elemW, ↓evF_tmp, ↓evF_const, ↓evF_func, ↓guard_none, ↓guard_true, ↓guard_false, ↓codeW, ↓regW_true, ↓regW_false, ↓opsW_nil, ↓opsW_cons, ↓opsD_nil, ↓opsD_cons, ↓pvW_some, ↓pvsW_some, ↓vcallD_call]; done)) | ((try (simp -implicitDefEqProofs -dsimp (disch := omega) only [w64, wu64, half64, half64'])); simp only [St.mk.injEq, List.cons.injEq, Prod.mk.injEq, V.d.injEq, D.lit.injEq, Value.int.injEq, true_and, and_true]; omega)))) rfl)) ?_ ?_
  · exact Nat.zero_le _
  intro i hi
  (repeat' (first | with_reducible refine GhW.now ?_ | with_reducible refine endW.now ?_ | (with_reducible refine callD.d (Len_fn _ _) (by kernel_rfl) rfl rfl ?_) | with_reducible refine DoneW.out ?_ | simp -implicitDefEqProofs -dsimp only [push_cast, ↓reduceIte, Nat.reduceMul, Nat.reduceAdd, Nat.reduceSub, Nat.reduceEqDiff, Nat.reduceBeqDiff, Nat.reduceLeDiff, Nat.reduceLT, reduceCtorEq, Int.reduceToNat, ↓ndW_true, ↓brM_true, ↓brM_false, ↓dstL_zero, ↓dstL_succ, ↓brW_true, ↓brW_false, ↓optW_some, ↓elW_zero, ↓elW_succ, ↓elW_map, ↓boolW_lit, ↓grdW_lit, ↓grdW_skip, ↓condW_lit, ↓pickW_lit, ↓calleeW_fn, ↓calleeW_d, ↓cellW_cell, ↓rowW_row, ↓iterW_iter, ↓seqK_normal, ↓seqK_exit, ↓seqK_ret, ↓blockK_normal, ↓blockK_ret, ↓blockK_exit, ↓retK_normal, ↓retK_ret, ↓loadV_pd, ↓loadV_po, ↓loadV_pe, ↓elemW, ↓evF_tmp, ↓evF_const, ↓evF_func, ↓guard_none, ↓guard_true, ↓guard_false, ↓codeW, ↓regW_true, ↓regW_false, ↓opsW_nil, ↓opsW_cons, ↓opsD_nil, ↓opsD_cons, ↓pvW_some, ↓pvsW_some, ↓vcallD_call] | (simp -implicitDefEqProofs -dsimp (disch := omega) only [w64, wu64, half64, half64']) | (with_reducible refine ndW.intro' (by first | omega | (simp; done) | (simp; omega) | (simp [allFit, Fit, appFits, V.cellOk, Value.oneCell', D.cells]; done) | (simp [allFit, Fit, appFits, V.cellOk, Value.oneCell', D.cells]; omega)) ?_) | ((first | with_reducible refine brW.dec (fun h => ?_) (fun h => ?_) | with_reducible refine brM.dec (fun h => ?_) (fun h => ?_) | with_reducible refine brW.beq (fun h => ?_) (fun h => ?_) | with_reducible refine brM.beq (fun h => ?_) (fun h => ?_) | with_reducible refine brM.ndec (fun h => ?_) (fun h => ?_) | with_reducible refine brW.ndec (fun h => ?_) (fun h => ?_) | with_reducible refine brM.dand (fun h => ?_) (fun h => ?_) | with_reducible refine brW.dand (fun h => ?_) (fun h => ?_) | with_reducible refine brM.dor (fun h => ?_) (fun h => ?_) | with_reducible refine brW.dor (fun h => ?_) (fun h => ?_) | with_reducible refine brM.bne (fun h => ?_) (fun h => ?_) | with_reducible refine brW.bne (fun h => ?_) (fun h => ?_)) <;> (first | (exfalso; omega) | skip)) | (with_reducible refine brW.two (fun h => ?_) (fun h => ?_)) | (with_reducible refine brM.two (fun h => ?_) (fun h => ?_))))
  · obtain ⟨x, hx⟩ : ∃ x, L[i]? = some x := ⟨_, List.getElem?_eq_getElem (by omega)⟩
    refine elX.is i x (by omega) hx ?_
    (repeat' (first | with_reducible refine GhW.now ?_ | with_reducible refine endW.now ?_ |  simp -implicitDefEqProofs -dsimp only [push_cast, ↓reduceIte, Nat.reduceMul, Nat.reduceAdd, Nat.reduceSub, Nat.reduceEqDiff, Nat.reduceBeqDiff, Nat.reduceLeDiff, Nat.reduceLT, reduceCtorEq, Int.reduceToNat, ↓ndW_true, ↓brM_true, ↓brM_false, ↓dstL_zero, ↓dstL_succ, ↓brW_true, ↓brW_false, ↓optW_some, ↓elW_zero, ↓elW_succ, ↓elW_map, ↓boolW_lit, ↓grdW_lit, ↓grdW_skip, ↓condW_lit, ↓pickW_lit, ↓calleeW_fn, ↓calleeW_d, ↓cellW_cell, ↓rowW_row, ↓iterW_iter, ↓seqK_normal, ↓seqK_exit, ↓seqK_ret, ↓blockK_normal, ↓blockK_ret, ↓blockK_exit, ↓retK_normal, ↓retK_ret, ↓loadV_pd, ↓loadV_po, ↓loadV_pe, ↓elemW, ↓evF_tmp, ↓evF_const, ↓evF_func, ↓guard_none, ↓guard_true, ↓guard_false, ↓codeW, ↓regW_true, ↓regW_false, ↓opsW_nil, ↓opsW_cons, ↓opsD_nil, ↓opsD_cons, ↓pvW_some, ↓pvsW_some, ↓vcallD_call] | (simp -implicitDefEqProofs -dsimp (disch := omega) only [w64, wu64, half64, half64']) | (with_reducible refine ndW.intro' (by first | omega | (simp; done) | (simp; omega) | (simp [allFit, Fit, appFits, V.cellOk, Value.oneCell', D.cells]; done) | (simp [allFit, Fit, appFits, V.cellOk, Value.oneCell', D.cells]; omega)) ?_) | ((first | with_reducible refine brW.dec (fun h => ?_) (fun h => ?_) | with_reducible refine brM.dec (fun h => ?_) (fun h => ?_) | with_reducible refine brW.beq (fun h => ?_) (fun h => ?_) | with_reducible refine brM.beq (fun h => ?_) (fun h => ?_) | with_reducible refine brM.ndec (fun h => ?_) (fun h => ?_) | with_reducible refine brW.ndec (fun h => ?_) (fun h => ?_) | with_reducible refine brM.dand (fun h => ?_) (fun h => ?_) | with_reducible refine brW.dand (fun h => ?_) (fun h => ?_) | with_reducible refine brM.dor (fun h => ?_) (fun h => ?_) | with_reducible refine brW.dor (fun h => ?_) (fun h => ?_) | with_reducible refine brM.bne (fun h => ?_) (fun h => ?_) | with_reducible refine brW.bne (fun h => ?_) (fun h => ?_)) <;> (first | (exfalso; omega) | skip)) | (with_reducible refine brW.two (fun h => ?_) (fun h => ?_)) | (with_reducible refine brM.two (fun h => ?_) (fun h => ?_))))
    refine elX.is i x (by omega) hx ?_
    (repeat' (first | with_reducible refine GhW.now ?_ | with_reducible refine endW.now ?_ |  simp -implicitDefEqProofs -dsimp only [push_cast, ↓reduceIte, Nat.reduceMul, Nat.reduceAdd, Nat.reduceSub, Nat.reduceEqDiff, Nat.reduceBeqDiff, Nat.reduceLeDiff, Nat.reduceLT, reduceCtorEq, Int.reduceToNat, ↓ndW_true, ↓brM_true, ↓brM_false, ↓dstL_zero, ↓dstL_succ, ↓brW_true, ↓brW_false, ↓optW_some, ↓elW_zero, ↓elW_succ, ↓elW_map, ↓boolW_lit, ↓grdW_lit, ↓grdW_skip, ↓condW_lit, ↓pickW_lit, ↓calleeW_fn, ↓calleeW_d, ↓cellW_cell, ↓rowW_row, ↓iterW_iter, ↓seqK_normal, ↓seqK_exit, ↓seqK_ret, ↓blockK_normal, ↓blockK_ret, ↓blockK_exit, ↓retK_normal, ↓retK_ret, ↓loadV_pd, ↓loadV_po, ↓loadV_pe, ↓elemW, ↓evF_tmp, ↓evF_const, ↓evF_func, ↓guard_none, ↓guard_true, ↓guard_false, ↓codeW, ↓regW_true, ↓regW_false, ↓opsW_nil, ↓opsW_cons, ↓opsD_nil, ↓opsD_cons, ↓pvW_some, ↓pvsW_some, ↓vcallD_call] | (simp -implicitDefEqProofs -dsimp (disch := omega) only [w64, wu64, half64, half64']) | (with_reducible refine ndW.intro' (by first | omega | (simp; done) | (simp; omega) | (simp [allFit, Fit, appFits, V.cellOk, Value.oneCell', D.cells]; done) | (simp [allFit, Fit, appFits, V.cellOk, Value.oneCell', D.cells]; omega)) ?_) | ((first | with_reducible refine brW.dec (fun h => ?_) (fun h => ?_) | with_reducible refine brM.dec (fun h => ?_) (fun h => ?_) | with_reducible refine brW.beq (fun h => ?_) (fun h => ?_) | with_reducible refine brM.beq (fun h => ?_) (fun h => ?_) | with_reducible refine brM.ndec (fun h => ?_) (fun h => ?_) | with_reducible refine brW.ndec (fun h => ?_) (fun h => ?_) | with_reducible refine brM.dand (fun h => ?_) (fun h => ?_) | with_reducible refine brW.dand (fun h => ?_) (fun h => ?_) | with_reducible refine brM.dor (fun h => ?_) (fun h => ?_) | with_reducible refine brW.dor (fun h => ?_) (fun h => ?_) | with_reducible refine brM.bne (fun h => ?_) (fun h => ?_) | with_reducible refine brW.bne (fun h => ?_) (fun h => ?_)) <;> (first | (exfalso; omega) | skip)) | (with_reducible refine brW.two (fun h => ?_) (fun h => ?_)) | (with_reducible refine brM.two (fun h => ?_) (fun h => ?_))))
    refine AgW.go (i + 1) [0, 5, 7, 27, 28, 29] (by (first | rfl | (simp -implicitDefEqProofs -dsimp only [push_cast, ↓reduceIte, Nat.reduceMul, Nat.reduceAdd, Nat.reduceSub, Nat.reduceEqDiff, Nat.reduceBeqDiff, Nat.reduceLeDiff, Nat.reduceLT, reduceCtorEq, Int.reduceToNat, ↓ndW_true, ↓brM_true, ↓brM_false, ↓dstL_zero, ↓dstL_succ, ↓brW_true, ↓brW_false, ↓optW_some, ↓elW_zero, ↓elW_succ, ↓elW_map, ↓boolW_lit, ↓grdW_lit, ↓grdW_skip, ↓condW_lit, ↓pickW_lit, ↓calleeW_fn, ↓calleeW_d, ↓cellW_cell, ↓rowW_row, ↓iterW_iter, ↓seqK_normal, ↓seqK_exit, ↓seqK_ret, ↓blockK_normal, ↓blockK_ret, ↓blockK_exit, ↓retK_normal, ↓retK_ret, ↓loadV_pd, ↓loadV_po, ↓loadV_pe, ↓elemW, ↓evF_tmp, ↓evF_const, ↓evF_func, ↓guard_none, ↓guard_true, ↓guard_false, ↓codeW, ↓regW_true, ↓regW_false, ↓opsW_nil, ↓opsW_cons, ↓opsD_nil, ↓opsD_cons, ↓pvW_some, ↓pvsW_some, ↓vcallD_call]; first | done | rfl | ((simp -implicitDefEqProofs -dsimp (disch := omega) only [w64, wu64, half64, half64']); first | done | (simp -implicitDefEqProofs -dsimp only [push_cast, ↓reduceIte, Nat.reduceMul, Nat.reduceAdd, Nat.reduceSub, Nat.reduceEqDiff, Nat.reduceBeqDiff, Nat.reduceLeDiff, Nat.reduceLT, reduceCtorEq, Int.reduceToNat, ↓ndW_true, ↓brM_true, ↓brM_false, ↓dstL_zero, ↓dstL_succ, ↓brW_true, ↓brW_false, ↓optW_some, ↓elW_zero, ↓elW_succ, ↓elW_map, ↓boolW_lit, ↓grdW_lit, ↓grdW_skip, ↓condW_lit, ↓pickW_lit, ↓calleeW_fn, ↓calleeW_d, ↓cellW_cell, ↓rowW_row, ↓iterW_iter, ↓seqK_normal, ↓seqK_exit, ↓seqK_ret, ↓blockK_normal, ↓blockK_ret, ↓blockK_exit, ↓retK_normal, ↓retK_ret, ↓loadV_pd, ↓loadV_po, ↓loadV_pe, ↓elemW, ↓evF_tmp, ↓evF_const, ↓evF_func, ↓guard_none, ↓guard_true, ↓guard_false, ↓codeW, ↓regW_true, ↓regW_false, ↓opsW_nil, ↓opsW_cons, ↓opsD_nil, ↓opsD_cons, ↓pvW_some, ↓pvsW_some, ↓vcallD_call]; done)) | ((try (simp -implicitDefEqProofs -dsimp (disch := omega) only [w64, wu64, half64, half64'])); simp only [St.mk.injEq, List.cons.injEq, Prod.mk.injEq, V.d.injEq, D.lit.injEq, Value.int.injEq, true_and, and_true]; omega)))) ?_ ?_
    · show L.length - (i + 1) < L.length - i
      omega
    · show i + 1 ≤ L.length
      omega
theorem joinedS_pos {l : List Se} (h : 0 < l.length) : 0 < (joinedS l).length := by
  have e : joinedS l = outS l l.length := by
    unfold outS joinedS
    rw [List.take_of_length_le (by rw [sortS_len]; exact Nat.le_refl _)]
  rw [e]; exact outS_pos h (Nat.le_refl _)
theorem joinedS_len (l : List Se) : (joinedS l).length ≤ l.length := by
  have e : joinedS l = outS l l.length := by
    unfold outS joinedS
    rw [List.take_of_length_le (by rw [sortS_len]; exact Nat.le_refl _)]
  rw [e]; exact outS_len l _
theorem newErr_pos {n : Int} {l : List Se} (h : newErr n l = 0) : 0 < l.length ∧ l.length ≤ 64 := by
  unfold newErr at h
  split at h
  · cases h
  split at h
  · cases h
  split at h
  · cases h
  omega
set_option maxHeartbeats 4000000 in
theorem lawNew_fn (n : Int) (l : List Se) (hl : l.length ≤ 9223372036854775807) : OFn Try.prog G0 6 [iv n, seL l] [] 0 (bv true) [] := by
  refine OFn.of_code mixed [0, 1, 4, 5, 6, 9] Try.func6 rfl Try.results6 Try.ntmps6 (by kernel_rfl) (by simp) ?_
  rcases Nat.lt_or_ge 150 l.length with h1 | h1
  · skip
    (repeat' (first | with_reducible refine GhW.now ?_ | with_reducible refine endW.now ?_ | (with_reducible refine CallW.d joins_fn (by kernel_rfl) rfl rfl ?_) | with_reducible refine DoneW.out ?_ | simp -implicitDefEqProofs -dsimp only [push_cast, ↓reduceIte, Nat.reduceMul, Nat.reduceAdd, Nat.reduceSub, Nat.reduceEqDiff, Nat.reduceBeqDiff, Nat.reduceLeDiff, Nat.reduceLT, reduceCtorEq, Int.reduceToNat, ↓ndW_true, ↓brM_true, ↓brM_false, ↓dstL_zero, ↓dstL_succ, ↓brW_true, ↓brW_false, ↓optW_some, ↓elW_zero, ↓elW_succ, ↓elW_map, ↓boolW_lit, ↓grdW_lit, ↓grdW_skip, ↓condW_lit, ↓pickW_lit, ↓calleeW_fn, ↓calleeW_d, ↓cellW_cell, ↓rowW_row, ↓iterW_iter, ↓seqK_normal, ↓seqK_exit, ↓seqK_ret, ↓blockK_normal, ↓blockK_ret, ↓blockK_exit, ↓retK_normal, ↓retK_ret, ↓loadV_pd, ↓loadV_po, ↓loadV_pe, ↓elemW, ↓evF_tmp, ↓evF_const, ↓evF_func, ↓guard_none, ↓guard_true, ↓guard_false, ↓codeW, ↓regW_true, ↓regW_false, ↓opsW_nil, ↓opsW_cons, ↓opsD_nil, ↓opsD_cons, ↓pvW_some, ↓pvsW_some, ↓vcallD_call] | (simp -implicitDefEqProofs -dsimp (disch := omega) only [w64, wu64, half64, half64']) | (with_reducible refine ndW.intro' (by first | omega | (simp; done) | (simp; omega) | (simp [allFit, Fit, appFits, V.cellOk, Value.oneCell', D.cells]; done) | (simp [allFit, Fit, appFits, V.cellOk, Value.oneCell', D.cells]; omega)) ?_) | ((first | with_reducible refine brW.dec (fun h => ?_) (fun h => ?_) | with_reducible refine brM.dec (fun h => ?_) (fun h => ?_) | with_reducible refine brW.beq (fun h => ?_) (fun h => ?_) | with_reducible refine brM.beq (fun h => ?_) (fun h => ?_) | with_reducible refine brM.ndec (fun h => ?_) (fun h => ?_) | with_reducible refine brW.ndec (fun h => ?_) (fun h => ?_) | with_reducible refine brM.dand (fun h => ?_) (fun h => ?_) | with_reducible refine brW.dand (fun h => ?_) (fun h => ?_) | with_reducible refine brM.dor (fun h => ?_) (fun h => ?_) | with_reducible refine brW.dor (fun h => ?_) (fun h => ?_) | with_reducible refine brM.bne (fun h => ?_) (fun h => ?_) | with_reducible refine brW.bne (fun h => ?_) (fun h => ?_)) <;> (first | (exfalso; omega) | skip)) | (with_reducible refine brW.two (fun h => ?_) (fun h => ?_)) | (with_reducible refine brM.two (fun h => ?_) (fun h => ?_))))
  · rcases Decidable.em (newErr n l = 0) with h2 | h2
    · have h3 := newErr_pos h2
      have h4 := joinedS_pos h3.1
      have h5 := joinedS_len l
      (repeat' (first | with_reducible refine GhW.now ?_ | with_reducible refine endW.now ?_ | (with_reducible refine CallW.d (New_ok_fn n l (by omega) h2) (by kernel_rfl) rfl rfl ?_) | (with_reducible refine CallW.d (refs_fn _ (by omega)) (by kernel_rfl) rfl rfl ?_) | (with_reducible refine CallW.d (RNew_ok_fn n l (by omega) h2) (by kernel_rfl) rfl rfl ?_) | (with_reducible refine CallW.d (is_ok_fn _ _ (by omega) (by omega)) (by kernel_rfl) rfl rfl ?_) | (with_reducible refine CallW.d joins_fn (by kernel_rfl) rfl rfl ?_) | with_reducible refine DoneW.out ?_ | simp -implicitDefEqProofs -dsimp only [push_cast, ↓reduceIte, Nat.reduceMul, Nat.reduceAdd, Nat.reduceSub, Nat.reduceEqDiff, Nat.reduceBeqDiff, Nat.reduceLeDiff, Nat.reduceLT, reduceCtorEq, Int.reduceToNat, ↓ndW_true, ↓brM_true, ↓brM_false, ↓dstL_zero, ↓dstL_succ, ↓brW_true, ↓brW_false, ↓optW_some, ↓elW_zero, ↓elW_succ, ↓elW_map, ↓boolW_lit, ↓grdW_lit, ↓grdW_skip, ↓condW_lit, ↓pickW_lit, ↓calleeW_fn, ↓calleeW_d, ↓cellW_cell, ↓rowW_row, ↓iterW_iter, ↓seqK_normal, ↓seqK_exit, ↓seqK_ret, ↓blockK_normal, ↓blockK_ret, ↓blockK_exit, ↓retK_normal, ↓retK_ret, ↓loadV_pd, ↓loadV_po, ↓loadV_pe, ↓elemW, ↓evF_tmp, ↓evF_const, ↓evF_func, ↓guard_none, ↓guard_true, ↓guard_false, ↓codeW, ↓regW_true, ↓regW_false, ↓opsW_nil, ↓opsW_cons, ↓opsD_nil, ↓opsD_cons, ↓pvW_some, ↓pvsW_some, ↓vcallD_call] | (simp -implicitDefEqProofs -dsimp (disch := omega) only [w64, wu64, half64, half64']) | (with_reducible refine ndW.intro' (by first | omega | (simp; done) | (simp; omega) | (simp [allFit, Fit, appFits, V.cellOk, Value.oneCell', D.cells]; done) | (simp [allFit, Fit, appFits, V.cellOk, Value.oneCell', D.cells]; omega)) ?_) | ((first | with_reducible refine brW.dec (fun h => ?_) (fun h => ?_) | with_reducible refine brM.dec (fun h => ?_) (fun h => ?_) | with_reducible refine brW.beq (fun h => ?_) (fun h => ?_) | with_reducible refine brM.beq (fun h => ?_) (fun h => ?_) | with_reducible refine brM.ndec (fun h => ?_) (fun h => ?_) | with_reducible refine brW.ndec (fun h => ?_) (fun h => ?_) | with_reducible refine brM.dand (fun h => ?_) (fun h => ?_) | with_reducible refine brW.dand (fun h => ?_) (fun h => ?_) | with_reducible refine brM.dor (fun h => ?_) (fun h => ?_) | with_reducible refine brW.dor (fun h => ?_) (fun h => ?_) | with_reducible refine brM.bne (fun h => ?_) (fun h => ?_) | with_reducible refine brW.bne (fun h => ?_) (fun h => ?_)) <;> (first | (exfalso; omega) | skip)) | (with_reducible refine brW.two (fun h => ?_) (fun h => ?_)) | (with_reducible refine brM.two (fun h => ?_) (fun h => ?_))))
    · skip
      (repeat' (first | with_reducible refine GhW.now ?_ | with_reducible refine endW.now ?_ | (with_reducible refine CallW.d (New_no_fn n _ l (by omega) rfl h2) (by kernel_rfl) rfl rfl ?_) | (with_reducible refine CallW.d (refs_fn _ (by omega)) (by kernel_rfl) rfl rfl ?_) | (with_reducible refine CallW.d (RNew_no_fn n _ l (by omega) rfl h2) (by kernel_rfl) rfl rfl ?_) | (with_reducible refine CallW.d (is_no_fn _ h2) (by kernel_rfl) rfl rfl ?_) | (with_reducible refine CallW.d joins_fn (by kernel_rfl) rfl rfl ?_) | with_reducible refine DoneW.out ?_ | simp -implicitDefEqProofs -dsimp only [push_cast, ↓reduceIte, Nat.reduceMul, Nat.reduceAdd, Nat.reduceSub, Nat.reduceEqDiff, Nat.reduceBeqDiff, Nat.reduceLeDiff, Nat.reduceLT, reduceCtorEq, Int.reduceToNat, ↓ndW_true, ↓brM_true, ↓brM_false, ↓dstL_zero, ↓dstL_succ, ↓brW_true, ↓brW_false, ↓optW_some, ↓elW_zero, ↓elW_succ, ↓elW_map, ↓boolW_lit, ↓grdW_lit, ↓grdW_skip, ↓condW_lit, ↓pickW_lit, ↓calleeW_fn, ↓calleeW_d, ↓cellW_cell, ↓rowW_row, ↓iterW_iter, ↓seqK_normal, ↓seqK_exit, ↓seqK_ret, ↓blockK_normal, ↓blockK_ret, ↓blockK_exit, ↓retK_normal, ↓retK_ret, ↓loadV_pd, ↓loadV_po, ↓loadV_pe, ↓elemW, ↓evF_tmp, ↓evF_const, ↓evF_func, ↓guard_none, ↓guard_true, ↓guard_false, ↓codeW, ↓regW_true, ↓regW_false, ↓opsW_nil, ↓opsW_cons, ↓opsD_nil, ↓opsD_cons, ↓pvW_some, ↓pvsW_some, ↓vcallD_call] | (simp -implicitDefEqProofs -dsimp (disch := omega) only [w64, wu64, half64, half64']) | (with_reducible refine ndW.intro' (by first | omega | (simp; done) | (simp; omega) | (simp [allFit, Fit, appFits, V.cellOk, Value.oneCell', D.cells]; done) | (simp [allFit, Fit, appFits, V.cellOk, Value.oneCell', D.cells]; omega)) ?_) | ((first | with_reducible refine brW.dec (fun h => ?_) (fun h => ?_) | with_reducible refine brM.dec (fun h => ?_) (fun h => ?_) | with_reducible refine brW.beq (fun h => ?_) (fun h => ?_) | with_reducible refine brM.beq (fun h => ?_) (fun h => ?_) | with_reducible refine brM.ndec (fun h => ?_) (fun h => ?_) | with_reducible refine brW.ndec (fun h => ?_) (fun h => ?_) | with_reducible refine brM.dand (fun h => ?_) (fun h => ?_) | with_reducible refine brW.dand (fun h => ?_) (fun h => ?_) | with_reducible refine brM.dor (fun h => ?_) (fun h => ?_) | with_reducible refine brW.dor (fun h => ?_) (fun h => ?_) | with_reducible refine brM.bne (fun h => ?_) (fun h => ?_) | with_reducible refine brW.bne (fun h => ?_) (fun h => ?_)) <;> (first | (exfalso; omega) | skip)) | (with_reducible refine brW.two (fun h => ?_) (fun h => ?_)) | (with_reducible refine brM.two (fun h => ?_) (fun h => ?_))))
end Go.Proofs.Ytlledfabkmmgoaa
namespace Go.Proofs.Ytlledfabkmmgoaa
open Go Go.ChangeShapes Go.WideShapes Go.ChangeAt Go.RowKit Go.Joins
theorem two_of {es : List D} (h : ∀ y ∈ es, ∃ ds, y = mkEl true ds ∧ OfCs [.int .i64, .int .i64] ds) : ∃ l : List Se, es = l.map seD := by
  refine list_of seD fun y hy => ?_
  obtain ⟨ds, rfl, hd⟩ := h y hy
  match ds, hd with
  | [a, b], hd =>
    simp only [OfCs, OfC] at hd
    obtain ⟨⟨m, rfl, _⟩, ⟨k, rfl, _⟩, _⟩ := hd
    exact ⟨(m, k), rfl⟩
  | [], hd => simp [OfCs] at hd
  | [_], hd => simp [OfCs] at hd
  | _ :: _ :: _ :: _, hd => simp [OfCs] at hd
theorem st_int : isStT Try.prog 3 = false := by kernel_rfl
theorem st_sels : isStT Try.prog 39 = false := by kernel_rfl
theorem args_two {dss : List (List D)} (h : OfAll [[.int .i64], [.sl 2 true [.int .i64, .int .i64]]] dss) : ∃ (n : Int) (l : List Se), l.length ≤ maxLen ∧ argsD Try.prog [3, 39] dss = [iv n, seL l] := by
  match dss, h with
  | [[a], [b]], h =>
    simp only [OfAll, OfCs, OfC] at h
    obtain ⟨⟨⟨n, rfl, _⟩, _⟩, ⟨⟨es, rfl, hle, hes⟩, _⟩, _⟩ := h
    obtain ⟨l, rfl⟩ := two_of hes
    exact ⟨n, l, by simpa using hle, by simp only [argsD, argD, st_int, st_sels, mkEl]⟩
  | [], h => simp [OfAll] at h
  | [_], h => simp [OfAll] at h
  | [] :: _ :: _, h => simp [OfAll, OfCs] at h
  | (_ :: _ :: _) :: _ :: _, h => simp [OfAll, OfCs] at h
  | _ :: [] :: _, h => simp [OfAll, OfCs] at h
  | _ :: (_ :: _ :: _) :: _, h => simp [OfAll, OfCs] at h
  | _ :: _ :: _ :: _, h => simp [OfAll] at h

set_option maxRecDepth 100000 in
theorem selectsNew_lifted (os : Os) (started : os.Started) (H : Type) (enc : TypeId × Value → H) :
    ReturnsInHanded {} Try.checked os 6 .any (Rows.selectsNewSpec.pre6 enc Try.prog Try.f6 Rows.selectsNewRow.domain false) (Rows.selectsNewSpec.post enc Try.prog Try.f6 false true false false) := by
  refine returnsInHanded_of_change (C := Try.checked) Try.own started (by kernel_rfl) Try.func6
    (ChangeSpec.witness6 (enc := enc) (C := Try.checked) false ⟨#[], #[.int .i64 0, .slice none 0 0], []⟩ 8 (by kernel_rfl) (by kernel_rfl) (by kernel_rfl) (by kernel_rfl)) ?_
  intro W base args ds gs before hval0 hW _ _
  have hval : ∀ (j : Nat) t v, Try.f6.params[j]? = some t → args[j]? = some v → Value.okWide Try.prog W .any base t v := hval0
  obtain ⟨p, q, hA0, hV, hpq, hfz, hnd⟩ := id hW
  have hA : DataW.TrodAll enc Try.prog W 0 (fun _ => true) true Try.f6.params.toList args.toList ds p := hA0
  obtain ⟨hgs, hq⟩ := trodVars_none hV
  have hlen := trod_len hA
  rw [Try.params6] at hA hval hlen
  subst hgs
  have hsp : Rows.selectsNewSpec.fn H (ds ++ []) = { results := [.lit (.bool true)], args := ds } := by
    rw [List.append_nil]
    simp only [List.length_cons, List.length_nil] at hlen
    first
      | (obtain ⟨d0, rfl⟩ := List.length_eq_one_iff.1 hlen; rfl)
      | (match ds, hlen with | [d0, d1], _ => rfl)
      | (match ds, hlen with | [d0, d1, d2], _ => rfl)
      | (match ds, hlen with | [d0, d1, d2, d3], _ => rfl)
      | (match ds, hlen with | [d0, d1, d2, d3, d4], _ => rfl)
  refine law_calls (P := Try.prog) Try.laidOut (by kernel_rfl) rfl rfl Try.underlying4 hW hsp (law_open (ls := [[.int .i64], [.sl 2 true [.int .i64, .int .i64]]]) (d := 20) (by kernel_rfl) (fun j t v h k => hval j t v (by simpa using h) (by simpa using k)) hA ?_)
  intro dss h
  obtain ⟨n, l, hl, e⟩ := args_two h
  rw [e]
  exact lawNew_fn n l hl

theorem selectsNew_holds : Rows.SelectsNewSaid :=
  OpenClaim.holds_of_wide 6 Try.f6 rfl rfl rfl rfl rfl rfl rfl ⟨rfl, rfl, rfl, rfl, rfl⟩ rfl rfl rfl rfl rfl (by kernel_rfl) Try.func6 (by kernel_rfl)
    (of_decide_eq_true (by kernel_rfl)) (by unfold Func.isWrapper; rw [if_neg (of_decide_eq_false (by kernel_rfl))]; exact ⟨rfl, rfl⟩)
    (fun os started H enc _ => selectsNew_lifted os started H enc)

#print axioms selectsNew_holds
end Go.Proofs.Ytlledfabkmmgoaa
