/- The law SelectsShift returns true for every input: every set shifted by any patch, or why it is not. No condition. -/
import Derived.WalkKit
import Derived.WalkSpells
import Derived.Carry
import Derived.Lib.Hide
import Derived.ProofKit
import Derived.Lib.SmallJoins
import Derived.OpenShut
import Derived.Deep.Slices
import Derived.Deep.Fields
import Derived.Test.YtlledfabkmmgoaaRows
import Derived.WideShapes
import Derived.Test.YtlledfabkmmgoaaSelectsShiftPA
import Derived.Test.YtlledfabkmmgoaaSelectsShiftPB
import Derived.Test.YtlledfabkmmgoaaSelectsShiftPC
import Derived.Test.YtlledfabkmmgoaaSelectsShiftPD
import Derived.Test.YtlledfabkmmgoaaSelectsShiftPE
/- Sets shifted. -/
set_option linter.unusedSimpArgs false
set_option linter.unusedVariables false
set_option maxRecDepth 8000
namespace Go.Proofs.Ytlledfabkmmgoaa
theorem All_own_fn (n : Int) (L : List Se) (h0 : 0 < L.length) (hl : L.length ≤ 100000) : OFn Try.prog G0 21 [setV n L] [] 0 (.so 0 2 0 L.length) [(0, seR L)] := by
  refine OFn.of_code mixed [0, 2, 4] Try.func21 rfl Try.results21 Try.ntmps21 (by kernel_rfl) (by simp) ?_
  (repeat' (first | with_reducible refine GhW.now ?_ | with_reducible refine endW.now ?_ | with_reducible refine DoneW.out ?_ |  simp -implicitDefEqProofs -dsimp only [push_cast, ↓reduceIte, Nat.reduceMul, Nat.reduceAdd, Nat.reduceSub, Nat.reduceEqDiff, Nat.reduceBeqDiff, Nat.reduceLeDiff, Nat.reduceLT, reduceCtorEq, Int.reduceToNat, ↓ndW_true, ↓brM_true, ↓brM_false, ↓dstL_zero, ↓dstL_succ, ↓brW_true, ↓brW_false, ↓optW_some, ↓elW_zero, ↓elW_succ, ↓elW_map, ↓boolW_lit, ↓grdW_lit, ↓grdW_skip, ↓condW_lit, ↓pickW_lit, ↓calleeW_fn, ↓calleeW_d, ↓cellW_cell, ↓rowW_row, ↓iterW_iter, ↓seqK_normal, ↓seqK_exit, ↓seqK_ret, ↓blockK_normal, ↓blockK_ret, ↓blockK_exit, ↓retK_normal, ↓retK_ret, ↓loadV_pd, ↓loadV_po, ↓loadV_pe, ↓elemW, ↓evF_tmp, ↓evF_const, ↓evF_func, ↓guard_none, ↓guard_true, ↓guard_false, ↓codeW, ↓regW_true, ↓regW_false, ↓opsW_nil, ↓opsW_cons, ↓opsD_nil, ↓opsD_cons, ↓pvW_some, ↓pvsW_some, ↓vcallD_call] | (simp -implicitDefEqProofs -dsimp (disch := omega) only [w64, wu64, half64, half64']) | (with_reducible refine ndW.intro' (by first | omega | (simp; done) | (simp; omega) | (simp [allFit, Fit, appFits, V.cellOk, Value.oneCell', D.cells]; done) | (simp [allFit, Fit, appFits, V.cellOk, Value.oneCell', D.cells]; omega)) ?_) | ((first | with_reducible refine brW.dec (fun h => ?_) (fun h => ?_) | with_reducible refine brM.dec (fun h => ?_) (fun h => ?_) | with_reducible refine brW.beq (fun h => ?_) (fun h => ?_) | with_reducible refine brM.beq (fun h => ?_) (fun h => ?_) | with_reducible refine brM.ndec (fun h => ?_) (fun h => ?_) | with_reducible refine brW.ndec (fun h => ?_) (fun h => ?_) | with_reducible refine brM.dand (fun h => ?_) (fun h => ?_) | with_reducible refine brW.dand (fun h => ?_) (fun h => ?_) | with_reducible refine brM.dor (fun h => ?_) (fun h => ?_) | with_reducible refine brW.dor (fun h => ?_) (fun h => ?_) | with_reducible refine brM.bne (fun h => ?_) (fun h => ?_) | with_reducible refine brW.bne (fun h => ?_) (fun h => ?_)) <;> (first | (exfalso; omega) | skip)) | (with_reducible refine brW.two (fun h => ?_) (fun h => ?_)) | (with_reducible refine brM.two (fun h => ?_) (fun h => ?_))))
  refine CallW.of [] (by kernel_rfl) (Clone_fn L h0 hl) rfl ?_
  (repeat' (first | with_reducible refine GhW.now ?_ | with_reducible refine endW.now ?_ |  simp -implicitDefEqProofs -dsimp only [push_cast, ↓reduceIte, Nat.reduceMul, Nat.reduceAdd, Nat.reduceSub, Nat.reduceEqDiff, Nat.reduceBeqDiff, Nat.reduceLeDiff, Nat.reduceLT, reduceCtorEq, Int.reduceToNat, ↓ndW_true, ↓brM_true, ↓brM_false, ↓dstL_zero, ↓dstL_succ, ↓brW_true, ↓brW_false, ↓optW_some, ↓elW_zero, ↓elW_succ, ↓elW_map, ↓boolW_lit, ↓grdW_lit, ↓grdW_skip, ↓condW_lit, ↓pickW_lit, ↓calleeW_fn, ↓calleeW_d, ↓cellW_cell, ↓rowW_row, ↓iterW_iter, ↓seqK_normal, ↓seqK_exit, ↓seqK_ret, ↓blockK_normal, ↓blockK_ret, ↓blockK_exit, ↓retK_normal, ↓retK_ret, ↓loadV_pd, ↓loadV_po, ↓loadV_pe, ↓elemW, ↓evF_tmp, ↓evF_const, ↓evF_func, ↓guard_none, ↓guard_true, ↓guard_false, ↓codeW, ↓regW_true, ↓regW_false, ↓opsW_nil, ↓opsW_cons, ↓opsD_nil, ↓opsD_cons, ↓pvW_some, ↓pvsW_some, ↓vcallD_call] | (simp -implicitDefEqProofs -dsimp (disch := omega) only [w64, wu64, half64, half64']) | (with_reducible refine ndW.intro' (by first | omega | (simp; done) | (simp; omega) | (simp [allFit, Fit, appFits, V.cellOk, Value.oneCell', D.cells]; done) | (simp [allFit, Fit, appFits, V.cellOk, Value.oneCell', D.cells]; omega)) ?_) | ((first | with_reducible refine brW.dec (fun h => ?_) (fun h => ?_) | with_reducible refine brM.dec (fun h => ?_) (fun h => ?_) | with_reducible refine brW.beq (fun h => ?_) (fun h => ?_) | with_reducible refine brM.beq (fun h => ?_) (fun h => ?_) | with_reducible refine brM.ndec (fun h => ?_) (fun h => ?_) | with_reducible refine brW.ndec (fun h => ?_) (fun h => ?_) | with_reducible refine brM.dand (fun h => ?_) (fun h => ?_) | with_reducible refine brW.dand (fun h => ?_) (fun h => ?_) | with_reducible refine brM.dor (fun h => ?_) (fun h => ?_) | with_reducible refine brW.dor (fun h => ?_) (fun h => ?_) | with_reducible refine brM.bne (fun h => ?_) (fun h => ?_) | with_reducible refine brW.bne (fun h => ?_) (fun h => ?_)) <;> (first | (exfalso; omega) | skip)) | (with_reducible refine brW.two (fun h => ?_) (fun h => ?_)) | (with_reducible refine brM.two (fun h => ?_) (fun h => ?_))))
  refine DoneW.now [28] (by decide) ?_
  (repeat' (first | with_reducible refine GhW.now ?_ | with_reducible refine endW.now ?_ |  simp -implicitDefEqProofs -dsimp only [push_cast, ↓reduceIte, Nat.reduceMul, Nat.reduceAdd, Nat.reduceSub, Nat.reduceEqDiff, Nat.reduceBeqDiff, Nat.reduceLeDiff, Nat.reduceLT, reduceCtorEq, Int.reduceToNat, ↓ndW_true, ↓brM_true, ↓brM_false, ↓dstL_zero, ↓dstL_succ, ↓brW_true, ↓brW_false, ↓optW_some, ↓elW_zero, ↓elW_succ, ↓elW_map, ↓boolW_lit, ↓grdW_lit, ↓grdW_skip, ↓condW_lit, ↓pickW_lit, ↓calleeW_fn, ↓calleeW_d, ↓cellW_cell, ↓rowW_row, ↓iterW_iter, ↓seqK_normal, ↓seqK_exit, ↓seqK_ret, ↓blockK_normal, ↓blockK_ret, ↓blockK_exit, ↓retK_normal, ↓retK_ret, ↓loadV_pd, ↓loadV_po, ↓loadV_pe, ↓elemW, ↓evF_tmp, ↓evF_const, ↓evF_func, ↓guard_none, ↓guard_true, ↓guard_false, ↓codeW, ↓regW_true, ↓regW_false, ↓opsW_nil, ↓opsW_cons, ↓opsD_nil, ↓opsD_cons, ↓pvW_some, ↓pvsW_some, ↓vcallD_call] | (simp -implicitDefEqProofs -dsimp (disch := omega) only [w64, wu64, half64, half64']) | (with_reducible refine ndW.intro' (by first | omega | (simp; done) | (simp; omega) | (simp [allFit, Fit, appFits, V.cellOk, Value.oneCell', D.cells]; done) | (simp [allFit, Fit, appFits, V.cellOk, Value.oneCell', D.cells]; omega)) ?_) | ((first | with_reducible refine brW.dec (fun h => ?_) (fun h => ?_) | with_reducible refine brM.dec (fun h => ?_) (fun h => ?_) | with_reducible refine brW.beq (fun h => ?_) (fun h => ?_) | with_reducible refine brM.beq (fun h => ?_) (fun h => ?_) | with_reducible refine brM.ndec (fun h => ?_) (fun h => ?_) | with_reducible refine brW.ndec (fun h => ?_) (fun h => ?_) | with_reducible refine brM.dand (fun h => ?_) (fun h => ?_) | with_reducible refine brW.dand (fun h => ?_) (fun h => ?_) | with_reducible refine brM.dor (fun h => ?_) (fun h => ?_) | with_reducible refine brW.dor (fun h => ?_) (fun h => ?_) | with_reducible refine brM.bne (fun h => ?_) (fun h => ?_) | with_reducible refine brW.bne (fun h => ?_) (fun h => ?_)) <;> (first | (exfalso; omega) | skip)) | (with_reducible refine brW.two (fun h => ?_) (fun h => ?_)) | (with_reducible refine brM.two (fun h => ?_) (fun h => ?_))))
  exact Sub_refl _
def lastTo (cs : List Ch) : Int := (prevC cs cs.length).2.1
/-- Why a set is not shifted; 0 where it is. -/
def shE (n : Int) (cs : List Ch) (L : List Se) : Int := if normal cs = true then (if n < lastTo cs ∨ 1099511627776 < n + delta cs then 1 else newErr (n + delta cs) (L.map (shiftG cs))) else 4
def mixS (cs : List Ch) (L : List Se) (i : Nat) : List Se := (L.take i).map (shiftG cs) ++ L.drop i
theorem mixS_len (cs : List Ch) (L : List Se) (i : Nat) (h : i ≤ L.length) : (mixS cs L i).length = L.length := by simp [mixS]; omega
theorem mixS_get {cs : List Ch} {L : List Se} {i : Nat} {x : Se} (h : L[i]? = some x) : (mixS cs L i)[i]? = some x := by
  have hi := (List.getElem?_eq_some_iff.1 h).1
  unfold mixS
  rw [List.getElem?_append_right (by simp; omega)]
  simp
  rw [show i + (i - min i L.length) = i by omega]
  exact h
theorem mixS_set {cs : List Ch} {L : List Se} {i : Nat} {x : Se} (h : L[i]? = some x) : (mixS cs L i).set i (shiftG cs x) = mixS cs L (i + 1) := by
  have hi := (List.getElem?_eq_some_iff.1 h).1
  unfold mixS
  rw [drop_at h, List.set_append_right _ _ (by simp; omega), take_snoc' h, List.map_append, List.append_assoc]
  simp
  rw [show i - min i L.length = 0 by omega]
  rfl
def pshS (n : Int) (cs : List Ch) (L : List Se) (i : Nat) : St := ⟨[(1, chL cs), (6, iv n), (7, .so 0 2 0 L.length), (44, iv L.length), (45, iv i)], [(0, seR (mixS cs L i))], 1⟩
attribute [push_cast] pshS.eq_def
set_option maxHeartbeats 4000000 in
theorem PShift_fn (n k : Int) (cs : List Ch) (L : List Se) (r : V) (hn : 0 ≤ n ∧ n ≤ 1099511627776) (hc : cs.length ≤ 100) (h0 : 0 < L.length) (hl : L.length ≤ 1000) (hL : ∀ x ∈ L, 0 ≤ spanF x ∧ spanT x ≤ n)
    (hk : shE n cs L = k) (hr : (k ≠ 0 ∧ r = .tup [nilV, iv k]) ∨ (k = 0 ∧ r = .tup [setV (n + delta cs) (joinedS (L.map (shiftG cs))), iv 0])) :
    OFn Try.prog G0 24 [setV n L, chL cs] [] 0 r [] := by
  refine OFn.of_code mixed [0, 1, 4, 5, 6, 7, 8, 11, 14, 18, 44, 45, 46] Try.func24 rfl Try.results24 Try.ntmps24 (by kernel_rfl) (by simp) ?_
  unfold shE at hk
  cases hno : normal cs
  · rw [if_neg (by simp [hno])] at hk
    subst hk
    rcases hr with ⟨_, rfl⟩ | ⟨h, _⟩
    rotate_left
    · cases h
    have hP := PNormal_fn cs (by omega)
    rw [hno] at hP
    (repeat' (first | with_reducible refine GhW.now ?_ | with_reducible refine endW.now ?_ | (with_reducible refine CallW.d hP (by kernel_rfl) rfl rfl ?_) | (with_reducible refine CallW.d (Len_fn _ _) (by kernel_rfl) rfl rfl ?_) | (with_reducible refine CallW.d (PNormal_fn _ (by omega)) (by kernel_rfl) rfl rfl ?_) | (with_reducible refine CallW.d (Delta_fn _ (by omega) (by assumption)) (by kernel_rfl) rfl rfl ?_) | with_reducible refine DoneW.out ?_ | simp -implicitDefEqProofs -dsimp only [push_cast, ↓reduceIte, Nat.reduceMul, Nat.reduceAdd, Nat.reduceSub, Nat.reduceEqDiff, Nat.reduceBeqDiff, Nat.reduceLeDiff, Nat.reduceLT, reduceCtorEq, Int.reduceToNat, ↓ndW_true, ↓brM_true, ↓brM_false, ↓dstL_zero, ↓dstL_succ, ↓brW_true, ↓brW_false, ↓optW_some, ↓elW_zero, ↓elW_succ, ↓elW_map, ↓boolW_lit, ↓grdW_lit, ↓grdW_skip, ↓condW_lit, ↓pickW_lit, ↓calleeW_fn, ↓calleeW_d, ↓cellW_cell, ↓rowW_row, ↓iterW_iter, ↓seqK_normal, ↓seqK_exit, ↓seqK_ret, ↓blockK_normal, ↓blockK_ret, ↓blockK_exit, ↓retK_normal, ↓retK_ret, ↓loadV_pd, ↓loadV_po, ↓loadV_pe, ↓elemW, ↓evF_tmp, ↓evF_const, ↓evF_func, ↓guard_none, ↓guard_true, ↓guard_false, ↓codeW, ↓regW_true, ↓regW_false, ↓opsW_nil, ↓opsW_cons, ↓opsD_nil, ↓opsD_cons, ↓pvW_some, ↓pvsW_some, ↓vcallD_call] | (simp -implicitDefEqProofs -dsimp (disch := omega) only [w64, wu64, half64, half64']) | (with_reducible refine ndW.intro' (by first | omega | (simp; done) | (simp; omega) | (simp [allFit, Fit, appFits, V.cellOk, Value.oneCell', D.cells]; done) | (simp [allFit, Fit, appFits, V.cellOk, Value.oneCell', D.cells]; omega)) ?_) | ((first | with_reducible refine brW.dec (fun h => ?_) (fun h => ?_) | with_reducible refine brM.dec (fun h => ?_) (fun h => ?_) | with_reducible refine brW.beq (fun h => ?_) (fun h => ?_) | with_reducible refine brM.beq (fun h => ?_) (fun h => ?_) | with_reducible refine brM.ndec (fun h => ?_) (fun h => ?_) | with_reducible refine brW.ndec (fun h => ?_) (fun h => ?_) | with_reducible refine brM.dand (fun h => ?_) (fun h => ?_) | with_reducible refine brW.dand (fun h => ?_) (fun h => ?_) | with_reducible refine brM.dor (fun h => ?_) (fun h => ?_) | with_reducible refine brW.dor (fun h => ?_) (fun h => ?_) | with_reducible refine brM.bne (fun h => ?_) (fun h => ?_) | with_reducible refine brW.bne (fun h => ?_) (fun h => ?_)) <;> (first | (exfalso; omega) | skip)) | (with_reducible refine brW.two (fun h => ?_) (fun h => ?_)) | (with_reducible refine brM.two (fun h => ?_) (fun h => ?_))))
  · rw [if_pos hno] at hk
    have hb : ∀ c ∈ cs, boundC c := normF_bound cs _ _ hno
    have hP := PNormal_fn cs (by omega)
    rw [hno] at hP
    have hd := delta_bound hb
    (repeat' (first | with_reducible refine GhW.now ?_ | with_reducible refine endW.now ?_ | (with_reducible refine CallW.d hP (by kernel_rfl) rfl rfl ?_) | (with_reducible refine CallW.d (Len_fn _ _) (by kernel_rfl) rfl rfl ?_) | (with_reducible refine CallW.d (PNormal_fn _ (by omega)) (by kernel_rfl) rfl rfl ?_) | (with_reducible refine CallW.d (Delta_fn _ (by omega) (by assumption)) (by kernel_rfl) rfl rfl ?_) | with_reducible refine DoneW.out ?_ | simp -implicitDefEqProofs -dsimp only [push_cast, ↓reduceIte, Nat.reduceMul, Nat.reduceAdd, Nat.reduceSub, Nat.reduceEqDiff, Nat.reduceBeqDiff, Nat.reduceLeDiff, Nat.reduceLT, reduceCtorEq, Int.reduceToNat, ↓ndW_true, ↓brM_true, ↓brM_false, ↓dstL_zero, ↓dstL_succ, ↓brW_true, ↓brW_false, ↓optW_some, ↓elW_zero, ↓elW_succ, ↓elW_map, ↓boolW_lit, ↓grdW_lit, ↓grdW_skip, ↓condW_lit, ↓pickW_lit, ↓calleeW_fn, ↓calleeW_d, ↓cellW_cell, ↓rowW_row, ↓iterW_iter, ↓seqK_normal, ↓seqK_exit, ↓seqK_ret, ↓blockK_normal, ↓blockK_ret, ↓blockK_exit, ↓retK_normal, ↓retK_ret, ↓loadV_pd, ↓loadV_po, ↓loadV_pe, ↓elemW, ↓evF_tmp, ↓evF_const, ↓evF_func, ↓guard_none, ↓guard_true, ↓guard_false, ↓codeW, ↓regW_true, ↓regW_false, ↓opsW_nil, ↓opsW_cons, ↓opsD_nil, ↓opsD_cons, ↓pvW_some, ↓pvsW_some, ↓vcallD_call] | (simp -implicitDefEqProofs -dsimp (disch := omega) only [w64, wu64, half64, half64']) | (with_reducible refine ndW.intro' (by first | omega | (simp; done) | (simp; omega) | (simp [allFit, Fit, appFits, V.cellOk, Value.oneCell', D.cells]; done) | (simp [allFit, Fit, appFits, V.cellOk, Value.oneCell', D.cells]; omega)) ?_) | ((first | with_reducible refine brW.dec (fun h => ?_) (fun h => ?_) | with_reducible refine brM.dec (fun h => ?_) (fun h => ?_) | with_reducible refine brW.beq (fun h => ?_) (fun h => ?_) | with_reducible refine brM.beq (fun h => ?_) (fun h => ?_) | with_reducible refine brM.ndec (fun h => ?_) (fun h => ?_) | with_reducible refine brW.ndec (fun h => ?_) (fun h => ?_) | with_reducible refine brM.dand (fun h => ?_) (fun h => ?_) | with_reducible refine brW.dand (fun h => ?_) (fun h => ?_) | with_reducible refine brM.dor (fun h => ?_) (fun h => ?_) | with_reducible refine brW.dor (fun h => ?_) (fun h => ?_) | with_reducible refine brM.bne (fun h => ?_) (fun h => ?_) | with_reducible refine brW.bne (fun h => ?_) (fun h => ?_)) <;> (first | (exfalso; omega) | skip)) | (with_reducible refine brW.two (fun h => ?_) (fun h => ?_)) | (with_reducible refine brM.two (fun h => ?_) (fun h => ?_))))
    · obtain ⟨c, hcl⟩ : ∃ c, cs[cs.length - 1]? = some c := ⟨_, List.getElem?_eq_getElem (by omega)⟩
      have hlt : lastTo cs = c.2.1 := by
        have := prevC_succ hcl
        rw [show cs.length - 1 + 1 = cs.length by omega] at this
        unfold lastTo
        rw [this]
      refine elX.is (cs.length - 1) c (by omega) hcl ?_
      (repeat' (first | with_reducible refine GhW.now ?_ | with_reducible refine endW.now ?_ | (with_reducible refine CallW.d hP (by kernel_rfl) rfl rfl ?_) | (with_reducible refine CallW.d (Len_fn _ _) (by kernel_rfl) rfl rfl ?_) | (with_reducible refine CallW.d (PNormal_fn _ (by omega)) (by kernel_rfl) rfl rfl ?_) | (with_reducible refine CallW.d (Delta_fn _ (by omega) (by assumption)) (by kernel_rfl) rfl rfl ?_) | with_reducible refine DoneW.out ?_ | simp -implicitDefEqProofs -dsimp only [push_cast, ↓reduceIte, Nat.reduceMul, Nat.reduceAdd, Nat.reduceSub, Nat.reduceEqDiff, Nat.reduceBeqDiff, Nat.reduceLeDiff, Nat.reduceLT, reduceCtorEq, Int.reduceToNat, ↓ndW_true, ↓brM_true, ↓brM_false, ↓dstL_zero, ↓dstL_succ, ↓brW_true, ↓brW_false, ↓optW_some, ↓elW_zero, ↓elW_succ, ↓elW_map, ↓boolW_lit, ↓grdW_lit, ↓grdW_skip, ↓condW_lit, ↓pickW_lit, ↓calleeW_fn, ↓calleeW_d, ↓cellW_cell, ↓rowW_row, ↓iterW_iter, ↓seqK_normal, ↓seqK_exit, ↓seqK_ret, ↓blockK_normal, ↓blockK_ret, ↓blockK_exit, ↓retK_normal, ↓retK_ret, ↓loadV_pd, ↓loadV_po, ↓loadV_pe, ↓elemW, ↓evF_tmp, ↓evF_const, ↓evF_func, ↓guard_none, ↓guard_true, ↓guard_false, ↓codeW, ↓regW_true, ↓regW_false, ↓opsW_nil, ↓opsW_cons, ↓opsD_nil, ↓opsD_cons, ↓pvW_some, ↓pvsW_some, ↓vcallD_call] | (simp -implicitDefEqProofs -dsimp (disch := omega) only [w64, wu64, half64, half64']) | (with_reducible refine ndW.intro' (by first | omega | (simp; done) | (simp; omega) | (simp [allFit, Fit, appFits, V.cellOk, Value.oneCell', D.cells]; done) | (simp [allFit, Fit, appFits, V.cellOk, Value.oneCell', D.cells]; omega)) ?_) | ((first | with_reducible refine brW.dec (fun h => ?_) (fun h => ?_) | with_reducible refine brM.dec (fun h => ?_) (fun h => ?_) | with_reducible refine brW.beq (fun h => ?_) (fun h => ?_) | with_reducible refine brM.beq (fun h => ?_) (fun h => ?_) | with_reducible refine brM.ndec (fun h => ?_) (fun h => ?_) | with_reducible refine brW.ndec (fun h => ?_) (fun h => ?_) | with_reducible refine brM.dand (fun h => ?_) (fun h => ?_) | with_reducible refine brW.dand (fun h => ?_) (fun h => ?_) | with_reducible refine brM.dor (fun h => ?_) (fun h => ?_) | with_reducible refine brW.dor (fun h => ?_) (fun h => ?_) | with_reducible refine brM.bne (fun h => ?_) (fun h => ?_) | with_reducible refine brW.bne (fun h => ?_) (fun h => ?_)) <;> (first | (exfalso; omega) | skip)) | (with_reducible refine brW.two (fun h => ?_) (fun h => ?_)) | (with_reducible refine brM.two (fun h => ?_) (fun h => ?_))))
      · (rw [if_pos (by omega)] at hk; subst hk; rcases hr with ⟨_, rfl⟩ | ⟨h, _⟩; rotate_left; cases h; rfl)
      · (rw [if_pos (by omega)] at hk; subst hk; rcases hr with ⟨_, rfl⟩ | ⟨h, _⟩; rotate_left; cases h; rfl)
      · skip
        rw [if_neg (by omega)] at hk
        refine CallW.of [] (by kernel_rfl) (All_own_fn n L h0 (by omega)) rfl ?_
        (repeat' (first | with_reducible refine GhW.now ?_ | with_reducible refine endW.now ?_ |  simp -implicitDefEqProofs -dsimp only [push_cast, ↓reduceIte, Nat.reduceMul, Nat.reduceAdd, Nat.reduceSub, Nat.reduceEqDiff, Nat.reduceBeqDiff, Nat.reduceLeDiff, Nat.reduceLT, reduceCtorEq, Int.reduceToNat, ↓ndW_true, ↓brM_true, ↓brM_false, ↓dstL_zero, ↓dstL_succ, ↓brW_true, ↓brW_false, ↓optW_some, ↓elW_zero, ↓elW_succ, ↓elW_map, ↓boolW_lit, ↓grdW_lit, ↓grdW_skip, ↓condW_lit, ↓pickW_lit, ↓calleeW_fn, ↓calleeW_d, ↓cellW_cell, ↓rowW_row, ↓iterW_iter, ↓seqK_normal, ↓seqK_exit, ↓seqK_ret, ↓blockK_normal, ↓blockK_ret, ↓blockK_exit, ↓retK_normal, ↓retK_ret, ↓loadV_pd, ↓loadV_po, ↓loadV_pe, ↓elemW, ↓evF_tmp, ↓evF_const, ↓evF_func, ↓guard_none, ↓guard_true, ↓guard_false, ↓codeW, ↓regW_true, ↓regW_false, ↓opsW_nil, ↓opsW_cons, ↓opsD_nil, ↓opsD_cons, ↓pvW_some, ↓pvsW_some, ↓vcallD_call] | (simp -implicitDefEqProofs -dsimp (disch := omega) only [w64, wu64, half64, half64']) | (with_reducible refine ndW.intro' (by first | omega | (simp; done) | (simp; omega) | (simp [allFit, Fit, appFits, V.cellOk, Value.oneCell', D.cells]; done) | (simp [allFit, Fit, appFits, V.cellOk, Value.oneCell', D.cells]; omega)) ?_) | ((first | with_reducible refine brW.dec (fun h => ?_) (fun h => ?_) | with_reducible refine brM.dec (fun h => ?_) (fun h => ?_) | with_reducible refine brW.beq (fun h => ?_) (fun h => ?_) | with_reducible refine brM.beq (fun h => ?_) (fun h => ?_) | with_reducible refine brM.ndec (fun h => ?_) (fun h => ?_) | with_reducible refine brW.ndec (fun h => ?_) (fun h => ?_) | with_reducible refine brM.dand (fun h => ?_) (fun h => ?_) | with_reducible refine brW.dand (fun h => ?_) (fun h => ?_) | with_reducible refine brM.dor (fun h => ?_) (fun h => ?_) | with_reducible refine brW.dor (fun h => ?_) (fun h => ?_) | with_reducible refine brM.bne (fun h => ?_) (fun h => ?_) | with_reducible refine brW.bne (fun h => ?_) (fun h => ?_)) <;> (first | (exfalso; omega) | skip)) | (with_reducible refine brW.two (fun h => ?_) (fun h => ?_)) | (with_reducible refine brM.two (fun h => ?_) (fun h => ?_))))
        refine loopW_go (lv := [0, 1, 4, 5, 6, 7, 8, 11, 14, 18, 44, 45, 46]) mixed (by kernel_rfl) (pshS n cs L) (fun i => i ≤ L.length) (fun i => L.length - i) (0) ((GhW.go [1, 6, 7, 44, 45] (by (first | rfl | (simp -implicitDefEqProofs -dsimp only [push_cast, ↓reduceIte, Nat.reduceMul, Nat.reduceAdd, Nat.reduceSub, Nat.reduceEqDiff, Nat.reduceBeqDiff, Nat.reduceLeDiff, Nat.reduceLT, reduceCtorEq, Int.reduceToNat, ↓ndW_true, ↓brM_true, ↓brM_false, ↓dstL_zero, ↓dstL_succ, ↓brW_true, ↓brW_false, ↓optW_some, ↓elW_zero, ↓elW_succ, ↓elW_map, ↓boolW_lit, ↓grdW_lit, ↓grdW_skip, ↓condW_lit, ↓pickW_lit, ↓calleeW_fn, ↓calleeW_d, ↓cellW_cell, ↓rowW_row, ↓iterW_iter, ↓seqK_normal, ↓seqK_exit, ↓seqK_ret, ↓blockK_normal, ↓blockK_ret, ↓blockK_exit, ↓retK_normal, ↓retK_ret, ↓loadV_pd, ↓loadV_po, ↓loadV_pe, ↓elemW, ↓evF_tmp, ↓evF_const, ↓evF_func, ↓guard_none, ↓guard_true, ↓guard_false, ↓codeW, ↓regW_true, ↓regW_false, ↓opsW_nil, ↓opsW_cons, ↓opsD_nil, ↓opsD_cons, ↓pvW_some, ↓pvsW_some, ↓vcallD_call]; first | done | rfl | ((simp -implicitDefEqProofs -dsimp (disch := omega) only [w64, wu64, half64, half64']); first | done | (simp -implicitDefEqProofs -dsimp only [push_cast, ↓reduceIte, Nat.reduceMul, Nat.reduceAdd, Nat.reduceSub, Nat.reduceEqDiff, Nat.reduceBeqDiff, Nat.reduceLeDiff, Nat.reduceLT, reduceCtorEq, Int.reduceToNat, ↓ndW_true, ↓brM_true, ↓brM_false, ↓dstL_zero, ↓dstL_succ, ↓brW_true, ↓brW_false, ↓optW_some, ↓elW_zero, ↓elW_succ, ↓elW_map, ↓boolW_lit, ↓grdW_lit, ↓grdW_skip, ↓condW_lit, ↓pickW_lit, ↓calleeW_fn, ↓calleeW_d, ↓cellW_cell, ↓rowW_row, ↓iterW_iter, ↓seqK_normal, ↓seqK_exit, ↓seqK_ret, ↓blockK_normal, ↓blockK_ret, ↓blockK_exit, ↓retK_normal, ↓retK_ret, ↓loadV_pd, ↓loadV_po, ↓loadV_pe, ↓elemW, ↓evF_tmp, ↓evF_const, ↓evF_func, ↓guard_none, ↓guard_true, ↓guard_false, ↓codeW, ↓regW_true, ↓regW_false, ↓opsW_nil, ↓opsW_cons, ↓opsD_nil, ↓opsD_cons, ↓pvW_some, ↓pvsW_some, ↓vcallD_call]; done)) | ((try (simp -implicitDefEqProofs -dsimp (disch := omega) only [w64, wu64, half64, half64'])); simp only [St.mk.injEq, List.cons.injEq, Prod.mk.injEq, V.d.injEq, D.lit.injEq, Value.int.injEq, true_and, and_true]; omega)))) rfl)) ?_ ?_
        · exact Nat.zero_le _
        intro i hi
        have hml := mixS_len cs L i hi
        rcases Nat.lt_or_ge i L.length with hil | hil
        · obtain ⟨x, hx⟩ : ∃ x, L[i]? = some x := ⟨_, List.getElem?_eq_getElem hil⟩
          have hin : inN x := by
            have := hL x (List.mem_of_getElem? hx)
            exact ⟨this.1, by omega⟩
          (repeat' (first | with_reducible refine GhW.now ?_ | with_reducible refine endW.now ?_ |  simp -implicitDefEqProofs -dsimp only [push_cast, ↓reduceIte, Nat.reduceMul, Nat.reduceAdd, Nat.reduceSub, Nat.reduceEqDiff, Nat.reduceBeqDiff, Nat.reduceLeDiff, Nat.reduceLT, reduceCtorEq, Int.reduceToNat, ↓ndW_true, ↓brM_true, ↓brM_false, ↓dstL_zero, ↓dstL_succ, ↓brW_true, ↓brW_false, ↓optW_some, ↓elW_zero, ↓elW_succ, ↓elW_map, ↓boolW_lit, ↓grdW_lit, ↓grdW_skip, ↓condW_lit, ↓pickW_lit, ↓calleeW_fn, ↓calleeW_d, ↓cellW_cell, ↓rowW_row, ↓iterW_iter, ↓seqK_normal, ↓seqK_exit, ↓seqK_ret, ↓blockK_normal, ↓blockK_ret, ↓blockK_exit, ↓retK_normal, ↓retK_ret, ↓loadV_pd, ↓loadV_po, ↓loadV_pe, ↓elemW, ↓evF_tmp, ↓evF_const, ↓evF_func, ↓guard_none, ↓guard_true, ↓guard_false, ↓codeW, ↓regW_true, ↓regW_false, ↓opsW_nil, ↓opsW_cons, ↓opsD_nil, ↓opsD_cons, ↓pvW_some, ↓pvsW_some, ↓vcallD_call] | (simp -implicitDefEqProofs -dsimp (disch := omega) only [w64, wu64, half64, half64']) | (with_reducible refine ndW.intro' (by first | omega | (simp; done) | (simp; omega) | (simp [allFit, Fit, appFits, V.cellOk, Value.oneCell', D.cells]; done) | (simp [allFit, Fit, appFits, V.cellOk, Value.oneCell', D.cells]; omega)) ?_) | ((first | with_reducible refine brW.dec (fun h => ?_) (fun h => ?_) | with_reducible refine brM.dec (fun h => ?_) (fun h => ?_) | with_reducible refine brW.beq (fun h => ?_) (fun h => ?_) | with_reducible refine brM.beq (fun h => ?_) (fun h => ?_) | with_reducible refine brM.ndec (fun h => ?_) (fun h => ?_) | with_reducible refine brW.ndec (fun h => ?_) (fun h => ?_) | with_reducible refine brM.dand (fun h => ?_) (fun h => ?_) | with_reducible refine brW.dand (fun h => ?_) (fun h => ?_) | with_reducible refine brM.dor (fun h => ?_) (fun h => ?_) | with_reducible refine brW.dor (fun h => ?_) (fun h => ?_) | with_reducible refine brM.bne (fun h => ?_) (fun h => ?_) | with_reducible refine brW.bne (fun h => ?_) (fun h => ?_)) <;> (first | (exfalso; omega) | skip)) | (with_reducible refine brW.two (fun h => ?_) (fun h => ?_)) | (with_reducible refine brM.two (fun h => ?_) (fun h => ?_))))
          refine elX.is i x (by omega) (mixS_get hx) ?_
          (repeat' (first | with_reducible refine GhW.now ?_ | with_reducible refine endW.now ?_ | (with_reducible refine CallW.d (Pshifted_fn cs x (by omega) hno hin) (by kernel_rfl) rfl rfl ?_) | simp -implicitDefEqProofs -dsimp only [push_cast, ↓reduceIte, Nat.reduceMul, Nat.reduceAdd, Nat.reduceSub, Nat.reduceEqDiff, Nat.reduceBeqDiff, Nat.reduceLeDiff, Nat.reduceLT, reduceCtorEq, Int.reduceToNat, ↓ndW_true, ↓brM_true, ↓brM_false, ↓dstL_zero, ↓dstL_succ, ↓brW_true, ↓brW_false, ↓optW_some, ↓elW_zero, ↓elW_succ, ↓elW_map, ↓boolW_lit, ↓grdW_lit, ↓grdW_skip, ↓condW_lit, ↓pickW_lit, ↓calleeW_fn, ↓calleeW_d, ↓cellW_cell, ↓rowW_row, ↓iterW_iter, ↓seqK_normal, ↓seqK_exit, ↓seqK_ret, ↓blockK_normal, ↓blockK_ret, ↓blockK_exit, ↓retK_normal, ↓retK_ret, ↓loadV_pd, ↓loadV_po, ↓loadV_pe, ↓elemW, ↓evF_tmp, ↓evF_const, ↓evF_func, ↓guard_none, ↓guard_true, ↓guard_false, ↓codeW, ↓regW_true, ↓regW_false, ↓opsW_nil, ↓opsW_cons, ↓opsD_nil, ↓opsD_cons, ↓pvW_some, ↓pvsW_some, ↓vcallD_call] | (simp -implicitDefEqProofs -dsimp (disch := omega) only [w64, wu64, half64, half64']) | (with_reducible refine ndW.intro' (by first | omega | (simp; done) | (simp; omega) | (simp [allFit, Fit, appFits, V.cellOk, Value.oneCell', D.cells]; done) | (simp [allFit, Fit, appFits, V.cellOk, Value.oneCell', D.cells]; omega)) ?_) | ((first | with_reducible refine brW.dec (fun h => ?_) (fun h => ?_) | with_reducible refine brM.dec (fun h => ?_) (fun h => ?_) | with_reducible refine brW.beq (fun h => ?_) (fun h => ?_) | with_reducible refine brM.beq (fun h => ?_) (fun h => ?_) | with_reducible refine brM.ndec (fun h => ?_) (fun h => ?_) | with_reducible refine brW.ndec (fun h => ?_) (fun h => ?_) | with_reducible refine brM.dand (fun h => ?_) (fun h => ?_) | with_reducible refine brW.dand (fun h => ?_) (fun h => ?_) | with_reducible refine brM.dor (fun h => ?_) (fun h => ?_) | with_reducible refine brW.dor (fun h => ?_) (fun h => ?_) | with_reducible refine brM.bne (fun h => ?_) (fun h => ?_) | with_reducible refine brW.bne (fun h => ?_) (fun h => ?_)) <;> (first | (exfalso; omega) | skip)) | (with_reducible refine brW.two (fun h => ?_) (fun h => ?_)) | (with_reducible refine brM.two (fun h => ?_) (fun h => ?_))))
          refine AgW.go (i + 1) [1, 6, 7, 44, 45] (by unfold pshS seR; rw [← mixS_set hx, List.map_set]; (first | rfl | (simp -implicitDefEqProofs -dsimp only [push_cast, ↓reduceIte, Nat.reduceMul, Nat.reduceAdd, Nat.reduceSub, Nat.reduceEqDiff, Nat.reduceBeqDiff, Nat.reduceLeDiff, Nat.reduceLT, reduceCtorEq, Int.reduceToNat, ↓ndW_true, ↓brM_true, ↓brM_false, ↓dstL_zero, ↓dstL_succ, ↓brW_true, ↓brW_false, ↓optW_some, ↓elW_zero, ↓elW_succ, ↓elW_map, ↓boolW_lit, ↓grdW_lit, ↓grdW_skip, ↓condW_lit, ↓pickW_lit, ↓calleeW_fn, ↓calleeW_d, ↓cellW_cell, ↓rowW_row, ↓iterW_iter, ↓seqK_normal, ↓seqK_exit, ↓seqK_ret, ↓blockK_normal, ↓blockK_ret, ↓blockK_exit, ↓retK_normal, ↓retK_ret, ↓loadV_pd, ↓loadV_po, ↓loadV_pe, ↓elemW, ↓evF_tmp, ↓evF_const, ↓evF_func, ↓guard_none, ↓guard_true, ↓guard_false, ↓codeW, ↓regW_true, ↓regW_false, ↓opsW_nil, ↓opsW_cons, ↓opsD_nil, ↓opsD_cons, ↓pvW_some, ↓pvsW_some, ↓vcallD_call]; first | done | rfl | ((simp -implicitDefEqProofs -dsimp (disch := omega) only [w64, wu64, half64, half64']); first | done | (simp -implicitDefEqProofs -dsimp only [push_cast, ↓reduceIte, Nat.reduceMul, Nat.reduceAdd, Nat.reduceSub, Nat.reduceEqDiff, Nat.reduceBeqDiff, Nat.reduceLeDiff, Nat.reduceLT, reduceCtorEq, Int.reduceToNat, ↓ndW_true, ↓brM_true, ↓brM_false, ↓dstL_zero, ↓dstL_succ, ↓brW_true, ↓brW_false, ↓optW_some, ↓elW_zero, ↓elW_succ, ↓elW_map, ↓boolW_lit, ↓grdW_lit, ↓grdW_skip, ↓condW_lit, ↓pickW_lit, ↓calleeW_fn, ↓calleeW_d, ↓cellW_cell, ↓rowW_row, ↓iterW_iter, ↓seqK_normal, ↓seqK_exit, ↓seqK_ret, ↓blockK_normal, ↓blockK_ret, ↓blockK_exit, ↓retK_normal, ↓retK_ret, ↓loadV_pd, ↓loadV_po, ↓loadV_pe, ↓elemW, ↓evF_tmp, ↓evF_const, ↓evF_func, ↓guard_none, ↓guard_true, ↓guard_false, ↓codeW, ↓regW_true, ↓regW_false, ↓opsW_nil, ↓opsW_cons, ↓opsD_nil, ↓opsD_cons, ↓pvW_some, ↓pvsW_some, ↓vcallD_call]; done)) | ((try (simp -implicitDefEqProofs -dsimp (disch := omega) only [w64, wu64, half64, half64'])); simp only [St.mk.injEq, List.cons.injEq, Prod.mk.injEq, V.d.injEq, D.lit.injEq, Value.int.injEq, true_and, and_true]; omega)))) ?_ ?_
          · show L.length - (i + 1) < L.length - i
            omega
          · show i + 1 ≤ L.length
            omega
        · have hm : mixS cs L i = L.map (shiftG cs) := by
            unfold mixS
            rw [List.take_of_length_le hil, List.drop_of_length_le hil, List.append_nil]
          (repeat' (first | with_reducible refine GhW.now ?_ | with_reducible refine endW.now ?_ | (with_reducible refine CallW.d (Len_fn _ _) (by kernel_rfl) rfl rfl ?_) | (with_reducible refine CallW.d (PNormal_fn _ (by omega)) (by kernel_rfl) rfl rfl ?_) | (with_reducible refine CallW.d (Delta_fn _ (by omega) (by assumption)) (by kernel_rfl) rfl rfl ?_) | with_reducible refine DoneW.out ?_ | simp -implicitDefEqProofs -dsimp only [push_cast, ↓reduceIte, Nat.reduceMul, Nat.reduceAdd, Nat.reduceSub, Nat.reduceEqDiff, Nat.reduceBeqDiff, Nat.reduceLeDiff, Nat.reduceLT, reduceCtorEq, Int.reduceToNat, ↓ndW_true, ↓brM_true, ↓brM_false, ↓dstL_zero, ↓dstL_succ, ↓brW_true, ↓brW_false, ↓optW_some, ↓elW_zero, ↓elW_succ, ↓elW_map, ↓boolW_lit, ↓grdW_lit, ↓grdW_skip, ↓condW_lit, ↓pickW_lit, ↓calleeW_fn, ↓calleeW_d, ↓cellW_cell, ↓rowW_row, ↓iterW_iter, ↓seqK_normal, ↓seqK_exit, ↓seqK_ret, ↓blockK_normal, ↓blockK_ret, ↓blockK_exit, ↓retK_normal, ↓retK_ret, ↓loadV_pd, ↓loadV_po, ↓loadV_pe, ↓elemW, ↓evF_tmp, ↓evF_const, ↓evF_func, ↓guard_none, ↓guard_true, ↓guard_false, ↓codeW, ↓regW_true, ↓regW_false, ↓opsW_nil, ↓opsW_cons, ↓opsD_nil, ↓opsD_cons, ↓pvW_some, ↓pvsW_some, ↓vcallD_call] | (simp -implicitDefEqProofs -dsimp (disch := omega) only [w64, wu64, half64, half64']) | (with_reducible refine ndW.intro' (by first | omega | (simp; done) | (simp; omega) | (simp [allFit, Fit, appFits, V.cellOk, Value.oneCell', D.cells]; done) | (simp [allFit, Fit, appFits, V.cellOk, Value.oneCell', D.cells]; omega)) ?_) | ((first | with_reducible refine brW.dec (fun h => ?_) (fun h => ?_) | with_reducible refine brM.dec (fun h => ?_) (fun h => ?_) | with_reducible refine brW.beq (fun h => ?_) (fun h => ?_) | with_reducible refine brM.beq (fun h => ?_) (fun h => ?_) | with_reducible refine brM.ndec (fun h => ?_) (fun h => ?_) | with_reducible refine brW.ndec (fun h => ?_) (fun h => ?_) | with_reducible refine brM.dand (fun h => ?_) (fun h => ?_) | with_reducible refine brW.dand (fun h => ?_) (fun h => ?_) | with_reducible refine brM.dor (fun h => ?_) (fun h => ?_) | with_reducible refine brW.dor (fun h => ?_) (fun h => ?_) | with_reducible refine brM.bne (fun h => ?_) (fun h => ?_) | with_reducible refine brW.bne (fun h => ?_) (fun h => ?_)) <;> (first | (exfalso; omega) | skip)) | (with_reducible refine brW.two (fun h => ?_) (fun h => ?_)) | (with_reducible refine brM.two (fun h => ?_) (fun h => ?_))))
          obtain ⟨LS, hLS⟩ : ∃ Z, Z = L.map (shiftG cs) := ⟨_, rfl⟩
          have hll : LS.length = L.length := by rw [hLS, List.length_map]
          rw [← hLS] at hm hk hr
          rw [hm, ← hll]
          refine CallW.frz 0 rfl ?_
          simp -implicitDefEqProofs -dsimp only [push_cast, ↓reduceIte, Nat.reduceMul, Nat.reduceAdd, Nat.reduceSub, Nat.reduceEqDiff, Nat.reduceBeqDiff, Nat.reduceLeDiff, Nat.reduceLT, reduceCtorEq, Int.reduceToNat, ↓ndW_true, ↓brM_true, ↓brM_false, ↓dstL_zero, ↓dstL_succ, ↓brW_true, ↓brW_false, ↓optW_some, ↓elW_zero, ↓elW_succ, ↓elW_map, ↓boolW_lit, ↓grdW_lit, ↓grdW_skip, ↓condW_lit, ↓pickW_lit, ↓calleeW_fn, ↓calleeW_d, ↓cellW_cell, ↓rowW_row, ↓iterW_iter, ↓seqK_normal, ↓seqK_exit, ↓seqK_ret, ↓blockK_normal, ↓blockK_ret, ↓blockK_exit, ↓retK_normal, ↓retK_ret, ↓loadV_pd, ↓loadV_po, ↓loadV_pe, ↓elemW, ↓evF_tmp, ↓evF_const, ↓evF_func, ↓guard_none, ↓guard_true, ↓guard_false, ↓codeW, ↓regW_true, ↓regW_false, ↓opsW_nil, ↓opsW_cons, ↓opsD_nil, ↓opsD_cons, ↓pvW_some, ↓pvsW_some, ↓vcallD_call]
          rw [List.take_of_length_le (by rw [List.length_map]; omega)]
          rcases hr with ⟨hk0, rfl⟩ | ⟨hk0, rfl⟩
          · refine CallW.d (New_no_fn _ k _ (by omega) hk hk0) (by kernel_rfl) rfl rfl ?_
            (repeat' (first | with_reducible refine GhW.now ?_ | with_reducible refine endW.now ?_ | (with_reducible refine CallW.d (Len_fn _ _) (by kernel_rfl) rfl rfl ?_) | (with_reducible refine CallW.d (PNormal_fn _ (by omega)) (by kernel_rfl) rfl rfl ?_) | (with_reducible refine CallW.d (Delta_fn _ (by omega) (by assumption)) (by kernel_rfl) rfl rfl ?_) | with_reducible refine DoneW.out ?_ | simp -implicitDefEqProofs -dsimp only [push_cast, ↓reduceIte, Nat.reduceMul, Nat.reduceAdd, Nat.reduceSub, Nat.reduceEqDiff, Nat.reduceBeqDiff, Nat.reduceLeDiff, Nat.reduceLT, reduceCtorEq, Int.reduceToNat, ↓ndW_true, ↓brM_true, ↓brM_false, ↓dstL_zero, ↓dstL_succ, ↓brW_true, ↓brW_false, ↓optW_some, ↓elW_zero, ↓elW_succ, ↓elW_map, ↓boolW_lit, ↓grdW_lit, ↓grdW_skip, ↓condW_lit, ↓pickW_lit, ↓calleeW_fn, ↓calleeW_d, ↓cellW_cell, ↓rowW_row, ↓iterW_iter, ↓seqK_normal, ↓seqK_exit, ↓seqK_ret, ↓blockK_normal, ↓blockK_ret, ↓blockK_exit, ↓retK_normal, ↓retK_ret, ↓loadV_pd, ↓loadV_po, ↓loadV_pe, ↓elemW, ↓evF_tmp, ↓evF_const, ↓evF_func, ↓guard_none, ↓guard_true, ↓guard_false, ↓codeW, ↓regW_true, ↓regW_false, ↓opsW_nil, ↓opsW_cons, ↓opsD_nil, ↓opsD_cons, ↓pvW_some, ↓pvsW_some, ↓vcallD_call] | (simp -implicitDefEqProofs -dsimp (disch := omega) only [w64, wu64, half64, half64']) | (with_reducible refine ndW.intro' (by first | omega | (simp; done) | (simp; omega) | (simp [allFit, Fit, appFits, V.cellOk, Value.oneCell', D.cells]; done) | (simp [allFit, Fit, appFits, V.cellOk, Value.oneCell', D.cells]; omega)) ?_) | ((first | with_reducible refine brW.dec (fun h => ?_) (fun h => ?_) | with_reducible refine brM.dec (fun h => ?_) (fun h => ?_) | with_reducible refine brW.beq (fun h => ?_) (fun h => ?_) | with_reducible refine brM.beq (fun h => ?_) (fun h => ?_) | with_reducible refine brM.ndec (fun h => ?_) (fun h => ?_) | with_reducible refine brW.ndec (fun h => ?_) (fun h => ?_) | with_reducible refine brM.dand (fun h => ?_) (fun h => ?_) | with_reducible refine brW.dand (fun h => ?_) (fun h => ?_) | with_reducible refine brM.dor (fun h => ?_) (fun h => ?_) | with_reducible refine brW.dor (fun h => ?_) (fun h => ?_) | with_reducible refine brM.bne (fun h => ?_) (fun h => ?_) | with_reducible refine brW.bne (fun h => ?_) (fun h => ?_)) <;> (first | (exfalso; omega) | skip)) | (with_reducible refine brW.two (fun h => ?_) (fun h => ?_)) | (with_reducible refine brM.two (fun h => ?_) (fun h => ?_))))
          · refine CallW.d (New_ok_fn _ _ (by omega) (hk.trans hk0)) (by kernel_rfl) rfl rfl ?_
            (repeat' (first | with_reducible refine GhW.now ?_ | with_reducible refine endW.now ?_ | (with_reducible refine CallW.d (Len_fn _ _) (by kernel_rfl) rfl rfl ?_) | (with_reducible refine CallW.d (PNormal_fn _ (by omega)) (by kernel_rfl) rfl rfl ?_) | (with_reducible refine CallW.d (Delta_fn _ (by omega) (by assumption)) (by kernel_rfl) rfl rfl ?_) | with_reducible refine DoneW.out ?_ | simp -implicitDefEqProofs -dsimp only [push_cast, ↓reduceIte, Nat.reduceMul, Nat.reduceAdd, Nat.reduceSub, Nat.reduceEqDiff, Nat.reduceBeqDiff, Nat.reduceLeDiff, Nat.reduceLT, reduceCtorEq, Int.reduceToNat, ↓ndW_true, ↓brM_true, ↓brM_false, ↓dstL_zero, ↓dstL_succ, ↓brW_true, ↓brW_false, ↓optW_some, ↓elW_zero, ↓elW_succ, ↓elW_map, ↓boolW_lit, ↓grdW_lit, ↓grdW_skip, ↓condW_lit, ↓pickW_lit, ↓calleeW_fn, ↓calleeW_d, ↓cellW_cell, ↓rowW_row, ↓iterW_iter, ↓seqK_normal, ↓seqK_exit, ↓seqK_ret, ↓blockK_normal, ↓blockK_ret, ↓blockK_exit, ↓retK_normal, ↓retK_ret, ↓loadV_pd, ↓loadV_po, ↓loadV_pe, ↓elemW, ↓evF_tmp, ↓evF_const, ↓evF_func, ↓guard_none, ↓guard_true, ↓guard_false, ↓codeW, ↓regW_true, ↓regW_false, ↓opsW_nil, ↓opsW_cons, ↓opsD_nil, ↓opsD_cons, ↓pvW_some, ↓pvsW_some, ↓vcallD_call] | (simp -implicitDefEqProofs -dsimp (disch := omega) only [w64, wu64, half64, half64']) | (with_reducible refine ndW.intro' (by first | omega | (simp; done) | (simp; omega) | (simp [allFit, Fit, appFits, V.cellOk, Value.oneCell', D.cells]; done) | (simp [allFit, Fit, appFits, V.cellOk, Value.oneCell', D.cells]; omega)) ?_) | ((first | with_reducible refine brW.dec (fun h => ?_) (fun h => ?_) | with_reducible refine brM.dec (fun h => ?_) (fun h => ?_) | with_reducible refine brW.beq (fun h => ?_) (fun h => ?_) | with_reducible refine brM.beq (fun h => ?_) (fun h => ?_) | with_reducible refine brM.ndec (fun h => ?_) (fun h => ?_) | with_reducible refine brW.ndec (fun h => ?_) (fun h => ?_) | with_reducible refine brM.dand (fun h => ?_) (fun h => ?_) | with_reducible refine brW.dand (fun h => ?_) (fun h => ?_) | with_reducible refine brM.dor (fun h => ?_) (fun h => ?_) | with_reducible refine brW.dor (fun h => ?_) (fun h => ?_) | with_reducible refine brM.bne (fun h => ?_) (fun h => ?_) | with_reducible refine brW.bne (fun h => ?_) (fun h => ?_)) <;> (first | (exfalso; omega) | skip)) | (with_reducible refine brW.two (fun h => ?_) (fun h => ?_)) | (with_reducible refine brM.two (fun h => ?_) (fun h => ?_))))
    · have hlt : lastTo cs = 0 := by
        unfold lastTo
        rw [show cs.length = 0 by omega]
        rfl
      rw [if_neg (by omega)] at hk
      refine CallW.of [] (by kernel_rfl) (All_own_fn n L h0 (by omega)) rfl ?_
      (repeat' (first | with_reducible refine GhW.now ?_ | with_reducible refine endW.now ?_ |  simp -implicitDefEqProofs -dsimp only [push_cast, ↓reduceIte, Nat.reduceMul, Nat.reduceAdd, Nat.reduceSub, Nat.reduceEqDiff, Nat.reduceBeqDiff, Nat.reduceLeDiff, Nat.reduceLT, reduceCtorEq, Int.reduceToNat, ↓ndW_true, ↓brM_true, ↓brM_false, ↓dstL_zero, ↓dstL_succ, ↓brW_true, ↓brW_false, ↓optW_some, ↓elW_zero, ↓elW_succ, ↓elW_map, ↓boolW_lit, ↓grdW_lit, ↓grdW_skip, ↓condW_lit, ↓pickW_lit, ↓calleeW_fn, ↓calleeW_d, ↓cellW_cell, ↓rowW_row, ↓iterW_iter, ↓seqK_normal, ↓seqK_exit, ↓seqK_ret, ↓blockK_normal, ↓blockK_ret, ↓blockK_exit, ↓retK_normal, ↓retK_ret, ↓loadV_pd, ↓loadV_po, ↓loadV_pe, ↓elemW, ↓evF_tmp, ↓evF_const, ↓evF_func, ↓guard_none, ↓guard_true, ↓guard_false, ↓codeW, ↓regW_true, ↓regW_false, ↓opsW_nil, ↓opsW_cons, ↓opsD_nil, ↓opsD_cons, ↓pvW_some, ↓pvsW_some, ↓vcallD_call] | (simp -implicitDefEqProofs -dsimp (disch := omega) only [w64, wu64, half64, half64']) | (with_reducible refine ndW.intro' (by first | omega | (simp; done) | (simp; omega) | (simp [allFit, Fit, appFits, V.cellOk, Value.oneCell', D.cells]; done) | (simp [allFit, Fit, appFits, V.cellOk, Value.oneCell', D.cells]; omega)) ?_) | ((first | with_reducible refine brW.dec (fun h => ?_) (fun h => ?_) | with_reducible refine brM.dec (fun h => ?_) (fun h => ?_) | with_reducible refine brW.beq (fun h => ?_) (fun h => ?_) | with_reducible refine brM.beq (fun h => ?_) (fun h => ?_) | with_reducible refine brM.ndec (fun h => ?_) (fun h => ?_) | with_reducible refine brW.ndec (fun h => ?_) (fun h => ?_) | with_reducible refine brM.dand (fun h => ?_) (fun h => ?_) | with_reducible refine brW.dand (fun h => ?_) (fun h => ?_) | with_reducible refine brM.dor (fun h => ?_) (fun h => ?_) | with_reducible refine brW.dor (fun h => ?_) (fun h => ?_) | with_reducible refine brM.bne (fun h => ?_) (fun h => ?_) | with_reducible refine brW.bne (fun h => ?_) (fun h => ?_)) <;> (first | (exfalso; omega) | skip)) | (with_reducible refine brW.two (fun h => ?_) (fun h => ?_)) | (with_reducible refine brM.two (fun h => ?_) (fun h => ?_))))
      refine loopW_go (lv := [0, 1, 4, 5, 6, 7, 8, 11, 14, 18, 44, 45, 46]) mixed (by kernel_rfl) (pshS n cs L) (fun i => i ≤ L.length) (fun i => L.length - i) (0) ((GhW.go [1, 6, 7, 44, 45] (by (first | rfl | (simp -implicitDefEqProofs -dsimp only [push_cast, ↓reduceIte, Nat.reduceMul, Nat.reduceAdd, Nat.reduceSub, Nat.reduceEqDiff, Nat.reduceBeqDiff, Nat.reduceLeDiff, Nat.reduceLT, reduceCtorEq, Int.reduceToNat, ↓ndW_true, ↓brM_true, ↓brM_false, ↓dstL_zero, ↓dstL_succ, ↓brW_true, ↓brW_false, ↓optW_some, ↓elW_zero, ↓elW_succ, ↓elW_map, ↓boolW_lit, ↓grdW_lit, ↓grdW_skip, ↓condW_lit, ↓pickW_lit, ↓calleeW_fn, ↓calleeW_d, ↓cellW_cell, ↓rowW_row, ↓iterW_iter, ↓seqK_normal, ↓seqK_exit, ↓seqK_ret, ↓blockK_normal, ↓blockK_ret, ↓blockK_exit, ↓retK_normal, ↓retK_ret, ↓loadV_pd, ↓loadV_po, ↓loadV_pe, ↓elemW, ↓evF_tmp, ↓evF_const, ↓evF_func, ↓guard_none, ↓guard_true, ↓guard_false, ↓codeW, ↓regW_true, ↓regW_false, ↓opsW_nil, ↓opsW_cons, ↓opsD_nil, ↓opsD_cons, ↓pvW_some, ↓pvsW_some, ↓vcallD_call]; first | done | rfl | ((simp -implicitDefEqProofs -dsimp (disch := omega) only [w64, wu64, half64, half64']); first | done | (simp -implicitDefEqProofs -dsimp only [push_cast, ↓reduceIte, Nat.reduceMul, Nat.reduceAdd, Nat.reduceSub, Nat.reduceEqDiff, Nat.reduceBeqDiff, Nat.reduceLeDiff, Nat.reduceLT, reduceCtorEq, Int.reduceToNat, ↓ndW_true, ↓brM_true, ↓brM_false, ↓dstL_zero, ↓dstL_succ, ↓brW_true, ↓brW_false, ↓optW_some, ↓elW_zero, ↓elW_succ, ↓elW_map, ↓boolW_lit, ↓grdW_lit, ↓grdW_skip, ↓condW_lit, ↓pickW_lit, ↓calleeW_fn, ↓calleeW_d, ↓cellW_cell, ↓rowW_row, ↓iterW_iter, ↓seqK_normal, ↓seqK_exit, ↓seqK_ret, ↓blockK_normal, ↓blockK_ret, ↓blockK_exit, ↓retK_normal, ↓retK_ret, ↓loadV_pd, ↓loadV_po, ↓loadV_pe, ↓elemW, ↓evF_tmp, ↓evF_const, ↓evF_func, ↓guard_none, ↓guard_true, ↓guard_false, ↓codeW, ↓regW_true, ↓regW_false, ↓opsW_nil, ↓opsW_cons, ↓opsD_nil, ↓opsD_cons, ↓pvW_some, ↓pvsW_some, ↓vcallD_call]; done)) | ((try (simp -implicitDefEqProofs -dsimp (disch := omega) only [w64, wu64, half64, half64'])); simp only [St.mk.injEq, List.cons.injEq, Prod.mk.injEq, V.d.injEq, D.lit.injEq, Value.int.injEq, true_and, and_true]; omega)))) rfl)) ?_ ?_
      · exact Nat.zero_le _
      intro i hi
      have hml := mixS_len cs L i hi
      rcases Nat.lt_or_ge i L.length with hil | hil
      · obtain ⟨x, hx⟩ : ∃ x, L[i]? = some x := ⟨_, List.getElem?_eq_getElem hil⟩
        have hin : inN x := by
          have := hL x (List.mem_of_getElem? hx)
          exact ⟨this.1, by omega⟩
        (repeat' (first | with_reducible refine GhW.now ?_ | with_reducible refine endW.now ?_ |  simp -implicitDefEqProofs -dsimp only [push_cast, ↓reduceIte, Nat.reduceMul, Nat.reduceAdd, Nat.reduceSub, Nat.reduceEqDiff, Nat.reduceBeqDiff, Nat.reduceLeDiff, Nat.reduceLT, reduceCtorEq, Int.reduceToNat, ↓ndW_true, ↓brM_true, ↓brM_false, ↓dstL_zero, ↓dstL_succ, ↓brW_true, ↓brW_false, ↓optW_some, ↓elW_zero, ↓elW_succ, ↓elW_map, ↓boolW_lit, ↓grdW_lit, ↓grdW_skip, ↓condW_lit, ↓pickW_lit, ↓calleeW_fn, ↓calleeW_d, ↓cellW_cell, ↓rowW_row, ↓iterW_iter, ↓seqK_normal, ↓seqK_exit, ↓seqK_ret, ↓blockK_normal, ↓blockK_ret, ↓blockK_exit, ↓retK_normal, ↓retK_ret, ↓loadV_pd, ↓loadV_po, ↓loadV_pe, ↓elemW, ↓evF_tmp, ↓evF_const, ↓evF_func, ↓guard_none, ↓guard_true, ↓guard_false, ↓codeW, ↓regW_true, ↓regW_false, ↓opsW_nil, ↓opsW_cons, ↓opsD_nil, ↓opsD_cons, ↓pvW_some, ↓pvsW_some, ↓vcallD_call] | (simp -implicitDefEqProofs -dsimp (disch := omega) only [w64, wu64, half64, half64']) | (with_reducible refine ndW.intro' (by first | omega | (simp; done) | (simp; omega) | (simp [allFit, Fit, appFits, V.cellOk, Value.oneCell', D.cells]; done) | (simp [allFit, Fit, appFits, V.cellOk, Value.oneCell', D.cells]; omega)) ?_) | ((first | with_reducible refine brW.dec (fun h => ?_) (fun h => ?_) | with_reducible refine brM.dec (fun h => ?_) (fun h => ?_) | with_reducible refine brW.beq (fun h => ?_) (fun h => ?_) | with_reducible refine brM.beq (fun h => ?_) (fun h => ?_) | with_reducible refine brM.ndec (fun h => ?_) (fun h => ?_) | with_reducible refine brW.ndec (fun h => ?_) (fun h => ?_) | with_reducible refine brM.dand (fun h => ?_) (fun h => ?_) | with_reducible refine brW.dand (fun h => ?_) (fun h => ?_) | with_reducible refine brM.dor (fun h => ?_) (fun h => ?_) | with_reducible refine brW.dor (fun h => ?_) (fun h => ?_) | with_reducible refine brM.bne (fun h => ?_) (fun h => ?_) | with_reducible refine brW.bne (fun h => ?_) (fun h => ?_)) <;> (first | (exfalso; omega) | skip)) | (with_reducible refine brW.two (fun h => ?_) (fun h => ?_)) | (with_reducible refine brM.two (fun h => ?_) (fun h => ?_))))
        refine elX.is i x (by omega) (mixS_get hx) ?_
        (repeat' (first | with_reducible refine GhW.now ?_ | with_reducible refine endW.now ?_ | (with_reducible refine CallW.d (Pshifted_fn cs x (by omega) hno hin) (by kernel_rfl) rfl rfl ?_) | simp -implicitDefEqProofs -dsimp only [push_cast, ↓reduceIte, Nat.reduceMul, Nat.reduceAdd, Nat.reduceSub, Nat.reduceEqDiff, Nat.reduceBeqDiff, Nat.reduceLeDiff, Nat.reduceLT, reduceCtorEq, Int.reduceToNat, ↓ndW_true, ↓brM_true, ↓brM_false, ↓dstL_zero, ↓dstL_succ, ↓brW_true, ↓brW_false, ↓optW_some, ↓elW_zero, ↓elW_succ, ↓elW_map, ↓boolW_lit, ↓grdW_lit, ↓grdW_skip, ↓condW_lit, ↓pickW_lit, ↓calleeW_fn, ↓calleeW_d, ↓cellW_cell, ↓rowW_row, ↓iterW_iter, ↓seqK_normal, ↓seqK_exit, ↓seqK_ret, ↓blockK_normal, ↓blockK_ret, ↓blockK_exit, ↓retK_normal, ↓retK_ret, ↓loadV_pd, ↓loadV_po, ↓loadV_pe, ↓elemW, ↓evF_tmp, ↓evF_const, ↓evF_func, ↓guard_none, ↓guard_true, ↓guard_false, ↓codeW, ↓regW_true, ↓regW_false, ↓opsW_nil, ↓opsW_cons, ↓opsD_nil, ↓opsD_cons, ↓pvW_some, ↓pvsW_some, ↓vcallD_call] | (simp -implicitDefEqProofs -dsimp (disch := omega) only [w64, wu64, half64, half64']) | (with_reducible refine ndW.intro' (by first | omega | (simp; done) | (simp; omega) | (simp [allFit, Fit, appFits, V.cellOk, Value.oneCell', D.cells]; done) | (simp [allFit, Fit, appFits, V.cellOk, Value.oneCell', D.cells]; omega)) ?_) | ((first | with_reducible refine brW.dec (fun h => ?_) (fun h => ?_) | with_reducible refine brM.dec (fun h => ?_) (fun h => ?_) | with_reducible refine brW.beq (fun h => ?_) (fun h => ?_) | with_reducible refine brM.beq (fun h => ?_) (fun h => ?_) | with_reducible refine brM.ndec (fun h => ?_) (fun h => ?_) | with_reducible refine brW.ndec (fun h => ?_) (fun h => ?_) | with_reducible refine brM.dand (fun h => ?_) (fun h => ?_) | with_reducible refine brW.dand (fun h => ?_) (fun h => ?_) | with_reducible refine brM.dor (fun h => ?_) (fun h => ?_) | with_reducible refine brW.dor (fun h => ?_) (fun h => ?_) | with_reducible refine brM.bne (fun h => ?_) (fun h => ?_) | with_reducible refine brW.bne (fun h => ?_) (fun h => ?_)) <;> (first | (exfalso; omega) | skip)) | (with_reducible refine brW.two (fun h => ?_) (fun h => ?_)) | (with_reducible refine brM.two (fun h => ?_) (fun h => ?_))))
        refine AgW.go (i + 1) [1, 6, 7, 44, 45] (by unfold pshS seR; rw [← mixS_set hx, List.map_set]; (first | rfl | (simp -implicitDefEqProofs -dsimp only [push_cast, ↓reduceIte, Nat.reduceMul, Nat.reduceAdd, Nat.reduceSub, Nat.reduceEqDiff, Nat.reduceBeqDiff, Nat.reduceLeDiff, Nat.reduceLT, reduceCtorEq, Int.reduceToNat, ↓ndW_true, ↓brM_true, ↓brM_false, ↓dstL_zero, ↓dstL_succ, ↓brW_true, ↓brW_false, ↓optW_some, ↓elW_zero, ↓elW_succ, ↓elW_map, ↓boolW_lit, ↓grdW_lit, ↓grdW_skip, ↓condW_lit, ↓pickW_lit, ↓calleeW_fn, ↓calleeW_d, ↓cellW_cell, ↓rowW_row, ↓iterW_iter, ↓seqK_normal, ↓seqK_exit, ↓seqK_ret, ↓blockK_normal, ↓blockK_ret, ↓blockK_exit, ↓retK_normal, ↓retK_ret, ↓loadV_pd, ↓loadV_po, ↓loadV_pe, ↓elemW, ↓evF_tmp, ↓evF_const, ↓evF_func, ↓guard_none, ↓guard_true, ↓guard_false, ↓codeW, ↓regW_true, ↓regW_false, ↓opsW_nil, ↓opsW_cons, ↓opsD_nil, ↓opsD_cons, ↓pvW_some, ↓pvsW_some, ↓vcallD_call]; first | done | rfl | ((simp -implicitDefEqProofs -dsimp (disch := omega) only [w64, wu64, half64, half64']); first | done | (simp -implicitDefEqProofs -dsimp only [push_cast, ↓reduceIte, Nat.reduceMul, Nat.reduceAdd, Nat.reduceSub, Nat.reduceEqDiff, Nat.reduceBeqDiff, Nat.reduceLeDiff, Nat.reduceLT, reduceCtorEq, Int.reduceToNat, ↓ndW_true, ↓brM_true, ↓brM_false, ↓dstL_zero, ↓dstL_succ, ↓brW_true, ↓brW_false, ↓optW_some, ↓elW_zero, ↓elW_succ, ↓elW_map, ↓boolW_lit, ↓grdW_lit, ↓grdW_skip, ↓condW_lit, ↓pickW_lit, ↓calleeW_fn, ↓calleeW_d, ↓cellW_cell, ↓rowW_row, ↓iterW_iter, ↓seqK_normal, ↓seqK_exit, ↓seqK_ret, ↓blockK_normal, ↓blockK_ret, ↓blockK_exit, ↓retK_normal, ↓retK_ret, ↓loadV_pd, ↓loadV_po, ↓loadV_pe, ↓elemW, ↓evF_tmp, ↓evF_const, ↓evF_func, ↓guard_none, ↓guard_true, ↓guard_false, ↓codeW, ↓regW_true, ↓regW_false, ↓opsW_nil, ↓opsW_cons, ↓opsD_nil, ↓opsD_cons, ↓pvW_some, ↓pvsW_some, ↓vcallD_call]; done)) | ((try (simp -implicitDefEqProofs -dsimp (disch := omega) only [w64, wu64, half64, half64'])); simp only [St.mk.injEq, List.cons.injEq, Prod.mk.injEq, V.d.injEq, D.lit.injEq, Value.int.injEq, true_and, and_true]; omega)))) ?_ ?_
        · show L.length - (i + 1) < L.length - i
          omega
        · show i + 1 ≤ L.length
          omega
      · have hm : mixS cs L i = L.map (shiftG cs) := by
          unfold mixS
          rw [List.take_of_length_le hil, List.drop_of_length_le hil, List.append_nil]
        (repeat' (first | with_reducible refine GhW.now ?_ | with_reducible refine endW.now ?_ | (with_reducible refine CallW.d (Len_fn _ _) (by kernel_rfl) rfl rfl ?_) | (with_reducible refine CallW.d (PNormal_fn _ (by omega)) (by kernel_rfl) rfl rfl ?_) | (with_reducible refine CallW.d (Delta_fn _ (by omega) (by assumption)) (by kernel_rfl) rfl rfl ?_) | with_reducible refine DoneW.out ?_ | simp -implicitDefEqProofs -dsimp only [push_cast, ↓reduceIte, Nat.reduceMul, Nat.reduceAdd, Nat.reduceSub, Nat.reduceEqDiff, Nat.reduceBeqDiff, Nat.reduceLeDiff, Nat.reduceLT, reduceCtorEq, Int.reduceToNat, ↓ndW_true, ↓brM_true, ↓brM_false, ↓dstL_zero, ↓dstL_succ, ↓brW_true, ↓brW_false, ↓optW_some, ↓elW_zero, ↓elW_succ, ↓elW_map, ↓boolW_lit, ↓grdW_lit, ↓grdW_skip, ↓condW_lit, ↓pickW_lit, ↓calleeW_fn, ↓calleeW_d, ↓cellW_cell, ↓rowW_row, ↓iterW_iter, ↓seqK_normal, ↓seqK_exit, ↓seqK_ret, ↓blockK_normal, ↓blockK_ret, ↓blockK_exit, ↓retK_normal, ↓retK_ret, ↓loadV_pd, ↓loadV_po, ↓loadV_pe, ↓elemW, ↓evF_tmp, ↓evF_const, ↓evF_func, ↓guard_none, ↓guard_true, ↓guard_false, ↓codeW, ↓regW_true, ↓regW_false, ↓opsW_nil, ↓opsW_cons, ↓opsD_nil, ↓opsD_cons, ↓pvW_some, ↓pvsW_some, ↓vcallD_call] | (simp -implicitDefEqProofs -dsimp (disch := omega) only [w64, wu64, half64, half64']) | (with_reducible refine ndW.intro' (by first | omega | (simp; done) | (simp; omega) | (simp [allFit, Fit, appFits, V.cellOk, Value.oneCell', D.cells]; done) | (simp [allFit, Fit, appFits, V.cellOk, Value.oneCell', D.cells]; omega)) ?_) | ((first | with_reducible refine brW.dec (fun h => ?_) (fun h => ?_) | with_reducible refine brM.dec (fun h => ?_) (fun h => ?_) | with_reducible refine brW.beq (fun h => ?_) (fun h => ?_) | with_reducible refine brM.beq (fun h => ?_) (fun h => ?_) | with_reducible refine brM.ndec (fun h => ?_) (fun h => ?_) | with_reducible refine brW.ndec (fun h => ?_) (fun h => ?_) | with_reducible refine brM.dand (fun h => ?_) (fun h => ?_) | with_reducible refine brW.dand (fun h => ?_) (fun h => ?_) | with_reducible refine brM.dor (fun h => ?_) (fun h => ?_) | with_reducible refine brW.dor (fun h => ?_) (fun h => ?_) | with_reducible refine brM.bne (fun h => ?_) (fun h => ?_) | with_reducible refine brW.bne (fun h => ?_) (fun h => ?_)) <;> (first | (exfalso; omega) | skip)) | (with_reducible refine brW.two (fun h => ?_) (fun h => ?_)) | (with_reducible refine brM.two (fun h => ?_) (fun h => ?_))))
        obtain ⟨LS, hLS⟩ : ∃ Z, Z = L.map (shiftG cs) := ⟨_, rfl⟩
        have hll : LS.length = L.length := by rw [hLS, List.length_map]
        rw [← hLS] at hm hk hr
        rw [hm, ← hll]
        refine CallW.frz 0 rfl ?_
        simp -implicitDefEqProofs -dsimp only [push_cast, ↓reduceIte, Nat.reduceMul, Nat.reduceAdd, Nat.reduceSub, Nat.reduceEqDiff, Nat.reduceBeqDiff, Nat.reduceLeDiff, Nat.reduceLT, reduceCtorEq, Int.reduceToNat, ↓ndW_true, ↓brM_true, ↓brM_false, ↓dstL_zero, ↓dstL_succ, ↓brW_true, ↓brW_false, ↓optW_some, ↓elW_zero, ↓elW_succ, ↓elW_map, ↓boolW_lit, ↓grdW_lit, ↓grdW_skip, ↓condW_lit, ↓pickW_lit, ↓calleeW_fn, ↓calleeW_d, ↓cellW_cell, ↓rowW_row, ↓iterW_iter, ↓seqK_normal, ↓seqK_exit, ↓seqK_ret, ↓blockK_normal, ↓blockK_ret, ↓blockK_exit, ↓retK_normal, ↓retK_ret, ↓loadV_pd, ↓loadV_po, ↓loadV_pe, ↓elemW, ↓evF_tmp, ↓evF_const, ↓evF_func, ↓guard_none, ↓guard_true, ↓guard_false, ↓codeW, ↓regW_true, ↓regW_false, ↓opsW_nil, ↓opsW_cons, ↓opsD_nil, ↓opsD_cons, ↓pvW_some, ↓pvsW_some, ↓vcallD_call]
        rw [List.take_of_length_le (by rw [List.length_map]; omega)]
        rcases hr with ⟨hk0, rfl⟩ | ⟨hk0, rfl⟩
        · refine CallW.d (New_no_fn _ k _ (by omega) hk hk0) (by kernel_rfl) rfl rfl ?_
          (repeat' (first | with_reducible refine GhW.now ?_ | with_reducible refine endW.now ?_ | (with_reducible refine CallW.d (Len_fn _ _) (by kernel_rfl) rfl rfl ?_) | (with_reducible refine CallW.d (PNormal_fn _ (by omega)) (by kernel_rfl) rfl rfl ?_) | (with_reducible refine CallW.d (Delta_fn _ (by omega) (by assumption)) (by kernel_rfl) rfl rfl ?_) | with_reducible refine DoneW.out ?_ | simp -implicitDefEqProofs -dsimp only [push_cast, ↓reduceIte, Nat.reduceMul, Nat.reduceAdd, Nat.reduceSub, Nat.reduceEqDiff, Nat.reduceBeqDiff, Nat.reduceLeDiff, Nat.reduceLT, reduceCtorEq, Int.reduceToNat, ↓ndW_true, ↓brM_true, ↓brM_false, ↓dstL_zero, ↓dstL_succ, ↓brW_true, ↓brW_false, ↓optW_some, ↓elW_zero, ↓elW_succ, ↓elW_map, ↓boolW_lit, ↓grdW_lit, ↓grdW_skip, ↓condW_lit, ↓pickW_lit, ↓calleeW_fn, ↓calleeW_d, ↓cellW_cell, ↓rowW_row, ↓iterW_iter, ↓seqK_normal, ↓seqK_exit, ↓seqK_ret, ↓blockK_normal, ↓blockK_ret, ↓blockK_exit, ↓retK_normal, ↓retK_ret, ↓loadV_pd, ↓loadV_po, ↓loadV_pe, ↓elemW, ↓evF_tmp, ↓evF_const, ↓evF_func, ↓guard_none, ↓guard_true, ↓guard_false, ↓codeW, ↓regW_true, ↓regW_false, ↓opsW_nil, ↓opsW_cons, ↓opsD_nil, ↓opsD_cons, ↓pvW_some, ↓pvsW_some, ↓vcallD_call] | (simp -implicitDefEqProofs -dsimp (disch := omega) only [w64, wu64, half64, half64']) | (with_reducible refine ndW.intro' (by first | omega | (simp; done) | (simp; omega) | (simp [allFit, Fit, appFits, V.cellOk, Value.oneCell', D.cells]; done) | (simp [allFit, Fit, appFits, V.cellOk, Value.oneCell', D.cells]; omega)) ?_) | ((first | with_reducible refine brW.dec (fun h => ?_) (fun h => ?_) | with_reducible refine brM.dec (fun h => ?_) (fun h => ?_) | with_reducible refine brW.beq (fun h => ?_) (fun h => ?_) | with_reducible refine brM.beq (fun h => ?_) (fun h => ?_) | with_reducible refine brM.ndec (fun h => ?_) (fun h => ?_) | with_reducible refine brW.ndec (fun h => ?_) (fun h => ?_) | with_reducible refine brM.dand (fun h => ?_) (fun h => ?_) | with_reducible refine brW.dand (fun h => ?_) (fun h => ?_) | with_reducible refine brM.dor (fun h => ?_) (fun h => ?_) | with_reducible refine brW.dor (fun h => ?_) (fun h => ?_) | with_reducible refine brM.bne (fun h => ?_) (fun h => ?_) | with_reducible refine brW.bne (fun h => ?_) (fun h => ?_)) <;> (first | (exfalso; omega) | skip)) | (with_reducible refine brW.two (fun h => ?_) (fun h => ?_)) | (with_reducible refine brM.two (fun h => ?_) (fun h => ?_))))
        · refine CallW.d (New_ok_fn _ _ (by omega) (hk.trans hk0)) (by kernel_rfl) rfl rfl ?_
          (repeat' (first | with_reducible refine GhW.now ?_ | with_reducible refine endW.now ?_ | (with_reducible refine CallW.d (Len_fn _ _) (by kernel_rfl) rfl rfl ?_) | (with_reducible refine CallW.d (PNormal_fn _ (by omega)) (by kernel_rfl) rfl rfl ?_) | (with_reducible refine CallW.d (Delta_fn _ (by omega) (by assumption)) (by kernel_rfl) rfl rfl ?_) | with_reducible refine DoneW.out ?_ | simp -implicitDefEqProofs -dsimp only [push_cast, ↓reduceIte, Nat.reduceMul, Nat.reduceAdd, Nat.reduceSub, Nat.reduceEqDiff, Nat.reduceBeqDiff, Nat.reduceLeDiff, Nat.reduceLT, reduceCtorEq, Int.reduceToNat, ↓ndW_true, ↓brM_true, ↓brM_false, ↓dstL_zero, ↓dstL_succ, ↓brW_true, ↓brW_false, ↓optW_some, ↓elW_zero, ↓elW_succ, ↓elW_map, ↓boolW_lit, ↓grdW_lit, ↓grdW_skip, ↓condW_lit, ↓pickW_lit, ↓calleeW_fn, ↓calleeW_d, ↓cellW_cell, ↓rowW_row, ↓iterW_iter, ↓seqK_normal, ↓seqK_exit, ↓seqK_ret, ↓blockK_normal, ↓blockK_ret, ↓blockK_exit, ↓retK_normal, ↓retK_ret, ↓loadV_pd, ↓loadV_po, ↓loadV_pe, ↓elemW, ↓evF_tmp, ↓evF_const, ↓evF_func, ↓guard_none, ↓guard_true, ↓guard_false, ↓codeW, ↓regW_true, ↓regW_false, ↓opsW_nil, ↓opsW_cons, ↓opsD_nil, ↓opsD_cons, ↓pvW_some, ↓pvsW_some, ↓vcallD_call] | (simp -implicitDefEqProofs -dsimp (disch := omega) only [w64, wu64, half64, half64']) | (with_reducible refine ndW.intro' (by first | omega | (simp; done) | (simp; omega) | (simp [allFit, Fit, appFits, V.cellOk, Value.oneCell', D.cells]; done) | (simp [allFit, Fit, appFits, V.cellOk, Value.oneCell', D.cells]; omega)) ?_) | ((first | with_reducible refine brW.dec (fun h => ?_) (fun h => ?_) | with_reducible refine brM.dec (fun h => ?_) (fun h => ?_) | with_reducible refine brW.beq (fun h => ?_) (fun h => ?_) | with_reducible refine brM.beq (fun h => ?_) (fun h => ?_) | with_reducible refine brM.ndec (fun h => ?_) (fun h => ?_) | with_reducible refine brW.ndec (fun h => ?_) (fun h => ?_) | with_reducible refine brM.dand (fun h => ?_) (fun h => ?_) | with_reducible refine brW.dand (fun h => ?_) (fun h => ?_) | with_reducible refine brM.dor (fun h => ?_) (fun h => ?_) | with_reducible refine brW.dor (fun h => ?_) (fun h => ?_) | with_reducible refine brM.bne (fun h => ?_) (fun h => ?_) | with_reducible refine brW.bne (fun h => ?_) (fun h => ?_)) <;> (first | (exfalso; omega) | skip)) | (with_reducible refine brW.two (fun h => ?_) (fun h => ?_)) | (with_reducible refine brM.two (fun h => ?_) (fun h => ?_))))
end Go.Proofs.Ytlledfabkmmgoaa
/- The document's sets shifted. -/
set_option linter.unusedSimpArgs false
set_option linter.unusedVariables false
set_option maxRecDepth 8000
namespace Go.Proofs.Ytlledfabkmmgoaa
def rsh1 (n : Int) (L : List Se) (cs : List Ch) (i : Nat) : St := ⟨[(1, chL cs), (2, .po 0 0), (4, .po 1 0), (5, iv (n + delta (cs.take i))), (6, iv (prevC cs i).2.1), (18, chL cs), (19, iv cs.length), (20, iv i)], [(0, .cell [iv n, seL L, iv 0]), (1, .cell [iv 0, .d (.lit (.slice none 0 0)), iv 0])], 2⟩
def rsh2 (n : Int) (L : List Se) (cs : List Ch) (x : Nat × List Se) : St := ⟨[(1, chL cs), (4, .po 0 0), (5, iv (n + delta cs)), (9, .so 1 2 0 x.2.length), (55, seL L), (56, iv L.length), (57, iv x.1)], [(0, .cell [iv 0, .d (.lit (.slice none 0 0)), iv 0]), (1, seR x.2)], 2⟩
attribute [push_cast] rsh1.eq_def rsh2.eq_def
theorem bound_take {cs : List Ch} (hb : ∀ c ∈ cs, boundC c) (i : Nat) : -1099511627776 * (cs.take i).length ≤ delta (cs.take i) ∧ delta (cs.take i) ≤ 1099511627776 * (cs.take i).length := delta_bound fun c hc => hb c (List.mem_of_mem_take hc)
set_option maxHeartbeats 4000000 in
theorem RShift_fn (n k : Int) (cs : List Ch) (L : List Se) (r : V) (hn : 0 ≤ n ∧ n ≤ 1099511627776) (hc : cs.length ≤ 100) (h0 : 0 < L.length) (hl : L.length ≤ 1000) (hL : ∀ x ∈ L, 0 ≤ spanF x ∧ spanT x ≤ n)
    (hk : shE n cs L = k) (hr : (k ≠ 0 ∧ r = rsE k) ∨ (k = 0 ∧ r = rsO (n + delta cs) (joinedS (L.map (shiftG cs))))) :
    OFn Try.prog G0 25 [rsO n L, chL cs] [] 0 r [] := by
  refine OFn.of_code mixed [0, 1, 2, 4, 5, 6, 8, 9, 11, 14, 18, 19, 20, 21, 52, 55, 56, 57, 58] Try.func25 rfl Try.results25 Try.ntmps25 (by kernel_rfl) (by simp) ?_
  unfold shE at hk
  have hP := RNormal_fn cs (by omega)
  cases hno : normal cs
  · rw [if_neg (by simp [hno])] at hk
    subst hk
    rcases hr with ⟨_, rfl⟩ | ⟨h, _⟩
    rotate_left
    · cases h
    rw [hno] at hP
    (repeat' (first | with_reducible refine GhW.now ?_ | with_reducible refine endW.now ?_ | (with_reducible refine CallW.d hP (by kernel_rfl) rfl rfl ?_) | with_reducible refine DoneW.out ?_ | simp -implicitDefEqProofs -dsimp only [push_cast, ↓reduceIte, Nat.reduceMul, Nat.reduceAdd, Nat.reduceSub, Nat.reduceEqDiff, Nat.reduceBeqDiff, Nat.reduceLeDiff, Nat.reduceLT, reduceCtorEq, Int.reduceToNat, ↓ndW_true, ↓brM_true, ↓brM_false, ↓dstL_zero, ↓dstL_succ, ↓brW_true, ↓brW_false, ↓optW_some, ↓elW_zero, ↓elW_succ, ↓elW_map, ↓boolW_lit, ↓grdW_lit, ↓grdW_skip, ↓condW_lit, ↓pickW_lit, ↓calleeW_fn, ↓calleeW_d, ↓cellW_cell, ↓rowW_row, ↓iterW_iter, ↓seqK_normal, ↓seqK_exit, ↓seqK_ret, ↓blockK_normal, ↓blockK_ret, ↓blockK_exit, ↓retK_normal, ↓retK_ret, ↓loadV_pd, ↓loadV_po, ↓loadV_pe, ↓elemW, ↓evF_tmp, ↓evF_const, ↓evF_func, ↓guard_none, ↓guard_true, ↓guard_false, ↓codeW, ↓regW_true, ↓regW_false, ↓opsW_nil, ↓opsW_cons, ↓opsD_nil, ↓opsD_cons, ↓pvW_some, ↓pvsW_some, ↓vcallD_call] | (simp -implicitDefEqProofs -dsimp (disch := omega) only [w64, wu64, half64, half64']) | (with_reducible refine ndW.intro' (by first | omega | (simp; done) | (simp; omega) | (simp [allFit, Fit, appFits, V.cellOk, Value.oneCell', D.cells]; done) | (simp [allFit, Fit, appFits, V.cellOk, Value.oneCell', D.cells]; omega)) ?_) | ((first | with_reducible refine brW.dec (fun h => ?_) (fun h => ?_) | with_reducible refine brM.dec (fun h => ?_) (fun h => ?_) | with_reducible refine brW.beq (fun h => ?_) (fun h => ?_) | with_reducible refine brM.beq (fun h => ?_) (fun h => ?_) | with_reducible refine brM.ndec (fun h => ?_) (fun h => ?_) | with_reducible refine brW.ndec (fun h => ?_) (fun h => ?_) | with_reducible refine brM.dand (fun h => ?_) (fun h => ?_) | with_reducible refine brW.dand (fun h => ?_) (fun h => ?_) | with_reducible refine brM.dor (fun h => ?_) (fun h => ?_) | with_reducible refine brW.dor (fun h => ?_) (fun h => ?_) | with_reducible refine brM.bne (fun h => ?_) (fun h => ?_) | with_reducible refine brW.bne (fun h => ?_) (fun h => ?_)) <;> (first | (exfalso; omega) | skip)) | (with_reducible refine brW.two (fun h => ?_) (fun h => ?_)) | (with_reducible refine brM.two (fun h => ?_) (fun h => ?_))))
  rw [if_pos hno] at hk
  have hb : ∀ c ∈ cs, boundC c := normF_bound cs _ _ hno
  rw [hno] at hP
  have hd := delta_bound hb
  have hd0 : delta [] = 0 := rfl
  have hp0 : (prevC cs 0).2.1 = 0 := rfl
  (repeat' (first | with_reducible refine GhW.now ?_ | with_reducible refine endW.now ?_ | (with_reducible refine CallW.d hP (by kernel_rfl) rfl rfl ?_) | with_reducible refine DoneW.out ?_ | simp -implicitDefEqProofs -dsimp only [push_cast, ↓reduceIte, Nat.reduceMul, Nat.reduceAdd, Nat.reduceSub, Nat.reduceEqDiff, Nat.reduceBeqDiff, Nat.reduceLeDiff, Nat.reduceLT, reduceCtorEq, Int.reduceToNat, ↓ndW_true, ↓brM_true, ↓brM_false, ↓dstL_zero, ↓dstL_succ, ↓brW_true, ↓brW_false, ↓optW_some, ↓elW_zero, ↓elW_succ, ↓elW_map, ↓boolW_lit, ↓grdW_lit, ↓grdW_skip, ↓condW_lit, ↓pickW_lit, ↓calleeW_fn, ↓calleeW_d, ↓cellW_cell, ↓rowW_row, ↓iterW_iter, ↓seqK_normal, ↓seqK_exit, ↓seqK_ret, ↓blockK_normal, ↓blockK_ret, ↓blockK_exit, ↓retK_normal, ↓retK_ret, ↓loadV_pd, ↓loadV_po, ↓loadV_pe, ↓elemW, ↓evF_tmp, ↓evF_const, ↓evF_func, ↓guard_none, ↓guard_true, ↓guard_false, ↓codeW, ↓regW_true, ↓regW_false, ↓opsW_nil, ↓opsW_cons, ↓opsD_nil, ↓opsD_cons, ↓pvW_some, ↓pvsW_some, ↓vcallD_call] | (simp -implicitDefEqProofs -dsimp (disch := omega) only [w64, wu64, half64, half64']) | (with_reducible refine ndW.intro' (by first | omega | (simp; done) | (simp; omega) | (simp [allFit, Fit, appFits, V.cellOk, Value.oneCell', D.cells]; done) | (simp [allFit, Fit, appFits, V.cellOk, Value.oneCell', D.cells]; omega)) ?_) | ((first | with_reducible refine brW.dec (fun h => ?_) (fun h => ?_) | with_reducible refine brM.dec (fun h => ?_) (fun h => ?_) | with_reducible refine brW.beq (fun h => ?_) (fun h => ?_) | with_reducible refine brM.beq (fun h => ?_) (fun h => ?_) | with_reducible refine brM.ndec (fun h => ?_) (fun h => ?_) | with_reducible refine brW.ndec (fun h => ?_) (fun h => ?_) | with_reducible refine brM.dand (fun h => ?_) (fun h => ?_) | with_reducible refine brW.dand (fun h => ?_) (fun h => ?_) | with_reducible refine brM.dor (fun h => ?_) (fun h => ?_) | with_reducible refine brW.dor (fun h => ?_) (fun h => ?_) | with_reducible refine brM.bne (fun h => ?_) (fun h => ?_) | with_reducible refine brW.bne (fun h => ?_) (fun h => ?_)) <;> (first | (exfalso; omega) | skip)) | (with_reducible refine brW.two (fun h => ?_) (fun h => ?_)) | (with_reducible refine brM.two (fun h => ?_) (fun h => ?_))))
  refine loopW_go (lv := [0, 1, 2, 4, 5, 6, 8, 9, 11, 14, 18, 19, 20, 21, 52, 55, 56, 57, 58]) mixed (by kernel_rfl) (rsh1 n L cs) (fun i => i ≤ cs.length) (fun i => cs.length - i) (0) ((GhW.go [1, 2, 4, 5, 6, 18, 19, 20] (by (first | rfl | (simp -implicitDefEqProofs -dsimp only [push_cast, ↓reduceIte, Nat.reduceMul, Nat.reduceAdd, Nat.reduceSub, Nat.reduceEqDiff, Nat.reduceBeqDiff, Nat.reduceLeDiff, Nat.reduceLT, reduceCtorEq, Int.reduceToNat, ↓ndW_true, ↓brM_true, ↓brM_false, ↓dstL_zero, ↓dstL_succ, ↓brW_true, ↓brW_false, ↓optW_some, ↓elW_zero, ↓elW_succ, ↓elW_map, ↓boolW_lit, ↓grdW_lit, ↓grdW_skip, ↓condW_lit, ↓pickW_lit, ↓calleeW_fn, ↓calleeW_d, ↓cellW_cell, ↓rowW_row, ↓iterW_iter, ↓seqK_normal, ↓seqK_exit, ↓seqK_ret, ↓blockK_normal, ↓blockK_ret, ↓blockK_exit, ↓retK_normal, ↓retK_ret, ↓loadV_pd, ↓loadV_po, ↓loadV_pe, ↓elemW, ↓evF_tmp, ↓evF_const, ↓evF_func, ↓guard_none, ↓guard_true, ↓guard_false, ↓codeW, ↓regW_true, ↓regW_false, ↓opsW_nil, ↓opsW_cons, ↓opsD_nil, ↓opsD_cons, ↓pvW_some, ↓pvsW_some, ↓vcallD_call]; first | done | rfl | ((simp -implicitDefEqProofs -dsimp (disch := omega) only [w64, wu64, half64, half64']); first | done | (simp -implicitDefEqProofs -dsimp only [push_cast, ↓reduceIte, Nat.reduceMul, Nat.reduceAdd, Nat.reduceSub, Nat.reduceEqDiff, Nat.reduceBeqDiff, Nat.reduceLeDiff, Nat.reduceLT, reduceCtorEq, Int.reduceToNat, ↓ndW_true, ↓brM_true, ↓brM_false, ↓dstL_zero, ↓dstL_succ, ↓brW_true, ↓brW_false, ↓optW_some, ↓elW_zero, ↓elW_succ, ↓elW_map, ↓boolW_lit, ↓grdW_lit, ↓grdW_skip, ↓condW_lit, ↓pickW_lit, ↓calleeW_fn, ↓calleeW_d, ↓cellW_cell, ↓rowW_row, ↓iterW_iter, ↓seqK_normal, ↓seqK_exit, ↓seqK_ret, ↓blockK_normal, ↓blockK_ret, ↓blockK_exit, ↓retK_normal, ↓retK_ret, ↓loadV_pd, ↓loadV_po, ↓loadV_pe, ↓elemW, ↓evF_tmp, ↓evF_const, ↓evF_func, ↓guard_none, ↓guard_true, ↓guard_false, ↓codeW, ↓regW_true, ↓regW_false, ↓opsW_nil, ↓opsW_cons, ↓opsD_nil, ↓opsD_cons, ↓pvW_some, ↓pvsW_some, ↓vcallD_call]; done)) | ((try (simp -implicitDefEqProofs -dsimp (disch := omega) only [w64, wu64, half64, half64'])); simp only [St.mk.injEq, List.cons.injEq, Prod.mk.injEq, V.d.injEq, D.lit.injEq, Value.int.injEq, true_and, and_true]; omega)))) rfl)) ?_ ?_
  · exact Nat.zero_le _
  intro i hi
  rcases Nat.lt_or_ge i cs.length with hil | hil
  · obtain ⟨c, hx⟩ : ∃ c, cs[i]? = some c := ⟨_, List.getElem?_eq_getElem hil⟩
    have hbc := hb c (List.mem_of_getElem? hx)
    have hbt := bound_take hb i
    rw [List.length_take, Nat.min_eq_left hi] at hbt
    unfold boundC at hbc
    (repeat' (first | with_reducible refine GhW.now ?_ | with_reducible refine endW.now ?_ |  simp -implicitDefEqProofs -dsimp only [push_cast, ↓reduceIte, Nat.reduceMul, Nat.reduceAdd, Nat.reduceSub, Nat.reduceEqDiff, Nat.reduceBeqDiff, Nat.reduceLeDiff, Nat.reduceLT, reduceCtorEq, Int.reduceToNat, ↓ndW_true, ↓brM_true, ↓brM_false, ↓dstL_zero, ↓dstL_succ, ↓brW_true, ↓brW_false, ↓optW_some, ↓elW_zero, ↓elW_succ, ↓elW_map, ↓boolW_lit, ↓grdW_lit, ↓grdW_skip, ↓condW_lit, ↓pickW_lit, ↓calleeW_fn, ↓calleeW_d, ↓cellW_cell, ↓rowW_row, ↓iterW_iter, ↓seqK_normal, ↓seqK_exit, ↓seqK_ret, ↓blockK_normal, ↓blockK_ret, ↓blockK_exit, ↓retK_normal, ↓retK_ret, ↓loadV_pd, ↓loadV_po, ↓loadV_pe, ↓elemW, ↓evF_tmp, ↓evF_const, ↓evF_func, ↓guard_none, ↓guard_true, ↓guard_false, ↓codeW, ↓regW_true, ↓regW_false, ↓opsW_nil, ↓opsW_cons, ↓opsD_nil, ↓opsD_cons, ↓pvW_some, ↓pvsW_some, ↓vcallD_call] | (simp -implicitDefEqProofs -dsimp (disch := omega) only [w64, wu64, half64, half64']) | (with_reducible refine ndW.intro' (by first | omega | (simp; done) | (simp; omega) | (simp [allFit, Fit, appFits, V.cellOk, Value.oneCell', D.cells]; done) | (simp [allFit, Fit, appFits, V.cellOk, Value.oneCell', D.cells]; omega)) ?_) | ((first | with_reducible refine brW.dec (fun h => ?_) (fun h => ?_) | with_reducible refine brM.dec (fun h => ?_) (fun h => ?_) | with_reducible refine brW.beq (fun h => ?_) (fun h => ?_) | with_reducible refine brM.beq (fun h => ?_) (fun h => ?_) | with_reducible refine brM.ndec (fun h => ?_) (fun h => ?_) | with_reducible refine brW.ndec (fun h => ?_) (fun h => ?_) | with_reducible refine brM.dand (fun h => ?_) (fun h => ?_) | with_reducible refine brW.dand (fun h => ?_) (fun h => ?_) | with_reducible refine brM.dor (fun h => ?_) (fun h => ?_) | with_reducible refine brW.dor (fun h => ?_) (fun h => ?_) | with_reducible refine brM.bne (fun h => ?_) (fun h => ?_) | with_reducible refine brW.bne (fun h => ?_) (fun h => ?_)) <;> (first | (exfalso; omega) | skip)) | (with_reducible refine brW.two (fun h => ?_) (fun h => ?_)) | (with_reducible refine brM.two (fun h => ?_) (fun h => ?_))))
    refine elX.is i c (by omega) hx ?_
    (repeat' (first | with_reducible refine GhW.now ?_ | with_reducible refine endW.now ?_ |  simp -implicitDefEqProofs -dsimp only [push_cast, ↓reduceIte, Nat.reduceMul, Nat.reduceAdd, Nat.reduceSub, Nat.reduceEqDiff, Nat.reduceBeqDiff, Nat.reduceLeDiff, Nat.reduceLT, reduceCtorEq, Int.reduceToNat, ↓ndW_true, ↓brM_true, ↓brM_false, ↓dstL_zero, ↓dstL_succ, ↓brW_true, ↓brW_false, ↓optW_some, ↓elW_zero, ↓elW_succ, ↓elW_map, ↓boolW_lit, ↓grdW_lit, ↓grdW_skip, ↓condW_lit, ↓pickW_lit, ↓calleeW_fn, ↓calleeW_d, ↓cellW_cell, ↓rowW_row, ↓iterW_iter, ↓seqK_normal, ↓seqK_exit, ↓seqK_ret, ↓blockK_normal, ↓blockK_ret, ↓blockK_exit, ↓retK_normal, ↓retK_ret, ↓loadV_pd, ↓loadV_po, ↓loadV_pe, ↓elemW, ↓evF_tmp, ↓evF_const, ↓evF_func, ↓guard_none, ↓guard_true, ↓guard_false, ↓codeW, ↓regW_true, ↓regW_false, ↓opsW_nil, ↓opsW_cons, ↓opsD_nil, ↓opsD_cons, ↓pvW_some, ↓pvsW_some, ↓vcallD_call] | (simp -implicitDefEqProofs -dsimp (disch := omega) only [w64, wu64, half64, half64']) | (with_reducible refine ndW.intro' (by first | omega | (simp; done) | (simp; omega) | (simp [allFit, Fit, appFits, V.cellOk, Value.oneCell', D.cells]; done) | (simp [allFit, Fit, appFits, V.cellOk, Value.oneCell', D.cells]; omega)) ?_) | ((first | with_reducible refine brW.dec (fun h => ?_) (fun h => ?_) | with_reducible refine brM.dec (fun h => ?_) (fun h => ?_) | with_reducible refine brW.beq (fun h => ?_) (fun h => ?_) | with_reducible refine brM.beq (fun h => ?_) (fun h => ?_) | with_reducible refine brM.ndec (fun h => ?_) (fun h => ?_) | with_reducible refine brW.ndec (fun h => ?_) (fun h => ?_) | with_reducible refine brM.dand (fun h => ?_) (fun h => ?_) | with_reducible refine brW.dand (fun h => ?_) (fun h => ?_) | with_reducible refine brM.dor (fun h => ?_) (fun h => ?_) | with_reducible refine brW.dor (fun h => ?_) (fun h => ?_) | with_reducible refine brM.bne (fun h => ?_) (fun h => ?_) | with_reducible refine brW.bne (fun h => ?_) (fun h => ?_)) <;> (first | (exfalso; omega) | skip)) | (with_reducible refine brW.two (fun h => ?_) (fun h => ?_)) | (with_reducible refine brM.two (fun h => ?_) (fun h => ?_))))
    refine AgW.go (i + 1) [1, 2, 4, 5, 6, 18, 19, 20] (by unfold rsh1; rw [prevC_succ hx, delta_take hx, deltaC]; (first | rfl | (simp -implicitDefEqProofs -dsimp only [push_cast, ↓reduceIte, Nat.reduceMul, Nat.reduceAdd, Nat.reduceSub, Nat.reduceEqDiff, Nat.reduceBeqDiff, Nat.reduceLeDiff, Nat.reduceLT, reduceCtorEq, Int.reduceToNat, ↓ndW_true, ↓brM_true, ↓brM_false, ↓dstL_zero, ↓dstL_succ, ↓brW_true, ↓brW_false, ↓optW_some, ↓elW_zero, ↓elW_succ, ↓elW_map, ↓boolW_lit, ↓grdW_lit, ↓grdW_skip, ↓condW_lit, ↓pickW_lit, ↓calleeW_fn, ↓calleeW_d, ↓cellW_cell, ↓rowW_row, ↓iterW_iter, ↓seqK_normal, ↓seqK_exit, ↓seqK_ret, ↓blockK_normal, ↓blockK_ret, ↓blockK_exit, ↓retK_normal, ↓retK_ret, ↓loadV_pd, ↓loadV_po, ↓loadV_pe, ↓elemW, ↓evF_tmp, ↓evF_const, ↓evF_func, ↓guard_none, ↓guard_true, ↓guard_false, ↓codeW, ↓regW_true, ↓regW_false, ↓opsW_nil, ↓opsW_cons, ↓opsD_nil, ↓opsD_cons, ↓pvW_some, ↓pvsW_some, ↓vcallD_call]; first | done | rfl | ((simp -implicitDefEqProofs -dsimp (disch := omega) only [w64, wu64, half64, half64']); first | done | (simp -implicitDefEqProofs -dsimp only [push_cast, ↓reduceIte, Nat.reduceMul, Nat.reduceAdd, Nat.reduceSub, Nat.reduceEqDiff, Nat.reduceBeqDiff, Nat.reduceLeDiff, Nat.reduceLT, reduceCtorEq, Int.reduceToNat, ↓ndW_true, ↓brM_true, ↓brM_false, ↓dstL_zero, ↓dstL_succ, ↓brW_true, ↓brW_false, ↓optW_some, ↓elW_zero, ↓elW_succ, ↓elW_map, ↓boolW_lit, ↓grdW_lit, ↓grdW_skip, ↓condW_lit, ↓pickW_lit, ↓calleeW_fn, ↓calleeW_d, ↓cellW_cell, ↓rowW_row, ↓iterW_iter, ↓seqK_normal, ↓seqK_exit, ↓seqK_ret, ↓blockK_normal, ↓blockK_ret, ↓blockK_exit, ↓retK_normal, ↓retK_ret, ↓loadV_pd, ↓loadV_po, ↓loadV_pe, ↓elemW, ↓evF_tmp, ↓evF_const, ↓evF_func, ↓guard_none, ↓guard_true, ↓guard_false, ↓codeW, ↓regW_true, ↓regW_false, ↓opsW_nil, ↓opsW_cons, ↓opsD_nil, ↓opsD_cons, ↓pvW_some, ↓pvsW_some, ↓vcallD_call]; done)) | ((try (simp -implicitDefEqProofs -dsimp (disch := omega) only [w64, wu64, half64, half64'])); simp only [St.mk.injEq, List.cons.injEq, Prod.mk.injEq, V.d.injEq, D.lit.injEq, Value.int.injEq, true_and, and_true]; omega)))) ?_ ?_
    · show cs.length - (i + 1) < cs.length - i
      omega
    · show i + 1 ≤ cs.length
      omega
  · have hi2 : i = cs.length := by omega
    subst hi2
    have hlt : lastTo cs = (prevC cs cs.length).2.1 := rfl
    unfold rsh1
    rw [List.take_length, ← hlt]
    (repeat' (first | with_reducible refine GhW.now ?_ | with_reducible refine endW.now ?_ | with_reducible refine DoneW.out ?_ | simp -implicitDefEqProofs -dsimp only [push_cast, ↓reduceIte, Nat.reduceMul, Nat.reduceAdd, Nat.reduceSub, Nat.reduceEqDiff, Nat.reduceBeqDiff, Nat.reduceLeDiff, Nat.reduceLT, reduceCtorEq, Int.reduceToNat, ↓ndW_true, ↓brM_true, ↓brM_false, ↓dstL_zero, ↓dstL_succ, ↓brW_true, ↓brW_false, ↓optW_some, ↓elW_zero, ↓elW_succ, ↓elW_map, ↓boolW_lit, ↓grdW_lit, ↓grdW_skip, ↓condW_lit, ↓pickW_lit, ↓calleeW_fn, ↓calleeW_d, ↓cellW_cell, ↓rowW_row, ↓iterW_iter, ↓seqK_normal, ↓seqK_exit, ↓seqK_ret, ↓blockK_normal, ↓blockK_ret, ↓blockK_exit, ↓retK_normal, ↓retK_ret, ↓loadV_pd, ↓loadV_po, ↓loadV_pe, ↓elemW, ↓evF_tmp, ↓evF_const, ↓evF_func, ↓guard_none, ↓guard_true, ↓guard_false, ↓codeW, ↓regW_true, ↓regW_false, ↓opsW_nil, ↓opsW_cons, ↓opsD_nil, ↓opsD_cons, ↓pvW_some, ↓pvsW_some, ↓vcallD_call] | (simp -implicitDefEqProofs -dsimp (disch := omega) only [w64, wu64, half64, half64']) | (with_reducible refine ndW.intro' (by first | omega | (simp; done) | (simp; omega) | (simp [allFit, Fit, appFits, V.cellOk, Value.oneCell', D.cells]; done) | (simp [allFit, Fit, appFits, V.cellOk, Value.oneCell', D.cells]; omega)) ?_) | ((first | with_reducible refine brW.dec (fun h => ?_) (fun h => ?_) | with_reducible refine brM.dec (fun h => ?_) (fun h => ?_) | with_reducible refine brW.beq (fun h => ?_) (fun h => ?_) | with_reducible refine brM.beq (fun h => ?_) (fun h => ?_) | with_reducible refine brM.ndec (fun h => ?_) (fun h => ?_) | with_reducible refine brW.ndec (fun h => ?_) (fun h => ?_) | with_reducible refine brM.dand (fun h => ?_) (fun h => ?_) | with_reducible refine brW.dand (fun h => ?_) (fun h => ?_) | with_reducible refine brM.dor (fun h => ?_) (fun h => ?_) | with_reducible refine brW.dor (fun h => ?_) (fun h => ?_) | with_reducible refine brM.bne (fun h => ?_) (fun h => ?_) | with_reducible refine brW.bne (fun h => ?_) (fun h => ?_)) <;> (first | (exfalso; omega) | skip)) | (with_reducible refine brW.two (fun h => ?_) (fun h => ?_)) | (with_reducible refine brM.two (fun h => ?_) (fun h => ?_))))
    · rw [if_pos h] at hk
      subst hk
      rcases hr with ⟨_, rfl⟩ | ⟨h', _⟩
      · rfl
      · cases h'
    · rw [if_neg h] at hk
      refine loopW_go (lv := [0, 1, 2, 4, 5, 6, 8, 9, 11, 14, 18, 19, 20, 21, 52, 55, 56, 57, 58]) mixed (by kernel_rfl) (rsh2 n L cs) (fun x => x.1 ≤ L.length ∧ x.2 = (L.take x.1).map (shiftG cs)) (fun x => L.length - x.1) ((0, [])) (GhW.nil 9 2 (GhW.go [1, 4, 5, 9, 55, 56, 57] (by (first | rfl | (simp -implicitDefEqProofs -dsimp only [push_cast, ↓reduceIte, Nat.reduceMul, Nat.reduceAdd, Nat.reduceSub, Nat.reduceEqDiff, Nat.reduceBeqDiff, Nat.reduceLeDiff, Nat.reduceLT, reduceCtorEq, Int.reduceToNat, ↓ndW_true, ↓brM_true, ↓brM_false, ↓dstL_zero, ↓dstL_succ, ↓brW_true, ↓brW_false, ↓optW_some, ↓elW_zero, ↓elW_succ, ↓elW_map, ↓boolW_lit, ↓grdW_lit, ↓grdW_skip, ↓condW_lit, ↓pickW_lit, ↓calleeW_fn, ↓calleeW_d, ↓cellW_cell, ↓rowW_row, ↓iterW_iter, ↓seqK_normal, ↓seqK_exit, ↓seqK_ret, ↓blockK_normal, ↓blockK_ret, ↓blockK_exit, ↓retK_normal, ↓retK_ret, ↓loadV_pd, ↓loadV_po, ↓loadV_pe, ↓elemW, ↓evF_tmp, ↓evF_const, ↓evF_func, ↓guard_none, ↓guard_true, ↓guard_false, ↓codeW, ↓regW_true, ↓regW_false, ↓opsW_nil, ↓opsW_cons, ↓opsD_nil, ↓opsD_cons, ↓pvW_some, ↓pvsW_some, ↓vcallD_call]; first | done | rfl | ((simp -implicitDefEqProofs -dsimp (disch := omega) only [w64, wu64, half64, half64']); first | done | (simp -implicitDefEqProofs -dsimp only [push_cast, ↓reduceIte, Nat.reduceMul, Nat.reduceAdd, Nat.reduceSub, Nat.reduceEqDiff, Nat.reduceBeqDiff, Nat.reduceLeDiff, Nat.reduceLT, reduceCtorEq, Int.reduceToNat, ↓ndW_true, ↓brM_true, ↓brM_false, ↓dstL_zero, ↓dstL_succ, ↓brW_true, ↓brW_false, ↓optW_some, ↓elW_zero, ↓elW_succ, ↓elW_map, ↓boolW_lit, ↓grdW_lit, ↓grdW_skip, ↓condW_lit, ↓pickW_lit, ↓calleeW_fn, ↓calleeW_d, ↓cellW_cell, ↓rowW_row, ↓iterW_iter, ↓seqK_normal, ↓seqK_exit, ↓seqK_ret, ↓blockK_normal, ↓blockK_ret, ↓blockK_exit, ↓retK_normal, ↓retK_ret, ↓loadV_pd, ↓loadV_po, ↓loadV_pe, ↓elemW, ↓evF_tmp, ↓evF_const, ↓evF_func, ↓guard_none, ↓guard_true, ↓guard_false, ↓codeW, ↓regW_true, ↓regW_false, ↓opsW_nil, ↓opsW_cons, ↓opsD_nil, ↓opsD_cons, ↓pvW_some, ↓pvsW_some, ↓vcallD_call]; done)) | ((try (simp -implicitDefEqProofs -dsimp (disch := omega) only [w64, wu64, half64, half64'])); simp only [St.mk.injEq, List.cons.injEq, Prod.mk.injEq, V.d.injEq, D.lit.injEq, Value.int.injEq, true_and, and_true]; omega)))) rfl)) ?_ ?_
      · exact ⟨Nat.zero_le _, rfl⟩
      rintro ⟨j, es⟩ ⟨hj, he⟩
      simp only at hj he
      have hel : es.length = j := by rw [he]; simp; omega
      rcases Nat.lt_or_ge j L.length with hjl | hjl
      · obtain ⟨x, hx⟩ : ∃ x, L[j]? = some x := ⟨_, List.getElem?_eq_getElem hjl⟩
        have hin : inN x := by
          have := hL x (List.mem_of_getElem? hx)
          exact ⟨this.1, by omega⟩
        (repeat' (first | with_reducible refine GhW.now ?_ | with_reducible refine endW.now ?_ |  simp -implicitDefEqProofs -dsimp only [push_cast, ↓reduceIte, Nat.reduceMul, Nat.reduceAdd, Nat.reduceSub, Nat.reduceEqDiff, Nat.reduceBeqDiff, Nat.reduceLeDiff, Nat.reduceLT, reduceCtorEq, Int.reduceToNat, ↓ndW_true, ↓brM_true, ↓brM_false, ↓dstL_zero, ↓dstL_succ, ↓brW_true, ↓brW_false, ↓optW_some, ↓elW_zero, ↓elW_succ, ↓elW_map, ↓boolW_lit, ↓grdW_lit, ↓grdW_skip, ↓condW_lit, ↓pickW_lit, ↓calleeW_fn, ↓calleeW_d, ↓cellW_cell, ↓rowW_row, ↓iterW_iter, ↓seqK_normal, ↓seqK_exit, ↓seqK_ret, ↓blockK_normal, ↓blockK_ret, ↓blockK_exit, ↓retK_normal, ↓retK_ret, ↓loadV_pd, ↓loadV_po, ↓loadV_pe, ↓elemW, ↓evF_tmp, ↓evF_const, ↓evF_func, ↓guard_none, ↓guard_true, ↓guard_false, ↓codeW, ↓regW_true, ↓regW_false, ↓opsW_nil, ↓opsW_cons, ↓opsD_nil, ↓opsD_cons, ↓pvW_some, ↓pvsW_some, ↓vcallD_call] | (simp -implicitDefEqProofs -dsimp (disch := omega) only [w64, wu64, half64, half64']) | (with_reducible refine ndW.intro' (by first | omega | (simp; done) | (simp; omega) | (simp [allFit, Fit, appFits, V.cellOk, Value.oneCell', D.cells]; done) | (simp [allFit, Fit, appFits, V.cellOk, Value.oneCell', D.cells]; omega)) ?_) | ((first | with_reducible refine brW.dec (fun h => ?_) (fun h => ?_) | with_reducible refine brM.dec (fun h => ?_) (fun h => ?_) | with_reducible refine brW.beq (fun h => ?_) (fun h => ?_) | with_reducible refine brM.beq (fun h => ?_) (fun h => ?_) | with_reducible refine brM.ndec (fun h => ?_) (fun h => ?_) | with_reducible refine brW.ndec (fun h => ?_) (fun h => ?_) | with_reducible refine brM.dand (fun h => ?_) (fun h => ?_) | with_reducible refine brW.dand (fun h => ?_) (fun h => ?_) | with_reducible refine brM.dor (fun h => ?_) (fun h => ?_) | with_reducible refine brW.dor (fun h => ?_) (fun h => ?_) | with_reducible refine brM.bne (fun h => ?_) (fun h => ?_) | with_reducible refine brW.bne (fun h => ?_) (fun h => ?_)) <;> (first | (exfalso; omega) | skip)) | (with_reducible refine brW.two (fun h => ?_) (fun h => ?_)) | (with_reducible refine brM.two (fun h => ?_) (fun h => ?_))))
        refine elX.is j x (by omega) hx ?_
        (repeat' (first | with_reducible refine GhW.now ?_ | with_reducible refine endW.now ?_ | (with_reducible refine CallW.d (Rshifted_fn cs x (by omega) hno hin) (by kernel_rfl) rfl rfl ?_) | simp -implicitDefEqProofs -dsimp only [push_cast, ↓reduceIte, Nat.reduceMul, Nat.reduceAdd, Nat.reduceSub, Nat.reduceEqDiff, Nat.reduceBeqDiff, Nat.reduceLeDiff, Nat.reduceLT, reduceCtorEq, Int.reduceToNat, ↓ndW_true, ↓brM_true, ↓brM_false, ↓dstL_zero, ↓dstL_succ, ↓brW_true, ↓brW_false, ↓optW_some, ↓elW_zero, ↓elW_succ, ↓elW_map, ↓boolW_lit, ↓grdW_lit, ↓grdW_skip, ↓condW_lit, ↓pickW_lit, ↓calleeW_fn, ↓calleeW_d, ↓cellW_cell, ↓rowW_row, ↓iterW_iter, ↓seqK_normal, ↓seqK_exit, ↓seqK_ret, ↓blockK_normal, ↓blockK_ret, ↓blockK_exit, ↓retK_normal, ↓retK_ret, ↓loadV_pd, ↓loadV_po, ↓loadV_pe, ↓elemW, ↓evF_tmp, ↓evF_const, ↓evF_func, ↓guard_none, ↓guard_true, ↓guard_false, ↓codeW, ↓regW_true, ↓regW_false, ↓opsW_nil, ↓opsW_cons, ↓opsD_nil, ↓opsD_cons, ↓pvW_some, ↓pvsW_some, ↓vcallD_call] | (simp -implicitDefEqProofs -dsimp (disch := omega) only [w64, wu64, half64, half64']) | (with_reducible refine ndW.intro' (by first | omega | (simp; done) | (simp; omega) | (simp [allFit, Fit, appFits, V.cellOk, Value.oneCell', D.cells]; done) | (simp [allFit, Fit, appFits, V.cellOk, Value.oneCell', D.cells]; omega)) ?_) | ((first | with_reducible refine brW.dec (fun h => ?_) (fun h => ?_) | with_reducible refine brM.dec (fun h => ?_) (fun h => ?_) | with_reducible refine brW.beq (fun h => ?_) (fun h => ?_) | with_reducible refine brM.beq (fun h => ?_) (fun h => ?_) | with_reducible refine brM.ndec (fun h => ?_) (fun h => ?_) | with_reducible refine brW.ndec (fun h => ?_) (fun h => ?_) | with_reducible refine brM.dand (fun h => ?_) (fun h => ?_) | with_reducible refine brW.dand (fun h => ?_) (fun h => ?_) | with_reducible refine brM.dor (fun h => ?_) (fun h => ?_) | with_reducible refine brW.dor (fun h => ?_) (fun h => ?_) | with_reducible refine brM.bne (fun h => ?_) (fun h => ?_) | with_reducible refine brW.bne (fun h => ?_) (fun h => ?_)) <;> (first | (exfalso; omega) | skip)) | (with_reducible refine brW.two (fun h => ?_) (fun h => ?_)) | (with_reducible refine brM.two (fun h => ?_) (fun h => ?_))))
        rw [snoc_map]
        refine AgW.go ((j + 1, es ++ [(shiftG cs x)])) [1, 4, 5, 9, 55, 56, 57] (by (first | rfl | (simp -implicitDefEqProofs -dsimp only [push_cast, ↓reduceIte, Nat.reduceMul, Nat.reduceAdd, Nat.reduceSub, Nat.reduceEqDiff, Nat.reduceBeqDiff, Nat.reduceLeDiff, Nat.reduceLT, reduceCtorEq, Int.reduceToNat, ↓ndW_true, ↓brM_true, ↓brM_false, ↓dstL_zero, ↓dstL_succ, ↓brW_true, ↓brW_false, ↓optW_some, ↓elW_zero, ↓elW_succ, ↓elW_map, ↓boolW_lit, ↓grdW_lit, ↓grdW_skip, ↓condW_lit, ↓pickW_lit, ↓calleeW_fn, ↓calleeW_d, ↓cellW_cell, ↓rowW_row, ↓iterW_iter, ↓seqK_normal, ↓seqK_exit, ↓seqK_ret, ↓blockK_normal, ↓blockK_ret, ↓blockK_exit, ↓retK_normal, ↓retK_ret, ↓loadV_pd, ↓loadV_po, ↓loadV_pe, ↓elemW, ↓evF_tmp, ↓evF_const, ↓evF_func, ↓guard_none, ↓guard_true, ↓guard_false, ↓codeW, ↓regW_true, ↓regW_false, ↓opsW_nil, ↓opsW_cons, ↓opsD_nil, ↓opsD_cons, ↓pvW_some, ↓pvsW_some, ↓vcallD_call]; first | done | rfl | ((simp -implicitDefEqProofs -dsimp (disch := omega) only [w64, wu64, half64, half64']); first | done | (simp -implicitDefEqProofs -dsimp only [push_cast, ↓reduceIte, Nat.reduceMul, Nat.reduceAdd, Nat.reduceSub, Nat.reduceEqDiff, Nat.reduceBeqDiff, Nat.reduceLeDiff, Nat.reduceLT, reduceCtorEq, Int.reduceToNat, ↓ndW_true, ↓brM_true, ↓brM_false, ↓dstL_zero, ↓dstL_succ, ↓brW_true, ↓brW_false, ↓optW_some, ↓elW_zero, ↓elW_succ, ↓elW_map, ↓boolW_lit, ↓grdW_lit, ↓grdW_skip, ↓condW_lit, ↓pickW_lit, ↓calleeW_fn, ↓calleeW_d, ↓cellW_cell, ↓rowW_row, ↓iterW_iter, ↓seqK_normal, ↓seqK_exit, ↓seqK_ret, ↓blockK_normal, ↓blockK_ret, ↓blockK_exit, ↓retK_normal, ↓retK_ret, ↓loadV_pd, ↓loadV_po, ↓loadV_pe, ↓elemW, ↓evF_tmp, ↓evF_const, ↓evF_func, ↓guard_none, ↓guard_true, ↓guard_false, ↓codeW, ↓regW_true, ↓regW_false, ↓opsW_nil, ↓opsW_cons, ↓opsD_nil, ↓opsD_cons, ↓pvW_some, ↓pvsW_some, ↓vcallD_call]; done)) | ((try (simp -implicitDefEqProofs -dsimp (disch := omega) only [w64, wu64, half64, half64'])); simp only [St.mk.injEq, List.cons.injEq, Prod.mk.injEq, V.d.injEq, D.lit.injEq, Value.int.injEq, true_and, and_true]; omega)))) ?_ ?_
        · show L.length - (j + 1) < L.length - j
          omega
        · exact ⟨by simp only; omega, by rw [he, take_snoc' hx, List.map_append]; rfl⟩
      · have hm : es = L.map (shiftG cs) := by rw [he, List.take_of_length_le hjl]
        obtain ⟨LS, hLS⟩ : ∃ Z, Z = L.map (shiftG cs) := ⟨_, rfl⟩
        rw [← hLS] at hm hk hr
        subst hm
        (repeat' (first | with_reducible refine GhW.now ?_ | with_reducible refine endW.now ?_ |  simp -implicitDefEqProofs -dsimp only [push_cast, ↓reduceIte, Nat.reduceMul, Nat.reduceAdd, Nat.reduceSub, Nat.reduceEqDiff, Nat.reduceBeqDiff, Nat.reduceLeDiff, Nat.reduceLT, reduceCtorEq, Int.reduceToNat, ↓ndW_true, ↓brM_true, ↓brM_false, ↓dstL_zero, ↓dstL_succ, ↓brW_true, ↓brW_false, ↓optW_some, ↓elW_zero, ↓elW_succ, ↓elW_map, ↓boolW_lit, ↓grdW_lit, ↓grdW_skip, ↓condW_lit, ↓pickW_lit, ↓calleeW_fn, ↓calleeW_d, ↓cellW_cell, ↓rowW_row, ↓iterW_iter, ↓seqK_normal, ↓seqK_exit, ↓seqK_ret, ↓blockK_normal, ↓blockK_ret, ↓blockK_exit, ↓retK_normal, ↓retK_ret, ↓loadV_pd, ↓loadV_po, ↓loadV_pe, ↓elemW, ↓evF_tmp, ↓evF_const, ↓evF_func, ↓guard_none, ↓guard_true, ↓guard_false, ↓codeW, ↓regW_true, ↓regW_false, ↓opsW_nil, ↓opsW_cons, ↓opsD_nil, ↓opsD_cons, ↓pvW_some, ↓pvsW_some, ↓vcallD_call] | (simp -implicitDefEqProofs -dsimp (disch := omega) only [w64, wu64, half64, half64']) | (with_reducible refine ndW.intro' (by first | omega | (simp; done) | (simp; omega) | (simp [allFit, Fit, appFits, V.cellOk, Value.oneCell', D.cells]; done) | (simp [allFit, Fit, appFits, V.cellOk, Value.oneCell', D.cells]; omega)) ?_) | ((first | with_reducible refine brW.dec (fun h => ?_) (fun h => ?_) | with_reducible refine brM.dec (fun h => ?_) (fun h => ?_) | with_reducible refine brW.beq (fun h => ?_) (fun h => ?_) | with_reducible refine brM.beq (fun h => ?_) (fun h => ?_) | with_reducible refine brM.ndec (fun h => ?_) (fun h => ?_) | with_reducible refine brW.ndec (fun h => ?_) (fun h => ?_) | with_reducible refine brM.dand (fun h => ?_) (fun h => ?_) | with_reducible refine brW.dand (fun h => ?_) (fun h => ?_) | with_reducible refine brM.dor (fun h => ?_) (fun h => ?_) | with_reducible refine brW.dor (fun h => ?_) (fun h => ?_) | with_reducible refine brM.bne (fun h => ?_) (fun h => ?_) | with_reducible refine brW.bne (fun h => ?_) (fun h => ?_)) <;> (first | (exfalso; omega) | skip)) | (with_reducible refine brW.two (fun h => ?_) (fun h => ?_)) | (with_reducible refine brM.two (fun h => ?_) (fun h => ?_))))
        refine CallW.frz 1 rfl ?_
        simp -implicitDefEqProofs -dsimp only [push_cast, ↓reduceIte, Nat.reduceMul, Nat.reduceAdd, Nat.reduceSub, Nat.reduceEqDiff, Nat.reduceBeqDiff, Nat.reduceLeDiff, Nat.reduceLT, reduceCtorEq, Int.reduceToNat, ↓ndW_true, ↓brM_true, ↓brM_false, ↓dstL_zero, ↓dstL_succ, ↓brW_true, ↓brW_false, ↓optW_some, ↓elW_zero, ↓elW_succ, ↓elW_map, ↓boolW_lit, ↓grdW_lit, ↓grdW_skip, ↓condW_lit, ↓pickW_lit, ↓calleeW_fn, ↓calleeW_d, ↓cellW_cell, ↓rowW_row, ↓iterW_iter, ↓seqK_normal, ↓seqK_exit, ↓seqK_ret, ↓blockK_normal, ↓blockK_ret, ↓blockK_exit, ↓retK_normal, ↓retK_ret, ↓loadV_pd, ↓loadV_po, ↓loadV_pe, ↓elemW, ↓evF_tmp, ↓evF_const, ↓evF_func, ↓guard_none, ↓guard_true, ↓guard_false, ↓codeW, ↓regW_true, ↓regW_false, ↓opsW_nil, ↓opsW_cons, ↓opsD_nil, ↓opsD_cons, ↓pvW_some, ↓pvsW_some, ↓vcallD_call]
        rw [List.take_of_length_le (by rw [List.length_map]; omega)]
        rcases hr with ⟨hk0, rfl⟩ | ⟨hk0, rfl⟩
        · refine CallW.d (RNew_no_fn _ k _ (by omega) hk hk0) (by kernel_rfl) rfl rfl ?_
          (repeat' (first | with_reducible refine GhW.now ?_ | with_reducible refine endW.now ?_ | with_reducible refine DoneW.out ?_ | simp -implicitDefEqProofs -dsimp only [push_cast, ↓reduceIte, Nat.reduceMul, Nat.reduceAdd, Nat.reduceSub, Nat.reduceEqDiff, Nat.reduceBeqDiff, Nat.reduceLeDiff, Nat.reduceLT, reduceCtorEq, Int.reduceToNat, ↓ndW_true, ↓brM_true, ↓brM_false, ↓dstL_zero, ↓dstL_succ, ↓brW_true, ↓brW_false, ↓optW_some, ↓elW_zero, ↓elW_succ, ↓elW_map, ↓boolW_lit, ↓grdW_lit, ↓grdW_skip, ↓condW_lit, ↓pickW_lit, ↓calleeW_fn, ↓calleeW_d, ↓cellW_cell, ↓rowW_row, ↓iterW_iter, ↓seqK_normal, ↓seqK_exit, ↓seqK_ret, ↓blockK_normal, ↓blockK_ret, ↓blockK_exit, ↓retK_normal, ↓retK_ret, ↓loadV_pd, ↓loadV_po, ↓loadV_pe, ↓elemW, ↓evF_tmp, ↓evF_const, ↓evF_func, ↓guard_none, ↓guard_true, ↓guard_false, ↓codeW, ↓regW_true, ↓regW_false, ↓opsW_nil, ↓opsW_cons, ↓opsD_nil, ↓opsD_cons, ↓pvW_some, ↓pvsW_some, ↓vcallD_call] | (simp -implicitDefEqProofs -dsimp (disch := omega) only [w64, wu64, half64, half64']) | (with_reducible refine ndW.intro' (by first | omega | (simp; done) | (simp; omega) | (simp [allFit, Fit, appFits, V.cellOk, Value.oneCell', D.cells]; done) | (simp [allFit, Fit, appFits, V.cellOk, Value.oneCell', D.cells]; omega)) ?_) | ((first | with_reducible refine brW.dec (fun h => ?_) (fun h => ?_) | with_reducible refine brM.dec (fun h => ?_) (fun h => ?_) | with_reducible refine brW.beq (fun h => ?_) (fun h => ?_) | with_reducible refine brM.beq (fun h => ?_) (fun h => ?_) | with_reducible refine brM.ndec (fun h => ?_) (fun h => ?_) | with_reducible refine brW.ndec (fun h => ?_) (fun h => ?_) | with_reducible refine brM.dand (fun h => ?_) (fun h => ?_) | with_reducible refine brW.dand (fun h => ?_) (fun h => ?_) | with_reducible refine brM.dor (fun h => ?_) (fun h => ?_) | with_reducible refine brW.dor (fun h => ?_) (fun h => ?_) | with_reducible refine brM.bne (fun h => ?_) (fun h => ?_) | with_reducible refine brW.bne (fun h => ?_) (fun h => ?_)) <;> (first | (exfalso; omega) | skip)) | (with_reducible refine brW.two (fun h => ?_) (fun h => ?_)) | (with_reducible refine brM.two (fun h => ?_) (fun h => ?_))))
        · refine CallW.d (RNew_ok_fn _ _ (by omega) (hk.trans hk0)) (by kernel_rfl) rfl rfl ?_
          (repeat' (first | with_reducible refine GhW.now ?_ | with_reducible refine endW.now ?_ | with_reducible refine DoneW.out ?_ | simp -implicitDefEqProofs -dsimp only [push_cast, ↓reduceIte, Nat.reduceMul, Nat.reduceAdd, Nat.reduceSub, Nat.reduceEqDiff, Nat.reduceBeqDiff, Nat.reduceLeDiff, Nat.reduceLT, reduceCtorEq, Int.reduceToNat, ↓ndW_true, ↓brM_true, ↓brM_false, ↓dstL_zero, ↓dstL_succ, ↓brW_true, ↓brW_false, ↓optW_some, ↓elW_zero, ↓elW_succ, ↓elW_map, ↓boolW_lit, ↓grdW_lit, ↓grdW_skip, ↓condW_lit, ↓pickW_lit, ↓calleeW_fn, ↓calleeW_d, ↓cellW_cell, ↓rowW_row, ↓iterW_iter, ↓seqK_normal, ↓seqK_exit, ↓seqK_ret, ↓blockK_normal, ↓blockK_ret, ↓blockK_exit, ↓retK_normal, ↓retK_ret, ↓loadV_pd, ↓loadV_po, ↓loadV_pe, ↓elemW, ↓evF_tmp, ↓evF_const, ↓evF_func, ↓guard_none, ↓guard_true, ↓guard_false, ↓codeW, ↓regW_true, ↓regW_false, ↓opsW_nil, ↓opsW_cons, ↓opsD_nil, ↓opsD_cons, ↓pvW_some, ↓pvsW_some, ↓vcallD_call] | (simp -implicitDefEqProofs -dsimp (disch := omega) only [w64, wu64, half64, half64']) | (with_reducible refine ndW.intro' (by first | omega | (simp; done) | (simp; omega) | (simp [allFit, Fit, appFits, V.cellOk, Value.oneCell', D.cells]; done) | (simp [allFit, Fit, appFits, V.cellOk, Value.oneCell', D.cells]; omega)) ?_) | ((first | with_reducible refine brW.dec (fun h => ?_) (fun h => ?_) | with_reducible refine brM.dec (fun h => ?_) (fun h => ?_) | with_reducible refine brW.beq (fun h => ?_) (fun h => ?_) | with_reducible refine brM.beq (fun h => ?_) (fun h => ?_) | with_reducible refine brM.ndec (fun h => ?_) (fun h => ?_) | with_reducible refine brW.ndec (fun h => ?_) (fun h => ?_) | with_reducible refine brM.dand (fun h => ?_) (fun h => ?_) | with_reducible refine brW.dand (fun h => ?_) (fun h => ?_) | with_reducible refine brM.dor (fun h => ?_) (fun h => ?_) | with_reducible refine brW.dor (fun h => ?_) (fun h => ?_) | with_reducible refine brM.bne (fun h => ?_) (fun h => ?_) | with_reducible refine brW.bne (fun h => ?_) (fun h => ?_)) <;> (first | (exfalso; omega) | skip)) | (with_reducible refine brW.two (fun h => ?_) (fun h => ?_)) | (with_reducible refine brM.two (fun h => ?_) (fun h => ?_))))
end Go.Proofs.Ytlledfabkmmgoaa
/- The law SelectsShift, walked. -/
set_option linter.unusedSimpArgs false
set_option linter.unusedVariables false
set_option maxRecDepth 8000
namespace Go.Proofs.Ytlledfabkmmgoaa
theorem newErr_in {n : Int} {l : List Se} (h : newErr n l = 0) : (0 ≤ n ∧ n ≤ 1099511627776) ∧ ∀ x ∈ l, 0 ≤ spanF x ∧ spanT x ≤ n := by
  unfold newErr at h
  split at h
  · cases h
  split at h
  · cases h
  split at h
  · cases h
  split at h
  · cases h
  rename_i h1 h2 h3 h4
  refine ⟨by omega, fun x hx => ?_⟩
  have : outB n x = false := by
    rcases ho : outB n x with _ | _
    · rfl
    · exact absurd (List.any_eq_true.2 ⟨x, hx, ho⟩) h4
  simp only [outB, Bool.or_eq_false_iff, decide_eq_false_iff_not] at this
  omega
set_option maxHeartbeats 4000000 in
theorem lawShift_fn (n : Int) (l : List Se) (cs : List Ch) (hl : l.length ≤ 9223372036854775807) (hcl : cs.length ≤ 9223372036854775807) : OFn Try.prog G0 8 [iv n, seL l, chL cs] [] 0 (bv true) [] := by
  refine OFn.of_code mixed [0, 1, 2, 6, 7, 8, 9, 10, 11, 19, 35, 37] Try.func8 rfl Try.results8 Try.ntmps8 (by kernel_rfl) (by simp) ?_
  by_cases h1 : 64 < l.length ∨ 100 < cs.length
  · skip
    (repeat' (first | with_reducible refine GhW.now ?_ | with_reducible refine endW.now ?_ | (with_reducible refine CallW.d joins_fn (by kernel_rfl) rfl rfl ?_) | (with_reducible refine callD.d joins_fn (by kernel_rfl) rfl rfl ?_) | (with_reducible refine CallW.d (refs_fn _ (by omega)) (by kernel_rfl) rfl rfl ?_) | with_reducible refine DoneW.out ?_ | simp -implicitDefEqProofs -dsimp only [push_cast, ↓reduceIte, Nat.reduceMul, Nat.reduceAdd, Nat.reduceSub, Nat.reduceEqDiff, Nat.reduceBeqDiff, Nat.reduceLeDiff, Nat.reduceLT, reduceCtorEq, Int.reduceToNat, ↓ndW_true, ↓brM_true, ↓brM_false, ↓dstL_zero, ↓dstL_succ, ↓brW_true, ↓brW_false, ↓optW_some, ↓elW_zero, ↓elW_succ, ↓elW_map, ↓boolW_lit, ↓grdW_lit, ↓grdW_skip, ↓condW_lit, ↓pickW_lit, ↓calleeW_fn, ↓calleeW_d, ↓cellW_cell, ↓rowW_row, ↓iterW_iter, ↓seqK_normal, ↓seqK_exit, ↓seqK_ret, ↓blockK_normal, ↓blockK_ret, ↓blockK_exit, ↓retK_normal, ↓retK_ret, ↓loadV_pd, ↓loadV_po, ↓loadV_pe, ↓elemW, ↓evF_tmp, ↓evF_const, ↓evF_func, ↓guard_none, ↓guard_true, ↓guard_false, ↓codeW, ↓regW_true, ↓regW_false, ↓opsW_nil, ↓opsW_cons, ↓opsD_nil, ↓opsD_cons, ↓pvW_some, ↓pvsW_some, ↓vcallD_call] | (simp -implicitDefEqProofs -dsimp (disch := omega) only [w64, wu64, half64, half64']) | (with_reducible refine ndW.intro' (by first | omega | (simp; done) | (simp; omega) | (simp [allFit, Fit, appFits, V.cellOk, Value.oneCell', D.cells]; done) | (simp [allFit, Fit, appFits, V.cellOk, Value.oneCell', D.cells]; omega)) ?_) | ((first | with_reducible refine brW.dec (fun h => ?_) (fun h => ?_) | with_reducible refine brM.dec (fun h => ?_) (fun h => ?_) | with_reducible refine brW.beq (fun h => ?_) (fun h => ?_) | with_reducible refine brM.beq (fun h => ?_) (fun h => ?_) | with_reducible refine brM.ndec (fun h => ?_) (fun h => ?_) | with_reducible refine brW.ndec (fun h => ?_) (fun h => ?_) | with_reducible refine brM.dand (fun h => ?_) (fun h => ?_) | with_reducible refine brW.dand (fun h => ?_) (fun h => ?_) | with_reducible refine brM.dor (fun h => ?_) (fun h => ?_) | with_reducible refine brW.dor (fun h => ?_) (fun h => ?_) | with_reducible refine brM.bne (fun h => ?_) (fun h => ?_) | with_reducible refine brW.bne (fun h => ?_) (fun h => ?_)) <;> (first | (exfalso; omega) | skip)) | (with_reducible refine brW.two (fun h => ?_) (fun h => ?_)) | (with_reducible refine brM.two (fun h => ?_) (fun h => ?_))))
  rcases Decidable.em (newErr n l = 0) with h2 | h2
  rotate_left
  · skip
    (repeat' (first | with_reducible refine GhW.now ?_ | with_reducible refine endW.now ?_ | (with_reducible refine CallW.d joins_fn (by kernel_rfl) rfl rfl ?_) | (with_reducible refine callD.d joins_fn (by kernel_rfl) rfl rfl ?_) | (with_reducible refine CallW.d (refs_fn _ (by omega)) (by kernel_rfl) rfl rfl ?_) | with_reducible refine DoneW.out ?_ | (with_reducible refine CallW.d (New_no_fn n _ l (by omega) rfl h2) (by kernel_rfl) rfl rfl ?_) | (with_reducible refine callD.d (New_no_fn n _ l (by omega) rfl h2) (by kernel_rfl) rfl rfl ?_) | (with_reducible refine CallW.d (RNew_no_fn n _ l (by omega) rfl h2) (by kernel_rfl) rfl rfl ?_) | (with_reducible refine callD.d (RNew_no_fn n _ l (by omega) rfl h2) (by kernel_rfl) rfl rfl ?_) | (with_reducible refine CallW.d (is_no_fn _ h2) (by kernel_rfl) rfl rfl ?_) | (with_reducible refine callD.d (is_no_fn _ h2) (by kernel_rfl) rfl rfl ?_) | simp -implicitDefEqProofs -dsimp only [push_cast, ↓reduceIte, Nat.reduceMul, Nat.reduceAdd, Nat.reduceSub, Nat.reduceEqDiff, Nat.reduceBeqDiff, Nat.reduceLeDiff, Nat.reduceLT, reduceCtorEq, Int.reduceToNat, ↓ndW_true, ↓brM_true, ↓brM_false, ↓dstL_zero, ↓dstL_succ, ↓brW_true, ↓brW_false, ↓optW_some, ↓elW_zero, ↓elW_succ, ↓elW_map, ↓boolW_lit, ↓grdW_lit, ↓grdW_skip, ↓condW_lit, ↓pickW_lit, ↓calleeW_fn, ↓calleeW_d, ↓cellW_cell, ↓rowW_row, ↓iterW_iter, ↓seqK_normal, ↓seqK_exit, ↓seqK_ret, ↓blockK_normal, ↓blockK_ret, ↓blockK_exit, ↓retK_normal, ↓retK_ret, ↓loadV_pd, ↓loadV_po, ↓loadV_pe, ↓elemW, ↓evF_tmp, ↓evF_const, ↓evF_func, ↓guard_none, ↓guard_true, ↓guard_false, ↓codeW, ↓regW_true, ↓regW_false, ↓opsW_nil, ↓opsW_cons, ↓opsD_nil, ↓opsD_cons, ↓pvW_some, ↓pvsW_some, ↓vcallD_call] | (simp -implicitDefEqProofs -dsimp (disch := omega) only [w64, wu64, half64, half64']) | (with_reducible refine ndW.intro' (by first | omega | (simp; done) | (simp; omega) | (simp [allFit, Fit, appFits, V.cellOk, Value.oneCell', D.cells]; done) | (simp [allFit, Fit, appFits, V.cellOk, Value.oneCell', D.cells]; omega)) ?_) | ((first | with_reducible refine brW.dec (fun h => ?_) (fun h => ?_) | with_reducible refine brM.dec (fun h => ?_) (fun h => ?_) | with_reducible refine brW.beq (fun h => ?_) (fun h => ?_) | with_reducible refine brM.beq (fun h => ?_) (fun h => ?_) | with_reducible refine brM.ndec (fun h => ?_) (fun h => ?_) | with_reducible refine brW.ndec (fun h => ?_) (fun h => ?_) | with_reducible refine brM.dand (fun h => ?_) (fun h => ?_) | with_reducible refine brW.dand (fun h => ?_) (fun h => ?_) | with_reducible refine brM.dor (fun h => ?_) (fun h => ?_) | with_reducible refine brW.dor (fun h => ?_) (fun h => ?_) | with_reducible refine brM.bne (fun h => ?_) (fun h => ?_) | with_reducible refine brW.bne (fun h => ?_) (fun h => ?_)) <;> (first | (exfalso; omega) | skip)) | (with_reducible refine brW.two (fun h => ?_) (fun h => ?_)) | (with_reducible refine brM.two (fun h => ?_) (fun h => ?_))))
  have h3 := newErr_pos h2
  obtain ⟨h6, h7⟩ := newErr_in h2
  have h4 := joinedS_pos h3.1
  have h5 := joinedS_len l
  have h8 := joinedS_in h7
  have hN := New_ok_fn n l (by omega) h2
  have hR := RNew_ok_fn n l (by omega) h2
  generalize joinedS l = L at hN hR h4 h5 h8
  have hI := is_ok_fn n L h4 (by omega)
  rcases Decidable.em (shE n cs L = 0) with h9 | h9
  · have hP := PShift_fn n 0 cs L _ h6 (by omega) h4 (by omega) h8 h9 (.inr ⟨rfl, rfl⟩)
    have hQ := RShift_fn n 0 cs L _ h6 (by omega) h4 (by omega) h8 h9 (.inr ⟨rfl, rfl⟩)
    have h10 : 0 < (L.map (shiftG cs)).length := by simpa using h4
    have h11 := joinedS_pos h10
    have h12 := joinedS_len (L.map (shiftG cs))
    rw [List.length_map] at h12
    generalize joinedS (L.map (shiftG cs)) = J at hP hQ h11 h12
    have hJ := is_ok_fn (n + delta cs) J h11 (by omega)
    (repeat' (first | with_reducible refine GhW.now ?_ | with_reducible refine endW.now ?_ | (with_reducible refine CallW.d joins_fn (by kernel_rfl) rfl rfl ?_) | (with_reducible refine callD.d joins_fn (by kernel_rfl) rfl rfl ?_) | (with_reducible refine CallW.d (refs_fn _ (by omega)) (by kernel_rfl) rfl rfl ?_) | with_reducible refine DoneW.out ?_ | (with_reducible refine CallW.d (hN) (by kernel_rfl) rfl rfl ?_) | (with_reducible refine callD.d (hN) (by kernel_rfl) rfl rfl ?_) | (with_reducible refine CallW.d (hR) (by kernel_rfl) rfl rfl ?_) | (with_reducible refine callD.d (hR) (by kernel_rfl) rfl rfl ?_) | (with_reducible refine CallW.d (hI) (by kernel_rfl) rfl rfl ?_) | (with_reducible refine callD.d (hI) (by kernel_rfl) rfl rfl ?_) | (with_reducible refine CallW.d (hP) (by kernel_rfl) rfl rfl ?_) | (with_reducible refine callD.d (hP) (by kernel_rfl) rfl rfl ?_) | (with_reducible refine CallW.d (hQ) (by kernel_rfl) rfl rfl ?_) | (with_reducible refine callD.d (hQ) (by kernel_rfl) rfl rfl ?_) | (with_reducible refine CallW.d (hJ) (by kernel_rfl) rfl rfl ?_) | (with_reducible refine callD.d (hJ) (by kernel_rfl) rfl rfl ?_) | (with_reducible refine CallW.d (changes_fn cs (by omega)) (by kernel_rfl) rfl rfl ?_) | (with_reducible refine callD.d (changes_fn cs (by omega)) (by kernel_rfl) rfl rfl ?_) | simp -implicitDefEqProofs -dsimp only [push_cast, ↓reduceIte, Nat.reduceMul, Nat.reduceAdd, Nat.reduceSub, Nat.reduceEqDiff, Nat.reduceBeqDiff, Nat.reduceLeDiff, Nat.reduceLT, reduceCtorEq, Int.reduceToNat, ↓ndW_true, ↓brM_true, ↓brM_false, ↓dstL_zero, ↓dstL_succ, ↓brW_true, ↓brW_false, ↓optW_some, ↓elW_zero, ↓elW_succ, ↓elW_map, ↓boolW_lit, ↓grdW_lit, ↓grdW_skip, ↓condW_lit, ↓pickW_lit, ↓calleeW_fn, ↓calleeW_d, ↓cellW_cell, ↓rowW_row, ↓iterW_iter, ↓seqK_normal, ↓seqK_exit, ↓seqK_ret, ↓blockK_normal, ↓blockK_ret, ↓blockK_exit, ↓retK_normal, ↓retK_ret, ↓loadV_pd, ↓loadV_po, ↓loadV_pe, ↓elemW, ↓evF_tmp, ↓evF_const, ↓evF_func, ↓guard_none, ↓guard_true, ↓guard_false, ↓codeW, ↓regW_true, ↓regW_false, ↓opsW_nil, ↓opsW_cons, ↓opsD_nil, ↓opsD_cons, ↓pvW_some, ↓pvsW_some, ↓vcallD_call] | (simp -implicitDefEqProofs -dsimp (disch := omega) only [w64, wu64, half64, half64']) | (with_reducible refine ndW.intro' (by first | omega | (simp; done) | (simp; omega) | (simp [allFit, Fit, appFits, V.cellOk, Value.oneCell', D.cells]; done) | (simp [allFit, Fit, appFits, V.cellOk, Value.oneCell', D.cells]; omega)) ?_) | ((first | with_reducible refine brW.dec (fun h => ?_) (fun h => ?_) | with_reducible refine brM.dec (fun h => ?_) (fun h => ?_) | with_reducible refine brW.beq (fun h => ?_) (fun h => ?_) | with_reducible refine brM.beq (fun h => ?_) (fun h => ?_) | with_reducible refine brM.ndec (fun h => ?_) (fun h => ?_) | with_reducible refine brW.ndec (fun h => ?_) (fun h => ?_) | with_reducible refine brM.dand (fun h => ?_) (fun h => ?_) | with_reducible refine brW.dand (fun h => ?_) (fun h => ?_) | with_reducible refine brM.dor (fun h => ?_) (fun h => ?_) | with_reducible refine brW.dor (fun h => ?_) (fun h => ?_) | with_reducible refine brM.bne (fun h => ?_) (fun h => ?_) | with_reducible refine brW.bne (fun h => ?_) (fun h => ?_)) <;> (first | (exfalso; omega) | skip)) | (with_reducible refine brW.two (fun h => ?_) (fun h => ?_)) | (with_reducible refine brM.two (fun h => ?_) (fun h => ?_))))
  · have hP := PShift_fn n _ cs L _ h6 (by omega) h4 (by omega) h8 rfl (.inl ⟨h9, rfl⟩)
    have hQ := RShift_fn n _ cs L _ h6 (by omega) h4 (by omega) h8 rfl (.inl ⟨h9, rfl⟩)
    have hJ := is_no_fn _ h9
    (repeat' (first | with_reducible refine GhW.now ?_ | with_reducible refine endW.now ?_ | (with_reducible refine CallW.d joins_fn (by kernel_rfl) rfl rfl ?_) | (with_reducible refine callD.d joins_fn (by kernel_rfl) rfl rfl ?_) | (with_reducible refine CallW.d (refs_fn _ (by omega)) (by kernel_rfl) rfl rfl ?_) | with_reducible refine DoneW.out ?_ | (with_reducible refine CallW.d (hN) (by kernel_rfl) rfl rfl ?_) | (with_reducible refine callD.d (hN) (by kernel_rfl) rfl rfl ?_) | (with_reducible refine CallW.d (hR) (by kernel_rfl) rfl rfl ?_) | (with_reducible refine callD.d (hR) (by kernel_rfl) rfl rfl ?_) | (with_reducible refine CallW.d (hI) (by kernel_rfl) rfl rfl ?_) | (with_reducible refine callD.d (hI) (by kernel_rfl) rfl rfl ?_) | (with_reducible refine CallW.d (hP) (by kernel_rfl) rfl rfl ?_) | (with_reducible refine callD.d (hP) (by kernel_rfl) rfl rfl ?_) | (with_reducible refine CallW.d (hQ) (by kernel_rfl) rfl rfl ?_) | (with_reducible refine callD.d (hQ) (by kernel_rfl) rfl rfl ?_) | (with_reducible refine CallW.d (hJ) (by kernel_rfl) rfl rfl ?_) | (with_reducible refine callD.d (hJ) (by kernel_rfl) rfl rfl ?_) | (with_reducible refine CallW.d (changes_fn cs (by omega)) (by kernel_rfl) rfl rfl ?_) | (with_reducible refine callD.d (changes_fn cs (by omega)) (by kernel_rfl) rfl rfl ?_) | simp -implicitDefEqProofs -dsimp only [push_cast, ↓reduceIte, Nat.reduceMul, Nat.reduceAdd, Nat.reduceSub, Nat.reduceEqDiff, Nat.reduceBeqDiff, Nat.reduceLeDiff, Nat.reduceLT, reduceCtorEq, Int.reduceToNat, ↓ndW_true, ↓brM_true, ↓brM_false, ↓dstL_zero, ↓dstL_succ, ↓brW_true, ↓brW_false, ↓optW_some, ↓elW_zero, ↓elW_succ, ↓elW_map, ↓boolW_lit, ↓grdW_lit, ↓grdW_skip, ↓condW_lit, ↓pickW_lit, ↓calleeW_fn, ↓calleeW_d, ↓cellW_cell, ↓rowW_row, ↓iterW_iter, ↓seqK_normal, ↓seqK_exit, ↓seqK_ret, ↓blockK_normal, ↓blockK_ret, ↓blockK_exit, ↓retK_normal, ↓retK_ret, ↓loadV_pd, ↓loadV_po, ↓loadV_pe, ↓elemW, ↓evF_tmp, ↓evF_const, ↓evF_func, ↓guard_none, ↓guard_true, ↓guard_false, ↓codeW, ↓regW_true, ↓regW_false, ↓opsW_nil, ↓opsW_cons, ↓opsD_nil, ↓opsD_cons, ↓pvW_some, ↓pvsW_some, ↓vcallD_call] | (simp -implicitDefEqProofs -dsimp (disch := omega) only [w64, wu64, half64, half64']) | (with_reducible refine ndW.intro' (by first | omega | (simp; done) | (simp; omega) | (simp [allFit, Fit, appFits, V.cellOk, Value.oneCell', D.cells]; done) | (simp [allFit, Fit, appFits, V.cellOk, Value.oneCell', D.cells]; omega)) ?_) | ((first | with_reducible refine brW.dec (fun h => ?_) (fun h => ?_) | with_reducible refine brM.dec (fun h => ?_) (fun h => ?_) | with_reducible refine brW.beq (fun h => ?_) (fun h => ?_) | with_reducible refine brM.beq (fun h => ?_) (fun h => ?_) | with_reducible refine brM.ndec (fun h => ?_) (fun h => ?_) | with_reducible refine brW.ndec (fun h => ?_) (fun h => ?_) | with_reducible refine brM.dand (fun h => ?_) (fun h => ?_) | with_reducible refine brW.dand (fun h => ?_) (fun h => ?_) | with_reducible refine brM.dor (fun h => ?_) (fun h => ?_) | with_reducible refine brW.dor (fun h => ?_) (fun h => ?_) | with_reducible refine brM.bne (fun h => ?_) (fun h => ?_) | with_reducible refine brW.bne (fun h => ?_) (fun h => ?_)) <;> (first | (exfalso; omega) | skip)) | (with_reducible refine brW.two (fun h => ?_) (fun h => ?_)) | (with_reducible refine brM.two (fun h => ?_) (fun h => ?_))))
end Go.Proofs.Ytlledfabkmmgoaa
/- Words for memory that all walks of this seat use. -/
namespace Go.Proofs.Ytlledfabkmmgoaa
open Go.RowKit

/-- The call returns v; what was there reads as it did. -/
def Rets (v : Value) (w : World) (e : Ending) (w' : World) : Prop := e = .returned v ∧ Below w.heap.size w w'

theorem bcell {W w1 : World} (hb : Below W.heap.size W w1) : (∀ b o, b < W.heap.size → w1.cell? ⟨b, o, none⟩ = W.cell? ⟨b, o, none⟩) ∧ (∀ b o, b < W.heap.size → w1.frozen? ⟨b, o, none⟩ = W.frozen? ⟨b, o, none⟩) :=
  ⟨fun b o h => hb.cell (p := ⟨b, o, none⟩) h, fun b o h => hb.frozen (p := ⟨b, o, none⟩) h⟩

theorem rets_bool {a b : Bool} {w w' : World} (h : a = b) (hb : Below w.heap.size w w') : Rets (.bool b) w (.returned (.bool a)) w' := ⟨by rw [h], hb⟩
theorem rets_int {k : IntKind} {a b : Int} {w w' : World} (h : a = b) (hb : Below w.heap.size w w') : Rets (.int k b) w (.returned (.int k a)) w' := ⟨by rw [h], hb⟩
theorem rets_int2 {k k' : IntKind} {a b a' b' : Int} {w w' : World} (h : a = b) (h' : a' = b') (hb : Below w.heap.size w w') :
    Rets (.tuple #[.int k b, .int k' b']) w (.returned (.tuple #[.int k a, .int k' a'])) w' := ⟨by rw [h, h'], hb⟩
theorem rets_val {v : Value} {w w' : World} (hb : Below w.heap.size w w') : Rets v w (.returned v) w' := ⟨rfl, hb⟩

/-- Block g holds just these cells, none of them frozen. -/
def Box (w : World) (g : Nat) (t : TypeId) (cs : Array Value) : Prop := w.heap[g]? = some (.cells cs t (0, 0))
section
variable {w w' : World} {g : Nat} {t : TypeId} {cs : Array Value}
theorem Box.lt (h : Box w g t cs) : g < w.heap.size := by
  rcases Nat.lt_or_ge g w.heap.size with hlt | hge
  · exact hlt
  · unfold Box at h; rw [Array.getElem?_eq_none hge] at h; cases h
theorem Box.cell (h : Box w g t cs) (i : Nat) : w.cell? ⟨g, i, none⟩ = cs[i]? := by
  unfold Box at h; simp [World.cell?, h]
theorem Box.free (h : Box w g t cs) (i : Nat) : w.frozen? ⟨g, i, none⟩ = false := by
  unfold Box at h; simp [World.frozen?, h]
theorem Box.drew (h : Box w g t cs) : Box w.drew g t cs := h
theorem Box.new (w : World) (t : TypeId) (cs : Array Value) : Box (w.alloc (.cells cs t)) w.heap.size t cs := by
  show (w.heap.push _)[w.heap.size]? = _
  simp
theorem Box.alloc (h : Box w g t cs) (o : Obj) : Box (w.alloc o) g t cs := (Below.heap_alloc w o g h.lt).trans h
theorem Box.set_ (h : Box w g t cs) (i : Nat) (u : Value) : Box (w.setCell ⟨g, i, none⟩ u) g t (cs.setIfInBounds i u) := by
  unfold Box at h ⊢
  simp [World.setCell, Array.getElem?_modify, h]
theorem Box.far (h : Box w g t cs) {p : Addr} (hp : g ≠ p.block) (u : Value) : Box (w.setCell p u) g t cs := (Below.heap_setCell w p u g hp).trans h
theorem Box.below {B : Nat} (h : Box w g t cs) (hb : Below B w w') (hg : g < B) : Box w' g t cs := (hb.block g hg).trans h
theorem Box.to (h : Box w g t cs) {cs' : Array Value} (e : cs = cs') : Box w g t cs' := e ▸ h
end

/-- Cells of a list of two-cell things: thing i at off + 2 * i. -/
def TwoAt (w : World) (B : Nat) (A : Option Addr) (n : Nat) (l : List (Int × Int)) : Prop :=
  l.length = n ∧ (0 < n → ∃ b off, A = some ⟨b, off, none⟩ ∧ b < B ∧ ∀ i x y, l[i]? = some (x, y) →
    w.cell? ⟨b, off + i * 2, none⟩ = some (.int .i64 x) ∧ w.cell? ⟨b, off + i * 2 + 1, none⟩ = some (.int .i64 y))

theorem TwoAt.below {w w' : World} {B : Nat} {A : Option Addr} {n : Nat} {l : List (Int × Int)} (h : TwoAt w B A n l) (hb : Below B w w') : TwoAt w' B A n l :=
  ⟨h.1, fun hn => by
    obtain ⟨b, off, e, hlt, hc⟩ := h.2 hn
    exact ⟨b, off, e, hlt, fun i x y hi => ⟨(hb.cell hlt).trans (hc i x y hi).1, (hb.cell hlt).trans (hc i x y hi).2⟩⟩⟩

theorem TwoAt.fwd {w W : World} {A : Option Addr} {n : Nat} {l : List (Int × Int)} (h : TwoAt w w.heap.size A n l) (hW : Below w.heap.size w W) : TwoAt W W.heap.size A n l :=
  ⟨h.1, fun hn => by
    obtain ⟨b, off, e, hlt, hc⟩ := h.2 hn
    have := hW.size
    exact ⟨b, off, e, by omega, fun i x y hi => ⟨(hW.cell hlt).trans (hc i x y hi).1, (hW.cell hlt).trans (hc i x y hi).2⟩⟩⟩

theorem TwoAt.nil (w : World) (B : Nat) (A : Option Addr) : TwoAt w B A 0 [] := ⟨rfl, fun h => absurd h (by omega)⟩

theorem TwoAt.at_ {w : World} {B : Nat} {A : Option Addr} {n k : Nat} {l : List (Int × Int)} (h : TwoAt w B A n l) (hk : k < n) :
    ∃ b off x y, A = some ⟨b, off, none⟩ ∧ b < B ∧ l[k]? = some (x, y) ∧ w.cell? ⟨b, off + k * 2, none⟩ = some (.int .i64 x) ∧ w.cell? ⟨b, off + k * 2 + 1, none⟩ = some (.int .i64 y) := by
  obtain ⟨b, off, e, hlt, hc⟩ := h.2 (by omega)
  have hl : k < l.length := by have := h.1; omega
  have hg : l[k]? = some (l[k].1, l[k].2) := List.getElem?_eq_getElem hl
  exact ⟨b, off, _, _, e, hlt, hg, hc k _ _ hg⟩

end Go.Proofs.Ytlledfabkmmgoaa
/- More words for memory. -/
namespace Go.Proofs.Ytlledfabkmmgoaa
open Go.RowKit

theorem bcellK {B : Nat} {W w1 : World} (hb : Below B W w1) {N : Nat} (h : N ≤ B) : (∀ b o, b < N → w1.cell? ⟨b, o, none⟩ = W.cell? ⟨b, o, none⟩) ∧ (∀ b o, b < N → w1.frozen? ⟨b, o, none⟩ = W.frozen? ⟨b, o, none⟩) :=
  ⟨fun b o hlt => hb.cell (p := ⟨b, o, none⟩) (Nat.lt_of_lt_of_le hlt h), fun b o hlt => hb.frozen (p := ⟨b, o, none⟩) (Nat.lt_of_lt_of_le hlt h)⟩

theorem keepCell {W w1 : World} (hb : Below W.heap.size W w1) {p : Addr} {v : Value} (h : W.cell? p = some v) : w1.cell? p = some v :=
  (hb.cell (World.block_lt_of_cell? W p h)).trans h

end Go.Proofs.Ytlledfabkmmgoaa
/- The way from a walk that returns true and leaves old memory alone to a law's row: once for all laws. -/
namespace Go.Proofs.Ytlledfabkmmgoaa
open Go.ChangeShapes Go.WideShapes Go.ChangeAt Go.RowKit Go.WideElems

section
variable {H : Type} {enc : TypeId × Value → H} {P : Program}

theorem trodAll_back (hl : laidOutB P = true) {W W' : World} {sp' : Nat → Bool} (hb : Below W.heap.size W W') :
    ∀ (ts : List TypeId) (vs : List Value) (ds : List (DataW H)) (ps : List MemPlace), (∀ t ∈ ts, P.readableRec t = true ∧ t < P.types.size) →
      DataW.TrodAll enc P W 0 (fun _ => true) true ts vs ds ps → (∀ p ∈ ps, p.block < W.heap.size) → (∀ p ∈ ps, sp' p.block = true) → DataW.TrodAll enc P W' 0 sp' true ts vs ds ps
  | [], [], [], _, _, h, _, _ => h
  | t :: ts, v :: vs, d :: ds, ps, hr, ⟨p, q, h1, h2, e⟩, hlt, hs => by
    subst e
    refine ⟨p, q, Trod_stays hl (hr t (by simp)).1 (hr t (by simp)).2 h1 (fun x hx => hb.same (hlt x (by simp [hx]))) (fun x hx => hs x (by simp [hx])), ?_, rfl⟩
    exact trodAll_back hl hb ts vs ds q (fun t ht => hr t (by simp [ht])) h2 (fun x hx => hlt x (by simp [hx])) (fun x hx => hs x (by simp [hx]))
  | [], [], _ :: _, _, _, h, _, _ => h.elim
  | [], _ :: _, _, _, _, h, _, _ => h.elim
  | _ :: _, [], _, _, _, h, _, _ => h.elim
  | _ :: _, _ :: _, [], _, _, h, _, _ => h.elim

theorem law_post {fn : Func} {s : ChangeSpec} {apart fresh handsOn again : Bool} {tb : TypeId} {W W' : World} {args : Array Value} {ds gs : List (DataW H)} {before : List MemPlace}
    (hl : laidOutB P = true) (hread : (fn.params.toList.all fun t => P.readableRec t && decide (t < P.types.size)) = true) (hv : s.vars = []) (hrt : fn.resultTypes = #[tb]) (ub : P.underlying tb = some .bool)
    (hW : DataW.Whole enc P fn.params.toList s.vars apart W args.toList ds gs before) (hsp : s.fn H (ds ++ gs) = { results := [.lit (.bool true)], args := ds }) (hb : Below W.heap.size W W') :
    s.post enc P fn apart fresh handsOn again W args (.bool true) W' := by
  have hlt : ∀ p ∈ before, p.block < W.heap.size := fun p hp => hW.lt p hp
  obtain ⟨p, q, hA, hV, rfl, hz, hn⟩ := id hW
  have hrd : ∀ t ∈ fn.params.toList, P.readableRec t = true ∧ t < P.types.size := fun t ht => by
    have := List.all_eq_true.1 hread t ht
    simpa using this
  have hq : gs = [] ∧ q = [] := by
    rw [hv] at hV
    obtain ⟨h1, h2⟩ := trodVars_none hV
    exact ⟨h1, h2⟩
  obtain ⟨rfl, rfl⟩ := hq
  have hargs : ∀ sp : Nat → Bool, (∀ x ∈ p ++ [], sp x.block = true) → DataW.TrodAll enc P W' 0 sp true fn.params.toList args.toList ds p := fun sp hs =>
    trodAll_back hl hb _ _ _ _ hrd hA (fun x hx => hlt x (by simp [hx])) (fun x hx => hs x (by simp [hx]))
  have hres : ∀ (b : Nat) (sp : Nat → Bool) (hd : Bool), DataW.TrodAll enc P W' b sp hd fn.resultTypes.toList ((Value.bool true).resultList fn.resultTypes.size) [.lit (.bool true)] [] := fun b sp hd => by
    rw [hrt]
    exact trodAll_mk1 (shut_bool ub true)
  have hvars : ∀ sp : Nat → Bool, DataW.TrodVars enc P W' sp s.vars [] [] := fun sp => by rw [hv]; rfl
  have hold : ∀ x ∈ p ++ [], (fun b => decide (b < W.heap.size)) x.block = true := fun x hx => by simpa using hlt x hx
  have hok : ∀ (j : Nat) (t : TypeId) (r : Value), fn.resultTypes[j]? = some t → ((Value.bool true).resultList fn.resultTypes.size)[j]? = some r → Value.okWide P W' .any 0 t r :=
    ok_one hrt rfl (okWide_bool_mk ub true)
  refine ⟨ds, [], p ++ [], [], p, [], hW, ?_, ?_, ?_, World.keptBut_mono (fun x hx => ⟨hx, ?_⟩) (hb.frame (· ∈ p ++ [])), fun _ => ?_⟩
  · rw [hsp]; exact hres _ _ _
  · rw [hsp]; exact hargs _ hold
  · rw [hsp]; exact hvars _
  · exact .inr (.inl (by simpa using hx))
  · refine ⟨hok, [.lit (.bool true)] ++ ds, [], p, ⟨[] ++ p, [], ?_, hvars _, by simp, ?_, ?_⟩, ?_⟩
    · exact trodAll_append (hargs (fun _ => true) (fun _ _ => rfl)) (hres 0 (fun _ => true) true)
    · intro b off hp
      have hin : MemPlace.cell b off ∈ p ++ [] := by simpa using hp
      rw [hb.frozen (p := ⟨b, off, none⟩) (hlt _ hin)]
      exact hz b off hin
    · intro ha
      simpa using hn ha
    · intro x hx _
      simpa using hx

theorem law_calls {f : FuncId} {fn : Func} {s : ChangeSpec} {apart fresh handsOn again : Bool} {tb : TypeId} {W : World} {args : Array Value} {ds gs : List (DataW H)} {before : List MemPlace}
    (hl : laidOutB P = true) (hread : (fn.params.toList.all fun t => P.readableRec t && decide (t < P.types.size)) = true) (hv : s.vars = []) (hrt : fn.resultTypes = #[tb]) (ub : P.underlying tb = some .bool)
    (hW : DataW.Whole enc P fn.params.toList s.vars apart W args.toList ds gs before) (hsp : s.fn H (ds ++ gs) = { results := [.lit (.bool true)], args := ds })
    (h : Calls P f args W (Rets (.bool true) W)) : Calls P f args W fun e W' => ∃ v, e = .returned v ∧ s.post enc P fn apart fresh handsOn again W args v W' :=
  h.mono fun _ _ ⟨he, hb⟩ => ⟨_, he, law_post hl hread hv hrt ub hW hsp hb⟩
end
end Go.Proofs.Ytlledfabkmmgoaa
/- Closed facts of the program that each row wants. -/
namespace Go.Proofs.Ytlledfabkmmgoaa
theorem Try.own : ownKnob Try.prog.godebug = none := by kernel_rfl
theorem Try.laidOut : laidOutB Try.prog = true := by kernel_rfl
theorem cells_int : Try.prog.cellsOf 3 = 1 := by kernel_rfl
end Go.Proofs.Ytlledfabkmmgoaa
/- Arguments opened: whatever is built of numbers, truths, strings, structs and slices is settled data. Over any program. -/
namespace Go.Proofs.Ytlledfabkmmgoaa
open Go Go.ChangeShapes Go.WideShapes Go.ChangeAt Go.RowKit Go.WideElems Go.Deep

/-- What a cell of a type's holds. -/
inductive Cs where
  | int (k : IntKind) | bool | str
  | sl (k : Nat) (ag : Bool) (e : List Cs)
def mkEl (ag : Bool) (ds : List D) : D := match ag, ds with
  | false, [d] => d
  | _, ds => .agg ds
mutual
def OfC : Cs → D → Prop
  | .int k, x => ∃ n, x = .lit (.int k n) ∧ (Lit.int k n).wf = true
  | .bool, x => ∃ b, x = .lit (.bool b)
  | .str, x => ∃ s : ByteArray, x = .lit (.string s) ∧ s.size ≤ maxLen
  | .sl k ag e, x => ∃ es, x = .sd k false es ∧ es.length ≤ maxLen ∧ ∀ y ∈ es, ∃ ds, y = mkEl ag ds ∧ OfCs e ds
def OfCs : List Cs → List D → Prop
  | [], [] => True
  | c :: r, d :: s => OfC c d ∧ OfCs r s
  | _, _ => False
end
theorem OfC.cells {c : Cs} {d : D} (h : OfC c d) : d.cells = [d] := by
  cases c with
  | int k => simp only [OfC] at h; obtain ⟨n, rfl, _⟩ := h; rfl
  | bool => simp only [OfC] at h; obtain ⟨n, rfl⟩ := h; rfl
  | str => simp only [OfC] at h; obtain ⟨n, rfl, _⟩ := h; rfl
  | sl k ag e => simp only [OfC] at h; obtain ⟨n, rfl, _⟩ := h; rfl
theorem OfCs.len : ∀ {l : List Cs} {ds : List D}, OfCs l ds → ds.length = l.length
  | [], [], _ => rfl
  | c :: r, d :: s, h => by simp only [OfCs] at h; simp [OfCs.len h.2]
  | [], _ :: _, h => by simp [OfCs] at h
  | _ :: _, [], h => by simp [OfCs] at h
theorem OfCs.app : ∀ {a b : List Cs} {x y : List D}, OfCs a x → OfCs b y → OfCs (a ++ b) (x ++ y)
  | [], _, [], _, _, h => h
  | c :: r, _, d :: s, _, h, k => by
    simp only [OfCs, List.cons_append] at h ⊢
    exact ⟨h.1, OfCs.app h.2 k⟩
  | [], _, _ :: _, _, h, _ => by simp [OfCs] at h
  | _ :: _, _, [], _, h, _ => by simp [OfCs] at h
theorem mkEl_cells {ag : Bool} {l : List Cs} {ds : List D} (h : OfCs l ds) : (mkEl ag ds).cells = ds := by
  unfold mkEl
  split
  · match l, h with
    | c :: [], h =>
      simp only [OfCs] at h
      exact h.1.cells
    | [], h => simp [OfCs] at h
    | _ :: _ :: _, h => simp [OfCs] at h
  · rfl
def isStT (P : Program) (t : Nat) : Bool := match P.underlying t with
  | some (.struct _) => true
  | _ => false
def fieldsC (P : Program) (g : Nat → Option (List Cs)) : List Field → Nat → Option (List Cs)
  | [], _ => some []
  | f :: r, o => if f.offset = o then (match g f.type with
    | some a => if P.cellsOf f.type = a.length then (fieldsC P g r (o + a.length)).map (a ++ ·) else none
    | none => none) else none
def shC (P : Program) : Nat → Nat → Option (List Cs)
  | 0, _ => none
  | d + 1, t => match P.underlying t with
    | some (.int k) => some [.int k]
    | some .bool => some [.bool]
    | some .string => some [.str]
    | some (.struct fs) => (match fieldsC P (shC P d) fs.toList 0 with
      | some l => if P.cellsOf t = l.length then some l else none
      | none => none)
    | some (.slice e) => (match shC P d e with
      | some l => if P.cellsOf e = l.length ∧ 0 < l.length then some [.sl l.length (isStT P e) l] else none
      | none => none)
    | _ => none

section
variable {H : Type} {enc : TypeId × Value → H} {P : Program} {w : World} {held : Bool}
def Old (w : World) : Nat → Prop := fun b => b < w.heap.size
def GoodL (w : World) (ds : List D) (cs : List Value) : Prop := ds.length = cs.length ∧ (∀ v ∈ cs, v.oneCell' = true) ∧ ∀ (i : Nat) c v, ds[i]? = some c → cs[i]? = some v → DenD w (Old w) c v
theorem GoodL.nil : GoodL w [] [] := ⟨rfl, (fun v hv => by cases hv), (fun i c v h => by simp at h)⟩
theorem GoodL.one {d : D} {v : Value} (ho : v.oneCell' = true) (h : DenD w (Old w) d v) : GoodL w [d] [v] :=
  ⟨rfl, fun x hx => by simp at hx; subst hx; exact ho, fun i c x hc hx => by
    match i, hc, hx with
    | 0, hc, hx => simp at hc hx; subst hc hx; exact h⟩
theorem GoodL.app {a b : List D} {x y : List Value} (h : GoodL w a x) (k : GoodL w b y) : GoodL w (a ++ b) (x ++ y) := by
  refine ⟨by simp [h.1, k.1], fun v hv => ?_, fun i c v hc hv => ?_⟩
  · rcases List.mem_append.1 hv with hv | hv
    · exact h.2.1 v hv
    · exact k.2.1 v hv
  · rw [List.getElem?_append] at hc hv
    rw [h.1] at hc
    split at hc
    · rename_i hlt
      rw [if_pos hlt] at hv
      exact h.2.2 i c v hc hv
    · rename_i hlt
      rw [if_neg hlt] at hv
      exact k.2.2 _ c v hc hv
theorem open_fields {d n : Nat} (ih : ∀ t l, shC P d t = some l → ∀ (fuel : Nat) cs x, DataW.trod enc P w 0 (fun _ => true) held fuel t cs = some x → ∃ ds, OfCs l ds ∧ GoodL w ds cs) {cs : List Value} :
    ∀ (fs : List Field) (o : Nat) (l : List Cs), fieldsC P (shC P d) fs o = some l → (∀ f ∈ fs, ∃ x, DataW.trod enc P w 0 (fun _ => true) held n f.type ((cs.drop f.offset).take (P.cellsOf f.type)) = some x) →
      ∃ ds, OfCs l ds ∧ GoodL w ds ((cs.drop o).take l.length)
  | [], o, l, h, _ => by
    simp only [fieldsC, Option.some.injEq] at h
    subst h
    exact ⟨[], by simp [OfCs], by simpa using GoodL.nil⟩
  | f :: fs, o, l, h, hx => by
    simp only [fieldsC] at h
    split at h
    rotate_left
    · cases h
    rename_i ho
    split at h
    rotate_left
    · cases h
    rename_i a ha
    split at h
    rotate_left
    · cases h
    rename_i hc
    simp only [Option.map_eq_some_iff] at h
    obtain ⟨b, hb, rfl⟩ := h
    obtain ⟨x, h1⟩ := hx f List.mem_cons_self
    obtain ⟨d1, p1, q1⟩ := ih f.type a ha n _ _ h1
    obtain ⟨d2, p2, q2⟩ := open_fields ih fs (o + a.length) b hb (fun g hg => hx g (List.mem_cons_of_mem _ hg))
    refine ⟨d1 ++ d2, p1.app p2, ?_⟩
    have e : (cs.drop o).take (a ++ b).length = (cs.drop f.offset).take (P.cellsOf f.type) ++ (cs.drop (o + a.length)).take b.length := by
      rw [ho, hc, List.length_append, List.take_add, List.drop_drop]
    rw [e]
    exact q1.app q2
theorem plain_addr {a : Addr} {v : Value} (h : w.cell? a = some v) : a = ⟨a.block, a.off, none⟩ ∧ a.block < w.heap.size := by
  refine ⟨?_, World.block_lt_of_cell? w _ h⟩
  rcases a with ⟨b, o, s⟩
  cases s with
  | none => rfl
  | some s => simp [World.cell?] at h; split at h <;> simp at h
theorem add_plain (b o n : Nat) : (Addr.mk b o none).add n = ⟨b, o + n, none⟩ := by
  unfold Addr.add
  split <;> simp_all
theorem open_cells : ∀ (d t : Nat) (l : List Cs), shC P d t = some l → ∀ (fuel : Nat) cs x, DataW.trod enc P w 0 (fun _ => true) held fuel t cs = some x → ∃ ds, OfCs l ds ∧ GoodL w ds cs := by
  intro d
  induction d with
  | zero => intro t l h; simp [shC] at h
  | succ d ih =>
    intro t l h fuel cs x ht
    simp only [shC] at h
    split at h
    · rename_i k hu
      injection h with h; subst h
      obtain ⟨n, rfl, _, hw⟩ := DataW.trod_int hu ht
      exact ⟨[.lit (.int k n)], by simp only [OfCs, OfC]; exact ⟨⟨n, rfl, hw⟩, trivial⟩, GoodL.one rfl (DenD.lit _)⟩
    · rename_i hu
      injection h with h; subst h
      obtain ⟨n, rfl, _⟩ := DataW.trod_bool hu ht
      exact ⟨[.lit (.bool n)], by simp only [OfCs, OfC]; exact ⟨⟨n, rfl⟩, trivial⟩, GoodL.one rfl (DenD.lit _)⟩
    · rename_i hu
      injection h with h; subst h
      obtain ⟨n, rfl, _, hw⟩ := DataW.trod_string hu ht
      exact ⟨[.lit (.string n)], by simp only [OfCs, OfC]; exact ⟨⟨n, rfl, hw⟩, trivial⟩, GoodL.one rfl (DenD.lit _)⟩
    · rename_i fs hu
      split at h
      rotate_left
      · cases h
      rename_i l' hl'
      split at h
      rotate_left
      · cases h
      rename_i hcl
      injection h with h; subst h
      obtain ⟨xs, n, _, _, hlen, hxs, hg⟩ := DataW.trod_struct hu ht
      obtain ⟨ds, h1, h2⟩ := open_fields (n := n) (cs := cs) ih fs.toList 0 l' hl' (fun f hf => by
        obtain ⟨i, hi, rfl⟩ := List.getElem_of_mem hf
        have hi' : i < fs.size := by simpa using hi
        have := hg i fs[i] (by simp [hi'])
        refine ⟨xs[i]'(by omega), ?_⟩
        have e : fs.toList[i] = fs[i] := by simp
        rw [e, this]
        exact List.getElem?_eq_getElem (by omega))
      refine ⟨ds, h1, ?_⟩
      rw [List.drop_zero, List.take_of_length_le (by omega)] at h2
      exact h2
    · rename_i e hu
      split at h
      rotate_left
      · cases h
      rename_i l' hl'
      split at h
      rotate_left
      · cases h
      rename_i hcl
      obtain ⟨hcl, hpos⟩ := hcl
      injection h with h; subst h
      rcases open_slice hu ht with ⟨rfl, _⟩ | ⟨a, len, cap, m, n, D', Pl, rfl, _, hle, hm, hmm, _, hall⟩
      · refine ⟨[.sd l'.length false []], ?_, GoodL.one rfl (DenD.sd0 _ _ _)⟩
        simp only [OfCs, OfC]
        exact ⟨⟨[], rfl, Nat.zero_le _, fun y hy => by cases hy⟩, trivial⟩
      · rw [if_pos rfl] at hmm
        subst hmm
        rw [hcl] at hall
        rcases Nat.eq_zero_or_pos m with h0 | h0
        · have hl0 : len = 0 := by omega
          subst hl0 h0
          refine ⟨[.sd l'.length false []], ?_, GoodL.one rfl (DenD.sd0 _ _ _)⟩
          simp only [OfCs, OfC]
          exact ⟨⟨[], rfl, Nat.zero_le _, fun y hy => by cases hy⟩, trivial⟩
        · have hpl : a = ⟨a.block, a.off, none⟩ ∧ a.block < w.heap.size := by
            obtain ⟨cs', hc', _⟩ := hall 0 h0
            obtain ⟨_, hcl', hat⟩ := World.cells?_some hc'
            have h1 := hat 0 hpos
            rw [List.getElem?_eq_getElem (by omega)] at h1
            rw [Go.Deep.add_add] at h1
            simpa [Addr.add] using plain_addr h1
          obtain ⟨ha, hbl⟩ := hpl
          have hel : ∀ i, i < m → ∃ ds, OfCs l' ds ∧ ∀ (j : Nat) c, ds[j]? = some c → ∃ v, w.cell? ⟨a.block, a.off + i * l'.length + j, none⟩ = some v ∧ v.oneCell' = true ∧ DenD w (Old w) c v := by
            intro i hi
            obtain ⟨cs', hc', ht'⟩ := hall i hi
            obtain ⟨_, hcl', hat⟩ := World.cells?_some hc'
            obtain ⟨ds, h1, h2⟩ := ih e l' hl' n cs' _ ht'
            refine ⟨ds, h1, fun j c hj => ?_⟩
            have hjl : j < cs'.length := by rw [← h2.1]; exact (List.getElem?_eq_some_iff.1 hj).1
            have h3 := hat j (by omega)
            rw [Go.Deep.add_add, ha, add_plain, List.getElem?_eq_getElem hjl] at h3
            refine ⟨cs'[j], ?_, h2.2.1 _ (List.getElem_mem hjl), h2.2.2 j c _ hj (List.getElem?_eq_getElem hjl)⟩
            rw [← h3, Nat.add_assoc]
          let F : Nat → List D := fun i => if hi : i < m then (hel i hi).choose else []
          have hF : ∀ i, i < m → OfCs l' (F i) ∧ ∀ (j : Nat) c, (F i)[j]? = some c → ∃ v, w.cell? ⟨a.block, a.off + i * l'.length + j, none⟩ = some v ∧ v.oneCell' = true ∧ DenD w (Old w) c v := by
            intro i hi
            have e : F i = (hel i hi).choose := by simp only [F, hi, dif_pos]
            rw [e]
            exact (hel i hi).choose_spec
          have hes : ∀ (i : Nat) y, ((List.range len).map fun i => mkEl (isStT P e) (F i))[i]? = some y → i < m ∧ y = mkEl (isStT P e) (F i) := by
            intro i y hy
            simp only [List.getElem?_map, Option.map_eq_some_iff] at hy
            obtain ⟨k, hk, rfl⟩ := hy
            obtain ⟨hk1, hk2⟩ := List.getElem?_eq_some_iff.1 hk
            simp at hk1 hk2
            subst hk2
            exact ⟨by omega, rfl⟩
          refine ⟨[.sd l'.length false ((List.range len).map fun i => mkEl (isStT P e) (F i))], ?_, GoodL.one rfl ?_⟩
          · simp only [OfCs, OfC]
            refine ⟨⟨_, rfl, by simp; omega, fun y hy => ?_⟩, trivial⟩
            obtain ⟨i, hi⟩ := List.mem_iff_getElem?.1 hy
            obtain ⟨h1, h2⟩ := hes i y hi
            exact ⟨F i, h2, (hF i h1).1⟩
          · rw [ha]
            have key := DenD.sd (w := w) (I := Old w) l'.length false ((List.range len).map fun i => mkEl (isStT P e) (F i)) a.block a.off m (fun i j => (w.cell? ⟨a.block, a.off + i * l'.length + j, none⟩).getD undef) hbl
              (fun i y hy => by
                obtain ⟨h1, rfl⟩ := hes i y hy
                rw [mkEl_cells (hF i h1).1, (hF i h1).1.len])
              (fun i y j c hy hj => by
                obtain ⟨h1, rfl⟩ := hes i y hy
                rw [mkEl_cells (hF i h1).1] at hj
                obtain ⟨v, v1, _, _⟩ := (hF i h1).2 j c hj
                rw [v1]; rfl)
              (fun i y j c hy hj => by
                obtain ⟨h1, rfl⟩ := hes i y hy
                rw [mkEl_cells (hF i h1).1] at hj
                obtain ⟨v, v1, v2, _⟩ := (hF i h1).2 j c hj
                simp only [v1, Option.getD_some]; exact v2)
              (fun i y j c hy hj => by
                obtain ⟨h1, rfl⟩ := hes i y hy
                rw [mkEl_cells (hF i h1).1] at hj
                obtain ⟨v, v1, _, v3⟩ := (hF i h1).2 j c hj
                simp only [v1, Option.getD_some]; exact v3)
              (by simp; omega) (by simp)
            simpa using key
    · cases h
/-- What an argument's settled data is. -/
def argD (P : Program) (t : Nat) (ds : List D) : D := mkEl (isStT P t) ds
theorem open_arg {d t b0 : Nat} {l : List Cs} {v : Value} {x : DataW H} {p : List MemPlace} (hs : shC P d t = some l) (hv : Value.okWide P w .any b0 t v) (h : DataW.Trod enc P w 0 (fun _ => true) held t v x p) :
    ∃ ds, OfCs l ds ∧ DenD w (Old w) (argD P t ds) v := by
  obtain ⟨fuel, hf⟩ := h
  obtain ⟨ds, h1, h2⟩ := open_cells d t l hs fuel _ _ hf
  refine ⟨ds, h1, ?_⟩
  have one : ∀ c, l = [c] → isStT P t = false → v.cells = #[v] → DenD w (Old w) (argD P t ds) v := by
    intro c hl hst hc
    subst hl
    match ds, h1 with
    | [d], h1 =>
      unfold argD
      rw [hst]
      exact h2.2.2 0 d v rfl (by rw [hc]; rfl)
    | [], h1 => simp [OfCs] at h1
    | _ :: _ :: _, h1 => simp [OfCs] at h1
  cases d with
  | zero => simp [shC] at hs
  | succ d =>
    simp only [shC] at hs
    split at hs
    · rename_i k hu
      injection hs with hs
      obtain ⟨n, rfl⟩ := okWide_int hu hv
      exact one _ hs.symm (by simp [isStT, hu]) rfl
    · rename_i hu
      injection hs with hs
      obtain ⟨n, rfl⟩ := okWide_bool hu hv
      exact one _ hs.symm (by simp [isStT, hu]) rfl
    · rename_i hu
      injection hs with hs
      obtain ⟨n, rfl⟩ := okWide_string hu hv
      exact one _ hs.symm (by simp [isStT, hu]) rfl
    · rename_i fs hu
      obtain ⟨cs, rfl, hsz⟩ := okWide_struct hu hv
      have e : argD P t ds = .agg ds := by
        have hst : isStT P t = true := by simp [isStT, hu]
        unfold argD mkEl
        rw [hst]
      rw [e]
      have hcs : cs = cs.toList.toArray := by simp
      rw [hcs]
      exact DenD.agg ds cs.toList h2.1 h2.2.1 h2.2.2
    · rename_i e hu
      split at hs
      rotate_left
      · cases hs
      split at hs
      rotate_left
      · cases hs
      injection hs with hs
      obtain ⟨a, n, c, rfl⟩ := okWide_slice hu hv
      exact one _ hs.symm (by simp [isStT, hu]) rfl
    · cases hs
end
end Go.Proofs.Ytlledfabkmmgoaa
/- From what a function does, told of settled data, to a law's row. Over any program. -/
namespace Go.Proofs.Ytlledfabkmmgoaa
open Go Go.ChangeShapes Go.WideShapes Go.ChangeAt Go.RowKit Go.WideElems Go.Deep
section
variable {H : Type} {enc : TypeId × Value → H} {P : Program} {w : World} {held : Bool}
theorem rets_of {f : Nat} {args : List V} {vals : List Value} {b : Bool} (h : OFn P G0 f args [] 0 (bv b) []) (hd : DenL w (Old w) (fun _ => none) args vals) : Calls P f vals.toArray w (Rets (.bool b) w) := by
  have hm : Mem w (Old w) (fun _ => none) [] 0 := ⟨(fun id blk h => by cases h), (fun id id' blk blk' b c c' h => by cases h), fun _ _ => rfl, fun b h => h⟩
  refine (h w (Old w) (fun _ => none) vals hm (fun g x hg => by simp [G0] at hg) hd).mono ?_
  rintro e w' ⟨u, I', β', rfl, h1, h2⟩
  have hu : u = .bool b := den_lit h1
  subst hu
  exact ⟨rfl, h2.os, h2.tape, h2.output, h2.size, fun k hk => h2.block k hk (fun ⟨j, bl, c, g1, _⟩ => by cases g1)⟩
def shCs (P : Program) (d : Nat) : List Nat → Option (List (List Cs))
  | [] => some []
  | t :: ts => match shC P d t, shCs P d ts with
    | some a, some b => some (a :: b)
    | _, _ => none
def OfAll : List (List Cs) → List (List D) → Prop
  | [], [] => True
  | a :: r, d :: s => OfCs a d ∧ OfAll r s
  | _, _ => False
def argsD (P : Program) : List Nat → List (List D) → List V
  | t :: ts, d :: ds => .d (argD P t d) :: argsD P ts ds
  | _, _ => []
theorem open_args {d b0 : Nat} : ∀ (ts : List Nat) (ls : List (List Cs)) (vs : List Value) (xs : List (DataW H)) (ps : List MemPlace), shCs P d ts = some ls →
    (∀ (j : Nat) t v, ts[j]? = some t → vs[j]? = some v → Value.okWide P w .any b0 t v) → DataW.TrodAll enc P w 0 (fun _ => true) held ts vs xs ps → ∃ dss, OfAll ls dss ∧ DenL w (Old w) (fun _ => none) (argsD P ts dss) vs
  | [], ls, [], [], _, hs, _, _ => by
    simp only [shCs, Option.some.injEq] at hs
    subst hs
    exact ⟨[], by simp [OfAll], ⟨rfl, fun i c x h => by cases h⟩⟩
  | t :: ts, ls, v :: vs, x :: xs, ps, hs, hv, ⟨p, q, h1, h2, _⟩ => by
    simp only [shCs] at hs
    split at hs
    rotate_left
    · cases hs
    rename_i a b ha hb
    injection hs with hs
    subst hs
    obtain ⟨ds, g1, g2⟩ := open_arg ha (hv 0 t v rfl rfl) h1
    obtain ⟨dss, g3, g4⟩ := open_args ts b vs xs q hb (fun j t v h k => hv (j + 1) t v h k) h2
    refine ⟨ds :: dss, ⟨g1, g3⟩, ⟨by simp [argsD, g4.1], fun i c x hc hx => ?_⟩⟩
    match i, hc, hx with
    | 0, hc, hx =>
      simp only [argsD, List.getElem?_cons_zero, Option.some.injEq] at hc hx
      subst hc hx
      exact g2
    | i + 1, hc, hx => exact g4.2 i c x hc hx
  | [], _, [], _ :: _, _, _, _, h => h.elim
  | [], _, _ :: _, _, _, _, _, h => h.elim
  | _ :: _, _, [], _, _, _, _, h => h.elim
  | _ :: _, _, _ :: _, [], _, _, _, h => h.elim
/-- Whatever the arguments, if the function returns true of all settled data of their types. -/
theorem law_open {d b0 : Nat} {f : Nat} {ts : List Nat} {ls : List (List Cs)} {args : Array Value} {xs : List (DataW H)} {ps : List MemPlace} (hs : shCs P d ts = some ls)
    (hv : ∀ (j : Nat) t v, ts[j]? = some t → args.toList[j]? = some v → Value.okWide P w .any b0 t v) (hA : DataW.TrodAll enc P w 0 (fun _ => true) held ts args.toList xs ps)
    (h : ∀ dss, OfAll ls dss → OFn P G0 f (argsD P ts dss) [] 0 (bv true) []) : Calls P f args w (Rets (.bool true) w) := by
  obtain ⟨dss, h1, h2⟩ := open_args ts ls args.toList xs ps hs hv hA
  have := rets_of (h dss h1) h2
  simpa using this
theorem list_of {α : Type} {es : List D} (f : α → D) (h : ∀ y ∈ es, ∃ x, y = f x) : ∃ l : List α, es = l.map f := by
  induction es with
  | nil => exact ⟨[], rfl⟩
  | cons e r ih =>
    obtain ⟨x, rfl⟩ := h e List.mem_cons_self
    obtain ⟨l, rfl⟩ := ih fun y hy => h y (List.mem_cons_of_mem _ hy)
    exact ⟨x :: l, rfl⟩
theorem trod_len : ∀ {ts : List Nat} {vs : List Value} {xs : List (DataW H)} {ps : List MemPlace}, DataW.TrodAll enc P w 0 (fun _ => true) held ts vs xs ps → xs.length = ts.length
  | [], [], [], _, _ => rfl
  | t :: ts, v :: vs, x :: xs, ps, ⟨p, q, h1, h2, _⟩ => by simp [trod_len h2]
  | [], [], _ :: _, _, h => h.elim
  | [], _ :: _, _, _, h => h.elim
  | _ :: _, [], _, _, h => h.elim
  | _ :: _, _ :: _, [], _, h => h.elim
end
end Go.Proofs.Ytlledfabkmmgoaa
/- The arguments of the laws on selections, opened. -/
namespace Go.Proofs.Ytlledfabkmmgoaa
open Go Go.ChangeShapes Go.WideShapes Go.ChangeAt Go.RowKit Go.Joins
theorem two_of {es : List D} (h : ∀ y ∈ es, ∃ ds, y = mkEl true ds ∧ OfCs [.int .i64, .int .i64] ds) : ∃ l : List Se, es = l.map seD := by
  refine list_of seD fun y hy => ?_
  obtain ⟨ds, rfl, hd⟩ := h y hy
  match ds, hd with
  | [a, b], hd =>
    simp only [OfCs, OfC] at hd
    obtain ⟨⟨m, rfl, _⟩, ⟨k, rfl, _⟩, _⟩ := hd
    exact ⟨(m, k), rfl⟩
  | [], hd => simp [OfCs] at hd
  | [_], hd => simp [OfCs] at hd
  | _ :: _ :: _ :: _, hd => simp [OfCs] at hd
theorem st_int : isStT Try.prog 3 = false := by kernel_rfl
theorem st_sels : isStT Try.prog 39 = false := by kernel_rfl
theorem args_two {dss : List (List D)} (h : OfAll [[.int .i64], [.sl 2 true [.int .i64, .int .i64]]] dss) : ∃ (n : Int) (l : List Se), l.length ≤ maxLen ∧ argsD Try.prog [3, 39] dss = [iv n, seL l] := by
  match dss, h with
  | [[a], [b]], h =>
    simp only [OfAll, OfCs, OfC] at h
    obtain ⟨⟨⟨n, rfl, _⟩, _⟩, ⟨⟨es, rfl, hle, hes⟩, _⟩, _⟩ := h
    obtain ⟨l, rfl⟩ := two_of hes
    exact ⟨n, l, by simpa using hle, by simp only [argsD, argD, st_int, st_sels, mkEl]⟩
  | [], h => simp [OfAll] at h
  | [_], h => simp [OfAll] at h
  | [] :: _ :: _, h => simp [OfAll, OfCs] at h
  | (_ :: _ :: _) :: _ :: _, h => simp [OfAll, OfCs] at h
  | _ :: [] :: _, h => simp [OfAll, OfCs] at h
  | _ :: (_ :: _ :: _) :: _, h => simp [OfAll, OfCs] at h
  | _ :: _ :: _ :: _, h => simp [OfAll] at h
theorem four_of {es : List D} (h : ∀ y ∈ es, ∃ ds, y = mkEl true ds ∧ OfCs [.int .i64, .int .i64, .int .i64, .int .i64] ds) : ∃ l : List Ch, es = l.map chD := by
  refine list_of chD fun y hy => ?_
  obtain ⟨ds, rfl, hd⟩ := h y hy
  match ds, hd with
  | [a, b, c, d], hd =>
    simp only [OfCs, OfC] at hd
    obtain ⟨⟨m, rfl, _⟩, ⟨k, rfl, _⟩, ⟨p, rfl, _⟩, ⟨q, rfl, _⟩, _⟩ := hd
    exact ⟨(m, k, p, q), rfl⟩
  | [], hd => simp [OfCs] at hd
  | [_], hd => simp [OfCs] at hd
  | [_, _], hd => simp [OfCs] at hd
  | [_, _, _], hd => simp [OfCs] at hd
  | _ :: _ :: _ :: _ :: _ :: _, hd => simp [OfCs] at hd
theorem st_changes : isStT Try.prog 56 = false := by kernel_rfl
theorem args_three {dss : List (List D)} (h : OfAll [[.int .i64], [.sl 2 true [.int .i64, .int .i64]], [.sl 4 true [.int .i64, .int .i64, .int .i64, .int .i64]]] dss) :
    ∃ (n : Int) (l : List Se) (cs : List Ch), l.length ≤ maxLen ∧ cs.length ≤ maxLen ∧ argsD Try.prog [3, 39, 56] dss = [iv n, seL l, chL cs] := by
  match dss, h with
  | a :: b :: [c], h =>
    simp only [OfAll] at h
    obtain ⟨h1, h2, h3, _⟩ := h
    obtain ⟨n, l, hl, e⟩ := args_two (dss := [a, b]) ⟨h1, h2, trivial⟩
    match c, h3 with
    | [x], h3 =>
      simp only [OfCs, OfC] at h3
      obtain ⟨⟨es, rfl, hle, hes⟩, _⟩ := h3
      obtain ⟨cs, rfl⟩ := four_of hes
      refine ⟨n, l, cs, hl, by simpa using hle, ?_⟩
      simp only [argsD, List.cons.injEq, and_true] at e ⊢
      refine ⟨e.1, e.2, ?_⟩
      simp only [argD, st_changes, mkEl]
    | [], h3 => simp [OfCs] at h3
    | _ :: _ :: _, h3 => simp [OfCs] at h3
  | [], h => simp [OfAll] at h
  | [_], h => simp [OfAll] at h
  | [_, _], h => simp [OfAll] at h
  | _ :: _ :: _ :: _ :: _, h => simp [OfAll] at h
end Go.Proofs.Ytlledfabkmmgoaa
namespace Go.Proofs.Ytlledfabkmmgoaa
open Go Go.ChangeShapes Go.WideShapes Go.ChangeAt Go.RowKit Go.Joins

set_option maxRecDepth 100000 in
theorem selectsShift_lifted (os : Os) (started : os.Started) (H : Type) (enc : TypeId × Value → H) :
    ReturnsInHanded {} Try.checked os 8 .any (Rows.selectsShiftSpec.pre6 enc Try.prog Try.f8 Rows.selectsShiftRow.domain false) (Rows.selectsShiftSpec.post enc Try.prog Try.f8 false true false false) := by
  refine returnsInHanded_of_change (C := Try.checked) Try.own started (by kernel_rfl) Try.func8
    (ChangeSpec.witness6 (enc := enc) (C := Try.checked) false ⟨#[], #[.int .i64 0, .slice none 0 0, .slice none 0 0], []⟩ 8 (by kernel_rfl) (by kernel_rfl) (by kernel_rfl) (by kernel_rfl)) ?_
  intro W base args ds gs before hval0 hW _ _
  have hval : ∀ (j : Nat) t v, Try.f8.params[j]? = some t → args[j]? = some v → Value.okWide Try.prog W .any base t v := hval0
  obtain ⟨p, q, hA0, hV, hpq, hfz, hnd⟩ := id hW
  have hA : DataW.TrodAll enc Try.prog W 0 (fun _ => true) true Try.f8.params.toList args.toList ds p := hA0
  obtain ⟨hgs, hq⟩ := trodVars_none hV
  have hlen := trod_len hA
  rw [Try.params8] at hA hval hlen
  subst hgs
  have hsp : Rows.selectsShiftSpec.fn H (ds ++ []) = { results := [.lit (.bool true)], args := ds } := by
    rw [List.append_nil]
    simp only [List.length_cons, List.length_nil] at hlen
    first
      | (obtain ⟨d0, rfl⟩ := List.length_eq_one_iff.1 hlen; rfl)
      | (match ds, hlen with | [d0, d1], _ => rfl)
      | (match ds, hlen with | [d0, d1, d2], _ => rfl)
      | (match ds, hlen with | [d0, d1, d2, d3], _ => rfl)
      | (match ds, hlen with | [d0, d1, d2, d3, d4], _ => rfl)
  refine law_calls (P := Try.prog) Try.laidOut (by kernel_rfl) rfl rfl Try.underlying4 hW hsp (law_open (ls := [[.int .i64], [.sl 2 true [.int .i64, .int .i64]], [.sl 4 true [.int .i64, .int .i64, .int .i64, .int .i64]]]) (d := 20) (by kernel_rfl) (fun j t v h k => hval j t v (by simpa using h) (by simpa using k)) hA ?_)
  intro dss h
  obtain ⟨n, l, cs, hl, hc, e⟩ := args_three h
  rw [e]
  exact lawShift_fn n l cs hl hc

theorem selectsShift_holds : Rows.SelectsShiftSaid :=
  OpenClaim.holds_of_wide 8 Try.f8 rfl rfl rfl rfl rfl rfl rfl ⟨rfl, rfl, rfl, rfl, rfl⟩ rfl rfl rfl rfl rfl (by kernel_rfl) Try.func8 (by kernel_rfl)
    (of_decide_eq_true (by kernel_rfl)) (by unfold Func.isWrapper; rw [if_neg (of_decide_eq_false (by kernel_rfl))]; exact ⟨rfl, rfl⟩)
    (fun os started H enc _ => selectsShift_lifted os started H enc)

#print axioms selectsShift_holds
end Go.Proofs.Ytlledfabkmmgoaa
