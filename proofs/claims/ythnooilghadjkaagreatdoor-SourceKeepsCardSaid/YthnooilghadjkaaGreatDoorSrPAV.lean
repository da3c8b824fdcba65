/- What the theorem leans on, part 22. -/
import Derived.Test.YthnooilghadjkaaGreatDoorSrPAA
import Derived.Test.YthnooilghadjkaaGreatDoorSrPAB
import Derived.Test.YthnooilghadjkaaGreatDoorSrPAC
import Derived.Test.YthnooilghadjkaaGreatDoorSrPAD
import Derived.Test.YthnooilghadjkaaGreatDoorSrPAE
import Derived.Test.YthnooilghadjkaaGreatDoorSrPAF
import Derived.Test.YthnooilghadjkaaGreatDoorSrPAG
import Derived.Test.YthnooilghadjkaaGreatDoorSrPAH
import Derived.Test.YthnooilghadjkaaGreatDoorSrPAI
import Derived.Test.YthnooilghadjkaaGreatDoorSrPAJ
import Derived.Test.YthnooilghadjkaaGreatDoorSrPAK
import Derived.Test.YthnooilghadjkaaGreatDoorSrPAL
import Derived.Test.YthnooilghadjkaaGreatDoorSrPAM
import Derived.Test.YthnooilghadjkaaGreatDoorSrPAN
import Derived.Test.YthnooilghadjkaaGreatDoorSrPAO
import Derived.Test.YthnooilghadjkaaGreatDoorSrPAP
import Derived.Test.YthnooilghadjkaaGreatDoorSrPAQ
import Derived.Test.YthnooilghadjkaaGreatDoorSrPAR
set_option linter.unusedSimpArgs false
set_option linter.unusedVariables false
set_option maxRecDepth 8000
namespace Go.Proofs.YthnooilghadjkaaGreatDoor
section
variable (s : ByteArray) (L : List Iy) (H : List Sn) (N : Int)
set_option maxHeartbeats 6400000 in
theorem none21_err (hk : OkM s L H N) (hx : ∀ x ∈ L, x.2.2.2.2.size ≤ 200) (he : errN ((runesAt s 0).length + N) L ≠ 0) : OFn Tryz.prog G0 16 [txV s L H N] [] 0 (bv true) [] := by
  obtain ⟨k1, k2, k3, k4, k5⟩ := hk
  have hl := runesAt_len s s.size 0 (by omega)
  have r1 := RDecode_fn s (by omega)
  generalize runesAt s 0 = l at *
  have r4 : OFn Tryz.prog G0 31 [iv (l.length + N), .d (.sd 5 false (L.map iyD))] [] 0 (.d (.agg [iD 0, nilSD, iD (errN (l.length + N) L)])) [] := by
    by_cases hn : (l.length : Int) + N < 0
    · rw [show errN (l.length + N) L = 1 from if_pos hn]; exact rNew13_neg _ hn L
    · rw [show errN (l.length + N) L = inlErr (l.length + N) [] L from if_neg hn] at he ⊢
      have := rNew13_fn (l.length + N) (by omega) L k2 (fun x h => by have := hx x h; omega)
      rw [newDV, if_neg he] at this
      exact this
  generalize errN (l.length + N) L = er at *
  refine vF mixed [0, 1, 2, 4, 30, 33, 34, 35, 36, 42] Tryz.func16 rfl Tryz.results16 Tryz.ntmps16 ?_
  (refine' zgS)
  refine vL (lv := [0, 1, 2, 4, 30, 33, 34, 35, 36, 42]) mixed (noS s L H N) (fun i => i ≤ L.length) (fun i => L.length - i) (0) ((GhW.go [1, 33, 34, 35] (by exact vT) rfl)) ?_ ?_
  · exact Nat.zero_le _
  intro i g1
  rcases Nat.lt_or_ge i L.length with hi | hi
  · obtain ⟨y, hy⟩ : ∃ y, L[i]? = some y := ⟨_, List.getElem?_eq_getElem hi⟩
    have hys := hx y (List.mem_of_getElem? hy)
    (repeat' (first | (with_reducible first | exact True.intro | refine vD ?_ | refine vG ?_ | refine vE ?_) | (with_reducible refine elX.is i _ (by omega) hy ?_) | with_reducible refine vC (joined_run) ?_ | with_reducible refine DoneW.out ?_ | refine vR ?_ | refine v6 ?_ | with_reducible refine vN ?_ | ((with_reducible first | refine vB (fun h => ?_) (fun h => ?_) | refine vM (fun h => ?_) (fun h => ?_)) <;> (first | (exfalso; omega) | skip))))
    refine AgW.go (i + 1) [1, 33, 34, 35] (by exact vT) ?_ ?_
    · show L.length - (i + 1) < L.length - i
      omega
    · show i + 1 ≤ L.length
      omega
  · (refine' zo3 r1 r4 joined_run)
set_option maxHeartbeats 6400000 in
theorem made21_fn (hk : OkM s L H N) (hx : ∀ x ∈ L, x.2.2.2.2.size ≤ 200) (he : errN ((runesAt s 0).length + N) L = 0) : ∃ ps t, Rp (runesAt s 0) ps t ∧ OFn Tryz.prog G0 15 [txV s L H N] [] 0 (.tup [txD t ((runesAt s 0).length + N) (inlL (insA L)) H, dtV (runesAt s 0) ((runesAt s 0).length + N) (insA L) H, bv true]) [] := by
  obtain ⟨k1, k2, k3, k4, k5⟩ := hk
  have hl := runesAt_len s s.size 0 (by omega)
  obtain ⟨ps, t, R, r2⟩ := rNew_fn s (by omega) (by omega)
  have r1 := RDecode_fn s (by omega)
  refine ⟨ps, t, R, ?_⟩
  generalize runesAt s 0 = l at *
  have hn : ¬ (l.length : Int) + N < 0 := fun hn => by rw [errN, if_pos hn] at he; cases he
  rw [errN, if_neg hn] at he
  have r3 := iNew_all (l.length + N) L (by omega) k2 (fun x h => by have := hx x h; omega) he
  have r4 := rNew13_fn (l.length + N) (by omega) L k2 (fun x h => by have := hx x h; omega)
  rw [newDV, if_pos he] at r4
  simp only [ropeD, inlD] at r2 r3 ⊢
  generalize inlL (insA L) = X at *
  refine vF mixed [0, 1, 2, 3, 4, 6, 7, 8, 9, 10, 11, 12, 38, 42, 43, 44, 45, 51] Tryz.func15 rfl Tryz.results15 Tryz.ntmps15 ?_
  (refine' zgS)
  refine vL (lv := [0, 1, 2, 3, 4, 6, 7, 8, 9, 10, 11, 12, 38, 42, 43, 44, 45, 51]) mixed (mdS s L H N) (fun i => i ≤ L.length) (fun i => L.length - i) (0) ((GhW.go [1, 2, 3, 42, 43, 44] (by exact vT) rfl)) ?_ ?_
  · exact Nat.zero_le _
  intro i g1
  rcases Nat.lt_or_ge i L.length with hi | hi
  · obtain ⟨y, hy⟩ : ∃ y, L[i]? = some y := ⟨_, List.getElem?_eq_getElem hi⟩
    have hys := hx y (List.mem_of_getElem? hy)
    (refine' zoE hy)
    refine AgW.go (i + 1) [1, 2, 3, 42, 43, 44] (by exact vT) ?_ ?_
    · show L.length - (i + 1) < L.length - i
      omega
    · show i + 1 ≤ L.length
      omega
  · (refine' zg4 r1 r2 r3 r4)
    refine vW [3, 6, 8, 18] [(0, tcC s L H N), (139, .cell [.d (iD (l.length + N)), .d (.sd 5 false ((insA L).map iyD)), .d (iD 0)])] (Sub.cons rfl (Sub.cons rfl Sub.nil)) ?_
    (repeat' (first | (with_reducible first | exact True.intro | refine vD ?_ | refine vG ?_ | refine vE ?_) | (with_reducible refine sbW.of (Sub.cons rfl (Sub.cons rfl Sub.nil)) ?_) | with_reducible refine DoneW.out ?_ | refine vR ?_ | refine v6 ?_ | with_reducible refine vN ?_ | ((with_reducible first | refine vB (fun h => ?_) (fun h => ?_) | refine vM (fun h => ?_) (fun h => ?_)) <;> (first | (exfalso; omega) | skip))))
    rfl
end
end Go.Proofs.YthnooilghadjkaaGreatDoor
