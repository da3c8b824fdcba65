/- What the theorem leans on, part 21. -/
import Derived.Test.YthnooilghadjkaaGreatDoorSrPAA
import Derived.Test.YthnooilghadjkaaGreatDoorSrPAB
import Derived.Test.YthnooilghadjkaaGreatDoorSrPAC
import Derived.Test.YthnooilghadjkaaGreatDoorSrPAD
import Derived.Test.YthnooilghadjkaaGreatDoorSrPAE
import Derived.Test.YthnooilghadjkaaGreatDoorSrPAF
import Derived.Test.YthnooilghadjkaaGreatDoorSrPAG
import Derived.Test.YthnooilghadjkaaGreatDoorSrPAH
import Derived.Test.YthnooilghadjkaaGreatDoorSrPAI
import Derived.Test.YthnooilghadjkaaGreatDoorSrPAJ
import Derived.Test.YthnooilghadjkaaGreatDoorSrPAK
import Derived.Test.YthnooilghadjkaaGreatDoorSrPAL
import Derived.Test.YthnooilghadjkaaGreatDoorSrPAM
import Derived.Test.YthnooilghadjkaaGreatDoorSrPAN
import Derived.Test.YthnooilghadjkaaGreatDoorSrPAO
import Derived.Test.YthnooilghadjkaaGreatDoorSrPAP
import Derived.Test.YthnooilghadjkaaGreatDoorSrPAQ
import Derived.Test.YthnooilghadjkaaGreatDoorSrPAR
set_option linter.unusedSimpArgs false
set_option linter.unusedVariables false
set_option maxRecDepth 8000
namespace Go.Proofs.YthnooilghadjkaaGreatDoor
section
variable (s : ByteArray) (L : List Iy) (H : List Sn) (N : Int)
set_option maxHeartbeats 6400000 in
theorem made21_err (hk : OkM s L H N) (hx : ∀ x ∈ L, x.2.2.2.2.size ≤ 200) (he : errN ((runesAt s 0).length + N) L ≠ 0) : ∃ t, OFn Tryz.prog G0 15 [txV s L H N] [] 0 (.tup [.d (.agg [ropeD t, nilD, .sd 2 false (H.map snD)]), .d (.agg [.sd 1 false ((runesAt s 0).map ruD), iD 0, nilSD, iD (errN ((runesAt s 0).length + N) L), .sd 2 false (H.map snD)]), bv false]) [] := by
  obtain ⟨k1, k2, k3, k4, k5⟩ := hk
  have hl := runesAt_len s s.size 0 (by omega)
  obtain ⟨ps, t, R, r2⟩ := rNew_fn s (by omega) (by omega)
  have r1 := RDecode_fn s (by omega)
  generalize runesAt s 0 = l at *
  refine ⟨t, ?_⟩
  have r3 : OFn Tryz.prog G0 30 [iv (l.length + N), .d (.sd 5 false (L.map iyD))] [] 0 (.tup [.d (.lit (.pointer none)), iv (errN (l.length + N) L)]) [] := by
    by_cases hn : (l.length : Int) + N < 0
    · rw [show errN (l.length + N) L = 1 from if_pos hn]; exact iNew_neg _ L hn
    · rw [show errN (l.length + N) L = inlErr (l.length + N) [] L from if_neg hn] at he ⊢
      exact iNew_err _ L (by omega) k2 (fun x h => by have := hx x h; omega) he
  have r4 : OFn Tryz.prog G0 31 [iv (l.length + N), .d (.sd 5 false (L.map iyD))] [] 0 (.d (.agg [iD 0, nilSD, iD (errN (l.length + N) L)])) [] := by
    by_cases hn : (l.length : Int) + N < 0
    · rw [show errN (l.length + N) L = 1 from if_pos hn]; exact rNew13_neg _ hn L
    · rw [show errN (l.length + N) L = inlErr (l.length + N) [] L from if_neg hn] at he ⊢
      have := rNew13_fn (l.length + N) (by omega) L k2 (fun x h => by have := hx x h; omega)
      rw [newDV, if_neg he] at this
      exact this
  simp only [ropeD] at r2 ⊢
  generalize errN (l.length + N) L = er at *
  refine vF mixed [0, 1, 2, 3, 4, 6, 7, 8, 9, 10, 11, 12, 38, 42, 43, 44, 45, 51] Tryz.func15 rfl Tryz.results15 Tryz.ntmps15 ?_
  (refine' zgS)
  refine vL (lv := [0, 1, 2, 3, 4, 6, 7, 8, 9, 10, 11, 12, 38, 42, 43, 44, 45, 51]) mixed (mdS s L H N) (fun i => i ≤ L.length) (fun i => L.length - i) (0) ((GhW.go [1, 2, 3, 42, 43, 44] (by exact vT) rfl)) ?_ ?_
  · exact Nat.zero_le _
  intro i g1
  rcases Nat.lt_or_ge i L.length with hi | hi
  · obtain ⟨y, hy⟩ : ∃ y, L[i]? = some y := ⟨_, List.getElem?_eq_getElem hi⟩
    have hys := hx y (List.mem_of_getElem? hy)
    (refine' zoE hy)
    refine AgW.go (i + 1) [1, 2, 3, 42, 43, 44] (by exact vT) ?_ ?_
    · show L.length - (i + 1) < L.length - i
      omega
    · show i + 1 ≤ L.length
      omega
  · (refine' zg4 r1 r2 r3 r4)
    refine vW [3, 6, 8, 18] [(0, tcC s L H N), (139, .cell [.d (iD 0), .d nilSD, .d (iD er)])] (Sub.cons rfl (Sub.cons rfl Sub.nil)) ?_
    (repeat' (first | (with_reducible first | exact True.intro | refine vD ?_ | refine vG ?_ | refine vE ?_) | (with_reducible refine sbW.of (Sub.cons rfl (Sub.cons rfl Sub.nil)) ?_) | with_reducible refine DoneW.out ?_ | refine vR ?_ | refine v6 ?_ | with_reducible refine vN ?_ | ((with_reducible first | refine vB (fun h => ?_) (fun h => ?_) | refine vM (fun h => ?_) (fun h => ?_)) <;> (first | (exfalso; omega) | skip))))
end
end Go.Proofs.YthnooilghadjkaaGreatDoor
