/- What the theorem leans on, part 13. -/
import Derived.Test.YthnooilghadjkaaGreatDoorWindowAllPA
import Derived.Test.YthnooilghadjkaaGreatDoorWindowAllPB
import Derived.Test.YthnooilghadjkaaGreatDoorWindowAllPC
import Derived.Test.YthnooilghadjkaaGreatDoorWindowAllPD
import Derived.Test.YthnooilghadjkaaGreatDoorWindowAllPE
import Derived.Test.YthnooilghadjkaaGreatDoorWindowAllPH
import Derived.Test.YthnooilghadjkaaGreatDoorWindowAllPI
import Derived.Test.YthnooilghadjkaaGreatDoorWindowAllPJ
import Derived.Test.YthnooilghadjkaaGreatDoorWindowAllPK
import Derived.Test.YthnooilghadjkaaGreatDoorWindowAllPL
set_option linter.unusedSimpArgs false
set_option linter.unusedVariables false
namespace Go.Proofs.YthnooilghadjkaaGreatDoor
end Go.Proofs.YthnooilghadjkaaGreatDoor
set_option linter.unusedSimpArgs false
set_option linter.unusedVariables false
set_option maxRecDepth 8000
namespace Go.Proofs.YthnooilghadjkaaGreatDoor
abbrev dtV (l : List Int) (n : Int) (L : List Iy) (H : List Sn) : V := .d (.agg [.sd 1 false (l.map ruD), iD n, .sd 5 false (L.map iyD), iD 0, .sd 2 false (H.map snD)])
abbrev dtC (l : List Int) (n : Int) (L : List Iy) (H : List Sn) : Blk := .cell [ruL l, iv n, .d (.sd 5 false (L.map iyD)), iv 0, .d (.sd 2 false (H.map snD))]
def drS (m : Int) (H : List Sn) (y : Nat × Int) : St := ⟨[(0, iv m), (5, iv y.2), (8, snL H), (9, iv H.length), (10, iv y.1)], [], 0⟩
attribute [push_cast] drS.eq_def
theorem dRight16_fn (m : Int) (H : List Sn) (hl : H.length ≤ 1000000) : OFn Tryz.prog G0 39 [iv m, snL H] [] 0 (bv (rgt m 0 H)) [] := by
  refine vF mixed [0, 1, 4, 5, 7, 8, 9, 10, 11, 30] Tryz.func39 rfl Tryz.results39 Tryz.ntmps39 ?_
  (repeat' (first | (with_reducible first | exact True.intro | refine vD ?_ | refine vG ?_ | refine vE ?_) |  refine vR ?_ | refine v6 ?_ | with_reducible refine vN ?_ | ((with_reducible first | refine vB (fun h => ?_) (fun h => ?_) | refine vM (fun h => ?_) (fun h => ?_)) <;> (first | (exfalso; omega) | skip))))
  refine vL (lv := [0, 1, 4, 5, 7, 8, 9, 10, 11, 30]) mixed (drS m H) (fun y => y.1 ≤ H.length ∧ rgt m y.2 (H.drop y.1) = rgt m 0 H) (fun y => H.length - y.1) ((0, 0)) ((GhW.go [0, 5, 8, 9, 10] (by exact vT) rfl)) ?_ ?_
  · exact ⟨Nat.zero_le _, rfl⟩
  rintro ⟨i, last⟩ ⟨h1, h2⟩
  simp only at h1 h2
  (repeat' (first | (with_reducible first | exact True.intro | refine vD ?_ | refine vG ?_ | refine vE ?_) |  refine vR ?_ | refine v6 ?_ | with_reducible refine vN ?_ | ((with_reducible first | refine vB (fun h => ?_) (fun h => ?_) | refine vM (fun h => ?_) (fun h => ?_)) <;> (first | (exfalso; omega) | skip))))
  · refine elX.intro fun y hy => ?_
    rw [drop_is hy] at h2
    (repeat' (first | (with_reducible first | exact True.intro | refine vD ?_ | refine vG ?_ | refine vE ?_) |  refine vR ?_ | refine v6 ?_ | with_reducible refine vN ?_ | ((with_reducible first | refine vB (fun h => ?_) (fun h => ?_) | refine vM (fun h => ?_) (fun h => ?_)) <;> (first | (exfalso; omega) | skip))))
    · have e : rgt m 0 H = false := by
        rw [← h2]
        cases hr : rgt m last (y :: H.drop (i + 1)) with
        | false => rfl
        | true => have := (rgt_cons.1 hr).1; omega
      rw [e]
      refine DoneW.out ?_
      (repeat' (first | (with_reducible first | exact True.intro | refine vD ?_ | refine vG ?_ | refine vE ?_) |  refine vR ?_ | refine v6 ?_ | with_reducible refine vN ?_ | ((with_reducible first | refine vB (fun h => ?_) (fun h => ?_) | refine vM (fun h => ?_) (fun h => ?_)) <;> (first | (exfalso; omega) | skip))))
    · refine AgW.go ((i + 1, y.2)) [0, 5, 8, 9, 10] (by exact vT) ?_ ?_
      · show H.length - (i + 1) < H.length - i
        omega
      · refine ⟨by simp only; omega, ?_⟩
        rw [← h2]
        simp only
        rw [Bool.eq_iff_iff, rgt_cons]
        constructor
        · intro h3; exact ⟨by omega, h3⟩
        · intro h3; exact h3.2
  · rw [List.drop_of_length_le (by omega)] at h2
    rw [← h2]
    refine DoneW.out ?_
    (repeat' (first | (with_reducible first | exact True.intro | refine vD ?_ | refine vG ?_ | refine vE ?_) |  refine vR ?_ | refine v6 ?_ | with_reducible refine vN ?_ | ((with_reducible first | refine vB (fun h => ?_) (fun h => ?_) | refine vM (fun h => ?_) (fun h => ?_)) <;> (first | (exfalso; omega) | skip))))
    rfl
section
variable (l : List Int) (n : Int) (L : List Iy) (H : List Sn)
set_option maxHeartbeats 1600000 in
theorem dRight_fn (hl : H.length ≤ 1000000) (hll : l.length ≤ 1000000) : OFn Tryz.prog G0 13 [dtV l n L H] [] 0 (bv (okT' l.length n H)) [] := by
  have r1 := dRight16_fn l.length H hl
  by_cases hn : n = l.length
  · have e : okT' l.length n H = rgt l.length 0 H := by rw [okT', decide_eq_true hn, Bool.and_true]
    rw [e]
    refine vF mixed [0, 1, 2] Tryz.func13 rfl Tryz.results13 Tryz.ntmps13 ?_
    (repeat' (first | (with_reducible first | exact True.intro | refine vD ?_ | refine vG ?_ | refine vE ?_) | with_reducible refine vC (r1) ?_ | with_reducible refine DoneW.out ?_ | refine vR ?_ | refine v6 ?_ | with_reducible refine vN ?_ | ((with_reducible first | refine vB (fun h => ?_) (fun h => ?_) | refine vM (fun h => ?_) (fun h => ?_)) <;> (first | (exfalso; omega) | skip))))
  · have e : okT' l.length n H = false := by rw [okT', decide_eq_false hn, Bool.and_false]
    rw [e]
    refine vF mixed [0, 1, 2] Tryz.func13 rfl Tryz.results13 Tryz.ntmps13 ?_
    (repeat' (first | (with_reducible first | exact True.intro | refine vD ?_ | refine vG ?_ | refine vE ?_) | with_reducible refine vC (r1) ?_ | with_reducible refine DoneW.out ?_ | refine vR ?_ | refine v6 ?_ | with_reducible refine vN ?_ | ((with_reducible first | refine vB (fun h => ?_) (fun h => ?_) | refine vM (fun h => ?_) (fun h => ?_)) <;> (first | (exfalso; omega) | skip))))
end
end Go.Proofs.YthnooilghadjkaaGreatDoor
set_option linter.unusedSimpArgs false
set_option linter.unusedVariables false
set_option maxRecDepth 8000
namespace Go.Proofs.YthnooilghadjkaaGreatDoor
section
variable (l : List Int) (n : Int) (L : List Iy) (H : List Sn)
end
end Go.Proofs.YthnooilghadjkaaGreatDoor
set_option linter.unusedSimpArgs false
set_option linter.unusedVariables false
set_option maxRecDepth 8000
namespace Go.Proofs.YthnooilghadjkaaGreatDoor
end Go.Proofs.YthnooilghadjkaaGreatDoor
set_option linter.unusedSimpArgs false
set_option linter.unusedVariables false
set_option maxRecDepth 8000
namespace Go.Proofs.YthnooilghadjkaaGreatDoor
section
variable (l : List Int) (n : Int) (L : List Iy) (H : List Sn)
end
section
variable (l : List Int) (n : Int) (L : List Iy) (H : List Sn)
end
end Go.Proofs.YthnooilghadjkaaGreatDoor
