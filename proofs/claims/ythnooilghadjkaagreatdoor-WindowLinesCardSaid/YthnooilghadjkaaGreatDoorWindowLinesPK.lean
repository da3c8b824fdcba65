/- What the theorem leans on, part 11. -/
import Derived.Test.YthnooilghadjkaaGreatDoorWindowLinesPA
import Derived.Test.YthnooilghadjkaaGreatDoorWindowLinesPB
import Derived.Test.YthnooilghadjkaaGreatDoorWindowLinesPC
import Derived.Test.YthnooilghadjkaaGreatDoorWindowLinesPD
import Derived.Test.YthnooilghadjkaaGreatDoorWindowLinesPE
import Derived.Test.YthnooilghadjkaaGreatDoorWindowLinesPH
import Derived.Test.YthnooilghadjkaaGreatDoorWindowLinesPI
import Derived.Test.YthnooilghadjkaaGreatDoorWindowLinesPJ
set_option linter.unusedSimpArgs false
set_option linter.unusedVariables false
set_option maxRecDepth 8000
namespace Go.Proofs.YthnooilghadjkaaGreatDoor
abbrev snD (x : Int × Int) : D := .agg [iD x.1, iD x.2]
abbrev snL (l : List (Int × Int)) : V := .d (.sd 2 false (l.map snD))
theorem find_idx {α : Type} {p : α → Bool} : ∀ {l : List α} {x : α}, l.find? p = some x → ∃ i : Nat, l[i]? = some x ∧ p x = true ∧ ∀ (k : Nat) y, k < i → l[k]? = some y → p y = false
  | [], x, h => by cases h
  | y :: r, x, h => by
    rw [List.find?_cons] at h
    cases hp : p y with
    | true =>
      rw [hp] at h
      injection h with h
      subst h
      exact ⟨0, rfl, hp, fun k z hk => by omega⟩
    | false =>
      rw [hp] at h
      obtain ⟨i, h1, h2, h3⟩ := find_idx h
      refine ⟨i + 1, h1, h2, fun k z hk hz => ?_⟩
      cases k with
      | zero => injection hz with hz; subst hz; exact hp
      | succ k => exact h3 k z (by omega) hz
def ixS (h : List (Int × Int)) (F : D) (i : Nat) : St := ⟨[(0, snL h), (1, .d F), (7, iv h.length), (8, iv i)], [], 0⟩
attribute [push_cast] ixS.eq_def
theorem sel_ds {g : Nat → Option Nat} (l : List D) : (l.map V.d).map (V.sel g) = l.map V.d := by rw [List.map_map]; rfl
section
variable {G : Gl} {H : List (Int × Int)} {f : Nat} {caps : List D} {p : Int × Int → Bool}
theorem IndexFunc_yes (hl : H.length ≤ 1000000) (he : entT Tryz.prog f = true) (hc : ∀ x ∈ H, OFn Tryz.prog G f (.d (snD x) :: caps.map .d) [] 0 (bv (p x)) []) (i : Nat) (x : Int × Int) (hx : H[i]? = some x) (hp : p x = true) (hn : ∀ (k : Nat) y, k < i → H[k]? = some y → p y = false) :
    OFn Tryz.prog G 63 [snL H, .d (.fn f caps)] [] 0 (iv i) [] := by
  have hi := (List.getElem?_eq_some_iff.1 hx).1
  refine vF mixed [0, 1, 4, 5, 7, 8, 9, 16] Tryz.func63 rfl Tryz.results63 Tryz.ntmps63 ?_
  (repeat' (first | (with_reducible first | exact True.intro | refine vD ?_ | refine vG ?_ | refine vE ?_) |  refine vR ?_ | refine v6 ?_ | with_reducible refine vN ?_ | ((with_reducible first | refine vB (fun h => ?_) (fun h => ?_) | refine vM (fun h => ?_) (fun h => ?_)) <;> (first | (exfalso; omega) | skip))))
  refine vL (lv := [0, 1, 4, 5, 7, 8, 9, 16]) mixed (ixS H (.fn f caps)) (fun k => k ≤ i) (fun k => i - k) (0) ((GhW.go [0, 1, 7, 8] (by exact vT) rfl)) ?_ ?_
  · exact Nat.zero_le _
  intro k hk
  obtain ⟨y, hy⟩ : ∃ y, H[k]? = some y := ⟨_, List.getElem?_eq_getElem (by omega)⟩
  have hcy := hc y (List.mem_of_getElem? hy)
  rcases Nat.lt_or_ge k i with hlt | hge
  · rw [hn k y hlt hy] at hcy
    (repeat' (first | (with_reducible first | exact True.intro | refine vD ?_ | refine vG ?_ | refine vE ?_) |  refine vR ?_ | refine v6 ?_ | with_reducible refine vN ?_ | ((with_reducible first | refine vB (fun h => ?_) (fun h => ?_) | refine vM (fun h => ?_) (fun h => ?_)) <;> (first | (exfalso; omega) | skip))))
    refine elX.is k y (by omega) hy ?_
    (repeat' (first | (with_reducible first | exact True.intro | refine vD ?_ | refine vG ?_ | refine vE ?_) | (with_reducible refine vC hcy ?_ he (sel_ds (snD y :: caps)) rfl) | refine vR ?_ | refine v6 ?_ | with_reducible refine vN ?_ | ((with_reducible first | refine vB (fun h => ?_) (fun h => ?_) | refine vM (fun h => ?_) (fun h => ?_)) <;> (first | (exfalso; omega) | skip))))
    refine AgW.go (k + 1) [0, 1, 7, 8] (by exact vT) ?_ ?_
    · show i - (k + 1) < i - k
      omega
    · exact hlt
  · obtain rfl : k = i := by omega
    rw [hx] at hy
    injection hy with hy
    subst hy
    rw [hp] at hcy
    (repeat' (first | (with_reducible first | exact True.intro | refine vD ?_ | refine vG ?_ | refine vE ?_) |  refine vR ?_ | refine v6 ?_ | with_reducible refine vN ?_ | ((with_reducible first | refine vB (fun h => ?_) (fun h => ?_) | refine vM (fun h => ?_) (fun h => ?_)) <;> (first | (exfalso; omega) | skip))))
    refine elX.is k x (by omega) hx ?_
    (repeat' (first | (with_reducible first | exact True.intro | refine vD ?_ | refine vG ?_ | refine vE ?_) | (with_reducible refine vC hcy ?_ he (sel_ds (snD x :: caps)) rfl) | with_reducible refine DoneW.out ?_ | refine vR ?_ | refine v6 ?_ | with_reducible refine vN ?_ | ((with_reducible first | refine vB (fun h => ?_) (fun h => ?_) | refine vM (fun h => ?_) (fun h => ?_)) <;> (first | (exfalso; omega) | skip))))
theorem IndexFunc_no (hl : H.length ≤ 1000000) (he : entT Tryz.prog f = true) (hc : ∀ x ∈ H, OFn Tryz.prog G f (.d (snD x) :: caps.map .d) [] 0 (bv (p x)) []) (hn : ∀ x ∈ H, p x = false) :
    OFn Tryz.prog G 63 [snL H, .d (.fn f caps)] [] 0 (iv (-1)) [] := by
  refine vF mixed [0, 1, 4, 5, 7, 8, 9, 16] Tryz.func63 rfl Tryz.results63 Tryz.ntmps63 ?_
  (repeat' (first | (with_reducible first | exact True.intro | refine vD ?_ | refine vG ?_ | refine vE ?_) |  refine vR ?_ | refine v6 ?_ | with_reducible refine vN ?_ | ((with_reducible first | refine vB (fun h => ?_) (fun h => ?_) | refine vM (fun h => ?_) (fun h => ?_)) <;> (first | (exfalso; omega) | skip))))
  refine vL (lv := [0, 1, 4, 5, 7, 8, 9, 16]) mixed (ixS H (.fn f caps)) (fun k => k ≤ H.length) (fun k => H.length - k) (0) ((GhW.go [0, 1, 7, 8] (by exact vT) rfl)) ?_ ?_
  · exact Nat.zero_le _
  intro k hk
  (repeat' (first | (with_reducible first | exact True.intro | refine vD ?_ | refine vG ?_ | refine vE ?_) | with_reducible refine DoneW.out ?_ | refine vR ?_ | refine v6 ?_ | with_reducible refine vN ?_ | ((with_reducible first | refine vB (fun h => ?_) (fun h => ?_) | refine vM (fun h => ?_) (fun h => ?_)) <;> (first | (exfalso; omega) | skip))))
  refine elX.intro fun y hy => ?_
  have hcy := hc y (List.mem_of_getElem? hy)
  rw [hn y (List.mem_of_getElem? hy)] at hcy
  (repeat' (first | (with_reducible first | exact True.intro | refine vD ?_ | refine vG ?_ | refine vE ?_) | (with_reducible refine vC hcy ?_ he (sel_ds (snD y :: caps)) rfl) | refine vR ?_ | refine v6 ?_ | with_reducible refine vN ?_ | ((with_reducible first | refine vB (fun h => ?_) (fun h => ?_) | refine vM (fun h => ?_) (fun h => ?_)) <;> (first | (exfalso; omega) | skip))))
  refine AgW.go (k + 1) [0, 1, 7, 8] (by exact vT) ?_ ?_
  · show H.length - (k + 1) < H.length - k
    omega
  · show k + 1 ≤ H.length
    omega
end
end Go.Proofs.YthnooilghadjkaaGreatDoor
set_option linter.unusedSimpArgs false
set_option linter.unusedVariables false
set_option maxRecDepth 8000
namespace Go.Proofs.YthnooilghadjkaaGreatDoor
def inlD (n : Int) (x : D) : D := .pd 2 [.agg [iD n, x]] 0 0
abbrev txD (t : Option T) (n : Int) (x : D) (h : List Sn) : V := .d (.agg [ropeD t, inlD n x, .sd 2 false (h.map snD)])
theorem iLen_fn (n : Int) (x : D) : OFn Tryz.prog G0 41 [.d (inlD n x)] [] 0 (iv n) [] := by
  rw [inlD]
  refine vF mixed [0, 2, 4] Tryz.func41 rfl Tryz.results41 Tryz.ntmps41 ?_
  (repeat' (first | (with_reducible first | exact True.intro | refine vD ?_ | refine vG ?_ | refine vE ?_) | with_reducible refine DoneW.out ?_ | refine vR ?_ | refine v6 ?_ | with_reducible refine vN ?_ | ((with_reducible first | refine vB (fun h => ?_) (fun h => ?_) | refine vM (fun h => ?_) (fun h => ?_)) <;> (first | (exfalso; omega) | skip))))
theorem hides1_fn (x : Sn) (a : Int) : OFn Tryz.prog G0 64 [.d (snD x), .d (boxD a)] [] 0 (bv (inSp (a - 1) x)) [] := by
  have e : (decide (x.1 < a) && decide (a ≤ x.2)) = inSp (a - 1) x := by
    unfold inSp
    rw [Bool.eq_iff_iff]
    simp only [Bool.and_eq_true, decide_eq_true_eq]
    omega
  rw [← e]
  refine vF mixed [0, 1, 2, 3] Tryz.func64 rfl Tryz.results64 Tryz.ntmps64 ?_
  (repeat' (first | (with_reducible first | exact True.intro | refine vD ?_ | refine vG ?_ | refine vE ?_) | with_reducible refine DoneW.out ?_ | refine vR ?_ | refine v6 ?_ | with_reducible refine vN ?_ | ((with_reducible first | refine vB (fun h => ?_) (fun h => ?_) | refine vM (fun h => ?_) (fun h => ?_)) <;> (first | (exfalso; omega) | skip))))
theorem hidN {h : List Sn} {a : Int} (ha : hidO h a = none) : ∀ y ∈ h, inSp a y = false := fun y hy => by
  have := hidO_none ha y hy
  cases hb : inSp a y with
  | false => rfl
  | true => exact (this (inSp_iff.1 hb)).elim
theorem hides_no (t : Option T) (n : Int) (x : D) (H : List Sn) (hl : H.length ≤ 1000000) (a : Int) (ha : hidO H (a - 1) = none) : OFn Tryz.prog G0 37 [txD t n x H, iv a] [] 0 (.tup [.d (snD (0, 0)), bv false]) [] := by
  have r1 := IndexFunc_no (G := G0) (H := H) (f := 64) (caps := [boxD a]) (p := inSp (a - 1)) hl (by kernel_rfl) (fun y _ => hides1_fn y a) (hidN ha)
  refine vF mixed [0, 1, 2, 3, 4, 5, 6, 12] Tryz.func37 rfl Tryz.results37 Tryz.ntmps37 ?_
  (repeat' (first | (with_reducible first | exact True.intro | refine vD ?_ | refine vG ?_ | refine vE ?_) |  refine vR ?_ | refine v6 ?_ | with_reducible refine vN ?_ | ((with_reducible first | refine vB (fun h => ?_) (fun h => ?_) | refine vM (fun h => ?_) (fun h => ?_)) <;> (first | (exfalso; omega) | skip))))
  refine CallW.frz 4 rfl ?_
  (repeat' (first | (with_reducible first | exact True.intro | refine vD ?_ | refine vG ?_ | refine vE ?_) | with_reducible refine vC (r1) ?_ | with_reducible refine DoneW.out ?_ | refine vR ?_ | refine v6 ?_ | with_reducible refine vN ?_ | ((with_reducible first | refine vB (fun h => ?_) (fun h => ?_) | refine vM (fun h => ?_) (fun h => ?_)) <;> (first | (exfalso; omega) | skip))))
theorem hides_yes (t : Option T) (n : Int) (x : D) (H : List Sn) (hl : H.length ≤ 1000000) (a : Int) (y : Sn) (ha : hidO H (a - 1) = some y) : OFn Tryz.prog G0 37 [txD t n x H, iv a] [] 0 (.tup [.d (snD y), bv true]) [] := by
  obtain ⟨i, h1, h2, h3⟩ := find_idx ha
  have hi := (List.getElem?_eq_some_iff.1 h1).1
  have r1 := IndexFunc_yes (G := G0) (H := H) (f := 64) (caps := [boxD a]) (p := inSp (a - 1)) hl (by kernel_rfl) (fun y _ => hides1_fn y a) i y h1 h2 h3
  refine vF mixed [0, 1, 2, 3, 4, 5, 6, 12] Tryz.func37 rfl Tryz.results37 Tryz.ntmps37 ?_
  (repeat' (first | (with_reducible first | exact True.intro | refine vD ?_ | refine vG ?_ | refine vE ?_) |  refine vR ?_ | refine v6 ?_ | with_reducible refine vN ?_ | ((with_reducible first | refine vB (fun h => ?_) (fun h => ?_) | refine vM (fun h => ?_) (fun h => ?_)) <;> (first | (exfalso; omega) | skip))))
  refine CallW.frz 4 rfl ?_
  (repeat' (first | (with_reducible first | exact True.intro | refine vD ?_ | refine vG ?_ | refine vE ?_) | with_reducible refine vC (r1) ?_ | with_reducible refine DoneW.out ?_ | refine vR ?_ | refine v6 ?_ | with_reducible refine vN ?_ | ((with_reducible first | refine vB (fun h => ?_) (fun h => ?_) | refine vM (fun h => ?_) (fun h => ?_)) <;> (first | (exfalso; omega) | skip))))
  refine elX.is i y (by omega) h1 ?_
  (repeat' (first | (with_reducible first | exact True.intro | refine vD ?_ | refine vG ?_ | refine vE ?_) | with_reducible refine DoneW.out ?_ | refine vR ?_ | refine v6 ?_ | with_reducible refine vN ?_ | ((with_reducible first | refine vB (fun h => ?_) (fun h => ?_) | refine vM (fun h => ?_) (fun h => ?_)) <;> (first | (exfalso; omega) | skip))))
end Go.Proofs.YthnooilghadjkaaGreatDoor
set_option linter.unusedSimpArgs false
set_option linter.unusedVariables false
set_option maxRecDepth 8000
namespace Go.Proofs.YthnooilghadjkaaGreatDoor
abbrev txC (t : Option T) (n : Int) (x : D) (H : List Sn) : Blk := .cell [.d (ropeD t), .d (inlD n x), .d (.sd 2 false (H.map snD))]
def scS (t : Option T) (n : Int) (x : D) (H : List Sn) (m : Int) (y : Nat × Int) : St := ⟨[(1, .po 0 0), (3, iv m), (4, iv y.2), (11, snL H), (12, iv H.length), (13, iv y.1)], [(0, txC t n x H)], 1⟩
attribute [push_cast] scS.eq_def
def okT' (m n : Int) (H : List Sn) : Bool := rgt m 0 H && decide (n = m)
section
variable {l : List Int} {ps : List (List Int)} {t : Option T}
set_option maxHeartbeats 1600000 in
theorem sCheck_fn (R : Rp l ps t) (n : Int) (x : D) (H : List Sn) (hl : H.length ≤ 1000000) : OFn Tryz.prog G0 18 [txD t n x H] [] 0 (iv (if okT' l.length n H = true then 0 else 4)) [] := by
  have r1 := Runes_fn R
  have r2 := iLen_fn n x
  refine vF mixed [0, 1, 2, 3, 4, 6, 11, 12, 13, 14, 33, 41] Tryz.func18 rfl Tryz.results18 Tryz.ntmps18 ?_
  (repeat' (first | (with_reducible first | exact True.intro | refine vD ?_ | refine vG ?_ | refine vE ?_) | with_reducible refine vC (r1) ?_ | refine vR ?_ | refine v6 ?_ | with_reducible refine vN ?_ | ((with_reducible first | refine vB (fun h => ?_) (fun h => ?_) | refine vM (fun h => ?_) (fun h => ?_)) <;> (first | (exfalso; omega) | skip))))
  refine vL (lv := [0, 1, 2, 3, 4, 6, 11, 12, 13, 14, 33, 41]) mixed (scS t n x H l.length) (fun y => y.1 ≤ H.length ∧ rgt l.length y.2 (H.drop y.1) = rgt l.length 0 H) (fun y => H.length - y.1) ((0, 0)) ((GhW.go [1, 3, 4, 11, 12, 13] (by exact vT) rfl)) ?_ ?_
  · exact ⟨Nat.zero_le _, rfl⟩
  rintro ⟨i, last⟩ ⟨h1, h2⟩
  simp only at h1 h2
  (repeat' (first | (with_reducible first | exact True.intro | refine vD ?_ | refine vG ?_ | refine vE ?_) | with_reducible refine vC (r2) ?_ | refine vR ?_ | refine v6 ?_ | with_reducible refine vN ?_ | ((with_reducible first | refine vB (fun h => ?_) (fun h => ?_) | refine vM (fun h => ?_) (fun h => ?_)) <;> (first | (exfalso; omega) | skip))))
  · refine elX.intro fun y hy => ?_
    have hd := drop_is hy
    rw [hd] at h2
    (repeat' (first | (with_reducible first | exact True.intro | refine vD ?_ | refine vG ?_ | refine vE ?_) |  refine vR ?_ | refine v6 ?_ | with_reducible refine vN ?_ | ((with_reducible first | refine vB (fun h => ?_) (fun h => ?_) | refine vM (fun h => ?_) (fun h => ?_)) <;> (first | (exfalso; omega) | skip))))
    · have : okT' l.length n H = false := by
        rw [okT', ← h2]
        cases hr : rgt l.length last (y :: H.drop (i + 1)) with
        | false => rfl
        | true => have := (rgt_cons.1 hr).1; omega
      rw [if_neg (by simp [this])]
      refine DoneW.now [] (by decide) ?_; (repeat' (first | (with_reducible first | exact True.intro | refine vD ?_ | refine vG ?_ | refine vE ?_) |  refine vR ?_ | refine v6 ?_ | with_reducible refine vN ?_ | ((with_reducible first | refine vB (fun h => ?_) (fun h => ?_) | refine vM (fun h => ?_) (fun h => ?_)) <;> (first | (exfalso; omega) | skip)))); first | exact Sub_refl _ | exact Sub.cons rfl Sub.nil | exact Sub.cons rfl (Sub.cons rfl Sub.nil) | exact Sub.nil
    · refine AgW.go ((i + 1, y.2)) [1, 3, 4, 11, 12, 13] (by exact vT) ?_ ?_
      · show H.length - (i + 1) < H.length - i
        omega
      · refine ⟨by simp only; omega, ?_⟩
        rw [← h2]
        simp only
        rw [Bool.eq_iff_iff, rgt_cons]
        constructor
        · intro h3; exact ⟨by omega, h3⟩
        · intro h3; exact h3.2
  · rw [List.drop_of_length_le (by omega)] at h2
    have e : okT' l.length n H = false := by
      rw [okT', decide_eq_false (by omega), Bool.and_false]
    rw [if_neg (by simp [e])]
    refine DoneW.now [] (by decide) ?_; (repeat' (first | (with_reducible first | exact True.intro | refine vD ?_ | refine vG ?_ | refine vE ?_) |  refine vR ?_ | refine v6 ?_ | with_reducible refine vN ?_ | ((with_reducible first | refine vB (fun h => ?_) (fun h => ?_) | refine vM (fun h => ?_) (fun h => ?_)) <;> (first | (exfalso; omega) | skip)))); first | exact Sub_refl _ | exact Sub.cons rfl Sub.nil | exact Sub.cons rfl (Sub.cons rfl Sub.nil) | exact Sub.nil
  · rw [List.drop_of_length_le (by omega)] at h2
    have e : okT' l.length n H = true := by
      rw [okT', decide_eq_true (by omega), Bool.and_true, ← h2]; rfl
    rw [if_pos e]
    refine DoneW.now [] (by decide) ?_; (repeat' (first | (with_reducible first | exact True.intro | refine vD ?_ | refine vG ?_ | refine vE ?_) |  refine vR ?_ | refine v6 ?_ | with_reducible refine vN ?_ | ((with_reducible first | refine vB (fun h => ?_) (fun h => ?_) | refine vM (fun h => ?_) (fun h => ?_)) <;> (first | (exfalso; omega) | skip)))); first | exact Sub_refl _ | exact Sub.cons rfl Sub.nil | exact Sub.cons rfl (Sub.cons rfl Sub.nil) | exact Sub.nil
theorem wrong_form (R : Rp l ps t) (n : Int) (x : D) (H : List Sn) (hl : H.length ≤ 1000000) (h : okT' l.length n H = false) (a : Int) : OFn Tryz.prog G0 34 [txD t n x H, iv a] [] 0 (iv 4) [] := by
  have r1 := sCheck_fn R n x H hl
  rw [if_neg (by simp [h])] at r1
  refine vF mixed [0, 1, 2, 4, 5, 9, 19] Tryz.func34 rfl Tryz.results34 Tryz.ntmps34 ?_
  (repeat' (first | (with_reducible first | exact True.intro | refine vD ?_ | refine vG ?_ | refine vE ?_) | with_reducible refine vC (r1) ?_ | with_reducible refine DoneW.out ?_ | refine vR ?_ | refine v6 ?_ | with_reducible refine vN ?_ | ((with_reducible first | refine vB (fun h => ?_) (fun h => ?_) | refine vM (fun h => ?_) (fun h => ?_)) <;> (first | (exfalso; omega) | skip))))
theorem wrong_arg (R : Rp l ps t) (n : Int) (x : D) (H : List Sn) (hl : H.length ≤ 1000000) (h : okT' l.length n H = true) (a : Int) (ha : a < 0 ∨ (l.length : Int) < a) : OFn Tryz.prog G0 34 [txD t n x H, iv a] [] 0 (iv 1) [] := by
  have r1 := sCheck_fn R n x H hl
  have r2 := Runes_fn R
  rw [if_pos h] at r1
  refine vF mixed [0, 1, 2, 4, 5, 9, 19] Tryz.func34 rfl Tryz.results34 Tryz.ntmps34 ?_
  (repeat' (first | (with_reducible first | exact True.intro | refine vD ?_ | refine vG ?_ | refine vE ?_) | with_reducible refine vC (r1) ?_ | with_reducible refine vC (r2) ?_ | with_reducible refine DoneW.out ?_ | refine vR ?_ | refine v6 ?_ | with_reducible refine vN ?_ | ((with_reducible first | refine vB (fun h => ?_) (fun h => ?_) | refine vM (fun h => ?_) (fun h => ?_)) <;> (first | (exfalso; omega) | skip))))
theorem wrong_not (R : Rp l ps t) (n : Int) (x : D) (H : List Sn) (hl : H.length ≤ 1000000) (h : okT' l.length n H = true) (a : Nat) (ha : a ≤ l.length) : OFn Tryz.prog G0 34 [txD t n x H, iv a] [] 0 (iv 0) [] := by
  have r1 := sCheck_fn R n x H hl
  have r2 := Runes_fn R
  rw [if_pos h] at r1
  refine vF mixed [0, 1, 2, 4, 5, 9, 19] Tryz.func34 rfl Tryz.results34 Tryz.ntmps34 ?_
  (repeat' (first | (with_reducible first | exact True.intro | refine vD ?_ | refine vG ?_ | refine vE ?_) | with_reducible refine vC (r1) ?_ | with_reducible refine vC (r2) ?_ | with_reducible refine DoneW.out ?_ | refine vR ?_ | refine v6 ?_ | with_reducible refine vN ?_ | ((with_reducible first | refine vB (fun h => ?_) (fun h => ?_) | refine vM (fun h => ?_) (fun h => ?_)) <;> (first | (exfalso; omega) | skip))))
theorem Start_bad (t : Option T) (n : Int) (x : D) (H : List Sn) (a e : Int) (he : e ≠ 0) (hw : OFn Tryz.prog G0 34 [txD t n x H, iv a] [] 0 (iv e) []) : OFn Tryz.prog G0 11 [txD t n x H, iv a] [] 0 (.tup [iv 0, iv e]) [] := by
  refine vF mixed [0, 1, 2, 4, 5, 6, 7, 9, 11, 12, 17, 27, 42] Tryz.func11 rfl Tryz.results11 Tryz.ntmps11 ?_
  (repeat' (first | (with_reducible first | exact True.intro | refine vD ?_ | refine vG ?_ | refine vE ?_) | with_reducible refine vC (hw) ?_ | with_reducible refine DoneW.out ?_ | refine vR ?_ | refine v6 ?_ | with_reducible refine vN ?_ | ((with_reducible first | refine vB (fun h => ?_) (fun h => ?_) | refine vM (fun h => ?_) (fun h => ?_)) <;> (first | (exfalso; omega) | skip))))
theorem End_bad (t : Option T) (n : Int) (x : D) (H : List Sn) (a e : Int) (he : e ≠ 0) (hw : OFn Tryz.prog G0 34 [txD t n x H, iv a] [] 0 (iv e) []) : OFn Tryz.prog G0 12 [txD t n x H, iv a] [] 0 (.tup [iv 0, iv e]) [] := by
  refine vF mixed [0, 1, 2, 4, 5, 6, 7, 9, 10, 11, 12, 17, 35, 46] Tryz.func12 rfl Tryz.results12 Tryz.ntmps12 ?_
  (repeat' (first | (with_reducible first | exact True.intro | refine vD ?_ | refine vG ?_ | refine vE ?_) | with_reducible refine vC (hw) ?_ | with_reducible refine DoneW.out ?_ | refine vR ?_ | refine v6 ?_ | with_reducible refine vN ?_ | ((with_reducible first | refine vB (fun h => ?_) (fun h => ?_) | refine vM (fun h => ?_) (fun h => ?_)) <;> (first | (exfalso; omega) | skip))))
def wnS (t : Option T) (n : Int) (x : D) (H : List Sn) (a : Nat) : St := ⟨[(1, iv a), (2, .po 0 0)], [(0, txC t n x H)], 1⟩
attribute [push_cast] wnS.eq_def
theorem okT_rgt {m n : Int} {H : List Sn} (h : okT' m n H = true) : rgt m 0 H = true ∧ n = m := by simpa [okT'] using h
set_option maxHeartbeats 1600000 in
theorem Start_fn (R : Rp l ps t) (n : Int) (x : D) (H : List Sn) (hl : H.length ≤ 1000000) (h : okT' l.length n H = true) (a : Nat) (ha : a ≤ l.length) : OFn Tryz.prog G0 11 [txD t n x H, iv a] [] 0 (.tup [iv (begP l H a), iv 0]) [] := by
  have r1 := wrong_not R n x H hl h a ha
  have hr := (okT_rgt h).1
  refine vF mixed [0, 1, 2, 4, 5, 6, 7, 9, 11, 12, 17, 27, 42] Tryz.func11 rfl Tryz.results11 Tryz.ntmps11 ?_
  (repeat' (first | (with_reducible first | exact True.intro | refine vD ?_ | refine vG ?_ | refine vE ?_) | with_reducible refine vC (r1) ?_ | refine vR ?_ | refine v6 ?_ | with_reducible refine vN ?_ | ((with_reducible first | refine vB (fun h => ?_) (fun h => ?_) | refine vM (fun h => ?_) (fun h => ?_)) <;> (first | (exfalso; omega) | skip))))
  refine vL (lv := [0, 1, 2, 4, 5, 6, 7, 9, 11, 12, 17, 27, 42]) mixed (wnS t n x H) (fun i => i ≤ l.length ∧ begP l H i = begP l H a) (fun i => i) (a) ((GhW.go [1, 2] (by exact vT) rfl)) ?_ ?_
  · exact ⟨ha, rfl⟩
  rintro i ⟨h1, h2⟩
  have r2 := Ahead_fn R i h1
  have hk := brkN_take_le l i
  have r3 := Behind_fn R (brkN (l.take i)) hk
  have hlb := (lastB_take l i h1).1
  rw [beh_last] at r3
  by_cases hb : brkN (l.take i) = 0
  · rw [← h2, begP_first h1 hb]
    (repeat' (first | (with_reducible first | exact True.intro | refine vD ?_ | refine vG ?_ | refine vE ?_) | with_reducible refine vC (r2) ?_ | with_reducible refine DoneW.out ?_ | refine vR ?_ | refine v6 ?_ | with_reducible refine vN ?_ | ((with_reducible first | refine vB (fun h => ?_) (fun h => ?_) | refine vM (fun h => ?_) (fun h => ?_)) <;> (first | (exfalso; omega) | skip))))
  · cases ho : hidO H ((lastB (l.take i) : Int) - 1) with
    | none =>
      have r4 := hides_no t n x H hl _ ho
      rw [← h2, begP_here h1 (by omega) ho]
      (repeat' (first | (with_reducible first | exact True.intro | refine vD ?_ | refine vG ?_ | refine vE ?_) | with_reducible refine vC (r2) ?_ | with_reducible refine vC (r3) ?_ | with_reducible refine vC (r4) ?_ | with_reducible refine DoneW.out ?_ | refine vR ?_ | refine v6 ?_ | with_reducible refine vN ?_ | ((with_reducible first | refine vB (fun h => ?_) (fun h => ?_) | refine vM (fun h => ?_) (fun h => ?_)) <;> (first | (exfalso; omega) | skip))))
    | some y =>
      have r4 := hides_yes t n x H hl _ y ho
      have hm := hidO_some ho
      have hy := rgt_mem hr y hm.1
      obtain ⟨j, hj⟩ : ∃ j : Nat, y.1 = j := ⟨y.1.toNat, by omega⟩
      have ho' := begP_over (Int.le_refl 0) hr h1 (by omega) ho hj
      (repeat' (first | (with_reducible first | exact True.intro | refine vD ?_ | refine vG ?_ | refine vE ?_) | with_reducible refine vC (r2) ?_ | with_reducible refine vC (r3) ?_ | with_reducible refine vC (r4) ?_ | refine vR ?_ | refine v6 ?_ | with_reducible refine vN ?_ | ((with_reducible first | refine vB (fun h => ?_) (fun h => ?_) | refine vM (fun h => ?_) (fun h => ?_)) <;> (first | (exfalso; omega) | skip))))
      rw [hj]
      refine AgW.go (j) [1, 2] (by exact vT) ?_ ?_
      · show j < i
        omega
      · exact ⟨by omega, by rw [← ho', h2]⟩
set_option maxHeartbeats 1600000 in
theorem End_fn (R : Rp l ps t) (n : Int) (x : D) (H : List Sn) (hl : H.length ≤ 1000000) (h : okT' l.length n H = true) (a : Nat) (ha : a ≤ l.length) : OFn Tryz.prog G0 12 [txD t n x H, iv a] [] 0 (.tup [iv (endP l H a), iv 0]) [] := by
  have r1 := wrong_not R n x H hl h a ha
  have hr := (okT_rgt h).1
  have hlen := R.len
  have r0 := Runes_fn R
  refine vF mixed [0, 1, 2, 4, 5, 6, 7, 9, 10, 11, 12, 17, 35, 46] Tryz.func12 rfl Tryz.results12 Tryz.ntmps12 ?_
  (repeat' (first | (with_reducible first | exact True.intro | refine vD ?_ | refine vG ?_ | refine vE ?_) | with_reducible refine vC (r1) ?_ | refine vR ?_ | refine v6 ?_ | with_reducible refine vN ?_ | ((with_reducible first | refine vB (fun h => ?_) (fun h => ?_) | refine vM (fun h => ?_) (fun h => ?_)) <;> (first | (exfalso; omega) | skip))))
  refine vL (lv := [0, 1, 2, 4, 5, 6, 7, 9, 10, 11, 12, 17, 35, 46]) mixed (wnS t n x H) (fun i => i ≤ l.length ∧ endP l H i = endP l H a) (fun i => l.length - i) (a) ((GhW.go [1, 2] (by exact vT) rfl)) ?_ ?_
  · exact ⟨ha, rfl⟩
  rintro i ⟨h1, h2⟩
  have r2 := Ahead_fn R i h1
  have hk := brkN_take_le l i
  have hkl := brkN_le l
  by_cases hb : brkN (l.take i) < brkN l
  · have r3 := Behind_fn R (brkN (l.take i) + 1) hb
    obtain ⟨g1, g2⟩ := beh_next l i h1 hb
    have g3 := (List.getElem?_eq_some_iff.1 g2).1
    rw [g1] at r3
    have ec : (i : Int) + (toB (l.drop i) : Int) + 1 - 1 = ((i + toB (l.drop i) : Nat) : Int) := by omega
    have ec2 : ((i + toB (l.drop i) + 1 : Nat) : Int) = (i : Int) + (toB (l.drop i) : Int) + 1 := by omega
    have ec1 : ((brkN (l.take i) + 1 : Nat) : Int) = (brkN (l.take i) : Int) + 1 := by omega
    rw [ec1, ec2] at r3
    cases ho : hidO H ((i + toB (l.drop i) : Nat) : Int) with
    | none =>
      have r4 := hides_no t n x H hl ((i : Int) + (toB (l.drop i) : Int) + 1) (by rw [ec]; exact ho)
      rw [← h2, endP_here h1 hb ho]
      (repeat' (first | (with_reducible first | exact True.intro | refine vD ?_ | refine vG ?_ | refine vE ?_) | with_reducible refine vC (r2) ?_ | with_reducible refine vC (r3) ?_ | with_reducible refine vC (r4) ?_ | (simp -implicitDefEqProofs -dsimp only [ec]) | refine vR ?_ | refine v6 ?_ | with_reducible refine vN ?_ | ((with_reducible first | refine vB (fun h => ?_) (fun h => ?_) | refine vM (fun h => ?_) (fun h => ?_)) <;> (first | (exfalso; omega) | skip))))
      refine DoneW.now [] (by decide) ?_; (repeat' (first | (with_reducible first | exact True.intro | refine vD ?_ | refine vG ?_ | refine vE ?_) |  refine vR ?_ | refine v6 ?_ | with_reducible refine vN ?_ | ((with_reducible first | refine vB (fun h => ?_) (fun h => ?_) | refine vM (fun h => ?_) (fun h => ?_)) <;> (first | (exfalso; omega) | skip)))); first | exact Sub_refl _ | exact Sub.cons rfl Sub.nil | exact Sub.cons rfl (Sub.cons rfl Sub.nil) | exact Sub.nil
    | some y =>
      have r4 := hides_yes t n x H hl ((i : Int) + (toB (l.drop i) : Int) + 1) y (by rw [ec]; exact ho)
      have hm := hidO_some ho
      have hy := rgt_mem hr y hm.1
      obtain ⟨j, hj⟩ : ∃ j : Nat, y.2 = j := ⟨y.2.toNat, by omega⟩
      have ho' := endP_over hr h1 ho hj
      (repeat' (first | (with_reducible first | exact True.intro | refine vD ?_ | refine vG ?_ | refine vE ?_) | with_reducible refine vC (r2) ?_ | with_reducible refine vC (r3) ?_ | with_reducible refine vC (r4) ?_ | refine vR ?_ | refine v6 ?_ | with_reducible refine vN ?_ | ((with_reducible first | refine vB (fun h => ?_) (fun h => ?_) | refine vM (fun h => ?_) (fun h => ?_)) <;> (first | (exfalso; omega) | skip))))
      rw [hj]
      refine AgW.go (j) [1, 2] (by exact vT) ?_ ?_
      · show l.length - j < l.length - i
        omega
      · exact ⟨by omega, by rw [← ho', h2]⟩
  · have r3 := Behind_bad R ((brkN (l.take i) : Int) + 1) (by omega)
    rw [← h2, endP_last h1 hb]
    (repeat' (first | (with_reducible first | exact True.intro | refine vD ?_ | refine vG ?_ | refine vE ?_) | with_reducible refine vC (r0) ?_ | with_reducible refine vC (r2) ?_ | with_reducible refine vC (r3) ?_ | with_reducible refine DoneW.out ?_ | refine vR ?_ | refine v6 ?_ | with_reducible refine vN ?_ | ((with_reducible first | refine vB (fun h => ?_) (fun h => ?_) | refine vM (fun h => ?_) (fun h => ?_)) <;> (first | (exfalso; omega) | skip))))
end
end Go.Proofs.YthnooilghadjkaaGreatDoor
set_option linter.unusedSimpArgs false
set_option linter.unusedVariables false
set_option maxRecDepth 8000
namespace Go.Proofs.YthnooilghadjkaaGreatDoor
section
variable {G : Gl} {H : List (Int × Int)} {f : Nat} {a : Int} {p : Int × Int → Bool}
end
end Go.Proofs.YthnooilghadjkaaGreatDoor
set_option linter.unusedSimpArgs false
set_option linter.unusedVariables false
set_option maxRecDepth 8000
namespace Go.Proofs.YthnooilghadjkaaGreatDoor
section
variable {l : List Int} {ps : List (List Int)} {t : Option T}
end
end Go.Proofs.YthnooilghadjkaaGreatDoor
set_option linter.unusedSimpArgs false
set_option linter.unusedVariables false
set_option maxRecDepth 8000
namespace Go.Proofs.YthnooilghadjkaaGreatDoor
abbrev Iy := Int × Int × Int × Int × ByteArray
abbrev iyD (x : Iy) : D := .agg [iD x.1, iD x.2.1, iD x.2.2.1, iD x.2.2.2.1, .lit (.string x.2.2.2.2)]
abbrev iyR (l : List Iy) : Blk := .row 5 (l.map iyD)
theorem OFn.nil {P : Program} {G : Gl} {f : Nat} {args : List V} {σ : Sig} {m : Nat} {σ' : Sig} (k : Nat) (b : Bool) (h : OFn P G f args σ m (.d nilSD) σ') : OFn P G f args σ m (.d (.sd k b [])) σ' := by
  intro w I β vals hm hG hd
  refine (h w I β vals hm hG hd).mono ?_
  rintro e w' ⟨u, I', β', h1, h2, h3⟩
  refine ⟨u, I', β', h1, ?_, h3⟩
  cases h2 with
  | lit v => exact .sd0 k b none
section
variable {G : Gl}
variable {L : List Iy} {f : Nat} {caps : List D} {p : Iy → Bool}
end
section
variable {G : Gl} {L : List Iy} {f : Nat} {caps : List D} {p : Iy → Bool}
end
end Go.Proofs.YthnooilghadjkaaGreatDoor
set_option linter.unusedSimpArgs false
set_option linter.unusedVariables false
set_option maxRecDepth 8000
namespace Go.Proofs.YthnooilghadjkaaGreatDoor
inductive Pz where
  | tx (k a : Int) (rs : List Int)
  | fo (a : Int)
def pzD : Pz → D
  | .tx k a rs => .agg [iD k, iD a, .sd 1 false (rs.map ruD)]
  | .fo a => .agg [iD 3, iD a, nilSD]
attribute [push_cast] pzD.eq_1 pzD.eq_2
abbrev pzR (l : List Pz) : Blk := .row 3 (l.map pzD)
theorem snoc_pz (es : List Pz) (x : Pz) : es.map pzD ++ [pzD x] = (es ++ [x]).map pzD := by rw [List.map_append]; rfl
def cutR (l : List Int) (a b : Nat) : List Int := (l.take b).drop a
section
variable {l : List Int} {ps : List (List Int)} {t : Option T}
def showP (l : List Int) (b : Nat) : Nat → List Iy → List Pz
  | a, [] => if a < b then [.tx 1 a (cutR l a b)] else []
  | a, x :: r => (if a < x.2.1.toNat then [.tx 1 a (cutR l a x.2.1.toNat)] else []) ++ (.tx 2 x.2.1 (runesAt x.2.2.2.2 0) :: showP l b (max a x.2.1.toNat) r)
end
end Go.Proofs.YthnooilghadjkaaGreatDoor
set_option linter.unusedSimpArgs false
set_option linter.unusedVariables false
set_option maxRecDepth 8000
namespace Go.Proofs.YthnooilghadjkaaGreatDoor
abbrev inWi (L : List Iy) (a b : Int) : List Iy := L.filter fun x => !(decide (x.2.1 < a) || decide (b < x.2.1))
def runP (l : List Int) (L : List Iy) (e : Nat) : Nat → List Sn → List Pz
  | a, [] => showP l e a (inWi L a e)
  | a, x :: r => if x.1 < a ∨ (e : Int) < x.2 then runP l L e a r else showP l x.1.toNat a (inWi L a x.1) ++ (.fo x.1 :: runP l L e x.2.toNat r)
attribute [push_cast] ltG.eq_def fillE Sig.del selY.eq_def
section
variable {l : List Int} {ps : List (List Int)} {t : Option T}
end
end Go.Proofs.YthnooilghadjkaaGreatDoor
set_option linter.unusedSimpArgs false
set_option linter.unusedVariables false
set_option maxRecDepth 8000
namespace Go.Proofs.YthnooilghadjkaaGreatDoor
def lnD (l : List Int) (L : List Iy) (H : List Sn) (x : Nat × Nat) : D := .agg [.sd 3 false ((runP l L x.2 x.1 H).map pzD), iD x.1, iD x.2]
attribute [push_cast] lnD.eq_def
theorem snoc_map {α : Type} (f : α → D) (es : List α) (x : α) : es.map f ++ [f x] = (es ++ [x]).map f := by rw [List.map_append]; rfl
section
variable {l : List Int} {ps : List (List Int)} {t : Option T}
end
end Go.Proofs.YthnooilghadjkaaGreatDoor
