/- What the theorem leans on, part 11. -/
import Derived.Test.YthnooilghadjkaaGreatDoorSrPAA
import Derived.Test.YthnooilghadjkaaGreatDoorSrPAB
import Derived.Test.YthnooilghadjkaaGreatDoorSrPAC
import Derived.Test.YthnooilghadjkaaGreatDoorSrPAD
import Derived.Test.YthnooilghadjkaaGreatDoorSrPAE
import Derived.Test.YthnooilghadjkaaGreatDoorSrPAH
import Derived.Test.YthnooilghadjkaaGreatDoorSrPAI
import Derived.Test.YthnooilghadjkaaGreatDoorSrPAJ
set_option linter.unusedSimpArgs false
set_option linter.unusedVariables false
set_option maxRecDepth 8000
namespace Go.Proofs.YthnooilghadjkaaGreatDoor
abbrev snD (x : Int × Int) : D := .agg [iD x.1, iD x.2]
abbrev snL (l : List (Int × Int)) : V := .d (.sd 2 false (l.map snD))
theorem find_idx {α : Type} {p : α → Bool} : ∀ {l : List α} {x : α}, l.find? p = some x → ∃ i : Nat, l[i]? = some x ∧ p x = true ∧ ∀ (k : Nat) y, k < i → l[k]? = some y → p y = false
  | [], x, h => by cases h
  | y :: r, x, h => by
    rw [List.find?_cons] at h
    cases hp : p y with
    | true =>
      rw [hp] at h
      injection h with h
      subst h
      exact ⟨0, rfl, hp, fun k z hk => by omega⟩
    | false =>
      rw [hp] at h
      obtain ⟨i, h1, h2, h3⟩ := find_idx h
      refine ⟨i + 1, h1, h2, fun k z hk hz => ?_⟩
      cases k with
      | zero => injection hz with hz; subst hz; exact hp
      | succ k => exact h3 k z (by omega) hz
def ixS (h : List (Int × Int)) (F : D) (i : Nat) : St := ⟨[(0, snL h), (1, .d F), (7, iv h.length), (8, iv i)], [], 0⟩
attribute [push_cast] ixS.eq_def
theorem sel_ds {g : Nat → Option Nat} (l : List D) : (l.map V.d).map (V.sel g) = l.map V.d := by rw [List.map_map]; rfl
section
variable {G : Gl} {H : List (Int × Int)} {f : Nat} {caps : List D} {p : Int × Int → Bool}
theorem IndexFunc_yes (hl : H.length ≤ 1000000) (he : entT Tryz.prog f = true) (hc : ∀ x ∈ H, OFn Tryz.prog G f (.d (snD x) :: caps.map .d) [] 0 (bv (p x)) []) (i : Nat) (x : Int × Int) (hx : H[i]? = some x) (hp : p x = true) (hn : ∀ (k : Nat) y, k < i → H[k]? = some y → p y = false) :
    OFn Tryz.prog G 63 [snL H, .d (.fn f caps)] [] 0 (iv i) [] := by
  have hi := (List.getElem?_eq_some_iff.1 hx).1
  refine vF mixed [0, 1, 4, 5, 7, 8, 9, 16] Tryz.func63 rfl Tryz.results63 Tryz.ntmps63 ?_
  (refine' zg)
  refine vL (lv := [0, 1, 4, 5, 7, 8, 9, 16]) mixed (ixS H (.fn f caps)) (fun k => k ≤ i) (fun k => i - k) (0) ((GhW.go [0, 1, 7, 8] (by exact vT) rfl)) ?_ ?_
  · exact Nat.zero_le _
  intro k hk
  obtain ⟨y, hy⟩ : ∃ y, H[k]? = some y := ⟨_, List.getElem?_eq_getElem (by omega)⟩
  have hcy := hc y (List.mem_of_getElem? hy)
  rcases Nat.lt_or_ge k i with hlt | hge
  · rw [hn k y hlt hy] at hcy
    (refine' zg)
    refine elX.is k y (by omega) hy ?_
    (repeat' (first | (with_reducible first | exact True.intro | refine vD ?_ | refine vG ?_ | refine vE ?_) | (with_reducible refine vC hcy ?_ he (sel_ds (snD y :: caps)) rfl) | refine vR ?_ | refine v6 ?_ | with_reducible refine vN ?_ | ((with_reducible first | refine vB (fun h => ?_) (fun h => ?_) | refine vM (fun h => ?_) (fun h => ?_)) <;> (first | (exfalso; omega) | skip))))
    refine AgW.go (k + 1) [0, 1, 7, 8] (by exact vT) ?_ ?_
    · show i - (k + 1) < i - k
      omega
    · exact hlt
  · obtain rfl : k = i := by omega
    rw [hx] at hy
    injection hy with hy
    subst hy
    rw [hp] at hcy
    (refine' zg)
    refine elX.is k x (by omega) hx ?_
    (repeat' (first | (with_reducible first | exact True.intro | refine vD ?_ | refine vG ?_ | refine vE ?_) | (with_reducible refine vC hcy ?_ he (sel_ds (snD x :: caps)) rfl) | with_reducible refine DoneW.out ?_ | refine vR ?_ | refine v6 ?_ | with_reducible refine vN ?_ | ((with_reducible first | refine vB (fun h => ?_) (fun h => ?_) | refine vM (fun h => ?_) (fun h => ?_)) <;> (first | (exfalso; omega) | skip))))
theorem IndexFunc_no (hl : H.length ≤ 1000000) (he : entT Tryz.prog f = true) (hc : ∀ x ∈ H, OFn Tryz.prog G f (.d (snD x) :: caps.map .d) [] 0 (bv (p x)) []) (hn : ∀ x ∈ H, p x = false) :
    OFn Tryz.prog G 63 [snL H, .d (.fn f caps)] [] 0 (iv (-1)) [] := by
  refine vF mixed [0, 1, 4, 5, 7, 8, 9, 16] Tryz.func63 rfl Tryz.results63 Tryz.ntmps63 ?_
  (refine' zg)
  refine vL (lv := [0, 1, 4, 5, 7, 8, 9, 16]) mixed (ixS H (.fn f caps)) (fun k => k ≤ H.length) (fun k => H.length - k) (0) ((GhW.go [0, 1, 7, 8] (by exact vT) rfl)) ?_ ?_
  · exact Nat.zero_le _
  intro k hk
  (refine' zo)
  refine elX.intro fun y hy => ?_
  have hcy := hc y (List.mem_of_getElem? hy)
  rw [hn y (List.mem_of_getElem? hy)] at hcy
  (repeat' (first | (with_reducible first | exact True.intro | refine vD ?_ | refine vG ?_ | refine vE ?_) | (with_reducible refine vC hcy ?_ he (sel_ds (snD y :: caps)) rfl) | refine vR ?_ | refine v6 ?_ | with_reducible refine vN ?_ | ((with_reducible first | refine vB (fun h => ?_) (fun h => ?_) | refine vM (fun h => ?_) (fun h => ?_)) <;> (first | (exfalso; omega) | skip))))
  refine AgW.go (k + 1) [0, 1, 7, 8] (by exact vT) ?_ ?_
  · show H.length - (k + 1) < H.length - k
    omega
  · show k + 1 ≤ H.length
    omega
theorem ContainsFunc_yes (hl : H.length ≤ 1000000) (he : entT Tryz.prog f = true) (hc : ∀ x ∈ H, OFn Tryz.prog G f (.d (snD x) :: caps.map .d) [] 0 (bv (p x)) []) (i : Nat) (x : Int × Int) (hx : H[i]? = some x) (hp : p x = true) (hn : ∀ (k : Nat) y, k < i → H[k]? = some y → p y = false) :
    OFn Tryz.prog G 70 [snL H, .d (.fn f caps)] [] 0 (bv true) [] := by
  have r1 := IndexFunc_yes hl he hc i x hx hp hn
  have e : decide ((0 : Int) ≤ (i : Int)) = true := by simp
  rw [← e]
  refine vF mixed [0, 1, 4] Tryz.func70 rfl Tryz.results70 Tryz.ntmps70 ?_
  (refine' zo1 r1)
theorem ContainsFunc_no (hl : H.length ≤ 1000000) (he : entT Tryz.prog f = true) (hc : ∀ x ∈ H, OFn Tryz.prog G f (.d (snD x) :: caps.map .d) [] 0 (bv (p x)) []) (hn : ∀ x ∈ H, p x = false) :
    OFn Tryz.prog G 70 [snL H, .d (.fn f caps)] [] 0 (bv false) [] := by
  have r1 := IndexFunc_no hl he hc hn
  refine vF mixed [0, 1, 4] Tryz.func70 rfl Tryz.results70 Tryz.ntmps70 ?_
  (refine' zo1 r1)
  rfl
end
end Go.Proofs.YthnooilghadjkaaGreatDoor
set_option linter.unusedSimpArgs false
set_option linter.unusedVariables false
set_option maxRecDepth 8000
namespace Go.Proofs.YthnooilghadjkaaGreatDoor
def inlD (n : Int) (x : D) : D := .pd 2 [.agg [iD n, x]] 0 0
abbrev txD (t : Option T) (n : Int) (x : D) (h : List Sn) : V := .d (.agg [ropeD t, inlD n x, .sd 2 false (h.map snD)])
theorem iLen_fn (n : Int) (x : D) : OFn Tryz.prog G0 41 [.d (inlD n x)] [] 0 (iv n) [] := by
  rw [inlD]
  refine vF mixed [0, 2, 4] Tryz.func41 rfl Tryz.results41 Tryz.ntmps41 ?_
  (refine' zo)
theorem hidN {h : List Sn} {a : Int} (ha : hidO h a = none) : ∀ y ∈ h, inSp a y = false := fun y hy => by
  have := hidO_none ha y hy
  cases hb : inSp a y with
  | false => rfl
  | true => exact (this (inSp_iff.1 hb)).elim
end Go.Proofs.YthnooilghadjkaaGreatDoor
set_option linter.unusedSimpArgs false
set_option linter.unusedVariables false
set_option maxRecDepth 8000
namespace Go.Proofs.YthnooilghadjkaaGreatDoor
abbrev txC (t : Option T) (n : Int) (x : D) (H : List Sn) : Blk := .cell [.d (ropeD t), .d (inlD n x), .d (.sd 2 false (H.map snD))]
def scS (t : Option T) (n : Int) (x : D) (H : List Sn) (m : Int) (y : Nat × Int) : St := ⟨[(1, .po 0 0), (3, iv m), (4, iv y.2), (11, snL H), (12, iv H.length), (13, iv y.1)], [(0, txC t n x H)], 1⟩
attribute [push_cast] scS.eq_def
def okT' (m n : Int) (H : List Sn) : Bool := rgt m 0 H && decide (n = m)
section
variable {l : List Int} {ps : List (List Int)} {t : Option T}
set_option maxHeartbeats 1600000 in
theorem sCheck_fn (R : Rp l ps t) (n : Int) (x : D) (H : List Sn) (hl : H.length ≤ 1000000) : OFn Tryz.prog G0 18 [txD t n x H] [] 0 (iv (if okT' l.length n H = true then 0 else 4)) [] := by
  have r1 := Runes_fn R
  have r2 := iLen_fn n x
  refine vF mixed [0, 1, 2, 3, 4, 6, 11, 12, 13, 14, 33, 41] Tryz.func18 rfl Tryz.results18 Tryz.ntmps18 ?_
  (refine' zg1 r1)
  refine vL (lv := [0, 1, 2, 3, 4, 6, 11, 12, 13, 14, 33, 41]) mixed (scS t n x H l.length) (fun y => y.1 ≤ H.length ∧ rgt l.length y.2 (H.drop y.1) = rgt l.length 0 H) (fun y => H.length - y.1) ((0, 0)) ((GhW.go [1, 3, 4, 11, 12, 13] (by exact vT) rfl)) ?_ ?_
  · exact ⟨Nat.zero_le _, rfl⟩
  rintro ⟨i, last⟩ ⟨h1, h2⟩
  simp only at h1 h2
  (refine' zg1 r2)
  · refine elX.intro fun y hy => ?_
    have hd := drop_is hy
    rw [hd] at h2
    (refine' zg)
    · have : okT' l.length n H = false := by
        rw [okT', ← h2]
        cases hr : rgt l.length last (y :: H.drop (i + 1)) with
        | false => rfl
        | true => have := (rgt_cons.1 hr).1; omega
      rw [if_neg (by simp [this])]
      refine DoneW.now [] (by decide) ?_; (refine' zg); first | exact Sub_refl _ | exact Sub.cons rfl Sub.nil | exact Sub.cons rfl (Sub.cons rfl Sub.nil) | exact Sub.nil
    · refine AgW.go ((i + 1, y.2)) [1, 3, 4, 11, 12, 13] (by exact vT) ?_ ?_
      · show H.length - (i + 1) < H.length - i
        omega
      · refine ⟨by simp only; omega, ?_⟩
        rw [← h2]
        simp only
        rw [Bool.eq_iff_iff, rgt_cons]
        constructor
        · intro h3; exact ⟨by omega, h3⟩
        · intro h3; exact h3.2
  · rw [List.drop_of_length_le (by omega)] at h2
    have e : okT' l.length n H = false := by
      rw [okT', decide_eq_false (by omega), Bool.and_false]
    rw [if_neg (by simp [e])]
    refine DoneW.now [] (by decide) ?_; (refine' zg); first | exact Sub_refl _ | exact Sub.cons rfl Sub.nil | exact Sub.cons rfl (Sub.cons rfl Sub.nil) | exact Sub.nil
  · rw [List.drop_of_length_le (by omega)] at h2
    have e : okT' l.length n H = true := by
      rw [okT', decide_eq_true (by omega), Bool.and_true, ← h2]; rfl
    rw [if_pos e]
    refine DoneW.now [] (by decide) ?_; (refine' zg); first | exact Sub_refl _ | exact Sub.cons rfl Sub.nil | exact Sub.cons rfl (Sub.cons rfl Sub.nil) | exact Sub.nil
def wnS (t : Option T) (n : Int) (x : D) (H : List Sn) (a : Nat) : St := ⟨[(1, iv a), (2, .po 0 0)], [(0, txC t n x H)], 1⟩
attribute [push_cast] wnS.eq_def
theorem okT_rgt {m n : Int} {H : List Sn} (h : okT' m n H = true) : rgt m 0 H = true ∧ n = m := by simpa [okT'] using h
end
end Go.Proofs.YthnooilghadjkaaGreatDoor
set_option linter.unusedSimpArgs false
set_option linter.unusedVariables false
set_option maxRecDepth 8000
namespace Go.Proofs.YthnooilghadjkaaGreatDoor
def iyS (H : List (Int × Int)) (f : Nat) (a : Int) (i : Nat) : St := ⟨[(0, snL H), (1, .fn f [.po 0 0]), (7, iv H.length), (8, iv i)], [(0, .cell [iv a])], 1⟩
attribute [push_cast] iyS.eq_def
section
variable {G : Gl} {H : List (Int × Int)} {f : Nat} {a : Int} {p : Int × Int → Bool}
theorem IndexFunc_yesO (hl : H.length ≤ 1000000) (he : entT Tryz.prog f = true) (hc : ∀ x ∈ H, OFn Tryz.prog G f [.d (snD x), .po 0 0] [(0, .cell [iv a])] 1 (bv (p x)) [(0, .cell [iv a])]) (i : Nat) (x : Int × Int) (hx : H[i]? = some x) (hp : p x = true) (hn : ∀ (k : Nat) y, k < i → H[k]? = some y → p y = false) :
    OFn Tryz.prog G 63 [snL H, .fn f [.po 0 0]] [(0, .cell [iv a])] 1 (iv i) [(0, .cell [iv a])] := by
  have hi := (List.getElem?_eq_some_iff.1 hx).1
  refine vF mixed [0, 1, 4, 5, 7, 8, 9, 16] Tryz.func63 rfl Tryz.results63 Tryz.ntmps63 ?_
  (refine' zg)
  refine vL (lv := [0, 1, 4, 5, 7, 8, 9, 16]) mixed (iyS H f a) (fun k => k ≤ i) (fun k => i - k) (0) ((GhW.go [0, 1, 7, 8] (by exact vT) rfl)) ?_ ?_
  · exact Nat.zero_le _
  intro k hk
  obtain ⟨y, hy⟩ : ∃ y, H[k]? = some y := ⟨_, List.getElem?_eq_getElem (by omega)⟩
  have hcy := hc y (List.mem_of_getElem? hy)
  rcases Nat.lt_or_ge k i with hlt | hge
  · rw [hn k y hlt hy] at hcy
    (refine' zg)
    refine elX.is k y (by omega) hy ?_
    (repeat' (first | (with_reducible first | exact True.intro | refine vD ?_ | refine vG ?_ | refine vE ?_) | (with_reducible refine vOd 0 hcy ?_ (he := he)) | refine vR ?_ | refine v6 ?_ | with_reducible refine vN ?_ | ((with_reducible first | refine vB (fun h => ?_) (fun h => ?_) | refine vM (fun h => ?_) (fun h => ?_)) <;> (first | (exfalso; omega) | skip))))
    refine AgW.go (k + 1) [0, 1, 7, 8] (by exact vT) ?_ ?_
    · show i - (k + 1) < i - k
      omega
    · exact hlt
  · obtain rfl : k = i := by omega
    rw [hx] at hy
    injection hy with hy
    subst hy
    rw [hp] at hcy
    (refine' zg)
    refine elX.is k x (by omega) hx ?_
    (repeat' (first | (with_reducible first | exact True.intro | refine vD ?_ | refine vG ?_ | refine vE ?_) | (with_reducible refine vOd 0 hcy ?_ (he := he)) | refine vR ?_ | refine v6 ?_ | with_reducible refine vN ?_ | ((with_reducible first | refine vB (fun h => ?_) (fun h => ?_) | refine vM (fun h => ?_) (fun h => ?_)) <;> (first | (exfalso; omega) | skip))))
    refine DoneW.now [] (by decide) ?_; (refine' zg); first | exact Sub_refl _ | exact Sub.cons rfl Sub.nil | exact Sub.cons rfl (Sub.cons rfl Sub.nil) | exact Sub.nil
theorem IndexFunc_noO (hl : H.length ≤ 1000000) (he : entT Tryz.prog f = true) (hc : ∀ x ∈ H, OFn Tryz.prog G f [.d (snD x), .po 0 0] [(0, .cell [iv a])] 1 (bv (p x)) [(0, .cell [iv a])]) (hn : ∀ x ∈ H, p x = false) :
    OFn Tryz.prog G 63 [snL H, .fn f [.po 0 0]] [(0, .cell [iv a])] 1 (iv (-1)) [(0, .cell [iv a])] := by
  refine vF mixed [0, 1, 4, 5, 7, 8, 9, 16] Tryz.func63 rfl Tryz.results63 Tryz.ntmps63 ?_
  (refine' zg)
  refine vL (lv := [0, 1, 4, 5, 7, 8, 9, 16]) mixed (iyS H f a) (fun k => k ≤ H.length) (fun k => H.length - k) (0) ((GhW.go [0, 1, 7, 8] (by exact vT) rfl)) ?_ ?_
  · exact Nat.zero_le _
  intro k hk
  (refine' zg)
  · refine elX.intro fun y hy => ?_
    have hcy := hc y (List.mem_of_getElem? hy)
    rw [hn y (List.mem_of_getElem? hy)] at hcy
    (repeat' (first | (with_reducible first | exact True.intro | refine vD ?_ | refine vG ?_ | refine vE ?_) | (with_reducible refine vOd 0 hcy ?_ (he := he)) | refine vR ?_ | refine v6 ?_ | with_reducible refine vN ?_ | ((with_reducible first | refine vB (fun h => ?_) (fun h => ?_) | refine vM (fun h => ?_) (fun h => ?_)) <;> (first | (exfalso; omega) | skip))))
    refine AgW.go (k + 1) [0, 1, 7, 8] (by exact vT) ?_ ?_
    · show H.length - (k + 1) < H.length - k
      omega
    · show k + 1 ≤ H.length
      omega
  · refine DoneW.now [] (by decide) ?_; (refine' zg); first | exact Sub_refl _ | exact Sub.cons rfl Sub.nil | exact Sub.cons rfl (Sub.cons rfl Sub.nil) | exact Sub.nil
end
end Go.Proofs.YthnooilghadjkaaGreatDoor
set_option linter.unusedSimpArgs false
set_option linter.unusedVariables false
set_option maxRecDepth 8000
namespace Go.Proofs.YthnooilghadjkaaGreatDoor
theorem begins1_fn (x : Sn) (a : Int) : OFn Tryz.prog G0 71 [.d (snD x), .d (boxD a)] [] 0 (bv (inSp (a - 1) x)) [] := by
  have e : (decide (x.1 < a) && decide (a ≤ x.2)) = inSp (a - 1) x := by
    unfold inSp
    rw [Bool.eq_iff_iff]
    simp only [Bool.and_eq_true, decide_eq_true_eq]
    omega
  rw [← e]
  refine vF mixed [0, 1, 2, 3] Tryz.func71 rfl Tryz.results71 Tryz.ntmps71 ?_
  (refine' zo)
theorem end1_fn (x : Sn) (a : Int) : OFn Tryz.prog G0 95 [.d (snD x), .po 0 0] [(0, .cell [iv a])] 1 (bv (inSp (a - 1) x)) [(0, .cell [iv a])] := by
  have e : (decide (x.1 < a) && decide (a ≤ x.2)) = inSp (a - 1) x := by
    unfold inSp
    rw [Bool.eq_iff_iff]
    simp only [Bool.and_eq_true, decide_eq_true_eq]
    omega
  rw [← e]
  refine vF mixed [0, 1, 2, 3] Tryz.func95 rfl Tryz.results95 Tryz.ntmps95 ?_
  (refine' zg)
  all_goals (refine DoneW.now [] (by decide) ?_; (refine' zg); first | exact Sub_refl _ | exact Sub.cons rfl Sub.nil | exact Sub.cons rfl (Sub.cons rfl Sub.nil) | exact Sub.nil)
section
variable {l : List Int} {ps : List (List Int)} {t : Option T}
theorem begins_out (R : Rp l ps t) (n : Int) (x : D) (H : List Sn) (a : Int) (ha : a ≤ 0 ∨ (l.length : Int) < a) : OFn Tryz.prog G0 42 [txD t n x H, iv a] [] 0 (bv (a == 0)) [] := by
  have r1 := Runes_fn R
  refine vF mixed [0, 1, 2, 3, 4, 5, 15] Tryz.func42 rfl Tryz.results42 Tryz.ntmps42 ?_
  (refine' zo1 r1)
set_option maxHeartbeats 1600000 in
theorem begins_in (R : Rp l ps t) (n : Int) (x : D) (H : List Sn) (hl : H.length ≤ 1000000) (a : Nat) (h0 : 0 < a) (ha : a ≤ l.length) : OFn Tryz.prog G0 42 [txD t n x H, iv a] [] 0 (bv (shB l H (a - 1))) [] := by
  have r1 := Runes_fn R
  obtain ⟨r, hr⟩ : ∃ r, l[a - 1]? = some r := ⟨_, List.getElem?_eq_getElem (by omega)⟩
  have r2 := rAt_fn R (a - 1) r hr
  have hlen := R.len
  have ec : ((a - 1 : Nat) : Int) = (a : Int) - 1 := by omega
  rw [ec] at r2
  by_cases h10 : r = 10
  · subst h10
    cases ho : hidO H ((a : Int) - 1) with
    | none =>
      have r3 := ContainsFunc_no (G := G0) (H := H) (f := 71) (caps := [boxD a]) (p := inSp ((a : Int) - 1)) hl (by kernel_rfl) (fun y _ => begins1_fn y a) (hidN ho)
      rw [shB_iff.2 ⟨hr, by rw [ec]; exact ho⟩]
      refine vF mixed [0, 1, 2, 3, 4, 5, 15] Tryz.func42 rfl Tryz.results42 Tryz.ntmps42 ?_
      (refine' zg2 r1 r2)
      refine CallW.frz 4 rfl ?_
      (refine' zo1 r3)
    | some y =>
      obtain ⟨i, g1, g2, g3⟩ := find_idx ho
      have r3 := ContainsFunc_yes (G := G0) (H := H) (f := 71) (caps := [boxD a]) (p := inSp ((a : Int) - 1)) hl (by kernel_rfl) (fun y _ => begins1_fn y a) i y g1 g2 g3
      have e0 : shB l H (a - 1) = false := by
        cases hb : shB l H (a - 1) with
        | false => rfl
        | true => have := (shB_iff.1 hb).2; rw [ec, ho] at this; cases this
      rw [e0]
      refine vF mixed [0, 1, 2, 3, 4, 5, 15] Tryz.func42 rfl Tryz.results42 Tryz.ntmps42 ?_
      (refine' zg2 r1 r2)
      refine CallW.frz 4 rfl ?_
      (refine' zo1 r3)
  · rw [shB_no (by rw [hr]; intro e; injection e with e; exact h10 e)]
    refine vF mixed [0, 1, 2, 3, 4, 5, 15] Tryz.func42 rfl Tryz.results42 Tryz.ntmps42 ?_
    (refine' zo2 r1 r2)
set_option maxHeartbeats 1600000 in
theorem end_fn (R : Rp l ps t) (n : Int) (x : D) (H : List Sn) (hl : H.length ≤ 1000000) (hr : rgt l.length 0 H = true) (a : Nat) (ha : a ≤ l.length) : OFn Tryz.prog G0 66 [txD t n x H, iv a] [] 0 (iv (endP l H a)) [] := by
  have hlen := R.len
  have r0 := Runes_fn R
  refine vF mixed [0, 1, 2, 4, 5, 7, 8, 9, 26, 35] Tryz.func66 rfl Tryz.results66 Tryz.ntmps66 ?_
  (refine' zg)
  refine vL (lv := [0, 1, 2, 4, 5, 7, 8, 9, 26, 35]) mixed (wnS t n x H) (fun i => i ≤ l.length ∧ endP l H i = endP l H a) (fun i => l.length - i) (a) ((GhW.go [1, 2] (by exact vT) rfl)) ?_ ?_
  · exact ⟨ha, rfl⟩
  rintro i ⟨h1, h2⟩
  have r2 := Ahead_fn R i h1
  have hk := brkN_take_le l i
  have hkl := brkN_le l
  by_cases hb : brkN (l.take i) < brkN l
  · have r3 := Behind_fn R (brkN (l.take i) + 1) hb
    obtain ⟨g1, g2⟩ := beh_next l i h1 hb
    have g3 := (List.getElem?_eq_some_iff.1 g2).1
    rw [g1] at r3
    have ec : (i : Int) + (toB (l.drop i) : Int) + 1 - 1 = ((i + toB (l.drop i) : Nat) : Int) := by omega
    have ec2 : ((i + toB (l.drop i) + 1 : Nat) : Int) = (i : Int) + (toB (l.drop i) : Int) + 1 := by omega
    have ec1 : ((brkN (l.take i) + 1 : Nat) : Int) = (brkN (l.take i) : Int) + 1 := by omega
    rw [ec1, ec2] at r3
    cases ho : hidO H ((i + toB (l.drop i) : Nat) : Int) with
    | none =>
      have r4 := IndexFunc_noO (G := G0) (H := H) (f := 95) (a := (i : Int) + (toB (l.drop i) : Int) + 1) (p := inSp ((i : Int) + (toB (l.drop i) : Int) + 1 - 1)) hl (by kernel_rfl) (fun y _ => end1_fn y _) (hidN (by rw [ec]; exact ho))
      rw [← h2, endP_here h1 hb ho]
      (refine' zg2 r2 r3)
      refine vOd 69 r4 ?_
      (repeat' (first | (with_reducible first | exact True.intro | refine vD ?_ | refine vG ?_ | refine vE ?_) | (simp -implicitDefEqProofs -dsimp only [ec]) | refine vR ?_ | refine v6 ?_ | with_reducible refine vN ?_ | ((with_reducible first | refine vB (fun h => ?_) (fun h => ?_) | refine vM (fun h => ?_) (fun h => ?_)) <;> (first | (exfalso; omega) | skip))))
      refine DoneW.now [] (by decide) ?_; (refine' zg); first | exact Sub_refl _ | exact Sub.cons rfl Sub.nil | exact Sub.cons rfl (Sub.cons rfl Sub.nil) | exact Sub.nil
    | some y =>
      obtain ⟨j', q1, q2, q3⟩ := find_idx ho
      have r4 := IndexFunc_yesO (G := G0) (H := H) (f := 95) (a := (i : Int) + (toB (l.drop i) : Int) + 1) (p := inSp ((i : Int) + (toB (l.drop i) : Int) + 1 - 1)) hl (by kernel_rfl) (fun y _ => end1_fn y _) j' y q1 (by rw [ec]; exact q2) (by rw [ec]; exact q3)
      have hm := hidO_some ho
      have hy := rgt_mem hr y hm.1
      obtain ⟨j, hj⟩ : ∃ j : Nat, y.2 = j := ⟨y.2.toNat, by omega⟩
      have ho' := endP_over hr h1 ho hj
      have hj' := (List.getElem?_eq_some_iff.1 q1).1
      (refine' zg2 r2 r3)
      refine vOd 69 r4 ?_
      (refine' zg)
      refine elX.is j' y (by omega) q1 ?_
      (refine' zg)
      rw [hj]
      refine AgW.go (j) [1, 2] (by exact vT) ?_ ?_
      · show l.length - j < l.length - i
        omega
      · exact ⟨by omega, by rw [← ho', h2]⟩
  · have r3 := Behind_bad R ((brkN (l.take i) : Int) + 1) (by omega)
    rw [← h2, endP_last h1 hb]
    (refine' zo3 r0 r2 r3)
end
end Go.Proofs.YthnooilghadjkaaGreatDoor
set_option linter.unusedSimpArgs false
set_option linter.unusedVariables false
set_option maxRecDepth 8000
namespace Go.Proofs.YthnooilghadjkaaGreatDoor
abbrev Iy := Int × Int × Int × Int × ByteArray
abbrev iyD (x : Iy) : D := .agg [iD x.1, iD x.2.1, iD x.2.2.1, iD x.2.2.2.1, .lit (.string x.2.2.2.2)]
abbrev iyR (l : List Iy) : Blk := .row 5 (l.map iyD)
def inlL (L : List Iy) : D := match L with
  | [] => nilSD
  | _ => .sd 5 false (L.map iyD)
theorem OFn.nil {P : Program} {G : Gl} {f : Nat} {args : List V} {σ : Sig} {m : Nat} {σ' : Sig} (k : Nat) (b : Bool) (h : OFn P G f args σ m (.d nilSD) σ') : OFn P G f args σ m (.d (.sd k b [])) σ' := by
  intro w I β vals hm hG hd
  refine (h w I β vals hm hG hd).mono ?_
  rintro e w' ⟨u, I', β', h1, h2, h3⟩
  refine ⟨u, I', β', h1, ?_, h3⟩
  cases h2 with
  | lit v => exact .sd0 k b none
section
variable {G : Gl}
theorem iClone_nil : OFn Tryz.prog G 150 [.d nilSD] [] 0 (.d nilSD) [] := by
  refine vF mixed [0, 2, 4] Tryz.func150 rfl Tryz.results150 Tryz.ntmps150 ?_
  (refine' zo)
theorem iClone_fn (l : List Iy) (hl : 0 < l.length) (hl2 : l.length ≤ 100000) : OFn Tryz.prog G 150 [.d (.sd 5 false (l.map iyD))] [] 0 (.so 0 5 0 l.length) [(0, iyR l)] := by
  rcases l with _ | ⟨x, r⟩
  · simp at hl
  simp only [List.map_cons]
  have hr : r.length ≤ 100000 := by simp at hl2; omega
  refine vF mixed [0, 2, 4] Tryz.func150 rfl Tryz.results150 Tryz.ntmps150 ?_
  (refine' zg)
  refine DoneW.now [20] (by decide) ?_
  (refine' zg)
  exact Sub_refl _
theorem iAll_nil (n : Int) : OFn Tryz.prog G 128 [.d (inlD n nilSD)] [] 0 (.d nilSD) [] := by
  rw [inlD]
  refine vF mixed [0, 2, 4] Tryz.func128 rfl Tryz.results128 Tryz.ntmps128 ?_
  (refine' zo1 iClone_nil)
theorem iAll_fn (n : Int) (l : List Iy) (hl : 0 < l.length) (hl2 : l.length ≤ 100000) : OFn Tryz.prog G 128 [.d (inlD n (.sd 5 false (l.map iyD)))] [] 0 (.so 0 5 0 l.length) [(0, iyR l)] := by
  rw [inlD]
  have r1 := iClone_fn (G := G) l hl hl2
  refine vF mixed [0, 2, 4] Tryz.func128 rfl Tryz.results128 Tryz.ntmps128 ?_
  (refine' zgK r1)
  refine DoneW.now [28] (by decide) ?_; (refine' zg); first | exact Sub_refl _ | exact Sub.cons rfl Sub.nil | exact Sub.cons rfl (Sub.cons rfl Sub.nil) | exact Sub.nil
def ibS (L : List Iy) (F : D) (i : Nat) : St := ⟨[(0, .so 0 5 0 L.length), (1, .d F), (7, iv L.length), (8, iv i)], [(0, iyR L)], 1⟩
attribute [push_cast] ibS.eq_def
variable {L : List Iy} {f : Nat} {caps : List D} {p : Iy → Bool}
theorem iIndex_yes (hl : L.length ≤ 1000000) (he : entT Tryz.prog f = true) (hc : ∀ x ∈ L, OFn Tryz.prog G f (.d (iyD x) :: caps.map .d) [] 0 (bv (p x)) []) (i : Nat) (x : Iy) (hx : L[i]? = some x) (hp : p x = true) (hn : ∀ (k : Nat) y, k < i → L[k]? = some y → p y = false) :
    OFn Tryz.prog G 149 [.so 0 5 0 L.length, .d (.fn f caps)] [(0, iyR L)] 1 (iv i) [(0, iyR L)] := by
  have hi := (List.getElem?_eq_some_iff.1 hx).1
  refine vF mixed [0, 1, 4, 5, 7, 8, 9, 16] Tryz.func149 rfl Tryz.results149 Tryz.ntmps149 ?_
  (refine' zg)
  refine vL (lv := [0, 1, 4, 5, 7, 8, 9, 16]) mixed (ibS L (.fn f caps)) (fun k => k ≤ i) (fun k => i - k) (0) ((GhW.go [0, 1, 7, 8] (by exact vT) rfl)) ?_ ?_
  · exact Nat.zero_le _
  intro k hk
  obtain ⟨y, hy⟩ : ∃ y, L[k]? = some y := ⟨_, List.getElem?_eq_getElem (by omega)⟩
  have hcy := hc y (List.mem_of_getElem? hy)
  rcases Nat.lt_or_ge k i with hlt | hge
  · rw [hn k y hlt hy] at hcy
    (refine' zg)
    refine elX.is k y (by omega) hy ?_
    (repeat' (first | (with_reducible first | exact True.intro | refine vD ?_ | refine vG ?_ | refine vE ?_) | (with_reducible refine vC hcy ?_ he (sel_ds (iyD y :: caps)) rfl) | refine vR ?_ | refine v6 ?_ | with_reducible refine vN ?_ | ((with_reducible first | refine vB (fun h => ?_) (fun h => ?_) | refine vM (fun h => ?_) (fun h => ?_)) <;> (first | (exfalso; omega) | skip))))
    refine AgW.go (k + 1) [0, 1, 7, 8] (by exact vT) ?_ ?_
    · show i - (k + 1) < i - k
      omega
    · exact hlt
  · obtain rfl : k = i := by omega
    rw [hx] at hy
    injection hy with hy
    subst hy
    rw [hp] at hcy
    (refine' zg)
    refine elX.is k x (by omega) hx ?_
    (repeat' (first | (with_reducible first | exact True.intro | refine vD ?_ | refine vG ?_ | refine vE ?_) | (with_reducible refine vC hcy ?_ he (sel_ds (iyD x :: caps)) rfl) | refine vR ?_ | refine v6 ?_ | with_reducible refine vN ?_ | ((with_reducible first | refine vB (fun h => ?_) (fun h => ?_) | refine vM (fun h => ?_) (fun h => ?_)) <;> (first | (exfalso; omega) | skip))))
    refine DoneW.now [] (by decide) ?_; (refine' zg); first | exact Sub_refl _ | exact Sub.cons rfl Sub.nil | exact Sub.cons rfl (Sub.cons rfl Sub.nil) | exact Sub.nil
theorem iIndex_no (hl : L.length ≤ 1000000) (he : entT Tryz.prog f = true) (hc : ∀ x ∈ L, OFn Tryz.prog G f (.d (iyD x) :: caps.map .d) [] 0 (bv (p x)) []) (hn : ∀ x ∈ L, p x = false) :
    OFn Tryz.prog G 149 [.so 0 5 0 L.length, .d (.fn f caps)] [(0, iyR L)] 1 (iv (-1)) [(0, iyR L)] := by
  refine vF mixed [0, 1, 4, 5, 7, 8, 9, 16] Tryz.func149 rfl Tryz.results149 Tryz.ntmps149 ?_
  (refine' zg)
  refine vL (lv := [0, 1, 4, 5, 7, 8, 9, 16]) mixed (ibS L (.fn f caps)) (fun k => k ≤ L.length) (fun k => L.length - k) (0) ((GhW.go [0, 1, 7, 8] (by exact vT) rfl)) ?_ ?_
  · exact Nat.zero_le _
  intro k hk
  (refine' zg)
  · refine elX.intro fun y hy => ?_
    have hcy := hc y (List.mem_of_getElem? hy)
    rw [hn y (List.mem_of_getElem? hy)] at hcy
    (repeat' (first | (with_reducible first | exact True.intro | refine vD ?_ | refine vG ?_ | refine vE ?_) | (with_reducible refine vC hcy ?_ he (sel_ds (iyD y :: caps)) rfl) | refine vR ?_ | refine v6 ?_ | with_reducible refine vN ?_ | ((with_reducible first | refine vB (fun h => ?_) (fun h => ?_) | refine vM (fun h => ?_) (fun h => ?_)) <;> (first | (exfalso; omega) | skip))))
    refine AgW.go (k + 1) [0, 1, 7, 8] (by exact vT) ?_ ?_
    · show L.length - (k + 1) < L.length - k
      omega
    · show k + 1 ≤ L.length
      omega
  · refine DoneW.now [] (by decide) ?_; (refine' zg); first | exact Sub_refl _ | exact Sub.cons rfl Sub.nil | exact Sub.cons rfl (Sub.cons rfl Sub.nil) | exact Sub.nil
end
theorem within1_fn (x : Iy) (a b : Int) : OFn Tryz.prog G0 129 [.d (iyD x), .d (boxD a), .d (boxD b)] [] 0 (bv (decide (x.2.1 < a) || decide (b < x.2.1))) [] := by
  refine vF mixed [0, 1, 2, 3, 4] Tryz.func129 rfl Tryz.results129 Tryz.ntmps129 ?_
  (refine' zo)
def deS (N : Nat) (F : D) (x : Nat × Nat × List Iy) : St := ⟨[(0, .so 0 5 0 N), (1, .d F), (5, iv x.1), (6, iv x.2.1)], [(0, iyR x.2.2)], 1⟩
attribute [push_cast] deS.eq_def
section
variable {G : Gl} {L : List Iy} {f : Nat} {caps : List D} {p : Iy → Bool}
abbrev keepP (p : Iy → Bool) (l : List Iy) : List Iy := l.filter fun x => !p x
theorem filter_head {L : List Iy} {i : Nat} {x : Iy} (hx : L[i]? = some x) (hp : p x = true) (hn : ∀ (k : Nat) y, k < i → L[k]? = some y → p y = false) : keepP p (L.take (i + 1)) = L.take i := by
  rw [keepP, take_snoc' hx, List.filter_append]
  have e1 : (L.take i).filter (fun x => !p x) = L.take i := by
    rw [List.filter_eq_self]
    intro y hy
    obtain ⟨k, hk⟩ := List.getElem?_of_mem hy
    rw [List.getElem?_take] at hk
    split at hk
    · rename_i hki
      simp [hn k y hki hk]
    · cases hk
  rw [e1]; simp [hp]
set_option maxHeartbeats 1600000 in
theorem iDelete_fn (hl : L.length ≤ 1000000) (he : entT Tryz.prog f = true) (hc : ∀ x ∈ L, OFn Tryz.prog G f (.d (iyD x) :: caps.map .d) [] 0 (bv (p x)) []) :
    OFn Tryz.prog G 127 [.so 0 5 0 L.length, .d (.fn f caps)] [(0, iyR L)] 1 (.so 0 5 0 (keepP p L).length) [(0, iyR (keepP p L))] := by
  cases hf : L.find? p with
  | none =>
    have hno : ∀ x ∈ L, p x = false := fun x hx => by simpa using List.find?_eq_none.1 hf x hx
    have r1 := iIndex_no (G := G) hl he hc hno
    have e : keepP p L = L := List.filter_eq_self.2 fun x hx => by simp [hno x hx]
    rw [e]
    refine vF mixed [0, 1, 4, 5, 6, 7, 12, 19, 29] Tryz.func127 rfl Tryz.results127 Tryz.ntmps127 ?_
    (refine' zg)
    refine vOd 0 r1 ?_
    (refine' zg)
    refine DoneW.now [] (by decide) ?_; (refine' zg); first | exact Sub_refl _ | exact Sub.cons rfl Sub.nil | exact Sub.cons rfl (Sub.cons rfl Sub.nil) | exact Sub.nil
  | some x =>
    obtain ⟨i, hx, hp, hn⟩ := find_idx hf
    have r1 := iIndex_yes (G := G) hl he hc i x hx hp hn
    have hi := (List.getElem?_eq_some_iff.1 hx).1
    have hfh := filter_head hx hp hn
    refine vF mixed [0, 1, 4, 5, 6, 7, 12, 19, 29] Tryz.func127 rfl Tryz.results127 Tryz.ntmps127 ?_
    (refine' zg)
    refine vOd 0 r1 ?_
    (refine' zg)
    refine vL (lv := [0, 1, 4, 5, 6, 7, 12, 19, 29]) mixed (deS L.length (.fn f caps)) (fun x => x.2.2.length = L.length ∧ x.1 < x.2.1 ∧ x.2.1 ≤ L.length ∧ x.1 = (keepP p (L.take x.2.1)).length ∧ x.2.2.take x.1 = keepP p (L.take x.2.1) ∧ x.2.2.drop x.2.1 = L.drop x.2.1) (fun x => L.length - x.2.1) ((i, i + 1, L)) ((GhW.go [0, 1, 5, 6] (by exact vT) rfl)) ?_ ?_
    · exact ⟨rfl, Nat.lt_succ_self _, hi, by rw [hfh, List.length_take]; omega, hfh.symm, rfl⟩
    rintro ⟨a, b, es⟩ ⟨h1, h2, h3, h4, h5, h6⟩
    simp only at h1 h2 h3 h4 h5 h6
    rcases Nat.lt_or_ge b L.length with hb | hb
    · obtain ⟨y, hy⟩ : ∃ y, L[b]? = some y := ⟨_, List.getElem?_eq_getElem hb⟩
      have hcy := hc y (List.mem_of_getElem? hy)
      have hye : es[b]? = some y := by
        have g1 : (es.drop b)[0]? = es[b]? := by rw [List.getElem?_drop]; rfl
        have g2 : (L.drop b)[0]? = L[b]? := by rw [List.getElem?_drop]; rfl
        rw [← g1, h6, g2, hy]
      have hd : es.drop (b + 1) = L.drop (b + 1) := by rw [← List.drop_drop, h6, List.drop_drop]
      cases hpy : p y with
      | true =>
        rw [hpy] at hcy
        have hk : keepP p (L.take (b + 1)) = keepP p (L.take b) := by rw [keepP, take_snoc' hy, List.filter_append]; simp [hpy]
        (refine' zg)
        refine elX.is b y (by omega) hye ?_
        (repeat' (first | (with_reducible first | exact True.intro | refine vD ?_ | refine vG ?_ | refine vE ?_) | (with_reducible refine vC hcy ?_ he (sel_ds (iyD y :: caps)) rfl) | refine vR ?_ | refine v6 ?_ | with_reducible refine vN ?_ | ((with_reducible first | refine vB (fun h => ?_) (fun h => ?_) | refine vM (fun h => ?_) (fun h => ?_)) <;> (first | (exfalso; omega) | skip))))
        refine AgW.go ((a, b + 1, es)) [0, 1, 5, 6] (by exact vT) ?_ ?_
        · show L.length - (b + 1) < L.length - b
          omega
        · exact ⟨h1, by simp only; omega, hb, by simp only; rw [hk]; exact h4, by simp only; rw [hk]; exact h5, hd⟩
      | false =>
        rw [hpy] at hcy
        have hk : keepP p (L.take (b + 1)) = keepP p (L.take b) ++ [y] := by rw [keepP, take_snoc' hy, List.filter_append]; simp [hpy]
        (refine' zg)
        refine elX.is b y (by omega) hye ?_
        (repeat' (first | (with_reducible first | exact True.intro | refine vD ?_ | refine vG ?_ | refine vE ?_) | (with_reducible refine vC hcy ?_ he (sel_ds (iyD y :: caps)) rfl) | refine vR ?_ | refine v6 ?_ | with_reducible refine vN ?_ | ((with_reducible first | refine vB (fun h => ?_) (fun h => ?_) | refine vM (fun h => ?_) (fun h => ?_)) <;> (first | (exfalso; omega) | skip))))
        rw [show (es.map iyD).set a (iyD y) = (es.set a y).map iyD from List.map_set.symm]
        refine AgW.go ((a + 1, b + 1, es.set a y)) [0, 1, 5, 6] (by exact vT) ?_ ?_
        · show L.length - (b + 1) < L.length - b
          omega
        · refine ⟨by simp only [List.length_set]; exact h1, by simp only; omega, hb, by simp only; rw [hk, List.length_append, ← h4]; rfl, ?_, ?_⟩
          · simp only
            rw [hk, ← h5]
            have ha : (es.set a y)[a]? = some y := by rw [List.getElem?_set_self (by omega)]
            rw [take_snoc' ha, List.take_set_of_le (Nat.le_refl _)]
          · simp only
            rw [List.drop_set_of_lt (by omega), hd]
    · have hbe : b = L.length := by omega
      rw [hbe, List.take_of_length_le (Nat.le_refl _)] at h4 h5
      (refine' zg)
      rw [Nat.sub_zero, h4] at *
      rw [h5]
      refine DoneW.now [] (by decide) ?_; (refine' zg); first | exact Sub_refl _ | exact Sub.cons rfl Sub.nil | exact Sub.cons rfl (Sub.cons rfl Sub.nil) | exact Sub.nil
def ibN (F : D) : St := ⟨[(0, .d nilSD), (1, .d F), (7, iv 0), (8, iv 0)], [], 0⟩
attribute [push_cast] ibN.eq_def
theorem iIndex_nil (F : D) : OFn Tryz.prog G 149 [.d nilSD, .d F] [] 0 (iv (-1)) [] := by
  refine vF mixed [0, 1, 4, 5, 7, 8, 9, 16] Tryz.func149 rfl Tryz.results149 Tryz.ntmps149 ?_
  (refine' zg)
  refine vL (lv := [0, 1, 4, 5, 7, 8, 9, 16]) mixed (fun _ : Unit => ibN F) (fun _ => True) (fun _ => 0) (()) ((GhW.go [0, 1, 7, 8] (by exact vT) rfl)) ?_ ?_
  · trivial
  rintro ⟨⟩ -
  (refine' zo)
theorem iDelete_nil (F : D) : OFn Tryz.prog G 127 [.d nilSD, .d F] [] 0 (.d nilSD) [] := by
  refine vF mixed [0, 1, 4, 5, 6, 7, 12, 19, 29] Tryz.func127 rfl Tryz.results127 Tryz.ntmps127 ?_
  (refine' zo1 (iIndex_nil F))
theorem iWithin_nil (n a b : Int) : OFn Tryz.prog G0 99 [.d (inlD n nilSD), iv a, iv b] [] 0 (.d nilSD) [] := by
  have r1 := iAll_nil (G := G0) n
  refine vF mixed [0, 1, 2, 4, 5, 6] Tryz.func99 rfl Tryz.results99 Tryz.ntmps99 ?_
  (refine' zg1 r1)
  refine CallW.frz 0 rfl ?_
  (refine' zg)
  refine CallW.frz 4 rfl ?_
  (repeat' (first | (with_reducible first | exact True.intro | refine vD ?_ | refine vG ?_ | refine vE ?_) | with_reducible refine vC (iDelete_nil _) ?_ | with_reducible refine DoneW.out ?_ | refine vR ?_ | refine v6 ?_ | with_reducible refine vN ?_ | ((with_reducible first | refine vB (fun h => ?_) (fun h => ?_) | refine vM (fun h => ?_) (fun h => ?_)) <;> (first | (exfalso; omega) | skip))))
theorem iWithin_fn (n a b : Int) (L : List Iy) (h0 : 0 < L.length) (hl : L.length ≤ 100000) : OFn Tryz.prog G0 99 [.d (inlD n (.sd 5 false (L.map iyD))), iv a, iv b] [] 0 (.d (.sd 5 false ((L.filter fun x => !(decide (x.2.1 < a) || decide (b < x.2.1))).map iyD))) [] := by
  have r1 := iAll_fn (G := G0) n L h0 hl
  have r2 := iDelete_fn (G := G0) (L := L) (f := 129) (caps := [boxD a, boxD b]) (p := fun x => decide (x.2.1 < a) || decide (b < x.2.1)) (by omega) (by kernel_rfl) (fun x _ => within1_fn x a b)
  refine vF mixed [0, 1, 2, 4, 5, 6] Tryz.func99 rfl Tryz.results99 Tryz.ntmps99 ?_
  (refine' zgK r1)
  refine CallW.frz 0 rfl ?_
  (refine' zg)
  refine CallW.frz 4 rfl ?_
  (refine' zg)
  refine CallW.put 16 r2 (by kernel_rfl) rfl rfl rfl ?_
  (refine' zg)
  refine DoneW.frz 16 (DoneW.out ?_)
  (refine' zg)
end
end Go.Proofs.YthnooilghadjkaaGreatDoor
set_option linter.unusedSimpArgs false
set_option linter.unusedVariables false
set_option maxRecDepth 8000
namespace Go.Proofs.YthnooilghadjkaaGreatDoor
inductive Pz where
  | tx (k a : Int) (rs : List Int)
  | fo (a : Int)
def pzD : Pz → D
  | .tx k a rs => .agg [iD k, iD a, .sd 1 false (rs.map ruD)]
  | .fo a => .agg [iD 3, iD a, nilSD]
attribute [push_cast] pzD.eq_1 pzD.eq_2
abbrev pzR (l : List Pz) : Blk := .row 3 (l.map pzD)
theorem snoc_pz (es : List Pz) (x : Pz) : es.map pzD ++ [pzD x] = (es ++ [x]).map pzD := by rw [List.map_append]; rfl
def cutR (l : List Int) (a b : Nat) : List Int := (l.take b).drop a
theorem runes_txt {l : List Int} (h : okR l) : runesAt (txt l) 0 = l := by
  have := runesAt_txt l [] h
  simpa [encL_nil] using this
section
variable {l : List Int} {ps : List (List Int)} {t : Option T}
theorem cutR_ok (R : Rp l ps t) (a b : Nat) : okR (cutR l a b) := fun x hx => R.val x (List.mem_of_mem_take (List.mem_of_mem_drop hx))
set_option maxHeartbeats 1600000 in
theorem plain_fn (R : Rp l ps t) (n : Int) (x : D) (H : List Sn) (a to : Nat) (b : Int) (hab : a < to) (hto : to ≤ l.length) (out : List Pz) (ho : out.length ≤ 1000000) :
    OFn Tryz.prog G0 97 [iv to, .po 1 0, .po 0 0, .po 2 0] [(0, txC t n x H), (1, .cell [iv a, iv b]), (2, .cell [.so 3 3 0 out.length]), (3, pzR out)] 4 (.tup [])
      [(0, txC t n x H), (1, .cell [iv to, iv b]), (2, .cell [.so 4 3 0 (out.length + 1)]), (4, pzR (out ++ [.tx 1 a (cutR l a to)]))] := by
  have r1 := rSlice_fn R a to (by omega) hto
  have hlen := R.len
  have h4 := encL_len (cutR l a to)
  have h5 : (cutR l a to).length ≤ 20000 := by simp [cutR]; omega
  have r2 := Decode_fn (txt (cutR l a to)) (by rw [txt_size]; omega)
  rw [runes_txt (cutR_ok R a to)] at r2
  rw [cutR] at *
  refine vF mixed [0, 1, 2, 3, 5, 10] Tryz.func97 rfl Tryz.results97 Tryz.ntmps97 ?_
  (refine' zg2 r1 r2)
  have e : out.map pzD ++ [D.agg [iD 1, iD a, .sd 1 false ((List.drop a (List.take to l)).map ruD)]] = (out ++ [Pz.tx 1 a (List.drop a (List.take to l))]).map pzD := by rw [List.map_append]; rfl
  rw [e, List.length_map, List.length_append]
  refine DoneW.now [92] (by decide) ?_
  (refine' zg)
  exact Sub.cons rfl (Sub.cons rfl (Sub.cons rfl (Sub.cons rfl Sub.nil)))
theorem plain_no (t : Option T) (n : Int) (x : D) (H : List Sn) (a to b : Int) (hab : to ≤ a) (out : List Pz) :
    OFn Tryz.prog G0 97 [iv to, .po 1 0, .po 0 0, .po 2 0] [(0, txC t n x H), (1, .cell [iv a, iv b]), (2, .cell [.so 3 3 0 out.length]), (3, pzR out)] 4 (.tup [])
      [(0, txC t n x H), (1, .cell [iv a, iv b]), (2, .cell [.so 3 3 0 out.length]), (3, pzR out)] := by
  refine vF mixed [0, 1, 2, 3, 5, 10] Tryz.func97 rfl Tryz.results97 Tryz.ntmps97 ?_
  (refine' zg)
  refine DoneW.now [] (by decide) ?_
  (refine' zg)
  exact Sub_refl _
def showP (l : List Int) (b : Nat) : Nat → List Iy → List Pz
  | a, [] => if a < b then [.tx 1 a (cutR l a b)] else []
  | a, x :: r => (if a < x.2.1.toNat then [.tx 1 a (cutR l a x.2.1.toNat)] else []) ++ (.tx 2 x.2.1 (runesAt x.2.2.2.2 0) :: showP l b (max a x.2.1.toNat) r)
def shS (t : Option T) (n : Int) (x : D) (H : List Sn) (M : List Iy) (b : Int) (y : Nat × Nat × List Pz) : St :=
  ⟨[(2, .po 0 0), (3, .po 1 0), (5, .po 2 0), (6, .fn 97 [.po 1 0, .po 0 0, .po 2 0]), (16, .d (.sd 5 false (M.map iyD))), (17, iv M.length), (18, iv y.1)], [(0, txC t n x H), (1, .cell [iv y.2.1, iv b]), (2, .cell [.so 3 3 0 y.2.2.length]), (3, pzR y.2.2)], 4⟩
attribute [push_cast] shS.eq_def
structure ShP (l : List Int) (b : Nat) (M : List Iy) (fin : List Pz) (y : Nat × Nat × List Pz) : Prop where
  le : y.1 ≤ M.length
  at' : y.2.1 ≤ b
  len : y.2.2.length ≤ 2 * y.1
  fin : y.2.2 ++ showP l b y.2.1 (M.drop y.1) = fin
set_option maxHeartbeats 3200000 in
theorem shown_fn (R : Rp l ps t) (n : Int) (x : D) (H : List Sn) (a b : Nat) (hab : a ≤ b) (hb : b ≤ l.length) (M : List Iy) (hM : M.length ≤ 100000) (hw : OFn Tryz.prog G0 99 [.d (inlD n x), iv a, iv b] [] 0 (.d (.sd 5 false (M.map iyD))) [])
    (hin : ∀ y ∈ M, (a : Int) ≤ y.2.1 ∧ y.2.1 ≤ b ∧ y.2.2.2.2.size ≤ 1000000) :
    OFn Tryz.prog G0 68 [txD t n x H, .d (snD (a, b))] [] 0 (.d (.sd 3 false ((showP l b a M).map pzD))) [] := by
  have hlen := R.len
  refine vF mixed [0, 1, 2, 3, 4, 5, 6, 8, 16, 17, 18, 19] Tryz.func68 rfl Tryz.results68 Tryz.ntmps68 ?_
  (refine' zg1 hw)
  refine vL (lv := [0, 1, 2, 3, 4, 5, 6, 8, 16, 17, 18, 19]) mixed (shS t n x H M b) (ShP l b M (showP l b a M)) (fun y => M.length - y.1) ((0, a, [])) (GhW.nilC 12 0 3 <| (GhW.go [2, 3, 5, 6, 16, 17, 18] (by exact vT) rfl)) ?_ ?_
  · exact ⟨Nat.zero_le _, hab, Nat.zero_le _, rfl⟩
  rintro ⟨i, c, out⟩ ⟨h1, h2, h3, h4⟩
  simp only at h1 h2 h3 h4
  rcases Nat.lt_or_ge i M.length with hi | hi
  · obtain ⟨y, hy⟩ : ∃ y, M[i]? = some y := ⟨_, List.getElem?_eq_getElem hi⟩
    have hyb := hin y (List.mem_of_getElem? hy)
    obtain ⟨yi, at_, yb, yk, tx⟩ := y
    simp only at hyb
    obtain ⟨to, rfl⟩ : ∃ to : Nat, at_ = to := ⟨at_.toNat, by omega⟩
    have r2 := Decode_fn tx (by omega)
    rw [drop_is hy, showP] at h4
    simp only [Int.toNat_natCast] at h4
    by_cases hc : c < to
    · rw [if_pos hc, show max c to = to by omega] at h4
      have r1 := plain_fn R n x H c to b hc (by omega) out (by omega)
      (refine' zg)
      refine elX.is i _ (by omega) hy ?_
      (refine' zg)
      refine CallW.ofN [0, 1, 2, 3] r1 ?_
      (refine' zg1 r2)
      rw [show (out ++ [Pz.tx 1 c (cutR l c to)]).map pzD ++ [D.agg [iD 2, iD to, .sd 1 false ((runesAt tx 0).map ruD)]] = (out ++ [Pz.tx 1 c (cutR l c to)] ++ [Pz.tx 2 to (runesAt tx 0)]).map pzD from snoc_pz _ (Pz.tx 2 to (runesAt tx 0)), List.length_map]
      refine AgW.go ((i + 1, to, out ++ [Pz.tx 1 c (cutR l c to)] ++ [Pz.tx 2 to (runesAt tx 0)])) [2, 3, 5, 6, 16, 17, 18] (by exact vT) ?_ ?_
      · show M.length - (i + 1) < M.length - i
        omega
      · exact ⟨hi, by show to ≤ b; omega, by simp only [List.length_append, List.length_cons, List.length_nil]; omega, by rw [← h4]; simp only [List.append_assoc, List.cons_append, List.nil_append]⟩
    · rw [if_neg hc, show max c to = c by omega, List.nil_append] at h4
      have r1 := plain_no t n x H c to b (by omega) out
      (refine' zg)
      refine elX.is i _ (by omega) hy ?_
      (refine' zg)
      refine CallW.ofN [0, 1, 2, 3] r1 ?_
      (refine' zg1 r2)
      rw [show out.map pzD ++ [D.agg [iD 2, iD to, .sd 1 false ((runesAt tx 0).map ruD)]] = (out ++ [Pz.tx 2 to (runesAt tx 0)]).map pzD from snoc_pz _ (Pz.tx 2 to (runesAt tx 0)), List.length_map]
      refine AgW.go ((i + 1, c, out ++ [Pz.tx 2 to (runesAt tx 0)])) [2, 3, 5, 6, 16, 17, 18] (by exact vT) ?_ ?_
      · show M.length - (i + 1) < M.length - i
        omega
      · exact ⟨hi, h2, by simp only [List.length_append, List.length_cons, List.length_nil]; omega, by rw [← h4]; simp only [List.append_assoc, List.cons_append, List.nil_append]⟩
  · rw [List.drop_of_length_le hi, showP] at h4
    by_cases hc : c < b
    · rw [if_pos hc] at h4
      have r1 := plain_fn R n x H c b b hc (by omega) out (by omega)
      (refine' zg)
      refine CallW.ofN [0, 1, 2, 3] r1 ?_
      (refine' zg)
      rw [show out.length + 1 = (out ++ [Pz.tx 1 c (cutR l c b)]).length by simp, h4]
      refine DoneW.frz 20 (DoneW.out ?_)
      (refine' zg)
    · rw [if_neg hc, List.append_nil] at h4
      have r1 := plain_no t n x H c b b (by omega) out
      (refine' zg)
      refine CallW.ofN [0, 1, 2, 3] r1 ?_
      (refine' zg)
      rw [h4]
      refine DoneW.frz 3 (DoneW.out ?_)
      (refine' zg)
end
end Go.Proofs.YthnooilghadjkaaGreatDoor
set_option linter.unusedSimpArgs false
set_option linter.unusedVariables false
set_option maxRecDepth 8000
namespace Go.Proofs.YthnooilghadjkaaGreatDoor
theorem runs_fn (t : Option T) (n : Int) (x : D) (H : List Sn) (a b : Int) : OFn Tryz.prog G0 67 [txD t n x H, iv a, iv b] [] 0 (.fn 96 [.po 0 0, .po 1 0, .po 2 0]) [(0, txC t n x H), (1, .cell [iv a]), (2, .cell [iv b])] := by
  refine vF mixed [0, 1, 2, 3, 4, 5, 6] Tryz.func67 rfl Tryz.results67 Tryz.ntmps67 ?_
  (refine' zg)
  refine DoneW.now [0, 4, 8] (by decide) ?_
  (refine' zg)
  exact Sub.cons rfl (Sub.cons rfl (Sub.cons rfl Sub.nil))
abbrev inWi (L : List Iy) (a b : Int) : List Iy := L.filter fun x => !(decide (x.2.1 < a) || decide (b < x.2.1))
theorem iWithin_all (n a b : Int) (L : List Iy) (hl : L.length ≤ 100000) : OFn Tryz.prog G0 99 [.d (inlD n (inlL L)), iv a, iv b] [] 0 (.d (.sd 5 false ((inWi L a b).map iyD))) [] := by
  cases L with
  | nil => exact (iWithin_nil n a b).nil 5 false
  | cons y r => exact iWithin_fn n a b (y :: r) (by simp) hl
def runP (l : List Int) (L : List Iy) (e : Nat) : Nat → List Sn → List Pz
  | a, [] => showP l e a (inWi L a e)
  | a, x :: r => if x.1 < a ∨ (e : Int) < x.2 then runP l L e a r else showP l x.1.toNat a (inWi L a x.1) ++ (.fo x.1 :: runP l L e x.2.toNat r)
def liE (t : Option T) (n : Int) (x : D) (H : List Sn) (a : Int) : Env := [(17, .fn 96 [.po 52 0, .po 53 0, .po 54 0]), (5, .po 28 0), (4, .po 4 0), (2, .po 0 0), (0, txD t n x H), (1, iv a)]
def liS (t : Option T) (n : Int) (x : D) (H : List Sn) (a e : Int) (y : Yd) (z : Nat × Nat × List Pz) : St :=
  ⟨[(0, .yl 56), (1, .po 52 0), (2, .po 53 0), (3, .po 54 0), (8, snL H), (9, iv H.length), (10, iv z.1)],
   [(0, txC t n x H), (4, .cell [.d nilSD, iv 0, iv 0]), (28, .cell [.so 57 3 0 z.2.2.length, iv a, iv e]), (52, txC t n x H), (53, .cell [iv z.2.1]), (54, .cell [iv e]), (56, .rc y none (liE t n x H a)), (57, pzR z.2.2)], 58⟩
attribute [push_cast] liS.eq_def liE.eq_def ltG.eq_def fillE Sig.del selY.eq_def
theorem showP_len (l : List Int) (b : Nat) : ∀ (M : List Iy) (a : Nat), (showP l b a M).length ≤ 2 * M.length + 1
  | [], a => by rw [showP]; split <;> simp
  | x :: r, a => by
    have := showP_len l b r (max a x.2.1.toNat)
    rw [showP, List.length_append, List.length_cons, List.length_cons]
    split <;> simp <;> omega
structure LiP (l : List Int) (L : List Iy) (e : Nat) (H : List Sn) (fin : List Pz) (z : Nat × Nat × List Pz) : Prop where
  le : z.1 ≤ H.length
  at' : z.2.1 ≤ e
  len : z.2.2.length ≤ 3000 * z.1
  fin : z.2.2 ++ runP l L e z.2.1 (H.drop z.1) = fin
section
variable {l : List Int} {ps : List (List Int)} {t : Option T}
set_option maxHeartbeats 3200000 in
theorem line_fn (R : Rp l ps t) (n : Int) (L : List Iy) (hL : L.length ≤ 1000) (hok : ∀ y ∈ L, 0 ≤ y.2.1 ∧ y.2.2.2.2.size ≤ 1000000) (H : List Sn) (hl : H.length ≤ 1000) (hr : rgt l.length 0 H = true) (a : Nat) (ha : a ≤ l.length) :
    OFn Tryz.prog G0 40 [txD t n (inlL L) H, iv a] [] 0 (.d (.agg [.sd 3 false ((runP l L (endP l H a) a H).map pzD), iD a, iD (endP l H a)])) [] := by
  have r1 := end_fn R n (inlL L) H (by omega) hr a ha
  have r2 := runs_fn t n (inlL L) H a (endP l H a)
  refine vF mixed [0, 1, 2, 4, 5, 6, 7, 17, 18, 19, 20] Tryz.func40 rfl Tryz.results40 Tryz.ntmps40 ?_
  (repeat' (first | (with_reducible first | exact True.intro | refine vD ?_ | refine vG ?_ | refine vE ?_) | with_reducible refine vC (r1) ?_ | with_reducible refine vQ (r1) ?_ | with_reducible refine vK (r2) ?_ | refine vR ?_ | refine v6 ?_ | with_reducible refine vN ?_ | ((with_reducible first | refine vB (fun h => ?_) (fun h => ?_) | refine vM (fun h => ?_) (fun h => ?_)) <;> (first | (exfalso; omega) | skip))))
  refine vRn mixed [0, 1, 2, 3, 6, 8, 9, 10, 11, 23, 36] Tryz.func96 rfl ?_
  (refine' zg)
  have he := endP_in l H ha
  generalize hy : Yd.mk _ _ _ _ = y
  refine vL (lv := [0, 1, 2, 3, 6, 8, 9, 10, 11, 23, 36]) mixed (liS t n (inlL L) H a (endP l H a) y) (LiP l L (endP l H a) H (runP l L (endP l H a) a H)) (fun z => H.length - z.1) (0, a, []) (GhW.nilC 28 0 3 <| GhW.to [0, 1, 2, 3, 8, 9, 10] [0, 4, 28, 52, 53, 54, 56, 73] [73] (by exact vT) rfl) ?_ ?_
  · exact ⟨Nat.zero_le _, he.1, Nat.zero_le _, rfl⟩
  rintro ⟨i, c, out⟩ ⟨h1, h2, hol, h3⟩
  simp only at h1 h2 hol h3
  rcases Nat.lt_or_ge i H.length with hi | hi
  · obtain ⟨x, hx⟩ : ∃ x, H[i]? = some x := ⟨_, List.getElem?_eq_getElem hi⟩
    have hxr := rgt_mem hr x (List.mem_of_getElem? hx)
    rw [drop_is hx, runP] at h3
    obtain ⟨x1, x2⟩ := x
    simp only at hxr h3
    obtain ⟨j, rfl⟩ : ∃ j : Nat, x1 = j := ⟨x1.toNat, by omega⟩
    obtain ⟨k, rfl⟩ : ∃ k : Nat, x2 = k := ⟨x2.toNat, by omega⟩
    simp only [Int.toNat_natCast] at h3
    by_cases hc : (j : Int) < c ∨ (endP l H a : Int) < k
    · rw [if_pos hc] at h3
      (refine' zg)
      refine elX.is i _ (by omega) hx ?_
      (refine' zg)
      refine AgW.to (i + 1, c, out) [0, 1, 2, 3, 8, 9, 10] [0, 4, 28, 52, 53, 54, 56, 57] [57] (by exact vT) ?_ ?_
      · show H.length - (i + 1) < H.length - i
        omega
      · exact ⟨hi, h2, by show out.length ≤ 3000 * (i + 1); omega, h3⟩
    · rw [if_neg hc] at h3
      have rw1 := iWithin_all n c j L (by omega)
      have r3 := shown_fn R n (inlL L) H c j (by omega) (by omega) (inWi L c j) (Nat.le_trans (List.length_filter_le _ _) (by omega)) rw1 (fun y hy => by
        obtain ⟨g1, g2⟩ := List.mem_filter.1 hy
        have := hok y g1
        simp only [Bool.not_eq_true', Bool.or_eq_false_iff, decide_eq_false_iff_not] at g2
        omega)
      have hsl := showP_len l j (inWi L c j) c
      have hfl : (inWi L c j).length ≤ L.length := List.length_filter_le _ _
      generalize showP l j c (inWi L c j) = sh at r3 h3 hsl
      have happ : (out ++ sh).length = out.length + sh.length := List.length_append
      (refine' zg)
      refine elX.is i _ (by omega) hx ?_
      (refine' zg)
      refine vY mixed [0, 1, 2, 4, 5, 6, 7, 17, 18, 19, 20] (bv true) [(0, txC t n (inlL L) H), (4, .cell [.d nilSD, iv 0, iv 0]), (28, .cell [.so 138 3 0 (out ++ sh).length, iv a, iv (endP l H a)]), (52, txC t n (inlL L) H), (53, .cell [iv c]), (54, .cell [iv (endP l H a)]), (56, .rc y none (liE t n (inlL L) H a)), (138, pzR (out ++ sh)), (70, .cell [iv j, iv k])] ?_ ?_ (hps := by subst hy; kernel_rfl) (hl := by subst hy; rfl) (hn1 := by subst hy; kernel_rfl) (hn2 := by subst hy; kernel_rfl) (ho1 := by subst hy; kernel_rfl) (ho2 := by subst hy; kernel_rfl)
      · subst hy
        (refine' zg1 r3)
        refine ⟨rfl, vG ⟨[174], by decide, ?_⟩⟩
        exact Sub.cons rfl (Sub.cons rfl (Sub.cons rfl (Sub.cons rfl (Sub.cons rfl (Sub.cons rfl (Sub.cons rfl (Sub.cons rfl (Sub.cons rfl Sub.nil))))))))
      · (refine' zg)
        refine vY mixed [0, 1, 2, 4, 5, 6, 7, 17, 18, 19, 20] (bv true) [(0, txC t n (inlL L) H), (4, .cell [.d nilSD, iv 0, iv 0]), (28, .cell [.so 158 3 0 (out ++ sh ++ [Pz.fo j]).length, iv a, iv (endP l H a)]), (52, txC t n (inlL L) H), (53, .cell [iv c]), (54, .cell [iv (endP l H a)]), (56, .rc y none (liE t n (inlL L) H a)), (158, pzR (out ++ sh ++ [Pz.fo j])), (70, .cell [iv j, iv k])] ?_ ?_ (hps := by subst hy; kernel_rfl) (hl := by subst hy; rfl) (hn1 := by subst hy; kernel_rfl) (hn2 := by subst hy; kernel_rfl) (ho1 := by subst hy; kernel_rfl) (ho2 := by subst hy; kernel_rfl)
        · subst hy
          (refine' zg)
          rw [show (out ++ sh).map pzD ++ [D.agg [iD 3, iD j, nilSD]] = (out ++ sh ++ [Pz.fo j]).map pzD from snoc_pz _ (Pz.fo j), List.length_map]
          refine ⟨rfl, vG ⟨[198], by decide, ?_⟩⟩
          exact Sub.cons rfl (Sub.cons rfl (Sub.cons rfl (Sub.cons rfl (Sub.cons rfl (Sub.cons rfl (Sub.cons rfl (Sub.cons rfl (Sub.cons rfl Sub.nil))))))))
        · (refine' zg)
          refine AgW.to (i + 1, k, out ++ sh ++ [Pz.fo j]) [0, 1, 2, 3, 8, 9, 10] [0, 4, 28, 52, 53, 54, 56, 158] [158] (by exact vT) ?_ ?_
          · show H.length - (i + 1) < H.length - i
            omega
          · exact ⟨hi, by show k ≤ endP l H a; omega, by show (out ++ sh ++ [Pz.fo j]).length ≤ 3000 * (i + 1); simp only [List.length_append, List.length_cons, List.length_nil]; omega, by show out ++ sh ++ [Pz.fo j] ++ _ = _; rw [← h3]; simp only [List.append_assoc, List.cons_append, List.nil_append]⟩
  · rw [List.drop_of_length_le hi, runP] at h3
    have rw1 := iWithin_all n c (endP l H a) L (by omega)
    have r3 := shown_fn R n (inlL L) H c (endP l H a) (by omega) (by omega) (inWi L c (endP l H a)) (Nat.le_trans (List.length_filter_le _ _) (by omega)) rw1 (fun y hy => by
      obtain ⟨g1, g2⟩ := List.mem_filter.1 hy
      have := hok y g1
      simp only [Bool.not_eq_true', Bool.or_eq_false_iff, decide_eq_false_iff_not] at g2
      omega)
    have hsl := showP_len l (endP l H a) (inWi L c (endP l H a)) c
    have hfl : (inWi L c (endP l H a)).length ≤ L.length := List.length_filter_le _ _
    generalize showP l (endP l H a) c (inWi L c (endP l H a)) = sh at r3 h3 hsl
    have happ : (out ++ sh).length = out.length + sh.length := List.length_append
    (refine' zg)
    refine vY mixed [0, 1, 2, 4, 5, 6, 7, 17, 18, 19, 20] (bv true) [(0, txC t n (inlL L) H), (4, .cell [.d nilSD, iv 0, iv 0]), (28, .cell [.so 78 3 0 (out ++ sh).length, iv a, iv (endP l H a)]), (52, txC t n (inlL L) H), (53, .cell [iv c]), (54, .cell [iv (endP l H a)]), (56, .rc y none (liE t n (inlL L) H a)), (78, pzR (out ++ sh))] ?_ ?_ (hps := by subst hy; kernel_rfl) (hl := by subst hy; rfl) (hn1 := by subst hy; kernel_rfl) (hn2 := by subst hy; kernel_rfl) (ho1 := by subst hy; kernel_rfl) (ho2 := by subst hy; kernel_rfl)
    · subst hy
      (refine' zg1 r3)
      refine ⟨rfl, vG ⟨[114], by decide, ?_⟩⟩
      exact Sub.cons rfl (Sub.cons rfl (Sub.cons rfl (Sub.cons rfl (Sub.cons rfl (Sub.cons rfl (Sub.cons rfl (Sub.cons rfl Sub.nil)))))))
    · (refine' zg)
      refine vG ⟨y, none, _, rfl, ?_⟩
      (refine' zg)
      rw [h3]
      refine DoneW.frz 78 (DoneW.out ?_)
      (refine' zg)
end
end Go.Proofs.YthnooilghadjkaaGreatDoor
set_option linter.unusedSimpArgs false
set_option linter.unusedVariables false
set_option maxRecDepth 8000
namespace Go.Proofs.YthnooilghadjkaaGreatDoor
def lnD (l : List Int) (L : List Iy) (H : List Sn) (x : Nat × Nat) : D := .agg [.sd 3 false ((runP l L x.2 x.1 H).map pzD), iD x.1, iD x.2]
attribute [push_cast] lnD.eq_def
theorem snoc_map {α : Type} (f : α → D) (es : List α) (x : α) : es.map f ++ [f x] = (es ++ [x]).map f := by rw [List.map_append]; rfl
def saS (t : Option T) (n : Int) (x : D) (H : List Sn) (l : List Int) (L : List Iy) (y : List (Nat × Nat)) : St := ⟨[(1, .po 0 0), (5, .so 1 3 0 y.length), (6, iv l.length)], [(0, txC t n x H), (1, .row 3 (y.map (lnD l L H)))], 2⟩
attribute [push_cast] saS.eq_def
structure SaP (l : List Int) (H : List Sn) (y : List (Nat × Nat)) : Prop where
  ex : ∃ pre a, y = pre ++ [(a, endP l H a)] ∧ a ≤ l.length ∧ pre ++ linesP l H a = linesP l H 0 ∧ pre.length ≤ a
section
variable {l : List Int} {ps : List (List Int)} {t : Option T}
theorem sAll_bad (R : Rp l ps t) (n : Int) (x : D) (H : List Sn) (hl : H.length ≤ 1000) (h : okT' l.length n H = false) : OFn Tryz.prog G0 17 [txD t n x H] [] 0 (.tup [.d nilSD, iv 4]) [] := by
  have r1 := sCheck_fn R n x H (by omega)
  rw [if_neg (by simp [h])] at r1
  refine vF mixed [0, 1, 2, 3, 4, 5, 6, 10, 26] Tryz.func17 rfl Tryz.results17 Tryz.ntmps17 ?_
  (refine' zo1 r1)
set_option maxHeartbeats 3200000 in
theorem sAll_fn (R : Rp l ps t) (n : Int) (L : List Iy) (hL : L.length ≤ 1000) (hok : ∀ y ∈ L, 0 ≤ y.2.1 ∧ y.2.2.2.2.size ≤ 1000000) (H : List Sn) (hl : H.length ≤ 1000) (h : okT' l.length n H = true) :
    OFn Tryz.prog G0 17 [txD t n (inlL L) H] [] 0 (.tup [.d (.sd 3 false ((linesP l H 0).map (lnD l L H))), iv 0]) [] := by
  have r1 := sCheck_fn R n (inlL L) H (by omega)
  rw [if_pos h] at r1
  have hr := (okT_rgt h).1
  have r2 := line_fn R n L hL hok H hl hr 0 (Nat.zero_le _)
  have r3 := Runes_fn R
  have hlen := R.len
  refine vF mixed [0, 1, 2, 3, 4, 5, 6, 10, 26] Tryz.func17 rfl Tryz.results17 Tryz.ntmps17 ?_
  (refine' zg3 r1 r2 r3)
  refine vL (lv := [0, 1, 2, 3, 4, 5, 6, 10, 26]) mixed (saS t n (inlL L) H l L) (SaP l H) (fun y => l.length + 1 - y.length) ([(0, endP l H 0)]) ((GhW.go [1, 5, 6] (by exact vT) rfl)) ?_ ?_
  · exact ⟨[], 0, rfl, Nat.zero_le _, rfl, Nat.le_refl _⟩
  rintro y ⟨pre, a, rfl, ha, hp, hpl⟩
  have he := endP_in l H ha
  have hy : (pre ++ [(a, endP l H a)])[pre.length]? = some (a, endP l H a) := by simp
  have hyl : (pre ++ [(a, endP l H a)]).length = pre.length + 1 := by simp
  by_cases hc : endP l H a < l.length
  · have r4 := line_fn R n L hL hok H hl hr (endP l H a + 1) hc
    have ec : ((endP l H a + 1 : Nat) : Int) = (endP l H a : Int) + 1 := by omega
    rw [ec] at r4
    (refine' zg)
    refine elX.is pre.length _ (by omega) hy ?_
    (refine' zg)
    refine elX.is pre.length _ (by omega) hy ?_
    (refine' zg1 r4)
    have e2 := snoc_map (lnD l L H) (pre ++ [(a, endP l H a)]) (endP l H a + 1, endP l H (endP l H a + 1))
    simp only [lnD, ec] at e2
    change (pre ++ [(a, endP l H a)]).map (lnD l L H) ++ _ = _ at e2
    rw [e2, List.length_map]
    refine AgW.go (pre ++ [(a, endP l H a)] ++ [(endP l H a + 1, endP l H (endP l H a + 1))]) [1, 5, 6] (by exact vT) ?_ ?_
    · show l.length + 1 - (pre ++ [(a, endP l H a)] ++ [(endP l H a + 1, endP l H (endP l H a + 1))]).length < l.length + 1 - (pre ++ [(a, endP l H a)]).length
      simp only [List.length_append, List.length_cons, List.length_nil]
      omega
    · refine ⟨pre ++ [(a, endP l H a)], endP l H a + 1, rfl, hc, ?_, by simp only [List.length_append, List.length_cons, List.length_nil]; omega⟩
      rw [← hp]
      conv => rhs; rw [linesP, dif_pos ⟨hc, he.1⟩]
      simp only [List.append_assoc, List.cons_append, List.nil_append]
  · have hfin : pre ++ [(a, endP l H a)] = linesP l H 0 := by
      rw [← hp, linesP, dif_neg (by omega)]
    (refine' zg)
    refine elX.is pre.length _ (by omega) hy ?_
    (refine' zg)
    rw [hfin]
    refine DoneW.frz 1 (DoneW.out ?_)
    (refine' zg)
theorem sAt_form (R : Rp l ps t) (n : Int) (x : D) (H : List Sn) (hl : H.length ≤ 1000) (h : okT' l.length n H = false) (a : Int) : OFn Tryz.prog G0 25 [txD t n x H, iv a] [] 0 (.tup [.d (.agg [nilSD, iD 0, iD 0]), iv 4]) [] := by
  have r1 := sCheck_fn R n x H (by omega)
  rw [if_neg (by simp [h])] at r1
  refine vF mixed [0, 1, 2, 4, 5, 6, 9, 14] Tryz.func25 rfl Tryz.results25 Tryz.ntmps25 ?_
  (refine' zo1 r1)
theorem sAt_none (R : Rp l ps t) (n : Int) (x : D) (H : List Sn) (hl : H.length ≤ 1000) (h : okT' l.length n H = true) (a : Int) (hb : OFn Tryz.prog G0 42 [txD t n x H, iv a] [] 0 (bv false) []) : OFn Tryz.prog G0 25 [txD t n x H, iv a] [] 0 (.tup [.d (.agg [nilSD, iD 0, iD 0]), iv 1]) [] := by
  have r1 := sCheck_fn R n x H (by omega)
  rw [if_pos h] at r1
  refine vF mixed [0, 1, 2, 4, 5, 6, 9, 14] Tryz.func25 rfl Tryz.results25 Tryz.ntmps25 ?_
  (refine' zo2 r1 hb)
theorem sAt_fn (R : Rp l ps t) (n : Int) (L : List Iy) (hL : L.length ≤ 1000) (hok : ∀ y ∈ L, 0 ≤ y.2.1 ∧ y.2.2.2.2.size ≤ 1000000) (H : List Sn) (hl : H.length ≤ 1000) (h : okT' l.length n H = true) (a : Nat) (ha : a ≤ l.length) (hb : OFn Tryz.prog G0 42 [txD t n (inlL L) H, iv a] [] 0 (bv true) []) :
    OFn Tryz.prog G0 25 [txD t n (inlL L) H, iv a] [] 0 (.tup [.d (lnD l L H (a, endP l H a)), iv 0]) [] := by
  have r1 := sCheck_fn R n (inlL L) H (by omega)
  rw [if_pos h] at r1
  have hr := (okT_rgt h).1
  have r2 := line_fn R n L hL hok H hl hr a ha
  refine vF mixed [0, 1, 2, 4, 5, 6, 9, 14] Tryz.func25 rfl Tryz.results25 Tryz.ntmps25 ?_
  (refine' zo3 r1 hb r2)
end
end Go.Proofs.YthnooilghadjkaaGreatDoor
