/- The widening: both ways of it come to the least span in which nothing hidden is on both sides of an end. -/
import Derived.Test.YtlledfabkmmgoaaPure27
namespace Go.Proofs.Ytlledfabkmmgoaa

/-- What is known of what was turned. -/
structure WS (f t g u N m : Int) (was is : List Sp) : Prop where
  f0 : 0 ≤ f
  ft : f ≤ t
  tN : t ≤ N
  gf : g = f
  gu : g ≤ u
  um : u ≤ m
  same : N - t = m - u
  was_ : ∀ x ∈ was, 0 ≤ x.1 ∧ x.1 < x.2 ∧ x.2 ≤ N
  is_ : ∀ x ∈ is, 0 ≤ x.1 ∧ x.1 < x.2 ∧ x.2 ≤ m

section
variable {f t g u N m : Int} {was is : List Sp}

def ClosedW (f t g u : Int) (was is : List Sp) (p q : Int) : Prop :=
  (∀ x ∈ was, acrB x (f - p) = false ∧ acrB x (t + q) = false) ∧ (∀ x ∈ is, acrB x (g - p) = false ∧ acrB x (u + q) = false)
def LowerW (f t g u : Int) (was is : List Sp) (p q : Int) : Prop := ∀ P Q, 0 ≤ P → 0 ≤ Q → ClosedW f t g u was is P Q → p ≤ P ∧ q ≤ Q
structure InvW (f t g u N : Int) (was is : List Sp) (p q : Int) : Prop where
  p0 : 0 ≤ p
  pf : p ≤ f
  q0 : 0 ≤ q
  qN : q ≤ N - t
  low : LowerW f t g u was is p q
structure LeastW (f t g u N : Int) (was is : List Sp) (p q : Int) : Prop where
  inv : InvW f t g u N was is p q
  clo : ClosedW f t g u was is p q

theorem LeastW.uniq {p q p' q' : Int} (h : LeastW f t g u N was is p q) (h' : LeastW f t g u N was is p' q') : p = p' ∧ q = q' := by
  have a := h.inv.low p' q' h'.inv.p0 h'.inv.q0 h'.clo
  have b := h'.inv.low p q h.inv.p0 h.inv.q0 h.clo
  omega

theorem InvW.start (h : WS f t g u N m was is) : InvW f t g u N was is 0 0 :=
  ⟨by omega, h.f0, by omega, by have := h.tN; omega, fun _ _ hP hQ _ => ⟨hP, hQ⟩⟩

theorem acrB_iff {x : Sp} {a : Int} : acrB x a = true ↔ x.1 < a ∧ a < x.2 := by simp [acrB]
theorem acrB_not {x : Sp} {a : Int} : acrB x a = false ↔ ¬ (x.1 < a ∧ a < x.2) := by
  unfold acrB; exact decide_eq_false_iff_not

/-- One step, of whichever way. -/
structure StepW (f t g u : Int) (was is : List Sp) (p q a b : Int) : Prop where
  ahead : a = 0 ∨ (∃ x ∈ was, acrB x (f - p) = true ∧ a = f - p - x.1) ∨ (∃ x ∈ is, acrB x (g - p) = true ∧ a = g - p - x.1)
  behind : b = 0 ∨ (∃ x ∈ was, acrB x (t + q) = true ∧ b = x.2 - (t + q)) ∨ (∃ x ∈ is, acrB x (u + q) = true ∧ b = x.2 - (u + q))

theorem StepW.nonneg {p q a b : Int} (s : StepW f t g u was is p q a b) : 0 ≤ a ∧ 0 ≤ b := by
  constructor
  · rcases s.ahead with h | ⟨x, _, h, e⟩ | ⟨x, _, h, e⟩
    · omega
    · have := acrB_iff.1 h; omega
    · have := acrB_iff.1 h; omega
  · rcases s.behind with h | ⟨x, _, h, e⟩ | ⟨x, _, h, e⟩
    · omega
    · have := acrB_iff.1 h; omega
    · have := acrB_iff.1 h; omega

theorem InvW.step (h : WS f t g u N m was is) {p q a b : Int} (i : InvW f t g u N was is p q) (s : StepW f t g u was is p q a b) : InvW f t g u N was is (p + a) (q + b) := by
  have hn := s.nonneg
  have hgf := h.gf
  have hs := h.same
  refine ⟨by have := i.p0; omega, ?_, by have := i.q0; omega, ?_, ?_⟩
  · rcases s.ahead with e | ⟨x, hx, _, e⟩ | ⟨x, hx, _, e⟩
    · have := i.pf; omega
    · have := h.was_ x hx; omega
    · have := h.is_ x hx; omega
  · rcases s.behind with e | ⟨x, hx, _, e⟩ | ⟨x, hx, _, e⟩
    · have := i.qN; omega
    · have := h.was_ x hx; omega
    · have := h.is_ x hx; omega
  · intro P Q hP hQ hc
    obtain ⟨lp, lq⟩ := i.low P Q hP hQ hc
    constructor
    · rcases s.ahead with e | ⟨x, hx, hac, e⟩ | ⟨x, hx, hac, e⟩
      · omega
      · have h1 := acrB_iff.1 hac
        have h2 := acrB_not.1 (hc.1 x hx).1
        omega
      · have h1 := acrB_iff.1 hac
        have h2 := acrB_not.1 (hc.2 x hx).1
        omega
    · rcases s.behind with e | ⟨x, hx, hac, e⟩ | ⟨x, hx, hac, e⟩
      · omega
      · have h1 := acrB_iff.1 hac
        have h2 := acrB_not.1 (hc.1 x hx).2
        omega
      · have h1 := acrB_iff.1 hac
        have h2 := acrB_not.1 (hc.2 x hx).2
        omega

/-! The document's step. -/
theorem onceL_none {f t : Int} {l : List Sp} (h : onceL f t l = none) : ∀ x ∈ l, acrB x f = false ∧ acrB x t = false := by
  induction l with
  | nil => intro x hx; cases hx
  | cons y r ih =>
    intro x hx
    unfold onceL at h
    cases h1 : acrB y f with
    | true => simp [h1] at h
    | false =>
      cases h2 : acrB y t with
      | true => simp [h1, h2] at h
      | false =>
        simp [h1, h2] at h
        rcases List.mem_cons.1 hx with rfl | hx
        · exact ⟨h1, h2⟩
        · exact ih h x hx
theorem onceL_none_iff {f t : Int} {l : List Sp} (h : ∀ x ∈ l, acrB x f = false ∧ acrB x t = false) : onceL f t l = none := by
  induction l with
  | nil => rfl
  | cons y r ih =>
    have hy := h y (by simp)
    simp [onceL, hy.1, hy.2, ih fun x hx => h x (by simp [hx])]
theorem onceL_some {f t : Int} {l : List Sp} {a b : Int} (h : onceL f t l = some (a, b)) :
    ∃ x ∈ l, (acrB x f = true ∧ a = f - x.1 ∧ b = 0) ∨ (acrB x t = true ∧ a = 0 ∧ b = x.2 - t) := by
  induction l with
  | nil => cases h
  | cons y r ih =>
    unfold onceL at h
    cases h1 : acrB y f with
    | true =>
      simp [h1] at h
      exact ⟨y, by simp, .inl ⟨h1, h.1.symm, h.2.symm⟩⟩
    | false =>
      cases h2 : acrB y t with
      | true =>
        simp [h1, h2] at h
        exact ⟨y, by simp, .inr ⟨h2, h.1.symm, h.2.symm⟩⟩
      | false =>
        simp [h1, h2] at h
        obtain ⟨x, hx, hh⟩ := ih h
        exact ⟨x, by simp [hx], hh⟩

/-- Behind a step: nothing is across, or it went on. -/
theorem onceP_step (p q : Int) :
    let d := onceP (f - p) (t + q) (g - p) (u + q) was is
    StepW f t g u was is p q d.1 d.2 ∧ (ClosedW f t g u was is p q ∧ d = (0, 0) ∨ (0 < d.1 ∧ d.2 = 0) ∨ (d.1 = 0 ∧ 0 < d.2)) := by
  intro d
  cases h1 : onceL (f - p) (t + q) was with
  | some v =>
    obtain ⟨a, b⟩ := v
    have hd : d = (a, b) := by simp [d, onceP, h1]
    obtain ⟨x, hx, ⟨hac, ha, hb⟩ | ⟨hac, ha, hb⟩⟩ := onceL_some h1
    · refine ⟨⟨.inr (.inl ⟨x, hx, hac, by rw [hd]; exact ha⟩), .inl (by rw [hd]; exact hb)⟩, .inr (.inl ⟨?_, by rw [hd]; exact hb⟩)⟩
      rw [hd]; have := acrB_iff.1 hac; show 0 < a; omega
    · refine ⟨⟨.inl (by rw [hd]; exact ha), .inr (.inl ⟨x, hx, hac, by rw [hd]; exact hb⟩)⟩, .inr (.inr ⟨by rw [hd]; exact ha, ?_⟩)⟩
      rw [hd]; have := acrB_iff.1 hac; show 0 < b; omega
  | none =>
    cases h2 : onceL (g - p) (u + q) is with
    | some v =>
      obtain ⟨a, b⟩ := v
      have hd : d = (a, b) := by simp [d, onceP, h1, h2]
      obtain ⟨x, hx, ⟨hac, ha, hb⟩ | ⟨hac, ha, hb⟩⟩ := onceL_some h2
      · refine ⟨⟨.inr (.inr ⟨x, hx, hac, by rw [hd]; exact ha⟩), .inl (by rw [hd]; exact hb)⟩, .inr (.inl ⟨?_, by rw [hd]; exact hb⟩)⟩
        rw [hd]; have := acrB_iff.1 hac; show 0 < a; omega
      · refine ⟨⟨.inl (by rw [hd]; exact ha), .inr (.inr ⟨x, hx, hac, by rw [hd]; exact hb⟩)⟩, .inr (.inr ⟨by rw [hd]; exact ha, ?_⟩)⟩
        rw [hd]; have := acrB_iff.1 hac; show 0 < b; omega
    | none =>
      have hd : d = (0, 0) := by simp [d, onceP, h1, h2]
      exact ⟨⟨.inl (by rw [hd]), .inl (by rw [hd])⟩, .inl ⟨⟨onceL_none h1, onceL_none h2⟩, hd⟩⟩

theorem onceP_closed {p q : Int} (h : ClosedW f t g u was is p q) : onceP (f - p) (t + q) (g - p) (u + q) was is = (0, 0) := by
  simp [onceP, onceL_none_iff h.1, onceL_none_iff h.2]

/-- So many steps of the document. -/
def iterP (f t g u : Int) (was is : List Sp) : Nat → Int × Int
  | 0 => (0, 0)
  | k + 1 => ((iterP f t g u was is k).1 + (onceP (f - (iterP f t g u was is k).1) (t + (iterP f t g u was is k).2) (g - (iterP f t g u was is k).1) (u + (iterP f t g u was is k).2) was is).1,
      (iterP f t g u was is k).2 + (onceP (f - (iterP f t g u was is k).1) (t + (iterP f t g u was is k).2) (g - (iterP f t g u was is k).1) (u + (iterP f t g u was is k).2) was is).2)

theorem iterP_inv (h : WS f t g u N m was is) (k : Nat) : InvW f t g u N was is (iterP f t g u was is k).1 (iterP f t g u was is k).2 := by
  induction k with
  | zero => exact InvW.start h
  | succ k ih => exact ih.step h (onceP_step _ _).1

def above (l : List Int) (p : Int) : Nat := (l.filter fun v => decide (p < v)).length
theorem above_le (l : List Int) {p p' : Int} (h : p ≤ p') : above l p' ≤ above l p := by
  induction l with
  | nil => exact Nat.le_refl _
  | cons v r ih =>
    unfold above at *
    by_cases h1 : p' < v
    · simp [h1, show p < v by omega]; exact ih
    · by_cases h2 : p < v
      · simp [h1, h2]; omega
      · simp [h1, h2]; exact ih
theorem above_lt (l : List Int) {p p' : Int} (h : p < p') (hm : p' ∈ l) : above l p' < above l p := by
  induction l with
  | nil => cases hm
  | cons v r ih =>
    by_cases hv : v = p'
    · subst hv
      have := above_le r (Int.le_of_lt h)
      unfold above at *
      simp [h]; omega
    · have hm' : p' ∈ r := by
        rcases List.mem_cons.1 hm with e | e
        · exact absurd e.symm hv
        · exact e
      have := ih hm'
      unfold above at *
      by_cases h1 : p' < v
      · simp [h1, show p < v by omega]; exact this
      · by_cases h2 : p < v
        · simp [h1, h2]; omega
        · simp [h1, h2]; exact this

def candP (f g : Int) (was is : List Sp) : List Int := was.map (f - ·.1) ++ is.map (g - ·.1)
def candQ (t u : Int) (was is : List Sp) : List Int := was.map (·.2 - t) ++ is.map (·.2 - u)
def left_ (f t g u : Int) (was is : List Sp) (p q : Int) : Nat := above (candP f g was is) p + above (candQ t u was is) q

theorem left_start : left_ f t g u was is 0 0 ≤ 2 * was.length + 2 * is.length := by
  have h1 : above (candP f g was is) 0 ≤ was.length + is.length := by
    unfold above candP; refine Nat.le_trans (List.length_filter_le _ _) ?_; simp
  have h2 : above (candQ t u was is) 0 ≤ was.length + is.length := by
    unfold above candQ; refine Nat.le_trans (List.length_filter_le _ _) ?_; simp
  unfold left_; omega

theorem left_step {p q a b : Int} (s : StepW f t g u was is p q a b) (hab : (0 < a ∧ b = 0) ∨ (a = 0 ∧ 0 < b)) : left_ f t g u was is (p + a) (q + b) < left_ f t g u was is p q := by
  unfold left_
  rcases hab with ⟨ha, hb⟩ | ⟨ha, hb⟩
  · have hm : p + a ∈ candP f g was is := by
      rcases s.ahead with e | ⟨x, hx, _, e⟩ | ⟨x, hx, _, e⟩
      · omega
      · exact List.mem_append_left _ (List.mem_map.2 ⟨x, hx, by omega⟩)
      · exact List.mem_append_right _ (List.mem_map.2 ⟨x, hx, by omega⟩)
    have := above_lt (candP f g was is) (show p < p + a by omega) hm
    rw [hb, Int.add_zero]; omega
  · have hm : q + b ∈ candQ t u was is := by
      rcases s.behind with e | ⟨x, hx, _, e⟩ | ⟨x, hx, _, e⟩
      · omega
      · exact List.mem_append_left _ (List.mem_map.2 ⟨x, hx, by omega⟩)
      · exact List.mem_append_right _ (List.mem_map.2 ⟨x, hx, by omega⟩)
    have := above_lt (candQ t u was is) (show q < q + b by omega) hm
    rw [ha, Int.add_zero]; omega

theorem iterP_count (k : Nat) : ClosedW f t g u was is (iterP f t g u was is k).1 (iterP f t g u was is k).2 ∨
    left_ f t g u was is (iterP f t g u was is k).1 (iterP f t g u was is k).2 + k ≤ left_ f t g u was is 0 0 := by
  induction k with
  | zero => exact .inr (Nat.le_refl _)
  | succ k ih =>
    rcases ih with h | h
    · left
      simp only [iterP, onceP_closed h, Int.add_zero]
      exact h
    · obtain ⟨s, ⟨hc, hd⟩ | hab⟩ := onceP_step (f := f) (t := t) (g := g) (u := u) (was := was) (is := is) (iterP f t g u was is k).1 (iterP f t g u was is k).2
      · left
        simp only [iterP, hd, Int.add_zero]
        exact hc
      · right
        have := left_step s hab
        simp only [iterP]
        omega

theorem iterP_least (h : WS f t g u N m was is) {k : Nat} (hk : 2 * was.length + 2 * is.length < k) :
    LeastW f t g u N was is (iterP f t g u was is k).1 (iterP f t g u was is k).2 := by
  refine ⟨iterP_inv h k, ?_⟩
  rcases iterP_count (f := f) (t := t) (g := g) (u := u) (was := was) (is := is) k with h1 | h1
  · exact h1
  · have := left_start (f := f) (t := t) (g := g) (u := u) (was := was) (is := is)
    omega

/-! The program's step. -/
theorem reachP_step {f t : Int} {l : List Sp} : (reachP f t l = (0, 0) ∧ ∀ x ∈ l, acrB x f = false ∧ acrB x t = false) ∨
    (∃ x ∈ l, ((reachP f t l).1 = 0 ∨ (acrB x f = true ∧ (reachP f t l).1 = f - x.1)) ∧ ((reachP f t l).2 = 0 ∨ (acrB x t = true ∧ (reachP f t l).2 = x.2 - t)) ∧
      0 ≤ (reachP f t l).1 ∧ 0 ≤ (reachP f t l).2 ∧ 0 < (reachP f t l).1 + (reachP f t l).2) := by
  induction l with
  | nil => exact .inl ⟨rfl, fun x hx => by cases hx⟩
  | cons y r ih =>
    obtain ⟨a, b⟩ := y
    by_cases h1 : a < f ∧ f < b
    · right
      refine ⟨(a, b), by simp, ?_⟩
      by_cases h2 : a < t ∧ t < b
      · have e : reachP f t ((a, b) :: r) = (f - a, b - t) := by simp only [reachP]; rw [if_pos h1, if_pos h2, if_pos (.inl (by omega))]
        rw [e]
        exact ⟨.inr ⟨acrB_iff.2 h1, rfl⟩, .inr ⟨acrB_iff.2 h2, rfl⟩, by dsimp only; omega, by dsimp only; omega, by dsimp only; omega⟩
      · have e : reachP f t ((a, b) :: r) = (f - a, 0) := by simp only [reachP]; rw [if_pos h1, if_neg h2, if_pos (.inl (by omega))]
        rw [e]
        exact ⟨.inr ⟨acrB_iff.2 h1, rfl⟩, .inl rfl, by dsimp only; omega, by dsimp only; omega, by dsimp only; omega⟩
    · by_cases h2 : a < t ∧ t < b
      · right
        refine ⟨(a, b), by simp, ?_⟩
        have e : reachP f t ((a, b) :: r) = (0, b - t) := by simp only [reachP]; rw [if_neg h1, if_pos h2, if_pos (.inr (by omega))]
        rw [e]
        exact ⟨.inl rfl, .inr ⟨acrB_iff.2 h2, rfl⟩, by dsimp only; omega, by dsimp only; omega, by dsimp only; omega⟩
      · have e : reachP f t ((a, b) :: r) = reachP f t r := by simp only [reachP]; rw [if_neg h1, if_neg h2, if_neg (by omega)]
        rw [e]
        rcases ih with ⟨e0, hall⟩ | ⟨x, hx, hh⟩
        · left
          refine ⟨e0, fun x hx => ?_⟩
          rcases List.mem_cons.1 hx with rfl | hx
          · exact ⟨acrB_not.2 h1, acrB_not.2 h2⟩
          · exact hall x hx
        · exact .inr ⟨x, by simp [hx], hh⟩

theorem stepW_was {p q : Int} : StepW f t g u was is p q (reachP (f - p) (t + q) was).1 (reachP (f - p) (t + q) was).2 := by
  rcases reachP_step (f := f - p) (t := t + q) (l := was) with ⟨e, _⟩ | ⟨x, hx, h1, h2, _⟩
  · rw [e]; exact ⟨.inl rfl, .inl rfl⟩
  · exact ⟨h1.imp id fun h => .inl ⟨x, hx, h⟩, h2.imp id fun h => .inl ⟨x, hx, h⟩⟩
theorem stepW_is {p q : Int} : StepW f t g u was is p q (reachP (g - p) (u + q) is).1 (reachP (g - p) (u + q) is).2 := by
  rcases reachP_step (f := g - p) (t := u + q) (l := is) with ⟨e, _⟩ | ⟨x, hx, h1, h2, _⟩
  · rw [e]; exact ⟨.inl rfl, .inl rfl⟩
  · exact ⟨h1.imp id fun h => .inr ⟨x, hx, h⟩, h2.imp id fun h => .inr ⟨x, hx, h⟩⟩
theorem reachP_nonneg (f t : Int) (l : List Sp) : 0 ≤ (reachP f t l).1 ∧ 0 ≤ (reachP f t l).2 := by
  rcases reachP_step (f := f) (t := t) (l := l) with ⟨e, _⟩ | ⟨x, hx, _, _, h1, h2, _⟩
  · rw [e]; exact ⟨Int.le_refl _, Int.le_refl _⟩
  · exact ⟨h1, h2⟩
theorem reachP_none {f t : Int} {l : List Sp} (h : (reachP f t l).1 + (reachP f t l).2 = 0) : ∀ x ∈ l, acrB x f = false ∧ acrB x t = false := by
  rcases reachP_step (f := f) (t := t) (l := l) with ⟨_, hh⟩ | ⟨x, hx, _, _, _, _, h3⟩
  · exact hh
  · omega

/-- Widened again it is the same. -/
theorem LeastW.again {p q : Int} (h : LeastW f t g u N was is p q) (hpq : WS (f - p) (t + q) (g - p) (u + q) N m was is) : LeastW (f - p) (t + q) (g - p) (u + q) N was is 0 0 :=
  ⟨InvW.start hpq, by have := h.clo; unfold ClosedW at *; simpa using this⟩
theorem WS.wide (h : WS f t g u N m was is) {p q : Int} (i : InvW f t g u N was is p q) : WS (f - p) (t + q) (g - p) (u + q) N m was is := by
  obtain ⟨a1, a2, a3, a4, a5, a6, a7, a8, a9⟩ := h
  obtain ⟨b1, b2, b3, b4, _⟩ := i
  exact ⟨by omega, by omega, by omega, by omega, by omega, by omega, by omega, a8, a9⟩
end
end Go.Proofs.Ytlledfabkmmgoaa
