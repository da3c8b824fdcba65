/- What the theorem leans on, part 10. -/
import Derived.Test.YthjjncooaahejaaGreatDoorBlPAA
import Derived.Test.YthjjncooaahejaaGreatDoorBlPAB
import Derived.Test.YthjjncooaahejaaGreatDoorBlPAC
import Derived.Test.YthjjncooaahejaaGreatDoorBlPAD
set_option linter.unusedSimpArgs false
set_option linter.unusedVariables false
set_option maxRecDepth 8000
namespace Go.Proofs.YthjjncooaahejaaGreatDoor
theorem Rspan_fn (a b : Int) : OFn Tryz.prog G0 45 [.d (ii a b)] [] 0 (bv (decide (0 ≤ a ∧ a ≤ b ∧ b ≤ 1099511627776))) [] := by
  refine OFn.of_code mixed [0, 1, 2] Tryz.func45 rfl Tryz.results45 Tryz.ntmps45 (by kernel_rfl) (by simp) ?_
  (repeat' (first | (with_reducible first | exact True.intro | refine vD ?_ | refine vG ?_ | refine vE ?_) | with_reducible refine DoneW.out ?_ | refine vR ?_ | refine v6 ?_ | with_reducible refine vN ?_ | (with_reducible first | refine vB (fun h => ?_) (fun h => ?_) | refine vM (fun h => ?_) (fun h => ?_))))
  all_goals
    congr 1
    rw [Bool.eq_iff_iff]
    simp
theorem Pwithin_fn (a b : Int) : OFn Tryz.prog G0 43 [.d (ii a b)] [] 0 (bv (decide (0 ≤ a ∧ a ≤ b ∧ b ≤ 1099511627776))) [] := by
  refine OFn.of_code mixed [0, 1, 2] Tryz.func43 rfl Tryz.results43 Tryz.ntmps43 (by kernel_rfl) (by simp) ?_
  (repeat' (first | (with_reducible first | exact True.intro | refine vD ?_ | refine vG ?_ | refine vE ?_) | with_reducible refine DoneW.out ?_ | refine vR ?_ | refine v6 ?_ | with_reducible refine vN ?_ | (with_reducible first | refine vB (fun h => ?_) (fun h => ?_) | refine vM (fun h => ?_) (fun h => ?_))))
  all_goals
    congr 1
    rw [Bool.eq_iff_iff]
    simp
theorem Psize_fn (a b : Int) : OFn Tryz.prog G0 44 [.d (ii a b)] [] 0 (iv (IntKind.i64.wrap (b - a))) [] := by
  refine OFn.of_code mixed [0, 1, 2] Tryz.func44 rfl Tryz.results44 Tryz.ntmps44 (by kernel_rfl) (by simp) ?_
  (repeat' (first | (with_reducible first | exact True.intro | refine vD ?_ | refine vG ?_ | refine vE ?_) | with_reducible refine DoneW.out ?_ | refine vR ?_ | refine v6 ?_ | with_reducible refine vN ?_ | (with_reducible first | refine vB (fun h => ?_) (fun h => ?_) | refine vM (fun h => ?_) (fun h => ?_))))
abbrev Ch := Int × Int × Int × Int
abbrev chD (c : Ch) : D := .agg [.lit (.int .i64 c.1), .lit (.int .i64 c.2.1), .lit (.int .i64 c.2.2.1), .lit (.int .i64 c.2.2.2)]
abbrev chL (cs : List Ch) : V := .d (.sd 4 false (cs.map chD))
def spOk (a b : Int) : Bool := decide (0 ≤ a ∧ a ≤ b ∧ b ≤ 1099511627776)
def chOk (nf : Bool) (was c : Ch) : Bool := spOk c.1 c.2.1 && spOk c.2.2.1 c.2.2.2 && !decide (c.1 = c.2.1 ∧ c.2.2.1 = c.2.2.2) && decide (0 ≤ c.1 - was.2.1 ∧ c.1 - was.2.1 = c.2.2.1 - was.2.2.2 ∧ ¬ (nf = true ∧ c.1 = was.2.1))
def normF (nf : Bool) (was : Ch) : List Ch → Bool
  | [] => true
  | c :: r => chOk nf was c && normF true c r
def prevC (cs : List Ch) (i : Nat) : Ch := if i = 0 then (0, 0, 0, 0) else cs.getD (i - 1) (0, 0, 0, 0)
def boundC (c : Ch) : Prop := 0 ≤ c.1 ∧ c.1 ≤ c.2.1 ∧ c.2.1 ≤ 1099511627776 ∧ 0 ≤ c.2.2.1 ∧ c.2.2.1 ≤ c.2.2.2 ∧ c.2.2.2 ≤ 1099511627776
theorem drop_at {α : Type} {l : List α} {i : Nat} {x : α} (h : l[i]? = some x) : l.drop i = x :: l.drop (i + 1) := by
  obtain ⟨hi, rfl⟩ := List.getElem?_eq_some_iff.1 h
  exact List.drop_eq_getElem_cons hi
theorem normF_at {cs : List Ch} {nf : Bool} {was c : Ch} {i : Nat} (h : cs[i]? = some c) : normF nf was (cs.drop i) = (chOk nf was c && normF true c (cs.drop (i + 1))) := by rw [drop_at h]; rfl
theorem prevC_succ {cs : List Ch} {i : Nat} {c : Ch} (h : cs[i]? = some c) : prevC cs (i + 1) = c := by simp [prevC, h]
def normal (cs : List Ch) : Bool := normF false (0, 0, 0, 0) cs
def normS (cs : List Ch) (i : Nat) : St := ⟨[(0, chL cs), (7, chL cs), (8, iv cs.length), (9, iv i)], [], 0⟩
attribute [push_cast] normS.eq_def
theorem RNormal_fn (cs : List Ch) (hl : cs.length ≤ 1000) : OFn Tryz.prog G0 28 [chL cs] [] 0 (bv (normal cs)) [] := by
  refine vF mixed [0, 2, 3, 4, 5, 6, 7, 8, 9, 10, 41, 44, 77] Tryz.func28 rfl Tryz.results28 Tryz.ntmps28 ?_
  (repeat' (first | (with_reducible first | exact True.intro | refine vD ?_ | refine vG ?_ | refine vE ?_) |  refine vR ?_ | refine v6 ?_ | with_reducible refine vN ?_ | (with_reducible first | refine vB (fun h => ?_) (fun h => ?_) | refine vM (fun h => ?_) (fun h => ?_))))
  refine vL (lv := [0, 2, 3, 4, 5, 6, 7, 8, 9, 10, 41, 44, 77]) mixed (normS cs) (fun i => i ≤ cs.length ∧ normal cs = normF (decide (0 < i)) (prevC cs i) (cs.drop i) ∧ boundC (prevC cs i)) (fun i => cs.length - i) (0) (GhW.to [0, 7, 8, 9] [] [] (by exact vS) rfl) ?_ ?_
  · simp [prevC, boundC]; rfl
  rintro i ⟨hi, hn, hb⟩
  (repeat' (first | (with_reducible first | exact True.intro | refine vD ?_ | refine vG ?_ | refine vE ?_) | with_reducible refine DoneW.out ?_ | refine vR ?_ | refine v6 ?_ | with_reducible refine vN ?_ | (with_reducible first | refine vB (fun h => ?_) (fun h => ?_) | refine vM (fun h => ?_) (fun h => ?_))))
  · refine elX.intro fun c hc => ?_
    rw [normF_at hc] at hn
    obtain ⟨was, hw⟩ : ∃ was, was = prevC cs i := ⟨_, rfl⟩
    rw [← hw] at hn hb
    (repeat' (first | (with_reducible first | exact True.intro | refine vD ?_ | refine vG ?_ | refine vE ?_) | (with_reducible refine CallW.d (Rspan_fn _ _) (by kernel_rfl) rfl rfl ?_) | with_reducible refine DoneW.out ?_ | refine vR ?_ | refine v6 ?_ | with_reducible refine vN ?_ | (with_reducible first | refine vB (fun h => ?_) (fun h => ?_) | refine vM (fun h => ?_) (fun h => ?_))))
    · congr 1
      rw [hn, Bool.eq_iff_iff]
      simp [chOk, spOk, h]
    · congr 1
      rw [hn, Bool.eq_iff_iff]
      simp [chOk, spOk] at *
      omega
    · refine elX.intro fun d hd => ?_
      rw [show ((i : Int) - 1).toNat = i - 1 by omega] at hd
      have hp : was = d := by rw [hw]; simp [prevC, hd]; omega
      subst hp
      unfold boundC at hb
      (repeat' (first | (with_reducible first | exact True.intro | refine vD ?_ | refine vG ?_ | refine vE ?_) | with_reducible refine DoneW.out ?_ | refine vR ?_ | refine v6 ?_ | with_reducible refine vN ?_ | (with_reducible first | refine vB (fun h => ?_) (fun h => ?_) | refine vM (fun h => ?_) (fun h => ?_))))
      · skip
        congr 1
        rw [hn, Bool.eq_iff_iff]
        simp [chOk, spOk] at *
        (try simp (disch := omega) only [w64] at h)
        omega
      · skip
        have hk : chOk (decide (0 < i)) was c = true := by
          simp [chOk, spOk] at *
          (try simp (disch := omega) only [w64] at h)
          omega
        rw [hk] at hn
        refine AgW.to (i + 1) [0, 7, 8, 9] [] [] (by exact vS) ?_ ?_
        · show cs.length - (i + 1) < cs.length - i
          omega
        · refine ⟨by omega, ?_, ?_⟩
          · rw [hn, prevC_succ hc]
            simp
          · rw [prevC_succ hc]
            simp [boundC, chOk, spOk] at *
            omega
    · have h0 : i = 0 := by omega
      subst h0
      have hp : was = (0, 0, 0, 0) := hw
      subst hp
      clear hw hb
      congr 1
      rw [hn, Bool.eq_iff_iff]
      simp [chOk, spOk] at *
      (try simp (disch := omega) only [w64] at h)
      omega
    · have h0 : i = 0 := by omega
      subst h0
      have hp : was = (0, 0, 0, 0) := hw
      subst hp
      clear hw hb
      have hk : chOk (decide (0 < 0)) (0, 0, 0, 0) c = true := by
        simp [chOk, spOk] at *
        (try simp (disch := omega) only [w64] at h)
        omega
      rw [hk] at hn
      refine AgW.to (0 + 1) [0, 7, 8, 9] [] [] (by exact vS) ?_ ?_
      · show cs.length - (0 + 1) < cs.length - 0
        omega
      · refine ⟨by omega, ?_, ?_⟩
        · rw [hn, prevC_succ hc]
          simp
        · rw [prevC_succ hc]
          simp [boundC, chOk, spOk] at *
          omega
  · congr 1
    rw [hn, List.drop_eq_nil_of_le (by omega)]
    rfl
def pnormS (cs : List Ch) (i : Nat) : St := ⟨[(0, chL cs), (3, .po 0 0), (7, chL cs), (8, iv cs.length), (9, iv i)], [(0, .cell [iv (prevC cs i).1, iv (prevC cs i).2.1, iv (prevC cs i).2.2.1, iv (prevC cs i).2.2.2])], 1⟩
attribute [push_cast] pnormS.eq_def
theorem PNormal_fn (cs : List Ch) (hl : cs.length ≤ 1000) : OFn Tryz.prog G0 25 [chL cs] [] 0 (bv (normal cs)) [] := by
  refine vF mixed [0, 2, 3, 4, 5, 6, 7, 8, 9, 10, 33, 61] Tryz.func25 rfl Tryz.results25 Tryz.ntmps25 ?_
  (repeat' (first | (with_reducible first | exact True.intro | refine vD ?_ | refine vG ?_ | refine vE ?_) |  refine vR ?_ | refine v6 ?_ | with_reducible refine vN ?_ | (with_reducible first | refine vB (fun h => ?_) (fun h => ?_) | refine vM (fun h => ?_) (fun h => ?_))))
  refine vL (lv := [0, 2, 3, 4, 5, 6, 7, 8, 9, 10, 33, 61]) mixed (pnormS cs) (fun i => i ≤ cs.length ∧ normal cs = normF (decide (0 < i)) (prevC cs i) (cs.drop i) ∧ boundC (prevC cs i)) (fun i => cs.length - i) (0) (GhW.to [0, 3, 7, 8, 9] [4] [4] (by exact vS) rfl) ?_ ?_
  · simp [prevC, boundC]; rfl
  rintro i ⟨hi, hn, hb⟩
  have hsp := fun c hc => prevC_succ (cs := cs) (i := i) (c := c) hc
  obtain ⟨was, hw⟩ : ∃ was, was = prevC cs i := ⟨_, rfl⟩
  unfold pnormS
  rw [← hw] at hn hb ⊢
  (repeat' (first | (with_reducible first | exact True.intro | refine vD ?_ | refine vG ?_ | refine vE ?_) | with_reducible refine DoneW.out ?_ | refine vR ?_ | refine v6 ?_ | with_reducible refine vN ?_ | (with_reducible first | refine vB (fun h => ?_) (fun h => ?_) | refine vM (fun h => ?_) (fun h => ?_))))
  · refine elX.intro fun c hc => ?_
    rw [normF_at hc] at hn
    unfold boundC at hb
    (repeat' (first | (with_reducible first | exact True.intro | refine vD ?_ | refine vG ?_ | refine vE ?_) | (with_reducible refine callD.d (Pwithin_fn _ _) (by kernel_rfl) rfl rfl ?_) | (with_reducible refine callD.d (Psize_fn _ _) (by kernel_rfl) rfl rfl ?_) | with_reducible refine DoneW.out ?_ | refine vR ?_ | refine v6 ?_ | with_reducible refine vN ?_ | (with_reducible first | refine vB (fun h => ?_) (fun h => ?_) | refine vM (fun h => ?_) (fun h => ?_))))
    · skip
      congr 1
      rw [hn, Bool.eq_iff_iff]
      simp [chOk, spOk] at *
      (try simp (disch := omega) only [w64] at h)
      omega
    · skip
      congr 1
      rw [hn, Bool.eq_iff_iff]
      simp [chOk, spOk] at *
      (try simp (disch := omega) only [w64] at h)
      omega
    · skip
      congr 1
      rw [hn, Bool.eq_iff_iff]
      simp [chOk, spOk] at *
      (try simp (disch := omega) only [w64] at h)
      omega
    · skip
      congr 1
      rw [hn, Bool.eq_iff_iff]
      simp [chOk, spOk] at *
      (try simp (disch := omega) only [w64] at h)
      omega
    · have hk : chOk (decide (0 < i)) was c = true := by
        simp [chOk, spOk] at *
        omega
      rw [hk] at hn
      refine AgW.to (i + 1) [0, 3, 7, 8, 9] [0] [0] (by unfold pnormS; rw [prevC_succ hc]; exact vS) ?_ ?_
      · show cs.length - (i + 1) < cs.length - i
        omega
      · refine ⟨by omega, ?_, ?_⟩
        · rw [hn, prevC_succ hc]
          simp
        · rw [prevC_succ hc]
          simp [boundC, chOk, spOk] at *
          omega
  · congr 1
    rw [hn, List.drop_eq_nil_of_le (by omega)]
    rfl
def deltaC (c : Ch) : Int := (c.2.2.2 - c.2.2.1) - (c.2.1 - c.1)
def delta (cs : List Ch) : Int := (cs.map deltaC).sum
def deltaS (cs : List Ch) (i : Nat) : St := ⟨[(0, chL cs), (3, iv (delta (cs.take i))), (6, chL cs), (7, iv cs.length), (8, iv i)], [], 0⟩
attribute [push_cast] deltaS.eq_def
theorem delta_bound {cs : List Ch} (h : ∀ c ∈ cs, boundC c) : -1099511627776 * cs.length ≤ delta cs ∧ delta cs ≤ 1099511627776 * cs.length := by
  induction cs with
  | nil => simp [delta]
  | cons c r ih =>
    have h1 := h c List.mem_cons_self
    have h2 := ih fun x hx => h x (List.mem_cons_of_mem _ hx)
    have h3 : delta (c :: r) = deltaC c + delta r := by simp [delta]
    rw [h3]
    simp [boundC, deltaC] at *
    omega
theorem delta_take {cs : List Ch} {i : Nat} {c : Ch} (h : cs[i]? = some c) : delta (cs.take (i + 1)) = delta (cs.take i) + deltaC c := by
  rw [List.take_add_one, h]
  simp [delta]
theorem Delta_fn (cs : List Ch) (hl : cs.length ≤ 1000) (hb : ∀ c ∈ cs, boundC c) : OFn Tryz.prog G0 26 [chL cs] [] 0 (iv (delta cs)) [] := by
  refine vF mixed [0, 2, 3, 5, 6, 7, 8, 9] Tryz.func26 rfl Tryz.results26 Tryz.ntmps26 ?_
  (repeat' (first | (with_reducible first | exact True.intro | refine vD ?_ | refine vG ?_ | refine vE ?_) |  refine vR ?_ | refine v6 ?_ | with_reducible refine vN ?_ | (with_reducible first | refine vB (fun h => ?_) (fun h => ?_) | refine vM (fun h => ?_) (fun h => ?_))))
  refine vL (lv := [0, 2, 3, 5, 6, 7, 8, 9]) mixed (deltaS cs) (fun i => i ≤ cs.length) (fun i => cs.length - i) (0) (GhW.to [0, 3, 6, 7, 8] [] [] (by exact vS) rfl) ?_ ?_
  · exact Nat.zero_le _
  intro i hi
  have hd := delta_bound (cs := cs.take i) fun c hc => hb c (List.mem_of_mem_take hc)
  have ht : (cs.take i).length ≤ 1000 := by simp; omega
  (repeat' (first | (with_reducible first | exact True.intro | refine vD ?_ | refine vG ?_ | refine vE ?_) | with_reducible refine DoneW.out ?_ | refine vR ?_ | refine v6 ?_ | with_reducible refine vN ?_ | (with_reducible first | refine vB (fun h => ?_) (fun h => ?_) | refine vM (fun h => ?_) (fun h => ?_))))
  · refine elX.intro fun c hc => ?_
    have hc' := hb c (List.mem_of_getElem? hc)
    have hs := delta_take hc
    unfold boundC at hc'
    unfold deltaC at hs
    (repeat' (first | (with_reducible first | exact True.intro | refine vD ?_ | refine vG ?_ | refine vE ?_) | (with_reducible refine callD.d (Psize_fn _ _) (by kernel_rfl) rfl rfl ?_) | with_reducible refine DoneW.out ?_ | refine vR ?_ | refine v6 ?_ | with_reducible refine vN ?_ | (with_reducible first | refine vB (fun h => ?_) (fun h => ?_) | refine vM (fun h => ?_) (fun h => ?_))))
    refine AgW.to (i + 1) [0, 3, 6, 7, 8] [] [] (by unfold deltaS; rw [hs]; exact vS) ?_ ?_
    · show cs.length - (i + 1) < cs.length - i
      omega
    · show i + 1 ≤ cs.length
      omega
  · rw [List.take_of_length_le (by omega)]
end Go.Proofs.YthjjncooaahejaaGreatDoor
set_option linter.unusedSimpArgs false
set_option linter.unusedVariables false
set_option maxRecDepth 8000
namespace Go.Proofs.YthjjncooaahejaaGreatDoor
def rmapG (at_ bias : Int) : Int → List Ch → Int
  | shift, [] => at_ + shift
  | shift, c :: r => if c.1 ≤ at_ ∧ at_ ≤ c.2.1 then (if bias = 0 then c.2.2.1 else c.2.2.2) else rmapG at_ bias (if c.2.1 < at_ then c.2.2.2 - c.2.1 else shift) r
def pmapG (at_ bias : Int) : Int → List Ch → Int
  | shift, [] => at_ + shift
  | shift, c :: r => if at_ < c.1 then at_ + shift else if at_ ≤ c.2.1 then (if bias = 0 then c.2.2.1 else c.2.2.2) else pmapG at_ bias (c.2.2.2 - c.2.1) r
theorem chOk_spec {nf : Bool} {was c : Ch} (h : chOk nf was c = true) : boundC c ∧ was.2.1 ≤ c.1 := by
  simp [chOk, spOk, boundC] at *
  omega
theorem rmapG_past (at_ bias : Int) : ∀ (cs : List Ch) (shift : Int) (nf : Bool) (was : Ch), normF nf was cs = true → at_ < was.2.1 → rmapG at_ bias shift cs = at_ + shift
  | [], _, _, _, _, _ => rfl
  | c :: r, shift, nf, was, h, hw => by
    simp only [normF, Bool.and_eq_true] at h
    obtain ⟨h1, h2⟩ := chOk_spec h.1
    unfold boundC at h1
    rw [rmapG, if_neg (by omega), if_neg (by omega)]
    exact rmapG_past at_ bias r shift true c h.2 (by omega)
theorem map_eq (at_ bias : Int) : ∀ (cs : List Ch) (shift : Int) (nf : Bool) (was : Ch), normF nf was cs = true → rmapG at_ bias shift cs = pmapG at_ bias shift cs
  | [], _, _, _, _ => rfl
  | c :: r, shift, nf, was, h => by
    simp only [normF, Bool.and_eq_true] at h
    obtain ⟨h1, h2⟩ := chOk_spec h.1
    unfold boundC at h1
    rw [rmapG, pmapG]
    by_cases ha : at_ < c.1
    · rw [if_neg (by omega), if_neg (by omega), if_pos ha]
      exact rmapG_past at_ bias r shift true c h.2 (by omega)
    · rw [if_neg ha]
      by_cases hb : at_ ≤ c.2.1
      · rw [if_pos (by omega), if_pos hb]
      · rw [if_neg (by omega), if_neg hb, if_pos (by omega)]
        exact map_eq at_ bias r _ true c h.2
theorem normF_bound : ∀ (cs : List Ch) (nf : Bool) (was : Ch), normF nf was cs = true → ∀ c ∈ cs, boundC c
  | c :: r, nf, was, h, x, hx => by
    simp only [normF, Bool.and_eq_true] at h
    rcases List.mem_cons.1 hx with rfl | hx
    · exact (chOk_spec h.1).1
    · exact normF_bound r true c h.2 x hx
def shOk (s : Int) : Prop := -1099511627776 ≤ s ∧ s ≤ 1099511627776
def rmapS (cs : List Ch) (at_ bias : Int) (x : Nat × Int) : St := ⟨[(0, chL cs), (1, iv at_), (2, iv bias), (7, iv x.2), (10, chL cs), (11, iv cs.length), (12, iv x.1)], [], 0⟩
attribute [push_cast] rmapS.eq_def
theorem rmapG_at {cs : List Ch} {at_ bias shift : Int} {i : Nat} {c : Ch} (h : cs[i]? = some c) : rmapG at_ bias shift (cs.drop i) = if c.1 ≤ at_ ∧ at_ ≤ c.2.1 then (if bias = 0 then c.2.2.1 else c.2.2.2) else rmapG at_ bias (if c.2.1 < at_ then c.2.2.2 - c.2.1 else shift) (cs.drop (i + 1)) := by rw [drop_at h]; rfl
theorem pmapG_at {cs : List Ch} {at_ bias shift : Int} {i : Nat} {c : Ch} (h : cs[i]? = some c) : pmapG at_ bias shift (cs.drop i) = if at_ < c.1 then at_ + shift else if at_ ≤ c.2.1 then (if bias = 0 then c.2.2.1 else c.2.2.2) else pmapG at_ bias (c.2.2.2 - c.2.1) (cs.drop (i + 1)) := by rw [drop_at h]; rfl
theorem RMap_fn (cs : List Ch) (at_ bias : Int) (hl : cs.length ≤ 1000) (hb : ∀ c ∈ cs, boundC c) (ha : 0 ≤ at_ ∧ at_ ≤ 1099511627776) : OFn Tryz.prog G0 29 [chL cs, iv at_, iv bias] [] 0 (iv (rmapG at_ bias 0 cs)) [] := by
  refine vF mixed [0, 1, 2, 6, 7, 9, 10, 11, 12, 13, 27, 29, 40] Tryz.func29 rfl Tryz.results29 Tryz.ntmps29 ?_
  (repeat' (first | (with_reducible first | exact True.intro | refine vD ?_ | refine vG ?_ | refine vE ?_) |  refine vR ?_ | refine v6 ?_ | with_reducible refine vN ?_ | (with_reducible first | refine vB (fun h => ?_) (fun h => ?_) | refine vM (fun h => ?_) (fun h => ?_))))
  refine vL (lv := [0, 1, 2, 6, 7, 9, 10, 11, 12, 13, 27, 29, 40]) mixed (rmapS cs at_ bias) (fun x => x.1 ≤ cs.length ∧ shOk x.2 ∧ rmapG at_ bias 0 cs = rmapG at_ bias x.2 (cs.drop x.1)) (fun x => cs.length - x.1) ((0, 0)) (GhW.to [0, 1, 2, 7, 10, 11, 12] [] [] (by exact vS) rfl) ?_ ?_
  · simp [shOk]
  rintro ⟨i, s⟩ ⟨hi, hs, hn⟩
  simp only at hi hs hn
  unfold shOk at hs
  (repeat' (first | (with_reducible first | exact True.intro | refine vD ?_ | refine vG ?_ | refine vE ?_) | with_reducible refine DoneW.out ?_ | refine vR ?_ | refine v6 ?_ | with_reducible refine vN ?_ | (with_reducible first | refine vB (fun h => ?_) (fun h => ?_) | refine vM (fun h => ?_) (fun h => ?_))))
  · refine elX.intro fun c hc => ?_
    have hc' := hb c (List.mem_of_getElem? hc)
    rw [rmapG_at hc] at hn
    unfold boundC at hc'
    (repeat' (first | (with_reducible first | exact True.intro | refine vD ?_ | refine vG ?_ | refine vE ?_) | with_reducible refine DoneW.out ?_ | refine vR ?_ | refine v6 ?_ | with_reducible refine vN ?_ | (with_reducible first | refine vB (fun h => ?_) (fun h => ?_) | refine vM (fun h => ?_) (fun h => ?_))))
    all_goals (try simp only [Bool.and_eq_true, Bool.and_eq_false_iff, Bool.or_eq_true, Bool.or_eq_false_iff, Bool.not_eq_true', Bool.not_eq_false', decide_eq_true_eq, decide_eq_false_iff_not, beq_iff_eq, beq_eq_false_iff_ne, bne_iff_ne, bne_eq_false_iff_eq] at *)
    · rw [hn, if_pos (by omega), if_pos (by omega)]
    · rw [hn, if_pos (by omega), if_neg (by omega)]
    · refine AgW.to ((i + 1, c.2.2.2 - c.2.1)) [0, 1, 2, 7, 10, 11, 12] [] [] (by exact vS) ?_ ?_
      · show cs.length - (i + 1) < cs.length - i
        omega
      · refine ⟨by simp only; omega, by unfold shOk; omega, ?_⟩
        rw [hn, if_neg (by omega), if_pos (by omega)]
    · refine AgW.to ((i + 1, s)) [0, 1, 2, 7, 10, 11, 12] [] [] (by exact vS) ?_ ?_
      · show cs.length - (i + 1) < cs.length - i
        omega
      · refine ⟨by simp only; omega, by unfold shOk; omega, ?_⟩
        rw [hn, if_neg (by omega), if_neg (by omega)]
  · rw [hn, List.drop_eq_nil_of_le (by omega)]
    rfl
def pmapS (cs : List Ch) (at_ bias : Int) (x : Nat × Int) : St := ⟨[(0, chL cs), (1, iv at_), (2, iv bias), (8, iv x.2), (30, chL cs), (31, iv cs.length), (32, iv x.1)], [], 0⟩
attribute [push_cast] pmapS.eq_def
theorem PMap_fn (cs : List Ch) (at_ bias : Int) (hl : cs.length ≤ 1000) (hk : normal cs = true) (ha : 0 ≤ at_ ∧ at_ ≤ 1099511627776) (hbi : bias = 0 ∨ bias = 1) : OFn Tryz.prog G0 27 [chL cs, iv at_, iv bias] [] 0 (.tup [iv (pmapG at_ bias 0 cs), iv 0]) [] := by
  have hb := normF_bound cs _ _ hk
  have hbq : bias = 0 ∧ (bias == 0) = true ∨ bias = 1 ∧ (bias == 0) = false := by rcases hbi with rfl | rfl <;> simp
  refine vF mixed [0, 1, 2, 6, 7, 8, 10, 11, 15, 30, 31, 32, 33, 36, 45, 58] Tryz.func27 rfl Tryz.results27 Tryz.ntmps27 ?_
  (repeat' (first | (with_reducible first | exact True.intro | refine vD ?_ | refine vG ?_ | refine vE ?_) | (with_reducible refine CallW.d (PNormal_fn _ hl) (by kernel_rfl) rfl rfl ?_) | with_reducible refine DoneW.out ?_ | refine vR ?_ | refine v6 ?_ | with_reducible refine vN ?_ | (with_reducible first | refine vB (fun h => ?_) (fun h => ?_) | refine vM (fun h => ?_) (fun h => ?_))))
  · simp [hk] at h
  · exfalso
    (try simp only [Bool.and_eq_true, Bool.and_eq_false_iff, Bool.or_eq_true, Bool.or_eq_false_iff, Bool.not_eq_true', Bool.not_eq_false', decide_eq_true_eq, decide_eq_false_iff_not, beq_iff_eq, beq_eq_false_iff_ne, bne_iff_ne, bne_eq_false_iff_eq] at *)
    rcases hbi with rfl | rfl <;> simp at h <;> omega
  refine vL (lv := [0, 1, 2, 6, 7, 8, 10, 11, 15, 30, 31, 32, 33, 36, 45, 58]) mixed (pmapS cs at_ bias) (fun x => x.1 ≤ cs.length ∧ shOk x.2 ∧ pmapG at_ bias 0 cs = pmapG at_ bias x.2 (cs.drop x.1)) (fun x => cs.length - x.1) ((0, 0)) (GhW.to [0, 1, 2, 8, 30, 31, 32] [] [] (by exact vS) rfl) ?_ ?_
  · simp [shOk]
  clear h
  rintro ⟨i, s⟩ ⟨hi, hs, hn⟩
  simp only at hi hs hn
  unfold shOk at hs
  (repeat' (first | (with_reducible first | exact True.intro | refine vD ?_ | refine vG ?_ | refine vE ?_) | with_reducible refine DoneW.out ?_ | refine vR ?_ | refine v6 ?_ | with_reducible refine vN ?_ | (with_reducible first | refine vB (fun h => ?_) (fun h => ?_) | refine vM (fun h => ?_) (fun h => ?_))))
  · refine elX.intro fun c hc => ?_
    have hc' := hb c (List.mem_of_getElem? hc)
    rw [pmapG_at hc] at hn
    unfold boundC at hc'
    (repeat' (first | (with_reducible first | exact True.intro | refine vD ?_ | refine vG ?_ | refine vE ?_) | with_reducible refine DoneW.out ?_ | refine vR ?_ | refine v6 ?_ | with_reducible refine vN ?_ | (with_reducible first | refine vB (fun h => ?_) (fun h => ?_) | refine vM (fun h => ?_) (fun h => ?_))))
    all_goals (try simp only [Bool.and_eq_true, Bool.and_eq_false_iff, Bool.or_eq_true, Bool.or_eq_false_iff, Bool.not_eq_true', Bool.not_eq_false', decide_eq_true_eq, decide_eq_false_iff_not, beq_iff_eq, beq_eq_false_iff_ne, bne_iff_ne, bne_eq_false_iff_eq] at *)
    · rw [hn, if_pos (by omega)]
    · rw [hn, if_neg (by omega), if_pos (by omega), if_pos (by omega)]
    · rw [hn, if_neg (by omega), if_pos (by omega), if_neg (by omega)]
    · refine AgW.to ((i + 1, c.2.2.2 - c.2.1)) [0, 1, 2, 8, 30, 31, 32] [] [] (by exact vS) ?_ ?_
      · show cs.length - (i + 1) < cs.length - i
        omega
      · refine ⟨by simp only; omega, by unfold shOk; omega, ?_⟩
        rw [hn, if_neg (by omega), if_neg (by omega)]
  · rw [hn, List.drop_eq_nil_of_le (by omega)]
    rfl
def changesS (cs : List Ch) (x : Nat × List D) : St := ⟨[(3, .so 0 4 0 x.2.length), (6, chL cs), (7, iv cs.length), (8, iv x.1)], [(0, .row 4 x.2)], 1⟩
attribute [push_cast] changesS.eq_def
theorem changes_fn (cs : List Ch) (hl : cs.length ≤ 1000) : OFn Tryz.prog G0 12 [chL cs] [] 0 (chL cs) [] := by
  refine vF mixed [0, 2, 3, 5, 6, 7, 8, 9] Tryz.func12 rfl Tryz.results12 Tryz.ntmps12 ?_
  (repeat' (first | (with_reducible first | exact True.intro | refine vD ?_ | refine vG ?_ | refine vE ?_) |  refine vR ?_ | refine v6 ?_ | with_reducible refine vN ?_ | (with_reducible first | refine vB (fun h => ?_) (fun h => ?_) | refine vM (fun h => ?_) (fun h => ?_))))
  refine vL (lv := [0, 2, 3, 5, 6, 7, 8, 9]) mixed (changesS cs) (fun x => x.1 ≤ cs.length ∧ x.2 = (cs.take x.1).map chD) (fun x => cs.length - x.1) ((0, [])) (GhW.nil 3 4 (GhW.go [3, 6, 7, 8] (by exact vS) rfl)) ?_ ?_
  · simp
  rintro ⟨i, es⟩ ⟨hi, he⟩
  simp only at hi he
  have hel : es.length = i := by rw [he]; simp; omega
  (repeat' (first | (with_reducible first | exact True.intro | refine vD ?_ | refine vG ?_ | refine vE ?_) |  refine vR ?_ | refine v6 ?_ | with_reducible refine vN ?_ | (with_reducible first | refine vB (fun h => ?_) (fun h => ?_) | refine vM (fun h => ?_) (fun h => ?_))))
  · refine elX.intro fun c hc => ?_
    (repeat' (first | (with_reducible first | exact True.intro | refine vD ?_ | refine vG ?_ | refine vE ?_) |  refine vR ?_ | refine v6 ?_ | with_reducible refine vN ?_ | (with_reducible first | refine vB (fun h => ?_) (fun h => ?_) | refine vM (fun h => ?_) (fun h => ?_))))
    refine AgW.go ((i + 1, es ++ [chD c])) [3, 6, 7, 8] (by exact vS) ?_ ?_
    · show cs.length - (i + 1) < cs.length - i
      omega
    · refine ⟨by simp only; omega, ?_⟩
      rw [he, take_snoc chD hc]
  · refine DoneW.frz 0 (DoneW.out ?_)
    (repeat' (first | (with_reducible first | exact True.intro | refine vD ?_ | refine vG ?_ | refine vE ?_) |  refine vR ?_ | refine v6 ?_ | with_reducible refine vN ?_ | (with_reducible first | refine vB (fun h => ?_) (fun h => ?_) | refine vM (fun h => ?_) (fun h => ?_))))
    rw [he, List.take_of_length_le (by omega)]
end Go.Proofs.YthjjncooaahejaaGreatDoor
