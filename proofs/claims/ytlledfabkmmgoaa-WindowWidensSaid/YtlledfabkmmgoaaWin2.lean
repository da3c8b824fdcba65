/- Walks of the window functions, second part: the law's guard, the document's step. -/
import Derived.Test.YtlledfabkmmgoaaWin
namespace Go.Proofs.Ytlledfabkmmgoaa
open Go.RowKit

set_option maxRecDepth 100000 in
set_option maxHeartbeats 800000 in
theorem right_any (N f t g u : Int) (A A' : Option Addr) (n c n' c' : Nat) (l l' : List Sp) (w : World) (h : TwoAt w w.heap.size A n l) (h' : TwoAt w w.heap.size A' n' l')
   (hn : n ≤ 9223372036854775807) (hn' : n' ≤ 9223372036854775807) :
    Calls Try.prog 12 #[.agg #[.int .i64 N, .int .i64 f, .int .i64 t, .int .i64 g, .int .i64 u, .slice A n c, .slice A' n' c']] w (Rets (.bool (rightT N f t g u l l')) w) := by
  have hl := h.1
  have hl' := h'.1
  have HH := Lib.hid h; clear h
  have HH' := Lib.hid h'; clear h'
  by_cases hg : 0 ≤ N ∧ N ≤ 1073741824 ∧ n ≤ 60 ∧ n' ≤ 60 ∧ 0 ≤ t ∧ t ≤ N ∧ 0 ≤ u ∧ u ≤ 1073741824
  · obtain ⟨g1, g2, g3, g4, g5, g6, g7, g8⟩ := hg
    have ea : rightT N f t g u l l' = (fitsAll f t g u N (N - t + u) && (rightP 0 N l && rightP 0 (N - t + u) l')) := by
      unfold rightT; rw [decide_eq_true (by omega)]; rfl
    have EA := Lib.hid ea; clear ea hl hl'
    go_enter Try.func12, Try.ntmps12
    go_wp2_with (first | (go_at_call 11; refine (BFits_any _ _ _ _ _ _ _ (by omega) (by omega)).mono ?_; rintro e w1 ⟨rfl, hb⟩; obtain ⟨hc, hf⟩ := bcell hb; have hz := hb.size; (try simp at hz); skip; (try (have hz0 : w.heap.size < w1.heap.size := by omega)); (try (have hz1 : w.heap.size + 1 < w1.heap.size := by omega))) | (go_at_call 28; refine (Right_any _ _ _ _ _ _ (by first | exact HH.out.fwd (by (repeat (first | with_reducible exact Below.refl _ _ | with_reducible assumption | refine Below.drew ?_ | refine Below.alloc ?_ (by first | omega | (simp; done) | (simp; omega)) _ | refine Below.setCell ?_ (by first | omega | (simp; done) | (simp; omega)) _ | refine Below.trans ?_ (Below.mono (by assumption) (by first | omega | (simp; done) | (simp; omega)))))) | exact HH'.out.fwd (by (repeat (first | with_reducible exact Below.refl _ _ | with_reducible assumption | refine Below.drew ?_ | refine Below.alloc ?_ (by first | omega | (simp; done) | (simp; omega)) _ | refine Below.setCell ?_ (by first | omega | (simp; done) | (simp; omega)) _ | refine Below.trans ?_ (Below.mono (by assumption) (by first | omega | (simp; done) | (simp; omega))))))) (by omega)).mono ?_; rintro e w1 ⟨rfl, hb⟩; obtain ⟨hc, hf⟩ := bcell hb; have hz := hb.size; (try simp at hz); skip; (try (have hz0 : w.heap.size < w1.heap.size := by omega)); (try (have hz1 : w.heap.size + 1 < w1.heap.size := by omega))))
    all_goals
      go_ret
      refine rets_bool ?_ (by (repeat (first | with_reducible exact Below.refl _ _ | with_reducible assumption | refine Below.drew ?_ | refine Below.alloc ?_ (by first | omega | (simp; done) | (simp; omega)) _ | refine Below.setCell ?_ (by first | omega | (simp; done) | (simp; omega)) _ | refine Below.trans ?_ (Below.mono (by assumption) (by first | omega | (simp; done) | (simp; omega))))))
      rw [EA.out]; simp [*]
  · have ea : rightT N f t g u l l' = false := by
      unfold rightT; rw [decide_eq_false (by omega)]; rfl
    have EA := Lib.hid ea; clear ea hl hl'
    go_enter Try.func12, Try.ntmps12
    go_wp2_with fail
    all_goals first
      | (exfalso; omega)
      | (go_ret
         refine rets_bool EA.out.symm (by (repeat (first | with_reducible exact Below.refl _ _ | with_reducible assumption | refine Below.drew ?_ | refine Below.alloc ?_ (by first | omega | (simp; done) | (simp; omega)) _ | refine Below.setCell ?_ (by first | omega | (simp; done) | (simp; omega)) _ | refine Below.trans ?_ (Below.mono (by assumption) (by first | omega | (simp; done) | (simp; omega)))))))

set_option maxHeartbeats 800000 in
theorem once_any (f t g u : Int) (A A' : Option Addr) (n c n' c' : Nat) (l l' : List Sp) (w : World) (h : TwoAt w w.heap.size A n l) (h' : TwoAt w w.heap.size A' n' l')
    (hn : n ≤ 9223372036854775807) (hn' : n' ≤ 9223372036854775807) (hf : 0 ≤ f ∧ f ≤ 2147483648) (ht : 0 ≤ t ∧ t ≤ 2147483648) (hg : 0 ≤ g ∧ g ≤ 2147483648) (hu : 0 ≤ u ∧ u ≤ 2147483648)
    (hb : ∀ x ∈ l, 0 ≤ x.1 ∧ x.2 ≤ 2147483648) (hb' : ∀ x ∈ l', 0 ≤ x.1 ∧ x.2 ≤ 2147483648) :
    Calls Try.prog 30 #[.agg #[.int .i64 f, .int .i64 t, .int .i64 g, .int .i64 u], .slice A n c, .slice A' n' c'] w
      (Rets (.agg #[.int .i64 (f - (onceP f t g u l l').1), .int .i64 (t + (onceP f t g u l l').2), .int .i64 (g - (onceP f t g u l l').1), .int .i64 (u + (onceP f t g u l l').2)]) w) := by
  obtain ⟨f1, f2⟩ := hf
  obtain ⟨t1, t2⟩ := ht
  obtain ⟨g1, g2⟩ := hg
  obtain ⟨u1, u2⟩ := hu
  go_enter Try.func30, Try.ntmps30
  go_wp2
  go_loopw [13] (fun i wr => ∃ k : Nat, k ≤ n ∧ i = .int .i64 k ∧ onceL f t l = onceL f t (l.drop k) ∧ Below (w.heap.size + 2) ((w.alloc (.cells #[.int .i64 f, .int .i64 t, .int .i64 g, .int .i64 u] 27)).alloc (.cells #[.int .i64 0, .int .i64 0, .int .i64 0, .int .i64 0] 27)) wr) (fun i _ => n - (intOf i).toNat)
  case atStart => exact ⟨0, Nat.zero_le _, rfl, by simp, Below.refl _ _⟩
  case round =>
    obtain ⟨k, hk, rfl, hdrop, hbel⟩ := hrel
    have hD := Lib.hid hdrop; clear hdrop
    have hw : Below w.heap.size w wr := (((Below.refl _ _).alloc (Nat.le_refl _) _).alloc (by simp) _).trans (hbel.mono (by omega))
    obtain ⟨hc, hfz⟩ := bcell (W := (w.alloc (.cells #[.int .i64 f, .int .i64 t, .int .i64 g, .int .i64 u] 27)).alloc (.cells #[.int .i64 0, .int .i64 0, .int .i64 0, .int .i64 0] 27)) (by simpa using hbel)
    have hz := hbel.size
    simp at hz
    (try (have hz0 : w.heap.size < wr.heap.size := by omega)); (try (have hz1 : w.heap.size + 1 < wr.heap.size := by omega))
    by_cases hlt : k < n
    · obtain ⟨b, off, x, y, rfl, hB, hG, hx, hy⟩ := (h.below hw).at_ hlt
      obtain ⟨x0, y0⟩ := hb (x, y) (List.mem_of_getElem? hG)
      have HG := Lib.hid hG; clear hG
      rcases Bool.eq_false_or_eq_true (acrB (x, y) f) with e1 | e1
      · have xf : x < f := by simp [acrB] at e1; omega
        have eP : onceP f t g u l l' = (f - x, 0) := by unfold onceP; rw [hD.out, onceL_one HG.out e1]; rfl
        have EP := Lib.hid eP; clear eP h h'
        go_wp2_with (first | (go_at_call 41; refine (across_any _ _ _ _).mono ?_; rintro e w1 ⟨rfl, hb⟩; obtain ⟨hc, hf⟩ := bcell hb; have hz := hb.size; (try simp at hz); (try (have hzr : wr.heap.size < w1.heap.size := by omega)); (try (have hz0 : w.heap.size < w1.heap.size := by omega)); (try (have hz1 : w.heap.size + 1 < w1.heap.size := by omega))) | (go_at_call 42; refine (grown_any _ _ _ _ _ _ _ (by omega) (by omega) (by omega) (by omega) (by omega) (by omega)).mono ?_; rintro e w1 ⟨rfl, hb⟩; obtain ⟨hc, hf⟩ := bcell hb; have hz := hb.size; (try simp at hz); (try (have hzr : wr.heap.size < w1.heap.size := by omega)); (try (have hz0 : w.heap.size < w1.heap.size := by omega)); (try (have hz1 : w.heap.size + 1 < w1.heap.size := by omega))))
        refine bodyPost_ret (v := .agg #[.int .i64 (f - (f - x)), .int .i64 (t + 0), .int .i64 (g - (f - x)), .int .i64 (u + 0)]) (by simp [results, Try.results30, go_sem, *]) rfl ?_
        rw [EP.out]
        exact rets_val (by (repeat (first | with_reducible exact Below.refl _ _ | with_reducible assumption | refine Below.drew ?_ | refine Below.alloc ?_ (by first | omega | (simp; done) | (simp; omega)) _ | refine Below.setCell ?_ (by first | omega | (simp; done) | (simp; omega)) _ | refine Below.trans ?_ (Below.mono (by assumption) (by first | omega | (simp; done) | (simp; omega))))))
      · rcases Bool.eq_false_or_eq_true (acrB (x, y) t) with e2 | e2
        · have xf : t < y := by simp [acrB] at e2; omega
          have eP : onceP f t g u l l' = (0, y - t) := by unfold onceP; rw [hD.out, onceL_two HG.out e1 e2]; rfl
          have EP := Lib.hid eP; clear eP h h'
          go_wp2_with (first | (go_at_call 41; refine (across_any _ _ _ _).mono ?_; rintro e w1 ⟨rfl, hb⟩; obtain ⟨hc, hf⟩ := bcell hb; have hz := hb.size; (try simp at hz); (try (have hzr : wr.heap.size < w1.heap.size := by omega)); (try (have hz0 : w.heap.size < w1.heap.size := by omega)); (try (have hz1 : w.heap.size + 1 < w1.heap.size := by omega))) | (go_at_call 42; refine (grown_any _ _ _ _ _ _ _ (by omega) (by omega) (by omega) (by omega) (by omega) (by omega)).mono ?_; rintro e w1 ⟨rfl, hb⟩; obtain ⟨hc, hf⟩ := bcell hb; have hz := hb.size; (try simp at hz); (try (have hzr : wr.heap.size < w1.heap.size := by omega)); (try (have hz0 : w.heap.size < w1.heap.size := by omega)); (try (have hz1 : w.heap.size + 1 < w1.heap.size := by omega))))
          refine bodyPost_ret (v := .agg #[.int .i64 (f - 0), .int .i64 (t + (y - t)), .int .i64 (g - 0), .int .i64 (u + (y - t))]) (by simp [results, Try.results30, go_sem, *]) rfl ?_
          rw [EP.out]
          exact rets_val (by (repeat (first | with_reducible exact Below.refl _ _ | with_reducible assumption | refine Below.drew ?_ | refine Below.alloc ?_ (by first | omega | (simp; done) | (simp; omega)) _ | refine Below.setCell ?_ (by first | omega | (simp; done) | (simp; omega)) _ | refine Below.trans ?_ (Below.mono (by assumption) (by first | omega | (simp; done) | (simp; omega))))))
        · have hn1 := onceL_drop HG.out e1 e2
          have HN := Lib.hid hn1; clear hn1
          go_wp2_with (first | (go_at_call 41; refine (across_any _ _ _ _).mono ?_; rintro e w1 ⟨rfl, hb⟩; obtain ⟨hc, hf⟩ := bcell hb; have hz := hb.size; (try simp at hz); (try (have hzr : wr.heap.size < w1.heap.size := by omega)); (try (have hz0 : w.heap.size < w1.heap.size := by omega)); (try (have hz1 : w.heap.size + 1 < w1.heap.size := by omega))) | (go_at_call 42; refine (grown_any _ _ _ _ _ _ _ (by omega) (by omega) (by omega) (by omega) (by omega) (by omega)).mono ?_; rintro e w1 ⟨rfl, hb⟩; obtain ⟨hc, hf⟩ := bcell hb; have hz := hb.size; (try simp at hz); (try (have hzr : wr.heap.size < w1.heap.size := by omega)); (try (have hz0 : w.heap.size < w1.heap.size := by omega)); (try (have hz1 : w.heap.size + 1 < w1.heap.size := by omega))))
          go_roundw
          case rel => exact ⟨k + 1, by omega, by go_num, hD.out.trans HN.out.symm, (by (repeat (first | with_reducible exact Below.refl _ _ | with_reducible assumption | refine Below.drew ?_ | refine Below.alloc ?_ (by first | omega | (simp; done) | (simp; omega)) _ | refine Below.setCell ?_ (by first | omega | (simp; done) | (simp; omega)) _ | refine Below.trans ?_ (Below.mono (by assumption) (by first | omega | (simp; done) | (simp; omega))))))⟩
          case measure => simp [intOf]; omega
    · obtain rfl : k = n := by omega
      have HD := Lib.hid (show onceL f t l = none by rw [hD.out, List.drop_of_length_le (by have := h.1; omega)]; rfl)
      clear hD hk hlt
      obtain ⟨wo, rfl⟩ : ∃ wo : World, wo = wr := ⟨_, rfl⟩
      go_wp2
      go_loopw [46] (fun i wr => ∃ k : Nat, k ≤ n' ∧ i = .int .i64 k ∧ onceL g u l' = onceL g u (l'.drop k) ∧ Below (w.heap.size + 2) ((w.alloc (.cells #[.int .i64 f, .int .i64 t, .int .i64 g, .int .i64 u] 27)).alloc (.cells #[.int .i64 0, .int .i64 0, .int .i64 0, .int .i64 0] 27)) wr) (fun i _ => n' - (intOf i).toNat)
      case atStart => exact ⟨0, Nat.zero_le _, rfl, by simp, hbel⟩
      case round =>
        clear hbel hw hc hfz hz hz0 hz1
        obtain ⟨k, hk, rfl, hdrop, hbel⟩ := hrel
        have hD := Lib.hid hdrop; clear hdrop
        have hw : Below w.heap.size w wr := (((Below.refl _ _).alloc (Nat.le_refl _) _).alloc (by simp) _).trans (hbel.mono (by omega))
        obtain ⟨hc, hfz⟩ := bcell (W := (w.alloc (.cells #[.int .i64 f, .int .i64 t, .int .i64 g, .int .i64 u] 27)).alloc (.cells #[.int .i64 0, .int .i64 0, .int .i64 0, .int .i64 0] 27)) (by simpa using hbel)
        have hz := hbel.size
        simp at hz
        (try (have hz0 : w.heap.size < wr.heap.size := by omega)); (try (have hz1 : w.heap.size + 1 < wr.heap.size := by omega))
        by_cases hlt : k < n'
        · obtain ⟨b, off, x, y, rfl, hB, hG, hx, hy⟩ := (h'.below hw).at_ hlt
          obtain ⟨x0, y0⟩ := hb' (x, y) (List.mem_of_getElem? hG)
          have HG := Lib.hid hG; clear hG
          rcases Bool.eq_false_or_eq_true (acrB (x, y) g) with e1 | e1
          · have xf : x < g := by simp [acrB] at e1; omega
            have eP : onceP f t g u l l' = (g - x, 0) := by unfold onceP; rw [HD.out, hD.out, onceL_one HG.out e1]; rfl
            have EP := Lib.hid eP; clear eP h h'
            go_wp2_with (first | (go_at_call 41; refine (across_any _ _ _ _).mono ?_; rintro e w1 ⟨rfl, hb⟩; obtain ⟨hc, hf⟩ := bcell hb; have hz := hb.size; (try simp at hz); (try (have hzr : wr.heap.size < w1.heap.size := by omega)); (try (have hz0 : w.heap.size < w1.heap.size := by omega)); (try (have hz1 : w.heap.size + 1 < w1.heap.size := by omega))) | (go_at_call 42; refine (grown_any _ _ _ _ _ _ _ (by omega) (by omega) (by omega) (by omega) (by omega) (by omega)).mono ?_; rintro e w1 ⟨rfl, hb⟩; obtain ⟨hc, hf⟩ := bcell hb; have hz := hb.size; (try simp at hz); (try (have hzr : wr.heap.size < w1.heap.size := by omega)); (try (have hz0 : w.heap.size < w1.heap.size := by omega)); (try (have hz1 : w.heap.size + 1 < w1.heap.size := by omega))))
            refine bodyPost_ret (v := .agg #[.int .i64 (f - (g - x)), .int .i64 (t + 0), .int .i64 (g - (g - x)), .int .i64 (u + 0)]) (by simp [results, Try.results30, go_sem, *]) rfl ?_
            rw [EP.out]
            exact rets_val (by (repeat (first | with_reducible exact Below.refl _ _ | with_reducible assumption | refine Below.drew ?_ | refine Below.alloc ?_ (by first | omega | (simp; done) | (simp; omega)) _ | refine Below.setCell ?_ (by first | omega | (simp; done) | (simp; omega)) _ | refine Below.trans ?_ (Below.mono (by assumption) (by first | omega | (simp; done) | (simp; omega))))))
          · rcases Bool.eq_false_or_eq_true (acrB (x, y) u) with e2 | e2
            · have xf : u < y := by simp [acrB] at e2; omega
              have eP : onceP f t g u l l' = (0, y - u) := by unfold onceP; rw [HD.out, hD.out, onceL_two HG.out e1 e2]; rfl
              have EP := Lib.hid eP; clear eP h h'
              go_wp2_with (first | (go_at_call 41; refine (across_any _ _ _ _).mono ?_; rintro e w1 ⟨rfl, hb⟩; obtain ⟨hc, hf⟩ := bcell hb; have hz := hb.size; (try simp at hz); (try (have hzr : wr.heap.size < w1.heap.size := by omega)); (try (have hz0 : w.heap.size < w1.heap.size := by omega)); (try (have hz1 : w.heap.size + 1 < w1.heap.size := by omega))) | (go_at_call 42; refine (grown_any _ _ _ _ _ _ _ (by omega) (by omega) (by omega) (by omega) (by omega) (by omega)).mono ?_; rintro e w1 ⟨rfl, hb⟩; obtain ⟨hc, hf⟩ := bcell hb; have hz := hb.size; (try simp at hz); (try (have hzr : wr.heap.size < w1.heap.size := by omega)); (try (have hz0 : w.heap.size < w1.heap.size := by omega)); (try (have hz1 : w.heap.size + 1 < w1.heap.size := by omega))))
              refine bodyPost_ret (v := .agg #[.int .i64 (f - 0), .int .i64 (t + (y - u)), .int .i64 (g - 0), .int .i64 (u + (y - u))]) (by simp [results, Try.results30, go_sem, *]) rfl ?_
              rw [EP.out]
              exact rets_val (by (repeat (first | with_reducible exact Below.refl _ _ | with_reducible assumption | refine Below.drew ?_ | refine Below.alloc ?_ (by first | omega | (simp; done) | (simp; omega)) _ | refine Below.setCell ?_ (by first | omega | (simp; done) | (simp; omega)) _ | refine Below.trans ?_ (Below.mono (by assumption) (by first | omega | (simp; done) | (simp; omega))))))
            · have hn1 := onceL_drop HG.out e1 e2
              have HN := Lib.hid hn1; clear hn1
              go_wp2_with (first | (go_at_call 41; refine (across_any _ _ _ _).mono ?_; rintro e w1 ⟨rfl, hb⟩; obtain ⟨hc, hf⟩ := bcell hb; have hz := hb.size; (try simp at hz); (try (have hzr : wr.heap.size < w1.heap.size := by omega)); (try (have hz0 : w.heap.size < w1.heap.size := by omega)); (try (have hz1 : w.heap.size + 1 < w1.heap.size := by omega))) | (go_at_call 42; refine (grown_any _ _ _ _ _ _ _ (by omega) (by omega) (by omega) (by omega) (by omega) (by omega)).mono ?_; rintro e w1 ⟨rfl, hb⟩; obtain ⟨hc, hf⟩ := bcell hb; have hz := hb.size; (try simp at hz); (try (have hzr : wr.heap.size < w1.heap.size := by omega)); (try (have hz0 : w.heap.size < w1.heap.size := by omega)); (try (have hz1 : w.heap.size + 1 < w1.heap.size := by omega))))
              go_roundw
              case rel => exact ⟨k + 1, by omega, by go_num, hD.out.trans HN.out.symm, (by (repeat (first | with_reducible exact Below.refl _ _ | with_reducible assumption | refine Below.drew ?_ | refine Below.alloc ?_ (by first | omega | (simp; done) | (simp; omega)) _ | refine Below.setCell ?_ (by first | omega | (simp; done) | (simp; omega)) _ | refine Below.trans ?_ (Below.mono (by assumption) (by first | omega | (simp; done) | (simp; omega))))))⟩
              case measure => simp [intOf]; omega
        · obtain rfl : k = n' := by omega
          have eP : onceP f t g u l l' = (0, 0) := by unfold onceP; rw [HD.out, hD.out, List.drop_of_length_le (by have := h'.1; omega)]; rfl
          have EP := Lib.hid eP; clear eP h h'
          go_wp2
          refine bodyPost_ret (v := .agg #[.int .i64 (f - 0), .int .i64 (t + 0), .int .i64 (g - 0), .int .i64 (u + 0)]) (by simp [results, Try.results30, go_sem, *]) rfl ?_
          rw [EP.out]
          exact rets_val (by (repeat (first | with_reducible exact Below.refl _ _ | with_reducible assumption | refine Below.drew ?_ | refine Below.alloc ?_ (by first | omega | (simp; done) | (simp; omega)) _ | refine Below.setCell ?_ (by first | omega | (simp; done) | (simp; omega)) _ | refine Below.trans ?_ (Below.mono (by assumption) (by first | omega | (simp; done) | (simp; omega))))))

end Go.Proofs.Ytlledfabkmmgoaa
