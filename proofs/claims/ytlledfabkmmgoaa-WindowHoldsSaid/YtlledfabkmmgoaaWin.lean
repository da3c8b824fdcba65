/- Walks of the window functions. -/
import Derived.Test.YtlledfabkmmgoaaProg
import Derived.Test.YtlledfabkmmgoaaBase
import Derived.Test.YtlledfabkmmgoaaPure27
import Derived.WalkLawsBesides
namespace Go.Proofs.Ytlledfabkmmgoaa
open Go.RowKit

set_option maxHeartbeats 400000 in
theorem fits_any (a b n : Int) (w : World) :
    Calls Try.prog 27 #[.agg #[.int .i64 a, .int .i64 b], .int .i64 n] w (Rets (.bool (fitsB a b n)) w) := by
  go_enter Try.func27, Try.ntmps27
  go_wp2
  all_goals
    go_ret
    refine rets_bool ?_ ((Below.refl _ _).alloc (Nat.le_refl _) _)
    rw [Bool.eq_iff_iff]; simp [fitsB]; try omega

set_option maxHeartbeats 400000 in
theorem reach_any (f t : Int) (A : Option Addr) (n c : Nat) (l : List Sp) (w : World) (h : TwoAt w w.heap.size A n l) (hn : n ≤ 9223372036854775807)
   (hf : 0 ≤ f) (hft : f ≤ t) (ht : t ≤ 4611686018427387904) (hl : ∀ x ∈ l, 0 ≤ x.1 ∧ x.2 ≤ 4611686018427387904) :
    Calls Try.prog 29 #[.agg #[.int .i64 f, .int .i64 t], .slice A n c] w
      (Rets (.tuple #[.int .i64 (reachP f t l).1, .int .i64 (reachP f t l).2]) w) := by
  go_enter Try.func29, Try.ntmps29
  go_wp2
  go_loopw [12] (fun i wr => ∃ k : Nat, k ≤ n ∧ i = .int .i64 k ∧ reachP f t (l.drop k) = reachP f t l ∧ Below (w.heap.size + 1) (w.alloc (.cells #[.int .i64 f, .int .i64 t] 23)) wr) (fun i _ => n - (intOf i).toNat)
  case atStart => exact ⟨0, Nat.zero_le _, rfl, by simp, Below.refl _ _⟩
  case round =>
    obtain ⟨k, hk, rfl, hdrop, hbel⟩ := hrel
    have hD := Lib.hid hdrop; clear hdrop
    have c0 : wr.cell? ⟨w.heap.size, 0, none⟩ = some (.int .i64 f) := (hbel.cell (p := ⟨w.heap.size, 0, none⟩) (by simp)).trans (by simp)
    have c1 : wr.cell? ⟨w.heap.size, 1, none⟩ = some (.int .i64 t) := (hbel.cell (p := ⟨w.heap.size, 1, none⟩) (by simp)).trans (by simp)
    have hw : Below w.heap.size w wr := ((Below.refl _ _).alloc (Nat.le_refl _) _).trans (hbel.mono (by omega))
    have hsz : w.heap.size < wr.heap.size := by have := hbel.size; simp at this; omega
    by_cases hlt : k < n
    · obtain ⟨b, off, x, y, rfl, hB, hg, hx, hy⟩ := (h.below hw).at_ hlt
      have hlx := hl (x, y) (List.mem_of_getElem? hg)
      have hG := Lib.hid hg
      clear hg
      go_wp2
      all_goals first
        | (go_ret2
           have e := reachP_hit (f := f) (t := t) hG.out (by omega)
           rw [hD.out] at e
           refine rets_int2 ?_ ?_ (hw.alloc (by omega) _)
           · rw [e]; dsimp only; split <;> omega
           · rw [e]; dsimp only; split <;> omega)
        | (go_roundw
           case rel => exact ⟨k + 1, by omega, by go_num, (reachP_drop hG.out (by omega) (by omega)).trans hD.out, hbel.alloc (by omega) _⟩
           case measure => simp [intOf]; omega)
    · go_wp2
      go_ret2
      obtain rfl : k = n := by omega
      have e : reachP f t (l.drop k) = (0, 0) := by rw [List.drop_of_length_le (by have := h.1; omega)]; rfl
      rw [hD.out] at e
      refine rets_int2 (by rw [e]) (by rw [e]) hw

set_option maxHeartbeats 400000 in
theorem Fits_any (a b c d n m : Int) (w : World) (hn : n ≤ 9223372036854775807) (hm : m ≤ 9223372036854775807) :
    Calls Try.prog 10 #[.agg #[.int .i64 a, .int .i64 b], .agg #[.int .i64 c, .int .i64 d], .int .i64 n, .int .i64 m] w (Rets (.bool (fitsAll a b c d n m)) w) := by
  by_cases h1 : 0 ≤ a ∧ a ≤ b ∧ b ≤ n
  · have e1 : fitsB a b n = true := by simp [fitsB, h1]
    by_cases h2 : 0 ≤ c ∧ c ≤ d ∧ d ≤ m
    · have e2 : fitsB c d m = true := by simp [fitsB, h2]
      obtain ⟨p1, p2, p3⟩ := h1
      obtain ⟨q1, q2, q3⟩ := h2
      go_enter Try.func10, Try.ntmps10
      go_wp2_with (go_at_call 27; refine (fits_any _ _ _ _).mono ?_; rintro e w1 ⟨rfl, hb⟩; obtain ⟨hc, hf⟩ := bcell hb; have hz := hb.size; (try simp at hz); skip; (try (have hz0 : w.heap.size < w1.heap.size := by omega)); (try (have hz1 : w.heap.size + 1 < w1.heap.size := by omega)))
      all_goals
        go_ret
        refine rets_bool ?_ (by (repeat (first | with_reducible exact Below.refl _ _ | with_reducible assumption | refine Below.drew ?_ | refine Below.alloc ?_ (by first | omega | (simp; done) | (simp; omega)) _ | refine Below.setCell ?_ (by first | omega | (simp; done) | (simp; omega)) _ | refine Below.trans ?_ (Below.mono (by assumption) (by first | omega | (simp; done) | (simp; omega))))))
        (rw [Bool.eq_iff_iff]; simp [fitsAll, e1, e2]; try omega)
    · have e2 : fitsB c d m = false := by simp [fitsB]; omega
      go_enter Try.func10, Try.ntmps10
      go_wp2_with (go_at_call 27; refine (fits_any _ _ _ _).mono ?_; rintro e w1 ⟨rfl, hb⟩; obtain ⟨hc, hf⟩ := bcell hb; have hz := hb.size; (try simp at hz); skip; (try (have hz0 : w.heap.size < w1.heap.size := by omega)); (try (have hz1 : w.heap.size + 1 < w1.heap.size := by omega)))
      all_goals
        go_ret
        refine rets_bool ?_ (by (repeat (first | with_reducible exact Below.refl _ _ | with_reducible assumption | refine Below.drew ?_ | refine Below.alloc ?_ (by first | omega | (simp; done) | (simp; omega)) _ | refine Below.setCell ?_ (by first | omega | (simp; done) | (simp; omega)) _ | refine Below.trans ?_ (Below.mono (by assumption) (by first | omega | (simp; done) | (simp; omega))))))
        simp [fitsAll, e1, e2]
  · have e1 : fitsB a b n = false := by simp [fitsB]; omega
    go_enter Try.func10, Try.ntmps10
    go_wp2_with (go_at_call 27; refine (fits_any _ _ _ _).mono ?_; rintro e w1 ⟨rfl, hb⟩; obtain ⟨hc, hf⟩ := bcell hb; have hz := hb.size; (try simp at hz); skip; (try (have hz0 : w.heap.size < w1.heap.size := by omega)); (try (have hz1 : w.heap.size + 1 < w1.heap.size := by omega)))
    all_goals
      go_ret
      refine rets_bool ?_ (by (repeat (first | with_reducible exact Below.refl _ _ | with_reducible assumption | refine Below.drew ?_ | refine Below.alloc ?_ (by first | omega | (simp; done) | (simp; omega)) _ | refine Below.setCell ?_ (by first | omega | (simp; done) | (simp; omega)) _ | refine Below.trans ?_ (Below.mono (by assumption) (by first | omega | (simp; done) | (simp; omega))))))
      simp [fitsAll, e1]

set_option maxHeartbeats 400000 in
theorem BFits_any (a b c d n m : Int) (w : World) (hn : n ≤ 9223372036854775807) (hm : m ≤ 9223372036854775807) :
    Calls Try.prog 11 #[.agg #[.int .i64 a, .int .i64 b, .int .i64 c, .int .i64 d], .int .i64 n, .int .i64 m] w (Rets (.bool (fitsAll a b c d n m)) w) := by
  go_enter Try.func11, Try.ntmps11
  go_wp2
  all_goals
    go_ret
    refine rets_bool ?_ (by (repeat (first | with_reducible exact Below.refl _ _ | with_reducible assumption | refine Below.drew ?_ | refine Below.alloc ?_ (by first | omega | (simp; done) | (simp; omega)) _ | refine Below.setCell ?_ (by first | omega | (simp; done) | (simp; omega)) _ | refine Below.trans ?_ (Below.mono (by assumption) (by first | omega | (simp; done) | (simp; omega))))))
    rw [Bool.eq_iff_iff, fitsAll_iff]; simp; try omega

set_option maxHeartbeats 400000 in
theorem Right_any (m : Int) (A : Option Addr) (n c : Nat) (l : List Sp) (w : World) (h : TwoAt w w.heap.size A n l) (hn : n ≤ 9223372036854775807) :
    Calls Try.prog 28 #[.int .i64 m, .slice A n c] w (Rets (.bool (rightP 0 m l)) w) := by
  go_enter Try.func28, Try.ntmps28
  go_wp2
  go_loopw [5, 10] (fun v i wr => ∃ (k : Nat) (last : Int), k ≤ n ∧ v = .int .i64 last ∧ i = .int .i64 k ∧ rightP 0 m l = rightP last m (l.drop k) ∧ Below w.heap.size w wr) (fun _ i _ => n - (intOf i).toNat)
  case atStart => exact ⟨0, 0, Nat.zero_le _, rfl, rfl, by simp, Below.refl _ _⟩
  case round =>
    obtain ⟨k, last, hk, rfl, rfl, hdrop, hw⟩ := hrel
    have hD := Lib.hid hdrop; clear hdrop
    have hsz := hw.size
    by_cases hlt : k < n
    · obtain ⟨b, off, x, y, rfl, hB, hg, hx, hy⟩ := (h.below hw).at_ hlt
      have hG := Lib.hid hg
      clear hg
      go_wp2
      all_goals first
        | (go_ret
           refine rets_bool ?_ (hw.alloc hsz _)
           rw [hD.out, rightP_drop hG.out, Bool.eq_iff_iff]; simp; omega)
        | (go_roundw
           case rel => exact ⟨k + 1, y, by omega, rfl, by go_num, by rw [hD.out, rightP_drop hG.out, decide_eq_true (by omega)]; simp, hw.alloc hsz _⟩
           case measure => simp [intOf]; omega)
    · go_wp2
      go_ret
      obtain rfl : k = n := by omega
      refine rets_bool ?_ hw
      rw [hD.out, List.drop_of_length_le (by have := h.1; omega)]; rfl

set_option maxHeartbeats 400000 in
theorem Across_any (m : Int) (A : Option Addr) (n c : Nat) (l : List Sp) (w : World) (h : TwoAt w w.heap.size A n l) (hn : n ≤ 9223372036854775807) :
    Calls Try.prog 15 #[.slice A n c, .int .i64 m] w (Rets (.bool (acrossP l m)) w) := by
  go_enter Try.func15, Try.ntmps15
  go_wp2
  go_loopw [9] (fun i wr => ∃ (k : Nat), k ≤ n ∧ i = .int .i64 k ∧ acrossP l m = acrossP (l.drop k) m ∧ Below w.heap.size w wr) (fun i _ => n - (intOf i).toNat)
  case atStart => exact ⟨0, Nat.zero_le _, rfl, by simp, Below.refl _ _⟩
  case round =>
    obtain ⟨k, hk, rfl, hdrop, hw⟩ := hrel
    have hD := Lib.hid hdrop; clear hdrop
    have hsz := hw.size
    by_cases hlt : k < n
    · obtain ⟨b, off, x, y, rfl, hB, hg, hx, hy⟩ := (h.below hw).at_ hlt
      have hG := Lib.hid hg
      clear hg
      go_wp2
      all_goals first
        | (go_ret
           refine rets_bool ?_ (hw.alloc hsz _)
           rw [hD.out, acrossP_drop hG.out, decide_eq_true (by omega)]; simp)
        | (go_roundw
           case rel => exact ⟨k + 1, by omega, by go_num, by rw [hD.out, acrossP_drop hG.out, decide_eq_false (by omega)]; simp, hw.alloc hsz _⟩
           case measure => simp [intOf]; omega)
    · go_wp2
      go_ret
      obtain rfl : k = n := by omega
      refine rets_bool ?_ hw
      rw [hD.out, List.drop_of_length_le (by have := h.1; omega)]; rfl

set_option maxHeartbeats 400000 in
theorem across_any (x y m : Int) (w : World) :
    Calls Try.prog 41 #[.agg #[.int .i64 x, .int .i64 y], .int .i64 m] w (Rets (.bool (acrB (x, y) m)) w) := by
  go_enter Try.func41, Try.ntmps41
  go_wp2
  all_goals
    go_ret
    refine rets_bool ?_ (by (repeat (first | with_reducible exact Below.refl _ _ | with_reducible assumption | refine Below.drew ?_ | refine Below.alloc ?_ (by first | omega | (simp; done) | (simp; omega)) _ | refine Below.setCell ?_ (by first | omega | (simp; done) | (simp; omega)) _ | refine Below.trans ?_ (Below.mono (by assumption) (by first | omega | (simp; done) | (simp; omega))))))
    (rw [Bool.eq_iff_iff]; simp [acrB]; try omega)

set_option maxHeartbeats 400000 in
theorem grown_any (f t g u p q : Int) (w : World) (hf : 0 ≤ f ∧ f ≤ 4611686018427387904) (ht : 0 ≤ t ∧ t ≤ 4611686018427387904) (hg : 0 ≤ g ∧ g ≤ 4611686018427387904) (hu : 0 ≤ u ∧ u ≤ 4611686018427387904)
   (hp : 0 ≤ p ∧ p ≤ 4611686018427387904) (hq : 0 ≤ q ∧ q ≤ 4611686018427387903) :
    Calls Try.prog 42 #[.agg #[.int .i64 f, .int .i64 t, .int .i64 g, .int .i64 u], .int .i64 p, .int .i64 q] w
      (Rets (.agg #[.int .i64 (f - p), .int .i64 (t + q), .int .i64 (g - p), .int .i64 (u + q)]) w) := by
  obtain ⟨f1, f2⟩ := hf
  obtain ⟨t1, t2⟩ := ht
  obtain ⟨g1, g2⟩ := hg
  obtain ⟨u1, u2⟩ := hu
  obtain ⟨p1, p2⟩ := hp
  obtain ⟨q1, q2⟩ := hq
  go_enter Try.func42, Try.ntmps42
  go_wp2
  refine bodyPost_ret (v := .agg #[.int .i64 (f - p), .int .i64 (t + q), .int .i64 (g - p), .int .i64 (u + q)]) (by simp [results, Try.results42, go_sem]) rfl (rets_val (by (repeat (first | with_reducible exact Below.refl _ _ | with_reducible assumption | refine Below.drew ?_ | refine Below.alloc ?_ (by first | omega | (simp; done) | (simp; omega)) _ | refine Below.setCell ?_ (by first | omega | (simp; done) | (simp; omega)) _ | refine Below.trans ?_ (Below.mono (by assumption) (by first | omega | (simp; done) | (simp; omega)))))))

end Go.Proofs.Ytlledfabkmmgoaa
