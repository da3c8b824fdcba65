/- The walk of the law WindowWidens. -/
import Derived.Test.YtlledfabkmmgoaaWin6
namespace Go.Proofs.Ytlledfabkmmgoaa
open Go.RowKit

theorem rightT_ws {N f t g u : Int} {l l' : List Sp} (h : rightT N f t g u l l' = true) :
    WS f t g u N (N - t + u) l l' ∧ l.length ≤ 60 ∧ l'.length ≤ 60 ∧ N ≤ 1073741824 ∧ u ≤ 1073741824 := by
  simp only [rightT, Bool.and_eq_true, decide_eq_true_eq] at h
  obtain ⟨h1, h2, h3, h4⟩ := h
  have h2 := fitsAll_iff.1 h2
  refine ⟨⟨by omega, by omega, by omega, by omega, by omega, by omega, by omega, ?_, ?_⟩, by omega, by omega, by omega, by omega⟩
  · intro x hx
    have := rightP_mem h3 x hx
    omega
  · intro x hx
    have := rightP_mem h4 x hx
    omega

set_option maxRecDepth 100000 in
set_option maxHeartbeats 1600000 in
theorem lawWidens_any (N f t g u : Int) (A A' : Option Addr) (n c n' c' : Nat) (l l' : List Sp) (w : World) (h : TwoAt w w.heap.size A n l) (h' : TwoAt w w.heap.size A' n' l')
    (hn : n ≤ 9223372036854775807) (hn' : n' ≤ 9223372036854775807) :
    Calls Try.prog 4 #[.agg #[.int .i64 N, .int .i64 f, .int .i64 t, .int .i64 g, .int .i64 u, .slice A n c, .slice A' n' c']] w (Rets (.bool true) w) := by
  have HH := Lib.hid h
  have HH' := Lib.hid h'
  rcases Bool.eq_false_or_eq_true (rightT N f t g u l l') with er | er
  · obtain ⟨ws, l1, l2, hN, hu⟩ := rightT_ws er
    have en : n ≤ 60 := by have := h.1; omega
    have en' : n' ≤ 60 := by have := h'.1; omega
    have e0 : 0 ≤ t := by have := ws.f0; have := ws.ft; omega
    have eK : iterP f t g u l l' (2 * n + 2 * n' + 1) = iterP f t g u l l' (2 * l.length + 2 * l'.length + 1) := by rw [h.1, h'.1]
    have EK := Lib.hid eK
    have WSS := Lib.hid ws
    clear h h' l1 l2 ws eK
    go_enter Try.func4, Try.ntmps4
    go_wp2_with fail
    refine (right_any N f t g u A A' n c n' c' l l' _ (HH.out.fwd (by (repeat (first | with_reducible exact Below.refl _ _ | with_reducible assumption | refine Below.drew ?_ | refine Below.alloc ?_ (by first | omega | (simp; done) | (simp; omega)) _ | refine Below.setCell ?_ (by first | omega | (simp; done) | (simp; omega)) _ | refine Below.trans ?_ (Below.mono (by assumption) (by first | omega | (simp; done) | (simp; omega))))))) (HH'.out.fwd (by (repeat (first | with_reducible exact Below.refl _ _ | with_reducible assumption | refine Below.drew ?_ | refine Below.alloc ?_ (by first | omega | (simp; done) | (simp; omega)) _ | refine Below.setCell ?_ (by first | omega | (simp; done) | (simp; omega)) _ | refine Below.trans ?_ (Below.mono (by assumption) (by first | omega | (simp; done) | (simp; omega))))))) (by omega) (by omega)).mono ?_
    rintro e w1 ⟨rfl, hb⟩
    have hz := hb.size; (try simp at hz); have hz0 : w.heap.size < w1.heap.size := (by omega); obtain ⟨hc, hf⟩ := bcellK hb (N := w.heap.size + 1) (by (first | omega | (simp; done) | (simp; omega)))
    have hw1 : Below w.heap.size w w1 := (by (repeat (first | with_reducible exact Below.refl _ _ | with_reducible assumption | refine Below.drew ?_ | refine Below.alloc ?_ (by first | omega | (simp; done) | (simp; omega)) _ | refine Below.setCell ?_ (by first | omega | (simp; done) | (simp; omega)) _ | refine Below.trans ?_ (Below.mono (by assumption) (by first | omega | (simp; done) | (simp; omega))))))
    go_wp2_with fail
    refine (Widen_any f t g u N (N - t + u) A A' n c n' c' l l' _ (HH.out.fwd (by (repeat (first | with_reducible exact Below.refl _ _ | with_reducible assumption | refine Below.drew ?_ | refine Below.alloc ?_ (by first | omega | (simp; done) | (simp; omega)) _ | refine Below.setCell ?_ (by first | omega | (simp; done) | (simp; omega)) _ | refine Below.trans ?_ (Below.mono (by assumption) (by first | omega | (simp; done) | (simp; omega))))))) (HH'.out.fwd (by (repeat (first | with_reducible exact Below.refl _ _ | with_reducible assumption | refine Below.drew ?_ | refine Below.alloc ?_ (by first | omega | (simp; done) | (simp; omega)) _ | refine Below.setCell ?_ (by first | omega | (simp; done) | (simp; omega)) _ | refine Below.trans ?_ (Below.mono (by assumption) (by first | omega | (simp; done) | (simp; omega))))))) (by omega) (by omega) (by omega) (by omega) WSS).mono ?_
    rintro e w2 ⟨p, q, hl, rfl, hb⟩
    have hle := iterP_least WSS.out (k := 2 * l.length + 2 * l'.length + 1) (by omega)
    have hpq := hl.uniq hle
    have ep : (iterP f t g u l l' (2 * n + 2 * n' + 1)).1 = p := by rw [EK.out]; exact hpq.1.symm
    have eq : (iterP f t g u l l' (2 * n + 2 * n' + 1)).2 = q := by rw [EK.out]; exact hpq.2.symm
    have EP := Lib.hid ep
    have EQ := Lib.hid eq
    clear hle hpq ep eq hl
    have hz := hb.size; (try simp at hz); have hz0 : w.heap.size < w2.heap.size := (by omega); obtain ⟨hc, hf⟩ := bcellK hb (N := w.heap.size + 1) (by (first | omega | (simp; done) | (simp; omega)))
    have hw2 : Below w.heap.size w w2 := (by (repeat (first | with_reducible exact Below.refl _ _ | with_reducible assumption | refine Below.drew ?_ | refine Below.alloc ?_ (by first | omega | (simp; done) | (simp; omega)) _ | refine Below.setCell ?_ (by first | omega | (simp; done) | (simp; omega)) _ | refine Below.trans ?_ (Below.mono (by assumption) (by first | omega | (simp; done) | (simp; omega))))))
    have t5 : w2.cell? ⟨w.heap.size, 5, none⟩ = some (.slice A n c) := by go_simp
    have t6 : w2.cell? ⟨w.heap.size, 6, none⟩ = some (.slice A' n' c') := by go_simp
    go_wp2_with fail
    go_region_held3 (fun W => W.cell? ⟨w.heap.size, 5, none⟩ = some (.slice A n c) ∧ W.cell? ⟨w.heap.size, 6, none⟩ = some (.slice A' n' c') ∧
        W.cell? ⟨w2.heap.size, 0, none⟩ = some (.int .i64 (f - p)) ∧ W.cell? ⟨w2.heap.size, 1, none⟩ = some (.int .i64 (t + q)) ∧ W.cell? ⟨w2.heap.size + 1, 0, none⟩ = some (.int .i64 (g - p)) ∧ W.cell? ⟨w2.heap.size + 1, 1, none⟩ = some (.int .i64 (u + q)) ∧
        W.cell? ⟨w2.heap.size + 1 + 1, 0, none⟩ = some (.int .i64 f) ∧ W.cell? ⟨w2.heap.size + 1 + 1, 1, none⟩ = some (.int .i64 t) ∧ W.cell? ⟨w2.heap.size + 1 + 1, 2, none⟩ = some (.int .i64 g) ∧ W.cell? ⟨w2.heap.size + 1 + 1, 3, none⟩ = some (.int .i64 u) ∧
        Below w.heap.size w W)
      (first | (go_split_ands; (refine ⟨?_, ?_, ?_, ?_, ?_, ?_, ?_, ?_, ?_, ?_, ?_⟩ <;> (first | with_reducible exact keepCell hb (by assumption) | with_reducible exact Below.next (by assumption) hb))) | (refine ⟨?_, ?_, ?_, ?_, ?_, ?_, ?_, ?_, ?_, ?_, ?_⟩ <;> (first | (go_simp; done) | ((repeat (first | with_reducible assumption | with_reducible refine cellDrew ?_ | with_reducible refine cellAlloc ?_ _ | (with_reducible refine cellFar ?_ ?_; rotate_left; focus (first | omega | (simp; done) | (simp; omega))))); done) | ((repeat (first | with_reducible exact Below.refl _ _ | with_reducible assumption | with_reducible refine Below.drew ?_ | (with_reducible refine Below.alloc ?_ ?_ _; rotate_left; focus (first | omega | (simp; done) | (simp; omega))) | (with_reducible refine Below.setCell ?_ ?_ _; rotate_left; focus (first | omega | (simp; done) | (simp; omega))))); done))))
      (first
        | (go_at_call 14; go_split_ands; refine (BWiden_any f t g u N (N - t + u) A A' n c n' c' l l' _ (HH.out.fwd (by assumption)) (HH'.out.fwd (by assumption)) (by omega) (by omega) (by omega) (by omega) WSS).mono ?_; rw [EP.out, EQ.out]; rintro e w3 ⟨rfl, hb⟩)
        | (go_at_call 9; refine (five_any _).mono ?_; rintro e w3 ⟨rfl, hb⟩))
    go_wp2
    go_ret
    refine rets_bool (by simp) ?_
    go_split_ands
    assumption
  · clear h h'
    go_enter Try.func4, Try.ntmps4
    go_wp2_with fail
    refine (right_any N f t g u A A' n c n' c' l l' _ (HH.out.fwd (by (repeat (first | with_reducible exact Below.refl _ _ | with_reducible assumption | refine Below.drew ?_ | refine Below.alloc ?_ (by first | omega | (simp; done) | (simp; omega)) _ | refine Below.setCell ?_ (by first | omega | (simp; done) | (simp; omega)) _ | refine Below.trans ?_ (Below.mono (by assumption) (by first | omega | (simp; done) | (simp; omega))))))) (HH'.out.fwd (by (repeat (first | with_reducible exact Below.refl _ _ | with_reducible assumption | refine Below.drew ?_ | refine Below.alloc ?_ (by first | omega | (simp; done) | (simp; omega)) _ | refine Below.setCell ?_ (by first | omega | (simp; done) | (simp; omega)) _ | refine Below.trans ?_ (Below.mono (by assumption) (by first | omega | (simp; done) | (simp; omega))))))) (by omega) (by omega)).mono ?_
    rintro e w1 ⟨rfl, hb⟩
    have hw1 : Below w.heap.size w w1 := (by (repeat (first | with_reducible exact Below.refl _ _ | with_reducible assumption | refine Below.drew ?_ | refine Below.alloc ?_ (by first | omega | (simp; done) | (simp; omega)) _ | refine Below.setCell ?_ (by first | omega | (simp; done) | (simp; omega)) _ | refine Below.trans ?_ (Below.mono (by assumption) (by first | omega | (simp; done) | (simp; omega))))))
    go_wp2_with (go_at_call 9; refine (five_any _).mono ?_; rintro e w2 ⟨rfl, hb⟩)
    go_ret
    exact rets_bool rfl (Below.next hw1 hb)

end Go.Proofs.Ytlledfabkmmgoaa
