/- The walk of the law WindowFits. -/
import Derived.Test.YtlledfabkmmgoaaWin5
import Derived.Test.YtlledfabkmmgoaaBase3
import Derived.Deep.RegionHeld3
namespace Go.Proofs.Ytlledfabkmmgoaa
open Go.RowKit

set_option maxHeartbeats 800000 in
theorem lawFits_any (a b c d n m : Int) (w : World) (hn : n ≤ 9223372036854775807) (hm : m ≤ 9223372036854775807) :
    Calls Try.prog 3 #[.agg #[.int .i64 a, .int .i64 b], .agg #[.int .i64 c, .int .i64 d], .agg #[.int .i64 n, .int .i64 m]] w (Rets (.bool true) w) := by
  by_cases hnm : n < 0 ∨ m < 0
  · have e1 : n < 0 ∨ (0 ≤ n ∧ m < 0) := by omega
    rcases e1 with e1 | ⟨e1, e2⟩
    · clear hnm
      go_enter Try.func3, Try.ntmps3
      go_wp2_with (go_at_call 9; refine (five_any _).mono ?_; rintro e w1 ⟨rfl, hb⟩; obtain ⟨hc, hf⟩ := bcell hb; have hz := hb.size; (try simp at hz); skip; (try (have hz0 : w.heap.size < w1.heap.size := by omega)); (try (have hz1 : w.heap.size + 1 < w1.heap.size := by omega)); (try (have hz2 : w.heap.size + 2 < w1.heap.size := by omega)))
      go_ret
      exact rets_bool rfl (by (repeat (first | with_reducible exact Below.refl _ _ | with_reducible assumption | refine Below.drew ?_ | refine Below.alloc ?_ (by first | omega | (simp; done) | (simp; omega)) _ | refine Below.setCell ?_ (by first | omega | (simp; done) | (simp; omega)) _ | refine Below.trans ?_ (Below.mono (by assumption) (by first | omega | (simp; done) | (simp; omega))))))
    · clear hnm
      go_enter Try.func3, Try.ntmps3
      go_wp2_with (go_at_call 9; refine (five_any _).mono ?_; rintro e w1 ⟨rfl, hb⟩; obtain ⟨hc, hf⟩ := bcell hb; have hz := hb.size; (try simp at hz); skip; (try (have hz0 : w.heap.size < w1.heap.size := by omega)); (try (have hz1 : w.heap.size + 1 < w1.heap.size := by omega)); (try (have hz2 : w.heap.size + 2 < w1.heap.size := by omega)))
      go_ret
      exact rets_bool rfl (by (repeat (first | with_reducible exact Below.refl _ _ | with_reducible assumption | refine Below.drew ?_ | refine Below.alloc ?_ (by first | omega | (simp; done) | (simp; omega)) _ | refine Below.setCell ?_ (by first | omega | (simp; done) | (simp; omega)) _ | refine Below.trans ?_ (Below.mono (by assumption) (by first | omega | (simp; done) | (simp; omega))))))
  · have e1 : 0 ≤ n := by omega
    have e2 : 0 ≤ m := by omega
    clear hnm
    go_enter Try.func3, Try.ntmps3
    go_wp2_with fail
    go_region_held3 (fun W => W.cell? ⟨w.heap.size, 0, none⟩ = some (.int .i64 a) ∧ W.cell? ⟨w.heap.size, 1, none⟩ = some (.int .i64 b) ∧ W.cell? ⟨w.heap.size + 1, 0, none⟩ = some (.int .i64 c) ∧ W.cell? ⟨w.heap.size + 1, 1, none⟩ = some (.int .i64 d) ∧
        W.cell? ⟨w.heap.size + 1 + 1, 0, none⟩ = some (.int .i64 n) ∧ W.cell? ⟨w.heap.size + 1 + 1, 1, none⟩ = some (.int .i64 m) ∧
        W.cell? ⟨w.heap.size + 1 + 1 + 1, 0, none⟩ = some (.int .i64 a) ∧ W.cell? ⟨w.heap.size + 1 + 1 + 1, 1, none⟩ = some (.int .i64 b) ∧ W.cell? ⟨w.heap.size + 1 + 1 + 1, 2, none⟩ = some (.int .i64 c) ∧ W.cell? ⟨w.heap.size + 1 + 1 + 1, 3, none⟩ = some (.int .i64 d) ∧
        Below w.heap.size w W)
      (first | (go_split_ands; (refine ⟨?_, ?_, ?_, ?_, ?_, ?_, ?_, ?_, ?_, ?_, ?_⟩ <;> (first | with_reducible exact keepCell hb (by assumption) | with_reducible exact Below.next (by assumption) hb))) | (refine ⟨?_, ?_, ?_, ?_, ?_, ?_, ?_, ?_, ?_, ?_, ?_⟩ <;> (first | (go_simp; done) | ((repeat (first | with_reducible assumption | with_reducible refine cellDrew ?_ | with_reducible refine cellAlloc ?_ _ | (with_reducible refine cellFar ?_ ?_; rotate_left; focus (first | omega | (simp; done) | (simp; omega))))); done) | ((repeat (first | with_reducible exact Below.refl _ _ | with_reducible assumption | with_reducible refine Below.drew ?_ | (with_reducible refine Below.alloc ?_ ?_ _; rotate_left; focus (first | omega | (simp; done) | (simp; omega))) | (with_reducible refine Below.setCell ?_ ?_ _; rotate_left; focus (first | omega | (simp; done) | (simp; omega))))); done))))
      (first
        | (go_at_call 10; refine (Fits_any _ _ _ _ _ _ _ (by omega) (by omega)).mono ?_; rintro e w1 ⟨rfl, hb⟩)
        | (go_at_call 11; refine (BFits_any _ _ _ _ _ _ _ (by omega) (by omega)).mono ?_; rintro e w1 ⟨rfl, hb⟩)
        | (go_at_call 9; refine (five_any _).mono ?_; rintro e w1 ⟨rfl, hb⟩))
    go_wp2
    go_ret
    refine rets_bool (by simp) ?_
    go_split_ands
    assumption

end Go.Proofs.Ytlledfabkmmgoaa
