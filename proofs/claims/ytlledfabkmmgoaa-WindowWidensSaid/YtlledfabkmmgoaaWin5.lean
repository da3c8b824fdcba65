/- Walks of the window functions, fifth part: the law's small case. -/
import Derived.Test.YtlledfabkmmgoaaWin3
import Derived.Test.YtlledfabkmmgoaaWin4
import Derived.Test.YtlledfabkmmgoaaBase2
namespace Go.Proofs.Ytlledfabkmmgoaa
open Go.RowKit

theorem five_least {p q : Int} (h : LeastW 3 4 3 4 6 [(1, 5)] [] p q) : p = 2 ∧ q = 1 := by
  obtain ⟨⟨h1, h2, h3, h4, low⟩, clo⟩ := h
  obtain ⟨a, b⟩ := clo.1 (1, 5) (by simp)
  have a' := acrB_not.1 a
  have b' := acrB_not.1 b
  have := low 2 1 (by omega) (by omega) (by
    constructor
    · intro x hx
      simp at hx
      subst hx
      exact ⟨acrB_not.2 (by dsimp only; omega), acrB_not.2 (by dsimp only; omega)⟩
    · intro x hx
      simp at hx)
  dsimp only at a' b'
  omega
theorem five_ws : WS 3 4 3 4 6 6 [(1, 5)] [] := by
  refine ⟨by omega, by omega, by omega, rfl, by omega, by omega, rfl, ?_, ?_⟩
  · intro x hx
    simp at hx
    subst hx
    dsimp only
    omega
  · intro x hx
    simp at hx

set_option maxHeartbeats 800000 in
theorem five_any (w : World) : Calls Try.prog 9 #[] w (Rets (.bool true) w) := by
  have F1 := Lib.hid five_ws
  have e1 : fitsAll 3 4 3 4 6 6 = true := by decide
  have e2 : fitsAll 3 4 3 4 6 7 = false := by decide
  go_enter Try.func9, Try.ntmps9
  go_wp2_with fail
  refine (Widen_any 3 4 3 4 6 6 _ _ 1 1 0 0 [(1, 5)] [] _ ?_ (TwoAt.nil _ _ _) (by omega) (by omega) (by omega) (by omega) F1).mono ?_
  · refine ⟨rfl, fun _ => ⟨_, _, rfl, ?_, ?_⟩⟩
    · simp
    · intro i x y hi
      rcases i with _ | i
      · simp at hi
        obtain ⟨rfl, rfl⟩ := hi
        constructor <;> simp
      · simp at hi
  rintro e w1 ⟨p, q, hl, rfl, hb⟩
  obtain ⟨rfl, rfl⟩ := five_least hl
  clear hl
  have hz := hb.size; (try simp at hz); have hz0 : w.heap.size < w1.heap.size := (by omega); have hz1 : w.heap.size + 1 < w1.heap.size := (by omega); obtain ⟨hc, hf⟩ := bcellK hb (N := w.heap.size + 2) (by (first | omega | (simp; done) | (simp; omega)))
  have hb1 := hb
  clear hb
  go_wp2_with fail
  refine (Fits_any 3 4 3 4 6 6 _ (by omega) (by omega)).mono ?_
  rintro e w2 ⟨rfl, hb⟩
  have hz := hb.size; (try simp at hz); have hz0 : w.heap.size < w2.heap.size := (by omega); have hz1 : w.heap.size + 1 < w2.heap.size := (by omega); obtain ⟨hc, hf⟩ := bcellK hb (N := w.heap.size + 2) (by (first | omega | (simp; done) | (simp; omega)))
  have hz := hb.size; (try simp at hz); have hz0 : w1.heap.size < w2.heap.size := (by omega); have hz1 : w1.heap.size + 1 < w2.heap.size := (by omega); obtain ⟨hc, hf⟩ := bcellK hb (N := w1.heap.size + 2) (by (first | omega | (simp; done) | (simp; omega)))
  go_wp2_with fail
  refine (Fits_any 3 4 3 4 6 7 _ (by omega) (by omega)).mono ?_
  rintro e w3 ⟨rfl, hb'⟩
  go_wp2_with fail
  go_ret
  refine rets_bool (by simp) (by (repeat (first | with_reducible exact Below.refl _ _ | with_reducible assumption | refine Below.drew ?_ | refine Below.alloc ?_ (by first | omega | (simp; done) | (simp; omega)) _ | refine Below.setCell ?_ (by first | omega | (simp; done) | (simp; omega)) _ | refine Below.trans ?_ (Below.mono (by assumption) (by first | omega | (simp; done) | (simp; omega))))))

end Go.Proofs.Ytlledfabkmmgoaa
