/- The walk of the law WindowHolds. -/
import Derived.Test.YtlledfabkmmgoaaWin7
namespace Go.Proofs.Ytlledfabkmmgoaa
open Go.RowKit

theorem acrossP_false {l : List Sp} {a : Int} (h : ∀ x ∈ l, acrB x a = false) : acrossP l a = false := by
  unfold acrossP
  rw [List.any_eq_false]
  intro x hx
  have := acrB_not.1 (h x hx)
  simpa using this

set_option maxRecDepth 100000 in
set_option maxHeartbeats 1600000 in
theorem lawHolds_any (N f t g u : Int) (A A' : Option Addr) (n c n' c' : Nat) (l l' : List Sp) (w : World) (h : TwoAt w w.heap.size A n l) (h' : TwoAt w w.heap.size A' n' l')
    (hn : n ≤ 9223372036854775807) (hn' : n' ≤ 9223372036854775807) :
    Calls Try.prog 5 #[.agg #[.int .i64 N, .int .i64 f, .int .i64 t, .int .i64 g, .int .i64 u, .slice A n c, .slice A' n' c']] w (Rets (.bool true) w) := by
  have HH := Lib.hid h
  have HH' := Lib.hid h'
  rcases Bool.eq_false_or_eq_true (rightT N f t g u l l') with er | er
  · obtain ⟨ws, l1, l2, hN, hu⟩ := rightT_ws er
    have en : n ≤ 60 := by have := h.1; omega
    have en' : n' ≤ 60 := by have := h'.1; omega
    have f0 := ws.f0
    have f1 := ws.ft
    have f2 := ws.tN
    have f3 := ws.gu
    have f4 := ws.um
    have f5 : g ≤ f := by have := ws.gf; omega
    have f6 : f ≤ g := by have := ws.gf; omega
    have WSS := Lib.hid ws
    clear h h' l1 l2 ws
    go_enter Try.func5, Try.ntmps5
    go_wp2_with fail
    refine (right_any N f t g u A A' n c n' c' l l' _ (HH.out.fwd (by (repeat (first | with_reducible exact Below.refl _ _ | with_reducible assumption | refine Below.drew ?_ | refine Below.alloc ?_ (by first | omega | (simp; done) | (simp; omega)) _ | refine Below.setCell ?_ (by first | omega | (simp; done) | (simp; omega)) _ | refine Below.trans ?_ (Below.mono (by assumption) (by first | omega | (simp; done) | (simp; omega))))))) (HH'.out.fwd (by (repeat (first | with_reducible exact Below.refl _ _ | with_reducible assumption | refine Below.drew ?_ | refine Below.alloc ?_ (by first | omega | (simp; done) | (simp; omega)) _ | refine Below.setCell ?_ (by first | omega | (simp; done) | (simp; omega)) _ | refine Below.trans ?_ (Below.mono (by assumption) (by first | omega | (simp; done) | (simp; omega))))))) (by omega) (by omega)).mono ?_
    rintro e w1 ⟨rfl, hb⟩
    have hz := hb.size; (try simp at hz); have hz0 : w.heap.size < w1.heap.size := (by omega); obtain ⟨hc, hf⟩ := bcellK hb (N := w.heap.size + 1) (by (first | omega | (simp; done) | (simp; omega)))
    have hw1 : Below w.heap.size w w1 := (by (repeat (first | with_reducible exact Below.refl _ _ | with_reducible assumption | refine Below.drew ?_ | refine Below.alloc ?_ (by first | omega | (simp; done) | (simp; omega)) _ | refine Below.setCell ?_ (by first | omega | (simp; done) | (simp; omega)) _ | refine Below.trans ?_ (Below.mono (by assumption) (by first | omega | (simp; done) | (simp; omega))))))
    go_wp2_with fail
    refine (Widen_any f t g u N (N - t + u) A A' n c n' c' l l' _ (HH.out.fwd (by (repeat (first | with_reducible exact Below.refl _ _ | with_reducible assumption | refine Below.drew ?_ | refine Below.alloc ?_ (by first | omega | (simp; done) | (simp; omega)) _ | refine Below.setCell ?_ (by first | omega | (simp; done) | (simp; omega)) _ | refine Below.trans ?_ (Below.mono (by assumption) (by first | omega | (simp; done) | (simp; omega))))))) (HH'.out.fwd (by (repeat (first | with_reducible exact Below.refl _ _ | with_reducible assumption | refine Below.drew ?_ | refine Below.alloc ?_ (by first | omega | (simp; done) | (simp; omega)) _ | refine Below.setCell ?_ (by first | omega | (simp; done) | (simp; omega)) _ | refine Below.trans ?_ (Below.mono (by assumption) (by first | omega | (simp; done) | (simp; omega))))))) (by omega) (by omega) (by omega) (by omega) WSS).mono ?_
    rintro e w2 ⟨p, q, hl, rfl, hb⟩
    have i1 := hl.inv.p0
    have i2 := hl.inv.pf
    have i3 := hl.inv.q0
    have i4 := hl.inv.qN
    have a1 : acrossP l (f - p) = false := acrossP_false fun x hx => (hl.clo.1 x hx).1
    have a2 : acrossP l (t + q) = false := acrossP_false fun x hx => (hl.clo.1 x hx).2
    have a3 : acrossP l' (g - p) = false := acrossP_false fun x hx => (hl.clo.2 x hx).1
    have a4 : acrossP l' (u + q) = false := acrossP_false fun x hx => (hl.clo.2 x hx).2
    have ef : fitsAll (f - p) (t + q) (g - p) (u + q) N (N - t + u) = true := fitsAll_iff.2 (by have := WSS.out.gf; omega)
    have eb : (t + q - t != u + q - u) = false := by rw [bne_eq_false_iff_eq]; omega
    have HL := Lib.hid hl
    clear hl
    have hz := hb.size; (try simp at hz); have hz0 : w.heap.size < w2.heap.size := (by omega); obtain ⟨hc, hf⟩ := bcellK hb (N := w.heap.size + 1) (by (first | omega | (simp; done) | (simp; omega)))
    have hw2 : Below w.heap.size w w2 := (by (repeat (first | with_reducible exact Below.refl _ _ | with_reducible assumption | refine Below.drew ?_ | refine Below.alloc ?_ (by first | omega | (simp; done) | (simp; omega)) _ | refine Below.setCell ?_ (by first | omega | (simp; done) | (simp; omega)) _ | refine Below.trans ?_ (Below.mono (by assumption) (by first | omega | (simp; done) | (simp; omega))))))
    go_wp2_with fail
    refine (Fits_any (f - p) (t + q) (g - p) (u + q) N (N - t + u) _ (by omega) (by omega)).mono ?_
    rintro e w3 ⟨rfl, hb⟩
    have q1 : w.heap.size < w2.heap.size + 1 := by omega
    have q2 : w.heap.size < w2.heap.size + 1 + 1 := by omega
    have hz := hb.size; (try simp at hz); have hz0 : w.heap.size < w3.heap.size := (by omega); obtain ⟨hc, hf⟩ := bcellK hb (N := w.heap.size + 1) (by (first | omega | (simp; done) | (simp; omega)))
    have hz := hb.size; (try simp at hz); have hz0 : w2.heap.size < w3.heap.size := (by omega); have hz1 : w2.heap.size + 1 < w3.heap.size := (by omega); obtain ⟨hc, hf⟩ := bcellK hb (N := w2.heap.size + 2) (by (first | omega | (simp; done) | (simp; omega)))
    have hw3 : Below w.heap.size w w3 := ((by (repeat (first | with_reducible exact Below.refl _ _ | with_reducible assumption | refine Below.drew ?_ | refine Below.alloc ?_ (by first | omega | (simp; done) | (simp; omega)) _ | refine Below.setCell ?_ (by first | omega | (simp; done) | (simp; omega)) _ | refine Below.trans ?_ (Below.mono (by assumption) (by first | omega | (simp; done) | (simp; omega)))))) : Below w.heap.size w _).trans (hb.mono (by (first | omega | (simp; done) | (simp; omega))))
    go_wp2_with fail
    refine (Across_any (f - p) A n c l _ (HH.out.fwd hw3) (by omega)).mono ?_
    rintro e w4 ⟨rfl, hb⟩
    have hz := hb.size; (try simp at hz); have hz0 : w.heap.size < w4.heap.size := (by omega); obtain ⟨hc, hf⟩ := bcellK hb (N := w.heap.size + 1) (by (first | omega | (simp; done) | (simp; omega)))
    have hz := hb.size; (try simp at hz); have hz0 : w2.heap.size < w4.heap.size := (by omega); have hz1 : w2.heap.size + 1 < w4.heap.size := (by omega); obtain ⟨hc, hf⟩ := bcellK hb (N := w2.heap.size + 2) (by (first | omega | (simp; done) | (simp; omega)))
    have hw4 := Below.next hw3 hb
    go_wp2_with fail
    refine (Across_any (t + q) A n c l _ (HH.out.fwd hw4) (by omega)).mono ?_
    rintro e w5 ⟨rfl, hb⟩
    have hz := hb.size; (try simp at hz); have hz0 : w.heap.size < w5.heap.size := (by omega); obtain ⟨hc, hf⟩ := bcellK hb (N := w.heap.size + 1) (by (first | omega | (simp; done) | (simp; omega)))
    have hz := hb.size; (try simp at hz); have hz0 : w2.heap.size < w5.heap.size := (by omega); have hz1 : w2.heap.size + 1 < w5.heap.size := (by omega); obtain ⟨hc, hf⟩ := bcellK hb (N := w2.heap.size + 2) (by (first | omega | (simp; done) | (simp; omega)))
    have hw5 := Below.next hw4 hb
    go_wp2_with fail
    refine (Across_any (g - p) A' n' c' l' _ (HH'.out.fwd hw5) (by omega)).mono ?_
    rintro e w6 ⟨rfl, hb⟩
    have hz := hb.size; (try simp at hz); have hz0 : w.heap.size < w6.heap.size := (by omega); obtain ⟨hc, hf⟩ := bcellK hb (N := w.heap.size + 1) (by (first | omega | (simp; done) | (simp; omega)))
    have hz := hb.size; (try simp at hz); have hz0 : w2.heap.size < w6.heap.size := (by omega); have hz1 : w2.heap.size + 1 < w6.heap.size := (by omega); obtain ⟨hc, hf⟩ := bcellK hb (N := w2.heap.size + 2) (by (first | omega | (simp; done) | (simp; omega)))
    have hw6 := Below.next hw5 hb
    go_wp2_with fail
    refine (Across_any (u + q) A' n' c' l' _ (HH'.out.fwd hw6) (by omega)).mono ?_
    rintro e w7 ⟨rfl, hb⟩
    have hz := hb.size; (try simp at hz); have hz0 : w.heap.size < w7.heap.size := (by omega); obtain ⟨hc, hf⟩ := bcellK hb (N := w.heap.size + 1) (by (first | omega | (simp; done) | (simp; omega)))
    have hz := hb.size; (try simp at hz); have hz0 : w2.heap.size < w7.heap.size := (by omega); have hz1 : w2.heap.size + 1 < w7.heap.size := (by omega); obtain ⟨hc, hf⟩ := bcellK hb (N := w2.heap.size + 2) (by (first | omega | (simp; done) | (simp; omega)))
    have hw7 := Below.next hw6 hb
    have WW := Lib.hid (WSS.out.wide HL.out.inv)
    go_wp2_with fail
    refine (Widen_any (f - p) (t + q) (g - p) (u + q) N (N - t + u) A A' n c n' c' l l' _ (HH.out.fwd hw7) (HH'.out.fwd hw7) (by omega) (by omega) (by omega) (by omega) WW).mono ?_
    rintro e w8 ⟨p', q', hl2, rfl, hb⟩
    obtain ⟨rfl, rfl⟩ := hl2.uniq (HL.out.again WW.out)
    clear hl2
    have hz := hb.size; (try simp at hz); have hz0 : w.heap.size < w8.heap.size := (by omega); obtain ⟨hc, hf⟩ := bcellK hb (N := w.heap.size + 1) (by (first | omega | (simp; done) | (simp; omega)))
    have hz := hb.size; (try simp at hz); have hz0 : w2.heap.size < w8.heap.size := (by omega); have hz1 : w2.heap.size + 1 < w8.heap.size := (by omega); obtain ⟨hc, hf⟩ := bcellK hb (N := w2.heap.size + 2) (by (first | omega | (simp; done) | (simp; omega)))
    have hw8 := Below.next hw7 hb
    have ez1 : f - p - 0 = f - p := by omega
    have ez2 : t + q + 0 = t + q := by omega
    have ez3 : g - p - 0 = g - p := by omega
    have ez4 : u + q + 0 = u + q := by omega
    rw [ez1, ez2, ez3, ez4]
    clear ez1 ez2 ez3 ez4
    have q3 : w2.heap.size < w8.heap.size + 1 := by omega
    have q4 : w2.heap.size + 1 < w8.heap.size + 1 := by omega
    go_wp2_with (go_at_call 9; refine (five_any _).mono ?_; rintro e w9 ⟨rfl, hb⟩)
    go_ret
    refine rets_bool (by simp) ?_
    exact Below.next ((hw8.alloc (by omega) _).alloc (by simp; omega) _) hb
  · clear h h'
    go_enter Try.func5, Try.ntmps5
    go_wp2_with fail
    refine (right_any N f t g u A A' n c n' c' l l' _ (HH.out.fwd (by (repeat (first | with_reducible exact Below.refl _ _ | with_reducible assumption | refine Below.drew ?_ | refine Below.alloc ?_ (by first | omega | (simp; done) | (simp; omega)) _ | refine Below.setCell ?_ (by first | omega | (simp; done) | (simp; omega)) _ | refine Below.trans ?_ (Below.mono (by assumption) (by first | omega | (simp; done) | (simp; omega))))))) (HH'.out.fwd (by (repeat (first | with_reducible exact Below.refl _ _ | with_reducible assumption | refine Below.drew ?_ | refine Below.alloc ?_ (by first | omega | (simp; done) | (simp; omega)) _ | refine Below.setCell ?_ (by first | omega | (simp; done) | (simp; omega)) _ | refine Below.trans ?_ (Below.mono (by assumption) (by first | omega | (simp; done) | (simp; omega))))))) (by omega) (by omega)).mono ?_
    rintro e w1 ⟨rfl, hb⟩
    have hw1 : Below w.heap.size w w1 := (by (repeat (first | with_reducible exact Below.refl _ _ | with_reducible assumption | refine Below.drew ?_ | refine Below.alloc ?_ (by first | omega | (simp; done) | (simp; omega)) _ | refine Below.setCell ?_ (by first | omega | (simp; done) | (simp; omega)) _ | refine Below.trans ?_ (Below.mono (by assumption) (by first | omega | (simp; done) | (simp; omega))))))
    go_wp2_with (go_at_call 9; refine (five_any _).mono ?_; rintro e w2 ⟨rfl, hb⟩)
    go_ret
    exact rets_bool rfl (Below.next hw1 hb)

end Go.Proofs.Ytlledfabkmmgoaa
