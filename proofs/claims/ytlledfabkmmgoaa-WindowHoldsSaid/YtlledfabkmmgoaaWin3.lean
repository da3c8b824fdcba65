/- Walks of the window functions, third part: the two ways to widen. -/
import Derived.Test.YtlledfabkmmgoaaWin2
import Derived.Test.YtlledfabkmmgoaaPureW
import Derived.RegionTactic
namespace Go.Proofs.Ytlledfabkmmgoaa
open Go.RowKit

set_option maxHeartbeats 800000 in
theorem BWiden_any (f t g u N m : Int) (A A' : Option Addr) (n c n' c' : Nat) (l l' : List Sp) (w : World) (h : TwoAt w w.heap.size A n l) (h' : TwoAt w w.heap.size A' n' l')
    (hn : n ≤ 1000) (hn' : n' ≤ 1000) (hN : N ≤ 2147483648) (hm : m ≤ 2147483648) (H : Hid (WS f t g u N m l l')) :
    Calls Try.prog 14 #[.agg #[.int .i64 f, .int .i64 t, .int .i64 g, .int .i64 u], .slice A n c, .slice A' n' c'] w
      (Rets (.agg #[.int .i64 (f - (iterP f t g u l l' (2 * n + 2 * n' + 1)).1), .int .i64 (t + (iterP f t g u l l' (2 * n + 2 * n' + 1)).2), .int .i64 (g - (iterP f t g u l l' (2 * n + 2 * n' + 1)).1), .int .i64 (u + (iterP f t g u l l' (2 * n + 2 * n' + 1)).2)]) w) := by
  go_enter Try.func14, Try.ntmps14
  go_wp2
  go_loopw [15] (fun i wr => ∃ k : Nat, k ≤ 2 * n + 2 * n' + 1 ∧ i = .int .i64 k ∧ Box wr w.heap.size 27 #[.int .i64 (f - (iterP f t g u l l' k).1), .int .i64 (t + (iterP f t g u l l' k).2), .int .i64 (g - (iterP f t g u l l' k).1), .int .i64 (u + (iterP f t g u l l' k).2)] ∧
     Box wr (w.heap.size + 1) 27 #[.int .i64 0, .int .i64 0, .int .i64 0, .int .i64 0] ∧ Below w.heap.size w wr) (fun i _ => 2 * n + 2 * n' + 1 - (intOf i).toNat)
  case atStart =>
    refine ⟨0, Nat.zero_le _, rfl, ?_, ?_, (by (repeat (first | with_reducible exact Below.refl _ _ | with_reducible assumption | refine Below.drew ?_ | refine Below.alloc ?_ (by first | omega | (simp; done) | (simp; omega)) _ | refine Below.setCell ?_ (by first | omega | (simp; done) | (simp; omega)) _ | refine Below.trans ?_ (Below.mono (by assumption) (by first | omega | (simp; done) | (simp; omega))))))⟩
    · refine Box.to ((Box.new w _ _).alloc _) ?_
      simp [iterP]
    · have := Box.new (w.alloc (.cells #[.int .i64 f, .int .i64 t, .int .i64 g, .int .i64 u] 27)) 27 #[.int .i64 0, .int .i64 0, .int .i64 0, .int .i64 0]
      simpa using this
  case round =>
    obtain ⟨k, hk, rfl, hb0, hb1, hw⟩ := hrel
    have hf0 := H.out.f0
    have hft := H.out.ft
    have htN := H.out.tN
    have hgu := H.out.gu
    have hum := H.out.um
    have hs := H.out.same
    have hgf := H.out.gf
    have iv := iterP_inv H.out k
    have i1 := iv.p0
    have i2 := iv.pf
    have i3 := iv.q0
    have i4 := iv.qN
    clear iv
    have hsucc : iterP f t g u l l' (k + 1) = ((iterP f t g u l l' k).1 + (onceP (f - (iterP f t g u l l' k).1) (t + (iterP f t g u l l' k).2) (g - (iterP f t g u l l' k).1) (u + (iterP f t g u l l' k).2) l l').1, (iterP f t g u l l' k).2 + (onceP (f - (iterP f t g u l l' k).1) (t + (iterP f t g u l l' k).2) (g - (iterP f t g u l l' k).1) (u + (iterP f t g u l l' k).2) l l').2) := rfl
    have HS := Lib.hid hsucc; clear hsucc
    have hkk : iterP f t g u l l' k = ((iterP f t g u l l' k).1, (iterP f t g u l l' k).2) := rfl
    have HK := Lib.hid hkk; clear hkk
    generalize (iterP f t g u l l' k).1 = p at *
    generalize (iterP f t g u l l' k).2 = q at *
    have c0 := hb0.cell 0
    have c1 := hb0.cell 1
    have c2 := hb0.cell 2
    have c3 := hb0.cell 3
    have z0 := hb0.free 0
    have z1 := hb0.free 1
    have z2 := hb0.free 2
    have z3 := hb0.free 3
    have y0 := hb1.free 0
    have y1 := hb1.free 1
    have y2 := hb1.free 2
    have y3 := hb1.free 3
    have x0 := hb1.cell 0
    have x1 := hb1.cell 1
    have x2 := hb1.cell 2
    have x3 := hb1.cell 3
    simp at c0 c1 c2 c3 x0 x1 x2 x3
    have hsz := hb1.lt
    (try (have hz0 : w.heap.size < wr.heap.size := by omega)); (try (have hz1 : w.heap.size + 1 < wr.heap.size := by omega))
    have HB0 := Lib.hid hb0; clear hb0
    have HB1 := Lib.hid hb1; clear hb1
    by_cases hlt : k < 2 * n + 2 * n' + 1
    · have e1 : decide ((k : Int) < 2 * (n : Int) + 2 * (n' : Int) + 1) = true := by simp; omega
      have hge : g = f := hgf
      have HG := Lib.hid hgf; clear hgf
      have hg1 : g ≤ f := by omega
      have hg2 : f ≤ g := by omega
      clear hge
      have hs1 : N - t ≤ m - u := by omega
      have hs2 : m - u ≤ N - t := by omega
      clear hs
      have hl1 : ∀ x ∈ l, 0 ≤ x.1 ∧ x.2 ≤ 2147483648 := fun x hx => by have := H.out.was_ x hx; omega
      have hl2 : ∀ x ∈ l', 0 ≤ x.1 ∧ x.2 ≤ 2147483648 := fun x hx => by have := H.out.is_ x hx; omega
      have HL1 := Lib.hid hl1
      have HL2 := Lib.hid hl2
      have HH := Lib.hid h
      have HH' := Lib.hid h'
      clear hl1 hl2 h h'
      go_wp2_with (go_at_call 30; refine (once_any _ _ _ _ A A' n c n' c' l l' _ (by exact HH.out.fwd (by (repeat (first | with_reducible exact Below.refl _ _ | with_reducible assumption | refine Below.drew ?_ | refine Below.alloc ?_ (by first | omega | (simp; done) | (simp; omega)) _ | refine Below.setCell ?_ (by first | omega | (simp; done) | (simp; omega)) _ | refine Below.trans ?_ (Below.mono (by assumption) (by first | omega | (simp; done) | (simp; omega))))))) (by exact HH'.out.fwd (by (repeat (first | with_reducible exact Below.refl _ _ | with_reducible assumption | refine Below.drew ?_ | refine Below.alloc ?_ (by first | omega | (simp; done) | (simp; omega)) _ | refine Below.setCell ?_ (by first | omega | (simp; done) | (simp; omega)) _ | refine Below.trans ?_ (Below.mono (by assumption) (by first | omega | (simp; done) | (simp; omega))))))) (by omega) (by omega) (by omega) (by omega) (by omega) (by omega) HL1.out HL2.out).mono ?_; rintro e w1 ⟨rfl, hb⟩; obtain ⟨hc, hf⟩ := bcell hb; have hz := hb.size; (try simp at hz); skip; (try (have hz0 : w.heap.size < w1.heap.size := by omega)); (try (have hz1 : w.heap.size + 1 < w1.heap.size := by omega)))
      go_roundw
      case rel =>
        refine ⟨k + 1, by omega, by go_num, ?_, ?_, (by (repeat (first | with_reducible exact Below.refl _ _ | with_reducible assumption | refine Below.drew ?_ | refine Below.alloc ?_ (by first | omega | (simp; done) | (simp; omega)) _ | refine Below.setCell ?_ (by first | omega | (simp; done) | (simp; omega)) _ | refine Below.trans ?_ (Below.mono (by assumption) (by first | omega | (simp; done) | (simp; omega))))))⟩
        · rw [HS.out]
          refine Box.to (Box.set_ (Box.set_ (Box.set_ (Box.set_ (HB0.out.below hb (by omega)) _ _) _ _) _ _) _ _) ?_
          simp
          omega
        · exact Box.far (Box.far (Box.far (Box.far (HB1.out.below hb (by omega)) (by simp) _) (by simp) _) (by simp) _) (by simp) _
      case measure => simp [intOf]; omega
    · obtain rfl : k = 2 * n + 2 * n' + 1 := by omega
      have e1 : decide (((2 * n + 2 * n' + 1 : Nat) : Int) < 2 * (n : Int) + 2 * (n' : Int) + 1) = false := by simp
      go_wp2
      refine bodyPost_ret (v := .agg #[.int .i64 (f - p), .int .i64 (t + q), .int .i64 (g - p), .int .i64 (u + q)]) (by simp [results, Try.results14, go_sem, *]) rfl ?_
      rw [HK.out]
      exact rets_val (by (repeat (first | with_reducible exact Below.refl _ _ | with_reducible assumption | refine Below.drew ?_ | refine Below.alloc ?_ (by first | omega | (simp; done) | (simp; omega)) _ | refine Below.setCell ?_ (by first | omega | (simp; done) | (simp; omega)) _ | refine Below.trans ?_ (Below.mono (by assumption) (by first | omega | (simp; done) | (simp; omega))))))

end Go.Proofs.Ytlledfabkmmgoaa
