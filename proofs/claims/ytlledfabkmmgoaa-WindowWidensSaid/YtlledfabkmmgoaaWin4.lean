/- Walks of the window functions, fourth part: the program's Widen. -/
import Derived.Test.YtlledfabkmmgoaaWin
import Derived.Test.YtlledfabkmmgoaaPureW
import Derived.RegionTactic
namespace Go.Proofs.Ytlledfabkmmgoaa
open Go.RowKit

def WidenPost (f t g u N : Int) (l l' : List Sp) (w : World) (e : Ending) (w' : World) : Prop :=
  ∃ p q, LeastW f t g u N l l' p q ∧ Rets (.tuple #[.agg #[.int .i64 (f - p), .int .i64 (t + q)], .agg #[.int .i64 (g - p), .int .i64 (u + q)]]) w e w'

theorem widen_key {f t g u N p q : Int} {l l' : List Sp} {w wr : World} (a' b' : Int) (W : World) (h3 : 0 < a' + b') (hi : InvW f t g u N l l' (p + a') (q + b'))
    (c0 : wr.cell? ⟨w.heap.size, 0, none⟩ = some (.int .i64 (f - p))) (c1 : wr.cell? ⟨w.heap.size, 1, none⟩ = some (.int .i64 (t + q))) (hW : Below w.heap.size w W)
    (k0 : Box W w.heap.size 23 #[.int .i64 (f - p), .int .i64 (t + q)]) (k1 : Box W (w.heap.size + 1) 23 #[.int .i64 (g - p), .int .i64 (u + q)])
    (k2 : Box W (w.heap.size + 2) 23 #[.int .i64 0, .int .i64 0]) (k3 : Box W (w.heap.size + 3) 23 #[.int .i64 0, .int .i64 0]) :
    let W' := ((((W.setCell ⟨w.heap.size, 0, none⟩ (.int .i64 (f - p - a'))).setCell ⟨w.heap.size + 1, 0, none⟩ (.int .i64 (g - p - a'))).setCell ⟨w.heap.size, 1, none⟩ (.int .i64 (t + q + b'))).setCell ⟨w.heap.size + 1, 1, none⟩ (.int .i64 (u + q + b'))).drew.drew
    (∃ p q : Int, InvW f t g u N l l' p q ∧ Box W' w.heap.size 23 #[.int .i64 (f - p), .int .i64 (t + q)] ∧ Box W' (w.heap.size + 1) 23 #[.int .i64 (g - p), .int .i64 (u + q)] ∧
       Box W' (w.heap.size + 2) 23 #[.int .i64 0, .int .i64 0] ∧ Box W' (w.heap.size + 3) 23 #[.int .i64 0, .int .i64 0] ∧ Below w.heap.size w W') ∧
    (intOf ((W'.cell? ⟨w.heap.size, 0, none⟩).getD undef) + N - intOf ((W'.cell? ⟨w.heap.size, 1, none⟩).getD undef)).toNat <
      (intOf ((wr.cell? ⟨w.heap.size, 0, none⟩).getD undef) + N - intOf ((wr.cell? ⟨w.heap.size, 1, none⟩).getD undef)).toNat := by
  intro W'
  have j0 : Box W' w.heap.size 23 #[.int .i64 (f - (p + a')), .int .i64 (t + (q + b'))] := by
    refine Box.to (((((k0.set_ 0 _).far (by simp) _).set_ 1 _).far (by simp) _).drew.drew) ?_
    simp; omega
  have j1 : Box W' (w.heap.size + 1) 23 #[.int .i64 (g - (p + a')), .int .i64 (u + (q + b'))] := by
    refine Box.to (((((k1.far (by simp) _).set_ 0 _).far (by simp) _).set_ 1 _).drew.drew) ?_
    simp; omega
  refine ⟨⟨p + a', q + b', hi, j0, j1, ?_, ?_, ?_⟩, ?_⟩
  · exact ((((k2.far (by simp) _).far (by simp) _).far (by simp) _).far (by simp) _).drew.drew
  · exact ((((k3.far (by simp) _).far (by simp) _).far (by simp) _).far (by simp) _).drew.drew
  · exact ((((hW.setCell (by simp) _).setCell (by simp) _).setCell (by simp) _).setCell (by simp) _).drew.drew
  · rw [j0.cell 0, j0.cell 1, c0, c1]
    have := hi.pf
    have := hi.qN
    simp [intOf]; omega

set_option maxHeartbeats 1000000 in
theorem Widen_any (f t g u N m : Int) (A A' : Option Addr) (n c n' c' : Nat) (l l' : List Sp) (w : World) (h : TwoAt w w.heap.size A n l) (h' : TwoAt w w.heap.size A' n' l')
    (hn : n ≤ 1000) (hn' : n' ≤ 1000) (hN : N ≤ 2147483648) (hm : m ≤ 2147483648) (H : Hid (WS f t g u N m l l')) :
    Calls Try.prog 13 #[.agg #[.int .i64 f, .int .i64 t], .agg #[.int .i64 g, .int .i64 u], .slice A n c, .slice A' n' c'] w (WidenPost f t g u N l l' w) := by
  have hf0 := H.out.f0
  have hft := H.out.ft
  have htN := H.out.tN
  have hgu := H.out.gu
  have hum := H.out.um
  have hs1 : N - t ≤ m - u := by have := H.out.same; omega
  have hs2 : m - u ≤ N - t := by have := H.out.same; omega
  have hg1 : g ≤ f := by have := H.out.gf; omega
  have hg2 : f ≤ g := by have := H.out.gf; omega
  have hl1 : ∀ x ∈ l, 0 ≤ x.1 ∧ x.2 ≤ 4611686018427387904 := fun x hx => by have := H.out.was_ x hx; omega
  have hl2 : ∀ x ∈ l', 0 ≤ x.1 ∧ x.2 ≤ 4611686018427387904 := fun x hx => by have := H.out.is_ x hx; omega
  have HL1 := Lib.hid hl1
  have HL2 := Lib.hid hl2
  have HH := Lib.hid h
  have HH' := Lib.hid h'
  clear hl1 hl2 h h'
  go_enter Try.func13, Try.ntmps13
  go_wp2
  go_step3
  go_wp2
  go_step3
  go_wp2
  go_loopw [10] (fun _ wr => ∃ p q : Int, InvW f t g u N l l' p q ∧ Box wr w.heap.size 23 #[.int .i64 (f - p), .int .i64 (t + q)] ∧ Box wr (w.heap.size + 1) 23 #[.int .i64 (g - p), .int .i64 (u + q)] ∧
     Box wr (w.heap.size + 2) 23 #[.int .i64 0, .int .i64 0] ∧ Box wr (w.heap.size + 3) 23 #[.int .i64 0, .int .i64 0] ∧ Below w.heap.size w wr)
     (fun _ wr => (intOf ((wr.cell? ⟨w.heap.size, 0, none⟩).getD undef) + N - intOf ((wr.cell? ⟨w.heap.size, 1, none⟩).getD undef)).toNat)
  case atStart =>
    refine ⟨0, 0, InvW.start H.out, ?_, ?_, ?_, ?_, (by (repeat (first | with_reducible exact Below.refl _ _ | with_reducible assumption | refine Below.drew ?_ | refine Below.alloc ?_ (by first | omega | (simp; done) | (simp; omega)) _ | refine Below.setCell ?_ (by first | omega | (simp; done) | (simp; omega)) _ | refine Below.trans ?_ (Below.mono (by assumption) (by first | omega | (simp; done) | (simp; omega))))))⟩
    · exact Box.to ((((Box.new w _ _).alloc _).alloc _).alloc _) (by simp)
    · have := Box.new (w.alloc (.cells #[.int .i64 f, .int .i64 t] 23)) 23 #[.int .i64 g, .int .i64 u]
      simp at this
      exact Box.to ((this.alloc _).alloc _) (by simp)
    · have := Box.new ((w.alloc (.cells #[.int .i64 f, .int .i64 t] 23)).alloc (.cells #[.int .i64 g, .int .i64 u] 23)) 23 #[.int .i64 0, .int .i64 0]
      simp at this
      exact this.alloc _
    · have := Box.new (((w.alloc (.cells #[.int .i64 f, .int .i64 t] 23)).alloc (.cells #[.int .i64 g, .int .i64 u] 23)).alloc (.cells #[.int .i64 0, .int .i64 0] 23)) 23 #[.int .i64 0, .int .i64 0]
      simp at this
      exact this
  case round =>
    obtain ⟨p, q, iv, hb0, hb1, hb2, hb3, hw⟩ := hrel
    have i1 := iv.p0
    have i2 := iv.pf
    have i3 := iv.q0
    have i4 := iv.qN
    have IV := Lib.hid iv; clear iv
    have c0 := hb0.cell 0
    have c1 := hb0.cell 1
    have c2 := hb1.cell 0
    have c3 := hb1.cell 1
    have c4 := hb2.cell 0
    have c5 := hb2.cell 1
    have c6 := hb3.cell 0
    have c7 := hb3.cell 1
    have z0 := hb0.free 0
    have z1 := hb0.free 1
    have z2 := hb1.free 0
    have z3 := hb1.free 1
    have z4 := hb2.free 0
    have z5 := hb2.free 1
    have z6 := hb3.free 0
    have z7 := hb3.free 1
    simp at c0 c1 c2 c3 c4 c5 c6 c7
    have hsz := hb3.lt
    (try (have hz0 : w.heap.size < wr.heap.size := by omega)); (try (have hz1 : w.heap.size + 1 < wr.heap.size := by omega)); (try (have hz2 : w.heap.size + 2 < wr.heap.size := by omega)); (try (have hz3 : w.heap.size + 3 < wr.heap.size := by omega))
    have HB0 := Lib.hid hb0; clear hb0
    have HB1 := Lib.hid hb1; clear hb1
    have HB2 := Lib.hid hb2; clear hb2
    have HB3 := Lib.hid hb3; clear hb3
    have s1 := stepW_was (f := f) (t := t) (g := g) (u := u) (was := l) (is := l') (p := p) (q := q)
    have i1' := IV.out.step H.out s1
    have n1 := s1.nonneg
    have R1 := Lib.hid (reachP_none (f := f - p) (t := t + q) (l := l))
    generalize ea : (reachP (f - p) (t + q) l).1 = a at *
    generalize eb : (reachP (f - p) (t + q) l).2 = b at *
    have EA := Lib.hid ea; clear ea
    have EB := Lib.hid eb; clear eb
    have n2 := i1'.pf
    have n3 := i1'.qN
    obtain ⟨n4, n5⟩ := n1
    have S1 := Lib.hid s1; clear s1
    have I1 := Lib.hid i1'; clear i1'
    have KEY := fun (a' b' : Int) (W : World) (x1 : 0 < a' + b') (x2 : InvW f t g u N l l' (p + a') (q + b')) => widen_key (w := w) (wr := wr) (l := l) (l' := l') (p := p) (q := q) a' b' W x1 x2 c0 c1
    have KEY := Lib.hid KEY
    by_cases hab : a + b = 0
    · obtain rfl : a = 0 := by omega
      obtain rfl : b = 0 := by omega
      have hr1 := R1.out (by omega)
      have HR1 := Lib.hid hr1; clear hr1 hab
      have s2 := stepW_is (f := f) (t := t) (g := g) (u := u) (was := l) (is := l') (p := p) (q := q)
      have i2' := IV.out.step H.out s2
      have n1 := s2.nonneg
      have R2 := Lib.hid (reachP_none (f := g - p) (t := u + q) (l := l'))
      generalize ea : (reachP (g - p) (u + q) l').1 = a at *
      generalize eb : (reachP (g - p) (u + q) l').2 = b at *
      have EA2 := Lib.hid ea; clear ea
      have EB2 := Lib.hid eb; clear eb
      have m2 := i2'.pf
      have m3 := i2'.qN
      obtain ⟨m4, m5⟩ := n1
      clear s2
      have I2 := Lib.hid i2'; clear i2'
      by_cases hab : a + b = 0
      · obtain rfl : a = 0 := by omega
        obtain rfl : b = 0 := by omega
        have hr2 := R2.out (by omega)
        have HR2 := Lib.hid hr2; clear hr2 hab
        go_wp2_with fail
        refine (reach_any (f - p) (t + q) A n c l _ (by exact HH.out.fwd (by (repeat (first | with_reducible exact Below.refl _ _ | with_reducible assumption | refine Below.drew ?_ | refine Below.alloc ?_ (by first | omega | (simp; done) | (simp; omega)) _ | refine Below.setCell ?_ (by first | omega | (simp; done) | (simp; omega)) _ | refine Below.trans ?_ (Below.mono (by assumption) (by first | omega | (simp; done) | (simp; omega))))))) (by omega) (by omega) (by omega) (by omega) HL1.out).mono ?_; rintro e w1 ⟨rfl, hb⟩; rw [EA.out, EB.out]; obtain ⟨hc, hf⟩ := bcell hb; have hz := hb.size; (try simp at hz); skip; (try (have hz0 : w.heap.size < w1.heap.size := by omega)); (try (have hz1 : w.heap.size + 1 < w1.heap.size := by omega)); (try (have hz2 : w.heap.size + 2 < w1.heap.size := by omega)); (try (have hz3 : w.heap.size + 3 < w1.heap.size := by omega)); have hbA := hb
        go_wp2_with fail
        refine (reach_any (g - p) (u + q) A' n' c' l' _ (by exact HH'.out.fwd (by (repeat (first | with_reducible exact Below.refl _ _ | with_reducible assumption | refine Below.drew ?_ | refine Below.alloc ?_ (by first | omega | (simp; done) | (simp; omega)) _ | refine Below.setCell ?_ (by first | omega | (simp; done) | (simp; omega)) _ | refine Below.trans ?_ (Below.mono (by assumption) (by first | omega | (simp; done) | (simp; omega))))))) (by omega) (by omega) (by omega) (by omega) HL2.out).mono ?_; rintro e w1 ⟨rfl, hb⟩; rw [EA2.out, EB2.out]; obtain ⟨hc, hf⟩ := bcell hb; have hz := hb.size; (try simp at hz); skip; (try (have hz0 : w.heap.size < w1.heap.size := by omega)); (try (have hz1 : w.heap.size + 1 < w1.heap.size := by omega)); (try (have hz2 : w.heap.size + 2 < w1.heap.size := by omega)); (try (have hz3 : w.heap.size + 3 < w1.heap.size := by omega))
        go_wp2_with fail
        have hz2' : w.heap.size + 1 + 1 < w1.heap.size := by omega
        have hz3' : w.heap.size + 1 + 1 + 1 < w1.heap.size := by omega
        go_region
        go_wp2
        try rw [Exit.noGoto_ret]
        refine bodyPost_ret (v := .tuple #[.agg #[.int .i64 (f - p), .int .i64 (t + q)], .agg #[.int .i64 (g - p), .int .i64 (u + q)]]) (by simp [results, Try.results13, go_sem, *]) rfl ?_
        exact ⟨p, q, ⟨IV.out, HR1.out, HR2.out⟩, rets_val (by (repeat (first | with_reducible exact Below.refl _ _ | with_reducible assumption | refine Below.drew ?_ | refine Below.alloc ?_ (by first | omega | (simp; done) | (simp; omega)) _ | refine Below.setCell ?_ (by first | omega | (simp; done) | (simp; omega)) _ | refine Below.trans ?_ (Below.mono (by assumption) (by first | omega | (simp; done) | (simp; omega))))))⟩
      · have hab' : 0 < a + b := by omega
        clear hab
        go_wp2_with fail
        refine (reach_any (f - p) (t + q) A n c l _ (by exact HH.out.fwd (by (repeat (first | with_reducible exact Below.refl _ _ | with_reducible assumption | refine Below.drew ?_ | refine Below.alloc ?_ (by first | omega | (simp; done) | (simp; omega)) _ | refine Below.setCell ?_ (by first | omega | (simp; done) | (simp; omega)) _ | refine Below.trans ?_ (Below.mono (by assumption) (by first | omega | (simp; done) | (simp; omega))))))) (by omega) (by omega) (by omega) (by omega) HL1.out).mono ?_; rintro e w1 ⟨rfl, hb⟩; rw [EA.out, EB.out]; obtain ⟨hc, hf⟩ := bcell hb; have hz := hb.size; (try simp at hz); skip; (try (have hz0 : w.heap.size < w1.heap.size := by omega)); (try (have hz1 : w.heap.size + 1 < w1.heap.size := by omega)); (try (have hz2 : w.heap.size + 2 < w1.heap.size := by omega)); (try (have hz3 : w.heap.size + 3 < w1.heap.size := by omega)); have hbA := hb
        go_wp2_with fail
        refine (reach_any (g - p) (u + q) A' n' c' l' _ (by exact HH'.out.fwd (by (repeat (first | with_reducible exact Below.refl _ _ | with_reducible assumption | refine Below.drew ?_ | refine Below.alloc ?_ (by first | omega | (simp; done) | (simp; omega)) _ | refine Below.setCell ?_ (by first | omega | (simp; done) | (simp; omega)) _ | refine Below.trans ?_ (Below.mono (by assumption) (by first | omega | (simp; done) | (simp; omega))))))) (by omega) (by omega) (by omega) (by omega) HL2.out).mono ?_; rintro e w1 ⟨rfl, hb⟩; rw [EA2.out, EB2.out]; obtain ⟨hc, hf⟩ := bcell hb; have hz := hb.size; (try simp at hz); skip; (try (have hz0 : w.heap.size < w1.heap.size := by omega)); (try (have hz1 : w.heap.size + 1 < w1.heap.size := by omega)); (try (have hz2 : w.heap.size + 2 < w1.heap.size := by omega)); (try (have hz3 : w.heap.size + 3 < w1.heap.size := by omega))
        go_wp2_with fail
        go_region
        go_wp2
        go_region
        go_wp2
        have b0 := HB0.out
        have b1 := HB1.out
        have b2 := HB2.out
        have b3 := HB3.out
        have hb2 := hbA.trans (hb.mono (by omega))
        have kk := KEY.out a b w1 hab' I2.out (hw.trans (hb2.mono (by omega))) (b0.below hb2 (by omega)) (b1.below hb2 (by omega)) (b2.below hb2 (by omega)) (b3.below hb2 (by omega))
        go_roundw
        case rel => exact kk.1
        case measure => exact kk.2
    · have hab' : 0 < a + b := by omega
      clear hab
      go_wp2_with (go_at_call 29; refine (reach_any (f - p) (t + q) A n c l _ (by exact HH.out.fwd (by (repeat (first | with_reducible exact Below.refl _ _ | with_reducible assumption | refine Below.drew ?_ | refine Below.alloc ?_ (by first | omega | (simp; done) | (simp; omega)) _ | refine Below.setCell ?_ (by first | omega | (simp; done) | (simp; omega)) _ | refine Below.trans ?_ (Below.mono (by assumption) (by first | omega | (simp; done) | (simp; omega))))))) (by omega) (by omega) (by omega) (by omega) HL1.out).mono ?_; rintro e w1 ⟨rfl, hb⟩; rw [EA.out, EB.out]; obtain ⟨hc, hf⟩ := bcell hb; have hz := hb.size; (try simp at hz); skip; (try (have hz0 : w.heap.size < w1.heap.size := by omega)); (try (have hz1 : w.heap.size + 1 < w1.heap.size := by omega)); (try (have hz2 : w.heap.size + 2 < w1.heap.size := by omega)); (try (have hz3 : w.heap.size + 3 < w1.heap.size := by omega)))
      go_region
      go_wp2
      go_region
      go_wp2
      have b0 := HB0.out
      have b1 := HB1.out
      have b2 := HB2.out
      have b3 := HB3.out
      have kk := KEY.out a b w1 hab' I1.out (hw.trans (hb.mono (by omega))) (b0.below hb (by omega)) (b1.below hb (by omega)) (b2.below hb (by omega)) (b3.below hb (by omega))
      go_roundw
      case rel => exact kk.1
      case measure => exact kk.2

end Go.Proofs.Ytlledfabkmmgoaa
