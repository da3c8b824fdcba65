/- Arguments opened to cells: structs of ints, slices of them, the law's Turn. Over any program. -/
import Derived.Test.YtlledfabkmmgoaaLaw
namespace Go.Proofs.Ytlledfabkmmgoaa
open Go.ChangeShapes Go.WideShapes Go.ChangeAt Go.RowKit Go.WideElems Go.Deep

section
variable {H : Type} {enc : TypeId × Value → H} {P : Program} {w : World} {base : Nat} {spare : Nat → Bool} {held : Bool}

/-- Two cells that read as a struct of two ints. -/
theorem trod_two {t ti : TypeId} {f0 f1 : Field} {fuel : Nat} {cs : List Value} {x : DataW H × List MemPlace} (hs : P.underlying t = some (.struct #[f0, f1])) (hi : P.underlying ti = some (.int .i64))
    (o0 : f0.offset = 0) (o1 : f1.offset = 1) (k0 : f0.type = ti) (k1 : f1.type = ti) (hC : P.cellsOf t = 2) (hc : P.cellsOf ti = 1) (h : DataW.trod enc P w base spare held fuel t cs = some x) :
    ∃ a b : Int, cs = [.int .i64 a, .int .i64 b] ∧ (Lit.int .i64 a).wf = true ∧ (Lit.int .i64 b).wf = true := by
  obtain ⟨xs, n, _, _, hlen, _, hg⟩ := DataW.trod_struct hs h
  rw [hC] at hlen
  match cs, hlen with
  | [c0, c1], _ =>
    have g0 := hg 0 f0 rfl
    have g1 := hg 1 f1 rfl
    have l : xs.length = 2 := by
      obtain ⟨_, _, _, _, _, h2, _⟩ := DataW.trod_struct hs h
      have := (DataW.trod_struct hs h)
      assumption
    rw [o0, k0, hc] at g0
    rw [o1, k1, hc] at g1
    match xs, l with
    | [y0, y1], _ =>
      obtain ⟨a, e0, _, wa⟩ := DataW.trod_int hi (by simpa using g0)
      obtain ⟨b, e1, _, wb⟩ := DataW.trod_int hi (by simpa using g1)
      simp at e0 e1
      exact ⟨a, b, by rw [e0, e1], wa, wb⟩

/-- A slice of structs of two ints. -/
theorem open_twos {ts t ti : TypeId} {f0 f1 : Field} {fuel : Nat} {cs : List Value} {x : DataW H × List MemPlace} (hsl : P.underlying ts = some (.slice t)) (hs : P.underlying t = some (.struct #[f0, f1])) (hi : P.underlying ti = some (.int .i64))
    (o0 : f0.offset = 0) (o1 : f1.offset = 1) (k0 : f0.type = ti) (k1 : f1.type = ti) (hC : P.cellsOf t = 2) (hc : P.cellsOf ti = 1) (h : DataW.trod enc P w base spare held fuel ts cs = some x) :
    ∃ (A : Option Addr) (n c : Nat) (l : List (Int × Int)), cs = [.slice A n c] ∧ n ≤ c ∧ c ≤ maxLen ∧ TwoAt w w.heap.size A n l ∧ ∀ y ∈ l, (Lit.int .i64 y.1).wf = true ∧ (Lit.int .i64 y.2).wf = true := by
  rcases open_slice hsl h with ⟨h0, _⟩ | ⟨a, len, cap, m, n, D, Pl, hcs, _, hl, hm, hmm, _, hall⟩
  · exact ⟨none, 0, 0, [], h0, Nat.le_refl _, Nat.zero_le _, TwoAt.nil _ _ _, fun y hy => by cases hy⟩
  · have hle : len ≤ m := by rw [hmm]; split <;> omega
    have key : ∀ i, i < len → ∃ a' b' : Int, w.cell? (a.add (i * 2)) = some (.int .i64 a') ∧ w.cell? (a.add (i * 2 + 1)) = some (.int .i64 b') ∧ (Lit.int .i64 a').wf = true ∧ (Lit.int .i64 b').wf = true := by
      intro i hi'
      obtain ⟨cs', hc', ht⟩ := hall i (by omega)
      obtain ⟨a', b', e, wa, wb⟩ := trod_two hs hi o0 o1 k0 k1 hC hc ht
      subst e
      rw [hC] at hc'
      obtain ⟨_, _, hat⟩ := World.cells?_some hc'
      have t0 := hat 0 (by omega)
      have t1 := hat 1 (by omega)
      rw [Go.Deep.add_add] at t0 t1
      exact ⟨a', b', by simpa using t0, by simpa using t1, wa, wb⟩
    let F : Nat → Int × Int := fun i => if hi' : i < len then ((key i hi').choose, (key i hi').choose_spec.choose) else (0, 0)
    have hF : ∀ i, i < len → w.cell? (a.add (i * 2)) = some (.int .i64 (F i).1) ∧ w.cell? (a.add (i * 2 + 1)) = some (.int .i64 (F i).2) ∧ (Lit.int .i64 (F i).1).wf = true ∧ (Lit.int .i64 (F i).2).wf = true := by
      intro i hi'
      have e : F i = ((key i hi').choose, (key i hi').choose_spec.choose) := by simp only [F, hi', dif_pos]
      rw [e]
      exact (key i hi').choose_spec.choose_spec
    refine ⟨some a, len, cap, (List.range len).map F, hcs, hl, hm, ⟨by simp, fun hn => ?_⟩, fun y hy => ?_⟩
    · have h00 := (hF 0 hn).1
      have hspot : a.spot = none := by
        rcases a with ⟨b, o, s⟩
        cases s with
        | none => rfl
        | some s => simp [World.cell?, Addr.add] at h00; split at h00 <;> simp at h00
      have ha : a = ⟨a.block, a.off, none⟩ := by rw [← hspot]
      refine ⟨a.block, a.off, by rw [← ha], ?_, ?_⟩
      · have := World.block_lt_of_cell? w _ h00
        simpa [Addr.add] using this
      · intro i x y hi'
        have hlt : i < len := by
          have := (List.getElem?_eq_some_iff.1 hi').1
          simpa using this
        have e : F i = (x, y) := by simpa [hlt] using hi'
        obtain ⟨q0, q1, _, _⟩ := hF i hlt
        rw [e] at q0 q1
        rw [ha] at q0 q1
        constructor
        · rw [← q0]; unfold Addr.add; split
          · rename_i h0; simp [h0]
          · rfl
        · rw [← q1]; unfold Addr.add; rw [if_neg (by omega)]; rfl
    · obtain ⟨i, hi', rfl⟩ := List.mem_map.1 hy
      exact (hF i (by simpa using hi')).2.2

/-- The law's Turn: a number, two spans, two slices of spans. -/
theorem open_turn {tt ti t ts : TypeId} {g0 g1 g2 g3 g4 f0 f1 : Field} {b0 : Nat} {v : Value} {d : DataW H} {p : List MemPlace}
    (hT : P.underlying tt = some (.struct #[g0, g1, g2, g3, g4])) (hTC : P.cellsOf tt = 7)
    (p0 : g0.offset = 0) (p1 : g1.offset = 1) (p2 : g2.offset = 3) (p3 : g3.offset = 5) (p4 : g4.offset = 6) (q0 : g0.type = ti) (q1 : g1.type = t) (q2 : g2.type = t) (q3 : g3.type = ts) (q4 : g4.type = ts)
    (hsl : P.underlying ts = some (.slice t)) (hsc : P.cellsOf ts = 1) (hs : P.underlying t = some (.struct #[f0, f1])) (hi : P.underlying ti = some (.int .i64))
    (o0 : f0.offset = 0) (o1 : f1.offset = 1) (k0 : f0.type = ti) (k1 : f1.type = ti) (hC : P.cellsOf t = 2) (hc : P.cellsOf ti = 1)
    (hv : Value.okWide P w .any b0 tt v) (h : DataW.Trod enc P w base spare held tt v d p) :
    ∃ (N f t' g u : Int) (A A' : Option Addr) (n c n' c' : Nat) (l l' : List (Int × Int)), v = .agg #[.int .i64 N, .int .i64 f, .int .i64 t', .int .i64 g, .int .i64 u, .slice A n c, .slice A' n' c'] ∧
      n ≤ maxLen ∧ n' ≤ maxLen ∧ TwoAt w w.heap.size A n l ∧ TwoAt w w.heap.size A' n' l' ∧ (∀ y ∈ l, (Lit.int .i64 y.1).wf = true ∧ (Lit.int .i64 y.2).wf = true) ∧ (∀ y ∈ l', (Lit.int .i64 y.1).wf = true ∧ (Lit.int .i64 y.2).wf = true) ∧
      (Lit.int .i64 N).wf = true ∧ (Lit.int .i64 f).wf = true ∧ (Lit.int .i64 t').wf = true ∧ (Lit.int .i64 g).wf = true ∧ (Lit.int .i64 u).wf = true := by
  obtain ⟨cs, rfl, hsz⟩ := okWide_struct hT hv
  obtain ⟨L⟩ := cs
  obtain ⟨fuel, hf⟩ := h
  match L, hsz.trans hTC with
  | [c0, c1, c2, c3, c4, c5, c6], _ =>
    obtain ⟨xs, m, _, _, _, hlen, hg⟩ := DataW.trod_struct hT hf
    match xs, hlen with
    | [y0, y1, y2, y3, y4], _ =>
      have a0 := hg 0 g0 rfl
      have a1 := hg 1 g1 rfl
      have a2 := hg 2 g2 rfl
      have a3 := hg 3 g3 rfl
      have a4 := hg 4 g4 rfl
      rw [p0, q0, hc] at a0
      rw [p1, q1, hC] at a1
      rw [p2, q2, hC] at a2
      rw [p3, q3, hsc] at a3
      rw [p4, q4, hsc] at a4
      obtain ⟨N, e0, _, wN⟩ := DataW.trod_int hi (by simpa [Value.cells] using a0)
      obtain ⟨f, t', e1, wf, wt⟩ := trod_two hs hi o0 o1 k0 k1 hC hc (by simpa [Value.cells] using a1)
      obtain ⟨g, u, e2, wg, wu⟩ := trod_two hs hi o0 o1 k0 k1 hC hc (by simpa [Value.cells] using a2)
      obtain ⟨A, n, c, l, e3, n1, n2, hl, hlw⟩ := open_twos hsl hs hi o0 o1 k0 k1 hC hc (by simpa [Value.cells] using a3)
      obtain ⟨A', n', c', l', e4, n1', n2', hl', hlw'⟩ := open_twos hsl hs hi o0 o1 k0 k1 hC hc (by simpa [Value.cells] using a4)
      simp at e0 e1 e2 e3 e4
      obtain ⟨e1, e1'⟩ := e1
      obtain ⟨e2, e2'⟩ := e2
      subst e0 e1 e1' e2 e2' e3 e4
      exact ⟨N, f, t', g, u, A, A', n, c, n', c', l, l', rfl, by omega, by omega, hl, hl', hlw, hlw', wN, wf, wt, wg, wu⟩
end
end Go.Proofs.Ytlledfabkmmgoaa
