/- What the theorem leans on, part 11. -/
import Derived.Test.YthjjncooaahejaaGreatDoorBlPAA
import Derived.Test.YthjjncooaahejaaGreatDoorBlPAB
import Derived.Test.YthjjncooaahejaaGreatDoorBlPAC
import Derived.Test.YthjjncooaahejaaGreatDoorBlPAD
import Derived.Test.YthjjncooaahejaaGreatDoorBlPAE
import Derived.Test.YthjjncooaahejaaGreatDoorBlPAF
import Derived.Test.YthjjncooaahejaaGreatDoorBlPAG
import Derived.Test.YthjjncooaahejaaGreatDoorBlPAH
import Derived.Test.YthjjncooaahejaaGreatDoorBlPAI
set_option linter.unusedSimpArgs false
set_option linter.unusedVariables false
set_option maxRecDepth 8000
namespace Go.Proofs.YthjjncooaahejaaGreatDoor
theorem snoc_bk (es : List Bk) (x : Bk) : es.map bkD ++ [bkD x] = (es ++ [x]).map bkD := by rw [List.map_append]; rfl
theorem drop_atB {l : List Bk} {i : Nat} {x : Bk} (h : l[i]? = some x) : l.drop i = x :: l.drop (i + 1) := by
  obtain ⟨h1, rfl⟩ := List.getElem?_eq_some_iff.1 h
  exact List.drop_eq_getElem_cons h1
abbrev bkL (l : List Bk) : V := .d (.sd 4 false (l.map bkD))
def bkDV (n : Int) (l : List Bk) : V := if bkErr n [] l = 0 then .d (.agg [iD n, .sd 4 false ((insF ltB l).map bkD), iD 0]) else .d (.agg [iD 0, nilSD, iD (bkErr n [] l)])
def rbS (n : Int) (l : List Bk) (k : Nat) : St :=
  ⟨[(0, iv n), (1, bkL l), (4, .po 0 0), (5, .so 1 4 0 (insF ltB (l.take k)).length), (25, bkL l), (26, iv l.length), (27, iv k)], [(0, .cell [iv 0, .d nilSD, iv 0]), (1, bkR (insF ltB (l.take k)))], 2⟩
def rbU (n : Int) (l : List Bk) (k : Nat) (out : List Bk) (x : Bk) (j : Nat) : St :=
  ⟨[(0, iv n), (1, bkL l), (4, .po 0 0), (5, .so 1 4 0 out.length), (7, .po 2 0), (25, bkL l), (26, iv l.length), (27, iv k), (59, .d (.sd 4 false ((l.take k).map bkD))), (60, iv k), (61, iv j)],
   [(0, .cell [iv 0, .d nilSD, iv 0]), (1, bkR out), (2, .cell [iv x.1, iv x.2.1, iv x.2.2.1, bv x.2.2.2])], 3⟩
def rbI (n : Int) (l : List Bk) (k : Nat) (x : Bk) (out : List Bk) (z : Nat × Bool × List Bk) : St :=
  ⟨[(0, iv n), (1, bkL l), (4, .po 0 0), (7, .po 1 0), (10, .so 2 4 0 z.2.2.length), (11, bv z.2.1), (25, bkL l), (26, iv l.length), (27, iv k), (72, .so 3 4 0 out.length), (73, iv out.length), (74, iv z.1)],
   [(0, .cell [iv 0, .d nilSD, iv 0]), (1, .cell [iv x.1, iv x.2.1, iv x.2.2.1, bv x.2.2.2]), (2, bkR z.2.2), (3, bkR out)], 4⟩
attribute [push_cast] rbS.eq_def rbU.eq_def rbI.eq_def
structure RbP (x : Bk) (out : List Bk) (z : Nat × Bool × List Bk) : Prop where
  le : z.1 ≤ out.length
  len : z.2.2.length ≤ 2 * z.1
  fin : z.2.2 ++ (if z.2.1 = true then out.drop z.1 else insG ltB x (out.drop z.1)) = insG ltB x out
theorem dbNew_neg (n : Int) (hn : n < 0 ∨ 1099511627776 < n) (x : D) : OFn Tryz.prog G0 8 [iv n, .d x] [] 0 (.d (.agg [iD 0, nilSD, iD 1])) [] := by
  refine vF mixed [0, 1, 4, 5, 6, 7, 9, 10, 11, 13, 19, 23, 25, 26, 27, 28, 55, 59, 60, 61, 62, 69, 72, 73, 74, 75, 100, 111] Tryz.func8 rfl Tryz.results8 Tryz.ntmps8 ?_
  (refine' zo)
theorem dbNew_big (n : Int) (hn : 0 ≤ n ∧ n ≤ 1099511627776) (l : List Bk) (hl : 60 < l.length) : OFn Tryz.prog G0 8 [iv n, bkL l] [] 0 (.d (.agg [iD 0, nilSD, iD 5])) [] := by
  refine vF mixed [0, 1, 4, 5, 6, 7, 9, 10, 11, 13, 19, 23, 25, 26, 27, 28, 55, 59, 60, 61, 62, 69, 72, 73, 74, 75, 100, 111] Tryz.func8 rfl Tryz.results8 Tryz.ntmps8 ?_
  (refine' zo)
set_option maxHeartbeats 6400000 in
theorem dbNew_fn (n : Int) (hn : 0 ≤ n ∧ n ≤ 1099511627776) (l : List Bk) (hl2 : l.length ≤ 60) : OFn Tryz.prog G0 8 [iv n, bkL l] [] 0 (bkDV n l) [] := by
  refine vF mixed [0, 1, 4, 5, 6, 7, 9, 10, 11, 13, 19, 23, 25, 26, 27, 28, 55, 59, 60, 61, 62, 69, 72, 73, 74, 75, 100, 111] Tryz.func8 rfl Tryz.results8 Tryz.ntmps8 ?_
  (refine' zg)
  refine vL (lv := [0, 1, 4, 5, 6, 7, 9, 10, 11, 13, 19, 23, 25, 26, 27, 28, 55, 59, 60, 61, 62, 69, 72, 73, 74, 75, 100, 111]) mixed (rbS n l) (fun k => k ≤ l.length ∧ bkErr n ((l.take k).map (·.1)) (l.drop k) = bkErr n [] l) (fun k => l.length - k) (0) (GhW.nil 5 4 <| (GhW.go [0, 1, 4, 5, 25, 26, 27] (by exact vT) rfl)) ?_ ?_
  · exact ⟨Nat.zero_le _, rfl⟩
  rintro k ⟨h1, h2⟩
  have hal : (insF ltB (l.take k)).length = k := by rw [insF_len ltB (l.take k).reverse _ (by simp), List.length_take]; omega
  rcases Nat.lt_or_ge k l.length with hk | hk
  · obtain ⟨x, hx⟩ : ∃ x, l[k]? = some x := ⟨_, List.getElem?_eq_getElem hk⟩
    rw [List.drop_eq_getElem_cons hk, (List.getElem?_eq_some_iff.1 hx).2, bkErr] at h2
    have hins : insF ltB (l.take (k + 1)) = insG ltB x (insF ltB (l.take k)) := by rw [take_snoc' hx, insF_snoc]
    have hids : (l.take (k + 1)).map (·.1) = (l.take k).map (·.1) ++ [x.1] := by rw [take_snoc' hx, List.map_append]; rfl
    by_cases hw : badB n x
    · rw [if_pos hw] at h2
      obtain ⟨a, b, c, d⟩ := x
      simp only [badB] at hw
      (refine' zg)
      refine elX.is k _ (by omega) hx ?_
      (refine' zoS)
      all_goals rw [bkDV, ← h2, if_neg (by decide)]
    · rw [if_neg hw] at h2
      obtain ⟨a, b, c, d⟩ := x
      simp only [badB] at hw
      (refine' zg)
      refine elX.is k _ (by omega) hx ?_
      (refine' zgS)
      rw [← List.map_take, show ((l.take k).map bkD).length = k by rw [List.length_map, List.length_take]; omega]
      refine vL (lv := [0, 1, 4, 5, 6, 7, 9, 10, 11, 13, 19, 23, 25, 26, 27, 28, 55, 59, 60, 61, 62, 69, 72, 73, 74, 75, 100, 111]) mixed (rbU n l k (insF ltB (l.take k)) (a, b, c, d)) (fun j => j ≤ k ∧ ∀ (q : Nat) y, q < j → l[q]? = some y → y.1 ≠ a) (fun j => k - j) (0) ((GhW.go [0, 1, 4, 5, 7, 25, 26, 27, 59, 60, 61] (by exact vT) rfl)) ?_ ?_
      · exact ⟨Nat.zero_le _, fun q y h => by omega⟩
      rintro j ⟨g1, g2⟩
      rcases Nat.lt_or_ge j k with hj | hj
      · obtain ⟨y, hy⟩ : ∃ y, l[j]? = some y := ⟨_, List.getElem?_eq_getElem (by omega)⟩
        have hy' : (l.take k)[j]? = some y := by rw [List.getElem?_take_of_lt hj]; exact hy
        obtain ⟨y1, y2, y3, y4⟩ := y
        (refine' zoE hy')
        · have hm : a ∈ (l.take k).map (·.1) := List.mem_map.2 ⟨_, List.mem_of_getElem? hy', by assumption⟩
          rw [if_pos hm] at h2
          rw [bkDV, ← h2, if_neg (by decide)]
        · refine AgW.go (j + 1) [0, 1, 4, 5, 7, 25, 26, 27, 59, 60, 61] (by exact vT) ?_ ?_
          · show k - (j + 1) < k - j
            omega
          · refine ⟨hj, fun q z hq hz => ?_⟩
            by_cases e : q = j
            · subst e; rw [hy] at hz; injection hz with hz; subst hz; assumption
            · exact g2 q z (by omega) hz
      · have hm : a ∉ (l.take k).map (·.1) := fun h => by
          obtain ⟨y, hy, e⟩ := List.mem_map.1 h
          obtain ⟨q, hq⟩ := List.getElem?_of_mem hy
          have hqk : q < k := by
            have := (List.getElem?_eq_some_iff.1 hq).1
            rw [List.length_take] at this; omega
          rw [List.getElem?_take_of_lt hqk] at hq
          exact g2 q y (by omega) hq e
        rw [if_neg hm, ← hids] at h2
        (refine' zg)
        generalize hout : insF ltB (l.take k) = out at *
        refine vL (lv := [0, 1, 4, 5, 6, 7, 9, 10, 11, 13, 19, 23, 25, 26, 27, 28, 55, 59, 60, 61, 62, 69, 72, 73, 74, 75, 100, 111]) mixed (rbI n l k (a, b, c, d) out) (RbP (a, b, c, d) out) (fun z => out.length - z.1) ((0, false, [])) (GhW.nil 10 4 <| (GhW.go [0, 1, 4, 7, 10, 11, 25, 26, 27, 72, 73, 74] (by exact vT) rfl)) ?_ ?_
        · exact ⟨Nat.zero_le _, Nat.zero_le _, rfl⟩
        rintro ⟨i, p, es⟩ ⟨g1, g2, g3⟩
        simp only at g1 g2 g3
        rcases Nat.lt_or_ge i out.length with hi | hi
        · obtain ⟨y, hy⟩ : ∃ y, out[i]? = some y := ⟨_, List.getElem?_eq_getElem hi⟩
          have hcl := cB_lt (a, b, c, d) y
          obtain ⟨y1, y2, y3, y4⟩ := y
          simp only at hcl
          rw [drop_atB hy] at g3
          have e1 : es.map bkD ++ [D.agg [iD y1, iD y2, iD y3, D.lit (Value.bool y4)]] = (es ++ [(y1, y2, y3, y4)]).map bkD := snoc_bk es (y1, y2, y3, y4)
          have e0 : es.map bkD ++ [D.agg [D.lit (Value.int IntKind.i64 a), D.lit (Value.int IntKind.i64 b), D.lit (Value.int IntKind.i64 c), D.lit (Value.bool d)]] = (es ++ [(a, b, c, d)]).map bkD := snoc_bk es (a, b, c, d)
          have e2 : (es ++ [(a, b, c, d)]).map bkD ++ [D.agg [iD y1, iD y2, iD y3, D.lit (Value.bool y4)]] = (es ++ [(a, b, c, d)] ++ [(y1, y2, y3, y4)]).map bkD := snoc_bk _ (y1, y2, y3, y4)
          cases p with
          | true =>
            (refine' zgE hy)
            rw [e1, List.length_map]
            refine AgW.go ((i + 1, true, es ++ [(y1, y2, y3, y4)])) [0, 1, 4, 7, 10, 11, 25, 26, 27, 72, 73, 74] (by exact vT) ?_ ?_
            · show out.length - (i + 1) < out.length - i
              omega
            · exact ⟨hi, by simp only [List.length_append, List.length_cons, List.length_nil]; omega, by rw [← g3]; simp⟩
          | false =>
            by_cases hlt : ltB (a, b, c, d) (y1, y2, y3, y4)
            · have hq := hcl.1 hlt
              (repeat' (first | (with_reducible first | exact True.intro | refine vD ?_ | refine vG ?_ | refine vE ?_) | (with_reducible refine elX.is i _ (by omega) hy ?_) | (refine vRS ?_) | refine vR ?_ | refine v6 ?_ | with_reducible refine vN ?_ | ((with_reducible first | refine vB (fun h => ?_) (fun h => ?_) | refine vM (fun h => ?_) (fun h => ?_)) <;> (first | (exfalso; omega) | skip))))
              rw [e0, e2, List.length_map]
              refine AgW.go ((i + 1, true, es ++ [(a, b, c, d)] ++ [(y1, y2, y3, y4)])) [0, 1, 4, 7, 10, 11, 25, 26, 27, 72, 73, 74] (by exact vT) ?_ ?_
              · show out.length - (i + 1) < out.length - i
                omega
              · refine ⟨hi, by simp only [List.length_append, List.length_cons, List.length_nil]; omega, ?_⟩
                rw [← g3]
                simp only [Bool.false_eq_true, if_false, if_true]
                rw [insG, if_pos hlt]
                simp
            · have hq := mt hcl.2 hlt
              (repeat' (first | (with_reducible first | exact True.intro | refine vD ?_ | refine vG ?_ | refine vE ?_) | (with_reducible refine elX.is i _ (by omega) hy ?_) | (refine vRS ?_) | refine vR ?_ | refine v6 ?_ | with_reducible refine vN ?_ | ((with_reducible first | refine vB (fun h => ?_) (fun h => ?_) | refine vM (fun h => ?_) (fun h => ?_)) <;> (first | (exfalso; omega) | skip))))
              rw [e1, List.length_map]
              refine AgW.go ((i + 1, false, es ++ [(y1, y2, y3, y4)])) [0, 1, 4, 7, 10, 11, 25, 26, 27, 72, 73, 74] (by exact vT) ?_ ?_
              · show out.length - (i + 1) < out.length - i
                omega
              · refine ⟨hi, by simp only [List.length_append, List.length_cons, List.length_nil]; omega, ?_⟩
                rw [← g3]
                simp only [Bool.false_eq_true, if_false]
                rw [insG, if_neg hlt]
                simp
        · rw [List.drop_of_length_le hi] at g3
          have e0 : es.map bkD ++ [D.agg [D.lit (Value.int IntKind.i64 a), D.lit (Value.int IntKind.i64 b), D.lit (Value.int IntKind.i64 c), D.lit (Value.bool d)]] = (es ++ [(a, b, c, d)]).map bkD := snoc_bk es (a, b, c, d)
          cases p with
          | true =>
            (refine' zg)
            have hfin : es = insF ltB (l.take (k + 1)) := by
              rw [hins]
              simp only [if_true, List.append_nil] at g3
              exact g3
            rw [hfin]
            refine AgW.go (k + 1) [0, 1, 4, 5, 25, 26, 27] (by exact vT) ?_ ?_
            · show l.length - (k + 1) < l.length - k
              omega
            · exact ⟨hk, h2⟩
          | false =>
            (refine' zg)
            have hfin : es ++ [(a, b, c, d)] = insF ltB (l.take (k + 1)) := by
              rw [hins]
              simp only [Bool.false_eq_true, if_false, insG] at g3
              exact g3
            rw [e0, hfin, List.length_map]
            refine AgW.go (k + 1) [0, 1, 4, 5, 25, 26, 27] (by exact vT) ?_ ?_
            · show l.length - (k + 1) < l.length - k
              omega
            · exact ⟨hk, h2⟩
  · obtain rfl : k = l.length := by omega
    rw [List.drop_length, bkErr] at h2
    rw [rbS, List.take_length]
    (refine' zg)
    refine DoneW.frz 1 (DoneW.out ?_)
    (refine' zg)
    rw [bkDV, ← h2, if_pos rfl]
    rw [List.take_of_length_le (by simp)]
end Go.Proofs.YthjjncooaahejaaGreatDoor
set_option linter.unusedSimpArgs false
set_option linter.unusedVariables false
set_option maxRecDepth 8000
namespace Go.Proofs.YthjjncooaahejaaGreatDoor
theorem bClone_ne : OFn Tryz.prog G0 18 [.d (.ne 4)] [] 0 (.d (.sd 4 false [])) [] := by
  refine vF mixed [0, 2, 4] Tryz.func18 rfl Tryz.results18 Tryz.ntmps18 ?_
  (refine' zg)
  refine DoneW.frz 20 (DoneW.out ?_)
  (refine' zg)
theorem bClone_e : OFn Tryz.prog G0 18 [.d (.sd 4 false [])] [] 0 (.d (.sd 4 false [])) [] := OFn.nilOr 4 false (OFn.nil 4 false bCloneNil) bClone_ne
theorem sortB_e : OFn Tryz.prog G0 19 [.d (.sd 4 false []), bkC] [] 0 (.tup []) [] := getsG G0 M0 300 (by kernel_rfl)
theorem bkNew_e (n : Int) (hn : 0 ≤ n ∧ n ≤ 1099511627776) : OFn Tryz.prog G0 6 [iv n, bkL []] [] 0 (.tup [.d (bkSetD n []), iv 0]) [] := by
  have r1 := bClone_e
  have r2 := sortB_e
  simp only [bkL, List.map_nil]
  refine vF mixed [0, 1, 4, 5, 6, 8, 10, 11, 12, 19, 24, 25, 26, 27, 53, 61] Tryz.func6 rfl Tryz.results6 Tryz.ntmps6 ?_
  (refine' zg2 r1 r2)
  refine vL (lv := [0, 1, 4, 5, 6, 8, 10, 11, 12, 19, 24, 25, 26, 27, 53, 61]) mixed (fun _ : Unit => (⟨[(0, iv n), (1, .d (.sd 4 false [])), (6, .mo 0), (24, .d (.sd 4 false [])), (25, iv 0), (26, iv 0)], [(0, .map [])], 1⟩ : St)) (fun _ => True) (fun _ => 0) (()) ((GhW.go [0, 1, 6, 24, 25, 26] (by exact vT) rfl)) ?_ ?_
  · trivial
  rintro ⟨⟩ -
  (refine' zg2 r1 r2)
  refine DoneW.frz 21 (DoneW.out ?_)
  (refine' zg)
  all_goals rfl
def rf41S (l : List Bk) (x : Nat × List Bk) : St := ⟨[(3, .so 0 4 0 x.2.length), (6, bkL l), (7, iv l.length), (8, iv x.1)], [(0, bkR x.2)], 1⟩
attribute [push_cast] rf41S.eq_def
theorem refs41_fn (l : List Bk) (hl : l.length ≤ 100000) : OFn Tryz.prog G0 9 [bkL l] [] 0 (bkL l) [] := by
  refine vF mixed [0, 2, 3, 5, 6, 7, 8, 9] Tryz.func9 rfl Tryz.results9 Tryz.ntmps9 ?_
  (refine' zg)
  refine vL (lv := [0, 2, 3, 5, 6, 7, 8, 9]) mixed (rf41S l) (fun x => x.1 ≤ l.length ∧ x.2 = l.take x.1) (fun x => l.length - x.1) ((0, [])) (GhW.nil 3 4 <| (GhW.go [3, 6, 7, 8] (by exact vT) rfl)) ?_ ?_
  · simp
  rintro ⟨i, es⟩ ⟨hi, he⟩
  simp only at hi he
  have hel : es.length = i := by rw [he, List.length_take]; omega
  rcases Nat.lt_or_ge i l.length with hk | hk
  · obtain ⟨x, hx⟩ : ∃ x, l[i]? = some x := ⟨_, List.getElem?_eq_getElem hk⟩
    obtain ⟨a, b, c, d⟩ := x
    (refine' zgE hx)
    rw [show es.map bkD ++ [D.agg [iD a, iD b, iD c, D.lit (Value.bool d)]] = (es ++ [(a, b, c, d)]).map bkD from snoc_bk es (a, b, c, d), List.length_map]
    refine AgW.go ((i + 1, es ++ [(a, b, c, d)])) [3, 6, 7, 8] (by exact vT) ?_ ?_
    · show l.length - (i + 1) < l.length - i
      omega
    · refine ⟨by show i + 1 ≤ l.length; omega, ?_⟩
      rw [take_snoc' hx, ← he]
  · rw [List.take_of_length_le hk] at he
    subst he
    (refine' zg)
    refine DoneW.frz 0 (DoneW.out ?_)
    (refine' zg)
    rw [List.take_of_length_le (by simp)]
theorem bAll_fn (n : Int) (l : List Bk) (hl : l.length ≤ 100000) : OFn Tryz.prog G0 23 [.d (bkSetD n l)] [] 0 (bkL l) [] := by
  rcases l with _ | ⟨x, t⟩
  · have r1 := bClone_e
    rw [bkSetD]
    simp only [bkL, List.map_nil]
    refine vF mixed [0, 2, 4] Tryz.func23 rfl Tryz.results23 Tryz.ntmps23 ?_
    (refine' zo1 r1)
  · have r1 := bClone_fn (G := G0) (x :: t) (by simp) hl
    simp only [List.map_cons] at r1
    rw [bkSetD, bkL]
    simp only [List.map_cons]
    refine vF mixed [0, 2, 4] Tryz.func23 rfl Tryz.results23 Tryz.ntmps23 ?_
    (refine' zgK r1)
    refine DoneW.frz 28 (DoneW.out ?_)
    (refine' zg)
    all_goals (try rw [List.take_of_length_le (by simp)])
theorem is41_no (k : Int) (hk : k ≠ 0) : OFn Tryz.prog G0 7 [.d (.lit (.pointer none)), iv k, .d (.agg [iD 0, nilSD, iD k])] [] 0 (bv true) [] := by
  refine vF mixed [0, 1, 2, 5, 6, 7, 8, 9, 21, 23, 27, 28, 29, 30, 47] Tryz.func7 rfl Tryz.results7 Tryz.ntmps7 ?_
  (refine' zo)
  all_goals (exfalso; simp_all)
def is41S (n : Int) (l : List Bk) (i : Nat) : St := ⟨[(5, .po 0 0), (7, bkL l), (27, bkL l), (28, iv l.length), (29, iv i)], [(0, .cell [iv n, bkL l, iv 0])], 1⟩
attribute [push_cast] is41S.eq_def
set_option maxHeartbeats 4000000 in
theorem is41_ok (n : Int) (l : List Bk) (hl : l.length ≤ 1000) : OFn Tryz.prog G0 7 [.d (bkSetD n l), iv 0, .d (.agg [iD n, .sd 4 false (l.map bkD), iD 0])] [] 0 (bv true) [] := by
  have r1 := bAll_fn n l (by omega)
  have r2 := refs41_fn l (by omega)
  rw [bkSetD] at r1 ⊢
  refine vF mixed [0, 1, 2, 5, 6, 7, 8, 9, 21, 23, 27, 28, 29, 30, 47] Tryz.func7 rfl Tryz.results7 Tryz.ntmps7 ?_
  (refine' zo2 r1 r2)
  refine vL (lv := [0, 1, 2, 5, 6, 7, 8, 9, 21, 23, 27, 28, 29, 30, 47]) mixed (is41S n l) (fun i => i ≤ l.length) (fun i => l.length - i) (0) ((GhW.go [5, 7, 27, 28, 29] (by exact vT) rfl)) ?_ ?_
  · exact Nat.zero_le _
  intro i hi
  rcases Nat.lt_or_ge i l.length with hk | hk
  · obtain ⟨x, hx⟩ : ∃ x, l[i]? = some x := ⟨_, List.getElem?_eq_getElem hk⟩
    obtain ⟨a, b, c, d⟩ := x
    (refine' zgE hx)
    refine AgW.go (i + 1) [5, 7, 27, 28, 29] (by exact vT) ?_ ?_
    · show l.length - (i + 1) < l.length - i
      omega
    · show i + 1 ≤ l.length
      omega
  · (refine' zo)
theorem lawBlocksNew_fn (n : Int) (l : List Bk) (hd : OFn Tryz.prog G0 5 [] [] 0 (bv true) []) (hmx : l.length ≤ 9223372036854775807) : OFn Tryz.prog G0 3 [iv n, bkL l] [] 0 (bv true) [] := by
  rcases Nat.lt_or_ge 150 l.length with h1 | h1
  · refine vF mixed [0, 1, 4, 5, 6, 9] Tryz.func3 rfl Tryz.results3 Tryz.ntmps3 ?_
    (refine' zo1 hd)
  have r2 := refs41_fn l (by omega)
  by_cases hn : 0 ≤ n ∧ n ≤ 1099511627776
  · rcases Nat.lt_or_ge 60 l.length with h2 | h2
    · have r1 := bkNew_big n hn l h2
      have r3 := dbNew_big n hn l h2
      have r4 := is41_no 5 (by decide)
      refine vF mixed [0, 1, 4, 5, 6, 9] Tryz.func3 rfl Tryz.results3 Tryz.ntmps3 ?_
      (refine' zo5 hd r1 r2 r3 r4)
    · have r3 := dbNew_fn n hn l h2
      have r1 : OFn Tryz.prog G0 6 [iv n, bkL l] [] 0 (bkOutV n l) [] := by
        rcases l with _ | ⟨x, t⟩
        · exact bkNew_e n hn
        · exact bkNew_fn n (x :: t) hn (by simp) h2
      by_cases he : bkErr n [] l = 0
      · rw [bkOutV, if_pos he] at r1
        rw [bkDV, if_pos he] at r3
        have r4 := is41_ok n (insF ltB l) (by rw [insF_len ltB l.reverse l (by simp)]; omega)
        generalize insF ltB l = ys at *
        simp only [bkSetD] at *
        refine vF mixed [0, 1, 4, 5, 6, 9] Tryz.func3 rfl Tryz.results3 Tryz.ntmps3 ?_
        (refine' zo5 hd r1 r2 r3 r4)
      · rw [bkOutV, if_neg he] at r1
        rw [bkDV, if_neg he] at r3
        have r4 := is41_no _ he
        generalize bkErr n [] l = k at *
        refine vF mixed [0, 1, 4, 5, 6, 9] Tryz.func3 rfl Tryz.results3 Tryz.ntmps3 ?_
        (refine' zo5 hd r1 r2 r3 r4)
  · have r1 := bkNew_neg n (by omega) false l
    have r3 := dbNew_neg n (by omega) (.sd 4 false (l.map bkD))
    have r4 := is41_no 1 (by decide)
    refine vF mixed [0, 1, 4, 5, 6, 9] Tryz.func3 rfl Tryz.results3 Tryz.ntmps3 ?_
    (refine' zo5 hd r1 r2 r3 r4)
end Go.Proofs.YthjjncooaahejaaGreatDoor
