/- What the theorem leans on, part 12. -/
import Derived.Test.YthjjncooaahejaaGreatDoorBlPAA
import Derived.Test.YthjjncooaahejaaGreatDoorBlPAB
import Derived.Test.YthjjncooaahejaaGreatDoorBlPAC
import Derived.Test.YthjjncooaahejaaGreatDoorBlPAD
import Derived.Test.YthjjncooaahejaaGreatDoorBlPAE
import Derived.Test.YthjjncooaahejaaGreatDoorBlPAF
import Derived.Test.YthjjncooaahejaaGreatDoorBlPAG
import Derived.Test.YthjjncooaahejaaGreatDoorBlPAH
import Derived.Test.YthjjncooaahejaaGreatDoorBlPAI
import Derived.Test.YthjjncooaahejaaGreatDoorBlPAJ
import Derived.Test.YthjjncooaahejaaGreatDoorBlPAK
set_option linter.unusedSimpArgs false
set_option linter.unusedVariables false
set_option maxRecDepth 8000
namespace Go.Proofs.YthjjncooaahejaaGreatDoor
def nwE (n : Int) (l : List Bk) : Int := if n < 0 ∨ 1099511627776 < n then 1 else if 60 < l.length then 5 else bkErr n [] l
def bnV (n : Int) (l : List Bk) : V := if nwE n l = 0 then .tup [.d (bkSetD n (insF ltB l)), iv 0] else .tup [.d (.lit (.pointer none)), iv (nwE n l)]
def dnV (n : Int) (l : List Bk) : V := if nwE n l = 0 then .d (.agg [iD n, .sd 4 false ((insF ltB l).map bkD), iD 0]) else .d (.agg [iD 0, nilSD, iD (nwE n l)])
theorem nwE_1 {n : Int} {l : List Bk} (hn : n < 0 ∨ 1099511627776 < n) : nwE n l = 1 := by unfold nwE; rw [if_pos hn]
theorem nwE_5 {n : Int} {l : List Bk} (hn : ¬ (n < 0 ∨ 1099511627776 < n)) (hl : 60 < l.length) : nwE n l = 5 := by unfold nwE; rw [if_neg hn, if_pos hl]
theorem nwE_k {n : Int} {l : List Bk} (hn : ¬ (n < 0 ∨ 1099511627776 < n)) (hl : l.length ≤ 60) : nwE n l = bkErr n [] l := by unfold nwE; rw [if_neg hn, if_neg (by omega)]
theorem bNew_any (n : Int) (l : List Bk) (hl : l.length ≤ 9223372036854775807) : OFn Tryz.prog G0 6 [iv n, bkL l] [] 0 (bnV n l) [] := by
  by_cases hn : n < 0 ∨ 1099511627776 < n
  · rw [bnV, nwE_1 hn, if_neg (by decide)]
    exact bkNew_neg n hn false l
  rcases Nat.lt_or_ge 60 l.length with h2 | h2
  · rw [bnV, nwE_5 hn h2, if_neg (by decide)]
    exact bkNew_big n (by omega) l h2
  rw [bnV, nwE_k hn h2]
  rcases l with _ | ⟨x, t⟩
  · exact bkNew_e n (by omega)
  · exact bkNew_fn n (x :: t) (by omega) (by simp) h2
theorem dNew_any (n : Int) (l : List Bk) (hl : l.length ≤ 9223372036854775807) : OFn Tryz.prog G0 8 [iv n, bkL l] [] 0 (dnV n l) [] := by
  by_cases hn : n < 0 ∨ 1099511627776 < n
  · rw [dnV, nwE_1 hn, if_neg (by decide)]
    exact dbNew_neg n hn _
  rcases Nat.lt_or_ge 60 l.length with h2 | h2
  · rw [dnV, nwE_5 hn h2, if_neg (by decide)]
    exact dbNew_big n (by omega) l h2
  rw [dnV, nwE_k hn h2]
  exact dbNew_fn n (by omega) l h2
theorem bnV_tup (n : Int) (l : List Bk) : ∃ a b : D, bnV n l = .tup [.d a, .d b] := by unfold bnV; split <;> exact ⟨_, _, rfl⟩
theorem dnV_d (n : Int) (l : List Bk) : ∃ a b c : D, dnV n l = .d (.agg [a, b, c]) := by unfold dnV; split <;> exact ⟨_, _, _, rfl⟩
def lastTo (cs : List Ch) : Int := (prevC cs cs.length).2.1
def shB (cs : List Ch) (x : Bk) : Bk := (x.1, pmapG x.2.1 1 0 cs, x.2.2.1, x.2.2.2)
def shE41 (n : Int) (cs : List Ch) : Int := if normal cs = true then (if n < lastTo cs ∨ 1099511627776 < n + delta cs then 1 else 0) else 4
theorem bSize_fn (n : Int) (l : List Bk) : OFn Tryz.prog G0 24 [.d (bkSetD n l)] [] 0 (iv n) [] := by
  rw [bkSetD]
  refine vF mixed [0, 2, 4] Tryz.func24 rfl Tryz.results24 Tryz.ntmps24 ?_
  (refine' zo)
theorem bAll_own (n : Int) (l : List Bk) (h0 : 0 < l.length) (hl : l.length ≤ 100000) : OFn Tryz.prog G0 23 [.d (bkSetD n l)] [] 0 (.so 0 4 0 l.length) [(0, bkR l)] := by
  rcases l with _ | ⟨x, t⟩
  · simp at h0
  · have r1 := bClone_fn (G := G0) (x :: t) (by simp) hl
    simp only [List.map_cons] at r1
    rw [bkSetD]
    simp only [List.map_cons]
    refine vF mixed [0, 2, 4] Tryz.func23 rfl Tryz.results23 Tryz.ntmps23 ?_
    (refine' zgK r1)
    refine DoneW.now [28] (by decide) ?_
    (refine' zg)
    exact Sub_refl _
theorem modify_at {α : Type} (F : α → α) : ∀ {xs : List α} {i : Nat} {x : α}, xs[i]? = some x → xs.modify i F = xs.set i (F x)
  | y :: t, 0, x, h => by
    simp only [List.getElem?_cons_zero, Option.some.injEq] at h
    subst h; rfl
  | y :: t, i + 1, x, h => by
    rw [List.getElem?_cons_succ] at h
    show y :: t.modify i F = y :: t.set i (F x)
    rw [modify_at F h]
  | [], _, x, h => by simp at h
def mixB (cs : List Ch) (l : List Bk) (i : Nat) : List Bk := (l.take i).map (shB cs) ++ l.drop i
theorem mixB_len (cs : List Ch) (l : List Bk) (i : Nat) (h : i ≤ l.length) : (mixB cs l i).length = l.length := by simp [mixB]; omega
theorem mixB_get {cs : List Ch} {l : List Bk} {i : Nat} {x : Bk} (h : l[i]? = some x) : (mixB cs l i)[i]? = some x := by
  have hi := (List.getElem?_eq_some_iff.1 h).1
  unfold mixB
  rw [List.getElem?_append_right (by simp; omega)]
  simp
  rw [show i + (i - min i l.length) = i by omega]
  exact h
theorem mixB_set {cs : List Ch} {l : List Bk} {i : Nat} {x : Bk} (h : l[i]? = some x) : (mixB cs l i).set i (shB cs x) = mixB cs l (i + 1) := by
  have hi := (List.getElem?_eq_some_iff.1 h).1
  unfold mixB
  rw [drop_at h, List.set_append_right _ _ (by simp; omega), take_snoc' h, List.map_append, List.append_assoc]
  simp
  rw [show i - min i l.length = 0 by omega]
  rfl
def bshS (n : Int) (cs : List Ch) (l : List Bk) (i : Nat) : St := ⟨[(1, chL cs), (6, iv n), (7, .so 0 4 0 l.length), (41, iv l.length), (42, iv i)], [(0, bkR (mixB cs l i))], 1⟩
def bshE (n : Int) (cs : List Ch) : St := ⟨[(1, chL cs), (6, iv n), (7, .d (.sd 4 false [])), (41, iv 0), (42, iv 0)], [], 0⟩
attribute [push_cast] bshS.eq_def bshE.eq_def
theorem bShift_no (n : Int) (cs : List Ch) (l : List Bk) (hc : cs.length ≤ 100) (hn : 0 ≤ n ∧ n ≤ 1099511627776) (hk : shE41 n cs ≠ 0) : OFn Tryz.prog G0 10 [.d (bkSetD n l), chL cs] [] 0 (.tup [.d (.lit (.pointer none)), iv (shE41 n cs)]) [] := by
  have r1 := bSize_fn n l
  have r2 := PNormal_fn cs (by omega)
  unfold shE41 at hk ⊢
  cases hno : normal cs with
  | false =>
    rw [hno] at r2
    rw [if_neg (by decide)]
    refine vF mixed [0, 1, 4, 5, 6, 7, 8, 11, 15, 41, 42, 43] Tryz.func10 rfl Tryz.results10 Tryz.ntmps10 ?_
    (refine' zo2 r1 r2)
  | true =>
    have hb : ∀ c ∈ cs, boundC c := normF_bound cs _ _ hno
    have r3 := Delta_fn cs (by omega) hb
    have hd := delta_bound hb
    rw [hno] at r2 hk
    rw [if_pos rfl] at hk ⊢
    by_cases hq : n < lastTo cs ∨ 1099511627776 < n + delta cs
    · rw [if_pos hq]
      rcases Nat.eq_zero_or_pos cs.length with h0 | h0
      · have e : lastTo cs = 0 := by rw [List.eq_nil_of_length_eq_zero h0]; rfl
        rw [e] at hq
        refine vF mixed [0, 1, 4, 5, 6, 7, 8, 11, 15, 41, 42, 43] Tryz.func10 rfl Tryz.results10 Tryz.ntmps10 ?_
        (refine' zo3 r1 r2 r3)
      · obtain ⟨c, hx⟩ : ∃ c, cs[cs.length - 1]? = some c := ⟨_, List.getElem?_eq_getElem (by omega)⟩
        have e : lastTo cs = c.2.1 := by
          unfold lastTo
          rw [show cs.length = (cs.length - 1) + 1 by omega, prevC_succ hx]
        rw [e] at hq
        refine vF mixed [0, 1, 4, 5, 6, 7, 8, 11, 15, 41, 42, 43] Tryz.func10 rfl Tryz.results10 Tryz.ntmps10 ?_
        (repeat' (first | (with_reducible first | exact True.intro | refine vD ?_ | refine vG ?_ | refine vE ?_) | with_reducible refine vC (r1) ?_ | with_reducible refine vC (r2) ?_ | with_reducible refine vC (r3) ?_ | (with_reducible refine elX.is (cs.length - 1) _ (by omega) hx ?_) | with_reducible refine DoneW.out ?_ | refine vR ?_ | refine v6 ?_ | with_reducible refine vN ?_ | ((with_reducible first | refine vB (fun h => ?_) (fun h => ?_) | refine vM (fun h => ?_) (fun h => ?_)) <;> (first | (exfalso; omega) | skip))))
    · rw [if_neg hq] at hk; exact (hk rfl).elim
theorem shE_ok {n : Int} {cs : List Ch} (h : shE41 n cs = 0) : normal cs = true ∧ lastTo cs ≤ n ∧ n + delta cs ≤ 1099511627776 := by
  unfold shE41 at h
  split at h
  · rename_i hn
    split at h
    · cases h
    · exact ⟨hn, by omega, by omega⟩
  · cases h
theorem insF_in {n : Int} {l : List Bk} (h : nwE n l = 0) : (0 ≤ n ∧ n ≤ 1099511627776) ∧ (∀ x ∈ insF ltB l, 0 ≤ x.2.1 ∧ x.2.1 ≤ n) ∧ (insF ltB l).length ≤ 60 := by
  unfold nwE at h
  split at h
  · cases h
  · split at h
    · cases h
    · refine ⟨by omega, fun x hx => ?_, by rw [insF_len ltB l.reverse l (by simp)]; omega⟩
      have := (bkErr_nodup n l [] h).1 x ((insF_perm ltB l.reverse l (by simp)).mem_iff.1 hx)
      have h2 := this.1
      simp only [badB] at h2
      omega
set_option maxHeartbeats 6400000 in
theorem bShift_ok (n : Int) (cs : List Ch) (l : List Bk) (hc : cs.length ≤ 100) (hn : 0 ≤ n ∧ n ≤ 1099511627776) (hl : l.length ≤ 60) (hL : ∀ x ∈ l, 0 ≤ x.2.1 ∧ x.2.1 ≤ n) (hk : shE41 n cs = 0) :
    OFn Tryz.prog G0 10 [.d (bkSetD n l), chL cs] [] 0 (bnV (n + delta cs) (l.map (shB cs))) [] := by
  obtain ⟨hno, hq1, hq2⟩ := shE_ok hk
  have hb : ∀ c ∈ cs, boundC c := normF_bound cs _ _ hno
  have r1 := bSize_fn n l
  have r2 := PNormal_fn cs (by omega)
  have r3 := Delta_fn cs (by omega) hb
  have hd := delta_bound hb
  rw [hno] at r2
  have hln : (l.map (shB cs)).length = l.length := List.length_map _
  have r5 := bNew_any (n + delta cs) (l.map (shB cs)) (by omega)
  obtain ⟨a5, b5, h5⟩ := bnV_tup (n + delta cs) (l.map (shB cs))
  rw [h5] at r5 ⊢
  have key : ∀ (K : Prop), (cs.length = 0 → lastTo cs = 0 → K) → (∀ c : Ch, 0 < cs.length → cs[cs.length - 1]? = some c → lastTo cs = c.2.1 → K) → K := by
    intro K h1 h2
    rcases Nat.eq_zero_or_pos cs.length with h0 | h0
    · exact h1 h0 (by rw [List.eq_nil_of_length_eq_zero h0]; rfl)
    · obtain ⟨c, hx⟩ : ∃ c, cs[cs.length - 1]? = some c := ⟨_, List.getElem?_eq_getElem (by omega)⟩
      refine h2 c h0 hx ?_
      unfold lastTo
      rw [show cs.length = (cs.length - 1) + 1 by omega, prevC_succ hx]
  rcases Nat.eq_zero_or_pos l.length with h0 | h0
  · obtain rfl := List.eq_nil_of_length_eq_zero h0
    have r4 : OFn Tryz.prog G0 23 [.d (bkSetD n [])] [] 0 (.d (.sd 4 false [])) [] := bAll_fn n [] (by decide)
    have r5 : OFn Tryz.prog G0 6 [iv (n + delta cs), .d (.sd 4 false [])] [] 0 (.tup [.d a5, .d b5]) [] := r5
    refine vF mixed [0, 1, 4, 5, 6, 7, 8, 11, 15, 41, 42, 43] Tryz.func10 rfl Tryz.results10 Tryz.ntmps10 ?_
    refine key _ (fun hz he => ?_) (fun c hz hx he => ?_)
    · rw [he] at hq1
      (refine' zg4 r1 r2 r3 r4)
      refine vL (lv := [0, 1, 4, 5, 6, 7, 8, 11, 15, 41, 42, 43]) mixed (fun _ : Unit => bshE n cs) (fun _ => True) (fun _ => 0) (()) ((GhW.go [1, 6, 7, 41, 42] (by exact vT) rfl)) ?_ ?_
      · trivial
      rintro ⟨⟩ -
      (refine' zo2 r3 r5)
    · rw [he] at hq1
      (repeat' (first | (with_reducible first | exact True.intro | refine vD ?_ | refine vG ?_ | refine vE ?_) | with_reducible refine vC (r1) ?_ | with_reducible refine vC (r2) ?_ | with_reducible refine vC (r3) ?_ | with_reducible refine vC (r4) ?_ | (with_reducible refine elX.is (cs.length - 1) _ (by omega) hx ?_) | refine vR ?_ | refine v6 ?_ | with_reducible refine vN ?_ | ((with_reducible first | refine vB (fun h => ?_) (fun h => ?_) | refine vM (fun h => ?_) (fun h => ?_)) <;> (first | (exfalso; omega) | skip))))
      refine vL (lv := [0, 1, 4, 5, 6, 7, 8, 11, 15, 41, 42, 43]) mixed (fun _ : Unit => bshE n cs) (fun _ => True) (fun _ => 0) (()) ((GhW.go [1, 6, 7, 41, 42] (by exact vT) rfl)) ?_ ?_
      · trivial
      rintro ⟨⟩ -
      (refine' zo2 r3 r5)
  · have r4 := bAll_own n l h0 (by omega)
    refine vF mixed [0, 1, 4, 5, 6, 7, 8, 11, 15, 41, 42, 43] Tryz.func10 rfl Tryz.results10 Tryz.ntmps10 ?_
    refine key _ (fun hz he => ?_) (fun c hz hx he => ?_)
    · rw [he] at hq1
      (repeat' (first | (with_reducible first | exact True.intro | refine vD ?_ | refine vG ?_ | refine vE ?_) | with_reducible refine vC (r1) ?_ | with_reducible refine vC (r2) ?_ | with_reducible refine vC (r3) ?_ | with_reducible refine vK (r4) ?_ | refine vR ?_ | refine v6 ?_ | with_reducible refine vN ?_ | ((with_reducible first | refine vB (fun h => ?_) (fun h => ?_) | refine vM (fun h => ?_) (fun h => ?_)) <;> (first | (exfalso; omega) | skip))))
      refine vL (lv := [0, 1, 4, 5, 6, 7, 8, 11, 15, 41, 42, 43]) mixed (bshS n cs l) (fun i => i ≤ l.length) (fun i => l.length - i) (0) ((GhW.go [1, 6, 7, 41, 42] (by exact vT) rfl)) ?_ ?_
      · exact Nat.zero_le _
      intro i hi
      have hml := mixB_len cs l i hi
      rcases Nat.lt_or_ge i l.length with hil | hil
      · obtain ⟨x, hx'⟩ : ∃ x, l[i]? = some x := ⟨_, List.getElem?_eq_getElem hil⟩
        have hin := hL x (List.mem_of_getElem? hx')
        have r6 := PMap_fn cs x.2.1 1 (by omega) hno (by omega) (.inr rfl)
        have hg := mixB_get (cs := cs) hx'
        have hst := mixB_set (cs := cs) hx'
        obtain ⟨a, b, c, d⟩ := x
        have hmod : ∀ F : D → D, F (bkD (a, b, c, d)) = bkD (shB cs (a, b, c, d)) → ((mixB cs l i).map bkD).modify i F = (mixB cs l (i + 1)).map bkD := by
          intro F hF
          rw [modify_at F (x := bkD (a, b, c, d)) (by rw [List.getElem?_map, hg]; rfl), hF, ← hst, List.map_set]
        (repeat' (first | (with_reducible first | exact True.intro | refine vD ?_ | refine vG ?_ | refine vE ?_) | (with_reducible refine elX.is i _ (by omega) hg ?_) | with_reducible refine vC (r6) ?_ | with_reducible refine vQ (r6) ?_ | refine vR ?_ | refine v6 ?_ | with_reducible refine vN ?_ | ((with_reducible first | refine vB (fun h => ?_) (fun h => ?_) | refine vM (fun h => ?_) (fun h => ?_)) <;> (first | (exfalso; omega) | skip))))
        rw [hmod _ rfl]
        refine AgW.go (i + 1) [1, 6, 7, 41, 42] (by exact vT) ?_ ?_
        · show l.length - (i + 1) < l.length - i
          omega
        · show i + 1 ≤ l.length
          omega
      · have hm : mixB cs l i = l.map (shB cs) := by
          unfold mixB
          rw [List.take_of_length_le hil, List.drop_of_length_le hil, List.append_nil]
        rw [bshS, hm]
        generalize l.map (shB cs) = LS at *
        (refine' zg1 r3)
        refine CallW.frz 0 rfl ?_
        refine vR ?_
        rw [List.take_of_length_le (by rw [List.length_map]; omega), if_pos (by omega)]
        refine vC r5 ?_
        (refine' zo)
    · rw [he] at hq1
      (repeat' (first | (with_reducible first | exact True.intro | refine vD ?_ | refine vG ?_ | refine vE ?_) | with_reducible refine vC (r1) ?_ | with_reducible refine vC (r2) ?_ | with_reducible refine vC (r3) ?_ | with_reducible refine vK (r4) ?_ | (with_reducible refine elX.is (cs.length - 1) _ (by omega) hx ?_) | refine vR ?_ | refine v6 ?_ | with_reducible refine vN ?_ | ((with_reducible first | refine vB (fun h => ?_) (fun h => ?_) | refine vM (fun h => ?_) (fun h => ?_)) <;> (first | (exfalso; omega) | skip))))
      refine vL (lv := [0, 1, 4, 5, 6, 7, 8, 11, 15, 41, 42, 43]) mixed (bshS n cs l) (fun i => i ≤ l.length) (fun i => l.length - i) (0) ((GhW.go [1, 6, 7, 41, 42] (by exact vT) rfl)) ?_ ?_
      · exact Nat.zero_le _
      intro i hi
      have hml := mixB_len cs l i hi
      rcases Nat.lt_or_ge i l.length with hil | hil
      · obtain ⟨x, hx'⟩ : ∃ x, l[i]? = some x := ⟨_, List.getElem?_eq_getElem hil⟩
        have hin := hL x (List.mem_of_getElem? hx')
        have r6 := PMap_fn cs x.2.1 1 (by omega) hno (by omega) (.inr rfl)
        have hg := mixB_get (cs := cs) hx'
        have hst := mixB_set (cs := cs) hx'
        obtain ⟨a, b, c, d⟩ := x
        have hmod : ∀ F : D → D, F (bkD (a, b, c, d)) = bkD (shB cs (a, b, c, d)) → ((mixB cs l i).map bkD).modify i F = (mixB cs l (i + 1)).map bkD := by
          intro F hF
          rw [modify_at F (x := bkD (a, b, c, d)) (by rw [List.getElem?_map, hg]; rfl), hF, ← hst, List.map_set]
        (repeat' (first | (with_reducible first | exact True.intro | refine vD ?_ | refine vG ?_ | refine vE ?_) | (with_reducible refine elX.is i _ (by omega) hg ?_) | with_reducible refine vC (r6) ?_ | with_reducible refine vQ (r6) ?_ | refine vR ?_ | refine v6 ?_ | with_reducible refine vN ?_ | ((with_reducible first | refine vB (fun h => ?_) (fun h => ?_) | refine vM (fun h => ?_) (fun h => ?_)) <;> (first | (exfalso; omega) | skip))))
        rw [hmod _ rfl]
        refine AgW.go (i + 1) [1, 6, 7, 41, 42] (by exact vT) ?_ ?_
        · show l.length - (i + 1) < l.length - i
          omega
        · show i + 1 ≤ l.length
          omega
      · have hm : mixB cs l i = l.map (shB cs) := by
          unfold mixB
          rw [List.take_of_length_le hil, List.drop_of_length_le hil, List.append_nil]
        rw [bshS, hm]
        generalize l.map (shB cs) = LS at *
        (refine' zg1 r3)
        refine CallW.frz 0 rfl ?_
        refine vR ?_
        rw [List.take_of_length_le (by rw [List.length_map]; omega), if_pos (by omega)]
        refine vC r5 ?_
        (refine' zo)
end Go.Proofs.YthjjncooaahejaaGreatDoor
set_option linter.unusedSimpArgs false
set_option linter.unusedVariables false
set_option maxRecDepth 8000
namespace Go.Proofs.YthjjncooaahejaaGreatDoor
def db1 (n : Int) (l : List Bk) (cs : List Ch) (i : Nat) : St := ⟨[(1, chL cs), (2, .po 0 0), (4, .po 1 0), (5, iv (n + delta (cs.take i))), (6, iv (prevC cs i).2.1), (18, chL cs), (19, iv cs.length), (20, iv i)], [(0, .cell [iv n, bkL l, iv 0]), (1, .cell [iv 0, .d nilSD, iv 0])], 2⟩
def db2 (n : Int) (l : List Bk) (cs : List Ch) (x : Nat × List Bk) : St := ⟨[(1, chL cs), (4, .po 0 0), (5, iv (n + delta cs)), (9, .so 1 4 0 x.2.length), (55, bkL l), (56, iv l.length), (57, iv x.1)], [(0, .cell [iv 0, .d nilSD, iv 0]), (1, bkR x.2)], 2⟩
attribute [push_cast] db1.eq_def db2.eq_def
theorem bound_take {cs : List Ch} (hb : ∀ c ∈ cs, boundC c) (i : Nat) : -1099511627776 * (cs.take i).length ≤ delta (cs.take i) ∧ delta (cs.take i) ≤ 1099511627776 * (cs.take i).length := delta_bound fun c hc => hb c (List.mem_of_mem_take hc)
def dsV (n : Int) (cs : List Ch) (l : List Bk) : V := if shE41 n cs = 0 then dnV (n + delta cs) (l.map (shB cs)) else .d (.agg [iD 0, nilSD, iD (shE41 n cs)])
set_option maxHeartbeats 6400000 in
theorem dShift_fn (n : Int) (cs : List Ch) (l : List Bk) (hc : cs.length ≤ 100) (hn : 0 ≤ n ∧ n ≤ 1099511627776) (hl : l.length ≤ 60) (hL : ∀ x ∈ l, 0 ≤ x.2.1 ∧ x.2.1 ≤ n) :
    OFn Tryz.prog G0 11 [.d (.agg [iD n, .sd 4 false (l.map bkD), iD 0]), chL cs] [] 0 (dsV n cs l) [] := by
  have r1 := RNormal_fn cs (by omega)
  cases hno : normal cs with
  | false =>
    have e : shE41 n cs = 4 := by unfold shE41; rw [hno]; rfl
    rw [hno] at r1
    rw [dsV, e, if_neg (by decide)]
    refine vF mixed [0, 1, 2, 4, 5, 6, 8, 9, 11, 14, 18, 19, 20, 21, 52, 55, 56, 57, 58] Tryz.func11 rfl Tryz.results11 Tryz.ntmps11 ?_
    (refine' zo1 r1)
  | true =>
    have hb : ∀ c ∈ cs, boundC c := normF_bound cs _ _ hno
    have hd := delta_bound hb
    have hd0 : delta [] = 0 := rfl
    have hp0 : (prevC cs 0).2.1 = 0 := rfl
    rw [hno] at r1
    refine vF mixed [0, 1, 2, 4, 5, 6, 8, 9, 11, 14, 18, 19, 20, 21, 52, 55, 56, 57, 58] Tryz.func11 rfl Tryz.results11 Tryz.ntmps11 ?_
    (refine' zg1 r1)
    refine vL (lv := [0, 1, 2, 4, 5, 6, 8, 9, 11, 14, 18, 19, 20, 21, 52, 55, 56, 57, 58]) mixed (db1 n l cs) (fun i => i ≤ cs.length) (fun i => cs.length - i) (0) ((GhW.go [1, 2, 4, 5, 6, 18, 19, 20] (by exact vT) rfl)) ?_ ?_
    · exact Nat.zero_le _
    intro i hi
    rcases Nat.lt_or_ge i cs.length with hil | hil
    · obtain ⟨c, hx⟩ : ∃ c, cs[i]? = some c := ⟨_, List.getElem?_eq_getElem hil⟩
      have hbc := hb c (List.mem_of_getElem? hx)
      have hbt := bound_take hb i
      rw [List.length_take, Nat.min_eq_left hi] at hbt
      unfold boundC at hbc
      have hp1 := prevC_succ hx
      have hd1 : delta (cs.take (i + 1)) = delta (cs.take i) + ((c.2.2.2 - c.2.2.1) - (c.2.1 - c.1)) := by rw [delta_take hx, deltaC]
      (refine' zg)
      refine elX.is i c (by omega) hx ?_
      (refine' zg)
      refine AgW.go (i + 1) [1, 2, 4, 5, 6, 18, 19, 20] (by rw [db1, hp1, hd1]; exact vT) ?_ ?_
      · show cs.length - (i + 1) < cs.length - i
        omega
      · show i + 1 ≤ cs.length
        omega
    · obtain rfl : i = cs.length := by omega
      have hlt : lastTo cs = (prevC cs cs.length).2.1 := rfl
      rw [db1, List.take_length, ← hlt]
      by_cases hq : n < lastTo cs ∨ 1099511627776 < n + delta cs
      · have e : shE41 n cs = 1 := by unfold shE41; rw [if_pos hno, if_pos hq]
        rw [dsV, e, if_neg (by decide)]
        (refine' zo)
      · have e : shE41 n cs = 0 := by unfold shE41; rw [if_pos hno, if_neg hq]
        rw [dsV, e, if_pos rfl]
        have r5 := dNew_any (n + delta cs) (l.map (shB cs)) (by rw [List.length_map]; omega)
        obtain ⟨a5, b5, c5, h5⟩ := dnV_d (n + delta cs) (l.map (shB cs))
        rw [h5] at r5 ⊢
        have hlm : (l.map (shB cs)).length = l.length := List.length_map _
        (refine' zg)
        refine vL (lv := [0, 1, 2, 4, 5, 6, 8, 9, 11, 14, 18, 19, 20, 21, 52, 55, 56, 57, 58]) mixed (db2 n l cs) (fun x => x.1 ≤ l.length ∧ x.2 = (l.take x.1).map (shB cs)) (fun x => l.length - x.1) ((0, [])) (GhW.nil 9 4 <| (GhW.go [1, 4, 5, 9, 55, 56, 57] (by exact vT) rfl)) ?_ ?_
        · exact ⟨Nat.zero_le _, rfl⟩
        rintro ⟨j, es⟩ ⟨hj, he⟩
        simp only at hj he
        have hel : es.length = j := by rw [he, List.length_map, List.length_take]; omega
        rcases Nat.lt_or_ge j l.length with hjl | hjl
        · obtain ⟨x, hx⟩ : ∃ x, l[j]? = some x := ⟨_, List.getElem?_eq_getElem hjl⟩
          have hin := hL x (List.mem_of_getElem? hx)
          have r6 := RMap_fn cs x.2.1 1 (by omega) hb (by omega)
          rw [map_eq x.2.1 1 cs 0 false _ hno] at r6
          have hsn : (l.take (j + 1)).map (shB cs) = es ++ [shB cs x] := by rw [take_snoc' hx, List.map_append, ← he]; rfl
          obtain ⟨a, b, c, d⟩ := x
          (refine' zgE hx)
          (refine' zg1 r6)
          rw [show es.map bkD ++ [D.agg [iD a, iD (pmapG b 1 0 cs), iD c, D.lit (Value.bool d)]] = (es ++ [shB cs (a, b, c, d)]).map bkD from snoc_bk es (shB cs (a, b, c, d)), List.length_map]
          refine AgW.go ((j + 1, es ++ [shB cs (a, b, c, d)])) [1, 4, 5, 9, 55, 56, 57] (by exact vT) ?_ ?_
          · show l.length - (j + 1) < l.length - j
            omega
          · exact ⟨by show j + 1 ≤ l.length; omega, hsn.symm⟩
        · rw [List.take_of_length_le hjl] at he
          rw [← he] at r5 h5 hlm
          (refine' zg)
          refine CallW.frz 1 rfl ?_
          refine vR ?_
          rw [List.take_of_length_le (by rw [List.length_map]; omega)]
          refine vC r5 ?_
          (refine' zo)
def bsV (n : Int) (cs : List Ch) (l : List Bk) : V := if shE41 n cs = 0 then bnV (n + delta cs) (l.map (shB cs)) else .tup [.d (.lit (.pointer none)), iv (shE41 n cs)]
theorem bShift_fn (n : Int) (cs : List Ch) (l : List Bk) (hc : cs.length ≤ 100) (hn : 0 ≤ n ∧ n ≤ 1099511627776) (hl : l.length ≤ 60) (hL : ∀ x ∈ l, 0 ≤ x.2.1 ∧ x.2.1 ≤ n) : OFn Tryz.prog G0 10 [.d (bkSetD n l), chL cs] [] 0 (bsV n cs l) [] := by
  unfold bsV
  split
  · rename_i h; exact bShift_ok n cs l hc hn hl hL h
  · rename_i h; exact bShift_no n cs l hc hn h
theorem lawBlocksShift_fn (n : Int) (l : List Bk) (cs : List Ch) (hd : OFn Tryz.prog G0 5 [] [] 0 (bv true) []) (hmx : l.length ≤ 9223372036854775807) (hcx : cs.length ≤ 9223372036854775807) : OFn Tryz.prog G0 4 [iv n, bkL l, chL cs] [] 0 (bv true) [] := by
  by_cases h1 : 60 < l.length ∨ 100 < cs.length
  · refine vF mixed [0, 1, 2, 6, 7, 8, 9, 10, 11, 19, 35, 37] Tryz.func4 rfl Tryz.results4 Tryz.ntmps4 ?_
    (refine' zo1 hd)
  have r1 := bNew_any n l hmx
  have r2 := refs41_fn l (by omega)
  have r3 := dNew_any n l hmx
  by_cases he : nwE n l = 0
  · obtain ⟨hn, hin, hlen⟩ := insF_in he
    rw [bnV, if_pos he] at r1
    rw [dnV, if_pos he] at r3
    have r4 := is41_ok n (insF ltB l) (by omega)
    have r5 := bShift_fn n cs (insF ltB l) (by omega) hn hlen hin
    have r6 := changes_fn cs (by omega)
    have r7 := dShift_fn n cs (insF ltB l) (by omega) hn hlen hin
    generalize insF ltB l = ys at *
    by_cases hs : shE41 n cs = 0
    · rw [bsV, if_pos hs] at r5
      rw [dsV, if_pos hs] at r7
      have hml : (ys.map (shB cs)).length ≤ 60 := by rw [List.length_map]; exact hlen
      generalize ys.map (shB cs) = zs at *
      by_cases hz : nwE (n + delta cs) zs = 0
      · rw [bnV, if_pos hz] at r5
        rw [dnV, if_pos hz] at r7
        have r8 := is41_ok (n + delta cs) (insF ltB zs) (by rw [insF_len ltB zs.reverse zs (by simp)]; omega)
        generalize insF ltB zs = ws at *
        simp only [bkSetD] at *
        refine vF mixed [0, 1, 2, 6, 7, 8, 9, 10, 11, 19, 35, 37] Tryz.func4 rfl Tryz.results4 Tryz.ntmps4 ?_
        (refine' zo9 hd r1 r2 r3 r4 r5 r6 r7 r8)
      · rw [bnV, if_neg hz] at r5
        rw [dnV, if_neg hz] at r7
        have r8 := is41_no _ hz
        generalize nwE (n + delta cs) zs = k at *
        simp only [bkSetD] at *
        refine vF mixed [0, 1, 2, 6, 7, 8, 9, 10, 11, 19, 35, 37] Tryz.func4 rfl Tryz.results4 Tryz.ntmps4 ?_
        (refine' zo9 hd r1 r2 r3 r4 r5 r6 r7 r8)
    · rw [bsV, if_neg hs] at r5
      rw [dsV, if_neg hs] at r7
      have r8 := is41_no _ hs
      generalize shE41 n cs = k at *
      simp only [bkSetD] at *
      refine vF mixed [0, 1, 2, 6, 7, 8, 9, 10, 11, 19, 35, 37] Tryz.func4 rfl Tryz.results4 Tryz.ntmps4 ?_
      (refine' zo9 hd r1 r2 r3 r4 r5 r6 r7 r8)
  · rw [bnV, if_neg he] at r1
    rw [dnV, if_neg he] at r3
    have r4 := is41_no _ he
    generalize nwE n l = k at *
    refine vF mixed [0, 1, 2, 6, 7, 8, 9, 10, 11, 19, 35, 37] Tryz.func4 rfl Tryz.results4 Tryz.ntmps4 ?_
    (refine' zo5 hd r1 r2 r3 r4)
end Go.Proofs.YthjjncooaahejaaGreatDoor
