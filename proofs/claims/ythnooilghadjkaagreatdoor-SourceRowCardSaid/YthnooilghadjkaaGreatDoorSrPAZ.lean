/- What the theorem leans on, part 26. -/
import Derived.Test.YthnooilghadjkaaGreatDoorSrPAA
import Derived.Test.YthnooilghadjkaaGreatDoorSrPAB
import Derived.Test.YthnooilghadjkaaGreatDoorSrPAC
import Derived.Test.YthnooilghadjkaaGreatDoorSrPAD
import Derived.Test.YthnooilghadjkaaGreatDoorSrPAE
import Derived.Test.YthnooilghadjkaaGreatDoorSrPAF
import Derived.Test.YthnooilghadjkaaGreatDoorSrPAG
import Derived.Test.YthnooilghadjkaaGreatDoorSrPAH
import Derived.Test.YthnooilghadjkaaGreatDoorSrPAI
import Derived.Test.YthnooilghadjkaaGreatDoorSrPAJ
import Derived.Test.YthnooilghadjkaaGreatDoorSrPAK
import Derived.Test.YthnooilghadjkaaGreatDoorSrPAL
import Derived.Test.YthnooilghadjkaaGreatDoorSrPAM
import Derived.Test.YthnooilghadjkaaGreatDoorSrPAN
import Derived.Test.YthnooilghadjkaaGreatDoorSrPAO
import Derived.Test.YthnooilghadjkaaGreatDoorSrPAP
import Derived.Test.YthnooilghadjkaaGreatDoorSrPAQ
import Derived.Test.YthnooilghadjkaaGreatDoorSrPAR
import Derived.Test.YthnooilghadjkaaGreatDoorSrPAW
set_option linter.unusedSimpArgs false
set_option linter.unusedVariables false
set_option maxRecDepth 8000
namespace Go.Proofs.YthnooilghadjkaaGreatDoor
section
variable {s : ByteArray} {L : List Iy} {H : List Sn} {N : Int}
theorem lawSourceRow_z (hm : OFn Tryz.prog G0 15 [txV s L H N] [] 0 (.tup [.d zeroT, .d zeroW, bv false]) []) (hn : OFn Tryz.prog G0 16 [txV s L H N] [] 0 (bv true) []) : OFn Tryz.prog G0 5 [txV s L H N] [] 0 (bv true) [] := by
  refine vF mixed [0, 1, 2, 3, 4, 5, 6, 7, 8, 9, 11, 13, 26, 53, 54, 55, 56, 57, 81, 103, 105, 106, 107, 108, 112, 113, 114, 115, 124] Tryz.func5 rfl Tryz.results5 Tryz.ntmps5 ?_
  (refine' zo3 hm hn joined_run)
theorem lawSourceRow_e {l : List Int} {t : Option T} {e : Int} (hm : OFn Tryz.prog G0 15 [txV s L H N] [] 0 (.tup [.d (.agg [ropeD t, nilD, .sd 2 false (H.map snD)]), .d (.agg [.sd 1 false (l.map ruD), iD 0, nilSD, iD e, .sd 2 false (H.map snD)]), bv false]) []) (hn : OFn Tryz.prog G0 16 [txV s L H N] [] 0 (bv true) []) : OFn Tryz.prog G0 5 [txV s L H N] [] 0 (bv true) [] := by
  refine vF mixed [0, 1, 2, 3, 4, 5, 6, 7, 8, 9, 11, 13, 26, 53, 54, 55, 56, 57, 81, 103, 105, 106, 107, 108, 112, 113, 114, 115, 124] Tryz.func5 rfl Tryz.results5 Tryz.ntmps5 ?_
  (refine' zo3 hm hn joined_run)
theorem lines_at (l : List Int) (H : List Sn) : ∀ (d a : Nat), l.length - a ≤ d → a ≤ l.length → ∀ (i : Nat) x, (linesP l H a)[i]? = some x →
    (i = 0 → x.1 = a) ∧ (∀ (j : Nat) y, i = j + 1 → (linesP l H a)[j]? = some y → x.1 = y.2 + 1) ∧ (i + 1 < (linesP l H a).length → x.2 < l.length ∧ l[x.2]? = some 10) ∧ (i + 1 = (linesP l H a).length → x.2 = l.length)
  | d, a, hd, ha, i, x, hx => by
    have he := endP_in l H ha
    by_cases hlt : endP l H a < l.length
    · have hsh := endP_sh l H ha hlt
      have hL : linesP l H a = (a, endP l H a) :: linesP l H (endP l H a + 1) := by rw [linesP, dif_pos ⟨hlt, he.1⟩]
      have ih := lines_at l H (d - 1) (endP l H a + 1) (by omega) (by omega)
      have hpos : 0 < (linesP l H (endP l H a + 1)).length := by rw [linesP]; simp
      have h0 : ∃ e, (linesP l H (endP l H a + 1))[0]? = some (endP l H a + 1, e) := by rw [linesP]; exact ⟨_, rfl⟩
      rw [hL] at hx ⊢
      cases i with
      | zero =>
        simp only [List.getElem?_cons_zero, Option.some.injEq] at hx
        subst hx
        exact ⟨fun _ => rfl, fun j y h => by omega, fun _ => ⟨hlt, (shB_iff.1 hsh).1⟩, fun h => by rw [List.length_cons] at h; omega⟩
      | succ i =>
        rw [List.getElem?_cons_succ] at hx
        obtain ⟨q1, q2, q3, q4⟩ := ih i x hx
        refine ⟨fun h => by omega, fun j y h hy => ?_, fun h => q3 (by rw [List.length_cons] at h; omega), fun h => q4 (by rw [List.length_cons] at h; omega)⟩
        obtain rfl : j = i := by omega
        cases j with
        | zero =>
          simp only [List.getElem?_cons_zero, Option.some.injEq] at hy
          subst hy
          exact q1 rfl
        | succ j =>
          rw [List.getElem?_cons_succ] at hy
          exact q2 j y rfl hy
    · have hL : linesP l H a = [(a, endP l H a)] := by rw [linesP, dif_neg (by omega)]
      rw [hL] at hx ⊢
      cases i with
      | zero =>
        simp only [List.getElem?_cons_zero, Option.some.injEq] at hx
        subst hx
        exact ⟨fun _ => rfl, fun j y h => by omega, fun h => by simp at h, fun _ => by show endP l H a = l.length; omega⟩
      | succ i => simp at hx
  termination_by d => d
  decreasing_by all_goals omega
def srO (Ls : List (Nat × Nat)) (l : List Int) (n : Int) (M : List Iy) (H : List Sn) (i : Nat) : St := ⟨[(4, .po 0 0), (6, .d (.sd 3 false (Ls.map (lnD l M H)))), (54, .d (.sd 3 false (Ls.map (lnD l M H)))), (55, iv Ls.length), (56, iv i)], [(0, dtC l n M H)], 1⟩
def srP (Ls : List (Nat × Nat)) (l : List Int) (n : Int) (M : List Iy) (H : List Sn) (i : Nat) (ps : List Pz) (j : Nat) : St :=
  ⟨[(4, .po 0 0), (6, .d (.sd 3 false (Ls.map (lnD l M H)))), (54, .d (.sd 3 false (Ls.map (lnD l M H)))), (55, iv Ls.length), (56, iv i), (105, .d (.sd 3 false (ps.map pzD))), (106, iv ps.length), (107, iv j)], [(0, dtC l n M H)], 1⟩
def srR (Ls : List (Nat × Nat)) (l : List Int) (n : Int) (M : List Iy) (H : List Sn) (i : Nat) (ps : List Pz) (j : Nat) (kd a : Int) (rs : List Int) (k : Nat) : St :=
  ⟨[(4, .po 0 0), (6, .d (.sd 3 false (Ls.map (lnD l M H)))), (11, .po 1 0), (54, .d (.sd 3 false (Ls.map (lnD l M H)))), (55, iv Ls.length), (56, iv i), (105, .d (.sd 3 false (ps.map pzD))), (106, iv ps.length), (107, iv j), (112, ruL rs), (113, iv rs.length), (114, iv k)], [(0, dtC l n M H), (1, .cell [iv kd, iv a, ruL rs])], 2⟩
def srF (Ls : List (Nat × Nat)) (l : List Int) (n : Int) (M : List Iy) (H : List Sn) (i : Nat) (ps : List Pz) (j : Nat) (a : Int) : St :=
  ⟨[(4, .po 0 0), (6, .d (.sd 3 false (Ls.map (lnD l M H)))), (11, .po 1 0), (54, .d (.sd 3 false (Ls.map (lnD l M H)))), (55, iv Ls.length), (56, iv i), (105, .d (.sd 3 false (ps.map pzD))), (106, iv ps.length), (107, iv j), (112, .d nilSD), (113, iv 0), (114, iv 0)], [(0, dtC l n M H), (1, .cell [iv 3, iv a, .d nilSD])], 2⟩
attribute [push_cast] srO.eq_def srP.eq_def srR.eq_def srF.eq_def
set_option maxHeartbeats 6400000 in
theorem lawSourceRow_m {l : List Int} {ps : List (List Int)} {t : Option T} (R : Rp l ps t) (n : Int) {M : List Iy} (g : GdI M) (hH : H.length ≤ 100)
    (hm : OFn Tryz.prog G0 15 [txV s L H N] [] 0 (.tup [txD t n (inlL M) H, dtV l n M H, bv true]) []) : OFn Tryz.prog G0 5 [txV s L H N] [] 0 (bv true) [] := by
  have hlen := R.len
  have r2 := dRight_fn l n M H (by omega) (by omega)
  cases hok : okT' l.length n H with
  | false =>
    rw [hok] at r2
    refine vF mixed [0, 1, 2, 3, 4, 5, 6, 7, 8, 9, 11, 13, 26, 53, 54, 55, 56, 57, 81, 103, 105, 106, 107, 108, 112, 113, 114, 115, 124] Tryz.func5 rfl Tryz.results5 Tryz.ntmps5 ?_
    (refine' zo3 hm r2 joined_run)
  | true =>
    have hr := (okT_rgt hok).1
    have gl := g.len
    rw [hok] at r2
    have r3 := sAll_fn R n M (by omega) (fun y hy => ⟨g.at' y hy, g.sz y hy⟩) H (by omega) hok
    have hLs := lines_beg l H _ 0 (Nat.le_refl _) (Nat.zero_le _) (.inl rfl)
    have hll := linesP_len l H 0 (Nat.zero_le _)
    have hat := lines_at l H _ 0 (Nat.le_refl _) (Nat.zero_le _)
    have h0 : ∃ e, (linesP l H 0)[0]? = some (0, e) := by rw [linesP]; exact ⟨_, rfl⟩
    generalize linesP l H 0 = Ls at *
    obtain ⟨e0, h0⟩ := h0
    have hpos := (List.getElem?_eq_some_iff.1 h0).1
    refine vF mixed [0, 1, 2, 3, 4, 5, 6, 7, 8, 9, 11, 13, 26, 53, 54, 55, 56, 57, 81, 103, 105, 106, 107, 108, 112, 113, 114, 115, 124] Tryz.func5 rfl Tryz.results5 Tryz.ntmps5 ?_
    (repeat' (first | (with_reducible first | exact True.intro | refine vD ?_ | refine vG ?_ | refine vE ?_) | with_reducible refine vC (hm) ?_ | with_reducible refine vC (r3) ?_ | with_reducible refine vC (r2) ?_ | (with_reducible refine elX.is 0 _ (by first | rfl | omega) h0 ?_) | with_reducible refine vC (joined_run) ?_ | with_reducible refine DoneW.out ?_ | refine vR ?_ | refine v6 ?_ | with_reducible refine vN ?_ | ((with_reducible first | refine vB (fun h => ?_) (fun h => ?_) | refine vM (fun h => ?_) (fun h => ?_)) <;> (first | (exfalso; omega) | skip))))
    refine vL (lv := [0, 1, 2, 3, 4, 5, 6, 7, 8, 9, 11, 13, 26, 53, 54, 55, 56, 57, 81, 103, 105, 106, 107, 108, 112, 113, 114, 115, 124]) mixed (srO Ls l n M H) (fun i => i ≤ Ls.length) (fun i => Ls.length - i) (0) ((GhW.go [4, 6, 54, 55, 56] (by exact vT) rfl)) ?_ ?_
    · exact Nat.zero_le _
    intro i hi
    rcases Nat.lt_or_ge i Ls.length with hlt | hge
    · obtain ⟨x, hx⟩ : ∃ x, Ls[i]? = some x := ⟨_, List.getElem?_eq_getElem hlt⟩
      obtain ⟨h1, h2, h3⟩ := hLs x (List.mem_of_getElem? hx)
      obtain ⟨q1, q2, q3, q4⟩ := hat i x hx
      have g3 := runP_all g.so (by omega) (by omega) hr g.sz g.nb h1 h3
      have hxe := endP_in l H h1
      rw [← h2] at g3 hxe
      have hD : lnD l M H x = liD (runP l M x.2 x.1 H) x.1 x.2 := rfl
      have hy : ∀ j, i = j + 1 → ∃ y, Ls[j]? = some y ∧ x.1 = y.2 + 1 := fun j hj => by
        obtain ⟨y, hy⟩ : ∃ y, Ls[j]? = some y := ⟨_, List.getElem?_eq_getElem (by omega)⟩
        exact ⟨y, hy, q2 j y hj hy⟩
      obtain ⟨p, y, hyp, hy1⟩ : ∃ (p : Nat) (y : Nat × Nat), (0 < i → Ls[p]? = some y ∧ i = p + 1 ∧ x.1 = y.2 + 1) ∧ True := by
        cases i with
        | zero => exact ⟨0, (0, 0), fun h => by omega, trivial⟩
        | succ j =>
          obtain ⟨y, hy, e⟩ := hy j rfl
          exact ⟨j, y, fun _ => ⟨hy, rfl, e⟩, trivial⟩
      obtain ⟨c, hc⟩ : ∃ c : Int, i + 1 < Ls.length → l[x.2]? = some c ∧ c = 10 ∧ x.2 < l.length := by
        by_cases h : i + 1 < Ls.length
        · exact ⟨10, fun _ => ⟨(q3 h).2, rfl, (q3 h).1⟩⟩
        · exact ⟨0, fun h' => (h h').elim⟩
      have f1 : 0 < i → i = p + 1 ∧ x.1 = y.2 + 1 := fun h => (hyp h).2
      have f2 : i + 1 < Ls.length → c = 10 ∧ x.2 < l.length := fun h => (hc h).2
      (refine' zg)
      refine elX.is i _ (by omega) hx ?_
      (repeat' (first | (with_reducible first | exact True.intro | refine vD ?_ | refine vG ?_ | refine vE ?_) | (with_reducible refine elX.is p _ (by have := hyp (by omega); omega) (hyp (by omega)).1 ?_) | (with_reducible refine elX.is x.2 _ (by omega) (hc (by omega)).1 ?_) | refine vR ?_ | refine v6 ?_ | with_reducible refine vN ?_ | ((with_reducible first | refine vB (fun h => ?_) (fun h => ?_) | refine vM (fun h => ?_) (fun h => ?_)) <;> (first | (exfalso; omega) | skip))))
      all_goals first | (exfalso; omega) | skip
      all_goals
        generalize runP l M x.2 x.1 H = rp at *
        refine vL (lv := [0, 1, 2, 3, 4, 5, 6, 7, 8, 9, 11, 13, 26, 53, 54, 55, 56, 57, 81, 103, 105, 106, 107, 108, 112, 113, 114, 115, 124]) mixed (srP Ls l n M H i rp) (fun j => j ≤ rp.length) (fun j => rp.length - j) (0) ((GhW.go [4, 6, 54, 55, 56, 105, 106, 107] (by exact vT) rfl)) ?_ ?_
        · exact Nat.zero_le _
        intro j hj
        rcases Nat.lt_or_ge j rp.length with hjl | hjg
        · obtain ⟨z, hz⟩ : ∃ z, rp[j]? = some z := ⟨_, List.getElem?_eq_getElem hjl⟩
          have hzq := g3.1 z (List.mem_of_getElem? hz)
          cases z with
          | tx kd a rs =>
            have hrl := hzq.1.2.2
            have hnb := hzq.2.2
            (refine' zgE hz)
            refine vL (lv := [0, 1, 2, 3, 4, 5, 6, 7, 8, 9, 11, 13, 26, 53, 54, 55, 56, 57, 81, 103, 105, 106, 107, 108, 112, 113, 114, 115, 124]) mixed (srR Ls l n M H i rp j kd a rs) (fun k => k ≤ rs.length) (fun k => rs.length - k) (0) ((GhW.go [4, 6, 11, 54, 55, 56, 105, 106, 107, 112, 113, 114] (by exact vT) rfl)) ?_ ?_
            · exact Nat.zero_le _
            intro k hk
            rcases Nat.lt_or_ge k rs.length with hkl | hkg
            · obtain ⟨r, hr'⟩ : ∃ r, rs[k]? = some r := ⟨_, List.getElem?_eq_getElem hkl⟩
              have hr10 : r ≠ 10 := fun e => hnb (e ▸ List.mem_of_getElem? hr')
              (refine' zgE hr')
              all_goals first | (exfalso; omega) | skip
              all_goals
                refine AgW.go (k + 1) [4, 6, 11, 54, 55, 56, 105, 106, 107, 112, 113, 114] (by exact vT) ?_ ?_
                · show rs.length - (k + 1) < rs.length - k
                  omega
                · show k + 1 ≤ rs.length
                  omega
            · (refine' zg)
              refine AgW.go (j + 1) [4, 6, 54, 55, 56, 105, 106, 107] (by exact vT) ?_ ?_
              · show rp.length - (j + 1) < rp.length - j
                omega
              · show j + 1 ≤ rp.length
                omega
          | fo a =>
            (refine' zgE hz)
            refine vL (lv := [0, 1, 2, 3, 4, 5, 6, 7, 8, 9, 11, 13, 26, 53, 54, 55, 56, 57, 81, 103, 105, 106, 107, 108, 112, 113, 114, 115, 124]) mixed (fun _ : Unit => srF Ls l n M H i rp j a) (fun _ => True) (fun _ => 0) (()) ((GhW.go [4, 6, 11, 54, 55, 56, 105, 106, 107, 112, 113, 114] (by exact vT) rfl)) ?_ ?_
            · trivial
            rintro ⟨⟩ -
            (refine' zg)
            refine AgW.go (j + 1) [4, 6, 54, 55, 56, 105, 106, 107] (by exact vT) ?_ ?_
            · show rp.length - (j + 1) < rp.length - j
              omega
            · show j + 1 ≤ rp.length
              omega
        · (refine' zg)
          refine AgW.go (i + 1) [4, 6, 54, 55, 56] (by exact vT) ?_ ?_
          · show Ls.length - (i + 1) < Ls.length - i
            omega
          · show i + 1 ≤ Ls.length
            omega
    · obtain ⟨z, hz⟩ : ∃ z, Ls[Ls.length - 1]? = some z := ⟨_, List.getElem?_eq_getElem (by omega)⟩
      have hze := (hat _ z hz).2.2.2 (by omega)
      (refine' zg)
      refine elX.is (Ls.length - 1) _ (by omega) hz ?_
      rw [show lnD l M H z = .agg [.sd 3 false ((runP l M z.2 z.1 H).map pzD), iD z.1, iD z.2] from rfl, hze]
      (refine' zo1 joined_run)
end
end Go.Proofs.YthnooilghadjkaaGreatDoor
