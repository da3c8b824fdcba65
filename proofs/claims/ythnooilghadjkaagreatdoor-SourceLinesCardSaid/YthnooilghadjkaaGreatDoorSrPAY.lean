/- What the theorem leans on, part 25. -/
import Derived.Test.YthnooilghadjkaaGreatDoorSrPAA
import Derived.Test.YthnooilghadjkaaGreatDoorSrPAB
import Derived.Test.YthnooilghadjkaaGreatDoorSrPAC
import Derived.Test.YthnooilghadjkaaGreatDoorSrPAD
import Derived.Test.YthnooilghadjkaaGreatDoorSrPAE
import Derived.Test.YthnooilghadjkaaGreatDoorSrPAF
import Derived.Test.YthnooilghadjkaaGreatDoorSrPAG
import Derived.Test.YthnooilghadjkaaGreatDoorSrPAH
import Derived.Test.YthnooilghadjkaaGreatDoorSrPAI
import Derived.Test.YthnooilghadjkaaGreatDoorSrPAJ
import Derived.Test.YthnooilghadjkaaGreatDoorSrPAK
import Derived.Test.YthnooilghadjkaaGreatDoorSrPAL
import Derived.Test.YthnooilghadjkaaGreatDoorSrPAM
import Derived.Test.YthnooilghadjkaaGreatDoorSrPAN
import Derived.Test.YthnooilghadjkaaGreatDoorSrPAO
import Derived.Test.YthnooilghadjkaaGreatDoorSrPAP
import Derived.Test.YthnooilghadjkaaGreatDoorSrPAQ
import Derived.Test.YthnooilghadjkaaGreatDoorSrPAR
import Derived.Test.YthnooilghadjkaaGreatDoorSrPAW
set_option linter.unusedSimpArgs false
set_option linter.unusedVariables false
set_option maxRecDepth 8000
namespace Go.Proofs.YthnooilghadjkaaGreatDoor
section
variable {s : ByteArray} {L : List Iy} {H : List Sn} {N : Int}
theorem lawSourceLines_z (hm : OFn Tryz.prog G0 15 [txV s L H N] [] 0 (.tup [.d zeroT, .d zeroW, bv false]) []) (hn : OFn Tryz.prog G0 16 [txV s L H N] [] 0 (bv true) []) : OFn Tryz.prog G0 4 [txV s L H N] [] 0 (bv true) [] := by
  refine vF mixed [0, 1, 2, 3, 4, 5, 6, 7, 8, 9, 10, 11, 13, 21, 31, 62, 63, 64, 65, 66, 71, 72, 73, 74, 79, 101] Tryz.func4 rfl Tryz.results4 Tryz.ntmps4 ?_
  (refine' zo2 hm hn)
theorem lawSourceLines_e {l : List Int} {t : Option T} {e : Int} (hm : OFn Tryz.prog G0 15 [txV s L H N] [] 0 (.tup [.d (.agg [ropeD t, nilD, .sd 2 false (H.map snD)]), .d (.agg [.sd 1 false (l.map ruD), iD 0, nilSD, iD e, .sd 2 false (H.map snD)]), bv false]) []) (hn : OFn Tryz.prog G0 16 [txV s L H N] [] 0 (bv true) []) : OFn Tryz.prog G0 4 [txV s L H N] [] 0 (bv true) [] := by
  refine vF mixed [0, 1, 2, 3, 4, 5, 6, 7, 8, 9, 10, 11, 13, 21, 31, 62, 63, 64, 65, 66, 71, 72, 73, 74, 79, 101] Tryz.func4 rfl Tryz.results4 Tryz.ntmps4 ?_
  (refine' zo2 hm hn)
def slO (Ls : List (Nat × Nat)) (l : List Int) (M : List Iy) (H : List Sn) (i : Nat) : St := ⟨[(8, .d (.sd 3 false (Ls.map (lnD l M H)))), (63, .d (.sd 3 false (Ls.map (lnD l M H)))), (64, iv Ls.length), (65, iv i)], [], 0⟩
def slI (Ls : List (Nat × Nat)) (l : List Int) (M : List Iy) (H : List Sn) (i : Nat) (ps : List Pz) (a e : Nat) (x : Nat × Nat) : St :=
  ⟨[(8, .d (.sd 3 false (Ls.map (lnD l M H)))), (9, iv i), (10, .po 0 0), (11, iv x.2), (63, .d (.sd 3 false (Ls.map (lnD l M H)))), (64, iv Ls.length), (65, iv i), (71, .d (.sd 3 false (ps.map pzD))), (72, iv ps.length), (73, iv x.1)], [(0, liC ps a e)], 1⟩
attribute [push_cast] slO.eq_def slI.eq_def
set_option maxHeartbeats 6400000 in
theorem lawSourceLines_m {l : List Int} {ps : List (List Int)} {t : Option T} (R : Rp l ps t) (n : Int) {M : List Iy} (g : GdI M) (hH : H.length ≤ 100)
    (hm : OFn Tryz.prog G0 15 [txV s L H N] [] 0 (.tup [txD t n (inlL M) H, dtV l n M H, bv true]) []) : OFn Tryz.prog G0 4 [txV s L H N] [] 0 (bv true) [] := by
  have hlen := R.len
  have r2 := dRight_fn l n M H (by omega) (by omega)
  have r4 := sCheck_fn R n (inlL M) H (by omega)
  cases hok : okT' l.length n H with
  | false =>
    have r3 := sAll_bad R n (inlL M) H (by omega) hok
    rw [hok] at r2 r4
    refine vF mixed [0, 1, 2, 3, 4, 5, 6, 7, 8, 9, 10, 11, 13, 21, 31, 62, 63, 64, 65, 66, 71, 72, 73, 74, 79, 101] Tryz.func4 rfl Tryz.results4 Tryz.ntmps4 ?_
    (refine' zo5 hm r3 r2 r4 joined_run)
  | true =>
    have hr := (okT_rgt hok).1
    have gl := g.len
    rw [hok] at r2
    rw [hok, if_pos rfl] at r4
    have r3 := sAll_fn R n M (by omega) (fun y hy => ⟨g.at' y hy, g.sz y hy⟩) H (by omega) hok
    have r5 := dAll_fn l n M H (by omega) (by omega) (by omega) g.sz g.so hr
    have hLs := lines_beg l H _ 0 (Nat.le_refl _) (Nat.zero_le _) (.inl rfl)
    have hll := linesP_len l H 0 (Nat.zero_le _)
    generalize linesP l H 0 = Ls at *
    refine vF mixed [0, 1, 2, 3, 4, 5, 6, 7, 8, 9, 10, 11, 13, 21, 31, 62, 63, 64, 65, 66, 71, 72, 73, 74, 79, 101] Tryz.func4 rfl Tryz.results4 Tryz.ntmps4 ?_
    (refine' zo6 hm r3 r2 r4 r5 joined_run)
    refine vL (lv := [0, 1, 2, 3, 4, 5, 6, 7, 8, 9, 10, 11, 13, 21, 31, 62, 63, 64, 65, 66, 71, 72, 73, 74, 79, 101]) mixed (slO Ls l M H) (fun i => i ≤ Ls.length) (fun i => Ls.length - i) (0) ((GhW.go [8, 63, 64, 65] (by exact vT) rfl)) ?_ ?_
    · exact Nat.zero_le _
    intro i hi
    rcases Nat.lt_or_ge i Ls.length with hlt | hge
    · obtain ⟨x, hx⟩ : ∃ x, Ls[i]? = some x := ⟨_, List.getElem?_eq_getElem hlt⟩
      obtain ⟨h1, h2, h3⟩ := hLs x (List.mem_of_getElem? hx)
      have g3 := runP_all g.so (by omega) (by omega) hr g.sz g.nb h1 h3
      rw [← h2] at g3
      have hD : lnD l M H x = liD (runP l M x.2 x.1 H) x.1 x.2 := rfl
      (refine' zg)
      refine elX.is i _ (by omega) hx ?_
      (refine' zg)
      generalize hrp : runP l M x.2 x.1 H = rp at *
      have r7 := ref21_fn rp x.1 x.2 (by omega)
      have r8 := Same_fn rp x.1 x.2 (by omega) (fun k a rs h => by have := (g3.1 _ h).1.2.2; omega)
      have r9 := Size_fn rp x.1 x.2 g3.2 g3.1
      have hsz := szP_ok fun z hz => (g3.1 z hz).1
      refine vL (lv := [0, 1, 2, 3, 4, 5, 6, 7, 8, 9, 10, 11, 13, 21, 31, 62, 63, 64, 65, 66, 71, 72, 73, 74, 79, 101]) mixed (slI Ls l M H i rp x.1 x.2) (fun y => y.1 ≤ rp.length ∧ y.2 = szP (rp.take y.1)) (fun y => rp.length - y.1) ((0, 0)) ((GhW.go [8, 9, 10, 11, 63, 64, 65, 71, 72, 73] (by exact vT) rfl)) ?_ ?_
      · exact ⟨Nat.zero_le _, rfl⟩
      rintro ⟨j, m⟩ ⟨q1, q2⟩
      simp only at q1 q2
      have hb := szP_le (B := 1000000) (rp.take j) fun z hz => hsz z (List.mem_of_mem_take hz)
      rw [List.length_take, ← q2] at hb
      have hb2 : m ≤ 1000000 * 100000000 := Nat.le_trans hb (Nat.mul_le_mul_left _ (by omega))
      rcases Nat.lt_or_ge j rp.length with hjl | hjg
      · obtain ⟨z, hz⟩ : ∃ z, rp[j]? = some z := ⟨_, List.getElem?_eq_getElem hjl⟩
        have hzq := g3.1 z (List.mem_of_getElem? hz)
        have hst := szP_take hz
        rw [← q2] at hst
        cases z with
        | tx kd a rs =>
          have hk : kd ≠ 3 := by have := hzq.2.1; omega
          have hrl := hzq.1.2.2
          simp only [szP, Nat.add_zero] at hst
          (refine' zgE hz)
          refine AgW.go ((j + 1, m + rs.length)) [8, 9, 10, 11, 63, 64, 65, 71, 72, 73] (by exact vT) ?_ ?_
          · show rp.length - (j + 1) < rp.length - j
            omega
          · exact ⟨hjl, hst.symm⟩
        | fo a =>
          simp only [szP, Nat.add_zero] at hst
          (refine' zgE hz)
          refine AgW.go ((j + 1, m + 1)) [8, 9, 10, 11, 63, 64, 65, 71, 72, 73] (by exact vT) ?_ ?_
          · show rp.length - (j + 1) < rp.length - j
            omega
          · exact ⟨hjl, hst.symm⟩
      · rw [List.take_of_length_le hjg] at q2
        subst q2
        (refine' zg2 r7 r9)
        refine elX.is i _ (by omega) hx ?_
        rw [hD]
        (refine' zg3 r7 r8 r9)
        refine AgW.go (i + 1) [8, 63, 64, 65] (by exact vT) ?_ ?_
        · show Ls.length - (i + 1) < Ls.length - i
          omega
        · show i + 1 ≤ Ls.length
          omega
    · (refine' zo1 joined_run)
end
end Go.Proofs.YthnooilghadjkaaGreatDoor
