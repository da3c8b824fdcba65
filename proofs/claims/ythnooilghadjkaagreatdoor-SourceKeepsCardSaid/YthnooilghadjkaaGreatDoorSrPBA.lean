/- What the theorem leans on, part 27. -/
import Derived.Test.YthnooilghadjkaaGreatDoorSrPAA
import Derived.Test.YthnooilghadjkaaGreatDoorSrPAB
import Derived.Test.YthnooilghadjkaaGreatDoorSrPAC
import Derived.Test.YthnooilghadjkaaGreatDoorSrPAD
import Derived.Test.YthnooilghadjkaaGreatDoorSrPAE
import Derived.Test.YthnooilghadjkaaGreatDoorSrPAF
import Derived.Test.YthnooilghadjkaaGreatDoorSrPAG
import Derived.Test.YthnooilghadjkaaGreatDoorSrPAH
import Derived.Test.YthnooilghadjkaaGreatDoorSrPAI
import Derived.Test.YthnooilghadjkaaGreatDoorSrPAJ
import Derived.Test.YthnooilghadjkaaGreatDoorSrPAK
import Derived.Test.YthnooilghadjkaaGreatDoorSrPAL
import Derived.Test.YthnooilghadjkaaGreatDoorSrPAM
import Derived.Test.YthnooilghadjkaaGreatDoorSrPAN
import Derived.Test.YthnooilghadjkaaGreatDoorSrPAO
import Derived.Test.YthnooilghadjkaaGreatDoorSrPAP
import Derived.Test.YthnooilghadjkaaGreatDoorSrPAQ
import Derived.Test.YthnooilghadjkaaGreatDoorSrPAR
import Derived.Test.YthnooilghadjkaaGreatDoorSrPAW
set_option linter.unusedSimpArgs false
set_option linter.unusedVariables false
set_option maxRecDepth 8000
namespace Go.Proofs.YthnooilghadjkaaGreatDoor
section
variable {s : ByteArray} {L : List Iy} {H : List Sn} {N : Int}
theorem lawSourceKeeps_z (hm : OFn Tryz.prog G0 15 [txV s L H N] [] 0 (.tup [.d zeroT, .d zeroW, bv false]) []) (hn : OFn Tryz.prog G0 16 [txV s L H N] [] 0 (bv true) []) : OFn Tryz.prog G0 6 [txV s L H N] [] 0 (bv true) [] := by
  refine vF mixed [0, 1, 2, 3, 4, 5, 6, 7, 8, 9, 10, 12, 13, 14, 15, 16, 18, 31, 46, 47, 48, 49, 50, 55, 60, 61, 62, 63, 68, 76, 77, 78, 79, 84, 85, 86, 87, 105] Tryz.func6 rfl Tryz.results6 Tryz.ntmps6 ?_
  (refine' zo3 hm hn joined_run)
theorem lawSourceKeeps_e {l : List Int} {t : Option T} {e : Int} (hm : OFn Tryz.prog G0 15 [txV s L H N] [] 0 (.tup [.d (.agg [ropeD t, nilD, .sd 2 false (H.map snD)]), .d (.agg [.sd 1 false (l.map ruD), iD 0, nilSD, iD e, .sd 2 false (H.map snD)]), bv false]) []) (hn : OFn Tryz.prog G0 16 [txV s L H N] [] 0 (bv true) []) : OFn Tryz.prog G0 6 [txV s L H N] [] 0 (bv true) [] := by
  refine vF mixed [0, 1, 2, 3, 4, 5, 6, 7, 8, 9, 10, 12, 13, 14, 15, 16, 18, 31, 46, 47, 48, 49, 50, 55, 60, 61, 62, 63, 68, 76, 77, 78, 79, 84, 85, 86, 87, 105] Tryz.func6 rfl Tryz.results6 Tryz.ntmps6 ?_
  (refine' zo3 hm hn joined_run)
theorem visR_len (l : List Int) (H : List Sn) : ∀ d a : Nat, (visR l H d a).length ≤ d
  | 0, a => Nat.le_refl _
  | d + 1, a => by
    have := visR_len l H d (a + 1)
    rw [visR, List.length_append]
    split
    · cases l[a]? <;> simp <;> omega
    · simp; omega
def skO (s : ByteArray) (L : List Iy) (H : List Sn) (N : Int) (Ls : List (Nat × Nat)) (l : List Int) (n : Int) (M : List Iy) (x : Nat × List Int) : St :=
  ⟨[(1, .po 0 0), (4, .po 1 0), (8, .so 2 1 0 x.2.length), (47, .d (.sd 3 false (Ls.map (lnD l M H)))), (48, iv Ls.length), (49, iv x.1)], [(0, tcC s L H N), (1, dtC l n M H), (2, .row 1 (x.2.map ruD))], 3⟩
def skP (s : ByteArray) (L : List Iy) (H : List Sn) (N : Int) (Ls : List (Nat × Nat)) (l : List Int) (n : Int) (M : List Iy) (i : Nat) (ps : List Pz) (x : Nat × List Int) : St :=
  ⟨[(1, .po 0 0), (4, .po 1 0), (8, .so 2 1 0 x.2.length), (47, .d (.sd 3 false (Ls.map (lnD l M H)))), (48, iv Ls.length), (49, iv i), (60, .d (.sd 3 false (ps.map pzD))), (61, iv ps.length), (62, iv x.1)], [(0, tcC s L H N), (1, dtC l n M H), (2, .row 1 (x.2.map ruD))], 3⟩
def skW (s : ByteArray) (L : List Iy) (H : List Sn) (N : Int) (l tot : List Int) (x : Nat × List Int) : St :=
  ⟨[(1, .po 0 0), (8, .so 1 1 0 tot.length), (13, .so 2 1 0 x.2.length), (76, ruL l), (77, iv l.length), (78, iv x.1)], [(0, tcC s L H N), (1, .row 1 (tot.map ruD)), (2, .row 1 (x.2.map ruD))], 3⟩
def skH (s : ByteArray) (L : List Iy) (H : List Sn) (N : Int) (l tot : List Int) (k : Nat) (r : Int) (want : List Int) (x : Nat × Bool) : St :=
  ⟨[(1, .po 0 0), (8, .so 1 1 0 tot.length), (13, .so 2 1 0 want.length), (14, iv k), (15, rv r), (16, bv x.2), (76, ruL l), (77, iv l.length), (78, iv k), (84, .d (.sd 2 false (H.map snD))), (85, iv H.length), (86, iv x.1)], [(0, tcC s L H N), (1, .row 1 (tot.map ruD)), (2, .row 1 (want.map ruD))], 3⟩
attribute [push_cast] skO.eq_def skP.eq_def skW.eq_def skH.eq_def
structure SkP (l : List Int) (M : List Iy) (H : List Sn) (Ls : List (Nat × Nat)) (tot : List Int) (x : Nat × List Int) : Prop where
  le : x.1 ≤ Ls.length
  fin : x.2 ++ (if x.1 = 0 then jn l M H Ls else jn2 l M H (Ls.drop x.1)) = tot
set_option maxHeartbeats 6400000 in
theorem lawSourceKeeps_m {l : List Int} {ps : List (List Int)} {t : Option T} (R : Rp l ps t) (n : Int) {M : List Iy} (g : GdI M) (hH : H.length ≤ 100)
    (hm : OFn Tryz.prog G0 15 [txV s L H N] [] 0 (.tup [txD t n (inlL M) H, dtV l n M H, bv true]) []) : OFn Tryz.prog G0 6 [txV s L H N] [] 0 (bv true) [] := by
  have hlen := R.len
  have r2 := dRight_fn l n M H (by omega) (by omega)
  cases hok : okT' l.length n H with
  | false =>
    rw [hok] at r2
    refine vF mixed [0, 1, 2, 3, 4, 5, 6, 7, 8, 9, 10, 12, 13, 14, 15, 16, 18, 31, 46, 47, 48, 49, 50, 55, 60, 61, 62, 63, 68, 76, 77, 78, 79, 84, 85, 86, 87, 105] Tryz.func6 rfl Tryz.results6 Tryz.ntmps6 ?_
    (refine' zo3 hm r2 joined_run)
  | true =>
    have hr := (okT_rgt hok).1
    have gl := g.len
    rw [hok] at r2
    have r3 := sAll_fn R n M (by omega) (fun y hy => ⟨g.at' y hy, g.sz y hy⟩) H (by omega) hok
    have hLs := lines_beg l H _ 0 (Nat.le_refl _) (Nat.zero_le _) (.inl rfl)
    have hll := linesP_len l H 0 (Nat.zero_le _)
    have hjn := jn_lines g.so hr _ 0 (Nat.le_refl _) (Nat.zero_le _) (.inl rfl)
    rw [Nat.sub_zero] at hjn
    have htl := visR_len l H l.length 0
    have hne : 0 < (linesP l H 0).length := by rw [linesP]; simp
    generalize linesP l H 0 = Ls at *
    obtain ⟨tot, htot⟩ : ∃ tot, tot = visR l H l.length 0 := ⟨_, rfl⟩
    rw [← htot] at hjn htl
    have r6 := Runes2_fn tot (by omega)
    refine vF mixed [0, 1, 2, 3, 4, 5, 6, 7, 8, 9, 10, 12, 13, 14, 15, 16, 18, 31, 46, 47, 48, 49, 50, 55, 60, 61, 62, 63, 68, 76, 77, 78, 79, 84, 85, 86, 87, 105] Tryz.func6 rfl Tryz.results6 Tryz.ntmps6 ?_
    (refine' zo4 hm r3 r2 joined_run)
    refine vL (lv := [0, 1, 2, 3, 4, 5, 6, 7, 8, 9, 10, 12, 13, 14, 15, 16, 18, 31, 46, 47, 48, 49, 50, 55, 60, 61, 62, 63, 68, 76, 77, 78, 79, 84, 85, 86, 87, 105]) mixed (skO s L H N Ls l n M) (SkP l M H Ls tot) (fun x => Ls.length - x.1) ((0, [])) (GhW.nil 8 1 <| (GhW.go [1, 4, 8, 47, 48, 49] (by exact vT) rfl)) ?_ ?_
    · exact ⟨Nat.zero_le _, hjn⟩
    rintro ⟨i, all⟩ ⟨h1, h2⟩
    simp only at h1 h2
    have hal : all.length ≤ tot.length := by rw [← h2, List.length_append]; omega
    rcases Nat.lt_or_ge i Ls.length with hlt | hge
    · obtain ⟨x, hx⟩ : ∃ x, Ls[i]? = some x := ⟨_, List.getElem?_eq_getElem hlt⟩
      obtain ⟨g1, g2, g3⟩ := hLs x (List.mem_of_getElem? hx)
      have gz := runP_all g.so (by omega) (by omega) hr g.sz g.nb g1 g3
      rw [← g2] at gz
      have hD : lnD l M H x = liD (runP l M x.2 x.1 H) x.1 x.2 := rfl
      have hnx : (if i = 0 then all else all ++ [10]) ++ (pls (runP l M x.2 x.1 H) ++ jn2 l M H (Ls.drop (i + 1))) = tot := by
        rw [← h2]
        by_cases h0 : i = 0
        · subst h0
          have : Ls = x :: Ls.drop 1 := by have := drop_is hx; simpa using this
          rw [if_pos rfl, if_pos rfl]
          conv => rhs; rw [this, jn]
        · rw [if_neg h0, if_neg h0, drop_is hx, jn2]; simp
      (refine' zg)
      refine elX.is i _ (by omega) hx ?_
      (refine' zg)
      · rw [if_neg (by omega)] at hnx
        rw [show all.map ruD ++ [D.lit (Value.int IntKind.i32 10)] = (all ++ [10]).map ruD from snoc_ru all 10, List.length_map]
        generalize all ++ [10] = al at *
        generalize runP l M x.2 x.1 H = rp at *
        refine vL (lv := [0, 1, 2, 3, 4, 5, 6, 7, 8, 9, 10, 12, 13, 14, 15, 16, 18, 31, 46, 47, 48, 49, 50, 55, 60, 61, 62, 63, 68, 76, 77, 78, 79, 84, 85, 86, 87, 105]) mixed (skP s L H N Ls l n M i rp) (fun y => y.1 ≤ rp.length ∧ y.2 ++ (pls (rp.drop y.1) ++ jn2 l M H (Ls.drop (i + 1))) = tot) (fun y => rp.length - y.1) ((0, al)) ((GhW.go [1, 4, 8, 47, 48, 49, 60, 61, 62] (by exact vT) rfl)) ?_ ?_
        · exact ⟨Nat.zero_le _, hnx⟩
        rintro ⟨j, out⟩ ⟨q1, q2⟩
        simp only at q1 q2
        have hol : out.length ≤ tot.length := by rw [← q2, List.length_append]; omega
        rcases Nat.lt_or_ge j rp.length with hjl | hjg
        · obtain ⟨z, hz⟩ : ∃ z, rp[j]? = some z := ⟨_, List.getElem?_eq_getElem hjl⟩
          rw [drop_is hz] at q2
          cases z with
          | tx kd a rs =>
            rw [pls] at q2
            have hrs := (gz.1 _ (List.mem_of_getElem? hz)).1.2.2
            by_cases hk : kd = 1
            · rw [if_pos hk] at q2
              (refine' zgE hz)
              refine AgW.go ((j + 1, out ++ rs)) [1, 4, 8, 47, 48, 49, 60, 61, 62] (by exact vT) ?_ ?_
              · show rp.length - (j + 1) < rp.length - j
                omega
              · exact ⟨hjl, by rw [← q2]; simp⟩
            · rw [if_neg hk, List.nil_append] at q2
              (refine' zgE hz)
              refine AgW.go ((j + 1, out)) [1, 4, 8, 47, 48, 49, 60, 61, 62] (by exact vT) ?_ ?_
              · show rp.length - (j + 1) < rp.length - j
                omega
              · exact ⟨hjl, q2⟩
          | fo a =>
            rw [pls] at q2
            (refine' zgE hz)
            refine AgW.go ((j + 1, out)) [1, 4, 8, 47, 48, 49, 60, 61, 62] (by exact vT) ?_ ?_
            · show rp.length - (j + 1) < rp.length - j
              omega
            · exact ⟨hjl, q2⟩
        · rw [List.drop_of_length_le hjg, pls, List.nil_append] at q2
          (refine' zg)
          refine AgW.go ((i + 1, out)) [1, 4, 8, 47, 48, 49] (by exact vT) ?_ ?_
          · show Ls.length - (i + 1) < Ls.length - i
            omega
          · exact ⟨hlt, by rw [if_neg (Nat.succ_ne_zero i)]; exact q2⟩
      · rw [if_pos (by omega)] at hnx
        generalize all = al at *
        generalize runP l M x.2 x.1 H = rp at *
        refine vL (lv := [0, 1, 2, 3, 4, 5, 6, 7, 8, 9, 10, 12, 13, 14, 15, 16, 18, 31, 46, 47, 48, 49, 50, 55, 60, 61, 62, 63, 68, 76, 77, 78, 79, 84, 85, 86, 87, 105]) mixed (skP s L H N Ls l n M i rp) (fun y => y.1 ≤ rp.length ∧ y.2 ++ (pls (rp.drop y.1) ++ jn2 l M H (Ls.drop (i + 1))) = tot) (fun y => rp.length - y.1) ((0, al)) ((GhW.go [1, 4, 8, 47, 48, 49, 60, 61, 62] (by exact vT) rfl)) ?_ ?_
        · exact ⟨Nat.zero_le _, hnx⟩
        rintro ⟨j, out⟩ ⟨q1, q2⟩
        simp only at q1 q2
        have hol : out.length ≤ tot.length := by rw [← q2, List.length_append]; omega
        rcases Nat.lt_or_ge j rp.length with hjl | hjg
        · obtain ⟨z, hz⟩ : ∃ z, rp[j]? = some z := ⟨_, List.getElem?_eq_getElem hjl⟩
          rw [drop_is hz] at q2
          cases z with
          | tx kd a rs =>
            rw [pls] at q2
            have hrs := (gz.1 _ (List.mem_of_getElem? hz)).1.2.2
            by_cases hk : kd = 1
            · rw [if_pos hk] at q2
              (refine' zgE hz)
              refine AgW.go ((j + 1, out ++ rs)) [1, 4, 8, 47, 48, 49, 60, 61, 62] (by exact vT) ?_ ?_
              · show rp.length - (j + 1) < rp.length - j
                omega
              · exact ⟨hjl, by rw [← q2]; simp⟩
            · rw [if_neg hk, List.nil_append] at q2
              (refine' zgE hz)
              refine AgW.go ((j + 1, out)) [1, 4, 8, 47, 48, 49, 60, 61, 62] (by exact vT) ?_ ?_
              · show rp.length - (j + 1) < rp.length - j
                omega
              · exact ⟨hjl, q2⟩
          | fo a =>
            rw [pls] at q2
            (refine' zgE hz)
            refine AgW.go ((j + 1, out)) [1, 4, 8, 47, 48, 49, 60, 61, 62] (by exact vT) ?_ ?_
            · show rp.length - (j + 1) < rp.length - j
              omega
            · exact ⟨hjl, q2⟩
        · rw [List.drop_of_length_le hjg, pls, List.nil_append] at q2
          (refine' zg)
          refine AgW.go ((i + 1, out)) [1, 4, 8, 47, 48, 49] (by exact vT) ?_ ?_
          · show Ls.length - (i + 1) < Ls.length - i
            omega
          · exact ⟨hlt, by rw [if_neg (Nat.succ_ne_zero i)]; exact q2⟩
    · have hpos : 0 < Ls.length := hne
      have hfin : all = tot := by
        rw [← h2, if_neg (by omega), List.drop_of_length_le hge, jn2, List.append_nil]
      subst hfin
      (refine' zg)
      refine vL (lv := [0, 1, 2, 3, 4, 5, 6, 7, 8, 9, 10, 12, 13, 14, 15, 16, 18, 31, 46, 47, 48, 49, 50, 55, 60, 61, 62, 63, 68, 76, 77, 78, 79, 84, 85, 86, 87, 105]) mixed (skW s L H N l all) (fun x => x.1 ≤ l.length ∧ x.2 = visR l H x.1 0) (fun x => l.length - x.1) ((0, [])) (GhW.nil 13 1 <| (GhW.go [1, 8, 13, 76, 77, 78] (by exact vT) rfl)) ?_ ?_
      · exact ⟨Nat.zero_le _, rfl⟩
      rintro ⟨k, want⟩ ⟨w1, w2⟩
      simp only at w1 w2
      have hwl : want.length ≤ k := by rw [w2]; exact visR_len l H k 0
      rcases Nat.lt_or_ge k l.length with hkl | hkg
      · obtain ⟨r, hrk⟩ : ∃ r, l[k]? = some r := ⟨_, List.getElem?_eq_getElem hkl⟩
        have hv : visR l H (k + 1) 0 = want ++ (if (hidO H k).isNone = true then [r] else []) := by
          rw [visR_app l H k 1 0, ← w2, Nat.zero_add]
          simp only [visR, hrk, Option.toList, List.append_nil]
        (refine' zgE hrk)
        refine vL (lv := [0, 1, 2, 3, 4, 5, 6, 7, 8, 9, 10, 12, 13, 14, 15, 16, 18, 31, 46, 47, 48, 49, 50, 55, 60, 61, 62, 63, 68, 76, 77, 78, 79, 84, 85, 86, 87, 105]) mixed (skH s L H N l all k r want) (fun x => x.1 ≤ H.length ∧ x.2 = (H.take x.1).any (inSp k)) (fun x => H.length - x.1) ((0, false)) ((GhW.go [1, 8, 13, 14, 15, 16, 76, 77, 78, 84, 85, 86] (by exact vT) rfl)) ?_ ?_
        · exact ⟨Nat.zero_le _, rfl⟩
        rintro ⟨j, b⟩ ⟨q1, q2⟩
        simp only at q1 q2
        rcases Nat.lt_or_ge j H.length with hjl | hjg
        · obtain ⟨y, hy⟩ : ∃ y, H[j]? = some y := ⟨_, List.getElem?_eq_getElem hjl⟩
          have hany : (H.take (j + 1)).any (inSp k) = (b || inSp k y) := by rw [take_snoc' hy, List.any_append, ← q2]; simp
          cases b with
          | true =>
            (refine' zgE hy)
            refine AgW.go ((j + 1, true)) [1, 8, 13, 14, 15, 16, 76, 77, 78, 84, 85, 86] (by exact vT) ?_ ?_
            · show H.length - (j + 1) < H.length - j
              omega
            · exact ⟨hjl, by rw [hany]; rfl⟩
          | false =>
            have hin := inSp_iff (i := k) (x := y)
            (refine' zgE hy)
            rw [show (decide (y.1 ≤ (k : Int)) && decide ((k : Int) < y.2)) = inSp k y from rfl]
            refine AgW.go ((j + 1, inSp k y)) [1, 8, 13, 14, 15, 16, 76, 77, 78, 84, 85, 86] (by exact vT) ?_ ?_
            · show H.length - (j + 1) < H.length - j
              omega
            · exact ⟨hjl, by rw [hany]; rfl⟩
        · rw [List.take_of_length_le hjg] at q2
          cases hh : hidO H k with
          | none =>
            have hb : b = false := by
              rw [q2, List.any_eq_false]
              intro y hy
              have := hidO_none hh y hy
              rw [inSp_iff]; exact this
            subst hb
            rw [hh, Option.isNone_none, if_pos rfl] at hv
            (refine' zg)
            rw [show want.map ruD ++ [D.lit (Value.int IntKind.i32 r)] = (want ++ [r]).map ruD from snoc_ru want r, List.length_map]
            refine AgW.go ((k + 1, want ++ [r])) [1, 8, 13, 76, 77, 78] (by exact vT) ?_ ?_
            · show l.length - (k + 1) < l.length - k
              omega
            · exact ⟨hkl, hv.symm⟩
          | some y =>
            have hb : b = true := by
              obtain ⟨k1, k2⟩ := hidO_some hh
              rw [q2, List.any_eq_true]
              exact ⟨y, k1, inSp_iff.2 k2⟩
            subst hb
            rw [hh] at hv
            simp only [Option.isNone_some, Bool.false_eq_true, if_false, List.append_nil] at hv
            (refine' zg)
            refine AgW.go ((k + 1, want)) [1, 8, 13, 76, 77, 78] (by exact vT) ?_ ?_
            · show l.length - (k + 1) < l.length - k
              omega
            · exact ⟨hkl, hv.symm⟩
      · have hk : k = l.length := by omega
        rw [hk, ← htot] at w2
        subst w2
        (refine' zg)
        refine CallW.frz 1 rfl ?_
        (refine' zg)
        refine CallW.frz 2 rfl ?_
        (refine' zo2 r6 joined_run)
end
end Go.Proofs.YthnooilghadjkaaGreatDoor
