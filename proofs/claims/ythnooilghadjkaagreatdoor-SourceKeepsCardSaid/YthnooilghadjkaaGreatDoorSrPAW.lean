/- What the theorem leans on, part 23. -/
import Derived.Test.YthnooilghadjkaaGreatDoorSrPAA
import Derived.Test.YthnooilghadjkaaGreatDoorSrPAB
import Derived.Test.YthnooilghadjkaaGreatDoorSrPAC
import Derived.Test.YthnooilghadjkaaGreatDoorSrPAD
import Derived.Test.YthnooilghadjkaaGreatDoorSrPAE
import Derived.Test.YthnooilghadjkaaGreatDoorSrPAF
import Derived.Test.YthnooilghadjkaaGreatDoorSrPAG
import Derived.Test.YthnooilghadjkaaGreatDoorSrPAH
import Derived.Test.YthnooilghadjkaaGreatDoorSrPAI
import Derived.Test.YthnooilghadjkaaGreatDoorSrPAJ
import Derived.Test.YthnooilghadjkaaGreatDoorSrPAK
import Derived.Test.YthnooilghadjkaaGreatDoorSrPAL
import Derived.Test.YthnooilghadjkaaGreatDoorSrPAM
import Derived.Test.YthnooilghadjkaaGreatDoorSrPAN
import Derived.Test.YthnooilghadjkaaGreatDoorSrPAO
import Derived.Test.YthnooilghadjkaaGreatDoorSrPAP
import Derived.Test.YthnooilghadjkaaGreatDoorSrPAQ
import Derived.Test.YthnooilghadjkaaGreatDoorSrPAR
set_option linter.unusedSimpArgs false
set_option linter.unusedVariables false
set_option maxRecDepth 8000
namespace Go.Proofs.YthnooilghadjkaaGreatDoor
def sizS (ps : List Pz) (i n : Nat) : St := ⟨[(3, iv n), (7, .d (.sd 3 false (ps.map pzD))), (8, iv ps.length), (9, iv i)], [], 0⟩
attribute [push_cast] sizS.eq_def
theorem szP_app : ∀ a b : List Pz, szP (a ++ b) = szP a + szP b
  | [], b => by rw [List.nil_append, szP, Nat.zero_add]
  | .tx _ _ rs :: t, b => by rw [List.cons_append, szP, szP, szP_app t b, Nat.add_assoc]
  | .fo _ :: t, b => by rw [List.cons_append, szP, szP, szP_app t b, Nat.add_assoc]
theorem szP_take {ps : List Pz} {i : Nat} {z : Pz} (h : ps[i]? = some z) : szP (ps.take (i + 1)) = szP (ps.take i) + szP [z] := by rw [take_snoc' h, szP_app]
theorem szP_le {B : Nat} : ∀ ps : List Pz, (∀ z ∈ ps, szP [z] ≤ B) → szP ps ≤ B * ps.length
  | [], _ => Nat.le_refl _
  | z :: t, h => by
    have h1 := h z (by simp)
    have h2 := szP_le t fun y hy => h y (by simp [hy])
    have e : szP (z :: t) = szP [z] + szP t := by rw [← szP_app]; rfl
    rw [e, List.length_cons, Nat.mul_succ]; omega
theorem szP_ok {ps : List Pz} (h : ∀ z ∈ ps, OkZ z) : ∀ z ∈ ps, szP [z] ≤ 1000000 := fun z hz => by
  have := h z hz
  cases z with
  | tx k p rs => have := this.2.2; simp only [szP]; omega
  | fo p => simp only [szP]; omega
set_option maxHeartbeats 3200000 in
theorem Size_fn (ps : List Pz) (f t : Int) (hl : ps.length ≤ 100000000) (hq : ∀ z ∈ ps, Qz z) : OFn Tryz.prog G0 23 [.d (liD ps f t)] [] 0 (iv (szP ps)) [] := by
  have hsz := szP_ok fun z hz => (hq z hz).1
  refine vF mixed [0, 1, 2, 3, 5, 7, 8, 9, 10, 15] Tryz.func23 rfl Tryz.results23 Tryz.ntmps23 ?_
  (refine' zg)
  refine vL (lv := [0, 1, 2, 3, 5, 7, 8, 9, 10, 15]) mixed (fun i => sizS ps i (szP (ps.take i))) (fun i => i ≤ ps.length) (fun i => ps.length - i) (0) ((GhW.go [3, 7, 8, 9] (by exact vT) rfl)) ?_ ?_
  · exact Nat.zero_le _
  intro i hi
  have hb := szP_le (B := 1000000) (ps.take i) fun z hz => hsz z (List.mem_of_mem_take hz)
  rw [List.length_take] at hb
  have hb2 : szP (ps.take i) ≤ 1000000 * 100000000 := Nat.le_trans hb (Nat.mul_le_mul_left _ (by omega))
  rcases Nat.lt_or_ge i ps.length with hlt | hge
  · obtain ⟨z, hz⟩ : ∃ z, ps[i]? = some z := ⟨_, List.getElem?_eq_getElem hlt⟩
    have hzq := hq z (List.mem_of_getElem? hz)
    have hst := szP_take hz
    cases z with
    | tx kd a rs =>
      have hk : kd ≠ 3 := by have := hzq.2.1; omega
      have hrl := hzq.1.2.2
      simp only [szP, Nat.add_zero] at hst
      (refine' zgE hz)
      refine AgW.go (i + 1) [3, 7, 8, 9] (by rw [hst]; exact vT) ?_ ?_
      · show ps.length - (i + 1) < ps.length - i
        omega
      · show i + 1 ≤ ps.length
        omega
    | fo a =>
      simp only [szP, Nat.add_zero] at hst
      (refine' zgE hz)
      refine AgW.go (i + 1) [3, 7, 8, 9] (by rw [hst]; exact vT) ?_ ?_
      · show ps.length - (i + 1) < ps.length - i
        omega
      · show i + 1 ≤ ps.length
        omega
  · rw [List.take_of_length_le hge]
    (refine' zo)
def ruS (l : List Int) (i : Nat) : St := ⟨[(0, ruL l), (1, ruL l), (7, iv l.length), (8, iv i)], [], 0⟩
attribute [push_cast] ruS.eq_def
theorem Runes2_fn (l : List Int) (hl : l.length ≤ 1000000000) : OFn Tryz.prog G0 24 [ruL l, ruL l] [] 0 (bv true) [] := by
  refine vF mixed [0, 1, 4, 5, 7, 8, 9, 25] Tryz.func24 rfl Tryz.results24 Tryz.ntmps24 ?_
  (refine' zg)
  refine vL (lv := [0, 1, 4, 5, 7, 8, 9, 25]) mixed (ruS l) (fun i => i ≤ l.length) (fun i => l.length - i) (0) ((GhW.go [0, 1, 7, 8] (by exact vT) rfl)) ?_ ?_
  · exact Nat.zero_le _
  intro i hi
  rcases Nat.lt_or_ge i l.length with hlt | hge
  · obtain ⟨r, hr⟩ : ∃ r, l[i]? = some r := ⟨_, List.getElem?_eq_getElem hlt⟩
    (refine' zgE hr)
    refine AgW.go (i + 1) [0, 1, 7, 8] (by exact vT) ?_ ?_
    · show l.length - (i + 1) < l.length - i
      omega
    · show i + 1 ≤ l.length
      omega
  · (refine' zo)
theorem errN_ok {n : Int} {L : List Iy} (h : errN n L = 0) : 0 ≤ n ∧ inlErr n [] L = 0 := by
  unfold errN at h
  split at h
  · cases h
  · exact ⟨by omega, h⟩
structure GdI (L : List Iy) : Prop where
  len : L.length ≤ 60
  so : SoI L
  at' : ∀ y ∈ L, 0 ≤ y.2.1
  sz : ∀ y ∈ L, y.2.2.2.2.size ≤ 1000000
  nb : ∀ y ∈ L, 10 ∉ runesAt y.2.2.2.2 0
theorem clean_runes (s : ByteArray) : runesAt (txt (runesAt s 0)) 0 = runesAt s 0 := runes_txt (runes_valid s s.size 0 (by omega))
theorem gdI {n : Int} {L : List Iy} (hl : L.length ≤ 60) (hs : ∀ x ∈ L, x.2.2.2.2.size ≤ 200) (he : inlErr n [] L = 0) : GdI (insA L) := by
  have hm : ∀ y ∈ insA L, ∃ x ∈ L, y = cleanI x := fun y hy => by
    obtain ⟨x, hx, e⟩ := List.mem_map.1 ((insA_perm L.reverse L (by simp)).mem_iff.1 hy)
    exact ⟨x, hx, e.symm⟩
  have hw := (inlErr_nodup n L [] he).1
  have hwx : ∀ x ∈ L, 0 ≤ x.2.1 ∧ 10 ∉ runesAt x.2.2.2.2 0 := fun x hx => by
    have h0 := (hw x hx).1
    unfold wrongI at h0
    split at h0
    · cases h0
    · rename_i h1
      split at h0
      · cases h0
      · split at h0
        · cases h0
        · rename_i h3
          refine ⟨by omega, fun hc => h3 (.inr (brk_mem.2 hc))⟩
  refine ⟨by rw [insA_len L.reverse L (by simp)]; exact hl, so_places (insA_so L.reverse L (by simp)), fun y hy => ?_, fun y hy => ?_, fun y hy => ?_⟩
  · obtain ⟨x, hx, rfl⟩ := hm y hy
    exact (hwx x hx).1
  · obtain ⟨x, hx, rfl⟩ := hm y hy
    have h1 := hs x hx
    have h2 := runesAt_len x.2.2.2.2 _ 0 (Nat.le_refl _)
    have h3 := encL_len (runesAt x.2.2.2.2 0)
    show (txt (runesAt x.2.2.2.2 0)).size ≤ 1000000
    rw [txt_size]; omega
  · obtain ⟨x, hx, rfl⟩ := hm y hy
    show 10 ∉ runesAt (txt (runesAt x.2.2.2.2 0)) 0
    rw [clean_runes]
    exact (hwx x hx).2
end Go.Proofs.YthnooilghadjkaaGreatDoor
