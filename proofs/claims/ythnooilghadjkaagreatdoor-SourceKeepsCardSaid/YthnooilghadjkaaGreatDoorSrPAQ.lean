/- What the theorem leans on, part 17. -/
import Derived.Test.YthnooilghadjkaaGreatDoorSrPAA
import Derived.Test.YthnooilghadjkaaGreatDoorSrPAB
import Derived.Test.YthnooilghadjkaaGreatDoorSrPAC
import Derived.Test.YthnooilghadjkaaGreatDoorSrPAD
import Derived.Test.YthnooilghadjkaaGreatDoorSrPAE
import Derived.Test.YthnooilghadjkaaGreatDoorSrPAF
import Derived.Test.YthnooilghadjkaaGreatDoorSrPAG
import Derived.Test.YthnooilghadjkaaGreatDoorSrPAH
import Derived.Test.YthnooilghadjkaaGreatDoorSrPAI
import Derived.Test.YthnooilghadjkaaGreatDoorSrPAJ
import Derived.Test.YthnooilghadjkaaGreatDoorSrPAK
import Derived.Test.YthnooilghadjkaaGreatDoorSrPAL
import Derived.Test.YthnooilghadjkaaGreatDoorSrPAM
import Derived.Test.YthnooilghadjkaaGreatDoorSrPAN
import Derived.Test.YthnooilghadjkaaGreatDoorSrPAO
import Derived.Test.YthnooilghadjkaaGreatDoorSrPAP
set_option linter.unusedSimpArgs false
set_option linter.unusedVariables false
set_option maxRecDepth 8000
namespace Go.Proofs.YthnooilghadjkaaGreatDoor
abbrev liD (ps : List Pz) (f t : Int) : D := .agg [.sd 3 false (ps.map pzD), iD f, iD t]
abbrev liC (ps : List Pz) (f t : Int) : Blk := .cell [.d (.sd 3 false (ps.map pzD)), iv f, iv t]
def smS (ps : List Pz) (f t : Int) (i : Nat) : St := ⟨[(3, .po 0 0), (32, .d (.sd 3 false (ps.map pzD))), (33, iv ps.length), (34, iv i)], [(0, liC ps f t)], 1⟩
def smI (ps : List Pz) (f t : Int) (i : Nat) (kd a : Int) (rs : List Int) (k : Nat) : St := ⟨[(3, .po 0 0), (7, .po 1 0), (32, .d (.sd 3 false (ps.map pzD))), (33, iv ps.length), (34, iv i), (66, ruL rs), (67, iv rs.length), (68, iv k)], [(0, liC ps f t), (1, .cell [iv kd, iv a, ruL rs])], 2⟩
def smF (ps : List Pz) (f t : Int) (i : Nat) (a : Int) : St := ⟨[(3, .po 0 0), (7, .po 1 0), (32, .d (.sd 3 false (ps.map pzD))), (33, iv ps.length), (34, iv i), (66, .d nilSD), (67, iv 0), (68, iv 0)], [(0, liC ps f t), (1, .cell [iv 3, iv a, .d nilSD])], 2⟩
attribute [push_cast] smS.eq_def smI.eq_def smF.eq_def
set_option maxHeartbeats 6400000 in
theorem Same_fn (ps : List Pz) (f t : Int) (hl : ps.length ≤ 1000000000) (hr : ∀ k a rs, Pz.tx k a rs ∈ ps → rs.length ≤ 1000000000) : OFn Tryz.prog G0 21 [.d (liD ps f t), .d (liD ps f t)] [] 0 (bv true) [] := by
  refine vF mixed [0, 1, 2, 3, 4, 5, 6, 7, 8, 9, 30, 32, 33, 34, 35, 64, 66, 67, 68, 69, 79] Tryz.func21 rfl Tryz.results21 Tryz.ntmps21 ?_
  (refine' zg)
  refine vL (lv := [0, 1, 2, 3, 4, 5, 6, 7, 8, 9, 30, 32, 33, 34, 35, 64, 66, 67, 68, 69, 79]) mixed (smS ps f t) (fun i => i ≤ ps.length) (fun i => ps.length - i) (0) ((GhW.go [3, 32, 33, 34] (by exact vT) rfl)) ?_ ?_
  · exact Nat.zero_le _
  intro i hi
  rcases Nat.lt_or_ge i ps.length with hlt | hge
  · obtain ⟨z, hz⟩ : ∃ z, ps[i]? = some z := ⟨_, List.getElem?_eq_getElem hlt⟩
    cases z with
    | tx kd a rs =>
      have hrs := hr kd a rs (List.mem_of_getElem? hz)
      (refine' zgE hz)
      refine vL (lv := [0, 1, 2, 3, 4, 5, 6, 7, 8, 9, 30, 32, 33, 34, 35, 64, 66, 67, 68, 69, 79]) mixed (smI ps f t i kd a rs) (fun k => k ≤ rs.length) (fun k => rs.length - k) (0) ((GhW.go [3, 7, 32, 33, 34, 66, 67, 68] (by exact vT) rfl)) ?_ ?_
      · exact Nat.zero_le _
      intro k hk
      rcases Nat.lt_or_ge k rs.length with hkl | hkg
      · obtain ⟨r, hr'⟩ : ∃ r, rs[k]? = some r := ⟨_, List.getElem?_eq_getElem hkl⟩
        (refine' zgE hr')
        refine AgW.go (k + 1) [3, 7, 32, 33, 34, 66, 67, 68] (by exact vT) ?_ ?_
        · show rs.length - (k + 1) < rs.length - k
          omega
        · show k + 1 ≤ rs.length
          omega
      · (refine' zg)
        refine AgW.go (i + 1) [3, 32, 33, 34] (by exact vT) ?_ ?_
        · show ps.length - (i + 1) < ps.length - i
          omega
        · show i + 1 ≤ ps.length
          omega
    | fo a =>
      (refine' zgE hz)
      refine vL (lv := [0, 1, 2, 3, 4, 5, 6, 7, 8, 9, 30, 32, 33, 34, 35, 64, 66, 67, 68, 69, 79]) mixed (fun _ : Unit => smF ps f t i a) (fun _ => True) (fun _ => 0) (()) ((GhW.go [3, 7, 32, 33, 34, 66, 67, 68] (by exact vT) rfl)) ?_ ?_
      · trivial
      rintro ⟨⟩ -
      (refine' zg)
      refine AgW.go (i + 1) [3, 32, 33, 34] (by exact vT) ?_ ?_
      · show ps.length - (i + 1) < ps.length - i
        omega
      · show i + 1 ≤ ps.length
        omega
  · (refine' zo)
def rfS (ps : List Pz) (f t : Int) (i : Nat) : St := ⟨[(2, .po 0 0), (3, .po 1 0), (12, .d (.sd 3 false (ps.map pzD))), (13, iv ps.length), (14, iv i)], [(0, .cell [.d nilSD, iv 0, iv 0]), (1, .cell [.so 2 3 0 (ps.take i).length, iv f, iv t]), (2, pzR (ps.take i))], 3⟩
attribute [push_cast] rfS.eq_def
set_option maxHeartbeats 6400000 in
theorem ref21_fn (ps : List Pz) (f t : Int) (hl : ps.length ≤ 1000000000) : OFn Tryz.prog G0 22 [.d (liD ps f t)] [] 0 (.d (liD ps f t)) [] := by
  refine vF mixed [0, 1, 2, 3, 5, 12, 13, 14, 15] Tryz.func22 rfl Tryz.results22 Tryz.ntmps22 ?_
  (refine' zg)
  refine vL (lv := [0, 1, 2, 3, 5, 12, 13, 14, 15]) mixed (rfS ps f t) (fun i => i ≤ ps.length) (fun i => ps.length - i) (0) (GhW.nilC 28 0 3 <| (GhW.go [2, 3, 12, 13, 14] (by exact vT) rfl)) ?_ ?_
  · exact Nat.zero_le _
  intro i hi
  have htl : (ps.take i).length = i := by rw [List.length_take]; omega
  rcases Nat.lt_or_ge i ps.length with hlt | hge
  · obtain ⟨z, hz⟩ : ∃ z, ps[i]? = some z := ⟨_, List.getElem?_eq_getElem hlt⟩
    have ht : (ps.take i).map pzD ++ [pzD z] = (ps.take (i + 1)).map pzD := by rw [take_snoc' hz, List.map_append]; rfl
    cases z with
    | tx kd a rs =>
      simp only [pzD] at ht
      (refine' zgE hz)
      rw [ht, List.length_map]
      refine AgW.go (i + 1) [2, 3, 12, 13, 14] (by exact vT) ?_ ?_
      · show ps.length - (i + 1) < ps.length - i
        omega
      · show i + 1 ≤ ps.length
        omega
    | fo a =>
      simp only [pzD] at ht
      (refine' zgE hz)
      rw [ht, List.length_map]
      refine AgW.go (i + 1) [2, 3, 12, 13, 14] (by exact vT) ?_ ?_
      · show ps.length - (i + 1) < ps.length - i
        omega
      · show i + 1 ≤ ps.length
        omega
  · rw [rfS, List.take_of_length_le hge]
    (refine' zg)
    refine DoneW.frz 2 (DoneW.out ?_)
    (refine' zg)
theorem iNew_err (n : Int) (l : List Iy) (hn : 0 ≤ n ∧ n ≤ 1099511627776) (hl2 : l.length ≤ 60) (hs : ∀ x ∈ l, x.2.2.2.2.size ≤ 1000000000) (he : inlErr n [] l ≠ 0) : OFn Tryz.prog G0 30 [iv n, .d (.sd 5 false (l.map iyD))] [] 0 (.tup [.d (.lit (.pointer none)), iv (inlErr n [] l)]) [] := by
  obtain ⟨ys, _, hf⟩ := iNew_ex n l hn hl2 hs
  rw [newIV, if_neg he] at hf
  exact hf
theorem iNew_all (n : Int) (l : List Iy) (hn : 0 ≤ n ∧ n ≤ 1099511627776) (hl2 : l.length ≤ 60) (hs : ∀ x ∈ l, x.2.2.2.2.size ≤ 1000000000) (he : inlErr n [] l = 0) : OFn Tryz.prog G0 30 [iv n, .d (.sd 5 false (l.map iyD))] [] 0 (.tup [.d (inlD n (inlL (insA l))), iv 0]) [] := by
  by_cases h0 : l = []
  · subst h0
    exact iNew_0 n hn
  · obtain ⟨ys, ⟨h1, h2⟩, hf⟩ := iNew_ex n l hn hl2 hs
    rw [newIV, if_pos he, ins_uniq he h1 h2] at hf
    have hlen : (insA l).length = l.length := insA_len l.reverse l (by simp)
    have : inlL (insA l) = .sd 5 false ((insA l).map iyD) := by
      cases hi : insA l with
      | nil => rw [hi] at hlen; exact (h0 (List.eq_nil_of_length_eq_zero hlen.symm)).elim
      | cons x r => rfl
    rw [this]
    exact hf
theorem iNew_neg (n : Int) (l : List Iy) (hn : n < 0) : OFn Tryz.prog G0 30 [iv n, .d (.sd 5 false (l.map iyD))] [] 0 (.tup [.d (.lit (.pointer none)), iv 1]) [] := by
  refine vF mixed [0, 1, 4, 5, 6, 7, 9, 10, 12, 13, 20, 28, 29, 30, 31, 38, 47] Tryz.func30 rfl Tryz.results30 Tryz.ntmps30 ?_
  (refine' zo)
end Go.Proofs.YthnooilghadjkaaGreatDoor
set_option linter.unusedSimpArgs false
set_option linter.unusedVariables false
namespace Go.Proofs.YthnooilghadjkaaGreatDoor
def Kz : Pz → Prop
  | .tx k _ rs => (k = 1 ∨ k = 2) ∧ 10 ∉ rs
  | .fo _ => True
abbrev Qz (z : Pz) : Prop := OkZ z ∧ Kz z
theorem kz_add {acc : List Pz} {r : Int} {a : Nat} (h : ∀ z ∈ acc, Kz z) (hr : r ≠ 10) : ∀ z ∈ addP acc r a, Kz z := by
  have hn : Kz (.tx 1 a [r]) := ⟨.inl rfl, by simp; exact fun e => hr e.symm⟩
  rcases List.eq_nil_or_concat acc with rfl | ⟨pre, z, rfl⟩
  · intro z hz
    rw [show addP [] r a = [.tx 1 a [r]] from rfl, List.mem_singleton] at hz
    subst hz; exact hn
  · rw [List.concat_eq_append] at h ⊢
    cases z with
    | tx k p rs =>
      have hz := h (.tx k p rs) (by simp)
      rw [addP_tx]
      split
      · intro y hy
        rcases List.mem_append.1 hy with hy | hy
        · exact h y (by simp [hy])
        · rw [List.mem_singleton.1 hy]
          exact ⟨.inl rfl, by simp; exact ⟨hz.2, fun e => hr e.symm⟩⟩
      · intro y hy
        rcases List.mem_append.1 hy with hy | hy
        · exact h y hy
        · rw [List.mem_singleton.1 hy]; exact hn
    | fo p =>
      rw [addP_fo]
      intro y hy
      rcases List.mem_append.1 hy with hy | hy
      · exact h y hy
      · rw [List.mem_singleton.1 hy]; exact hn
theorem kz_inl {L : List Iy} {a : Nat} (hL : ∀ y ∈ L, 10 ∉ runesAt y.2.2.2.2 0) : ∀ z ∈ inlP L a, Kz z := by
  intro z hz
  obtain ⟨y, hy, rfl⟩ := List.mem_map.1 hz
  exact ⟨.inr rfl, hL y (List.mem_filter.1 hy).1⟩
theorem inlP_len (L : List Iy) (a : Nat) : (inlP L a).length ≤ L.length := by rw [inlP, List.length_map]; exact List.length_filter_le _ _
theorem docA_all {l : List Int} {L : List Iy} {H : List Sn} (hll : l.length ≤ 20000) (hr : rgt l.length 0 H = true) (hL : ∀ y ∈ L, y.2.2.2.2.size ≤ 1000000) (hL2 : ∀ y ∈ L, 10 ∉ runesAt y.2.2.2.2 0) : ∀ (d a : Nat) (acc : List Pz), l.length - a ≤ d → a ≤ l.length → (∀ z ∈ acc, Qz z) →
    (∀ z ∈ (docA l L H a acc).1, Qz z) ∧ (docA l L H a acc).1.length ≤ acc.length + (L.length + 1) * (l.length - a + 1)
  | d, a, acc, hd, ha, hacc => by
    have hin : ∀ z ∈ acc ++ inlP L a, Qz z := fun z hz => by
      rcases List.mem_append.1 hz with hz | hz
      · exact hacc z hz
      · exact ⟨okZ_inl hL (by omega) z hz, kz_inl hL2 z hz⟩
    have hil := inlP_len L a
    by_cases h : a < l.length ∧ shB l H a = false
    · obtain ⟨h1, h2⟩ := h
      obtain ⟨r, hr'⟩ : ∃ r, l[a]? = some r := ⟨_, List.getElem?_eq_getElem h1⟩
      cases hx : hidO H a with
      | none =>
        have h10 : r ≠ 10 := fun e => by
          have : shB l H a = true := shB_iff.2 ⟨by rw [hr', e], hx⟩
          rw [h2] at this; cases this
        rw [docA_plain hr' h2 hx]
        obtain ⟨g1, g2⟩ := docA_all hll hr hL hL2 (d - 1) (a + 1) _ (by omega) (by omega) (fun z hz => ⟨okZ_add (a := a) (fun z hz => (hin z hz).1) (by omega) z hz, kz_add (fun z hz => (hin z hz).2) h10 z hz⟩)
        refine ⟨g1, Nat.le_trans g2 ?_⟩
        have := addP_len (acc ++ inlP L a) r a
        rw [List.length_append] at this
        have e : l.length - a + 1 = (l.length - (a + 1) + 1) + 1 := by omega
        rw [e, Nat.mul_succ (L.length + 1) (l.length - (a + 1) + 1)]
        generalize (L.length + 1) * (l.length - (a + 1) + 1) = P at *
        generalize (addP (acc ++ inlP L a) r a).length = Q at *
        omega
      | some x =>
        obtain ⟨g1, g2, g3⟩ := hidO_some hx
        have g4 := rgt_mem hr x g1
        obtain ⟨k, hk⟩ : ∃ k : Nat, x.2 = k := ⟨x.2.toNat, by omega⟩
        rw [docA_hid h1 h2 hx hk (by omega)]
        obtain ⟨q1, q2⟩ := docA_all hll hr hL hL2 (d - 1) k (acc ++ inlP L a ++ [.fo a]) (by omega) (by omega) (fun z hz => by
          rcases List.mem_append.1 hz with hz | hz
          · exact hin z hz
          · rw [List.mem_singleton.1 hz]; exact ⟨⟨by omega, by omega⟩, trivial⟩)
        refine ⟨q1, Nat.le_trans q2 ?_⟩
        have hla : (acc ++ inlP L a ++ [Pz.fo a]).length = acc.length + (inlP L a).length + 1 := by simp; omega
        rw [hla]
        have hk2 : k ≤ l.length := by omega
        have hak : a < k := by omega
        have e : l.length - a + 1 = (l.length - k + 1) + (k - a) := by omega
        rw [e, Nat.mul_add (L.length + 1) (l.length - k + 1) (k - a)]
        have : L.length + 1 ≤ (L.length + 1) * (k - a) := Nat.le_mul_of_pos_right _ (by omega)
        generalize (L.length + 1) * (l.length - k + 1) = P at *
        generalize (L.length + 1) * (k - a) = Q at *
        have hil2 : (inlP L a).length ≤ L.length := inlP_len L a
        generalize (inlP L a).length = R at *
        omega
    · rw [docA_end h]
      refine ⟨hin, ?_⟩
      show (acc ++ inlP L a).length ≤ _
      rw [List.length_append]
      have : L.length + 1 ≤ (L.length + 1) * (l.length - a + 1) := Nat.le_mul_of_pos_right _ (by omega)
      omega
  termination_by d => d
  decreasing_by all_goals omega
theorem runP_all {l : List Int} {L : List Iy} {H : List Sn} (hso : SoI L) (hll : l.length ≤ 20000) (hLl : L.length ≤ 1000) (hr : rgt l.length 0 H = true) (hL : ∀ y ∈ L, y.2.2.2.2.size ≤ 1000000) (hL2 : ∀ y ∈ L, 10 ∉ runesAt y.2.2.2.2 0) {a : Nat} (ha : a ≤ l.length) (hb : a = 0 ∨ shB l H (a - 1) = true) :
    (∀ z ∈ runP l L (endP l H a) a H, Qz z) ∧ (runP l L (endP l H a) a H).length ≤ 100000000 := by
  have h := docA_all hll hr hL hL2 _ a [] (Nat.le_refl _) ha (fun z hz => by cases hz)
  rw [docA_is hso hr ha (beg_in hb hr)] at h
  refine ⟨h.1, Nat.le_trans h.2 ?_⟩
  have h1 : (L.length + 1) * (l.length - a + 1) ≤ 1001 * 20001 := Nat.mul_le_mul (by omega) (by omega)
  simp only [List.length_nil]
  omega
def pls : List Pz → List Int
  | [] => []
  | .tx k _ rs :: t => (if k = 1 then rs else []) ++ pls t
  | .fo _ :: t => pls t
theorem pls_app : ∀ a b : List Pz, pls (a ++ b) = pls a ++ pls b
  | [], b => rfl
  | .tx k p rs :: t, b => by rw [List.cons_append, pls, pls, pls_app t b, List.append_assoc]
  | .fo p :: t, b => by rw [List.cons_append, pls, pls, pls_app t b]
theorem pls_tx (k p : Int) (rs : List Int) : pls [.tx k p rs] = if k = 1 then rs else [] := by simp [pls]
theorem pls_add (acc : List Pz) (r : Int) (a : Nat) : pls (addP acc r a) = pls acc ++ [r] := by
  rcases List.eq_nil_or_concat acc with rfl | ⟨pre, z, rfl⟩
  · rfl
  · rw [List.concat_eq_append]
    cases z with
    | tx k p rs =>
      rw [addP_tx]
      split
      · rename_i hc
        rw [pls_app, pls_app, pls_tx, pls_tx, if_pos rfl, if_pos hc.1, List.append_assoc]
      · rw [pls_app, pls_tx, if_pos rfl]
    | fo p => rw [addP_fo, pls_app, pls_tx, if_pos rfl]
theorem pls_inl (L : List Iy) (a : Nat) : pls (inlP L a) = [] := by
  unfold inlP
  generalize inWi L a a = M
  induction M with
  | nil => rfl
  | cons y r ih => rw [List.map_cons, pls, if_neg (by decide), List.nil_append, ih]
def visR (l : List Int) (H : List Sn) : Nat → Nat → List Int
  | 0, _ => []
  | d + 1, a => (if (hidO H a).isNone = true then l[a]?.toList else []) ++ visR l H d (a + 1)
theorem visR_app (l : List Int) (H : List Sn) : ∀ d e a : Nat, visR l H (d + e) a = visR l H d a ++ visR l H e (a + d)
  | 0, e, a => by rw [Nat.zero_add, visR, List.nil_append, Nat.add_zero]
  | d + 1, e, a => by
    rw [Nat.add_right_comm, visR, visR, visR_app l H d e (a + 1), List.append_assoc, show a + 1 + d = a + (d + 1) by omega]
theorem visR_hid (l : List Int) (H : List Sn) : ∀ d a : Nat, (∀ k, a ≤ k → k < a + d → hidO H k ≠ none) → visR l H d a = []
  | 0, a, _ => rfl
  | d + 1, a, h => by
    have h0 := h a (Nat.le_refl _) (by omega)
    rw [visR, visR_hid l H d (a + 1) (fun k h1 h2 => h k (by omega) (by omega)), if_neg (by
      cases hx : hidO H a with
      | none => exact (h0 hx).elim
      | some x => simp)]
    rfl
theorem visR_one {l : List Int} {H : List Sn} {a : Nat} {r : Int} (hr : l[a]? = some r) (hx : hidO H a = none) (d : Nat) : visR l H (d + 1) a = r :: visR l H d (a + 1) := by
  rw [visR, hx, hr]; rfl
theorem docA_pls {l : List Int} {L : List Iy} {H : List Sn} (hr : rgt l.length 0 H = true) : ∀ (d a : Nat) (acc : List Pz), l.length - a ≤ d → a ≤ l.length → pls (docA l L H a acc).1 = pls acc ++ visR l H (endP l H a - a) a
  | d, a, acc, hd, ha => by
    by_cases h : a < l.length ∧ shB l H a = false
    · obtain ⟨h1, h2⟩ := h
      obtain ⟨r, hr'⟩ : ∃ r, l[a]? = some r := ⟨_, List.getElem?_eq_getElem h1⟩
      have e1 : endP l H a = endP l H (a + 1) := seekUp_step h1 h2
      cases hx : hidO H a with
      | none =>
        have he := endP_in l H (i := a + 1) (by omega)
        rw [docA_plain hr' h2 hx, docA_pls hr (d - 1) (a + 1) _ (by omega) (by omega), pls_add, pls_app, pls_inl, List.append_nil, e1,
          show endP l H (a + 1) - a = (endP l H (a + 1) - (a + 1)) + 1 by omega, visR_one hr' hx, List.append_assoc]
        rfl
      | some x =>
        obtain ⟨g1, g2, g3⟩ := hidO_some hx
        have g4 := rgt_mem hr x g1
        obtain ⟨k, hk⟩ : ∃ k : Nat, x.2 = k := ⟨x.2.toNat, by omega⟩
        have he := endP_in l H (i := k) (by omega)
        have e2 : endP l H a = endP l H k := seekUp_to _ _ _ _ (by omega) (by omega) fun j q1 q2 => shB_hid hr g1 (by omega) (by omega)
        rw [docA_hid h1 h2 hx hk (by omega), docA_pls hr (d - 1) k _ (by omega) (by omega), pls_app, pls_app, pls_inl, e2,
          show endP l H k - a = (k - a) + (endP l H k - k) by omega, visR_app, visR_hid l H (k - a) a (fun j q1 q2 e => by
            have := hidO_is hr x g1 j (by omega) (by omega)
            rw [this] at e; cases e), show a + (k - a) = k by omega]
        simp [pls]
    · rw [docA_end h]
      have e : endP l H a = a := by
        by_cases h1 : a < l.length
        · have : shB l H a = true := by
            cases hb : shB l H a with
            | true => rfl
            | false => exact (h ⟨h1, hb⟩).elim
          exact seekUp_at h1 this
        · have : a = l.length := by omega
          subst this
          exact seekUp_end _ _ _ (Nat.le_refl _)
      rw [e, Nat.sub_self, pls_app, pls_inl]
      rfl
  termination_by d => d
  decreasing_by all_goals omega
def jn2 (l : List Int) (L : List Iy) (H : List Sn) : List (Nat × Nat) → List Int
  | [] => []
  | x :: r => 10 :: (pls (runP l L x.2 x.1 H) ++ jn2 l L H r)
def jn (l : List Int) (L : List Iy) (H : List Sn) : List (Nat × Nat) → List Int
  | [] => []
  | x :: r => pls (runP l L x.2 x.1 H) ++ jn2 l L H r
theorem runP_pls {l : List Int} {L : List Iy} {H : List Sn} (hso : SoI L) (hr : rgt l.length 0 H = true) {a : Nat} (ha : a ≤ l.length) (hb : a = 0 ∨ shB l H (a - 1) = true) : pls (runP l L (endP l H a) a H) = visR l H (endP l H a - a) a := by
  have := docA_pls (L := L) hr _ a [] (Nat.le_refl _) ha
  rw [docA_is hso hr ha (beg_in hb hr)] at this
  exact this
theorem jn_lines {l : List Int} {L : List Iy} {H : List Sn} (hso : SoI L) (hr : rgt l.length 0 H = true) : ∀ (d a : Nat), l.length - a ≤ d → a ≤ l.length → (a = 0 ∨ shB l H (a - 1) = true) → jn l L H (linesP l H a) = visR l H (l.length - a) a
  | d, a, hd, ha, hb => by
    have he := endP_in l H ha
    rw [linesP, jn, runP_pls hso hr ha hb]
    by_cases hlt : endP l H a < l.length
    · have hsh := endP_sh l H ha hlt
      obtain ⟨h10, hno⟩ := shB_iff.1 hsh
      rw [dif_pos ⟨hlt, he.1⟩]
      have ih := jn_lines hso hr (d - 1) (endP l H a + 1) (by omega) hlt (.inr hsh)
      have e2 : jn2 l L H (linesP l H (endP l H a + 1)) = 10 :: jn l L H (linesP l H (endP l H a + 1)) := by
        rw [linesP]; rfl
      rw [e2, ih, show l.length - a = (endP l H a - a) + ((l.length - (endP l H a + 1)) + 1) by omega, visR_app, show a + (endP l H a - a) = endP l H a by omega, visR_one h10 hno]
    · rw [dif_neg (by omega), jn2, List.append_nil, show endP l H a = l.length by omega]
  termination_by d => d
  decreasing_by all_goals omega
theorem lines_beg (l : List Int) (H : List Sn) : ∀ (d a : Nat), l.length - a ≤ d → a ≤ l.length → (a = 0 ∨ shB l H (a - 1) = true) → ∀ x ∈ linesP l H a, x.1 ≤ l.length ∧ x.2 = endP l H x.1 ∧ (x.1 = 0 ∨ shB l H (x.1 - 1) = true)
  | d, a, hd, ha, hb, x, hx => by
    rw [linesP] at hx
    rcases List.mem_cons.1 hx with rfl | hx
    · exact ⟨ha, rfl, hb⟩
    · split at hx
      · rename_i hlt
        exact lines_beg l H (d - 1) (endP l H a + 1) (by omega) (by omega) (.inr (endP_sh l H ha hlt.1)) x hx
      · cases hx
  termination_by d => d
  decreasing_by all_goals omega
def szP : List Pz → Nat
  | [] => 0
  | .tx _ _ rs :: t => rs.length + szP t
  | .fo _ :: t => 1 + szP t
end Go.Proofs.YthnooilghadjkaaGreatDoor
