/- What the theorem leans on, part 9. -/
import Derived.Test.YthjjncooaahejaaGreatDoorBlPAA
import Derived.Test.YthjjncooaahejaaGreatDoorBlPAB
import Derived.Test.YthjjncooaahejaaGreatDoorBlPAC
import Derived.Test.YthjjncooaahejaaGreatDoorBlPAD
import Derived.Test.YthjjncooaahejaaGreatDoorBlPAE
import Derived.Test.YthjjncooaahejaaGreatDoorBlPAF
import Derived.Test.YthjjncooaahejaaGreatDoorBlPAG
import Derived.Test.YthjjncooaahejaaGreatDoorBlPAH
set_option linter.unusedSimpArgs false
set_option linter.unusedVariables false
set_option maxRecDepth 8000
namespace Go.Proofs.YthjjncooaahejaaGreatDoor
section
variable {G : Gl}
theorem bClone_fn (l : List Bk) (hl : 0 < l.length) (hl2 : l.length ≤ 100000) : OFn Tryz.prog G 18 [.d (.sd 4 false (l.map bkD))] [] 0 (.so 0 4 0 l.length) [(0, bkR l)] := by
  rcases l with _ | ⟨x, r⟩
  · simp at hl
  simp only [List.map_cons]
  have hr : r.length ≤ 100000 := by simp at hl2; omega
  refine vF mixed [0, 2, 4] Tryz.func18 rfl Tryz.results18 Tryz.ntmps18 ?_
  (refine' zg)
  refine DoneW.now [20] (by decide) ?_
  (refine' zg)
  exact Sub_refl _
end
def badB (n : Int) (x : Bk) : Prop := x.1 < 1 ∨ x.2.1 < 0 ∨ n < x.2.1 ∨ x.2.2.1 < 1 ∨ 20 < x.2.2.1
instance (n : Int) (x : Bk) : Decidable (badB n x) := by unfold badB; infer_instance
def bkErr (n : Int) : List Int → List Bk → Int
  | _, [] => 0
  | seen, x :: r => if badB n x then 1 else if x.1 ∈ seen then 8 else bkErr n (seen ++ [x.1]) r
abbrev idsBk (l : List Bk) : List (Value × D) := l.map fun x => (.int .i64 x.1, .agg [])
theorem findE_inB (a : Int) : ∀ l : List Bk, findE .i64 a (idsBk l) = some (if a ∈ l.map (·.1) then some (.agg []) else none)
  | [] => rfl
  | x :: r => by
    have ih := findE_inB a r
    simp only [idsBk, List.map_cons, findE, List.mem_cons, if_true] at ih ⊢
    by_cases h : a = x.1
    · rw [if_pos h, if_pos (.inl h)]
    · rw [if_neg h, ih]
      by_cases h2 : a ∈ List.map (·.1) r
      · rw [if_pos h2, if_pos (.inr h2)]
      · rw [if_neg h2, if_neg (fun e => e.elim h h2)]
theorem mapT_idsBk : mapT Tryz.prog 59 = some (60, .i64) := by kernel_rfl
attribute [push_cast] mapT_idsBk
def bnS (n : Int) (l : List Bk) (k : Nat) : St :=
  ⟨[(0, iv n), (1, .d (.sd 4 false (l.map bkD))), (6, .mo 0), (24, .d (.sd 4 false (l.map bkD))), (25, iv l.length), (26, iv k)], [(0, .map (idsBk (l.take k)))], 1⟩
attribute [push_cast] bnS.eq_def
def bkSetD (n : Int) (l : List Bk) : D := .pd 2 [.agg [iD n, .sd 4 false (l.map bkD)]] 0 0
def bkNewV (n : Int) (l ys : List Bk) : V := if bkErr n [] l = 0 then .tup [.d (bkSetD n ys), iv 0] else .tup [.d (.lit (.pointer none)), iv (bkErr n [] l)]
set_option maxHeartbeats 6400000 in
theorem bkNew_ex (n : Int) (l : List Bk) (hn : 0 ≤ n ∧ n ≤ 1099511627776) (hl : 0 < l.length) (hl2 : l.length ≤ 60) :
    ∃ ys : List Bk, (ys.Perm l ∧ Srt ltB 0 l.length ys) ∧ OFn Tryz.prog G0 6 [iv n, .d (.sd 4 false (l.map bkD))] [] 0 (bkNewV n l ys) [] := by
  obtain ⟨ys, ⟨hp, hsr⟩, hf⟩ := sort_ex l l.length rfl (by omega)
  refine ⟨ys, ⟨hp, hsr⟩, ?_⟩
  have hyl : ys.length = l.length := hp.length_eq
  have hc := bClone_fn (G := G0) l hl (by omega)
  refine vF mixed [0, 1, 4, 5, 6, 8, 10, 11, 12, 19, 24, 25, 26, 27, 53, 61] Tryz.func6 rfl Tryz.results6 Tryz.ntmps6 ?_
  (refine' zg)
  refine vL (lv := [0, 1, 4, 5, 6, 8, 10, 11, 12, 19, 24, 25, 26, 27, 53, 61]) mixed (bnS n l) (fun k => k ≤ l.length ∧ bkErr n ((l.take k).map (·.1)) (l.drop k) = bkErr n [] l) (fun k => l.length - k) (0) ((GhW.go [0, 1, 6, 24, 25, 26] (by exact vT) rfl)) ?_ ?_
  · exact ⟨Nat.zero_le _, rfl⟩
  rintro k ⟨h1, h2⟩
  rcases Nat.lt_or_ge k l.length with hk | hk
  · obtain ⟨x, hx⟩ : ∃ x, l[k]? = some x := ⟨_, List.getElem?_eq_getElem hk⟩
    rw [List.drop_eq_getElem_cons hk, (List.getElem?_eq_some_iff.1 hx).2, bkErr] at h2
    have hfe := findE_inB x.1 (l.take k)
    by_cases hw : badB n x
    · rw [if_pos hw] at h2
      obtain ⟨a, b, c, d⟩ := x
      simp only [badB] at hw
      (refine' zg)
      refine elX.is k _ (by omega) hx ?_
      (refine' zgS)
      rw [bkNewV, ← h2, if_neg (by decide)]
      refine DoneW.now [] (by decide) ?_; (refine' zg); first | exact Sub_refl _ | exact Sub.cons rfl Sub.nil | exact Sub.cons rfl (Sub.cons rfl Sub.nil) | exact Sub.nil
    · rw [if_neg hw] at h2
      by_cases hm : x.1 ∈ (l.take k).map (·.1)
      · rw [if_pos hm] at h2 hfe
        obtain ⟨a, b, c, d⟩ := x
        simp only [badB] at hw
        have hfe' : findE .i64 a (idsBk (l.take k)) = some (some (.agg [])) := hfe
        (refine' zg)
        refine elX.is k _ (by omega) hx ?_
        (refine' zgS)
        rw [hfe']
        (refine' zg)
        rw [bkNewV, ← h2, if_neg (by decide)]
        refine DoneW.now [] (by decide) ?_; (refine' zg); first | exact Sub_refl _ | exact Sub.cons rfl Sub.nil | exact Sub.cons rfl (Sub.cons rfl Sub.nil) | exact Sub.nil
      · rw [if_neg hm] at h2 hfe
        obtain ⟨a, b, c, d⟩ := x
        simp only [badB] at hw
        have hfe' : findE .i64 a (idsBk (l.take k)) = some none := hfe
        (refine' zg)
        refine elX.is k _ (by omega) hx ?_
        (refine' zgS)
        rw [hfe']
        (refine' zg)
        rw [hfe']
        (refine' zg)
        have e2 : idsBk (l.take k) ++ [(Value.int IntKind.i64 a, D.agg [])] = idsBk (l.take (k + 1)) := by
          rw [take_snoc' hx, idsBk, idsBk, List.map_append]; rfl
        rw [e2]
        refine AgW.go (k + 1) [0, 1, 6, 24, 25, 26] (by exact vT) ?_ ?_
        · show l.length - (k + 1) < l.length - k
          omega
        · refine ⟨hk, ?_⟩
          rw [take_snoc' hx, List.map_append]
          exact h2
  · obtain rfl : k = l.length := by omega
    rw [List.drop_length, bkErr] at h2
    rw [bnS, List.take_length]
    (refine' zgK hc)
    refine CallW.put 13 hf (by kernel_rfl) rfl rfl rfl ?_
    (refine' zg)
    rw [bkNewV, ← h2, if_pos rfl, ← hyl]
    refine DoneW.frz 13 (DoneW.frz 21 (DoneW.out ?_))
    (refine' zg)
    rw [List.take_of_length_le (by simp)]; rfl
end Go.Proofs.YthjjncooaahejaaGreatDoor
set_option linter.unusedSimpArgs false
set_option linter.unusedVariables false
set_option maxRecDepth 8000
namespace Go.Proofs.YthjjncooaahejaaGreatDoor
theorem bCloneNil : OFn Tryz.prog G0 18 [.d nilSD] [] 0 (.d nilSD) [] := getsG G0 M0 300 (by kernel_rfl)
end Go.Proofs.YthjjncooaahejaaGreatDoor
set_option linter.unusedSimpArgs false
set_option linter.unusedVariables false
set_option maxRecDepth 8000
namespace Go.Proofs.YthjjncooaahejaaGreatDoor
instance ltB_dec : DecidableRel ltB := fun x y => inferInstanceAs (Decidable (cB x y < 0))
theorem trB (x y z : Bk) (h : ltB x y) (k : ltB z x) (m : ¬ ltB z y) : False := by
  have h := (cB_lt _ _).1 h
  have k := (cB_lt _ _).1 k
  have m := mt (cB_lt z y).2 m
  omega
theorem bkErr_nodup (n : Int) : ∀ (l : List Bk) (seen : List Int), bkErr n seen l = 0 → (∀ x ∈ l, ¬ badB n x ∧ x.1 ∉ seen) ∧ (l.map (·.1)).Nodup
  | [], seen, _ => ⟨(fun x hx => by cases hx), List.nodup_nil⟩
  | x :: r, seen, h => by
    rw [bkErr] at h
    split at h
    · cases h
    · rename_i hw
      split at h
      · cases h
      · rename_i hm
        obtain ⟨h1, h2⟩ := bkErr_nodup n r _ h
        refine ⟨fun y hy => ?_, ?_⟩
        · rcases List.mem_cons.1 hy with rfl | hy
          · exact ⟨hw, hm⟩
          · have := h1 y hy
            exact ⟨this.1, fun hs => this.2 (by simp [hs])⟩
        · rw [List.map_cons, List.nodup_cons]
          refine ⟨fun hx => ?_, h2⟩
          obtain ⟨y, hy, e⟩ := List.mem_map.1 hx
          exact (h1 y hy).2 (by rw [e]; simp)
theorem nodup_eqB : ∀ {l : List Bk}, (l.map (·.1)).Nodup → ∀ {x y : Bk}, x ∈ l → y ∈ l → x.1 = y.1 → x = y
  | [], _, x, y, hx, _, _ => by cases hx
  | z :: r, h, x, y, hx, hy, e => by
    rw [List.map_cons, List.nodup_cons] at h
    rcases List.mem_cons.1 hx with hx1 | hx1
    · rcases List.mem_cons.1 hy with hy1 | hy1
      · rw [hx1, hy1]
      · exact (h.1 (List.mem_map.2 ⟨y, hy1, by rw [← e, hx1]⟩)).elim
    · rcases List.mem_cons.1 hy with hy1 | hy1
      · exact (h.1 (List.mem_map.2 ⟨x, hx1, by rw [e, hy1]⟩)).elim
      · exact nodup_eqB h.2 hx1 hy1 e
theorem bk_uniq {n : Int} {l ys : List Bk} (he : bkErr n [] l = 0) (hp : ys.Perm l) (hs : Srt ltB 0 l.length ys) : ys = insF ltB l :=
  insF_uniq ltB wkB trB hp hs fun x y hx hy n1 n2 => by
    have a := mt (cB_lt x y).2 n1
    have b := mt (cB_lt y x).2 n2
    exact nodup_eqB (bkErr_nodup n l [] he).2 hx hy (by omega)
def bkOutV (n : Int) (l : List Bk) : V := if bkErr n [] l = 0 then .tup [.d (bkSetD n (insF ltB l)), iv 0] else .tup [.d (.lit (.pointer none)), iv (bkErr n [] l)]
theorem bkNew_fn (n : Int) (l : List Bk) (hn : 0 ≤ n ∧ n ≤ 1099511627776) (hl : 0 < l.length) (hl2 : l.length ≤ 60) : OFn Tryz.prog G0 6 [iv n, .d (.sd 4 false (l.map bkD))] [] 0 (bkOutV n l) [] := by
  obtain ⟨ys, ⟨h1, h2⟩, hf⟩ := bkNew_ex n l hn hl hl2
  by_cases he : bkErr n [] l = 0
  · rw [bkNewV, if_pos he, bk_uniq he h1 h2] at hf
    rw [bkOutV, if_pos he]; exact hf
  · rw [bkNewV, if_neg he] at hf
    rw [bkOutV, if_neg he]; exact hf
theorem bkNew_neg (n : Int) (hn : n < 0 ∨ 1099511627776 < n) (b : Bool) (l : List Bk) : OFn Tryz.prog G0 6 [iv n, .d (.sd 4 b (l.map bkD))] [] 0 (.tup [.d (.lit (.pointer none)), iv 1]) [] := by
  refine vF mixed [0, 1, 4, 5, 6, 8, 10, 11, 12, 19, 24, 25, 26, 27, 53, 61] Tryz.func6 rfl Tryz.results6 Tryz.ntmps6 ?_
  (refine' zo)
theorem bkNew_big (n : Int) (hn : 0 ≤ n ∧ n ≤ 1099511627776) (l : List Bk) (hl : 60 < l.length) : OFn Tryz.prog G0 6 [iv n, .d (.sd 4 false (l.map bkD))] [] 0 (.tup [.d (.lit (.pointer none)), iv 5]) [] := by
  refine vF mixed [0, 1, 4, 5, 6, 8, 10, 11, 12, 19, 24, 25, 26, 27, 53, 61] Tryz.func6 rfl Tryz.results6 Tryz.ntmps6 ?_
  (refine' zo)
end Go.Proofs.YthjjncooaahejaaGreatDoor
