/- The law SelectsApart returns true for every input: selections of a set do not meet; each that was handed in is within one. No condition. -/
import Derived.WideShapes
import Derived.Test.YtlledfabkmmgoaaSelectsApartPA
import Derived.Test.YtlledfabkmmgoaaSelectsApartPB
import Derived.Test.YtlledfabkmmgoaaSelectsApartPC
import Derived.Test.YtlledfabkmmgoaaSelectsApartPD
import Derived.Test.YtlledfabkmmgoaaSelectsApartPE
/- Arguments opened: whatever is built of numbers, truths, strings, structs and slices is settled data. Over any program. -/
namespace Go.Proofs.Ytlledfabkmmgoaa
open Go Go.ChangeShapes Go.WideShapes Go.ChangeAt Go.RowKit Go.WideElems Go.Deep

/-- What a cell of a type's holds. -/
inductive Cs where
  | int (k : IntKind) | bool | str
  | sl (k : Nat) (ag : Bool) (e : List Cs)
def mkEl (ag : Bool) (ds : List D) : D := match ag, ds with
  | false, [d] => d
  | _, ds => .agg ds
mutual
def OfC : Cs → D → Prop
  | .int k, x => ∃ n, x = .lit (.int k n) ∧ (Lit.int k n).wf = true
  | .bool, x => ∃ b, x = .lit (.bool b)
  | .str, x => ∃ s : ByteArray, x = .lit (.string s) ∧ s.size ≤ maxLen
  | .sl k ag e, x => ∃ es, x = .sd k false es ∧ es.length ≤ maxLen ∧ ∀ y ∈ es, ∃ ds, y = mkEl ag ds ∧ OfCs e ds
def OfCs : List Cs → List D → Prop
  | [], [] => True
  | c :: r, d :: s => OfC c d ∧ OfCs r s
  | _, _ => False
end
theorem OfC.cells {c : Cs} {d : D} (h : OfC c d) : d.cells = [d] := by
  cases c with
  | int k => simp only [OfC] at h; obtain ⟨n, rfl, _⟩ := h; rfl
  | bool => simp only [OfC] at h; obtain ⟨n, rfl⟩ := h; rfl
  | str => simp only [OfC] at h; obtain ⟨n, rfl, _⟩ := h; rfl
  | sl k ag e => simp only [OfC] at h; obtain ⟨n, rfl, _⟩ := h; rfl
theorem OfCs.len : ∀ {l : List Cs} {ds : List D}, OfCs l ds → ds.length = l.length
  | [], [], _ => rfl
  | c :: r, d :: s, h => by simp only [OfCs] at h; simp [OfCs.len h.2]
  | [], _ :: _, h => by simp [OfCs] at h
  | _ :: _, [], h => by simp [OfCs] at h
theorem OfCs.app : ∀ {a b : List Cs} {x y : List D}, OfCs a x → OfCs b y → OfCs (a ++ b) (x ++ y)
  | [], _, [], _, _, h => h
  | c :: r, _, d :: s, _, h, k => by
    simp only [OfCs, List.cons_append] at h ⊢
    exact ⟨h.1, OfCs.app h.2 k⟩
  | [], _, _ :: _, _, h, _ => by simp [OfCs] at h
  | _ :: _, _, [], _, h, _ => by simp [OfCs] at h
theorem mkEl_cells {ag : Bool} {l : List Cs} {ds : List D} (h : OfCs l ds) : (mkEl ag ds).cells = ds := by
  unfold mkEl
  split
  · match l, h with
    | c :: [], h =>
      simp only [OfCs] at h
      exact h.1.cells
    | [], h => simp [OfCs] at h
    | _ :: _ :: _, h => simp [OfCs] at h
  · rfl
def isStT (P : Program) (t : Nat) : Bool := match P.underlying t with
  | some (.struct _) => true
  | _ => false
def fieldsC (P : Program) (g : Nat → Option (List Cs)) : List Field → Nat → Option (List Cs)
  | [], _ => some []
  | f :: r, o => if f.offset = o then (match g f.type with
    | some a => if P.cellsOf f.type = a.length then (fieldsC P g r (o + a.length)).map (a ++ ·) else none
    | none => none) else none
def shC (P : Program) : Nat → Nat → Option (List Cs)
  | 0, _ => none
  | d + 1, t => match P.underlying t with
    | some (.int k) => some [.int k]
    | some .bool => some [.bool]
    | some .string => some [.str]
    | some (.struct fs) => (match fieldsC P (shC P d) fs.toList 0 with
      | some l => if P.cellsOf t = l.length then some l else none
      | none => none)
    | some (.slice e) => (match shC P d e with
      | some l => if P.cellsOf e = l.length ∧ 0 < l.length then some [.sl l.length (isStT P e) l] else none
      | none => none)
    | _ => none

section
variable {H : Type} {enc : TypeId × Value → H} {P : Program} {w : World} {held : Bool}
def Old (w : World) : Nat → Prop := fun b => b < w.heap.size
def GoodL (w : World) (ds : List D) (cs : List Value) : Prop := ds.length = cs.length ∧ (∀ v ∈ cs, v.oneCell' = true) ∧ ∀ (i : Nat) c v, ds[i]? = some c → cs[i]? = some v → DenD w (Old w) c v
theorem GoodL.nil : GoodL w [] [] := ⟨rfl, (fun v hv => by cases hv), (fun i c v h => by simp at h)⟩
theorem GoodL.one {d : D} {v : Value} (ho : v.oneCell' = true) (h : DenD w (Old w) d v) : GoodL w [d] [v] :=
  ⟨rfl, fun x hx => by simp at hx; subst hx; exact ho, fun i c x hc hx => by
    match i, hc, hx with
    | 0, hc, hx => simp at hc hx; subst hc hx; exact h⟩
theorem GoodL.app {a b : List D} {x y : List Value} (h : GoodL w a x) (k : GoodL w b y) : GoodL w (a ++ b) (x ++ y) := by
  refine ⟨by simp [h.1, k.1], fun v hv => ?_, fun i c v hc hv => ?_⟩
  · rcases List.mem_append.1 hv with hv | hv
    · exact h.2.1 v hv
    · exact k.2.1 v hv
  · rw [List.getElem?_append] at hc hv
    rw [h.1] at hc
    split at hc
    · rename_i hlt
      rw [if_pos hlt] at hv
      exact h.2.2 i c v hc hv
    · rename_i hlt
      rw [if_neg hlt] at hv
      exact k.2.2 _ c v hc hv
theorem open_fields {d n : Nat} (ih : ∀ t l, shC P d t = some l → ∀ (fuel : Nat) cs x, DataW.trod enc P w 0 (fun _ => true) held fuel t cs = some x → ∃ ds, OfCs l ds ∧ GoodL w ds cs) {cs : List Value} :
    ∀ (fs : List Field) (o : Nat) (l : List Cs), fieldsC P (shC P d) fs o = some l → (∀ f ∈ fs, ∃ x, DataW.trod enc P w 0 (fun _ => true) held n f.type ((cs.drop f.offset).take (P.cellsOf f.type)) = some x) →
      ∃ ds, OfCs l ds ∧ GoodL w ds ((cs.drop o).take l.length)
  | [], o, l, h, _ => by
    simp only [fieldsC, Option.some.injEq] at h
    subst h
    exact ⟨[], by simp [OfCs], by simpa using GoodL.nil⟩
  | f :: fs, o, l, h, hx => by
    simp only [fieldsC] at h
    split at h
    rotate_left
    · cases h
    rename_i ho
    split at h
    rotate_left
    · cases h
    rename_i a ha
    split at h
    rotate_left
    · cases h
    rename_i hc
    simp only [Option.map_eq_some_iff] at h
    obtain ⟨b, hb, rfl⟩ := h
    obtain ⟨x, h1⟩ := hx f List.mem_cons_self
    obtain ⟨d1, p1, q1⟩ := ih f.type a ha n _ _ h1
    obtain ⟨d2, p2, q2⟩ := open_fields ih fs (o + a.length) b hb (fun g hg => hx g (List.mem_cons_of_mem _ hg))
    refine ⟨d1 ++ d2, p1.app p2, ?_⟩
    have e : (cs.drop o).take (a ++ b).length = (cs.drop f.offset).take (P.cellsOf f.type) ++ (cs.drop (o + a.length)).take b.length := by
      rw [ho, hc, List.length_append, List.take_add, List.drop_drop]
    rw [e]
    exact q1.app q2
theorem plain_addr {a : Addr} {v : Value} (h : w.cell? a = some v) : a = ⟨a.block, a.off, none⟩ ∧ a.block < w.heap.size := by
  refine ⟨?_, World.block_lt_of_cell? w _ h⟩
  rcases a with ⟨b, o, s⟩
  cases s with
  | none => rfl
  | some s => simp [World.cell?] at h; split at h <;> simp at h
theorem add_plain (b o n : Nat) : (Addr.mk b o none).add n = ⟨b, o + n, none⟩ := by
  unfold Addr.add
  split <;> simp_all
theorem open_cells : ∀ (d t : Nat) (l : List Cs), shC P d t = some l → ∀ (fuel : Nat) cs x, DataW.trod enc P w 0 (fun _ => true) held fuel t cs = some x → ∃ ds, OfCs l ds ∧ GoodL w ds cs := by
  intro d
  induction d with
  | zero => intro t l h; simp [shC] at h
  | succ d ih =>
    intro t l h fuel cs x ht
    simp only [shC] at h
    split at h
    · rename_i k hu
      injection h with h; subst h
      obtain ⟨n, rfl, _, hw⟩ := DataW.trod_int hu ht
      exact ⟨[.lit (.int k n)], by simp only [OfCs, OfC]; exact ⟨⟨n, rfl, hw⟩, trivial⟩, GoodL.one rfl (DenD.lit _)⟩
    · rename_i hu
      injection h with h; subst h
      obtain ⟨n, rfl, _⟩ := DataW.trod_bool hu ht
      exact ⟨[.lit (.bool n)], by simp only [OfCs, OfC]; exact ⟨⟨n, rfl⟩, trivial⟩, GoodL.one rfl (DenD.lit _)⟩
    · rename_i hu
      injection h with h; subst h
      obtain ⟨n, rfl, _, hw⟩ := DataW.trod_string hu ht
      exact ⟨[.lit (.string n)], by simp only [OfCs, OfC]; exact ⟨⟨n, rfl, hw⟩, trivial⟩, GoodL.one rfl (DenD.lit _)⟩
    · rename_i fs hu
      split at h
      rotate_left
      · cases h
      rename_i l' hl'
      split at h
      rotate_left
      · cases h
      rename_i hcl
      injection h with h; subst h
      obtain ⟨xs, n, _, _, hlen, hxs, hg⟩ := DataW.trod_struct hu ht
      obtain ⟨ds, h1, h2⟩ := open_fields (n := n) (cs := cs) ih fs.toList 0 l' hl' (fun f hf => by
        obtain ⟨i, hi, rfl⟩ := List.getElem_of_mem hf
        have hi' : i < fs.size := by simpa using hi
        have := hg i fs[i] (by simp [hi'])
        refine ⟨xs[i]'(by omega), ?_⟩
        have e : fs.toList[i] = fs[i] := by simp
        rw [e, this]
        exact List.getElem?_eq_getElem (by omega))
      refine ⟨ds, h1, ?_⟩
      rw [List.drop_zero, List.take_of_length_le (by omega)] at h2
      exact h2
    · rename_i e hu
      split at h
      rotate_left
      · cases h
      rename_i l' hl'
      split at h
      rotate_left
      · cases h
      rename_i hcl
      obtain ⟨hcl, hpos⟩ := hcl
      injection h with h; subst h
      rcases open_slice hu ht with ⟨rfl, _⟩ | ⟨a, len, cap, m, n, D', Pl, rfl, _, hle, hm, hmm, _, hall⟩
      · refine ⟨[.sd l'.length false []], ?_, GoodL.one rfl (DenD.sd0 _ _ _)⟩
        simp only [OfCs, OfC]
        exact ⟨⟨[], rfl, Nat.zero_le _, fun y hy => by cases hy⟩, trivial⟩
      · rw [if_pos rfl] at hmm
        subst hmm
        rw [hcl] at hall
        rcases Nat.eq_zero_or_pos m with h0 | h0
        · have hl0 : len = 0 := by omega
          subst hl0 h0
          refine ⟨[.sd l'.length false []], ?_, GoodL.one rfl (DenD.sd0 _ _ _)⟩
          simp only [OfCs, OfC]
          exact ⟨⟨[], rfl, Nat.zero_le _, fun y hy => by cases hy⟩, trivial⟩
        · have hpl : a = ⟨a.block, a.off, none⟩ ∧ a.block < w.heap.size := by
            obtain ⟨cs', hc', _⟩ := hall 0 h0
            obtain ⟨_, hcl', hat⟩ := World.cells?_some hc'
            have h1 := hat 0 hpos
            rw [List.getElem?_eq_getElem (by omega)] at h1
            rw [Go.Deep.add_add] at h1
            simpa [Addr.add] using plain_addr h1
          obtain ⟨ha, hbl⟩ := hpl
          have hel : ∀ i, i < m → ∃ ds, OfCs l' ds ∧ ∀ (j : Nat) c, ds[j]? = some c → ∃ v, w.cell? ⟨a.block, a.off + i * l'.length + j, none⟩ = some v ∧ v.oneCell' = true ∧ DenD w (Old w) c v := by
            intro i hi
            obtain ⟨cs', hc', ht'⟩ := hall i hi
            obtain ⟨_, hcl', hat⟩ := World.cells?_some hc'
            obtain ⟨ds, h1, h2⟩ := ih e l' hl' n cs' _ ht'
            refine ⟨ds, h1, fun j c hj => ?_⟩
            have hjl : j < cs'.length := by rw [← h2.1]; exact (List.getElem?_eq_some_iff.1 hj).1
            have h3 := hat j (by omega)
            rw [Go.Deep.add_add, ha, add_plain, List.getElem?_eq_getElem hjl] at h3
            refine ⟨cs'[j], ?_, h2.2.1 _ (List.getElem_mem hjl), h2.2.2 j c _ hj (List.getElem?_eq_getElem hjl)⟩
            rw [← h3, Nat.add_assoc]
          let F : Nat → List D := fun i => if hi : i < m then (hel i hi).choose else []
          have hF : ∀ i, i < m → OfCs l' (F i) ∧ ∀ (j : Nat) c, (F i)[j]? = some c → ∃ v, w.cell? ⟨a.block, a.off + i * l'.length + j, none⟩ = some v ∧ v.oneCell' = true ∧ DenD w (Old w) c v := by
            intro i hi
            have e : F i = (hel i hi).choose := by simp only [F, hi, dif_pos]
            rw [e]
            exact (hel i hi).choose_spec
          have hes : ∀ (i : Nat) y, ((List.range len).map fun i => mkEl (isStT P e) (F i))[i]? = some y → i < m ∧ y = mkEl (isStT P e) (F i) := by
            intro i y hy
            simp only [List.getElem?_map, Option.map_eq_some_iff] at hy
            obtain ⟨k, hk, rfl⟩ := hy
            obtain ⟨hk1, hk2⟩ := List.getElem?_eq_some_iff.1 hk
            simp at hk1 hk2
            subst hk2
            exact ⟨by omega, rfl⟩
          refine ⟨[.sd l'.length false ((List.range len).map fun i => mkEl (isStT P e) (F i))], ?_, GoodL.one rfl ?_⟩
          · simp only [OfCs, OfC]
            refine ⟨⟨_, rfl, by simp; omega, fun y hy => ?_⟩, trivial⟩
            obtain ⟨i, hi⟩ := List.mem_iff_getElem?.1 hy
            obtain ⟨h1, h2⟩ := hes i y hi
            exact ⟨F i, h2, (hF i h1).1⟩
          · rw [ha]
            have key := DenD.sd (w := w) (I := Old w) l'.length false ((List.range len).map fun i => mkEl (isStT P e) (F i)) a.block a.off m (fun i j => (w.cell? ⟨a.block, a.off + i * l'.length + j, none⟩).getD undef) hbl
              (fun i y hy => by
                obtain ⟨h1, rfl⟩ := hes i y hy
                rw [mkEl_cells (hF i h1).1, (hF i h1).1.len])
              (fun i y j c hy hj => by
                obtain ⟨h1, rfl⟩ := hes i y hy
                rw [mkEl_cells (hF i h1).1] at hj
                obtain ⟨v, v1, _, _⟩ := (hF i h1).2 j c hj
                rw [v1]; rfl)
              (fun i y j c hy hj => by
                obtain ⟨h1, rfl⟩ := hes i y hy
                rw [mkEl_cells (hF i h1).1] at hj
                obtain ⟨v, v1, v2, _⟩ := (hF i h1).2 j c hj
                simp only [v1, Option.getD_some]; exact v2)
              (fun i y j c hy hj => by
                obtain ⟨h1, rfl⟩ := hes i y hy
                rw [mkEl_cells (hF i h1).1] at hj
                obtain ⟨v, v1, _, v3⟩ := (hF i h1).2 j c hj
                simp only [v1, Option.getD_some]; exact v3)
              (by simp; omega) (by simp)
            simpa using key
    · cases h
/-- What an argument's settled data is. -/
def argD (P : Program) (t : Nat) (ds : List D) : D := mkEl (isStT P t) ds
theorem open_arg {d t b0 : Nat} {l : List Cs} {v : Value} {x : DataW H} {p : List MemPlace} (hs : shC P d t = some l) (hv : Value.okWide P w .any b0 t v) (h : DataW.Trod enc P w 0 (fun _ => true) held t v x p) :
    ∃ ds, OfCs l ds ∧ DenD w (Old w) (argD P t ds) v := by
  obtain ⟨fuel, hf⟩ := h
  obtain ⟨ds, h1, h2⟩ := open_cells d t l hs fuel _ _ hf
  refine ⟨ds, h1, ?_⟩
  have one : ∀ c, l = [c] → isStT P t = false → v.cells = #[v] → DenD w (Old w) (argD P t ds) v := by
    intro c hl hst hc
    subst hl
    match ds, h1 with
    | [d], h1 =>
      unfold argD
      rw [hst]
      exact h2.2.2 0 d v rfl (by rw [hc]; rfl)
    | [], h1 => simp [OfCs] at h1
    | _ :: _ :: _, h1 => simp [OfCs] at h1
  cases d with
  | zero => simp [shC] at hs
  | succ d =>
    simp only [shC] at hs
    split at hs
    · rename_i k hu
      injection hs with hs
      obtain ⟨n, rfl⟩ := okWide_int hu hv
      exact one _ hs.symm (by simp [isStT, hu]) rfl
    · rename_i hu
      injection hs with hs
      obtain ⟨n, rfl⟩ := okWide_bool hu hv
      exact one _ hs.symm (by simp [isStT, hu]) rfl
    · rename_i hu
      injection hs with hs
      obtain ⟨n, rfl⟩ := okWide_string hu hv
      exact one _ hs.symm (by simp [isStT, hu]) rfl
    · rename_i fs hu
      obtain ⟨cs, rfl, hsz⟩ := okWide_struct hu hv
      have e : argD P t ds = .agg ds := by
        have hst : isStT P t = true := by simp [isStT, hu]
        unfold argD mkEl
        rw [hst]
      rw [e]
      have hcs : cs = cs.toList.toArray := by simp
      rw [hcs]
      exact DenD.agg ds cs.toList h2.1 h2.2.1 h2.2.2
    · rename_i e hu
      split at hs
      rotate_left
      · cases hs
      split at hs
      rotate_left
      · cases hs
      injection hs with hs
      obtain ⟨a, n, c, rfl⟩ := okWide_slice hu hv
      exact one _ hs.symm (by simp [isStT, hu]) rfl
    · cases hs
end
end Go.Proofs.Ytlledfabkmmgoaa
/- From what a function does, told of settled data, to a law's row. Over any program. -/
namespace Go.Proofs.Ytlledfabkmmgoaa
open Go Go.ChangeShapes Go.WideShapes Go.ChangeAt Go.RowKit Go.WideElems Go.Deep
section
variable {H : Type} {enc : TypeId × Value → H} {P : Program} {w : World} {held : Bool}
theorem rets_of {f : Nat} {args : List V} {vals : List Value} {b : Bool} (h : OFn P G0 f args [] 0 (bv b) []) (hd : DenL w (Old w) (fun _ => none) args vals) : Calls P f vals.toArray w (Rets (.bool b) w) := by
  have hm : Mem w (Old w) (fun _ => none) [] 0 := ⟨(fun id blk h => by cases h), (fun id id' blk blk' b c c' h => by cases h), fun _ _ => rfl, fun b h => h⟩
  refine (h w (Old w) (fun _ => none) vals hm (fun g x hg => by simp [G0] at hg) hd).mono ?_
  rintro e w' ⟨u, I', β', rfl, h1, h2⟩
  have hu : u = .bool b := den_lit h1
  subst hu
  exact ⟨rfl, h2.os, h2.tape, h2.output, h2.size, fun k hk => h2.block k hk (fun ⟨j, bl, c, g1, _⟩ => by cases g1)⟩
def shCs (P : Program) (d : Nat) : List Nat → Option (List (List Cs))
  | [] => some []
  | t :: ts => match shC P d t, shCs P d ts with
    | some a, some b => some (a :: b)
    | _, _ => none
def OfAll : List (List Cs) → List (List D) → Prop
  | [], [] => True
  | a :: r, d :: s => OfCs a d ∧ OfAll r s
  | _, _ => False
def argsD (P : Program) : List Nat → List (List D) → List V
  | t :: ts, d :: ds => .d (argD P t d) :: argsD P ts ds
  | _, _ => []
theorem open_args {d b0 : Nat} : ∀ (ts : List Nat) (ls : List (List Cs)) (vs : List Value) (xs : List (DataW H)) (ps : List MemPlace), shCs P d ts = some ls →
    (∀ (j : Nat) t v, ts[j]? = some t → vs[j]? = some v → Value.okWide P w .any b0 t v) → DataW.TrodAll enc P w 0 (fun _ => true) held ts vs xs ps → ∃ dss, OfAll ls dss ∧ DenL w (Old w) (fun _ => none) (argsD P ts dss) vs
  | [], ls, [], [], _, hs, _, _ => by
    simp only [shCs, Option.some.injEq] at hs
    subst hs
    exact ⟨[], by simp [OfAll], ⟨rfl, fun i c x h => by cases h⟩⟩
  | t :: ts, ls, v :: vs, x :: xs, ps, hs, hv, ⟨p, q, h1, h2, _⟩ => by
    simp only [shCs] at hs
    split at hs
    rotate_left
    · cases hs
    rename_i a b ha hb
    injection hs with hs
    subst hs
    obtain ⟨ds, g1, g2⟩ := open_arg ha (hv 0 t v rfl rfl) h1
    obtain ⟨dss, g3, g4⟩ := open_args ts b vs xs q hb (fun j t v h k => hv (j + 1) t v h k) h2
    refine ⟨ds :: dss, ⟨g1, g3⟩, ⟨by simp [argsD, g4.1], fun i c x hc hx => ?_⟩⟩
    match i, hc, hx with
    | 0, hc, hx =>
      simp only [argsD, List.getElem?_cons_zero, Option.some.injEq] at hc hx
      subst hc hx
      exact g2
    | i + 1, hc, hx => exact g4.2 i c x hc hx
  | [], _, [], _ :: _, _, _, _, h => h.elim
  | [], _, _ :: _, _, _, _, _, h => h.elim
  | _ :: _, _, [], _, _, _, _, h => h.elim
  | _ :: _, _, _ :: _, [], _, _, _, h => h.elim
/-- Whatever the arguments, if the function returns true of all settled data of their types. -/
theorem law_open {d b0 : Nat} {f : Nat} {ts : List Nat} {ls : List (List Cs)} {args : Array Value} {xs : List (DataW H)} {ps : List MemPlace} (hs : shCs P d ts = some ls)
    (hv : ∀ (j : Nat) t v, ts[j]? = some t → args.toList[j]? = some v → Value.okWide P w .any b0 t v) (hA : DataW.TrodAll enc P w 0 (fun _ => true) held ts args.toList xs ps)
    (h : ∀ dss, OfAll ls dss → OFn P G0 f (argsD P ts dss) [] 0 (bv true) []) : Calls P f args w (Rets (.bool true) w) := by
  obtain ⟨dss, h1, h2⟩ := open_args ts ls args.toList xs ps hs hv hA
  have := rets_of (h dss h1) h2
  simpa using this
theorem list_of {α : Type} {es : List D} (f : α → D) (h : ∀ y ∈ es, ∃ x, y = f x) : ∃ l : List α, es = l.map f := by
  induction es with
  | nil => exact ⟨[], rfl⟩
  | cons e r ih =>
    obtain ⟨x, rfl⟩ := h e List.mem_cons_self
    obtain ⟨l, rfl⟩ := ih fun y hy => h y (List.mem_cons_of_mem _ hy)
    exact ⟨x :: l, rfl⟩
theorem trod_len : ∀ {ts : List Nat} {vs : List Value} {xs : List (DataW H)} {ps : List MemPlace}, DataW.TrodAll enc P w 0 (fun _ => true) held ts vs xs ps → xs.length = ts.length
  | [], [], [], _, _ => rfl
  | t :: ts, v :: vs, x :: xs, ps, ⟨p, q, h1, h2, _⟩ => by simp [trod_len h2]
  | [], [], _ :: _, _, h => h.elim
  | [], _ :: _, _, _, h => h.elim
  | _ :: _, [], _, _, h => h.elim
  | _ :: _, _ :: _, [], _, h => h.elim
end
end Go.Proofs.Ytlledfabkmmgoaa
/- The arguments of the laws on selections, opened. -/
namespace Go.Proofs.Ytlledfabkmmgoaa
open Go Go.ChangeShapes Go.WideShapes Go.ChangeAt Go.RowKit Go.Joins
theorem two_of {es : List D} (h : ∀ y ∈ es, ∃ ds, y = mkEl true ds ∧ OfCs [.int .i64, .int .i64] ds) : ∃ l : List Se, es = l.map seD := by
  refine list_of seD fun y hy => ?_
  obtain ⟨ds, rfl, hd⟩ := h y hy
  match ds, hd with
  | [a, b], hd =>
    simp only [OfCs, OfC] at hd
    obtain ⟨⟨m, rfl, _⟩, ⟨k, rfl, _⟩, _⟩ := hd
    exact ⟨(m, k), rfl⟩
  | [], hd => simp [OfCs] at hd
  | [_], hd => simp [OfCs] at hd
  | _ :: _ :: _ :: _, hd => simp [OfCs] at hd
theorem st_int : isStT Try.prog 3 = false := by kernel_rfl
theorem st_sels : isStT Try.prog 39 = false := by kernel_rfl
theorem args_two {dss : List (List D)} (h : OfAll [[.int .i64], [.sl 2 true [.int .i64, .int .i64]]] dss) : ∃ (n : Int) (l : List Se), l.length ≤ maxLen ∧ argsD Try.prog [3, 39] dss = [iv n, seL l] := by
  match dss, h with
  | [[a], [b]], h =>
    simp only [OfAll, OfCs, OfC] at h
    obtain ⟨⟨⟨n, rfl, _⟩, _⟩, ⟨⟨es, rfl, hle, hes⟩, _⟩, _⟩ := h
    obtain ⟨l, rfl⟩ := two_of hes
    exact ⟨n, l, by simpa using hle, by simp only [argsD, argD, st_int, st_sels, mkEl]⟩
  | [], h => simp [OfAll] at h
  | [_], h => simp [OfAll] at h
  | [] :: _ :: _, h => simp [OfAll, OfCs] at h
  | (_ :: _ :: _) :: _ :: _, h => simp [OfAll, OfCs] at h
  | _ :: [] :: _, h => simp [OfAll, OfCs] at h
  | _ :: (_ :: _ :: _) :: _, h => simp [OfAll, OfCs] at h
  | _ :: _ :: _ :: _, h => simp [OfAll] at h
theorem four_of {es : List D} (h : ∀ y ∈ es, ∃ ds, y = mkEl true ds ∧ OfCs [.int .i64, .int .i64, .int .i64, .int .i64] ds) : ∃ l : List Ch, es = l.map chD := by
  refine list_of chD fun y hy => ?_
  obtain ⟨ds, rfl, hd⟩ := h y hy
  match ds, hd with
  | [a, b, c, d], hd =>
    simp only [OfCs, OfC] at hd
    obtain ⟨⟨m, rfl, _⟩, ⟨k, rfl, _⟩, ⟨p, rfl, _⟩, ⟨q, rfl, _⟩, _⟩ := hd
    exact ⟨(m, k, p, q), rfl⟩
  | [], hd => simp [OfCs] at hd
  | [_], hd => simp [OfCs] at hd
  | [_, _], hd => simp [OfCs] at hd
  | [_, _, _], hd => simp [OfCs] at hd
  | _ :: _ :: _ :: _ :: _ :: _, hd => simp [OfCs] at hd
theorem st_changes : isStT Try.prog 56 = false := by kernel_rfl
theorem args_three {dss : List (List D)} (h : OfAll [[.int .i64], [.sl 2 true [.int .i64, .int .i64]], [.sl 4 true [.int .i64, .int .i64, .int .i64, .int .i64]]] dss) :
    ∃ (n : Int) (l : List Se) (cs : List Ch), l.length ≤ maxLen ∧ cs.length ≤ maxLen ∧ argsD Try.prog [3, 39, 56] dss = [iv n, seL l, chL cs] := by
  match dss, h with
  | a :: b :: [c], h =>
    simp only [OfAll] at h
    obtain ⟨h1, h2, h3, _⟩ := h
    obtain ⟨n, l, hl, e⟩ := args_two (dss := [a, b]) ⟨h1, h2, trivial⟩
    match c, h3 with
    | [x], h3 =>
      simp only [OfCs, OfC] at h3
      obtain ⟨⟨es, rfl, hle, hes⟩, _⟩ := h3
      obtain ⟨cs, rfl⟩ := four_of hes
      refine ⟨n, l, cs, hl, by simpa using hle, ?_⟩
      simp only [argsD, List.cons.injEq, and_true] at e ⊢
      refine ⟨e.1, e.2, ?_⟩
      simp only [argD, st_changes, mkEl]
    | [], h3 => simp [OfCs] at h3
    | _ :: _ :: _, h3 => simp [OfCs] at h3
  | [], h => simp [OfAll] at h
  | [_], h => simp [OfAll] at h
  | [_, _], h => simp [OfAll] at h
  | _ :: _ :: _ :: _ :: _, h => simp [OfAll] at h
end Go.Proofs.Ytlledfabkmmgoaa
namespace Go.Proofs.Ytlledfabkmmgoaa
open Go Go.ChangeShapes Go.WideShapes Go.ChangeAt Go.RowKit Go.Joins

set_option maxRecDepth 100000 in
theorem selectsApart_lifted (os : Os) (started : os.Started) (H : Type) (enc : TypeId × Value → H) :
    ReturnsInHanded {} Try.checked os 7 .any (Rows.selectsApartSpec.pre6 enc Try.prog Try.f7 Rows.selectsApartRow.domain false) (Rows.selectsApartSpec.post enc Try.prog Try.f7 false true false false) := by
  refine returnsInHanded_of_change (C := Try.checked) Try.own started (by kernel_rfl) Try.func7
    (ChangeSpec.witness6 (enc := enc) (C := Try.checked) false ⟨#[], #[.int .i64 0, .slice none 0 0], []⟩ 8 (by kernel_rfl) (by kernel_rfl) (by kernel_rfl) (by kernel_rfl)) ?_
  intro W base args ds gs before hval0 hW _ _
  have hval : ∀ (j : Nat) t v, Try.f7.params[j]? = some t → args[j]? = some v → Value.okWide Try.prog W .any base t v := hval0
  obtain ⟨p, q, hA0, hV, hpq, hfz, hnd⟩ := id hW
  have hA : DataW.TrodAll enc Try.prog W 0 (fun _ => true) true Try.f7.params.toList args.toList ds p := hA0
  obtain ⟨hgs, hq⟩ := trodVars_none hV
  have hlen := trod_len hA
  rw [Try.params7] at hA hval hlen
  subst hgs
  have hsp : Rows.selectsApartSpec.fn H (ds ++ []) = { results := [.lit (.bool true)], args := ds } := by
    rw [List.append_nil]
    simp only [List.length_cons, List.length_nil] at hlen
    first
      | (obtain ⟨d0, rfl⟩ := List.length_eq_one_iff.1 hlen; rfl)
      | (match ds, hlen with | [d0, d1], _ => rfl)
      | (match ds, hlen with | [d0, d1, d2], _ => rfl)
      | (match ds, hlen with | [d0, d1, d2, d3], _ => rfl)
      | (match ds, hlen with | [d0, d1, d2, d3, d4], _ => rfl)
  refine law_calls (P := Try.prog) Try.laidOut (by kernel_rfl) rfl rfl Try.underlying4 hW hsp (law_open (ls := [[.int .i64], [.sl 2 true [.int .i64, .int .i64]]]) (d := 20) (by kernel_rfl) (fun j t v h k => hval j t v (by simpa using h) (by simpa using k)) hA ?_)
  intro dss h
  obtain ⟨n, l, hl, e⟩ := args_two h
  rw [e]
  exact lawApart_fn n l hl

theorem selectsApart_holds : Rows.SelectsApartSaid :=
  OpenClaim.holds_of_wide 7 Try.f7 rfl rfl rfl rfl rfl rfl rfl ⟨rfl, rfl, rfl, rfl, rfl⟩ rfl rfl rfl rfl rfl (by kernel_rfl) Try.func7 (by kernel_rfl)
    (of_decide_eq_true (by kernel_rfl)) (by unfold Func.isWrapper; rw [if_neg (of_decide_eq_false (by kernel_rfl))]; exact ⟨rfl, rfl⟩)
    (fun os started H enc _ => selectsApart_lifted os started H enc)

#print axioms selectsApart_holds
end Go.Proofs.Ytlledfabkmmgoaa
