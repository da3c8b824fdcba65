/- What the theorem leans on, part 3. -/
import Derived.IntWalk
import Derived.ChangeKeysEq
import Derived.Test.YthjjncooaahejaaGreatDoorBlPAA
import Derived.Test.YthjjncooaahejaaGreatDoorBlPAB
set_option linter.unusedSimpArgs false
namespace Go.Proofs.YthjjncooaahejaaGreatDoor
abbrev ii (a b : Int) : D := .agg [.lit (.int .i64 a), .lit (.int .i64 b)]
abbrev iv (a : Int) : V := .d (.lit (.int .i64 a))
abbrev bv (b : Bool) : V := .d (.lit (.bool b))
theorem brW.two {b : Bool} {p q : Prop} (h1 : b = true → p) (h2 : b = false → q) : brW b p q := ⟨h1, h2⟩
theorem brM.two {b : Bool} {p q : Prop} (h1 : b = true → p) (h2 : b = false → q) : brM b p q := ⟨h1, h2⟩
theorem brW.dec {p : Prop} [Decidable p] {q r : Prop} (h1 : p → q) (h2 : ¬ p → r) : brW (decide p) q r := ⟨fun h => h1 (of_decide_eq_true h), fun h => h2 (of_decide_eq_false h)⟩
theorem brM.dec {p : Prop} [Decidable p] {q r : Prop} (h1 : p → q) (h2 : ¬ p → r) : brM (decide p) q r := ⟨fun h => h1 (of_decide_eq_true h), fun h => h2 (of_decide_eq_false h)⟩
theorem brM.ndec {p : Prop} [Decidable p] {q r : Prop} (h1 : ¬ p → q) (h2 : p → r) : brM (!decide p) q r := ⟨fun h => h1 (by simpa using h), fun h => h2 (by simpa using h)⟩
theorem brW.ndec {p : Prop} [Decidable p] {q r : Prop} (h1 : ¬ p → q) (h2 : p → r) : brW (!decide p) q r := ⟨fun h => h1 (by simpa using h), fun h => h2 (by simpa using h)⟩
theorem ndW.intro {p q : Prop} (h1 : p) (h2 : p → q) : ndW p q := ⟨h1, h2 h1⟩
theorem ndW.intro' {p q : Prop} (h1 : p) (h2 : q) : ndW p q := ⟨h1, h2⟩
theorem elX.intro {α : Type} {xs : List α} {i : Nat} {K : α → Prop} (h : ∀ x, xs[i]? = some x → K x) : elX xs i K := h
theorem elW.intro {xs : List D} {i : Nat} {K : D → Prop} (h : ∀ x, xs[i]? = some x → K x) : elW xs i K := h
theorem elX.at {α : Type} {xs : List α} {i : Nat} {K : α → Prop} (n : Nat) (hn : i = n) (h : ∀ x, xs[n]? = some x → K x) : elX xs i K := by subst hn; exact h
theorem elX.is {α : Type} {xs : List α} {i : Nat} {K : α → Prop} (n : Nat) (x : α) (hn : i = n) (hx : xs[n]? = some x) (h : K x) : elX xs i K := by
  subst hn
  intro y hy
  rw [hx] at hy; injection hy with hy; subst hy; exact h
theorem Sub_refl (σ : Sig) : Sub σ σ := fun _ _ h => h
theorem w64 (n : Int) (h1 : -9223372036854775808 ≤ n) (h2 : n ≤ 9223372036854775807) : IntKind.i64.wrap n = n := IntWalk.i64_in n ⟨h1, h2⟩
attribute [push_cast] St.nil.eq_def Nat.le_refl List.take_length Int.sub_zero Int.add_zero Int.zero_add
theorem take_snoc {α β : Type} (f : α → β) {xs : List α} {i : Nat} {x : α} (h : xs[i]? = some x) : (xs.take (i + 1)).map f = (xs.take i).map f ++ [f x] := by
  rw [List.take_add_one, h]; simp
theorem take_snoc' {α : Type} {xs : List α} {i : Nat} {x : α} (h : xs[i]? = some x) : xs.take (i + 1) = xs.take i ++ [x] := by
  rw [List.take_add_one, h]; simp
theorem wu64 (n : Int) (h1 : 0 ≤ n) (h2 : n ≤ 18446744073709551615) : IntKind.u64.wrap n = n := by rw [IntKind.wrap_u64]; omega
theorem half64 (n : Int) : n.fdiv (2 ^ min (Int.toNat 1) IntKind.u64.bits) = n / 2 := by
  rw [show (2 : Int) ^ min (Int.toNat 1) IntKind.u64.bits = 2 from rfl, Int.fdiv_eq_ediv_of_nonneg n (by omega)]
theorem half64' (n : Int) : n.fdiv (2 ^ min 1 IntKind.u64.bits) = n / 2 := half64 n
def addI : List Nat → Nat → List Nat
  | [], i => [i]
  | x :: r, i => if x = i then x :: r else x :: addI r i
def idsV (l : List Nat) : V → List Nat
  | .so i _ _ _ => addI l i
  | .po i _ => addI l i
  | .pe i _ _ _ => addI l i
  | .mo i => addI l i
  | .it i => addI l i
  | .yl i => addI l i
  | _ => l
def idsL (l : List Nat) : List V → List Nat
  | [] => l
  | v :: r => idsL (idsV l v) r
def idsW (l : List Nat) : V → List Nat
  | .agg cs => idsL l cs
  | .tup cs => idsL l cs
  | .fn _ cs => idsL l cs
  | v => idsV l v
def idsE (l : List Nat) : List V → List Nat
  | [] => l
  | v :: r => idsE (idsW l v) r
def idsB (σ : Sig) : List Nat → List Nat → List Nat
  | [], l => l
  | i :: r, l => idsB σ r (match σ.get i with | some (.cell cs _) => idsE l cs | _ => l)
def idsC (σ : Sig) (l : List Nat) : List Nat := idsB σ l l
def getL (e : Env) : List Nat → List V
  | [] => []
  | t :: r => e.get t :: getL e r
def St.ids (st : St) (ks : List Nat) : List Nat := idsC st.sg (idsC st.sg (idsE [] (getL st.env ks)))
def geL (m : Nat) : List Nat → List Nat
  | [] => []
  | x :: r => if x < m then geL m r else x :: geL m r
def St.norm (st : St) (m : Nat) (ks : List Nat) : St := (st.pick ks (st.ids ks)).sel m (geL m (st.ids ks))
attribute [push_cast] addI idsV.eq_def idsL idsW.eq_def idsE idsB idsC.eq_def getL geL St.ids.eq_def St.norm.eq_def
theorem GhW.go {G : Gl} {m : Nat} {K : St → Prop} {st st' : St} (ks : List Nat) (he : st.norm m ks = st') (hK : K st') : GhW G m K st := GhW.to ks (st.ids ks) (geL m (st.ids ks)) he hK
def AgW {α : Type} (G : Gl) (m : Nat) (S : α → St) (pre : α → Prop) (mu : α → Nat) (x : α) (st : St) (_u : Tag S := .mk) (_v : Tag pre := .mk) (_w : Tag mu := .mk) (_x : Tag x := .mk) (_h : True := trivial) : Prop := GhW G m (fun st' => ∃ j, j < mu x ∧ ∃ y, mu y = j ∧ st' = S y ∧ pre y) st
section
variable {P : Program} {G : Gl} {n m : Nat} {lv : List Nat} {α : Type} {S : α → St} {pre : α → Prop} {mu : α → Nat}
theorem AgW.to {x : α} {st : St} (y : α) (ks is l : List Nat) (he : (st.pick ks is).sel m l = S y) (hm : mu y < mu x) (hp : pre y) : AgW G m S pre mu x st :=
  GhW.to ks is l he ⟨_, hm, y, rfl, rfl, hp⟩
theorem AgW.go {x : α} {st : St} (y : α) (ks : List Nat) (he : st.norm m ks = S y) (hm : mu y < mu x) (hp : pre y) : AgW G m S pre mu x st :=
  GhW.go ks he ⟨_, hm, y, rfl, rfl, hp⟩
theorem AgW.frz {x : α} {st : St} (id : Nat) (h : AgW G m S pre mu x (st.frz id)) : AgW G m S pre mu x st := GhW.frz id h
theorem loopW_go (ho : P.follows .mixedOrders = true) {c : Code} (hok : codeOk n c = true) {st : St} {Q : Exit → St → Prop} (S : α → St) (pre : α → Prop) (mu : α → Nat) (x0 : α) (h0 : GhW G m (fun st' => st' = S x0) st) (hp : pre x0)
    (hr : ∀ x, pre x → codeW P G n m lv c (S x) (seqK (fun st => AgW G m S pre mu x st) Q)) : LoopW P G n m c st Q :=
  loopW_at (lv := lv) ho hok S pre mu x0 h0 hp hr
end
end Go.Proofs.YthjjncooaahejaaGreatDoor
set_option linter.unusedSimpArgs false
namespace Go.Proofs.YthjjncooaahejaaGreatDoor
section
variable {P : Program} {G : Gl}
theorem CallW.put {f : Nat} {args args' : List V} {σ : Sig} {id : Nat} {K : V → Sig → Prop} {r : V} {b b' : Blk} (i : Nat) (h : OFn P G f args' [(0, b)] 1 r [(0, b')]) (he : entT P f = true) (ha : args.map (V.sel (fw [i])) = args') (hs : σ.sel (fw [i]) = [(0, b)]) (hl : okL [i] id σ = true)
    (hK : K (r.sel (bk [i] id)) (delL σ [i] ++ Sig.sel (bk [i] id) [(0, b')])) : CallW P G f args σ id K :=
  CallW.of [i] he (by rw [ha, hs]; exact h) hl hK
end
theorem brW.beq {a b : Int} {q r : Prop} (h1 : a = b → q) (h2 : ¬ a = b → r) : brW (a == b) q r := ⟨fun h => h1 (by simpa using h), fun h => h2 (by simpa using h)⟩
theorem brM.beq {a b : Int} {q r : Prop} (h1 : a = b → q) (h2 : ¬ a = b → r) : brM (a == b) q r := ⟨fun h => h1 (by simpa using h), fun h => h2 (by simpa using h)⟩
theorem brW.bne {a b : Int} {q r : Prop} (h1 : ¬ a = b → q) (h2 : a = b → r) : brW (!(a == b)) q r := ⟨fun h => h1 (by simpa using h), fun h => h2 (by simpa using h)⟩
theorem brM.bne {a b : Int} {q r : Prop} (h1 : ¬ a = b → q) (h2 : a = b → r) : brM (!(a == b)) q r := ⟨fun h => h1 (by simpa using h), fun h => h2 (by simpa using h)⟩
theorem brW.dand {p p' : Prop} [Decidable p] [Decidable p'] {q r : Prop} (h1 : p ∧ p' → q) (h2 : ¬ (p ∧ p') → r) : brW (decide p && decide p') q r := ⟨fun h => h1 (by simpa using h), fun h => h2 (by simpa using h)⟩
theorem brM.dand {p p' : Prop} [Decidable p] [Decidable p'] {q r : Prop} (h1 : p ∧ p' → q) (h2 : ¬ (p ∧ p') → r) : brM (decide p && decide p') q r := ⟨fun h => h1 (by simpa using h), fun h => h2 (by simpa using h)⟩
theorem brW.dor {p p' : Prop} [Decidable p] [Decidable p'] {q r : Prop} (h1 : p ∨ p' → q) (h2 : ¬ (p ∨ p') → r) : brW (decide p || decide p') q r := ⟨fun h => h1 (by simpa using h), fun h => h2 (by simpa using h)⟩
theorem brM.dor {p p' : Prop} [Decidable p] [Decidable p'] {q r : Prop} (h1 : p ∨ p' → q) (h2 : ¬ (p ∨ p') → r) : brM (decide p || decide p') q r := ⟨fun h => h1 (by simpa using h), fun h => h2 (by simpa using h)⟩
theorem brW.and {a b : Bool} {q r : Prop} (h : brW a (brW b q r) r) : brW (a && b) q r := by
  cases a
  · exact ⟨fun h => by simp at h, fun _ => h.2 rfl⟩
  · exact h.1 rfl
attribute [push_cast] Bool.not_true Bool.not_false bk.eq_def fw.eq_def delL okL.eq_def
end Go.Proofs.YthjjncooaahejaaGreatDoor
set_option linter.unusedSimpArgs false
namespace Go.Proofs.YthjjncooaahejaaGreatDoor
open Go
section
variable {P : Program}
def eqCKs (P : Program) (g : Nat → Option (List CK)) : List Field → Nat → Option (List CK)
  | [], _ => some []
  | f :: r, o => if (decide (f.name ≠ "_") && decide (f.offset = o) && (P.info? f.type).isSome) = true then (match g f.type with
    | some a => if P.cellsOf f.type = a.length then (eqCKs P g r (o + a.length)).map (a ++ ·) else none
    | none => none) else none
def eqCK (P : Program) : Nat → Nat → Option (List CK)
  | 0, _ => none
  | d + 1, t => match P.underlying t with
    | some (.int k) => some [.int k]
    | some .bool => some [.bool]
    | some .string => some [.str]
    | some (.struct fs) => if P.stoodInHeld t = false then eqCKs P (eqCK P d) fs.toList 0 else none
    | _ => none
def HoldsT (P : Program) (t : Nat) (xs : List Value) (v : Value) : Prop :=
  match P.underlying t with
  | some (.struct _) => v = .agg xs.toArray
  | _ => xs = [v]
theorem fitsAll_len : ∀ {ks : List CK} {xs : List Value}, fitsAll ks xs → ks.length = xs.length
  | [], [], _ => rfl
  | _ :: _, _ :: _, h => by simp [fitsAll_len h.2]
  | [], _ :: _, h => h.elim
  | _ :: _, [], h => h.elim
theorem fitsAll_app : ∀ {a b : List CK} {xs : List Value}, fitsAll (a ++ b) xs → fitsAll a (xs.take a.length) ∧ fitsAll b (xs.drop a.length)
  | [], _, _, h => ⟨trivial, h⟩
  | _ :: _, _, [], h => h.elim
  | c :: a, b, x :: xs, h => by
    have := fitsAll_app (a := a) (b := b) h.2
    exact ⟨⟨h.1, this.1⟩, this.2⟩
theorem eqVals_app : ∀ {a b c d : List Value}, a.length = b.length → eqVals (a ++ c) (b ++ d) = (eqVals a b && eqVals c d)
  | [], [], _, _, _ => by simp [eqVals]
  | x :: a, y :: b, c, d, h => by simp [eqVals, eqVals_app (a := a) (b := b) (c := c) (d := d) (by simpa using h), Bool.and_assoc]
  | [], _ :: _, _, _, h => by simp at h
  | _ :: _, [], _, _, h => by simp at h
theorem eqCK_one {d t : Nat} {ks : List CK} (h : eqCK P d t = some ks) (hs : ∀ fs, P.underlying t ≠ some (.struct fs)) : ks.length = 1 ∧ ((∃ k, P.underlying t = some (.int k)) ∨ P.underlying t = some .bool ∨ P.underlying t = some .string) := by
  cases d with
  | zero => simp [eqCK] at h
  | succ d =>
    simp only [eqCK] at h
    split at h
    · injection h with h; subst h; rename_i k hk; exact ⟨rfl, .inl ⟨k, hk⟩⟩
    · injection h with h; subst h; rename_i hk; exact ⟨rfl, .inr (.inl hk)⟩
    · injection h with h; subst h; rename_i hk; exact ⟨rfl, .inr (.inr hk)⟩
    · rename_i fs hk; exact absurd hk (hs fs)
    · cases h
theorem part_run {d e o : Nat} {ks : List CK} {xs : List Value} {w : World} (h : eqCK P d e = some ks) (hi : (P.info? e).isSome = true) (hc : P.cellsOf e = ks.length) (hl : o + ks.length ≤ xs.length) :
    ∃ v, (part e xs.toArray o).run P w = .ok v w ∧ HoldsT P e ((xs.drop o).take ks.length) v := by
  by_cases hs : ∃ fs, P.underlying e = some (.struct fs)
  · obtain ⟨fs, hu⟩ := hs
    obtain ⟨i, hi⟩ := Option.isSome_iff_exists.1 hi
    refine ⟨.agg (xs.toArray.extract o (o + P.cellsOf e)), by simp [part, isAgg, run_underlying hu, run_sizeOf w hi], ?_⟩
    simp only [HoldsT, hu]
    congr 1
    apply Array.ext'
    rw [Array.toList_extract, hc]
    simp [List.extract]
  · have hs' : ∀ fs, P.underlying e ≠ some (.struct fs) := fun fs hu => hs ⟨fs, hu⟩
    obtain ⟨h1, hk⟩ := eqCK_one h hs'
    have hlt : o < xs.length := by omega
    have hp : P.plainKey e = true := by
      unfold Program.plainKey
      rcases hk with ⟨k, hk⟩ | hk | hk <;> rw [hk]
    refine ⟨xs[o], run_part_plain w hp (by simp [hlt]), ?_⟩
    have : (xs.drop o).take ks.length = [xs[o]] := by rw [h1, List.drop_eq_getElem_cons hlt, List.take_succ_cons, List.take_zero]
    rcases hk with ⟨k, hk⟩ | hk | hk <;> simp only [HoldsT, hk] <;> exact this
theorem eqFields_run {d D : Nat} (ih : ∀ t ks, eqCK P d t = some ks → ∀ (w : World) xs ys vx vy, fitsAll ks xs → fitsAll ks ys → HoldsT P t xs vx → HoldsT P t ys vy → (Op.equalIn D t vx vy).run P w = .ok (eqVals xs ys) w)
    (xs ys : List Value) (w : World) : ∀ (fs : List Field) (o : Nat) (ks : List CK), eqCKs P (eqCK P d) fs o = some ks → fitsAll ks (xs.drop o) → fitsAll ks (ys.drop o) →
      (Op.eqFields D xs.toArray ys.toArray fs).run P w = .ok (eqVals (xs.drop o) (ys.drop o)) w
  | [], o, ks, h, hx, hy => by
    simp only [eqCKs, Option.some.injEq] at h
    subst h
    have h1 := fitsAll_len hx
    have h2 := fitsAll_len hy
    rw [List.eq_nil_of_length_eq_zero h1.symm, List.eq_nil_of_length_eq_zero h2.symm]
    simp [Op.eqFields, eqVals]
  | f :: fs, o, ks, h, hx, hy => by
    simp only [eqCKs] at h
    split at h
    rotate_left
    · cases h
    rename_i hc
    simp only [Bool.and_eq_true, decide_eq_true_eq] at hc
    obtain ⟨⟨hn, ho⟩, hi⟩ := hc
    split at h
    rotate_left
    · cases h
    rename_i a ha
    split at h
    rotate_left
    · cases h
    rename_i hcl
    simp only [Option.map_eq_some_iff] at h
    obtain ⟨b, hb, rfl⟩ := h
    have lx := fitsAll_len hx
    have ly := fitsAll_len hy
    simp only [List.length_append, List.length_drop] at lx ly
    obtain ⟨hx1, hx2⟩ := fitsAll_app hx
    obtain ⟨hy1, hy2⟩ := fitsAll_app hy
    rw [List.drop_drop] at hx2 hy2
    have l1 : o + a.length ≤ xs.length ∨ a.length = 0 := by omega
    have l2 : o + a.length ≤ ys.length ∨ a.length = 0 := by omega
    rcases Nat.eq_zero_or_pos a.length with h0 | h0
    ·
      have ha0 : a = [] := List.eq_nil_of_length_eq_zero h0
      subst ha0
      by_cases hs : ∃ gs, P.underlying f.type = some (.struct gs)
      · obtain ⟨gs, hu⟩ := hs
        obtain ⟨i, hi⟩ := Option.isSome_iff_exists.1 hi
        have p : ∀ zs : List Value, (part f.type zs.toArray f.offset).run P w = .ok (.agg #[]) w := by
          intro zs
          simp [part, isAgg, run_underlying hu, run_sizeOf w hi, hcl]
        have e := ih f.type [] ha w [] [] (.agg #[]) (.agg #[]) trivial trivial (by simp [HoldsT, hu]) (by simp [HoldsT, hu])
        have r := eqFields_run ih xs ys w fs (o + 0) b hb hx2 hy2
        simp only [Op.eqFields, hn, ne_eq, not_false_eq_true, if_true, Sem.run_bind, p, e, Result.andThen_ok, eqVals, Bool.not_true, Bool.false_eq_true, if_false]
        exact r
      · have := (eqCK_one ha fun gs hu => hs ⟨gs, hu⟩).1
        simp at this
    · have l1 : o + a.length ≤ xs.length := by omega
      have l2 : o + a.length ≤ ys.length := by omega
      obtain ⟨v, p1, q1⟩ := part_run (w := w) ha hi hcl l1
      obtain ⟨u, p2, q2⟩ := part_run (w := w) ha hi hcl l2
      have e := ih f.type a ha w _ _ v u hx1 hy1 q1 q2
      have r := eqFields_run ih xs ys w fs (o + a.length) b hb hx2 hy2
      have key : eqVals (xs.drop o) (ys.drop o) = (eqVals ((xs.drop o).take a.length) ((ys.drop o).take a.length) && eqVals (xs.drop (o + a.length)) (ys.drop (o + a.length))) := by
        rw [← eqVals_app (by simp; omega), ← List.drop_drop, ← List.drop_drop, List.take_append_drop, List.take_append_drop]
      rw [key]
      simp only [Op.eqFields, hn, ho, ne_eq, not_false_eq_true, if_true, Sem.run_bind, p1, p2, e, Result.andThen_ok]
      cases eqVals ((xs.drop o).take a.length) ((ys.drop o).take a.length)
      · simp
      · simpa using r
theorem eqCK_run : ∀ (d t : Nat) (ks : List CK), eqCK P d t = some ks → ∀ (D : Nat) (w : World) xs ys vx vy, d ≤ D → fitsAll ks xs → fitsAll ks ys → HoldsT P t xs vx → HoldsT P t ys vy → (Op.equalIn D t vx vy).run P w = .ok (eqVals xs ys) w := by
  intro d
  induction d with
  | zero => intro t ks h; simp [eqCK] at h
  | succ d ih =>
    intro t ks h D w xs ys vx vy hD hx hy hvx hvy
    obtain ⟨D, rfl⟩ : ∃ E, D = E + 1 := ⟨D - 1, by omega⟩
    simp only [eqCK] at h
    split at h
    · rename_i k hu
      injection h with h; subst h
      simp only [HoldsT, hu] at hvx hvy
      subst hvx hvy
      obtain ⟨⟨a, rfl⟩, _⟩ := hx
      obtain ⟨⟨b, rfl⟩, _⟩ := hy
      rw [run_equalIn_int w D t k k a b hu]
      simp [eqVals, eqVal]
    · rename_i hu
      injection h with h; subst h
      simp only [HoldsT, hu] at hvx hvy
      subst hvx hvy
      obtain ⟨⟨a, rfl⟩, _⟩ := hx
      obtain ⟨⟨b, rfl⟩, _⟩ := hy
      rw [run_equalIn_bool' w D t a b hu]
      simp [eqVals, eqVal]
    · rename_i hu
      injection h with h; subst h
      simp only [HoldsT, hu] at hvx hvy
      subst hvx hvy
      obtain ⟨⟨a, rfl⟩, _⟩ := hx
      obtain ⟨⟨b, rfl⟩, _⟩ := hy
      rw [run_equalIn_string w D t a b hu, ← beq_toListBytes]
      simp [eqVals, eqVal]
    · rename_i fs hu
      split at h
      rotate_left
      · cases h
      rename_i hst
      simp only [HoldsT, hu] at hvx hvy
      subst hvx hvy
      have hf : P.fieldsOf t = fs := by simp [Program.fieldsOf, hu]
      rw [run_equalIn_struct w D t _ _ (by rw [hf]; exact hu) hst, hf]
      exact eqFields_run (fun t ks h w xs ys vx vy a b c e => ih t ks h D w xs ys vx vy (by omega) a b c e) xs ys w fs.toList 0 ks h hx hy
    · cases h
def eqOkT (P : Program) (t : Nat) : Option (List CK) :=
  match P.underlying t with
  | some (.struct _) => if P.eqGuardType P.depth t = false then eqCK P 20 t else none
  | _ => none
theorem EqOk.of {t : Nat} {ks : List CK} (h : eqOkT P t = some ks) : EqOk P t ks := by
  unfold eqOkT at h
  split at h
  rotate_left
  · cases h
  rename_i fs hu
  split at h
  rotate_left
  · cases h
  rename_i hg
  refine ⟨hg, fun xs ys w hx hy => ?_⟩
  exact eqCK_run 20 t ks h Op.maxDepth w xs ys _ _ (by decide) hx hy (by simp [HoldsT, hu]) (by simp [HoldsT, hu])
end
attribute [push_cast] eqVals eqVal
end Go.Proofs.YthjjncooaahejaaGreatDoor
set_option linter.unusedSimpArgs false
namespace Go.Proofs.YthjjncooaahejaaGreatDoor
open Go
section
variable {P : Program} {G : Gl} {w : World} {I : Nat → Prop} {β : Bet} {σ : Sig} {nx id : Nat} {blk : Blk}
theorem Does.frz {f i : Nat} {args : List V} {v : V} {σ' : Sig} (hg : σ.get i = some blk) (h : Does P G f (args.map (V.frz i blk)) (σ.frz i blk) id v σ') : Does P G f args σ id v σ' := by
  intro w I β nx vals hm hG hf hnx hd
  obtain ⟨s, hset⟩ := frz_step hm hg
  refine (h w _ β nx vals s.mem (fun g x hx => (hG g x hx).keep (fun _ _ => rfl) (fun b hb => .inl hb)) hf hnx ⟨by simpa using hd.1, fun j c x hc hx => ?_⟩).mono ?_
  · simp only [List.getElem?_map, Option.map_eq_some_iff] at hc
    obtain ⟨c', hc', rfl⟩ := hc
    exact hset.den (hd.2 j c' x hc' hx)
  · rintro e w' ⟨u, I2, β2, e1, e2, e3, e4⟩
    exact ⟨u, I2, β2, e1, e2, s.trans e3, e4⟩
theorem CallW.frz {f : Nat} {args : List V} {K : V → Sig → Prop} (i : Nat) (hg : σ.get i = some blk) (h : CallW P G f (args.map (V.frz i blk)) (σ.frz i blk) id K) (hent : entT P f = true := by kernel_rfl) : CallW P G f args σ id K := by
  obtain ⟨v, σ', hK, hd⟩ := h
  rcases hd with ⟨he, hd⟩ | ⟨he, _⟩
  · exact ⟨v, σ', hK, .inl ⟨he, hd.frz hg⟩⟩
  · rw [ext_not hent] at he; cases he
end
attribute [push_cast] bne_self_eq_false beq_self_eq_true Bool.true_beq Bool.false_beq Bool.false_or Bool.true_or Bool.or_false Bool.or_true Bool.and_true Bool.true_and Bool.false_and Bool.and_false
end Go.Proofs.YthjjncooaahejaaGreatDoor
namespace Go.Proofs.YthjjncooaahejaaGreatDoor
theorem bneI (a b : Int) : (a != b) = !(a == b) := rfl
attribute [push_cast] bneI Bool.not_not
end Go.Proofs.YthjjncooaahejaaGreatDoor
namespace Go.Proofs.YthjjncooaahejaaGreatDoor
class BrC (b : Bool) (p q : outParam Prop) : Prop where
  says : b = true ↔ p
  nots : b = false ↔ q
theorem BrC.mk' {b : Bool} {p : Prop} (h : b = true ↔ p) : BrC b p (¬ p) := ⟨h, by rw [← h]; simp⟩
instance (priority := 100) BrC.any (b : Bool) : BrC b (b = true) (b = false) := ⟨Iff.rfl, Iff.rfl⟩
instance BrC.dec {p : Prop} [Decidable p] : BrC (decide p) p (¬ p) := BrC.mk' (by simp)
instance BrC.beq {a b : Int} : BrC (a == b) (a = b) (¬ a = b) := BrC.mk' (by simp)
instance BrC.not {b : Bool} {p q : Prop} [h : BrC b p q] : BrC (!b) q p := ⟨by rw [← h.nots]; simp, by rw [← h.says]; simp⟩
instance BrC.and {a b : Bool} {p q p' q' : Prop} [h : BrC a p p'] [k : BrC b q q'] : BrC (a && b) (p ∧ q) (¬ (p ∧ q)) := BrC.mk' (by rw [← h.says, ← k.says]; simp)
instance BrC.or {a b : Bool} {p q p' q' : Prop} [h : BrC a p p'] [k : BrC b q q'] : BrC (a || b) (p ∨ q) (¬ (p ∨ q)) := BrC.mk' (by rw [← h.says, ← k.says]; simp)
theorem brW.of {b : Bool} {p p' : Prop} [h : BrC b p p'] {q r : Prop} (h1 : p → q) (h2 : p' → r) : brW b q r := ⟨fun e => h1 (h.says.1 e), fun e => h2 (h.nots.1 e)⟩
theorem brM.of {b : Bool} {p p' : Prop} [h : BrC b p p'] {q r : Prop} (h1 : p → q) (h2 : p' → r) : brM b q r := ⟨fun e => h1 (h.says.1 e), fun e => h2 (h.nots.1 e)⟩
theorem nextW_it (id : Nat) (σ : Sig) (K : V → Sig → Prop) : nextW (.it id) σ K = optW (σ.get id) fun b => iterW b fun s pos =>
    brW (decide (pos < s.size)) (K (.tup [.d (.lit (.bool true)), .d (.lit (.int .i64 pos)), .d (.lit (.int .i32 (Utf8.decode s pos).1))]) (σ.set id (.iter s (pos + (Utf8.decode s pos).2)))) (K (.tup [.d (.lit (.bool false))]) σ) := rfl
theorem toNat_add2 (a b : Nat) : ((a : Int) + (b : Int)).toNat = a + b := by omega
attribute [push_cast] nextW_it Option.getD_some Option.getD_none toNat_add2
end Go.Proofs.YthjjncooaahejaaGreatDoor
namespace Go.Proofs.YthjjncooaahejaaGreatDoor
section
variable {P : Program} {G : Gl} {w : World} {I : Nat → Prop} {β : Bet}
def fillE : List Nat → List V → Env → Env
  | p :: ps, v :: vs, e => fillE ps vs (e.put p v)
  | _, _, e => e
def fillT (l : List (Nat × Value)) (tm : Array Value) : Array Value := l.foldl (fun tmps x => tmps.setIfInBounds x.1 x.2) tm
theorem fillE_den : ∀ (ps : List Nat) (args : List V) (vals : List Value) (e : Env) (tm : Array Value), DenL w I β args vals → (∀ p ∈ ps, p < tm.size) → (∀ t, Den w I β (e.get t) (tm.getD t undef)) →
    (fillT (ps.zip vals) tm).size = tm.size ∧ ∀ t, Den w I β ((fillE ps args e).get t) ((fillT (ps.zip vals) tm).getD t undef)
  | [], args, vals, e, tm, _, _, h => by simpa [fillT, fillE] using h
  | p :: ps, [], vals, e, tm, hd, _, h => by
    have : vals = [] := List.eq_nil_of_length_eq_zero hd.1.symm
    subst this
    simpa [fillT, fillE] using h
  | p :: ps, v :: vs, [], e, tm, hd, _, h => by have := hd.1; simp at this
  | p :: ps, v :: vs, x :: xs, e, tm, hd, hp, h => by
    have h0 : ∀ t, Den w I β ((e.put p v).get t) ((tm.setIfInBounds p x).getD t undef) :=
      den_put (a := { tmps := tm, defers := [] }) h (d := some p) (fun y hy => by injection hy with hy; subst hy; exact hp p (by simp)) (hd.2 0 v x rfl rfl)
    have := fillE_den ps vs xs (e.put p v) (tm.setIfInBounds p x) ⟨by have := hd.1; simpa using this, fun i c y hc hy => hd.2 (i + 1) c y (by simpa using hc) (by simpa using hy)⟩ (fun q hq => by simpa using hp q (by simp [hq])) h0
    refine ⟨by rw [show fillT ((p :: ps).zip (x :: xs)) tm = fillT (ps.zip xs) (tm.setIfInBounds p x) from rfl, this.1]; simp, this.2⟩
theorem fillT_eq (ps : Array Nat) (vals : List Value) (tm : Array Value) : (ps.zip vals.toArray).foldl (fun tmps (t, a) => tmps.setIfInBounds t a) tm = fillT (ps.toList.zip vals) tm := by
  rw [← Array.foldl_toList]
  simp [fillT]
def ltG (id : Nat) : Nat → Option Nat := fun j => if j < id then some j else none
def cutB (β : Bet) (id : Nat) : Bet := fun j => if j < id then β j else none
theorem ltG_spec {id i j : Nat} (h : ltG id i = some j) : i = j ∧ j < id := by
  unfold ltG at h
  split at h
  · injection h with h; omega
  · cases h
theorem ltG_inj (id : Nat) : ∀ i i' j, ltG id i = some j → ltG id i' = some j → i = i' := fun i i' j h h' => by
  have := ltG_spec h; have := ltG_spec h'; omega
theorem cutB_ext {id : Nat} : ∀ i j, ltG id i = some j → ∀ x, β i = some x → cutB β id j = some x := fun i j h x hx => by
  obtain ⟨rfl, hlt⟩ := ltG_spec h
  simp [cutB, hlt, hx]
theorem cutB_some {id j : Nat} {x : Option (Nat × Nat)} (h : cutB β id j = some x) : j < id ∧ β j = some x := by
  unfold cutB at h
  split at h
  · exact ⟨by assumption, h⟩
  · cases h
theorem get_cut {σ : Sig} {id j : Nat} {b : Blk} (h : (σ.sel (ltG id)).get j = some b) : j < id ∧ ∃ b', σ.get j = some b' ∧ b = b'.sel (ltG id) := by
  obtain ⟨i, b', h1, h2, h3⟩ := Sig.get_sel (ltG_inj id) σ j b h
  obtain ⟨rfl, hlt⟩ := ltG_spec h1
  exact ⟨hlt, b', h2, h3⟩
theorem Mem.cut {σ : Sig} {nx : Nat} (hm : Mem w I β σ nx) (id : Nat) : Mem w I (cutB β id) (σ.sel (ltG id)) id where
  own := fun j b hj => by
    obtain ⟨hlt, b', h1, rfl⟩ := get_cut hj
    exact (hm.own j b' h1).sel cutB_ext (by simp [ltG, hlt])
  inj := fun j j' b b' k c c' h1 h2 h3 h4 => by
    obtain ⟨_, x, q1, _⟩ := get_cut h1
    obtain ⟨_, x', q1', _⟩ := get_cut h2
    exact hm.inj j j' x x' k c c' q1 q1' (cutB_some h3).2 (cutB_some h4).2
  free := fun j hj => by simp [cutB, show ¬ j < id by omega]
  lt := hm.lt
theorem owned_cut {σ : Sig} {id b : Nat} (h : owned (σ.sel (ltG id)) (cutB β id) b) : owned σ β b := by
  obtain ⟨j, blk, c, h1, h2⟩ := h
  obtain ⟨_, b', q1, _⟩ := get_cut h1
  exact ⟨j, b', c, q1, (cutB_some h2).2⟩
def selY (σ : Sig) (id : Nat) (l : List Nat) : Nat → Option Nat := fun j => if j < id then (if (σ.get j).isSome = true then some j else none) else idx l j id
def RndW (G : Gl) (σ : Sig) (id i : Nat) (y : Yd) (e : Env) (j : Option Code) (v : V) (σ' : Sig) (st : St) : Prop :=
  v = .d (.lit (.bool j.isNone)) ∧ GhW G id (fun st => ∃ l : List Nat, l.length ≤ 4 ∧ Sub σ' ((i, .rc y j e) :: st.sg.sel (selY σ id l))) st
def rndK (G : Gl) (σ : Sig) (id i : Nat) (y : Yd) (e : Env) (v : V) (σ' : Sig) : Exit → St → Prop
  | .normal, st => RndW G σ id i y e none v σ' st
  | .ret, st => RndW G σ id i y e (some .ret) v σ' st
  | .exit k, st => RndW G σ id i y e (some (.exit k)) v σ' st
  | _, _ => False
theorem RelE.putHid {C : Ctx} {e : Env} {σ : Sig} {nx lim b : Nat} {o o' : Obj} {a : Act} {w : World} (hC : C.hd = [(b, o)]) (ho : o ≠ .deferred (some [])) (hown : owned C.σ C.β b) (h : RelE C G e σ nx lim a w) :
    RelE { C with hd := [(b, o')] } G e σ nx lim a (w.putObj b o') := by
  obtain ⟨I, β, h1, h2, h3, h4, ⟨⟨Ds, q1, q2, q3⟩, q4⟩, h6⟩ := h
  obtain ⟨k1, k2, k3⟩ := q4 (b, o) (by rw [hC]; simp)
  simp only at k1 k2 k3
  have hI : ∀ b', I b' → (w.putObj b o').heap[b']? = w.heap[b']? := fun b' hb => World.putObj_heap_other (fun e => k2 (e ▸ hb))
  have hO : ∀ b', owned σ β b' → (w.putObj b o').heap[b']? = w.heap[b']? := fun b' hb => World.putObj_heap_other (fun e => k3 (e ▸ hb))
  refine ⟨I, β, ⟨⟨fun id blk hb => ?_, h1.mem.inj, h1.mem.free, fun b hb => ?_⟩, h1.os, h1.tape, h1.output, ?_, fun b' hb hn => ?_, h1.imm, h1.immn, h1.bet, h1.nx, h1.own'⟩, h2, fun t => (h3 t).keep hI (fun _ h => h) (fun _ _ h => h), h4, ⟨⟨Ds, q1, q2, fun D hD => ?_⟩, fun p hp => ?_⟩, fun g x hx => (h6 g x hx).keep hI (fun _ h => h)⟩
  · have ho := h1.mem.own id blk hb
    refine ho.keep (fun b hb' => ?_) (fun _ h => h) (fun b c hc => (ho.not_imm hc).1) (fun _ _ h => h)
    rcases hb' with hb' | ⟨c, hc⟩
    · exact hI b hb'
    · exact hO b ⟨id, blk, c, hb, hc⟩
  · rw [World.putObj_size]; exact h1.mem.lt b hb
  · rw [World.putObj_size]; exact h1.size
  · rw [World.putObj_heap_other (fun e => hn (by rw [e]; exact hown))]; exact h1.block b' hb hn
  · obtain ⟨g1, g2, g3, g4⟩ := q3 D hD
    refine ⟨g1, ?_, g3, g4⟩
    rw [World.putObj_heap_other]
    · exact g2
    · rintro rfl; rw [k1] at g2; injection g2 with g2; exact ho g2
  · have hp' : p = (b, o') := by simpa using hp
    subst hp'
    exact ⟨World.putObj_heap_same (lt_of_heap k1), k2, k3⟩
end
end Go.Proofs.YthjjncooaahejaaGreatDoor
set_option linter.unusedVariables false
namespace Go.Proofs.YthjjncooaahejaaGreatDoor
section
variable {P : Program} {G : Gl}
theorem selY_spec {σ : Sig} {id i j : Nat} {l : List Nat} (h : selY σ id l i = some j) : (i = j ∧ j < id ∧ ∃ b, σ.get j = some b) ∨ (id ≤ i ∧ id ≤ j ∧ j < id + l.length ∧ l[j - id]? = some i) := by
  unfold selY at h
  split at h
  · rename_i hlt
    split at h
    · rename_i hs
      injection h with h; subst h
      exact .inl ⟨rfl, hlt, Option.isSome_iff_exists.1 hs⟩
    · cases h
  · obtain ⟨h1, h2, h3⟩ := idx_spec h
    exact .inr ⟨by omega, h1, h2, h3⟩
theorem selY_inj (σ : Sig) (id : Nat) (l : List Nat) : ∀ i i' j, selY σ id l i = some j → selY σ id l i' = some j → i = i' := by
  intro i i' j h h'
  rcases selY_spec h with ⟨rfl, h1, _⟩ | ⟨h0, h1, _, h2⟩
  · rcases selY_spec h' with ⟨rfl, _⟩ | ⟨_, h1', _⟩
    · rfl
    · omega
  · rcases selY_spec h' with ⟨rfl, h1', _⟩ | ⟨_, _, _, h2'⟩
    · omega
    · rw [h2] at h2'; injection h2'
theorem rnd_step {w w3 : World} {I I3 : Nat → Prop} {β β3 : Bet} {σ σ3 σ' : Sig} {nx nx3 id i b cap : Nat} {y : Yd} {e : Env} {j : Option Code} {r : Loop} {l : List Nat} {o : Obj}
    (hm : Mem w I β σ nx) (hi : i < id) (hfr : ∀ k, id ≤ k → k < id + 4 → β k = none) (hnx : id + 4 ≤ nx) (hg : σ.get i = some (.rc y none e)) (hb : β i = some (some (b, cap))) (he : ∀ t, Den w I β (e.get t) (r.tmps.getD t undef)) (hr : RecIs y j r)
    (hs : MStep w I (cutB β id) (σ.sel (ltG id)) id w3 I3 β3 σ3 nx3) (h3 : w3.heap[b]? = some o) (hI3 : ¬ I3 b) (ho3 : ¬ owned σ3 β3 b) (hl : l.length ≤ 4) (hsub : Sub σ' ((i, .rc y j e) :: σ3.sel (selY σ id l))) :
    ∃ β', MStep w I β σ nx (w3.putObj b (.loop r)) I3 β' σ' nx ∧ ∀ k, ¬ (id ≤ k ∧ k < id + 4) → β' k = β k := by
  have hlt : b < w.heap.size := (((hm.own i _ hg).not_imm hb).2)
  have hIb : ¬ I b := ((hm.own i _ hg).not_imm hb).1
  let β' : Bet := fun k => if id ≤ k ∧ k < id + 4 then (match l[k - id]? with | some q => β3 q | none => none) else β k
  have hβ : ∀ k, ¬ (id ≤ k ∧ k < id + 4) → β' k = β k := fun k hk => by simp only [β', if_neg hk]
  have hext : ∀ k x, β k = some x → β' k = some x := fun k x hx => by
    rw [hβ k]
    · exact hx
    · rintro ⟨h1, h2⟩; rw [hfr k h1 h2] at hx; cases hx
  have hin : ∀ k k', selY σ id l k = some k' → β' k' = β3 k := by
    intro k k' h
    rcases selY_spec h with ⟨rfl, h1, blk, h2⟩ | ⟨h0, h1, h2, h3⟩
    · rw [hβ k (by omega)]
      obtain ⟨x, hx⟩ := (hm.own k blk h2).named
      rw [hx, hs.bet k x (by simp [cutB, h1, hx])]
    · simp only [β', show id ≤ k' ∧ k' < id + 4 from ⟨h1, by omega⟩, and_self, if_true, h3]
  have hing : ∀ k k', selY σ id l k = some k' → ∀ x, β3 k = some x → β' k' = some x := fun k k' h x hx => by rw [hin k k' h]; exact hx
  have hinj := selY_inj σ id l
  have hIk : ∀ k, I3 k → (w3.putObj b (.loop r)).heap[k]? = w3.heap[k]? := fun k hk => World.putObj_heap_other (fun e => hI3 (e ▸ hk))
  have hOk : ∀ k, owned σ3 β3 k → (w3.putObj b (.loop r)).heap[k]? = w3.heap[k]? := fun k hk => World.putObj_heap_other (fun e => ho3 (e ▸ hk))
  have hI0 : ∀ k, I k → w3.heap[k]? = w.heap[k]? := fun k hk => hs.block k (hm.lt k hk) (fun h => hm.not_owned hk (owned_cut h))
  have hget : ∀ k blk, σ'.get k = some blk → (k = i ∧ blk = .rc y j e) ∨ (∃ k0 blk0, selY σ id l k0 = some k ∧ σ3.get k0 = some blk0 ∧ blk = blk0.sel (selY σ id l)) := by
    intro k blk hk
    have := hsub k blk hk
    simp only [Sig.get] at this
    split at this
    · rename_i e1; injection this with this; exact .inl ⟨e1.symm, this.symm⟩
    · exact .inr (Sig.get_sel hinj _ k blk this)
  have hbi : β' i = some (some (b, cap)) := hext i _ hb
  have hoth : ∀ k k0 blk0 c, selY σ id l k0 = some k → σ3.get k0 = some blk0 → β' k = some (some (b, c)) → False := by
    intro k k0 blk0 c h1 h2 h4
    rw [hin k0 k h1] at h4
    exact ho3 ⟨k0, blk0, c, h2, h4⟩
  have howned : ∀ k, owned σ' β' k → k = b ∨ owned σ3 β3 k := by
    rintro k ⟨q, blk, c, h1, h2⟩
    rcases hget q blk h1 with ⟨rfl, rfl⟩ | ⟨q0, blk0, g1, g2, _⟩
    · rw [hbi] at h2; injection h2 with h2; injection h2 with h2; injection h2 with h2 _; exact .inl h2.symm
    · rw [hin q0 q g1] at h2; exact .inr ⟨q0, blk0, c, g2, h2⟩
  have hob : owned σ β b := ⟨i, _, cap, hg, hb⟩
  refine ⟨β', ⟨⟨fun k blk hk => ?_, fun k k' blk blk' q c c' g1 g2 g3 g4 => ?_, fun k hk => ?_, fun k hk => ?_⟩, hs.os, hs.tape, hs.output, ?_, fun k hk hn => ?_, hs.imm, fun k hk => ?_, hext, Nat.le_refl _, fun k hk => ?_⟩, hβ⟩
  · rcases hget k blk hk with ⟨rfl, rfl⟩ | ⟨k0, blk0, g1, g2, rfl⟩
    · exact ⟨b, cap, r, hbi, World.putObj_heap_same (lt_of_heap h3), hI3, hr, fun t => (he t).keep (fun q hq => (hIk q (hs.imm q hq)).trans (hI0 q hq)) hs.imm hext⟩
    · have ho := hs.mem.own k0 blk0 g2
      have ho' : Own (w3.putObj b (.loop r)) I3 β3 k0 blk0 := ho.keep (fun q hq => by
        rcases hq with hq | ⟨c, hc⟩
        · exact hIk q hq
        · exact hOk q ⟨k0, blk0, c, g2, hc⟩) (fun _ h => h) (fun q c hc => (ho.not_imm hc).1) (fun _ _ h => h)
      exact ho'.sel hing g1
  · rcases hget k blk g1 with ⟨rfl, rfl⟩ | ⟨k0, blk0, p1, p2, rfl⟩
    · rw [hbi] at g3; injection g3 with g3; injection g3 with g3; injection g3 with g3 _; subst g3
      rcases hget k' blk' g2 with ⟨rfl, rfl⟩ | ⟨k0', blk0', p1', p2', rfl⟩
      · rfl
      · exact (hoth k' k0' blk0' c' p1' p2' g4).elim
    · rcases hget k' blk' g2 with ⟨rfl, rfl⟩ | ⟨k0', blk0', p1', p2', rfl⟩
      · rw [hbi] at g4; injection g4 with g4; injection g4 with g4; injection g4 with g4 _; subst g4
        exact (hoth k k0 blk0 c p1 p2 g3).elim
      · rw [hin k0 k p1] at g3
        rw [hin k0' k' p1'] at g4
        have := hs.mem.inj k0 k0' blk0 blk0' q c c' p2 p2' g3 g4
        subst this
        rw [p1] at p1'; injection p1'
  · rw [hβ k (by omega)]; exact hm.free k hk
  · rw [World.putObj_size]; exact hs.mem.lt k hk
  · rw [World.putObj_size]; exact hs.size
  · have hkb : k ≠ b := fun e => hn (e ▸ hob)
    rw [World.putObj_heap_other hkb]
    exact hs.block k hk (fun h => hn (owned_cut h))
  · rcases hs.immn k hk with h | h | h
    · exact .inl h
    · exact .inr (.inl (owned_cut h))
    · exact .inr (.inr h)
  · rcases howned k hk with rfl | h
    · exact .inl hob
    · rcases hs.own' k h with h | h
      · exact .inl (owned_cut h)
      · exact .inr h
theorem YDoes.of {i : Nat} {args : List V} {σ : Sig} {id : Nat} {y : Yd} {e : Env} {v : V} {σ' : Sig} (hg : σ.get i = some (.rc y none e)) (hi : i < id) (hps : y.ps.toList.all (fun p => decide (p < y.n)) = true) (hl : args.length = y.ps.size) (hn1 : noR y.asg = true) (hn2 : noR y.body = true)
    (h : AW P G y.n id y.asg ⟨fillE y.ps.toList (args.map (V.sel (ltG id))) (e.sel (ltG id)), (σ.del i).sel (ltG id), id⟩ (seqK (fun st => AW P G y.n id y.body st (rndK G σ id i y e v σ')) (fun _ _ => False))) : YDoes P G i args σ id v σ' := by
  intro w I β nx vals b cap hm hG hfr hnx hd hb
  obtain ⟨b', cap', r, q1, q2, q3, q4, q5⟩ := hm.own i _ hg
  rw [hb] at q1; injection q1 with q1; injection q1 with q1; injection q1 with q1 q1'; subst q1; subst q1'
  refine ⟨r, q2, by rw [← hd.1, hl, q4.ps], ?_⟩
  rw [fillT_eq]
  have hC := hm.cut id
  let C : Ctx := ⟨w, I, cutB β id, σ.sel (ltG id), id, y.n, hC.free, [(b, .loop r)]⟩
  have hown : owned C.σ C.β b := ⟨i, Blk.sel (ltG id) (.rc y none e), cap, Sig.get_sel' (ltG_inj id) (by simp [ltG, hi]) σ _ hg, by simp [C, cutB, hi, hb]⟩
  have hsub : ∀ j bl, ((σ.del i).sel (ltG id)).get j = some bl → (σ.sel (ltG id)).get j = some bl ∧ j ≠ i := by
    intro j bl hj
    obtain ⟨hlt, b', h1, rfl⟩ := get_cut hj
    rw [Sig.get_del] at h1
    split at h1
    · cases h1
    · rename_i hne
      exact ⟨Sig.get_sel' (ltG_inj id) (by simp [ltG, hlt]) σ _ h1, hne⟩
  have hargs : DenL w I (cutB β id) (args.map (V.sel (ltG id))) vals := by
    refine ⟨by simpa using hd.1, fun k c x hc hx => ?_⟩
    simp only [List.getElem?_map, Option.map_eq_some_iff] at hc
    obtain ⟨c', hc', rfl⟩ := hc
    exact (hd.2 k c' x hc' hx).sel cutB_ext
  have hfill := fillE_den (w := w) (I := I) (β := cutB β id) y.ps.toList (args.map (V.sel (ltG id))) vals (e.sel (ltG id)) r.tmps hargs (fun p hp => by
    have := List.all_eq_true.1 hps p hp
    rw [q4.n]; simpa using this) (fun t => by rw [Env.get_sel]; exact (q5 t).sel cutB_ext)
  have hrel : Rel C G ⟨fillE y.ps.toList (args.map (V.sel (ltG id))) (e.sel (ltG id)), (σ.del i).sel (ltG id), id⟩ { tmps := fillT (y.ps.toList.zip vals) r.tmps, defers := [] } w := by
    refine ⟨I, cutB β id, (MStep.refl hC).sub (fun j bl hj => (hsub j bl hj).1) (Nat.le_refl _), hC.free, hfill.2, by rw [hfill.1]; exact q4.n, ⟨⟨[], rfl, List.nodup_nil, fun D hD => by cases hD⟩, fun p hp => ?_⟩, hG⟩
    have hp' : p = (b, .loop r) := by simpa [C] using hp
    subst hp'
    refine ⟨q2, q3, ?_⟩
    rintro ⟨j, bl, c, g1, g2⟩
    obtain ⟨hlt, b', h1, _⟩ := get_cut g1
    rw [Sig.get_del] at h1
    split at h1
    · cases h1
    · rename_i hne
      exact hne (hm.inj j i _ _ b c cap h1 hg (cutB_some g2).2 hb)
  rw [show r.params.toList = y.ps.toList by rw [q4.ps]]
  refine roundIn_of_wpIn (F := Fence.wide) trivial ?_
  rw [q4.asg, q4.body]
  refine wpIn_mono (h (some b) (.inr hn1) C _ w rfl rfl hrel) ?_
  rintro e1 a1 w1 ⟨st1, hq, hr1⟩
  cases e1 with
  | normal =>
    have hhid : w1.heap[b]? = some (.loop r) := by
      obtain ⟨I1, β1, _, _, _, _, ⟨_, k⟩, _⟩ := _root_.id hr1
      exact (k (b, .loop r) (by simp [C])).1
    have hst : r.state = .ready := by rw [q4.state]; rfl
    refine ⟨_, run_beginRound hhid hst, ?_⟩
    have hr2 := RelE.putHid (o' := .loop { r with state := .busy }) (C := C) rfl (fun e => by cases e) hown hr1
    let C2 : Ctx := { C with hd := [(b, .loop { r with state := .busy })] }
    refine wpIn_mono ((show AW P G y.n id y.body st1 (rndK G σ id i y e v σ') from hq) (some b) (.inr hn2) C2 a1 _ rfl rfl hr2) ?_
    have fin : ∀ (j : Option Code) (st2 : St) (a2 : Act) (w3 : World), RndW G σ id i y e j v σ' st2 → Rel C2 G st2 a2 w3 →
        ∃ u w', (Instr.endRound b j).run P w3 = .ok u w' ∧ ∃ u0 I' β', Ending.returned u = .returned u0 ∧ Den w' I' β' v u0 ∧ MStep w I β σ nx w' I' β' σ' nx ∧ ∀ k, ¬ (id ≤ k ∧ k < id + 4) → β' k = β k := by
      rintro j st2 a2 w3 ⟨rfl, st3, hle, l, hl4, hsb⟩ hr3
      obtain ⟨I3, β3, k1, k2, k3, k4, ⟨_, k5⟩, k6⟩ := hle C2 a2 w3 rfl hr3
      obtain ⟨p1, p2, p3⟩ := k5 (b, .loop { r with state := .busy }) (by simp [C2])
      obtain ⟨β', g1, g2⟩ := rnd_step (r := { r with state := if j.isNone then .ready else .done, pending := j }) hm hi hfr hnx hg hb q5 ⟨rfl, rfl, q4.n, q4.ps, q4.asg, q4.body⟩ k1 p1 p2 p3 hl4 hsb
      exact ⟨_, _, run_endRound j p1, _, I3, β', rfl, DenD.lit _, g1, g2⟩
    rintro e2 a2 w3 ⟨st2, hq2, hr3⟩
    cases e2 with
    | normal => exact fin none st2 a2 w3 hq2 hr3
    | ret => exact fin (some .ret) st2 a2 w3 hq2 hr3
    | exit k => exact fin (some (.exit k)) st2 a2 w3 hq2 hr3
    | _ => exact hq2.elim
  | _ => exact hq.elim
theorem YieldW.of (ho : P.follows .mixedOrders = true) (lv : List Nat) {i : Nat} {args : List V} {σ : Sig} {id : Nat} {K : V → Sig → Prop} {y : Yd} {e : Env} {v : V} {σ' : Sig} (hg : σ.get i = some (.rc y none e)) (hi : i < id) (hps : y.ps.toList.all (fun p => decide (p < y.n)) = true) (hl : args.length = y.ps.size)
    (hn1 : noR y.asg = true) (hn2 : noR y.body = true) (ho1 : codeOk y.n y.asg = true) (ho2 : codeOk y.n y.body = true)
    (h : codeW P G y.n id lv y.asg ⟨fillE y.ps.toList (args.map (V.sel (ltG id))) (e.sel (ltG id)), (σ.del i).sel (ltG id), id⟩ (seqK (fun st => codeW P G y.n id lv y.body st (rndK G σ id i y e v σ')) (fun _ _ => False))) (hK : K v σ') : YieldW P G i args σ id K := by
  refine ⟨v, σ', hK, YDoes.of hg hi hps hl hn1 hn2 ((codeW_sound ho _ _ _ ho1 h).mono ?_)⟩
  intro ex st hq
  cases ex with
  | normal => exact codeW_sound ho _ _ _ ho2 hq
  | _ => exact hq
end
end Go.Proofs.YthjjncooaahejaaGreatDoor
set_option linter.unusedVariables false
namespace Go.Proofs.YthjjncooaahejaaGreatDoor
open Go.RowKit
section
variable {P : Program} {G : Gl}
def RngW (G : Gl) (st : St) (Q : Exit → St → Prop) (st' : St) : Prop :=
  GhW G (st.nx + 1) (fun st' => ∃ y j e, st'.sg.get st.nx = some (.rc y j e) ∧ match j with
    | none => Q .normal ⟨st.env, st'.sg.del st.nx, st'.nx⟩
    | some .ret => Q .ret ⟨st.env, st'.sg.del st.nx, st'.nx⟩
    | some (.exit k) => Q (.exit k) ⟨st.env, st'.sg.del st.nx, st'.nx⟩
    | _ => False) st'
def rngK (G : Gl) (st : St) (Q : Exit → St → Prop) : Exit → St → Prop
  | .normal, st' => RngW G st Q st'
  | .ret, st' => RngW G st Q st'
  | _, _ => False
theorem MStep.foreign {w : World} {I : Nat → Prop} {β : Bet} {σ : Sig} {nx : Nat} (hm : Mem w I β σ nx) (o : Obj) : MStep w I β σ nx (w.alloc o) I β σ nx := by
  have hb : ∀ b, b < w.heap.size → (w.alloc o).heap[b]? = w.heap[b]? := fun b hb => Below.heap_alloc w o b hb
  refine ⟨⟨fun id blk h => ?_, hm.inj, hm.free, fun b hI => by have := hm.lt b hI; simp; omega⟩, rfl, rfl, rfl, by simp, fun b hlt _ => hb b hlt, fun _ h => h, fun _ h => .inl h, fun _ _ h => h, Nat.le_refl _, fun _ h => .inl h⟩
  have ho := hm.own id blk h
  refine ho.keep (fun b hb' => ?_) (fun _ h => h) (fun b c hc => (ho.not_imm hc).1) (fun _ _ h => h)
  rcases hb' with hb' | ⟨c, hc⟩
  · exact hb b (hm.lt b hb')
  · exact hb b (ho.not_imm hc).2
theorem range_aw {n m : Nat} {g : Operand} {ps : Array Nat} {asg body : Code} {st : St} {Q : Exit → St → Prop} {k : Nat} {caps : List V} {fn : Func} {c : Code}
    (hg : ∀ w I β x, Den w I β (evF G st.env.get g) x → ∃ cv : List Value, x = .func (.func k) #[] cv.toArray ∧ DenL w I β caps cv) (he : entT P k = true) (hf : P.funcs[k]? = some fn) (hb : fn.body = some c) (hrs : fn.results = #[]) (hlen : caps.length + 1 ≤ fn.ntmps)
    (h : AW P G fn.ntmps (st.nx + 1) c ⟨argE 0 (.yl st.nx :: caps), (st.nx, .rc ⟨n, ps, asg, body⟩ none st.env) :: st.sg, st.nx + 1⟩ (rngK G st Q)) : RangeW P G n m g ps asg body st Q := by
  intro fr hfr C a w hn hm hr
  have hfr' : fr = none := hfr.resolve_right (by simp [noR])
  subst hfr'
  refine wpIn_rangeFunc (F := Fr none) fun fn' _ => ?_
  obtain ⟨I, β, h1, h2, h3, h4, h5, h6⟩ := hr
  have hgd := evF_den (G := G) (e := st.env) (a := a) h3 h6 g
  obtain ⟨cv, e1, e2⟩ := hg w I β _ hgd
  let r : Loop := { state := .ready, pending := none, fn := fn', tmps := a.tmps, params := ps, assign := asg, body := body, defers := w.heap.size }
  let w0 := w.alloc (.deferred (some []))
  let w1 := w0.alloc (.loop r)
  have hres : (resolve a.eval (rangeCall g (w.heap.size + 1)) 0).run P w1 = .ok { target := .fn (.func k) cv.toArray, args := #[.func (.yield (w.heap.size + 1)) #[] #[]] } w1 := by
    have ec : ∀ v : Value, a.eval (.const v) = v := fun _ => rfl
    simp [resolve, e1, ec, Deferred.ofValue]
  refine ⟨w.heap.size + 1, [{ target := .collected w.heap.size, args := #[] }], w1, _, w1, k, (.func (.yield (w.heap.size + 1)) #[] #[] :: cv).toArray, w1, run_enterLoop_outer fn' a.tmps ps asg body, hres, fun _ _ => trivial, ?_, (fun e => by cases e), ?_⟩
  · simp only [invoke]
    rw [show (#[Value.func (Fn.yield (w.heap.size + 1)) #[] #[]] ++ cv.toArray) = (Value.func (Fn.yield (w.heap.size + 1)) #[] #[] :: cv).toArray by simp]
    exact run_callFunc he _ w1
  have hb0 : β st.nx = none := h2 st.nx (Nat.le_refl _)
  have hm1 : Mem w I β st.sg (st.nx + 1) := h1.mem.bump (by omega)
  have s0 := MStep.foreign hm1 (.deferred (some []))
  let blk : Blk := .rc ⟨n, ps, asg, body⟩ none st.env
  have hsz : w0.heap.size = w.heap.size + 1 := by simp [w0]
  have hown : Own w1 I (upd β st.nx (some (w0.heap.size, 0))) st.nx blk := by
    refine ⟨w0.heap.size, 0, r, upd_same _ _ _, World.alloc_heap_new w0 _, fun hI => ?_, ⟨rfl, rfl, h4.trans hn, rfl, rfl, rfl⟩, fun t => ?_⟩
    · have := h1.mem.lt _ hI; omega
    · refine (h3 t).keep (fun b hI => ?_) (fun _ h => h) (upd_ext hb0)
      have hlt := h1.mem.lt b hI
      exact (Below.heap_alloc w0 _ b (by omega)).trans (Below.heap_alloc w _ b hlt)
  have s1 := MStep.alloc s0.mem (id := st.nx) hb0 (by omega) (.loop r) 0 blk hown
  have s01 := s0.trans s1
  let β1 := upd β st.nx (some (w0.heap.size, 0))
  have hβ1 : β1 st.nx = some (some (w0.heap.size, 0)) := upd_same _ _ _
  let C' : Ctx := ⟨w1, I, β1, (st.nx, blk) :: st.sg, st.nx + 1, fn.ntmps, s1.mem.free, []⟩
  let vals : List Value := .func (.yield (w.heap.size + 1)) #[] #[] :: cv
  have hvl : vals.length = caps.length + 1 := by simp [vals, e2.1]
  have hrel : Rel C' G ⟨argE 0 (.yl st.nx :: caps), (st.nx, blk) :: st.sg, st.nx + 1⟩ { tmps := vals.toArray ++ Array.replicate (fn.ntmps - vals.toArray.size) undef, defers := [] } w1 := by
    refine ⟨I, β1, MStep.refl s1.mem, s1.mem.free, fun t => ?_, ?_, DfOk.nil, fun q x hx => s01.denD hm1 (h6 q x hx)⟩
    · show Den w1 I β1 ((argE 0 (.yl st.nx :: caps)).get t) _
      rw [get_argE]
      simp only [Nat.zero_le, if_true, Nat.sub_zero]
      cases hv : (V.yl st.nx :: caps)[t]? with
      | none => trivial
      | some v =>
        have ht : t < vals.length := by
          have := (List.getElem?_eq_some_iff.1 hv).1
          simp at this; omega
        have e3 : (vals.toArray ++ Array.replicate (fn.ntmps - vals.toArray.size) undef).getD t undef = vals[t] := by
          simp [Array.getD_eq_getD_getElem?, Array.getElem?_append, ht]
        rw [e3]
        match t, hv, ht with
        | 0, hv, ht =>
          simp only [List.getElem?_cons_zero, Option.some.injEq] at hv
          subst hv
          exact ⟨w0.heap.size, 0, hβ1, by show Value.func (.yield (w.heap.size + 1)) #[] #[] = _; rw [hsz]⟩
        | t + 1, hv, ht =>
          simp only [List.getElem?_cons_succ] at hv
          exact s01.den hm1 (e2.2 t v _ hv (by simp [vals]))
    · show (vals.toArray ++ Array.replicate (fn.ntmps - vals.toArray.size) undef).size = fn.ntmps
      simp; omega
  refine callsIn_of_wp_marks (F := Fr none) hf hb trivial ?_
  refine wpIn_mono (h none (.inl rfl) C' _ w1 rfl rfl hrel) ?_
  rintro ex aK w2 ⟨st2, hq, hr2⟩
  have hD : DfOk C.w.heap.size C.hd w1 I β1 ((st.nx, blk) :: st.sg) ({ target := .collected w.heap.size, args := #[] } :: a.defers) := by
    obtain ⟨⟨Ds, d1, d2, d3⟩, d4⟩ := (h5.step s01)
    have hDlt : ∀ D ∈ Ds, D < w.heap.size := by
      obtain ⟨⟨Ds', d1', d2', d3'⟩, _⟩ := h5
      have : Ds' = Ds := by
        have e4 := d1'.symm.trans d1
        have : ∀ (x y : List Nat), x.map (fun D => ({ target := .collected D, args := #[] } : Deferred)) = y.map (fun D => { target := .collected D, args := #[] }) → x = y := by
          intro x
          induction x with
          | nil => intro y h; cases y with | nil => rfl | cons => simp at h
          | cons q x ih =>
            intro y h
            cases y with
            | nil => simp at h
            | cons q' y => simp only [List.map_cons, List.cons.injEq, Deferred.mk.injEq, Target.collected.injEq, and_true] at h; rw [h.1, ih y h.2]
        exact this _ _ e4
      subst this
      exact fun D hD => lt_of_heap (d3' D hD).2.1
    refine ⟨⟨w.heap.size :: Ds, by rw [List.map_cons, ← d1], List.nodup_cons.2 ⟨fun hh => by have := hDlt _ hh; omega, d2⟩, fun D hD => ?_⟩, d4⟩
    rcases List.mem_cons.1 hD with rfl | hD
    · refine ⟨h1.size, ?_, fun hI => by have := h1.mem.lt _ hI; omega, ?_⟩
      · have : w1.heap[w.heap.size]? = w0.heap[w.heap.size]? := Below.heap_alloc w0 _ _ (by omega)
        rw [this]; exact World.alloc_heap_new w _
      · rintro ⟨q, bl, cc, g1, g2⟩
        simp only [Sig.get] at g1
        by_cases hq : st.nx = q
        · subst hq
          rw [hβ1] at g2; injection g2 with g2; injection g2 with g2; injection g2 with g2 _; omega
        · rw [if_neg hq] at g1
          rw [show β1 q = β q from upd_other (fun e => hq e.symm)] at g2
          have := ((h1.mem.own q bl g1).not_imm g2).2
          omega
    · exact d3 D hD
  have key : RngW G st Q st2 → LeavesInM (Fr none) 0 P fn aK.tmps (rangePost (Fr none) 0 P (w.heap.size + 1) (fun e a' w' => ∃ st', Q e st' ∧ Rel C G st' a' w') { a with defers := [{ target := .collected w.heap.size, args := #[] }] ++ a.defers }) aK.defers .returning w2 := by
    rintro ⟨st3, hle, y, j, e, g1, g2⟩
    refine leavesM (C := C') rfl (G := G) (st := st3) (fun w3 hr3 => ?_) aK.defers w2 (hle C' aK w2 rfl hr2)
    refine ⟨.tuple #[], by simp [results_eq, hrs], ?_⟩
    obtain ⟨I3, β3, k1, k2, k3, k4, k5, k6⟩ := hr3
    obtain ⟨b, cap, r3, p1, p2, p3, p4, p5⟩ := k1.mem.own _ _ g1
    have hbl : b = w.heap.size + 1 ∧ cap = 0 := by
      have := k1.bet st.nx _ hβ1
      rw [p1] at this; injection this with this; injection this with this; injection this with q1 q2
      exact ⟨q1.trans hsz, q2⟩
    obtain ⟨rfl, rfl⟩ := hbl
    have hnb : r3.state ≠ .busy := by rw [p4.state]; split <;> simp
    refine ⟨r3.pending, _, run_endLoop p2 hnb, ?_⟩
    have hst := s01.trans k1
    have back : Rel C G ⟨st.env, st3.sg.del st.nx, st3.nx⟩ { a with defers := [{ target := .collected w.heap.size, args := #[] }] ++ a.defers } (w3.putObj (w.heap.size + 1) (.loop { r3 with state := .exhausted })) := by
      have hIk : ∀ q, I3 q → (w3.putObj (w.heap.size + 1) (.loop { r3 with state := .exhausted })).heap[q]? = w3.heap[q]? := fun q hq => World.putObj_heap_other (fun e => p3 (e ▸ hq))
      have hno : ∀ q, owned (st3.sg.del st.nx) β3 q → q ≠ w.heap.size + 1 ∧ owned st3.sg β3 q := by
        rintro q ⟨id', bl, cc, x1, x2⟩
        rw [Sig.get_del] at x1
        split at x1
        · cases x1
        · rename_i hne
          refine ⟨?_, id', bl, cc, x1, x2⟩
          rintro rfl
          exact hne (k1.mem.inj id' st.nx _ _ _ cc 0 x1 g1 x2 p1)
      have hOk : ∀ q, owned (st3.sg.del st.nx) β3 q → (w3.putObj (w.heap.size + 1) (.loop { r3 with state := .exhausted })).heap[q]? = w3.heap[q]? := fun q hq => World.putObj_heap_other (hno q hq).1
      have hall := h1.bump (show st.nx ≤ st.nx + 1 by omega) |>.trans hst
      have hdd := hD.step k1
      refine ⟨I3, β3, ⟨⟨fun id' bl hb' => ?_, fun i j' b' b'' q cc cc' x1 x2 x3 x4 => ?_, k1.mem.free, fun q hq => ?_⟩, hall.os, hall.tape, hall.output, ?_, fun q hq hnq => ?_, hall.imm, hall.immn, hall.bet, hall.nx, fun q hq => hall.own' q (hno q hq).2⟩, k2, fun t => ?_, h4, ?_, fun q x hx => (k6 q x hx).keep hIk (fun _ h => h)⟩
      · have hx : st3.sg.get id' = some bl := by
          have hb'' : (st3.sg.del st.nx).get id' = some bl := hb'
          rw [Sig.get_del] at hb''
          split at hb''
          · cases hb''
          · exact hb''
        have ho := k1.mem.own id' bl hx
        refine ho.keep (fun q hq => ?_) (fun _ h => h) (fun q cc hc => (ho.not_imm hc).1) (fun _ _ h => h)
        rcases hq with hq | ⟨cc, hc⟩
        · exact hIk q hq
        · exact hOk q ⟨id', bl, cc, hb', hc⟩
      · have y1 : (st3.sg.del st.nx).get i = some b' := x1
        have y2 : (st3.sg.del st.nx).get j' = some b'' := x2
        rw [Sig.get_del] at y1 y2
        split at y1
        · cases y1
        · split at y2
          · cases y2
          · exact k1.mem.inj i j' b' b'' q cc cc' y1 y2 x3 x4
      · rw [World.putObj_size]; exact k1.mem.lt q hq
      · rw [World.putObj_size]; exact hall.size
      · rw [World.putObj_heap_other (by have := h1.size; omega)]; exact hall.block q hq hnq
      · exact (k1.den s1.mem (s01.den hm1 (h3 t))).keep hIk (fun _ h => h) (fun _ _ h => h)
      · obtain ⟨⟨Ds, d1, d2, d3⟩, d4⟩ := hdd
        have ne : ∀ q (o : Obj), w3.heap[q]? = some o → (∀ l, o ≠ .loop l) → q ≠ w.heap.size + 1 := by
          rintro q o hq ho rfl
          rw [p2] at hq; injection hq with hq; exact ho _ hq.symm
        refine ⟨⟨Ds, d1, d2, fun D hD => ?_⟩, fun p hp => ?_⟩
        · obtain ⟨z1, z2, z3, z4⟩ := d3 D hD
          refine ⟨z1, ?_, z3, fun hh => z4 (hno D hh).2⟩
          rw [World.putObj_heap_other (ne D _ z2 (fun l e => by cases e))]; exact z2
        · obtain ⟨z1, z2, z3⟩ := d4 p hp
          refine ⟨?_, z2, fun hh => z3 (hno _ hh).2⟩
          rw [World.putObj_heap_other]
          · exact z1
          · intro e5
            exact z3 ⟨st.nx, _, 0, g1, by rw [e5]; exact p1⟩
    generalize w3.putObj (w.heap.size + 1) (.loop { r3 with state := .exhausted }) = w4 at back ⊢
    rw [p4.pending]
    match j, g2 with
    | none, g2 => exact ⟨_, g2, back⟩
    | some .ret, g2 => exact wpIn_ret ⟨_, g2, back⟩
    | some (.exit q), g2 => exact wpIn_exit ⟨_, g2, back⟩
  cases ex with
  | normal => exact key hq
  | ret => exact key hq
  | _ => exact hq.elim
theorem callee_fn {w : World} {I : Nat → Prop} {β : Bet} {k : Nat} {caps : List V} {x : Value} (h : Den w I β (.fn k caps) x) : ∃ cv : List Value, x = .func (.func k) #[] cv.toArray ∧ DenL w I β caps cv := by
  obtain ⟨k', caps', ⟨rfl, rfl⟩, e2⟩ := callee_den (w := w) (I := I) (β := β) (x := x) (v := .fn k caps) (K := fun a b => a = k ∧ b = caps) ⟨rfl, rfl⟩
  exact e2 h
theorem callee_d {w : World} {I : Nat → Prop} {β : Bet} {k : Nat} {caps : List D} {x : Value} (h : Den w I β (.d (.fn k caps)) x) : ∃ cv : List Value, x = .func (.func k) #[] cv.toArray ∧ DenL w I β (caps.map .d) cv := by
  obtain ⟨k', caps', ⟨rfl, rfl⟩, e2⟩ := callee_den (w := w) (I := I) (β := β) (x := x) (v := .d (.fn k caps)) (K := fun a b => a = k ∧ b = caps.map .d) ⟨rfl, rfl⟩
  exact e2 h
end
end Go.Proofs.YthjjncooaahejaaGreatDoor
set_option linter.unusedVariables false
namespace Go.Proofs.YthjjncooaahejaaGreatDoor
def Pt {α : Type} (W : (α → Prop) → Prop) : Prop := ∀ K, W K → ∃ x, K x ∧ ∀ K' : α → Prop, K' x → W K'
def Pt2 {α β : Type} (W : (α → β → Prop) → Prop) : Prop := ∀ K, W K → ∃ x y, K x y ∧ ∀ K' : α → β → Prop, K' x y → W K'
section
variable {α β γ δ : Type}
theorem Pt.at (x : α) : Pt fun K : α → Prop => K x := fun _ h => ⟨x, h, fun _ h => h⟩
theorem Pt2.at (x : α) (y : β) : Pt2 fun K : α → β → Prop => K x y := fun _ h => ⟨x, y, h, fun _ h => h⟩
theorem Pt.no : Pt fun _ : α → Prop => False := fun _ h => h.elim
theorem Pt2.no : Pt2 fun _ : α → β → Prop => False := fun _ h => h.elim
theorem Pt.bind {W : (α → Prop) → Prop} (h : Pt W) {V : α → (β → Prop) → Prop} (k : ∀ x, Pt (V x)) : Pt fun K => W fun x => V x K := fun K hW => by
  obtain ⟨x, hx, h1⟩ := h _ hW
  obtain ⟨y, hy, h2⟩ := k x _ hx
  exact ⟨y, hy, fun K' hK => h1 _ (h2 _ hK)⟩
theorem Pt.bind2 {W : (α → Prop) → Prop} (h : Pt W) {V : α → (β → γ → Prop) → Prop} (k : ∀ x, Pt2 (V x)) : Pt2 fun K => W fun x => V x K := fun K hW => by
  obtain ⟨x, hx, h1⟩ := h _ hW
  obtain ⟨y, z, hy, h2⟩ := k x _ hx
  exact ⟨y, z, hy, fun K' hK => h1 _ (h2 _ hK)⟩
theorem Pt2.bind {W : (α → β → Prop) → Prop} (h : Pt2 W) {V : α → β → (γ → δ → Prop) → Prop} (k : ∀ x y, Pt2 (V x y)) : Pt2 fun K => W fun x y => V x y K := fun K hW => by
  obtain ⟨x, y, hx, h1⟩ := h _ hW
  obtain ⟨z, t, hz, h2⟩ := k x y _ hx
  exact ⟨z, t, hz, fun K' hK => h1 _ (h2 _ hK)⟩
theorem Pt.and {W : (α → Prop) → Prop} (p : Prop) (h : Pt W) : Pt fun K => p ∧ W K := fun K ⟨hp, hW⟩ => by
  obtain ⟨x, hx, h1⟩ := h _ hW
  exact ⟨x, hx, fun K' hK => ⟨hp, h1 _ hK⟩⟩
theorem Pt2.and {W : (α → β → Prop) → Prop} (p : Prop) (h : Pt2 W) : Pt2 fun K => p ∧ W K := fun K ⟨hp, hW⟩ => by
  obtain ⟨x, y, hx, h1⟩ := h _ hW
  exact ⟨x, y, hx, fun K' hK => ⟨hp, h1 _ hK⟩⟩
theorem Pt2.or {W V : (α → β → Prop) → Prop} (h : Pt2 W) (k : Pt2 V) : Pt2 fun K => W K ∨ V K := fun K hW => by
  rcases hW with hW | hW
  · obtain ⟨x, y, hx, h1⟩ := h _ hW
    exact ⟨x, y, hx, fun K' hK => .inl (h1 _ hK)⟩
  · obtain ⟨x, y, hx, h1⟩ := k _ hW
    exact ⟨x, y, hx, fun K' hK => .inr (h1 _ hK)⟩
theorem Pt.br (b : Bool) {W V : (α → Prop) → Prop} (h : Pt W) (k : Pt V) : Pt fun K => brW b (W K) (V K) := fun K hW => by
  cases b with
  | true => obtain ⟨x, hx, h1⟩ := h _ (hW.1 rfl); exact ⟨x, hx, fun K' hK => ⟨fun _ => h1 _ hK, fun h => (by cases h)⟩⟩
  | false => obtain ⟨x, hx, h1⟩ := k _ (hW.2 rfl); exact ⟨x, hx, fun K' hK => ⟨fun h => (by cases h), fun _ => h1 _ hK⟩⟩
theorem Pt2.br (b : Bool) {W V : (α → β → Prop) → Prop} (h : Pt2 W) (k : Pt2 V) : Pt2 fun K => brW b (W K) (V K) := fun K hW => by
  cases b with
  | true => obtain ⟨x, y, hx, h1⟩ := h _ (hW.1 rfl); exact ⟨x, y, hx, fun K' hK => ⟨fun _ => h1 _ hK, fun h => (by cases h)⟩⟩
  | false => obtain ⟨x, y, hx, h1⟩ := k _ (hW.2 rfl); exact ⟨x, y, hx, fun K' hK => ⟨fun h => (by cases h), fun _ => h1 _ hK⟩⟩
theorem Pt.opt (o : Option α) : Pt fun K : α → Prop => optW o K := by
  cases o with
  | none => exact Pt.no
  | some x => exact Pt.at x
theorem Pt.elem (k : Nat) (es : List D) (i j : Nat) (x : Nat × Bool) : Pt fun K => elemW k es i j x K := fun K h => by
  obtain ⟨e, y, h1, h2, h3⟩ := elemW_sound h
  exact ⟨_, h3, fun K' hK => ⟨h.1, fun e' he => by rw [h1] at he; cases he; rw [h2]; exact hK⟩⟩
theorem Pt.cell (b : Blk) : Pt fun K : List V → Prop => cellW b K := by
  cases b <;> first | exact Pt.at _ | exact Pt.no
theorem Pt.load (P : Program) (t : Nat) (a : V) (σ : Sig) : Pt fun K => loadV P t a σ K := by
  refine (Pt.opt (ldT P t)).bind fun x => ?_
  split
  · exact Pt.elem _ _ _ _ _
  · exact (Pt.opt _).bind fun b => (Pt.cell b).bind fun cs => Pt.opt _
  · refine (Pt.opt _).bind fun b => ?_
    cases b with
    | row k es ty => exact Pt.and _ (Pt.elem _ _ _ _ _)
    | _ => exact Pt.no
  · exact Pt.no
theorem Pt.pick (c a b : V) : Pt fun K => pickW c a b K := by
  unfold pickW
  split
  · exact Pt.br _ (Pt.at _) (Pt.at _)
  · exact Pt.no
theorem Pt2.next (x : V) (σ : Sig) : Pt2 fun K => nextW x σ K := by
  unfold nextW
  split
  · refine (Pt.opt _).bind2 fun b => ?_
    cases b with
    | iter s pos => exact Pt2.br _ (Pt2.at _ _) (Pt2.at _ _)
    | _ => exact Pt2.no
  · exact Pt2.no
theorem Pt2.call (P : Program) (G : Gl) (f : Nat) (args : List V) (σ : Sig) (id : Nat) : Pt2 fun K => CallW P G f args σ id K := fun K ⟨v, σ', h, k⟩ => ⟨v, σ', h, fun K' hK => ⟨v, σ', hK, k⟩⟩
theorem Pt2.dcall (P : Program) (G : Gl) (f : Nat) (args : List V) (σ : Sig) (id : Nat) : Pt2 fun K => DCallW P G f args σ id K := fun K ⟨v, σ', h, k⟩ => ⟨v, σ', h, fun K' hK => ⟨v, σ', hK, k⟩⟩
theorem Pt2.yield (P : Program) (G : Gl) (f : Nat) (args : List V) (σ : Sig) (id : Nat) : Pt2 fun K => YieldW P G f args σ id K := fun K ⟨v, σ', h, k⟩ => ⟨v, σ', h, fun K' hK => ⟨v, σ', hK, k⟩⟩
theorem Pt2.res (op : Op) (r : PVS) : Pt2 fun K => resQ op r K := by
  cases r with
  | none => exact Pt2.no
  | some x => exact Pt2.and _ (Pt2.at _ _)
theorem Pt2.callee (v : V) {K : Nat → List V → (α → β → Prop) → Prop} {Y : Nat → (α → β → Prop) → Prop} {B : Nat → List V → (α → β → Prop) → Prop} (h : ∀ k l, Pt2 (K k l)) (hy : ∀ i, Pt2 (Y i)) (hb : ∀ k l, Pt2 (B k l)) :
    Pt2 fun X => calleeW v (fun k l => K k l X) (fun i => Y i X) fun k l => B k l X := by
  unfold calleeW
  split
  · exact h _ _
  · exact h _ _
  · exact hy _
  · exact hb _ _
  · exact Pt2.no
variable {P : Program} {G : Gl}
theorem Pt2.bs (r r2 : PVS) (σ : Sig) : Pt2 fun K => bsW r r2 σ K := by
  unfold bsW
  split
  · exact Pt2.and _ (Pt2.at _ _)
  · split
    · exact Pt2.and _ (Pt2.at _ _)
    · exact Pt2.no
theorem Pt2.step (op : Op) (g : Operand → V) (σ : Sig) (id : Nat) : Pt2 fun K => stepW P G op g σ id K := by
  unfold stepW
  split
  · exact (Pt.pick _ _ _).bind2 fun v => Pt2.at v σ
  · exact (Pt.load _ _ _ _).bind2 fun v => Pt2.at v σ
  · split
    · exact Pt2.next _ _
    · exact Pt2.no
  · split
    · exact Pt2.callee _ (fun _ _ => Pt2.call _ _ _ _ _ _) (fun _ => Pt2.yield _ _ _ _ _ _) fun _ _ => Pt2.call _ _ _ _ _ _
    · exact Pt2.res _ _
    · exact Pt2.no
  · exact Pt2.bs _ _ _
  · exact Pt2.res _ _
theorem Pt2.quiet (op : Op) (g : Operand → V) (σ : Sig) (id : Nat) : Pt2 fun K => quietW P G op g σ id K := by
  unfold quietW
  split
  · exact (Pt.pick _ _ _).bind2 fun v => Pt2.at v []
  · exact (Pt.load _ _ _ _).bind2 fun v => Pt2.at v []
  · split
    · exact Pt2.callee _ (fun _ _ => Pt2.dcall _ _ _ _ _ _) (fun _ => Pt2.no) fun _ _ => Pt2.dcall _ _ _ _ _ _
    · exact Pt2.res _ _
    · exact Pt2.no
  · exact Pt2.res _ _
theorem Pt2.guard (ops : Array Oper) (o : Oper) (e : Env) {Y N : Env → (α → β → Prop) → Prop} (h : ∀ e, Pt2 (Y e)) (k : ∀ e, Pt2 (N e)) : Pt2 fun K => guardW ops o e (fun e => Y e K) fun e => N e K := by
  unfold guardW
  split
  · exact h _
  · refine (Pt.opt _).bind2 fun d => ?_
    unfold grdW
    split
    · refine Pt2.br _ ?_ ?_ <;> split <;> first | exact h _ | exact k _
    · exact k _
    · exact Pt2.no
theorem Pt2.ops (ops : Array Oper) (base : Nat) : ∀ (l : List Oper) (i : Nat) (e : Env) (σ : Sig), Pt2 fun K => opsW P G ops base i l e σ K
  | [], _, e, σ => Pt2.at e σ
  | o :: r, i, e, σ => Pt2.guard _ _ _ (fun e => (Pt2.step _ _ _ _).bind fun v σ' => Pt2.ops ops base r _ _ _) fun e => Pt2.ops ops base r _ _ _
theorem Pt2.sb (σk σ : Sig) {W : (α → β → Prop) → Prop} (h : Pt2 W) : Pt2 fun K => sbW σk σ (W K) := by
  cases σk with
  | nil => exact h
  | cons x r => exact Pt2.and _ h
theorem Pt2.opsL (lo : List Nat) (σk : Sig) (ops : Array Oper) (base : Nat) : ∀ (l : List Oper) (i : Nat) (e : Env) (σ acc : Sig), Pt2 fun K => opsL P G lo σk ops base i l e σ acc K
  | [], _, e, σ, acc => Pt2.at e (σ ++ acc)
  | o :: r, i, e, σ, acc => Pt2.guard _ _ _ (fun e => by
      split
      · exact (Pt2.step _ _ _ _).bind fun v σ' => Pt2.sb _ _ (Pt2.opsL lo σk ops base r _ _ _ _)
      · split
        · unfold vcallD
          split
          · split
            · exact Pt2.callee _ (fun _ _ => Pt2.or ((Pt2.dcall _ _ _ _ _ _).bind fun v new => Pt2.opsL lo σk ops base r _ _ _ _) (Pt2.and _ ((Pt2.call _ _ _ _ _ _).bind fun v σ' => Pt2.sb _ _ (Pt2.opsL lo σk ops base r _ _ _ _))))
                (fun _ => Pt2.and _ ((Pt2.yield _ _ _ _ _ _).bind fun v σ' => Pt2.sb _ _ (Pt2.opsL lo σk ops base r _ _ _ _)))
                fun _ _ => Pt2.or ((Pt2.dcall _ _ _ _ _ _).bind fun v new => Pt2.opsL lo σk ops base r _ _ _ _) (Pt2.and _ ((Pt2.call _ _ _ _ _ _).bind fun v σ' => Pt2.sb _ _ (Pt2.opsL lo σk ops base r _ _ _ _)))
            · exact Pt2.no
          · exact Pt2.no
        · split
          · exact (Pt2.quiet _ _ _ _).bind fun v new => Pt2.and _ (Pt2.opsL lo σk ops base r _ _ _ _)
          · exact (Pt2.quiet _ _ _ _).bind fun v new => Pt2.opsL lo σk ops base r _ _ _ _) fun e => Pt2.opsL lo σk ops base r _ _ _ _
theorem Pt.reg (lv : List Nat) (ops : Array Oper) (draw : Bool) (st : St) : Pt fun K => regW P G lv ops draw K st := by
  intro K h
  cases draw with
  | true =>
    simp only [regW, if_true] at h
    obtain ⟨lo, σk, h1, h2, h3, h4⟩ := h
    obtain ⟨e, σ, hK, hall⟩ := Pt2.opsL lo σk ops st.nx ops.toList 0 st.env st.sg [] (fun e σ => K ⟨Env.keep lv e, σ, st.nx + 4 * ops.size⟩) h4
    exact ⟨_, hK, fun K' hK' => by simp only [regW, if_true]; exact ⟨lo, σk, h1, h2, h3, hall (fun e σ => K' ⟨Env.keep lv e, σ, st.nx + 4 * ops.size⟩) hK'⟩⟩
  | false =>
    simp only [regW, Bool.false_eq_true, if_false] at h
    obtain ⟨e, σ, hK, hall⟩ := Pt2.ops ops st.nx ops.toList 0 st.env st.sg (fun e σ => K ⟨Env.keep lv e, σ, st.nx + 4 * ops.size⟩) h
    exact ⟨_, hK, fun K' hK' => by simp only [regW, Bool.false_eq_true, if_false]; exact hall (fun e σ => K' ⟨Env.keep lv e, σ, st.nx + 4 * ops.size⟩) hK'⟩
theorem Pt.gh (G : Gl) (m : Nat) {W : St → (α → Prop) → Prop} (h : ∀ st, Pt (W st)) (st : St) : Pt fun K => GhW G m (fun st => W st K) st := fun K ⟨s, h1, h2⟩ => by
  obtain ⟨x, hx, hall⟩ := h s K h2
  exact ⟨x, hx, fun K' hK => ⟨s, h1, hall K' hK⟩⟩
end
def LoopE (G : Gl) (m : Nat) (B : List Nat → St → (Exit → St → Prop) → Prop) (st : St) (Q : Exit → St → Prop) (_u : Tag B := .mk) (_v : Tag Q := .mk) (_h : True := trivial) : Prop :=
  ∃ (α : Type) (S : α → St) (pre : α → Prop) (mu : α → Nat) (x0 : α) (lv : List Nat), GhW G m (fun st' => st' = S x0) st ∧ pre x0 ∧ ∀ x, pre x → B lv (S x) (seqK (fun st => AgW G m S pre mu x st) Q)
def codeE (P : Program) (G : Gl) (n m : Nat) : Code → List Nat → St → (Exit → St → Prop) → Prop
  | .skip, _, st, Q => Q .normal st
  | .region _ ops draw, lv, st, Q => GhW G m (regW P G lv ops draw fun st' => Q .normal st') st
  | .seq a b, lv, st, Q => codeE P G n m a lv st (seqK (fun st' => codeE P G n m b lv st' Q) Q)
  | .cond c a b, lv, st, Q => condW (evF G st.env.get c) (codeE P G n m a lv st Q) (codeE P G n m b lv st Q)
  | .block id c, lv, st, Q => codeE P G n m c lv st (blockK id Q)
  | .loop c, _, st, Q => LoopE G m (fun lv st Q => codeE P G n m c lv st Q) st Q
  | .exit id, _, st, Q => Q (.exit id) st
  | .ret, _, st, Q => Q .ret st
  | .label _, _, st, Q => Q .normal st
  | .scope c, lv, st, Q => codeE P G n m c lv st (scopeK Q)
  | _, _, _, _ => False
section
variable {P : Program} {G : Gl} {n m : Nat}
def LoopI (P : Program) (G : Gl) (n m : Nat) (c : Code) (st : St) (Q : Exit → St → Prop) : Prop := ∀ fr, (fr = none ∨ noR c = true) → ∀ (C : Ctx) a w, C.n = n → C.nx = m → Rel C G st a w →
  ∀ (b : Frame) (kk : List Item) (cs : List Frame), b.roundOf = (Fr fr).round → (Fr fr).fn b.fn → (Fr fr).room (cs.length + 1 + 0) →
    ∃ e a' w', (∃ st', Q e st' ∧ Rel C G st' a' w') ∧ ArrivesIn (Machine.fenced P (Fr fr)) P (lone (b.atR a (.code c :: .inLoop c :: kk)) cs w) b kk cs e a' w'
theorem LoopI.loop {c : Code} {st : St} {Q : Exit → St → Prop} (h : LoopI P G n m c st Q) : LoopW P G n m c st Q := by
  intro fr hfr C a w hn hm hrel b kk cs hro hb hroom
  obtain ⟨e, a', w', hq, harr⟩ := h fr hfr C a w hn hm hrel b kk cs hro hb hroom
  exact ⟨e, a', w', hq, .of_steps (.one (fenced_calm hb hroom rfl) stepR_loop) harr⟩
theorem LoopI.via {c : Code} {st : St} {Q : Exit → St → Prop} (h : GhW G m (fun s => LoopI P G n m c s Q) st) : LoopI P G n m c st Q := by
  obtain ⟨s, h1, h2⟩ := h
  exact fun fr hfr C a w hn hm hr => h2 fr hfr C a w hn hm (h1 C a w hm hr)
theorem LoopI.round (ho : P.follows .mixedOrders = true) {c : Code} (hok : codeOk n c = true) {lv : List Nat} {st : St} {Q : Exit → St → Prop} (h : codeW P G n m lv c st (seqK (fun s => LoopI P G n m c s Q) Q)) : LoopI P G n m c st Q := by
  intro fr hfr C a w hn hm hr b kk cs hro hb hroom
  obtain ⟨e, a', w', ⟨st', hq, hr2⟩, harr⟩ := codeW_sound ho c st _ hok h fr hfr C a w hn hm hr b (.inLoop c :: kk) cs hro hb hroom
  cases e with
  | normal =>
    obtain ⟨e2, a2, w2, hq2, harr2⟩ := hq fr hfr C a' w' hn hm hr2 b kk cs hro hb hroom
    exact ⟨e2, a2, w2, hq2, .of_steps (StepsIn.trans harr (.one (fenced_calm hb hroom rfl) stepR_inLoop)) harr2⟩
  | exit id => exact ⟨_, a', w', ⟨st', hq, hr2⟩, .pass (x := .inLoop c) rfl (fun _ _ => .inl (by simp)) harr⟩
  | goto l => exact ⟨_, a', w', ⟨st', hq, hr2⟩, .pass (x := .inLoop c) rfl (fun _ _ => .inl (by simp)) harr⟩
  | ret => exact ⟨_, a', w', ⟨st', hq, hr2⟩, .pass (x := .inLoop c) rfl (fun _ _ => .inl (by simp)) harr⟩
  | panic ch => exact ⟨_, a', w', ⟨st', hq, hr2⟩, .pass (x := .inLoop c) rfl (fun _ _ => .inl (by simp)) harr⟩
  | outgrown => exact ⟨_, a', w', ⟨st', hq, hr2⟩, .pass (x := .inLoop c) rfl (fun _ _ => .inl (by simp)) harr⟩
theorem seqK_mono {k k' : St → Prop} {Q Q' : Exit → St → Prop} (hk : ∀ s, k s → k' s) (hq : ∀ e s, Q e s → Q' e s) : ∀ e s, seqK k Q e s → seqK k' Q' e s := by
  intro e s h
  cases e <;> first | exact hk _ h | exact hq _ _ h
theorem blockK_mono {id : Nat} {Q Q' : Exit → St → Prop} (hq : ∀ e s, Q e s → Q' e s) : ∀ e s, blockK id Q e s → blockK id Q' e s := by
  intro e s h
  cases e with
  | exit i =>
    simp only [blockK] at h ⊢
    split
    · rename_i hi; rw [if_pos hi] at h; exact hq _ _ h
    · rename_i hi; rw [if_neg hi] at h; exact hq _ _ h
  | _ => exact hq _ _ h
theorem scopeK_mono {Q Q' : Exit → St → Prop} (hq : ∀ e s, Q e s → Q' e s) : ∀ e s, scopeK Q e s → scopeK Q' e s := by
  intro e s h
  cases e <;> first | exact h.elim | exact hq _ _ h
theorem codeE_mono : ∀ (c : Code) {lv : List Nat} {st : St} {Q Q' : Exit → St → Prop}, (∀ e s, Q e s → Q' e s) → codeE P G n m c lv st Q → codeE P G n m c lv st Q' := by
  intro c
  induction c with
  | skip => intro lv st Q Q' hq h; exact hq _ _ h
  | exit id => intro lv st Q Q' hq h; exact hq _ _ h
  | ret => intro lv st Q Q' hq h; exact hq _ _ h
  | label l => intro lv st Q Q' hq h; exact hq _ _ h
  | region id ops draw =>
    intro lv st Q Q' hq h
    obtain ⟨x, hx, hall⟩ := Pt.gh G m (fun s => Pt.reg (P := P) (G := G) lv ops draw s) st _ h
    exact hall _ (hq _ _ hx)
  | seq a b iha ihb => intro lv st Q Q' hq h; exact iha (seqK_mono (fun s hs => ihb hq hs) hq) h
  | cond c a b iha ihb =>
    intro lv st Q Q' hq h
    simp only [codeE, condW] at h ⊢
    unfold boolW at h ⊢
    split
    · rename_i t hb
      rw [hb] at h
      exact ⟨fun e => iha hq (h.1 e), fun e => ihb hq (h.2 e)⟩
    · rename_i hb
      split at h
      · rename_i t hb'; exact (hb t hb').elim
      · exact h.elim
  | block id c ih => intro lv st Q Q' hq h; exact ih (blockK_mono hq) h
  | scope c ih => intro lv st Q Q' hq h; exact ih (scopeK_mono hq) h
  | loop c ih =>
    intro lv st Q Q' hq h
    obtain ⟨α, S, pre, mu, x0, lv', h1, h2, h3⟩ := h
    exact ⟨α, S, pre, mu, x0, lv', h1, h2, fun x hx => ih (seqK_mono (fun _ h => h) hq) (h3 x hx)⟩
  | _ => intro lv st Q Q' hq h; exact h.elim
theorem codeE_ex (ho : P.follows .mixedOrders = true) {ρ : Type} : ∀ (c : Code) {lv : List Nat} {st : St} {Q : ρ → Exit → St → Prop}, codeOk n c = true → codeE P G n m c lv st (fun e s => ∃ r, Q r e s) → ∃ r, codeW P G n m lv c st (Q r) := by
  intro c
  induction c with
  | skip => intro lv st Q _ h; exact h
  | exit id => intro lv st Q _ h; exact h
  | ret => intro lv st Q _ h; exact h
  | label l => intro lv st Q _ h; exact h
  | region id ops draw =>
    intro lv st Q _ h
    obtain ⟨x, ⟨r, hx⟩, hall⟩ := Pt.gh G m (fun s => Pt.reg (P := P) (G := G) lv ops draw s) st (fun st' => ∃ r, Q r .normal st') h
    exact ⟨r, hall (fun st' => Q r .normal st') hx⟩
  | seq a b iha ihb =>
    intro lv st Q hok h
    simp only [codeOk, Bool.and_eq_true] at hok
    refine iha (Q := fun r => seqK (fun st' => codeW P G n m lv b st' (Q r)) (Q r)) hok.1 (codeE_mono a ?_ h)
    intro e s hs
    cases e <;> first | exact ihb hok.2 hs | exact hs
  | cond c a b iha ihb =>
    intro lv st Q hok h
    simp only [codeOk, Bool.and_eq_true] at hok
    simp only [codeE, condW] at h
    simp only [codeW, condW]
    unfold boolW at h
    split at h
    · rename_i t hb
      rw [hb]
      cases t with
      | true => obtain ⟨r, hr⟩ := iha hok.1 (h.1 rfl); exact ⟨r, ⟨fun _ => hr, fun e => by cases e⟩⟩
      | false => obtain ⟨r, hr⟩ := ihb hok.2 (h.2 rfl); exact ⟨r, ⟨fun e => (by cases e), fun _ => hr⟩⟩
    · exact h.elim
  | block id c ih =>
    intro lv st Q hok h
    refine ih (Q := fun r => blockK id (Q r)) hok (codeE_mono c ?_ h)
    intro e s hs
    cases e with
    | exit i =>
      simp only [blockK] at hs ⊢
      split
      · rename_i hi; rw [if_pos hi] at hs; exact hs
      · rename_i hi; rw [if_neg hi] at hs; exact hs
    | _ => exact hs
  | scope c ih =>
    intro lv st Q hok h
    refine ih (Q := fun r => scopeK (Q r)) hok (codeE_mono c ?_ h)
    intro e s hs
    cases e <;> first | exact hs.elim | exact hs
  | loop c ih =>
    intro lv st Q hok h
    have hok : codeOk n c = true := hok
    obtain ⟨α, S, pre, mu, x0, lv', h1, h2, h3⟩ := h
    have key : ∀ k x, mu x = k → pre x → ∃ r, LoopI P G n m c (S x) (Q r) := by
      intro k
      induction k using Nat.strongRecOn with
      | _ k ihk =>
        intro x hk hx
        obtain ⟨r, hr⟩ := ih (Q := fun r => seqK (fun s => LoopI P G n m c s (Q r)) (Q r)) hok (codeE_mono c (fun e s hs => by
          cases e with
          | normal =>
            obtain ⟨s', hle, j, hlt, y, hy, rfl, hpy⟩ := hs
            obtain ⟨r, hr⟩ := ihk j (by omega) y hy hpy
            exact ⟨r, LoopI.via ⟨_, hle, hr⟩⟩
          | _ => exact hs) (h3 x hx))
        exact ⟨r, LoopI.round ho hok hr⟩
    obtain ⟨r, hr⟩ := key _ x0 rfl h2
    obtain ⟨s, hle, rfl⟩ := h1
    exact ⟨r, LoopI.loop (LoopI.via ⟨_, hle, hr⟩)⟩
  | _ => intro lv st Q _ h; exact h.elim
def DoneE (P : Program) (G : Gl) (m : Nat) (rs : List ResultVar) {ρ : Type} (R : ρ → Prop) (r : ρ → V) (σ' : ρ → Sig) (st : St) (_u : Tag R := .mk) (_v : Tag r := .mk) (_w : Tag σ' := .mk) (_h : True := trivial) : Prop := ∃ x, R x ∧ DoneW P G m rs (r x) (σ' x) st
theorem DoneE.is {rs : List ResultVar} {ρ : Type} {R : ρ → Prop} {r : ρ → V} {σ' : ρ → Sig} {st : St} (x : ρ) (hx : R x) (h : DoneW P G m rs (r x) (σ' x) st) : DoneE P G m rs R r σ' st := ⟨x, hx, h⟩
theorem OFn.ex (ho : P.follows .mixedOrders = true) {f : Nat} {fn : Func} {c : Code} {rs : List ResultVar} (lv : List Nat) (hf : P.funcs[f]? = some fn) (hb : fn.body = some c) (hrs : fn.results = rs.toArray) (hn : fn.ntmps = n)
    {args : List V} {σ : Sig} {ρ : Type} {R : ρ → Prop} {r : ρ → V} {σ' : ρ → Sig} (h : codeE P G n m c lv ⟨argE 0 args, σ, m⟩ (retK (DoneE P G m rs R r σ'))) (hok : codeOk n c = true) (hlen : args.length ≤ n) : ∃ x, R x ∧ OFn P G f args σ m (r x) (σ' x) := by
  obtain ⟨⟨x, hx⟩, hr⟩ := codeE_ex ho (ρ := { x // R x }) (Q := fun x => retK (DoneW P G m rs (r x.1) (σ' x.1))) c hok (codeE_mono c (fun e s hs => by
    cases e <;> first | exact hs.elim | exact (match hs with | ⟨x, h1, h2⟩ => ⟨⟨x, h1⟩, h2⟩)) h)
  exact ⟨x, hx, OFn.of_code ho lv hf hb hrs hn hok hlen hr⟩
def headOk : Code → Bool
  | .region _ _ _ => true
  | .seq a _ => headOk a
  | .block _ c => headOk c
  | .loop _ => true
  | .scope c => headOk c
  | _ => false
theorem codeE_via {st st' : St} (hle : StLe G m st st') : ∀ (c : Code) {lv : List Nat} {Q : Exit → St → Prop}, headOk c = true → codeE P G n m c lv st' Q → codeE P G n m c lv st Q := by
  intro c
  induction c with
  | region id ops draw => intro lv Q _ h; exact GhW.via hle h
  | seq a b iha _ => intro lv Q hc h; exact iha hc h
  | block id c ih => intro lv Q hc h; exact ih hc h
  | scope c ih => intro lv Q hc h; exact ih hc h
  | loop c _ =>
    intro lv Q _ h
    obtain ⟨α, S, pre, mu, x0, lv', h1, h2, h3⟩ := h
    exact ⟨α, S, pre, mu, x0, lv', GhW.via hle h1, h2, h3⟩
  | _ => intro lv Q hc h; cases hc
def ExW (G : Gl) (m : Nat) {β : Type} (T : β → St) (post : β → Prop) (st : St) (_u : Tag T := .mk) (_v : Tag post := .mk) (_h : True := trivial) : Prop := GhW G m (fun st' => ∃ y, st' = T y ∧ post y) st
theorem ExW.go {β : Type} {T : β → St} {post : β → Prop} {st : St} (y : β) (ks : List Nat) (he : st.norm m ks = T y) (hp : post y) : ExW G m T post st := GhW.go ks he ⟨y, rfl, hp⟩
theorem ExW.frz {β : Type} {T : β → St} {post : β → Prop} {st : St} (id : Nat) (h : ExW G m T post (st.frz id)) : ExW G m T post st := GhW.frz id h
theorem ExW.use {β : Type} {T : β → St} {post : β → Prop} {st : St} {c : Code} {lv : List Nat} {Q : Exit → St → Prop} (hc : headOk c = true) (h : ExW G m T post st) (hq : ∀ y, post y → codeE P G n m c lv (T y) Q) : codeE P G n m c lv st Q := by
  obtain ⟨st', hle, y, rfl, hy⟩ := h
  exact codeE_via hle c hc (hq y hy)
theorem vLX {c rest : Code} {st : St} {Q Q' : Exit → St → Prop} {α β : Type} {lv' : List Nat} (lv : List Nat) (ex : Nat) (S : α → St) (pre : α → Prop) (mu : α → Nat) (x0 : α) (T : β → St) (post : β → Prop) (h0 : GhW G m (fun st' => st' = S x0) st) (hp : pre x0)
    (hr : ∀ x, pre x → codeE P G n m c lv (S x) (seqK (fun st => AgW G m S pre mu x st) (blockK ex (seqK (fun st => ExW G m T post st) Q)))) (hq : ∀ y, post y → codeE P G n m rest lv' (T y) Q')
    (hQ : ∀ st, codeE P G n m rest lv' st Q' → Q (.exit ex) st) (hd : headOk rest = true) : LoopE G m (fun lv st Q => codeE P G n m c lv st Q) st Q := by
  refine ⟨α, S, pre, mu, x0, lv, h0, hp, fun x hx => codeE_mono c ?_ (hr x hx)⟩
  intro e s h
  cases e with
  | normal => exact h
  | exit i =>
    have h2 : blockK ex (seqK (fun st => ExW G m T post st) Q) (.exit i) s := h
    show Q (.exit i) s
    clear h
    simp only [blockK] at h2
    split at h2
    · rename_i hi; subst hi; exact hQ s (ExW.use hd h2 hq)
    · exact h2
  | _ => exact h
def HoldW (K : St → Prop) (st : St) (_u : Tag K := .mk) (_h : True := trivial) : Prop := K st
theorem vH {K : St → Prop} {st : St} (h : K st) : HoldW K st := h
theorem vSh {a b : Code} {lv : List Nat} {st : St} {Q : Exit → St → Prop} (h : codeE P G n m a lv st (seqK (fun st' => HoldW (fun st' => codeE P G n m b lv st' Q) st') Q)) : codeE P G n m (.seq a b) lv st Q := h
theorem vBl {id : Nat} {c : Code} {lv : List Nat} {st : St} {Q : Exit → St → Prop} (h : codeE P G n m c lv st (blockK id Q)) : codeE P G n m (.block id c) lv st Q := h
theorem vSq {a b : Code} {lv : List Nat} {st : St} {Q : Exit → St → Prop} {β : Type} (T : β → St) (post : β → Prop) (h : codeE P G n m a lv st (seqK (fun st => ExW G m T post st) Q)) (hq : ∀ y, post y → codeE P G n m b lv (T y) Q) (hd : headOk b = true := by rfl) : codeE P G n m (.seq a b) lv st Q :=
  codeE_mono a (seqK_mono (fun _ h => ExW.use hd h hq) fun _ _ h => h) h
end
end Go.Proofs.YthjjncooaahejaaGreatDoor
set_option linter.unusedSimpArgs false
set_option linter.defProp false
set_option maxRecDepth 8000
namespace Go.Proofs.YthjjncooaahejaaGreatDoor
def RR := @And.intro _ _ @ndW_true <| @And.intro _ _ @brM_true <| @And.intro _ _ @brM_false <| @And.intro _ _ @dstL_zero <| @And.intro _ _ @dstL_succ <| @And.intro _ _ @brW_true <| @And.intro _ _ @brW_false <| @And.intro _ _ @optW_some <| @And.intro _ _ @elW_zero <| @And.intro _ _ @elW_succ <| @And.intro _ _ @elW_map <| @And.intro _ _ @boolW_lit <| @And.intro _ _ @grdW_lit <| @And.intro _ _ @grdW_skip <| @And.intro _ _ @condW_lit <| @And.intro _ _ @pickW_lit <| @And.intro _ _ @calleeW_fn <| @And.intro _ _ @calleeW_d <| @And.intro _ _ @calleeW_bf <| @And.intro _ _ @cellW_cell <| @And.intro _ _ @rowW_row <| @And.intro _ _ @iterW_iter <| @And.intro _ _ @seqK_normal <| @And.intro _ _ @seqK_exit <| @And.intro _ _ @seqK_ret <| @And.intro _ _ @blockK_normal <| @And.intro _ _ @blockK_ret <| @And.intro _ _ @blockK_exit <| @And.intro _ _ @scopeK_normal <| @And.intro _ _ @scopeK_exit <| @And.intro _ _ @scopeK_ret <| @And.intro _ _ @retK_normal <| @And.intro _ _ @retK_ret <| @And.intro _ _ @loadV_pd <| @And.intro _ _ @loadV_po <| @And.intro _ _ @loadV_pe <| @And.intro _ _ @elemW.eq_1 <| @And.intro _ _ @evF_tmp <| @And.intro _ _ @evF_const <| @And.intro _ _ @evF_func <| @And.intro _ _ @guard_none <| @And.intro _ _ @guard_true <| @And.intro _ _ @guard_false <| @And.intro _ _ @codeW.eq_1 <| @And.intro _ _ @codeW.eq_2 <| @And.intro _ _ @codeW.eq_3 <| @And.intro _ _ @codeW.eq_4 <| @And.intro _ _ @codeW.eq_5 <| @And.intro _ _ @codeW.eq_6 <| @And.intro _ _ @codeW.eq_7 <| @And.intro _ _ @codeW.eq_8 <| @And.intro _ _ @codeW.eq_9 <| @And.intro _ _ @codeW.eq_10 <| @And.intro _ _ @codeE.eq_1 <| @And.intro _ _ @codeE.eq_2 <| @And.intro _ _ @codeE.eq_3 <| @And.intro _ _ @codeE.eq_4 <| @And.intro _ _ @codeE.eq_5 <| @And.intro _ _ @codeE.eq_6 <| @And.intro _ _ @codeE.eq_7 <| @And.intro _ _ @codeE.eq_8 <| @And.intro _ _ @codeE.eq_9 <| @And.intro _ _ @codeE.eq_10 <| @And.intro _ _ @regW_false <| @And.intro _ _ @opsW_nil <| @And.intro _ _ @opsW_cons <| @And.intro _ _ @opsD_nil <| @And.intro _ _ @opsD_cons <| @And.intro _ _ @pvW_some <| @And.intro _ _ @pvsW_some @vcallD_call
def W6 := @And.intro _ _ @w64 <| @And.intro _ _ @wu64 <| @And.intro _ _ @half64 @half64'
theorem w32 (n : Int) (h1 : -2147483648 ≤ n) (h2 : n ≤ 2147483647) : IntKind.i32.wrap n = n := by
  rw [IntKind.wrap_i32]; omega
theorem wu8 (n : Int) (h1 : 0 ≤ n) (h2 : n ≤ 255) : IntKind.u8.wrap n = n := by
  rw [IntKind.wrap_u8]; omega
theorem tdivE (a b : Int) (h : 0 ≤ a) : a.tdiv b = a / b := Int.tdiv_eq_ediv_of_nonneg h
theorem tmodE (a b : Int) (h : 0 ≤ a) : a.tmod b = a % b := Int.tmod_eq_emod_of_nonneg h
def W3 := @And.intro _ _ @W6 <| @And.intro _ _ @w32 <| @And.intro _ _ @wu8 <| @And.intro _ _ @tdivE @tmodE
instance BrC.cond {a b c : Bool} {p q r p' q' r' : Prop} [h : BrC a p p'] [k : BrC b q q'] [l : BrC c r r'] : BrC (cond a b c) ((p ∧ q) ∨ (p' ∧ r)) (¬ ((p ∧ q) ∨ (p' ∧ r))) := BrC.mk' (by rw [← h.says, ← h.nots, ← k.says, ← l.says]; cases a <;> simp)
theorem vR {p q : Prop} (h : q) (e : p = q := by simp -implicitDefEqProofs -dsimp only [push_cast, ↓RR, ↓reduceIte, Nat.reduceMul, Nat.reduceAdd, Nat.reduceSub, Nat.reduceEqDiff, Nat.reduceBeqDiff, Nat.reduceLeDiff, Nat.reduceLT, reduceCtorEq, Int.reduceToNat]; exact rfl) : p := e ▸ h
theorem v6 {p q : Prop} (h : q) (e : p = q := by simp -implicitDefEqProofs -dsimp (disch := omega) only [W6]; exact rfl) : p := e ▸ h
theorem v3 {p q : Prop} (h : q) (e : p = q := by simp -implicitDefEqProofs -dsimp (disch := omega) only [W3]; exact rfl) : p := e ▸ h
theorem vD {P : Program} {G : Gl} {m : Nat} {lv : List Nat} {ops : Array Oper} {K : St → Prop} {st : St} (h : opsD P G ops st.nx 0 ops.toList st.env st.sg [] fun e σ => endW K ⟨Env.keep lv e, σ, st.nx + 4 * ops.size⟩) (hd : drawOk [] ops = true := by decide +kernel) : GhW G m (regW P G lv ops true K) st := GhW.dr hd h
theorem vG {G : Gl} {m : Nat} {K : St → Prop} {st : St} (h : K st) : GhW G m K st := GhW.now h
theorem vE {K : St → Prop} {st : St} (h : K st) : endW K st := h
theorem vN {p q : Prop} (h2 : q) (h1 : p := by first | omega | (simp [allFit, Fit, appFits, V.cellOk, Value.oneCell', D.cells, isByte]; done) | (simp [allFit, Fit, appFits, V.cellOk, Value.oneCell', D.cells, isByte]; omega)) : ndW p q := ⟨h1, h2⟩
theorem vB {b : Bool} {p p' : Prop} [h : BrC b p p'] {q r : Prop} (h1 : p → q) (h2 : p' → r) : brW b q r := brW.of h1 h2
theorem vM {b : Bool} {p p' : Prop} [h : BrC b p p'] {q r : Prop} (h1 : p → q) (h2 : p' → r) : brM b q r := brM.of h1 h2
section
variable {P : Program} {G : Gl}
theorem vC {f : Nat} {args : List V} {σ : Sig} {id : Nat} {K : V → Sig → Prop} {r : V} (h : OFn P G f args [] 0 r []) (hK : K r σ) (he : entT P f = true := by kernel_rfl) (ha : args.map (V.sel (fw [])) = args := by with_unfolding_all rfl) (hr : r.sel (bk [] id) = r := by with_unfolding_all rfl) : CallW P G f args σ id K := CallW.d h he ha hr hK
theorem vQ {lo : List Nat} {ops : Array Oper} {i f : Nat} {args : List V} {σ acc : Sig} {id : Nat} {K L : V → Sig → Prop} {r : V} (h : OFn P G f args [] 0 r []) (hK : K r []) (he : entT P f = true := by kernel_rfl) (ha : args.map (V.sel (fw [])) = args := by with_unfolding_all rfl) (hr : r.sel (bk [] id) = r := by with_unfolding_all rfl) : callD P G lo ops i f args σ acc id K L := callD.d h he ha hr hK
class CallL (p : Prop) (P : outParam Program) (G : outParam Gl) (f : outParam Nat) (args : outParam (List V)) (id : outParam Nat) (K : outParam (V → Prop)) : Prop where
  of : ∀ r, OFn P G f args [] 0 r [] → entT P f = true → args.map (V.sel (fw [])) = args → r.sel (bk [] id) = r → K r → p
instance {f : Nat} {args : List V} {σ : Sig} {id : Nat} {K : V → Sig → Prop} : CallL (CallW P G f args σ id K) P G f args id (fun r => K r σ) := ⟨fun _ h he ha hr hK => CallW.d h he ha hr hK⟩
instance {lo : List Nat} {ops : Array Oper} {i f : Nat} {args : List V} {σ acc : Sig} {id : Nat} {K L : V → Sig → Prop} : CallL (callD P G lo ops i f args σ acc id K L) P G f args id (fun r => K r []) := ⟨fun _ h he ha hr hK => callD.d h he ha hr hK⟩
theorem vF (ho : P.follows .mixedOrders = true) {f : Nat} {fn : Func} {c : Code} {rs : List ResultVar} {n : Nat} (lv : List Nat) (hf : P.funcs[f]? = some fn) (hb : fn.body = some c) (hrs : fn.results = rs.toArray) (hn : fn.ntmps = n)
    {args : List V} {σ : Sig} {m : Nat} {r : V} {σ' : Sig} (h : codeW P G n m lv c ⟨argE 0 args, σ, m⟩ (retK (DoneW P G m rs r σ'))) (hok : codeOk n c = true := by kernel_rfl) (hlen : args.length ≤ n := by simp) : OFn P G f args σ m r σ' := OFn.of_code ho lv hf hb hrs hn hok hlen h
theorem vL {n m : Nat} {lv : List Nat} (ho : P.follows .mixedOrders = true) {c : Code} {st : St} {Q : Exit → St → Prop} {α : Type} (S : α → St) (pre : α → Prop) (mu : α → Nat) (x0 : α) (h0 : GhW G m (fun st' => st' = S x0) st) (hp : pre x0)
    (hr : ∀ x, pre x → codeW P G n m lv c (S x) (seqK (fun st => AgW G m S pre mu x st) Q)) (hok : codeOk n c = true := by kernel_rfl) : LoopW P G n m c st Q := loopW_go ho hok S pre mu x0 h0 hp hr
theorem vFE (ho : P.follows .mixedOrders = true) {f : Nat} {fn : Func} {c : Code} {rs : List ResultVar} {n : Nat} (lv : List Nat) (hf : P.funcs[f]? = some fn) (hb : fn.body = some c) (hrs : fn.results = rs.toArray) (hn : fn.ntmps = n)
    {args : List V} {σ : Sig} {m : Nat} {ρ : Type} {R : ρ → Prop} {r : ρ → V} {σ' : ρ → Sig} (h : codeE P G n m c lv ⟨argE 0 args, σ, m⟩ (retK (DoneE P G m rs R r σ'))) (hok : codeOk n c = true := by kernel_rfl) (hlen : args.length ≤ n := by simp) : ∃ x, R x ∧ OFn P G f args σ m (r x) (σ' x) := OFn.ex ho lv hf hb hrs hn h hok hlen
theorem vLE {n m : Nat} {c : Code} {st : St} {Q : Exit → St → Prop} {α : Type} (lv : List Nat) (S : α → St) (pre : α → Prop) (mu : α → Nat) (x0 : α) (h0 : GhW G m (fun st' => st' = S x0) st) (hp : pre x0)
    (hr : ∀ x, pre x → codeE P G n m c lv (S x) (seqK (fun st => AgW G m S pre mu x st) Q)) : LoopE G m (fun lv st Q => codeE P G n m c lv st Q) st Q := ⟨α, S, pre, mu, x0, lv, h0, hp, hr⟩
end
theorem vS {α : Sort _} {a b : α} (h : a = b := by first | rfl | (refine vR ?_; first | done | exact True.intro | rfl | (refine v6 ?_; first | exact True.intro | (refine vR ?_; exact True.intro)) | ((try refine v6 ?_); simp only [St.mk.injEq, List.cons.injEq, Prod.mk.injEq, V.d.injEq, D.lit.injEq, Value.int.injEq, true_and, and_true]; omega))) : a = b := h
theorem vT {α : Sort _} {a b : α} (h : a = b := by (refine vR ?_; first | done | exact True.intro | rfl | (refine v6 ?_; first | exact True.intro | (refine vR ?_; exact True.intro)) | ((try refine v6 ?_); simp only [St.mk.injEq, List.cons.injEq, Prod.mk.injEq, V.d.injEq, D.lit.injEq, Value.int.injEq, true_and, and_true]; omega))) : a = b := h
end Go.Proofs.YthjjncooaahejaaGreatDoor
set_option linter.unusedSimpArgs false
set_option linter.unusedVariables false
namespace Go.Proofs.YthjjncooaahejaaGreatDoor
section
variable {P : Program} {G : Gl}
theorem owned_congr {σ τ : Sig} (he : ∀ j, τ.get j = σ.get j) {β : Bet} {b : Nat} : owned σ β b ↔ owned τ β b := by
  constructor
  · rintro ⟨id, blk, c, h1, h2⟩; exact ⟨id, blk, c, by rw [he]; exact h1, h2⟩
  · rintro ⟨id, blk, c, h1, h2⟩; exact ⟨id, blk, c, by rw [← he]; exact h1, h2⟩
theorem OFn.congr {f : Nat} {args : List V} {σ τ : Sig} {m : Nat} {r : V} {σ' : Sig} (h : OFn P G f args σ m r σ') (he : ∀ j, τ.get j = σ.get j) : OFn P G f args τ m r σ' := by
  intro w I β vals hm hG hd
  have hm' : Mem w I β σ m := ⟨fun id blk hb => hm.own id blk (by rw [he]; exact hb), fun i j b b' k c c' h1 h2 => hm.inj i j b b' k c c' (by rw [he]; exact h1) (by rw [he]; exact h2), hm.free, hm.lt⟩
  refine (h w I β vals hm' hG hd).mono ?_
  rintro e w' ⟨u, I', β', h1, h2, h3⟩
  exact ⟨u, I', β', h1, h2, { h3 with
    block := fun b hb ho => h3.block b hb fun h => ho ((owned_congr he).1 h)
    immn := fun b hb => by
      rcases h3.immn b hb with h | h | h
      · exact .inl h
      · exact .inr (.inl ((owned_congr he).1 h))
      · exact .inr (.inr h)
    own' := fun b hb => by
      rcases h3.own' b hb with h | h
      · exact .inl ((owned_congr he).1 h)
      · exact .inr h }⟩
theorem vK {f : Nat} {args : List V} {σ : Sig} {id : Nat} {K : V → Sig → Prop} {r : V} {σ1 : Sig} (h : OFn P G f args [] 0 r σ1) (hK : K (r.sel (bk [] id)) (σ ++ σ1.sel (bk [] id))) (he : entT P f = true := by kernel_rfl) (ha : args.map (V.sel (fw [])) = args := by with_unfolding_all rfl) : CallW P G f args σ id K :=
  CallW.of [] he (by rw [ha, sel_none]; exact h) rfl (by simpa [delL] using hK)
end
theorem CallW.two {P : Program} {G : Gl} {f : Nat} {args args' : List V} {σ : Sig} {id : Nat} {K : V → Sig → Prop} {r : V} {b b' c c' : Blk} (i j : Nat) (h : OFn P G f args' [(0, b), (1, c)] 2 r [(0, b'), (1, c')])
    (hK : K (r.sel (bk [i, j] id)) (delL σ [i, j] ++ Sig.sel (bk [i, j] id) [(0, b'), (1, c')])) (he : entT P f = true := by kernel_rfl) (ha : args.map (V.sel (fw [i, j])) = args' := by rfl) (hs : σ.sel (fw [i, j]) = [(0, b), (1, c)] := by rfl) (hl : okL [i, j] id σ = true := by rfl) : CallW P G f args σ id K :=
  CallW.of [i, j] he (by rw [ha, hs]; exact h) hl hK
theorem CallW.twoN {P : Program} {G : Gl} {f : Nat} {args args' : List V} {σ σ1 : Sig} {id : Nat} {K : V → Sig → Prop} {r : V} {b c : Blk} (i j : Nat) (h : OFn P G f args' [(0, b), (1, c)] 2 r σ1)
    (hK : K (r.sel (bk [i, j] id)) (delL σ [i, j] ++ Sig.sel (bk [i, j] id) σ1)) (he : entT P f = true := by kernel_rfl) (ha : args.map (V.sel (fw [i, j])) = args' := by rfl) (hs : σ.sel (fw [i, j]) = [(0, b), (1, c)] := by rfl) (hl : okL [i, j] id σ = true := by rfl) : CallW P G f args σ id K :=
  CallW.of [i, j] he (by rw [ha, hs]; exact h) hl hK
theorem CallW.oneN {P : Program} {G : Gl} {f : Nat} {args args' : List V} {σ σ1 : Sig} {id : Nat} {K : V → Sig → Prop} {r : V} {b : Blk} (i : Nat) (h : OFn P G f args' [(0, b)] 1 r σ1)
    (hK : K (r.sel (bk [i] id)) (delL σ [i] ++ Sig.sel (bk [i] id) σ1)) (he : entT P f = true := by kernel_rfl) (ha : args.map (V.sel (fw [i])) = args' := by rfl) (hs : σ.sel (fw [i]) = [(0, b)] := by rfl) (hl : okL [i] id σ = true := by rfl) : CallW P G f args σ id K :=
  CallW.of [i] he (by rw [ha, hs]; exact h) hl hK
theorem CallW.ofN {P : Program} {G : Gl} {f n : Nat} {args args' : List V} {σ σ0 σ1 : Sig} {id : Nat} {K : V → Sig → Prop} {r : V} (l : List Nat) (h : OFn P G f args' σ0 n r σ1)
    (hK : K (r.sel (bk l id)) (delL σ l ++ σ1.sel (bk l id))) (he : entT P f = true := by kernel_rfl) (hn : l.length = n := by rfl) (ha : args.map (V.sel (fw l)) = args' := by rfl) (hs : σ.sel (fw l) = σ0 := by rfl) (hl : okL l id σ = true := by rfl) : CallW P G f args σ id K :=
  CallW.of l he (by rw [ha, hs, hn]; exact h) hl hK
theorem OFn.nil {P : Program} {G : Gl} {f : Nat} {args : List V} {σ : Sig} {m : Nat} {σ' : Sig} (k : Nat) (b : Bool) (h : OFn P G f args σ m (.d (.lit (.slice none 0 0))) σ') : OFn P G f args σ m (.d (.sd k b [])) σ' := by
  intro w I β vals hm hG hd
  refine (h w I β vals hm hG hd).mono ?_
  rintro e w' ⟨u, I', β', h1, h2, h3⟩
  refine ⟨u, I', β', h1, ?_, h3⟩
  cases h2 with
  | lit v => exact .sd0 k b none
theorem OFn.nilOr {P : Program} {G : Gl} {f : Nat} {σ : Sig} {m : Nat} {r : V} {σ' : Sig} (k : Nat) (b : Bool) (h1 : OFn P G f [.d (.lit (.slice none 0 0))] σ m r σ') (h2 : OFn P G f [.d (.ne k)] σ m r σ') : OFn P G f [.d (.sd k b [])] σ m r σ' := by
  intro w I β vals hm hG hd
  obtain ⟨hl, hd⟩ := hd
  match vals, hl with
  | [v], _ =>
    have hv : DenD w I (.sd k b []) v := hd 0 _ v rfl rfl
    have one : ∀ x : V, Den w I β x v → DenL w I β [x] [v] := fun x hx => ⟨rfl, fun i c y hc hy => by
      match i, hc, hy with
      | 0, hc, hy =>
        simp only [List.getElem?_cons_zero, Option.some.injEq] at hc hy
        subst hc hy; exact hx
      | i + 1, hc, hy => simp at hc⟩
    cases hv with
    | sd _ _ _ b o cap => exact h2 w I β [_] hm hG (one _ (DenD.ne k _ _))
    | sd0 _ _ a =>
      cases a with
      | none => exact h1 w I β [_] hm hG (one _ (DenD.lit _))
      | some a => exact h2 w I β [_] hm hG (one _ (DenD.ne k _ _))
theorem vRS {p q : Prop} (h : q) (e : p = q := by simp -implicitDefEqProofs -dsimp (maxSteps := 3000000) only [push_cast, ↓RR, ↓reduceIte, Nat.reduceMul, Nat.reduceAdd, Nat.reduceSub, Nat.reduceEqDiff, Nat.reduceBeqDiff, Nat.reduceLeDiff, Nat.reduceLT, reduceCtorEq, Int.reduceToNat]; exact rfl) : p := e ▸ h
inductive UsD {G : Prop} : G → Prop | i (h : G) : UsD h
structure HdD (G : Prop) : Prop where g : G
theorem hdD {G : Prop} (h : G) (_ : UsD h) : HdD G := ⟨h⟩
theorem zg {p : Prop} (h : p := by (repeat' (first | (with_reducible first | exact True.intro | refine vD ?_ | refine vG ?_ | refine vE ?_) | refine vR ?_ | refine v6 ?_ | with_reducible refine vN ?_ | ((with_reducible first | refine vB (fun h => ?_) (fun h => ?_) | refine vM (fun h => ?_) (fun h => ?_)) <;> (first | (exfalso; omega) | skip)))); all_goals (refine HdD.g ?_; apply_rules (newGoals := .nonDependentOnly) only [hdD, UsD.i])) : p := h
theorem zo {p : Prop} (h : p := by (repeat' (first | (with_reducible first | exact True.intro | refine vD ?_ | refine vG ?_ | refine vE ?_) | with_reducible refine DoneW.out ?_ | refine vR ?_ | refine v6 ?_ | with_reducible refine vN ?_ | ((with_reducible first | refine vB (fun h => ?_) (fun h => ?_) | refine vM (fun h => ?_) (fun h => ?_)) <;> (first | (exfalso; omega) | skip)))); all_goals (refine HdD.g ?_; apply_rules (newGoals := .nonDependentOnly) only [hdD, UsD.i])) : p := h
theorem zg1 {p q0 : Prop} (c0 : q0) (h : q0 → p := by intro zc0; (repeat' (first | (with_reducible first | exact True.intro | refine vD ?_ | refine vG ?_ | refine vE ?_) | with_reducible refine vC zc0 ?_ | with_reducible refine vQ zc0 ?_ | refine vR ?_ | refine v6 ?_ | with_reducible refine vN ?_ | ((with_reducible first | refine vB (fun h => ?_) (fun h => ?_) | refine vM (fun h => ?_) (fun h => ?_)) <;> (first | (exfalso; omega) | skip)))); all_goals (clear zc0; refine HdD.g ?_; apply_rules (newGoals := .nonDependentOnly) only [hdD, UsD.i])) : p := h c0
theorem zo1 {p q0 : Prop} (c0 : q0) (h : q0 → p := by intro zc0; (repeat' (first | (with_reducible first | exact True.intro | refine vD ?_ | refine vG ?_ | refine vE ?_) | with_reducible refine DoneW.out ?_ | with_reducible refine vC zc0 ?_ | with_reducible refine vQ zc0 ?_ | refine vR ?_ | refine v6 ?_ | with_reducible refine vN ?_ | ((with_reducible first | refine vB (fun h => ?_) (fun h => ?_) | refine vM (fun h => ?_) (fun h => ?_)) <;> (first | (exfalso; omega) | skip)))); all_goals (clear zc0; refine HdD.g ?_; apply_rules (newGoals := .nonDependentOnly) only [hdD, UsD.i])) : p := h c0
theorem zg2 {p q0 q1 : Prop} (c0 : q0) (c1 : q1) (h : q0 → q1 → p := by intro zc0 zc1; (repeat' (first | (with_reducible first | exact True.intro | refine vD ?_ | refine vG ?_ | refine vE ?_) | with_reducible refine vC zc0 ?_ | with_reducible refine vQ zc0 ?_ | with_reducible refine vC zc1 ?_ | with_reducible refine vQ zc1 ?_ | refine vR ?_ | refine v6 ?_ | with_reducible refine vN ?_ | ((with_reducible first | refine vB (fun h => ?_) (fun h => ?_) | refine vM (fun h => ?_) (fun h => ?_)) <;> (first | (exfalso; omega) | skip)))); all_goals (clear zc0; clear zc1; refine HdD.g ?_; apply_rules (newGoals := .nonDependentOnly) only [hdD, UsD.i])) : p := h c0 c1
theorem zo2 {p q0 q1 : Prop} (c0 : q0) (c1 : q1) (h : q0 → q1 → p := by intro zc0 zc1; (repeat' (first | (with_reducible first | exact True.intro | refine vD ?_ | refine vG ?_ | refine vE ?_) | with_reducible refine DoneW.out ?_ | with_reducible refine vC zc0 ?_ | with_reducible refine vQ zc0 ?_ | with_reducible refine vC zc1 ?_ | with_reducible refine vQ zc1 ?_ | refine vR ?_ | refine v6 ?_ | with_reducible refine vN ?_ | ((with_reducible first | refine vB (fun h => ?_) (fun h => ?_) | refine vM (fun h => ?_) (fun h => ?_)) <;> (first | (exfalso; omega) | skip)))); all_goals (clear zc0; clear zc1; refine HdD.g ?_; apply_rules (newGoals := .nonDependentOnly) only [hdD, UsD.i])) : p := h c0 c1
theorem zo3 {p q0 q1 q2 : Prop} (c0 : q0) (c1 : q1) (c2 : q2) (h : q0 → q1 → q2 → p := by intro zc0 zc1 zc2; (repeat' (first | (with_reducible first | exact True.intro | refine vD ?_ | refine vG ?_ | refine vE ?_) | with_reducible refine DoneW.out ?_ | with_reducible refine vC zc0 ?_ | with_reducible refine vQ zc0 ?_ | with_reducible refine vC zc1 ?_ | with_reducible refine vQ zc1 ?_ | with_reducible refine vC zc2 ?_ | with_reducible refine vQ zc2 ?_ | refine vR ?_ | refine v6 ?_ | with_reducible refine vN ?_ | ((with_reducible first | refine vB (fun h => ?_) (fun h => ?_) | refine vM (fun h => ?_) (fun h => ?_)) <;> (first | (exfalso; omega) | skip)))); all_goals (clear zc0; clear zc1; clear zc2; refine HdD.g ?_; apply_rules (newGoals := .nonDependentOnly) only [hdD, UsD.i])) : p := h c0 c1 c2
theorem zg4 {p q0 q1 q2 q3 : Prop} (c0 : q0) (c1 : q1) (c2 : q2) (c3 : q3) (h : q0 → q1 → q2 → q3 → p := by intro zc0 zc1 zc2 zc3; (repeat' (first | (with_reducible first | exact True.intro | refine vD ?_ | refine vG ?_ | refine vE ?_) | with_reducible refine vC zc0 ?_ | with_reducible refine vQ zc0 ?_ | with_reducible refine vC zc1 ?_ | with_reducible refine vQ zc1 ?_ | with_reducible refine vC zc2 ?_ | with_reducible refine vQ zc2 ?_ | with_reducible refine vC zc3 ?_ | with_reducible refine vQ zc3 ?_ | refine vR ?_ | refine v6 ?_ | with_reducible refine vN ?_ | ((with_reducible first | refine vB (fun h => ?_) (fun h => ?_) | refine vM (fun h => ?_) (fun h => ?_)) <;> (first | (exfalso; omega) | skip)))); all_goals (clear zc0; clear zc1; clear zc2; clear zc3; refine HdD.g ?_; apply_rules (newGoals := .nonDependentOnly) only [hdD, UsD.i])) : p := h c0 c1 c2 c3
theorem zo5 {p q0 q1 q2 q3 q4 : Prop} (c0 : q0) (c1 : q1) (c2 : q2) (c3 : q3) (c4 : q4) (h : q0 → q1 → q2 → q3 → q4 → p := by intro zc0 zc1 zc2 zc3 zc4; (repeat' (first | (with_reducible first | exact True.intro | refine vD ?_ | refine vG ?_ | refine vE ?_) | with_reducible refine DoneW.out ?_ | with_reducible refine vC zc0 ?_ | with_reducible refine vQ zc0 ?_ | with_reducible refine vC zc1 ?_ | with_reducible refine vQ zc1 ?_ | with_reducible refine vC zc2 ?_ | with_reducible refine vQ zc2 ?_ | with_reducible refine vC zc3 ?_ | with_reducible refine vQ zc3 ?_ | with_reducible refine vC zc4 ?_ | with_reducible refine vQ zc4 ?_ | refine vR ?_ | refine v6 ?_ | with_reducible refine vN ?_ | ((with_reducible first | refine vB (fun h => ?_) (fun h => ?_) | refine vM (fun h => ?_) (fun h => ?_)) <;> (first | (exfalso; omega) | skip)))); all_goals (clear zc0; clear zc1; clear zc2; clear zc3; clear zc4; refine HdD.g ?_; apply_rules (newGoals := .nonDependentOnly) only [hdD, UsD.i])) : p := h c0 c1 c2 c3 c4
theorem zo9 {p q0 q1 q2 q3 q4 q5 q6 q7 q8 : Prop} (c0 : q0) (c1 : q1) (c2 : q2) (c3 : q3) (c4 : q4) (c5 : q5) (c6 : q6) (c7 : q7) (c8 : q8) (h : q0 → q1 → q2 → q3 → q4 → q5 → q6 → q7 → q8 → p := by intro zc0 zc1 zc2 zc3 zc4 zc5 zc6 zc7 zc8; (repeat' (first | (with_reducible first | exact True.intro | refine vD ?_ | refine vG ?_ | refine vE ?_) | with_reducible refine DoneW.out ?_ | with_reducible refine vC zc0 ?_ | with_reducible refine vQ zc0 ?_ | with_reducible refine vC zc1 ?_ | with_reducible refine vQ zc1 ?_ | with_reducible refine vC zc2 ?_ | with_reducible refine vQ zc2 ?_ | with_reducible refine vC zc3 ?_ | with_reducible refine vQ zc3 ?_ | with_reducible refine vC zc4 ?_ | with_reducible refine vQ zc4 ?_ | with_reducible refine vC zc5 ?_ | with_reducible refine vQ zc5 ?_ | with_reducible refine vC zc6 ?_ | with_reducible refine vQ zc6 ?_ | with_reducible refine vC zc7 ?_ | with_reducible refine vQ zc7 ?_ | with_reducible refine vC zc8 ?_ | with_reducible refine vQ zc8 ?_ | refine vR ?_ | refine v6 ?_ | with_reducible refine vN ?_ | ((with_reducible first | refine vB (fun h => ?_) (fun h => ?_) | refine vM (fun h => ?_) (fun h => ?_)) <;> (first | (exfalso; omega) | skip)))); all_goals (clear zc0; clear zc1; clear zc2; clear zc3; clear zc4; clear zc5; clear zc6; clear zc7; clear zc8; refine HdD.g ?_; apply_rules (newGoals := .nonDependentOnly) only [hdD, UsD.i])) : p := h c0 c1 c2 c3 c4 c5 c6 c7 c8
theorem zgK {p q0 : Prop} (c0 : q0) (h : q0 → p := by intro zc0; (repeat' (first | (with_reducible first | exact True.intro | refine vD ?_ | refine vG ?_ | refine vE ?_) | with_reducible refine vK zc0 ?_ | refine vR ?_ | refine v6 ?_ | with_reducible refine vN ?_ | ((with_reducible first | refine vB (fun h => ?_) (fun h => ?_) | refine vM (fun h => ?_) (fun h => ?_)) <;> (first | (exfalso; omega) | skip)))); all_goals (clear zc0; refine HdD.g ?_; apply_rules (newGoals := .nonDependentOnly) only [hdD, UsD.i])) : p := h c0
theorem zgE {p q0 : Prop} (c0 : q0) (h : q0 → p := by intro zc0; (repeat' (first | (with_reducible first | exact True.intro | refine vD ?_ | refine vG ?_ | refine vE ?_) | with_reducible refine elX.is _ _ (by omega) zc0 ?_ | refine vR ?_ | refine v6 ?_ | with_reducible refine vN ?_ | ((with_reducible first | refine vB (fun h => ?_) (fun h => ?_) | refine vM (fun h => ?_) (fun h => ?_)) <;> (first | (exfalso; omega) | skip)))); all_goals (clear zc0; refine HdD.g ?_; apply_rules (newGoals := .nonDependentOnly) only [hdD, UsD.i])) : p := h c0
theorem zoE {p q0 : Prop} (c0 : q0) (h : q0 → p := by intro zc0; (repeat' (first | (with_reducible first | exact True.intro | refine vD ?_ | refine vG ?_ | refine vE ?_) | with_reducible refine DoneW.out ?_ | with_reducible refine elX.is _ _ (by omega) zc0 ?_ | refine vR ?_ | refine v6 ?_ | with_reducible refine vN ?_ | ((with_reducible first | refine vB (fun h => ?_) (fun h => ?_) | refine vM (fun h => ?_) (fun h => ?_)) <;> (first | (exfalso; omega) | skip)))); all_goals (clear zc0; refine HdD.g ?_; apply_rules (newGoals := .nonDependentOnly) only [hdD, UsD.i])) : p := h c0
theorem zgS {p : Prop} (h : p := by (repeat' (first | (with_reducible first | exact True.intro | refine vD ?_ | refine vG ?_ | refine vE ?_) | refine vRS ?_ | refine vR ?_ | refine v6 ?_ | with_reducible refine vN ?_ | ((with_reducible first | refine vB (fun h => ?_) (fun h => ?_) | refine vM (fun h => ?_) (fun h => ?_)) <;> (first | (exfalso; omega) | skip)))); all_goals (refine HdD.g ?_; apply_rules (newGoals := .nonDependentOnly) only [hdD, UsD.i])) : p := h
theorem zoS {p : Prop} (h : p := by (repeat' (first | (with_reducible first | exact True.intro | refine vD ?_ | refine vG ?_ | refine vE ?_) | with_reducible refine DoneW.out ?_ | refine vRS ?_ | refine vR ?_ | refine v6 ?_ | with_reducible refine vN ?_ | ((with_reducible first | refine vB (fun h => ?_) (fun h => ?_) | refine vM (fun h => ?_) (fun h => ?_)) <;> (first | (exfalso; omega) | skip)))); all_goals (refine HdD.g ?_; apply_rules (newGoals := .nonDependentOnly) only [hdD, UsD.i])) : p := h
end Go.Proofs.YthjjncooaahejaaGreatDoor
set_option linter.unusedSimpArgs false
set_option linter.unusedVariables false
namespace Go.Proofs.YthjjncooaahejaaGreatDoor
theorem get_set_some {σ : Sig} {id : Nat} {c : Blk} (h : (σ.get id).isSome = true) {j : Nat} {b : Blk} (hb : (σ.set id c).get j = some b) : ∃ b', σ.get j = some b' := by
  rw [Sig.get_set h] at hb
  split at hb
  · rename_i e; subst e; exact Option.isSome_iff_exists.1 h
  · exact ⟨b, hb⟩
theorem MStep.recell {w : World} {I : Nat → Prop} {β : Bet} {σ : Sig} {nx id : Nat} {cs cs' : List V} {ty : Option Nat} (hm : Mem w I β σ nx) (hg : σ.get id = some (.cell cs ty))
    (h : ∀ (i : Nat) c', cs'[i]? = some c' → ∃ c, cs[i]? = some c ∧ ∀ v, Den w I β c v → Den w I β c' v) : MStep w I β σ nx w I β (σ.set id (.cell cs' ty)) nx := by
  have hs : (σ.get id).isSome = true := by rw [hg]; rfl
  refine ⟨⟨fun j b hb => ?_, fun i j b b' k c c' h1 h2 h3 h4 => ?_, hm.free, hm.lt⟩, rfl, rfl, rfl, Nat.le_refl _, fun b _ _ => rfl, fun b hb => hb, fun b hb => .inl hb, fun _ _ h => h, Nat.le_refl _, fun b ⟨j, bl, c, h1, h2⟩ => ?_⟩
  · rw [Sig.get_set hs] at hb
    split at hb
    · rename_i e
      subst e
      injection hb with hb
      subst hb
      obtain ⟨b, cap, cur, t, q1, q2, q3, q4⟩ := hm.own j _ hg
      refine ⟨b, cap, cur, t, q1, q2, q3, fun i c' hc => ?_⟩
      obtain ⟨c, hc1, hc2⟩ := h i c' hc
      obtain ⟨v, v1, v2, v3⟩ := q4 i c hc1
      exact ⟨v, v1, v2, hc2 v v3⟩
    · exact hm.own j b hb
  · obtain ⟨x, hx⟩ := get_set_some hs h1
    obtain ⟨y, hy⟩ := get_set_some hs h2
    exact hm.inj i j x y k c c' hx hy h3 h4
  · obtain ⟨x, hx⟩ := get_set_some hs h1
    exact .inl ⟨j, x, c, hx, h2⟩
def St.nilC (st : St) (id off k : Nat) : St := match st.sg.get id with
  | some (.cell cs ty) => (match cs[off]? with
    | some (.d (.lit (.slice none 0 0))) => ⟨st.env, (st.nx, .row k []) :: st.sg.set id (.cell (cs.set off (.so st.nx k 0 0)) ty), st.nx + 1⟩
    | _ => st)
  | _ => st
theorem StLe.nilC (G : Gl) (m : Nat) (st : St) (id off k : Nat) : StLe G m st (st.nilC id off k) := by
  intro C a w _ hr
  unfold St.nilC
  split
  · rename_i cs ty hg
    split
    · rename_i hc
      obtain ⟨I, β, h1, h2, h3, h4, h5, h6⟩ := hr
      have hb : β st.nx = none := h2 st.nx (Nat.le_refl _)
      have h1' : MStep C.w C.I C.β C.σ C.nx w I β st.sg (st.nx + 1) := h1.bump (by omega)
      have hs := MStep.nilRow h1'.mem (id := st.nx) hb (by omega) k (tq := none)
      have hne : st.nx ≠ id := fun e => by
        have := (h1.mem.own id _ hg).named
        rw [← e, hb] at this
        obtain ⟨y, hy⟩ := this
        cases hy
      have hg' : Sig.get ((st.nx, Blk.row k []) :: st.sg) id = some (.cell cs ty) := by
        simp only [Sig.get]
        rw [if_neg hne]; exact hg
      have hr2 := MStep.recell (cs' := cs.set off (.so st.nx k 0 0)) hs.mem hg' (fun i c' hi => by
        rw [List.getElem?_set] at hi
        split at hi
        · rename_i e
          subst e
          split at hi
          · injection hi with hi
            subst hi
            refine ⟨_, hc, fun v hv => ?_⟩
            have hv := den_lit hv
            exact .inl ⟨upd_same _ _ _, rfl, rfl, none, hv⟩
          · cases hi
        · exact ⟨c', hi, fun v hv => hv⟩)
      have hset : Sig.set ((st.nx, Blk.row k []) :: st.sg) id (.cell (cs.set off (.so st.nx k 0 0)) ty) = (st.nx, Blk.row k []) :: st.sg.set id (.cell (cs.set off (.so st.nx k 0 0)) ty) := by
        simp only [Sig.set]
        rw [if_neg hne]
      rw [hset] at hr2
      refine ⟨I, upd β st.nx none, (h1'.trans hs).trans hr2, fun j hj => ?_, fun u => ?_, h4, (h5.step hs).step hr2, h6⟩
      · have : j ≠ st.nx := by have : st.nx + 1 ≤ j := hj; omega
        rw [upd_other this]; exact h2 j (by have : st.nx + 1 ≤ j := hj; omega)
      · exact hs.den h1'.mem (h3 u)
    · exact hr
  · exact hr
theorem GhW.nilC {G : Gl} {m : Nat} {K : St → Prop} {st : St} (id off k : Nat) (h : GhW G m K (st.nilC id off k)) : GhW G m K st := GhW.via (StLe.nilC G m st id off k) h
attribute [push_cast] St.nilC.eq_def List.set_cons_zero List.set_cons_succ
end Go.Proofs.YthjjncooaahejaaGreatDoor
