/- Calls that are handed an own block for good: it is settled first. -/
import Derived.Test.YtlnimbnihbcnpaaGreatDoorProg
import Derived.WalkKit
import Derived.WalkSpells
import Derived.Carry
import Derived.Lib.Hide
import Derived.ProofKit
import Derived.Lib.SmallJoins
import Derived.OpenShut
import Derived.Deep.Slices
import Derived.Deep.Fields
import Derived.WideShapes
import Derived.Lib.LaidTab
import Derived.Stop.LaidErr
import Derived.MakeChecks
import Derived.Test.YtlnimbnihbcnpaaGreatDoorModelNilPA
import Derived.Test.YtlnimbnihbcnpaaGreatDoorModelNilPB
set_option linter.unusedSimpArgs false
namespace Go.Proofs.YtlnimbnihbcnpaaGreatDoor
open Go
section
variable {P : Program} {G : Gl} {w : World} {I : Nat → Prop} {β : Bet} {σ : Sig} {nx id : Nat} {blk : Blk}
theorem frz_step (h : Mem w I β σ nx) (hg : σ.get id = some blk) : MStep w I β σ nx w (fun b => I b ∨ ∃ c, β id = some (some (b, c))) β (σ.frz id blk) nx ∧ Set1 w I (fun b => I b ∨ ∃ c, β id = some (some (b, c))) β id blk := by
  have h1 := MStep.refl h
  have hown := h1.mem.own id blk hg
  let I' : Nat → Prop := fun b => I b ∨ ∃ c, β id = some (some (b, c))
  have hset : Set1 w I I' β id blk := ⟨fun b hb => .inl hb, hown, fun b c hb => .inr ⟨c, hb⟩⟩
  refine ⟨⟨⟨fun j b hj => ?_, fun j j' b b' k c c' g1 g2 g3 g4 => ?_, h1.mem.free, fun b hb => ?_⟩, h1.os, h1.tape, h1.output, h1.size, h1.block, fun b hb => .inl (h1.imm b hb), fun b hb => ?_, h1.bet, h1.nx, fun b ⟨j, bl, c, g1, g2⟩ => ?_⟩, hset⟩
  · rw [Sig.get_frz] at hj
    split at hj
    · cases hj
    · rename_i hne
      simp only [Option.map_eq_some_iff] at hj
      obtain ⟨b0, hb0, rfl⟩ := hj
      have ho := h1.mem.own j b0 hb0
      have hni : ∀ b c, β j = some (some (b, c)) → ¬ I' b := by
        intro b c hb hI
        rcases hI with hI | ⟨c', hc'⟩
        · exact (ho.not_imm hb).1 hI
        · exact hne (h1.mem.inj j id b0 blk b c c' hb0 hg hb hc')
      cases b0 with
      | cell cs ty =>
        obtain ⟨b, cap, cur, t, q1, q2, q3, q4⟩ := ho
        refine ⟨b, cap, cur, t, q1, q2, hni b cap q1, fun i c hi => ?_⟩
        simp only [List.getElem?_map, Option.map_eq_some_iff] at hi
        obtain ⟨c', hc', rfl⟩ := hi
        obtain ⟨v, v1, v2, v3⟩ := q4 i c' hc'
        exact ⟨v, v1, v2, hset.den v3⟩
      | row k es ty => exact ho.keep (fun _ _ => rfl) (fun b hb => .inl hb) hni (fun _ _ h => h)
      | map es => exact ho.keep (fun _ _ => rfl) (fun b hb => .inl hb) hni (fun _ _ h => h)
      | iter s pos => exact ho.keep (fun _ _ => rfl) (fun b hb => .inl hb) hni (fun _ _ h => h)
      | rc y q e =>
        obtain ⟨b, cap, r, q1, q2, q3, q4, q5⟩ := ho
        refine ⟨b, cap, r, q1, q2, hni b cap q1, q4, fun t => ?_⟩
        rw [Env.get_frz]
        exact hset.den (q5 t)
  · rw [Sig.get_frz] at g1 g2
    split at g1
    · cases g1
    · split at g2
      · cases g2
      · simp only [Option.map_eq_some_iff] at g1 g2
        obtain ⟨x, hx, _⟩ := g1
        obtain ⟨y, hy, _⟩ := g2
        exact h1.mem.inj j j' x y k c c' hx hy g3 g4
  · rcases hb with hb | ⟨c, hb⟩
    · exact h1.mem.lt b hb
    · exact (hown.not_imm hb).2
  · rcases hb with hb | ⟨c, hb⟩
    · exact h1.immn b hb
    · rcases h1.own' b ⟨id, blk, c, hg, hb⟩ with h | h
      · exact .inr (.inl h)
      · exact .inr (.inr h)
  · rw [Sig.get_frz] at g1
    split at g1
    · cases g1
    · simp only [Option.map_eq_some_iff] at g1
      obtain ⟨x, hx, _⟩ := g1
      exact h1.own' b ⟨j, x, c, hx, g2⟩
theorem Does.frz {f i : Nat} {args : List V} {v : V} {σ' : Sig} (hg : σ.get i = some blk) (h : Does P G f (args.map (V.frz i blk)) (σ.frz i blk) id v σ') : Does P G f args σ id v σ' := by
  intro w I β nx vals hm hG hf hnx hd
  obtain ⟨s, hset⟩ := frz_step hm hg
  refine (h w _ β nx vals s.mem (fun g x hx => (hG g x hx).keep (fun _ _ => rfl) (fun b hb => .inl hb)) hf hnx ⟨by simpa using hd.1, fun j c x hc hx => ?_⟩).mono ?_
  · simp only [List.getElem?_map, Option.map_eq_some_iff] at hc
    obtain ⟨c', hc', rfl⟩ := hc
    exact hset.den (hd.2 j c' x hc' hx)
  · rintro e w' ⟨u, I2, β2, e1, e2, e3, e4⟩
    exact ⟨u, I2, β2, e1, e2, s.trans e3, e4⟩
theorem CallW.frz {f : Nat} {args : List V} {K : V → Sig → Prop} (i : Nat) (hg : σ.get i = some blk) (h : CallW P G f (args.map (V.frz i blk)) (σ.frz i blk) id K) (hent : entT P f = true := by kernel_rfl) : CallW P G f args σ id K := by
  obtain ⟨v, σ', hK, hd⟩ := h
  rcases hd with ⟨he, hd⟩ | ⟨he, _⟩
  · exact ⟨v, σ', hK, .inl ⟨he, hd.frz hg⟩⟩
  · rw [ext_not hent] at he; cases he
end
theorem beqT (b : Bool) : (b == true) = b := by cases b <;> rfl
theorem beqF (b : Bool) : (b == false) = !b := by cases b <;> rfl
attribute [push_cast] bne_self_eq_false beq_self_eq_true Bool.true_beq Bool.false_beq beqT beqF Bool.false_or Bool.true_or Bool.or_false Bool.or_true Bool.and_true Bool.true_and Bool.false_and Bool.and_false
end Go.Proofs.YtlnimbnihbcnpaaGreatDoor
/- More words for seat texts. -/
namespace Go.Proofs.YtlnimbnihbcnpaaGreatDoor
theorem bneI (a b : Int) : (a != b) = !(a == b) := rfl
attribute [push_cast] bneI Bool.not_not
end Go.Proofs.YtlnimbnihbcnpaaGreatDoor
/- Branches: what a truth value says. -/
namespace Go.Proofs.YtlnimbnihbcnpaaGreatDoor
/-- What a truth value says: if it is true, if it is false. -/
class BrC (b : Bool) (p q : outParam Prop) : Prop where
  says : b = true ↔ p
  nots : b = false ↔ q
theorem BrC.mk' {b : Bool} {p : Prop} (h : b = true ↔ p) : BrC b p (¬ p) := ⟨h, by rw [← h]; simp⟩
instance (priority := 100) BrC.any (b : Bool) : BrC b (b = true) (b = false) := ⟨Iff.rfl, Iff.rfl⟩
instance BrC.dec {p : Prop} [Decidable p] : BrC (decide p) p (¬ p) := BrC.mk' (by simp)
instance BrC.beq {a b : Int} : BrC (a == b) (a = b) (¬ a = b) := BrC.mk' (by simp)
instance BrC.not {b : Bool} {p q : Prop} [h : BrC b p q] : BrC (!b) q p := ⟨by rw [← h.nots]; simp, by rw [← h.says]; simp⟩
instance BrC.and {a b : Bool} {p q p' q' : Prop} [h : BrC a p p'] [k : BrC b q q'] : BrC (a && b) (p ∧ q) (¬ (p ∧ q)) := BrC.mk' (by rw [← h.says, ← k.says]; simp)
instance BrC.or {a b : Bool} {p q p' q' : Prop} [h : BrC a p p'] [k : BrC b q q'] : BrC (a || b) (p ∨ q) (¬ (p ∨ q)) := BrC.mk' (by rw [← h.says, ← k.says]; simp)
theorem brW.of {b : Bool} {p p' : Prop} [h : BrC b p p'] {q r : Prop} (h1 : p → q) (h2 : p' → r) : brW b q r := ⟨fun e => h1 (h.says.1 e), fun e => h2 (h.nots.1 e)⟩
theorem brM.of {b : Bool} {p p' : Prop} [h : BrC b p p'] {q r : Prop} (h1 : p → q) (h2 : p' → r) : brM b q r := ⟨fun e => h1 (h.says.1 e), fun e => h2 (h.nots.1 e)⟩
theorem nextW_it (id : Nat) (σ : Sig) (K : V → Sig → Prop) : nextW (.it id) σ K = optW (σ.get id) fun b => iterW b fun s pos =>
    brW (decide (pos < s.size)) (K (.tup [.d (.lit (.bool true)), .d (.lit (.int .i64 pos)), .d (.lit (.int .i32 (Utf8.decode s pos).1))]) (σ.set id (.iter s (pos + (Utf8.decode s pos).2)))) (K (.tup [.d (.lit (.bool false))]) σ) := rfl
theorem toNat_add2 (a b : Nat) : ((a : Int) + (b : Int)).toNat = a + b := by omega
attribute [push_cast] nextW_it Option.getD_some Option.getD_none toNat_add2
end Go.Proofs.YtlnimbnihbcnpaaGreatDoor
/- Loops over functions: their rounds. -/
namespace Go.Proofs.YtlnimbnihbcnpaaGreatDoor
section
variable {P : Program} {G : Gl} {w : World} {I : Nat → Prop} {β : Bet}
/-- The slots filled. -/
def fillE : List Nat → List V → Env → Env
  | p :: ps, v :: vs, e => fillE ps vs (e.put p v)
  | _, _, e => e
def fillT (l : List (Nat × Value)) (tm : Array Value) : Array Value := l.foldl (fun tmps x => tmps.setIfInBounds x.1 x.2) tm
theorem fillE_den : ∀ (ps : List Nat) (args : List V) (vals : List Value) (e : Env) (tm : Array Value), DenL w I β args vals → (∀ p ∈ ps, p < tm.size) → (∀ t, Den w I β (e.get t) (tm.getD t undef)) →
    (fillT (ps.zip vals) tm).size = tm.size ∧ ∀ t, Den w I β ((fillE ps args e).get t) ((fillT (ps.zip vals) tm).getD t undef)
  | [], args, vals, e, tm, _, _, h => by simpa [fillT, fillE] using h
  | p :: ps, [], vals, e, tm, hd, _, h => by
    have : vals = [] := List.eq_nil_of_length_eq_zero hd.1.symm
    subst this
    simpa [fillT, fillE] using h
  | p :: ps, v :: vs, [], e, tm, hd, _, h => by have := hd.1; simp at this
  | p :: ps, v :: vs, x :: xs, e, tm, hd, hp, h => by
    have h0 : ∀ t, Den w I β ((e.put p v).get t) ((tm.setIfInBounds p x).getD t undef) :=
      den_put (a := { tmps := tm, defers := [] }) h (d := some p) (fun y hy => by injection hy with hy; subst hy; exact hp p (by simp)) (hd.2 0 v x rfl rfl)
    have := fillE_den ps vs xs (e.put p v) (tm.setIfInBounds p x) ⟨by have := hd.1; simpa using this, fun i c y hc hy => hd.2 (i + 1) c y (by simpa using hc) (by simpa using hy)⟩ (fun q hq => by simpa using hp q (by simp [hq])) h0
    refine ⟨by rw [show fillT ((p :: ps).zip (x :: xs)) tm = fillT (ps.zip xs) (tm.setIfInBounds p x) from rfl, this.1]; simp, this.2⟩
theorem fillT_eq (ps : Array Nat) (vals : List Value) (tm : Array Value) : (ps.zip vals.toArray).foldl (fun tmps (t, a) => tmps.setIfInBounds t a) tm = fillT (ps.toList.zip vals) tm := by
  rw [← Array.foldl_toList]
  simp [fillT]
/-- The names below id. -/
def ltG (id : Nat) : Nat → Option Nat := fun j => if j < id then some j else none
def cutB (β : Bet) (id : Nat) : Bet := fun j => if j < id then β j else none
theorem ltG_spec {id i j : Nat} (h : ltG id i = some j) : i = j ∧ j < id := by
  unfold ltG at h
  split at h
  · injection h with h; omega
  · cases h
theorem ltG_inj (id : Nat) : ∀ i i' j, ltG id i = some j → ltG id i' = some j → i = i' := fun i i' j h h' => by
  have := ltG_spec h; have := ltG_spec h'; omega
theorem cutB_ext {id : Nat} : ∀ i j, ltG id i = some j → ∀ x, β i = some x → cutB β id j = some x := fun i j h x hx => by
  obtain ⟨rfl, hlt⟩ := ltG_spec h
  simp [cutB, hlt, hx]
theorem cutB_some {id j : Nat} {x : Option (Nat × Nat)} (h : cutB β id j = some x) : j < id ∧ β j = some x := by
  unfold cutB at h
  split at h
  · exact ⟨by assumption, h⟩
  · cases h
theorem get_cut {σ : Sig} {id j : Nat} {b : Blk} (h : (σ.sel (ltG id)).get j = some b) : j < id ∧ ∃ b', σ.get j = some b' ∧ b = b'.sel (ltG id) := by
  obtain ⟨i, b', h1, h2, h3⟩ := Sig.get_sel (ltG_inj id) σ j b h
  obtain ⟨rfl, hlt⟩ := ltG_spec h1
  exact ⟨hlt, b', h2, h3⟩
theorem Mem.cut {σ : Sig} {nx : Nat} (hm : Mem w I β σ nx) (id : Nat) : Mem w I (cutB β id) (σ.sel (ltG id)) id where
  own := fun j b hj => by
    obtain ⟨hlt, b', h1, rfl⟩ := get_cut hj
    exact (hm.own j b' h1).sel cutB_ext (by simp [ltG, hlt])
  inj := fun j j' b b' k c c' h1 h2 h3 h4 => by
    obtain ⟨_, x, q1, _⟩ := get_cut h1
    obtain ⟨_, x', q1', _⟩ := get_cut h2
    exact hm.inj j j' x x' k c c' q1 q1' (cutB_some h3).2 (cutB_some h4).2
  free := fun j hj => by simp [cutB, show ¬ j < id by omega]
  lt := hm.lt
theorem owned_cut {σ : Sig} {id b : Nat} (h : owned (σ.sel (ltG id)) (cutB β id) b) : owned σ β b := by
  obtain ⟨j, blk, c, h1, h2⟩ := h
  obtain ⟨_, b', q1, _⟩ := get_cut h1
  exact ⟨j, b', c, q1, (cutB_some h2).2⟩
/-- The names of σ, and the new ones of l, from id on. -/
def selY (σ : Sig) (id : Nat) (l : List Nat) : Nat → Option Nat := fun j => if j < id then (if (σ.get j).isSome = true then some j else none) else idx l j id
/-- How a round is left: what yield hands back, and what is own then. -/
def RndW (G : Gl) (σ : Sig) (id i : Nat) (y : Yd) (e : Env) (j : Option Code) (v : V) (σ' : Sig) (st : St) : Prop :=
  v = .d (.lit (.bool j.isNone)) ∧ GhW G id (fun st => ∃ l : List Nat, l.length ≤ 4 ∧ Sub σ' ((i, .rc y j e) :: st.sg.sel (selY σ id l))) st
def rndK (G : Gl) (σ : Sig) (id i : Nat) (y : Yd) (e : Env) (v : V) (σ' : Sig) : Exit → St → Prop
  | .normal, st => RndW G σ id i y e none v σ' st
  | .ret, st => RndW G σ id i y e (some .ret) v σ' st
  | .exit k, st => RndW G σ id i y e (some (.exit k)) v σ' st
  | _, _ => False
/-- Something hidden is written anew. -/
theorem RelE.putHid {C : Ctx} {e : Env} {σ : Sig} {nx lim b : Nat} {o o' : Obj} {a : Act} {w : World} (hC : C.hd = [(b, o)]) (ho : o ≠ .deferred (some [])) (hown : owned C.σ C.β b) (h : RelE C G e σ nx lim a w) :
    RelE { C with hd := [(b, o')] } G e σ nx lim a (w.putObj b o') := by
  obtain ⟨I, β, h1, h2, h3, h4, ⟨⟨Ds, q1, q2, q3⟩, q4⟩, h6⟩ := h
  obtain ⟨k1, k2, k3⟩ := q4 (b, o) (by rw [hC]; simp)
  simp only at k1 k2 k3
  have hI : ∀ b', I b' → (w.putObj b o').heap[b']? = w.heap[b']? := fun b' hb => World.putObj_heap_other (fun e => k2 (e ▸ hb))
  have hO : ∀ b', owned σ β b' → (w.putObj b o').heap[b']? = w.heap[b']? := fun b' hb => World.putObj_heap_other (fun e => k3 (e ▸ hb))
  refine ⟨I, β, ⟨⟨fun id blk hb => ?_, h1.mem.inj, h1.mem.free, fun b hb => ?_⟩, h1.os, h1.tape, h1.output, ?_, fun b' hb hn => ?_, h1.imm, h1.immn, h1.bet, h1.nx, h1.own'⟩, h2, fun t => (h3 t).keep hI (fun _ h => h) (fun _ _ h => h), h4, ⟨⟨Ds, q1, q2, fun D hD => ?_⟩, fun p hp => ?_⟩, fun g x hx => (h6 g x hx).keep hI (fun _ h => h)⟩
  · have ho := h1.mem.own id blk hb
    refine ho.keep (fun b hb' => ?_) (fun _ h => h) (fun b c hc => (ho.not_imm hc).1) (fun _ _ h => h)
    rcases hb' with hb' | ⟨c, hc⟩
    · exact hI b hb'
    · exact hO b ⟨id, blk, c, hb, hc⟩
  · rw [World.putObj_size]; exact h1.mem.lt b hb
  · rw [World.putObj_size]; exact h1.size
  · rw [World.putObj_heap_other (fun e => hn (by rw [e]; exact hown))]; exact h1.block b' hb hn
  · obtain ⟨g1, g2, g3, g4⟩ := q3 D hD
    refine ⟨g1, ?_, g3, g4⟩
    rw [World.putObj_heap_other]
    · exact g2
    · rintro rfl; rw [k1] at g2; injection g2 with g2; exact ho g2
  · have hp' : p = (b, o') := by simpa using hp
    subst hp'
    exact ⟨World.putObj_heap_same (lt_of_heap k1), k2, k3⟩
end
end Go.Proofs.YtlnimbnihbcnpaaGreatDoor
/- A round of a loop over a function, by what its text does. -/
set_option linter.unusedVariables false
namespace Go.Proofs.YtlnimbnihbcnpaaGreatDoor
section
variable {P : Program} {G : Gl}
theorem selY_spec {σ : Sig} {id i j : Nat} {l : List Nat} (h : selY σ id l i = some j) : (i = j ∧ j < id ∧ ∃ b, σ.get j = some b) ∨ (id ≤ i ∧ id ≤ j ∧ j < id + l.length ∧ l[j - id]? = some i) := by
  unfold selY at h
  split at h
  · rename_i hlt
    split at h
    · rename_i hs
      injection h with h; subst h
      exact .inl ⟨rfl, hlt, Option.isSome_iff_exists.1 hs⟩
    · cases h
  · obtain ⟨h1, h2, h3⟩ := idx_spec h
    exact .inr ⟨by omega, h1, h2, h3⟩
theorem selY_inj (σ : Sig) (id : Nat) (l : List Nat) : ∀ i i' j, selY σ id l i = some j → selY σ id l i' = some j → i = i' := by
  intro i i' j h h'
  rcases selY_spec h with ⟨rfl, h1, _⟩ | ⟨h0, h1, _, h2⟩
  · rcases selY_spec h' with ⟨rfl, _⟩ | ⟨_, h1', _⟩
    · rfl
    · omega
  · rcases selY_spec h' with ⟨rfl, h1', _⟩ | ⟨_, _, _, h2'⟩
    · omega
    · rw [h2] at h2'; injection h2'
/-- At a round's end: what is own, told to whoever called yield. -/
theorem rnd_step {w w3 : World} {I I3 : Nat → Prop} {β β3 : Bet} {σ σ3 σ' : Sig} {nx nx3 id i b cap : Nat} {y : Yd} {e : Env} {j : Option Code} {r : Loop} {l : List Nat} {o : Obj}
    (hm : Mem w I β σ nx) (hi : i < id) (hfr : ∀ k, id ≤ k → k < id + 4 → β k = none) (hnx : id + 4 ≤ nx) (hg : σ.get i = some (.rc y none e)) (hb : β i = some (some (b, cap))) (he : ∀ t, Den w I β (e.get t) (r.tmps.getD t undef)) (hr : RecIs y j r)
    (hs : MStep w I (cutB β id) (σ.sel (ltG id)) id w3 I3 β3 σ3 nx3) (h3 : w3.heap[b]? = some o) (hI3 : ¬ I3 b) (ho3 : ¬ owned σ3 β3 b) (hl : l.length ≤ 4) (hsub : Sub σ' ((i, .rc y j e) :: σ3.sel (selY σ id l))) :
    ∃ β', MStep w I β σ nx (w3.putObj b (.loop r)) I3 β' σ' nx ∧ ∀ k, ¬ (id ≤ k ∧ k < id + 4) → β' k = β k := by
  have hlt : b < w.heap.size := (((hm.own i _ hg).not_imm hb).2)
  have hIb : ¬ I b := ((hm.own i _ hg).not_imm hb).1
  let β' : Bet := fun k => if id ≤ k ∧ k < id + 4 then (match l[k - id]? with | some q => β3 q | none => none) else β k
  have hβ : ∀ k, ¬ (id ≤ k ∧ k < id + 4) → β' k = β k := fun k hk => by simp only [β', if_neg hk]
  have hext : ∀ k x, β k = some x → β' k = some x := fun k x hx => by
    rw [hβ k]
    · exact hx
    · rintro ⟨h1, h2⟩; rw [hfr k h1 h2] at hx; cases hx
  have hin : ∀ k k', selY σ id l k = some k' → β' k' = β3 k := by
    intro k k' h
    rcases selY_spec h with ⟨rfl, h1, blk, h2⟩ | ⟨h0, h1, h2, h3⟩
    · rw [hβ k (by omega)]
      obtain ⟨x, hx⟩ := (hm.own k blk h2).named
      rw [hx, hs.bet k x (by simp [cutB, h1, hx])]
    · simp only [β', show id ≤ k' ∧ k' < id + 4 from ⟨h1, by omega⟩, and_self, if_true, h3]
  have hing : ∀ k k', selY σ id l k = some k' → ∀ x, β3 k = some x → β' k' = some x := fun k k' h x hx => by rw [hin k k' h]; exact hx
  have hinj := selY_inj σ id l
  have hIk : ∀ k, I3 k → (w3.putObj b (.loop r)).heap[k]? = w3.heap[k]? := fun k hk => World.putObj_heap_other (fun e => hI3 (e ▸ hk))
  have hOk : ∀ k, owned σ3 β3 k → (w3.putObj b (.loop r)).heap[k]? = w3.heap[k]? := fun k hk => World.putObj_heap_other (fun e => ho3 (e ▸ hk))
  have hI0 : ∀ k, I k → w3.heap[k]? = w.heap[k]? := fun k hk => hs.block k (hm.lt k hk) (fun h => hm.not_owned hk (owned_cut h))
  have hget : ∀ k blk, σ'.get k = some blk → (k = i ∧ blk = .rc y j e) ∨ (∃ k0 blk0, selY σ id l k0 = some k ∧ σ3.get k0 = some blk0 ∧ blk = blk0.sel (selY σ id l)) := by
    intro k blk hk
    have := hsub k blk hk
    simp only [Sig.get] at this
    split at this
    · rename_i e1; injection this with this; exact .inl ⟨e1.symm, this.symm⟩
    · exact .inr (Sig.get_sel hinj _ k blk this)
  have hbi : β' i = some (some (b, cap)) := hext i _ hb
  have hoth : ∀ k k0 blk0 c, selY σ id l k0 = some k → σ3.get k0 = some blk0 → β' k = some (some (b, c)) → False := by
    intro k k0 blk0 c h1 h2 h4
    rw [hin k0 k h1] at h4
    exact ho3 ⟨k0, blk0, c, h2, h4⟩
  have howned : ∀ k, owned σ' β' k → k = b ∨ owned σ3 β3 k := by
    rintro k ⟨q, blk, c, h1, h2⟩
    rcases hget q blk h1 with ⟨rfl, rfl⟩ | ⟨q0, blk0, g1, g2, _⟩
    · rw [hbi] at h2; injection h2 with h2; injection h2 with h2; injection h2 with h2 _; exact .inl h2.symm
    · rw [hin q0 q g1] at h2; exact .inr ⟨q0, blk0, c, g2, h2⟩
  have hob : owned σ β b := ⟨i, _, cap, hg, hb⟩
  refine ⟨β', ⟨⟨fun k blk hk => ?_, fun k k' blk blk' q c c' g1 g2 g3 g4 => ?_, fun k hk => ?_, fun k hk => ?_⟩, hs.os, hs.tape, hs.output, ?_, fun k hk hn => ?_, hs.imm, fun k hk => ?_, hext, Nat.le_refl _, fun k hk => ?_⟩, hβ⟩
  · rcases hget k blk hk with ⟨rfl, rfl⟩ | ⟨k0, blk0, g1, g2, rfl⟩
    · exact ⟨b, cap, r, hbi, World.putObj_heap_same (lt_of_heap h3), hI3, hr, fun t => (he t).keep (fun q hq => (hIk q (hs.imm q hq)).trans (hI0 q hq)) hs.imm hext⟩
    · have ho := hs.mem.own k0 blk0 g2
      have ho' : Own (w3.putObj b (.loop r)) I3 β3 k0 blk0 := ho.keep (fun q hq => by
        rcases hq with hq | ⟨c, hc⟩
        · exact hIk q hq
        · exact hOk q ⟨k0, blk0, c, g2, hc⟩) (fun _ h => h) (fun q c hc => (ho.not_imm hc).1) (fun _ _ h => h)
      exact ho'.sel hing g1
  · rcases hget k blk g1 with ⟨rfl, rfl⟩ | ⟨k0, blk0, p1, p2, rfl⟩
    · rw [hbi] at g3; injection g3 with g3; injection g3 with g3; injection g3 with g3 _; subst g3
      rcases hget k' blk' g2 with ⟨rfl, rfl⟩ | ⟨k0', blk0', p1', p2', rfl⟩
      · rfl
      · exact (hoth k' k0' blk0' c' p1' p2' g4).elim
    · rcases hget k' blk' g2 with ⟨rfl, rfl⟩ | ⟨k0', blk0', p1', p2', rfl⟩
      · rw [hbi] at g4; injection g4 with g4; injection g4 with g4; injection g4 with g4 _; subst g4
        exact (hoth k k0 blk0 c p1 p2 g3).elim
      · rw [hin k0 k p1] at g3
        rw [hin k0' k' p1'] at g4
        have := hs.mem.inj k0 k0' blk0 blk0' q c c' p2 p2' g3 g4
        subst this
        rw [p1] at p1'; injection p1'
  · rw [hβ k (by omega)]; exact hm.free k hk
  · rw [World.putObj_size]; exact hs.mem.lt k hk
  · rw [World.putObj_size]; exact hs.size
  · have hkb : k ≠ b := fun e => hn (e ▸ hob)
    rw [World.putObj_heap_other hkb]
    exact hs.block k hk (fun h => hn (owned_cut h))
  · rcases hs.immn k hk with h | h | h
    · exact .inl h
    · exact .inr (.inl (owned_cut h))
    · exact .inr (.inr h)
  · rcases howned k hk with rfl | h
    · exact .inl hob
    · rcases hs.own' k h with h | h
      · exact .inl (owned_cut h)
      · exact .inr h
theorem YDoes.of {i : Nat} {args : List V} {σ : Sig} {id : Nat} {y : Yd} {e : Env} {v : V} {σ' : Sig} (hg : σ.get i = some (.rc y none e)) (hi : i < id) (hps : y.ps.toList.all (fun p => decide (p < y.n)) = true) (hl : args.length = y.ps.size) (hn1 : noR y.asg = true) (hn2 : noR y.body = true)
    (h : AW P G y.n id y.asg ⟨fillE y.ps.toList (args.map (V.sel (ltG id))) (e.sel (ltG id)), (σ.del i).sel (ltG id), id⟩ (seqK (fun st => AW P G y.n id y.body st (rndK G σ id i y e v σ')) (fun _ _ => False))) : YDoes P G i args σ id v σ' := by
  intro w I β nx vals b cap hm hG hfr hnx hd hb
  obtain ⟨b', cap', r, q1, q2, q3, q4, q5⟩ := hm.own i _ hg
  rw [hb] at q1; injection q1 with q1; injection q1 with q1; injection q1 with q1 q1'; subst q1; subst q1'
  refine ⟨r, q2, by rw [← hd.1, hl, q4.ps], ?_⟩
  rw [fillT_eq]
  have hC := hm.cut id
  let C : Ctx := ⟨w, I, cutB β id, σ.sel (ltG id), id, y.n, hC.free, [(b, .loop r)]⟩
  have hown : owned C.σ C.β b := ⟨i, Blk.sel (ltG id) (.rc y none e), cap, Sig.get_sel' (ltG_inj id) (by simp [ltG, hi]) σ _ hg, by simp [C, cutB, hi, hb]⟩
  have hsub : ∀ j bl, ((σ.del i).sel (ltG id)).get j = some bl → (σ.sel (ltG id)).get j = some bl ∧ j ≠ i := by
    intro j bl hj
    obtain ⟨hlt, b', h1, rfl⟩ := get_cut hj
    rw [Sig.get_del] at h1
    split at h1
    · cases h1
    · rename_i hne
      exact ⟨Sig.get_sel' (ltG_inj id) (by simp [ltG, hlt]) σ _ h1, hne⟩
  have hargs : DenL w I (cutB β id) (args.map (V.sel (ltG id))) vals := by
    refine ⟨by simpa using hd.1, fun k c x hc hx => ?_⟩
    simp only [List.getElem?_map, Option.map_eq_some_iff] at hc
    obtain ⟨c', hc', rfl⟩ := hc
    exact (hd.2 k c' x hc' hx).sel cutB_ext
  have hfill := fillE_den (w := w) (I := I) (β := cutB β id) y.ps.toList (args.map (V.sel (ltG id))) vals (e.sel (ltG id)) r.tmps hargs (fun p hp => by
    have := List.all_eq_true.1 hps p hp
    rw [q4.n]; simpa using this) (fun t => by rw [Env.get_sel]; exact (q5 t).sel cutB_ext)
  have hrel : Rel C G ⟨fillE y.ps.toList (args.map (V.sel (ltG id))) (e.sel (ltG id)), (σ.del i).sel (ltG id), id⟩ { tmps := fillT (y.ps.toList.zip vals) r.tmps, defers := [] } w := by
    refine ⟨I, cutB β id, (MStep.refl hC).sub (fun j bl hj => (hsub j bl hj).1) (Nat.le_refl _), hC.free, hfill.2, by rw [hfill.1]; exact q4.n, ⟨⟨[], rfl, List.nodup_nil, fun D hD => by cases hD⟩, fun p hp => ?_⟩, hG⟩
    have hp' : p = (b, .loop r) := by simpa [C] using hp
    subst hp'
    refine ⟨q2, q3, ?_⟩
    rintro ⟨j, bl, c, g1, g2⟩
    obtain ⟨hlt, b', h1, _⟩ := get_cut g1
    rw [Sig.get_del] at h1
    split at h1
    · cases h1
    · rename_i hne
      exact hne (hm.inj j i _ _ b c cap h1 hg (cutB_some g2).2 hb)
  rw [show r.params.toList = y.ps.toList by rw [q4.ps]]
  refine roundIn_of_wpIn (F := Fence.wide) trivial ?_
  rw [q4.asg, q4.body]
  refine wpIn_mono (h (some b) (.inr hn1) C _ w rfl rfl hrel) ?_
  rintro e1 a1 w1 ⟨st1, hq, hr1⟩
  cases e1 with
  | normal =>
    have hhid : w1.heap[b]? = some (.loop r) := by
      obtain ⟨I1, β1, _, _, _, _, ⟨_, k⟩, _⟩ := _root_.id hr1
      exact (k (b, .loop r) (by simp [C])).1
    have hst : r.state = .ready := by rw [q4.state]; rfl
    refine ⟨_, run_beginRound hhid hst, ?_⟩
    have hr2 := RelE.putHid (o' := .loop { r with state := .busy }) (C := C) rfl (fun e => by cases e) hown hr1
    let C2 : Ctx := { C with hd := [(b, .loop { r with state := .busy })] }
    refine wpIn_mono ((show AW P G y.n id y.body st1 (rndK G σ id i y e v σ') from hq) (some b) (.inr hn2) C2 a1 _ rfl rfl hr2) ?_
    -- how it ends
    have fin : ∀ (j : Option Code) (st2 : St) (a2 : Act) (w3 : World), RndW G σ id i y e j v σ' st2 → Rel C2 G st2 a2 w3 →
        ∃ u w', (Instr.endRound b j).run P w3 = .ok u w' ∧ ∃ u0 I' β', Ending.returned u = .returned u0 ∧ Den w' I' β' v u0 ∧ MStep w I β σ nx w' I' β' σ' nx ∧ ∀ k, ¬ (id ≤ k ∧ k < id + 4) → β' k = β k := by
      rintro j st2 a2 w3 ⟨rfl, st3, hle, l, hl4, hsb⟩ hr3
      obtain ⟨I3, β3, k1, k2, k3, k4, ⟨_, k5⟩, k6⟩ := hle C2 a2 w3 rfl hr3
      obtain ⟨p1, p2, p3⟩ := k5 (b, .loop { r with state := .busy }) (by simp [C2])
      obtain ⟨β', g1, g2⟩ := rnd_step (r := { r with state := if j.isNone then .ready else .done, pending := j }) hm hi hfr hnx hg hb q5 ⟨rfl, rfl, q4.n, q4.ps, q4.asg, q4.body⟩ k1 p1 p2 p3 hl4 hsb
      exact ⟨_, _, run_endRound j p1, _, I3, β', rfl, DenD.lit _, g1, g2⟩
    rintro e2 a2 w3 ⟨st2, hq2, hr3⟩
    cases e2 with
    | normal => exact fin none st2 a2 w3 hq2 hr3
    | ret => exact fin (some .ret) st2 a2 w3 hq2 hr3
    | exit k => exact fin (some (.exit k)) st2 a2 w3 hq2 hr3
    | _ => exact hq2.elim
  | _ => exact hq.elim
/-- A call of yield: what the round does is told. -/
theorem YieldW.of (ho : P.follows .mixedOrders = true) (lv : List Nat) {i : Nat} {args : List V} {σ : Sig} {id : Nat} {K : V → Sig → Prop} {y : Yd} {e : Env} {v : V} {σ' : Sig} (hg : σ.get i = some (.rc y none e)) (hi : i < id) (hps : y.ps.toList.all (fun p => decide (p < y.n)) = true) (hl : args.length = y.ps.size)
    (hn1 : noR y.asg = true) (hn2 : noR y.body = true) (ho1 : codeOk y.n y.asg = true) (ho2 : codeOk y.n y.body = true)
    (h : codeW P G y.n id lv y.asg ⟨fillE y.ps.toList (args.map (V.sel (ltG id))) (e.sel (ltG id)), (σ.del i).sel (ltG id), id⟩ (seqK (fun st => codeW P G y.n id lv y.body st (rndK G σ id i y e v σ')) (fun _ _ => False))) (hK : K v σ') : YieldW P G i args σ id K := by
  refine ⟨v, σ', hK, YDoes.of hg hi hps hl hn1 hn2 ((codeW_sound ho _ _ _ ho1 h).mono ?_)⟩
  intro ex st hq
  cases ex with
  | normal => exact codeW_sound ho _ _ _ ho2 hq
  | _ => exact hq
end
end Go.Proofs.YtlnimbnihbcnpaaGreatDoor
/- Loops over functions, whole: the function's text is gone through in place. -/
set_option linter.unusedVariables false
namespace Go.Proofs.YtlnimbnihbcnpaaGreatDoor
open Go.RowKit
section
variable {P : Program} {G : Gl}
/-- How the function that was ranged over is left, and where the loop's own function goes on. -/
def RngW (G : Gl) (st : St) (Q : Exit → St → Prop) (st' : St) : Prop :=
  GhW G (st.nx + 1) (fun st' => ∃ y j e, st'.sg.get st.nx = some (.rc y j e) ∧ match j with
    | none => Q .normal ⟨st.env, st'.sg.del st.nx, st'.nx⟩
    | some .ret => Q .ret ⟨st.env, st'.sg.del st.nx, st'.nx⟩
    | some (.exit k) => Q (.exit k) ⟨st.env, st'.sg.del st.nx, st'.nx⟩
    | _ => False) st'
def rngK (G : Gl) (st : St) (Q : Exit → St → Prop) : Exit → St → Prop
  | .normal, st' => RngW G st Q st'
  | .ret, st' => RngW G st Q st'
  | _, _ => False
/-- A block beside, that is nobody's. -/
theorem MStep.foreign {w : World} {I : Nat → Prop} {β : Bet} {σ : Sig} {nx : Nat} (hm : Mem w I β σ nx) (o : Obj) : MStep w I β σ nx (w.alloc o) I β σ nx := by
  have hb : ∀ b, b < w.heap.size → (w.alloc o).heap[b]? = w.heap[b]? := fun b hb => Below.heap_alloc w o b hb
  refine ⟨⟨fun id blk h => ?_, hm.inj, hm.free, fun b hI => by have := hm.lt b hI; simp; omega⟩, rfl, rfl, rfl, by simp, fun b hlt _ => hb b hlt, fun _ h => h, fun _ h => .inl h, fun _ _ h => h, Nat.le_refl _, fun _ h => .inl h⟩
  have ho := hm.own id blk h
  refine ho.keep (fun b hb' => ?_) (fun _ h => h) (fun b c hc => (ho.not_imm hc).1) (fun _ _ h => h)
  rcases hb' with hb' | ⟨c, hc⟩
  · exact hb b (hm.lt b hb')
  · exact hb b (ho.not_imm hc).2
theorem range_aw {n m : Nat} {g : Operand} {ps : Array Nat} {asg body : Code} {st : St} {Q : Exit → St → Prop} {k : Nat} {caps : List V} {fn : Func} {c : Code}
    (hg : ∀ w I β x, Den w I β (evF G st.env.get g) x → ∃ cv : List Value, x = .func (.func k) #[] cv.toArray ∧ DenL w I β caps cv) (he : entT P k = true) (hf : P.funcs[k]? = some fn) (hb : fn.body = some c) (hrs : fn.results = #[]) (hlen : caps.length + 1 ≤ fn.ntmps)
    (h : AW P G fn.ntmps (st.nx + 1) c ⟨argE 0 (.yl st.nx :: caps), (st.nx, .rc ⟨n, ps, asg, body⟩ none st.env) :: st.sg, st.nx + 1⟩ (rngK G st Q)) : RangeW P G n m g ps asg body st Q := by
  intro fr hfr C a w hn hm hr
  have hfr' : fr = none := hfr.resolve_right (by simp [noR])
  subst hfr'
  refine wpIn_rangeFunc (F := Fr none) fun fn' _ => ?_
  obtain ⟨I, β, h1, h2, h3, h4, h5, h6⟩ := hr
  have hgd := evF_den (G := G) (e := st.env) (a := a) h3 h6 g
  obtain ⟨cv, e1, e2⟩ := hg w I β _ hgd
  let r : Loop := { state := .ready, pending := none, fn := fn', tmps := a.tmps, params := ps, assign := asg, body := body, defers := w.heap.size }
  let w0 := w.alloc (.deferred (some []))
  let w1 := w0.alloc (.loop r)
  have hres : (resolve a.eval (rangeCall g (w.heap.size + 1)) 0).run P w1 = .ok { target := .fn (.func k) cv.toArray, args := #[.func (.yield (w.heap.size + 1)) #[] #[]] } w1 := by
    have ec : ∀ v : Value, a.eval (.const v) = v := fun _ => rfl
    simp [resolve, e1, ec, Deferred.ofValue]
  refine ⟨w.heap.size + 1, [{ target := .collected w.heap.size, args := #[] }], w1, _, w1, k, (.func (.yield (w.heap.size + 1)) #[] #[] :: cv).toArray, w1, run_enterLoop_outer fn' a.tmps ps asg body, hres, fun _ _ => trivial, ?_, (fun e => by cases e), ?_⟩
  · simp only [invoke]
    rw [show (#[Value.func (Fn.yield (w.heap.size + 1)) #[] #[]] ++ cv.toArray) = (Value.func (Fn.yield (w.heap.size + 1)) #[] #[] :: cv).toArray by simp]
    exact run_callFunc he _ w1
  have hb0 : β st.nx = none := h2 st.nx (Nat.le_refl _)
  have hm1 : Mem w I β st.sg (st.nx + 1) := h1.mem.bump (by omega)
  have s0 := MStep.foreign hm1 (.deferred (some []))
  let blk : Blk := .rc ⟨n, ps, asg, body⟩ none st.env
  have hsz : w0.heap.size = w.heap.size + 1 := by simp [w0]
  have hown : Own w1 I (upd β st.nx (some (w0.heap.size, 0))) st.nx blk := by
    refine ⟨w0.heap.size, 0, r, upd_same _ _ _, World.alloc_heap_new w0 _, fun hI => ?_, ⟨rfl, rfl, h4.trans hn, rfl, rfl, rfl⟩, fun t => ?_⟩
    · have := h1.mem.lt _ hI; omega
    · refine (h3 t).keep (fun b hI => ?_) (fun _ h => h) (upd_ext hb0)
      have hlt := h1.mem.lt b hI
      exact (Below.heap_alloc w0 _ b (by omega)).trans (Below.heap_alloc w _ b hlt)
  have s1 := MStep.alloc s0.mem (id := st.nx) hb0 (by omega) (.loop r) 0 blk hown
  have s01 := s0.trans s1
  let β1 := upd β st.nx (some (w0.heap.size, 0))
  have hβ1 : β1 st.nx = some (some (w0.heap.size, 0)) := upd_same _ _ _
  let C' : Ctx := ⟨w1, I, β1, (st.nx, blk) :: st.sg, st.nx + 1, fn.ntmps, s1.mem.free, []⟩
  let vals : List Value := .func (.yield (w.heap.size + 1)) #[] #[] :: cv
  have hvl : vals.length = caps.length + 1 := by simp [vals, e2.1]
  have hrel : Rel C' G ⟨argE 0 (.yl st.nx :: caps), (st.nx, blk) :: st.sg, st.nx + 1⟩ { tmps := vals.toArray ++ Array.replicate (fn.ntmps - vals.toArray.size) undef, defers := [] } w1 := by
    refine ⟨I, β1, MStep.refl s1.mem, s1.mem.free, fun t => ?_, ?_, DfOk.nil, fun q x hx => s01.denD hm1 (h6 q x hx)⟩
    · show Den w1 I β1 ((argE 0 (.yl st.nx :: caps)).get t) _
      rw [get_argE]
      simp only [Nat.zero_le, if_true, Nat.sub_zero]
      cases hv : (V.yl st.nx :: caps)[t]? with
      | none => trivial
      | some v =>
        have ht : t < vals.length := by
          have := (List.getElem?_eq_some_iff.1 hv).1
          simp at this; omega
        have e3 : (vals.toArray ++ Array.replicate (fn.ntmps - vals.toArray.size) undef).getD t undef = vals[t] := by
          simp [Array.getD_eq_getD_getElem?, Array.getElem?_append, ht]
        rw [e3]
        match t, hv, ht with
        | 0, hv, ht =>
          simp only [List.getElem?_cons_zero, Option.some.injEq] at hv
          subst hv
          exact ⟨w0.heap.size, 0, hβ1, by show Value.func (.yield (w.heap.size + 1)) #[] #[] = _; rw [hsz]⟩
        | t + 1, hv, ht =>
          simp only [List.getElem?_cons_succ] at hv
          exact s01.den hm1 (e2.2 t v _ hv (by simp [vals]))
    · show (vals.toArray ++ Array.replicate (fn.ntmps - vals.toArray.size) undef).size = fn.ntmps
      simp; omega
  refine callsIn_of_wp_marks (F := Fr none) hf hb trivial ?_
  refine wpIn_mono (h none (.inl rfl) C' _ w1 rfl rfl hrel) ?_
  rintro ex aK w2 ⟨st2, hq, hr2⟩
  have hD : DfOk C.w.heap.size C.hd w1 I β1 ((st.nx, blk) :: st.sg) ({ target := .collected w.heap.size, args := #[] } :: a.defers) := by
    obtain ⟨⟨Ds, d1, d2, d3⟩, d4⟩ := (h5.step s01)
    have hDlt : ∀ D ∈ Ds, D < w.heap.size := by
      obtain ⟨⟨Ds', d1', d2', d3'⟩, _⟩ := h5
      have : Ds' = Ds := by
        have e4 := d1'.symm.trans d1
        have : ∀ (x y : List Nat), x.map (fun D => ({ target := .collected D, args := #[] } : Deferred)) = y.map (fun D => { target := .collected D, args := #[] }) → x = y := by
          intro x
          induction x with
          | nil => intro y h; cases y with | nil => rfl | cons => simp at h
          | cons q x ih =>
            intro y h
            cases y with
            | nil => simp at h
            | cons q' y => simp only [List.map_cons, List.cons.injEq, Deferred.mk.injEq, Target.collected.injEq, and_true] at h; rw [h.1, ih y h.2]
        exact this _ _ e4
      subst this
      exact fun D hD => lt_of_heap (d3' D hD).2.1
    refine ⟨⟨w.heap.size :: Ds, by rw [List.map_cons, ← d1], List.nodup_cons.2 ⟨fun hh => by have := hDlt _ hh; omega, d2⟩, fun D hD => ?_⟩, d4⟩
    rcases List.mem_cons.1 hD with rfl | hD
    · refine ⟨h1.size, ?_, fun hI => by have := h1.mem.lt _ hI; omega, ?_⟩
      · have : w1.heap[w.heap.size]? = w0.heap[w.heap.size]? := Below.heap_alloc w0 _ _ (by omega)
        rw [this]; exact World.alloc_heap_new w _
      · rintro ⟨q, bl, cc, g1, g2⟩
        simp only [Sig.get] at g1
        by_cases hq : st.nx = q
        · subst hq
          rw [hβ1] at g2; injection g2 with g2; injection g2 with g2; injection g2 with g2 _; omega
        · rw [if_neg hq] at g1
          rw [show β1 q = β q from upd_other (fun e => hq e.symm)] at g2
          have := ((h1.mem.own q bl g1).not_imm g2).2
          omega
    · exact d3 D hD
  have key : RngW G st Q st2 → LeavesInM (Fr none) 0 P fn aK.tmps (rangePost (Fr none) 0 P (w.heap.size + 1) (fun e a' w' => ∃ st', Q e st' ∧ Rel C G st' a' w') { a with defers := [{ target := .collected w.heap.size, args := #[] }] ++ a.defers }) aK.defers .returning w2 := by
    rintro ⟨st3, hle, y, j, e, g1, g2⟩
    refine leavesM (C := C') rfl (G := G) (st := st3) (fun w3 hr3 => ?_) aK.defers w2 (hle C' aK w2 rfl hr2)
    refine ⟨.tuple #[], by simp [results_eq, hrs], ?_⟩
    obtain ⟨I3, β3, k1, k2, k3, k4, k5, k6⟩ := hr3
    obtain ⟨b, cap, r3, p1, p2, p3, p4, p5⟩ := k1.mem.own _ _ g1
    have hbl : b = w.heap.size + 1 ∧ cap = 0 := by
      have := k1.bet st.nx _ hβ1
      rw [p1] at this; injection this with this; injection this with this; injection this with q1 q2
      exact ⟨q1.trans hsz, q2⟩
    obtain ⟨rfl, rfl⟩ := hbl
    have hnb : r3.state ≠ .busy := by rw [p4.state]; split <;> simp
    refine ⟨r3.pending, _, run_endLoop p2 hnb, ?_⟩
    have hst := s01.trans k1
    -- behind the loop
    have back : Rel C G ⟨st.env, st3.sg.del st.nx, st3.nx⟩ { a with defers := [{ target := .collected w.heap.size, args := #[] }] ++ a.defers } (w3.putObj (w.heap.size + 1) (.loop { r3 with state := .exhausted })) := by
      have hIk : ∀ q, I3 q → (w3.putObj (w.heap.size + 1) (.loop { r3 with state := .exhausted })).heap[q]? = w3.heap[q]? := fun q hq => World.putObj_heap_other (fun e => p3 (e ▸ hq))
      have hno : ∀ q, owned (st3.sg.del st.nx) β3 q → q ≠ w.heap.size + 1 ∧ owned st3.sg β3 q := by
        rintro q ⟨id', bl, cc, x1, x2⟩
        rw [Sig.get_del] at x1
        split at x1
        · cases x1
        · rename_i hne
          refine ⟨?_, id', bl, cc, x1, x2⟩
          rintro rfl
          exact hne (k1.mem.inj id' st.nx _ _ _ cc 0 x1 g1 x2 p1)
      have hOk : ∀ q, owned (st3.sg.del st.nx) β3 q → (w3.putObj (w.heap.size + 1) (.loop { r3 with state := .exhausted })).heap[q]? = w3.heap[q]? := fun q hq => World.putObj_heap_other (hno q hq).1
      have hall := h1.bump (show st.nx ≤ st.nx + 1 by omega) |>.trans hst
      have hdd := hD.step k1
      refine ⟨I3, β3, ⟨⟨fun id' bl hb' => ?_, fun i j' b' b'' q cc cc' x1 x2 x3 x4 => ?_, k1.mem.free, fun q hq => ?_⟩, hall.os, hall.tape, hall.output, ?_, fun q hq hnq => ?_, hall.imm, hall.immn, hall.bet, hall.nx, fun q hq => hall.own' q (hno q hq).2⟩, k2, fun t => ?_, h4, ?_, fun q x hx => (k6 q x hx).keep hIk (fun _ h => h)⟩
      · have hx : st3.sg.get id' = some bl := by
          have hb'' : (st3.sg.del st.nx).get id' = some bl := hb'
          rw [Sig.get_del] at hb''
          split at hb''
          · cases hb''
          · exact hb''
        have ho := k1.mem.own id' bl hx
        refine ho.keep (fun q hq => ?_) (fun _ h => h) (fun q cc hc => (ho.not_imm hc).1) (fun _ _ h => h)
        rcases hq with hq | ⟨cc, hc⟩
        · exact hIk q hq
        · exact hOk q ⟨id', bl, cc, hb', hc⟩
      · have y1 : (st3.sg.del st.nx).get i = some b' := x1
        have y2 : (st3.sg.del st.nx).get j' = some b'' := x2
        rw [Sig.get_del] at y1 y2
        split at y1
        · cases y1
        · split at y2
          · cases y2
          · exact k1.mem.inj i j' b' b'' q cc cc' y1 y2 x3 x4
      · rw [World.putObj_size]; exact k1.mem.lt q hq
      · rw [World.putObj_size]; exact hall.size
      · rw [World.putObj_heap_other (by have := h1.size; omega)]; exact hall.block q hq hnq
      · exact (k1.den s1.mem (s01.den hm1 (h3 t))).keep hIk (fun _ h => h) (fun _ _ h => h)
      · obtain ⟨⟨Ds, d1, d2, d3⟩, d4⟩ := hdd
        have ne : ∀ q (o : Obj), w3.heap[q]? = some o → (∀ l, o ≠ .loop l) → q ≠ w.heap.size + 1 := by
          rintro q o hq ho rfl
          rw [p2] at hq; injection hq with hq; exact ho _ hq.symm
        refine ⟨⟨Ds, d1, d2, fun D hD => ?_⟩, fun p hp => ?_⟩
        · obtain ⟨z1, z2, z3, z4⟩ := d3 D hD
          refine ⟨z1, ?_, z3, fun hh => z4 (hno D hh).2⟩
          rw [World.putObj_heap_other (ne D _ z2 (fun l e => by cases e))]; exact z2
        · obtain ⟨z1, z2, z3⟩ := d4 p hp
          refine ⟨?_, z2, fun hh => z3 (hno _ hh).2⟩
          rw [World.putObj_heap_other]
          · exact z1
          · intro e5
            exact z3 ⟨st.nx, _, 0, g1, by rw [e5]; exact p1⟩
    generalize w3.putObj (w.heap.size + 1) (.loop { r3 with state := .exhausted }) = w4 at back ⊢
    rw [p4.pending]
    match j, g2 with
    | none, g2 => exact ⟨_, g2, back⟩
    | some .ret, g2 => exact wpIn_ret ⟨_, g2, back⟩
    | some (.exit q), g2 => exact wpIn_exit ⟨_, g2, back⟩
  cases ex with
  | normal => exact key hq
  | ret => exact key hq
  | _ => exact hq.elim
theorem callee_fn {w : World} {I : Nat → Prop} {β : Bet} {k : Nat} {caps : List V} {x : Value} (h : Den w I β (.fn k caps) x) : ∃ cv : List Value, x = .func (.func k) #[] cv.toArray ∧ DenL w I β caps cv := by
  obtain ⟨k', caps', ⟨rfl, rfl⟩, e2⟩ := callee_den (w := w) (I := I) (β := β) (x := x) (v := .fn k caps) (K := fun a b => a = k ∧ b = caps) ⟨rfl, rfl⟩
  exact e2 h
theorem callee_d {w : World} {I : Nat → Prop} {β : Bet} {k : Nat} {caps : List D} {x : Value} (h : Den w I β (.d (.fn k caps)) x) : ∃ cv : List Value, x = .func (.func k) #[] cv.toArray ∧ DenL w I β (caps.map .d) cv := by
  obtain ⟨k', caps', ⟨rfl, rfl⟩, e2⟩ := callee_den (w := w) (I := I) (β := β) (x := x) (v := .d (.fn k caps)) (K := fun a b => a = k ∧ b = caps.map .d) ⟨rfl, rfl⟩
  exact e2 h
end
end Go.Proofs.YtlnimbnihbcnpaaGreatDoor
/- Functions whose result is one of some: the logic told with 'there is'. -/
set_option linter.unusedVariables false
namespace Go.Proofs.YtlnimbnihbcnpaaGreatDoor

/-- What asks something of one thing alone. -/
def Pt {α : Type} (W : (α → Prop) → Prop) : Prop := ∀ K, W K → ∃ x, K x ∧ ∀ K' : α → Prop, K' x → W K'
def Pt2 {α β : Type} (W : (α → β → Prop) → Prop) : Prop := ∀ K, W K → ∃ x y, K x y ∧ ∀ K' : α → β → Prop, K' x y → W K'
section
variable {α β γ δ : Type}
theorem Pt.at (x : α) : Pt fun K : α → Prop => K x := fun _ h => ⟨x, h, fun _ h => h⟩
theorem Pt2.at (x : α) (y : β) : Pt2 fun K : α → β → Prop => K x y := fun _ h => ⟨x, y, h, fun _ h => h⟩
theorem Pt.no : Pt fun _ : α → Prop => False := fun _ h => h.elim
theorem Pt2.no : Pt2 fun _ : α → β → Prop => False := fun _ h => h.elim
theorem Pt.bind {W : (α → Prop) → Prop} (h : Pt W) {V : α → (β → Prop) → Prop} (k : ∀ x, Pt (V x)) : Pt fun K => W fun x => V x K := fun K hW => by
  obtain ⟨x, hx, h1⟩ := h _ hW
  obtain ⟨y, hy, h2⟩ := k x _ hx
  exact ⟨y, hy, fun K' hK => h1 _ (h2 _ hK)⟩
theorem Pt.bind2 {W : (α → Prop) → Prop} (h : Pt W) {V : α → (β → γ → Prop) → Prop} (k : ∀ x, Pt2 (V x)) : Pt2 fun K => W fun x => V x K := fun K hW => by
  obtain ⟨x, hx, h1⟩ := h _ hW
  obtain ⟨y, z, hy, h2⟩ := k x _ hx
  exact ⟨y, z, hy, fun K' hK => h1 _ (h2 _ hK)⟩
theorem Pt2.bind {W : (α → β → Prop) → Prop} (h : Pt2 W) {V : α → β → (γ → δ → Prop) → Prop} (k : ∀ x y, Pt2 (V x y)) : Pt2 fun K => W fun x y => V x y K := fun K hW => by
  obtain ⟨x, y, hx, h1⟩ := h _ hW
  obtain ⟨z, t, hz, h2⟩ := k x y _ hx
  exact ⟨z, t, hz, fun K' hK => h1 _ (h2 _ hK)⟩
theorem Pt.and {W : (α → Prop) → Prop} (p : Prop) (h : Pt W) : Pt fun K => p ∧ W K := fun K ⟨hp, hW⟩ => by
  obtain ⟨x, hx, h1⟩ := h _ hW
  exact ⟨x, hx, fun K' hK => ⟨hp, h1 _ hK⟩⟩
theorem Pt2.and {W : (α → β → Prop) → Prop} (p : Prop) (h : Pt2 W) : Pt2 fun K => p ∧ W K := fun K ⟨hp, hW⟩ => by
  obtain ⟨x, y, hx, h1⟩ := h _ hW
  exact ⟨x, y, hx, fun K' hK => ⟨hp, h1 _ hK⟩⟩
theorem Pt2.or {W V : (α → β → Prop) → Prop} (h : Pt2 W) (k : Pt2 V) : Pt2 fun K => W K ∨ V K := fun K hW => by
  rcases hW with hW | hW
  · obtain ⟨x, y, hx, h1⟩ := h _ hW
    exact ⟨x, y, hx, fun K' hK => .inl (h1 _ hK)⟩
  · obtain ⟨x, y, hx, h1⟩ := k _ hW
    exact ⟨x, y, hx, fun K' hK => .inr (h1 _ hK)⟩
theorem Pt.br (b : Bool) {W V : (α → Prop) → Prop} (h : Pt W) (k : Pt V) : Pt fun K => brW b (W K) (V K) := fun K hW => by
  cases b with
  | true => obtain ⟨x, hx, h1⟩ := h _ (hW.1 rfl); exact ⟨x, hx, fun K' hK => ⟨fun _ => h1 _ hK, fun h => (by cases h)⟩⟩
  | false => obtain ⟨x, hx, h1⟩ := k _ (hW.2 rfl); exact ⟨x, hx, fun K' hK => ⟨fun h => (by cases h), fun _ => h1 _ hK⟩⟩
theorem Pt2.br (b : Bool) {W V : (α → β → Prop) → Prop} (h : Pt2 W) (k : Pt2 V) : Pt2 fun K => brW b (W K) (V K) := fun K hW => by
  cases b with
  | true => obtain ⟨x, y, hx, h1⟩ := h _ (hW.1 rfl); exact ⟨x, y, hx, fun K' hK => ⟨fun _ => h1 _ hK, fun h => (by cases h)⟩⟩
  | false => obtain ⟨x, y, hx, h1⟩ := k _ (hW.2 rfl); exact ⟨x, y, hx, fun K' hK => ⟨fun h => (by cases h), fun _ => h1 _ hK⟩⟩
theorem Pt.opt (o : Option α) : Pt fun K : α → Prop => optW o K := by
  cases o with
  | none => exact Pt.no
  | some x => exact Pt.at x
theorem Pt.elem (k : Nat) (es : List D) (i j : Nat) (x : Nat × Bool) : Pt fun K => elemW k es i j x K := fun K h => by
  obtain ⟨e, y, h1, h2, h3⟩ := elemW_sound h
  exact ⟨_, h3, fun K' hK => ⟨h.1, fun e' he => by rw [h1] at he; cases he; rw [h2]; exact hK⟩⟩
theorem Pt.cell (b : Blk) : Pt fun K : List V → Prop => cellW b K := by
  cases b <;> first | exact Pt.at _ | exact Pt.no
theorem Pt.load (P : Program) (t : Nat) (a : V) (σ : Sig) : Pt fun K => loadV P t a σ K := by
  refine (Pt.opt (ldT P t)).bind fun x => ?_
  split
  · exact Pt.elem _ _ _ _ _
  · exact (Pt.opt _).bind fun b => (Pt.cell b).bind fun cs => Pt.opt _
  · refine (Pt.opt _).bind fun b => ?_
    cases b with
    | row k es ty => exact Pt.and _ (Pt.elem _ _ _ _ _)
    | _ => exact Pt.no
  · exact Pt.no
theorem Pt.pick (c a b : V) : Pt fun K => pickW c a b K := by
  unfold pickW
  split
  · exact Pt.br _ (Pt.at _) (Pt.at _)
  · exact Pt.no
theorem Pt2.next (x : V) (σ : Sig) : Pt2 fun K => nextW x σ K := by
  unfold nextW
  split
  · refine (Pt.opt _).bind2 fun b => ?_
    cases b with
    | iter s pos => exact Pt2.br _ (Pt2.at _ _) (Pt2.at _ _)
    | _ => exact Pt2.no
  · exact Pt2.no
theorem Pt2.call (P : Program) (G : Gl) (f : Nat) (args : List V) (σ : Sig) (id : Nat) : Pt2 fun K => CallW P G f args σ id K := fun K ⟨v, σ', h, k⟩ => ⟨v, σ', h, fun K' hK => ⟨v, σ', hK, k⟩⟩
theorem Pt2.dcall (P : Program) (G : Gl) (f : Nat) (args : List V) (σ : Sig) (id : Nat) : Pt2 fun K => DCallW P G f args σ id K := fun K ⟨v, σ', h, k⟩ => ⟨v, σ', h, fun K' hK => ⟨v, σ', hK, k⟩⟩
theorem Pt2.yield (P : Program) (G : Gl) (f : Nat) (args : List V) (σ : Sig) (id : Nat) : Pt2 fun K => YieldW P G f args σ id K := fun K ⟨v, σ', h, k⟩ => ⟨v, σ', h, fun K' hK => ⟨v, σ', hK, k⟩⟩
theorem Pt2.res (op : Op) (r : PVS) : Pt2 fun K => resQ op r K := by
  cases r with
  | none => exact Pt2.no
  | some x => exact Pt2.and _ (Pt2.at _ _)
theorem Pt2.callee (v : V) {K : Nat → List V → (α → β → Prop) → Prop} {Y : Nat → (α → β → Prop) → Prop} {B : Nat → List V → (α → β → Prop) → Prop} (h : ∀ k l, Pt2 (K k l)) (hy : ∀ i, Pt2 (Y i)) (hb : ∀ k l, Pt2 (B k l)) :
    Pt2 fun X => calleeW v (fun k l => K k l X) (fun i => Y i X) fun k l => B k l X := by
  unfold calleeW
  split
  · exact h _ _
  · exact h _ _
  · exact hy _
  · exact hb _ _
  · exact Pt2.no
variable {P : Program} {G : Gl}
theorem Pt2.step (op : Op) (g : Operand → V) (σ : Sig) (id : Nat) : Pt2 fun K => stepW P G op g σ id K := by
  unfold stepW
  split
  · exact (Pt.pick _ _ _).bind2 fun v => Pt2.at v σ
  · exact (Pt.load _ _ _ _).bind2 fun v => Pt2.at v σ
  · split
    · exact Pt2.next _ _
    · exact Pt2.no
  · split
    · exact Pt2.callee _ (fun _ _ => Pt2.call _ _ _ _ _ _) (fun _ => Pt2.yield _ _ _ _ _ _) fun _ _ => Pt2.call _ _ _ _ _ _
    · exact Pt2.res _ _
    · exact Pt2.no
  · exact Pt2.res _ _
theorem Pt2.quiet (op : Op) (g : Operand → V) (σ : Sig) (id : Nat) : Pt2 fun K => quietW P G op g σ id K := by
  unfold quietW
  split
  · exact (Pt.pick _ _ _).bind2 fun v => Pt2.at v []
  · exact (Pt.load _ _ _ _).bind2 fun v => Pt2.at v []
  · split
    · exact Pt2.callee _ (fun _ _ => Pt2.dcall _ _ _ _ _ _) (fun _ => Pt2.no) fun _ _ => Pt2.dcall _ _ _ _ _ _
    · exact Pt2.res _ _
    · exact Pt2.no
  · exact Pt2.res _ _
theorem Pt2.guard (ops : Array Oper) (o : Oper) (e : Env) {Y N : Env → (α → β → Prop) → Prop} (h : ∀ e, Pt2 (Y e)) (k : ∀ e, Pt2 (N e)) : Pt2 fun K => guardW ops o e (fun e => Y e K) fun e => N e K := by
  unfold guardW
  split
  · exact h _
  · refine (Pt.opt _).bind2 fun d => ?_
    unfold grdW
    split
    · refine Pt2.br _ ?_ ?_ <;> split <;> first | exact h _ | exact k _
    · exact k _
    · exact Pt2.no
theorem Pt2.ops (ops : Array Oper) (base : Nat) : ∀ (l : List Oper) (i : Nat) (e : Env) (σ : Sig), Pt2 fun K => opsW P G ops base i l e σ K
  | [], _, e, σ => Pt2.at e σ
  | o :: r, i, e, σ => Pt2.guard _ _ _ (fun e => (Pt2.step _ _ _ _).bind fun v σ' => Pt2.ops ops base r _ _ _) fun e => Pt2.ops ops base r _ _ _
theorem Pt2.sb (σk σ : Sig) {W : (α → β → Prop) → Prop} (h : Pt2 W) : Pt2 fun K => sbW σk σ (W K) := by
  cases σk with
  | nil => exact h
  | cons x r => exact Pt2.and _ h
theorem Pt2.opsL (lo : List Nat) (σk : Sig) (ops : Array Oper) (base : Nat) : ∀ (l : List Oper) (i : Nat) (e : Env) (σ acc : Sig), Pt2 fun K => opsL P G lo σk ops base i l e σ acc K
  | [], _, e, σ, acc => Pt2.at e (σ ++ acc)
  | o :: r, i, e, σ, acc => Pt2.guard _ _ _ (fun e => by
      split
      · exact (Pt2.step _ _ _ _).bind fun v σ' => Pt2.sb _ _ (Pt2.opsL lo σk ops base r _ _ _ _)
      · split
        · unfold vcallD
          split
          · split
            · exact Pt2.callee _ (fun _ _ => Pt2.or ((Pt2.dcall _ _ _ _ _ _).bind fun v new => Pt2.opsL lo σk ops base r _ _ _ _) (Pt2.and _ ((Pt2.call _ _ _ _ _ _).bind fun v σ' => Pt2.sb _ _ (Pt2.opsL lo σk ops base r _ _ _ _))))
                (fun _ => Pt2.and _ ((Pt2.yield _ _ _ _ _ _).bind fun v σ' => Pt2.sb _ _ (Pt2.opsL lo σk ops base r _ _ _ _)))
                fun _ _ => Pt2.or ((Pt2.dcall _ _ _ _ _ _).bind fun v new => Pt2.opsL lo σk ops base r _ _ _ _) (Pt2.and _ ((Pt2.call _ _ _ _ _ _).bind fun v σ' => Pt2.sb _ _ (Pt2.opsL lo σk ops base r _ _ _ _)))
            · exact Pt2.no
          · exact Pt2.no
        · split
          · exact (Pt2.quiet _ _ _ _).bind fun v new => Pt2.and _ (Pt2.opsL lo σk ops base r _ _ _ _)
          · exact (Pt2.quiet _ _ _ _).bind fun v new => Pt2.opsL lo σk ops base r _ _ _ _) fun e => Pt2.opsL lo σk ops base r _ _ _ _
theorem Pt.reg (lv : List Nat) (ops : Array Oper) (draw : Bool) (st : St) : Pt fun K => regW P G lv ops draw K st := by
  intro K h
  cases draw with
  | true =>
    simp only [regW, if_true] at h
    obtain ⟨lo, σk, h1, h2, h3, h4⟩ := h
    obtain ⟨e, σ, hK, hall⟩ := Pt2.opsL lo σk ops st.nx ops.toList 0 st.env st.sg [] (fun e σ => K ⟨Env.keep lv e, σ, st.nx + 4 * ops.size⟩) h4
    exact ⟨_, hK, fun K' hK' => by simp only [regW, if_true]; exact ⟨lo, σk, h1, h2, h3, hall (fun e σ => K' ⟨Env.keep lv e, σ, st.nx + 4 * ops.size⟩) hK'⟩⟩
  | false =>
    simp only [regW, Bool.false_eq_true, if_false] at h
    obtain ⟨e, σ, hK, hall⟩ := Pt2.ops ops st.nx ops.toList 0 st.env st.sg (fun e σ => K ⟨Env.keep lv e, σ, st.nx + 4 * ops.size⟩) h
    exact ⟨_, hK, fun K' hK' => by simp only [regW, Bool.false_eq_true, if_false]; exact hall (fun e σ => K' ⟨Env.keep lv e, σ, st.nx + 4 * ops.size⟩) hK'⟩
theorem Pt.gh (G : Gl) (m : Nat) {W : St → (α → Prop) → Prop} (h : ∀ st, Pt (W st)) (st : St) : Pt fun K => GhW G m (fun st => W st K) st := fun K ⟨s, h1, h2⟩ => by
  obtain ⟨x, hx, hall⟩ := h s K h2
  exact ⟨x, hx, fun K' hK => ⟨s, h1, hall K' hK⟩⟩
end

/-! ### Code. -/
/-- A loop, by a family of states. -/
def LoopE (G : Gl) (m : Nat) (B : List Nat → St → (Exit → St → Prop) → Prop) (st : St) (Q : Exit → St → Prop) (_u : Tag B := .mk) (_v : Tag Q := .mk) (_h : True := trivial) : Prop :=
  ∃ (α : Type) (S : α → St) (pre : α → Prop) (mu : α → Nat) (x0 : α) (lv : List Nat), GhW G m (fun st' => st' = S x0) st ∧ pre x0 ∧ ∀ x, pre x → B lv (S x) (seqK (fun st => AgW G m S pre mu x st) Q)
def codeE (P : Program) (G : Gl) (n m : Nat) : Code → List Nat → St → (Exit → St → Prop) → Prop
  | .skip, _, st, Q => Q .normal st
  | .region _ ops draw, lv, st, Q => GhW G m (regW P G lv ops draw fun st' => Q .normal st') st
  | .seq a b, lv, st, Q => codeE P G n m a lv st (seqK (fun st' => codeE P G n m b lv st' Q) Q)
  | .cond c a b, lv, st, Q => condW (evF G st.env.get c) (codeE P G n m a lv st Q) (codeE P G n m b lv st Q)
  | .block id c, lv, st, Q => codeE P G n m c lv st (blockK id Q)
  | .loop c, _, st, Q => LoopE G m (fun lv st Q => codeE P G n m c lv st Q) st Q
  | .exit id, _, st, Q => Q (.exit id) st
  | .ret, _, st, Q => Q .ret st
  | .label _, _, st, Q => Q .normal st
  | .scope c, lv, st, Q => codeE P G n m c lv st (scopeK Q)
  | _, _, _, _ => False
section
variable {P : Program} {G : Gl} {n m : Nat}
/-- A loop whose round is ahead. -/
def LoopI (P : Program) (G : Gl) (n m : Nat) (c : Code) (st : St) (Q : Exit → St → Prop) : Prop := ∀ fr, (fr = none ∨ noR c = true) → ∀ (C : Ctx) a w, C.n = n → C.nx = m → Rel C G st a w →
  ∀ (b : Frame) (kk : List Item) (cs : List Frame), b.roundOf = (Fr fr).round → (Fr fr).fn b.fn → (Fr fr).room (cs.length + 1 + 0) →
    ∃ e a' w', (∃ st', Q e st' ∧ Rel C G st' a' w') ∧ ArrivesIn (Machine.fenced P (Fr fr)) P (lone (b.atR a (.code c :: .inLoop c :: kk)) cs w) b kk cs e a' w'
theorem LoopI.loop {c : Code} {st : St} {Q : Exit → St → Prop} (h : LoopI P G n m c st Q) : LoopW P G n m c st Q := by
  intro fr hfr C a w hn hm hrel b kk cs hro hb hroom
  obtain ⟨e, a', w', hq, harr⟩ := h fr hfr C a w hn hm hrel b kk cs hro hb hroom
  exact ⟨e, a', w', hq, .of_steps (.one (fenced_calm hb hroom rfl) stepR_loop) harr⟩
theorem LoopI.via {c : Code} {st : St} {Q : Exit → St → Prop} (h : GhW G m (fun s => LoopI P G n m c s Q) st) : LoopI P G n m c st Q := by
  obtain ⟨s, h1, h2⟩ := h
  exact fun fr hfr C a w hn hm hr => h2 fr hfr C a w hn hm (h1 C a w hm hr)
theorem LoopI.round (ho : P.follows .mixedOrders = true) {c : Code} (hok : codeOk n c = true) {lv : List Nat} {st : St} {Q : Exit → St → Prop} (h : codeW P G n m lv c st (seqK (fun s => LoopI P G n m c s Q) Q)) : LoopI P G n m c st Q := by
  intro fr hfr C a w hn hm hr b kk cs hro hb hroom
  obtain ⟨e, a', w', ⟨st', hq, hr2⟩, harr⟩ := codeW_sound ho c st _ hok h fr hfr C a w hn hm hr b (.inLoop c :: kk) cs hro hb hroom
  cases e with
  | normal =>
    obtain ⟨e2, a2, w2, hq2, harr2⟩ := hq fr hfr C a' w' hn hm hr2 b kk cs hro hb hroom
    exact ⟨e2, a2, w2, hq2, .of_steps (StepsIn.trans harr (.one (fenced_calm hb hroom rfl) stepR_inLoop)) harr2⟩
  | exit id => exact ⟨_, a', w', ⟨st', hq, hr2⟩, .pass (x := .inLoop c) rfl (fun _ _ => .inl (by simp)) harr⟩
  | goto l => exact ⟨_, a', w', ⟨st', hq, hr2⟩, .pass (x := .inLoop c) rfl (fun _ _ => .inl (by simp)) harr⟩
  | ret => exact ⟨_, a', w', ⟨st', hq, hr2⟩, .pass (x := .inLoop c) rfl (fun _ _ => .inl (by simp)) harr⟩
  | panic ch => exact ⟨_, a', w', ⟨st', hq, hr2⟩, .pass (x := .inLoop c) rfl (fun _ _ => .inl (by simp)) harr⟩
  | outgrown => exact ⟨_, a', w', ⟨st', hq, hr2⟩, .pass (x := .inLoop c) rfl (fun _ _ => .inl (by simp)) harr⟩
theorem seqK_mono {k k' : St → Prop} {Q Q' : Exit → St → Prop} (hk : ∀ s, k s → k' s) (hq : ∀ e s, Q e s → Q' e s) : ∀ e s, seqK k Q e s → seqK k' Q' e s := by
  intro e s h
  cases e <;> first | exact hk _ h | exact hq _ _ h
theorem blockK_mono {id : Nat} {Q Q' : Exit → St → Prop} (hq : ∀ e s, Q e s → Q' e s) : ∀ e s, blockK id Q e s → blockK id Q' e s := by
  intro e s h
  cases e with
  | exit i =>
    simp only [blockK] at h ⊢
    split
    · rename_i hi; rw [if_pos hi] at h; exact hq _ _ h
    · rename_i hi; rw [if_neg hi] at h; exact hq _ _ h
  | _ => exact hq _ _ h
theorem scopeK_mono {Q Q' : Exit → St → Prop} (hq : ∀ e s, Q e s → Q' e s) : ∀ e s, scopeK Q e s → scopeK Q' e s := by
  intro e s h
  cases e <;> first | exact h.elim | exact hq _ _ h
theorem codeE_mono : ∀ (c : Code) {lv : List Nat} {st : St} {Q Q' : Exit → St → Prop}, (∀ e s, Q e s → Q' e s) → codeE P G n m c lv st Q → codeE P G n m c lv st Q' := by
  intro c
  induction c with
  | skip => intro lv st Q Q' hq h; exact hq _ _ h
  | exit id => intro lv st Q Q' hq h; exact hq _ _ h
  | ret => intro lv st Q Q' hq h; exact hq _ _ h
  | label l => intro lv st Q Q' hq h; exact hq _ _ h
  | region id ops draw =>
    intro lv st Q Q' hq h
    obtain ⟨x, hx, hall⟩ := Pt.gh G m (fun s => Pt.reg (P := P) (G := G) lv ops draw s) st _ h
    exact hall _ (hq _ _ hx)
  | seq a b iha ihb => intro lv st Q Q' hq h; exact iha (seqK_mono (fun s hs => ihb hq hs) hq) h
  | cond c a b iha ihb =>
    intro lv st Q Q' hq h
    simp only [codeE, condW] at h ⊢
    unfold boolW at h ⊢
    split
    · rename_i t hb
      rw [hb] at h
      exact ⟨fun e => iha hq (h.1 e), fun e => ihb hq (h.2 e)⟩
    · rename_i hb
      split at h
      · rename_i t hb'; exact (hb t hb').elim
      · exact h.elim
  | block id c ih => intro lv st Q Q' hq h; exact ih (blockK_mono hq) h
  | scope c ih => intro lv st Q Q' hq h; exact ih (scopeK_mono hq) h
  | loop c ih =>
    intro lv st Q Q' hq h
    obtain ⟨α, S, pre, mu, x0, lv', h1, h2, h3⟩ := h
    exact ⟨α, S, pre, mu, x0, lv', h1, h2, fun x hx => ih (seqK_mono (fun _ h => h) hq) (h3 x hx)⟩
  | _ => intro lv st Q Q' hq h; exact h.elim
theorem codeE_ex (ho : P.follows .mixedOrders = true) {ρ : Type} : ∀ (c : Code) {lv : List Nat} {st : St} {Q : ρ → Exit → St → Prop}, codeOk n c = true → codeE P G n m c lv st (fun e s => ∃ r, Q r e s) → ∃ r, codeW P G n m lv c st (Q r) := by
  intro c
  induction c with
  | skip => intro lv st Q _ h; exact h
  | exit id => intro lv st Q _ h; exact h
  | ret => intro lv st Q _ h; exact h
  | label l => intro lv st Q _ h; exact h
  | region id ops draw =>
    intro lv st Q _ h
    obtain ⟨x, ⟨r, hx⟩, hall⟩ := Pt.gh G m (fun s => Pt.reg (P := P) (G := G) lv ops draw s) st (fun st' => ∃ r, Q r .normal st') h
    exact ⟨r, hall (fun st' => Q r .normal st') hx⟩
  | seq a b iha ihb =>
    intro lv st Q hok h
    simp only [codeOk, Bool.and_eq_true] at hok
    refine iha (Q := fun r => seqK (fun st' => codeW P G n m lv b st' (Q r)) (Q r)) hok.1 (codeE_mono a ?_ h)
    intro e s hs
    cases e <;> first | exact ihb hok.2 hs | exact hs
  | cond c a b iha ihb =>
    intro lv st Q hok h
    simp only [codeOk, Bool.and_eq_true] at hok
    simp only [codeE, condW] at h
    simp only [codeW, condW]
    unfold boolW at h
    split at h
    · rename_i t hb
      rw [hb]
      cases t with
      | true => obtain ⟨r, hr⟩ := iha hok.1 (h.1 rfl); exact ⟨r, ⟨fun _ => hr, fun e => by cases e⟩⟩
      | false => obtain ⟨r, hr⟩ := ihb hok.2 (h.2 rfl); exact ⟨r, ⟨fun e => (by cases e), fun _ => hr⟩⟩
    · exact h.elim
  | block id c ih =>
    intro lv st Q hok h
    refine ih (Q := fun r => blockK id (Q r)) hok (codeE_mono c ?_ h)
    intro e s hs
    cases e with
    | exit i =>
      simp only [blockK] at hs ⊢
      split
      · rename_i hi; rw [if_pos hi] at hs; exact hs
      · rename_i hi; rw [if_neg hi] at hs; exact hs
    | _ => exact hs
  | scope c ih =>
    intro lv st Q hok h
    refine ih (Q := fun r => scopeK (Q r)) hok (codeE_mono c ?_ h)
    intro e s hs
    cases e <;> first | exact hs.elim | exact hs
  | loop c ih =>
    intro lv st Q hok h
    have hok : codeOk n c = true := hok
    obtain ⟨α, S, pre, mu, x0, lv', h1, h2, h3⟩ := h
    have key : ∀ k x, mu x = k → pre x → ∃ r, LoopI P G n m c (S x) (Q r) := by
      intro k
      induction k using Nat.strongRecOn with
      | _ k ihk =>
        intro x hk hx
        obtain ⟨r, hr⟩ := ih (Q := fun r => seqK (fun s => LoopI P G n m c s (Q r)) (Q r)) hok (codeE_mono c (fun e s hs => by
          cases e with
          | normal =>
            obtain ⟨s', hle, j, hlt, y, hy, rfl, hpy⟩ := hs
            obtain ⟨r, hr⟩ := ihk j (by omega) y hy hpy
            exact ⟨r, LoopI.via ⟨_, hle, hr⟩⟩
          | _ => exact hs) (h3 x hx))
        exact ⟨r, LoopI.round ho hok hr⟩
    obtain ⟨r, hr⟩ := key _ x0 rfl h2
    obtain ⟨s, hle, rfl⟩ := h1
    exact ⟨r, LoopI.loop (LoopI.via ⟨_, hle, hr⟩)⟩
  | _ => intro lv st Q _ h; exact h.elim
/-- What the function hands back is one of what is told. -/
def DoneE (P : Program) (G : Gl) (m : Nat) (rs : List ResultVar) {ρ : Type} (R : ρ → Prop) (r : ρ → V) (σ' : ρ → Sig) (st : St) (_u : Tag R := .mk) (_v : Tag r := .mk) (_w : Tag σ' := .mk) (_h : True := trivial) : Prop := ∃ x, R x ∧ DoneW P G m rs (r x) (σ' x) st
theorem DoneE.is {rs : List ResultVar} {ρ : Type} {R : ρ → Prop} {r : ρ → V} {σ' : ρ → Sig} {st : St} (x : ρ) (hx : R x) (h : DoneW P G m rs (r x) (σ' x) st) : DoneE P G m rs R r σ' st := ⟨x, hx, h⟩
theorem OFn.ex (ho : P.follows .mixedOrders = true) {f : Nat} {fn : Func} {c : Code} {rs : List ResultVar} (lv : List Nat) (hf : P.funcs[f]? = some fn) (hb : fn.body = some c) (hrs : fn.results = rs.toArray) (hn : fn.ntmps = n)
    {args : List V} {σ : Sig} {ρ : Type} {R : ρ → Prop} {r : ρ → V} {σ' : ρ → Sig} (h : codeE P G n m c lv ⟨argE 0 args, σ, m⟩ (retK (DoneE P G m rs R r σ'))) (hok : codeOk n c = true) (hlen : args.length ≤ n) : ∃ x, R x ∧ OFn P G f args σ m (r x) (σ' x) := by
  obtain ⟨⟨x, hx⟩, hr⟩ := codeE_ex ho (ρ := { x // R x }) (Q := fun x => retK (DoneW P G m rs (r x.1) (σ' x.1))) c hok (codeE_mono c (fun e s hs => by
    cases e <;> first | exact hs.elim | exact (match hs with | ⟨x, h1, h2⟩ => ⟨⟨x, h1⟩, h2⟩)) h)
  exact ⟨x, hx, OFn.of_code ho lv hf hb hrs hn hok hlen hr⟩
/-! ### Ways that come together. -/
/-- What is begun with is told anew as one likes. -/
def headOk : Code → Bool
  | .region _ _ _ => true
  | .seq a _ => headOk a
  | .block _ c => headOk c
  | .loop _ => true
  | .scope c => headOk c
  | _ => false
theorem codeE_via {st st' : St} (hle : StLe G m st st') : ∀ (c : Code) {lv : List Nat} {Q : Exit → St → Prop}, headOk c = true → codeE P G n m c lv st' Q → codeE P G n m c lv st Q := by
  intro c
  induction c with
  | region id ops draw => intro lv Q _ h; exact GhW.via hle h
  | seq a b iha _ => intro lv Q hc h; exact iha hc h
  | block id c ih => intro lv Q hc h; exact ih hc h
  | scope c ih => intro lv Q hc h; exact ih hc h
  | loop c _ =>
    intro lv Q _ h
    obtain ⟨α, S, pre, mu, x0, lv', h1, h2, h3⟩ := h
    exact ⟨α, S, pre, mu, x0, lv', GhW.via hle h1, h2, h3⟩
  | _ => intro lv Q hc h; cases hc
/-- A state of a family, of which something holds. -/
def ExW (G : Gl) (m : Nat) {β : Type} (T : β → St) (post : β → Prop) (st : St) (_u : Tag T := .mk) (_v : Tag post := .mk) (_h : True := trivial) : Prop := GhW G m (fun st' => ∃ y, st' = T y ∧ post y) st
theorem ExW.go {β : Type} {T : β → St} {post : β → Prop} {st : St} (y : β) (ks : List Nat) (he : st.norm m ks = T y) (hp : post y) : ExW G m T post st := GhW.go ks he ⟨y, rfl, hp⟩
theorem ExW.frz {β : Type} {T : β → St} {post : β → Prop} {st : St} (id : Nat) (h : ExW G m T post (st.frz id)) : ExW G m T post st := GhW.frz id h
theorem ExW.use {β : Type} {T : β → St} {post : β → Prop} {st : St} {c : Code} {lv : List Nat} {Q : Exit → St → Prop} (hc : headOk c = true) (h : ExW G m T post st) (hq : ∀ y, post y → codeE P G n m c lv (T y) Q) : codeE P G n m c lv st Q := by
  obtain ⟨st', hle, y, rfl, hy⟩ := h
  exact codeE_via hle c hc (hq y hy)
/-- A loop behind which a family of states is told. -/
theorem vLX {c rest : Code} {st : St} {Q Q' : Exit → St → Prop} {α β : Type} {lv' : List Nat} (lv : List Nat) (ex : Nat) (S : α → St) (pre : α → Prop) (mu : α → Nat) (x0 : α) (T : β → St) (post : β → Prop) (h0 : GhW G m (fun st' => st' = S x0) st) (hp : pre x0)
    (hr : ∀ x, pre x → codeE P G n m c lv (S x) (seqK (fun st => AgW G m S pre mu x st) (blockK ex (seqK (fun st => ExW G m T post st) Q)))) (hq : ∀ y, post y → codeE P G n m rest lv' (T y) Q')
    (hQ : ∀ st, codeE P G n m rest lv' st Q' → Q (.exit ex) st) (hd : headOk rest = true) : LoopE G m (fun lv st Q => codeE P G n m c lv st Q) st Q := by
  refine ⟨α, S, pre, mu, x0, lv, h0, hp, fun x hx => codeE_mono c ?_ (hr x hx)⟩
  intro e s h
  cases e with
  | normal => exact h
  | exit i =>
    have h2 : blockK ex (seqK (fun st => ExW G m T post st) Q) (.exit i) s := h
    show Q (.exit i) s
    clear h
    simp only [blockK] at h2
    split at h2
    · rename_i hi; subst hi; exact hQ s (ExW.use hd h2 hq)
    · exact h2
  | _ => exact h
/-- What is left for later. -/
def HoldW (K : St → Prop) (st : St) (_u : Tag K := .mk) (_h : True := trivial) : Prop := K st
theorem vH {K : St → Prop} {st : St} (h : K st) : HoldW K st := h
theorem vSh {a b : Code} {lv : List Nat} {st : St} {Q : Exit → St → Prop} (h : codeE P G n m a lv st (seqK (fun st' => HoldW (fun st' => codeE P G n m b lv st' Q) st') Q)) : codeE P G n m (.seq a b) lv st Q := h
theorem vBl {id : Nat} {c : Code} {lv : List Nat} {st : St} {Q : Exit → St → Prop} (h : codeE P G n m c lv st (blockK id Q)) : codeE P G n m (.block id c) lv st Q := h
/-- Ways that come together ahead of b. -/
theorem vSq {a b : Code} {lv : List Nat} {st : St} {Q : Exit → St → Prop} {β : Type} (T : β → St) (post : β → Prop) (h : codeE P G n m a lv st (seqK (fun st => ExW G m T post st) Q)) (hq : ∀ y, post y → codeE P G n m b lv (T y) Q) (hd : headOk b = true := by rfl) : codeE P G n m (.seq a b) lv st Q :=
  codeE_mono a (seqK_mono (fun _ h => ExW.use hd h hq) fun _ _ h => h) h
end
end Go.Proofs.YtlnimbnihbcnpaaGreatDoor
/- The rules that run the abstract code, bundled; its steps, each as one word. -/
set_option linter.unusedSimpArgs false
set_option linter.defProp false
set_option maxRecDepth 8000
namespace Go.Proofs.YtlnimbnihbcnpaaGreatDoor

def RR := @And.intro _ _ @ndW_true <| @And.intro _ _ @brM_true <| @And.intro _ _ @brM_false <| @And.intro _ _ @dstL_zero <| @And.intro _ _ @dstL_succ <| @And.intro _ _ @brW_true <| @And.intro _ _ @brW_false <| @And.intro _ _ @optW_some <| @And.intro _ _ @elW_zero <| @And.intro _ _ @elW_succ <| @And.intro _ _ @elW_map <| @And.intro _ _ @boolW_lit <| @And.intro _ _ @grdW_lit <| @And.intro _ _ @grdW_skip <| @And.intro _ _ @condW_lit <| @And.intro _ _ @pickW_lit <| @And.intro _ _ @calleeW_fn <| @And.intro _ _ @calleeW_d <| @And.intro _ _ @calleeW_bf <| @And.intro _ _ @cellW_cell <| @And.intro _ _ @rowW_row <| @And.intro _ _ @iterW_iter <| @And.intro _ _ @seqK_normal <| @And.intro _ _ @seqK_exit <| @And.intro _ _ @seqK_ret <| @And.intro _ _ @blockK_normal <| @And.intro _ _ @blockK_ret <| @And.intro _ _ @blockK_exit <| @And.intro _ _ @scopeK_normal <| @And.intro _ _ @scopeK_exit <| @And.intro _ _ @scopeK_ret <| @And.intro _ _ @retK_normal <| @And.intro _ _ @retK_ret <| @And.intro _ _ @loadV_pd <| @And.intro _ _ @loadV_po <| @And.intro _ _ @loadV_pe <| @And.intro _ _ @elemW.eq_1 <| @And.intro _ _ @evF_tmp <| @And.intro _ _ @evF_const <| @And.intro _ _ @evF_func <| @And.intro _ _ @guard_none <| @And.intro _ _ @guard_true <| @And.intro _ _ @guard_false <| @And.intro _ _ @codeW.eq_1 <| @And.intro _ _ @codeW.eq_2 <| @And.intro _ _ @codeW.eq_3 <| @And.intro _ _ @codeW.eq_4 <| @And.intro _ _ @codeW.eq_5 <| @And.intro _ _ @codeW.eq_6 <| @And.intro _ _ @codeW.eq_7 <| @And.intro _ _ @codeW.eq_8 <| @And.intro _ _ @codeW.eq_9 <| @And.intro _ _ @codeW.eq_10 <| @And.intro _ _ @codeE.eq_1 <| @And.intro _ _ @codeE.eq_2 <| @And.intro _ _ @codeE.eq_3 <| @And.intro _ _ @codeE.eq_4 <| @And.intro _ _ @codeE.eq_5 <| @And.intro _ _ @codeE.eq_6 <| @And.intro _ _ @codeE.eq_7 <| @And.intro _ _ @codeE.eq_8 <| @And.intro _ _ @codeE.eq_9 <| @And.intro _ _ @codeE.eq_10 <| @And.intro _ _ @regW_false <| @And.intro _ _ @opsW_nil <| @And.intro _ _ @opsW_cons <| @And.intro _ _ @opsD_nil <| @And.intro _ _ @opsD_cons <| @And.intro _ _ @pvW_some <| @And.intro _ _ @pvsW_some @vcallD_call
def W6 := @And.intro _ _ @w64 <| @And.intro _ _ @wu64 <| @And.intro _ _ @half64 @half64'
theorem w32 (n : Int) (h1 : -2147483648 ≤ n) (h2 : n ≤ 2147483647) : IntKind.i32.wrap n = n := by
  rw [IntKind.wrap_i32]; omega
theorem wu8 (n : Int) (h1 : 0 ≤ n) (h2 : n ≤ 255) : IntKind.u8.wrap n = n := by
  rw [IntKind.wrap_u8]; omega
theorem tdivE (a b : Int) (h : 0 ≤ a) : a.tdiv b = a / b := Int.tdiv_eq_ediv_of_nonneg h
theorem tmodE (a b : Int) (h : 0 ≤ a) : a.tmod b = a % b := Int.tmod_eq_emod_of_nonneg h
def W3 := @And.intro _ _ @W6 <| @And.intro _ _ @w32 <| @And.intro _ _ @wu8 <| @And.intro _ _ @tdivE @tmodE
instance BrC.cond {a b c : Bool} {p q r p' q' r' : Prop} [h : BrC a p p'] [k : BrC b q q'] [l : BrC c r r'] : BrC (cond a b c) ((p ∧ q) ∨ (p' ∧ r)) (¬ ((p ∧ q) ∨ (p' ∧ r))) := BrC.mk' (by rw [← h.says, ← h.nots, ← k.says, ← l.says]; cases a <;> simp)
/-- One run of the rules. -/
theorem vR {p q : Prop} (h : q) (e : p = q := by simp -implicitDefEqProofs -dsimp only [push_cast, ↓RR, ↓reduceIte, Nat.reduceMul, Nat.reduceAdd, Nat.reduceSub, Nat.reduceEqDiff, Nat.reduceBeqDiff, Nat.reduceLeDiff, Nat.reduceLT, reduceCtorEq, Int.reduceToNat]; exact rfl) : p := e ▸ h
theorem v6 {p q : Prop} (h : q) (e : p = q := by simp -implicitDefEqProofs -dsimp (disch := omega) only [W6]; exact rfl) : p := e ▸ h
theorem v3 {p q : Prop} (h : q) (e : p = q := by simp -implicitDefEqProofs -dsimp (disch := omega) only [W3]; exact rfl) : p := e ▸ h
theorem vD {P : Program} {G : Gl} {m : Nat} {lv : List Nat} {ops : Array Oper} {K : St → Prop} {st : St} (h : opsD P G ops st.nx 0 ops.toList st.env st.sg [] fun e σ => endW K ⟨Env.keep lv e, σ, st.nx + 4 * ops.size⟩) (hd : drawOk [] ops = true := by decide +kernel) : GhW G m (regW P G lv ops true K) st := GhW.dr hd h
theorem vG {G : Gl} {m : Nat} {K : St → Prop} {st : St} (h : K st) : GhW G m K st := GhW.now h
theorem vE {K : St → Prop} {st : St} (h : K st) : endW K st := h
/-- What has to hold on the way. -/
theorem vN {p q : Prop} (h2 : q) (h1 : p := by first | omega | (simp [allFit, Fit, appFits, V.cellOk, Value.oneCell', D.cells, isByte]; done) | (simp [allFit, Fit, appFits, V.cellOk, Value.oneCell', D.cells, isByte]; omega)) : ndW p q := ⟨h1, h2⟩
theorem vB {b : Bool} {p p' : Prop} [h : BrC b p p'] {q r : Prop} (h1 : p → q) (h2 : p' → r) : brW b q r := brW.of h1 h2
theorem vM {b : Bool} {p p' : Prop} [h : BrC b p p'] {q r : Prop} (h1 : p → q) (h2 : p' → r) : brM b q r := brM.of h1 h2
section
variable {P : Program} {G : Gl}
/-- A call: settled data handed over, and back. -/
theorem vC {f : Nat} {args : List V} {σ : Sig} {id : Nat} {K : V → Sig → Prop} {r : V} (h : OFn P G f args [] 0 r []) (hK : K r σ) (he : entT P f = true := by kernel_rfl) (ha : args.map (V.sel (fw [])) = args := by with_unfolding_all rfl) (hr : r.sel (bk [] id) = r := by with_unfolding_all rfl) : CallW P G f args σ id K := CallW.d h he ha hr hK
theorem vQ {lo : List Nat} {ops : Array Oper} {i f : Nat} {args : List V} {σ acc : Sig} {id : Nat} {K L : V → Sig → Prop} {r : V} (h : OFn P G f args [] 0 r []) (hK : K r []) (he : entT P f = true := by kernel_rfl) (ha : args.map (V.sel (fw [])) = args := by with_unfolding_all rfl) (hr : r.sel (bk [] id) = r := by with_unfolding_all rfl) : callD P G lo ops i f args σ acc id K L := callD.d h he ha hr hK
/-- A call, of either kind. -/
class CallL (p : Prop) (P : outParam Program) (G : outParam Gl) (f : outParam Nat) (args : outParam (List V)) (id : outParam Nat) (K : outParam (V → Prop)) : Prop where
  of : ∀ r, OFn P G f args [] 0 r [] → entT P f = true → args.map (V.sel (fw [])) = args → r.sel (bk [] id) = r → K r → p
instance {f : Nat} {args : List V} {σ : Sig} {id : Nat} {K : V → Sig → Prop} : CallL (CallW P G f args σ id K) P G f args id (fun r => K r σ) := ⟨fun _ h he ha hr hK => CallW.d h he ha hr hK⟩
instance {lo : List Nat} {ops : Array Oper} {i f : Nat} {args : List V} {σ acc : Sig} {id : Nat} {K L : V → Sig → Prop} : CallL (callD P G lo ops i f args σ acc id K L) P G f args id (fun r => K r []) := ⟨fun _ h he ha hr hK => callD.d h he ha hr hK⟩
theorem vA {p : Prop} {f : Nat} {args : List V} {id : Nat} {K : V → Prop} [c : CallL p P G f args id K] {r : V} (h : OFn P G f args [] 0 r []) (hK : K r) (he : entT P f = true := by kernel_rfl) (ha : args.map (V.sel (fw [])) = args := by with_unfolding_all rfl) (hr : r.sel (bk [] id) = r := by with_unfolding_all rfl) : p := c.of r h he ha hr hK
/-- A call of yield; a loop over a function. -/
theorem vY (ho : P.follows .mixedOrders = true) (lv : List Nat) {i : Nat} {args : List V} {σ : Sig} {id : Nat} {K : V → Sig → Prop} {y : Yd} {e : Env} (v : V) (σ' : Sig)
    (h : codeW P G y.n id lv y.asg ⟨fillE y.ps.toList (args.map (V.sel (ltG id))) (e.sel (ltG id)), (σ.del i).sel (ltG id), id⟩ (seqK (fun st => codeW P G y.n id lv y.body st (rndK G σ id i y e v σ')) (fun _ _ => False))) (hK : K v σ') (hg : σ.get i = some (.rc y none e) := by rfl) (hi : i < id := by decide) (hps : y.ps.toList.all (fun p => decide (p < y.n)) = true := by kernel_rfl) (hl : args.length = y.ps.size := by rfl)
    (hn1 : noR y.asg = true := by kernel_rfl) (hn2 : noR y.body = true := by kernel_rfl) (ho1 : codeOk y.n y.asg = true := by kernel_rfl) (ho2 : codeOk y.n y.body = true := by kernel_rfl) : YieldW P G i args σ id K :=
  YieldW.of ho lv hg hi hps hl hn1 hn2 ho1 ho2 h hK
theorem vRn (ho : P.follows .mixedOrders = true) {n m : Nat} {g : Operand} {ps : Array Nat} {asg body : Code} {st : St} {Q : Exit → St → Prop} {k : Nat} {caps : List V} {fn : Func} {c : Code} (lv : List Nat) (hf : P.funcs[k]? = some fn) (hb : fn.body = some c)
    (h : codeW P G fn.ntmps (st.nx + 1) lv c ⟨argE 0 (.yl st.nx :: caps), (st.nx, .rc ⟨n, ps, asg, body⟩ none st.env) :: st.sg, st.nx + 1⟩ (rngK G st Q)) (hg : evF G st.env.get g = .fn k caps := by rfl) (he : entT P k = true := by kernel_rfl) (hrs : fn.results = #[] := by rfl) (hlen : caps.length + 1 ≤ fn.ntmps := by decide) (hok : codeOk fn.ntmps c = true := by kernel_rfl) : RangeW P G n m g ps asg body st Q :=
  range_aw (fun _ _ _ _ hd => callee_fn (hg ▸ hd)) he hf hb hrs hlen (codeW_sound ho c _ _ hok h)
theorem vRd (ho : P.follows .mixedOrders = true) {n m : Nat} {g : Operand} {ps : Array Nat} {asg body : Code} {st : St} {Q : Exit → St → Prop} {k : Nat} {caps : List D} {fn : Func} {c : Code} (lv : List Nat) (hf : P.funcs[k]? = some fn) (hb : fn.body = some c)
    (h : codeW P G fn.ntmps (st.nx + 1) lv c ⟨argE 0 (.yl st.nx :: caps.map .d), (st.nx, .rc ⟨n, ps, asg, body⟩ none st.env) :: st.sg, st.nx + 1⟩ (rngK G st Q)) (hg : evF G st.env.get g = .d (.fn k caps) := by rfl) (he : entT P k = true := by kernel_rfl) (hrs : fn.results = #[] := by rfl) (hlen : (caps.map V.d).length + 1 ≤ fn.ntmps := by decide) (hok : codeOk fn.ntmps c = true := by kernel_rfl) : RangeW P G n m g ps asg body st Q :=
  range_aw (fun _ _ _ _ hd => callee_d (hg ▸ hd)) he hf hb hrs hlen (codeW_sound ho c _ _ hok h)
theorem vF (ho : P.follows .mixedOrders = true) {f : Nat} {fn : Func} {c : Code} {rs : List ResultVar} {n : Nat} (lv : List Nat) (hf : P.funcs[f]? = some fn) (hb : fn.body = some c) (hrs : fn.results = rs.toArray) (hn : fn.ntmps = n)
    {args : List V} {σ : Sig} {m : Nat} {r : V} {σ' : Sig} (h : codeW P G n m lv c ⟨argE 0 args, σ, m⟩ (retK (DoneW P G m rs r σ'))) (hok : codeOk n c = true := by kernel_rfl) (hlen : args.length ≤ n := by simp) : OFn P G f args σ m r σ' := OFn.of_code ho lv hf hb hrs hn hok hlen h
theorem vL {n m : Nat} {lv : List Nat} (ho : P.follows .mixedOrders = true) {c : Code} {st : St} {Q : Exit → St → Prop} {α : Type} (S : α → St) (pre : α → Prop) (mu : α → Nat) (x0 : α) (h0 : GhW G m (fun st' => st' = S x0) st) (hp : pre x0)
    (hr : ∀ x, pre x → codeW P G n m lv c (S x) (seqK (fun st => AgW G m S pre mu x st) Q)) (hok : codeOk n c = true := by kernel_rfl) : LoopW P G n m c st Q := loopW_go ho hok S pre mu x0 h0 hp hr
/-- A region some of whose loads (lo) look at blocks that nothing in it writes (σk). -/
theorem vW {lv : List Nat} {ops : Array Oper} {K : St → Prop} {st : St} (lo : List Nat) (σk : Sig) (hk : Sub σk st.sg) (h : opsL P G lo σk ops st.nx 0 ops.toList st.env st.sg [] fun e σ => endW K ⟨Env.keep lv e, σ, st.nx + 4 * ops.size⟩)
    (hd : drawOk lo ops = true := by decide +kernel) (hl : loOk lo 0 ops.toList = true := by decide +kernel) : regW P G lv ops true K st := ⟨lo, σk, hd, hl, hk, h⟩
/-- The same, where what is handed back is one of some. -/
theorem vFE (ho : P.follows .mixedOrders = true) {f : Nat} {fn : Func} {c : Code} {rs : List ResultVar} {n : Nat} (lv : List Nat) (hf : P.funcs[f]? = some fn) (hb : fn.body = some c) (hrs : fn.results = rs.toArray) (hn : fn.ntmps = n)
    {args : List V} {σ : Sig} {m : Nat} {ρ : Type} {R : ρ → Prop} {r : ρ → V} {σ' : ρ → Sig} (h : codeE P G n m c lv ⟨argE 0 args, σ, m⟩ (retK (DoneE P G m rs R r σ'))) (hok : codeOk n c = true := by kernel_rfl) (hlen : args.length ≤ n := by simp) : ∃ x, R x ∧ OFn P G f args σ m (r x) (σ' x) := OFn.ex ho lv hf hb hrs hn h hok hlen
theorem vLE {n m : Nat} {c : Code} {st : St} {Q : Exit → St → Prop} {α : Type} (lv : List Nat) (S : α → St) (pre : α → Prop) (mu : α → Nat) (x0 : α) (h0 : GhW G m (fun st' => st' = S x0) st) (hp : pre x0)
    (hr : ∀ x, pre x → codeE P G n m c lv (S x) (seqK (fun st => AgW G m S pre mu x st) Q)) : LoopE G m (fun lv st Q => codeE P G n m c lv st Q) st Q := ⟨α, S, pre, mu, x0, lv, h0, hp, hr⟩
end
theorem vS {α : Sort _} {a b : α} (h : a = b := by first | rfl | (refine vR ?_; first | done | exact True.intro | rfl | (refine v6 ?_; first | exact True.intro | (refine vR ?_; exact True.intro)) | ((try refine v6 ?_); simp only [St.mk.injEq, List.cons.injEq, Prod.mk.injEq, V.d.injEq, D.lit.injEq, Value.int.injEq, true_and, and_true]; omega))) : a = b := h
theorem vT {α : Sort _} {a b : α} (h : a = b := by (refine vR ?_; first | done | exact True.intro | rfl | (refine v6 ?_; first | exact True.intro | (refine vR ?_; exact True.intro)) | ((try refine v6 ?_); simp only [St.mk.injEq, List.cons.injEq, Prod.mk.injEq, V.d.injEq, D.lit.injEq, Value.int.injEq, true_and, and_true]; omega))) : a = b := h
end Go.Proofs.YtlnimbnihbcnpaaGreatDoor
/- What each type of the program is. Printed by tab.py. -/
namespace Go.Proofs.YtlnimbnihbcnpaaGreatDoor

@[push_cast] theorem tld3 : ldT Tryz.prog 3 = (some (1, .false)) := by kernel_rfl
@[push_cast] theorem tkd3 : kdT Tryz.prog 3 = (some (.int .i64)) := by kernel_rfl
@[push_cast] theorem tsl3 : slT Tryz.prog 3 = none := by kernel_rfl
@[push_cast] theorem tzb3 : zbT Tryz.prog 3 = (some (((.int .i64 0) :: []), none)) := by kernel_rfl
@[push_cast] theorem tzv3 : zvD Tryz.prog 3 = (some (.lit (.int .i64 0))) := by kernel_rfl
@[push_cast] theorem tbt3 : btT Tryz.prog 3 = .false := by kernel_rfl
@[push_cast] theorem tld4 : ldT Tryz.prog 4 = (some (1, .false)) := by kernel_rfl
@[push_cast] theorem tkd4 : kdT Tryz.prog 4 = (some .bool) := by kernel_rfl
@[push_cast] theorem tsl4 : slT Tryz.prog 4 = none := by kernel_rfl
@[push_cast] theorem tzb4 : zbT Tryz.prog 4 = (some (((.bool .false) :: []), none)) := by kernel_rfl
@[push_cast] theorem tzv4 : zvD Tryz.prog 4 = (some (.lit (.bool .false))) := by kernel_rfl
@[push_cast] theorem tbt4 : btT Tryz.prog 4 = .false := by kernel_rfl
@[push_cast] theorem tld5 : ldT Tryz.prog 5 = (some (1, .false)) := by kernel_rfl
@[push_cast] theorem tkd5 : kdT Tryz.prog 5 = (some (.int .u8)) := by kernel_rfl
@[push_cast] theorem tsl5 : slT Tryz.prog 5 = none := by kernel_rfl
@[push_cast] theorem tzb5 : zbT Tryz.prog 5 = (some (((.int .u8 0) :: []), none)) := by kernel_rfl
@[push_cast] theorem tzv5 : zvD Tryz.prog 5 = (some (.lit (.int .u8 0))) := by kernel_rfl
@[push_cast] theorem tbt5 : btT Tryz.prog 5 = .false := by kernel_rfl
@[push_cast] theorem tld9 : ldT Tryz.prog 9 = (some (1, .false)) := by kernel_rfl
@[push_cast] theorem tkd9 : kdT Tryz.prog 9 = (some .string) := by kernel_rfl
@[push_cast] theorem tsl9 : slT Tryz.prog 9 = none := by kernel_rfl
@[push_cast] theorem tzb9 : zbT Tryz.prog 9 = (some (((.string ⟨⟨[]⟩⟩) :: []), none)) := by kernel_rfl
@[push_cast] theorem tzv9 : zvD Tryz.prog 9 = (some (.lit (.string ⟨⟨[]⟩⟩))) := by kernel_rfl
@[push_cast] theorem tbt9 : btT Tryz.prog 9 = .false := by kernel_rfl
@[push_cast] theorem tld21 : ldT Tryz.prog 21 = (some (1, .false)) := by kernel_rfl
@[push_cast] theorem tkd21 : kdT Tryz.prog 21 = (some (.int .i32)) := by kernel_rfl
@[push_cast] theorem tsl21 : slT Tryz.prog 21 = none := by kernel_rfl
@[push_cast] theorem tzb21 : zbT Tryz.prog 21 = (some (((.int .i32 0) :: []), none)) := by kernel_rfl
@[push_cast] theorem tzv21 : zvD Tryz.prog 21 = (some (.lit (.int .i32 0))) := by kernel_rfl
@[push_cast] theorem tbt21 : btT Tryz.prog 21 = .false := by kernel_rfl
@[push_cast] theorem tld22 : ldT Tryz.prog 22 = (some (1, .false)) := by kernel_rfl
@[push_cast] theorem tkd22 : kdT Tryz.prog 22 = (some .slice) := by kernel_rfl
@[push_cast] theorem tsl22 : slT Tryz.prog 22 = (some (3, .true)) := by kernel_rfl
@[push_cast] theorem tap22 : apT Tryz.prog 22 = (some (3, 40)) := by kernel_rfl
@[push_cast] theorem tzb22 : zbT Tryz.prog 22 = (some (((.slice none 0 0) :: []), none)) := by kernel_rfl
@[push_cast] theorem tmk22 : mkT Tryz.prog 22 = (some (3, (40, (.agg ((.lit (.slice none 0 0)) :: ((.lit (.int .i64 0)) :: ((.lit (.int .i64 0)) :: []))))))) := by kernel_rfl
@[push_cast] theorem tzv22 : zvD Tryz.prog 22 = (some (.lit (.slice none 0 0))) := by kernel_rfl
@[push_cast] theorem tbt22 : btT Tryz.prog 22 = .false := by kernel_rfl
@[push_cast] theorem tld23 : ldT Tryz.prog 23 = (some (1, .false)) := by kernel_rfl
@[push_cast] theorem tkd23 : kdT Tryz.prog 23 = (some (.int .i64)) := by kernel_rfl
@[push_cast] theorem tsl23 : slT Tryz.prog 23 = none := by kernel_rfl
@[push_cast] theorem tzb23 : zbT Tryz.prog 23 = (some (((.int .i64 0) :: []), none)) := by kernel_rfl
@[push_cast] theorem tzv23 : zvD Tryz.prog 23 = (some (.lit (.int .i64 0))) := by kernel_rfl
@[push_cast] theorem tbt23 : btT Tryz.prog 23 = .false := by kernel_rfl
@[push_cast] theorem tld26 : ldT Tryz.prog 26 = (some (1, .false)) := by kernel_rfl
@[push_cast] theorem tkd26 : kdT Tryz.prog 26 = (some .pointer) := by kernel_rfl
@[push_cast] theorem tsl26 : slT Tryz.prog 26 = none := by kernel_rfl
@[push_cast] theorem tzb26 : zbT Tryz.prog 26 = (some (((.pointer none) :: []), none)) := by kernel_rfl
@[push_cast] theorem tzv26 : zvD Tryz.prog 26 = (some (.lit (.pointer none))) := by kernel_rfl
@[push_cast] theorem tbt26 : btT Tryz.prog 26 = .false := by kernel_rfl
@[push_cast] theorem tld27 : ldT Tryz.prog 27 = (some (1, .false)) := by kernel_rfl
@[push_cast] theorem tkd27 : kdT Tryz.prog 27 = (some .pointer) := by kernel_rfl
@[push_cast] theorem tsl27 : slT Tryz.prog 27 = none := by kernel_rfl
@[push_cast] theorem tzb27 : zbT Tryz.prog 27 = (some (((.pointer none) :: []), none)) := by kernel_rfl
@[push_cast] theorem tzv27 : zvD Tryz.prog 27 = (some (.lit (.pointer none))) := by kernel_rfl
@[push_cast] theorem tbt27 : btT Tryz.prog 27 = .false := by kernel_rfl
@[push_cast] theorem tld28 : ldT Tryz.prog 28 = (some (1, .false)) := by kernel_rfl
@[push_cast] theorem tkd28 : kdT Tryz.prog 28 = (some .slice) := by kernel_rfl
@[push_cast] theorem tsl28 : slT Tryz.prog 28 = (some (2, .true)) := by kernel_rfl
@[push_cast] theorem tap28 : apT Tryz.prog 28 = (some (2, 16)) := by kernel_rfl
@[push_cast] theorem tzb28 : zbT Tryz.prog 28 = (some (((.slice none 0 0) :: []), none)) := by kernel_rfl
@[push_cast] theorem tmk28 : mkT Tryz.prog 28 = (some (2, (16, (.agg ((.lit (.int .i64 0)) :: ((.lit (.int .i64 0)) :: [])))))) := by kernel_rfl
@[push_cast] theorem tzv28 : zvD Tryz.prog 28 = (some (.lit (.slice none 0 0))) := by kernel_rfl
@[push_cast] theorem tbt28 : btT Tryz.prog 28 = .false := by kernel_rfl
@[push_cast] theorem tld30 : ldT Tryz.prog 30 = (some (3, .true)) := by kernel_rfl
@[push_cast] theorem tkd30 : kdT Tryz.prog 30 = (some .other) := by kernel_rfl
@[push_cast] theorem tsl30 : slT Tryz.prog 30 = none := by kernel_rfl
@[push_cast] theorem tzb30 : zbT Tryz.prog 30 = (some (((.pointer none) :: ((.pointer none) :: ((.slice none 0 0) :: []))), none)) := by kernel_rfl
@[push_cast] theorem tzv30 : zvD Tryz.prog 30 = (some (.agg ((.lit (.pointer none)) :: ((.lit (.pointer none)) :: ((.lit (.slice none 0 0)) :: []))))) := by kernel_rfl
@[push_cast] theorem tbl30 : blT Tryz.prog 30 = (some (((.pointer none) :: ((.pointer none) :: ((.slice none 0 0) :: []))), ((0, 1) :: ((1, 1) :: ((2, 1) :: []))))) := by kernel_rfl
@[push_cast] theorem tbt30 : btT Tryz.prog 30 = .false := by kernel_rfl
@[push_cast] theorem tfl30_0 : flT Tryz.prog 30 0 = (some (0, (1, .false))) := by kernel_rfl
@[push_cast] theorem tfl30_1 : flT Tryz.prog 30 1 = (some (1, (1, .false))) := by kernel_rfl
@[push_cast] theorem tfl30_2 : flT Tryz.prog 30 2 = (some (2, (1, .false))) := by kernel_rfl
@[push_cast] theorem tld31 : ldT Tryz.prog 31 = (some (1, .false)) := by kernel_rfl
@[push_cast] theorem tkd31 : kdT Tryz.prog 31 = (some .slice) := by kernel_rfl
@[push_cast] theorem tsl31 : slT Tryz.prog 31 = (some (3, .true)) := by kernel_rfl
@[push_cast] theorem tap31 : apT Tryz.prog 31 = (some (3, 40)) := by kernel_rfl
@[push_cast] theorem tzb31 : zbT Tryz.prog 31 = (some (((.slice none 0 0) :: []), none)) := by kernel_rfl
@[push_cast] theorem tmk31 : mkT Tryz.prog 31 = (some (3, (40, (.agg ((.lit (.int .i64 0)) :: ((.lit (.int .i64 0)) :: ((.lit (.slice none 0 0)) :: []))))))) := by kernel_rfl
@[push_cast] theorem tzv31 : zvD Tryz.prog 31 = (some (.lit (.slice none 0 0))) := by kernel_rfl
@[push_cast] theorem tbt31 : btT Tryz.prog 31 = .false := by kernel_rfl
@[push_cast] theorem tld33 : ldT Tryz.prog 33 = (some (3, .true)) := by kernel_rfl
@[push_cast] theorem tkd33 : kdT Tryz.prog 33 = (some .other) := by kernel_rfl
@[push_cast] theorem tsl33 : slT Tryz.prog 33 = none := by kernel_rfl
@[push_cast] theorem tzb33 : zbT Tryz.prog 33 = (some (((.slice none 0 0) :: ((.int .i64 0) :: ((.int .i64 0) :: []))), none)) := by kernel_rfl
@[push_cast] theorem tzv33 : zvD Tryz.prog 33 = (some (.agg ((.lit (.slice none 0 0)) :: ((.lit (.int .i64 0)) :: ((.lit (.int .i64 0)) :: []))))) := by kernel_rfl
@[push_cast] theorem tbl33 : blT Tryz.prog 33 = (some (((.slice none 0 0) :: ((.int .i64 0) :: ((.int .i64 0) :: []))), ((0, 1) :: ((1, 1) :: ((2, 1) :: []))))) := by kernel_rfl
@[push_cast] theorem tbt33 : btT Tryz.prog 33 = .false := by kernel_rfl
@[push_cast] theorem tfl33_0 : flT Tryz.prog 33 0 = (some (0, (1, .false))) := by kernel_rfl
@[push_cast] theorem tfl33_1 : flT Tryz.prog 33 1 = (some (1, (1, .false))) := by kernel_rfl
@[push_cast] theorem tfl33_2 : flT Tryz.prog 33 2 = (some (2, (1, .false))) := by kernel_rfl
@[push_cast] theorem tld37 : ldT Tryz.prog 37 = (some (1, .false)) := by kernel_rfl
@[push_cast] theorem tkd37 : kdT Tryz.prog 37 = (some .func) := by kernel_rfl
@[push_cast] theorem tsl37 : slT Tryz.prog 37 = none := by kernel_rfl
@[push_cast] theorem tzb37 : zbT Tryz.prog 37 = (some ((.nilFunc :: []), none)) := by kernel_rfl
@[push_cast] theorem tzv37 : zvD Tryz.prog 37 = (some (.lit .nilFunc)) := by kernel_rfl
@[push_cast] theorem tbt37 : btT Tryz.prog 37 = .false := by kernel_rfl
@[push_cast] theorem tld38 : ldT Tryz.prog 38 = (some (1, .false)) := by kernel_rfl
@[push_cast] theorem tkd38 : kdT Tryz.prog 38 = (some .pointer) := by kernel_rfl
@[push_cast] theorem tsl38 : slT Tryz.prog 38 = none := by kernel_rfl
@[push_cast] theorem tzb38 : zbT Tryz.prog 38 = (some (((.pointer none) :: []), none)) := by kernel_rfl
@[push_cast] theorem tzv38 : zvD Tryz.prog 38 = (some (.lit (.pointer none))) := by kernel_rfl
@[push_cast] theorem tbt38 : btT Tryz.prog 38 = .false := by kernel_rfl
@[push_cast] theorem tld43 : ldT Tryz.prog 43 = (some (1, .false)) := by kernel_rfl
@[push_cast] theorem tkd43 : kdT Tryz.prog 43 = (some .slice) := by kernel_rfl
@[push_cast] theorem tsl43 : slT Tryz.prog 43 = (some (1, .false)) := by kernel_rfl
@[push_cast] theorem tap43 : apT Tryz.prog 43 = (some (1, 16)) := by kernel_rfl
@[push_cast] theorem tzb43 : zbT Tryz.prog 43 = (some (((.slice none 0 0) :: []), none)) := by kernel_rfl
@[push_cast] theorem tmk43 : mkT Tryz.prog 43 = (some (1, (16, (.lit (.string ⟨⟨[]⟩⟩))))) := by kernel_rfl
@[push_cast] theorem tzv43 : zvD Tryz.prog 43 = (some (.lit (.slice none 0 0))) := by kernel_rfl
@[push_cast] theorem tbt43 : btT Tryz.prog 43 = .false := by kernel_rfl
@[push_cast] theorem tld47 : ldT Tryz.prog 47 = (some (1, .false)) := by kernel_rfl
@[push_cast] theorem tkd47 : kdT Tryz.prog 47 = (some .slice) := by kernel_rfl
@[push_cast] theorem tsl47 : slT Tryz.prog 47 = (some (2, .true)) := by kernel_rfl
@[push_cast] theorem tap47 : apT Tryz.prog 47 = (some (2, 16)) := by kernel_rfl
@[push_cast] theorem tzb47 : zbT Tryz.prog 47 = (some (((.slice none 0 0) :: []), none)) := by kernel_rfl
@[push_cast] theorem tmk47 : mkT Tryz.prog 47 = (some (2, (16, (.agg ((.lit (.int .i64 0)) :: ((.lit (.int .i64 0)) :: [])))))) := by kernel_rfl
@[push_cast] theorem tzv47 : zvD Tryz.prog 47 = (some (.lit (.slice none 0 0))) := by kernel_rfl
@[push_cast] theorem tbt47 : btT Tryz.prog 47 = .false := by kernel_rfl
@[push_cast] theorem tld49 : ldT Tryz.prog 49 = (some (1, .false)) := by kernel_rfl
@[push_cast] theorem tkd49 : kdT Tryz.prog 49 = (some .slice) := by kernel_rfl
@[push_cast] theorem tsl49 : slT Tryz.prog 49 = (some (3, .true)) := by kernel_rfl
@[push_cast] theorem tap49 : apT Tryz.prog 49 = (some (3, 32)) := by kernel_rfl
@[push_cast] theorem tzb49 : zbT Tryz.prog 49 = (some (((.slice none 0 0) :: []), none)) := by kernel_rfl
@[push_cast] theorem tmk49 : mkT Tryz.prog 49 = (some (3, (32, (.agg ((.lit (.int .i64 0)) :: ((.lit (.int .i64 0)) :: ((.lit (.string ⟨⟨[]⟩⟩)) :: []))))))) := by kernel_rfl
@[push_cast] theorem tzv49 : zvD Tryz.prog 49 = (some (.lit (.slice none 0 0))) := by kernel_rfl
@[push_cast] theorem tbt49 : btT Tryz.prog 49 = .false := by kernel_rfl
@[push_cast] theorem tld52 : ldT Tryz.prog 52 = (some (1, .false)) := by kernel_rfl
@[push_cast] theorem tkd52 : kdT Tryz.prog 52 = (some .pointer) := by kernel_rfl
@[push_cast] theorem tsl52 : slT Tryz.prog 52 = none := by kernel_rfl
@[push_cast] theorem tzb52 : zbT Tryz.prog 52 = (some (((.pointer none) :: []), none)) := by kernel_rfl
@[push_cast] theorem tzv52 : zvD Tryz.prog 52 = (some (.lit (.pointer none))) := by kernel_rfl
@[push_cast] theorem tbt52 : btT Tryz.prog 52 = .false := by kernel_rfl
@[push_cast] theorem tld53 : ldT Tryz.prog 53 = (some (1, .false)) := by kernel_rfl
@[push_cast] theorem tkd53 : kdT Tryz.prog 53 = (some .slice) := by kernel_rfl
@[push_cast] theorem tsl53 : slT Tryz.prog 53 = (some (7, .true)) := by kernel_rfl
@[push_cast] theorem tap53 : apT Tryz.prog 53 = (some (7, 64)) := by kernel_rfl
@[push_cast] theorem tzb53 : zbT Tryz.prog 53 = (some (((.slice none 0 0) :: []), none)) := by kernel_rfl
@[push_cast] theorem tmk53 : mkT Tryz.prog 53 = (some (7, (64, (.agg ((.lit (.slice none 0 0)) :: ((.lit (.int .i64 0)) :: ((.lit (.int .i64 0)) :: ((.lit (.int .i64 0)) :: ((.lit (.bool .false)) :: ((.lit (.bool .false)) :: ((.lit (.int .i64 0)) :: []))))))))))) := by kernel_rfl
@[push_cast] theorem tzv53 : zvD Tryz.prog 53 = (some (.lit (.slice none 0 0))) := by kernel_rfl
@[push_cast] theorem tbt53 : btT Tryz.prog 53 = .false := by kernel_rfl
@[push_cast] theorem tld56 : ldT Tryz.prog 56 = (some (1, .false)) := by kernel_rfl
@[push_cast] theorem tkd56 : kdT Tryz.prog 56 = (some .slice) := by kernel_rfl
@[push_cast] theorem tsl56 : slT Tryz.prog 56 = (some (4, .true)) := by kernel_rfl
@[push_cast] theorem tap56 : apT Tryz.prog 56 = (some (4, 32)) := by kernel_rfl
@[push_cast] theorem tzb56 : zbT Tryz.prog 56 = (some (((.slice none 0 0) :: []), none)) := by kernel_rfl
@[push_cast] theorem tmk56 : mkT Tryz.prog 56 = (some (4, (32, (.agg ((.lit (.int .i64 0)) :: ((.lit (.int .i64 0)) :: ((.lit (.int .i64 0)) :: ((.lit (.int .i64 0)) :: [])))))))) := by kernel_rfl
@[push_cast] theorem tzv56 : zvD Tryz.prog 56 = (some (.lit (.slice none 0 0))) := by kernel_rfl
@[push_cast] theorem tbt56 : btT Tryz.prog 56 = .false := by kernel_rfl
@[push_cast] theorem tld59 : ldT Tryz.prog 59 = (some (1, .false)) := by kernel_rfl
@[push_cast] theorem tkd59 : kdT Tryz.prog 59 = (some .pointer) := by kernel_rfl
@[push_cast] theorem tsl59 : slT Tryz.prog 59 = none := by kernel_rfl
@[push_cast] theorem tzb59 : zbT Tryz.prog 59 = (some (((.pointer none) :: []), none)) := by kernel_rfl
@[push_cast] theorem tzv59 : zvD Tryz.prog 59 = (some (.lit (.pointer none))) := by kernel_rfl
@[push_cast] theorem tbt59 : btT Tryz.prog 59 = .false := by kernel_rfl
@[push_cast] theorem tld61 : ldT Tryz.prog 61 = (some (5, .true)) := by kernel_rfl
@[push_cast] theorem tkd61 : kdT Tryz.prog 61 = (some .other) := by kernel_rfl
@[push_cast] theorem tsl61 : slT Tryz.prog 61 = none := by kernel_rfl
@[push_cast] theorem tzb61 : zbT Tryz.prog 61 = (some (((.pointer none) :: ((.pointer none) :: ((.pointer none) :: ((.int .i64 0) :: ((.int .i64 0) :: []))))), none)) := by kernel_rfl
@[push_cast] theorem tzv61 : zvD Tryz.prog 61 = (some (.agg ((.lit (.pointer none)) :: ((.lit (.pointer none)) :: ((.lit (.pointer none)) :: ((.lit (.int .i64 0)) :: ((.lit (.int .i64 0)) :: []))))))) := by kernel_rfl
@[push_cast] theorem tbl61 : blT Tryz.prog 61 = (some (((.pointer none) :: ((.pointer none) :: ((.pointer none) :: ((.int .i64 0) :: ((.int .i64 0) :: []))))), ((0, 1) :: ((1, 1) :: ((2, 1) :: ((3, 1) :: ((4, 1) :: []))))))) := by kernel_rfl
@[push_cast] theorem tbt61 : btT Tryz.prog 61 = .false := by kernel_rfl
@[push_cast] theorem tfl61_0 : flT Tryz.prog 61 0 = (some (0, (1, .false))) := by kernel_rfl
@[push_cast] theorem tfl61_1 : flT Tryz.prog 61 1 = (some (1, (1, .false))) := by kernel_rfl
@[push_cast] theorem tfl61_2 : flT Tryz.prog 61 2 = (some (2, (1, .false))) := by kernel_rfl
@[push_cast] theorem tfl61_3 : flT Tryz.prog 61 3 = (some (3, (1, .false))) := by kernel_rfl
@[push_cast] theorem tfl61_4 : flT Tryz.prog 61 4 = (some (4, (1, .false))) := by kernel_rfl
@[push_cast] theorem tld63 : ldT Tryz.prog 63 = (some (1, .false)) := by kernel_rfl
@[push_cast] theorem tkd63 : kdT Tryz.prog 63 = (some .pointer) := by kernel_rfl
@[push_cast] theorem tsl63 : slT Tryz.prog 63 = none := by kernel_rfl
@[push_cast] theorem tzb63 : zbT Tryz.prog 63 = (some (((.pointer none) :: []), none)) := by kernel_rfl
@[push_cast] theorem tzv63 : zvD Tryz.prog 63 = (some (.lit (.pointer none))) := by kernel_rfl
@[push_cast] theorem tbt63 : btT Tryz.prog 63 = .false := by kernel_rfl
@[push_cast] theorem tld64 : ldT Tryz.prog 64 = (some (1, .false)) := by kernel_rfl
@[push_cast] theorem tkd64 : kdT Tryz.prog 64 = (some .pointer) := by kernel_rfl
@[push_cast] theorem tsl64 : slT Tryz.prog 64 = none := by kernel_rfl
@[push_cast] theorem tzb64 : zbT Tryz.prog 64 = (some (((.pointer none) :: []), none)) := by kernel_rfl
@[push_cast] theorem tzv64 : zvD Tryz.prog 64 = (some (.lit (.pointer none))) := by kernel_rfl
@[push_cast] theorem tbt64 : btT Tryz.prog 64 = .false := by kernel_rfl
@[push_cast] theorem tld65 : ldT Tryz.prog 65 = (some (1, .false)) := by kernel_rfl
@[push_cast] theorem tkd65 : kdT Tryz.prog 65 = (some .pointer) := by kernel_rfl
@[push_cast] theorem tsl65 : slT Tryz.prog 65 = none := by kernel_rfl
@[push_cast] theorem tzb65 : zbT Tryz.prog 65 = (some (((.pointer none) :: []), none)) := by kernel_rfl
@[push_cast] theorem tzv65 : zvD Tryz.prog 65 = (some (.lit (.pointer none))) := by kernel_rfl
@[push_cast] theorem tbt65 : btT Tryz.prog 65 = .false := by kernel_rfl
@[push_cast] theorem tld67 : ldT Tryz.prog 67 = (some (3, .true)) := by kernel_rfl
@[push_cast] theorem tkd67 : kdT Tryz.prog 67 = (some .other) := by kernel_rfl
@[push_cast] theorem tsl67 : slT Tryz.prog 67 = none := by kernel_rfl
@[push_cast] theorem tzb67 : zbT Tryz.prog 67 = (some (((.pointer none) :: ((.pointer none) :: ((.pointer none) :: []))), none)) := by kernel_rfl
@[push_cast] theorem tzv67 : zvD Tryz.prog 67 = (some (.agg ((.lit (.pointer none)) :: ((.lit (.pointer none)) :: ((.lit (.pointer none)) :: []))))) := by kernel_rfl
@[push_cast] theorem tbl67 : blT Tryz.prog 67 = (some (((.pointer none) :: ((.pointer none) :: ((.pointer none) :: []))), ((0, 1) :: ((1, 1) :: ((2, 1) :: []))))) := by kernel_rfl
@[push_cast] theorem tbt67 : btT Tryz.prog 67 = .false := by kernel_rfl
@[push_cast] theorem tfl67_0 : flT Tryz.prog 67 0 = (some (0, (1, .false))) := by kernel_rfl
@[push_cast] theorem tfl67_1 : flT Tryz.prog 67 1 = (some (1, (1, .false))) := by kernel_rfl
@[push_cast] theorem tfl67_2 : flT Tryz.prog 67 2 = (some (2, (1, .false))) := by kernel_rfl
@[push_cast] theorem tld69 : ldT Tryz.prog 69 = (some (1, .false)) := by kernel_rfl
@[push_cast] theorem tkd69 : kdT Tryz.prog 69 = (some .pointer) := by kernel_rfl
@[push_cast] theorem tsl69 : slT Tryz.prog 69 = none := by kernel_rfl
@[push_cast] theorem tzb69 : zbT Tryz.prog 69 = (some (((.pointer none) :: []), none)) := by kernel_rfl
@[push_cast] theorem tzv69 : zvD Tryz.prog 69 = (some (.lit (.pointer none))) := by kernel_rfl
@[push_cast] theorem tbt69 : btT Tryz.prog 69 = .false := by kernel_rfl
@[push_cast] theorem tld71 : ldT Tryz.prog 71 = (some (6, .true)) := by kernel_rfl
@[push_cast] theorem tkd71 : kdT Tryz.prog 71 = (some .other) := by kernel_rfl
@[push_cast] theorem tsl71 : slT Tryz.prog 71 = none := by kernel_rfl
@[push_cast] theorem tzb71 : zbT Tryz.prog 71 = (some (((.pointer none) :: ((.pointer none) :: ((.slice none 0 0) :: ((.pointer none) :: ((.int .i64 0) :: ((.int .i64 0) :: [])))))), none)) := by kernel_rfl
@[push_cast] theorem tzv71 : zvD Tryz.prog 71 = (some (.agg ((.lit (.pointer none)) :: ((.lit (.pointer none)) :: ((.lit (.slice none 0 0)) :: ((.lit (.pointer none)) :: ((.lit (.int .i64 0)) :: ((.lit (.int .i64 0)) :: [])))))))) := by kernel_rfl
@[push_cast] theorem tbl71 : blT Tryz.prog 71 = (some (((.pointer none) :: ((.pointer none) :: ((.slice none 0 0) :: ((.pointer none) :: ((.int .i64 0) :: ((.int .i64 0) :: [])))))), ((0, 3) :: ((3, 1) :: ((4, 1) :: ((5, 1) :: [])))))) := by kernel_rfl
@[push_cast] theorem tbt71 : btT Tryz.prog 71 = .false := by kernel_rfl
@[push_cast] theorem tfl71_0 : flT Tryz.prog 71 0 = (some (0, (3, .true))) := by kernel_rfl
@[push_cast] theorem tfl71_1 : flT Tryz.prog 71 1 = (some (3, (1, .false))) := by kernel_rfl
@[push_cast] theorem tfl71_2 : flT Tryz.prog 71 2 = (some (4, (1, .false))) := by kernel_rfl
@[push_cast] theorem tfl71_3 : flT Tryz.prog 71 3 = (some (5, (1, .false))) := by kernel_rfl
@[push_cast] theorem tld75 : ldT Tryz.prog 75 = (some (2, .true)) := by kernel_rfl
@[push_cast] theorem tkd75 : kdT Tryz.prog 75 = (some .other) := by kernel_rfl
@[push_cast] theorem tsl75 : slT Tryz.prog 75 = none := by kernel_rfl
@[push_cast] theorem tzb75 : zbT Tryz.prog 75 = (some (((.int .i64 0) :: ((.int .i64 0) :: [])), none)) := by kernel_rfl
@[push_cast] theorem tzv75 : zvD Tryz.prog 75 = (some (.agg ((.lit (.int .i64 0)) :: ((.lit (.int .i64 0)) :: [])))) := by kernel_rfl
@[push_cast] theorem tbl75 : blT Tryz.prog 75 = (some (((.int .i64 0) :: ((.int .i64 0) :: [])), ((0, 1) :: ((1, 1) :: [])))) := by kernel_rfl
@[push_cast] theorem teq75 : EqOk Tryz.prog 75 ((.int .i64) :: ((.int .i64) :: [])) := EqOk.of (by kernel_rfl)
@[push_cast] theorem tbt75 : btT Tryz.prog 75 = .false := by kernel_rfl
@[push_cast] theorem tfl75_0 : flT Tryz.prog 75 0 = (some (0, (1, .false))) := by kernel_rfl
@[push_cast] theorem tfl75_1 : flT Tryz.prog 75 1 = (some (1, (1, .false))) := by kernel_rfl
@[push_cast] theorem tld83 : ldT Tryz.prog 83 = (some (1, .false)) := by kernel_rfl
@[push_cast] theorem tkd83 : kdT Tryz.prog 83 = (some .slice) := by kernel_rfl
@[push_cast] theorem tsl83 : slT Tryz.prog 83 = (some (1, .false)) := by kernel_rfl
@[push_cast] theorem tap83 : apT Tryz.prog 83 = (some (1, 8)) := by kernel_rfl
@[push_cast] theorem tzb83 : zbT Tryz.prog 83 = (some (((.slice none 0 0) :: []), none)) := by kernel_rfl
@[push_cast] theorem tmk83 : mkT Tryz.prog 83 = (some (1, (8, (.lit (.int .i64 0))))) := by kernel_rfl
@[push_cast] theorem tzv83 : zvD Tryz.prog 83 = (some (.lit (.slice none 0 0))) := by kernel_rfl
@[push_cast] theorem tbt83 : btT Tryz.prog 83 = .false := by kernel_rfl
@[push_cast] theorem tld84 : ldT Tryz.prog 84 = (some (1, .false)) := by kernel_rfl
@[push_cast] theorem tkd84 : kdT Tryz.prog 84 = (some .slice) := by kernel_rfl
@[push_cast] theorem tsl84 : slT Tryz.prog 84 = (some (5, .true)) := by kernel_rfl
@[push_cast] theorem tap84 : apT Tryz.prog 84 = (some (5, 48)) := by kernel_rfl
@[push_cast] theorem tzb84 : zbT Tryz.prog 84 = (some (((.slice none 0 0) :: []), none)) := by kernel_rfl
@[push_cast] theorem tmk84 : mkT Tryz.prog 84 = (some (5, (48, (.agg ((.lit (.int .i64 0)) :: ((.lit (.int .i64 0)) :: ((.lit (.int .i64 0)) :: ((.lit (.int .i64 0)) :: ((.lit (.string ⟨⟨[]⟩⟩)) :: []))))))))) := by kernel_rfl
@[push_cast] theorem tzv84 : zvD Tryz.prog 84 = (some (.lit (.slice none 0 0))) := by kernel_rfl
@[push_cast] theorem tbt84 : btT Tryz.prog 84 = .false := by kernel_rfl
@[push_cast] theorem tld86 : ldT Tryz.prog 86 = (some (6, .true)) := by kernel_rfl
@[push_cast] theorem tkd86 : kdT Tryz.prog 86 = (some .other) := by kernel_rfl
@[push_cast] theorem tsl86 : slT Tryz.prog 86 = none := by kernel_rfl
@[push_cast] theorem tzb86 : zbT Tryz.prog 86 = (some (((.int .i64 0) :: ((.int .i64 0) :: ((.int .i64 0) :: ((.slice none 0 0) :: ((.slice none 0 0) :: ((.slice none 0 0) :: [])))))), none)) := by kernel_rfl
@[push_cast] theorem tzv86 : zvD Tryz.prog 86 = (some (.agg ((.lit (.int .i64 0)) :: ((.lit (.int .i64 0)) :: ((.lit (.int .i64 0)) :: ((.lit (.slice none 0 0)) :: ((.lit (.slice none 0 0)) :: ((.lit (.slice none 0 0)) :: [])))))))) := by kernel_rfl
@[push_cast] theorem tbl86 : blT Tryz.prog 86 = (some (((.int .i64 0) :: ((.int .i64 0) :: ((.int .i64 0) :: ((.slice none 0 0) :: ((.slice none 0 0) :: ((.slice none 0 0) :: [])))))), ((0, 1) :: ((1, 1) :: ((2, 1) :: ((3, 1) :: ((4, 1) :: ((5, 1) :: [])))))))) := by kernel_rfl
@[push_cast] theorem tbt86 : btT Tryz.prog 86 = .false := by kernel_rfl
@[push_cast] theorem tfl86_0 : flT Tryz.prog 86 0 = (some (0, (1, .false))) := by kernel_rfl
@[push_cast] theorem tfl86_1 : flT Tryz.prog 86 1 = (some (1, (1, .false))) := by kernel_rfl
@[push_cast] theorem tfl86_2 : flT Tryz.prog 86 2 = (some (2, (1, .false))) := by kernel_rfl
@[push_cast] theorem tfl86_3 : flT Tryz.prog 86 3 = (some (3, (1, .false))) := by kernel_rfl
@[push_cast] theorem tfl86_4 : flT Tryz.prog 86 4 = (some (4, (1, .false))) := by kernel_rfl
@[push_cast] theorem tfl86_5 : flT Tryz.prog 86 5 = (some (5, (1, .false))) := by kernel_rfl
@[push_cast] theorem tld87 : ldT Tryz.prog 87 = (some (1, .false)) := by kernel_rfl
@[push_cast] theorem tkd87 : kdT Tryz.prog 87 = (some .pointer) := by kernel_rfl
@[push_cast] theorem tsl87 : slT Tryz.prog 87 = none := by kernel_rfl
@[push_cast] theorem tzb87 : zbT Tryz.prog 87 = (some (((.pointer none) :: []), none)) := by kernel_rfl
@[push_cast] theorem tzv87 : zvD Tryz.prog 87 = (some (.lit (.pointer none))) := by kernel_rfl
@[push_cast] theorem tbt87 : btT Tryz.prog 87 = .false := by kernel_rfl
@[push_cast] theorem tld89 : ldT Tryz.prog 89 = (some (1, .false)) := by kernel_rfl
@[push_cast] theorem tkd89 : kdT Tryz.prog 89 = (some .slice) := by kernel_rfl
@[push_cast] theorem tsl89 : slT Tryz.prog 89 = (some (6, .true)) := by kernel_rfl
@[push_cast] theorem tap89 : apT Tryz.prog 89 = (some (6, 96)) := by kernel_rfl
@[push_cast] theorem tzb89 : zbT Tryz.prog 89 = (some (((.slice none 0 0) :: []), none)) := by kernel_rfl
@[push_cast] theorem tmk89 : mkT Tryz.prog 89 = (some (6, (96, (.agg ((.lit (.int .i64 0)) :: ((.lit (.int .i64 0)) :: ((.lit (.int .i64 0)) :: ((.lit (.slice none 0 0)) :: ((.lit (.slice none 0 0)) :: ((.lit (.slice none 0 0)) :: [])))))))))) := by kernel_rfl
@[push_cast] theorem tzv89 : zvD Tryz.prog 89 = (some (.lit (.slice none 0 0))) := by kernel_rfl
@[push_cast] theorem tbt89 : btT Tryz.prog 89 = .false := by kernel_rfl
@[push_cast] theorem tld91 : ldT Tryz.prog 91 = (some (4, .true)) := by kernel_rfl
@[push_cast] theorem tkd91 : kdT Tryz.prog 91 = (some .other) := by kernel_rfl
@[push_cast] theorem tsl91 : slT Tryz.prog 91 = none := by kernel_rfl
@[push_cast] theorem tzb91 : zbT Tryz.prog 91 = (some (((.int .i64 0) :: ((.int .i64 0) :: ((.int .i64 0) :: ((.int .i64 0) :: [])))), none)) := by kernel_rfl
@[push_cast] theorem tzv91 : zvD Tryz.prog 91 = (some (.agg ((.lit (.int .i64 0)) :: ((.lit (.int .i64 0)) :: ((.lit (.int .i64 0)) :: ((.lit (.int .i64 0)) :: [])))))) := by kernel_rfl
@[push_cast] theorem tbl91 : blT Tryz.prog 91 = (some (((.int .i64 0) :: ((.int .i64 0) :: ((.int .i64 0) :: ((.int .i64 0) :: [])))), ((0, 1) :: ((1, 1) :: ((2, 1) :: ((3, 1) :: [])))))) := by kernel_rfl
@[push_cast] theorem teq91 : EqOk Tryz.prog 91 ((.int .i64) :: ((.int .i64) :: ((.int .i64) :: ((.int .i64) :: [])))) := EqOk.of (by kernel_rfl)
@[push_cast] theorem tbt91 : btT Tryz.prog 91 = .false := by kernel_rfl
@[push_cast] theorem tfl91_0 : flT Tryz.prog 91 0 = (some (0, (1, .false))) := by kernel_rfl
@[push_cast] theorem tfl91_1 : flT Tryz.prog 91 1 = (some (1, (1, .false))) := by kernel_rfl
@[push_cast] theorem tfl91_2 : flT Tryz.prog 91 2 = (some (2, (1, .false))) := by kernel_rfl
@[push_cast] theorem tfl91_3 : flT Tryz.prog 91 3 = (some (3, (1, .false))) := by kernel_rfl
@[push_cast] theorem tld93 : ldT Tryz.prog 93 = (some (6, .true)) := by kernel_rfl
@[push_cast] theorem tkd93 : kdT Tryz.prog 93 = (some .other) := by kernel_rfl
@[push_cast] theorem tsl93 : slT Tryz.prog 93 = none := by kernel_rfl
@[push_cast] theorem tzb93 : zbT Tryz.prog 93 = (some (((.int .i64 0) :: ((.int .i64 0) :: ((.int .i64 0) :: ((.int .i64 0) :: ((.int .i64 0) :: ((.int .i64 0) :: [])))))), none)) := by kernel_rfl
@[push_cast] theorem tzv93 : zvD Tryz.prog 93 = (some (.agg ((.lit (.int .i64 0)) :: ((.lit (.int .i64 0)) :: ((.lit (.int .i64 0)) :: ((.lit (.int .i64 0)) :: ((.lit (.int .i64 0)) :: ((.lit (.int .i64 0)) :: [])))))))) := by kernel_rfl
@[push_cast] theorem tbl93 : blT Tryz.prog 93 = (some (((.int .i64 0) :: ((.int .i64 0) :: ((.int .i64 0) :: ((.int .i64 0) :: ((.int .i64 0) :: ((.int .i64 0) :: [])))))), ((0, 1) :: ((1, 1) :: ((2, 4) :: []))))) := by kernel_rfl
@[push_cast] theorem teq93 : EqOk Tryz.prog 93 ((.int .i64) :: ((.int .i64) :: ((.int .i64) :: ((.int .i64) :: ((.int .i64) :: ((.int .i64) :: [])))))) := EqOk.of (by kernel_rfl)
@[push_cast] theorem tbt93 : btT Tryz.prog 93 = .false := by kernel_rfl
@[push_cast] theorem tfl93_0 : flT Tryz.prog 93 0 = (some (0, (1, .false))) := by kernel_rfl
@[push_cast] theorem tfl93_1 : flT Tryz.prog 93 1 = (some (1, (1, .false))) := by kernel_rfl
@[push_cast] theorem tfl93_2 : flT Tryz.prog 93 2 = (some (2, (4, .true))) := by kernel_rfl
@[push_cast] theorem tld103 : ldT Tryz.prog 103 = (some (2, .true)) := by kernel_rfl
@[push_cast] theorem tkd103 : kdT Tryz.prog 103 = (some .other) := by kernel_rfl
@[push_cast] theorem tsl103 : slT Tryz.prog 103 = none := by kernel_rfl
@[push_cast] theorem tzb103 : zbT Tryz.prog 103 = (some (((.int .i64 0) :: ((.int .i64 0) :: [])), none)) := by kernel_rfl
@[push_cast] theorem tzv103 : zvD Tryz.prog 103 = (some (.agg ((.lit (.int .i64 0)) :: ((.lit (.int .i64 0)) :: [])))) := by kernel_rfl
@[push_cast] theorem tbl103 : blT Tryz.prog 103 = (some (((.int .i64 0) :: ((.int .i64 0) :: [])), ((0, 1) :: ((1, 1) :: [])))) := by kernel_rfl
@[push_cast] theorem teq103 : EqOk Tryz.prog 103 ((.int .i64) :: ((.int .i64) :: [])) := EqOk.of (by kernel_rfl)
@[push_cast] theorem tbt103 : btT Tryz.prog 103 = .false := by kernel_rfl
@[push_cast] theorem tfl103_0 : flT Tryz.prog 103 0 = (some (0, (1, .false))) := by kernel_rfl
@[push_cast] theorem tfl103_1 : flT Tryz.prog 103 1 = (some (1, (1, .false))) := by kernel_rfl
@[push_cast] theorem tld107 : ldT Tryz.prog 107 = (some (1, .false)) := by kernel_rfl
@[push_cast] theorem tkd107 : kdT Tryz.prog 107 = (some .pointer) := by kernel_rfl
@[push_cast] theorem tsl107 : slT Tryz.prog 107 = none := by kernel_rfl
@[push_cast] theorem tzb107 : zbT Tryz.prog 107 = (some (((.pointer none) :: []), none)) := by kernel_rfl
@[push_cast] theorem tzv107 : zvD Tryz.prog 107 = (some (.lit (.pointer none))) := by kernel_rfl
@[push_cast] theorem tbt107 : btT Tryz.prog 107 = .false := by kernel_rfl
@[push_cast] theorem tld108 : ldT Tryz.prog 108 = (some (1, .false)) := by kernel_rfl
@[push_cast] theorem tkd108 : kdT Tryz.prog 108 = (some .pointer) := by kernel_rfl
@[push_cast] theorem tsl108 : slT Tryz.prog 108 = none := by kernel_rfl
@[push_cast] theorem tzb108 : zbT Tryz.prog 108 = (some (((.pointer none) :: []), none)) := by kernel_rfl
@[push_cast] theorem tzv108 : zvD Tryz.prog 108 = (some (.lit (.pointer none))) := by kernel_rfl
@[push_cast] theorem tbt108 : btT Tryz.prog 108 = .false := by kernel_rfl
@[push_cast] theorem tld112 : ldT Tryz.prog 112 = (some (2, .true)) := by kernel_rfl
@[push_cast] theorem tkd112 : kdT Tryz.prog 112 = (some .other) := by kernel_rfl
@[push_cast] theorem tsl112 : slT Tryz.prog 112 = none := by kernel_rfl
@[push_cast] theorem tzb112 : zbT Tryz.prog 112 = (some (((.int .i64 0) :: ((.int .i64 0) :: [])), none)) := by kernel_rfl
@[push_cast] theorem tzv112 : zvD Tryz.prog 112 = (some (.agg ((.lit (.int .i64 0)) :: ((.lit (.int .i64 0)) :: [])))) := by kernel_rfl
@[push_cast] theorem tbl112 : blT Tryz.prog 112 = (some (((.int .i64 0) :: ((.int .i64 0) :: [])), ((0, 1) :: ((1, 1) :: [])))) := by kernel_rfl
@[push_cast] theorem teq112 : EqOk Tryz.prog 112 ((.int .i64) :: ((.int .i64) :: [])) := EqOk.of (by kernel_rfl)
@[push_cast] theorem tbt112 : btT Tryz.prog 112 = .false := by kernel_rfl
@[push_cast] theorem tfl112_0 : flT Tryz.prog 112 0 = (some (0, (1, .false))) := by kernel_rfl
@[push_cast] theorem tfl112_1 : flT Tryz.prog 112 1 = (some (1, (1, .false))) := by kernel_rfl
@[push_cast] theorem tld118 : ldT Tryz.prog 118 = (some (1, .false)) := by kernel_rfl
@[push_cast] theorem tkd118 : kdT Tryz.prog 118 = (some .slice) := by kernel_rfl
@[push_cast] theorem tsl118 : slT Tryz.prog 118 = (some (4, .true)) := by kernel_rfl
@[push_cast] theorem tap118 : apT Tryz.prog 118 = (some (4, 32)) := by kernel_rfl
@[push_cast] theorem tzb118 : zbT Tryz.prog 118 = (some (((.slice none 0 0) :: []), none)) := by kernel_rfl
@[push_cast] theorem tmk118 : mkT Tryz.prog 118 = (some (4, (32, (.agg ((.lit (.int .i64 0)) :: ((.lit (.int .i64 0)) :: ((.lit (.int .i64 0)) :: ((.lit (.bool .false)) :: [])))))))) := by kernel_rfl
@[push_cast] theorem tzv118 : zvD Tryz.prog 118 = (some (.lit (.slice none 0 0))) := by kernel_rfl
@[push_cast] theorem tbt118 : btT Tryz.prog 118 = .false := by kernel_rfl
@[push_cast] theorem tld123 : ldT Tryz.prog 123 = (some (2, .true)) := by kernel_rfl
@[push_cast] theorem tkd123 : kdT Tryz.prog 123 = (some .other) := by kernel_rfl
@[push_cast] theorem tsl123 : slT Tryz.prog 123 = none := by kernel_rfl
@[push_cast] theorem tzb123 : zbT Tryz.prog 123 = (some (((.int .i64 0) :: ((.int .i64 0) :: [])), none)) := by kernel_rfl
@[push_cast] theorem tzv123 : zvD Tryz.prog 123 = (some (.agg ((.lit (.int .i64 0)) :: ((.lit (.int .i64 0)) :: [])))) := by kernel_rfl
@[push_cast] theorem tbl123 : blT Tryz.prog 123 = (some (((.int .i64 0) :: ((.int .i64 0) :: [])), ((0, 1) :: ((1, 1) :: [])))) := by kernel_rfl
@[push_cast] theorem teq123 : EqOk Tryz.prog 123 ((.int .i64) :: ((.int .i64) :: [])) := EqOk.of (by kernel_rfl)
@[push_cast] theorem tbt123 : btT Tryz.prog 123 = .false := by kernel_rfl
@[push_cast] theorem tfl123_0 : flT Tryz.prog 123 0 = (some (0, (1, .false))) := by kernel_rfl
@[push_cast] theorem tfl123_1 : flT Tryz.prog 123 1 = (some (1, (1, .false))) := by kernel_rfl
@[push_cast] theorem tld134 : ldT Tryz.prog 134 = (some (5, .true)) := by kernel_rfl
@[push_cast] theorem tkd134 : kdT Tryz.prog 134 = (some .other) := by kernel_rfl
@[push_cast] theorem tsl134 : slT Tryz.prog 134 = none := by kernel_rfl
@[push_cast] theorem tzb134 : zbT Tryz.prog 134 = (some (((.int .i64 0) :: ((.int .i64 0) :: ((.int .i64 0) :: ((.int .i64 0) :: ((.string ⟨⟨[]⟩⟩) :: []))))), none)) := by kernel_rfl
@[push_cast] theorem tzv134 : zvD Tryz.prog 134 = (some (.agg ((.lit (.int .i64 0)) :: ((.lit (.int .i64 0)) :: ((.lit (.int .i64 0)) :: ((.lit (.int .i64 0)) :: ((.lit (.string ⟨⟨[]⟩⟩)) :: []))))))) := by kernel_rfl
@[push_cast] theorem tbl134 : blT Tryz.prog 134 = (some (((.int .i64 0) :: ((.int .i64 0) :: ((.int .i64 0) :: ((.int .i64 0) :: ((.string ⟨⟨[]⟩⟩) :: []))))), ((0, 1) :: ((1, 1) :: ((2, 1) :: ((3, 1) :: ((4, 1) :: []))))))) := by kernel_rfl
@[push_cast] theorem teq134 : EqOk Tryz.prog 134 ((.int .i64) :: ((.int .i64) :: ((.int .i64) :: ((.int .i64) :: (.str :: []))))) := EqOk.of (by kernel_rfl)
@[push_cast] theorem tbt134 : btT Tryz.prog 134 = .false := by kernel_rfl
@[push_cast] theorem tfl134_0 : flT Tryz.prog 134 0 = (some (0, (1, .false))) := by kernel_rfl
@[push_cast] theorem tfl134_1 : flT Tryz.prog 134 1 = (some (1, (1, .false))) := by kernel_rfl
@[push_cast] theorem tfl134_2 : flT Tryz.prog 134 2 = (some (2, (1, .false))) := by kernel_rfl
@[push_cast] theorem tfl134_3 : flT Tryz.prog 134 3 = (some (3, (1, .false))) := by kernel_rfl
@[push_cast] theorem tfl134_4 : flT Tryz.prog 134 4 = (some (4, (1, .false))) := by kernel_rfl
@[push_cast] theorem tld135 : ldT Tryz.prog 135 = (some (1, .false)) := by kernel_rfl
@[push_cast] theorem tkd135 : kdT Tryz.prog 135 = (some .slice) := by kernel_rfl
@[push_cast] theorem tsl135 : slT Tryz.prog 135 = (some (1, .false)) := by kernel_rfl
@[push_cast] theorem tap135 : apT Tryz.prog 135 = (some (1, 4)) := by kernel_rfl
@[push_cast] theorem tzb135 : zbT Tryz.prog 135 = (some (((.slice none 0 0) :: []), none)) := by kernel_rfl
@[push_cast] theorem tmk135 : mkT Tryz.prog 135 = (some (1, (4, (.lit (.int .i32 0))))) := by kernel_rfl
@[push_cast] theorem tzv135 : zvD Tryz.prog 135 = (some (.lit (.slice none 0 0))) := by kernel_rfl
@[push_cast] theorem tbt135 : btT Tryz.prog 135 = .false := by kernel_rfl
@[push_cast] theorem tld137 : ldT Tryz.prog 137 = (some (3, .true)) := by kernel_rfl
@[push_cast] theorem tkd137 : kdT Tryz.prog 137 = (some .other) := by kernel_rfl
@[push_cast] theorem tsl137 : slT Tryz.prog 137 = none := by kernel_rfl
@[push_cast] theorem tzb137 : zbT Tryz.prog 137 = (some (((.int .i64 0) :: ((.int .i64 0) :: ((.slice none 0 0) :: []))), none)) := by kernel_rfl
@[push_cast] theorem tzv137 : zvD Tryz.prog 137 = (some (.agg ((.lit (.int .i64 0)) :: ((.lit (.int .i64 0)) :: ((.lit (.slice none 0 0)) :: []))))) := by kernel_rfl
@[push_cast] theorem tbl137 : blT Tryz.prog 137 = (some (((.int .i64 0) :: ((.int .i64 0) :: ((.slice none 0 0) :: []))), ((0, 1) :: ((1, 1) :: ((2, 1) :: []))))) := by kernel_rfl
@[push_cast] theorem tbt137 : btT Tryz.prog 137 = .false := by kernel_rfl
@[push_cast] theorem tfl137_0 : flT Tryz.prog 137 0 = (some (0, (1, .false))) := by kernel_rfl
@[push_cast] theorem tfl137_1 : flT Tryz.prog 137 1 = (some (1, (1, .false))) := by kernel_rfl
@[push_cast] theorem tfl137_2 : flT Tryz.prog 137 2 = (some (2, (1, .false))) := by kernel_rfl
@[push_cast] theorem tld141 : ldT Tryz.prog 141 = (some (2, .true)) := by kernel_rfl
@[push_cast] theorem tkd141 : kdT Tryz.prog 141 = (some .other) := by kernel_rfl
@[push_cast] theorem tsl141 : slT Tryz.prog 141 = none := by kernel_rfl
@[push_cast] theorem tzb141 : zbT Tryz.prog 141 = (some (((.int .i64 0) :: ((.int .i64 0) :: [])), none)) := by kernel_rfl
@[push_cast] theorem tzv141 : zvD Tryz.prog 141 = (some (.agg ((.lit (.int .i64 0)) :: ((.lit (.int .i64 0)) :: [])))) := by kernel_rfl
@[push_cast] theorem tbl141 : blT Tryz.prog 141 = (some (((.int .i64 0) :: ((.int .i64 0) :: [])), ((0, 1) :: ((1, 1) :: [])))) := by kernel_rfl
@[push_cast] theorem teq141 : EqOk Tryz.prog 141 ((.int .i64) :: ((.int .i64) :: [])) := EqOk.of (by kernel_rfl)
@[push_cast] theorem tbt141 : btT Tryz.prog 141 = .false := by kernel_rfl
@[push_cast] theorem tfl141_0 : flT Tryz.prog 141 0 = (some (0, (1, .false))) := by kernel_rfl
@[push_cast] theorem tfl141_1 : flT Tryz.prog 141 1 = (some (1, (1, .false))) := by kernel_rfl
@[push_cast] theorem tld144 : ldT Tryz.prog 144 = (some (1, .false)) := by kernel_rfl
@[push_cast] theorem tkd144 : kdT Tryz.prog 144 = (some .slice) := by kernel_rfl
@[push_cast] theorem tsl144 : slT Tryz.prog 144 = (some (4, .true)) := by kernel_rfl
@[push_cast] theorem tap144 : apT Tryz.prog 144 = (some (4, 32)) := by kernel_rfl
@[push_cast] theorem tzb144 : zbT Tryz.prog 144 = (some (((.slice none 0 0) :: []), none)) := by kernel_rfl
@[push_cast] theorem tmk144 : mkT Tryz.prog 144 = (some (4, (32, (.agg ((.lit (.int .i64 0)) :: ((.lit (.int .i64 0)) :: ((.lit (.int .i64 0)) :: ((.lit (.int .i64 0)) :: [])))))))) := by kernel_rfl
@[push_cast] theorem tzv144 : zvD Tryz.prog 144 = (some (.lit (.slice none 0 0))) := by kernel_rfl
@[push_cast] theorem tbt144 : btT Tryz.prog 144 = .false := by kernel_rfl
@[push_cast] theorem tld147 : ldT Tryz.prog 147 = (some (4, .true)) := by kernel_rfl
@[push_cast] theorem tkd147 : kdT Tryz.prog 147 = (some .other) := by kernel_rfl
@[push_cast] theorem tsl147 : slT Tryz.prog 147 = none := by kernel_rfl
@[push_cast] theorem tzb147 : zbT Tryz.prog 147 = (some (((.int .i64 0) :: ((.int .i64 0) :: ((.int .i64 0) :: ((.int .i64 0) :: [])))), none)) := by kernel_rfl
@[push_cast] theorem tzv147 : zvD Tryz.prog 147 = (some (.agg ((.lit (.int .i64 0)) :: ((.lit (.int .i64 0)) :: ((.lit (.int .i64 0)) :: ((.lit (.int .i64 0)) :: [])))))) := by kernel_rfl
@[push_cast] theorem tbl147 : blT Tryz.prog 147 = (some (((.int .i64 0) :: ((.int .i64 0) :: ((.int .i64 0) :: ((.int .i64 0) :: [])))), ((0, 2) :: ((2, 2) :: [])))) := by kernel_rfl
@[push_cast] theorem teq147 : EqOk Tryz.prog 147 ((.int .i64) :: ((.int .i64) :: ((.int .i64) :: ((.int .i64) :: [])))) := EqOk.of (by kernel_rfl)
@[push_cast] theorem tbt147 : btT Tryz.prog 147 = .false := by kernel_rfl
@[push_cast] theorem tfl147_0 : flT Tryz.prog 147 0 = (some (0, (2, .true))) := by kernel_rfl
@[push_cast] theorem tfl147_1 : flT Tryz.prog 147 1 = (some (2, (2, .true))) := by kernel_rfl
@[push_cast] theorem tld151 : ldT Tryz.prog 151 = (some (2, .true)) := by kernel_rfl
@[push_cast] theorem tkd151 : kdT Tryz.prog 151 = (some .other) := by kernel_rfl
@[push_cast] theorem tsl151 : slT Tryz.prog 151 = none := by kernel_rfl
@[push_cast] theorem tzb151 : zbT Tryz.prog 151 = (some (((.int .i64 0) :: ((.slice none 0 0) :: [])), none)) := by kernel_rfl
@[push_cast] theorem tzv151 : zvD Tryz.prog 151 = (some (.agg ((.lit (.int .i64 0)) :: ((.lit (.slice none 0 0)) :: [])))) := by kernel_rfl
@[push_cast] theorem tbl151 : blT Tryz.prog 151 = (some (((.int .i64 0) :: ((.slice none 0 0) :: [])), ((0, 1) :: ((1, 1) :: [])))) := by kernel_rfl
@[push_cast] theorem tbt151 : btT Tryz.prog 151 = .false := by kernel_rfl
@[push_cast] theorem tfl151_0 : flT Tryz.prog 151 0 = (some (0, (1, .false))) := by kernel_rfl
@[push_cast] theorem tfl151_1 : flT Tryz.prog 151 1 = (some (1, (1, .false))) := by kernel_rfl
@[push_cast] theorem tld156 : ldT Tryz.prog 156 = (some (3, .true)) := by kernel_rfl
@[push_cast] theorem tkd156 : kdT Tryz.prog 156 = (some .other) := by kernel_rfl
@[push_cast] theorem tsl156 : slT Tryz.prog 156 = none := by kernel_rfl
@[push_cast] theorem tzb156 : zbT Tryz.prog 156 = (some (((.int .i64 0) :: ((.int .i64 0) :: ((.string ⟨⟨[]⟩⟩) :: []))), none)) := by kernel_rfl
@[push_cast] theorem tzv156 : zvD Tryz.prog 156 = (some (.agg ((.lit (.int .i64 0)) :: ((.lit (.int .i64 0)) :: ((.lit (.string ⟨⟨[]⟩⟩)) :: []))))) := by kernel_rfl
@[push_cast] theorem tbl156 : blT Tryz.prog 156 = (some (((.int .i64 0) :: ((.int .i64 0) :: ((.string ⟨⟨[]⟩⟩) :: []))), ((0, 1) :: ((1, 1) :: ((2, 1) :: []))))) := by kernel_rfl
@[push_cast] theorem teq156 : EqOk Tryz.prog 156 ((.int .i64) :: ((.int .i64) :: (.str :: []))) := EqOk.of (by kernel_rfl)
@[push_cast] theorem tbt156 : btT Tryz.prog 156 = .false := by kernel_rfl
@[push_cast] theorem tfl156_0 : flT Tryz.prog 156 0 = (some (0, (1, .false))) := by kernel_rfl
@[push_cast] theorem tfl156_1 : flT Tryz.prog 156 1 = (some (1, (1, .false))) := by kernel_rfl
@[push_cast] theorem tfl156_2 : flT Tryz.prog 156 2 = (some (2, (1, .false))) := by kernel_rfl
@[push_cast] theorem tld158 : ldT Tryz.prog 158 = (some (4, .true)) := by kernel_rfl
@[push_cast] theorem tkd158 : kdT Tryz.prog 158 = (some .other) := by kernel_rfl
@[push_cast] theorem tsl158 : slT Tryz.prog 158 = none := by kernel_rfl
@[push_cast] theorem tzb158 : zbT Tryz.prog 158 = (some (((.int .i64 0) :: ((.int .i64 0) :: ((.int .i64 0) :: ((.int .i64 0) :: [])))), none)) := by kernel_rfl
@[push_cast] theorem tzv158 : zvD Tryz.prog 158 = (some (.agg ((.lit (.int .i64 0)) :: ((.lit (.int .i64 0)) :: ((.lit (.int .i64 0)) :: ((.lit (.int .i64 0)) :: [])))))) := by kernel_rfl
@[push_cast] theorem tbl158 : blT Tryz.prog 158 = (some (((.int .i64 0) :: ((.int .i64 0) :: ((.int .i64 0) :: ((.int .i64 0) :: [])))), ((0, 1) :: ((1, 1) :: ((2, 1) :: ((3, 1) :: [])))))) := by kernel_rfl
@[push_cast] theorem teq158 : EqOk Tryz.prog 158 ((.int .i64) :: ((.int .i64) :: ((.int .i64) :: ((.int .i64) :: [])))) := EqOk.of (by kernel_rfl)
@[push_cast] theorem tbt158 : btT Tryz.prog 158 = .false := by kernel_rfl
@[push_cast] theorem tfl158_0 : flT Tryz.prog 158 0 = (some (0, (1, .false))) := by kernel_rfl
@[push_cast] theorem tfl158_1 : flT Tryz.prog 158 1 = (some (1, (1, .false))) := by kernel_rfl
@[push_cast] theorem tfl158_2 : flT Tryz.prog 158 2 = (some (2, (1, .false))) := by kernel_rfl
@[push_cast] theorem tfl158_3 : flT Tryz.prog 158 3 = (some (3, (1, .false))) := by kernel_rfl
@[push_cast] theorem tld160 : ldT Tryz.prog 160 = (some (5, .true)) := by kernel_rfl
@[push_cast] theorem tkd160 : kdT Tryz.prog 160 = (some .other) := by kernel_rfl
@[push_cast] theorem tsl160 : slT Tryz.prog 160 = none := by kernel_rfl
@[push_cast] theorem tzb160 : zbT Tryz.prog 160 = (some (((.pointer none) :: ((.pointer none) :: ((.pointer none) :: ((.int .i64 0) :: ((.int .i64 0) :: []))))), none)) := by kernel_rfl
@[push_cast] theorem tzv160 : zvD Tryz.prog 160 = (some (.agg ((.lit (.pointer none)) :: ((.lit (.pointer none)) :: ((.lit (.pointer none)) :: ((.lit (.int .i64 0)) :: ((.lit (.int .i64 0)) :: []))))))) := by kernel_rfl
@[push_cast] theorem tbl160 : blT Tryz.prog 160 = (some (((.pointer none) :: ((.pointer none) :: ((.pointer none) :: ((.int .i64 0) :: ((.int .i64 0) :: []))))), ((0, 5) :: []))) := by kernel_rfl
@[push_cast] theorem tbt160 : btT Tryz.prog 160 = .false := by kernel_rfl
@[push_cast] theorem tfl160_0 : flT Tryz.prog 160 0 = (some (0, (5, .true))) := by kernel_rfl
@[push_cast] theorem tld162 : ldT Tryz.prog 162 = (some (3, .true)) := by kernel_rfl
@[push_cast] theorem tkd162 : kdT Tryz.prog 162 = (some .other) := by kernel_rfl
@[push_cast] theorem tsl162 : slT Tryz.prog 162 = none := by kernel_rfl
@[push_cast] theorem tzb162 : zbT Tryz.prog 162 = (some (((.pointer none) :: ((.pointer none) :: ((.pointer none) :: []))), none)) := by kernel_rfl
@[push_cast] theorem tzv162 : zvD Tryz.prog 162 = (some (.agg ((.lit (.pointer none)) :: ((.lit (.pointer none)) :: ((.lit (.pointer none)) :: []))))) := by kernel_rfl
@[push_cast] theorem tbl162 : blT Tryz.prog 162 = (some (((.pointer none) :: ((.pointer none) :: ((.pointer none) :: []))), ((0, 3) :: []))) := by kernel_rfl
@[push_cast] theorem tbt162 : btT Tryz.prog 162 = .false := by kernel_rfl
@[push_cast] theorem tfl162_0 : flT Tryz.prog 162 0 = (some (0, (3, .true))) := by kernel_rfl
@[push_cast] theorem tld164 : ldT Tryz.prog 164 = (some (8, .true)) := by kernel_rfl
@[push_cast] theorem tkd164 : kdT Tryz.prog 164 = (some .other) := by kernel_rfl
@[push_cast] theorem tsl164 : slT Tryz.prog 164 = none := by kernel_rfl
@[push_cast] theorem tzb164 : zbT Tryz.prog 164 = (some (((.pointer none) :: ((.pointer none) :: ((.pointer none) :: ((.int .i64 0) :: ((.int .i64 0) :: ((.pointer none) :: ((.pointer none) :: ((.pointer none) :: [])))))))), none)) := by kernel_rfl
@[push_cast] theorem tzv164 : zvD Tryz.prog 164 = (some (.agg ((.lit (.pointer none)) :: ((.lit (.pointer none)) :: ((.lit (.pointer none)) :: ((.lit (.int .i64 0)) :: ((.lit (.int .i64 0)) :: ((.lit (.pointer none)) :: ((.lit (.pointer none)) :: ((.lit (.pointer none)) :: [])))))))))) := by kernel_rfl
@[push_cast] theorem tbl164 : blT Tryz.prog 164 = (some (((.pointer none) :: ((.pointer none) :: ((.pointer none) :: ((.int .i64 0) :: ((.int .i64 0) :: ((.pointer none) :: ((.pointer none) :: ((.pointer none) :: [])))))))), ((0, 5) :: ((5, 3) :: [])))) := by kernel_rfl
@[push_cast] theorem tbt164 : btT Tryz.prog 164 = .false := by kernel_rfl
@[push_cast] theorem tfl164_0 : flT Tryz.prog 164 0 = (some (0, (5, .true))) := by kernel_rfl
@[push_cast] theorem tfl164_1 : flT Tryz.prog 164 1 = (some (5, (3, .true))) := by kernel_rfl
@[push_cast] theorem tld167 : ldT Tryz.prog 167 = (some (5, .true)) := by kernel_rfl
@[push_cast] theorem tkd167 : kdT Tryz.prog 167 = (some .other) := by kernel_rfl
@[push_cast] theorem tsl167 : slT Tryz.prog 167 = none := by kernel_rfl
@[push_cast] theorem tzb167 : zbT Tryz.prog 167 = (some (((.int .i64 0) :: ((.int .i64 0) :: ((.int .i64 0) :: ((.int .i64 0) :: ((.int .i64 0) :: []))))), none)) := by kernel_rfl
@[push_cast] theorem tzv167 : zvD Tryz.prog 167 = (some (.agg ((.lit (.int .i64 0)) :: ((.lit (.int .i64 0)) :: ((.lit (.int .i64 0)) :: ((.lit (.int .i64 0)) :: ((.lit (.int .i64 0)) :: []))))))) := by kernel_rfl
@[push_cast] theorem tbl167 : blT Tryz.prog 167 = (some (((.int .i64 0) :: ((.int .i64 0) :: ((.int .i64 0) :: ((.int .i64 0) :: ((.int .i64 0) :: []))))), ((0, 1) :: ((1, 1) :: ((2, 1) :: ((3, 1) :: ((4, 1) :: []))))))) := by kernel_rfl
@[push_cast] theorem teq167 : EqOk Tryz.prog 167 ((.int .i64) :: ((.int .i64) :: ((.int .i64) :: ((.int .i64) :: ((.int .i64) :: []))))) := EqOk.of (by kernel_rfl)
@[push_cast] theorem tbt167 : btT Tryz.prog 167 = .false := by kernel_rfl
@[push_cast] theorem tfl167_0 : flT Tryz.prog 167 0 = (some (0, (1, .false))) := by kernel_rfl
@[push_cast] theorem tfl167_1 : flT Tryz.prog 167 1 = (some (1, (1, .false))) := by kernel_rfl
@[push_cast] theorem tfl167_2 : flT Tryz.prog 167 2 = (some (2, (1, .false))) := by kernel_rfl
@[push_cast] theorem tfl167_3 : flT Tryz.prog 167 3 = (some (3, (1, .false))) := by kernel_rfl
@[push_cast] theorem tfl167_4 : flT Tryz.prog 167 4 = (some (4, (1, .false))) := by kernel_rfl
@[push_cast] theorem tld175 : ldT Tryz.prog 175 = (some (1, .false)) := by kernel_rfl
@[push_cast] theorem tkd175 : kdT Tryz.prog 175 = (some .slice) := by kernel_rfl
@[push_cast] theorem tsl175 : slT Tryz.prog 175 = (some (2, .true)) := by kernel_rfl
@[push_cast] theorem tap175 : apT Tryz.prog 175 = (some (2, 16)) := by kernel_rfl
@[push_cast] theorem tzb175 : zbT Tryz.prog 175 = (some (((.slice none 0 0) :: []), none)) := by kernel_rfl
@[push_cast] theorem tmk175 : mkT Tryz.prog 175 = (some (2, (16, (.agg ((.lit (.int .i64 0)) :: ((.lit (.int .i64 0)) :: [])))))) := by kernel_rfl
@[push_cast] theorem tzv175 : zvD Tryz.prog 175 = (some (.lit (.slice none 0 0))) := by kernel_rfl
@[push_cast] theorem tbt175 : btT Tryz.prog 175 = .false := by kernel_rfl
@[push_cast] theorem tld177 : ldT Tryz.prog 177 = (some (2, .true)) := by kernel_rfl
@[push_cast] theorem tkd177 : kdT Tryz.prog 177 = (some .other) := by kernel_rfl
@[push_cast] theorem tsl177 : slT Tryz.prog 177 = none := by kernel_rfl
@[push_cast] theorem tzb177 : zbT Tryz.prog 177 = (some (((.int .i64 0) :: ((.int .i64 0) :: [])), none)) := by kernel_rfl
@[push_cast] theorem tzv177 : zvD Tryz.prog 177 = (some (.agg ((.lit (.int .i64 0)) :: ((.lit (.int .i64 0)) :: [])))) := by kernel_rfl
@[push_cast] theorem tbl177 : blT Tryz.prog 177 = (some (((.int .i64 0) :: ((.int .i64 0) :: [])), ((0, 1) :: ((1, 1) :: [])))) := by kernel_rfl
@[push_cast] theorem teq177 : EqOk Tryz.prog 177 ((.int .i64) :: ((.int .i64) :: [])) := EqOk.of (by kernel_rfl)
@[push_cast] theorem tbt177 : btT Tryz.prog 177 = .false := by kernel_rfl
@[push_cast] theorem tfl177_0 : flT Tryz.prog 177 0 = (some (0, (1, .false))) := by kernel_rfl
@[push_cast] theorem tfl177_1 : flT Tryz.prog 177 1 = (some (1, (1, .false))) := by kernel_rfl
@[push_cast] theorem tld180 : ldT Tryz.prog 180 = (some (1, .false)) := by kernel_rfl
@[push_cast] theorem tkd180 : kdT Tryz.prog 180 = (some .slice) := by kernel_rfl
@[push_cast] theorem tsl180 : slT Tryz.prog 180 = (some (2, .true)) := by kernel_rfl
@[push_cast] theorem tap180 : apT Tryz.prog 180 = (some (2, 16)) := by kernel_rfl
@[push_cast] theorem tzb180 : zbT Tryz.prog 180 = (some (((.slice none 0 0) :: []), none)) := by kernel_rfl
@[push_cast] theorem tmk180 : mkT Tryz.prog 180 = (some (2, (16, (.agg ((.lit (.int .i64 0)) :: ((.lit (.int .i64 0)) :: [])))))) := by kernel_rfl
@[push_cast] theorem tzv180 : zvD Tryz.prog 180 = (some (.lit (.slice none 0 0))) := by kernel_rfl
@[push_cast] theorem tbt180 : btT Tryz.prog 180 = .false := by kernel_rfl
@[push_cast] theorem tld182 : ldT Tryz.prog 182 = (some (2, .true)) := by kernel_rfl
@[push_cast] theorem tkd182 : kdT Tryz.prog 182 = (some .other) := by kernel_rfl
@[push_cast] theorem tsl182 : slT Tryz.prog 182 = none := by kernel_rfl
@[push_cast] theorem tzb182 : zbT Tryz.prog 182 = (some (((.int .i64 0) :: ((.int .i64 0) :: [])), none)) := by kernel_rfl
@[push_cast] theorem tzv182 : zvD Tryz.prog 182 = (some (.agg ((.lit (.int .i64 0)) :: ((.lit (.int .i64 0)) :: [])))) := by kernel_rfl
@[push_cast] theorem tbl182 : blT Tryz.prog 182 = (some (((.int .i64 0) :: ((.int .i64 0) :: [])), ((0, 1) :: ((1, 1) :: [])))) := by kernel_rfl
@[push_cast] theorem teq182 : EqOk Tryz.prog 182 ((.int .i64) :: ((.int .i64) :: [])) := EqOk.of (by kernel_rfl)
@[push_cast] theorem tbt182 : btT Tryz.prog 182 = .false := by kernel_rfl
@[push_cast] theorem tfl182_0 : flT Tryz.prog 182 0 = (some (0, (1, .false))) := by kernel_rfl
@[push_cast] theorem tfl182_1 : flT Tryz.prog 182 1 = (some (1, (1, .false))) := by kernel_rfl
@[push_cast] theorem tld187 : ldT Tryz.prog 187 = (some (3, .true)) := by kernel_rfl
@[push_cast] theorem tkd187 : kdT Tryz.prog 187 = (some .other) := by kernel_rfl
@[push_cast] theorem tsl187 : slT Tryz.prog 187 = none := by kernel_rfl
@[push_cast] theorem tar187 : arT Tryz.prog 187 = (some (3, (1, .false))) := by kernel_rfl
@[push_cast] theorem tzb187 : zbT Tryz.prog 187 = (some (((.int .i64 0) :: ((.int .i64 0) :: ((.int .i64 0) :: []))), none)) := by kernel_rfl
@[push_cast] theorem tzv187 : zvD Tryz.prog 187 = (some (.agg ((.lit (.int .i64 0)) :: ((.lit (.int .i64 0)) :: ((.lit (.int .i64 0)) :: []))))) := by kernel_rfl
@[push_cast] theorem tbl187 : blT Tryz.prog 187 = (some (((.int .i64 0) :: ((.int .i64 0) :: ((.int .i64 0) :: []))), ((0, 1) :: ((1, 1) :: ((2, 1) :: []))))) := by kernel_rfl
@[push_cast] theorem tbt187 : btT Tryz.prog 187 = .false := by kernel_rfl
@[push_cast] theorem tld189 : ldT Tryz.prog 189 = (some (6, .true)) := by kernel_rfl
@[push_cast] theorem tkd189 : kdT Tryz.prog 189 = (some .other) := by kernel_rfl
@[push_cast] theorem tsl189 : slT Tryz.prog 189 = none := by kernel_rfl
@[push_cast] theorem tzb189 : zbT Tryz.prog 189 = (some (((.int .i64 0) :: ((.int .i64 0) :: ((.int .i64 0) :: ((.int .i64 0) :: ((.int .i64 0) :: ((.int .i64 0) :: [])))))), none)) := by kernel_rfl
@[push_cast] theorem tzv189 : zvD Tryz.prog 189 = (some (.agg ((.lit (.int .i64 0)) :: ((.lit (.int .i64 0)) :: ((.lit (.int .i64 0)) :: ((.lit (.int .i64 0)) :: ((.lit (.int .i64 0)) :: ((.lit (.int .i64 0)) :: [])))))))) := by kernel_rfl
@[push_cast] theorem tbl189 : blT Tryz.prog 189 = (some (((.int .i64 0) :: ((.int .i64 0) :: ((.int .i64 0) :: ((.int .i64 0) :: ((.int .i64 0) :: ((.int .i64 0) :: [])))))), ((0, 1) :: ((1, 3) :: ((4, 1) :: ((5, 1) :: [])))))) := by kernel_rfl
@[push_cast] theorem tbt189 : btT Tryz.prog 189 = .false := by kernel_rfl
@[push_cast] theorem tfl189_0 : flT Tryz.prog 189 0 = (some (0, (1, .false))) := by kernel_rfl
@[push_cast] theorem tfl189_1 : flT Tryz.prog 189 1 = (some (1, (3, .true))) := by kernel_rfl
@[push_cast] theorem tfl189_2 : flT Tryz.prog 189 2 = (some (4, (1, .false))) := by kernel_rfl
@[push_cast] theorem tfl189_3 : flT Tryz.prog 189 3 = (some (5, (1, .false))) := by kernel_rfl
@[push_cast] theorem tld190 : ldT Tryz.prog 190 = (some (1, .false)) := by kernel_rfl
@[push_cast] theorem tkd190 : kdT Tryz.prog 190 = (some .pointer) := by kernel_rfl
@[push_cast] theorem tsl190 : slT Tryz.prog 190 = none := by kernel_rfl
@[push_cast] theorem tzb190 : zbT Tryz.prog 190 = (some (((.pointer none) :: []), none)) := by kernel_rfl
@[push_cast] theorem tzv190 : zvD Tryz.prog 190 = (some (.lit (.pointer none))) := by kernel_rfl
@[push_cast] theorem tbt190 : btT Tryz.prog 190 = .false := by kernel_rfl
@[push_cast] theorem tld197 : ldT Tryz.prog 197 = (some (1, .false)) := by kernel_rfl
@[push_cast] theorem tkd197 : kdT Tryz.prog 197 = (some .slice) := by kernel_rfl
@[push_cast] theorem tsl197 : slT Tryz.prog 197 = (some (4, .true)) := by kernel_rfl
@[push_cast] theorem tap197 : apT Tryz.prog 197 = (some (4, 32)) := by kernel_rfl
@[push_cast] theorem tzb197 : zbT Tryz.prog 197 = (some (((.slice none 0 0) :: []), none)) := by kernel_rfl
@[push_cast] theorem tmk197 : mkT Tryz.prog 197 = (some (4, (32, (.agg ((.lit (.int .i32 0)) :: ((.lit (.int .i64 0)) :: ((.lit (.int .i64 0)) :: ((.lit (.int .i64 0)) :: [])))))))) := by kernel_rfl
@[push_cast] theorem tzv197 : zvD Tryz.prog 197 = (some (.lit (.slice none 0 0))) := by kernel_rfl
@[push_cast] theorem tbt197 : btT Tryz.prog 197 = .false := by kernel_rfl
@[push_cast] theorem tld199 : ldT Tryz.prog 199 = (some (7, .true)) := by kernel_rfl
@[push_cast] theorem tkd199 : kdT Tryz.prog 199 = (some .other) := by kernel_rfl
@[push_cast] theorem tsl199 : slT Tryz.prog 199 = none := by kernel_rfl
@[push_cast] theorem tzb199 : zbT Tryz.prog 199 = (some (((.slice none 0 0) :: ((.int .i64 0) :: ((.int .i64 0) :: ((.int .i64 0) :: ((.bool .false) :: ((.bool .false) :: ((.int .i64 0) :: []))))))), none)) := by kernel_rfl
@[push_cast] theorem tzv199 : zvD Tryz.prog 199 = (some (.agg ((.lit (.slice none 0 0)) :: ((.lit (.int .i64 0)) :: ((.lit (.int .i64 0)) :: ((.lit (.int .i64 0)) :: ((.lit (.bool .false)) :: ((.lit (.bool .false)) :: ((.lit (.int .i64 0)) :: []))))))))) := by kernel_rfl
@[push_cast] theorem tbl199 : blT Tryz.prog 199 = (some (((.slice none 0 0) :: ((.int .i64 0) :: ((.int .i64 0) :: ((.int .i64 0) :: ((.bool .false) :: ((.bool .false) :: ((.int .i64 0) :: []))))))), ((0, 1) :: ((1, 1) :: ((2, 1) :: ((3, 1) :: ((4, 1) :: ((5, 1) :: ((6, 1) :: []))))))))) := by kernel_rfl
@[push_cast] theorem tbt199 : btT Tryz.prog 199 = .false := by kernel_rfl
@[push_cast] theorem tfl199_0 : flT Tryz.prog 199 0 = (some (0, (1, .false))) := by kernel_rfl
@[push_cast] theorem tfl199_1 : flT Tryz.prog 199 1 = (some (1, (1, .false))) := by kernel_rfl
@[push_cast] theorem tfl199_2 : flT Tryz.prog 199 2 = (some (2, (1, .false))) := by kernel_rfl
@[push_cast] theorem tfl199_3 : flT Tryz.prog 199 3 = (some (3, (1, .false))) := by kernel_rfl
@[push_cast] theorem tfl199_4 : flT Tryz.prog 199 4 = (some (4, (1, .false))) := by kernel_rfl
@[push_cast] theorem tfl199_5 : flT Tryz.prog 199 5 = (some (5, (1, .false))) := by kernel_rfl
@[push_cast] theorem tfl199_6 : flT Tryz.prog 199 6 = (some (6, (1, .false))) := by kernel_rfl
@[push_cast] theorem tld201 : ldT Tryz.prog 201 = (some (1, .true)) := by kernel_rfl
@[push_cast] theorem tkd201 : kdT Tryz.prog 201 = (some .other) := by kernel_rfl
@[push_cast] theorem tsl201 : slT Tryz.prog 201 = none := by kernel_rfl
@[push_cast] theorem tzb201 : zbT Tryz.prog 201 = (some (((.int .i64 0) :: []), none)) := by kernel_rfl
@[push_cast] theorem tzv201 : zvD Tryz.prog 201 = (some (.agg ((.lit (.int .i64 0)) :: []))) := by kernel_rfl
@[push_cast] theorem tbl201 : blT Tryz.prog 201 = (some (((.int .i64 0) :: []), ((0, 1) :: []))) := by kernel_rfl
@[push_cast] theorem teq201 : EqOk Tryz.prog 201 ((.int .i64) :: []) := EqOk.of (by kernel_rfl)
@[push_cast] theorem tbt201 : btT Tryz.prog 201 = .false := by kernel_rfl
@[push_cast] theorem tfl201_0 : flT Tryz.prog 201 0 = (some (0, (1, .false))) := by kernel_rfl
@[push_cast] theorem tld206 : ldT Tryz.prog 206 = (some (1, .false)) := by kernel_rfl
@[push_cast] theorem tkd206 : kdT Tryz.prog 206 = (some .func) := by kernel_rfl
@[push_cast] theorem tsl206 : slT Tryz.prog 206 = none := by kernel_rfl
@[push_cast] theorem tzb206 : zbT Tryz.prog 206 = (some ((.nilFunc :: []), none)) := by kernel_rfl
@[push_cast] theorem tzv206 : zvD Tryz.prog 206 = (some (.lit .nilFunc)) := by kernel_rfl
@[push_cast] theorem tbt206 : btT Tryz.prog 206 = .false := by kernel_rfl
@[push_cast] theorem tld223 : ldT Tryz.prog 223 = (some (8, .true)) := by kernel_rfl
@[push_cast] theorem tkd223 : kdT Tryz.prog 223 = (some .other) := by kernel_rfl
@[push_cast] theorem tsl223 : slT Tryz.prog 223 = none := by kernel_rfl
@[push_cast] theorem tzb223 : zbT Tryz.prog 223 = (some (((.pointer none) :: ((.pointer none) :: ((.pointer none) :: ((.pointer none) :: ((.slice none 0 0) :: ((.int .i64 0) :: ((.int .i64 0) :: ((.int .i64 0) :: [])))))))), none)) := by kernel_rfl
@[push_cast] theorem tzv223 : zvD Tryz.prog 223 = (some (.agg ((.lit (.pointer none)) :: ((.lit (.pointer none)) :: ((.lit (.pointer none)) :: ((.lit (.pointer none)) :: ((.lit (.slice none 0 0)) :: ((.lit (.int .i64 0)) :: ((.lit (.int .i64 0)) :: ((.lit (.int .i64 0)) :: [])))))))))) := by kernel_rfl
@[push_cast] theorem tbl223 : blT Tryz.prog 223 = (some (((.pointer none) :: ((.pointer none) :: ((.pointer none) :: ((.pointer none) :: ((.slice none 0 0) :: ((.int .i64 0) :: ((.int .i64 0) :: ((.int .i64 0) :: [])))))))), ((0, 1) :: ((1, 1) :: ((2, 1) :: ((3, 1) :: ((4, 1) :: ((5, 1) :: ((6, 1) :: ((7, 1) :: [])))))))))) := by kernel_rfl
@[push_cast] theorem tbt223 : btT Tryz.prog 223 = .false := by kernel_rfl
@[push_cast] theorem tfl223_0 : flT Tryz.prog 223 0 = (some (0, (1, .false))) := by kernel_rfl
@[push_cast] theorem tfl223_1 : flT Tryz.prog 223 1 = (some (1, (1, .false))) := by kernel_rfl
@[push_cast] theorem tfl223_2 : flT Tryz.prog 223 2 = (some (2, (1, .false))) := by kernel_rfl
@[push_cast] theorem tfl223_3 : flT Tryz.prog 223 3 = (some (3, (1, .false))) := by kernel_rfl
@[push_cast] theorem tfl223_4 : flT Tryz.prog 223 4 = (some (4, (1, .false))) := by kernel_rfl
@[push_cast] theorem tfl223_5 : flT Tryz.prog 223 5 = (some (5, (1, .false))) := by kernel_rfl
@[push_cast] theorem tfl223_6 : flT Tryz.prog 223 6 = (some (6, (1, .false))) := by kernel_rfl
@[push_cast] theorem tfl223_7 : flT Tryz.prog 223 7 = (some (7, (1, .false))) := by kernel_rfl
@[push_cast] theorem tld227 : ldT Tryz.prog 227 = (some (4, .true)) := by kernel_rfl
@[push_cast] theorem tkd227 : kdT Tryz.prog 227 = (some .other) := by kernel_rfl
@[push_cast] theorem tsl227 : slT Tryz.prog 227 = none := by kernel_rfl
@[push_cast] theorem tzb227 : zbT Tryz.prog 227 = (some (((.pointer none) :: ((.int .i64 0) :: ((.int .i64 0) :: ((.int .i64 0) :: [])))), none)) := by kernel_rfl
@[push_cast] theorem tzv227 : zvD Tryz.prog 227 = (some (.agg ((.lit (.pointer none)) :: ((.lit (.int .i64 0)) :: ((.lit (.int .i64 0)) :: ((.lit (.int .i64 0)) :: [])))))) := by kernel_rfl
@[push_cast] theorem tbl227 : blT Tryz.prog 227 = (some (((.pointer none) :: ((.int .i64 0) :: ((.int .i64 0) :: ((.int .i64 0) :: [])))), ((0, 1) :: ((1, 1) :: ((2, 1) :: ((3, 1) :: [])))))) := by kernel_rfl
@[push_cast] theorem tbt227 : btT Tryz.prog 227 = .false := by kernel_rfl
@[push_cast] theorem tfl227_0 : flT Tryz.prog 227 0 = (some (0, (1, .false))) := by kernel_rfl
@[push_cast] theorem tfl227_1 : flT Tryz.prog 227 1 = (some (1, (1, .false))) := by kernel_rfl
@[push_cast] theorem tfl227_2 : flT Tryz.prog 227 2 = (some (2, (1, .false))) := by kernel_rfl
@[push_cast] theorem tfl227_3 : flT Tryz.prog 227 3 = (some (3, (1, .false))) := by kernel_rfl
@[push_cast] theorem tld232 : ldT Tryz.prog 232 = (some (4, .true)) := by kernel_rfl
@[push_cast] theorem tkd232 : kdT Tryz.prog 232 = (some .other) := by kernel_rfl
@[push_cast] theorem tsl232 : slT Tryz.prog 232 = none := by kernel_rfl
@[push_cast] theorem tzb232 : zbT Tryz.prog 232 = (some (((.int .i64 0) :: ((.int .i64 0) :: ((.int .i64 0) :: ((.bool .false) :: [])))), none)) := by kernel_rfl
@[push_cast] theorem tzv232 : zvD Tryz.prog 232 = (some (.agg ((.lit (.int .i64 0)) :: ((.lit (.int .i64 0)) :: ((.lit (.int .i64 0)) :: ((.lit (.bool .false)) :: [])))))) := by kernel_rfl
@[push_cast] theorem tbl232 : blT Tryz.prog 232 = (some (((.int .i64 0) :: ((.int .i64 0) :: ((.int .i64 0) :: ((.bool .false) :: [])))), ((0, 1) :: ((1, 1) :: ((2, 1) :: ((3, 1) :: [])))))) := by kernel_rfl
@[push_cast] theorem teq232 : EqOk Tryz.prog 232 ((.int .i64) :: ((.int .i64) :: ((.int .i64) :: (.bool :: [])))) := EqOk.of (by kernel_rfl)
@[push_cast] theorem tbt232 : btT Tryz.prog 232 = .false := by kernel_rfl
@[push_cast] theorem tfl232_0 : flT Tryz.prog 232 0 = (some (0, (1, .false))) := by kernel_rfl
@[push_cast] theorem tfl232_1 : flT Tryz.prog 232 1 = (some (1, (1, .false))) := by kernel_rfl
@[push_cast] theorem tfl232_2 : flT Tryz.prog 232 2 = (some (2, (1, .false))) := by kernel_rfl
@[push_cast] theorem tfl232_3 : flT Tryz.prog 232 3 = (some (3, (1, .false))) := by kernel_rfl
@[push_cast] theorem tld234 : ldT Tryz.prog 234 = (some (1, .false)) := by kernel_rfl
@[push_cast] theorem tkd234 : kdT Tryz.prog 234 = (some .slice) := by kernel_rfl
@[push_cast] theorem tsl234 : slT Tryz.prog 234 = (some (6, .true)) := by kernel_rfl
@[push_cast] theorem tap234 : apT Tryz.prog 234 = (some (6, 48)) := by kernel_rfl
@[push_cast] theorem tzb234 : zbT Tryz.prog 234 = (some (((.slice none 0 0) :: []), none)) := by kernel_rfl
@[push_cast] theorem tmk234 : mkT Tryz.prog 234 = (some (6, (48, (.agg ((.lit (.int .i64 0)) :: ((.lit (.int .i64 0)) :: ((.lit (.int .i64 0)) :: ((.lit (.bool .false)) :: ((.lit (.int .i64 0)) :: ((.lit (.int .i64 0)) :: [])))))))))) := by kernel_rfl
@[push_cast] theorem tzv234 : zvD Tryz.prog 234 = (some (.lit (.slice none 0 0))) := by kernel_rfl
@[push_cast] theorem tbt234 : btT Tryz.prog 234 = .false := by kernel_rfl
@[push_cast] theorem tld236 : ldT Tryz.prog 236 = (some (2, .true)) := by kernel_rfl
@[push_cast] theorem tkd236 : kdT Tryz.prog 236 = (some .other) := by kernel_rfl
@[push_cast] theorem tsl236 : slT Tryz.prog 236 = none := by kernel_rfl
@[push_cast] theorem tzb236 : zbT Tryz.prog 236 = (some (((.slice none 0 0) :: ((.int .i64 0) :: [])), none)) := by kernel_rfl
@[push_cast] theorem tzv236 : zvD Tryz.prog 236 = (some (.agg ((.lit (.slice none 0 0)) :: ((.lit (.int .i64 0)) :: [])))) := by kernel_rfl
@[push_cast] theorem tbl236 : blT Tryz.prog 236 = (some (((.slice none 0 0) :: ((.int .i64 0) :: [])), ((0, 1) :: ((1, 1) :: [])))) := by kernel_rfl
@[push_cast] theorem tbt236 : btT Tryz.prog 236 = .false := by kernel_rfl
@[push_cast] theorem tfl236_0 : flT Tryz.prog 236 0 = (some (0, (1, .false))) := by kernel_rfl
@[push_cast] theorem tfl236_1 : flT Tryz.prog 236 1 = (some (1, (1, .false))) := by kernel_rfl
@[push_cast] theorem tld238 : ldT Tryz.prog 238 = (some (6, .true)) := by kernel_rfl
@[push_cast] theorem tkd238 : kdT Tryz.prog 238 = (some .other) := by kernel_rfl
@[push_cast] theorem tsl238 : slT Tryz.prog 238 = none := by kernel_rfl
@[push_cast] theorem tzb238 : zbT Tryz.prog 238 = (some (((.int .i64 0) :: ((.int .i64 0) :: ((.int .i64 0) :: ((.bool .false) :: ((.int .i64 0) :: ((.int .i64 0) :: [])))))), none)) := by kernel_rfl
@[push_cast] theorem tzv238 : zvD Tryz.prog 238 = (some (.agg ((.lit (.int .i64 0)) :: ((.lit (.int .i64 0)) :: ((.lit (.int .i64 0)) :: ((.lit (.bool .false)) :: ((.lit (.int .i64 0)) :: ((.lit (.int .i64 0)) :: [])))))))) := by kernel_rfl
@[push_cast] theorem tbl238 : blT Tryz.prog 238 = (some (((.int .i64 0) :: ((.int .i64 0) :: ((.int .i64 0) :: ((.bool .false) :: ((.int .i64 0) :: ((.int .i64 0) :: [])))))), ((0, 4) :: ((4, 1) :: ((5, 1) :: []))))) := by kernel_rfl
@[push_cast] theorem teq238 : EqOk Tryz.prog 238 ((.int .i64) :: ((.int .i64) :: ((.int .i64) :: (.bool :: ((.int .i64) :: ((.int .i64) :: [])))))) := EqOk.of (by kernel_rfl)
@[push_cast] theorem tbt238 : btT Tryz.prog 238 = .false := by kernel_rfl
@[push_cast] theorem tfl238_0 : flT Tryz.prog 238 0 = (some (0, (4, .true))) := by kernel_rfl
@[push_cast] theorem tfl238_1 : flT Tryz.prog 238 1 = (some (4, (1, .false))) := by kernel_rfl
@[push_cast] theorem tfl238_2 : flT Tryz.prog 238 2 = (some (5, (1, .false))) := by kernel_rfl
@[push_cast] theorem tld239 : ldT Tryz.prog 239 = (some (1, .false)) := by kernel_rfl
@[push_cast] theorem tkd239 : kdT Tryz.prog 239 = (some .func) := by kernel_rfl
@[push_cast] theorem tsl239 : slT Tryz.prog 239 = none := by kernel_rfl
@[push_cast] theorem tzb239 : zbT Tryz.prog 239 = (some ((.nilFunc :: []), none)) := by kernel_rfl
@[push_cast] theorem tzv239 : zvD Tryz.prog 239 = (some (.lit .nilFunc)) := by kernel_rfl
@[push_cast] theorem tbt239 : btT Tryz.prog 239 = .false := by kernel_rfl
@[push_cast] theorem tld243 : ldT Tryz.prog 243 = (some (1, .false)) := by kernel_rfl
@[push_cast] theorem tkd243 : kdT Tryz.prog 243 = (some .func) := by kernel_rfl
@[push_cast] theorem tsl243 : slT Tryz.prog 243 = none := by kernel_rfl
@[push_cast] theorem tzb243 : zbT Tryz.prog 243 = (some ((.nilFunc :: []), none)) := by kernel_rfl
@[push_cast] theorem tzv243 : zvD Tryz.prog 243 = (some (.lit .nilFunc)) := by kernel_rfl
@[push_cast] theorem tbt243 : btT Tryz.prog 243 = .false := by kernel_rfl
@[push_cast] theorem tld246 : ldT Tryz.prog 246 = (some (2, .true)) := by kernel_rfl
@[push_cast] theorem tkd246 : kdT Tryz.prog 246 = (some .other) := by kernel_rfl
@[push_cast] theorem tsl246 : slT Tryz.prog 246 = none := by kernel_rfl
@[push_cast] theorem tzb246 : zbT Tryz.prog 246 = (some (((.int .i64 0) :: ((.slice none 0 0) :: [])), none)) := by kernel_rfl
@[push_cast] theorem tzv246 : zvD Tryz.prog 246 = (some (.agg ((.lit (.int .i64 0)) :: ((.lit (.slice none 0 0)) :: [])))) := by kernel_rfl
@[push_cast] theorem tbl246 : blT Tryz.prog 246 = (some (((.int .i64 0) :: ((.slice none 0 0) :: [])), ((0, 1) :: ((1, 1) :: [])))) := by kernel_rfl
@[push_cast] theorem tbt246 : btT Tryz.prog 246 = .false := by kernel_rfl
@[push_cast] theorem tfl246_0 : flT Tryz.prog 246 0 = (some (0, (1, .false))) := by kernel_rfl
@[push_cast] theorem tfl246_1 : flT Tryz.prog 246 1 = (some (1, (1, .false))) := by kernel_rfl
@[push_cast] theorem tld262 : ldT Tryz.prog 262 = (some (1, .false)) := by kernel_rfl
@[push_cast] theorem tkd262 : kdT Tryz.prog 262 = (some .func) := by kernel_rfl
@[push_cast] theorem tsl262 : slT Tryz.prog 262 = none := by kernel_rfl
@[push_cast] theorem tzb262 : zbT Tryz.prog 262 = (some ((.nilFunc :: []), none)) := by kernel_rfl
@[push_cast] theorem tzv262 : zvD Tryz.prog 262 = (some (.lit .nilFunc)) := by kernel_rfl
@[push_cast] theorem tbt262 : btT Tryz.prog 262 = .false := by kernel_rfl
@[push_cast] theorem tld268 : ldT Tryz.prog 268 = (some (1, .false)) := by kernel_rfl
@[push_cast] theorem tkd268 : kdT Tryz.prog 268 = (some .func) := by kernel_rfl
@[push_cast] theorem tsl268 : slT Tryz.prog 268 = none := by kernel_rfl
@[push_cast] theorem tzb268 : zbT Tryz.prog 268 = (some ((.nilFunc :: []), none)) := by kernel_rfl
@[push_cast] theorem tzv268 : zvD Tryz.prog 268 = (some (.lit .nilFunc)) := by kernel_rfl
@[push_cast] theorem tbt268 : btT Tryz.prog 268 = .false := by kernel_rfl
@[push_cast] theorem tld272 : ldT Tryz.prog 272 = (some (1, .false)) := by kernel_rfl
@[push_cast] theorem tkd272 : kdT Tryz.prog 272 = (some .slice) := by kernel_rfl
@[push_cast] theorem tsl272 : slT Tryz.prog 272 = (some (7, .true)) := by kernel_rfl
@[push_cast] theorem tap272 : apT Tryz.prog 272 = (some (7, 64)) := by kernel_rfl
@[push_cast] theorem tzb272 : zbT Tryz.prog 272 = (some (((.slice none 0 0) :: []), none)) := by kernel_rfl
@[push_cast] theorem tmk272 : mkT Tryz.prog 272 = (some (7, (64, (.agg ((.lit (.int .i64 0)) :: ((.lit (.int .i64 0)) :: ((.lit (.int .i64 0)) :: ((.lit (.int .i64 0)) :: ((.lit (.int .i64 0)) :: ((.lit (.int .i64 0)) :: ((.lit (.string ⟨⟨[]⟩⟩)) :: []))))))))))) := by kernel_rfl
@[push_cast] theorem tzv272 : zvD Tryz.prog 272 = (some (.lit (.slice none 0 0))) := by kernel_rfl
@[push_cast] theorem tbt272 : btT Tryz.prog 272 = .false := by kernel_rfl
@[push_cast] theorem tld275 : ldT Tryz.prog 275 = (some (1, .true)) := by kernel_rfl
@[push_cast] theorem tkd275 : kdT Tryz.prog 275 = (some .other) := by kernel_rfl
@[push_cast] theorem tsl275 : slT Tryz.prog 275 = none := by kernel_rfl
@[push_cast] theorem tzb275 : zbT Tryz.prog 275 = (some (((.pointer none) :: []), none)) := by kernel_rfl
@[push_cast] theorem tzv275 : zvD Tryz.prog 275 = (some (.agg ((.lit (.pointer none)) :: []))) := by kernel_rfl
@[push_cast] theorem tbl275 : blT Tryz.prog 275 = (some (((.pointer none) :: []), ((0, 1) :: []))) := by kernel_rfl
@[push_cast] theorem tbt275 : btT Tryz.prog 275 = .false := by kernel_rfl
@[push_cast] theorem tfl275_0 : flT Tryz.prog 275 0 = (some (0, (1, .false))) := by kernel_rfl
@[push_cast] theorem tld277 : ldT Tryz.prog 277 = (some (2, .true)) := by kernel_rfl
@[push_cast] theorem tkd277 : kdT Tryz.prog 277 = (some .other) := by kernel_rfl
@[push_cast] theorem tsl277 : slT Tryz.prog 277 = none := by kernel_rfl
@[push_cast] theorem tzb277 : zbT Tryz.prog 277 = (some (((.int .i64 0) :: ((.slice none 0 0) :: [])), none)) := by kernel_rfl
@[push_cast] theorem tzv277 : zvD Tryz.prog 277 = (some (.agg ((.lit (.int .i64 0)) :: ((.lit (.slice none 0 0)) :: [])))) := by kernel_rfl
@[push_cast] theorem tbl277 : blT Tryz.prog 277 = (some (((.int .i64 0) :: ((.slice none 0 0) :: [])), ((0, 1) :: ((1, 1) :: [])))) := by kernel_rfl
@[push_cast] theorem tbt277 : btT Tryz.prog 277 = .false := by kernel_rfl
@[push_cast] theorem tfl277_0 : flT Tryz.prog 277 0 = (some (0, (1, .false))) := by kernel_rfl
@[push_cast] theorem tfl277_1 : flT Tryz.prog 277 1 = (some (1, (1, .false))) := by kernel_rfl
@[push_cast] theorem tld278 : ldT Tryz.prog 278 = (some (1, .false)) := by kernel_rfl
@[push_cast] theorem tkd278 : kdT Tryz.prog 278 = (some .map) := by kernel_rfl
@[push_cast] theorem tsl278 : slT Tryz.prog 278 = none := by kernel_rfl
@[push_cast] theorem tzb278 : zbT Tryz.prog 278 = (some (((.map none) :: []), none)) := by kernel_rfl
@[push_cast] theorem tzv278 : zvD Tryz.prog 278 = (some (.lit (.map none))) := by kernel_rfl
@[push_cast] theorem tbt278 : btT Tryz.prog 278 = .false := by kernel_rfl
@[push_cast] theorem tld280 : ldT Tryz.prog 280 = (some (0, .true)) := by kernel_rfl
@[push_cast] theorem tkd280 : kdT Tryz.prog 280 = (some .other) := by kernel_rfl
@[push_cast] theorem tsl280 : slT Tryz.prog 280 = none := by kernel_rfl
@[push_cast] theorem tzb280 : zbT Tryz.prog 280 = (some ([], none)) := by kernel_rfl
@[push_cast] theorem tzv280 : zvD Tryz.prog 280 = (some (.agg [])) := by kernel_rfl
@[push_cast] theorem tbl280 : blT Tryz.prog 280 = (some ([], [])) := by kernel_rfl
@[push_cast] theorem teq280 : EqOk Tryz.prog 280 [] := EqOk.of (by kernel_rfl)
@[push_cast] theorem tbt280 : btT Tryz.prog 280 = .false := by kernel_rfl
@[push_cast] theorem tld284 : ldT Tryz.prog 284 = (some (1, .false)) := by kernel_rfl
@[push_cast] theorem tkd284 : kdT Tryz.prog 284 = (some .func) := by kernel_rfl
@[push_cast] theorem tsl284 : slT Tryz.prog 284 = none := by kernel_rfl
@[push_cast] theorem tzb284 : zbT Tryz.prog 284 = (some ((.nilFunc :: []), none)) := by kernel_rfl
@[push_cast] theorem tzv284 : zvD Tryz.prog 284 = (some (.lit .nilFunc)) := by kernel_rfl
@[push_cast] theorem tbt284 : btT Tryz.prog 284 = .false := by kernel_rfl
@[push_cast] theorem tld288 : ldT Tryz.prog 288 = (some (7, .true)) := by kernel_rfl
@[push_cast] theorem tkd288 : kdT Tryz.prog 288 = (some .other) := by kernel_rfl
@[push_cast] theorem tsl288 : slT Tryz.prog 288 = none := by kernel_rfl
@[push_cast] theorem tzb288 : zbT Tryz.prog 288 = (some (((.int .i64 0) :: ((.int .i64 0) :: ((.int .i64 0) :: ((.int .i64 0) :: ((.int .i64 0) :: ((.int .i64 0) :: ((.string ⟨⟨[]⟩⟩) :: []))))))), none)) := by kernel_rfl
@[push_cast] theorem tzv288 : zvD Tryz.prog 288 = (some (.agg ((.lit (.int .i64 0)) :: ((.lit (.int .i64 0)) :: ((.lit (.int .i64 0)) :: ((.lit (.int .i64 0)) :: ((.lit (.int .i64 0)) :: ((.lit (.int .i64 0)) :: ((.lit (.string ⟨⟨[]⟩⟩)) :: []))))))))) := by kernel_rfl
@[push_cast] theorem tbl288 : blT Tryz.prog 288 = (some (((.int .i64 0) :: ((.int .i64 0) :: ((.int .i64 0) :: ((.int .i64 0) :: ((.int .i64 0) :: ((.int .i64 0) :: ((.string ⟨⟨[]⟩⟩) :: []))))))), ((0, 1) :: ((1, 1) :: ((2, 3) :: ((5, 1) :: ((6, 1) :: []))))))) := by kernel_rfl
@[push_cast] theorem tbt288 : btT Tryz.prog 288 = .false := by kernel_rfl
@[push_cast] theorem tfl288_0 : flT Tryz.prog 288 0 = (some (0, (1, .false))) := by kernel_rfl
@[push_cast] theorem tfl288_1 : flT Tryz.prog 288 1 = (some (1, (1, .false))) := by kernel_rfl
@[push_cast] theorem tfl288_2 : flT Tryz.prog 288 2 = (some (2, (3, .true))) := by kernel_rfl
@[push_cast] theorem tfl288_3 : flT Tryz.prog 288 3 = (some (5, (1, .false))) := by kernel_rfl
@[push_cast] theorem tfl288_4 : flT Tryz.prog 288 4 = (some (6, (1, .false))) := by kernel_rfl
@[push_cast] theorem tld290 : ldT Tryz.prog 290 = (some (14, .true)) := by kernel_rfl
@[push_cast] theorem tkd290 : kdT Tryz.prog 290 = (some .other) := by kernel_rfl
@[push_cast] theorem tsl290 : slT Tryz.prog 290 = none := by kernel_rfl
@[push_cast] theorem tzb290 : zbT Tryz.prog 290 = (some (((.int .i64 0) :: ((.int .i64 0) :: ((.int .i64 0) :: ((.int .i64 0) :: ((.int .i64 0) :: ((.int .i64 0) :: ((.int .i64 0) :: ((.int .i64 0) :: ((.int .i64 0) :: ((.int .i64 0) :: ((.int .i64 0) :: ((.int .i64 0) :: ((.string ⟨⟨[]⟩⟩) :: ((.int .i64 0) :: [])))))))))))))), none)) := by kernel_rfl
@[push_cast] theorem tzv290 : zvD Tryz.prog 290 = (some (.agg ((.lit (.int .i64 0)) :: ((.lit (.int .i64 0)) :: ((.lit (.int .i64 0)) :: ((.lit (.int .i64 0)) :: ((.lit (.int .i64 0)) :: ((.lit (.int .i64 0)) :: ((.lit (.int .i64 0)) :: ((.lit (.int .i64 0)) :: ((.lit (.int .i64 0)) :: ((.lit (.int .i64 0)) :: ((.lit (.int .i64 0)) :: ((.lit (.int .i64 0)) :: ((.lit (.string ⟨⟨[]⟩⟩)) :: ((.lit (.int .i64 0)) :: [])))))))))))))))) := by kernel_rfl
@[push_cast] theorem tbl290 : blT Tryz.prog 290 = (some (((.int .i64 0) :: ((.int .i64 0) :: ((.int .i64 0) :: ((.int .i64 0) :: ((.int .i64 0) :: ((.int .i64 0) :: ((.int .i64 0) :: ((.int .i64 0) :: ((.int .i64 0) :: ((.int .i64 0) :: ((.int .i64 0) :: ((.int .i64 0) :: ((.string ⟨⟨[]⟩⟩) :: ((.int .i64 0) :: [])))))))))))))), ((0, 6) :: ((6, 7) :: ((13, 1) :: []))))) := by kernel_rfl
@[push_cast] theorem tbt290 : btT Tryz.prog 290 = .false := by kernel_rfl
@[push_cast] theorem tfl290_0 : flT Tryz.prog 290 0 = (some (0, (6, .true))) := by kernel_rfl
@[push_cast] theorem tfl290_1 : flT Tryz.prog 290 1 = (some (6, (7, .true))) := by kernel_rfl
@[push_cast] theorem tfl290_2 : flT Tryz.prog 290 2 = (some (13, (1, .false))) := by kernel_rfl
@[push_cast] theorem tld291 : ldT Tryz.prog 291 = (some (1, .false)) := by kernel_rfl
@[push_cast] theorem tkd291 : kdT Tryz.prog 291 = (some .pointer) := by kernel_rfl
@[push_cast] theorem tsl291 : slT Tryz.prog 291 = none := by kernel_rfl
@[push_cast] theorem tzb291 : zbT Tryz.prog 291 = (some (((.pointer none) :: []), none)) := by kernel_rfl
@[push_cast] theorem tzv291 : zvD Tryz.prog 291 = (some (.lit (.pointer none))) := by kernel_rfl
@[push_cast] theorem tbt291 : btT Tryz.prog 291 = .false := by kernel_rfl
@[push_cast] theorem tld294 : ldT Tryz.prog 294 = (some (1, .false)) := by kernel_rfl
@[push_cast] theorem tkd294 : kdT Tryz.prog 294 = (some .pointer) := by kernel_rfl
@[push_cast] theorem tsl294 : slT Tryz.prog 294 = none := by kernel_rfl
@[push_cast] theorem tzb294 : zbT Tryz.prog 294 = (some (((.pointer none) :: []), none)) := by kernel_rfl
@[push_cast] theorem tzv294 : zvD Tryz.prog 294 = (some (.lit (.pointer none))) := by kernel_rfl
@[push_cast] theorem tbt294 : btT Tryz.prog 294 = .false := by kernel_rfl
@[push_cast] theorem tld295 : ldT Tryz.prog 295 = (some (1, .false)) := by kernel_rfl
@[push_cast] theorem tkd295 : kdT Tryz.prog 295 = (some .slice) := by kernel_rfl
@[push_cast] theorem tsl295 : slT Tryz.prog 295 = (some (1, .false)) := by kernel_rfl
@[push_cast] theorem tap295 : apT Tryz.prog 295 = (some (1, 1)) := by kernel_rfl
@[push_cast] theorem tzb295 : zbT Tryz.prog 295 = (some (((.slice none 0 0) :: []), none)) := by kernel_rfl
@[push_cast] theorem tmk295 : mkT Tryz.prog 295 = (some (1, (1, (.lit (.int .u8 0))))) := by kernel_rfl
@[push_cast] theorem tzv295 : zvD Tryz.prog 295 = (some (.lit (.slice none 0 0))) := by kernel_rfl
@[push_cast] theorem tbt295 : btT Tryz.prog 295 = .true := by kernel_rfl
@[push_cast] theorem tld297 : ldT Tryz.prog 297 = (some (2, .true)) := by kernel_rfl
@[push_cast] theorem tkd297 : kdT Tryz.prog 297 = (some .other) := by kernel_rfl
@[push_cast] theorem tsl297 : slT Tryz.prog 297 = none := by kernel_rfl
@[push_cast] theorem tzb297 : zbT Tryz.prog 297 = (some (((.pointer none) :: ((.slice none 0 0) :: [])), (some 297))) := by kernel_rfl
@[push_cast] theorem tzv297 : zvD Tryz.prog 297 = (some (.agg ((.lit (.pointer none)) :: ((.lit (.slice none 0 0)) :: [])))) := by kernel_rfl
@[push_cast] theorem tbl297 : blT Tryz.prog 297 = (some (((.pointer none) :: ((.slice none 0 0) :: [])), ((0, 1) :: ((1, 1) :: [])))) := by kernel_rfl
@[push_cast] theorem tbt297 : btT Tryz.prog 297 = .false := by kernel_rfl
@[push_cast] theorem tfl297_0 : flT Tryz.prog 297 0 = (some (0, (1, .false))) := by kernel_rfl
@[push_cast] theorem tfl297_1 : flT Tryz.prog 297 1 = (some (1, (1, .false))) := by kernel_rfl
@[push_cast] theorem tld301 : ldT Tryz.prog 301 = (some (1, .false)) := by kernel_rfl
@[push_cast] theorem tkd301 : kdT Tryz.prog 301 = (some .iface) := by kernel_rfl
@[push_cast] theorem tsl301 : slT Tryz.prog 301 = none := by kernel_rfl
@[push_cast] theorem tzb301 : zbT Tryz.prog 301 = (some ((.nilIface :: []), none)) := by kernel_rfl
@[push_cast] theorem tzv301 : zvD Tryz.prog 301 = (some (.lit .nilIface)) := by kernel_rfl
@[push_cast] theorem tbt301 : btT Tryz.prog 301 = .false := by kernel_rfl
@[push_cast] theorem tld320 : ldT Tryz.prog 320 = (some (1, .false)) := by kernel_rfl
@[push_cast] theorem tkd320 : kdT Tryz.prog 320 = (some .iface) := by kernel_rfl
@[push_cast] theorem tsl320 : slT Tryz.prog 320 = none := by kernel_rfl
@[push_cast] theorem tzb320 : zbT Tryz.prog 320 = (some ((.nilIface :: []), none)) := by kernel_rfl
@[push_cast] theorem tzv320 : zvD Tryz.prog 320 = (some (.lit .nilIface)) := by kernel_rfl
@[push_cast] theorem tbt320 : btT Tryz.prog 320 = .false := by kernel_rfl
@[push_cast] theorem tld324 : ldT Tryz.prog 324 = (some (4, .true)) := by kernel_rfl
@[push_cast] theorem tkd324 : kdT Tryz.prog 324 = (some .other) := by kernel_rfl
@[push_cast] theorem tsl324 : slT Tryz.prog 324 = none := by kernel_rfl
@[push_cast] theorem tzb324 : zbT Tryz.prog 324 = (some (((.int .i64 0) :: ((.int .i64 0) :: ((.int .i64 0) :: ((.int .i64 0) :: [])))), none)) := by kernel_rfl
@[push_cast] theorem tzv324 : zvD Tryz.prog 324 = (some (.agg ((.lit (.int .i64 0)) :: ((.lit (.int .i64 0)) :: ((.lit (.int .i64 0)) :: ((.lit (.int .i64 0)) :: [])))))) := by kernel_rfl
@[push_cast] theorem tbl324 : blT Tryz.prog 324 = (some (((.int .i64 0) :: ((.int .i64 0) :: ((.int .i64 0) :: ((.int .i64 0) :: [])))), ((0, 2) :: ((2, 1) :: ((3, 1) :: []))))) := by kernel_rfl
@[push_cast] theorem teq324 : EqOk Tryz.prog 324 ((.int .i64) :: ((.int .i64) :: ((.int .i64) :: ((.int .i64) :: [])))) := EqOk.of (by kernel_rfl)
@[push_cast] theorem tbt324 : btT Tryz.prog 324 = .false := by kernel_rfl
@[push_cast] theorem tfl324_0 : flT Tryz.prog 324 0 = (some (0, (2, .true))) := by kernel_rfl
@[push_cast] theorem tfl324_1 : flT Tryz.prog 324 1 = (some (2, (1, .false))) := by kernel_rfl
@[push_cast] theorem tfl324_2 : flT Tryz.prog 324 2 = (some (3, (1, .false))) := by kernel_rfl
@[push_cast] theorem tld325 : ldT Tryz.prog 325 = (some (1, .false)) := by kernel_rfl
@[push_cast] theorem tkd325 : kdT Tryz.prog 325 = (some .slice) := by kernel_rfl
@[push_cast] theorem tsl325 : slT Tryz.prog 325 = (some (4, .true)) := by kernel_rfl
@[push_cast] theorem tap325 : apT Tryz.prog 325 = (some (4, 32)) := by kernel_rfl
@[push_cast] theorem tzb325 : zbT Tryz.prog 325 = (some (((.slice none 0 0) :: []), none)) := by kernel_rfl
@[push_cast] theorem tmk325 : mkT Tryz.prog 325 = (some (4, (32, (.agg ((.lit (.int .i64 0)) :: ((.lit (.int .i64 0)) :: ((.lit (.int .i64 0)) :: ((.lit (.int .i64 0)) :: [])))))))) := by kernel_rfl
@[push_cast] theorem tzv325 : zvD Tryz.prog 325 = (some (.lit (.slice none 0 0))) := by kernel_rfl
@[push_cast] theorem tbt325 : btT Tryz.prog 325 = .false := by kernel_rfl
@[push_cast] theorem tld333 : ldT Tryz.prog 333 = (some (8, .true)) := by kernel_rfl
@[push_cast] theorem tkd333 : kdT Tryz.prog 333 = (some .other) := by kernel_rfl
@[push_cast] theorem tsl333 : slT Tryz.prog 333 = none := by kernel_rfl
@[push_cast] theorem tzb333 : zbT Tryz.prog 333 = (some (((.int .i64 0) :: ((.int .i64 0) :: ((.int .i64 0) :: ((.int .i64 0) :: ((.int .i64 0) :: ((.int .i64 0) :: ((.int .i64 0) :: ((.int .i64 0) :: [])))))))), none)) := by kernel_rfl
@[push_cast] theorem tzv333 : zvD Tryz.prog 333 = (some (.agg ((.lit (.int .i64 0)) :: ((.lit (.int .i64 0)) :: ((.lit (.int .i64 0)) :: ((.lit (.int .i64 0)) :: ((.lit (.int .i64 0)) :: ((.lit (.int .i64 0)) :: ((.lit (.int .i64 0)) :: ((.lit (.int .i64 0)) :: [])))))))))) := by kernel_rfl
@[push_cast] theorem tbl333 : blT Tryz.prog 333 = (some (((.int .i64 0) :: ((.int .i64 0) :: ((.int .i64 0) :: ((.int .i64 0) :: ((.int .i64 0) :: ((.int .i64 0) :: ((.int .i64 0) :: ((.int .i64 0) :: [])))))))), ((0, 1) :: ((1, 6) :: ((7, 1) :: []))))) := by kernel_rfl
@[push_cast] theorem tbt333 : btT Tryz.prog 333 = .false := by kernel_rfl
@[push_cast] theorem tfl333_0 : flT Tryz.prog 333 0 = (some (0, (1, .false))) := by kernel_rfl
@[push_cast] theorem tfl333_1 : flT Tryz.prog 333 1 = (some (1, (6, .true))) := by kernel_rfl
@[push_cast] theorem tfl333_2 : flT Tryz.prog 333 2 = (some (7, (1, .false))) := by kernel_rfl
@[push_cast] theorem tld361 : ldT Tryz.prog 361 = (some (3, .true)) := by kernel_rfl
@[push_cast] theorem tkd361 : kdT Tryz.prog 361 = (some .other) := by kernel_rfl
@[push_cast] theorem tsl361 : slT Tryz.prog 361 = none := by kernel_rfl
@[push_cast] theorem tzb361 : zbT Tryz.prog 361 = (some (((.int .i64 0) :: ((.slice none 0 0) :: ((.slice none 0 0) :: []))), none)) := by kernel_rfl
@[push_cast] theorem tzv361 : zvD Tryz.prog 361 = (some (.agg ((.lit (.int .i64 0)) :: ((.lit (.slice none 0 0)) :: ((.lit (.slice none 0 0)) :: []))))) := by kernel_rfl
@[push_cast] theorem tbl361 : blT Tryz.prog 361 = (some (((.int .i64 0) :: ((.slice none 0 0) :: ((.slice none 0 0) :: []))), ((0, 1) :: ((1, 1) :: ((2, 1) :: []))))) := by kernel_rfl
@[push_cast] theorem tbt361 : btT Tryz.prog 361 = .false := by kernel_rfl
@[push_cast] theorem tfl361_0 : flT Tryz.prog 361 0 = (some (0, (1, .false))) := by kernel_rfl
@[push_cast] theorem tfl361_1 : flT Tryz.prog 361 1 = (some (1, (1, .false))) := by kernel_rfl
@[push_cast] theorem tfl361_2 : flT Tryz.prog 361 2 = (some (2, (1, .false))) := by kernel_rfl
@[push_cast] theorem tld363 : ldT Tryz.prog 363 = (some (1, .false)) := by kernel_rfl
@[push_cast] theorem tkd363 : kdT Tryz.prog 363 = (some .func) := by kernel_rfl
@[push_cast] theorem tsl363 : slT Tryz.prog 363 = none := by kernel_rfl
@[push_cast] theorem tzb363 : zbT Tryz.prog 363 = (some ((.nilFunc :: []), none)) := by kernel_rfl
@[push_cast] theorem tzv363 : zvD Tryz.prog 363 = (some (.lit .nilFunc)) := by kernel_rfl
@[push_cast] theorem tbt363 : btT Tryz.prog 363 = .false := by kernel_rfl
@[push_cast] theorem tld364 : ldT Tryz.prog 364 = (some (1, .false)) := by kernel_rfl
@[push_cast] theorem tkd364 : kdT Tryz.prog 364 = (some .slice) := by kernel_rfl
@[push_cast] theorem tsl364 : slT Tryz.prog 364 = (some (2, .true)) := by kernel_rfl
@[push_cast] theorem tap364 : apT Tryz.prog 364 = (some (2, 8)) := by kernel_rfl
@[push_cast] theorem tzb364 : zbT Tryz.prog 364 = (some (((.slice none 0 0) :: []), none)) := by kernel_rfl
@[push_cast] theorem tmk364 : mkT Tryz.prog 364 = (some (2, (8, (.agg ((.lit (.int .i32 0)) :: ((.lit (.int .i32 0)) :: [])))))) := by kernel_rfl
@[push_cast] theorem tzv364 : zvD Tryz.prog 364 = (some (.lit (.slice none 0 0))) := by kernel_rfl
@[push_cast] theorem tbt364 : btT Tryz.prog 364 = .false := by kernel_rfl
@[push_cast] theorem tld366 : ldT Tryz.prog 366 = (some (2, .true)) := by kernel_rfl
@[push_cast] theorem tkd366 : kdT Tryz.prog 366 = (some .other) := by kernel_rfl
@[push_cast] theorem tsl366 : slT Tryz.prog 366 = none := by kernel_rfl
@[push_cast] theorem tzb366 : zbT Tryz.prog 366 = (some (((.slice none 0 0) :: ((.slice none 0 0) :: [])), none)) := by kernel_rfl
@[push_cast] theorem tzv366 : zvD Tryz.prog 366 = (some (.agg ((.lit (.slice none 0 0)) :: ((.lit (.slice none 0 0)) :: [])))) := by kernel_rfl
@[push_cast] theorem tbl366 : blT Tryz.prog 366 = (some (((.slice none 0 0) :: ((.slice none 0 0) :: [])), ((0, 1) :: ((1, 1) :: [])))) := by kernel_rfl
@[push_cast] theorem tbt366 : btT Tryz.prog 366 = .false := by kernel_rfl
@[push_cast] theorem tfl366_0 : flT Tryz.prog 366 0 = (some (0, (1, .false))) := by kernel_rfl
@[push_cast] theorem tfl366_1 : flT Tryz.prog 366 1 = (some (1, (1, .false))) := by kernel_rfl
@[push_cast] theorem tld368 : ldT Tryz.prog 368 = (some (2, .true)) := by kernel_rfl
@[push_cast] theorem tkd368 : kdT Tryz.prog 368 = (some .other) := by kernel_rfl
@[push_cast] theorem tsl368 : slT Tryz.prog 368 = none := by kernel_rfl
@[push_cast] theorem tzb368 : zbT Tryz.prog 368 = (some (((.int .i32 0) :: ((.int .i32 0) :: [])), none)) := by kernel_rfl
@[push_cast] theorem tzv368 : zvD Tryz.prog 368 = (some (.agg ((.lit (.int .i32 0)) :: ((.lit (.int .i32 0)) :: [])))) := by kernel_rfl
@[push_cast] theorem tbl368 : blT Tryz.prog 368 = (some (((.int .i32 0) :: ((.int .i32 0) :: [])), ((0, 1) :: ((1, 1) :: [])))) := by kernel_rfl
@[push_cast] theorem teq368 : EqOk Tryz.prog 368 ((.int .i32) :: ((.int .i32) :: [])) := EqOk.of (by kernel_rfl)
@[push_cast] theorem tbt368 : btT Tryz.prog 368 = .false := by kernel_rfl
@[push_cast] theorem tfl368_0 : flT Tryz.prog 368 0 = (some (0, (1, .false))) := by kernel_rfl
@[push_cast] theorem tfl368_1 : flT Tryz.prog 368 1 = (some (1, (1, .false))) := by kernel_rfl
@[push_cast] theorem tld369 : ldT Tryz.prog 369 = (some (6, .true)) := by kernel_rfl
@[push_cast] theorem tkd369 : kdT Tryz.prog 369 = (some .other) := by kernel_rfl
@[push_cast] theorem tsl369 : slT Tryz.prog 369 = none := by kernel_rfl
@[push_cast] theorem tar369 : arT Tryz.prog 369 = (some (3, (2, .true))) := by kernel_rfl
@[push_cast] theorem tzb369 : zbT Tryz.prog 369 = (some (((.int .i32 0) :: ((.int .i32 0) :: ((.int .i32 0) :: ((.int .i32 0) :: ((.int .i32 0) :: ((.int .i32 0) :: [])))))), none)) := by kernel_rfl
@[push_cast] theorem tzv369 : zvD Tryz.prog 369 = (some (.agg ((.lit (.int .i32 0)) :: ((.lit (.int .i32 0)) :: ((.lit (.int .i32 0)) :: ((.lit (.int .i32 0)) :: ((.lit (.int .i32 0)) :: ((.lit (.int .i32 0)) :: [])))))))) := by kernel_rfl
@[push_cast] theorem tbl369 : blT Tryz.prog 369 = (some (((.int .i32 0) :: ((.int .i32 0) :: ((.int .i32 0) :: ((.int .i32 0) :: ((.int .i32 0) :: ((.int .i32 0) :: [])))))), ((0, 2) :: ((2, 2) :: ((4, 2) :: []))))) := by kernel_rfl
@[push_cast] theorem tbt369 : btT Tryz.prog 369 = .false := by kernel_rfl
@[push_cast] theorem tld370 : ldT Tryz.prog 370 = (some (16, .true)) := by kernel_rfl
@[push_cast] theorem tkd370 : kdT Tryz.prog 370 = (some .other) := by kernel_rfl
@[push_cast] theorem tsl370 : slT Tryz.prog 370 = none := by kernel_rfl
@[push_cast] theorem tar370 : arT Tryz.prog 370 = (some (8, (2, .true))) := by kernel_rfl
@[push_cast] theorem tzb370 : zbT Tryz.prog 370 = (some (((.int .i32 0) :: ((.int .i32 0) :: ((.int .i32 0) :: ((.int .i32 0) :: ((.int .i32 0) :: ((.int .i32 0) :: ((.int .i32 0) :: ((.int .i32 0) :: ((.int .i32 0) :: ((.int .i32 0) :: ((.int .i32 0) :: ((.int .i32 0) :: ((.int .i32 0) :: ((.int .i32 0) :: ((.int .i32 0) :: ((.int .i32 0) :: [])))))))))))))))), none)) := by kernel_rfl
@[push_cast] theorem tzv370 : zvD Tryz.prog 370 = (some (.agg ((.lit (.int .i32 0)) :: ((.lit (.int .i32 0)) :: ((.lit (.int .i32 0)) :: ((.lit (.int .i32 0)) :: ((.lit (.int .i32 0)) :: ((.lit (.int .i32 0)) :: ((.lit (.int .i32 0)) :: ((.lit (.int .i32 0)) :: ((.lit (.int .i32 0)) :: ((.lit (.int .i32 0)) :: ((.lit (.int .i32 0)) :: ((.lit (.int .i32 0)) :: ((.lit (.int .i32 0)) :: ((.lit (.int .i32 0)) :: ((.lit (.int .i32 0)) :: ((.lit (.int .i32 0)) :: [])))))))))))))))))) := by kernel_rfl
@[push_cast] theorem tbl370 : blT Tryz.prog 370 = (some (((.int .i32 0) :: ((.int .i32 0) :: ((.int .i32 0) :: ((.int .i32 0) :: ((.int .i32 0) :: ((.int .i32 0) :: ((.int .i32 0) :: ((.int .i32 0) :: ((.int .i32 0) :: ((.int .i32 0) :: ((.int .i32 0) :: ((.int .i32 0) :: ((.int .i32 0) :: ((.int .i32 0) :: ((.int .i32 0) :: ((.int .i32 0) :: [])))))))))))))))), ((0, 2) :: ((2, 2) :: ((4, 2) :: ((6, 2) :: ((8, 2) :: ((10, 2) :: ((12, 2) :: ((14, 2) :: [])))))))))) := by kernel_rfl
@[push_cast] theorem tbt370 : btT Tryz.prog 370 = .false := by kernel_rfl
@[push_cast] theorem tld381 : ldT Tryz.prog 381 = (some (1, .false)) := by kernel_rfl
@[push_cast] theorem tkd381 : kdT Tryz.prog 381 = (some .func) := by kernel_rfl
@[push_cast] theorem tsl381 : slT Tryz.prog 381 = none := by kernel_rfl
@[push_cast] theorem tzb381 : zbT Tryz.prog 381 = (some ((.nilFunc :: []), none)) := by kernel_rfl
@[push_cast] theorem tzv381 : zvD Tryz.prog 381 = (some (.lit .nilFunc)) := by kernel_rfl
@[push_cast] theorem tbt381 : btT Tryz.prog 381 = .false := by kernel_rfl
@[push_cast] theorem tld396 : ldT Tryz.prog 396 = (some (1, .false)) := by kernel_rfl
@[push_cast] theorem tkd396 : kdT Tryz.prog 396 = (some .func) := by kernel_rfl
@[push_cast] theorem tsl396 : slT Tryz.prog 396 = none := by kernel_rfl
@[push_cast] theorem tzb396 : zbT Tryz.prog 396 = (some ((.nilFunc :: []), none)) := by kernel_rfl
@[push_cast] theorem tzv396 : zvD Tryz.prog 396 = (some (.lit .nilFunc)) := by kernel_rfl
@[push_cast] theorem tbt396 : btT Tryz.prog 396 = .false := by kernel_rfl
@[push_cast] theorem tld404 : ldT Tryz.prog 404 = (some (1, .false)) := by kernel_rfl
@[push_cast] theorem tkd404 : kdT Tryz.prog 404 = (some .pointer) := by kernel_rfl
@[push_cast] theorem tsl404 : slT Tryz.prog 404 = none := by kernel_rfl
@[push_cast] theorem tzb404 : zbT Tryz.prog 404 = (some (((.pointer none) :: []), none)) := by kernel_rfl
@[push_cast] theorem tzv404 : zvD Tryz.prog 404 = (some (.lit (.pointer none))) := by kernel_rfl
@[push_cast] theorem tbt404 : btT Tryz.prog 404 = .false := by kernel_rfl
@[push_cast] theorem tld407 : ldT Tryz.prog 407 = (some (1, .true)) := by kernel_rfl
@[push_cast] theorem tkd407 : kdT Tryz.prog 407 = (some .other) := by kernel_rfl
@[push_cast] theorem tsl407 : slT Tryz.prog 407 = none := by kernel_rfl
@[push_cast] theorem tzb407 : zbT Tryz.prog 407 = (some ((.nilIface :: []), none)) := by kernel_rfl
@[push_cast] theorem tzv407 : zvD Tryz.prog 407 = (some (.agg ((.lit .nilIface) :: []))) := by kernel_rfl
@[push_cast] theorem tbl407 : blT Tryz.prog 407 = (some ((.nilIface :: []), ((0, 1) :: []))) := by kernel_rfl
@[push_cast] theorem tbt407 : btT Tryz.prog 407 = .false := by kernel_rfl
@[push_cast] theorem tfl407_0 : flT Tryz.prog 407 0 = (some (0, (1, .false))) := by kernel_rfl
@[push_cast] theorem tld413 : ldT Tryz.prog 413 = (some (1, .false)) := by kernel_rfl
@[push_cast] theorem tkd413 : kdT Tryz.prog 413 = (some (.int .u64)) := by kernel_rfl
@[push_cast] theorem tsl413 : slT Tryz.prog 413 = none := by kernel_rfl
@[push_cast] theorem tzb413 : zbT Tryz.prog 413 = (some (((.int .u64 0) :: []), none)) := by kernel_rfl
@[push_cast] theorem tzv413 : zvD Tryz.prog 413 = (some (.lit (.int .u64 0))) := by kernel_rfl
@[push_cast] theorem tbt413 : btT Tryz.prog 413 = .false := by kernel_rfl
@[push_cast] theorem tld415 : ldT Tryz.prog 415 = (some (1, .false)) := by kernel_rfl
@[push_cast] theorem tkd415 : kdT Tryz.prog 415 = (some .func) := by kernel_rfl
@[push_cast] theorem tsl415 : slT Tryz.prog 415 = none := by kernel_rfl
@[push_cast] theorem tzb415 : zbT Tryz.prog 415 = (some ((.nilFunc :: []), none)) := by kernel_rfl
@[push_cast] theorem tzv415 : zvD Tryz.prog 415 = (some (.lit .nilFunc)) := by kernel_rfl
@[push_cast] theorem tbt415 : btT Tryz.prog 415 = .false := by kernel_rfl
@[push_cast] theorem tld421 : ldT Tryz.prog 421 = (some (9, .true)) := by kernel_rfl
@[push_cast] theorem tkd421 : kdT Tryz.prog 421 = (some .other) := by kernel_rfl
@[push_cast] theorem tsl421 : slT Tryz.prog 421 = none := by kernel_rfl
@[push_cast] theorem tzb421 : zbT Tryz.prog 421 = (some (((.pointer none) :: ((.int .i64 0) :: ((.int .i64 0) :: ((.int .i64 0) :: ((.int .i64 0) :: ((.int .i64 0) :: ((.int .i64 0) :: ((.int .i64 0) :: ((.int .i64 0) :: []))))))))), none)) := by kernel_rfl
@[push_cast] theorem tzv421 : zvD Tryz.prog 421 = (some (.agg ((.lit (.pointer none)) :: ((.lit (.int .i64 0)) :: ((.lit (.int .i64 0)) :: ((.lit (.int .i64 0)) :: ((.lit (.int .i64 0)) :: ((.lit (.int .i64 0)) :: ((.lit (.int .i64 0)) :: ((.lit (.int .i64 0)) :: ((.lit (.int .i64 0)) :: []))))))))))) := by kernel_rfl
@[push_cast] theorem tbl421 : blT Tryz.prog 421 = (some (((.pointer none) :: ((.int .i64 0) :: ((.int .i64 0) :: ((.int .i64 0) :: ((.int .i64 0) :: ((.int .i64 0) :: ((.int .i64 0) :: ((.int .i64 0) :: ((.int .i64 0) :: []))))))))), ((0, 1) :: ((1, 8) :: [])))) := by kernel_rfl
@[push_cast] theorem tbt421 : btT Tryz.prog 421 = .false := by kernel_rfl
@[push_cast] theorem tfl421_0 : flT Tryz.prog 421 0 = (some (0, (1, .false))) := by kernel_rfl
@[push_cast] theorem tfl421_1 : flT Tryz.prog 421 1 = (some (1, (8, .true))) := by kernel_rfl
@[push_cast] theorem tld422 : ldT Tryz.prog 422 = (some (1, .false)) := by kernel_rfl
@[push_cast] theorem tkd422 : kdT Tryz.prog 422 = (some .pointer) := by kernel_rfl
@[push_cast] theorem tsl422 : slT Tryz.prog 422 = none := by kernel_rfl
@[push_cast] theorem tzb422 : zbT Tryz.prog 422 = (some (((.pointer none) :: []), none)) := by kernel_rfl
@[push_cast] theorem tzv422 : zvD Tryz.prog 422 = (some (.lit (.pointer none))) := by kernel_rfl
@[push_cast] theorem tbt422 : btT Tryz.prog 422 = .false := by kernel_rfl
@[push_cast] theorem tld425 : ldT Tryz.prog 425 = (some (1, .false)) := by kernel_rfl
@[push_cast] theorem tkd425 : kdT Tryz.prog 425 = (some .pointer) := by kernel_rfl
@[push_cast] theorem tsl425 : slT Tryz.prog 425 = none := by kernel_rfl
@[push_cast] theorem tzb425 : zbT Tryz.prog 425 = (some (((.pointer none) :: []), none)) := by kernel_rfl
@[push_cast] theorem tzv425 : zvD Tryz.prog 425 = (some (.lit (.pointer none))) := by kernel_rfl
@[push_cast] theorem tbt425 : btT Tryz.prog 425 = .false := by kernel_rfl
@[push_cast] theorem tld427 : ldT Tryz.prog 427 = (some (1, .false)) := by kernel_rfl
@[push_cast] theorem tkd427 : kdT Tryz.prog 427 = (some .slice) := by kernel_rfl
@[push_cast] theorem tsl427 : slT Tryz.prog 427 = (some (1, .false)) := by kernel_rfl
@[push_cast] theorem tap427 : apT Tryz.prog 427 = (some (1, 16)) := by kernel_rfl
@[push_cast] theorem tzb427 : zbT Tryz.prog 427 = (some (((.slice none 0 0) :: []), none)) := by kernel_rfl
@[push_cast] theorem tmk427 : mkT Tryz.prog 427 = (some (1, (16, (.lit .nilIface)))) := by kernel_rfl
@[push_cast] theorem tzv427 : zvD Tryz.prog 427 = (some (.lit (.slice none 0 0))) := by kernel_rfl
@[push_cast] theorem tbt427 : btT Tryz.prog 427 = .false := by kernel_rfl
@[push_cast] theorem tld429 : ldT Tryz.prog 429 = (some (8, .true)) := by kernel_rfl
@[push_cast] theorem tkd429 : kdT Tryz.prog 429 = (some .other) := by kernel_rfl
@[push_cast] theorem tsl429 : slT Tryz.prog 429 = none := by kernel_rfl
@[push_cast] theorem tzb429 : zbT Tryz.prog 429 = (some (((.slice none 0 0) :: ((.int .i64 0) :: ((.int .i64 0) :: ((.int .i64 0) :: ((.int .i64 0) :: ((.int .i64 0) :: ((.int .i64 0) :: ((.int .i64 0) :: [])))))))), none)) := by kernel_rfl
@[push_cast] theorem tzv429 : zvD Tryz.prog 429 = (some (.agg ((.lit (.slice none 0 0)) :: ((.lit (.int .i64 0)) :: ((.lit (.int .i64 0)) :: ((.lit (.int .i64 0)) :: ((.lit (.int .i64 0)) :: ((.lit (.int .i64 0)) :: ((.lit (.int .i64 0)) :: ((.lit (.int .i64 0)) :: [])))))))))) := by kernel_rfl
@[push_cast] theorem tbl429 : blT Tryz.prog 429 = (some (((.slice none 0 0) :: ((.int .i64 0) :: ((.int .i64 0) :: ((.int .i64 0) :: ((.int .i64 0) :: ((.int .i64 0) :: ((.int .i64 0) :: ((.int .i64 0) :: [])))))))), ((0, 1) :: ((1, 1) :: ((2, 6) :: []))))) := by kernel_rfl
@[push_cast] theorem tbt429 : btT Tryz.prog 429 = .false := by kernel_rfl
@[push_cast] theorem tfl429_0 : flT Tryz.prog 429 0 = (some (0, (1, .false))) := by kernel_rfl
@[push_cast] theorem tfl429_1 : flT Tryz.prog 429 1 = (some (1, (1, .false))) := by kernel_rfl
@[push_cast] theorem tfl429_2 : flT Tryz.prog 429 2 = (some (2, (6, .true))) := by kernel_rfl
@[push_cast] theorem tld433 : ldT Tryz.prog 433 = (some (7, .true)) := by kernel_rfl
@[push_cast] theorem tkd433 : kdT Tryz.prog 433 = (some .other) := by kernel_rfl
@[push_cast] theorem tsl433 : slT Tryz.prog 433 = none := by kernel_rfl
@[push_cast] theorem tzb433 : zbT Tryz.prog 433 = (some (((.slice none 0 0) :: ((.int .i64 0) :: ((.int .i64 0) :: ((.int .i64 0) :: ((.int .i64 0) :: ((.int .i64 0) :: ((.int .i64 0) :: []))))))), none)) := by kernel_rfl
@[push_cast] theorem tzv433 : zvD Tryz.prog 433 = (some (.agg ((.lit (.slice none 0 0)) :: ((.lit (.int .i64 0)) :: ((.lit (.int .i64 0)) :: ((.lit (.int .i64 0)) :: ((.lit (.int .i64 0)) :: ((.lit (.int .i64 0)) :: ((.lit (.int .i64 0)) :: []))))))))) := by kernel_rfl
@[push_cast] theorem tbl433 : blT Tryz.prog 433 = (some (((.slice none 0 0) :: ((.int .i64 0) :: ((.int .i64 0) :: ((.int .i64 0) :: ((.int .i64 0) :: ((.int .i64 0) :: ((.int .i64 0) :: []))))))), ((0, 1) :: ((1, 6) :: [])))) := by kernel_rfl
@[push_cast] theorem tbt433 : btT Tryz.prog 433 = .false := by kernel_rfl
@[push_cast] theorem tfl433_0 : flT Tryz.prog 433 0 = (some (0, (1, .false))) := by kernel_rfl
@[push_cast] theorem tfl433_1 : flT Tryz.prog 433 1 = (some (1, (6, .true))) := by kernel_rfl
@[push_cast] theorem tld437 : ldT Tryz.prog 437 = (some (1, .false)) := by kernel_rfl
@[push_cast] theorem tkd437 : kdT Tryz.prog 437 = (some .slice) := by kernel_rfl
@[push_cast] theorem tsl437 : slT Tryz.prog 437 = (some (1, .false)) := by kernel_rfl
@[push_cast] theorem tap437 : apT Tryz.prog 437 = (some (1, 24)) := by kernel_rfl
@[push_cast] theorem tzb437 : zbT Tryz.prog 437 = (some (((.slice none 0 0) :: []), none)) := by kernel_rfl
@[push_cast] theorem tmk437 : mkT Tryz.prog 437 = (some (1, (24, (.lit (.slice none 0 0))))) := by kernel_rfl
@[push_cast] theorem tzv437 : zvD Tryz.prog 437 = (some (.lit (.slice none 0 0))) := by kernel_rfl
@[push_cast] theorem tbt437 : btT Tryz.prog 437 = .false := by kernel_rfl
@[push_cast] theorem tld456 : ldT Tryz.prog 456 = (some (1, .false)) := by kernel_rfl
@[push_cast] theorem tkd456 : kdT Tryz.prog 456 = (some .func) := by kernel_rfl
@[push_cast] theorem tsl456 : slT Tryz.prog 456 = none := by kernel_rfl
@[push_cast] theorem tzb456 : zbT Tryz.prog 456 = (some ((.nilFunc :: []), none)) := by kernel_rfl
@[push_cast] theorem tzv456 : zvD Tryz.prog 456 = (some (.lit .nilFunc)) := by kernel_rfl
@[push_cast] theorem tbt456 : btT Tryz.prog 456 = .false := by kernel_rfl
@[push_cast] theorem tld460 : ldT Tryz.prog 460 = (some (1, .false)) := by kernel_rfl
@[push_cast] theorem tkd460 : kdT Tryz.prog 460 = (some .func) := by kernel_rfl
@[push_cast] theorem tsl460 : slT Tryz.prog 460 = none := by kernel_rfl
@[push_cast] theorem tzb460 : zbT Tryz.prog 460 = (some ((.nilFunc :: []), none)) := by kernel_rfl
@[push_cast] theorem tzv460 : zvD Tryz.prog 460 = (some (.lit .nilFunc)) := by kernel_rfl
@[push_cast] theorem tbt460 : btT Tryz.prog 460 = .false := by kernel_rfl
@[push_cast] theorem tld461 : ldT Tryz.prog 461 = (some (1, .false)) := by kernel_rfl
@[push_cast] theorem tkd461 : kdT Tryz.prog 461 = (some .map) := by kernel_rfl
@[push_cast] theorem tsl461 : slT Tryz.prog 461 = none := by kernel_rfl
@[push_cast] theorem tzb461 : zbT Tryz.prog 461 = (some (((.map none) :: []), none)) := by kernel_rfl
@[push_cast] theorem tzv461 : zvD Tryz.prog 461 = (some (.lit (.map none))) := by kernel_rfl
@[push_cast] theorem tbt461 : btT Tryz.prog 461 = .false := by kernel_rfl
@[push_cast] theorem tld463 : ldT Tryz.prog 463 = (some (1, .false)) := by kernel_rfl
@[push_cast] theorem tkd463 : kdT Tryz.prog 463 = (some .func) := by kernel_rfl
@[push_cast] theorem tsl463 : slT Tryz.prog 463 = none := by kernel_rfl
@[push_cast] theorem tzb463 : zbT Tryz.prog 463 = (some ((.nilFunc :: []), none)) := by kernel_rfl
@[push_cast] theorem tzv463 : zvD Tryz.prog 463 = (some (.lit .nilFunc)) := by kernel_rfl
@[push_cast] theorem tbt463 : btT Tryz.prog 463 = .false := by kernel_rfl
@[push_cast] theorem tld475 : ldT Tryz.prog 475 = (some (1, .false)) := by kernel_rfl
@[push_cast] theorem tkd475 : kdT Tryz.prog 475 = (some .map) := by kernel_rfl
@[push_cast] theorem tsl475 : slT Tryz.prog 475 = none := by kernel_rfl
@[push_cast] theorem tzb475 : zbT Tryz.prog 475 = (some (((.map none) :: []), none)) := by kernel_rfl
@[push_cast] theorem tzv475 : zvD Tryz.prog 475 = (some (.lit (.map none))) := by kernel_rfl
@[push_cast] theorem tbt475 : btT Tryz.prog 475 = .false := by kernel_rfl
@[push_cast] theorem tld480 : ldT Tryz.prog 480 = (some (4, .true)) := by kernel_rfl
@[push_cast] theorem tkd480 : kdT Tryz.prog 480 = (some .other) := by kernel_rfl
@[push_cast] theorem tsl480 : slT Tryz.prog 480 = none := by kernel_rfl
@[push_cast] theorem tzb480 : zbT Tryz.prog 480 = (some (((.int .i32 0) :: ((.int .i64 0) :: ((.int .i64 0) :: ((.int .i64 0) :: [])))), none)) := by kernel_rfl
@[push_cast] theorem tzv480 : zvD Tryz.prog 480 = (some (.agg ((.lit (.int .i32 0)) :: ((.lit (.int .i64 0)) :: ((.lit (.int .i64 0)) :: ((.lit (.int .i64 0)) :: [])))))) := by kernel_rfl
@[push_cast] theorem tbl480 : blT Tryz.prog 480 = (some (((.int .i32 0) :: ((.int .i64 0) :: ((.int .i64 0) :: ((.int .i64 0) :: [])))), ((0, 1) :: ((1, 1) :: ((2, 1) :: ((3, 1) :: [])))))) := by kernel_rfl
@[push_cast] theorem teq480 : EqOk Tryz.prog 480 ((.int .i32) :: ((.int .i64) :: ((.int .i64) :: ((.int .i64) :: [])))) := EqOk.of (by kernel_rfl)
@[push_cast] theorem tbt480 : btT Tryz.prog 480 = .false := by kernel_rfl
@[push_cast] theorem tfl480_0 : flT Tryz.prog 480 0 = (some (0, (1, .false))) := by kernel_rfl
@[push_cast] theorem tfl480_1 : flT Tryz.prog 480 1 = (some (1, (1, .false))) := by kernel_rfl
@[push_cast] theorem tfl480_2 : flT Tryz.prog 480 2 = (some (2, (1, .false))) := by kernel_rfl
@[push_cast] theorem tfl480_3 : flT Tryz.prog 480 3 = (some (3, (1, .false))) := by kernel_rfl
@[push_cast] theorem tld494 : ldT Tryz.prog 494 = (some (1, .false)) := by kernel_rfl
@[push_cast] theorem tkd494 : kdT Tryz.prog 494 = (some .func) := by kernel_rfl
@[push_cast] theorem tsl494 : slT Tryz.prog 494 = none := by kernel_rfl
@[push_cast] theorem tzb494 : zbT Tryz.prog 494 = (some ((.nilFunc :: []), none)) := by kernel_rfl
@[push_cast] theorem tzv494 : zvD Tryz.prog 494 = (some (.lit .nilFunc)) := by kernel_rfl
@[push_cast] theorem tbt494 : btT Tryz.prog 494 = .false := by kernel_rfl
@[push_cast] theorem tld499 : ldT Tryz.prog 499 = (some (1, .false)) := by kernel_rfl
@[push_cast] theorem tkd499 : kdT Tryz.prog 499 = (some (.int .i64)) := by kernel_rfl
@[push_cast] theorem tsl499 : slT Tryz.prog 499 = none := by kernel_rfl
@[push_cast] theorem tzb499 : zbT Tryz.prog 499 = (some (((.int .i64 0) :: []), none)) := by kernel_rfl
@[push_cast] theorem tzv499 : zvD Tryz.prog 499 = (some (.lit (.int .i64 0))) := by kernel_rfl
@[push_cast] theorem tbt499 : btT Tryz.prog 499 = .false := by kernel_rfl
@[push_cast] theorem tld507 : ldT Tryz.prog 507 = (some (1, .false)) := by kernel_rfl
@[push_cast] theorem tkd507 : kdT Tryz.prog 507 = (some (.int .u32)) := by kernel_rfl
@[push_cast] theorem tsl507 : slT Tryz.prog 507 = none := by kernel_rfl
@[push_cast] theorem tzb507 : zbT Tryz.prog 507 = (some (((.int .u32 0) :: []), none)) := by kernel_rfl
@[push_cast] theorem tzv507 : zvD Tryz.prog 507 = (some (.lit (.int .u32 0))) := by kernel_rfl
@[push_cast] theorem tbt507 : btT Tryz.prog 507 = .false := by kernel_rfl
@[push_cast] theorem tld509 : ldT Tryz.prog 509 = (some (1, .false)) := by kernel_rfl
@[push_cast] theorem tkd509 : kdT Tryz.prog 509 = (some (.int .u64)) := by kernel_rfl
@[push_cast] theorem tsl509 : slT Tryz.prog 509 = none := by kernel_rfl
@[push_cast] theorem tzb509 : zbT Tryz.prog 509 = (some (((.int .u64 0) :: []), none)) := by kernel_rfl
@[push_cast] theorem tzv509 : zvD Tryz.prog 509 = (some (.lit (.int .u64 0))) := by kernel_rfl
@[push_cast] theorem tbt509 : btT Tryz.prog 509 = .false := by kernel_rfl
@[push_cast] theorem tld511 : ldT Tryz.prog 511 = (some (1, .false)) := by kernel_rfl
@[push_cast] theorem tkd511 : kdT Tryz.prog 511 = (some .other) := by kernel_rfl
@[push_cast] theorem tsl511 : slT Tryz.prog 511 = none := by kernel_rfl
@[push_cast] theorem tzb511 : zbT Tryz.prog 511 = (some (((.pointer none) :: []), none)) := by kernel_rfl
@[push_cast] theorem tzv511 : zvD Tryz.prog 511 = (some (.lit (.pointer none))) := by kernel_rfl
@[push_cast] theorem tbt511 : btT Tryz.prog 511 = .false := by kernel_rfl
@[push_cast] theorem tld520 : ldT Tryz.prog 520 = (some (1, .false)) := by kernel_rfl
@[push_cast] theorem tkd520 : kdT Tryz.prog 520 = (some .func) := by kernel_rfl
@[push_cast] theorem tsl520 : slT Tryz.prog 520 = none := by kernel_rfl
@[push_cast] theorem tzb520 : zbT Tryz.prog 520 = (some ((.nilFunc :: []), none)) := by kernel_rfl
@[push_cast] theorem tzv520 : zvD Tryz.prog 520 = (some (.lit .nilFunc)) := by kernel_rfl
@[push_cast] theorem tbt520 : btT Tryz.prog 520 = .false := by kernel_rfl
@[push_cast] theorem tld526 : ldT Tryz.prog 526 = (some (1, .false)) := by kernel_rfl
@[push_cast] theorem tkd526 : kdT Tryz.prog 526 = (some .slice) := by kernel_rfl
@[push_cast] theorem tsl526 : slT Tryz.prog 526 = (some (1, .false)) := by kernel_rfl
@[push_cast] theorem tap526 : apT Tryz.prog 526 = (some (1, 1)) := by kernel_rfl
@[push_cast] theorem tzb526 : zbT Tryz.prog 526 = (some (((.slice none 0 0) :: []), none)) := by kernel_rfl
@[push_cast] theorem tmk526 : mkT Tryz.prog 526 = (some (1, (1, (.lit (.bool .false))))) := by kernel_rfl
@[push_cast] theorem tzv526 : zvD Tryz.prog 526 = (some (.lit (.slice none 0 0))) := by kernel_rfl
@[push_cast] theorem tbt526 : btT Tryz.prog 526 = .false := by kernel_rfl
@[push_cast] theorem tld547 : ldT Tryz.prog 547 = (some (1, .false)) := by kernel_rfl
@[push_cast] theorem tkd547 : kdT Tryz.prog 547 = (some .func) := by kernel_rfl
@[push_cast] theorem tsl547 : slT Tryz.prog 547 = none := by kernel_rfl
@[push_cast] theorem tzb547 : zbT Tryz.prog 547 = (some ((.nilFunc :: []), none)) := by kernel_rfl
@[push_cast] theorem tzv547 : zvD Tryz.prog 547 = (some (.lit .nilFunc)) := by kernel_rfl
@[push_cast] theorem tbt547 : btT Tryz.prog 547 = .false := by kernel_rfl
@[push_cast] theorem tld554 : ldT Tryz.prog 554 = (some (4, .true)) := by kernel_rfl
@[push_cast] theorem tkd554 : kdT Tryz.prog 554 = (some .other) := by kernel_rfl
@[push_cast] theorem tsl554 : slT Tryz.prog 554 = none := by kernel_rfl
@[push_cast] theorem tar554 : arT Tryz.prog 554 = (some (4, (1, .false))) := by kernel_rfl
@[push_cast] theorem tzb554 : zbT Tryz.prog 554 = (some (((.int .i32 0) :: ((.int .i32 0) :: ((.int .i32 0) :: ((.int .i32 0) :: [])))), none)) := by kernel_rfl
@[push_cast] theorem tzv554 : zvD Tryz.prog 554 = (some (.agg ((.lit (.int .i32 0)) :: ((.lit (.int .i32 0)) :: ((.lit (.int .i32 0)) :: ((.lit (.int .i32 0)) :: [])))))) := by kernel_rfl
@[push_cast] theorem tbl554 : blT Tryz.prog 554 = (some (((.int .i32 0) :: ((.int .i32 0) :: ((.int .i32 0) :: ((.int .i32 0) :: [])))), ((0, 1) :: ((1, 1) :: ((2, 1) :: ((3, 1) :: [])))))) := by kernel_rfl
@[push_cast] theorem tbt554 : btT Tryz.prog 554 = .false := by kernel_rfl
@[push_cast] theorem tld555 : ldT Tryz.prog 555 = (some (1, .false)) := by kernel_rfl
@[push_cast] theorem tkd555 : kdT Tryz.prog 555 = (some (.int .u64)) := by kernel_rfl
@[push_cast] theorem tsl555 : slT Tryz.prog 555 = none := by kernel_rfl
@[push_cast] theorem tzb555 : zbT Tryz.prog 555 = (some (((.int .u64 0) :: []), none)) := by kernel_rfl
@[push_cast] theorem tzv555 : zvD Tryz.prog 555 = (some (.lit (.int .u64 0))) := by kernel_rfl
@[push_cast] theorem tbt555 : btT Tryz.prog 555 = .false := by kernel_rfl
@[push_cast] theorem tld559 : ldT Tryz.prog 559 = (some (1, .false)) := by kernel_rfl
@[push_cast] theorem tkd559 : kdT Tryz.prog 559 = (some .pointer) := by kernel_rfl
@[push_cast] theorem tsl559 : slT Tryz.prog 559 = none := by kernel_rfl
@[push_cast] theorem tzb559 : zbT Tryz.prog 559 = (some (((.pointer none) :: []), none)) := by kernel_rfl
@[push_cast] theorem tzv559 : zvD Tryz.prog 559 = (some (.lit (.pointer none))) := by kernel_rfl
@[push_cast] theorem tbt559 : btT Tryz.prog 559 = .false := by kernel_rfl
@[push_cast] theorem tld564 : ldT Tryz.prog 564 = (some (1, .false)) := by kernel_rfl
@[push_cast] theorem tkd564 : kdT Tryz.prog 564 = (some .func) := by kernel_rfl
@[push_cast] theorem tsl564 : slT Tryz.prog 564 = none := by kernel_rfl
@[push_cast] theorem tzb564 : zbT Tryz.prog 564 = (some ((.nilFunc :: []), none)) := by kernel_rfl
@[push_cast] theorem tzv564 : zvD Tryz.prog 564 = (some (.lit .nilFunc)) := by kernel_rfl
@[push_cast] theorem tbt564 : btT Tryz.prog 564 = .false := by kernel_rfl
@[push_cast] theorem tld576 : ldT Tryz.prog 576 = (some (1, .false)) := by kernel_rfl
@[push_cast] theorem tkd576 : kdT Tryz.prog 576 = (some .pointer) := by kernel_rfl
@[push_cast] theorem tsl576 : slT Tryz.prog 576 = none := by kernel_rfl
@[push_cast] theorem tzb576 : zbT Tryz.prog 576 = (some (((.pointer none) :: []), none)) := by kernel_rfl
@[push_cast] theorem tzv576 : zvD Tryz.prog 576 = (some (.lit (.pointer none))) := by kernel_rfl
@[push_cast] theorem tbt576 : btT Tryz.prog 576 = .false := by kernel_rfl
@[push_cast] theorem tld580 : ldT Tryz.prog 580 = (some (1, .false)) := by kernel_rfl
@[push_cast] theorem tkd580 : kdT Tryz.prog 580 = (some .func) := by kernel_rfl
@[push_cast] theorem tsl580 : slT Tryz.prog 580 = none := by kernel_rfl
@[push_cast] theorem tzb580 : zbT Tryz.prog 580 = (some ((.nilFunc :: []), none)) := by kernel_rfl
@[push_cast] theorem tzv580 : zvD Tryz.prog 580 = (some (.lit .nilFunc)) := by kernel_rfl
@[push_cast] theorem tbt580 : btT Tryz.prog 580 = .false := by kernel_rfl
def G0 : Gl := fun g => if g = 0 then some (.pd 6 [.agg [.lit (.int .i32 768), .lit (.int .i32 879), .lit (.int .i32 8203), .lit (.int .i32 8207), .lit (.int .i32 65024), .lit (.int .i32 65039)]] 0 0) else if g = 1 then some (.pd 16 [.agg [.lit (.int .i32 4352), .lit (.int .i32 4447), .lit (.int .i32 11904), .lit (.int .i32 12350), .lit (.int .i32 12353), .lit (.int .i32 19903), .lit (.int .i32 19968), .lit (.int .i32 40959), .lit (.int .i32 44032), .lit (.int .i32 55203), .lit (.int .i32 63744), .lit (.int .i32 64255), .lit (.int .i32 65280), .lit (.int .i32 65376), .lit (.int .i32 127744), .lit (.int .i32 128591)]] 0 0) else if g = 2 then some (.pd 4 [.agg [.lit (.int .i32 127), .lit (.int .i32 2047), .lit (.int .i32 65535), .lit (.int .i32 1114111)]] 0 0) else none
@[push_cast] theorem glob0 : G0 0 = some (.pd 6 [.agg [.lit (.int .i32 768), .lit (.int .i32 879), .lit (.int .i32 8203), .lit (.int .i32 8207), .lit (.int .i32 65024), .lit (.int .i32 65039)]] 0 0) := rfl
@[push_cast] theorem glob1 : G0 1 = some (.pd 16 [.agg [.lit (.int .i32 4352), .lit (.int .i32 4447), .lit (.int .i32 11904), .lit (.int .i32 12350), .lit (.int .i32 12353), .lit (.int .i32 19903), .lit (.int .i32 19968), .lit (.int .i32 40959), .lit (.int .i32 44032), .lit (.int .i32 55203), .lit (.int .i32 63744), .lit (.int .i32 64255), .lit (.int .i32 65280), .lit (.int .i32 65376), .lit (.int .i32 127744), .lit (.int .i32 128591)]] 0 0) := rfl
@[push_cast] theorem glob2 : G0 2 = some (.pd 4 [.agg [.lit (.int .i32 127), .lit (.int .i32 2047), .lit (.int .i32 65535), .lit (.int .i32 1114111)]] 0 0) := rfl
theorem mixed : Tryz.prog.follows .mixedOrders = true := by kernel_rfl
end Go.Proofs.YtlnimbnihbcnpaaGreatDoor
/- Words for memory that all walks of this seat use. -/
namespace Go.Proofs.YtlnimbnihbcnpaaGreatDoor
open Go.RowKit

/-- The call returns v; what was there reads as it did. -/
def Rets (v : Value) (w : World) (e : Ending) (w' : World) : Prop := e = .returned v ∧ Below w.heap.size w w'

theorem bcell {W w1 : World} (hb : Below W.heap.size W w1) : (∀ b o, b < W.heap.size → w1.cell? ⟨b, o, none⟩ = W.cell? ⟨b, o, none⟩) ∧ (∀ b o, b < W.heap.size → w1.frozen? ⟨b, o, none⟩ = W.frozen? ⟨b, o, none⟩) :=
  ⟨fun b o h => hb.cell (p := ⟨b, o, none⟩) h, fun b o h => hb.frozen (p := ⟨b, o, none⟩) h⟩

theorem rets_bool {a b : Bool} {w w' : World} (h : a = b) (hb : Below w.heap.size w w') : Rets (.bool b) w (.returned (.bool a)) w' := ⟨by rw [h], hb⟩
theorem rets_int {k : IntKind} {a b : Int} {w w' : World} (h : a = b) (hb : Below w.heap.size w w') : Rets (.int k b) w (.returned (.int k a)) w' := ⟨by rw [h], hb⟩
theorem rets_int2 {k k' : IntKind} {a b a' b' : Int} {w w' : World} (h : a = b) (h' : a' = b') (hb : Below w.heap.size w w') :
    Rets (.tuple #[.int k b, .int k' b']) w (.returned (.tuple #[.int k a, .int k' a'])) w' := ⟨by rw [h, h'], hb⟩
theorem rets_val {v : Value} {w w' : World} (hb : Below w.heap.size w w') : Rets v w (.returned v) w' := ⟨rfl, hb⟩

/-- Block g holds just these cells, none of them frozen. -/
def Box (w : World) (g : Nat) (t : TypeId) (cs : Array Value) : Prop := w.heap[g]? = some (.cells cs t (0, 0))
section
variable {w w' : World} {g : Nat} {t : TypeId} {cs : Array Value}
theorem Box.lt (h : Box w g t cs) : g < w.heap.size := by
  rcases Nat.lt_or_ge g w.heap.size with hlt | hge
  · exact hlt
  · unfold Box at h; rw [Array.getElem?_eq_none hge] at h; cases h
theorem Box.cell (h : Box w g t cs) (i : Nat) : w.cell? ⟨g, i, none⟩ = cs[i]? := by
  unfold Box at h; simp [World.cell?, h]
theorem Box.free (h : Box w g t cs) (i : Nat) : w.frozen? ⟨g, i, none⟩ = false := by
  unfold Box at h; simp [World.frozen?, h]
theorem Box.drew (h : Box w g t cs) : Box w.drew g t cs := h
theorem Box.new (w : World) (t : TypeId) (cs : Array Value) : Box (w.alloc (.cells cs t)) w.heap.size t cs := by
  show (w.heap.push _)[w.heap.size]? = _
  simp
theorem Box.alloc (h : Box w g t cs) (o : Obj) : Box (w.alloc o) g t cs := (Below.heap_alloc w o g h.lt).trans h
theorem Box.set_ (h : Box w g t cs) (i : Nat) (u : Value) : Box (w.setCell ⟨g, i, none⟩ u) g t (cs.setIfInBounds i u) := by
  unfold Box at h ⊢
  simp [World.setCell, Array.getElem?_modify, h]
theorem Box.far (h : Box w g t cs) {p : Addr} (hp : g ≠ p.block) (u : Value) : Box (w.setCell p u) g t cs := (Below.heap_setCell w p u g hp).trans h
theorem Box.below {B : Nat} (h : Box w g t cs) (hb : Below B w w') (hg : g < B) : Box w' g t cs := (hb.block g hg).trans h
theorem Box.to (h : Box w g t cs) {cs' : Array Value} (e : cs = cs') : Box w g t cs' := e ▸ h
end

/-- Cells of a list of two-cell things: thing i at off + 2 * i. -/
def TwoAt (w : World) (B : Nat) (A : Option Addr) (n : Nat) (l : List (Int × Int)) : Prop :=
  l.length = n ∧ (0 < n → ∃ b off, A = some ⟨b, off, none⟩ ∧ b < B ∧ ∀ i x y, l[i]? = some (x, y) →
    w.cell? ⟨b, off + i * 2, none⟩ = some (.int .i64 x) ∧ w.cell? ⟨b, off + i * 2 + 1, none⟩ = some (.int .i64 y))

theorem TwoAt.below {w w' : World} {B : Nat} {A : Option Addr} {n : Nat} {l : List (Int × Int)} (h : TwoAt w B A n l) (hb : Below B w w') : TwoAt w' B A n l :=
  ⟨h.1, fun hn => by
    obtain ⟨b, off, e, hlt, hc⟩ := h.2 hn
    exact ⟨b, off, e, hlt, fun i x y hi => ⟨(hb.cell hlt).trans (hc i x y hi).1, (hb.cell hlt).trans (hc i x y hi).2⟩⟩⟩

theorem TwoAt.fwd {w W : World} {A : Option Addr} {n : Nat} {l : List (Int × Int)} (h : TwoAt w w.heap.size A n l) (hW : Below w.heap.size w W) : TwoAt W W.heap.size A n l :=
  ⟨h.1, fun hn => by
    obtain ⟨b, off, e, hlt, hc⟩ := h.2 hn
    have := hW.size
    exact ⟨b, off, e, by omega, fun i x y hi => ⟨(hW.cell hlt).trans (hc i x y hi).1, (hW.cell hlt).trans (hc i x y hi).2⟩⟩⟩

theorem TwoAt.nil (w : World) (B : Nat) (A : Option Addr) : TwoAt w B A 0 [] := ⟨rfl, fun h => absurd h (by omega)⟩

theorem TwoAt.at_ {w : World} {B : Nat} {A : Option Addr} {n k : Nat} {l : List (Int × Int)} (h : TwoAt w B A n l) (hk : k < n) :
    ∃ b off x y, A = some ⟨b, off, none⟩ ∧ b < B ∧ l[k]? = some (x, y) ∧ w.cell? ⟨b, off + k * 2, none⟩ = some (.int .i64 x) ∧ w.cell? ⟨b, off + k * 2 + 1, none⟩ = some (.int .i64 y) := by
  obtain ⟨b, off, e, hlt, hc⟩ := h.2 (by omega)
  have hl : k < l.length := by have := h.1; omega
  have hg : l[k]? = some (l[k].1, l[k].2) := List.getElem?_eq_getElem hl
  exact ⟨b, off, _, _, e, hlt, hg, hc k _ _ hg⟩

end Go.Proofs.YtlnimbnihbcnpaaGreatDoor
/- More words for memory. -/
namespace Go.Proofs.YtlnimbnihbcnpaaGreatDoor
open Go.RowKit

theorem bcellK {B : Nat} {W w1 : World} (hb : Below B W w1) {N : Nat} (h : N ≤ B) : (∀ b o, b < N → w1.cell? ⟨b, o, none⟩ = W.cell? ⟨b, o, none⟩) ∧ (∀ b o, b < N → w1.frozen? ⟨b, o, none⟩ = W.frozen? ⟨b, o, none⟩) :=
  ⟨fun b o hlt => hb.cell (p := ⟨b, o, none⟩) (Nat.lt_of_lt_of_le hlt h), fun b o hlt => hb.frozen (p := ⟨b, o, none⟩) (Nat.lt_of_lt_of_le hlt h)⟩

theorem keepCell {W w1 : World} (hb : Below W.heap.size W w1) {p : Addr} {v : Value} (h : W.cell? p = some v) : w1.cell? p = some v :=
  (hb.cell (World.block_lt_of_cell? W p h)).trans h

end Go.Proofs.YtlnimbnihbcnpaaGreatDoor
/- The way from a walk that returns true and leaves old memory alone to a law's row: once for all laws. -/
namespace Go.Proofs.YtlnimbnihbcnpaaGreatDoor
open Go.ChangeShapes Go.WideShapes Go.ChangeAt Go.RowKit Go.WideElems

section
variable {H : Type} {enc : TypeId × Value → H} {P : Program}

theorem trodAll_back (hl : laidOutB P = true) {W W' : World} {sp' : Nat → Bool} (hb : Below W.heap.size W W') :
    ∀ (ts : List TypeId) (vs : List Value) (ds : List (DataW H)) (ps : List MemPlace), (∀ t ∈ ts, P.readableRec t = true ∧ t < P.types.size) →
      DataW.TrodAll enc P W 0 (fun _ => true) true ts vs ds ps → (∀ p ∈ ps, p.block < W.heap.size) → (∀ p ∈ ps, sp' p.block = true) → DataW.TrodAll enc P W' 0 sp' true ts vs ds ps
  | [], [], [], _, _, h, _, _ => h
  | t :: ts, v :: vs, d :: ds, ps, hr, ⟨p, q, h1, h2, e⟩, hlt, hs => by
    subst e
    refine ⟨p, q, Trod_stays hl (hr t (by simp)).1 (hr t (by simp)).2 h1 (fun x hx => hb.same (hlt x (by simp [hx]))) (fun x hx => hs x (by simp [hx])), ?_, rfl⟩
    exact trodAll_back hl hb ts vs ds q (fun t ht => hr t (by simp [ht])) h2 (fun x hx => hlt x (by simp [hx])) (fun x hx => hs x (by simp [hx]))
  | [], [], _ :: _, _, _, h, _, _ => h.elim
  | [], _ :: _, _, _, _, h, _, _ => h.elim
  | _ :: _, [], _, _, _, h, _, _ => h.elim
  | _ :: _, _ :: _, [], _, _, h, _, _ => h.elim

theorem law_post {fn : Func} {s : ChangeSpec} {apart fresh handsOn again : Bool} {tb : TypeId} {W W' : World} {args : Array Value} {ds gs : List (DataW H)} {before : List MemPlace}
    (hl : laidOutB P = true) (hread : (fn.params.toList.all fun t => P.readableRec t && decide (t < P.types.size)) = true) (hv : s.vars = []) (hrt : fn.resultTypes = #[tb]) (ub : P.underlying tb = some .bool)
    (hW : DataW.Whole enc P fn.params.toList s.vars apart W args.toList ds gs before) (hsp : s.fn H (ds ++ gs) = { results := [.lit (.bool true)], args := ds }) (hb : Below W.heap.size W W') :
    s.post enc P fn apart fresh handsOn again W args (.bool true) W' := by
  have hlt : ∀ p ∈ before, p.block < W.heap.size := fun p hp => hW.lt p hp
  obtain ⟨p, q, hA, hV, rfl, hz, hn⟩ := id hW
  have hrd : ∀ t ∈ fn.params.toList, P.readableRec t = true ∧ t < P.types.size := fun t ht => by
    have := List.all_eq_true.1 hread t ht
    simpa using this
  have hq : gs = [] ∧ q = [] := by
    rw [hv] at hV
    obtain ⟨h1, h2⟩ := trodVars_none hV
    exact ⟨h1, h2⟩
  obtain ⟨rfl, rfl⟩ := hq
  have hargs : ∀ sp : Nat → Bool, (∀ x ∈ p ++ [], sp x.block = true) → DataW.TrodAll enc P W' 0 sp true fn.params.toList args.toList ds p := fun sp hs =>
    trodAll_back hl hb _ _ _ _ hrd hA (fun x hx => hlt x (by simp [hx])) (fun x hx => hs x (by simp [hx]))
  have hres : ∀ (b : Nat) (sp : Nat → Bool) (hd : Bool), DataW.TrodAll enc P W' b sp hd fn.resultTypes.toList ((Value.bool true).resultList fn.resultTypes.size) [.lit (.bool true)] [] := fun b sp hd => by
    rw [hrt]
    exact trodAll_mk1 (shut_bool ub true)
  have hvars : ∀ sp : Nat → Bool, DataW.TrodVars enc P W' sp s.vars [] [] := fun sp => by rw [hv]; rfl
  have hold : ∀ x ∈ p ++ [], (fun b => decide (b < W.heap.size)) x.block = true := fun x hx => by simpa using hlt x hx
  have hok : ∀ (j : Nat) (t : TypeId) (r : Value), fn.resultTypes[j]? = some t → ((Value.bool true).resultList fn.resultTypes.size)[j]? = some r → Value.okWide P W' .any 0 t r :=
    ok_one hrt rfl (okWide_bool_mk ub true)
  refine ⟨ds, [], p ++ [], [], p, [], hW, ?_, ?_, ?_, World.keptBut_mono (fun x hx => ⟨hx, ?_⟩) (hb.frame (· ∈ p ++ [])), fun _ => ?_⟩
  · rw [hsp]; exact hres _ _ _
  · rw [hsp]; exact hargs _ hold
  · rw [hsp]; exact hvars _
  · exact .inr (.inl (by simpa using hx))
  · refine ⟨hok, [.lit (.bool true)] ++ ds, [], p, ⟨[] ++ p, [], ?_, hvars _, by simp, ?_, ?_⟩, ?_⟩
    · exact trodAll_append (hargs (fun _ => true) (fun _ _ => rfl)) (hres 0 (fun _ => true) true)
    · intro b off hp
      have hin : MemPlace.cell b off ∈ p ++ [] := by simpa using hp
      rw [hb.frozen (p := ⟨b, off, none⟩) (hlt _ hin)]
      exact hz b off hin
    · intro ha
      simpa using hn ha
    · intro x hx _
      simpa using hx

theorem law_calls {f : FuncId} {fn : Func} {s : ChangeSpec} {apart fresh handsOn again : Bool} {tb : TypeId} {W : World} {args : Array Value} {ds gs : List (DataW H)} {before : List MemPlace}
    (hl : laidOutB P = true) (hread : (fn.params.toList.all fun t => P.readableRec t && decide (t < P.types.size)) = true) (hv : s.vars = []) (hrt : fn.resultTypes = #[tb]) (ub : P.underlying tb = some .bool)
    (hW : DataW.Whole enc P fn.params.toList s.vars apart W args.toList ds gs before) (hsp : s.fn H (ds ++ gs) = { results := [.lit (.bool true)], args := ds })
    (h : Calls P f args W (Rets (.bool true) W)) : Calls P f args W fun e W' => ∃ v, e = .returned v ∧ s.post enc P fn apart fresh handsOn again W args v W' :=
  h.mono fun _ _ ⟨he, hb⟩ => ⟨_, he, law_post hl hread hv hrt ub hW hsp hb⟩
end
end Go.Proofs.YtlnimbnihbcnpaaGreatDoor
/- Arguments opened: whatever is built of numbers, truths, strings, structs and slices is settled data. Over any program. -/
namespace Go.Proofs.YtlnimbnihbcnpaaGreatDoor
open Go Go.ChangeShapes Go.WideShapes Go.ChangeAt Go.RowKit Go.WideElems Go.Deep

/-- What a cell of a type's holds. -/
inductive Cs where
  | int (k : IntKind) | bool | str
  | sl (k : Nat) (ag : Bool) (e : List Cs)
def mkEl (ag : Bool) (ds : List D) : D := match ag, ds with
  | false, [d] => d
  | _, ds => .agg ds
mutual
def OfC : Cs → D → Prop
  | .int k, x => ∃ n, x = .lit (.int k n) ∧ (Lit.int k n).wf = true
  | .bool, x => ∃ b, x = .lit (.bool b)
  | .str, x => ∃ s : ByteArray, x = .lit (.string s) ∧ s.size ≤ maxLen
  | .sl k ag e, x => ∃ es, x = .sd k false es ∧ es.length ≤ maxLen ∧ ∀ y ∈ es, ∃ ds, y = mkEl ag ds ∧ OfCs e ds
def OfCs : List Cs → List D → Prop
  | [], [] => True
  | c :: r, d :: s => OfC c d ∧ OfCs r s
  | _, _ => False
end
theorem OfC.cells {c : Cs} {d : D} (h : OfC c d) : d.cells = [d] := by
  cases c with
  | int k => simp only [OfC] at h; obtain ⟨n, rfl, _⟩ := h; rfl
  | bool => simp only [OfC] at h; obtain ⟨n, rfl⟩ := h; rfl
  | str => simp only [OfC] at h; obtain ⟨n, rfl, _⟩ := h; rfl
  | sl k ag e => simp only [OfC] at h; obtain ⟨n, rfl, _⟩ := h; rfl
theorem OfCs.len : ∀ {l : List Cs} {ds : List D}, OfCs l ds → ds.length = l.length
  | [], [], _ => rfl
  | c :: r, d :: s, h => by simp only [OfCs] at h; simp [OfCs.len h.2]
  | [], _ :: _, h => by simp [OfCs] at h
  | _ :: _, [], h => by simp [OfCs] at h
theorem OfCs.app : ∀ {a b : List Cs} {x y : List D}, OfCs a x → OfCs b y → OfCs (a ++ b) (x ++ y)
  | [], _, [], _, _, h => h
  | c :: r, _, d :: s, _, h, k => by
    simp only [OfCs, List.cons_append] at h ⊢
    exact ⟨h.1, OfCs.app h.2 k⟩
  | [], _, _ :: _, _, h, _ => by simp [OfCs] at h
  | _ :: _, _, [], _, h, _ => by simp [OfCs] at h
theorem mkEl_cells {ag : Bool} {l : List Cs} {ds : List D} (h : OfCs l ds) : (mkEl ag ds).cells = ds := by
  unfold mkEl
  split
  · match l, h with
    | c :: [], h =>
      simp only [OfCs] at h
      exact h.1.cells
    | [], h => simp [OfCs] at h
    | _ :: _ :: _, h => simp [OfCs] at h
  · rfl
def isStT (P : Program) (t : Nat) : Bool := match P.underlying t with
  | some (.struct _) => true
  | _ => false
def fieldsC (P : Program) (g : Nat → Option (List Cs)) : List Field → Nat → Option (List Cs)
  | [], _ => some []
  | f :: r, o => if f.offset = o then (match g f.type with
    | some a => if P.cellsOf f.type = a.length then (fieldsC P g r (o + a.length)).map (a ++ ·) else none
    | none => none) else none
def shC (P : Program) : Nat → Nat → Option (List Cs)
  | 0, _ => none
  | d + 1, t => match P.underlying t with
    | some (.int k) => some [.int k]
    | some .bool => some [.bool]
    | some .string => some [.str]
    | some (.struct fs) => (match fieldsC P (shC P d) fs.toList 0 with
      | some l => if P.cellsOf t = l.length then some l else none
      | none => none)
    | some (.slice e) => (match shC P d e with
      | some l => if P.cellsOf e = l.length ∧ 0 < l.length then some [.sl l.length (isStT P e) l] else none
      | none => none)
    | _ => none

section
variable {H : Type} {enc : TypeId × Value → H} {P : Program} {w : World} {held : Bool}
def Old (w : World) : Nat → Prop := fun b => b < w.heap.size
def GoodL (w : World) (ds : List D) (cs : List Value) : Prop := ds.length = cs.length ∧ (∀ v ∈ cs, v.oneCell' = true) ∧ ∀ (i : Nat) c v, ds[i]? = some c → cs[i]? = some v → DenD w (Old w) c v
theorem GoodL.nil : GoodL w [] [] := ⟨rfl, (fun v hv => by cases hv), (fun i c v h => by simp at h)⟩
theorem GoodL.one {d : D} {v : Value} (ho : v.oneCell' = true) (h : DenD w (Old w) d v) : GoodL w [d] [v] :=
  ⟨rfl, fun x hx => by simp at hx; subst hx; exact ho, fun i c x hc hx => by
    match i, hc, hx with
    | 0, hc, hx => simp at hc hx; subst hc hx; exact h⟩
theorem GoodL.app {a b : List D} {x y : List Value} (h : GoodL w a x) (k : GoodL w b y) : GoodL w (a ++ b) (x ++ y) := by
  refine ⟨by simp [h.1, k.1], fun v hv => ?_, fun i c v hc hv => ?_⟩
  · rcases List.mem_append.1 hv with hv | hv
    · exact h.2.1 v hv
    · exact k.2.1 v hv
  · rw [List.getElem?_append] at hc hv
    rw [h.1] at hc
    split at hc
    · rename_i hlt
      rw [if_pos hlt] at hv
      exact h.2.2 i c v hc hv
    · rename_i hlt
      rw [if_neg hlt] at hv
      exact k.2.2 _ c v hc hv
theorem open_fields {d n : Nat} (ih : ∀ t l, shC P d t = some l → ∀ (fuel : Nat) cs x, DataW.trod enc P w 0 (fun _ => true) held fuel t cs = some x → ∃ ds, OfCs l ds ∧ GoodL w ds cs) {cs : List Value} :
    ∀ (fs : List Field) (o : Nat) (l : List Cs), fieldsC P (shC P d) fs o = some l → (∀ f ∈ fs, ∃ x, DataW.trod enc P w 0 (fun _ => true) held n f.type ((cs.drop f.offset).take (P.cellsOf f.type)) = some x) →
      ∃ ds, OfCs l ds ∧ GoodL w ds ((cs.drop o).take l.length)
  | [], o, l, h, _ => by
    simp only [fieldsC, Option.some.injEq] at h
    subst h
    exact ⟨[], by simp [OfCs], by simpa using GoodL.nil⟩
  | f :: fs, o, l, h, hx => by
    simp only [fieldsC] at h
    split at h
    rotate_left
    · cases h
    rename_i ho
    split at h
    rotate_left
    · cases h
    rename_i a ha
    split at h
    rotate_left
    · cases h
    rename_i hc
    simp only [Option.map_eq_some_iff] at h
    obtain ⟨b, hb, rfl⟩ := h
    obtain ⟨x, h1⟩ := hx f List.mem_cons_self
    obtain ⟨d1, p1, q1⟩ := ih f.type a ha n _ _ h1
    obtain ⟨d2, p2, q2⟩ := open_fields ih fs (o + a.length) b hb (fun g hg => hx g (List.mem_cons_of_mem _ hg))
    refine ⟨d1 ++ d2, p1.app p2, ?_⟩
    have e : (cs.drop o).take (a ++ b).length = (cs.drop f.offset).take (P.cellsOf f.type) ++ (cs.drop (o + a.length)).take b.length := by
      rw [ho, hc, List.length_append, List.take_add, List.drop_drop]
    rw [e]
    exact q1.app q2
theorem plain_addr {a : Addr} {v : Value} (h : w.cell? a = some v) : a = ⟨a.block, a.off, none⟩ ∧ a.block < w.heap.size := by
  refine ⟨?_, World.block_lt_of_cell? w _ h⟩
  rcases a with ⟨b, o, s⟩
  cases s with
  | none => rfl
  | some s => simp [World.cell?] at h; split at h <;> simp at h
theorem add_plain (b o n : Nat) : (Addr.mk b o none).add n = ⟨b, o + n, none⟩ := by
  unfold Addr.add
  split <;> simp_all
theorem open_cells : ∀ (d t : Nat) (l : List Cs), shC P d t = some l → ∀ (fuel : Nat) cs x, DataW.trod enc P w 0 (fun _ => true) held fuel t cs = some x → ∃ ds, OfCs l ds ∧ GoodL w ds cs := by
  intro d
  induction d with
  | zero => intro t l h; simp [shC] at h
  | succ d ih =>
    intro t l h fuel cs x ht
    simp only [shC] at h
    split at h
    · rename_i k hu
      injection h with h; subst h
      obtain ⟨n, rfl, _, hw⟩ := DataW.trod_int hu ht
      exact ⟨[.lit (.int k n)], by simp only [OfCs, OfC]; exact ⟨⟨n, rfl, hw⟩, trivial⟩, GoodL.one rfl (DenD.lit _)⟩
    · rename_i hu
      injection h with h; subst h
      obtain ⟨n, rfl, _⟩ := DataW.trod_bool hu ht
      exact ⟨[.lit (.bool n)], by simp only [OfCs, OfC]; exact ⟨⟨n, rfl⟩, trivial⟩, GoodL.one rfl (DenD.lit _)⟩
    · rename_i hu
      injection h with h; subst h
      obtain ⟨n, rfl, _, hw⟩ := DataW.trod_string hu ht
      exact ⟨[.lit (.string n)], by simp only [OfCs, OfC]; exact ⟨⟨n, rfl, hw⟩, trivial⟩, GoodL.one rfl (DenD.lit _)⟩
    · rename_i fs hu
      split at h
      rotate_left
      · cases h
      rename_i l' hl'
      split at h
      rotate_left
      · cases h
      rename_i hcl
      injection h with h; subst h
      obtain ⟨xs, n, _, _, hlen, hxs, hg⟩ := DataW.trod_struct hu ht
      obtain ⟨ds, h1, h2⟩ := open_fields (n := n) (cs := cs) ih fs.toList 0 l' hl' (fun f hf => by
        obtain ⟨i, hi, rfl⟩ := List.getElem_of_mem hf
        have hi' : i < fs.size := by simpa using hi
        have := hg i fs[i] (by simp [hi'])
        refine ⟨xs[i]'(by omega), ?_⟩
        have e : fs.toList[i] = fs[i] := by simp
        rw [e, this]
        exact List.getElem?_eq_getElem (by omega))
      refine ⟨ds, h1, ?_⟩
      rw [List.drop_zero, List.take_of_length_le (by omega)] at h2
      exact h2
    · rename_i e hu
      split at h
      rotate_left
      · cases h
      rename_i l' hl'
      split at h
      rotate_left
      · cases h
      rename_i hcl
      obtain ⟨hcl, hpos⟩ := hcl
      injection h with h; subst h
      rcases open_slice hu ht with ⟨rfl, _⟩ | ⟨a, len, cap, m, n, D', Pl, rfl, _, hle, hm, hmm, _, hall⟩
      · refine ⟨[.sd l'.length false []], ?_, GoodL.one rfl (DenD.sd0 _ _ _)⟩
        simp only [OfCs, OfC]
        exact ⟨⟨[], rfl, Nat.zero_le _, fun y hy => by cases hy⟩, trivial⟩
      · rw [if_pos rfl] at hmm
        subst hmm
        rw [hcl] at hall
        rcases Nat.eq_zero_or_pos m with h0 | h0
        · have hl0 : len = 0 := by omega
          subst hl0 h0
          refine ⟨[.sd l'.length false []], ?_, GoodL.one rfl (DenD.sd0 _ _ _)⟩
          simp only [OfCs, OfC]
          exact ⟨⟨[], rfl, Nat.zero_le _, fun y hy => by cases hy⟩, trivial⟩
        · have hpl : a = ⟨a.block, a.off, none⟩ ∧ a.block < w.heap.size := by
            obtain ⟨cs', hc', _⟩ := hall 0 h0
            obtain ⟨_, hcl', hat⟩ := World.cells?_some hc'
            have h1 := hat 0 hpos
            rw [List.getElem?_eq_getElem (by omega)] at h1
            rw [Go.Deep.add_add] at h1
            simpa [Addr.add] using plain_addr h1
          obtain ⟨ha, hbl⟩ := hpl
          have hel : ∀ i, i < m → ∃ ds, OfCs l' ds ∧ ∀ (j : Nat) c, ds[j]? = some c → ∃ v, w.cell? ⟨a.block, a.off + i * l'.length + j, none⟩ = some v ∧ v.oneCell' = true ∧ DenD w (Old w) c v := by
            intro i hi
            obtain ⟨cs', hc', ht'⟩ := hall i hi
            obtain ⟨_, hcl', hat⟩ := World.cells?_some hc'
            obtain ⟨ds, h1, h2⟩ := ih e l' hl' n cs' _ ht'
            refine ⟨ds, h1, fun j c hj => ?_⟩
            have hjl : j < cs'.length := by rw [← h2.1]; exact (List.getElem?_eq_some_iff.1 hj).1
            have h3 := hat j (by omega)
            rw [Go.Deep.add_add, ha, add_plain, List.getElem?_eq_getElem hjl] at h3
            refine ⟨cs'[j], ?_, h2.2.1 _ (List.getElem_mem hjl), h2.2.2 j c _ hj (List.getElem?_eq_getElem hjl)⟩
            rw [← h3, Nat.add_assoc]
          let F : Nat → List D := fun i => if hi : i < m then (hel i hi).choose else []
          have hF : ∀ i, i < m → OfCs l' (F i) ∧ ∀ (j : Nat) c, (F i)[j]? = some c → ∃ v, w.cell? ⟨a.block, a.off + i * l'.length + j, none⟩ = some v ∧ v.oneCell' = true ∧ DenD w (Old w) c v := by
            intro i hi
            have e : F i = (hel i hi).choose := by simp only [F, hi, dif_pos]
            rw [e]
            exact (hel i hi).choose_spec
          have hes : ∀ (i : Nat) y, ((List.range len).map fun i => mkEl (isStT P e) (F i))[i]? = some y → i < m ∧ y = mkEl (isStT P e) (F i) := by
            intro i y hy
            simp only [List.getElem?_map, Option.map_eq_some_iff] at hy
            obtain ⟨k, hk, rfl⟩ := hy
            obtain ⟨hk1, hk2⟩ := List.getElem?_eq_some_iff.1 hk
            simp at hk1 hk2
            subst hk2
            exact ⟨by omega, rfl⟩
          refine ⟨[.sd l'.length false ((List.range len).map fun i => mkEl (isStT P e) (F i))], ?_, GoodL.one rfl ?_⟩
          · simp only [OfCs, OfC]
            refine ⟨⟨_, rfl, by simp; omega, fun y hy => ?_⟩, trivial⟩
            obtain ⟨i, hi⟩ := List.mem_iff_getElem?.1 hy
            obtain ⟨h1, h2⟩ := hes i y hi
            exact ⟨F i, h2, (hF i h1).1⟩
          · rw [ha]
            have key := DenD.sd (w := w) (I := Old w) l'.length false ((List.range len).map fun i => mkEl (isStT P e) (F i)) a.block a.off m (fun i j => (w.cell? ⟨a.block, a.off + i * l'.length + j, none⟩).getD undef) hbl
              (fun i y hy => by
                obtain ⟨h1, rfl⟩ := hes i y hy
                rw [mkEl_cells (hF i h1).1, (hF i h1).1.len])
              (fun i y j c hy hj => by
                obtain ⟨h1, rfl⟩ := hes i y hy
                rw [mkEl_cells (hF i h1).1] at hj
                obtain ⟨v, v1, _, _⟩ := (hF i h1).2 j c hj
                rw [v1]; rfl)
              (fun i y j c hy hj => by
                obtain ⟨h1, rfl⟩ := hes i y hy
                rw [mkEl_cells (hF i h1).1] at hj
                obtain ⟨v, v1, v2, _⟩ := (hF i h1).2 j c hj
                simp only [v1, Option.getD_some]; exact v2)
              (fun i y j c hy hj => by
                obtain ⟨h1, rfl⟩ := hes i y hy
                rw [mkEl_cells (hF i h1).1] at hj
                obtain ⟨v, v1, _, v3⟩ := (hF i h1).2 j c hj
                simp only [v1, Option.getD_some]; exact v3)
              (by simp; omega) (by simp)
            simpa using key
    · cases h
/-- What an argument's settled data is. -/
def argD (P : Program) (t : Nat) (ds : List D) : D := mkEl (isStT P t) ds
theorem open_arg {d t b0 : Nat} {l : List Cs} {v : Value} {x : DataW H} {p : List MemPlace} (hs : shC P d t = some l) (hv : Value.okWide P w .any b0 t v) (h : DataW.Trod enc P w 0 (fun _ => true) held t v x p) :
    ∃ ds, OfCs l ds ∧ DenD w (Old w) (argD P t ds) v := by
  obtain ⟨fuel, hf⟩ := h
  obtain ⟨ds, h1, h2⟩ := open_cells d t l hs fuel _ _ hf
  refine ⟨ds, h1, ?_⟩
  have one : ∀ c, l = [c] → isStT P t = false → v.cells = #[v] → DenD w (Old w) (argD P t ds) v := by
    intro c hl hst hc
    subst hl
    match ds, h1 with
    | [d], h1 =>
      unfold argD
      rw [hst]
      exact h2.2.2 0 d v rfl (by rw [hc]; rfl)
    | [], h1 => simp [OfCs] at h1
    | _ :: _ :: _, h1 => simp [OfCs] at h1
  cases d with
  | zero => simp [shC] at hs
  | succ d =>
    simp only [shC] at hs
    split at hs
    · rename_i k hu
      injection hs with hs
      obtain ⟨n, rfl⟩ := okWide_int hu hv
      exact one _ hs.symm (by simp [isStT, hu]) rfl
    · rename_i hu
      injection hs with hs
      obtain ⟨n, rfl⟩ := okWide_bool hu hv
      exact one _ hs.symm (by simp [isStT, hu]) rfl
    · rename_i hu
      injection hs with hs
      obtain ⟨n, rfl⟩ := okWide_string hu hv
      exact one _ hs.symm (by simp [isStT, hu]) rfl
    · rename_i fs hu
      obtain ⟨cs, rfl, hsz⟩ := okWide_struct hu hv
      have e : argD P t ds = .agg ds := by
        have hst : isStT P t = true := by simp [isStT, hu]
        unfold argD mkEl
        rw [hst]
      rw [e]
      have hcs : cs = cs.toList.toArray := by simp
      rw [hcs]
      exact DenD.agg ds cs.toList h2.1 h2.2.1 h2.2.2
    · rename_i e hu
      split at hs
      rotate_left
      · cases hs
      split at hs
      rotate_left
      · cases hs
      injection hs with hs
      obtain ⟨a, n, c, rfl⟩ := okWide_slice hu hv
      exact one _ hs.symm (by simp [isStT, hu]) rfl
    · cases hs
end
end Go.Proofs.YtlnimbnihbcnpaaGreatDoor
/- From what a function does, told of settled data, to a law's row. Over any program. -/
namespace Go.Proofs.YtlnimbnihbcnpaaGreatDoor
open Go Go.ChangeShapes Go.WideShapes Go.ChangeAt Go.RowKit Go.WideElems Go.Deep
section
variable {H : Type} {enc : TypeId × Value → H} {P : Program} {w : World} {held : Bool}
theorem rets_of {G : Gl} {f : Nat} {args : List V} {vals : List Value} {b : Bool} (hG : GOk G w (Old w)) (h : OFn P G f args [] 0 (bv b) []) (hd : DenL w (Old w) (fun _ => none) args vals) : Calls P f vals.toArray w (Rets (.bool b) w) := by
  have hm : Mem w (Old w) (fun _ => none) [] 0 := ⟨(fun id blk h => by cases h), (fun id id' blk blk' b c c' h => by cases h), fun _ _ => rfl, fun b h => h⟩
  refine (h w (Old w) (fun _ => none) vals hm hG hd).mono ?_
  rintro e w' ⟨u, I', β', rfl, h1, h2⟩
  have hu : u = .bool b := den_lit h1
  subst hu
  exact ⟨rfl, h2.os, h2.tape, h2.output, h2.size, fun k hk => h2.block k hk (fun ⟨j, bl, c, g1, _⟩ => by cases g1)⟩
def shCs (P : Program) (d : Nat) : List Nat → Option (List (List Cs))
  | [] => some []
  | t :: ts => match shC P d t, shCs P d ts with
    | some a, some b => some (a :: b)
    | _, _ => none
def OfAll : List (List Cs) → List (List D) → Prop
  | [], [] => True
  | a :: r, d :: s => OfCs a d ∧ OfAll r s
  | _, _ => False
def argsD (P : Program) : List Nat → List (List D) → List V
  | t :: ts, d :: ds => .d (argD P t d) :: argsD P ts ds
  | _, _ => []
theorem open_args {d b0 : Nat} : ∀ (ts : List Nat) (ls : List (List Cs)) (vs : List Value) (xs : List (DataW H)) (ps : List MemPlace), shCs P d ts = some ls →
    (∀ (j : Nat) t v, ts[j]? = some t → vs[j]? = some v → Value.okWide P w .any b0 t v) → DataW.TrodAll enc P w 0 (fun _ => true) held ts vs xs ps → ∃ dss, OfAll ls dss ∧ DenL w (Old w) (fun _ => none) (argsD P ts dss) vs
  | [], ls, [], [], _, hs, _, _ => by
    simp only [shCs, Option.some.injEq] at hs
    subst hs
    exact ⟨[], by simp [OfAll], ⟨rfl, fun i c x h => by cases h⟩⟩
  | t :: ts, ls, v :: vs, x :: xs, ps, hs, hv, ⟨p, q, h1, h2, _⟩ => by
    simp only [shCs] at hs
    split at hs
    rotate_left
    · cases hs
    rename_i a b ha hb
    injection hs with hs
    subst hs
    obtain ⟨ds, g1, g2⟩ := open_arg ha (hv 0 t v rfl rfl) h1
    obtain ⟨dss, g3, g4⟩ := open_args ts b vs xs q hb (fun j t v h k => hv (j + 1) t v h k) h2
    refine ⟨ds :: dss, ⟨g1, g3⟩, ⟨by simp [argsD, g4.1], fun i c x hc hx => ?_⟩⟩
    match i, hc, hx with
    | 0, hc, hx =>
      simp only [argsD, List.getElem?_cons_zero, Option.some.injEq] at hc hx
      subst hc hx
      exact g2
    | i + 1, hc, hx => exact g4.2 i c x hc hx
  | [], _, [], _ :: _, _, _, _, h => h.elim
  | [], _, _ :: _, _, _, _, _, h => h.elim
  | _ :: _, _, [], _, _, _, _, h => h.elim
  | _ :: _, _, _ :: _, [], _, _, _, h => h.elim
/-- Whatever the arguments, if the function returns true of all settled data of their types. -/
theorem law_open {G : Gl} {d b0 : Nat} {f : Nat} {ts : List Nat} {ls : List (List Cs)} {args : Array Value} {xs : List (DataW H)} {ps : List MemPlace} (hG : GOk G w (Old w)) (hs : shCs P d ts = some ls)
    (hv : ∀ (j : Nat) t v, ts[j]? = some t → args.toList[j]? = some v → Value.okWide P w .any b0 t v) (hA : DataW.TrodAll enc P w 0 (fun _ => true) held ts args.toList xs ps)
    (h : ∀ dss, OfAll ls dss → OFn P G f (argsD P ts dss) [] 0 (bv true) []) : Calls P f args w (Rets (.bool true) w) := by
  obtain ⟨dss, h1, h2⟩ := open_args ts ls args.toList xs ps hs hv hA
  have := rets_of hG (h dss h1) h2
  simpa using this
theorem list_of {α : Type} {es : List D} (f : α → D) (h : ∀ y ∈ es, ∃ x, y = f x) : ∃ l : List α, es = l.map f := by
  induction es with
  | nil => exact ⟨[], rfl⟩
  | cons e r ih =>
    obtain ⟨x, rfl⟩ := h e List.mem_cons_self
    obtain ⟨l, rfl⟩ := ih fun y hy => h y (List.mem_cons_of_mem _ hy)
    exact ⟨x :: l, rfl⟩
theorem trod_len : ∀ {ts : List Nat} {vs : List Value} {xs : List (DataW H)} {ps : List MemPlace}, DataW.TrodAll enc P w 0 (fun _ => true) held ts vs xs ps → xs.length = ts.length
  | [], [], [], _, _ => rfl
  | t :: ts, v :: vs, x :: xs, ps, ⟨p, q, h1, h2, _⟩ => by simp [trod_len h2]
  | [], [], _ :: _, _, h => h.elim
  | [], _ :: _, _, _, h => h.elim
  | _ :: _, [], _, _, h => h.elim
  | _ :: _, _ :: _, [], _, h => h.elim
end
end Go.Proofs.YtlnimbnihbcnpaaGreatDoor
/- Tables that the card lays, as settled data. Over any program. -/
namespace Go.Proofs.YtlnimbnihbcnpaaGreatDoor
theorem old_of_cell {w : World} {b o : Nat} {v : Value} (h : w.cell? ⟨b, o, none⟩ = some v) : Old w b := by
  unfold Old
  rcases Nat.lt_or_ge b w.heap.size with hb | hb
  · exact hb
  · rw [World.cell?] at h
    have : w.heap[b]? = none := Array.getElem?_eq_none (by omega)
    simp [this] at h
theorem tab_den {P : Program} {W : World} {name : String} {k : IntKind} {zs : List Int} {g : Nat} (h : Lib.TabIs P W name k zs) (hg : P.globalNamed name = some g) (hz : 0 < zs.length) :
    DenD W (Old W) (.pd zs.length [.agg (zs.map fun z => .lit (.int k z))] 0 0) (.pointer (some ⟨g, 0, none⟩)) := by
  have hlen : (D.agg (zs.map fun z => .lit (.int k z))).cells.length = zs.length := by simp [D.cells]
  have key : ∀ (i : Nat) e (j : Nat) c, [D.agg (zs.map fun z => .lit (.int k z))][i]? = some e → e.cells[j]? = some c → i = 0 ∧ ∃ z, zs[j]? = some z ∧ c = .lit (.int k z) := by
    intro i e j c he hj
    match i, he with
    | 0, he =>
      simp only [List.getElem?_cons_zero, Option.some.injEq] at he
      subst he
      simp only [D.cells, List.getElem?_map, Option.map_eq_some_iff] at hj
      obtain ⟨z, hz, rfl⟩ := hj
      exact ⟨rfl, z, hz, rfl⟩
    | i + 1, he => simp at he
  have := DenD.pd (w := W) (I := Old W) zs.length [.agg (zs.map fun z => .lit (.int k z))] 0 0 g 0 (fun i j => .int k (zs.getD j 0)) (old_of_cell (h.cell hg 0 hz))
    (fun i e he => by
      match i, he with
      | 0, he =>
        simp only [List.getElem?_cons_zero, Option.some.injEq] at he
        subst he; exact hlen
      | i + 1, he => simp at he)
    (fun i e j c he hj => by
      obtain ⟨rfl, z, hz, rfl⟩ := key i e j c he hj
      have hj' : j < zs.length := by
        rcases Nat.lt_or_ge j zs.length with q | q
        · exact q
        · rw [List.getElem?_eq_none q] at hz; cases hz
      simpa using h.cell hg j hj')
    (fun i e j c he hj => rfl)
    (fun i e j c he hj => by
      obtain ⟨rfl, z, hz, rfl⟩ := key i e j c he hj
      have : zs.getD j 0 = z := by simp [List.getD, hz]
      rw [this]; exact .lit _)
  simpa using this
theorem flat_of (F : Int → Value) {m : Nat} : ∀ (zss : List (List Int)) (cs : List Value), cs.length = zss.length * m → (∀ (i : Nat) zs, zss[i]? = some zs → (cs.drop (i * m)).take m = zs.map F) → cs = zss.flatten.map F
  | [], cs, h, _ => by simpa using h
  | z :: r, cs, h, hi => by
    have h0 := hi 0 z rfl
    simp only [Nat.zero_mul, List.drop_zero] at h0
    have ih := flat_of F (m := m) r (cs.drop m) (by simp only [List.length_drop, h, List.length_cons, Nat.add_mul]; omega) (fun i zs hz => by
      have := hi (i + 1) zs (by simpa using hz)
      rw [List.drop_drop]
      rw [Nat.add_mul, Nat.one_mul, Nat.add_comm] at this
      exact this)
    rw [List.flatten_cons, List.map_append, ← h0, ← ih, List.take_append_drop]
theorem cells_of_two {H : Type} {enc : TypeId × Value → H} {P : Program} {w : World} {base : Nat} {sp : Nat → Bool} {held : Bool} {fuel : Nat} {e f : TypeId} {k : IntKind} {cs : List Value} {zs : List Int} {p : List MemPlace} {f0 f1 : Field}
    (he : P.underlying e = some (.struct #[f0, f1])) (h0 : f0.type = f) (h1 : f1.type = f) (o0 : f0.offset = 0) (o1 : f1.offset = 1) (hf : P.underlying f = some (.int k)) (hcf : P.cellsOf f = 1) (hce : P.cellsOf e = 2)
    (h : DataW.trod enc P w base sp held fuel e cs = some (Lib.tabData k zs, p)) : cs = zs.map fun z => Value.int k z := by
  obtain ⟨y0, y1, n, hx, hl, ha, hb⟩ := ChangeShapes.trod_struct2 he h
  rw [h0, o0, hcf] at ha
  rw [h1, o1, hcf] at hb
  rw [hce] at hl
  obtain ⟨a, a1, a2, _⟩ := DataW.trod_int hf ha
  obtain ⟨b, b1, b2, _⟩ := DataW.trod_int hf hb
  injection hx with hx _
  rw [a2, b2] at hx
  simp only [Lib.tabData, DataW.agg.injEq] at hx
  match cs, hl with
  | [c0, c1], _ =>
    simp at a1 b1
    subst a1; subst b1
    match zs, hx with
    | [z0, z1], hx => simp at hx; simp [hx]
    | [], hx => simp at hx
    | [_], hx => simp at hx
    | _ :: _ :: _ :: _, hx => simp at hx
theorem cells_of_tab2 {H : Type} {enc : TypeId × Value → H} {P : Program} {w : World} {base : Nat} {sp : Nat → Bool} {held : Bool} {fuel : Nat} {t e f : TypeId} {n : Nat} {k : IntKind} {cs : List Value} {zss : List (List Int)} {p : List MemPlace} {f0 f1 : Field}
    (ht : P.underlying t = some (.array n e)) (he : P.underlying e = some (.struct #[f0, f1])) (h0 : f0.type = f) (h1 : f1.type = f) (o0 : f0.offset = 0) (o1 : f1.offset = 1) (hf : P.underlying f = some (.int k)) (hcf : P.cellsOf f = 1) (hce : P.cellsOf e = 2) (hct : P.cellsOf t = n * 2)
    (h : DataW.trod enc P w base sp held fuel t cs = some (.agg (zss.map (Lib.tabData k)), p)) : cs = zss.flatten.map fun z => Value.int k z := by
  cases fuel with
  | zero => simp [DataW.trod] at h
  | succ fuel =>
    simp only [DataW.trod, ht, hce, hct] at h
    split at h
    · rename_i hl
      obtain ⟨xs, hm, hx⟩ := Option.map_eq_some_iff.1 h
      have hxs : xs.map (·.1) = zss.map (Lib.tabData (H := H) k) := by
        have := congrArg Prod.fst hx
        simpa using this
      have hxl : xs.length = n := by simpa using Lib.mapM_length hm
      have hzl : zss.length = n := by
        have := congrArg List.length hxs
        simp at this
        omega
      refine flat_of (m := 2) (fun z => Value.int k z) zss cs (by rw [hzl]; exact hl) (fun i zs hz => ?_)
      have hi : i < n := by
        rcases Nat.lt_or_ge i n with q | q
        · exact q
        · rw [List.getElem?_eq_none (by omega)] at hz; cases hz
      obtain ⟨b, hb, hfb⟩ := Lib.mapM_at hm i i (by simp [hi])
      have h2 : (xs.map (·.1))[i]? = some b.1 := by simp [hb]
      rw [hxs] at h2
      simp only [List.getElem?_map, hz, Option.map_some, Option.some.injEq] at h2
      obtain ⟨b1, b2⟩ := b
      simp only at h2
      subst h2
      exact cells_of_two he h0 h1 o0 o1 hf hcf hce hfb
    · cases h
theorem tabIs_of_head2 {P : Program} {W : World} {name : String} {k : IntKind} {zss : List (List Int)} {rest : List (String × DataW Unit)} {g : Nat} {t e f : TypeId} {n : Nat} {f0 f1 : Field}
    (hg : P.globalNamed name = some g) (hty : (P.globals[g]?).map (·.type) = some t) (ht : P.underlying t = some (.array n e)) (he : P.underlying e = some (.struct #[f0, f1])) (h0 : f0.type = f) (h1 : f1.type = f) (o0 : f0.offset = 0) (o1 : f1.offset = 1) (hf : P.underlying f = some (.int k)) (hcf : P.cellsOf f = 1) (hce : P.cellsOf e = 2) (hct : P.cellsOf t = n * 2)
    (h : laidMet P ((name, .agg (zss.map (Lib.tabData k))) :: rest) W) : Lib.TabIs P W name k zss.flatten := by
  obtain ⟨ps, ⟨g', t', cs, fuel, p, q, hg', ht', hvar, hd, _, _⟩, _⟩ := h
  obtain rfl := Option.some.inj (hg.symm.trans hg')
  obtain rfl := Option.some.inj (hty.symm.trans ht')
  unfold Lib.TabIs
  rw [hvar, ← cells_of_tab2 ht he h0 h1 o0 o1 hf hcf hce hct hd]
end Go.Proofs.YtlnimbnihbcnpaaGreatDoor
/- Code run on abstract states that are known whole: the machine. -/
set_option linter.unusedVariables false
namespace Go.Proofs.YtlnimbnihbcnpaaGreatDoor

/-! ### What is reckoned is reckoned at once. -/
def fN {α : Type} (n : Nat) (k : Nat → α) : α := match n with
  | 0 => k 0
  | m + 1 => k (Nat.succ m)
def fI {α : Type} (i : Int) (k : Int → α) : α := match i with
  | .ofNat n => fN n fun n => k (.ofNat n)
  | .negSucc n => fN n fun n => k (.negSucc n)
def fB {α : Type} (b : Bool) (k : Bool → α) : α := match b with
  | true => k true
  | false => k false
def fVal {α : Type} (v : Value) (k : Value → α) : α := match v with
  | .int kd i => fI i fun i => k (.int kd i)
  | .bool b => fB b fun b => k (.bool b)
  | v => k v
def fD {α : Type} (x : D) (k : D → α) : α := match x with
  | .lit v => fVal v fun v => k (.lit v)
  | x => k x
def fV {α : Type} (v : V) (k : V → α) : α := match v with
  | .d x => fD x fun x => k (.d x)
  | .so id kk lo n => fN lo fun lo => fN n fun n => k (.so id kk lo n)
  | v => k v
def fL {α : Type} : List D → (List D → α) → α
  | [], k => k []
  | x :: r, k => fL r fun r => k (x :: r)
def fBlk {α : Type} (b : Blk) (k : Blk → α) : α := match b with
  | .row n es tq => fL es fun es => k (.row n es tq)
  | b => k b

/-! ### Whether what an operation needs is so. -/
def okInt (o : BinOp) (b : Int) : Bool := match o with
  | .quo => !(b == 0)
  | .rem => !(b == 0)
  | .shl => decide (0 ≤ b)
  | .shr => decide (0 ≤ b)
  | _ => true
def okStr (o : BinOp) (a b : ByteArray) : Bool := match o with
  | .add => decide (((a.size + b.size : Nat) : Int) ≤ 9223372036854775807)
  | _ => true
def okEq (o q : Option (List CK)) : Bool := match o, q with
  | some ks, some ks' => sameCK ks ks'
  | _, _ => false
def okBin (P : Program) (o : BinOp) (t : Nat) (x y : V) : Bool := match x with
  | .d (.lit (.int _ _)) => (match y with
    | .d (.lit (.int _ b)) => okInt o b
    | _ => true)
  | .d (.lit (.string a)) => (match y with
    | .d (.lit (.string b)) => okStr o a b
    | _ => true)
  | .d (.agg xs) => (match y with
    | .d (.agg _) => okEq (eqOkT P t) (allCK xs)
    | _ => true)
  | _ => true
def okB (lo hi : Option Int) (mx : Option Int) (n : Nat) : Bool :=
  decide (0 ≤ lo.getD 0) && decide (lo.getD 0 ≤ hi.getD n) && decide (hi.getD n ≤ mx.getD n) && decide (mx.getD n ≤ n)
def okSl (x : V) (lo hi mx : Option V) : Bool := match numO lo, numO hi, numO mx with
  | some lo, some hi, some mx => (match x with
    | .d (.lit (.string s)) => okB lo hi mx s.size
    | .d (.sd _ _ es) => okB lo hi mx es.length
    | .so _ _ _ n => okB lo hi mx n && (decide (lo.getD 0 < n) || decide (lo.getD 0 = 0))
    | _ => true)
  | _, _, _ => true
def okN (i : V) (n : Nat) : Bool := match numV i with
  | some i => decide (0 ≤ i) && decide (i < n)
  | none => true
def okIx (P : Program) (t : Nat) (a i : V) : Bool := match a with
  | .d (.sd _ _ es) => okN i es.length
  | .so _ _ _ m => okN i m
  | _ => (match arT P t with
    | some x => okN i x.1
    | none => true)
def okIv (P : Program) (t : Nat) (a i : V) : Bool := match a with
  | .d (.lit (.string s)) => okN i s.size
  | _ => (match arT P t with
    | some x => okN i x.1
    | none => true)
def fitB (k : Nat) (x : D) : Bool := decide (x.cells.length = k) && (V.d x).cellOk
def okBs (P : Program) (t : Nat) (ps : List (Nat × V)) : Bool := match apT P t with
  | some x => (match seqD 0 ps with
    | some es => es.all (fitB x.1)
    | none => true)
  | none => true
def okMk (P : Program) (t : Nat) (l c : V) : Bool := match mkT P t with
  | some (_, bytes, _) => (match numV l, numV c with
    | some l, some c => decide (0 ≤ l) && decide (l ≤ c) && decide (c ≤ 1099511627776) && decide (c * bytes ≤ 140737488355328)
    | _, _ => true)
  | none => true
def okSt (P : Program) (t : Nat) (a x : V) (σ : Sig) : Bool := match a with
  | .pe i k ix j => (match ldT P t, σ.get i, x with
    | some (s, _), some (.row _ es _), .d y => decide (ix < es.length) && (if j = 0 ∧ s = k then fitB k y else fitB s y)
    | _, _, _ => true)
  | _ => true
def okEl (σ : Sig) (x : V) : Bool := match x with
  | .so id _ lo n => (match σ.get id with
    | some (.row _ es _) => decide (lo + n ≤ es.length)
    | _ => true)
  | _ => true
def okF (n bytes : Nat) : Bool := decide (n ≤ 140737488355328) && decide (n * bytes ≤ 140737488355328)
def okAp2 (bytes : Nat) (s : V) (new : List D) (σ : Sig) : Bool := match s with
  | .d (.lit _) => okF new.length bytes
  | .d (.sd _ _ es) => okF (es.length + new.length) bytes && (es.isEmpty || !new.isEmpty)
  | .so i0 _ lo n => (match σ.get i0 with
    | some (.row _ es _) => decide (lo = 0) && decide (n = es.length) && okF (es.length + new.length) bytes
    | _ => true)
  | _ => true
def okAp (P : Program) (t : Nat) (s x : V) (σ : Sig) : Bool := match apT P t with
  | some (k, bytes) => okEl σ x && (match elemsV k σ x with
    | some y => okAp2 bytes s y.2 σ
    | none => true)
  | none => true
def okCp (d x : V) (σ : Sig) : Bool := okEl σ x && okEl σ d
def isByteB (y : D) : Bool := match y with
  | .lit (.int .u8 _) => true
  | _ => false
def okCv (P : Program) (s : Nat) (x : V) (σ : Sig) : Bool := if btT P s = true then okEl σ x && (match elemsV 1 σ x with
  | some y => y.2.all isByteB
  | none => true) else true
def okUs (x n : V) (σ : Sig) : Bool := match x, n with
  | .pe id _ _ _, .d (.lit (.int _ m)) => (match σ.get id with
    | some (.row _ es _) => (es.take m.toNat).all isByteB
    | _ => true)
  | _, _ => true
def okCall (P : Program) (c : Call) (g : Operand → V) (σ : Sig) : Bool := match c.callee, c.args.toList, c.argTypes.toList with
  | .builtin .append, [s, x], [t, _] => okAp P t (g s) (g x) σ
  | .builtin .copy, [d, x], _ => okCp (g d) (g x) σ
  | .builtin .unsafeString, [x, n], _ => okUs (g x) (g n) σ
  | .builtin .clear, [x], _ => (match g x with
    | .so id _ lo n => (match σ.get id with
      | some (.row _ es _) => decide (lo + n = es.length)
      | _ => true)
    | _ => true)
  | _, _, _ => true
def okS (P : Program) (op : Op) (g : Operand → V) (σ : Sig) : Bool := match op with
  | .binOp o t x y _ => okBin P o t (g x) (g y)
  | .slice _ x lo hi mx => okSl (g x) (lo.map g) (hi.map g) (mx.map g)
  | .indexAddr t x i => okIx P t (g x) (g i)
  | .index t x i => okIv P t (g x) (g i)
  | .buildSlice t _ ps => okBs P t (ps.toList.map fun p => (p.1, g p.2))
  | .makeSlice t l c => okMk P t (g l) (g c)
  | .store t a x => okSt P t (g a) (g x) σ
  | .convert s _ x => okCv P s (g x) σ
  | .call c => okCall P c g σ
  | _ => true

/-! ### One operation. -/
def strX (o : BinOp) (a b : ByteArray) : Option V := match o with
  | .add => some (.d (.lit (.string ⟨⟨a.data.toList ++ b.data.toList⟩⟩)))
  | .eql => some (.d (.lit (.bool (a.data.toList == b.data.toList))))
  | .neq => some (.d (.lit (.bool (!(a.data.toList == b.data.toList)))))
  | _ => none
/-- Two texts. -/
def twoS (op : Op) (g : Operand → V) : Option (BinOp × ByteArray × ByteArray) := match op with
  | .binOp o _ x y _ => (match g x with
    | .d (.lit (.string a)) => (match g y with
      | .d (.lit (.string b)) => some (o, a, b)
      | _ => none)
    | _ => none)
  | _ => none
def elX' (k : Nat) (es : List D) (i j : Nat) (x : Nat × Bool) : Option V := match es[i]? with
  | some e => (partD x.2 j x.1 k e).map .d
  | none => none
def loadX (P : Program) (t : Nat) (a : V) (σ : Sig) : Option V := match ldT P t with
  | none => none
  | some x => match a with
    | .d (.pd k es i j) => elX' k es i j x
    | .po id o => (match σ.get id with
      | some (.cell cs _) => partV x.2 o x.1 cs
      | _ => none)
    | .pe id k i j => (match σ.get id with
      | some (.row k' es _) => if k = k' then elX' k es i j x else none
      | _ => none)
    | _ => none
def nextX (x : V) (σ : Sig) : Option (V × Sig) := match x with
  | .it id => (match σ.get id with
    | some (.iter s pos) => if pos < s.size then some (.tup [.d (.lit (.bool true)), .d (.lit (.int .i64 pos)), .d (.lit (.int .i32 (Utf8.decode s pos).1))], σ.set id (.iter s (pos + (Utf8.decode s pos).2))) else some (.tup [.d (.lit (.bool false))], σ)
    | _ => none)
  | _ => none
def calleeX {α : Type} (v : V) (k : Nat → List V → Option α) : Option α := match v with
  | .d (.fn f caps) => k f (caps.map .d)
  | .fn f caps => k f caps
  | _ => none
/-- The arguments of a call, those that the function has taken along with them. -/
def calleeL (v : V) (al : List V) : List V := match v with
  | .d (.fn _ caps) => al ++ caps.map .d
  | .fn _ caps => al ++ caps
  | .d (.bf _ fs) => fs.map .d ++ (al ++ [])
  | _ => al
def calleeA {α : Type} (v : V) (al : List V) (k : Nat → List V → Option α) : Option α := match v with
  | .d (.fn f _) => k f (calleeL v al)
  | .fn f _ => k f (calleeL v al)
  | .d (.bf f _) => k f (calleeL v al)
  | _ => none
def pickX (c a b : V) : Option V := match c with
  | .d (.lit (.bool t)) => some (match t with | true => a | false => b)
  | _ => none
/-- A call: how, is told by run (a function, arguments, own blocks, their number). -/
abbrev Run1 := Nat → List V → Sig → Nat → Option (V × Sig)
structure Run where
  call : Run1
  rnd : Run1
def valX (P : Program) (op : Op) (g : Operand → V) (σ : Sig) (id : Nat) : Option (V × Sig) := match twoS op g with
  | some (o, a, b) => if okStr o a b = true then (strX o a b).map fun v => (v, σ) else none
  | none => if okS P op g σ = true then (match stepR P op g σ id with
    | some r => some (r.2.1, r.2.2)
    | none => none) else none
def quietX (P : Program) (op : Op) (g : Operand → V) (σ : Sig) (id : Nat) : Option (V × Sig) := match op with
  | .pick c a b => (pickX (g c) (g a) (g b)).map fun v => (v, [])
  | .load t x => (loadX P t (g x) σ).map fun v => (v, [])
  | .call c => (match c.callee with
    | .builtin _ => if okS P op g σ = true then (match quietR P op g σ id with
      | some r => some (r.2.1, r.2.2)
      | none => none) else none
    | _ => none)
  | op => match twoS op g with
    | some (o, a, b) => if okStr o a b = true then (strX o a b).map fun v => (v, []) else none
    | none => if okS P op g σ = true then (match quietR P op g σ id with
      | some r => some (r.2.1, r.2.2)
      | none => none) else none
/-- The own blocks that values lead to. -/
def reach (σ : Sig) (vs : List V) : List Nat := idsC σ (idsC σ (idsC σ (idsE [] vs)))
def callX (P : Program) (run : Run) (f : Nat) (args : List V) (σ : Sig) (id : Nat) : Option (V × Sig) :=
  if entT P f = true then
    (if okL (reach σ args) id σ = true then
      (match run.call f (args.map (V.sel (fw (reach σ args)))) (σ.sel (fw (reach σ args))) (reach σ args).length with
      | some r => some (r.1.sel (bk (reach σ args) id), delL σ (reach σ args) ++ r.2.sel (bk (reach σ args) id))
      | none => none) else none)
  else (match extV P f args with
    | some v => some (v, σ)
    | none => none)
def stepX (P : Program) (run : Run) (op : Op) (g : Operand → V) (σ : Sig) (id : Nat) : Option (V × Sig) := match op with
  | .pick c a b => (pickX (g c) (g a) (g b)).map fun v => (v, σ)
  | .load t x => (loadX P t (g x) σ).map fun v => (v, σ)
  | .next x isStr => if isStr = true then nextX (g x) σ else none
  | .call c => (match c.callee with
    | .value f => (match g f with
      | .yl i => run.rnd i (c.args.toList.map g) σ id
      | v => calleeA v (c.args.toList.map g) fun k al => callX P run k al σ id)
    | .builtin _ => valX P op g σ id
    | .invoke _ _ => none)
  | op => valX P op g σ id

/-! ### Regions. -/
/-- Whether an operation is wanted. -/
def guardX (ops : Array Oper) (o : Oper) (e : Env) : Option (Bool × Env) := match o.guard with
  | none => some (true, e)
  | some (j, want) => match (ops[j]?).bind (·.dst) with
    | none => none
    | some d => match e.get d with
      | .d (.lit (.bool b)) => some (b == want, e.put d (.d (.lit (.bool b))))
      | .tup [] => some (false, e)
      | _ => none
def stuckX {α : Type} (s : String) : Option α := none
def fSig {α : Type} (σ : Sig) (k : Sig → α) : α := match σ with
  | [] => k []
  | (i, b) :: r => fBlk b fun b => k ((i, b) :: r)
def opsX (P : Program) (G : Gl) (run : Run) (ops : Array Oper) (base : Nat) : Nat → List Oper → Env → Sig → Option (Env × Sig)
  | _, [], e, σ => some (e, σ)
  | i, o :: r, e, σ => match guardX ops o e with
    | some (true, e) => (match stepX P run o.op (evF G e.get) σ (base + 4 * i) with
      | some (v, σ') => fV v fun v => fSig σ' fun σ' => opsX P G run ops base (i + 1) r (e.putO o.dst v) σ'
      | none => stuckX o.pos)
    | some (false, e) => opsX P G run ops base (i + 1) r (e.putO o.dst (.tup [])) σ
    | none => stuckX o.pos
/-- Whether values are settled. -/
def setS (vs : List V) : Bool := (idsE [] vs).isEmpty
def callQ (P : Program) (run : Run) (f : Nat) (args : List V) (id : Nat) : Option (V × Sig) :=
  if entT P f = true then
    (match run.call f (args.map (V.sel (fw []))) [] 0 with
      | some r => some (r.1.sel (bk [] id), r.2.sel (bk [] id))
      | none => none)
  else (match extV P f args with
    | some v => some (v, [])
    | none => none)
def vcallX (P : Program) (run : Run) (lo : List Nat) (ops : Array Oper) (i : Nat) (op : Op) (g : Operand → V) (σp acc : Sig) (id : Nat) : Option (Bool × V × Sig) := match op with
  | .call c => (match c.callee with
    | .value f => (match g f with
      | .yl j => if lateOk lo ops i = true then (run.rnd j (c.args.toList.map g) (σp ++ acc) id).map fun r => (false, r) else none
      | v => calleeA v (c.args.toList.map g) fun k al => if setS al = true then (callQ P run k al id).map fun r => (true, r)
        else if lateOk lo ops i = true then (callX P run k al (σp ++ acc) id).map fun r => (false, r) else none)
    | _ => none)
  | _ => none
def opsDX (P : Program) (G : Gl) (run : Run) (ops : Array Oper) (base : Nat) : Nat → List Oper → Env → Sig → Sig → Option (Env × Sig)
  | _, [], e, σp, acc => some (e, σp ++ acc)
  | i, o :: r, e, σp, acc => match guardX ops o e with
    | some (true, e) =>
      if isE o.op = true then (match stepX P run o.op (evF G e.get) (σp ++ acc) (base + 4 * i) with
        | some (v, σ') => fV v fun v => fSig σ' fun σ' => opsDX P G run ops base (i + 1) r (e.putO o.dst v) σ' []
        | none => stuckX o.pos)
      else if isVCall o.op = true then (match vcallX P run [] ops i o.op (evF G e.get) σp acc (base + 4 * i) with
        | some (true, v, new) => fV v fun v => opsDX P G run ops base (i + 1) r (e.putO o.dst v) σp (acc ++ new)
        | some (false, v, σ') => fV v fun v => opsDX P G run ops base (i + 1) r (e.putO o.dst v) σ' []
        | none => stuckX o.pos)
      else (match quietX P o.op (evF G e.get) σp (base + 4 * i) with
        | some (v, new) => fV v fun v => opsDX P G run ops base (i + 1) r (e.putO o.dst v) σp (acc ++ new)
        | none => stuckX o.pos)
    | some (false, e) => opsDX P G run ops base (i + 1) r (e.putO o.dst (.tup [])) σp acc
    | none => stuckX o.pos

/-- Regions some of whose loads look at what nothing in them writes. -/
def ownOf : V → Option Nat
  | .po i _ => some i
  | .pe i _ _ _ => some i
  | _ => none
def stOkX (σk : Sig) (op : Op) (g : Operand → V) : Bool := match op with
  | .store _ a _ => (match ownOf (g a) with
    | some i => (σk.get i).isNone
    | none => false)
  | _ => false
def noRun : Run := ⟨fun _ _ _ _ => none, fun _ _ _ _ => none⟩
/-- What a call is handed. -/
def argsC (op : Op) (g : Operand → V) : List V := match op with
  | .call c => (match c.callee with
    | .value f => calleeL (g f) (c.args.toList.map g)
    | _ => [])
  | _ => []
def isYl (op : Op) (g : Operand → V) : Bool := match op with
  | .call c => (match c.callee with
    | .value f => (match g f with
      | .yl _ => true
      | _ => false)
    | _ => false)
  | _ => false
def okE (σk σ : Sig) (op : Op) (g : Operand → V) : Bool := !isYl op g && (reach σ (argsC op g)).all fun j => (σk.get j).isNone
def scanX (P : Program) (G : Gl) (ops : Array Oper) (base : Nat) : Nat → List Oper → Env → Sig → List Nat → List (Nat × Option Nat) → Bool → Option (List Nat × List (Nat × Option Nat) × Bool)
  | _, [], _, _, ids, lds, oc => some (ids, lds, oc)
  | i, o :: r, e, σ, ids, lds, oc => match guardX ops o e with
    | some (true, e) => (match stepX P noRun o.op (evF G e.get) σ (base + 4 * i) with
      | some (v, σ') => fV v fun v => fSig σ' fun σ' => scanX P G ops base (i + 1) r (e.putO o.dst v) σ'
          (match o.op with
            | .store _ a _ => (match ownOf (evF G e.get a) with
              | some k => k :: ids
              | none => ids)
            | _ => ids)
          (match o.op with
            | .load _ a => (i, ownOf (evF G e.get a)) :: lds
            | _ => lds) oc
      | none => scanX P G ops base (i + 1) r (e.putO o.dst .unk) σ
          (match o.op with
            | .store _ a _ => (match ownOf (evF G e.get a) with
              | some k => k :: ids
              | none => ids)
            | op => reach σ (argsC op (evF G e.get)) ++ ids) lds (oc || (isVCall o.op && !lateOk [] ops i && !(reach σ (argsC o.op (evF G e.get))).isEmpty)))
    | some (false, e) => scanX P G ops base (i + 1) r (e.putO o.dst (.tup [])) σ ids lds oc
    | none => scanX P G ops base (i + 1) r (e.putO o.dst .unk) σ ids lds oc
def loX (ids : List Nat) : List (Nat × Option Nat) → List Nat
  | [] => []
  | (i, none) :: r => i :: loX ids r
  | (i, some k) :: r => if ids.contains k = true then loX ids r else i :: loX ids r
def delW : List Nat → Sig → Sig
  | [], σ => σ
  | i :: r, σ => delW r (σ.del i)
def opsLX (P : Program) (G : Gl) (run : Run) (lo : List Nat) (σk : Sig) (ops : Array Oper) (base : Nat) : Nat → List Oper → Env → Sig → Sig → Option (Env × Sig)
  | _, [], e, σp, acc => some (e, σp ++ acc)
  | i, o :: r, e, σp, acc => match guardX ops o e with
    | some (true, e) =>
      if isE o.op = true then (if stOkX σk o.op (evF G e.get) = true then (match stepX P run o.op (evF G e.get) (σp ++ acc) (base + 4 * i) with
        | some (v, σ') => fV v fun v => fSig σ' fun σ' => opsLX P G run lo σk ops base (i + 1) r (e.putO o.dst v) σ' []
        | none => stuckX o.pos) else stuckX o.pos)
      else if isVCall o.op = true then (match vcallX P run lo ops i o.op (evF G e.get) σp acc (base + 4 * i) with
        | some (true, v, new) => fV v fun v => opsLX P G run lo σk ops base (i + 1) r (e.putO o.dst v) σp (acc ++ new)
        | some (false, v, σ') => if okE σk (σp ++ acc) o.op (evF G e.get) = true then (fV v fun v => opsLX P G run lo σk ops base (i + 1) r (e.putO o.dst v) σ' []) else stuckX o.pos
        | none => stuckX o.pos)
      else if lo.contains i = true then (match quietX P o.op (evF G e.get) σk (base + 4 * i) with
        | some (v, []) => fV v fun v => opsLX P G run lo σk ops base (i + 1) r (e.putO o.dst v) σp acc
        | _ => stuckX o.pos)
      else (match quietX P o.op (evF G e.get) σp (base + 4 * i) with
        | some (v, new) => fV v fun v => opsLX P G run lo σk ops base (i + 1) r (e.putO o.dst v) σp (acc ++ new)
        | none => stuckX o.pos)
    | some (false, e) => opsLX P G run lo σk ops base (i + 1) r (e.putO o.dst (.tup [])) σp acc
    | none => stuckX o.pos
/-- A region whose order is open. -/
def isLd (op : Op) : Bool := match op with
  | .load _ _ => true
  | _ => false
def drawX (P : Program) (G : Gl) (run : Run) (ops : Array Oper) (st : St) : Option (Env × Sig) :=
  if drawOk [] ops = true ∧ ((ops.toList.any fun o => isVCall o.op) && ops.toList.any fun o => isLd o.op) = false then opsDX P G run ops st.nx 0 ops.toList st.env st.sg []
  else match scanX P G ops st.nx 0 ops.toList st.env st.sg [] [] false with
  | some (ids, lds, oc) => if drawOk [] ops = true ∧ oc = false then opsDX P G run ops st.nx 0 ops.toList st.env st.sg []
      else if drawOk (loX ids lds) ops = true ∧ loOk (loX ids lds) 0 ops.toList = true then opsLX P G run (loX ids lds) (delW ids st.sg) ops st.nx 0 ops.toList st.env st.sg []
      else stuckX ((ops.toList.head?).elim "draw" fun o => o.pos)
  | none => none

/-! ### Code. -/
/-! What is known of calls with settled arguments. -/
def eqVl : Value → Value → Bool
  | .int k n, .int k' n' => decide (k = k') && decide (n = n')
  | .bool a, .bool b => a == b
  | .string a, .string b => a.data.toList == b.data.toList
  | .pointer none, .pointer none => true
  | .slice none 0 0, .slice none 0 0 => true
  | .nilIface, .nilIface => true
  | _, _ => false
mutual
def eqD : D → D → Bool
  | .lit a, .lit b => eqVl a b
  | .agg a, .agg b => eqDs a b
  | .sd k f a, .sd k' f' b => k == k' && f == f' && eqDs a b
  | .pd k a i j, .pd k' b i' j' => k == k' && i == i' && j == j' && eqDs a b
  | .fn f a, .fn g b => f == g && eqDs a b
  | .ifc t a, .ifc u b => t == u && eqD a b
  | .bf f a, .bf g b => f == g && eqDs a b
  | _, _ => false
def eqDs : List D → List D → Bool
  | [], [] => true
  | x :: xs, y :: ys => eqD x y && eqDs xs ys
  | _, _ => false
end
def eqA : List V → List D → Bool
  | [], [] => true
  | .d x :: xs, y :: ys => eqD x y && eqA xs ys
  | _, _ => false
abbrev Orc := List (Nat × List D × V)
def orc : Orc → Nat → List V → Option V
  | [], _, _ => none
  | (g, az, r) :: t, f, args => match Nat.beq g f with
    | true => (match eqA args az with
      | true => some r
      | false => orc t f args)
    | false => orc t f args
/-- The functions that are handed own blocks; whether rows are cut; what is known. -/
structure Msk where
  fn : Nat → Bool
  trim : Bool := false
  orc : Orc := []
instance : CoeFun Msk (fun _ => Nat → Bool) := ⟨Msk.fn⟩
def orcX (M : Msk) (f : Nat) (args : List V) (σ : Sig) (m : Nat) : Option V := match σ, m with
  | [], 0 => orc M.orc f args
  | _, _ => none

/-- What has to be settled ahead of a region. M: the functions that are handed own blocks. -/
def needF (M : Msk) (g : Operand → V) (op : Op) : List V := match op with
  | .buildSlice _ _ ps => ps.toList.map fun p => g p.2
  | .makeInterface _ x => [g x]
  | .store _ a x => (match g a with
    | .pe _ _ _ _ => [g x]
    | _ => [])
  | .call c => (match c.callee with
    | .value f => (match g f with
      | .d (.fn k _) => if M k = true then [] else c.args.toList.map g
      | .fn k caps => if M k = true then [] else c.args.toList.map g ++ caps
      | .d (.bf k _) => if M k = true then [] else c.args.toList.map g
      | _ => [])
    | _ => [])
  | _ => []
def needFs (M : Msk) (g : Operand → V) (ops : List Oper) : List V := ops.flatMap fun o => needF M g o.op
/-- The same, by a look at the region ahead (calls' results unknown). -/
def needS (P : Program) (G : Gl) (M : Msk) (ops : Array Oper) (base : Nat) : Nat → List Oper → Env → Sig → List V → List V
  | _, [], _, _, acc => acc
  | i, o :: r, e, σ, acc => match guardX ops o e with
    | some (true, e) => (match stepX P noRun o.op (evF G e.get) σ (base + 4 * i) with
      | some (v, σ') => fV v fun v => fSig σ' fun σ' => needS P G M ops base (i + 1) r (e.putO o.dst v) σ' (needF M (evF G e.get) o.op ++ acc)
      | none => needS P G M ops base (i + 1) r (e.putO o.dst .unk) σ (needF M (evF G e.get) o.op ++ acc))
    | some (false, e) => needS P G M ops base (i + 1) r (e.putO o.dst (.tup [])) σ acc
    | none => needS P G M ops base (i + 1) r (e.putO o.dst .unk) σ (needF M (evF G e.get) o.op ++ acc)
def isNd (op : Op) : Bool := match op with
  | .buildSlice _ _ _ => true
  | .makeInterface _ _ => true
  | .call c => (match c.callee with
    | .value _ => true
    | _ => false)
  | _ => false
def needR (P : Program) (G : Gl) (M : Msk) (ops : Array Oper) (st : St) : List V :=
  if (ops.toList.any fun o => isNd o.op) = true then needS P G M ops st.nx 0 ops.toList st.env st.sg [] else needFs M (evF G st.env.get) ops.toList
def deepF : Nat → List Nat → St → St
  | 0, _, st => st
  | _, [], st => st
  | n + 1, i :: r, st => match st.sg.get i with
    | some (.cell cs _) => deepF n r ((deepF n (idsE [] cs) st).frz i)
    | some _ => deepF n r (st.frz i)
    | none => deepF n r st
/-- Rows cut to what is looked at of them, ahead of an append. -/
def mxA (i m : Nat) : V → Nat
  | .so j _ lo n => if j = i then Nat.max m (lo + n) else m
  | .pe j _ a _ => if j = i then Nat.max m (a + 1) else m
  | _ => m
def mxV (i m : Nat) : V → Nat
  | .agg l => l.foldl (mxA i) m
  | .tup l => l.foldl (mxA i) m
  | .fn _ l => l.foldl (mxA i) m
  | v => mxA i m v
def mxE (i : Nat) : Env → Nat → Nat
  | [], m => m
  | (_, v) :: r, m => mxE i r (mxV i m v)
def mxS (i : Nat) : Sig → Nat → Nat
  | [], m => m
  | (_, .cell cs _) :: r, m => mxS i r (cs.foldl (mxV i) m)
  | _ :: r, m => mxS i r m
def trimG (e : Env) (σ : Sig) : Sig → Sig
  | [] => []
  | (i, .row k es ty) :: r => fN (mxS i σ (mxE i e 0)) fun m => if m < es.length then fL (es.take m) fun es => (i, .row k es ty) :: trimG e σ r else (i, .row k es ty) :: trimG e σ r
  | x :: r => x :: trimG e σ r
def isApp (op : Op) : Bool := match op with
  | .call c => (match c.callee with
    | .builtin .append => true
    | _ => false)
  | _ => false
def trimF (M : Msk) (ops : Array Oper) (st : St) : St := if M.trim = true then (if (ops.toList.any fun o => isApp o.op) = true then ⟨st.env, trimG st.env st.sg st.sg, st.nx⟩ else st) else st
/-- What is still looked at: the slots of a mask, the latest of each. -/
def keepM : Nat → Env → Env
  | _, [] => []
  | m, (k, v) :: r => if Nat.testBit m k = true then (k, v) :: keepM (m ^^^ 2 ^ k) r else keepM m r
def regX (P : Program) (G : Gl) (M : Msk) (run : Run) (lm : Nat) (ops : Array Oper) (draw : Bool) (st : St) : Option (Exit × St) :=
  match (match draw with
    | true => drawX P G run ops st
    | false => opsX P G run ops st.nx 0 ops.toList st.env st.sg) with
  | some (e, σ) => fN (st.nx + 4 * ops.size) fun nx => some (.normal, ⟨keepM lm e, σ, nx⟩)
  | none => none
def resX (P : Program) : List ResultVar → St → Option (List V)
  | [], _ => some []
  | .tmp t :: r, st => (resX P r st).map fun vs => st.env.get t :: vs
  | .cell a t :: r, st => match loadX P t (st.env.get a) st.sg with
    | some v => (resX P r st).map fun vs => v :: vs
    | none => none
def doneX (P : Program) (M : Msk) (rs : List ResultVar) (f m : Nat) (st : St) : Option (V × Sig) :=
  match resX P rs st with
  | none => stuckX "result"
  | some vs0 =>
    let st := if M f = true then st else deepF 50 (idsE [] vs0) st
    match resX P rs st with
    | none => stuckX "result"
    | some vs =>
      let l := geL m (reach st.sg (vs ++ (List.range m).map fun i => .po i 0))
      if l.length ≤ 4 then some ((retV vs).sel (selG m l), st.sg.sel (selG m l)) else stuckX "names"
/-- The slots that are read in a region ahead of being set there, in conditions and al results. -/
def maskV (x : Operand) (m : Nat) : Nat := match x with
  | .tmp t => m ||| 2 ^ t
  | _ => m
def maskO : List Oper → Nat → Nat → Nat
  | [], _, m => m
  | o :: r, d, m => maskO r (match o.dst with | some t => d ||| 2 ^ t | none => d)
      (m ||| ((o.op.operands.toList.foldr maskV 0) &&& (d ^^^ (2 ^ 600 - 1))))
def maskC : Code → Nat → Nat
  | .region _ ops _, m => maskO ops.toList 0 m
  | .seq a b, m => maskC b (maskC a m)
  | .cond c a b, m => maskC b (maskC a (maskV c m))
  | .block _ c, m => maskC c m
  | .loop c, m => maskC c m
  | .scope c, m => maskC c m
  | .rangeFunc g _ a c, m => maskV g (maskC a (maskC c m))
  | _, m => m
def maskR : List ResultVar → Nat → Nat
  | [], m => m
  | .tmp t :: r, m => maskR r (m ||| 2 ^ t)
  | .cell t _ :: r, m => maskR r (m ||| 2 ^ t)
def maskF (fn : Func) (c : Code) : Nat := fN (maskR fn.results.toList (maskC c 0)) id
abbrev CodeRun := Nat → Nat → Code → St → Option (Exit × St)
def allM : Nat := 2 ^ 600 - 1
/-- A round. -/
def rndX (ih : CodeRun) : Run1 := fun i args σ id => match σ.get i with
  | some (.rc y none e) =>
    if i < id ∧ y.ps.toList.all (fun p => decide (p < y.n)) = true ∧ args.length = y.ps.size ∧ noR y.asg = true ∧ noR y.body = true ∧ codeOk y.n y.asg = true ∧ codeOk y.n y.body = true then
      (match ih y.n allM y.asg ⟨fillE y.ps.toList (args.map (V.sel (ltG id))) (e.sel (ltG id)), (σ.del i).sel (ltG id), id⟩ with
      | some (.normal, st1) => (match ih y.n allM y.body st1 with
        | some (ex, st2) => (match (match ex with
            | .normal => some none
            | .ret => some (some Code.ret)
            | .exit k => some (some (Code.exit k))
            | _ => none) with
          | some j => if (geL id (reach st2.sg ((σ.filter fun p => decide (p.1 < id)).map fun p => .po p.1 0))).length ≤ 4 then
              some (.d (.lit (.bool j.isNone)), (i, .rc y j e) :: st2.sg.sel (selY σ id (geL id (reach st2.sg ((σ.filter fun p => decide (p.1 < id)).map fun p => .po p.1 0))))) else stuckX "names of a round"
          | none => none)
        | none => none)
      | _ => none) else stuckX "round"
  | _ => stuckX "no round"
/-- Behind a loop over a function. -/
def outR (st st' : St) : Option (Exit × St) := match st'.sg.get st.nx with
  | some (.rc _ none _) => some (.normal, ⟨st.env, st'.sg.del st.nx, st'.nx⟩)
  | some (.rc _ (some .ret) _) => some (.ret, ⟨st.env, st'.sg.del st.nx, st'.nx⟩)
  | some (.rc _ (some (.exit k)) _) => some (.exit k, ⟨st.env, st'.sg.del st.nx, st'.nx⟩)
  | _ => stuckX "behind a loop"
/-- A loop over a function. -/
def rngX (P : Program) (ih : CodeRun) (n : Nat) (ps : Array Nat) (asg body : Code) (st : St) (k : Nat) (caps : List V) : Option (Exit × St) := match P.funcs[k]? with
  | none => none
  | some fn => match fn.body with
    | none => none
    | some c => if entT P k = true ∧ fn.results.toList.isEmpty = true ∧ caps.length + 1 ≤ fn.ntmps ∧ codeOk fn.ntmps c = true then
        (match ih fn.ntmps (maskF fn c) c ⟨argE 0 (.yl st.nx :: caps), (st.nx, .rc ⟨n, ps, asg, body⟩ none st.env) :: st.sg, st.nx + 1⟩ with
        | some (.normal, st') => outR st st'
        | some (.ret, st') => outR st st'
        | _ => none) else stuckX fn.name
def funX (P : Program) (M : Msk) (code : CodeRun) (f : Nat) (args : List V) (σ : Sig) (m : Nat) : Option (V × Sig) := match orcX M f args σ m with
  | some v => some (v, [])
  | none => match P.funcs[f]? with
  | none => none
  | some fn => match fn.body with
    | none => none
    | some c => if codeOk fn.ntmps c = true ∧ args.length ≤ fn.ntmps then
        (match code fn.ntmps (maskF fn c) c (if M f = true then ⟨argE 0 args, σ, m⟩ else deepF 50 (List.range m) ⟨argE 0 args, σ, m⟩) with
        | some (.normal, st) => doneX P M fn.results.toList f m st
        | some (.ret, st) => doneX P M fn.results.toList f m st
        | _ => stuckX fn.name) else stuckX fn.name
def bodyX (P : Program) (G : Gl) (M : Msk) (ih : CodeRun) (n lm : Nat) (c : Code) (st : St) : Option (Exit × St) := match c with
  | .skip => some (.normal, st)
  | .region _ ops draw => regX P G M ⟨funX P M ih, rndX ih⟩ lm ops draw (trimF M ops (deepF 50 (idsE [] (needR P G M ops st)) st))
  | .seq a b => (match ih n lm a st with
    | some (.normal, st) => ih n lm b st
    | r => r)
  | .cond c a b => (match evF G st.env.get c with
    | .d (.lit (.bool true)) => ih n lm a st
    | .d (.lit (.bool false)) => ih n lm b st
    | _ => none)
  | .block id c => (match ih n lm c st with
    | some (.exit i, st) => if i = id then some (.normal, st) else some (.exit i, st)
    | r => r)
  | .loop c => (match ih n lm c st with
    | some (.normal, st) => ih n lm (.loop c) st
    | r => r)
  | .exit id => some (.exit id, st)
  | .ret => some (.ret, st)
  | .label _ => some (.normal, st)
  | .rangeFunc g ps a c => calleeX (evF G st.env.get g) fun k caps => rngX P ih n ps a c st k caps
  | .scope c => (match ih n lm c st with
    | some (.goto _, _) => none
    | r => r)
  | _ => none
def codeX (P : Program) (G : Gl) (M : Msk) : Nat → CodeRun
  | 0 => fun _ _ _ _ => stuckX "fuel"
  | n + 1 => bodyX P G M (codeX P G M n)
def runX (P : Program) (G : Gl) (M : Msk) (n : Nat) : Run1 := funX P M (codeX P G M n)
end Go.Proofs.YtlnimbnihbcnpaaGreatDoor
