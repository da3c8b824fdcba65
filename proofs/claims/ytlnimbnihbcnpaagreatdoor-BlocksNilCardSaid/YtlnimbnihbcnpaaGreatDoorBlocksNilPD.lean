/- The law BlocksNil returns true for every input: a nil set has no blocks, a nil map no lines. No condition. -/
import Derived.Test.YtlnimbnihbcnpaaGreatDoorRows
import Derived.SevenTiedAt
import Derived.Test.YtlnimbnihbcnpaaGreatDoorCards
import Derived.Test.YtlnimbnihbcnpaaGreatDoorTie
import Derived.LaidMore
import Derived.Test.YtlnimbnihbcnpaaGreatDoorBlocksNilPA
import Derived.Test.YtlnimbnihbcnpaaGreatDoorBlocksNilPB
import Derived.Test.YtlnimbnihbcnpaaGreatDoorBlocksNilPC
/- Code run on abstract states that are known whole: code and functions. -/
set_option linter.unusedVariables false
set_option linter.unusedSimpArgs false
namespace Go.Proofs.YtlnimbnihbcnpaaGreatDoor
theorem keepM_out : ∀ (e : Env) (m j : Nat), Nat.testBit m j = false → (keepM m e).get j = .unk
  | [], m, j, _ => by simp [keepM, Env.get]
  | (k, v) :: r, m, j, h => by
    unfold keepM
    split
    · rename_i hk
      have hne : k ≠ j := by rintro rfl; rw [h] at hk; cases hk
      show (if k = j then v else (keepM _ r).get j) = .unk
      rw [if_neg hne]
      exact keepM_out r _ j (by rw [Nat.testBit_xor, h, Nat.testBit_two_pow_of_ne hne]; rfl)
    · exact keepM_out r m j h
theorem get_keepM : ∀ (e : Env) (m j : Nat), (keepM m e).get j = e.get j ∨ (keepM m e).get j = .unk
  | [], m, j => by simp [keepM]
  | (k, v) :: r, m, j => by
    unfold keepM
    split
    · show (if k = j then v else (keepM _ r).get j) = (if k = j then v else Env.get r j) ∨ (if k = j then v else (keepM _ r).get j) = .unk
      split
      · exact .inl rfl
      · exact get_keepM r _ j
    · rename_i hk
      by_cases hj : k = j
      · subst hj; exact .inr (keepM_out r m k (by simpa using hk))
      · show _ = (if k = j then v else Env.get r j) ∨ _
        rw [if_neg hj]; exact get_keepM r m j
section
variable {P : Program} {G : Gl} {M : Msk}
theorem RelE.keepM {C : Ctx} {e : Env} {σ : Sig} {nx lim : Nat} {a : Act} {w : World} (h : RelE C G e σ nx lim a w) (lm : Nat) : RelE C G (keepM lm e) σ nx lim a w := by
  obtain ⟨I, β, h1, h2, h3, h4⟩ := h
  refine ⟨I, β, h1, h2, fun t => ?_, h4⟩
  rcases get_keepM e lm t with h | h
  · rw [h]; exact h3 t
  · rw [h]; trivial
theorem MStep.weak {w w' : World} {I I' : Nat → Prop} {β β' : Bet} {σ σ' σ'' : Sig} {nx nx' : Nat} (h : MStep w I β σ nx w' I' β' σ' nx') (he : ∀ j b, σ''.get j = some b → ∃ c, σ'.get j = some c ∧ (Own w' I' β' j c → Own w' I' β' j b)) : MStep w I β σ nx w' I' β' σ'' nx' :=
  { h with
    mem := ⟨fun id b hb => by obtain ⟨c, h1, h2⟩ := he id b hb; exact h2 (h.mem.own id c h1), fun i j b b' k c c' h1 h2 => by
      obtain ⟨x, h3, _⟩ := he _ _ h1
      obtain ⟨y, h4, _⟩ := he _ _ h2
      exact h.mem.inj i j x y k c c' h3 h4, h.mem.free, h.mem.lt⟩
    own' := fun b ⟨id, blk, c, h1, h2⟩ => by obtain ⟨x, h3, _⟩ := he _ _ h1; exact h.own' b ⟨id, x, c, h3, h2⟩ }
theorem Own.take {w : World} {I : Nat → Prop} {β : Bet} {id k : Nat} {es : List D} {ty : Option Nat} (m : Nat) (h : Own w I β id (.row k es ty)) : Own w I β id (.row k (es.take m) ty) := by
  rcases h with ⟨h1, h2⟩ | ⟨b, cap, cur, t, h1, h2, h3, h4, h5, h6⟩
  · exact .inl ⟨h1, by rw [h2]; simp⟩
  · refine .inr ⟨b, cap, cur, t, h1, h2, h3, by simp; omega, h5, fun i e hi => h6 i e ?_⟩
    rw [List.getElem?_take] at hi
    split at hi
    · exact hi
    · cases hi
theorem trimG_get (e : Env) (σ0 : Sig) : ∀ (σ : Sig) (j : Nat) (b : Blk), (trimG e σ0 σ).get j = some b → ∃ c, σ.get j = some c ∧ ∀ (w : World) (I : Nat → Prop) (β : Bet), Own w I β j c → Own w I β j b := by
  intro σ
  induction σ with
  | nil => intro j b h; cases h
  | cons x r ih =>
    intro j b h
    have key : ∀ (i : Nat) (c c' : Blk), (∀ (w : World) (I : Nat → Prop) (β : Bet), Own w I β i c → Own w I β i c') → Sig.get ((i, c') :: trimG e σ0 r) j = some b → ∃ d, Sig.get ((i, c) :: r) j = some d ∧ ∀ (w : World) (I : Nat → Prop) (β : Bet), Own w I β j d → Own w I β j b := by
      clear h
      intro i c c' hc hq
      simp only [Sig.get] at hq ⊢
      by_cases e : i = j
      · rw [if_pos e] at hq ⊢
        subst e; injection hq with hq; subst hq
        exact ⟨c, rfl, hc⟩
      · rw [if_neg e] at hq ⊢
        exact ih j b hq
    obtain ⟨i, c⟩ := x
    cases c with
    | row k es ty =>
      simp only [trimG, fN_eq, fL_eq] at h
      split at h
      · exact key i _ _ (fun _ _ _ h => h.take _) h
      · exact key i _ _ (fun _ _ _ h => h) h
    | _ => exact key i _ _ (fun _ _ _ h => h) h
theorem trimF_le (M : Msk) (ops : Array Oper) (m : Nat) (st : St) : StLe G m st (trimF M ops st) := by
  unfold trimF
  split
  · split
    · intro C a w _ hr
      obtain ⟨I, β, h1, h2, h3, h4, h5, h6⟩ := hr
      have he : ∀ j b, (trimG st.env st.sg st.sg).get j = some b → ∃ c, st.sg.get j = some c ∧ (Own w I β j c → Own w I β j b) := fun j b hb => by
        obtain ⟨c, h7, h8⟩ := trimG_get _ _ _ _ _ hb
        exact ⟨c, h7, h8 w I β⟩
      exact ⟨I, β, h1.weak he, h2, h3, h4, h5.sub (fun b ⟨j, bl, c, g1, g2⟩ => by obtain ⟨x, h7, _⟩ := he _ _ g1; exact ⟨j, x, c, h7, g2⟩) (fun b h => .inl h), h6⟩
    · exact StLe.refl G m st
  · exact StLe.refl G m st
theorem deepF_le (m : Nat) : ∀ (n : Nat) (l : List Nat) (st : St), StLe G m st (deepF n l st)
  | 0, _, st => by unfold deepF; exact StLe.refl G m st
  | n + 1, [], st => by unfold deepF; exact StLe.refl G m st
  | n + 1, i :: r, st => by
    unfold deepF
    split
    · exact ((deepF_le m n _ st).trans (StLe.frz G m _ i)).trans (deepF_le m n r _)
    · exact (StLe.frz G m _ i).trans (deepF_le m n r _)
    · exact deepF_le m n r st
abbrev OutQ (e : Exit) (st : St) : Exit → St → Prop := fun e' s' => e' = e ∧ s' = st
theorem AW.le {n m : Nat} {c : Code} {st st' : St} {Q : Exit → St → Prop} (hle : StLe G m st st') (h : AW P G n m c st' Q) : AW P G n m c st Q :=
  fun fr hfr C a w hn hm hr => h fr hfr C a w hn hm (hle C a w hm hr)
theorem regX_sound (ho : P.follows .mixedOrders = true) {run : Run} (hrun : RunOk P G run) {lm : Nat} {id : Nat} {ops : Array Oper} {draw : Bool} {st st' : St} {e : Exit} {n m : Nat} (hok : codeOk n (.region id ops draw) = true) (h : regX P G M run lm ops draw st = some (e, st')) : AW P G n m (.region id ops draw) st (OutQ e st') := by
  intro fr hfr C a w hn hm hr
  simp only [codeOk] at hok
  have hdst : ∀ (i : Nat) o x, ops[i]? = some o → o.dst = some x → x < C.n := fun i o x hi hx => by rw [hn]; exact dstOk_spec _ hok i o x (by simpa using hi) hx
  have hr' : RelE C G st.env st.sg (st.nx + 4 * ops.size) st.nx a w := RelE.bump hr (by omega)
  unfold regX at h
  split at h
  · rename_i e1 σ1 h1
    rw [fN_eq] at h
    simp only [Option.some.injEq, Prod.mk.injEq] at h
    obtain ⟨rfl, rfl⟩ := h
    cases draw with
    | false =>
      simp only at h1
      refine wpIn_region ?_
      have := opsW_sound (P := P) (G := G) (C := C) (fr := fr) (ops := ops) (base := st.nx) (nx := st.nx + 4 * ops.size) (Q := fun e a' w' => ∃ st'', OutQ .normal ⟨keepM lm e1, σ1, st.nx + 4 * ops.size⟩ e st'' ∧ Rel C G st'' a' w') (Nat.le_refl _) hdst (K := fun e σ => e = e1 ∧ σ = σ1) (fun e σ a w hK hrel => ⟨_, ⟨rfl, rfl⟩, by obtain ⟨rfl, rfl⟩ := hK; exact hrel.keepM lm⟩) ops.toList 0 st.env st.sg a w rfl (opsX_sound hrun _ _ _ _ _ _ _ h1 ⟨rfl, rfl⟩) (by simpa using hr') (Nat.zero_le _)
      rw [List.range_eq_range']
      simpa using this
    | true =>
      simp only at h1
      have goD : drawOk [] ops = true → opsDX P G run ops st.nx 0 ops.toList st.env st.sg [] = some (e1, σ1) → (Code.region id ops true).wpIn (Fr fr) 0 P (fun e a' w' => ∃ st', OutQ .normal ⟨keepM lm e1, σ1, st.nx + 4 * ops.size⟩ e st' ∧ Rel C G st' a' w') a w := fun hd h1 =>
        opsL_sound (C := C) ho hd (loOk_nil _ _) (nx := st.nx + 4 * ops.size) (Nat.le_refl _) hdst (K := fun e σ => e = e1 ∧ σ = σ1) (fun e σ a w hK hrel => ⟨_, ⟨rfl, rfl⟩, by obtain ⟨rfl, rfl⟩ := hK; exact hrel.keepM lm⟩) (fun _ _ h => by cases h) (opsDX_sound hrun _ _ _ _ _ _ _ _ h1 ⟨rfl, rfl⟩) hr'
      unfold drawX at h1
      split at h1
      · rename_i hd
        exact goD hd.1 h1
      · split at h1
        · rename_i ids lds oc _
          split at h1
          · rename_i hd
            exact goD hd.1 h1
          · split at h1
            · rename_i hd
              exact opsL_sound (C := C) ho hd.1 hd.2 (nx := st.nx + 4 * ops.size) (Nat.le_refl _) hdst (K := fun e σ => e = e1 ∧ σ = σ1) (fun e σ a w hK hrel => ⟨_, ⟨rfl, rfl⟩, by obtain ⟨rfl, rfl⟩ := hK; exact hrel.keepM lm⟩) (delW_sub ids _) (opsLX_sound hrun _ _ _ _ _ _ _ _ (delW_sub ids _) h1 ⟨rfl, rfl⟩) hr'
            · cases h1
        · cases h1
  · cases h
theorem room_fr (fr : Option Nat) (k : Nat) : (Fr fr).room k := fun _ h => by cases h
/-- A loop that has been entered. -/
def AL (P : Program) (G : Gl) (n m : Nat) (c : Code) (st : St) (Q : Exit → St → Prop) : Prop :=
  ∀ fr, (fr = none ∨ noR c = true) → ∀ (C : Ctx) a w, C.n = n → C.nx = m → Rel C G st a w → ∀ (b : Frame) kk cs, b.roundOf = fr → ∃ e a' w', (∃ st', Q e st' ∧ Rel C G st' a' w') ∧ ArrivesIn (Machine.fenced P (Fr fr)) P (lone (b.atR a (.code c :: .inLoop c :: kk)) cs w) b kk cs e a' w'
theorem AL.aw {n m : Nat} {c : Code} {st : St} {Q : Exit → St → Prop} (h : AL P G n m c st Q) : AW P G n m (.loop c) st Q := fun fr hfr C a w hn hm hr b kk cs hro hb hroom => by
  obtain ⟨e, a', w', hq, harr⟩ := h fr hfr C a w hn hm hr b kk cs hro
  exact ⟨e, a', w', hq, .of_steps (.one (fenced_calm hb hroom rfl) stepR_loop) harr⟩
theorem AL.round {n m : Nat} {c : Code} {st st1 : St} {Q : Exit → St → Prop} (h : AW P G n m c st (OutQ .normal st1)) (k : AL P G n m c st1 Q) : AL P G n m c st Q := fun fr hfr C a w hn hm hr b kk cs hro => by
  obtain ⟨e, a', w', ⟨st', ⟨rfl, rfl⟩, hr2⟩, harr⟩ := h fr hfr C a w hn hm hr b (.inLoop c :: kk) cs hro trivial (room_fr fr _)
  obtain ⟨e2, a2, w2, hq2, harr2⟩ := k fr hfr C a' w' hn hm hr2 b kk cs hro
  exact ⟨e2, a2, w2, hq2, .of_steps (StepsIn.trans harr (.one (fenced_calm (n := 0) trivial (room_fr fr _) rfl) stepR_inLoop)) harr2⟩
theorem AL.out {n m : Nat} {c : Code} {st st1 : St} {e1 : Exit} (hne : e1 ≠ .normal) (h : AW P G n m c st (OutQ e1 st1)) : AL P G n m c st (OutQ e1 st1) := fun fr hfr C a w hn hm hr b kk cs hro => by
  obtain ⟨e, a', w', ⟨st', ⟨rfl, rfl⟩, hr2⟩, harr⟩ := h fr hfr C a w hn hm hr b (.inLoop c :: kk) cs hro trivial (room_fr fr _)
  exact ⟨_, a', w', ⟨st', ⟨rfl, rfl⟩, hr2⟩, .pass (x := .inLoop c) rfl (fun _ _ => .inl hne) harr⟩
/-- What a code's run has to be. -/
def CodeOk (P : Program) (G : Gl) (code : CodeRun) : Prop := ∀ n lm c st e st', code n lm c st = some (e, st') → ∀ m, codeOk n c = true → AW P G n m c st (OutQ e st') ∧ ∀ c', c = .loop c' → AL P G n m c' st (OutQ e st')
theorem CodeOk.aw {code : CodeRun} (h : CodeOk P G code) {lm : Nat} {c : Code} {st st' : St} {e : Exit} {n : Nat} (hc : code n lm c st = some (e, st')) (hok : codeOk n c = true) (m : Nat) : AW P G n m c st (OutQ e st') := (h n lm c st e st' hc m hok).1
theorem resX_sound {st : St} : ∀ (rs : List ResultVar) (vs : List V) (K : List V → Prop), resX P rs st = some vs → K vs → resW P rs st K
  | [], vs, K, h, hK => by simp only [resX, Option.some.injEq] at h; subst h; exact hK
  | .tmp t :: r, vs, K, h, hK => by
    simp only [resX, Option.map_eq_some_iff] at h
    obtain ⟨vs', h1, rfl⟩ := h
    exact resX_sound r vs' _ h1 hK
  | .cell a t :: r, vs, K, h, hK => by
    unfold resX at h
    split at h
    · rename_i v hv
      simp only [Option.map_eq_some_iff] at h
      obtain ⟨vs', h1, rfl⟩ := h
      exact loadX_sound hv (resX_sound r vs' _ h1 hK)
    · cases h
theorem doneX_sound {rs : List ResultVar} {f m : Nat} {st : St} {r : V} {σ' : Sig} (h : doneX P M rs f m st = some (r, σ')) : DoneW P G m rs r σ' st := by
  unfold doneX at h
  split at h
  · cases h
  · rename_i vs0 _
    simp only at h
    have hle : StLe G m st (if M f = true then st else deepF 50 (idsE [] vs0) st) := by
      split
      · exact StLe.refl G m st
      · exact deepF_le m _ _ _
    revert h hle
    generalize (if M f = true then st else deepF 50 (idsE [] vs0) st) = st1
    intro h hle
    split at h
    · cases h
    · rename_i vs hvs
      split at h
      · rename_i hl
        simp only [Option.some.injEq, Prod.mk.injEq] at h
        exact GhW.via hle (GhW.now (resX_sound _ _ _ hvs ⟨_, h.1, by rw [h.2]; exact fun _ _ h => h, hl⟩))
      · cases h
theorem eqVl_sound {a b : Value} (h : eqVl a b = true) : a = b := by
  unfold eqVl at h
  split at h
  · simp at h; rw [h.1, h.2]
  · simp at h; rw [h]
  · rename_i a b
    cases a; cases b
    simp at h; simp [h]
  · rfl
  · rfl
  · rfl
  · cases h
mutual
theorem eqD_sound : ∀ (a b : D), eqD a b = true → a = b
  | .lit a, b, h => by
    cases b <;> simp only [eqD, Bool.false_eq_true] at h
    rw [eqVl_sound h]
  | .agg a, b, h => by
    cases b <;> simp only [eqD, Bool.false_eq_true] at h
    rw [eqDs_sound _ _ h]
  | .sd k f a, b, h => by
    cases b <;> simp only [eqD, Bool.false_eq_true, Bool.and_eq_true, beq_iff_eq] at h
    rw [h.1.1, h.1.2, eqDs_sound _ _ h.2]
  | .pd k a i j, b, h => by
    cases b <;> simp only [eqD, Bool.false_eq_true, Bool.and_eq_true, beq_iff_eq] at h
    rw [h.1.1.1, h.1.1.2, h.1.2, eqDs_sound _ _ h.2]
  | .fn f a, b, h => by
    cases b <;> simp only [eqD, Bool.false_eq_true, Bool.and_eq_true, beq_iff_eq] at h
    rw [h.1, eqDs_sound _ _ h.2]
  | .ifc t a, b, h => by
    cases b <;> simp only [eqD, Bool.false_eq_true, Bool.and_eq_true, beq_iff_eq] at h
    rw [h.1, eqD_sound _ _ h.2]
  | .bf f a, b, h => by
    cases b <;> simp only [eqD, Bool.false_eq_true, Bool.and_eq_true, beq_iff_eq] at h
    rw [h.1, eqDs_sound _ _ h.2]
theorem eqDs_sound : ∀ (a b : List D), eqDs a b = true → a = b
  | [], b, h => by
    cases b <;> simp only [eqDs, Bool.false_eq_true] at h
    rfl
  | x :: xs, b, h => by
    cases b <;> simp only [eqDs, Bool.false_eq_true, Bool.and_eq_true] at h
    rw [eqD_sound _ _ h.1, eqDs_sound _ _ h.2]
end
theorem eqA_sound : ∀ {a : List V} {b : List D}, eqA a b = true → a = b.map V.d
  | [], b, h => by
    cases b <;> simp only [eqA, Bool.false_eq_true] at h
    rfl
  | x :: xs, b, h => by
    cases b with
    | nil => cases x <;> simp only [eqA, Bool.false_eq_true] at h
    | cons y ys =>
      cases x <;> simp only [eqA, Bool.false_eq_true, Bool.and_eq_true] at h
      rw [eqD_sound _ _ h.1, eqA_sound h.2]; rfl
/-- What is known is so. -/
def OrcOk (P : Program) (G : Gl) (T : Orc) : Prop := ∀ x ∈ T, OFn P G x.1 (x.2.1.map V.d) [] 0 x.2.2 []
theorem OrcOk.nil : OrcOk P G [] := fun x h => by cases h
theorem OrcOk.cons {f : Nat} {az : List D} {r : V} {T : Orc} (h : OFn P G f (az.map V.d) [] 0 r []) (k : OrcOk P G T) : OrcOk P G ((f, az, r) :: T) := fun x hx => by
  rcases List.mem_cons.1 hx with rfl | hx
  · exact h
  · exact k x hx
theorem orc_sound : ∀ {T : Orc} {f : Nat} {args : List V} {v : V}, OrcOk P G T → orc T f args = some v → OFn P G f args [] 0 v []
  | [], _, _, _, _, h => by cases h
  | (g, az, r) :: t, f, args, v, hT, h => by
    have ht : OrcOk P G t := fun x hx => hT x (List.mem_cons_of_mem _ hx)
    simp only [orc] at h
    split at h
    · rename_i hg
      split at h
      · rename_i ha
        injection h with h
        have := hT _ List.mem_cons_self
        rw [Nat.eq_of_beq_eq_true hg, ← eqA_sound ha, h] at this
        exact this
      · exact orc_sound ht h
    · exact orc_sound ht h
theorem orcX_sound {f : Nat} {args : List V} {σ : Sig} {m : Nat} {v : V} (hT : OrcOk P G M.orc) (h : orcX M f args σ m = some v) : OFn P G f args σ m v [] := by
  unfold orcX at h
  split at h
  · exact orc_sound hT h
  · cases h
theorem funX_sound (hT : OrcOk P G M.orc) {code : CodeRun} (h : CodeOk P G code) : ∀ f args σ m r σ', funX P M code f args σ m = some (r, σ') → OFn P G f args σ m r σ' := by
  intro f args σ m r σ' hf
  unfold funX at hf
  split at hf
  · rename_i v hv
    injection hf with hf; injection hf with h1 h2; subst h1; subst h2
    exact orcX_sound hT hv
  split at hf
  · cases hf
  · rename_i fn hfn
    split at hf
    · cases hf
    · rename_i c hc
      split at hf
      · rename_i hok
        refine OFn.of_aw hfn hc (rs := fn.results.toList) (by simp) rfl hok.2 ?_
        have hle : StLe G m ⟨argE 0 args, σ, m⟩ (if M f = true then ⟨argE 0 args, σ, m⟩ else deepF 50 (List.range m) ⟨argE 0 args, σ, m⟩) := by
          split
          · exact StLe.refl G m _
          · exact deepF_le m _ _ _
        refine AW.le hle ?_
        split at hf
        · rename_i st hst
          exact (h.aw hst hok.1 m).mono fun e s ⟨h1, h2⟩ => by subst h1; subst h2; exact doneX_sound hf
        · rename_i st hst
          exact (h.aw hst hok.1 m).mono fun e s ⟨h1, h2⟩ => by subst h1; subst h2; exact doneX_sound hf
        · cases hf
      · cases hf
theorem rndX_sound {ih : CodeRun} (hih : CodeOk P G ih) : ∀ i args σ id v σ', rndX ih i args σ id = some (v, σ') → YDoes P G i args σ id v σ' := by
  intro i args σ id v σ' h
  unfold rndX at h
  split at h
  · rename_i y e hg
    split at h
    · rename_i hc
      obtain ⟨c1, c2, c3, c4, c5, c6, c7⟩ := hc
      split at h
      · rename_i st1 h1
        split at h
        · rename_i ex st2 h2
          split at h
          · rename_i j hj
            split at h
            · rename_i hl
              simp only [Option.some.injEq, Prod.mk.injEq] at h
              obtain ⟨rfl, rfl⟩ := h
              refine YDoes.of hg c1 c2 c3 c4 c5 ((hih.aw h1 c6 id).mono ?_)
              rintro ex1 st3 ⟨rfl, rfl⟩
              refine (hih.aw h2 c7 id).mono ?_
              rintro ex2 st4 ⟨rfl, rfl⟩
              have fin : RndW G σ id i y e j (.d (.lit (.bool j.isNone))) ((i, .rc y j e) :: st4.sg.sel (selY σ id (geL id (reach st4.sg ((σ.filter fun p => decide (p.1 < id)).map fun p => .po p.1 0))))) st4 := ⟨rfl, GhW.now ⟨_, hl, fun _ _ h => h⟩⟩
              cases ex2 <;> simp only [Option.some.injEq, reduceCtorEq] at hj <;> subst hj <;> exact fin
            · cases h
          · cases h
        · cases h
      · cases h
    · cases h
  · cases h
theorem calleeX_sound' {α : Type} {v : V} {k : Nat → List V → Option α} {y : α} (h : calleeX v k = some y) : ∃ f caps, k f caps = some y ∧ ∀ w I β x, Den w I β v x → ∃ cv : List Value, x = .func (.func f) #[] cv.toArray ∧ DenL w I β caps cv := by
  unfold calleeX at h
  split at h
  · exact ⟨_, _, h, fun w I β x hd => callee_d hd⟩
  · exact ⟨_, _, h, fun w I β x hd => callee_fn hd⟩
  · cases h
theorem rngX_sound {ih : CodeRun} (hih : CodeOk P G ih) {n m : Nat} {g : Operand} {ps : Array Nat} {asg body : Code} {st st' : St} {e : Exit} {k : Nat} {caps : List V} (hg : ∀ w I β x, Den w I β (evF G st.env.get g) x → ∃ cv : List Value, x = .func (.func k) #[] cv.toArray ∧ DenL w I β caps cv)
    (h : rngX P ih n ps asg body st k caps = some (e, st')) : AW P G n m (.rangeFunc g ps asg body) st (OutQ e st') := by
  unfold rngX at h
  split at h
  · cases h
  · rename_i fn hf
    split at h
    · cases h
    · rename_i c hb
      split at h
      · rename_i hc
        obtain ⟨c1, c2, c3, c4⟩ := hc
        have hrs : fn.results = #[] := by
          apply Array.toList_inj.1
          simpa using c2
        have fin : ∀ st1, outR st st1 = some (e, st') → RngW G st (OutQ e st') st1 := by
          intro st1 ho
          unfold outR at ho
          split at ho
          · rename_i y' e' hx
            simp only [Option.some.injEq, Prod.mk.injEq] at ho
            exact GhW.now ⟨_, _, _, hx, ho.1, ho.2⟩
          · rename_i y' e' hx
            simp only [Option.some.injEq, Prod.mk.injEq] at ho
            exact GhW.now ⟨_, _, _, hx, ho.1, ho.2⟩
          · rename_i y' q e' hx
            simp only [Option.some.injEq, Prod.mk.injEq] at ho
            exact GhW.now ⟨_, _, _, hx, ho.1, ho.2⟩
          · cases ho
        split at h
        · rename_i st1 h1
          refine range_aw hg c1 hf hb hrs c3 ((hih.aw h1 c4 (st.nx + 1)).mono ?_)
          rintro ex st2 ⟨rfl, rfl⟩
          exact fin _ h
        · rename_i st1 h1
          refine range_aw hg c1 hf hb hrs c3 ((hih.aw h1 c4 (st.nx + 1)).mono ?_)
          rintro ex st2 ⟨rfl, rfl⟩
          exact fin _ h
        · cases h
      · cases h
theorem bodyX_sound (ho : P.follows .mixedOrders = true) (hT : OrcOk P G M.orc) {ih : CodeRun} (hih : CodeOk P G ih) : CodeOk P G (bodyX P G M ih) := by
  intro n lm c st e st' h m hok
  have key : ∀ {c : Code}, (∀ c', c ≠ .loop c') → AW P G n m c st (OutQ e st') → AW P G n m c st (OutQ e st') ∧ ∀ c', c = .loop c' → AL P G n m c' st (OutQ e st') := fun hne h => ⟨h, fun c' e => absurd e (hne c')⟩
  unfold bodyX at h
  split at h
  · simp only [Option.some.injEq, Prod.mk.injEq] at h
    obtain ⟨rfl, rfl⟩ := h
    exact key (fun _ => by simp) (fun _ _ C a w _ _ hr => wpIn_skip ⟨st, ⟨rfl, rfl⟩, hr⟩)
  · exact key (fun _ => by simp) ((regX_sound ho ⟨funX_sound hT hih, rndX_sound hih⟩ hok h).le ((deepF_le m _ _ _).trans (trimF_le M _ m _)))
  · rename_i x y
    refine key (fun _ => by simp) ?_
    simp only [codeOk, Bool.and_eq_true] at hok
    split at h
    · rename_i st1 h1
      intro fr hfr C a w hn hm hr
      refine wpIn_seq (wpIn_mono (hih.aw h1 hok.1 m fr (hfr.imp id (fun h => (by simpa only [noR, Bool.and_eq_true] using h : _ ∧ _).1)) C a w hn hm hr) ?_)
      rintro e2 a' w' ⟨st2, ⟨rfl, rfl⟩, hr'⟩
      exact hih.aw h hok.2 m fr (hfr.imp id (fun h => (by simpa only [noR, Bool.and_eq_true] using h : _ ∧ _).2)) C a' w' hn hm hr'
    · rename_i hne
      intro fr hfr C a w hn hm hr
      refine wpIn_seq (wpIn_mono (hih.aw h hok.1 m fr (hfr.imp id (fun h => (by simpa only [noR, Bool.and_eq_true] using h : _ ∧ _).1)) C a w hn hm hr) ?_)
      rintro e2 a' w' ⟨st2, ⟨rfl, rfl⟩, hr'⟩
      cases e2 with
      | normal => exact absurd h (hne st2)
      | _ => exact ⟨st2, ⟨rfl, rfl⟩, hr'⟩
  · rename_i cc x y
    refine key (fun _ => by simp) ?_
    simp only [codeOk, Bool.and_eq_true] at hok
    have hd : ∀ {C : Ctx} {a : Act} {w : World} {b : Bool}, Rel C G st a w → evF G st.env.get cc = .d (.lit (.bool b)) → a.eval cc = .bool b := by
      intro C a w b hr hb
      obtain ⟨I, β, h1, h2, h3, h4, h5, h6⟩ := id hr
      have hd := evF_den (e := st.env) (a := a) h3 h6 cc
      rw [hb] at hd
      exact den_lit hd
    split at h
    · rename_i hb
      intro fr hfr C a w hn hm hr
      exact wpIn_cond_true (hd hr hb) (hih.aw h hok.1 m fr (hfr.imp id (fun h => (by simpa only [noR, Bool.and_eq_true] using h : _ ∧ _).1)) C a w hn hm hr)
    · rename_i hb
      intro fr hfr C a w hn hm hr
      exact wpIn_cond_false (hd hr hb) (hih.aw h hok.2 m fr (hfr.imp id (fun h => (by simpa only [noR, Bool.and_eq_true] using h : _ ∧ _).2)) C a w hn hm hr)
    · cases h
  · rename_i id x
    refine key (fun _ => by simp) ?_
    simp only [codeOk] at hok
    split at h
    · rename_i i st1 h1
      intro fr hfr C a w hn hm hr
      refine wpIn_block (wpIn_mono (hih.aw h1 hok m fr hfr C a w hn hm hr) ?_)
      rintro e2 a' w' ⟨st2, ⟨rfl, rfl⟩, hr'⟩
      simp only [Exit.inBlock]
      split at h <;> rename_i hi <;> simp only [Option.some.injEq, Prod.mk.injEq] at h <;> obtain ⟨rfl, rfl⟩ := h
      · rw [if_pos hi]; exact ⟨_, ⟨rfl, rfl⟩, hr'⟩
      · rw [if_neg hi]; exact ⟨_, ⟨rfl, rfl⟩, hr'⟩
    · rename_i hne
      intro fr hfr C a w hn hm hr
      refine wpIn_block (wpIn_mono (hih.aw h hok m fr hfr C a w hn hm hr) ?_)
      rintro e2 a' w' ⟨st2, ⟨rfl, rfl⟩, hr'⟩
      cases e2 with
      | exit i => exact absurd h (hne i st2)
      | _ => exact ⟨st2, ⟨rfl, rfl⟩, hr'⟩
  · rename_i x
    have hok' : codeOk n x = true := hok
    have hal : AL P G n m x st (OutQ e st') := by
      split at h
      · rename_i st1 h1
        exact AL.round (hih.aw h1 hok' m) ((hih n lm _ st1 e st' h m hok).2 x rfl)
      · rename_i hne
        exact AL.out (fun he => by subst he; exact hne st' h) (hih.aw h hok' m)
    exact ⟨hal.aw, fun c' e => by injection e with e; subst e; exact hal⟩
  · simp only [Option.some.injEq, Prod.mk.injEq] at h
    obtain ⟨rfl, rfl⟩ := h
    exact key (fun _ => by simp) (fun _ _ C a w _ _ hr => wpIn_exit ⟨st, ⟨rfl, rfl⟩, hr⟩)
  · simp only [Option.some.injEq, Prod.mk.injEq] at h
    obtain ⟨rfl, rfl⟩ := h
    exact key (fun _ => by simp) (fun _ _ C a w _ _ hr => wpIn_ret ⟨st, ⟨rfl, rfl⟩, hr⟩)
  · simp only [Option.some.injEq, Prod.mk.injEq] at h
    obtain ⟨rfl, rfl⟩ := h
    exact key (fun _ => by simp) (fun _ _ C a w _ _ hr => wpIn_label ⟨st, ⟨rfl, rfl⟩, hr⟩)
  · rename_i g ps a c
    refine key (fun _ => by simp) ?_
    obtain ⟨k, caps, h1, h2⟩ := calleeX_sound' h
    exact rngX_sound hih h2 h1
  · rename_i x
    refine key (fun _ => by simp) ?_
    simp only [codeOk] at hok
    split at h
    · cases h
    · rename_i hne
      intro fr hfr C a w hn hm hr
      refine wpIn_scope_straight (wpIn_mono (hih.aw h hok m fr hfr C a w hn hm hr) ?_)
      rintro e2 a' w' ⟨st2, ⟨rfl, rfl⟩, hr'⟩
      cases e2 with
      | goto l => exact absurd h (hne l st2)
      | _ => exact ⟨st2, ⟨rfl, rfl⟩, hr'⟩
  · cases h
theorem codeX_sound (ho : P.follows .mixedOrders = true) (hT : OrcOk P G M.orc) : ∀ n, CodeOk P G (codeX P G M n)
  | 0 => fun _ _ _ _ _ _ h => by cases h
  | n + 1 => bodyX_sound ho hT (codeX_sound ho hT n)
/-- A run says what a function does. -/
theorem runX_sound (ho : P.follows .mixedOrders = true) (hT : OrcOk P G M.orc) (n : Nat) : ∀ f args σ m r σ', runX P G M n f args σ m = some (r, σ') → OFn P G f args σ m r σ' := funX_sound hT (codeX_sound ho hT n)
end
end Go.Proofs.YtlnimbnihbcnpaaGreatDoor
/- What the machine says of a function at arguments that are known. -/
set_option linter.unusedSimpArgs false
set_option linter.unusedVariables false
set_option maxRecDepth 8000
namespace Go.Proofs.YtlnimbnihbcnpaaGreatDoor
abbrev nilV : V := .d (.lit (.pointer none))
abbrev nilS : V := .d (.lit (.slice none 0 0))
abbrev nilD : D := .lit (.pointer none)
abbrev nilSD : D := .lit (.slice none 0 0)
abbrev rV (r : Int) : V := .d (.lit (.int .i32 r))
abbrev tV (s : ByteArray) : V := .d (.lit (.string s))
abbrev iD (n : Int) : D := .lit (.int .i64 n)
abbrev M0 : Nat → Bool := fun _ => false
/-- utf.most alone. -/
def GU : Gl := fun g => if g = 2 then G0 2 else none
/-- The ranges alone. -/
def GW : Gl := fun g => if g = 0 then G0 0 else if g = 1 then G0 1 else none
theorem getsG (G : Gl) (M : Nat → Bool) (n : Nat) {f : Nat} {args : List V} {v : V} (h : runX Tryz.prog G ⟨M, false, []⟩ n f args [] 0 = some (v, [])) : OFn Tryz.prog G f args [] 0 v [] := runX_sound mixed OrcOk.nil n f args [] 0 _ _ h
theorem gets (M : Nat → Bool) (n : Nat) {f : Nat} {args : List V} {v : V} (h : runX Tryz.prog G0 ⟨M, false, []⟩ n f args [] 0 = some (v, [])) : OFn Tryz.prog G0 f args [] 0 v [] := getsG G0 M n h
/-- The same, with what is known. -/
theorem getsO {G : Gl} (M : Nat → Bool) {T : Orc} (hT : OrcOk Tryz.prog G T) (n : Nat) {f : Nat} {args : List V} {v : V} (h : runX Tryz.prog G ⟨M, true, T⟩ n f args [] 0 = some (v, [])) : OFn Tryz.prog G f args [] 0 v [] := runX_sound mixed hT n f args [] 0 _ _ h
end Go.Proofs.YtlnimbnihbcnpaaGreatDoor
/- Closed facts of the program that each row wants. -/
namespace Go.Proofs.YtlnimbnihbcnpaaGreatDoor
theorem Tryz.own : ownKnob Tryz.prog.godebug = none := by kernel_rfl
theorem Tryz.laidOut : laidOutB Tryz.prog = true := by kernel_rfl
theorem cells_int : Tryz.prog.cellsOf 3 = 1 := by kernel_rfl
end Go.Proofs.YtlnimbnihbcnpaaGreatDoor
/- The listed variables, as the card lays them. -/
namespace Go.Proofs.YtlnimbnihbcnpaaGreatDoor
theorem gok_most {W : World} {x : D} (h : laidMet Tryz.prog [("bodkin/utf.most", Rows.laid_bodkin_utf_most)] W) (hg : G0 2 = some x) : DenD W (Old W) x (.pointer (some ⟨2, 0, none⟩)) := by
  have t := Lib.tabIs_of_head (k := .i32) (zs := [127, 2047, 65535, 1114111]) (g := 2) (t := 554) (e := 21) (n := 4) (by kernel_rfl) (by kernel_rfl) Tryz.underlying554 Tryz.underlying21 (by kernel_rfl) (by kernel_rfl) h
  have := tab_den (g := 2) t (by kernel_rfl) (by decide)
  rw [show G0 2 = some _ from rfl] at hg
  injection hg with hg
  subst hg
  exact this
theorem gok_zero {W : World} {x : D} {r : List (String × DataW Unit)} (h : laidMet Tryz.prog (("bodkin/width.plainZero", Rows.laid_bodkin_width_plainZero) :: r) W) (hg : G0 0 = some x) : DenD W (Old W) x (.pointer (some ⟨0, 0, none⟩)) := by
  have t := tabIs_of_head2 (k := .i32) (zss := [[768, 879], [8203, 8207], [65024, 65039]]) (g := 0) (t := 369) (e := 368) (f := 21) (n := 3) (by kernel_rfl) (by kernel_rfl) Tryz.underlying369 Tryz.underlying368 rfl rfl rfl rfl Tryz.underlying21 (by kernel_rfl) (by kernel_rfl) (by kernel_rfl) h
  have := tab_den (g := 0) t (by kernel_rfl) (by decide)
  rw [show G0 0 = some _ from rfl] at hg
  injection hg with hg
  subst hg
  exact this
theorem gok_wide {W : World} {x : D} {r : List (String × DataW Unit)} (h : laidMet Tryz.prog (("bodkin/width.plainWide", Rows.laid_bodkin_width_plainWide) :: r) W) (hg : G0 1 = some x) : DenD W (Old W) x (.pointer (some ⟨1, 0, none⟩)) := by
  have t := tabIs_of_head2 (k := .i32) (zss := [[4352, 4447], [11904, 12350], [12353, 19903], [19968, 40959], [44032, 55203], [63744, 64255], [65280, 65376], [127744, 128591]]) (g := 1) (t := 370) (e := 368) (f := 21) (n := 8) (by kernel_rfl) (by kernel_rfl) Tryz.underlying370 Tryz.underlying368 rfl rfl rfl rfl Tryz.underlying21 (by kernel_rfl) (by kernel_rfl) (by kernel_rfl) h
  have := tab_den (g := 1) t (by kernel_rfl) (by decide)
  rw [show G0 1 = some _ from rfl] at hg
  injection hg with hg
  subst hg
  exact this
theorem gok3 {W : World} (hL : laidMetH Tryz.prog [("bodkin/utf.most", Rows.laid_bodkin_utf_most), ("bodkin/width.plainZero", Rows.laid_bodkin_width_plainZero), ("bodkin/width.plainWide", Rows.laid_bodkin_width_plainWide)] W) : GOk G0 W (Old W) := by
  rw [MakeChecks.laidMetH_plain _ _ _ (by kernel_rfl)] at hL
  have h2 := hL.tail
  have h3 := h2.tail
  intro g x hg
  by_cases e0 : g = 0
  · subst e0; exact gok_zero h2 hg
  by_cases e1 : g = 1
  · subst e1; exact gok_wide h3 hg
  by_cases e2 : g = 2
  · subst e2
    have t := Lib.tabIs_of_head (k := .i32) (zs := [127, 2047, 65535, 1114111]) (g := 2) (t := 554) (e := 21) (n := 4) (by kernel_rfl) (by kernel_rfl) Tryz.underlying554 Tryz.underlying21 (by kernel_rfl) (by kernel_rfl) hL
    have := tab_den (g := 2) t (by kernel_rfl) (by decide)
    rw [show G0 2 = some _ from rfl] at hg
    injection hg with hg
    subst hg
    exact this
  · exfalso
    unfold G0 at hg
    simp only [e0, e1, e2, if_false] at hg
    cases hg
theorem gokU {W : World} (hL : laidMetH Tryz.prog [("bodkin/utf.most", Rows.laid_bodkin_utf_most)] W) : GOk GU W (Old W) := by
  rw [MakeChecks.laidMetH_plain _ _ _ (by kernel_rfl)] at hL
  intro g x hg
  unfold GU at hg
  split at hg
  · rename_i e; subst e; exact gok_most hL hg
  · cases hg
theorem gokW {W : World} (hL : laidMetH Tryz.prog [("bodkin/width.plainZero", Rows.laid_bodkin_width_plainZero), ("bodkin/width.plainWide", Rows.laid_bodkin_width_plainWide)] W) : GOk GW W (Old W) := by
  rw [MakeChecks.laidMetH_plain _ _ _ (by kernel_rfl)] at hL
  have h2 := hL.tail
  intro g x hg
  unfold GW at hg
  split at hg
  · rename_i e; subst e; exact gok_zero hL hg
  · split at hg
    · rename_i e; subst e; exact gok_wide h2 hg
    · cases hg
end Go.Proofs.YtlnimbnihbcnpaaGreatDoor
/- Which functions are handed own blocks. -/
namespace Go.Proofs.YtlnimbnihbcnpaaGreatDoor
def MB : Nat → Bool := fun k => Nat.testBit 11184594907760698807979589637821243876009356905328784742034680464312449146886079633237982806935643671531116985336928813602807818082001616896 k
end Go.Proofs.YtlnimbnihbcnpaaGreatDoor
/- Arguments of the small laws, opened. -/
namespace Go.Proofs.YtlnimbnihbcnpaaGreatDoor
theorem ofCs_cons {c : Cs} {r : List Cs} {ds : List D} (h : OfCs (c :: r) ds) : ∃ d s, ds = d :: s ∧ OfC c d ∧ OfCs r s := by
  match ds, h with
  | d :: s, h => exact ⟨d, s, rfl, (by simpa only [OfCs] using h)⟩
  | [], h => simp [OfCs] at h
theorem ofCs_nil {ds : List D} (h : OfCs [] ds) : ds = [] := by
  match ds, h with
  | [], _ => rfl
  | _ :: _, h => simp [OfCs] at h
theorem ofAll_cons {c : List Cs} {r : List (List Cs)} {ds : List (List D)} (h : OfAll (c :: r) ds) : ∃ d s, ds = d :: s ∧ OfCs c d ∧ OfAll r s := by
  match ds, h with
  | d :: s, h => exact ⟨d, s, rfl, (by simpa only [OfAll] using h)⟩
  | [], h => simp [OfAll] at h
theorem ofAll_nil {ds : List (List D)} (h : OfAll [] ds) : ds = [] := by
  match ds, h with
  | [], _ => rfl
  | _ :: _, h => simp [OfAll] at h
theorem ofCs1 {c : Cs} {ds : List D} (h : OfCs [c] ds) : ∃ d, ds = [d] ∧ OfC c d := by
  obtain ⟨d, s, rfl, h1, h2⟩ := ofCs_cons h
  obtain rfl := ofCs_nil h2
  exact ⟨d, rfl, h1⟩
theorem ofCs2 {c e : Cs} {ds : List D} (h : OfCs [c, e] ds) : ∃ d x, ds = [d, x] ∧ OfC c d ∧ OfC e x := by
  obtain ⟨d, s, rfl, h1, h2⟩ := ofCs_cons h
  obtain ⟨x, rfl, h3⟩ := ofCs1 h2
  exact ⟨d, x, rfl, h1, h3⟩
theorem ofAll1 {c : List Cs} {ds : List (List D)} (h : OfAll [c] ds) : ∃ d, ds = [d] ∧ OfCs c d := by
  obtain ⟨d, s, rfl, h1, h2⟩ := ofAll_cons h
  obtain rfl := ofAll_nil h2
  exact ⟨d, rfl, h1⟩
theorem ofAll2 {c e : List Cs} {ds : List (List D)} (h : OfAll [c, e] ds) : ∃ d x, ds = [d, x] ∧ OfCs c d ∧ OfCs e x := by
  obtain ⟨d, s, rfl, h1, h2⟩ := ofAll_cons h
  obtain ⟨x, rfl, h3⟩ := ofAll1 h2
  exact ⟨d, x, rfl, h1, h3⟩
theorem ofC_int {k : IntKind} {d : D} (h : OfC (.int k) d) : ∃ n, d = .lit (.int k n) := by
  simp only [OfC] at h
  obtain ⟨n, rfl, _⟩ := h
  exact ⟨n, rfl⟩
theorem ofC_str {d : D} (h : OfC .str d) : ∃ s : ByteArray, d = .lit (.string s) ∧ s.size ≤ maxLen := by simpa only [OfC] using h
theorem ofC_sl {k : Nat} {ag : Bool} {e : List Cs} {d : D} (h : OfC (.sl k ag e) d) : ∃ es, d = .sd k false es ∧ es.length ≤ maxLen ∧ ∀ y ∈ es, ∃ ds, y = mkEl ag ds ∧ OfCs e ds := by simpa only [OfC] using h
theorem st_int : isStT Tryz.prog 3 = false := by kernel_rfl
theorem args_i {dss : List (List D)} (h : OfAll [[.int .i64]] dss) : ∃ n, argsD Tryz.prog [3] dss = [iv n] := by
  obtain ⟨a, rfl, ha⟩ := ofAll1 h
  obtain ⟨x, rfl, hx⟩ := ofCs1 ha
  obtain ⟨n, rfl⟩ := ofC_int hx
  exact ⟨n, by simp only [argsD, argD, st_int, mkEl]⟩
theorem args_ii {dss : List (List D)} (h : OfAll [[.int .i64], [.int .i64]] dss) : ∃ n m, argsD Tryz.prog [3, 3] dss = [iv n, iv m] := by
  obtain ⟨a, b, rfl, ha, hb⟩ := ofAll2 h
  obtain ⟨x, rfl, hx⟩ := ofCs1 ha
  obtain ⟨n, rfl⟩ := ofC_int hx
  obtain ⟨y, rfl, hy⟩ := ofCs1 hb
  obtain ⟨m, rfl⟩ := ofC_int hy
  exact ⟨n, m, by simp only [argsD, argD, st_int, mkEl]⟩
end Go.Proofs.YtlnimbnihbcnpaaGreatDoor
/- What bodkin/bodkinlaw41.four answers: run by the machine, call by call. Printed by cuts.py. -/
set_option maxRecDepth 100000
namespace Go.Proofs.YtlnimbnihbcnpaaGreatDoor
abbrev four_d0 : D := .pd 7 [.agg [.sd 7 false [.agg [iD 0, iD 0, iD 5, iD 5, iD 1, iD 0, .lit (.string ⟨#[97, 98, 10, 99, 100]⟩)]], iD 1, iD 5, iD 5, iD 1, iD 0, iD 0]] 0 0
abbrev four_d1 : D := .pd 7 [.agg [.sd 7 false [.agg [iD 0, iD 0, iD 5, iD 5, iD 0, iD 0, .lit (.string ⟨#[]⟩)]], iD 1, iD 5, iD 5, iD 0, iD 0, iD 0]] 0 0
abbrev four_d2 : D := .pd 7 [.agg [.sd 7 false [.agg [iD 0, iD 0, iD 3, iD 3, iD 1, iD 2, .lit (.string ⟨#[]⟩)], .agg [iD 0, iD 0, iD 2, iD 2, iD 1, iD 2, .lit (.string ⟨#[]⟩)]], iD 2, iD 5, iD 5, iD 2, iD 2, iD 0]] 0 0
abbrev four_d3 : D := .pd 8 [.agg [.pd 1 [.agg [.pd 1 [.agg [.ifc 404 four_d0]] 0 0]] 0 0, .pd 2 [.agg [iD 5, nilSD]] 0 0, .pd 3 [.agg [iD 5, nilSD, nilSD]] 0 0, iD 4, iD 0, .pd 1 [.agg [.pd 1 [.agg [.ifc 404 four_d1]] 0 0]] 0 0, .pd 1 [.agg [.pd 1 [.agg [.ifc 404 four_d1]] 0 0]] 0 0, .pd 1 [.agg [.pd 1 [.agg [.ifc 404 four_d2]] 0 0]] 0 0]] 0 0
abbrev four_d4 : D := .sd 7 false [.agg [.sd 4 false [.agg [.lit (.int .i32 99), iD 1, iD 1, iD 3], .agg [.lit (.int .i32 100), iD 1, iD 1, iD 4]], iD 3, iD 5, iD 1, .lit (.bool false), .lit (.bool false), iD 2]]
theorem four_0 : OFn Tryz.prog G0 67 (([.lit (.string ⟨#[97, 98, 10, 99, 100]⟩)] : List D).map V.d) [] 0 (.tup [.d (.pd 1 [.agg [.pd 1 [.agg [.ifc 404 four_d0]] 0 0]] 0 0), .d (iD 0)]) [] := getsO (MB) (T := []) OrcOk.nil 6000 (by kernel_rfl)
def four_t0 : Orc := (67, [.lit (.string ⟨#[97, 98, 10, 99, 100]⟩)], .tup [.d (.pd 1 [.agg [.pd 1 [.agg [.ifc 404 four_d0]] 0 0]] 0 0), .d (iD 0)]) :: []
theorem four_k0 : OrcOk Tryz.prog G0 four_t0 := OrcOk.cons four_0 OrcOk.nil
theorem four_1 : OFn Tryz.prog G0 68 (([iD 5, nilSD] : List D).map V.d) [] 0 (.tup [.d (.pd 2 [.agg [iD 5, nilSD]] 0 0), .d (iD 0)]) [] := getsO (MB) (T := four_t0) four_k0 6000 (by kernel_rfl)
def four_t1 : Orc := (68, [iD 5, nilSD], .tup [.d (.pd 2 [.agg [iD 5, nilSD]] 0 0), .d (iD 0)]) :: four_t0
theorem four_k1 : OrcOk Tryz.prog G0 four_t1 := OrcOk.cons four_1 four_k0
theorem four_2 : OFn Tryz.prog G0 198 (([iD 5, nilSD] : List D).map V.d) [] 0 (.tup [.d (.pd 3 [.agg [iD 5, nilSD, nilSD]] 0 0), .d (iD 0)]) [] := getsO (MB) (T := four_t1) four_k1 6000 (by kernel_rfl)
def four_t2 : Orc := (198, [iD 5, nilSD], .tup [.d (.pd 3 [.agg [iD 5, nilSD, nilSD]] 0 0), .d (iD 0)]) :: four_t1
theorem four_k2 : OrcOk Tryz.prog G0 four_t2 := OrcOk.cons four_2 four_k1
theorem four_3 : OFn Tryz.prog G0 13 (([.agg [.pd 1 [.agg [.pd 1 [.agg [.ifc 404 four_d0]] 0 0]] 0 0, .pd 2 [.agg [iD 5, nilSD]] 0 0, nilSD], iD 0] : List D).map V.d) [] 0 (.tup [.d (.agg [.sd 3 false [.agg [iD 1, iD 0, .sd 1 false [.lit (.int .i32 97), .lit (.int .i32 98)]]], iD 0, iD 2]), .d (iD 0)]) [] := getsO (MB) (T := four_t2) four_k2 6000 (by kernel_rfl)
def four_t3 : Orc := (13, [.agg [.pd 1 [.agg [.pd 1 [.agg [.ifc 404 four_d0]] 0 0]] 0 0, .pd 2 [.agg [iD 5, nilSD]] 0 0, nilSD], iD 0], .tup [.d (.agg [.sd 3 false [.agg [iD 1, iD 0, .sd 1 false [.lit (.int .i32 97), .lit (.int .i32 98)]]], iD 0, iD 2]), .d (iD 0)]) :: four_t2
theorem four_k3 : OrcOk Tryz.prog G0 four_t3 := OrcOk.cons four_3 four_k2
theorem four_4 : OFn Tryz.prog G0 13 (([.agg [.pd 1 [.agg [.pd 1 [.agg [.ifc 404 four_d0]] 0 0]] 0 0, .pd 2 [.agg [iD 5, nilSD]] 0 0, nilSD], iD 3] : List D).map V.d) [] 0 (.tup [.d (.agg [.sd 3 false [.agg [iD 1, iD 3, .sd 1 false [.lit (.int .i32 99), .lit (.int .i32 100)]]], iD 3, iD 5]), .d (iD 0)]) [] := getsO (MB) (T := four_t3) four_k3 6000 (by kernel_rfl)
def four_t4 : Orc := (13, [.agg [.pd 1 [.agg [.pd 1 [.agg [.ifc 404 four_d0]] 0 0]] 0 0, .pd 2 [.agg [iD 5, nilSD]] 0 0, nilSD], iD 3], .tup [.d (.agg [.sd 3 false [.agg [iD 1, iD 3, .sd 1 false [.lit (.int .i32 99), .lit (.int .i32 100)]]], iD 3, iD 5]), .d (iD 0)]) :: four_t3
theorem four_k4 : OrcOk Tryz.prog G0 four_t4 := OrcOk.cons four_4 four_k3
theorem four_5 : OFn Tryz.prog G0 82 (([.agg [.pd 1 [.agg [.pd 1 [.agg [.ifc 404 four_d0]] 0 0]] 0 0, .pd 2 [.agg [iD 5, nilSD]] 0 0, .pd 3 [.agg [iD 5, nilSD, nilSD]] 0 0, iD 4, iD 0]] : List D).map V.d) [] 0 (.tup [.d four_d3, .d (iD 0)]) [] := getsO (MB) (T := four_t4) four_k4 6000 (by kernel_rfl)
def four_t5 : Orc := (82, [.agg [.pd 1 [.agg [.pd 1 [.agg [.ifc 404 four_d0]] 0 0]] 0 0, .pd 2 [.agg [iD 5, nilSD]] 0 0, .pd 3 [.agg [iD 5, nilSD, nilSD]] 0 0, iD 4, iD 0]], .tup [.d four_d3, .d (iD 0)]) :: four_t4
theorem four_k5 : OrcOk Tryz.prog G0 four_t5 := OrcOk.cons four_5 four_k4
theorem four_6 : OFn Tryz.prog G0 93 (([.agg [.lit (.string ⟨#[97, 98, 10, 99, 100]⟩), nilSD, nilSD, iD 4, iD 0]] : List D).map V.d) [] 0 (.d four_d3) [] := getsO (MB) (T := four_t5) four_k5 6000 (by kernel_rfl)
def four_t6 : Orc := (93, [.agg [.lit (.string ⟨#[97, 98, 10, 99, 100]⟩), nilSD, nilSD, iD 4, iD 0]], .d four_d3) :: four_t5
theorem four_k6 : OrcOk Tryz.prog G0 four_t6 := OrcOk.cons four_6 four_k5
theorem four_7 : OFn Tryz.prog G0 80 (([.agg [.pd 1 [.agg [.pd 1 [.agg [.ifc 404 four_d0]] 0 0]] 0 0, .pd 2 [.agg [iD 5, nilSD]] 0 0, nilSD, .pd 2 [.agg [.sd 2 false [.agg [.lit (.int .i32 768), .lit (.int .i32 879)], .agg [.lit (.int .i32 8203), .lit (.int .i32 8207)], .agg [.lit (.int .i32 65024), .lit (.int .i32 65039)]], .sd 2 false [.agg [.lit (.int .i32 4352), .lit (.int .i32 4447)], .agg [.lit (.int .i32 11904), .lit (.int .i32 12350)], .agg [.lit (.int .i32 12353), .lit (.int .i32 19903)], .agg [.lit (.int .i32 19968), .lit (.int .i32 40959)], .agg [.lit (.int .i32 44032), .lit (.int .i32 55203)], .agg [.lit (.int .i32 63744), .lit (.int .i32 64255)], .agg [.lit (.int .i32 65280), .lit (.int .i32 65376)], .agg [.lit (.int .i32 127744), .lit (.int .i32 128591)]]]] 0 0, iD 4, iD 0], .agg [.sd 3 false [.agg [iD 1, iD 3, .sd 1 false [.lit (.int .i32 99), .lit (.int .i32 100)]]], iD 3, iD 5]] : List D).map V.d) [] 0 (.tup [.d four_d4, .d (iD 0)]) [] := getsO (MB) (T := four_t6) four_k6 6000 (by kernel_rfl)
def four_t7 : Orc := (80, [.agg [.pd 1 [.agg [.pd 1 [.agg [.ifc 404 four_d0]] 0 0]] 0 0, .pd 2 [.agg [iD 5, nilSD]] 0 0, nilSD, .pd 2 [.agg [.sd 2 false [.agg [.lit (.int .i32 768), .lit (.int .i32 879)], .agg [.lit (.int .i32 8203), .lit (.int .i32 8207)], .agg [.lit (.int .i32 65024), .lit (.int .i32 65039)]], .sd 2 false [.agg [.lit (.int .i32 4352), .lit (.int .i32 4447)], .agg [.lit (.int .i32 11904), .lit (.int .i32 12350)], .agg [.lit (.int .i32 12353), .lit (.int .i32 19903)], .agg [.lit (.int .i32 19968), .lit (.int .i32 40959)], .agg [.lit (.int .i32 44032), .lit (.int .i32 55203)], .agg [.lit (.int .i32 63744), .lit (.int .i32 64255)], .agg [.lit (.int .i32 65280), .lit (.int .i32 65376)], .agg [.lit (.int .i32 127744), .lit (.int .i32 128591)]]]] 0 0, iD 4, iD 0], .agg [.sd 3 false [.agg [iD 1, iD 3, .sd 1 false [.lit (.int .i32 99), .lit (.int .i32 100)]]], iD 3, iD 5]], .tup [.d four_d4, .d (iD 0)]) :: four_t6
theorem four_k7 : OrcOk Tryz.prog G0 four_t7 := OrcOk.cons four_7 four_k6
theorem four_8 : OFn Tryz.prog G0 96 (([.pd 8 [.agg [.pd 1 [.agg [.pd 1 [.agg [.ifc 404 four_d0]] 0 0]] 0 0, .pd 2 [.agg [iD 5, nilSD]] 0 0, .pd 3 [.agg [iD 5, nilSD, nilSD]] 0 0, iD 4, iD 0, .pd 1 [.agg [.pd 1 [.agg [.ifc 404 four_d1]] 0 0]] 0 0, .pd 1 [.agg [.pd 1 [.agg [.ifc 404 four_d1]] 0 0]] 0 0, .pd 1 [.agg [.pd 1 [.agg [.ifc 404 four_d2]] 0 0]] 0 0]] 0 0, .agg [iD 1, iD 0, iD 1, iD 3, iD 3]] : List D).map V.d) [] 0 (.tup [.d four_d4, .d (.agg [iD 1])]) [] := getsO (MB) (T := four_t7) four_k7 6000 (by kernel_rfl)
def four_t8 : Orc := (96, [.pd 8 [.agg [.pd 1 [.agg [.pd 1 [.agg [.ifc 404 four_d0]] 0 0]] 0 0, .pd 2 [.agg [iD 5, nilSD]] 0 0, .pd 3 [.agg [iD 5, nilSD, nilSD]] 0 0, iD 4, iD 0, .pd 1 [.agg [.pd 1 [.agg [.ifc 404 four_d1]] 0 0]] 0 0, .pd 1 [.agg [.pd 1 [.agg [.ifc 404 four_d1]] 0 0]] 0 0, .pd 1 [.agg [.pd 1 [.agg [.ifc 404 four_d2]] 0 0]] 0 0]] 0 0, .agg [iD 1, iD 0, iD 1, iD 3, iD 3]], .tup [.d four_d4, .d (.agg [iD 1])]) :: four_t7
theorem four_k8 : OrcOk Tryz.prog G0 four_t8 := OrcOk.cons four_8 four_k7
theorem four_9 : OFn Tryz.prog G0 32 (([.pd 8 [.agg [.pd 1 [.agg [.pd 1 [.agg [.ifc 404 four_d0]] 0 0]] 0 0, .pd 2 [.agg [iD 5, nilSD]] 0 0, .pd 3 [.agg [iD 5, nilSD, nilSD]] 0 0, iD 4, iD 0, .pd 1 [.agg [.pd 1 [.agg [.ifc 404 four_d1]] 0 0]] 0 0, .pd 1 [.agg [.pd 1 [.agg [.ifc 404 four_d1]] 0 0]] 0 0, .pd 1 [.agg [.pd 1 [.agg [.ifc 404 four_d2]] 0 0]] 0 0]] 0 0, iD 3, iD 1] : List D).map V.d) [] 0 (.tup [.d (.agg [iD 1, iD 0]), .d (iD 0)]) [] := getsO (MB) (T := four_t8) four_k8 6000 (by kernel_rfl)
def four_t9 : Orc := (32, [.pd 8 [.agg [.pd 1 [.agg [.pd 1 [.agg [.ifc 404 four_d0]] 0 0]] 0 0, .pd 2 [.agg [iD 5, nilSD]] 0 0, .pd 3 [.agg [iD 5, nilSD, nilSD]] 0 0, iD 4, iD 0, .pd 1 [.agg [.pd 1 [.agg [.ifc 404 four_d1]] 0 0]] 0 0, .pd 1 [.agg [.pd 1 [.agg [.ifc 404 four_d1]] 0 0]] 0 0, .pd 1 [.agg [.pd 1 [.agg [.ifc 404 four_d2]] 0 0]] 0 0]] 0 0, iD 3, iD 1], .tup [.d (.agg [iD 1, iD 0]), .d (iD 0)]) :: four_t8
theorem four_k9 : OrcOk Tryz.prog G0 four_t9 := OrcOk.cons four_9 four_k8
theorem four_10 : OFn Tryz.prog G0 56 (([.pd 8 [.agg [.pd 1 [.agg [.pd 1 [.agg [.ifc 404 four_d0]] 0 0]] 0 0, .pd 2 [.agg [iD 5, nilSD]] 0 0, .pd 3 [.agg [iD 5, nilSD, nilSD]] 0 0, iD 4, iD 0, .pd 1 [.agg [.pd 1 [.agg [.ifc 404 four_d1]] 0 0]] 0 0, .pd 1 [.agg [.pd 1 [.agg [.ifc 404 four_d1]] 0 0]] 0 0, .pd 1 [.agg [.pd 1 [.agg [.ifc 404 four_d2]] 0 0]] 0 0]] 0 0, .pd 2 [.agg [iD 5, .sd 4 false [.agg [iD 7, iD 3, iD 2, .lit (.bool false)]]]] 0 0] : List D).map V.d) [] 0 (.tup [.d (.pd 2 [.agg [.sd 6 false [.agg [iD 7, iD 3, iD 2, .lit (.bool false), iD 1, iD 1]], iD 2]] 0 0), .d (iD 0)]) [] := getsO (MB) (T := four_t9) four_k9 6000 (by kernel_rfl)
def four_t10 : Orc := (56, [.pd 8 [.agg [.pd 1 [.agg [.pd 1 [.agg [.ifc 404 four_d0]] 0 0]] 0 0, .pd 2 [.agg [iD 5, nilSD]] 0 0, .pd 3 [.agg [iD 5, nilSD, nilSD]] 0 0, iD 4, iD 0, .pd 1 [.agg [.pd 1 [.agg [.ifc 404 four_d1]] 0 0]] 0 0, .pd 1 [.agg [.pd 1 [.agg [.ifc 404 four_d1]] 0 0]] 0 0, .pd 1 [.agg [.pd 1 [.agg [.ifc 404 four_d2]] 0 0]] 0 0]] 0 0, .pd 2 [.agg [iD 5, .sd 4 false [.agg [iD 7, iD 3, iD 2, .lit (.bool false)]]]] 0 0], .tup [.d (.pd 2 [.agg [.sd 6 false [.agg [iD 7, iD 3, iD 2, .lit (.bool false), iD 1, iD 1]], iD 2]] 0 0), .d (iD 0)]) :: four_t9
theorem four_k10 : OrcOk Tryz.prog G0 four_t10 := OrcOk.cons four_10 four_k9
abbrev four_t : Orc := four_t10
theorem four_k : OrcOk Tryz.prog G0 four_t := four_k10
theorem four_run : OFn Tryz.prog G0 59 [] [] 0 (.d (.lit (.bool true))) [] := getsO (MB) (T := four_t10) four_k10 6000 (by kernel_rfl)
end Go.Proofs.YtlnimbnihbcnpaaGreatDoor
/- BlocksNil: a nil set has no blocks, a nil map no lines. -/
set_option linter.unusedSimpArgs false
set_option linter.unusedVariables false
set_option maxRecDepth 8000
namespace Go.Proofs.YtlnimbnihbcnpaaGreatDoor
theorem bCount_nil {G : Gl} : OFn Tryz.prog G 57 [nilV] [] 0 (iv 0) [] := by
  refine vF mixed [0, 2, 3, 5, 7, 15, 16, 17, 18] Tryz.func57 rfl Tryz.results57 Tryz.ntmps57 ?_
  (repeat' (first | (with_reducible first | exact True.intro | refine vD ?_ | refine vG ?_ | refine vE ?_) | with_reducible refine DoneW.out ?_ | refine vR ?_ | refine v6 ?_ | with_reducible refine vN ?_ | ((with_reducible first | refine vB (fun h => ?_) (fun h => ?_) | refine vM (fun h => ?_) (fun h => ?_)) <;> (first | (exfalso; omega) | skip))))
theorem bAll_nil {G : Gl} : OFn Tryz.prog G 58 [nilV] [] 0 nilS [] := by
  refine vF mixed [0, 2, 4] Tryz.func58 rfl Tryz.results58 Tryz.ntmps58 ?_
  (repeat' (first | (with_reducible first | exact True.intro | refine vD ?_ | refine vG ?_ | refine vE ?_) | with_reducible refine DoneW.out ?_ | refine vR ?_ | refine v6 ?_ | with_reducible refine vN ?_ | ((with_reducible first | refine vB (fun h => ?_) (fun h => ?_) | refine vM (fun h => ?_) (fun h => ?_)) <;> (first | (exfalso; omega) | skip))))
theorem bAt_nil {G : Gl} (i : Int) : OFn Tryz.prog G 53 [nilV, iv i] [] 0 (.tup [.d (.agg [iD 0, iD 0]), iv 1]) [] := by
  refine vF mixed [0, 1, 4, 5, 6, 8, 16, 21, 22, 23, 24, 30, 38] Tryz.func53 rfl Tryz.results53 Tryz.ntmps53 ?_
  (repeat' (first | (with_reducible first | exact True.intro | refine vD ?_ | refine vG ?_ | refine vE ?_) | with_reducible refine DoneW.out ?_ | with_reducible refine vC (bCount_nil) ?_ | with_reducible refine vQ (bCount_nil) ?_ | refine vR ?_ | refine v6 ?_ | with_reducible refine vN ?_ | ((with_reducible first | refine vB (fun h => ?_) (fun h => ?_) | refine vM (fun h => ?_) (fun h => ?_)) <;> (first | (exfalso; omega) | skip))))
theorem bOut_nil {G : Gl} (i : Int) : OFn Tryz.prog G 54 [nilV, iv i] [] 0 (.tup [iv 0, iv 1]) [] := by
  refine vF mixed [0, 1, 4, 5, 6, 8, 22, 27, 28, 29, 30, 36] Tryz.func54 rfl Tryz.results54 Tryz.ntmps54 ?_
  (repeat' (first | (with_reducible first | exact True.intro | refine vD ?_ | refine vG ?_ | refine vE ?_) | with_reducible refine DoneW.out ?_ | refine vR ?_ | refine v6 ?_ | with_reducible refine vN ?_ | ((with_reducible first | refine vB (fun h => ?_) (fun h => ?_) | refine vM (fun h => ?_) (fun h => ?_)) <;> (first | (exfalso; omega) | skip))))
theorem bTop_nil {G : Gl} (i : Int) : OFn Tryz.prog G 55 [nilV, iv i] [] 0 (.tup [iv 0, iv 6]) [] := by
  refine vF mixed [0, 1, 4, 5, 7, 9, 13, 14, 15, 16, 23] Tryz.func55 rfl Tryz.results55 Tryz.ntmps55 ?_
  (repeat' (first | (with_reducible first | exact True.intro | refine vD ?_ | refine vG ?_ | refine vE ?_) | with_reducible refine DoneW.out ?_ | refine vR ?_ | refine v6 ?_ | with_reducible refine vN ?_ | ((with_reducible first | refine vB (fun h => ?_) (fun h => ?_) | refine vM (fun h => ?_) (fun h => ?_)) <;> (first | (exfalso; omega) | skip))))
theorem bOf_nil {G : Gl} : OFn Tryz.prog G 56 [nilV, nilV] [] 0 (.tup [nilV, iv 7]) [] := by
  refine vF mixed [0, 1, 4, 5, 6, 8, 9, 11, 12, 13, 14, 15, 18, 34, 35, 36, 37, 52, 78, 79, 80] Tryz.func56 rfl Tryz.results56 Tryz.ntmps56 ?_
  (repeat' (first | (with_reducible first | exact True.intro | refine vD ?_ | refine vG ?_ | refine vE ?_) | with_reducible refine DoneW.out ?_ | refine vR ?_ | refine v6 ?_ | with_reducible refine vN ?_ | ((with_reducible first | refine vB (fun h => ?_) (fun h => ?_) | refine vM (fun h => ?_) (fun h => ?_)) <;> (first | (exfalso; omega) | skip))))
abbrev setD : D := .pd 2 [.agg [iD 0, nilSD]] 0 0
theorem bShift_nil : OFn Tryz.prog G0 52 [nilV, nilS] [] 0 (.tup [.d setD, iv 0]) [] := gets M0 300 (by kernel_rfl)
theorem lawBlocksNil_fn (i : Int) (hd : OFn Tryz.prog G0 59 [] [] 0 (bv true) []) : OFn Tryz.prog G0 10 [iv i] [] 0 (bv true) [] := by
  refine vF mixed [0, 2, 3, 4, 5, 6, 8, 10, 12, 14] Tryz.func10 rfl Tryz.results10 Tryz.ntmps10 ?_
  (repeat' (first | (with_reducible first | exact True.intro | refine vD ?_ | refine vG ?_ | refine vE ?_) | with_reducible refine DoneW.out ?_ | with_reducible refine vC (bShift_nil) ?_ | with_reducible refine vQ (bShift_nil) ?_ | with_reducible refine vC (bAt_nil i) ?_ | with_reducible refine vQ (bAt_nil i) ?_ | with_reducible refine vC (bOut_nil i) ?_ | with_reducible refine vQ (bOut_nil i) ?_ | with_reducible refine vC (bTop_nil i) ?_ | with_reducible refine vQ (bTop_nil i) ?_ | with_reducible refine vC (bOf_nil) ?_ | with_reducible refine vQ (bOf_nil) ?_ | with_reducible refine vC (bCount_nil) ?_ | with_reducible refine vQ (bCount_nil) ?_ | with_reducible refine vC (bAll_nil) ?_ | with_reducible refine vQ (bAll_nil) ?_ | with_reducible refine vC (hd) ?_ | with_reducible refine vQ (hd) ?_ | refine vR ?_ | refine v6 ?_ | with_reducible refine vN ?_ | ((with_reducible first | refine vB (fun h => ?_) (fun h => ?_) | refine vM (fun h => ?_) (fun h => ?_)) <;> (first | (exfalso; omega) | skip))))
end Go.Proofs.YtlnimbnihbcnpaaGreatDoor
/- What is so of the program, piece by piece: the closed facts of a row that no row changes. -/
set_option maxRecDepth 100000
namespace Go.Proofs.YtlnimbnihbcnpaaGreatDoor
open Go
theorem and2 {a b : Bool} (ha : a = true) (hb : b = true) : (a && b) = true := by rw [ha, hb]; rfl
theorem prog_q1 : (laidOutB Tryz.pinned.checked.prog) = true := Tryz.laidOut
theorem prog_q2 : (mapsRowed Tryz.pinned.checked.prog) = true := by kernel_rfl
theorem prog_q6 : ((Tryz.pinned.checked.prog.stops == [])) = true := by kernel_rfl
theorem prog_q8 : ((Tryz.pinned.checked.prog.stopKnobs == [])) = true := by kernel_rfl
theorem prog_q24 : (Tryz.pinned.checked.prog.stopsHeard) = true := by kernel_rfl
theorem prog_q25 : (Tryz.pinned.checked.prog.mayEnter) = true := by kernel_rfl
theorem prog_main : Tryz.pinned.checked.prog.mainIs = some (true, "bd8eb7150ee7de999b3c78ab57184660bd617526138c58911b3c5fa58e98ecaf".toList) := by kernel_rfl
theorem prog_looks : true = Tryz.pinned.checked.prog.looks [] := by kernel_rfl
end Go.Proofs.YtlnimbnihbcnpaaGreatDoor
namespace Go.Proofs.YtlnimbnihbcnpaaGreatDoor
open Go Go.ChangeShapes Go.WideShapes Go.ChangeAt Go.RowKit Go.Joins
theorem four_fn : OFn Tryz.prog G0 59 [] [] 0 (bv true) [] := four_run

set_option maxRecDepth 100000 in
theorem blocksNil_lifted (os : Os) (started : os.Started) (H : Type) (enc : TypeId × Value → H) :
    ReturnsInHanded {} Tryz.checked os 10 .any (fun w args => (Rows.blocksNilSpec.pre enc Tryz.prog Tryz.f10 Rows.blocksNilRow.domain false w args ∧ laidMetH Tryz.prog Rows.blocksNilRow.laid w) ∧ sizedMet enc Tryz.prog Tryz.f10 (OpenSpec.ofChange Rows.blocksNilSpec) false w args) (Rows.blocksNilSpec.post enc Tryz.prog Tryz.f10 false true false false) := by
  refine returnsInHanded_of_change_and (C := Tryz.checked) (X := fun w _ => laidMetH Tryz.prog Rows.blocksNilRow.laid w) (fun _ _ _ hh h => h.of_heap hh) Tryz.own started (by kernel_rfl) Tryz.func10
    (ChangeSpec.witness_shaped (enc := enc) (C := Tryz.checked) (os := os) (X := fun w _ => laidMetH Tryz.prog Rows.blocksNilRow.laid w) false (World.doorLaid Tryz.prog 60 os) #[.int .i64 0] 8 rfl (World.shaped_of_RefB (by kernel_rfl) (by kernel_rfl)) (by kernel_rfl) (by kernel_rfl) (by kernel_rfl)
      (laidMetH_of_parts3 (fuel := 8) (laidMet_of_run' 8 (by kernel_rfl) (by kernel_rfl)) (by kernel_rfl) (by kernel_rfl))) ?_
  intro W base args ds gs before hval0 hW _ _ hL _
  have hval : ∀ (j : Nat) t v, Tryz.f10.params[j]? = some t → args[j]? = some v → Value.okWide Tryz.prog W .any base t v := hval0
  obtain ⟨p, q, hA0, hV, hpq, hfz, hnd⟩ := id hW
  have hA : DataW.TrodAll enc Tryz.prog W 0 (fun _ => true) true Tryz.f10.params.toList args.toList ds p := hA0
  obtain ⟨hgs, hq⟩ := trodVars_none hV
  have hlen := trod_len hA
  rw [Tryz.params10] at hA hval hlen
  subst hgs
  have hsp : Rows.blocksNilSpec.fn H (ds ++ []) = { results := [.lit (.bool true)], args := ds } := by
    rw [List.append_nil]
    simp only [List.length_cons, List.length_nil] at hlen
    first
      | (obtain ⟨d0, rfl⟩ := List.length_eq_one_iff.1 hlen; rfl)
      | (match ds, hlen with | [d0, d1], _ => rfl)
      | (match ds, hlen with | [d0, d1, d2], _ => rfl)
      | (match ds, hlen with | [d0, d1, d2, d3], _ => rfl)
      | (match ds, hlen with | [d0, d1, d2, d3, d4], _ => rfl)
  refine law_calls (P := Tryz.prog) Tryz.laidOut (by kernel_rfl) rfl rfl Tryz.underlying4 hW hsp (law_open (G := G0) (ls := [[.int .i64]]) (d := 20) (gok3 hL) (by kernel_rfl) (fun j t v h k => hval j t v (by simpa using h) (by simpa using k)) hA ?_)
  intro dss h
  obtain ⟨a, e⟩ := args_i h
  rw [e]
  exact lawBlocksNil_fn a four_fn

set_option maxRecDepth 100000
theorem blocksNil_q0 : (Rows.blocksNilRow.wf (OpenSpec.ofChange Rows.blocksNilSpec)) = true := by kernel_rfl
theorem blocksNil_q3 : (Tryz.f10.params.all (Tryz.pinned.checked.prog.readableRec ·)) = true := by kernel_rfl
theorem blocksNil_q4 : (namedTie Tryz.pinned.checked.prog Rows.blocksNilRow.named Rows.blocksNilSpec.vars) = true := by kernel_rfl
theorem blocksNil_q5 : ((Rows.blocksNilRow.stops == [])) = true := by kernel_rfl
theorem blocksNil_q7 : ((Rows.blocksNilRow.knobs == [])) = true := by kernel_rfl
theorem blocksNil_q9 : ((Rows.blocksNilRow.inPlace == Tryz.pinned.checked.prog.inPlace 10)) = true := by kernel_rfl
theorem blocksNil_q10 : ((Rows.blocksNilRow.unfollowed == Tryz.pinned.checked.prog.unfollowed 10)) = true := by kernel_rfl
theorem blocksNil_q11 : ((Rows.blocksNilRow.recurses == Tryz.pinned.checked.prog.recurses 10)) = true := by kernel_rfl
theorem blocksNil_q12 : ((Rows.blocksNilRow.named == Tryz.pinned.checked.prog.varsNamed 10)) = true := by kernel_rfl
theorem blocksNil_q13 : ((Rows.blocksNilRow.maps == (Tryz.f10.params.toList ++ Rows.blocksNilSpec.plain.varTypes Tryz.pinned.checked.prog).any (Tryz.pinned.checked.prog.mapsRec ·))) = true := by kernel_rfl
theorem blocksNil_q14 : ((Rows.blocksNilRow.ifaces == (Tryz.f10.params.toList ++ Rows.blocksNilSpec.plain.varTypes Tryz.pinned.checked.prog).any (Tryz.pinned.checked.prog.ifacesRec ·))) = true := by kernel_rfl
theorem blocksNil_q15 : ((Rows.blocksNilRow.mapsOut == Tryz.pinned.checked.prog.mapsAmong Tryz.f10.resultTypes.toList)) = true := by kernel_rfl
theorem blocksNil_q16 : ((Rows.blocksNilRow.loops == (Tryz.f10.params.toList ++ Rows.blocksNilSpec.plain.varTypes Tryz.pinned.checked.prog).any (Tryz.pinned.checked.prog.loopsFrom ·))) = true := by kernel_rfl
theorem blocksNil_q17 : ((Rows.blocksNilRow.wideKeys == (Tryz.f10.params.toList ++ Rows.blocksNilSpec.plain.varTypes Tryz.pinned.checked.prog ++ Tryz.f10.resultTypes.toList).any (Tryz.pinned.checked.prog.wideKeysFrom ·))) = true := by kernel_rfl
theorem blocksNil_q18 : (Rows.blocksNilSpec.vars.all (Tryz.pinned.checked.prog.varReadable ·)) = true := by kernel_rfl
theorem blocksNil_q19 : (Tryz.f10.resultTypes.all (fun t => Tryz.pinned.checked.prog.readableRec t && decide (t < Tryz.pinned.checked.prog.types.size))) = true := by kernel_rfl
theorem blocksNil_q20 : ((Rows.blocksNilRow.ifacesOut == Tryz.f10.resultTypes.toList.any (Tryz.pinned.checked.prog.ifacesRec ·))) = true := by kernel_rfl
theorem blocksNil_q21 : ((Rows.blocksNilRow.loopsOut == Tryz.f10.resultTypes.toList.any (Tryz.pinned.checked.prog.loopsFrom ·))) = true := by kernel_rfl
theorem blocksNil_q22 : ((Rows.blocksNilRow.plainKeys == Tryz.pinned.checked.prog.plainKeys)) = true := by kernel_rfl
theorem blocksNil_q23 : (Rows.blocksNilRow.shortTexts.isNone) = true := by kernel_rfl
theorem blocksNil_q26 : ((Rows.blocksNilRow.lifted == Tryz.pinned.checked.prog.liftsFinal)) = true := by kernel_rfl
theorem blocksNil_q27 : ((Tryz.pinned.checked.prog.make == some Rows.blocksNilRow.make)) = true := by kernel_rfl
theorem blocksNil_q28 : ((Rows.blocksNilRow.kinds == (if Rows.blocksNilRow.domain.isEmpty then [] else Tryz.f10.params.toList.map fun t => match Tryz.pinned.checked.prog.underlying t with | some (.int k) => some k | _ => none))) = true := by kernel_rfl
theorem blocksNil_q29 : ((Rows.blocksNilRow.pinned == Rows.blocksNilRow.pinnedBy)) = true := by kernel_rfl
theorem blocksNil_q30 : ((Rows.blocksNilRow.veiled == (Tryz.f10.params.toList ++ Rows.blocksNilSpec.plain.varTypes Tryz.pinned.checked.prog ++ Tryz.f10.resultTypes.toList).any (Tryz.pinned.checked.prog.veiledRec ·))) = true := by kernel_rfl
theorem blocksNil_q31 : (Rows.blocksNilRow.veiledFits Tryz.pinned.checked.prog Tryz.f10.params.toList (Tryz.f10.params.toList ++ Rows.blocksNilSpec.plain.varTypes Tryz.pinned.checked.prog ++ Tryz.f10.resultTypes.toList)) = true := by kernel_rfl
theorem blocksNil_closed : joinedFacts Tryz.pinned.checked.prog 10 Tryz.f10 Rows.blocksNilSpec Rows.blocksNilRow = true := by
  delta joinedFacts
  exact (and2 (and2 (and2 (and2 (and2 (and2 (and2 (and2 (and2 (and2 (and2 (and2 (and2 (and2 (and2 (and2 (and2 (and2 (and2 (and2 (and2 (and2 (and2 (and2 (and2 (and2 (and2 (and2 (and2 (and2 (and2 blocksNil_q0 prog_q1) prog_q2) blocksNil_q3) blocksNil_q4) blocksNil_q5) prog_q6) blocksNil_q7) prog_q8) blocksNil_q9) blocksNil_q10) blocksNil_q11) blocksNil_q12) blocksNil_q13) blocksNil_q14) blocksNil_q15) blocksNil_q16) blocksNil_q17) blocksNil_q18) blocksNil_q19) blocksNil_q20) blocksNil_q21) blocksNil_q22) blocksNil_q23) prog_q24) prog_q25) blocksNil_q26) blocksNil_q27) blocksNil_q28) blocksNil_q29) blocksNil_q30) blocksNil_q31)
theorem blocksNil_holds : Rows.BlocksNilSaid :=
  OpenClaim.holds_of_wide 10 Tryz.f10 rfl rfl rfl rfl rfl rfl rfl ⟨rfl, rfl, rfl, rfl, rfl⟩ rfl rfl rfl rfl rfl (by kernel_rfl) Tryz.func10 blocksNil_closed
    (of_decide_eq_true (by kernel_rfl)) (by unfold Func.isWrapper; rw [if_neg (of_decide_eq_false (by kernel_rfl))]; exact ⟨rfl, rfl⟩)
    (fun os started H enc _ => blocksNil_lifted os started H enc)
theorem blocksNil_wf : Rows.blocksNilRow.wfByText (.ofChange Rows.blocksNilSpec) = true := by kernel_rfl
theorem blocksNil_goes : false = Rows.blocksNilRow.goesBy Tryz.pinned.checked.prog := by kernel_rfl
theorem blocksNil_card : Rows.BlocksNilCardSaid :=
  Claim7.holds_tied_plain_at .later [] [.data, .data, .data] true (true, "bd8eb7150ee7de999b3c78ab57184660bd617526138c58911b3c5fa58e98ecaf") true
    blocksNil_holds (fun _ h => by cases h) blocksNil_wf (fun _ h => by cases h) blocksNil_row_tie rfl ⟨rfl, rfl⟩ prog_main rfl
    (fun f fn hf hfn => by
      obtain rfl : f = 10 := Option.some.inj ((show Tryz.prog.funcNamed "bodkin/bodkinlaw41.BlocksNil" = some 10 by kernel_rfl).symm.trans hf) |>.symm
      obtain rfl : fn = Tryz.f10 := (Option.some.inj (Tryz.func10.symm.trans hfn)).symm
      exact ⟨prog_looks, fun j t ht => by
        have hall : (Tryz.f10.params.toList.all fun u => !Tryz.prog.wantsStandIn u) = true := by kernel_rfl
        have hm : t ∈ Tryz.f10.params.toList := by simpa using Array.mem_of_getElem? ht
        have hz := List.all_eq_true.1 hall t hm
        show Tryz.prog.wantsStandIn t = false
        simpa using hz⟩)
    blocksNil_goes

#print axioms blocksNil_card
end Go.Proofs.YtlnimbnihbcnpaaGreatDoor
