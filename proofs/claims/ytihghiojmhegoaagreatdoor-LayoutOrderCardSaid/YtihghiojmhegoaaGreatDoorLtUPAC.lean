/- What the theorem leans on, part 3. -/
import Derived.Test.YtihghiojmhegoaaGreatDoorLtUPAB
set_option linter.defProp false
set_option linter.unusedSimpArgs false
set_option linter.unusedVariables false
set_option maxRecDepth 8000
namespace Go.Proofs.YtihghiojmhegoaaGreatDoor
def Pt {α:Type} (W:(α→Prop)→Prop):Prop:= ∀K,W K → ∃x,K x ∧ ∀K':α→Prop,K' x→W K'
def Pt2 {α β:Type} (W:(α→β→Prop)→Prop):Prop:= ∀K,W K → ∃x y,K x y ∧ ∀K':α→β→Prop,K' x y→W K'
section
variable {α β γ δ:Type}
theorem Pt.at (x:α):Pt fun K:α→Prop=>K x:=fun _ h=>⟨x,h,fun _ h=>h⟩
theorem Pt2.at (x:α) (y:β):Pt2 fun K:α→β→Prop=>K x y:=fun _ h=>⟨x,y,h,fun _ h=>h⟩
theorem Pt.no:Pt fun _:α→Prop=>False:=fun _ h=>h.elim
theorem Pt2.no:Pt2 fun _:α→β→Prop=>False:=fun _ h=>h.elim
theorem Pt.bind {W:(α→Prop)→Prop} (h:Pt W) {V:α→(β→Prop)→Prop} (k : ∀x,Pt (V x)):Pt fun K=>W fun x=>V x K:=fun K hW=>by
  obtain ⟨x,hx,h1⟩:=h _ hW
  obtain ⟨y,hy,h2⟩:=k x _ hx
  exact ⟨y,hy,fun K' hK=>h1 _ (h2 _ hK)⟩
theorem Pt.bind2 {W:(α→Prop)→Prop} (h:Pt W) {V:α→(β→γ→Prop)→Prop} (k : ∀x,Pt2 (V x)):Pt2 fun K=>W fun x=>V x K:=fun K hW=>by
  obtain ⟨x,hx,h1⟩:=h _ hW
  obtain ⟨y,z,hy,h2⟩:=k x _ hx
  exact ⟨y,z,hy,fun K' hK=>h1 _ (h2 _ hK)⟩
theorem Pt2.bind {W:(α→β→Prop)→Prop} (h:Pt2 W) {V:α→β→(γ→δ→Prop)→Prop} (k : ∀x y,Pt2 (V x y)):Pt2 fun K=>W fun x y=>V x y K:=fun K hW=>by
  obtain ⟨x,y,hx,h1⟩:=h _ hW
  obtain ⟨z,t,hz,h2⟩:=k x y _ hx
  exact ⟨z,t,hz,fun K' hK=>h1 _ (h2 _ hK)⟩
theorem Pt.and {W:(α→Prop)→Prop} (p:Prop) (h:Pt W):Pt fun K=>p∧W K:=fun K ⟨hp,hW⟩=>by
  obtain ⟨x,hx,h1⟩:=h _ hW
  exact ⟨x,hx,fun K' hK=>⟨hp,h1 _ hK⟩⟩
theorem Pt2.and {W:(α→β→Prop)→Prop} (p:Prop) (h:Pt2 W):Pt2 fun K=>p∧W K:=fun K ⟨hp,hW⟩=>by
  obtain ⟨x,y,hx,h1⟩:=h _ hW
  exact ⟨x,y,hx,fun K' hK=>⟨hp,h1 _ hK⟩⟩
theorem Pt2.or {W V:(α→β→Prop)→Prop} (h:Pt2 W) (k:Pt2 V):Pt2 fun K=>W K∨V K:=fun K hW=>by
  rcases hW with hW|hW
  · obtain ⟨x,y,hx,h1⟩:=h _ hW
    exact ⟨x,y,hx,fun K' hK=> .inl (h1 _ hK)⟩
  · obtain ⟨x,y,hx,h1⟩:=k _ hW
    exact ⟨x,y,hx,fun K' hK=> .inr (h1 _ hK)⟩
theorem Pt.br (b:Bool) {W V:(α→Prop)→Prop} (h:Pt W) (k:Pt V):Pt fun K=>brW b (W K) (V K):=fun K hW=>by
  cases b with
  | true=>obtain ⟨x,hx,h1⟩:=h _ (hW.1 rfl);exact ⟨x,hx,fun K' hK=>⟨fun _=>h1 _ hK,fun h=>(by cases h)⟩⟩
  | false=>obtain ⟨x,hx,h1⟩:=k _ (hW.2 rfl);exact ⟨x,hx,fun K' hK=>⟨fun h=>(by cases h),fun _=>h1 _ hK⟩⟩
theorem Pt2.br (b:Bool) {W V:(α→β→Prop)→Prop} (h:Pt2 W) (k:Pt2 V):Pt2 fun K=>brW b (W K) (V K):=fun K hW=>by
  cases b with
  | true=>obtain ⟨x,y,hx,h1⟩:=h _ (hW.1 rfl);exact ⟨x,y,hx,fun K' hK=>⟨fun _=>h1 _ hK,fun h=>(by cases h)⟩⟩
  | false=>obtain ⟨x,y,hx,h1⟩:=k _ (hW.2 rfl);exact ⟨x,y,hx,fun K' hK=>⟨fun h=>(by cases h),fun _=>h1 _ hK⟩⟩
theorem Pt.opt (o:Option α):Pt fun K:α→Prop=>optW o K:=by
  cases o with
  | none=>exact Pt.no
  | some x=>exact Pt.at x
theorem Pt.elem (k:Nat) (es:List D) (i j:Nat) (x:Nat × Bool):Pt fun K=>elemW k es i j x K:=fun K h=>by
  obtain ⟨e,y,h1,h2,h3⟩:=elemW_sound h
  exact ⟨_,h3,fun K' hK=>⟨h.1,fun e' he=>by rw [h1] at he;cases he;rw [h2];exact hK⟩⟩
theorem Pt.cell (b:Blk):Pt fun K:List V→Prop=>cellW b K:=by
  cases b<;>first|exact Pt.at _|exact Pt.no
theorem Pt.load (P:Program) (t:Nat) (a:V) (σ:Sig):Pt fun K=>loadV P t a σ K:=by
  refine (Pt.opt (ldT P t)).bind fun x =>?_
  split
  · exact Pt.elem _ _ _ _ _
  · exact (Pt.opt _).bind fun b=>(Pt.cell b).bind fun cs=>Pt.opt _
  · refine (Pt.opt _).bind fun b =>?_
    cases b with
    | row k es ty=>exact Pt.and _ (Pt.elem _ _ _ _ _)
    | _=>exact Pt.no
  · exact Pt.no
theorem Pt.pick (c a b:V):Pt fun K=>pickW c a b K:=by
  unfold pickW
  split
  · exact Pt.br _ (Pt.at _) (Pt.at _)
  · exact Pt.no
theorem Pt2.next (x:V) (σ:Sig):Pt2 fun K=>nextW x σ K:=by
  unfold nextW
  split
  · refine (Pt.opt _).bind2 fun b =>?_
    cases b with
    | iter s pos=>exact Pt2.br _ (Pt2.at _ _) (Pt2.at _ _)
    | _=>exact Pt2.no
  · exact Pt2.no
theorem Pt2.call (P:Program) (G:Gl) (f:Nat) (args:List V) (σ:Sig) (id:Nat):Pt2 fun K=>CallW P G f args σ id K:=fun K ⟨v,σ',h,k⟩=>⟨v,σ',h,fun K' hK=>⟨v,σ',hK,k⟩⟩
theorem Pt2.dcall (P:Program) (G:Gl) (f:Nat) (args:List V) (σ:Sig) (id:Nat):Pt2 fun K=>DCallW P G f args σ id K:=fun K ⟨v,σ',h,k⟩=>⟨v,σ',h,fun K' hK=>⟨v,σ',hK,k⟩⟩
theorem Pt2.yield (P:Program) (G:Gl) (f:Nat) (args:List V) (σ:Sig) (id:Nat):Pt2 fun K=>YieldW P G f args σ id K:=fun K ⟨v,σ',h,k⟩=>⟨v,σ',h,fun K' hK=>⟨v,σ',hK,k⟩⟩
theorem Pt2.res (op:Op) (r:PVS):Pt2 fun K=>resQ op r K:=by
  cases r with
  | none=>exact Pt2.no
  | some x=>exact Pt2.and _ (Pt2.at _ _)
theorem Pt2.callee (v:V) {K:Nat→List V→(α→β→Prop)→Prop} {Y:Nat→(α→β→Prop)→Prop} {B:Nat→List V→(α→β→Prop)→Prop} (h : ∀k l,Pt2 (K k l)) (hy : ∀i,Pt2 (Y i)) (hb : ∀k l,Pt2 (B k l)) :
    Pt2 fun X=>calleeW v (fun k l=>K k l X) (fun i=>Y i X) fun k l=>B k l X:=by
  unfold calleeW
  split
  · exact h _ _
  · exact h _ _
  · exact hy _
  · exact hb _ _
  · exact Pt2.no
variable {P:Program} {G:Gl}
theorem Pt2.bs (r r2:PVS) (σ:Sig):Pt2 fun K=>bsW r r2 σ K:=by
  unfold bsW
  split
  · exact Pt2.and _ (Pt2.at _ _)
  · split
    · exact Pt2.and _ (Pt2.at _ _)
    · exact Pt2.no
theorem Pt2.step (op:Op) (g:Operand→V) (σ:Sig) (id:Nat):Pt2 fun K=>stepW P G op g σ id K:=by
  unfold stepW
  split
  · exact (Pt.pick _ _ _).bind2 fun v=>Pt2.at v σ
  · exact (Pt.load _ _ _ _).bind2 fun v=>Pt2.at v σ
  · split
    · exact Pt2.next _ _
    · exact Pt2.no
  · split
    · exact Pt2.callee _ (fun _ _=>Pt2.call _ _ _ _ _ _) (fun _=>Pt2.yield _ _ _ _ _ _) fun _ _=>Pt2.call _ _ _ _ _ _
    · exact Pt2.res _ _
    · exact Pt2.no
  · exact Pt2.bs _ _ _
  · exact Pt2.res _ _
theorem Pt2.quiet (op:Op) (g:Operand→V) (σ:Sig) (id:Nat):Pt2 fun K=>quietW P G op g σ id K:=by
  unfold quietW
  split
  · exact (Pt.pick _ _ _).bind2 fun v=>Pt2.at v []
  · exact (Pt.load _ _ _ _).bind2 fun v=>Pt2.at v []
  · split
    · exact Pt2.callee _ (fun _ _=>Pt2.dcall _ _ _ _ _ _) (fun _=>Pt2.no) fun _ _=>Pt2.dcall _ _ _ _ _ _
    · exact Pt2.res _ _
    · exact Pt2.no
  · exact Pt2.res _ _
theorem Pt2.guard (ops:Array Oper) (o:Oper) (e:Env) {Y N:Env→(α→β→Prop)→Prop} (h : ∀e,Pt2 (Y e)) (k : ∀e,Pt2 (N e)):Pt2 fun K=>guardW ops o e (fun e=>Y e K) fun e=>N e K:=by
  unfold guardW
  split
  · exact h _
  · refine (Pt.opt _).bind2 fun d =>?_
    unfold grdW
    split
    · refine Pt2.br _ ?_ ?_<;>split<;>first|exact h _|exact k _
    · exact k _
    · exact Pt2.no
theorem Pt2.ops (ops:Array Oper) (base:Nat) : ∀(l:List Oper) (i:Nat) (e:Env) (σ:Sig),Pt2 fun K=>opsW P G ops base i l e σ K
  | [],_,e,σ=>Pt2.at e σ
  | o::r,i,e,σ=>Pt2.guard _ _ _ (fun e=>(Pt2.step _ _ _ _).bind fun v σ'=>Pt2.ops ops base r _ _ _) fun e=>Pt2.ops ops base r _ _ _
theorem Pt2.sb (σk σ:Sig) {W:(α→β→Prop)→Prop} (h:Pt2 W):Pt2 fun K=>sbW σk σ (W K):=by
  cases σk with
  | nil=>exact h
  | cons x r=>exact Pt2.and _ h
theorem Pt2.opsL (lo:List Nat) (σk:Sig) (ops:Array Oper) (base:Nat) : ∀(l:List Oper) (i:Nat) (e:Env) (σ acc:Sig),Pt2 fun K=>opsL P G lo σk ops base i l e σ acc K
  | [],_,e,σ,acc=>Pt2.at e (σ++acc)
  | o::r,i,e,σ,acc=>Pt2.guard _ _ _ (fun e=>by
      split
      · exact (Pt2.step _ _ _ _).bind fun v σ'=>Pt2.sb _ _ (Pt2.opsL lo σk ops base r _ _ _ _)
      · split
        · unfold vcallD
          split
          · split
            · exact Pt2.callee _ (fun _ _=>Pt2.or ((Pt2.dcall _ _ _ _ _ _).bind fun v new=>Pt2.opsL lo σk ops base r _ _ _ _) (Pt2.and _ ((Pt2.call _ _ _ _ _ _).bind fun v σ'=>Pt2.sb _ _ (Pt2.opsL lo σk ops base r _ _ _ _))))
                (fun _=>Pt2.and _ ((Pt2.yield _ _ _ _ _ _).bind fun v σ'=>Pt2.sb _ _ (Pt2.opsL lo σk ops base r _ _ _ _)))
                fun _ _=>Pt2.or ((Pt2.dcall _ _ _ _ _ _).bind fun v new=>Pt2.opsL lo σk ops base r _ _ _ _) (Pt2.and _ ((Pt2.call _ _ _ _ _ _).bind fun v σ'=>Pt2.sb _ _ (Pt2.opsL lo σk ops base r _ _ _ _)))
            · exact Pt2.no
          · exact Pt2.no
        · split
          · exact (Pt2.quiet _ _ _ _).bind fun v new=>Pt2.and _ (Pt2.opsL lo σk ops base r _ _ _ _)
          · exact (Pt2.quiet _ _ _ _).bind fun v new=>Pt2.opsL lo σk ops base r _ _ _ _) fun e=>Pt2.opsL lo σk ops base r _ _ _ _
theorem Pt.reg (lv:List Nat) (ops:Array Oper) (draw:Bool) (st:St):Pt fun K=>regW P G lv ops draw K st:=by
  intro K h
  cases draw with
  | true=>
    simp only [regW,if_true] at h
    obtain ⟨lo,σk,h1,h2,h3,h4⟩:=h
    obtain ⟨e,σ,hK,hall⟩:=Pt2.opsL lo σk ops st.nx ops.toList 0 st.env st.sg [] (fun e σ=>K ⟨Env.keep lv e,σ,st.nx+4*ops.size⟩) h4
    exact ⟨_,hK,fun K' hK'=>by simp only [regW,if_true];exact ⟨lo,σk,h1,h2,h3,hall (fun e σ=>K' ⟨Env.keep lv e,σ,st.nx+4*ops.size⟩) hK'⟩⟩
  | false=>
    simp only [regW,Bool.false_eq_true,if_false] at h
    obtain ⟨e,σ,hK,hall⟩:=Pt2.ops ops st.nx ops.toList 0 st.env st.sg (fun e σ=>K ⟨Env.keep lv e,σ,st.nx+4*ops.size⟩) h
    exact ⟨_,hK,fun K' hK'=>by simp only [regW,Bool.false_eq_true,if_false];exact hall (fun e σ=>K' ⟨Env.keep lv e,σ,st.nx+4*ops.size⟩) hK'⟩
theorem Pt.gh (G:Gl) (m:Nat) {W:St→(α→Prop)→Prop} (h : ∀st,Pt (W st)) (st:St):Pt fun K=>GhW G m (fun st=>W st K) st:=fun K ⟨s,h1,h2⟩=>by
  obtain ⟨x,hx,hall⟩:=h s K h2
  exact ⟨x,hx,fun K' hK=>⟨s,h1,hall K' hK⟩⟩
end
def LoopE (G:Gl) (m:Nat) (B:List Nat→St→(Exit→St→Prop)→Prop) (st:St) (Q:Exit→St→Prop) (_u:Tag B:= .mk) (_v:Tag Q:= .mk) (_h:True:=trivial):Prop:=
  ∃(α:Type) (S:α→St) (pre:α→Prop) (mu:α→Nat) (x0:α) (lv:List Nat),GhW G m (fun st'=>st'=S x0) st∧pre x0 ∧ ∀x,pre x→B lv (S x) (seqK (fun st=>AgW G m S pre mu x st) Q)
def codeE (P:Program) (G:Gl) (n m:Nat):Code→List Nat→St→(Exit→St→Prop)→Prop
  | .skip,_,st,Q=>Q .normal st
  | .region _ ops draw,lv,st,Q=>GhW G m (regW P G lv ops draw fun st'=>Q .normal st') st
  | .seq a b,lv,st,Q=>codeE P G n m a lv st (seqK (fun st'=>codeE P G n m b lv st' Q) Q)
  | .cond c a b,lv,st,Q=>condW (evF G st.env.get c) (codeE P G n m a lv st Q) (codeE P G n m b lv st Q)
  | .block id c,lv,st,Q=>codeE P G n m c lv st (blockK id Q)
  | .loop c,_,st,Q=>LoopE G m (fun lv st Q=>codeE P G n m c lv st Q) st Q
  | .exit id,_,st,Q=>Q (.exit id) st
  | .ret,_,st,Q=>Q .ret st
  | .label _,_,st,Q=>Q .normal st
  | .scope c,lv,st,Q=>codeE P G n m c lv st (scopeK Q)
  | _,_,_,_=>False
section
variable {P:Program} {G:Gl} {n m:Nat}
def LoopI (P:Program) (G:Gl) (n m:Nat) (c:Code) (st:St) (Q:Exit→St→Prop):Prop:= ∀fr,(fr=none∨noR c=true) → ∀(C:Ctx) a w,C.n=n→C.nx=m→Rel C G st a w →
  ∀(b:Frame) (kk:List Item) (cs:List Frame),b.roundOf=(Fr fr).round→(Fr fr).fn b.fn→(Fr fr).room (cs.length+1+0) →
    ∃e a' w',(∃st',Q e st'∧Rel C G st' a' w')∧ArrivesIn (Machine.fenced P (Fr fr)) P (lone (b.atR a (.code c :: .inLoop c::kk)) cs w) b kk cs e a' w'
theorem LoopI.loop {c:Code} {st:St} {Q:Exit→St→Prop} (h:LoopI P G n m c st Q):LoopW P G n m c st Q:=by
  intro fr hfr C a w hn hm hrel b kk cs hro hb hroom
  obtain ⟨e,a',w',hq,harr⟩:=h fr hfr C a w hn hm hrel b kk cs hro hb hroom
  exact ⟨e,a',w',hq,.of_steps (.one (fenced_calm hb hroom rfl) stepR_loop) harr⟩
theorem LoopI.via {c:Code} {st:St} {Q:Exit→St→Prop} (h:GhW G m (fun s=>LoopI P G n m c s Q) st):LoopI P G n m c st Q:=by
  obtain ⟨s,h1,h2⟩:=h
  exact fun fr hfr C a w hn hm hr=>h2 fr hfr C a w hn hm (h1 C a w hm hr)
theorem LoopI.round (ho:P.follows .mixedOrders=true) {c:Code} (hok:codeOk n c=true) {lv:List Nat} {st:St} {Q:Exit→St→Prop} (h:codeW P G n m lv c st (seqK (fun s=>LoopI P G n m c s Q) Q)):LoopI P G n m c st Q:=by
  intro fr hfr C a w hn hm hr b kk cs hro hb hroom
  obtain ⟨e,a',w',⟨st',hq,hr2⟩,harr⟩:=codeW_sound ho c st _ hok h fr hfr C a w hn hm hr b (.inLoop c::kk) cs hro hb hroom
  cases e with
  | normal=>
    obtain ⟨e2,a2,w2,hq2,harr2⟩:=hq fr hfr C a' w' hn hm hr2 b kk cs hro hb hroom
    exact ⟨e2,a2,w2,hq2,.of_steps (StepsIn.trans harr (.one (fenced_calm hb hroom rfl) stepR_inLoop)) harr2⟩
  | exit id=>exact ⟨_,a',w',⟨st',hq,hr2⟩,.pass (x:= .inLoop c) rfl (fun _ _=> .inl (by simp)) harr⟩
  | goto l=>exact ⟨_,a',w',⟨st',hq,hr2⟩,.pass (x:= .inLoop c) rfl (fun _ _=> .inl (by simp)) harr⟩
  | ret=>exact ⟨_,a',w',⟨st',hq,hr2⟩,.pass (x:= .inLoop c) rfl (fun _ _=> .inl (by simp)) harr⟩
  | panic ch=>exact ⟨_,a',w',⟨st',hq,hr2⟩,.pass (x:= .inLoop c) rfl (fun _ _=> .inl (by simp)) harr⟩
  | outgrown=>exact ⟨_,a',w',⟨st',hq,hr2⟩,.pass (x:= .inLoop c) rfl (fun _ _=> .inl (by simp)) harr⟩
theorem seqK_mono {k k':St→Prop} {Q Q':Exit→St→Prop} (hk : ∀s,k s→k' s) (hq : ∀e s,Q e s→Q' e s) : ∀e s,seqK k Q e s→seqK k' Q' e s:=by
  intro e s h
  cases e<;>first|exact hk _ h|exact hq _ _ h
theorem blockK_mono {id:Nat} {Q Q':Exit→St→Prop} (hq : ∀e s,Q e s→Q' e s) : ∀e s,blockK id Q e s→blockK id Q' e s:=by
  intro e s h
  cases e with
  | exit i=>
    simp only [blockK] at h ⊢
    split
    · rename_i hi;rw [if_pos hi] at h;exact hq _ _ h
    · rename_i hi;rw [if_neg hi] at h;exact hq _ _ h
  | _=>exact hq _ _ h
theorem scopeK_mono {Q Q':Exit→St→Prop} (hq : ∀e s,Q e s→Q' e s) : ∀e s,scopeK Q e s→scopeK Q' e s:=by
  intro e s h
  cases e<;>first|exact h.elim|exact hq _ _ h
theorem codeE_mono : ∀(c:Code) {lv:List Nat} {st:St} {Q Q':Exit→St→Prop},(∀e s,Q e s→Q' e s)→codeE P G n m c lv st Q→codeE P G n m c lv st Q':=by
  intro c
  induction c with
  | skip=>intro lv st Q Q' hq h;exact hq _ _ h
  | exit id=>intro lv st Q Q' hq h;exact hq _ _ h
  | ret=>intro lv st Q Q' hq h;exact hq _ _ h
  | label l=>intro lv st Q Q' hq h;exact hq _ _ h
  | region id ops draw=>
    intro lv st Q Q' hq h
    obtain ⟨x,hx,hall⟩:=Pt.gh G m (fun s=>Pt.reg (P:=P) (G:=G) lv ops draw s) st _ h
    exact hall _ (hq _ _ hx)
  | seq a b iha ihb=>intro lv st Q Q' hq h;exact iha (seqK_mono (fun s hs=>ihb hq hs) hq) h
  | cond c a b iha ihb=>
    intro lv st Q Q' hq h
    simp only [codeE,condW] at h ⊢
    unfold boolW at h ⊢
    split
    · rename_i t hb
      rw [hb] at h
      exact ⟨fun e=>iha hq (h.1 e),fun e=>ihb hq (h.2 e)⟩
    · rename_i hb
      split at h
      · rename_i t hb';exact (hb t hb').elim
      · exact h.elim
  | block id c ih=>intro lv st Q Q' hq h;exact ih (blockK_mono hq) h
  | scope c ih=>intro lv st Q Q' hq h;exact ih (scopeK_mono hq) h
  | loop c ih=>
    intro lv st Q Q' hq h
    obtain ⟨α,S,pre,mu,x0,lv',h1,h2,h3⟩:=h
    exact ⟨α,S,pre,mu,x0,lv',h1,h2,fun x hx=>ih (seqK_mono (fun _ h=>h) hq) (h3 x hx)⟩
  | _=>intro lv st Q Q' hq h;exact h.elim
theorem codeE_ex (ho:P.follows .mixedOrders=true) {ρ:Type} : ∀(c:Code) {lv:List Nat} {st:St} {Q:ρ→Exit→St→Prop},codeOk n c=true→codeE P G n m c lv st (fun e s=> ∃r,Q r e s) → ∃r,codeW P G n m lv c st (Q r):=by
  intro c
  induction c with
  | skip=>intro lv st Q _ h;exact h
  | exit id=>intro lv st Q _ h;exact h
  | ret=>intro lv st Q _ h;exact h
  | label l=>intro lv st Q _ h;exact h
  | region id ops draw=>
    intro lv st Q _ h
    obtain ⟨x,⟨r,hx⟩,hall⟩:=Pt.gh G m (fun s=>Pt.reg (P:=P) (G:=G) lv ops draw s) st (fun st'=> ∃r,Q r .normal st') h
    exact ⟨r,hall (fun st'=>Q r .normal st') hx⟩
  | seq a b iha ihb=>
    intro lv st Q hok h
    simp only [codeOk,Bool.and_eq_true] at hok
    refine iha (Q:=fun r=>seqK (fun st'=>codeW P G n m lv b st' (Q r)) (Q r)) hok.1 (codeE_mono a ?_ h)
    intro e s hs
    cases e<;>first|exact ihb hok.2 hs|exact hs
  | cond c a b iha ihb=>
    intro lv st Q hok h
    simp only [codeOk,Bool.and_eq_true] at hok
    simp only [codeE,condW] at h
    simp only [codeW,condW]
    unfold boolW at h
    split at h
    · rename_i t hb
      rw [hb]
      cases t with
      | true=>obtain ⟨r,hr⟩:=iha hok.1 (h.1 rfl);exact ⟨r,⟨fun _=>hr,fun e=>by cases e⟩⟩
      | false=>obtain ⟨r,hr⟩:=ihb hok.2 (h.2 rfl);exact ⟨r,⟨fun e=>(by cases e),fun _=>hr⟩⟩
    · exact h.elim
  | block id c ih=>
    intro lv st Q hok h
    refine ih (Q:=fun r=>blockK id (Q r)) hok (codeE_mono c ?_ h)
    intro e s hs
    cases e with
    | exit i=>
      simp only [blockK] at hs ⊢
      split
      · rename_i hi;rw [if_pos hi] at hs;exact hs
      · rename_i hi;rw [if_neg hi] at hs;exact hs
    | _=>exact hs
  | scope c ih=>
    intro lv st Q hok h
    refine ih (Q:=fun r=>scopeK (Q r)) hok (codeE_mono c ?_ h)
    intro e s hs
    cases e<;>first|exact hs.elim|exact hs
  | loop c ih=>
    intro lv st Q hok h
    have hok:codeOk n c=true:=hok
    obtain ⟨α,S,pre,mu,x0,lv',h1,h2,h3⟩:=h
    have key : ∀k x,mu x=k→pre x → ∃r,LoopI P G n m c (S x) (Q r):=by
      intro k
      induction k using Nat.strongRecOn with
      | _ k ihk=>
        intro x hk hx
        obtain ⟨r,hr⟩:=ih (Q:=fun r=>seqK (fun s=>LoopI P G n m c s (Q r)) (Q r)) hok (codeE_mono c (fun e s hs=>by
          cases e with
          | normal=>
            obtain ⟨s',hle,j,hlt,y,hy,rfl,hpy⟩:=hs
            obtain ⟨r,hr⟩:=ihk j (by omega) y hy hpy
            exact ⟨r,LoopI.via ⟨_,hle,hr⟩⟩
          | _=>exact hs) (h3 x hx))
        exact ⟨r,LoopI.round ho hok hr⟩
    obtain ⟨r,hr⟩:=key _ x0 rfl h2
    obtain ⟨s,hle,rfl⟩:=h1
    exact ⟨r,LoopI.loop (LoopI.via ⟨_,hle,hr⟩)⟩
  | _=>intro lv st Q _ h;exact h.elim
def DoneE (P:Program) (G:Gl) (m:Nat) (rs:List ResultVar) {ρ:Type} (R:ρ→Prop) (r:ρ→V) (σ':ρ→Sig) (st:St) (_u:Tag R:= .mk) (_v:Tag r:= .mk) (_w:Tag σ':= .mk) (_h:True:=trivial):Prop:= ∃x,R x∧DoneW P G m rs (r x) (σ' x) st
theorem DoneE.is {rs:List ResultVar} {ρ:Type} {R:ρ→Prop} {r:ρ→V} {σ':ρ→Sig} {st:St} (x:ρ) (hx:R x) (h:DoneW P G m rs (r x) (σ' x) st):DoneE P G m rs R r σ' st:=⟨x,hx,h⟩
theorem OFn.ex (ho:P.follows .mixedOrders=true) {f:Nat} {fn:Func} {c:Code} {rs:List ResultVar} (lv:List Nat) (hf:P.funcs[f]? = some fn) (hb:fn.body=some c) (hrs:fn.results=rs.toArray) (hn:fn.ntmps=n)
    {args:List V} {σ:Sig} {ρ:Type} {R:ρ→Prop} {r:ρ→V} {σ':ρ→Sig} (h:codeE P G n m c lv ⟨argE 0 args,σ,m⟩ (retK (DoneE P G m rs R r σ'))) (hok:codeOk n c=true) (hlen:args.length≤n) : ∃x,R x∧OFn P G f args σ m (r x) (σ' x):=by
  obtain ⟨⟨x,hx⟩,hr⟩:=codeE_ex ho (ρ :={ x // R x }) (Q:=fun x=>retK (DoneW P G m rs (r x.1) (σ' x.1))) c hok (codeE_mono c (fun e s hs=>by
    cases e<;>first|exact hs.elim|exact (match hs with|⟨x,h1,h2⟩=>⟨⟨x,h1⟩,h2⟩)) h)
  exact ⟨x,hx,OFn.of_code ho lv hf hb hrs hn hok hlen hr⟩
def headOk:Code→Bool
  | .region _ _ _=>true
  | .seq a _=>headOk a
  | .block _ c=>headOk c
  | .loop _=>true
  | .scope c=>headOk c
  | _=>false
theorem codeE_via {st st':St} (hle:StLe G m st st') : ∀(c:Code) {lv:List Nat} {Q:Exit→St→Prop},headOk c=true→codeE P G n m c lv st' Q→codeE P G n m c lv st Q:=by
  intro c
  induction c with
  | region id ops draw=>intro lv Q _ h;exact GhW.via hle h
  | seq a b iha _=>intro lv Q hc h;exact iha hc h
  | block id c ih=>intro lv Q hc h;exact ih hc h
  | scope c ih=>intro lv Q hc h;exact ih hc h
  | loop c _=>
    intro lv Q _ h
    obtain ⟨α,S,pre,mu,x0,lv',h1,h2,h3⟩:=h
    exact ⟨α,S,pre,mu,x0,lv',GhW.via hle h1,h2,h3⟩
  | _=>intro lv Q hc h;cases hc
def ExW (G:Gl) (m:Nat) {β:Type} (T:β→St) (post:β→Prop) (st:St) (_u:Tag T:= .mk) (_v:Tag post:= .mk) (_h:True:=trivial):Prop:=GhW G m (fun st'=> ∃y,st'=T y∧post y) st
theorem ExW.go {β:Type} {T:β→St} {post:β→Prop} {st:St} (y:β) (ks:List Nat) (he:st.norm m ks=T y) (hp:post y):ExW G m T post st:=GhW.go ks he ⟨y,rfl,hp⟩
theorem ExW.frz {β:Type} {T:β→St} {post:β→Prop} {st:St} (id:Nat) (h:ExW G m T post (st.frz id)):ExW G m T post st:=GhW.frz id h
theorem ExW.use {β:Type} {T:β→St} {post:β→Prop} {st:St} {c:Code} {lv:List Nat} {Q:Exit→St→Prop} (hc:headOk c=true) (h:ExW G m T post st) (hq : ∀y,post y→codeE P G n m c lv (T y) Q):codeE P G n m c lv st Q:=by
  obtain ⟨st',hle,y,rfl,hy⟩:=h
  exact codeE_via hle c hc (hq y hy)
theorem vLX {c rest:Code} {st:St} {Q Q':Exit→St→Prop} {α β:Type} {lv':List Nat} (lv:List Nat) (ex:Nat) (S:α→St) (pre:α→Prop) (mu:α→Nat) (x0:α) (T:β→St) (post:β→Prop) (h0:GhW G m (fun st'=>st'=S x0) st) (hp:pre x0)
    (hr : ∀x,pre x→codeE P G n m c lv (S x) (seqK (fun st=>AgW G m S pre mu x st) (blockK ex (seqK (fun st=>ExW G m T post st) Q)))) (hq : ∀y,post y→codeE P G n m rest lv' (T y) Q')
    (hQ : ∀st,codeE P G n m rest lv' st Q'→Q (.exit ex) st) (hd:headOk rest=true):LoopE G m (fun lv st Q=>codeE P G n m c lv st Q) st Q:=by
  refine ⟨α,S,pre,mu,x0,lv,h0,hp,fun x hx=>codeE_mono c ?_ (hr x hx)⟩
  intro e s h
  cases e with
  | normal=>exact h
  | exit i=>
    have h2:blockK ex (seqK (fun st=>ExW G m T post st) Q) (.exit i) s:=h
    show Q (.exit i) s
    clear h
    simp only [blockK] at h2
    split at h2
    · rename_i hi;subst hi;exact hQ s (ExW.use hd h2 hq)
    · exact h2
  | _=>exact h
def HoldW (K:St→Prop) (st:St) (_u:Tag K:= .mk) (_h:True:=trivial):Prop:=K st
theorem vH {K:St→Prop} {st:St} (h:K st):HoldW K st:=h
theorem vSh {a b:Code} {lv:List Nat} {st:St} {Q:Exit→St→Prop} (h:codeE P G n m a lv st (seqK (fun st'=>HoldW (fun st'=>codeE P G n m b lv st' Q) st') Q)):codeE P G n m (.seq a b) lv st Q:=h
theorem vBl {id:Nat} {c:Code} {lv:List Nat} {st:St} {Q:Exit→St→Prop} (h:codeE P G n m c lv st (blockK id Q)):codeE P G n m (.block id c) lv st Q:=h
theorem vSq {a b:Code} {lv:List Nat} {st:St} {Q:Exit→St→Prop} {β:Type} (T:β→St) (post:β→Prop) (h:codeE P G n m a lv st (seqK (fun st=>ExW G m T post st) Q)) (hq : ∀y,post y→codeE P G n m b lv (T y) Q) (hd:headOk b=true:=by rfl):codeE P G n m (.seq a b) lv st Q:=
  codeE_mono a (seqK_mono (fun _ h=>ExW.use hd h hq) fun _ _ h=>h) h
end
def RR :=@And.intro _ _ @ndW_true <| @And.intro _ _ @brM_true <| @And.intro _ _ @brM_false <| @And.intro _ _ @dstL_zero <| @And.intro _ _ @dstL_succ <| @And.intro _ _ @brW_true <| @And.intro _ _ @brW_false <| @And.intro _ _ @optW_some <| @And.intro _ _ @elW_zero <| @And.intro _ _ @elW_succ <| @And.intro _ _ @elW_map <| @And.intro _ _ @boolW_lit <| @And.intro _ _ @grdW_lit <| @And.intro _ _ @grdW_skip <| @And.intro _ _ @condW_lit <| @And.intro _ _ @pickW_lit <| @And.intro _ _ @calleeW_fn <| @And.intro _ _ @calleeW_d <| @And.intro _ _ @calleeW_bf <| @And.intro _ _ @cellW_cell <| @And.intro _ _ @rowW_row <| @And.intro _ _ @iterW_iter <| @And.intro _ _ @seqK_normal <| @And.intro _ _ @seqK_exit <| @And.intro _ _ @seqK_ret <| @And.intro _ _ @blockK_normal <| @And.intro _ _ @blockK_ret <| @And.intro _ _ @blockK_exit <| @And.intro _ _ @scopeK_normal <| @And.intro _ _ @scopeK_exit <| @And.intro _ _ @scopeK_ret <| @And.intro _ _ @retK_normal <| @And.intro _ _ @retK_ret <| @And.intro _ _ @loadV_pd <| @And.intro _ _ @loadV_po <| @And.intro _ _ @loadV_pe <| @And.intro _ _ @elemW.eq_1 <| @And.intro _ _ @evF_tmp <| @And.intro _ _ @evF_const <| @And.intro _ _ @evF_func <| @And.intro _ _ @guard_none <| @And.intro _ _ @guard_true <| @And.intro _ _ @guard_false <| @And.intro _ _ @codeW.eq_1 <| @And.intro _ _ @codeW.eq_2 <| @And.intro _ _ @codeW.eq_3 <| @And.intro _ _ @codeW.eq_4 <| @And.intro _ _ @codeW.eq_5 <| @And.intro _ _ @codeW.eq_6 <| @And.intro _ _ @codeW.eq_7 <| @And.intro _ _ @codeW.eq_8 <| @And.intro _ _ @codeW.eq_9 <| @And.intro _ _ @codeW.eq_10 <| @And.intro _ _ @codeE.eq_1 <| @And.intro _ _ @codeE.eq_2 <| @And.intro _ _ @codeE.eq_3 <| @And.intro _ _ @codeE.eq_4 <| @And.intro _ _ @codeE.eq_5 <| @And.intro _ _ @codeE.eq_6 <| @And.intro _ _ @codeE.eq_7 <| @And.intro _ _ @codeE.eq_8 <| @And.intro _ _ @codeE.eq_9 <| @And.intro _ _ @codeE.eq_10 <| @And.intro _ _ @regW_false <| @And.intro _ _ @opsW_nil <| @And.intro _ _ @opsW_cons <| @And.intro _ _ @opsD_nil <| @And.intro _ _ @opsD_cons <| @And.intro _ _ @pvW_some <| @And.intro _ _ @pvsW_some @vcallD_call
def W6 :=@And.intro _ _ @w64 <| @And.intro _ _ @wu64 <| @And.intro _ _ @half64 @half64'
theorem w32 (n:Int) (h1 : -2147483648≤n) (h2:n≤2147483647):IntKind.i32.wrap n=n:=by
  rw [IntKind.wrap_i32];omega
theorem wu8 (n:Int) (h1:0≤n) (h2:n≤255):IntKind.u8.wrap n=n:=by
  rw [IntKind.wrap_u8];omega
theorem tdivE (a b:Int) (h:0≤a):a.tdiv b=a / b:=Int.tdiv_eq_ediv_of_nonneg h
theorem tmodE (a b:Int) (h:0≤a):a.tmod b=a % b:=Int.tmod_eq_emod_of_nonneg h
def W3 :=@And.intro _ _ @W6 <| @And.intro _ _ @w32 <| @And.intro _ _ @wu8 <| @And.intro _ _ @tdivE @tmodE
instance BrC.cond {a b c:Bool} {p q r p' q' r':Prop} [h:BrC a p p'] [k:BrC b q q'] [l:BrC c r r']:BrC (cond a b c) ((p∧q)∨(p'∧r)) (¬((p∧q)∨(p'∧r))):=BrC.mk' (by rw [←h.says,←h.nots,←k.says,←l.says];cases a<;>simp)
theorem vR {p q:Prop} (h:q) (e:p=q:=by simp -implicitDefEqProofs -dsimp only [push_cast,↓RR,↓reduceIte,Nat.reduceMul,Nat.reduceAdd,Nat.reduceSub,Nat.reduceEqDiff,Nat.reduceBeqDiff,Nat.reduceLeDiff,Nat.reduceLT,reduceCtorEq,Int.reduceToNat];exact rfl):p:=e▸h
theorem v6 {p q:Prop} (h:q) (e:p=q:=by simp -implicitDefEqProofs -dsimp (disch:=omega) only [W6];exact rfl):p:=e▸h
theorem v3 {p q:Prop} (h:q) (e:p=q:=by simp -implicitDefEqProofs -dsimp (disch:=omega) only [W3];exact rfl):p:=e▸h
theorem vD {P:Program} {G:Gl} {m:Nat} {lv:List Nat} {ops:Array Oper} {K:St→Prop} {st:St} (h:opsD P G ops st.nx 0 ops.toList st.env st.sg [] fun e σ=>endW K ⟨Env.keep lv e,σ,st.nx+4*ops.size⟩) (hd:drawOk [] ops=true:=by decide +kernel):GhW G m (regW P G lv ops true K) st:=GhW.dr hd h
theorem vG {G:Gl} {m:Nat} {K:St→Prop} {st:St} (h:K st):GhW G m K st:=GhW.now h
theorem vE {K:St→Prop} {st:St} (h:K st):endW K st:=h
theorem vN {p q:Prop} (h2:q) (h1:p:=by first|omega|(simp [allFit,Fit,appFits,V.cellOk,Value.oneCell',D.cells,isByte];done)|(simp [allFit,Fit,appFits,V.cellOk,Value.oneCell',D.cells,isByte];omega)):ndW p q:=⟨h1,h2⟩
theorem vB {b:Bool} {p p':Prop} [h:BrC b p p'] {q r:Prop} (h1:p→q) (h2:p'→r):brW b q r:=brW.of h1 h2
theorem vM {b:Bool} {p p':Prop} [h:BrC b p p'] {q r:Prop} (h1:p→q) (h2:p'→r):brM b q r:=brM.of h1 h2
section
variable {P:Program} {G:Gl}
theorem vC {f:Nat} {args:List V} {σ:Sig} {id:Nat} {K:V→Sig→Prop} {r:V} (h:OFn P G f args [] 0 r []) (hK:K r σ) (he:entT P f=true:=by kernel_rfl) (ha:args.map (V.sel (fw []))=args:=by with_unfolding_all rfl) (hr:r.sel (bk [] id)=r:=by with_unfolding_all rfl):CallW P G f args σ id K:=CallW.d h he ha hr hK
theorem vQ {lo:List Nat} {ops:Array Oper} {i f:Nat} {args:List V} {σ acc:Sig} {id:Nat} {K L:V→Sig→Prop} {r:V} (h:OFn P G f args [] 0 r []) (hK:K r []) (he:entT P f=true:=by kernel_rfl) (ha:args.map (V.sel (fw []))=args:=by with_unfolding_all rfl) (hr:r.sel (bk [] id)=r:=by with_unfolding_all rfl):callD P G lo ops i f args σ acc id K L:=callD.d h he ha hr hK
class CallL (p:Prop) (P:outParam Program) (G:outParam Gl) (f:outParam Nat) (args:outParam (List V)) (id:outParam Nat) (K:outParam (V→Prop)):Prop where
  of : ∀r,OFn P G f args [] 0 r []→entT P f=true→args.map (V.sel (fw []))=args→r.sel (bk [] id)=r→K r→p
instance {f:Nat} {args:List V} {σ:Sig} {id:Nat} {K:V→Sig→Prop} : CallL (CallW P G f args σ id K) P G f args id (fun r=>K r σ):=⟨fun _ h he ha hr hK=>CallW.d h he ha hr hK⟩
instance {lo:List Nat} {ops:Array Oper} {i f:Nat} {args:List V} {σ acc:Sig} {id:Nat} {K L:V→Sig→Prop} : CallL (callD P G lo ops i f args σ acc id K L) P G f args id (fun r=>K r []):=⟨fun _ h he ha hr hK=>callD.d h he ha hr hK⟩
theorem vY (ho:P.follows .mixedOrders=true) (lv:List Nat) {i:Nat} {args:List V} {σ:Sig} {id:Nat} {K:V→Sig→Prop} {y:Yd} {e:Env} (v:V) (σ':Sig)
    (h:codeW P G y.n id lv y.asg ⟨fillE y.ps.toList (args.map (V.sel (ltG id))) (e.sel (ltG id)),(σ.del i).sel (ltG id),id⟩ (seqK (fun st=>codeW P G y.n id lv y.body st (rndK G σ id i y e v σ')) (fun _ _=>False))) (hK:K v σ') (hg:σ.get i=some (.rc y none e):=by rfl) (hi:i<id:=by decide) (hps:y.ps.toList.all (fun p=>decide (p<y.n))=true:=by kernel_rfl) (hl:args.length=y.ps.size:=by rfl)
    (hn1:noR y.asg=true:=by kernel_rfl) (hn2:noR y.body=true:=by kernel_rfl) (ho1:codeOk y.n y.asg=true:=by kernel_rfl) (ho2:codeOk y.n y.body=true:=by kernel_rfl):YieldW P G i args σ id K:=
  YieldW.of ho lv hg hi hps hl hn1 hn2 ho1 ho2 h hK
theorem vRn (ho:P.follows .mixedOrders=true) {n m:Nat} {g:Operand} {ps:Array Nat} {asg body:Code} {st:St} {Q:Exit→St→Prop} {k:Nat} {caps:List V} {fn:Func} {c:Code} (lv:List Nat) (hf:P.funcs[k]? = some fn) (hb:fn.body=some c)
    (h:codeW P G fn.ntmps (st.nx+1) lv c ⟨argE 0 (.yl st.nx::caps),(st.nx,.rc ⟨n,ps,asg,body⟩ none st.env)::st.sg,st.nx+1⟩ (rngK G st Q)) (hg:evF G st.env.get g = .fn k caps:=by rfl) (he:entT P k=true:=by kernel_rfl) (hrs:fn.results = #[]:=by rfl) (hlen:caps.length+1≤fn.ntmps:=by decide) (hok:codeOk fn.ntmps c=true:=by kernel_rfl):RangeW P G n m g ps asg body st Q:=
  range_aw (fun _ _ _ _ hd=>callee_fn (hg▸hd)) he hf hb hrs hlen (codeW_sound ho c _ _ hok h)
theorem vF (ho:P.follows .mixedOrders=true) {f:Nat} {fn:Func} {c:Code} {rs:List ResultVar} {n:Nat} (lv:List Nat) (hf:P.funcs[f]? = some fn) (hb:fn.body=some c) (hrs:fn.results=rs.toArray) (hn:fn.ntmps=n)
    {args:List V} {σ:Sig} {m:Nat} {r:V} {σ':Sig} (h:codeW P G n m lv c ⟨argE 0 args,σ,m⟩ (retK (DoneW P G m rs r σ'))) (hok:codeOk n c=true:=by kernel_rfl) (hlen:args.length≤n:=by simp):OFn P G f args σ m r σ':=OFn.of_code ho lv hf hb hrs hn hok hlen h
theorem vL {n m:Nat} {lv:List Nat} (ho:P.follows .mixedOrders=true) {c:Code} {st:St} {Q:Exit→St→Prop} {α:Type} (S:α→St) (pre:α→Prop) (mu:α→Nat) (x0:α) (h0:GhW G m (fun st'=>st'=S x0) st) (hp:pre x0)
    (hr : ∀x,pre x→codeW P G n m lv c (S x) (seqK (fun st=>AgW G m S pre mu x st) Q)) (hok:codeOk n c=true:=by kernel_rfl):LoopW P G n m c st Q:=loopW_go ho hok S pre mu x0 h0 hp hr
theorem vFE (ho:P.follows .mixedOrders=true) {f:Nat} {fn:Func} {c:Code} {rs:List ResultVar} {n:Nat} (lv:List Nat) (hf:P.funcs[f]? = some fn) (hb:fn.body=some c) (hrs:fn.results=rs.toArray) (hn:fn.ntmps=n)
    {args:List V} {σ:Sig} {m:Nat} {ρ:Type} {R:ρ→Prop} {r:ρ→V} {σ':ρ→Sig} (h:codeE P G n m c lv ⟨argE 0 args,σ,m⟩ (retK (DoneE P G m rs R r σ'))) (hok:codeOk n c=true:=by kernel_rfl) (hlen:args.length≤n:=by simp) : ∃x,R x∧OFn P G f args σ m (r x) (σ' x):=OFn.ex ho lv hf hb hrs hn h hok hlen
theorem vLE {n m:Nat} {c:Code} {st:St} {Q:Exit→St→Prop} {α:Type} (lv:List Nat) (S:α→St) (pre:α→Prop) (mu:α→Nat) (x0:α) (h0:GhW G m (fun st'=>st'=S x0) st) (hp:pre x0)
    (hr : ∀x,pre x→codeE P G n m c lv (S x) (seqK (fun st=>AgW G m S pre mu x st) Q)):LoopE G m (fun lv st Q=>codeE P G n m c lv st Q) st Q:=⟨α,S,pre,mu,x0,lv,h0,hp,hr⟩
end
theorem vS {α:Sort _} {a b:α} (h:a=b:=by first|rfl|(refine vR ?_;first|done|exact True.intro|rfl|(refine v6 ?_;first|exact True.intro|(refine vR ?_;exact True.intro))|((try refine v6 ?_);simp only [St.mk.injEq,List.cons.injEq,Prod.mk.injEq,V.d.injEq,D.lit.injEq,Value.int.injEq,true_and,and_true];omega))):a=b:=h
theorem vT {α:Sort _} {a b:α} (h:a=b:=by (refine vR ?_;first|done|exact True.intro|rfl|(refine v6 ?_;first|exact True.intro|(refine vR ?_;exact True.intro))|((try refine v6 ?_);simp only [St.mk.injEq,List.cons.injEq,Prod.mk.injEq,V.d.injEq,D.lit.injEq,Value.int.injEq,true_and,and_true];omega))):a=b:=h
section
variable {P:Program} {G:Gl}
theorem owned_congr {σ τ:Sig} (he : ∀j,τ.get j=σ.get j) {β:Bet} {b:Nat} : owned σ β b↔owned τ β b:=by
  constructor
  · rintro ⟨id,blk,c,h1,h2⟩;exact ⟨id,blk,c,by rw [he];exact h1,h2⟩
  · rintro ⟨id,blk,c,h1,h2⟩;exact ⟨id,blk,c,by rw [←he];exact h1,h2⟩
theorem OFn.congr {f:Nat} {args:List V} {σ τ:Sig} {m:Nat} {r:V} {σ':Sig} (h:OFn P G f args σ m r σ') (he : ∀j,τ.get j=σ.get j):OFn P G f args τ m r σ':=by
  intro w I β vals hm hG hd
  have hm':Mem w I β σ m:=⟨fun id blk hb=>hm.own id blk (by rw [he];exact hb),fun i j b b' k c c' h1 h2=>hm.inj i j b b' k c c' (by rw [he];exact h1) (by rw [he];exact h2),hm.free,hm.lt⟩
  refine (h w I β vals hm' hG hd).mono ?_
  rintro e w' ⟨u,I',β',h1,h2,h3⟩
  exact ⟨u,I',β',h1,h2,{ h3 with
    block:=fun b hb ho=>h3.block b hb fun h=>ho ((owned_congr he).1 h)
    immn:=fun b hb=>by
      rcases h3.immn b hb with h|h|h
      · exact .inl h
      · exact .inr (.inl ((owned_congr he).1 h))
      · exact .inr (.inr h)
    own':=fun b hb=>by
      rcases h3.own' b hb with h|h
      · exact .inl ((owned_congr he).1 h)
      · exact .inr h }⟩
theorem fw1 {i j k:Nat} (h:fw [i] j=some k):j=i∧k=0:=by
  obtain ⟨h1,h2⟩:=fw_spec h
  simp at h2
  subst h2
  simp at h1
  exact ⟨h1.symm,rfl⟩
theorem fw1_self (i:Nat):fw [i] i=some 0:=by simp [fw,idx]
theorem bk1_self (i id:Nat):bk [i] id 0=some i:=by simp [bk]
theorem get_fw1 {σ:Sig} {i:Nat} {b:Blk} (hg:σ.get i=some b) (j:Nat):(σ.sel (fw [i])).get j=Sig.get [(0,b.sel (fw [i]))] j:=by
  have hinj : ∀a a' j,fw [i] a=some j→fw [i] a'=some j→a=a':=fun a a' j h1 h2=>by rw [(fw1 h1).1,(fw1 h2).1]
  by_cases h0:j=0
  · subst h0
    rw [Sig.get_sel' hinj (fw1_self i) σ b hg]
    rfl
  · cases hs:(σ.sel (fw [i])).get j with
    | none=>simp [Sig.get,Ne.symm h0]
    | some c=>
      obtain ⟨a,c',h1,_,_⟩:=Sig.get_sel hinj σ j c hs
      exact (h0 (fw1 h1).2).elim
theorem does_own1 {f:Nat} {args args':List V} {σ:Sig} {id i:Nat} {b b0 b':Blk} {r:V} (hg:σ.get i=some b) (hi:i<id) (ha:args.map (V.sel (fw [i]))=args') (hb:b.sel (fw [i])=b0) (h:OFn P G f args' [(0,b0)] 1 r [(0,b')]) :
    Does P G f args σ id (r.sel (bk [i] id)) (σ.set i (b'.sel (bk [i] id))):=by
  have hl:okL [i] id σ=true:=by simp [okL,hi,hg]
  have h1:OFn P G f (args.map (V.sel (fw [i]))) (σ.sel (fw [i])) [i].length r [(0,b')]:=by
    rw [ha];subst hb
    exact h.congr (get_fw1 hg)
  have h2:=does_of [i] hl h1
  intro w I β nx vals hm hG hf hnx hd
  refine (h2 w I β nx vals hm hG hf hnx hd).mono ?_
  rintro e w' ⟨u,I',β',g1,g2,g3,g4⟩
  refine ⟨u,I',β',g1,g2,g3.congr fun j =>?_,g4⟩
  rw [Sig.get_set (by rw [hg];rfl),get_append,get_delL]
  have es:Sig.sel (bk [i] id) [(0,b')]=[(i,b'.sel (bk [i] id))]:=by simp [Sig.sel,bk1_self]
  rw [es]
  by_cases hj:j=i
  · subst hj;simp [Sig.get]
  · simp only [List.mem_singleton,hj,if_false]
    cases σ.get j with
    | some x=>rfl
    | none=>simp [Sig.get,Ne.symm hj]
theorem vO {f:Nat} {rest rest':List V} {σ:Sig} {id:Nat} {K:V→Sig→Prop} {i:Nat} {b b0 b':Blk} {r:V} (h:OFn P G f (.po 0 0::rest') [(0,b0)] 1 r [(0,b')]) (hK:K (r.sel (bk [i] id)) (σ.set i (b'.sel (bk [i] id))))
    (hg:σ.get i=some b:=by with_unfolding_all rfl) (hb:b.sel (fw [i])=b0:=by with_unfolding_all rfl) (ha:(V.po i 0::rest).map (V.sel (fw [i])) = .po 0 0::rest':=by with_unfolding_all rfl) (he:entT P f=true:=by kernel_rfl) (hi:i<id:=by with_unfolding_all decide):CallW P G f (.po i 0::rest) σ id K:=
  ⟨_,_,hK,.inl ⟨he,does_own1 hg hi ha hb h⟩⟩
theorem does_rd {f:Nat} {args args':List V} {σ:Sig} {id i:Nat} {b b0 b':Blk} {r r':V} (hg:σ.get i=some b) (hi:i<id) (ha:args.map (V.sel (fw [i]))=args') (hb:b.sel (fw [i])=b0) (hb':b'.sel (bk [i] id)=b) (hr:r.sel (bk [i] id)=r') (h:OFn P G f args' [(0,b0)] 1 r [(0,b')]) :
    Does P G f args σ id r' σ:=by
  have h2:=does_own1 hg hi ha hb h
  rw [hr,hb'] at h2
  intro w I β nx vals hm hG hf hnx hd
  refine (h2 w I β nx vals hm hG hf hnx hd).mono ?_
  rintro e w' ⟨u,I',β',g1,g2,g3,g4⟩
  refine ⟨u,I',β',g1,g2,g3.congr fun j =>?_,g4⟩
  rw [Sig.get_set (by rw [hg];rfl)]
  by_cases hj:j=i
  · subst hj;rw [if_pos rfl];exact hg
  · rw [if_neg hj]
theorem vOr {f:Nat} {rest rest':List V} {σ:Sig} {id:Nat} {K:V→Sig→Prop} {i:Nat} {b b0 b':Blk} {r r':V} (h:OFn P G f (.po 0 0::rest') [(0,b0)] 1 r [(0,b')]) (hK:K r' σ)
    (hg:σ.get i=some b:=by with_unfolding_all rfl) (hb:b.sel (fw [i])=b0:=by with_unfolding_all rfl) (ha:(V.po i 0::rest).map (V.sel (fw [i])) = .po 0 0::rest':=by with_unfolding_all rfl) (hb':b'.sel (bk [i] id)=b:=by with_unfolding_all rfl) (hr:r.sel (bk [i] id)=r':=by with_unfolding_all rfl) (he:entT P f=true:=by kernel_rfl) (hi:i<id:=by with_unfolding_all decide):CallW P G f (.po i 0::rest) σ id K:=
  ⟨_,_,hK,.inl ⟨he,does_rd hg hi ha hb hb' hr h⟩⟩
theorem vOq {lo:List Nat} {ops:Array Oper} {n f:Nat} {rest rest':List V} {σ acc:Sig} {id:Nat} {K L:V→Sig→Prop} {i:Nat} {b b0 b':Blk} {r r':V} (h:OFn P G f (.po 0 0::rest') [(0,b0)] 1 r [(0,b')]) (hK:K r' [])
    (hg:σ.get i=some b:=by with_unfolding_all rfl) (hb:b.sel (fw [i])=b0:=by with_unfolding_all rfl) (ha:(V.po i 0::rest).map (V.sel (fw [i])) = .po 0 0::rest':=by with_unfolding_all rfl) (hb':b'.sel (bk [i] id)=b:=by with_unfolding_all rfl) (hr:r.sel (bk [i] id)=r':=by with_unfolding_all rfl) (he:entT P f=true:=by kernel_rfl) (hi:i<id:=by with_unfolding_all decide):callD P G lo ops n f (.po i 0::rest) σ acc id K L:=
  .inl ⟨_,_,hK,.inl ⟨he,newIn_nil id,fun σ' hs=>by rw [List.append_nil];exact does_rd (hs i b hg) hi ha hb hb' hr h⟩⟩
theorem vK {f:Nat} {args:List V} {σ:Sig} {id:Nat} {K:V→Sig→Prop} {r:V} {σ1:Sig} (h:OFn P G f args [] 0 r σ1) (hK:K (r.sel (bk [] id)) (σ++σ1.sel (bk [] id))) (he:entT P f=true:=by kernel_rfl) (ha:args.map (V.sel (fw []))=args:=by with_unfolding_all rfl):CallW P G f args σ id K:=
  CallW.of [] he (by rw [ha,sel_none];exact h) rfl (by simpa [delL] using hK)
end
theorem vX {P:Program} {G:Gl} {f:Nat} {args:List V} {σ:Sig} {id:Nat} {K:V→Sig→Prop} (v:V) (hK:K v σ) (h:extV P f args=some v:=by kernel_rfl):CallW P G f args σ id K:=⟨v,σ,hK,.inr ⟨h,rfl⟩⟩
theorem CallW.two {P:Program} {G:Gl} {f:Nat} {args args':List V} {σ:Sig} {id:Nat} {K:V→Sig→Prop} {r:V} {b b' c c':Blk} (i j:Nat) (h:OFn P G f args' [(0,b),(1,c)] 2 r [(0,b'),(1,c')])
    (hK:K (r.sel (bk [i,j] id)) (delL σ [i,j]++Sig.sel (bk [i,j] id) [(0,b'),(1,c')])) (he:entT P f=true:=by kernel_rfl) (ha:args.map (V.sel (fw [i,j]))=args':=by rfl) (hs:σ.sel (fw [i,j])=[(0,b),(1,c)]:=by rfl) (hl:okL [i,j] id σ=true:=by rfl):CallW P G f args σ id K:=
  CallW.of [i,j] he (by rw [ha,hs];exact h) hl hK
theorem CallW.twoN {P:Program} {G:Gl} {f:Nat} {args args':List V} {σ σ1:Sig} {id:Nat} {K:V→Sig→Prop} {r:V} {b c:Blk} (i j:Nat) (h:OFn P G f args' [(0,b),(1,c)] 2 r σ1)
    (hK:K (r.sel (bk [i,j] id)) (delL σ [i,j]++Sig.sel (bk [i,j] id) σ1)) (he:entT P f=true:=by kernel_rfl) (ha:args.map (V.sel (fw [i,j]))=args':=by rfl) (hs:σ.sel (fw [i,j])=[(0,b),(1,c)]:=by rfl) (hl:okL [i,j] id σ=true:=by rfl):CallW P G f args σ id K:=
  CallW.of [i,j] he (by rw [ha,hs];exact h) hl hK
theorem CallW.oneN {P:Program} {G:Gl} {f:Nat} {args args':List V} {σ σ1:Sig} {id:Nat} {K:V→Sig→Prop} {r:V} {b:Blk} (i:Nat) (h:OFn P G f args' [(0,b)] 1 r σ1)
    (hK:K (r.sel (bk [i] id)) (delL σ [i]++Sig.sel (bk [i] id) σ1)) (he:entT P f=true:=by kernel_rfl) (ha:args.map (V.sel (fw [i]))=args':=by rfl) (hs:σ.sel (fw [i])=[(0,b)]:=by rfl) (hl:okL [i] id σ=true:=by rfl):CallW P G f args σ id K:=
  CallW.of [i] he (by rw [ha,hs];exact h) hl hK
theorem CallW.ofN {P:Program} {G:Gl} {f n:Nat} {args args':List V} {σ σ0 σ1:Sig} {id:Nat} {K:V→Sig→Prop} {r:V} (l:List Nat) (h:OFn P G f args' σ0 n r σ1)
    (hK:K (r.sel (bk l id)) (delL σ l++σ1.sel (bk l id))) (he:entT P f=true:=by kernel_rfl) (hn:l.length=n:=by rfl) (ha:args.map (V.sel (fw l))=args':=by rfl) (hs:σ.sel (fw l)=σ0:=by rfl) (hl:okL l id σ=true:=by rfl):CallW P G f args σ id K:=
  CallW.of l he (by rw [ha,hs,hn];exact h) hl hK
theorem vOd {P:Program} {G:Gl} {f:Nat} {args args':List V} {σ:Sig} {id:Nat} {K:V→Sig→Prop} (i:Nat) {b b0 b':Blk} {r r':V} (h:OFn P G f args' [(0,b0)] 1 r [(0,b')]) (hK:K r' σ)
    (hg:σ.get i=some b:=by with_unfolding_all rfl) (hb:b.sel (fw [i])=b0:=by with_unfolding_all rfl) (ha:args.map (V.sel (fw [i]))=args':=by with_unfolding_all rfl) (hb':b'.sel (bk [i] id)=b:=by with_unfolding_all rfl) (hr:r.sel (bk [i] id)=r':=by with_unfolding_all rfl) (he:entT P f=true:=by kernel_rfl) (hi:i<id:=by with_unfolding_all decide):CallW P G f args σ id K:=
  ⟨_,_,hK,.inl ⟨he,does_rd hg hi ha hb hb' hr h⟩⟩
theorem OFn.nil {P:Program} {G:Gl} {f:Nat} {args:List V} {σ:Sig} {m:Nat} {σ':Sig} (k:Nat) (b:Bool) (h:OFn P G f args σ m (.d (.lit (.slice none 0 0))) σ'):OFn P G f args σ m (.d (.sd k b [])) σ':=by
  intro w I β vals hm hG hd
  refine (h w I β vals hm hG hd).mono ?_
  rintro e w' ⟨u,I',β',h1,h2,h3⟩
  refine ⟨u,I',β',h1,?_,h3⟩
  cases h2 with
  | lit v=>exact .sd0 k b none
theorem OFn.nilOr {P:Program} {G:Gl} {f:Nat} {σ:Sig} {m:Nat} {r:V} {σ':Sig} (k:Nat) (b:Bool) (h1:OFn P G f [.d (.lit (.slice none 0 0))] σ m r σ') (h2:OFn P G f [.d (.ne k)] σ m r σ'):OFn P G f [.d (.sd k b [])] σ m r σ':=by
  intro w I β vals hm hG hd
  obtain ⟨hl,hd⟩:=hd
  match vals,hl with
  | [v],_=>
    have hv:DenD w I (.sd k b []) v:=hd 0 _ v rfl rfl
    have one : ∀x:V,Den w I β x v→DenL w I β [x] [v]:=fun x hx=>⟨rfl,fun i c y hc hy=>by
      match i,hc,hy with
      | 0,hc,hy=>
        simp only [List.getElem?_cons_zero,Option.some.injEq] at hc hy
        subst hc hy;exact hx
      | i+1,hc,hy=>simp at hc⟩
    cases hv with
    | sd _ _ _ b o cap=>exact h2 w I β [_] hm hG (one _ (DenD.ne k _ _))
    | sd0 _ _ a=>
      cases a with
      | none=>exact h1 w I β [_] hm hG (one _ (DenD.lit _))
      | some a=>exact h2 w I β [_] hm hG (one _ (DenD.ne k _ _))
theorem vRS {p q:Prop} (h:q) (e:p=q:=by simp -implicitDefEqProofs -dsimp (maxSteps:=3000000) only [push_cast,↓RR,↓reduceIte,Nat.reduceMul,Nat.reduceAdd,Nat.reduceSub,Nat.reduceEqDiff,Nat.reduceBeqDiff,Nat.reduceLeDiff,Nat.reduceLT,reduceCtorEq,Int.reduceToNat];exact rfl):p:=e▸h
inductive UsD {G:Prop} : G→Prop|i (h:G):UsD h
structure HdD (G:Prop):Prop where g:G
theorem hdD {G:Prop} (h:G) (_:UsD h):HdD G:=⟨h⟩
theorem zg {p:Prop} (h:p:=by (repeat' (first|(with_reducible first|exact True.intro|refine vD ?_|refine vG ?_|refine vE ?_)|refine vR ?_|refine v6 ?_|with_reducible refine vN ?_|((with_reducible first|refine vB (fun h =>?_) (fun h =>?_)|refine vM (fun h =>?_) (fun h =>?_))<;>(first|(exfalso;omega)|skip))));all_goals (refine HdD.g ?_;apply_rules (newGoals:= .nonDependentOnly) only [hdD,UsD.i])):p:=h
theorem zo {p:Prop} (h:p:=by (repeat' (first|(with_reducible first|exact True.intro|refine vD ?_|refine vG ?_|refine vE ?_)|with_reducible refine DoneW.out ?_|refine vR ?_|refine v6 ?_|with_reducible refine vN ?_|((with_reducible first|refine vB (fun h =>?_) (fun h =>?_)|refine vM (fun h =>?_) (fun h =>?_))<;>(first|(exfalso;omega)|skip))));all_goals (refine HdD.g ?_;apply_rules (newGoals:= .nonDependentOnly) only [hdD,UsD.i])):p:=h
theorem zg1 {p q0:Prop} (c0:q0) (h:q0→p:=by intro zc0;(repeat' (first|(with_reducible first|exact True.intro|refine vD ?_|refine vG ?_|refine vE ?_)|with_reducible refine vC zc0 ?_|with_reducible refine vQ zc0 ?_|refine vR ?_|refine v6 ?_|with_reducible refine vN ?_|((with_reducible first|refine vB (fun h =>?_) (fun h =>?_)|refine vM (fun h =>?_) (fun h =>?_))<;>(first|(exfalso;omega)|skip))));all_goals (clear zc0;refine HdD.g ?_;apply_rules (newGoals:= .nonDependentOnly) only [hdD,UsD.i])):p:=h c0
theorem zo1 {p q0:Prop} (c0:q0) (h:q0→p:=by intro zc0;(repeat' (first|(with_reducible first|exact True.intro|refine vD ?_|refine vG ?_|refine vE ?_)|with_reducible refine DoneW.out ?_|with_reducible refine vC zc0 ?_|with_reducible refine vQ zc0 ?_|refine vR ?_|refine v6 ?_|with_reducible refine vN ?_|((with_reducible first|refine vB (fun h =>?_) (fun h =>?_)|refine vM (fun h =>?_) (fun h =>?_))<;>(first|(exfalso;omega)|skip))));all_goals (clear zc0;refine HdD.g ?_;apply_rules (newGoals:= .nonDependentOnly) only [hdD,UsD.i])):p:=h c0
theorem zg2 {p q0 q1:Prop} (c0:q0) (c1:q1) (h:q0→q1→p:=by intro zc0 zc1;(repeat' (first|(with_reducible first|exact True.intro|refine vD ?_|refine vG ?_|refine vE ?_)|with_reducible refine vC zc0 ?_|with_reducible refine vQ zc0 ?_|with_reducible refine vC zc1 ?_|with_reducible refine vQ zc1 ?_|refine vR ?_|refine v6 ?_|with_reducible refine vN ?_|((with_reducible first|refine vB (fun h =>?_) (fun h =>?_)|refine vM (fun h =>?_) (fun h =>?_))<;>(first|(exfalso;omega)|skip))));all_goals (clear zc0;clear zc1;refine HdD.g ?_;apply_rules (newGoals:= .nonDependentOnly) only [hdD,UsD.i])):p:=h c0 c1
theorem zo2 {p q0 q1:Prop} (c0:q0) (c1:q1) (h:q0→q1→p:=by intro zc0 zc1;(repeat' (first|(with_reducible first|exact True.intro|refine vD ?_|refine vG ?_|refine vE ?_)|with_reducible refine DoneW.out ?_|with_reducible refine vC zc0 ?_|with_reducible refine vQ zc0 ?_|with_reducible refine vC zc1 ?_|with_reducible refine vQ zc1 ?_|refine vR ?_|refine v6 ?_|with_reducible refine vN ?_|((with_reducible first|refine vB (fun h =>?_) (fun h =>?_)|refine vM (fun h =>?_) (fun h =>?_))<;>(first|(exfalso;omega)|skip))));all_goals (clear zc0;clear zc1;refine HdD.g ?_;apply_rules (newGoals:= .nonDependentOnly) only [hdD,UsD.i])):p:=h c0 c1
theorem zg3 {p q0 q1 q2:Prop} (c0:q0) (c1:q1) (c2:q2) (h:q0→q1→q2→p:=by intro zc0 zc1 zc2;(repeat' (first|(with_reducible first|exact True.intro|refine vD ?_|refine vG ?_|refine vE ?_)|with_reducible refine vC zc0 ?_|with_reducible refine vQ zc0 ?_|with_reducible refine vC zc1 ?_|with_reducible refine vQ zc1 ?_|with_reducible refine vC zc2 ?_|with_reducible refine vQ zc2 ?_|refine vR ?_|refine v6 ?_|with_reducible refine vN ?_|((with_reducible first|refine vB (fun h =>?_) (fun h =>?_)|refine vM (fun h =>?_) (fun h =>?_))<;>(first|(exfalso;omega)|skip))));all_goals (clear zc0;clear zc1;clear zc2;refine HdD.g ?_;apply_rules (newGoals:= .nonDependentOnly) only [hdD,UsD.i])):p:=h c0 c1 c2
theorem zo3 {p q0 q1 q2:Prop} (c0:q0) (c1:q1) (c2:q2) (h:q0→q1→q2→p:=by intro zc0 zc1 zc2;(repeat' (first|(with_reducible first|exact True.intro|refine vD ?_|refine vG ?_|refine vE ?_)|with_reducible refine DoneW.out ?_|with_reducible refine vC zc0 ?_|with_reducible refine vQ zc0 ?_|with_reducible refine vC zc1 ?_|with_reducible refine vQ zc1 ?_|with_reducible refine vC zc2 ?_|with_reducible refine vQ zc2 ?_|refine vR ?_|refine v6 ?_|with_reducible refine vN ?_|((with_reducible first|refine vB (fun h =>?_) (fun h =>?_)|refine vM (fun h =>?_) (fun h =>?_))<;>(first|(exfalso;omega)|skip))));all_goals (clear zc0;clear zc1;clear zc2;refine HdD.g ?_;apply_rules (newGoals:= .nonDependentOnly) only [hdD,UsD.i])):p:=h c0 c1 c2
theorem zo4 {p q0 q1 q2 q3:Prop} (c0:q0) (c1:q1) (c2:q2) (c3:q3) (h:q0→q1→q2→q3→p:=by intro zc0 zc1 zc2 zc3;(repeat' (first|(with_reducible first|exact True.intro|refine vD ?_|refine vG ?_|refine vE ?_)|with_reducible refine DoneW.out ?_|with_reducible refine vC zc0 ?_|with_reducible refine vQ zc0 ?_|with_reducible refine vC zc1 ?_|with_reducible refine vQ zc1 ?_|with_reducible refine vC zc2 ?_|with_reducible refine vQ zc2 ?_|with_reducible refine vC zc3 ?_|with_reducible refine vQ zc3 ?_|refine vR ?_|refine v6 ?_|with_reducible refine vN ?_|((with_reducible first|refine vB (fun h =>?_) (fun h =>?_)|refine vM (fun h =>?_) (fun h =>?_))<;>(first|(exfalso;omega)|skip))));all_goals (clear zc0;clear zc1;clear zc2;clear zc3;refine HdD.g ?_;apply_rules (newGoals:= .nonDependentOnly) only [hdD,UsD.i])):p:=h c0 c1 c2 c3
theorem zo5 {p q0 q1 q2 q3 q4:Prop} (c0:q0) (c1:q1) (c2:q2) (c3:q3) (c4:q4) (h:q0→q1→q2→q3→q4→p:=by intro zc0 zc1 zc2 zc3 zc4;(repeat' (first|(with_reducible first|exact True.intro|refine vD ?_|refine vG ?_|refine vE ?_)|with_reducible refine DoneW.out ?_|with_reducible refine vC zc0 ?_|with_reducible refine vQ zc0 ?_|with_reducible refine vC zc1 ?_|with_reducible refine vQ zc1 ?_|with_reducible refine vC zc2 ?_|with_reducible refine vQ zc2 ?_|with_reducible refine vC zc3 ?_|with_reducible refine vQ zc3 ?_|with_reducible refine vC zc4 ?_|with_reducible refine vQ zc4 ?_|refine vR ?_|refine v6 ?_|with_reducible refine vN ?_|((with_reducible first|refine vB (fun h =>?_) (fun h =>?_)|refine vM (fun h =>?_) (fun h =>?_))<;>(first|(exfalso;omega)|skip))));all_goals (clear zc0;clear zc1;clear zc2;clear zc3;clear zc4;refine HdD.g ?_;apply_rules (newGoals:= .nonDependentOnly) only [hdD,UsD.i])):p:=h c0 c1 c2 c3 c4
theorem zgK {p q0:Prop} (c0:q0) (h:q0→p:=by intro zc0;(repeat' (first|(with_reducible first|exact True.intro|refine vD ?_|refine vG ?_|refine vE ?_)|with_reducible refine vK zc0 ?_|refine vR ?_|refine v6 ?_|with_reducible refine vN ?_|((with_reducible first|refine vB (fun h =>?_) (fun h =>?_)|refine vM (fun h =>?_) (fun h =>?_))<;>(first|(exfalso;omega)|skip))));all_goals (clear zc0;refine HdD.g ?_;apply_rules (newGoals:= .nonDependentOnly) only [hdD,UsD.i])):p:=h c0
theorem zgO {p q0:Prop} (c0:q0) (h:q0→p:=by intro zc0;(repeat' (first|(with_reducible first|exact True.intro|refine vD ?_|refine vG ?_|refine vE ?_)|with_reducible refine vO zc0 ?_|refine vR ?_|refine v6 ?_|with_reducible refine vN ?_|((with_reducible first|refine vB (fun h =>?_) (fun h =>?_)|refine vM (fun h =>?_) (fun h =>?_))<;>(first|(exfalso;omega)|skip))));all_goals (clear zc0;refine HdD.g ?_;apply_rules (newGoals:= .nonDependentOnly) only [hdD,UsD.i])):p:=h c0
theorem zgR {p q0:Prop} (c0:q0) (h:q0→p:=by intro zc0;(repeat' (first|(with_reducible first|exact True.intro|refine vD ?_|refine vG ?_|refine vE ?_)|with_reducible refine vOr zc0 ?_|refine vR ?_|refine v6 ?_|with_reducible refine vN ?_|((with_reducible first|refine vB (fun h =>?_) (fun h =>?_)|refine vM (fun h =>?_) (fun h =>?_))<;>(first|(exfalso;omega)|skip))));all_goals (clear zc0;refine HdD.g ?_;apply_rules (newGoals:= .nonDependentOnly) only [hdD,UsD.i])):p:=h c0
theorem zgE {p q0:Prop} (c0:q0) (h:q0→p:=by intro zc0;(repeat' (first|(with_reducible first|exact True.intro|refine vD ?_|refine vG ?_|refine vE ?_)|with_reducible refine elX.is _ _ (by omega) zc0 ?_|refine vR ?_|refine v6 ?_|with_reducible refine vN ?_|((with_reducible first|refine vB (fun h =>?_) (fun h =>?_)|refine vM (fun h =>?_) (fun h =>?_))<;>(first|(exfalso;omega)|skip))));all_goals (clear zc0;refine HdD.g ?_;apply_rules (newGoals:= .nonDependentOnly) only [hdD,UsD.i])):p:=h c0
theorem zoE {p q0:Prop} (c0:q0) (h:q0→p:=by intro zc0;(repeat' (first|(with_reducible first|exact True.intro|refine vD ?_|refine vG ?_|refine vE ?_)|with_reducible refine DoneW.out ?_|with_reducible refine elX.is _ _ (by omega) zc0 ?_|refine vR ?_|refine v6 ?_|with_reducible refine vN ?_|((with_reducible first|refine vB (fun h =>?_) (fun h =>?_)|refine vM (fun h =>?_) (fun h =>?_))<;>(first|(exfalso;omega)|skip))));all_goals (clear zc0;refine HdD.g ?_;apply_rules (newGoals:= .nonDependentOnly) only [hdD,UsD.i])):p:=h c0
theorem zgS {p:Prop} (h:p:=by (repeat' (first|(with_reducible first|exact True.intro|refine vD ?_|refine vG ?_|refine vE ?_)|refine vRS ?_|refine vR ?_|refine v6 ?_|with_reducible refine vN ?_|((with_reducible first|refine vB (fun h =>?_) (fun h =>?_)|refine vM (fun h =>?_) (fun h =>?_))<;>(first|(exfalso;omega)|skip))));all_goals (refine HdD.g ?_;apply_rules (newGoals:= .nonDependentOnly) only [hdD,UsD.i])):p:=h
theorem zoS {p:Prop} (h:p:=by (repeat' (first|(with_reducible first|exact True.intro|refine vD ?_|refine vG ?_|refine vE ?_)|with_reducible refine DoneW.out ?_|refine vRS ?_|refine vR ?_|refine v6 ?_|with_reducible refine vN ?_|((with_reducible first|refine vB (fun h =>?_) (fun h =>?_)|refine vM (fun h =>?_) (fun h =>?_))<;>(first|(exfalso;omega)|skip))));all_goals (refine HdD.g ?_;apply_rules (newGoals:= .nonDependentOnly) only [hdD,UsD.i])):p:=h
end Go.Proofs.YtihghiojmhegoaaGreatDoor
