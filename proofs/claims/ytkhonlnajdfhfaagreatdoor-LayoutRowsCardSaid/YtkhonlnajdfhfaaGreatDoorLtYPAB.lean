/- What the theorem leans on, part 2. -/
import Derived.Laws.Externs
import Derived.RangeFuncLeaves
import Derived.RangeFuncRecord
import Derived.OrdersIn
import Derived.Orders
import Derived.Scope
import Derived.IntWalk
import Derived.ChangeKeysEq
import Derived.Test.YtkhonlnajdfhfaaGreatDoorLtYPAA
set_option linter.unusedSimpArgs false
namespace Go.Proofs.YtkhonlnajdfhfaaGreatDoor
def cntB (s:ByteArray) (c:UInt8):Nat:=s.data.toList.countP (· == c)
theorem foldl_cnt (s:ByteArray) (c:UInt8):s.foldl (fun n x=>if (x==c)=true then n+1 else n) (0:Int)=(cntB s c:Int):=by
 unfold ByteArray.foldl ByteArray.foldlM
 simp only [Nat.le_refl,dite_true]
 have key : ∀(i j:Nat) (b:Int),i+j=s.size→_root_.Id.run (ByteArray.foldlM.loop (m:=_root_.Id) (fun (n:Int) x=>pure (if (x==c)=true then n+1 else n)) s s.size (Nat.le_refl _) i j b)=b+((s.data.toList.drop j).countP (· == c):Nat):=by
  intro i
  induction i with
  | zero=>
   intro j b h
   unfold ByteArray.foldlM.loop
   have:s.data.toList.drop j=[]:=List.drop_eq_nil_of_le (by have:s.data.size=s.size:=rfl;simp;omega)
   rw [this]
   simp
  | succ i ih=>
   intro j b h
   unfold ByteArray.foldlM.loop
   have hlt:j<s.size:=by omega
   rw [dif_pos hlt]
   simp only [pure_bind]
   have e:s.data.toList.drop j=s[j]::s.data.toList.drop (j+1):=by
    rw [List.drop_eq_getElem_cons (by have:s.data.size=s.size:=rfl;simp;omega)]
    rfl
   have h2:=ih (j+1) (if (s[j]==c)=true then b+1 else b) (by omega)
   refine h2.trans ?_
   rw [e,List.countP_cons]
   split<;>simp_all<;>omega
 have:=key s.size 0 0 (by omega)
 simpa [cntB] using this
theorem run_count_string {P:Program} (s:ByteArray) (c:Int) (w:World) :
 (Extern.BytealgCount.count #[.string s,.int .u8 c]).run P w = .ok (.int .i64 (cntB s c.toNat.toUInt8)) w:=by
 rw [←foldl_cnt]
 change Sem.run P (do
  let b ←Extern.Bytes.bytesOf (.string s)
  let c ←Extern.Bytes.asByte (.int .u8 c)
  pure (goInt (b.foldl (fun n x=>if x==c then n+1 else n) (0:Nat)))) w=_
 simp only [Extern.Bytes.bytesOf,Extern.Bytes.asByte,Sem.run_bind,Sem.run_pure,Result.andThen,goInt]
 rfl
abbrev Gl:=Nat→Option D
def evF (G:Gl) (F:Nat→V):Operand→V
 | .tmp t=>F t
 | .const v=> .d (.lit v)
 | .global g=>match G g with
  | some x=> .d x
  | none=> .unk
 | .func f=> .d (.fn f [])
def GOk (G:Gl) (w:World) (I:Nat→Prop):Prop:= ∀g x,G g=some x→DenD w I x (.pointer (some ⟨g,0,none⟩))
def DenL (w:World) (I:Nat→Prop) (β:Bet) (args:List V) (vals:List Value):Prop:=args.length=vals.length ∧ ∀(i:Nat) c x,args[i]? = some c→vals[i]? = some x→Den w I β c x
def Does (P:Program) (G:Gl) (f:Nat) (args:List V) (σ:Sig) (id:Nat) (v:V) (σ':Sig):Prop:=
 ∀w I β nx vals,Mem w I β σ nx→GOk G w I→(∀j,id≤j→j<id+4→β j=none)→id+4≤nx→DenL w I β args vals →
  Calls P f vals.toArray w fun e w'=> ∃u I' β',e = .returned u∧Den w' I' β' v u∧MStep w I β σ nx w' I' β' σ' nx ∧ ∀j,¬(id≤j∧j<id+4)→β' j=β j
def entT (P:Program) (f:Nat):Bool:=match P.funcs[f]? with
 | some fn=>fn.body.isSome && !(fn.name == "runtime.NumGoroutine")
 | none=>false
def Sub (σ0 σ:Sig):Prop:= ∀i b,σ0.get i=some b→σ.get i=some b
def extA (fn:Func) (args:List V):Option V:=
 if fn.name = "internal/abi.NoEscape" then (match args with
  | [x]=>some x
  | _=>none)
 else if fn.name = "internal/bytealg.IndexByteString" then (match args with
  | [.d (.lit (.string s)),.d (.lit (.int .u8 c))]=>some (.d (.lit (.int .i64 (firstIdx s c.toNat.toUInt8))))
  | _=>none)
 else if fn.name = "internal/bytealg.CountString" then (match args with
  | [.d (.lit (.string s)),.d (.lit (.int .u8 c))]=>some (.d (.lit (.int .i64 (cntB s c.toNat.toUInt8))))
  | _=>none)
 else none
def extV (P:Program) (f:Nat) (args:List V):Option V:=match P.funcs[f]? with
 | some fn=>if fn.body.isNone=true∧(Extern.findNext fn).isNone=true then extA fn args else none
 | none=>none
def CallW (P:Program) (G:Gl) (f:Nat) (args:List V) (σ:Sig) (id:Nat) (K:V→Sig→Prop) (_u:Tag K:= .mk) (_h:True:=trivial):Prop:=
 ∃v σ',K v σ'∧(entT P f=true∧Does P G f args σ id v σ'∨extV P f args=some v∧σ'=σ)
def NewIn (id:Nat) (new:Sig):Prop:= ∀j b,new.get j=some b→id≤j∧j<id+4
def DCallW (P:Program) (G:Gl) (f:Nat) (args:List V) (σ:Sig) (id:Nat) (K:V→Sig→Prop) (_u:Tag K:= .mk) (_h:True:=trivial):Prop:=
 ∃v new,K v new∧(entT P f=true∧(NewIn id new ∧ ∀σ',Sub σ σ'→Does P G f args σ' id v (σ'++new))∨extV P f args=some v∧new=[])
def Stuck {α:Type} (_:α):Prop:=False
def resQ (op:Op) (r:PVS) (K:V→Sig→Prop):Prop:=match r with
 | some (p,v,s)=>ndW p (K v s)
 | none=>Stuck op
def calleeW (v:V) (K:Nat→List V→Prop) (Y:Nat→Prop:=fun _=>False) (B:Nat→List V→Prop:=fun _ _=>False):Prop:=match v with
 | .d (.fn k caps)=>K k (caps.map .d)
 | .fn k caps=>K k caps
 | .yl i=>Y i
 | .d (.bf k fs)=>B k (fs.map .d)
 | _=>Stuck v
def YDoes (P:Program) (G:Gl) (i:Nat) (args:List V) (σ:Sig) (id:Nat) (v:V) (σ':Sig):Prop:=
 ∀w I β nx vals b cap,Mem w I β σ nx→GOk G w I→(∀j,id≤j→j<id+4→β j=none)→id+4≤nx→DenL w I β args vals→β i=some (some (b,cap)) →
  ∃r,w.heap[b]? = some (.loop r)∧vals.length=r.params.size ∧
   RoundIn Fence.wide 0 P b r.fn ((r.params.zip vals.toArray).foldl (fun tmps (t,a)=>tmps.setIfInBounds t a) r.tmps) r.assign r.body w fun e w'=> ∃u I' β',e = .returned u∧Den w' I' β' v u∧MStep w I β σ nx w' I' β' σ' nx ∧ ∀j,¬(id≤j∧j<id+4)→β' j=β j
def YieldW (P:Program) (G:Gl) (i:Nat) (args:List V) (σ:Sig) (id:Nat) (K:V→Sig→Prop) (_u:Tag K:= .mk) (_h:True:=trivial):Prop:=
 ∃v σ',K v σ'∧YDoes P G i args σ id v σ'
def pickW (c a b:V) (K:V→Prop):Prop:=match c with
 | .d (.lit (.bool t))=>brW t (K a) (K b)
 | _=>Stuck c
def iterW (b:Blk) (K:ByteArray→Nat→Prop):Prop:=match b with
 | .iter s pos=>K s pos
 | _=>False
def nextW (x:V) (σ:Sig) (K:V→Sig→Prop):Prop:=match x with
 | .it id=>optW (σ.get id) fun b=>iterW b fun s pos=>
  brW (decide (pos<s.size)) (K (.tup [.d (.lit (.bool true)),.d (.lit (.int .i64 pos)),.d (.lit (.int .i32 (Utf8.decode s pos).1))]) (σ.set id (.iter s (pos+(Utf8.decode s pos).2)))) (K (.tup [.d (.lit (.bool false))]) σ)
 | _=>Stuck x
def quietR (P:Program) (op:Op) (g:Operand→V) (σ:Sig) (id:Nat):PVS:=match pureR P op g with
 | some (p,v)=>some (p,v,[])
 | none=>aR P op g σ id
def stepR (P:Program) (op:Op) (g:Operand→V) (σ:Sig) (id:Nat):PVS:=match quietR P op g σ id with
 | some (p,v,new)=>some (p,v,σ++new)
 | none=>eR P op g σ id
def quietW (P:Program) (G:Gl) (op:Op) (g:Operand→V) (σ:Sig) (id:Nat) (K:V→Sig→Prop):Prop:=
 match op with
 | .pick c a b=>pickW (g c) (g a) (g b) (fun v=>K v [])
 | .load t x=>loadV P t (g x) σ (fun v=>K v [])
 | .call c=>match c.callee with
  | .value f=>calleeW (g f) (fun k caps=>DCallW P G k (c.args.toList.map g++caps) σ id K) (fun _=>False) (fun k fs=>DCallW P G k (fs++(c.args.toList.map g++[])) σ id K)
  | .builtin _=>resQ op (quietR P op g σ id) K
  | .invoke _ _=>Stuck op
 | op=>resQ op (quietR P op g σ id) K
def bsW (r r2:PVS) (σ:Sig) (K:V→Sig→Prop):Prop:=match r with
 | some (p,v,new)=>ndW p (K v (σ++new))
 | none=>(match r2 with
  | some (p,v,s)=>ndW p (K v s)
  | none=>False)
def stepW (P:Program) (G:Gl) (op:Op) (g:Operand→V) (σ:Sig) (id:Nat) (K:V→Sig→Prop):Prop:=
 match op with
 | .pick c a b=>pickW (g c) (g a) (g b) (fun v=>K v σ)
 | .load t x=>loadV P t (g x) σ (fun v=>K v σ)
 | .next x isStr=>if isStr=true then nextW (g x) σ K else Stuck op
 | .call c=>match c.callee with
  | .value f=>calleeW (g f) (fun k caps=>CallW P G k (c.args.toList.map g++caps) σ id K) (fun i=>YieldW P G i (c.args.toList.map g) σ id K) (fun k fs=>CallW P G k (fs++(c.args.toList.map g++[])) σ id K)
  | .builtin _=>resQ op (stepR P op g σ id) K
  | .invoke _ _=>Stuck op
 | .buildSlice t n parts=>bsW (aR P (.buildSlice t n parts) g σ id) (sbR P t n id (parts.toList.map fun p=>(p.1,g p.2)) σ) σ K
 | op=>resQ op (stepR P op g σ id) K
def Does1 (P:Program) (o:Oper) (a:Act) (w:World) (R:Value→World→Prop):Prop:=
 match (execOp a.eval o).run P w with
 | .ok (.value u) w'=>R u w'
 | .ok .skip w'=>R undef w'
 | .ok (.enter f args) w'=>Calls P f args w' fun e w''=> ∃u,e = .returned u∧R u w''
 | .ok (.round l f tmps assign body) w'=>RoundIn Fence.wide 0 P l f tmps assign body w' fun e w''=> ∃u,e = .returned u∧R u w''
 | _=>False
def Fr (ρ:Option Nat):Fence :={ Fence.wide with round:=ρ }
theorem Does1.op {P:Program} {o:Oper} {a:Act} {w:World} {R:Value→World→Prop} (h:Does1 P o a w R) : ∀c,o.op ≠ .defer c:=by
 intro c hc
 unfold Does1 at h
 simp only [execOp,hc,Sem.run_bind] at h
 cases hr:(resolve a.eval c o.type).run P w with
 | halt x w'=>rw [hr] at h;exact h
 | ok d w'=>rw [hr] at h;exact h
theorem round_any {n n':Nat} {P:Program} {l:Nat} {f:FuncId} {tmps:Array Value} {assign body:Code} {w:World} {R:Ending→World→Prop} {ρ:Option Nat} (h:RoundIn Fence.wide n P l f tmps assign body w R):RoundIn (Fr ρ) n' P l f tmps assign body w R:=
 ⟨trivial,fun c cs _=>h.2 c cs (room_wide _)⟩
theorem calls_any {n:Nat} {P:Program} {f:FuncId} {args:Array Value} {w:World} {R:Ending→World→Prop} {ρ:Option Nat} (h:Calls P f args w R):CallsIn (Fr ρ) n P f args w R:=
 ⟨trivial,fun cs _=>(callsIn_wide (n:=n).2 h).2 cs (room_wide _)⟩
theorem Does1.wpIn {P:Program} {o:Oper} {a:Act} {w:World} {R:Value→World→Prop} {K:Act→World→Prop} {Q:Exit→Act→World→Prop} {ρ:Option Nat} (h:Does1 P o a w R) (hK : ∀u w',R u w'→K (a.put o.dst u) w'):o.wpIn (Fr ρ) 0 P a w K Q:=by
 refine ⟨fun _ _=>trivial,?_⟩
 rw [Oper.semAt_eq _ _ _ h.op]
 unfold Does1 at h
 generalize (execOp a.eval o).run P w=r at *
 cases r with
 | halt x w'=>exact h.elim
 | ok n w'=>
  cases n<;>simp only at h<;>first
   | exact hK _ _ h
   | exact h.elim
   | exact ⟨(fun e=>by cases e),(calls_any h).mono (by rintro e w'' ⟨u,rfl,hR⟩;exact hK u w'' hR)⟩
   | exact ⟨(fun e=>by cases e),(round_any h).mono (by rintro e w'' ⟨u,rfl,hR⟩;exact hK u w'' hR)⟩
theorem Does1.mono {P:Program} {o:Oper} {a:Act} {w:World} {R R':Value→World→Prop} (h:Does1 P o a w R) (hR : ∀u w',R u w'→R' u w'):Does1 P o a w R':=by
 unfold Does1 at h ⊢
 generalize (execOp a.eval o).run P w=r at *
 cases r with
 | halt x w'=>exact h.elim
 | ok n w'=>
  cases n<;>simp only at h ⊢ <;> first
   | exact hR _ _ h
   | exact h.elim
   | exact Calls.mono h (by rintro e w'' ⟨u,rfl,h⟩;exact ⟨u,rfl,hR u w'' h⟩)
   | exact RoundIn.mono h (by rintro e w'' ⟨u,rfl,h⟩;exact ⟨u,rfl,hR u w'' h⟩)
theorem Does1.of_value {P:Program} {o:Oper} {a:Act} {w w':World} {R:Value→World→Prop} {u:Value} (h:(execOp a.eval o).run P w = .ok (.value u) w') (hR:R u w'):Does1 P o a w R:=by
 unfold Does1;rw [h];exact hR
theorem Does1.of_skip {P:Program} {o:Oper} {a:Act} {w w':World} {R:Value→World→Prop} (h:(execOp a.eval o).run P w = .ok .skip w') (hR:R undef w'):Does1 P o a w R:=by
 unfold Does1;rw [h];exact hR
def StepSem (P:Program) (G:Gl) (o:Oper) (g:Operand→V) (σ:Sig) (id:Nat) (v:V) (σ':Sig):Prop:=
 ∀w I β nx a,Mem w I β σ nx→GOk G w I→(∀j,id≤j→j<id+4→β j=none)→id+4≤nx→(∀x∈o.op.operands.toList,Den w I β (g x) (a.eval x)) →
  Does1 P o a w fun u w'=> ∃I' β',Den w' I' β' v u∧MStep w I β σ nx w' I' β' σ' nx ∧ ∀j,¬(id≤j∧j<id+4)→β' j=β j
def QuietSem (P:Program) (G:Gl) (o:Oper) (g:Operand→V) (σ0:Sig) (id:Nat) (v:V) (new:Sig):Prop:= ∀σ,Sub σ0 σ→StepSem P G o g σ id v (σ++new)
section
variable {P:Program} {G:Gl} {o:Oper} {g:Operand→V} {σ:Sig} {id:Nat} {K:V→Sig→Prop}
open Classical in
noncomputable def only (o:Oper) (g:Operand→V):Operand→V:=fun x=>if x∈o.op.operands.toList then g x else .unk
theorem only_eq (x:Operand) (h:x∈o.op.operands.toList):g x=only o g x:=by unfold only;rw [if_pos h]
theorem only_den {w:World} {I:Nat→Prop} {β:Bet} {a:Act} (h : ∀x∈o.op.operands.toList,Den w I β (g x) (a.eval x)) : ∀x,Den w I β (only o g x) (a.eval x):=by
 intro x
 unfold only
 split
 ·rename_i hx;exact h x hx
 ·trivial
theorem fresh_one {β β':Bet} {id:Nat} (h : ∀j,j≠id→β' j=β j) : ∀j,¬(id≤j∧j<id+4)→β' j=β j:=fun j hj=>h j (by omega)
theorem pure_sem {p:Prop} {v:V} (h:pureR P o.op g=some (p,v)) (hp:p) (σ:Sig) (id:Nat):StepSem P G o g σ id v σ:=by
 intro w I β nx a hm _ _ _ hg
 rw [pureR_congr (g':=only o g) (fun x hx=>only_eq x hx)] at h
 obtain ⟨u,h1,h2⟩:=pureR_sound (w:=w) h hp (only_den hg)
 exact Does1.of_value h1 ⟨I,β,h2,MStep.refl hm,fun _ _=>rfl⟩
theorem get_append (σ τ:Sig) (j:Nat):Sig.get (σ++τ) j=match σ.get j with|some b=>some b|none=>τ.get j:=by
 induction σ with
 | nil=>rfl
 | cons x r ih=>
  obtain ⟨i,b⟩:=x
  show (if i=j then some b else Sig.get (r++τ) j)=_
  simp only [Sig.get]
  split
  ·rfl
  ·exact ih
theorem MStep.congr {w w':World} {I I':Nat→Prop} {β β':Bet} {σ σ' σ'':Sig} {nx nx':Nat} (h:MStep w I β σ nx w' I' β' σ' nx') (he : ∀j,σ''.get j=σ'.get j):MStep w I β σ nx w' I' β' σ'' nx':=
 { h with
  mem:=⟨fun id b hb=>h.mem.own id b (by rw [←he];exact hb),fun i j b b' k c c' h1 h2=>h.mem.inj i j b b' k c c' (by rw [←he];exact h1) (by rw [←he];exact h2),h.mem.free,h.mem.lt⟩
  own':=fun b ⟨id,blk,c,h1,h2⟩=>h.own' b ⟨id,blk,c,by rw [←he];exact h1,h2⟩ }
theorem aR_new {op:Op} {g:Operand→V} {σ:Sig} {id:Nat} {p:Prop} {v:V} {new:Sig} (h:aR P op g σ id=some (p,v,new)) : ∃blk,new=[(id,blk)]:=by
 unfold aR at h
 split at h
 ·split at h
  ·split at h
   ·injection h with h;injection h with _ h;injection h with _ h;exact ⟨_,h.symm⟩
   ·cases h
  ·cases h
 ·split at h
  ·injection h with h;injection h with _ h;injection h with _ h;exact ⟨_,h.symm⟩
  ·cases h
 ·split at h
  ·split at h
   ·injection h with h;injection h with _ h;injection h with _ h;exact ⟨_,h.symm⟩
   ·cases h
  ·cases h
 ·split at h
  ·injection h with h;injection h with _ h;injection h with _ h;exact ⟨_,h.symm⟩
  ·cases h
 ·split at h
  ·injection h with h;injection h with _ h;injection h with _ h;exact ⟨_,h.symm⟩
  ·cases h
 ·split at h
  ·unfold appA at h
   split at h
   ·split at h
    ·split at h
     ·split at h
      ·injection h with h;injection h with _ h;injection h with _ h;exact ⟨_,h.symm⟩
      ·split at h
       ·injection h with h;injection h with _ h;injection h with _ h;exact ⟨_,h.symm⟩
       ·cases h
      ·cases h
     ·cases h
    ·cases h
   ·cases h
  ·cases h
 ·injection h with h;injection h with _ h;injection h with _ h;exact ⟨_,h.symm⟩
 ·cases h
theorem alloc_sem {p:Prop} {v:V} {new σ0:Sig} (h:aR P o.op g σ0 id=some (p,v,new)) (hp:p):QuietSem P G o g σ0 id v new:=by
 intro σ hs w I β nx a hm _ hf hnx hg
 rw [aR_congr (g':=only o g) (fun x hx=>only_eq x hx)] at h
 obtain ⟨u,w',β',h1,h2,h3,h4⟩:=aR_sound h hp hm hs (hf id (Nat.le_refl _) (by omega)) (by omega) (only_den hg)
 obtain ⟨blk,rfl⟩:=aR_new h
 have h0:=hm.get_none (hf id (Nat.le_refl _) (by omega))
 refine Does1.of_value h1 ⟨I,β',h2,h3.congr (fun j =>?_),fresh_one h4⟩
 rw [get_append]
 show _=if id=j then some blk else σ.get j
 by_cases hj:id=j
 ·subst hj;rw [h0];simp [Sig.get]
 ·simp only [hj,if_false]
  cases σ.get j<;>simp [Sig.get,hj]
theorem eff_sem {p:Prop} {v:V} {σ':Sig} (h:eR P o.op g σ id=some (p,v,σ')) (hp:p):StepSem P G o g σ id v σ':=by
 intro w I β nx a hm _ hf hnx hg
 rw [eR_congr (g':=only o g) (fun x hx=>only_eq x hx)] at h
 obtain ⟨u,w',β',h1,h2,h3,h4⟩:=eR_sound h hp hm (hf id (Nat.le_refl _) (by omega)) (by omega) (only_den hg)
 rcases h1 with h1|⟨h1,rfl⟩
 ·exact Does1.of_value h1 ⟨I,β',h2,h3,fresh_one h4⟩
 ·exact Does1.of_skip h1 ⟨I,β',h2,h3,fresh_one h4⟩
theorem quietR_sem {p:Prop} {v:V} {new σ0:Sig} (h:quietR P o.op g σ0 id=some (p,v,new)) (hp:p):QuietSem P G o g σ0 id v new:=by
 unfold quietR at h
 split at h
 ·rename_i p' v' h1
  injection h with h;injection h with e1 h;injection h with e2 e3;subst e1;subst e2;subst e3
  intro σ _
  rw [List.append_nil]
  exact pure_sem h1 hp σ id
 ·exact alloc_sem h hp
theorem stepR_sem {p:Prop} {v:V} {σ':Sig} (h:stepR P o.op g σ id=some (p,v,σ')) (hp:p):StepSem P G o g σ id v σ':=by
 unfold stepR at h
 split at h
 ·rename_i p' v' new h1
  injection h with h;injection h with e1 h;injection h with e2 e3;subst e1;subst e2;subst e3
  exact quietR_sem h1 hp σ (fun _ _ h=>h)
 ·exact eff_sem h hp
theorem resQ_sound {op:Op} {r:PVS} (h:resQ op r K) : ∃p v s,r=some (p,v,s)∧p∧K v s:=by
 unfold resQ at h
 split at h
 ·exact ⟨_,_,_,rfl,h.1,h.2⟩
 ·exact h.elim
theorem pick_sem {c x y:Operand} (ho:o.op = .pick c x y) {K:V→Prop} (h:pickW (g c) (g x) (g y) K) : ∃v,K v ∧ ∀(σ:Sig) (id:Nat),StepSem P G o g σ id v σ:=by
 unfold pickW at h
 split at h
 ·rename_i t hc
  have key : ∀(b:Bool),b=t → ∀(σ:Sig) (id:Nat),StepSem P G o g σ id (if b=true then g x else g y) σ:=by
   rintro b rfl σ id w I β nx a hm _ _ _ hg
   have h1:=hg c (by simp [ho,Op.operands])
   rw [hc] at h1
   have h2:=den_lit h1
   refine Does1.of_value (u:=if b=true then a.eval x else a.eval y) (by simp [execOp,ho,h2,asBool]) ⟨I,β,?_,MStep.refl hm,fun _ _=>rfl⟩
   cases b with
   | true=>exact hg x (by simp [ho,Op.operands])
   | false=>exact hg y (by simp [ho,Op.operands])
  cases t with
  | true=>exact ⟨g x,h.1 rfl,key true rfl⟩
  | false=>exact ⟨g y,h.2 rfl,key false rfl⟩
 ·exact h.elim
theorem load_sem {t:Nat} {x:Operand} (ho:o.op = .load t x) {K:V→Prop} {σ0:Sig} (h:loadV P t (g x) σ0 K) (id:Nat) : ∃v,K v∧QuietSem P G o g σ0 id v []:=by
 obtain ⟨v,h1,h2⟩:=loadV_sound h
 refine ⟨v,h1,fun σ hs =>?_⟩
 rw [List.append_nil]
 intro w I β nx a hm _ _ _ hg
 obtain ⟨u,h3,h4⟩:=h2 w I β σ nx (a.eval x) hm hs (hg x (by simp [ho,Op.operands]))
 exact Does1.of_value (by simp [execOp,ho,h3]) ⟨I,β,h4,MStep.refl hm,fun _ _=>rfl⟩
theorem MStep.iter {w:World} {I:Nat→Prop} {β:Bet} {nx:Nat} (hm:Mem w I β σ nx) {i b cap pos:Nat} {s:ByteArray} (hg:σ.get i=some (.iter s pos)) (hb:β i=some (some (b,cap))) (q:Nat) :
 MStep w I β σ nx { w with heap:=w.heap.setIfInBounds b (.stringIter s q) } I β (σ.set i (.iter s q)) nx:=by
 have hs:(σ.get i).isSome=true:=by rw [hg];rfl
 have hbl:=((hm.own i _ hg).not_imm hb)
 have hnb : ∀k,k≠b→({ w with heap:=w.heap.setIfInBounds b (.stringIter s q) } : World).heap[k]? = w.heap[k]? :=fun k hk=>by simp [Array.getElem?_setIfInBounds_ne (Ne.symm hk)]
 refine ⟨⟨fun j bl hj =>?_,fun j j' bl bl' k c c' h1 h2 h3 h4 =>?_,hm.free,fun k hk=>by simpa using hm.lt k hk⟩,rfl,rfl,rfl,by simp,fun k _ ho=>hnb k (fun e=>ho ⟨i,_,cap,hg,by rw [e];exact hb⟩),fun _ h=>h,fun _ h=> .inl h,fun _ _ h=>h,Nat.le_refl _,fun k ⟨j,bl,c,h1,h2⟩ =>?_⟩
 ·rw [Sig.get_set hs] at hj
  split at hj
  ·rename_i e;subst e;injection hj with hj;subst hj
   exact ⟨b,cap,hb,by simp [hbl.2],hbl.1⟩
  ·rename_i hne
   refine (hm.own j bl hj).keep (fun k hk=>hnb k ?_) (fun _ h=>h) (fun k c hk=>((hm.own j bl hj).not_imm hk).1) (fun _ _ h=>h)
   rintro rfl
   rcases hk with hk|⟨c,hk⟩
   ·exact hbl.1 hk
   ·exact hne (hm.inj j i bl _ k c cap hj hg hk hb)
 ·rw [Sig.get_set hs] at h1 h2
  have g1 : ∃x,σ.get j=some x:=by
   split at h1
   ·rename_i e;subst e;exact ⟨_,hg⟩
   ·exact ⟨_,h1⟩
  have g2 : ∃x,σ.get j'=some x:=by
   split at h2
   ·rename_i e;subst e;exact ⟨_,hg⟩
   ·exact ⟨_,h2⟩
  obtain ⟨x,g1⟩:=g1
  obtain ⟨y,g2⟩:=g2
  exact hm.inj j j' x y k c c' g1 g2 h3 h4
 ·rw [Sig.get_set hs] at h1
  split at h1
  ·rename_i e;subst e;exact .inl ⟨j,_,c,hg,h2⟩
  ·exact .inl ⟨j,bl,c,h1,h2⟩
theorem next_sem {x:Operand} (ho:o.op = .next x true) (h:nextW (g x) σ K) (id:Nat) : ∃v σ',K v σ'∧StepSem P G o g σ id v σ':=by
 unfold nextW at h
 split at h
 ·rename_i i hx
  obtain ⟨b,hb,h⟩:=optW_sound h
  unfold iterW at h
  split at h
  ·rename_i s pos
   have base : ∀w I β nx (a:Act),Mem w I β σ nx→(∀y∈o.op.operands.toList,Den w I β (g y) (a.eval y)) → ∃r cap,a.eval x = .pointer (some ⟨r,0,none⟩)∧β i=some (some (r,cap))∧w.heap[r]? = some (.stringIter s pos):=by
    intro w I β nx a hm hg
    have h1:=hg x (by simp [ho,Op.operands])
    rw [hx] at h1
    obtain ⟨r,cap,h2,h3⟩:=h1
    obtain ⟨r',cap',q1,q2,q3⟩:=hm.own i _ hb
    rw [h2] at q1;injection q1 with q1;injection q1 with q1;injection q1 with q1 _;subst q1
    exact ⟨r,cap,h3,h2,q2⟩
   by_cases hlt:pos<s.size
   ·refine ⟨_,_,h.1 (by simpa using hlt),fun w I β nx a hm _ _ _ hg =>?_⟩
    obtain ⟨r,cap,e1,e2,e3⟩:=base w I β nx a hm hg
    refine Does1.of_value (u:= .tuple #[.bool true,.int .i64 pos,.int .i32 (Utf8.decode s pos).1]) (w' :={ w with heap:=w.heap.setIfInBounds r (.stringIter s (pos+(Utf8.decode s pos).2)) }) ?_ ⟨I,β,?_,MStep.iter hm hb e2 _,fun _ _=>rfl⟩
    ·simp [execOp,ho,Instr.next,e1,getObj,setObj,Sem.run,e3,hlt,goInt]
    ·refine ⟨[.bool true,.int .i64 pos,.int .i32 (Utf8.decode s pos).1],rfl,rfl,fun j c v hc hv =>?_⟩
     match j,hc,hv with
     | 0,hc,hv=>simp at hc hv;subst hc;subst hv;exact DenD.lit _
     | 1,hc,hv=>simp at hc hv;subst hc;subst hv;exact DenD.lit _
     | 2,hc,hv=>simp at hc hv;subst hc;subst hv;exact DenD.lit _
   ·refine ⟨_,_,h.2 (by simpa using hlt),fun w I β nx a hm _ _ _ hg =>?_⟩
    obtain ⟨r,cap,e1,e2,e3⟩:=base w I β nx a hm hg
    refine Does1.of_value (u:= .tuple #[.bool false]) (w':=w) ?_ ⟨I,β,?_,MStep.refl hm,fun _ _=>rfl⟩
    ·simp [execOp,ho,Instr.next,e1,getObj,Sem.run,e3,hlt]
    ·refine ⟨[.bool false],rfl,rfl,fun j c v hc hv =>?_⟩
     match j,hc,hv with
     | 0,hc,hv=>simp at hc hv;subst hc;subst hv;exact DenD.lit _
  ·exact h.elim
 ·exact h.elim
theorem run_callFunc {f:Nat} (h:entT P f=true) (args:Array Value) (w:World):(callFunc f args).run P w = .ok (.enter f args) w:=by
 unfold entT at h
 split at h
 ·rename_i fn hf
  simp only [Bool.and_eq_true,Bool.not_eq_true',beq_eq_false_iff_ne] at h
  obtain ⟨c,hb⟩:=Option.isSome_iff_exists.1 h.1
  simp [callFunc,hf,hb,h.2]
 ·cases h
theorem ext_not {P:Program} {f:Nat} {args:List V} (h:entT P f=true):extV P f args=none:=by
 unfold entT at h
 unfold extV
 split at h
 ·rename_i fn hf
  rw [if_neg]
  intro hc
  have h1:=hc.1
  cases hb:fn.body<;>simp [hb] at h h1
 ·cases h
theorem ext_find {fn:Func} {n:String} {e:Array Value→Sem Value} (hn:fn.name=n) (h1:Extern.allGenericRows.lookup n=none) (h2:Extern.allTypedRows.lookup n=none) (h3:Extern.allRows.lookup n=some e):Extern.find fn=some e:=by
 simp [Extern.find,hn,h1,h2,h3]
theorem run_ext {f:Nat} {args:List V} {v:V} {w:World} {I:Nat→Prop} {β:Bet} {vals:List Value} (h:extV P f args=some v) (hd:DenL w I β args vals) : ∃u,(callFunc f vals.toArray).run P w = .ok (.value u) w∧Den w I β v u:=by
 unfold extV at h
 split at h
 rotate_left
 ·cases h
 rename_i fn hf
 split at h
 rotate_left
 ·cases h
 rename_i hb0
 obtain ⟨hb,hx⟩:=hb0
 have hx:Extern.findNext fn=none:=by simpa using hx
 have one : ∀ {x:V} {l:List Value},DenL w I β [x] l → ∃y,l=[y]∧Den w I β x y:=by
  rintro x l ⟨hl,hx⟩
  match l,hl with
  | [y],_=>exact ⟨y,rfl,hx 0 _ _ rfl rfl⟩
 have two : ∀ {x x':V} {l:List Value},DenL w I β [x,x'] l → ∃y y',l=[y,y']∧Den w I β x y∧Den w I β x' y':=by
  rintro x x' l ⟨hl,hx⟩
  match l,hl with
  | [y,y'],_=>exact ⟨y,y',rfl,hx 0 _ _ rfl rfl,hx 1 _ _ rfl rfl⟩
 have go : ∀ {n:String} {e:Array Value→Sem Value} {u:Value},fn.name=n→(n == "runtime.NumGoroutine")=false→Extern.allGenericRows.lookup n=none→Extern.allTypedRows.lookup n=none→Extern.allRows.lookup n=some e →
  (e vals.toArray).run P w = .ok u w→(callFunc f vals.toArray).run P w = .ok (.value u) w:=by
  intro n e u hn hne h1 h2 h3 he
  rw [run_callFunc_extern hf (by rw [hn];exact hne) hb hx (ext_find hn h1 h2 h3),he]
  rfl
 unfold extA at h
 split at h
 ·rename_i hn
  split at h
  ·rename_i x
   injection h with h;subst h
   obtain ⟨y,rfl,hy⟩:=one hd
   exact ⟨y,go hn (by kernel_rfl) (by kernel_rfl) (by kernel_rfl) (e:=Extern.AbiNoEscape.same) (by kernel_rfl) rfl,hy⟩
  ·cases h
 ·split at h
  ·rename_i hn
   split at h
   ·rename_i s c
    injection h with h;subst h
    obtain ⟨y,y',rfl,hy,hy'⟩:=two hd
    have:=den_lit hy;subst this
    have:=den_lit hy';subst this
    exact ⟨_,go hn (by kernel_rfl) (by kernel_rfl) (by kernel_rfl) (e:=Extern.BytealgIndexByte.indexByte) (by kernel_rfl) (run_indexByte_string s c w),DenD.lit _⟩
   ·cases h
  ·split at h
   ·rename_i hn
    split at h
    ·rename_i s c
     injection h with h;subst h
     obtain ⟨y,y',rfl,hy,hy'⟩:=two hd
     have:=den_lit hy;subst this
     have:=den_lit hy';subst this
     exact ⟨_,go hn (by kernel_rfl) (by kernel_rfl) (by kernel_rfl) (e:=Extern.BytealgCount.count) (by kernel_rfl) (run_count_string s c w),DenD.lit _⟩
    ·cases h
   ·cases h
theorem callee_den {w:World} {I:Nat→Prop} {β:Bet} {v:V} {x:Value} {K:Nat→List V→Prop} (h:calleeW v K) : ∃k caps,K k caps∧(Den w I β v x → ∃cv:List Value,x = .func (.func k) #[] cv.toArray∧DenL w I β caps cv):=by
 unfold calleeW at h
 split at h
 ·rename_i k caps
  refine ⟨k,_,h,fun hd =>?_⟩
  obtain ⟨vs,rfl,hl,hds⟩:=den_fnD hd
  refine ⟨vs,rfl,by simpa using hl,fun i c y hc hy =>?_⟩
  simp only [List.getElem?_map,Option.map_eq_some_iff] at hc
  obtain ⟨z,hz,rfl⟩:=hc
  exact hds i z y hz hy
 ·rename_i k caps
  refine ⟨k,_,h,fun hd =>?_⟩
  obtain ⟨vs,rfl,hl,hds⟩:=(show ∃vs:List Value,x = .func (.func k) #[] vs.toArray∧DenAs w I β caps vs from hd)
  refine ⟨vs,rfl,hl,fun i c y hc hy =>?_⟩
  have:=hds i c y hc hy
  cases c<;>first|exact this|exact this.elim
 ·exact h.elim
 ·exact h.elim
 ·exact h.elim
theorem callee_bf {w:World} {I:Nat→Prop} {β:Bet} {k:Nat} {fs:List D} {x:Value} (h:Den w I β (.d (.bf k fs)) x) : ∃pv cv:List Value,x = .func (.func k) pv.toArray cv.toArray∧DenL w I β (fs.map .d) pv∧DenL w I β [] cv:=by
 obtain ⟨vs,rfl,hl,hds⟩:=den_bf h
 refine ⟨vs,[],rfl,⟨by simpa using hl,fun i c y hc hy =>?_⟩,rfl,fun i c y hc hy=>by simp at hc⟩
 simp only [List.getElem?_map,Option.map_eq_some_iff] at hc
 obtain ⟨z,hz,rfl⟩:=hc
 exact hds i z y hz hy
theorem DenL.append {w:World} {I:Nat→Prop} {β:Bet} {a b:List V} {x y:List Value} (h:DenL w I β a x) (k:DenL w I β b y):DenL w I β (a++b) (x++y):=by
 refine ⟨by simp [h.1,k.1],fun i c v hc hv =>?_⟩
 rw [List.getElem?_append] at hc hv
 rw [←h.1] at hv
 split at hc
 ·rename_i hlt;rw [if_pos hlt] at hv;exact h.2 i c v hc hv
 ·rename_i hlt;rw [if_neg hlt] at hv;exact k.2 _ c v hc hv
theorem denL_args {w:World} {I:Nat→Prop} {β:Bet} {a:Act} {l:List Operand} (h : ∀x∈l,Den w I β (g x) (a.eval x)):DenL w I β (l.map g) (l.map a.eval):=by
 refine ⟨by simp,fun i c v hc hv =>?_⟩
 simp only [List.getElem?_map,Option.map_eq_some_iff] at hc hv
 obtain ⟨x,hx,rfl⟩:=hc
 obtain ⟨y,hy,rfl⟩:=hv
 rw [hx] at hy;injection hy with hy;subst hy
 exact h x (List.mem_of_getElem? hx)
theorem call_semP {c:Call} {f:Operand} {k:Nat} {pre caps:List V} {v:V} {σ':Sig} (ho:o.op = .call c) (hc:c.callee = .value f) (he:entT P k=true) (hd:Does P G k (pre++(c.args.toList.map g++caps)) σ id v σ')
 (hcal : ∀w I β x,Den w I β (g f) x → ∃pv cv:List Value,x = .func (.func k) pv.toArray cv.toArray∧DenL w I β pre pv∧DenL w I β caps cv):StepSem P G o g σ id v σ':=by
 intro w I β nx a hm hG hf hnx hg
 have hops : ∀x,x=f∨x∈c.args.toList→x∈o.op.operands.toList:=by
  intro x hx
  simp [ho,Op.operands,Call.operands,hc]
  rcases hx with h|h
  ·exact .inl h
  ·exact .inr (by simpa using h)
 obtain ⟨pv,cv,e1,e0,e2⟩:=hcal w I β (a.eval f) (hg f (hops f (.inl rfl)))
 have hargs:=e0.append<|(denL_args (g:=g) (a:=a) (l:=c.args.toList) (fun x hx=>hg x (hops x (.inr hx)))).append e2
 have hcall:=hd w I β nx _ hm hG hf hnx hargs
 have hrun:(execOp a.eval o).run P w = .ok (.enter k (pv++(c.args.toList.map a.eval++cv)).toArray) w:=by
  simp only [execOp,ho,resolve,hc,e1,Deferred.ofValue,Sem.run_bind,Sem.run_pure,Result.andThen_ok,invoke]
  rw [show (pv.toArray++Array.map a.eval c.args++cv.toArray)=(pv++(c.args.toList.map a.eval++cv)).toArray from by apply Array.toList_inj.1;simp]
  exact run_callFunc he _ w
 unfold Does1
 rw [hrun]
 exact hcall.mono fun e w' ⟨u,I',β',h1,h2,h3,h4⟩=>⟨u,h1,I',β',h2,h3,h4⟩
theorem call_sem {c:Call} {f:Operand} {k:Nat} {caps:List V} {v:V} {σ':Sig} (ho:o.op = .call c) (hc:c.callee = .value f) (he:entT P k=true) (hd:Does P G k (c.args.toList.map g++caps) σ id v σ')
 (hcal : ∀w I β x,Den w I β (g f) x → ∃cv:List Value,x = .func (.func k) #[] cv.toArray∧DenL w I β caps cv):StepSem P G o g σ id v σ':=
 call_semP (pre:=[]) ho hc he hd fun w I β x h=>match hcal w I β x h with|⟨cv,e,d⟩=>⟨[],cv,e,⟨rfl,fun i c y hc hy=>by simp at hc⟩,d⟩
theorem yield_sem {c:Call} {f:Operand} {i:Nat} {v:V} {σ':Sig} (ho:o.op = .call c) (hc:c.callee = .value f) (hf:g f = .yl i) (hd:YDoes P G i (c.args.toList.map g) σ id v σ'):StepSem P G o g σ id v σ':=by
 intro w I β nx a hm hG hfr hnx hg
 have hops : ∀x,x=f∨x∈c.args.toList→x∈o.op.operands.toList:=by
  intro x hx
  simp [ho,Op.operands,Call.operands,hc]
  rcases hx with h|h
  ·exact .inl h
  ·exact .inr (by simpa using h)
 have h0:=hg f (hops f (.inl rfl))
 rw [hf] at h0
 obtain ⟨b,cap,hb,e1⟩:=h0
 have hargs:=denL_args (g:=g) (a:=a) (l:=c.args.toList) (fun x hx=>hg x (hops x (.inr hx)))
 obtain ⟨r,hr,hl,hround⟩:=hd w I β nx _ b cap hm hG hfr hnx hargs hb
 have hrun:(execOp a.eval o).run P w = .ok (.round b r.fn ((r.params.zip (c.args.toList.map a.eval).toArray).foldl (fun tmps (t,a)=>tmps.setIfInBounds t a) r.tmps) r.assign r.body) w:=by
  simp only [execOp,ho,resolve,hc,e1,Deferred.ofValue,Sem.run_bind,Sem.run_pure,Result.andThen_ok,invoke]
  have e3:(#[]++Array.map a.eval c.args)=(c.args.toList.map a.eval).toArray:=by
   apply Array.toList_inj.1;simp
  rw [e3]
  exact run_yield hr (by simpa using hl)
 unfold Does1
 rw [hrun]
 exact hround.mono fun e w' ⟨u,I',β',h1,h2,h3,h4⟩=>⟨u,h1,I',β',h2,h3,h4⟩
theorem ext_semP {c:Call} {f:Operand} {k:Nat} {pre caps:List V} {v:V} (ho:o.op = .call c) (hc:c.callee = .value f) (he:extV P k (pre++(c.args.toList.map g++caps))=some v)
 (hcal : ∀w I β x,Den w I β (g f) x → ∃pv cv:List Value,x = .func (.func k) pv.toArray cv.toArray∧DenL w I β pre pv∧DenL w I β caps cv) (σ:Sig) (id:Nat):StepSem P G o g σ id v σ:=by
 intro w I β nx a hm hG hf hnx hg
 have hops : ∀x,x=f∨x∈c.args.toList→x∈o.op.operands.toList:=by
  intro x hx
  simp [ho,Op.operands,Call.operands,hc]
  rcases hx with h|h
  ·exact .inl h
  ·exact .inr (by simpa using h)
 obtain ⟨pv,cv,e1,e0,e2⟩:=hcal w I β (a.eval f) (hg f (hops f (.inl rfl)))
 have hargs:=e0.append<|(denL_args (g:=g) (a:=a) (l:=c.args.toList) (fun x hx=>hg x (hops x (.inr hx)))).append e2
 obtain ⟨u,hu,hd⟩:=run_ext (w:=w) (I:=I) (β:=β) he hargs
 refine Does1.of_value (u:=u) (w':=w) ?_ ⟨I,β,hd,MStep.refl hm,fun _ _=>rfl⟩
 simp only [execOp,ho,resolve,hc,e1,Deferred.ofValue,Sem.run_bind,Sem.run_pure,Result.andThen_ok,invoke]
 rw [show (pv.toArray++Array.map a.eval c.args++cv.toArray)=(pv++(c.args.toList.map a.eval++cv)).toArray from by apply Array.toList_inj.1;simp]
 exact hu
theorem ext_sem {c:Call} {f:Operand} {k:Nat} {caps:List V} {v:V} (ho:o.op = .call c) (hc:c.callee = .value f) (he:extV P k (c.args.toList.map g++caps)=some v)
 (hcal : ∀w I β x,Den w I β (g f) x → ∃cv:List Value,x = .func (.func k) #[] cv.toArray∧DenL w I β caps cv) (σ:Sig) (id:Nat):StepSem P G o g σ id v σ:=
 ext_semP (pre:=[]) ho hc he (fun w I β x h=>match hcal w I β x h with|⟨cv,e,d⟩=>⟨[],cv,e,⟨rfl,fun i c y hc hy=>by simp at hc⟩,d⟩) σ id
theorem sb0_sem {g:Operand→V} {σ:Sig} {t n:Nat} {parts:Array (Nat × Operand)} (ho:o.op = .buildSlice t n parts) {p:Prop} {v:V} {s:Sig} (h:sb0 P t n id (parts.toList.map fun p=>(p.1,g p.2)) σ=some (p,v,s)) (hp:p):StepSem P G o g σ id v s:=by
 unfold sb0 at h
 split at h
 ·rename_i k b es h1 h2
  split at h
  ·rename_i hc
   injection h with h;injection h with e1 h;injection h with e2 e3
   subst e1 e2 e3
   have hr:aR P o.op g σ id=some (allFit k es,.so id k 0 n,[(id,.row k es)]):=by
    rw [ho]
    simp only [aR,h1,h2]
    rw [if_pos hc]
   exact alloc_sem hr hp σ (fun _ _ h=>h)
  ·cases h
 ·cases h
theorem sb1_sem {F:List (Nat × V)→Sig→PVS} {parts:List (Nat × Operand)} (hF : ∀(g:Operand→V) (σ:Sig) (v:V) (s:Sig) (p:Prop),F (parts.map fun p=>(p.1,g p.2)) σ=some (p,v,s)→p→StepSem P G o g σ id v s)
 {g:Operand→V} {σ:Sig} {p:Prop} {v:V} {s:Sig} (h:sb1 F (parts.map fun p=>(p.1,g p.2)) σ=some (p,v,s)) (hp:p):StepSem P G o g σ id v s:=by
 unfold sb1 at h
 split at h
 ·rename_i i hi
  split at h
  ·rename_i blk hb
   rw [frzP_map] at h
   have hs:=hF (fun x=>(g x).frz i blk) (σ.frz i blk) v s p h hp
   intro w I β nx a hm hG hf hnx hg
   obtain ⟨st,hset⟩:=frz_step hm hb
   refine (hs w _ β nx a st.mem (fun g x hx=>(hG g x hx).keep (fun _ _=>rfl) (fun b hb=> .inl hb)) hf hnx (fun x hx=>hset.den (hg x hx))).mono ?_
   rintro u w' ⟨I2,β2,e1,e2,e3⟩
   exact ⟨I2,β2,e1,st.trans e2,e3⟩
  ·cases h
 ·exact hF g σ v s p h hp
theorem stepW_sound (h:stepW P G o.op g σ id K) : ∃v σ',K v σ'∧StepSem P G o g σ id v σ':=by
 unfold stepW at h
 split at h
 case h_1 c x y ho=>
  obtain ⟨v,h1,h2⟩:=pick_sem ho h
  exact ⟨v,σ,h1,h2 σ id⟩
 case h_2 t x ho=>
  obtain ⟨v,h1,h2⟩:=load_sem (G:=G) ho h id
  exact ⟨v,σ,h1,by simpa using h2 σ (fun _ _ h=>h)⟩
 case h_3 x isStr ho=>
  split at h
  ·rename_i hs;subst hs;exact next_sem ho h id
  ·exact h.elim
 case h_4 c ho=>
  split at h
  ·rename_i f hc
   unfold calleeW at h
   split at h
   ·rename_i k caps hk
    obtain ⟨v,σ',h1,h2⟩:=h
    have hcal : ∀w I β x,Den w I β (g f) x → ∃cv:List Value,x = .func (.func k) #[] cv.toArray∧DenL w I β (caps.map .d) cv:=fun w I β x hd=>by
     rw [hk] at hd
     obtain ⟨k',caps',e1,e2⟩:=callee_den (w:=w) (I:=I) (β:=β) (x:=x) (v:= .d (.fn k caps)) (K:=fun a b=>a=k∧b=caps.map .d) ⟨rfl,rfl⟩
     obtain ⟨rfl,rfl⟩:=e1
     exact e2 hd
    rcases h2 with ⟨h2,h3⟩|⟨h2,rfl⟩
    ·exact ⟨v,σ',h1,call_sem ho hc h2 h3 hcal⟩
    ·exact ⟨v,_,h1,ext_sem ho hc h2 hcal _ _⟩
   ·rename_i k caps hk
    obtain ⟨v,σ',h1,h2⟩:=h
    have hcal : ∀w I β x,Den w I β (g f) x → ∃cv:List Value,x = .func (.func k) #[] cv.toArray∧DenL w I β caps cv:=fun w I β x hd=>by
     rw [hk] at hd
     obtain ⟨k',caps',e1,e2⟩:=callee_den (w:=w) (I:=I) (β:=β) (x:=x) (v:= .fn k caps) (K:=fun a b=>a=k∧b=caps) ⟨rfl,rfl⟩
     obtain ⟨rfl,rfl⟩:=e1
     exact e2 hd
    rcases h2 with ⟨h2,h3⟩|⟨h2,rfl⟩
    ·exact ⟨v,σ',h1,call_sem ho hc h2 h3 hcal⟩
    ·exact ⟨v,_,h1,ext_sem ho hc h2 hcal _ _⟩
   ·rename_i i hi
    obtain ⟨v,σ',h1,h2⟩:=h
    exact ⟨v,σ',h1,yield_sem ho hc hi h2⟩
   ·rename_i k fs hk
    obtain ⟨v,σ',h1,h2⟩:=h
    have hcal : ∀w I β x,Den w I β (g f) x → ∃pv cv:List Value,x = .func (.func k) pv.toArray cv.toArray∧DenL w I β (fs.map .d) pv∧DenL w I β [] cv:=fun w I β x hd=>callee_bf (hk▸hd)
    rcases h2 with ⟨h2,h3⟩|⟨h2,rfl⟩
    ·exact ⟨v,σ',h1,call_semP ho hc h2 h3 hcal⟩
    ·exact ⟨v,_,h1,ext_semP ho hc h2 hcal _ _⟩
   ·exact h.elim
  ·obtain ⟨p,v,s,h1,h2,h3⟩:=resQ_sound h
   exact ⟨v,s,h3,stepR_sem h1 h2⟩
  ·exact h.elim
 case h_5 t n parts ho=>
  unfold bsW at h
  split at h
  ·rename_i p v new hr
   rw [←ho] at hr
   exact ⟨v,_,h.2,alloc_sem hr h.1 σ (fun _ _ h=>h)⟩
  ·split at h
   ·rename_i p v s hr
    exact ⟨v,s,h.2,sb1_sem (fun g' σ' v' s' p' hp'=>sb1_sem (fun g' σ' v' s' p' hp'=>sb1_sem (fun g' σ' v' s' p' hp'=>sb0_sem ho hp') hp') hp') hr h.1⟩
   ·exact h.elim
 case h_6 _ _ _ _ _=>
  obtain ⟨p,v,s,h1,h2,h3⟩:=resQ_sound h
  exact ⟨v,s,h3,stepR_sem h1 h2⟩
theorem newIn_nil (id:Nat):NewIn id []:=fun _ _ h=>by simp [Sig.get] at h
theorem quietR_newIn {op:Op} {p:Prop} {v:V} {new:Sig} (h:quietR P op g σ id=some (p,v,new)):NewIn id new:=by
 unfold quietR at h
 split at h
 ·injection h with h;injection h with _ h;injection h with _ h;subst h;exact newIn_nil id
 ·obtain ⟨blk,rfl⟩:=aR_new h
  intro j b hj
  simp only [Sig.get] at hj
  split at hj
  ·omega
  ·cases hj
theorem quietW_sound (h:quietW P G o.op g σ id K) : ∃v new,K v new∧NewIn id new∧QuietSem P G o g σ id v new:=by
 unfold quietW at h
 split at h
 case h_1 c x y ho=>
  obtain ⟨v,h1,h2⟩:=pick_sem (G:=G) ho h
  exact ⟨v,[],h1,newIn_nil id,fun s _=>by simpa using h2 s id⟩
 case h_2 t x ho=>
  obtain ⟨v,h1,h2⟩:=load_sem (G:=G) ho h id
  exact ⟨v,[],h1,newIn_nil id,h2⟩
 case h_3 c ho=>
  split at h
  ·rename_i f hc
   unfold calleeW at h
   split at h
   ·rename_i k caps hk
    obtain ⟨v,new,h1,h2⟩:=h
    have hcal : ∀w I β x,Den w I β (g f) x → ∃cv:List Value,x = .func (.func k) #[] cv.toArray∧DenL w I β (caps.map .d) cv:=fun w I β x hd=>by
     rw [hk] at hd
     obtain ⟨k',caps',e1,e2⟩:=callee_den (w:=w) (I:=I) (β:=β) (x:=x) (v:= .d (.fn k caps)) (K:=fun a b=>a=k∧b=caps.map .d) ⟨rfl,rfl⟩
     obtain ⟨rfl,rfl⟩:=e1
     exact e2 hd
    rcases h2 with ⟨h2,hn,h3⟩|⟨h2,rfl⟩
    ·exact ⟨v,new,h1,hn,fun s hs=>call_sem ho hc h2 (h3 s hs) hcal⟩
    ·exact ⟨v,[],h1,newIn_nil id,fun s hs=>by simpa using ext_sem ho hc h2 hcal s id⟩
   ·rename_i k caps hk
    obtain ⟨v,new,h1,h2⟩:=h
    have hcal : ∀w I β x,Den w I β (g f) x → ∃cv:List Value,x = .func (.func k) #[] cv.toArray∧DenL w I β caps cv:=fun w I β x hd=>by
     rw [hk] at hd
     obtain ⟨k',caps',e1,e2⟩:=callee_den (w:=w) (I:=I) (β:=β) (x:=x) (v:= .fn k caps) (K:=fun a b=>a=k∧b=caps) ⟨rfl,rfl⟩
     obtain ⟨rfl,rfl⟩:=e1
     exact e2 hd
    rcases h2 with ⟨h2,hn,h3⟩|⟨h2,rfl⟩
    ·exact ⟨v,new,h1,hn,fun s hs=>call_sem ho hc h2 (h3 s hs) hcal⟩
    ·exact ⟨v,[],h1,newIn_nil id,fun s hs=>by simpa using ext_sem ho hc h2 hcal s id⟩
   ·exact h.elim
   ·rename_i k fs hk
    obtain ⟨v,new,h1,h2⟩:=h
    have hcal : ∀w I β x,Den w I β (g f) x → ∃pv cv:List Value,x = .func (.func k) pv.toArray cv.toArray∧DenL w I β (fs.map .d) pv∧DenL w I β [] cv:=fun w I β x hd=>callee_bf (hk▸hd)
    rcases h2 with ⟨h2,hn,h3⟩|⟨h2,rfl⟩
    ·exact ⟨v,new,h1,hn,fun s hs=>call_semP ho hc h2 (h3 s hs) hcal⟩
    ·exact ⟨v,[],h1,newIn_nil id,fun s hs=>by simpa using ext_semP ho hc h2 hcal s id⟩
   ·exact h.elim
  ·obtain ⟨p,v,s,h1,h2,h3⟩:=resQ_sound h
   exact ⟨v,s,h3,quietR_newIn h1,quietR_sem h1 h2⟩
  ·exact h.elim
 case h_4 _ _ _=>
  obtain ⟨p,v,s,h1,h2,h3⟩:=resQ_sound h
  exact ⟨v,s,h3,quietR_newIn h1,quietR_sem h1 h2⟩
end
def Env.put (e:Env) (t:Nat) (v:V):Env:=(t,v)::e
def Env.putO (e:Env) (t:Option Nat) (v:V):Env:=match t with
 | some d=>e.put d v
 | none=>e
def rmN (k:Nat):List Nat→Option (List Nat)
 | []=>none
 | x::r=>if x=k then some r else (rmN k r).map (x :: ·)
def Env.keep:List Nat→Env→Env
 | _,[]=>[]
 | lv,(k,v)::r=>match rmN k lv with
  | some lv'=>(k,v)::Env.keep lv' r
  | none=>Env.keep lv r
theorem Env.get_put (e:Env) (t:Nat) (v:V) (j:Nat):(e.put t v).get j=if t=j then v else e.get j:=rfl
theorem rmN_none : ∀ {k:Nat} {lv:List Nat},rmN k lv=none→k∉lv
 | k,[],_=>by simp
 | k,x::r,h=>by
  unfold rmN at h
  split at h
  ·cases h
  ·rename_i hx
   have:rmN k r=none:=by simpa using h
   simp only [List.mem_cons,not_or]
   exact ⟨fun e=>hx e.symm,rmN_none this⟩
theorem rmN_some : ∀ {k:Nat} {lv lv':List Nat},rmN k lv=some lv' → ∀x,x∈lv'→x∈lv
 | k,[],_,h=>by cases h
 | k,y::r,lv',h=>by
  unfold rmN at h
  split at h
  ·injection h with h;subst h;intro x hx;exact List.mem_cons_of_mem _ hx
  ·simp only [Option.map_eq_some_iff] at h
   obtain ⟨l,hl,rfl⟩:=h
   intro x hx
   rcases List.mem_cons.1 hx with rfl|hx
   ·exact List.mem_cons_self
   ·exact List.mem_cons_of_mem _ (rmN_some hl x hx)
theorem Env.keep_out : ∀(e:Env) (lv:List Nat) (k:Nat),k∉lv→(Env.keep lv e).get k = .unk
 | [],lv,k,_=>by cases lv<;>rfl
 | (k',v)::r,lv,k,h=>by
  unfold Env.keep
  split
  ·rename_i lv' h'
   have hk:k'≠k:=by
    rintro rfl
    apply h
    have : ∀ {l l':List Nat},rmN k' l=some l'→k'∈l:=by
     intro l
     induction l with
     | nil=>intro l' h;cases h
     | cons y r ih=>
      intro l' h
      unfold rmN at h
      split at h
      ·rename_i e;subst e;exact List.mem_cons_self
      ·simp only [Option.map_eq_some_iff] at h
       obtain ⟨q,hq,_⟩:=h
       exact List.mem_cons_of_mem _ (ih hq)
    exact this h'
   show (if k'=k then v else (Env.keep lv' r).get k) = .unk
   rw [if_neg hk]
   exact Env.keep_out r lv' k (fun hm=>h (rmN_some h' k hm))
  ·exact Env.keep_out r lv k h
theorem Env.get_keep : ∀(lv:List Nat) (e:Env) (j:Nat),(Env.keep lv e).get j=e.get j∨(Env.keep lv e).get j = .unk
 | lv,[],j=>by cases lv<;>exact .inl rfl
 | lv,(k,v)::r,j=>by
  unfold Env.keep
  split
  ·rename_i lv' h'
   show (if k=j then v else (Env.keep lv' r).get j)=(if k=j then v else Env.get r j)∨(if k=j then v else (Env.keep lv' r).get j) = .unk
   split
   ·exact .inl rfl
   ·exact Env.get_keep lv' r j
  ·rename_i h'
   by_cases hk:k=j
   ·subst hk;exact .inr (Env.keep_out r lv k (rmN_none h'))
   ·show (Env.keep lv r).get j=(if k=j then v else Env.get r j)∨_
    rw [if_neg hk]
    exact Env.get_keep lv r j
structure St where
 env:Env
 sg:Sig
 nx:Nat
structure Ctx where
 w:World
 I:Nat→Prop
 β:Bet
 σ:Sig
 nx:Nat
 n:Nat
 free : ∀id,nx≤id→β id=none
 hd:List (Nat × Obj)
def DfOk (n:Nat) (hd:List (Nat × Obj)) (w:World) (I:Nat→Prop) (β:Bet) (σ:Sig) (ds:List Deferred):Prop:=
 (∃Ds:List Nat,ds=Ds.map (fun D =>{ target:= .collected D,args :=#[] })∧Ds.Nodup ∧ ∀D∈Ds,n≤D∧w.heap[D]? = some (.deferred (some [])) ∧ ¬I D ∧ ¬owned σ β D) ∧
 ∀p∈hd,w.heap[p.1]? = some p.2 ∧ ¬I p.1 ∧ ¬owned σ β p.1
section
variable {n:Nat} {hd:List (Nat × Obj)} {w w':World} {I I':Nat→Prop} {β β':Bet} {σ σ':Sig} {nx nx':Nat} {ds:List Deferred}
theorem DfOk.nil:DfOk n [] w I β σ []:=⟨⟨[],rfl,List.nodup_nil,fun D h=>by cases h⟩,fun p h=>by cases h⟩
theorem DfOk.sub (h:DfOk n hd w I β σ ds) (ho : ∀b,owned σ' β' b→owned σ β b) (hi : ∀b,I' b→I b∨owned σ β b):DfOk n hd w I' β' σ' ds:=by
 obtain ⟨⟨Ds,h1,h2,h3⟩,h4⟩:=h
 have key : ∀D,¬I D → ¬owned σ β D → ¬I' D ∧ ¬owned σ' β' D:=fun D q3 q4=>⟨fun h=>by rcases hi D h with h|h;exact q3 h;exact q4 h,fun h=>q4 (ho D h)⟩
 refine ⟨⟨Ds,h1,h2,fun D hD =>?_⟩,fun p hp =>?_⟩
 ·obtain ⟨q1,q2,q3,q4⟩:=h3 D hD
  exact ⟨q1,q2,key D q3 q4⟩
 ·obtain ⟨q1,q2,q3⟩:=h4 p hp
  exact ⟨q1,key _ q2 q3⟩
theorem DfOk.congr (h:DfOk n hd w I β σ ds) (hs : ∀k,σ'.get k=σ.get k):DfOk n hd w I β σ' ds:=
 h.sub (fun b ⟨id,blk,c,g1,g2⟩=>⟨id,blk,c,by rw [←hs];exact g1,g2⟩) (fun b h=> .inl h)
theorem lt_of_heap {b:Nat} {o:Obj} (h:w.heap[b]? = some o):b<w.heap.size:=by
 rcases Nat.lt_or_ge b w.heap.size with g|g
 ·exact g
 ·rw [Array.getElem?_eq_none g] at h;cases h
theorem MStep.hid (hs:MStep w I β σ nx w' I' β' σ' nx') {b:Nat} {o:Obj} (h:w.heap[b]? = some o) (hI : ¬I b) (ho : ¬owned σ β b):w'.heap[b]? = some o ∧ ¬I' b ∧ ¬owned σ' β' b:=by
 have hlt:=lt_of_heap h
 refine ⟨(hs.block b hlt ho).trans h,fun h =>?_,fun h =>?_⟩
 ·rcases hs.immn b h with h|h|h
  ·exact hI h
  ·exact ho h
  ·omega
 ·rcases hs.own' b h with h|h
  ·exact ho h
  ·omega
theorem DfOk.step (h:DfOk n hd w I β σ ds) (hs:MStep w I β σ nx w' I' β' σ' nx'):DfOk n hd w' I' β' σ' ds:=by
 obtain ⟨⟨Ds,h1,h2,h3⟩,h4⟩:=h
 refine ⟨⟨Ds,h1,h2,fun D hD =>?_⟩,fun p hp =>?_⟩
 ·obtain ⟨q1,q2,q3,q4⟩:=h3 D hD
  exact ⟨q1,hs.hid q2 q3 q4⟩
 ·obtain ⟨q1,q2,q3⟩:=h4 p hp
  exact hs.hid q1 q2 q3
end
def RelE (C:Ctx) (G:Gl) (e:Env) (σ:Sig) (nx lim:Nat) (a:Act) (w:World):Prop:=
 ∃I β,MStep C.w C.I C.β C.σ C.nx w I β σ nx∧(∀j,lim≤j→β j=none)∧(∀t,Den w I β (e.get t) (a.tmps.getD t undef))∧a.tmps.size=C.n∧DfOk C.w.heap.size C.hd w I β σ a.defers∧GOk G w I
def Rel (C:Ctx) (G:Gl) (st:St) (a:Act) (w:World):Prop:=RelE C G st.env st.sg st.nx st.nx a w
def boolW (v:V) (K:Bool→Prop):Prop:=match v with
 | .d (.lit (.bool b))=>K b
 | _=>Stuck v
def grdW (v:V) (K:Bool→Prop) (no:Prop):Prop:=match v with
 | .d (.lit (.bool b))=>K b
 | .tup []=>no
 | _=>Stuck v
def guardW (ops:Array Oper) (o:Oper) (e:Env) (yes no:Env→Prop):Prop:=match o.guard with
 | none=>yes e
 | some (j,want)=>optW ((ops[j]?).bind (·.dst)) fun d=>grdW (e.get d) (fun b=>
  brW b (if want=true then yes (e.put d (.d (.lit (.bool true)))) else no (e.put d (.d (.lit (.bool true))))) (if want=true then no (e.put d (.d (.lit (.bool false)))) else yes (e.put d (.d (.lit (.bool false)))))) (no e)
def opsW (P:Program) (G:Gl) (ops:Array Oper) (base:Nat):Nat→List Oper→Env→Sig→(Env→Sig→Prop)→Prop
 | _,[],e,σ,K=>K e σ
 | i,o::r,e,σ,K=>guardW ops o e
  (fun e=>stepW P G o.op (evF G e.get) σ (base+4*i) fun v σ'=>opsW P G ops base (i+1) r (e.putO o.dst v) σ' K)
  (fun e=>opsW P G ops base (i+1) r (e.putO o.dst (.tup [])) σ K)
section
variable {P:Program} {G:Gl} {C:Ctx} {ops:Array Oper} {Q:Exit→Act→World→Prop} {fr:Option Nat}
theorem evF_den {w:World} {I:Nat→Prop} {β:Bet} {e:Env} {a:Act} (he : ∀t,Den w I β (e.get t) (a.tmps.getD t undef)) (hG:GOk G w I) (x:Operand):Den w I β (evF G e.get x) (a.eval x):=by
 cases x with
 | tmp t=>exact he t
 | const v=>exact DenD.lit v
 | global g=>
  show Den w I β (match G g with|some x=> .d x|none=> .unk) _
  cases h:G g with
  | none=>trivial
  | some x=>exact hG g x h
 | func f=>exact DenD.fn f [] [] rfl (by simp)
theorem getD_put {a:Act} {d t:Nat} {v:Value} (h:d<a.tmps.size):(a.put (some d) v).tmps.getD t undef=if d=t then v else a.tmps.getD t undef:=by
 simp only [Act.put,Array.getD_eq_getD_getElem?,Array.getElem?_setIfInBounds]
 by_cases e:d=t
 ·subst e;simp [h]
 ·simp [e]
theorem den_put {w:World} {I:Nat→Prop} {β:Bet} {e:Env} {a:Act} (he : ∀t,Den w I β (e.get t) (a.tmps.getD t undef)) {d:Option Nat} (hd : ∀x,d=some x→x<a.tmps.size) {v:V} {u:Value} (hv:Den w I β v u) :
 ∀t,Den w I β ((e.putO d v).get t) ((a.put d u).tmps.getD t undef):=by
 intro t
 cases d with
 | none=>exact he t
 | some d=>
  rw [getD_put (hd d rfl)]
  simp only [Env.putO,Env.get_put]
  split
  ·exact hv
  ·exact he t
theorem put_size {a:Act} {d:Option Nat} {v:Value} : (a.put d v).tmps.size=a.tmps.size:=by cases d<;>simp [Act.put]
theorem put_defers {a:Act} {d:Option Nat} {v:Value} : (a.put d v).defers=a.defers:=by cases d<;>rfl
theorem GOk.step {w w':World} {I I':Nat→Prop} {β β':Bet} {σ σ':Sig} {nx nx':Nat} (h:GOk G w I) (hm:Mem w I β σ nx) (hs:MStep w I β σ nx w' I' β' σ' nx'):GOk G w' I':=fun g x hg=>hs.denD hm (h g x hg)
theorem Mem.bump {w:World} {I:Nat→Prop} {β:Bet} {σ:Sig} {nx nx':Nat} (h:Mem w I β σ nx) (hn:nx≤nx'):Mem w I β σ nx':=⟨h.own,h.inj,fun id hid=>h.free id (by omega),h.lt⟩
theorem MStep.bump {w w':World} {I I':Nat→Prop} {β β':Bet} {σ σ':Sig} {nx nx' nx'':Nat} (h:MStep w I β σ nx w' I' β' σ' nx') (hn:nx'≤nx''):MStep w I β σ nx w' I' β' σ' nx'' :={ h with mem:=h.mem.bump hn,nx:=by have:=h.nx;omega }
theorem brW_sound {b:Bool} {p q r:Prop} (h:brW b p q) (h1:b=true→p→r) (h2:b=false→q→r):r:=by
 cases b with
 | true=>exact h1 rfl (h.1 rfl)
 | false=>exact h2 rfl (h.2 rfl)
theorem yielded_of {a:Act} {w:World} {I:Nat→Prop} {β:Bet} {e:Env} (he : ∀t,Den w I β (e.get t) (a.tmps.getD t undef)) {j d:Nat} {b:Bool} (hd:(ops[j]?).bind (·.dst)=some d) (hb:e.get d = .d (.lit (.bool b))):yielded ops a.tmps j=some b:=by
 have h1:=he d
 rw [hb] at h1
 have h2:=den_lit h1
 have h3:a.tmps[d]? = some (.bool b):=by
  cases h:a.tmps[d]? with
  | none=>simp [Array.getD_eq_getD_getElem?,h,undef] at h2
  | some x=>simp [Array.getD_eq_getD_getElem?,h] at h2;rw [h2]
 unfold yielded
 rw [hd]
 show (match (a.tmps[d]? : Option Value) with|some (.bool b)=>some b|_=>none)=some b
 rw [h3]
theorem den_same {w:World} {I:Nat→Prop} {β:Bet} {e:Env} {a:Act} (he : ∀t,Den w I β (e.get t) (a.tmps.getD t undef)) {d:Nat} {b c:Bool} (hb:e.get d = .d (.lit (.bool b))) (hbc:b=c) : ∀t,Den w I β ((e.put d (.d (.lit (.bool c)))).get t) (a.tmps.getD t undef):=by
 intro t
 rw [Env.get_put]
 split
 ·rename_i h;subst h;subst hbc;rw [←hb];exact he d
 ·exact he t
theorem den_skip {w:World} {I:Nat→Prop} {β:Bet} {x:Value} (h:Den w I β (.tup []) x):x=undef:=by
 obtain ⟨vs,rfl,hl,_⟩:=h
 have:vs=[]:=List.eq_nil_of_length_eq_zero (by simpa using hl.symm)
 subst this;rfl
theorem skip_den {w:World} {I:Nat→Prop} {β:Bet} : Den w I β (.tup []) undef:=⟨[],rfl,rfl,by simp⟩
theorem yielded_undef {tmps:Array Value} {j d:Nat} (hd:(ops[j]?).bind (·.dst)=some d) (h:tmps.getD d undef=undef):yielded ops tmps j=none:=by
 unfold yielded
 rw [hd]
 show (match (tmps[d]? : Option Value) with|some (.bool b)=>some b|_=>none)=none
 cases hx:tmps[d]? with
 | none=>rfl
 | some x=>
  simp [Array.getD_eq_getD_getElem?,hx] at h
  subst h;rfl
theorem guardW_sound {o:Oper} {e:Env} {yes no:Env→Prop} (h:guardW ops o e yes no) : ∃e' b,(∀w I β (a:Act),(∀t,Den w I β (e.get t) (a.tmps.getD t undef))→(∀t,Den w I β (e'.get t) (a.tmps.getD t undef))∧Region.wanted o (yielded ops a.tmps)=b)∧(b=true→yes e')∧(b=false→no e'):=by
 unfold guardW at h
 split at h
 ·rename_i hg
  exact ⟨e,true,fun w I β a he=>⟨he,by simp [Region.wanted,hg]⟩,fun _=>h,fun h=>by cases h⟩
 ·rename_i j want hg
  obtain ⟨d,hd,h⟩:=optW_sound h
  unfold grdW at h
  split at h
  ·rename_i b hb
   have hw : ∀w I β (a:Act),(∀t,Den w I β (e.get t) (a.tmps.getD t undef))→Region.wanted o (yielded ops a.tmps)=(b==want):=fun w I β a he=>by
    have:=yielded_of (ops:=ops) he hd hb
    simp [Region.wanted,hg,this]
   refine brW_sound h (fun e1 h9 =>?_) (fun e1 h9 =>?_)
   ·subst e1
    refine ⟨_,want,fun w I β a he=>⟨den_same he hb rfl,by rw [hw w I β a he];cases want<;>rfl⟩,fun hh =>?_,fun hh =>?_⟩
    ·subst hh;simpa using h9
    ·subst hh;simpa using h9
   ·subst e1
    refine ⟨_,!want,fun w I β a he=>⟨den_same he hb rfl,by rw [hw w I β a he];cases want<;>rfl⟩,fun hh =>?_,fun hh =>?_⟩
    ·have:want=false:=by simpa using hh
     subst this;simpa using h9
    ·have:want=true:=by simpa using hh
     subst this;simpa using h9
  ·rename_i hb
   refine ⟨e,false,fun w I β a he=>⟨he,?_⟩,fun hh=>(by cases hh),fun _=>h⟩
   have h1:=he d
   rw [hb] at h1
   simp [Region.wanted,hg,yielded_undef hd (den_skip h1)]
  ·exact h.elim
theorem opsW_sound {base nx:Nat} (hn:base+4*ops.size≤nx) (hdst : ∀(i:Nat) o x,ops[i]? = some o→o.dst=some x→x<C.n) {K:Env→Sig→Prop} (hQ : ∀e σ a w,K e σ→RelE C G e σ nx (base+4*ops.size) a w→Q .normal a w) :
 ∀(r:List Oper) (i:Nat) (e:Env) (σ:Sig) (a:Act) (w:World),ops.toList.drop i=r→opsW P G ops base i r e σ K→RelE C G e σ nx (base+4*i) a w→i≤ops.size→wpOpsIn (Fr fr) 0 P ops Q (List.range' i (ops.size - i)) a w
 | [],i,e,σ,a,w,hr,h,hrel,hi=>by
  have hsz:ops.size≤i:=by
   have:=congrArg List.length hr
   simp at this;omega
  have:i=ops.size:=by omega
  subst this
  rw [Nat.sub_self]
  exact hQ e σ a w h hrel
 | o::r,i,e,σ,a,w,hr,h,hrel,hi=>by
  have hlt:i<ops.size:=by
   have:=congrArg List.length hr
   simp at this;omega
  have ho:ops[i]? = some o:=by
   have:ops.toList[i]? = some o:=by
    have h1:(ops.toList.drop i)[0]? = some o:=by rw [hr];rfl
    rwa [List.getElem?_drop,Nat.add_zero] at h1
   simpa using this
  have hr':ops.toList.drop (i+1)=r:=by
   rw [←List.drop_drop,hr];rfl
  have hrange:List.range' i (ops.size - i)=i::List.range' (i+1) (ops.size - (i+1)):=by
   rw [show ops.size - i=(ops.size - (i+1))+1 from by omega,List.range'_succ]
  rw [hrange,wpOpsIn_cons]
  unfold wpOpIn
  rw [ho]
  simp only []
  obtain ⟨I,β,hst,hfr,hen,hsz,hdf,hG⟩:=hrel
  obtain ⟨e',b,g1,g2,g3⟩:=guardW_sound (show guardW ops o e _ _ from h)
  obtain ⟨hen',hw⟩:=g1 w I β a hen
  rw [hw]
  cases b with
  | true=>
   rw [if_pos rfl]
   obtain ⟨v,σ',hK,hsem⟩:=stepW_sound (g2 rfl)
   have hd:=hsem w I β nx a hst.mem hG (fun j hj _=>hfr j hj) (by omega) (fun x _=>evF_den hen' hG x)
   refine hd.wpIn (fun u w' ⟨I',β',hu,hst',hfr'⟩ =>?_)
   refine opsW_sound hn hdst hQ r (i+1) _ σ' _ w' hr' hK ⟨I',β',hst.trans hst',fun j hj =>?_,den_put (fun t=>hst'.den hst.mem (hen' t)) (fun x hx=>by rw [hsz];exact hdst i o x ho hx) hu,by rw [put_size];exact hsz,by rw [put_defers];exact hdf.step hst',hG.step hst.mem hst'⟩ (by omega)
   rw [hfr' j (by omega)];exact hfr j (by omega)
  | false=>
   rw [if_neg (by simp)]
   refine ⟨fun _ _=>trivial,?_⟩
   refine opsW_sound hn hdst hQ r (i+1) _ σ _ w hr' (g3 rfl) ⟨I,β,hst,fun j hj=>hfr j (by omega),den_put hen' (fun x hx=>by rw [hsz];exact hdst i o x ho hx) skip_den,by rw [put_size];exact hsz,by rw [put_defers];exact hdf,hG⟩ (by omega)
end
def isE:Op→Bool
 | .store _ _ _=>true
 | .next _ _=>true
 | .mapUpdate _ _ _ _=>true
 | .lookup _ _ _ _=>true
 | .call c=>match c.callee with
  | .builtin .append=>true
  | .builtin .copy=>true
  | .builtin .clear=>true
  | .builtin .unsafeString=>true
  | _=>false
 | _=>false
def isPr:Op→Bool
 | .move _ | .assign _ | .nilCheck _ | .binOp _ _ _ _ _ | .unOp _ _ _ | .convert _ _ _ | .makeInterface _ _ | .makeFunc _ _ _ | .slice _ _ _ _ _ | .fieldAddr _ _ _ | .field _ _ _ | .indexAddr _ _ _ | .index _ _ _ | .typeAssert _ _ _ _ | .extract _ _ | .build _ _ | .pick _ _ _=>true
 | .call c=>match c.callee with
  | .builtin .len=>true
  | .builtin .max=>true
  | .builtin .min=>true
  | _=>false
 | _=>false
def prL (lo:List Nat) (i:Nat) (op:Op):Bool:=isPr op||lo.contains i
def isVCall:Op→Bool
 | .call c=>match c.callee with
  | .value _=>true
  | _=>false
 | _=>false
def bmask (acc:List Nat) (es:List Edge):Nat:=es.foldl (fun s e=>if Region.binds .any e=true then s ||| 2 ^ e.on ||| acc.getD e.on 0 else s) 0
def befs (acc:List Nat):List Oper→List Nat
 | []=>acc
 | o::r=>befs (acc++[bmask acc o.after.toList]) r
def namesO (ops:Array Oper) (o:Oper):List Nat:=o.dst.toList++o.looksAt ops
def dstIn (o:Oper) (l:List Nat):Bool:=match o.dst with
 | some d=>l.contains d
 | none=>false
def confO (lo:List Nat) (ops:Array Oper) (i:Nat) (x:Oper) (j:Nat) (y:Oper):Bool:=dstIn x (namesO ops y)||dstIn y (namesO ops x)||(isE x.op && !prL lo j y.op)||(isE y.op && !prL lo i x.op)
def edgesOk (i:Nat) (o:Oper):Bool:=o.after.toList.all fun e=> !Region.binds .any e||decide (e.on<i)
def pairOk (lo:List Nat) (ops:Array Oper) (B:List Nat) (y:Oper) (j:Nat):Nat→List Oper→Bool
 | _,[]=>true
 | i,x::r=>if i<j then (!confO lo ops i x j y||(B.getD j 0).testBit i)&&pairOk lo ops B y j (i+1) r else true
def allOk (lo:List Nat) (ops:Array Oper) (B:List Nat) (l:List Oper):Nat→List Oper→Bool
 | _,[]=>true
 | j,y::r=>edgesOk j y&&pairOk lo ops B y j 0 l&&allOk lo ops B l (j+1) r
def drawOk (lo:List Nat) (ops:Array Oper):Bool:=allOk lo ops (befs [] ops.toList) ops.toList 0 ops.toList
def loadsL:Nat→List Oper→List Nat
 | _,[]=>[]
 | i,o::r=>(match o.op with | .load _ _=>[i]|_=>[])++loadsL (i+1) r
def loadsO (ops:Array Oper):List Nat:=loadsL 0 ops.toList
def loOk (lo:List Nat):Nat→List Oper→Bool
 | _,[]=>true
 | i,o::r=>(!lo.contains i||(!isE o.op && !isVCall o.op))&&loOk lo (i+1) r
theorem loOk_spec {lo:List Nat} (l:List Oper) : ∀(i:Nat),loOk lo i l=true → ∀(k:Nat) x,l[k]? = some x→lo.contains (i+k)=true→isE x.op=false∧isVCall x.op=false:=by
 induction l with
 | nil=>intro i _ k x hx;simp at hx
 | cons y r ih=>
  intro i h k x hx hc
  simp only [loOk,Bool.and_eq_true,Bool.or_eq_true,Bool.not_eq_true'] at h
  cases k with
  | zero=>
   simp at hx;subst hx
   rw [Nat.add_zero] at hc
   rcases h.1 with h1|h1
   ·rw [hc] at h1;cases h1
   ·exact h1
  | succ k=>exact ih (i+1) h.2 k x (by simpa using hx) (by rw [show i+1+k=i+(k+1) from by omega];exact hc)
def lateL (lo B:List Nat) (i:Nat):Nat→List Oper→Bool
 | _,[]=>true
 | j,x::r=>(prL lo j x.op||(if j=i then true else if j<i then (B.getD i 0).testBit j else (B.getD j 0).testBit i))&&lateL lo B i (j+1) r
def lateOk (lo:List Nat) (ops:Array Oper) (i:Nat):Bool:=lateL lo (befs [] ops.toList) i 0 ops.toList
theorem lateL_spec {lo B:List Nat} {i:Nat} (l:List Oper) : ∀(j:Nat),lateL lo B i j l=true → ∀(k:Nat) x,l[k]? = some x→prL lo (j+k) x.op=false→(j+k<i→(B.getD i 0).testBit (j+k)=true)∧(i<j+k→(B.getD (j+k) 0).testBit i=true):=by
 induction l with
 | nil=>intro j _ k x hx;simp at hx
 | cons y r ih=>
  intro j h k x hx hp
  simp only [lateL,Bool.and_eq_true,Bool.or_eq_true] at h
  cases k with
  | zero=>
   simp at hx;subst hx
   rw [Nat.add_zero] at hp
   rcases h.1 with h1|h1
   ·rw [hp] at h1;cases h1
   ·rw [Nat.add_zero]
    constructor
    ·intro hlt;rw [if_neg (by omega),if_pos hlt] at h1;exact h1
    ·intro hlt;rw [if_neg (by omega),if_neg (by omega)] at h1;exact h1
  | succ k=>
   have:=ih (j+1) h.2 k x (by simpa using hx) (by rw [show j+1+k=j+(k+1) from by omega];exact hp)
   rw [show j+(k+1)=j+1+k from by omega];exact this
theorem pairOk_spec {lo:List Nat} {ops:Array Oper} {B:List Nat} {y:Oper} {j:Nat} (l:List Oper) : ∀(i:Nat),pairOk lo ops B y j i l=true → ∀(k:Nat) x,l[k]? = some x→i+k<j→confO lo ops (i+k) x j y=true→(B.getD j 0).testBit (i+k)=true:=by
 induction l with
 | nil=>intro i h k x hx;simp at hx
 | cons x r ih=>
  intro i h k x' hx hlt hc
  unfold pairOk at h
  rw [if_pos (by omega)] at h
  simp only [Bool.and_eq_true,Bool.or_eq_true,Bool.not_eq_true'] at h
  cases k with
  | zero=>
   simp at hx;subst hx
   rw [Nat.add_zero] at hc ⊢
   rcases h.1 with h1|h1
   ·rw [hc] at h1;cases h1
   ·exact h1
  | succ k=>
   have:=ih (i+1) h.2 k x' (by simpa using hx) (by omega) (by rw [show i+1+k=i+(k+1) from by omega];exact hc)
   rw [show i+(k+1)=i+1+k from by omega];exact this
theorem allOk_spec {lo:List Nat} {ops:Array Oper} {B:List Nat} {l:List Oper} (r:List Oper) : ∀(j:Nat),allOk lo ops B l j r=true → ∀(k:Nat) y,r[k]? = some y→edgesOk (j+k) y=true∧pairOk lo ops B y (j+k) 0 l=true:=by
 induction r with
 | nil=>intro j h k y hy;simp at hy
 | cons y r ih=>
  intro j h k y' hy
  simp only [allOk,Bool.and_eq_true] at h
  cases k with
  | zero=>simp at hy;subst hy;exact ⟨h.1.1,h.1.2⟩
  | succ k=>
   have:=ih (j+1) h.2 k y' (by simpa using hy)
   rw [show j+(k+1)=j+1+k from by omega];exact this
def Closed (ol:List Oper) (S:Nat→Bool):Prop:= ∀(j:Nat) o,ol[j]? = some o→S j=true → ∀e∈o.after.toList,Region.binds .any e=true→S e.on=true
theorem bmask_closed {S:Nat→Bool} {acc:List Nat} (hacc : ∀(j:Nat) m,acc[j]? = some m→S j=true → ∀i,m.testBit i=true→S i=true) : ∀(es:List Edge),(∀e∈es,Region.binds .any e=true→S e.on=true) →
 ∀s,(∀i,s.testBit i=true→S i=true) → ∀i,(es.foldl (fun s e=>if Region.binds .any e=true then s ||| 2 ^ e.on ||| acc.getD e.on 0 else s) s).testBit i=true→S i=true
 | [],_,s,hs,i,h=>hs i h
 | e::es,he,s,hs,i,h=>by
  rw [List.foldl_cons] at h
  refine bmask_closed hacc es (fun x hx=>he x (by simp [hx])) _ (fun k hk =>?_) i h
  split at hk
  ·rename_i hb
   have hon:=he e (by simp) hb
   rw [Nat.testBit_or,Nat.testBit_or] at hk
   simp only [Bool.or_eq_true] at hk
   rcases hk with (hk|hk)|hk
   ·exact hs k hk
   ·have:e.on=k:=by
     rw [Nat.testBit_two_pow] at hk
     simpa using hk
    rw [←this];exact hon
   ·cases hg:acc[e.on]? with
    | none=>simp [List.getD,hg] at hk
    | some m=>
     simp [List.getD,hg] at hk
     exact hacc e.on m hg hon k hk
  ·exact hs k hk
theorem befs_closed {ol:List Oper} {S:Nat→Bool} (hS:Closed ol S) : ∀(r:List Oper) (acc:List Nat),ol.drop acc.length=r→(∀(j:Nat) m,acc[j]? = some m→S j=true → ∀i,m.testBit i=true→S i=true) →
 ∀(j:Nat) m,(befs acc r)[j]? = some m→S j=true → ∀i,m.testBit i=true→S i=true
 | [],acc,_,hacc=>hacc
 | o::r,acc,hd,hacc=>by
  refine befs_closed hS r (acc++[bmask acc o.after.toList]) (by simp;rw [←List.drop_drop,hd];rfl) (fun j m hj hSj =>?_)
  rw [List.getElem?_append] at hj
  split at hj
  ·exact hacc j m hj hSj
  ·rename_i hge
   have hje:j=acc.length:=by
    have:=(List.getElem?_eq_some_iff.1 hj).1
    simp at this;omega
   subst hje
   simp at hj
   subst hj
   have ho:ol[acc.length]? = some o:=by
    have h1:(ol.drop acc.length)[0]? = some o:=by rw [hd];rfl
    rwa [List.getElem?_drop,Nat.add_zero] at h1
   exact bmask_closed hacc _ (fun e he hb=>hS _ o ho hSj e he hb) 0 (fun i hi=>by simp at hi)
theorem befs_len : ∀(r:List Oper) (acc:List Nat),(befs acc r).length=acc.length+r.length
 | [],acc=>by simp [befs]
 | o::r,acc=>by rw [befs,befs_len];simp;omega
def callD (P:Program) (G:Gl) (lo:List Nat) (ops:Array Oper) (i:Nat) (k:Nat) (args:List V) (σp acc:Sig) (id:Nat) (Kq Ke:V→Sig→Prop) (_u:Tag Kq:= .mk) (_v:Tag Ke:= .mk) (_w:Tag ops:= .mk) (_h:True:=trivial):Prop:=
 DCallW P G k args σp id Kq∨(lateOk lo ops i=true∧CallW P G k args (σp++acc) id Ke)
def vcallD (P:Program) (G:Gl) (lo:List Nat) (ops:Array Oper) (i:Nat) (op:Op) (g:Operand→V) (σp acc:Sig) (id:Nat) (Kq Ke:V→Sig→Prop):Prop:=match op with
 | .call c=>match c.callee with
  | .value f=>calleeW (g f) (fun k caps=>callD P G lo ops i k (c.args.toList.map g++caps) σp acc id Kq Ke) (fun j=>lateOk lo ops i=true∧YieldW P G j (c.args.toList.map g) (σp++acc) id Ke) (fun k fs=>callD P G lo ops i k (fs++(c.args.toList.map g++[])) σp acc id Kq Ke)
  | _=>False
 | _=>False
def nilW (new:Sig) (K:Prop):Prop:=new=[]∧K
def sbW (σk σ:Sig) (K:Prop):Prop:=match σk with
 | []=>K
 | σk=>Sub σk σ∧K
theorem sbW_sound {σk σ:Sig} {K:Prop} (h:sbW σk σ K):Sub σk σ∧K:=by
 unfold sbW at h
 split at h
 ·exact ⟨fun _ _ hh=>by simp [Sig.get] at hh,h⟩
 ·exact h
def aftL (lo:List Nat) (ops:Array Oper) (i:Nat):Bool:=lo.all fun j=>((befs [] ops.toList).getD i 0).testBit j
def kpt (lo:List Nat) (ops:Array Oper) (i:Nat) (σk:Sig):Sig:=if aftL lo ops i=true then [] else σk
theorem kpt_sound {lo:List Nat} {ops:Array Oper} {i:Nat} {σk σ:Sig} {K:Prop} (h:sbW (kpt lo ops i σk) σ K):(Sub σk σ∨aftL lo ops i=true)∧K:=by
 unfold kpt at h
 split at h
 ·rename_i ha;exact ⟨.inr ha,(sbW_sound h).2⟩
 ·exact ⟨.inl (sbW_sound h).1,(sbW_sound h).2⟩
def opsL (P:Program) (G:Gl) (lo:List Nat) (σk:Sig) (ops:Array Oper) (base:Nat):Nat→List Oper→Env→Sig→Sig→(Env→Sig→Prop)→Prop
 | _,[],e,σp,acc,K=>K e (σp++acc)
 | i,o::r,e,σp,acc,K=>guardW ops o e
  (fun e=>if isE o.op=true then stepW P G o.op (evF G e.get) (σp++acc) (base+4*i) fun v σ'=>sbW (kpt lo ops i σk) σ' (opsL P G lo σk ops base (i+1) r (e.putO o.dst v) σ' [] K)
   else if isVCall o.op=true then vcallD P G lo ops i o.op (evF G e.get) σp acc (base+4*i) (fun v new=>opsL P G lo σk ops base (i+1) r (e.putO o.dst v) σp (acc++new) K) (fun v σ'=>sbW (kpt lo ops i σk) σ' (opsL P G lo σk ops base (i+1) r (e.putO o.dst v) σ' [] K))
   else if lo.contains i=true then quietW P G o.op (evF G e.get) σk (base+4*i) fun v new=>nilW new (opsL P G lo σk ops base (i+1) r (e.putO o.dst v) σp acc K)
   else quietW P G o.op (evF G e.get) σp (base+4*i) fun v new=>opsL P G lo σk ops base (i+1) r (e.putO o.dst v) σp (acc++new) K)
  (fun e=>opsL P G lo σk ops base (i+1) r (e.putO o.dst (.tup [])) σp acc K)
def opsD (P:Program) (G:Gl) (ops:Array Oper):=opsL P G [] [] ops
inductive Rec where
 | skip
 | p (v:V)
 | q (v:V) (new:Sig)
 | e (v:V) (σ':Sig)
def Rec.val:Rec→V
 | .skip=> .tup []
 | .p v=>v
 | .q v _=>v
 | .e v _=>v
def Rec.app (r:Rec) (σ:Sig):Sig:=match r with
 | .skip=>σ
 | .p _=>σ
 | .q _ new=>σ++new
 | .e _ σ'=>σ'
section
variable (ol:List Oper) (ρ:Nat→Rec) (F0:Nat→V) (σ0:Sig) (S:Nat→Bool)
def eS:Nat→Nat→V
 | 0,t=>F0 t
 | j+1,t=>if S j=true∧(ol[j]?).bind (·.dst)=some t then (ρ j).val else eS j t
def sS:Nat→Sig
 | 0=>σ0
 | j+1=>if S j=true then (ρ j).app (sS j) else sS j
def bS:Nat→Sig
 | 0=>σ0
 | j+1=>match ρ j with
  | .e _ σ'=>σ'
  | _=>bS j
end
abbrev allS:Nat→Bool:=fun _=>true
def Loc (P:Program) (G:Gl) (lo:List Nat) (σk:Sig) (ops:Array Oper) (base:Nat) (ρ:Nat→Rec) (F0:Nat→V) (σ0:Sig) (i:Nat):Prop:=
 ∀o,ops.toList[i]? = some o → ∃b,(∀w I β (a:Act),(∀t∈o.looksAt ops,Den w I β (eS ops.toList ρ F0 allS i t) (a.tmps.getD t undef))→Region.wanted o (yielded ops a.tmps)=b) ∧
  match ρ i with
  | .skip=>b=false
  | .p v=>b=true∧prL lo i o.op=true ∧ ∀σ,(lo.contains i=true→Sub σk σ)→StepSem P G o (evF G (eS ops.toList ρ F0 allS i)) σ (base+4*i) v σ
  | .q v new=>b=true∧prL lo i o.op=false∧NewIn (base+4*i) new∧QuietSem P G o (evF G (eS ops.toList ρ F0 allS i)) (bS ρ σ0 i) (base+4*i) v new
  | .e v σ'=>b=true∧(prL lo i o.op=false∧(isE o.op=true∨lateOk lo ops i=true)∧(Sub σk σ'∨aftL lo ops i=true))∧StepSem P G o (evF G (eS ops.toList ρ F0 allS i)) (sS ρ σ0 allS i) (base+4*i) v σ'
section
variable {ol:List Oper} {ρ ρ':Nat→Rec} {F0:Nat→V} {σ0:Sig} {S:Nat→Bool}
theorem eS_congr : ∀ {i:Nat},(∀j,j<i→ρ j=ρ' j) → ∀t,eS ol ρ F0 S i t=eS ol ρ' F0 S i t
 | 0,_,_=>rfl
 | i+1,h,t=>by simp only [eS];rw [h i (by omega),eS_congr (fun j hj=>h j (by omega))]
theorem sS_congr : ∀ {i:Nat},(∀j,j<i→ρ j=ρ' j)→sS ρ σ0 S i=sS ρ' σ0 S i
 | 0,_=>rfl
 | i+1,h=>by simp only [sS];rw [h i (by omega),sS_congr (fun j hj=>h j (by omega))]
theorem bS_congr : ∀ {i:Nat},(∀j,j<i→ρ j=ρ' j)→bS ρ σ0 i=bS ρ' σ0 i
 | 0,_=>rfl
 | i+1,h=>by simp only [bS];rw [h i (by omega),bS_congr (fun j hj=>h j (by omega))]
theorem Loc.congr {P:Program} {G:Gl} {lo:List Nat} {σk:Sig} {ops:Array Oper} {base i:Nat} (h : ∀j,j≤i→ρ j=ρ' j) (hl:Loc P G lo σk ops base ρ F0 σ0 i):Loc P G lo σk ops base ρ' F0 σ0 i:=by
 intro o ho
 obtain ⟨b,h1,h2⟩:=hl o ho
 have e1:eS ops.toList ρ F0 allS i=eS ops.toList ρ' F0 allS i:=funext fun t=>eS_congr (fun j hj=>h j (by omega)) t
 have e2:sS ρ σ0 allS i=sS ρ' σ0 allS i:=sS_congr (fun j hj=>h j (by omega))
 have e3:bS ρ σ0 i=bS ρ' σ0 i:=bS_congr (fun j hj=>h j (by omega))
 rw [e1,e2,e3,h i (Nat.le_refl _)] at h2
 rw [e1] at h1
 exact ⟨b,h1,h2⟩
end
section
variable {P:Program} {G:Gl} {C:Ctx} {ops:Array Oper} {Q:Exit→Act→World→Prop}
theorem guardD_sound {o:Oper} {e:Env} {yes no:Env→Prop} (h:guardW ops o e yes no) : ∃e' b,(∀t,e'.get t=e.get t)∧(∀w I β (a:Act),(∀t∈o.looksAt ops,Den w I β (e.get t) (a.tmps.getD t undef))→Region.wanted o (yielded ops a.tmps)=b)∧(b=true→yes e')∧(b=false→no e'):=by
 unfold guardW at h
 split at h
 ·rename_i hg
  exact ⟨e,true,fun _=>rfl,fun w I β a _=>by simp [Region.wanted,hg],fun _=>h,fun h=>by cases h⟩
 ·rename_i j want hg
  obtain ⟨d,hd,h⟩:=optW_sound h
  unfold grdW at h
  split at h
  ·rename_i b hb
   have hlk:d∈o.looksAt ops:=by simp [Oper.looksAt,hg,hd]
   have hw : ∀w I β (a:Act),(∀t∈o.looksAt ops,Den w I β (e.get t) (a.tmps.getD t undef))→Region.wanted o (yielded ops a.tmps)=(b==want):=fun w I β a he=>by
    have h1:=he d hlk
    rw [hb] at h1
    have h2:=den_lit h1
    have h3:a.tmps[d]? = some (.bool b):=by
     cases h:a.tmps[d]? with
     | none=>simp [Array.getD_eq_getD_getElem?,h,undef] at h2
     | some x=>simp [Array.getD_eq_getD_getElem?,h] at h2;rw [h2]
    have:yielded ops a.tmps j=some b:=by
     unfold yielded
     rw [hd]
     show (match (a.tmps[d]? : Option Value) with|some (.bool b)=>some b|_=>none)=some b
     rw [h3]
    simp [Region.wanted,hg,this]
   have hsame : ∀(c:Bool),b=c → ∀t,(e.put d (.d (.lit (.bool c)))).get t=e.get t:=by
    rintro c rfl t
    rw [Env.get_put]
    split
    ·rename_i hh;subst hh;exact hb.symm
    ·rfl
   refine brW_sound h (fun e1 h9 =>?_) (fun e1 h9 =>?_)
   ·refine ⟨_,want,hsame true e1,fun w I β a he=>by rw [hw w I β a he,e1];cases want<;>rfl,fun hh =>?_,fun hh =>?_⟩
    ·subst hh;simpa using h9
    ·subst hh;simpa using h9
   ·refine ⟨_,!want,hsame false e1,fun w I β a he=>by rw [hw w I β a he,e1];cases want<;>rfl,fun hh =>?_,fun hh =>?_⟩
    ·have:want=false:=by simpa using hh
     subst this;simpa using h9
    ·have:want=true:=by simpa using hh
     subst this;simpa using h9
  ·rename_i hb
   have hlk:d∈o.looksAt ops:=by simp [Oper.looksAt,hg,hd]
   refine ⟨e,false,fun _=>rfl,fun w I β a he =>?_,fun hh=>(by cases hh),fun _=>h⟩
   have h1:=he d hlk
   rw [hb] at h1
   simp [Region.wanted,hg,yielded_undef hd (den_skip h1)]
  ·exact h.elim
theorem isE_pr {op:Op} (h:isE op=true):isPr op=false:=by
 cases op<;>simp only [isE,Bool.false_eq_true] at h<;>try rfl
 case call c=>
  unfold isPr
  simp only
  split at h<;>first
   | (exfalso;revert h;simp;done)
   | (rename_i hc;simp only [hc])
theorem quietW_pr {o:Oper} {g:Operand→V} {σ:Sig} {id:Nat} {K:V→Sig→Prop} (hp:isPr o.op=true) (h:quietW P G o.op g σ id K) : ∃v,K v [] ∧ ∀σ id,StepSem P G o g σ id v σ:=by
 have key:resQ o.op (quietR P o.op g σ id) K→aR P o.op g σ id=none → ∃v,K v [] ∧ ∀σ id,StepSem P G o g σ id v σ:=by
  intro h1 h2
  obtain ⟨p,v,s,e1,e2,e3⟩:=resQ_sound h1
  unfold quietR at e1
  split at e1
  ·rename_i p' v' hq
   injection e1 with e1;injection e1 with q1 e1;injection e1 with q2 q3;subst q1;subst q2;subst q3
   exact ⟨_,e3,fun σ id=>pure_sem hq e2 σ id⟩
  ·rw [h2] at e1;cases e1
 unfold quietW at h
 split at h
 case h_1 c x y ho=>
  obtain ⟨v,h1,h2⟩:=pick_sem (G:=G) ho h
  exact ⟨v,h1,h2⟩
 case h_2 t x ho=>rw [ho] at hp;cases hp
 case h_3 c ho=>
  have hp':=hp
  rw [ho] at hp'
  unfold isPr at hp'
  simp only at hp'
  split at h
  ·rename_i f hc
   rw [hc] at hp';cases hp'
  ·refine key (by rw [ho] at h ⊢;exact h) ?_
   rw [ho]
   split at hp'<;>first
    | (cases hp';done)
    | (rename_i hc;simp only [aR,hc];done)
  ·exact h.elim
 case h_4 _ _ n3=>
  refine key h ?_
  generalize hop:o.op=op at hp
  cases op<;>first
   | rfl
   | (cases hp;done)
   | exact (n3 _ hop).elim
theorem vcallD_sound {lo:List Nat} {o:Oper} {g:Operand→V} {i:Nat} {σp acc:Sig} {id:Nat} {Kq Ke:V→Sig→Prop} (h:vcallD P G lo ops i o.op g σp acc id Kq Ke) :
 isPr o.op=false∧((∃v new,Kq v new∧NewIn id new∧QuietSem P G o g σp id v new)∨(lateOk lo ops i=true ∧ ∃v σ',Ke v σ'∧StepSem P G o g (σp++acc) id v σ')):=by
 unfold vcallD at h
 split at h
 case h_1 c ho=>
  split at h
  ·rename_i f hc
   refine ⟨by rw [ho];simp only [isPr,hc],?_⟩
   have q1 : ∀ {K:V→Sig→Prop},(calleeW (g f) (fun k caps=>DCallW P G k (c.args.toList.map g++caps) σp id K) (fun _=>False) (fun k fs=>DCallW P G k (fs++(c.args.toList.map g++[])) σp id K))→quietW P G o.op g σp id K:=by
    intro K hh;rw [ho];simp only [quietW,hc];exact hh
   have q2 : ∀ {K:V→Sig→Prop},(calleeW (g f) (fun k caps=>CallW P G k (c.args.toList.map g++caps) (σp++acc) id K) (fun j=>YieldW P G j (c.args.toList.map g) (σp++acc) id K) (fun k fs=>CallW P G k (fs++(c.args.toList.map g++[])) (σp++acc) id K))→stepW P G o.op g (σp++acc) id K:=by
    intro K hh;rw [ho];simp only [stepW,hc];exact hh
   unfold calleeW at h q1 q2
   split at h
   ·rename_i k caps hk
    rw [hk] at q1 q2
    rcases h with h|⟨hl,h⟩
    ·exact .inl (quietW_sound (q1 h))
    ·exact .inr ⟨hl,stepW_sound (q2 h)⟩
   ·rename_i k caps hk
    rw [hk] at q1 q2
    rcases h with h|⟨hl,h⟩
    ·exact .inl (quietW_sound (q1 h))
    ·exact .inr ⟨hl,stepW_sound (q2 h)⟩
   ·rename_i j hj
    rw [hj] at q2
    exact .inr ⟨h.1,stepW_sound (q2 h.2)⟩
   ·rename_i k caps hk
    rw [hk] at q1 q2
    rcases h with h|⟨hl,h⟩
    ·exact .inl (quietW_sound (q1 h))
    ·exact .inr ⟨hl,stepW_sound (q2 h)⟩
   ·exact h.elim
  ·exact h.elim
 ·exact h.elim
theorem trace {lo:List Nat} {σk:Sig} (hlo : ∀(j:Nat) o,ops.toList[j]? = some o→lo.contains j=true→isE o.op=false∧isVCall o.op=false) {base:Nat} {F0:Nat→V} {σ0:Sig} {K:Env→Sig→Prop} : ∀(r:List Oper) (i:Nat) (e:Env) (σp acc:Sig) (ρ:Nat→Rec),ops.toList.drop i=r→opsL P G lo σk ops base i r e σp acc K→i≤ops.size →
 (∀t,e.get t=eS ops.toList ρ F0 allS i t)→σp=bS ρ σ0 i→σp++acc=sS ρ σ0 allS i→(∀j,j<i→Loc P G lo σk ops base ρ F0 σ0 j) →
 ∃ρ' e',(∀j,j<ops.size→Loc P G lo σk ops base ρ' F0 σ0 j)∧K e' (sS ρ' σ0 allS ops.size) ∧ ∀t,e'.get t=eS ops.toList ρ' F0 allS ops.size t
 | [],i,e,σp,acc,ρ,hr,h,hi,he,hb,hs,hl=>by
  have:ops.size≤i:=by
   have:=congrArg List.length hr
   simp at this;omega
  have:i=ops.size:=by omega
  subst this
  refine ⟨ρ,e,hl,?_,he⟩
  rw [←hs];exact h
 | o::r,i,e,σp,acc,ρ,hr,h,hi,he,hb,hs,hl=>by
  have hlt:i<ops.size:=by
   have:=congrArg List.length hr
   simp at this;omega
  have ho:ops.toList[i]? = some o:=by
   have h1:(ops.toList.drop i)[0]? = some o:=by rw [hr];rfl
   rwa [List.getElem?_drop,Nat.add_zero] at h1
  have hr':ops.toList.drop (i+1)=r:=by
   rw [←List.drop_drop,hr];rfl
  obtain ⟨e',b,g1,g2,g3,g4⟩:=guardD_sound (show guardW ops o e _ _ from h)
  have hee:e'.get=eS ops.toList ρ F0 allS i:=funext fun t=>(g1 t).trans (he t)
  have ext : ∀(rc:Rec),∃ρ1:Nat→Rec,ρ1 i=rc ∧ ∀j,j<i→ρ j=ρ1 j:=fun rc=>⟨fun j=>if j=i then rc else ρ j,by simp,fun j hj=>by simp [show j≠i by omega]⟩
  have putE : ∀(ρ1:Nat→Rec) (v:V),(∀j,j<i→ρ j=ρ1 j)→(ρ1 i).val=v → ∀t,(e'.putO o.dst v).get t=eS ops.toList ρ1 F0 allS (i+1) t:=by
   intro ρ1 v h1 h2 t
   simp only [eS,ho,Option.bind_some,h2]
   rw [←eS_congr h1,←hee]
   cases hd:o.dst with
   | none=>simp [Env.putO]
   | some d=>simp [Env.putO,Env.get_put]
  cases b with
  | false=>
   obtain ⟨ρ1,q1,q2⟩:=ext .skip
   refine trace hlo r (i+1) _ σp acc ρ1 hr' (g4 rfl) (by omega) (putE ρ1 (.tup []) q2 (by rw [q1];rfl)) (by simp only [bS,q1];rw [←bS_congr q2];exact hb) (by simp only [sS,q1,Rec.app,if_true];rw [←sS_congr q2];exact hs) (fun j hj =>?_)
   rcases Nat.lt_or_ge j i with hji|hji
   ·exact (hl j hji).congr (fun k hk=>q2 k (by omega))
   ·have:j=i:=by omega
    subst this
    intro o' ho'
    rw [ho] at ho';injection ho' with ho';subst ho'
    refine ⟨false,fun w I β a hh=>g2 w I β a (fun t ht =>?_),by rw [q1]⟩
    rw [he t,eS_congr q2];exact hh t ht
  | true=>
   have h5:=g3 rfl
   have goE : ∀(v:V) (σ':Sig),opsL P G lo σk ops base (i+1) r (e'.putO o.dst v) σ' [] K→StepSem P G o (evF G e'.get) (σp++acc) (base+4*i) v σ'→prL lo i o.op=false→(isE o.op=true∨lateOk lo ops i=true)→(Sub σk σ'∨aftL lo ops i=true) →
    ∃ρ' e',(∀j,j<ops.size→Loc P G lo σk ops base ρ' F0 σ0 j)∧K e' (sS ρ' σ0 allS ops.size) ∧ ∀t,e'.get t=eS ops.toList ρ' F0 allS ops.size t:=by
    intro v σ' hK hsem hE1 hE2 hE3
    obtain ⟨ρ1,q1,q2⟩:=ext (.e v σ')
    refine trace hlo r (i+1) _ σ' [] ρ1 hr' hK (by omega) (putE ρ1 v q2 (by rw [q1];rfl)) (by simp only [bS,q1]) (by simp only [sS,q1,Rec.app,if_true,List.append_nil]) (fun j hj =>?_)
    rcases Nat.lt_or_ge j i with hji|hji
    ·exact (hl j hji).congr (fun k hk=>q2 k (by omega))
    ·have:j=i:=by omega
     subst this
     intro o' ho'
     rw [ho] at ho';injection ho' with ho';subst ho'
     refine ⟨true,fun w I β a hh=>g2 w I β a (fun t ht =>?_),?_⟩
     ·rw [he t,eS_congr q2];exact hh t ht
     ·rw [q1]
      refine ⟨rfl,⟨hE1,hE2,hE3⟩,?_⟩
      rw [hee,hs,sS_congr q2] at hsem
      rwa [show eS ops.toList ρ F0 allS j=eS ops.toList ρ1 F0 allS j from funext fun t=>eS_congr q2 t] at hsem
   have goQ : ∀(v:V) (new:Sig),opsL P G lo σk ops base (i+1) r (e'.putO o.dst v) σp (acc++new) K→NewIn (base+4*i) new→QuietSem P G o (evF G e'.get) σp (base+4*i) v new→prL lo i o.op=false →
    ∃ρ' e',(∀j,j<ops.size→Loc P G lo σk ops base ρ' F0 σ0 j)∧K e' (sS ρ' σ0 allS ops.size) ∧ ∀t,e'.get t=eS ops.toList ρ' F0 allS ops.size t:=by
    intro v new hK hnew hsem hpr
    obtain ⟨ρ1,q1,q2⟩:=ext (.q v new)
    refine trace hlo r (i+1) _ σp (acc++new) ρ1 hr' hK (by omega) (putE ρ1 v q2 (by rw [q1];rfl)) (by simp only [bS,q1];rw [←bS_congr q2];exact hb) (by simp only [sS,q1,Rec.app,if_true];rw [←sS_congr q2,←hs,List.append_assoc]) (fun j hj =>?_)
    rcases Nat.lt_or_ge j i with hji|hji
    ·exact (hl j hji).congr (fun k hk=>q2 k (by omega))
    ·have:j=i:=by omega
     subst this
     intro o' ho'
     rw [ho] at ho';injection ho' with ho';subst ho'
     refine ⟨true,fun w I β a hh=>g2 w I β a (fun t ht =>?_),?_⟩
     ·rw [he t,eS_congr q2];exact hh t ht
     ·rw [q1]
      refine ⟨rfl,hpr,hnew,?_⟩
      rw [hee,hb,bS_congr q2] at hsem
      rwa [show eS ops.toList ρ F0 allS j=eS ops.toList ρ1 F0 allS j from funext fun t=>eS_congr q2 t] at hsem
   have goP : ∀(v:V),opsL P G lo σk ops base (i+1) r (e'.putO o.dst v) σp acc K→prL lo i o.op=true→(∀σ,(lo.contains i=true→Sub σk σ)→StepSem P G o (evF G e'.get) σ (base+4*i) v σ) →
    ∃ρ' e',(∀j,j<ops.size→Loc P G lo σk ops base ρ' F0 σ0 j)∧K e' (sS ρ' σ0 allS ops.size) ∧ ∀t,e'.get t=eS ops.toList ρ' F0 allS ops.size t:=by
    intro v hK hpr hsem
    obtain ⟨ρ1,q1,q2⟩:=ext (.p v)
    refine trace hlo r (i+1) _ σp acc ρ1 hr' hK (by omega) (putE ρ1 v q2 (by rw [q1];rfl)) (by simp only [bS,q1];rw [←bS_congr q2];exact hb) (by simp only [sS,q1,Rec.app,if_true];rw [←sS_congr q2];exact hs) (fun j hj =>?_)
    rcases Nat.lt_or_ge j i with hji|hji
    ·exact (hl j hji).congr (fun k hk=>q2 k (by omega))
    ·have:j=i:=by omega
     subst this
     intro o' ho'
     rw [ho] at ho';injection ho' with ho';subst ho'
     refine ⟨true,fun w I β a hh=>g2 w I β a (fun t ht =>?_),?_⟩
     ·rw [he t,eS_congr q2];exact hh t ht
     ·rw [q1]
      refine ⟨rfl,hpr,fun σ hσ =>?_⟩
      have hsem:=hsem σ hσ
      rw [hee] at hsem
      rwa [show eS ops.toList ρ F0 allS j=eS ops.toList ρ1 F0 allS j from funext fun t=>eS_congr q2 t] at hsem
   have prN:lo.contains i=false→isPr o.op=false→prL lo i o.op=false:=fun h1 h2=>by unfold prL;rw [h1,h2];rfl
   have loN : ∀b:Bool,(lo.contains i=true→b=false)→b=true→lo.contains i=false:=fun b h1 h2=>by
    cases hc:lo.contains i with
    | false=>rfl
    | true=>rw [h1 hc] at h2;cases h2
   split at h5
   ·rename_i hE
    obtain ⟨v,σ',hsK,hsem⟩:=stepW_sound h5
    obtain ⟨hsub,hK⟩:=kpt_sound hsK
    exact goE v σ' hK hsem (prN (loN _ (fun hc=>(hlo i o ho hc).1) hE) (isE_pr hE)) (.inl hE) hsub
   ·rename_i hE
    split at h5
    ·rename_i hV
     have hN:=loN _ (fun hc=>(hlo i o ho hc).2) hV
     obtain ⟨hpr,h6⟩:=vcallD_sound h5
     rcases h6 with ⟨v,new,hK,hnew,hsem⟩|⟨hlate,v,σ',hsK,hsem⟩
     ·exact goQ v new hK hnew hsem (prN hN hpr)
     ·obtain ⟨hsub,hK⟩:=kpt_sound hsK
      exact goE v σ' hK hsem (prN hN hpr) (.inr hlate) hsub
    ·split at h5
     ·rename_i hL
      obtain ⟨v,new,⟨hnil,hK⟩,hnew,hsem⟩:=quietW_sound h5
      subst hnil
      refine goP v hK (by unfold prL;rw [hL];simp) (fun σ hσ =>?_)
      have:=hsem σ (hσ hL)
      rwa [List.append_nil] at this
     ·rename_i hL
      cases hpr:isPr o.op with
      | true=>
       obtain ⟨v,hK,hsem⟩:=quietW_pr hpr h5
       rw [List.append_nil] at hK
       exact goP v hK (by unfold prL;rw [hpr];rfl) (fun σ _=>hsem σ _)
      | false=>
       obtain ⟨v,new,hK,hnew,hsem⟩:=quietW_sound h5
       exact goQ v new hK hnew hsem (prN (by simpa using hL) hpr)
end
section
variable {P:Program} {G:Gl} {C:Ctx} {ops:Array Oper} {Q:Exit→Act→World→Prop} {ρ:Nat→Rec} {F0:Nat→V} {σ0 σk:Sig} {base nx:Nat} {lo:List Nat}
theorem order_of (hd:drawOk lo ops=true) {i j:Nat} {x y:Oper} (hx:ops.toList[i]? = some x) (hy:ops.toList[j]? = some y) (hij:i<j) (hc:confO lo ops i x j y=true) {S:Nat→Bool} (hS:Closed ops.toList S) (hj:S j=true):S i=true:=by
 have h1:=(allOk_spec ops.toList 0 hd j y hy).2
 rw [Nat.zero_add] at h1
 have h2:=pairOk_spec ops.toList 0 h1 i x hx (by omega) (by rw [Nat.zero_add];exact hc)
 rw [Nat.zero_add] at h2
 have hl:=befs_len ops.toList []
 have hjl:j<(befs [] ops.toList).length:=by
  have:=(List.getElem?_eq_some_iff.1 hy).1
  rw [hl];simp at this ⊢;omega
 have h3:=befs_closed hS ops.toList [] rfl (by simp) j _ (List.getElem?_eq_getElem hjl) hj i
 apply h3
 simpa [List.getD,List.getElem?_eq_getElem hjl] using h2
def Tot (lo:List Nat) (ops:Array Oper) (i:Nat):Prop:= ∀(j:Nat) x,ops.toList[j]? = some x→prL lo j x.op=false → ∀S:Nat→Bool,Closed ops.toList S→(j<i→S i=true→S j=true)∧(i<j→S j=true→S i=true)
theorem tot_of (hd:drawOk lo ops=true) {i:Nat} {o:Oper} (ho:ops.toList[i]? = some o) (h:isE o.op=true∨lateOk lo ops i=true):Tot lo ops i:=by
 intro j x hx hpx S hS
 rcases h with h|h
 ·exact ⟨fun hlt hi=>order_of hd hx ho hlt (by simp [confO,h,hpx]) hS hi,fun hlt hj=>order_of hd ho hx hlt (by simp [confO,h,hpx]) hS hj⟩
 ·have h2:=lateL_spec ops.toList 0 h j x hx (by rw [Nat.zero_add];exact hpx)
  rw [Nat.zero_add] at h2
  have hl:=befs_len ops.toList []
  have fin : ∀ {a b:Nat},a<ops.toList.length→((befs [] ops.toList).getD a 0).testBit b=true→S a=true→S b=true:=by
   intro a b ha hb hSa
   have hal:a<(befs [] ops.toList).length:=by rw [hl];simpa using ha
   exact befs_closed hS ops.toList [] rfl (by simp) a _ (List.getElem?_eq_getElem hal) hSa b (by simpa [List.getD,List.getElem?_eq_getElem hal] using hb)
  exact ⟨fun hlt hi=>fin (List.getElem?_eq_some_iff.1 ho).1 (h2.1 hlt) hi,fun hlt hj=>fin (List.getElem?_eq_some_iff.1 hx).1 (h2.2 hlt) hj⟩
theorem edge_lt (hd:drawOk lo ops=true) {j:Nat} {y:Oper} (hy:ops.toList[j]? = some y) {e:Edge} (he:e∈y.after.toList) (hb:Region.binds .any e=true):e.on<j:=by
 have h1:=(allOk_spec ops.toList 0 hd j y hy).1
 rw [Nat.zero_add] at h1
 have:=List.all_eq_true.1 h1 e he
 simpa [hb] using this
theorem conf_dst {i j:Nat} {x y:Oper} {t:Nat} (h:x.dst=some t) (h':t∈namesO ops y):confO lo ops i x j y=true:=by
 simp [confO,dstIn,h,h']
theorem conf_dst' {i j:Nat} {x y:Oper} {t:Nat} (h:y.dst=some t) (h':t∈namesO ops x):confO lo ops i x j y=true:=by
 simp [confO,dstIn,h,h']
theorem names_dst {x:Oper} {t:Nat} (h:x.dst=some t):t∈namesO ops x:=by simp [namesO,h]
theorem names_look {x:Oper} {t:Nat} (h:t∈x.looksAt ops):t∈namesO ops x:=by simp [namesO,h]
theorem Loc.pr {S:Nat} {o:Oper} (h:Loc P G lo σk ops base ρ F0 σ0 S) (ho:ops.toList[S]? = some o) (hp:prL lo S o.op=true) (σ:Sig):(ρ S).app σ=σ:=by
 obtain ⟨b,_,hl⟩:=h o ho
 cases hr:ρ S with
 | skip=>rfl
 | p v=>rfl
 | q v new=>rw [hr] at hl;rw [hl.2.1] at hp;cases hp
 | e v σ'=>rw [hr] at hl;rw [hl.2.1.1] at hp;cases hp
structure Nx (ops:Array Oper) (S S':Nat→Bool) (i:Nat) (o:Oper):Prop where
 ho:ops.toList[i]? = some o
 not:S i=false
 cl:Closed ops.toList S
 cl':Closed ops.toList S'
 same : ∀j,S' j=if j=i then true else S j
variable {S S':Nat→Bool} {i:Nat} {o:Oper}
theorem Nx.ahead (h:Nx ops S S' i o) (hd:drawOk lo ops=true) {j:Nat} {x:Oper} (hx:ops.toList[j]? = some x) (hji:j<i) (hc:confO lo ops j x i o=true):S j=true:=by
 have:=order_of hd hx h.ho hji hc h.cl' (by rw [h.same];simp)
 rw [h.same] at this
 simpa [show j≠i by omega] using this
theorem Nx.behind (h:Nx ops S S' i o) (hd:drawOk lo ops=true) {j:Nat} {x:Oper} (hx:ops.toList[j]? = some x) (hij:i<j) (hc:confO lo ops i o j x=true):S j=false:=by
 cases hj:S j with
 | false=>rfl
 | true=>
  have:=order_of hd h.ho hx hij hc h.cl hj
  rw [h.not] at this;cases this
theorem Nx.looks (h:Nx ops S S' i o) (hd:drawOk lo ops=true) {t:Nat} (ht:t∈namesO ops o) : ∀m,eS ops.toList ρ F0 S m t=if m≤i then eS ops.toList ρ F0 allS m t else eS ops.toList ρ F0 allS i t:=by
 intro m
 induction m with
 | zero=>simp [eS]
 | succ m ih=>
  by_cases hm:m+1≤i
  ·rw [if_pos hm]
   rw [if_pos (by omega)] at ih
   simp only [eS,ih]
   by_cases hdt:(ops.toList[m]?).bind (·.dst)=some t
   ·cases hx:ops.toList[m]? with
    | none=>simp [hx] at hdt
    | some x=>
     have hxd:x.dst=some t:=by simpa [hx] using hdt
     have:=h.ahead hd hx (by omega) (conf_dst hxd ht)
     simp [this]
   ·rw [if_neg (fun e=>hdt e.2),if_neg (fun e=>hdt e.2)]
  ·rw [if_neg hm]
   have hmi:eS ops.toList ρ F0 S m t=eS ops.toList ρ F0 allS i t:=by
    rw [ih]
    by_cases h1:m≤i
    ·have:m=i:=by omega
     subst this;simp
    ·rw [if_neg h1]
   simp only [eS]
   rw [if_neg ?_]
   ·exact hmi
   ·rintro ⟨e1,e2⟩
    by_cases h1:m=i
    ·subst h1;rw [h.not] at e1;cases e1
    ·cases hx:ops.toList[m]? with
     | none=>simp [hx] at e2
     | some x=>
      have hxd:x.dst=some t:=by simpa [hx] using e2
      have:=h.behind hd hx (by omega) (conf_dst' hxd ht)
      rw [this] at e1;cases e1
theorem Nx.env (h:Nx ops S S' i o) (hd:drawOk lo ops=true) (t:Nat) : ∀m,eS ops.toList ρ F0 S' m t=if i<m∧o.dst=some t then (ρ i).val else eS ops.toList ρ F0 S m t:=by
 intro m
 induction m with
 | zero=>simp [eS]
 | succ m ih=>
  have e1:eS ops.toList ρ F0 S' (m+1) t=if S' m=true∧(ops.toList[m]?).bind (·.dst)=some t then (ρ m).val else eS ops.toList ρ F0 S' m t:=rfl
  have e2:eS ops.toList ρ F0 S (m+1) t=if S m=true∧(ops.toList[m]?).bind (·.dst)=some t then (ρ m).val else eS ops.toList ρ F0 S m t:=rfl
  have e3:=h.same m
  rw [e1,e2,ih]
  rcases Nat.lt_trichotomy m i with hlt|heq|hgt
  ·rw [if_neg (show ¬m=i by omega)] at e3
   have n1 : ¬(i<m∧o.dst=some t):=by omega
   have n2 : ¬(i<m+1∧o.dst=some t):=by omega
   rw [e3,if_neg n1,if_neg n2]
  ·subst heq
   have n1 : ¬(m<m∧o.dst=some t):=by omega
   rw [if_pos rfl] at e3
   rw [e3,if_neg n1,h.ho,h.not]
   simp
  ·rw [if_neg (show ¬m=i by omega)] at e3
   rw [e3]
   by_cases hdt:o.dst=some t
   ·have hno : ¬(S m=true∧(ops.toList[m]?).bind (·.dst)=some t):=by
     rintro ⟨q1,q2⟩
     cases hx:ops.toList[m]? with
     | none=>simp [hx] at q2
     | some x=>
      have hxd:x.dst=some t:=by simpa [hx] using q2
      have:=h.behind hd hx (by omega) (conf_dst hdt (names_dst hxd))
      rw [this] at q1;cases q1
    rw [if_neg hno,if_pos ⟨by omega,hdt⟩,if_pos ⟨by omega,hdt⟩]
   ·rw [if_neg (fun e:i<m∧o.dst=some t=>hdt e.2),if_neg (fun e:i<m+1∧o.dst=some t=>hdt e.2)]
theorem Nx.under (h:Nx ops S S' i o) (hd:drawOk lo ops=true) (hop:prL lo i o.op=false) (hloc : ∀j,j<ops.size→Loc P G lo σk ops base ρ F0 σ0 j) : ∀m,m≤ops.size → ∃τ,sS ρ σ0 S m=(if m≤i then bS ρ σ0 m else bS ρ σ0 i)++τ:=by
 intro m
 induction m with
 | zero=>intro _;exact ⟨[],by simp [sS,bS]⟩
 | succ m ih=>
  intro hm
  obtain ⟨τ,hτ⟩:=ih (by omega)
  have hx : ∃x,ops.toList[m]? = some x:=⟨_,List.getElem?_eq_getElem (by simp;omega)⟩
  obtain ⟨x,hx⟩:=hx
  obtain ⟨b,_,hl⟩:=hloc m (by omega) x hx
  by_cases hmi:m+1≤i
  ·rw [if_pos hmi]
   rw [if_pos (by omega)] at hτ
   simp only [sS,bS]
   cases hr:ρ m with
   | skip=>simp only [Rec.app];split<;>exact ⟨τ,hτ⟩
   | p v=>simp only [Rec.app];split<;>exact ⟨τ,hτ⟩
   | q v new=>
    simp only [Rec.app]
    split
    ·exact ⟨τ++new,by rw [hτ,List.append_assoc]⟩
    ·exact ⟨τ,hτ⟩
   | e v σ'=>
    rw [hr] at hl
    have hT:=tot_of hd hx hl.2.1.2.1
    have h9:=(hT i o h.ho hop S' h.cl').2 (by omega) (by rw [h.same];simp)
    rw [h.same,if_neg (by omega)] at h9
    rw [if_pos h9]
    exact ⟨[],by simp [Rec.app]⟩
  ·rw [if_neg hmi]
   have hτ':sS ρ σ0 S m=bS ρ σ0 i++τ:=by
    rw [hτ]
    by_cases h1:m≤i
    ·have:m=i:=by omega
     subst this;simp
    ·rw [if_neg h1]
   simp only [sS]
   by_cases h1:m=i
   ·subst h1;rw [h.not,if_neg (by simp)];exact ⟨τ,hτ'⟩
   ·cases hr:ρ m with
    | skip=>simp only [Rec.app];split<;>exact ⟨τ,hτ'⟩
    | p v=>simp only [Rec.app];split<;>exact ⟨τ,hτ'⟩
    | q v new=>
     simp only [Rec.app]
     split
     ·exact ⟨τ++new,by rw [hτ',List.append_assoc]⟩
     ·exact ⟨τ,hτ'⟩
    | e v σ'=>
     rw [hr] at hl
     have hT:=tot_of hd hx hl.2.1.2.1
     have this:S m=false:=by
      cases hs:S m with
      | false=>rfl
      | true=>
       have h9:=(hT i o h.ho hop S h.cl).1 (by omega) hs
       rw [h.not] at h9;cases h9
     rw [this,if_neg (by simp)]
     exact ⟨τ,hτ'⟩
theorem Nx.early (h:Nx ops S S' i o) : ∀n,n≤i→sS ρ σ0 S' n=sS ρ σ0 S n:=by
 intro n
 induction n with
 | zero=>intro _;rfl
 | succ n ihn=>
  intro hn
  have e1:sS ρ σ0 S' (n+1)=if S' n=true then (ρ n).app (sS ρ σ0 S' n) else sS ρ σ0 S' n:=rfl
  have e3:=h.same n
  rw [if_neg (show ¬n=i by omega)] at e3
  rw [e1,e3,ihn (by omega)]
  rfl
theorem Nx.sig (h:Nx ops S S' i o) (hd:drawOk lo ops=true) {new:Sig} (hop:prL lo i o.op=false∨new=[]) (hloc : ∀j,j<ops.size→Loc P G lo σk ops base ρ F0 σ0 j) (hq : ∀σ,(ρ i).app σ=σ++new) (hnew:NewIn (base+4*i) new) : ∀m,m≤ops.size → ∀k,(sS ρ σ0 S' m).get k=if i<m then (sS ρ σ0 S m++new).get k else (sS ρ σ0 S m).get k:=by
 intro m
 induction m with
 | zero=>intro _ k;simp [sS]
 | succ m ih=>
  intro hm k
  have ih:=ih (by omega)
  obtain ⟨x,hx⟩ : ∃x,ops.toList[m]? = some x:=⟨_,List.getElem?_eq_getElem (by simp;omega)⟩
  obtain ⟨b,_,hl⟩:=hloc m (by omega) x hx
  rcases Nat.lt_trichotomy m i with hlt|heq|hgt
  ·rw [if_neg (by omega)]
   rw [h.early (m+1) (by omega)]
  ·subst heq
   rw [if_pos (by omega)]
   simp only [sS]
   rw [h.same,if_pos rfl,if_pos rfl,h.not,if_neg (by simp),hq,h.early m (Nat.le_refl _)]
  ·rw [if_pos (by omega)]
   have ih:=fun k=>(ih k).trans (if_pos hgt)
   have s1:sS ρ σ0 S' (m+1)=if S' m=true then (ρ m).app (sS ρ σ0 S' m) else sS ρ σ0 S' m:=rfl
   have s2:sS ρ σ0 S (m+1)=if S m=true then (ρ m).app (sS ρ σ0 S m) else sS ρ σ0 S m:=rfl
   have e3:=h.same m
   rw [if_neg (show ¬m=i by omega)] at e3
   rw [s1,s2,e3]
   cases hs:S m with
   | false=>simp only [Bool.false_eq_true,if_false];exact ih k
   | true=>
    simp only [if_true]
    cases hr:ρ m with
    | skip=>exact ih k
    | p v=>exact ih k
    | q v nw=>
     rw [hr] at hl
     simp only [Rec.app]
     have hdis : ∀b b',nw.get k=some b→new.get k=some b'→False:=by
      intro b b' h1 h2
      have:=hl.2.2.1 k b h1
      have:=hnew k b' h2
      omega
     have g1:(sS ρ σ0 S' m++nw).get k=match (sS ρ σ0 S' m).get k with|some b=>some b|none=>nw.get k:=get_append _ _ _
     have g2:(sS ρ σ0 S m++nw++new).get k=match (sS ρ σ0 S m++nw).get k with|some b=>some b|none=>new.get k:=get_append _ _ _
     have g3:(sS ρ σ0 S m++nw).get k=match (sS ρ σ0 S m).get k with|some b=>some b|none=>nw.get k:=get_append _ _ _
     have g4:(sS ρ σ0 S m++new).get k=match (sS ρ σ0 S m).get k with|some b=>some b|none=>new.get k:=get_append _ _ _
     rw [g1,g2,g3,ih,g4]
     cases hg:(sS ρ σ0 S m).get k with
     | some b=>rfl
     | none=>
      simp only []
      cases h1:nw.get k with
      | none=>cases new.get k<;>rfl
      | some b1=>
       cases h2:new.get k with
       | none=>rfl
       | some b2=>exact (hdis b1 b2 h1 h2).elim
    | e v σ'=>
     rw [hr] at hl
     rcases hop with hop|rfl
     ·have hT:=tot_of hd hx hl.2.1.2.1
      have h9:=(hT i o h.ho hop S h.cl).1 (by omega) hs
      rw [h.not] at h9;cases h9
     ·simp [Rec.app]
theorem Nx.eff (h:Nx ops S S' i o) (hloc : ∀j,j<ops.size→Loc P G lo σk ops base ρ F0 σ0 j) (hE:prL lo i o.op=false) (hT:Tot lo ops i) : ∀m,m≤ops.size→sS ρ σ0 S m=sS ρ σ0 allS (min m i)∧sS ρ σ0 S' m=if i<m then (ρ i).app (sS ρ σ0 allS i) else sS ρ σ0 allS m:=by
 intro m
 induction m with
 | zero=>intro _;simp [sS]
 | succ m ih=>
  intro hm
  obtain ⟨ih1,ih2⟩:=ih (by omega)
  obtain ⟨x,hx⟩ : ∃x,ops.toList[m]? = some x:=⟨_,List.getElem?_eq_getElem (by simp;omega)⟩
  have s1:sS ρ σ0 S' (m+1)=if S' m=true then (ρ m).app (sS ρ σ0 S' m) else sS ρ σ0 S' m:=rfl
  have s2:sS ρ σ0 S (m+1)=if S m=true then (ρ m).app (sS ρ σ0 S m) else sS ρ σ0 S m:=rfl
  have s3:sS ρ σ0 allS (m+1)=(ρ m).app (sS ρ σ0 allS m):=rfl
  have e3:=h.same m
  rw [s1,s2,e3]
  cases hpr:prL lo m x.op with
  | true=>
   have hno:m≠i:=by
    rintro rfl
    rw [h.ho] at hx;injection hx with hx;subst hx
    rw [hE] at hpr;cases hpr
   have ha:=fun σ=>(hloc m (by omega)).pr hx hpr σ
   rw [if_neg hno,ha,ha,s3,ha]
   have hS : ∀(b:Bool) (σ:Sig),(if b=true then σ else σ)=σ:=fun b σ=>by cases b<;>rfl
   rw [hS,hS,ih1,ih2]
   rcases Nat.lt_or_gt_of_ne hno with hlt|hgt
   ·have e1:min (m+1) i=m+1:=by omega
    have e2:min m i=m:=by omega
    rw [e1,e2,s3,ha,if_neg (show ¬i<m by omega),if_neg (show ¬i<m+1 by omega)]
    exact ⟨rfl,rfl⟩
   ·have e1:min (m+1) i=min m i:=by omega
    rw [e1,if_pos (show i<m by omega),if_pos (show i<m+1 by omega)]
    exact ⟨rfl,rfl⟩
  | false=>
  rcases Nat.lt_trichotomy m i with hlt|heq|hgt
  ·have hs:=(hT m x hx hpr S' h.cl').1 hlt (by rw [h.same];simp)
   rw [h.same,if_neg (by omega)] at hs
   have e1:min (m+1) i=m+1:=by omega
   have e2:min m i=m:=by omega
   rw [e2] at ih1
   rw [if_neg (show ¬i<m by omega)] at ih2
   rw [e1,if_neg (show ¬i<m+1 by omega),if_neg (show ¬m=i by omega),hs,s3,ih1,ih2]
   simp
  ·subst heq
   have e1:min (m+1) m=m:=by omega
   have e2:min m m=m:=by omega
   rw [e2] at ih1
   rw [if_neg (show ¬m<m by omega)] at ih2
   rw [e1,if_pos (show m<m+1 by omega),if_pos rfl,h.not,ih1,ih2]
   simp
  ·have hs:S m=false:=by
    cases hs:S m with
    | false=>rfl
    | true=>
     have h9:=(hT m x hx hpr S h.cl).2 hgt hs
     rw [h.not] at h9;cases h9
   have e1:min (m+1) i=min m i:=by omega
   rw [if_pos hgt] at ih2
   rw [e1,if_pos (show i<m+1 by omega),if_neg (show ¬m=i by omega),hs,ih1,ih2]
   simp
end
section
variable {P:Program} {G:Gl} {C:Ctx} {ops:Array Oper} {Q:Exit→Act→World→Prop} {ρ:Nat→Rec} {F0:Nat→V} {σ0 σk:Sig} {base nx:Nat} {lo:List Nat} {fr:Option Nat}
abbrev lst (listed:Array Bool):Nat→Bool:=fun j=>listed.getD j true
def RelD (C:Ctx) (G:Gl) (ops:Array Oper) (ρ:Nat→Rec) (F0:Nat→V) (σ0:Sig) (base nx:Nat) (S:Nat→Bool) (a:Act) (w:World):Prop:=
 ∃I β,MStep C.w C.I C.β C.σ C.nx w I β (sS ρ σ0 S ops.size) nx∧(∀j,j<ops.size→S j=false → ∀k,base+4*j≤k→k<base+4*j+4→β k=none)∧(∀k,base+4*ops.size≤k→β k=none) ∧
  (∀t,Den w I β (eS ops.toList ρ F0 S ops.size t) (a.tmps.getD t undef))∧a.tmps.size=C.n∧DfOk C.w.heap.size C.hd w I β (sS ρ σ0 S ops.size) a.defers∧GOk G w I
theorem ready_mem {listed:Array Bool} {i:Nat} (h:i∈Region.ready .any ops listed):i<ops.size∧listed.getD i true=false ∧ ∀o,ops[i]? = some o → ∀e∈o.after.toList,Region.binds .any e=true→listed.getD e.on false=true:=by
 unfold Region.ready at h
 simp only [List.mem_filter,List.mem_range,Bool.and_eq_true,Bool.not_eq_true'] at h
 refine ⟨h.1,h.2.1,fun o ho e he hb =>?_⟩
 have h2:=h.2.2
 rw [ho] at h2
 simp only [Option.map_some,Option.getD_some,Array.all_eq_true'] at h2
 have:=h2 e (by simpa using he)
 simpa [hb] using this
theorem bef_in {S:Nat→Bool} (hS:Closed ops.toList S) {a b:Nat} (ha:a<ops.toList.length) (h:((befs [] ops.toList).getD a 0).testBit b=true) (hSa:S a=true):S b=true:=by
 have hl:=befs_len ops.toList []
 have hal:a<(befs [] ops.toList).length:=by rw [hl];simpa using ha
 exact befs_closed hS ops.toList [] rfl (by simp) a _ (List.getElem?_eq_getElem hal) hSa b (by simpa [List.getD,List.getElem?_eq_getElem hal] using h)
theorem sS_sub (hk:Sub σk σ0) (hloc : ∀j,j<ops.size→Loc P G lo σk ops base ρ F0 σ0 j) (S:Nat→Bool) (hS : ∀j,j<ops.size→S j=true→aftL lo ops j=true→False) : ∀m,m≤ops.size→Sub σk (sS ρ σ0 S m):=by
 intro m
 induction m with
 | zero=>intro _;exact hk
 | succ m ih=>
  intro hm
  have ih:=ih (by omega)
  obtain ⟨x,hx⟩ : ∃x,ops.toList[m]? = some x:=⟨_,List.getElem?_eq_getElem (by simp;omega)⟩
  obtain ⟨b,_,hl⟩:=hloc m (by omega) x hx
  simp only [sS]
  split
  ·rename_i hSm
   cases hr:ρ m with
   | skip=>exact ih
   | p v=>exact ih
   | q v new=>
    intro j bl hj
    show Sig.get (sS ρ σ0 S m++new) j=_
    rw [get_append,ih j bl hj]
   | e v σ'=>
    rw [hr] at hl
    rcases hl.2.1.2.2 with h|h
    ·exact h
    ·exact (hS m (by omega) hSm h).elim
  ·exact ih
theorem any_sound (hk:Sub σk σ0) (hd:drawOk lo ops=true) (hn:base+4*ops.size≤nx) (hdst : ∀(i:Nat) o x,ops[i]? = some o→o.dst=some x→x<C.n) (hloc : ∀j,j<ops.size→Loc P G lo σk ops base ρ F0 σ0 j)
 (hQ : ∀a w,RelD C G ops ρ F0 σ0 base nx allS a w→Q .normal a w) :
 ∀(fuel:Nat) (listed:Array Bool) (a:Act) (w:World),listed.size=ops.size→Closed ops.toList (lst listed)→RelD C G ops ρ F0 σ0 base nx (lst listed) a w→(List.range ops.size).countP (fun j=> !lst listed j)≤fuel→wpAnyIn (Fr fr) 0 P .any ops Q fuel listed a w:=by
 intro fuel
 have fin : ∀(listed:Array Bool) (a:Act) (w:World),(∀j,j<ops.size→lst listed j=true)→RelD C G ops ρ F0 σ0 base nx (lst listed) a w→Q .normal a w:=by
  intro listed a w hall hrel
  apply hQ
  obtain ⟨I,β,h1,h2,h3,h4,h5,h6,h7⟩:=hrel
  have e1 : ∀m,m≤ops.size→sS ρ σ0 (lst listed) m=sS ρ σ0 allS m:=by
   intro m
   induction m with
   | zero=>intro _;rfl
   | succ m ih=>
    intro hm
    have q:sS ρ σ0 (lst listed) (m+1)=if lst listed m=true then (ρ m).app (sS ρ σ0 (lst listed) m) else sS ρ σ0 (lst listed) m:=rfl
    rw [q,hall m (by omega),ih (by omega)]
    rfl
  have e2 : ∀m,m≤ops.size → ∀t,eS ops.toList ρ F0 (lst listed) m t=eS ops.toList ρ F0 allS m t:=by
   intro m
   induction m with
   | zero=>intro _ _;rfl
   | succ m ih=>
    intro hm t
    have q:eS ops.toList ρ F0 (lst listed) (m+1) t=if lst listed m=true∧(ops.toList[m]?).bind (·.dst)=some t then (ρ m).val else eS ops.toList ρ F0 (lst listed) m t:=rfl
    rw [q,hall m (by omega),ih (by omega)]
    rfl
  refine ⟨I,β,by rw [←e1 _ (Nat.le_refl _)];exact h1,(fun j _ hj=>by cases hj),h3,(fun t=>by rw [←e2 _ (Nat.le_refl _)];exact h4 t),h5,(by rw [←e1 _ (Nat.le_refl _)];exact h6),h7⟩
 have done : ∀(listed:Array Bool),listed.size=ops.size→Region.ready .any ops listed=[] → ∀j,j<ops.size→lst listed j=true:=by
  intro listed hsz hr j
  induction j using Nat.strongRecOn with
  | _ j ih=>
   intro hj
   cases hl:lst listed j with
   | true=>rfl
   | false=>
    exfalso
    have hoj:ops[j]? = some ops[j]:=by simp [hj]
    have:j∈Region.ready .any ops listed:=by
     unfold Region.ready
     simp only [List.mem_filter,List.mem_range,Bool.and_eq_true,Bool.not_eq_true']
     refine ⟨hj,hl,?_⟩
     rw [hoj]
     simp only [Option.map_some,Option.getD_some,Array.all_eq_true']
     intro e he
     cases hb:Region.binds .any e with
     | false=>rfl
     | true=>
      have hlt:=edge_lt hd (j:=j) (y:=ops[j]) (by simp [hj]) (by simpa using he) hb
      have:=ih e.on hlt (by omega)
      simp only [Bool.not_true,Bool.false_or]
      unfold lst at this
      simp only [Array.getD_eq_getD_getElem?] at this ⊢
      cases hg:listed[e.on]? with
      | none=>rw [Array.getElem?_eq_none_iff] at hg;omega
      | some b=>rw [hg] at this;simpa using this
    rw [hr] at this;cases this
 induction fuel with
 | zero=>
  intro listed a w hsz hcl hrel hc
  have hall : ∀j,j<ops.size→lst listed j=true:=by
   intro j hj
   have h0:(List.range ops.size).countP (fun j=> !lst listed j)=0:=by omega
   have:=List.countP_eq_zero.1 h0 j (by simpa using hj)
   simpa using this
  refine ⟨?_,fin listed a w hall hrel⟩
  unfold Region.ready
  rw [List.filter_eq_nil_iff]
  intro j hj
  have:=hall j (by simpa using hj)
  unfold lst at this
  simp [this]
 | succ fuel ih=>
  intro listed a w hsz hcl hrel hc
  refine ⟨fun hr=>fin listed a w (done listed hsz hr) hrel,fun i hi =>?_⟩
  obtain ⟨hi1,hi2,hi3⟩:=ready_mem hi
  have hoi:ops[i]? = some ops[i]:=by simp [hi1]
  have hol:ops.toList[i]? = some ops[i]:=by simp [hi1]
  generalize hoo:ops[i]=o at hoi hol
  have hS' : ∀j,lst (listed.setIfInBounds i true) j=if j=i then true else lst listed j:=by
   intro j
   unfold lst
   simp only [Array.getD_eq_getD_getElem?,Array.getElem?_setIfInBounds]
   by_cases e:i=j
   ·subst e;simp [show i<listed.size by omega]
   ·simp [e,Ne.symm e]
  have hon : ∀e∈o.after.toList,Region.binds .any e=true→lst listed e.on=true:=by
   intro e he hb
   have h1:=hi3 o hoi e he hb
   unfold lst
   simp only [Array.getD_eq_getD_getElem?] at h1 ⊢
   cases hg:listed[e.on]? with
   | none=>rfl
   | some b=>rw [hg] at h1;simpa using h1
  have hcl':Closed ops.toList (lst (listed.setIfInBounds i true)):=by
   intro j x hx hj e he hb
   rw [hS']
   rw [hS'] at hj
   split
   ·rfl
   ·by_cases hji:j=i
    ·subst hji
     rw [hol] at hx;injection hx with hx;subst hx
     exact hon e he hb
    ·rw [if_neg hji] at hj
     exact hcl j x hx hj e he hb
  have hnx:Nx ops (lst listed) (lst (listed.setIfInBounds i true)) i o:=⟨hol,hi2,hcl,hcl',hS'⟩
  have hcnt:(List.range ops.size).countP (fun j=> !lst (listed.setIfInBounds i true) j)≤fuel:=by
   have h1:(List.range ops.size).countP (fun j=> !lst (listed.setIfInBounds i true) j)<(List.range ops.size).countP (fun j=> !lst listed j):=by
    have h2:(List.range ops.size).countP (fun j=> !lst listed j)=(List.range ops.size).countP (fun j=> !lst (listed.setIfInBounds i true) j)+(List.range ops.size).countP (fun j=>decide (j=i)):=by
     have key : ∀(l:List Nat),l.countP (fun j=> !lst listed j)=l.countP (fun j=> !lst (listed.setIfInBounds i true) j)+l.countP (fun j=>decide (j=i)):=by
      intro l
      induction l with
      | nil=>rfl
      | cons x r ihl=>
       simp only [List.countP_cons,ihl,hS']
       by_cases hx:x=i
       ·subst hx;rw [show lst listed x=false from hi2];simp;omega
       ·simp [hx];omega
     exact key _
    have h3:0<(List.range ops.size).countP (fun j=>decide (j=i)):=List.countP_pos_iff.2 ⟨i,by simpa using hi1,by simp⟩
    omega
   omega
  obtain ⟨I,β,r1,r2,r3,r4,r5,r6,r7⟩:=hrel
  obtain ⟨b,l1,l2⟩:=hloc i hi1 o hol
  have hlook : ∀t∈namesO ops o,eS ops.toList ρ F0 (lst listed) ops.size t=eS ops.toList ρ F0 allS i t:=by
   intro t ht
   rw [hnx.looks hd ht ops.size]
   by_cases h:ops.size≤i
   ·omega
   ·rw [if_neg h]
  have hwant:=l1 w I β a (fun t ht=>by rw [←hlook t (names_look ht)];exact r4 t)
  have hfree : ∀j,base+4*i≤j→j<base+4*i+4→β j=none:=r2 i hi1 hi2
  unfold wpOpIn
  rw [hoi]
  simp only []
  rw [hwant]
  have putOk : ∀ {w':World} {I':Nat→Prop} {β':Bet} {u:Value} {σ':Sig},MStep w I β (sS ρ σ0 (lst listed) ops.size) nx w' I' β' σ' nx→Den w' I' β' (ρ i).val u → ∀t,Den w' I' β' (eS ops.toList ρ F0 (lst (listed.setIfInBounds i true)) ops.size t) ((a.put o.dst u).tmps.getD t undef):=by
   intro w' I' β' u σ' hst hu t
   rw [hnx.env hd t ops.size]
   cases hdd:o.dst with
   | none=>
    rw [if_neg (by simp)]
    exact hst.den r1.mem (r4 t)
   | some d=>
    rw [getD_put (by rw [r5];exact hdst i o d hoi hdd)]
    by_cases hdt:d=t
    ·subst hdt;rw [if_pos ⟨hi1,rfl⟩,if_pos rfl];exact hu
    ·rw [if_neg (by simp [hdt]),if_neg hdt];exact hst.den r1.mem (r4 t)
  have hden : ∀x∈o.op.operands.toList,Den w I β (evF G (eS ops.toList ρ F0 allS i) x) (a.eval x):=by
   intro x hx
   cases x with
   | tmp t=>
    have ht:t∈namesO ops o:=names_look (by simp only [Oper.looksAt,List.mem_append,List.mem_filterMap];left;exact ⟨_,hx,rfl⟩)
    show Den w I β (eS ops.toList ρ F0 allS i t) _
    rw [←hlook t ht];exact r4 t
   | const v=>exact DenD.lit v
   | global g=>
    show Den w I β (match G g with|some x=> .d x|none=> .unk) _
    cases h:G g with
    | none=>trivial
    | some x=>exact r7 g x h
   | func f=>exact DenD.fn f [] [] rfl (by simp)
  cases hr:ρ i with
  | skip=>
   rw [hr] at l2
   rw [l2,if_neg (by simp)]
   have hsig : ∀k,(sS ρ σ0 (lst (listed.setIfInBounds i true)) ops.size).get k=(sS ρ σ0 (lst listed) ops.size).get k:=fun k=>by
    have h1:=hnx.sig hd (new:=[]) (.inr rfl) hloc (by rw [hr];intro σ;simp [Rec.app]) (newIn_nil _) ops.size (Nat.le_refl _) k
    rw [h1,if_pos hi1,List.append_nil]
   refine ⟨fun _ _=>trivial,?_⟩
   refine ih _ _ _ (by simpa using hsz) hcl' ⟨I,β,?_,fun j hj hjs=>r2 j hj ?_,r3,?_,by rw [put_size];exact r5,by rw [put_defers];exact r6.congr hsig,r7⟩ hcnt
   ·exact r1.congr hsig
   ·rw [hS'] at hjs;split at hjs
    ·cases hjs
    ·exact hjs
   ·exact putOk (MStep.refl r1.mem) (by rw [hr];exact skip_den)
  | p v=>
   rw [hr] at l2
   obtain ⟨e1,e2,e4⟩:=l2
   rw [e1,if_pos rfl]
   have hdo:=e4 _ (fun hci=>sS_sub hk hloc (lst listed) (fun j hj hjs ha=>by
    have h1:=List.all_eq_true.1 ha i (by simpa using hci)
    have h2:=bef_in hcl (by simpa using hj) h1 hjs
    rw [show lst listed i=false from hi2] at h2
    cases h2) ops.size (Nat.le_refl _)) w I β nx a r1.mem r7 hfree (by omega) hden
   refine hdo.wpIn (fun u w' ⟨I',β',hu,hst,hfr⟩ =>?_)
   have hsig : ∀k,(sS ρ σ0 (lst (listed.setIfInBounds i true)) ops.size).get k=(sS ρ σ0 (lst listed) ops.size).get k:=fun k=>by
    have h1:=hnx.sig hd (new:=[]) (.inr rfl) hloc (by rw [hr];intro σ;simp [Rec.app]) (newIn_nil _) ops.size (Nat.le_refl _) k
    rw [h1,if_pos hi1,List.append_nil]
   refine ih _ _ _ (by simpa using hsz) hcl' ⟨I',β',?_,fun j hj hjs k hk1 hk2 =>?_,fun k hk =>?_,putOk hst (by rw [hr];exact hu),by rw [put_size];exact r5,by rw [put_defers];exact (r6.step hst).congr hsig,r7.step r1.mem hst⟩ hcnt
   ·exact (r1.trans hst).congr hsig
   ·rw [hS'] at hjs
    split at hjs
    ·cases hjs
    ·rw [hfr k (by omega)];exact r2 j hj hjs k hk1 hk2
   ·rw [hfr k (by omega)];exact r3 k hk
  | q v new=>
   rw [hr] at l2
   obtain ⟨e1,e2,e3,e4⟩:=l2
   rw [e1,if_pos rfl]
   obtain ⟨τ,hτ⟩:=hnx.under hd e2 hloc ops.size (Nat.le_refl _)
   have hsub:Sub (bS ρ σ0 i) (sS ρ σ0 (lst listed) ops.size):=by
    intro k blk hk
    rw [hτ,get_append]
    rw [if_neg (by omega),hk]
   have hdo:=e4 _ hsub w I β nx a r1.mem r7 hfree (by omega) hden
   refine hdo.wpIn (fun u w' ⟨I',β',hu,hst,hfr⟩ =>?_)
   have hsig : ∀k,(sS ρ σ0 (lst (listed.setIfInBounds i true)) ops.size).get k=(sS ρ σ0 (lst listed) ops.size++new).get k:=fun k=>by
    have h1:=hnx.sig hd (new:=new) (.inl e2) hloc (by rw [hr];intro σ;rfl) e3 ops.size (Nat.le_refl _) k
    rw [h1,if_pos hi1]
   refine ih _ _ _ (by simpa using hsz) hcl' ⟨I',β',?_,fun j hj hjs k hk1 hk2 =>?_,fun k hk =>?_,putOk hst (by rw [hr];exact hu),by rw [put_size];exact r5,by rw [put_defers];exact (r6.step hst).congr hsig,r7.step r1.mem hst⟩ hcnt
   ·exact (r1.trans hst).congr hsig
   ·rw [hS'] at hjs
    split at hjs
    ·cases hjs
    ·rw [hfr k (by omega)];exact r2 j hj hjs k hk1 hk2
   ·rw [hfr k (by omega)];exact r3 k hk
  | e v σ'=>
   rw [hr] at l2
   obtain ⟨e1,e2,e4⟩:=l2
   rw [e1,if_pos rfl]
   obtain ⟨s1,s2⟩:=hnx.eff (ρ:=ρ) (σ0:=σ0) hloc e2.1 (tot_of hd hol e2.2.1) ops.size (Nat.le_refl _)
   rw [show min ops.size i=i from by omega] at s1
   rw [if_pos hi1,hr] at s2
   have hmem:Mem w I β (sS ρ σ0 allS i) nx:=by rw [←s1];exact r1.mem
   have hdo:=e4 w I β nx a hmem r7 hfree (by omega) hden
   refine hdo.wpIn (fun u w' ⟨I',β',hu,hst,hfr⟩ =>?_)
   rw [←s1] at hst
   refine ih _ _ _ (by simpa using hsz) hcl' ⟨I',β',?_,fun j hj hjs k hk1 hk2 =>?_,fun k hk =>?_,putOk hst (by rw [hr];exact hu),by rw [put_size];exact r5,by rw [put_defers,s2];exact r6.step hst,r7.step r1.mem hst⟩ hcnt
   ·rw [s2];exact r1.trans hst
   ·rw [hS'] at hjs
    split at hjs
    ·cases hjs
    ·rw [hfr k (by omega)];exact r2 j hj hjs k hk1 hk2
   ·rw [hfr k (by omega)];exact r3 k hk
theorem opsL_sound (hm:P.follows .mixedOrders=true) (hd:drawOk lo ops=true) (hlo:loOk lo 0 ops.toList=true) (hn:base+4*ops.size≤nx) (hdst : ∀(i:Nat) o x,ops[i]? = some o→o.dst=some x→x<C.n) {K:Env→Sig→Prop} {e:Env} {σ:Sig} {a:Act} {w:World} {id:Nat}
 (hQ : ∀e σ a w,K e σ→RelE C G e σ nx (base+4*ops.size) a w→Q .normal a w) (hk:Sub σk σ) (h:opsL P G lo σk ops base 0 ops.toList e σ [] K) (hrel:RelE C G e σ nx base a w):(Code.region id ops true).wpIn (Fr fr) 0 P Q a w:=by
 obtain ⟨ρ,e',t1,t2,t3⟩:=trace (fun j o ho hc=>loOk_spec ops.toList 0 hlo j o ho (by rw [Nat.zero_add];exact hc)) (F0:=e.get) (σ0:=σ) ops.toList 0 e σ [] (fun _=> .skip) rfl h (Nat.zero_le _) (fun _=>rfl) rfl (by simp [sS]) (fun j hj=>by omega)
 refine wpIn_region_any hm ?_
 obtain ⟨I,β,r1,r2,r3,r4,r5,r6⟩:=hrel
 have hS0 : ∀j,j<ops.size→lst (Array.replicate ops.size false) j=false:=by
  intro j hj;simp [lst,hj]
 have e1 : ∀m,m≤ops.size→sS ρ σ (lst (Array.replicate ops.size false)) m=σ:=by
  intro m
  induction m with
  | zero=>intro _;rfl
  | succ m ih=>
   intro hm
   have:sS ρ σ (lst (Array.replicate ops.size false)) (m+1)=if lst (Array.replicate ops.size false) m=true then (ρ m).app (sS ρ σ (lst (Array.replicate ops.size false)) m) else sS ρ σ (lst (Array.replicate ops.size false)) m:=rfl
   rw [this,hS0 m (by omega),if_neg (by simp),ih (by omega)]
 refine any_sound (ρ:=ρ) (F0:=e.get) (σ0:=σ) (nx:=nx) hk hd hn hdst t1 (fun a' w' hr =>?_) ops.size _ a _ (by simp) (fun j o ho hj =>?_) ⟨I,β,?_,fun j hj _ k hk1 _=>r2 k (by omega),fun k hk=>r2 k (by omega),fun t =>?_,r4,?_,?_⟩ ?_
 ·obtain ⟨I',β',q1,q2,q3,q4,q5,q6,q7⟩:=hr
  exact hQ e' _ a' w' t2 ⟨I',β',q1,q3,fun t=>by rw [t3];exact q4 t,q5,q6,q7⟩
 ·have hjs:j<ops.size:=by have:=(List.getElem?_eq_some_iff.1 ho).1;simpa using this
  rw [hS0 j hjs] at hj;cases hj
 ·rw [e1 _ (Nat.le_refl _)]
  exact r1.trans (MStep.drew r1.mem)
 ·have e2 : ∀m,m≤ops.size→eS ops.toList ρ e.get (lst (Array.replicate ops.size false)) m t=e.get t:=by
   intro m
   induction m with
   | zero=>intro _;rfl
   | succ m ih=>
    intro hm
    have:eS ops.toList ρ e.get (lst (Array.replicate ops.size false)) (m+1) t=if lst (Array.replicate ops.size false) m=true∧(ops.toList[m]?).bind (·.dst)=some t then (ρ m).val else eS ops.toList ρ e.get (lst (Array.replicate ops.size false)) m t:=rfl
    rw [this,hS0 m (by omega),if_neg (by simp),ih (by omega)]
  rw [e2 _ (Nat.le_refl _)]
  exact (MStep.drew r1.mem).den r1.mem (r3 t)
 ·rw [e1 _ (Nat.le_refl _)]
  exact r5.step (MStep.drew r1.mem)
 ·exact r6.step r1.mem (MStep.drew r1.mem)
 ·refine Nat.le_trans (List.countP_le_length) (by simp)
end
def dstOk (n:Nat):List Oper→Bool
 | []=>true
 | o::r=>(match o.dst with|some d=>decide (d<n)|none=>true)&&dstOk n r
def codeOk (n:Nat):Code→Bool
 | .skip=>true
 | .region _ ops _=>dstOk n ops.toList
 | .seq a b=>codeOk n a&&codeOk n b
 | .cond _ a b=>codeOk n a&&codeOk n b
 | .block _ c=>codeOk n c
 | .loop c=>codeOk n c
 | .exit _=>true
 | .ret=>true
 | .label _=>true
 | .refuse _=>true
 | .scope c=>codeOk n c
 | .rangeFunc _ ps a c=>ps.toList.all (fun p=>decide (p<n))&&codeOk n a&&codeOk n c
 | _=>false
def noR:Code→Bool
 | .seq a b=>noR a&&noR b
 | .cond _ a b=>noR a&&noR b
 | .block _ c=>noR c
 | .loop c=>noR c
 | .scope c=>noR c
 | .rangeFunc _ _ _ _=>false
 | _=>true
theorem dstOk_spec {n:Nat} (l:List Oper) (h:dstOk n l=true) : ∀(i:Nat) o x,l[i]? = some o→o.dst=some x→x<n:=by
 induction l with
 | nil=>intro i o x hi;simp at hi
 | cons y r ih=>
  intro i o x hi hx
  simp only [dstOk,Bool.and_eq_true] at h
  cases i with
  | zero=>
   simp at hi;subst hi
   have:=h.1
   rw [hx] at this
   simpa using this
  | succ i=>exact ih h.2 i o x (by simpa using hi) hx
def StLe (G:Gl) (m:Nat) (st st':St):Prop:= ∀C a w,C.nx=m→Rel C G st a w→Rel C G st' a w
def GhW (G:Gl) (m:Nat) (K:St→Prop) (st:St) (_u:Tag K:= .mk) (_h:True:=trivial):Prop:= ∃st',StLe G m st st'∧K st'
theorem GhW.now {G:Gl} {m:Nat} {K:St→Prop} {st:St} (h:K st):GhW G m K st:=⟨st,fun _ _ _ _ h=>h,h⟩
theorem GhW.via {G:Gl} {m:Nat} {K:St→Prop} {st st':St} (h:StLe G m st st') (k:GhW G m K st'):GhW G m K st:=by
 obtain ⟨s,h1,h2⟩:=k
 exact ⟨s,fun C a w hm hr=>h1 C a w hm (h C a w hm hr),h2⟩
def AR (P:Program) (G:Gl) (fr:Option Nat) (n m:Nat) (c:Code) (st:St) (Q:Exit→St→Prop):Prop:=
 ∀(C:Ctx) a w,C.n=n→C.nx=m→Rel C G st a w→c.wpIn (Fr fr) 0 P (fun e a' w'=> ∃st',Q e st'∧Rel C G st' a' w') a w
def AW (P:Program) (G:Gl) (n m:Nat) (c:Code) (st:St) (Q:Exit→St→Prop):Prop:= ∀fr,(fr=none∨noR c=true)→AR P G fr n m c st Q
theorem AR.mono {P:Program} {G:Gl} {fr:Option Nat} {n m:Nat} {c:Code} {st:St} {Q Q':Exit→St→Prop} (h:AR P G fr n m c st Q) (hq : ∀e st,Q e st→Q' e st):AR P G fr n m c st Q':=
 fun C a w hn hm hr=>wpIn_mono (h C a w hn hm hr) fun e _ _ ⟨st',h1,h2⟩=>⟨st',hq e st' h1,h2⟩
theorem AW.mono {P:Program} {G:Gl} {n m:Nat} {c:Code} {st:St} {Q Q':Exit→St→Prop} (h:AW P G n m c st Q) (hq : ∀e st,Q e st→Q' e st):AW P G n m c st Q':=fun fr hfr=>(h fr hfr).mono hq
theorem stepR_scope {P:Program} {b:Frame} {a:Act} {k:List Item} {cs:List Frame} {w:World} {c:Code} : step P (lone (b.atR a (.code (.scope c)::k)) cs w) = .next (lone (b.atR a (.code c :: .inScope c::k)) cs w):=
 step_lone_go (by simp [stepG,stepG.exec,Frame.atR])
theorem stepR_inScope {P:Program} {b:Frame} {a:Act} {k:List Item} {cs:List Frame} {w:World} {c:Code} : step P (lone (b.atR a (.inScope c::k)) cs w) = .next (lone (b.atR a k) cs w):=
 step_lone_go (by simp [stepG,stepG.exec,Frame.atR])
theorem wpIn_scope_straight {F:Fence} {n:Nat} {P:Program} {Q:Exit→Act→World→Prop} {a:Act} {w:World} {c:Code} (h:c.wpIn F n P (Exit.noGoto Q) a w):(Code.scope c).wpIn F n P Q a w:=by
 intro b k cs hro hb hr
 have h0:(lone (b.atR a (.code (.scope c)::k)) cs w).fenced P F:=fenced_calm hb hr rfl
 obtain ⟨e,a₁,w₁,hq,harr⟩:=h b (.inScope c::k) cs hro hb hr
 cases e with
 | normal=>exact ⟨.normal,a₁,w₁,hq,.head h0 stepR_scope (StepsIn.trans harr (.one (fenced_calm hb hr rfl) stepR_inScope))⟩
 | exit id=>
  have hx:exitTo id (.inScope c::k)=exitTo id k:=by simp [exitTo]
  exact ⟨.exit id,a₁,w₁,hq,fun k' hk=> .head h0 stepR_scope (harr.1 k' (by rw [hx];exact hk)),fun hr' hk=>let ⟨k₁,h1,h2⟩:=harr.2 hr' (by rw [hx];exact hk);⟨k₁,h1,.head h0 stepR_scope h2⟩⟩
 | goto l=>exact hq.elim
 | ret=>exact ⟨_,a₁,w₁,hq,.of_steps (.one h0 stepR_scope) harr⟩
 | panic ch=>exact ⟨_,a₁,w₁,hq,.of_steps (.one h0 stepR_scope) harr⟩
 | outgrown=>exact ⟨_,a₁,w₁,hq,.of_steps (.one h0 stepR_scope) harr⟩
def LoopW (P:Program) (G:Gl) (n m:Nat) (c:Code) (st:St) (Q:Exit→St→Prop) (_u:Tag c:= .mk) (_v:Tag Q:= .mk) (_h:True:=trivial):Prop:=AW P G n m (.loop c) st Q
def RangeW (P:Program) (G:Gl) (n m:Nat) (g:Operand) (ps:Array Nat) (asg body:Code) (st:St) (Q:Exit→St→Prop) (_u:Tag body:= .mk) (_v:Tag Q:= .mk) (_w:Tag asg:= .mk) (_h:True:=trivial):Prop:=AW P G n m (.rangeFunc g ps asg body) st Q
def condW (v:V) (p q:Prop):Prop:=boolW v fun b=>brW b p q
def seqK (k:St→Prop) (Q:Exit→St→Prop):Exit→St→Prop
 | .normal,st=>k st
 | e,st=>Q e st
def blockK (id:Nat) (Q:Exit→St→Prop):Exit→St→Prop
 | .exit i,st=>if i=id then Q .normal st else Q (.exit i) st
 | e,st=>Q e st
def scopeK (Q:Exit→St→Prop):Exit→St→Prop
 | .goto _,_=>False
 | e,st=>Q e st
def regW (P:Program) (G:Gl) (lv:List Nat) (ops:Array Oper) (draw:Bool) (K:St→Prop) (st:St):Prop:=if draw=true
 then ∃lo σk,drawOk lo ops=true∧loOk lo 0 ops.toList=true∧Sub σk st.sg∧opsL P G lo σk ops st.nx 0 ops.toList st.env st.sg [] fun e σ=>K ⟨Env.keep lv e,σ,st.nx+4*ops.size⟩
 else opsW P G ops st.nx 0 ops.toList st.env st.sg fun e σ=>K ⟨Env.keep lv e,σ,st.nx+4*ops.size⟩
def codeW (P:Program) (G:Gl) (n m:Nat) (lv:List Nat):Code→St→(Exit→St→Prop)→Prop
 | .skip,st,Q=>Q .normal st
 | .region _ ops draw,st,Q=>GhW G m (regW P G lv ops draw fun st'=>Q .normal st') st
 | .seq a b,st,Q=>codeW P G n m lv a st (seqK (fun st'=>codeW P G n m lv b st' Q) Q)
 | .cond c a b,st,Q=>condW (evF G st.env.get c) (codeW P G n m lv a st Q) (codeW P G n m lv b st Q)
 | .block id c,st,Q=>codeW P G n m lv c st (blockK id Q)
 | .loop c,st,Q=>LoopW P G n m c st Q
 | .exit id,st,Q=>Q (.exit id) st
 | .ret,st,Q=>Q .ret st
 | .label _,st,Q=>Q .normal st
 | .scope c,st,Q=>codeW P G n m lv c st (scopeK Q)
 | .rangeFunc g ps a c,st,Q=>RangeW P G n m g ps a c st Q
 | _,_,_=>False
section
variable {P:Program} {G:Gl} {n m:Nat} {lv:List Nat}
theorem RelE.keep {C:Ctx} {e:Env} {σ:Sig} {nx lim:Nat} {a:Act} {w:World} (h:RelE C G e σ nx lim a w) (lv:List Nat):RelE C G (Env.keep lv e) σ nx lim a w:=by
 obtain ⟨I,β,h1,h2,h3,h4⟩:=h
 refine ⟨I,β,h1,h2,fun t =>?_,h4⟩
 rcases Env.get_keep lv e t with h|h
 ·rw [h];exact h3 t
 ·rw [h];trivial
theorem RelE.bump {C:Ctx} {e:Env} {σ:Sig} {nx lim nx':Nat} {a:Act} {w:World} (h:RelE C G e σ nx lim a w) (hn:nx≤nx'):RelE C G e σ nx' lim a w:=by
 obtain ⟨I,β,h1,h2⟩:=h
 exact ⟨I,β,h1.bump hn,h2⟩
theorem codeR_sound (ho:P.follows .mixedOrders=true) (fr:Option Nat) : ∀(c:Code) (st:St) (Q:Exit→St→Prop),(fr=none∨noR c=true)→codeOk n c=true→codeW P G n m lv c st Q→AR P G fr n m c st Q:=by
 intro c
 induction c with
 | skip=>intro st Q _ _ h C a w _ _ hr;exact wpIn_skip ⟨st,h,hr⟩
 | region id ops draw=>
  intro st Q _ hok h C a w hn hm hr0
  obtain ⟨st,hle,h⟩:=h
  have hr:=hle C a w hm hr0
  simp only [codeOk] at hok
  have hdst : ∀(i:Nat) o x,ops[i]? = some o→o.dst=some x→x<C.n:=fun i o x hi hx=>by rw [hn];exact dstOk_spec _ hok i o x (by simpa using hi) hx
  have hr':RelE C G st.env st.sg (st.nx+4*ops.size) st.nx a w:=RelE.bump hr (by omega)
  cases draw with
  | false=>
   simp only [regW,Bool.false_eq_true,if_false] at h
   refine wpIn_region ?_
   have:=opsW_sound (P:=P) (G:=G) (C:=C) (fr:=fr) (ops:=ops) (base:=st.nx) (nx:=st.nx+4*ops.size) (Q:=fun e a' w'=> ∃st',Q e st'∧Rel C G st' a' w') (Nat.le_refl _) hdst (K:=fun e σ=>Q .normal ⟨Env.keep lv e,σ,st.nx+4*ops.size⟩) (fun e σ a w hK hrel=>⟨_,hK,hrel.keep lv⟩) ops.toList 0 st.env st.sg a w rfl h (by simpa using hr') (Nat.zero_le _)
   rw [List.range_eq_range']
   simpa using this
  | true=>
   simp only [regW,if_true] at h
   obtain ⟨lo,σk,hd,hlo,hk,h⟩:=h
   exact opsL_sound (C:=C) ho hd hlo (nx:=st.nx+4*ops.size) (Nat.le_refl _) hdst (K:=fun e σ=>Q .normal ⟨Env.keep lv e,σ,st.nx+4*ops.size⟩) (fun e σ a w hK hrel=>⟨_,hK,hrel.keep lv⟩) hk h hr'
 | seq x y ihx ihy=>
  intro st Q hfr hok h C a w hn hm hr
  simp only [noR,Bool.and_eq_true] at hfr
  simp only [codeOk,Bool.and_eq_true] at hok
  refine wpIn_seq (wpIn_mono (ihx st _ (hfr.imp id (·.1)) hok.1 h C a w hn hm hr) ?_)
  rintro e a' w' ⟨st',hq,hr'⟩
  cases e with
  | normal=>exact ihy st' Q (hfr.imp id (·.2)) hok.2 hq C a' w' hn hm hr'
  | _=>exact ⟨st',hq,hr'⟩
 | cond c x y ihx ihy=>
  intro st Q hfr hok h C a w hn hm hr
  simp only [noR,Bool.and_eq_true] at hfr
  simp only [codeOk,Bool.and_eq_true] at hok
  simp only [codeW,condW] at h
  unfold boolW at h
  split at h
  ·rename_i b hb
   obtain ⟨I,β,h1,h2,h3,h4,h5,h6⟩:=id hr
   have hd:=evF_den (e:=st.env) (a:=a) h3 h6 c
   rw [hb] at hd
   have hc:=den_lit hd
   refine brW_sound h (fun e1 h9 =>?_) (fun e1 h9 =>?_)
   ·subst e1;exact wpIn_cond_true hc (ihx st Q (hfr.imp id (·.1)) hok.1 h9 C a w hn hm hr)
   ·subst e1;exact wpIn_cond_false hc (ihy st Q (hfr.imp id (·.2)) hok.2 h9 C a w hn hm hr)
  ·exact h.elim
 | block id c ih=>
  intro st Q hfr hok h C a w hn hm hr
  simp only [codeOk] at hok
  refine wpIn_block (wpIn_mono (ih st _ hfr hok h C a w hn hm hr) ?_)
  rintro e a' w' ⟨st',hq,hr'⟩
  cases e with
  | exit i=>
   simp only [blockK] at hq
   simp only [Exit.inBlock]
   split
   ·rename_i hi;rw [if_pos hi] at hq;exact ⟨st',hq,hr'⟩
   ·rename_i hi;rw [if_neg hi] at hq;exact ⟨st',hq,hr'⟩
  | _=>exact ⟨st',hq,hr'⟩
 | loop c _=>intro st Q hfr _ h;exact h fr hfr
 | exit id=>intro st Q _ _ h C a w _ _ hr;exact wpIn_exit ⟨st,h,hr⟩
 | ret=>intro st Q _ _ h C a w _ _ hr;exact wpIn_ret ⟨st,h,hr⟩
 | label l=>intro st Q _ _ h C a w _ _ hr;exact wpIn_label ⟨st,h,hr⟩
 | refuse r=>intro st Q _ _ h;exact h.elim
 | scope c ih=>
  intro st Q hfr hok h C a w hn hm hr
  simp only [codeOk] at hok
  refine wpIn_scope_straight (wpIn_mono (ih st _ hfr hok h C a w hn hm hr) ?_)
  rintro e a' w' ⟨st',hq,hr'⟩
  cases e with
  | goto l=>exact hq.elim
  | _=>exact ⟨st',hq,hr'⟩
 | rangeFunc g ps x y _ _=>intro st Q hfr _ h;exact h fr hfr
 | _=>intro st Q _ hok;simp [codeOk] at hok
theorem codeW_sound (ho:P.follows .mixedOrders=true) (c:Code) (st:St) (Q:Exit→St→Prop) (hok:codeOk n c=true) (h:codeW P G n m lv c st Q):AW P G n m c st Q:=fun fr hfr=>codeR_sound ho fr c st Q hfr hok h
theorem loopW_inv (ho:P.follows .mixedOrders=true) {c:Code} (hok:codeOk n c=true) {st:St} {Q:Exit→St→Prop} (Inv:Nat→St→Prop) (k0:Nat) (h0:Inv k0 st)
 (hr : ∀k st,Inv k st→codeW P G n m lv c st (seqK (GhW G m fun st'=> ∃j,j<k∧Inv j st') Q)):LoopW P G n m c st Q:=by
 intro fr hfr C a w hn hm hrel b kk cs hro hb hroom
 have key : ∀k st a w,Inv k st→Rel C G st a w → ∃e a' w',(∃st',Q e st'∧Rel C G st' a' w')∧ArrivesIn (Machine.fenced P (Fr fr)) P (lone (b.atR a (.code c :: .inLoop c::kk)) cs w) b kk cs e a' w':=by
  intro k
  induction k using Nat.strongRecOn with
  | _ k ih=>
   intro st a w hI hr'
   obtain ⟨e,a',w',⟨st',hq,hr2⟩,harr⟩:=codeW_sound ho c st _ hok (hr k st hI) fr hfr C a w hn hm hr' b (.inLoop c::kk) cs hro hb hroom
   cases e with
   | normal=>
    obtain ⟨st',hle,j,hlt,hI'⟩:=hq
    obtain ⟨e2,a2,w2,hq2,harr2⟩:=ih j hlt st' a' w' hI' (hle C a' w' hm hr2)
    exact ⟨e2,a2,w2,hq2,.of_steps (StepsIn.trans harr (.one (fenced_calm hb hroom rfl) stepR_inLoop)) harr2⟩
   | exit id=>exact ⟨_,a',w',⟨st',hq,hr2⟩,.pass (x:= .inLoop c) rfl (fun _ _=> .inl (by simp)) harr⟩
   | goto l=>exact ⟨_,a',w',⟨st',hq,hr2⟩,.pass (x:= .inLoop c) rfl (fun _ _=> .inl (by simp)) harr⟩
   | ret=>exact ⟨_,a',w',⟨st',hq,hr2⟩,.pass (x:= .inLoop c) rfl (fun _ _=> .inl (by simp)) harr⟩
   | panic ch=>exact ⟨_,a',w',⟨st',hq,hr2⟩,.pass (x:= .inLoop c) rfl (fun _ _=> .inl (by simp)) harr⟩
   | outgrown=>exact ⟨_,a',w',⟨st',hq,hr2⟩,.pass (x:= .inLoop c) rfl (fun _ _=> .inl (by simp)) harr⟩
 obtain ⟨e,a',w',hq,harr⟩:=key _ st a w h0 hrel
 exact ⟨e,a',w',hq,.of_steps (.one (fenced_calm hb hroom rfl) stepR_loop) harr⟩
end
def V.selA (g:Nat→Option Nat):V→V
 | .d x=> .d x
 | .so id k lo n=>match g id with|some j=> .so j k lo n|none=> .unk
 | .po id o=>match g id with|some j=> .po j o|none=> .unk
 | .pe id k i j=>match g id with|some j'=> .pe j' k i j|none=> .unk
 | .mo id=>match g id with|some j=> .mo j|none=> .unk
 | .it id=>match g id with|some j=> .it j|none=> .unk
 | .yl id=>match g id with|some j=> .yl j|none=> .unk
 | v=>v
def V.sel (g:Nat→Option Nat):V→V
 | .agg cs=> .agg (cs.map (V.selA g))
 | .tup cs=> .tup (cs.map (V.selA g))
 | .fn f cs=> .fn f (cs.map (V.selA g))
 | .d x=> .d x
 | .so id k lo n=>V.selA g (.so id k lo n)
 | .po id o=>V.selA g (.po id o)
 | .pe id k i j=>V.selA g (.pe id k i j)
 | .mo id=>V.selA g (.mo id)
 | .it id=>V.selA g (.it id)
 | .yl id=>V.selA g (.yl id)
 | .unk=> .unk
def Env.sel (g:Nat→Option Nat):Env→Env
 | []=>[]
 | (k,v)::r=>(k,v.sel g)::Env.sel g r
def Blk.sel (g:Nat→Option Nat):Blk→Blk
 | .cell cs ty=> .cell (cs.map (V.sel g)) ty
 | .row k es ty=> .row k es ty
 | .map es=> .map es
 | .iter s pos=> .iter s pos
 | .rc y j e=> .rc y j (e.sel g)
theorem Env.get_sel (g:Nat→Option Nat) (e:Env) (t:Nat):(e.sel g).get t=(e.get t).sel g:=by
 induction e with
 | nil=>rfl
 | cons x r ih=>
  obtain ⟨k,v⟩:=x
  simp only [Env.sel,Env.get]
  split
  ·rfl
  ·exact ih
section
variable {w:World} {I:Nat→Prop} {β β':Bet} {g:Nat→Option Nat}
theorem DenA.sel (hg : ∀i j,g i=some j → ∀x,β i=some x→β' j=some x) {v:V} {x:Value} (h:DenA w I β v x):DenA w I β' (v.selA g) x:=by
 cases v with
 | so id k lo n=>
  simp only [V.selA]
  cases hi:g id with
  | none=>trivial
  | some j=>
   rcases h with ⟨h1,h2⟩|⟨b,cap,c,h1,h2⟩
   ·exact .inl ⟨hg id j hi _ h1,h2⟩
   ·exact .inr ⟨b,cap,c,hg id j hi _ h1,h2⟩
 | po id o=>
  simp only [V.selA]
  cases hi:g id with
  | none=>trivial
  | some j=>obtain ⟨b,cap,h1,h2⟩:=h;exact ⟨b,cap,hg id j hi _ h1,h2⟩
 | pe id k i j=>
  simp only [V.selA]
  cases hi:g id with
  | none=>trivial
  | some j=>obtain ⟨b,cap,h1,h2⟩:=h;exact ⟨b,cap,hg id j hi _ h1,h2⟩
 | mo id=>
  simp only [V.selA]
  cases hi:g id with
  | none=>trivial
  | some j=>obtain ⟨b,cap,h1,h2⟩:=h;exact ⟨b,cap,hg id j hi _ h1,h2⟩
 | it id=>
  simp only [V.selA]
  cases hi:g id with
  | none=>trivial
  | some j=>obtain ⟨b,cap,h1,h2⟩:=h;exact ⟨b,cap,hg id j hi _ h1,h2⟩
 | yl id=>
  simp only [V.selA]
  cases hi:g id with
  | none=>trivial
  | some j=>obtain ⟨b,cap,h1,h2⟩:=h;exact ⟨b,cap,hg id j hi _ h1,h2⟩
 | _=>exact h
theorem DenAs.sel (hg : ∀i j,g i=some j → ∀x,β i=some x→β' j=some x) {cs:List V} {vs:List Value} (h:DenAs w I β cs vs):DenAs w I β' (cs.map (V.selA g)) vs:=by
 refine ⟨by simpa using h.1,fun i c v hc hv =>?_⟩
 simp only [List.getElem?_map,Option.map_eq_some_iff] at hc
 obtain ⟨c',hc',rfl⟩:=hc
 exact (h.2 i c' v hc' hv).sel hg
theorem Den.sel (hg : ∀i j,g i=some j → ∀x,β i=some x→β' j=some x) {v:V} {x:Value} (h:Den w I β v x):Den w I β' (v.sel g) x:=by
 have atoms : ∀ {v:V},DenA w I β v x→DenA w I β' (v.selA g) x→Den w I β' (v.selA g) x:=by
  intro v h1 h2
  cases v<;>simp only [V.selA] at h2 ⊢ <;> first
   | exact h2
   | exact h2.elim
   | (split<;>first|trivial|(rename_i q;rw [q] at h2;exact h2))
 cases v with
 | agg cs=>obtain ⟨vs,e,ho,h⟩:=h;exact ⟨vs,e,ho,h.sel hg⟩
 | tup cs=>obtain ⟨vs,e,h⟩:=h;exact ⟨vs,e,h.sel hg⟩
 | fn f cs=>obtain ⟨vs,e,h⟩:=h;exact ⟨vs,e,h.sel hg⟩
 | unk=>trivial
 | d x=>exact h
 | so id k lo n=>exact atoms (v:= .so id k lo n) h (DenA.sel hg (v:= .so id k lo n) h)
 | po id o=>exact atoms (v:= .po id o) h (DenA.sel hg (v:= .po id o) h)
 | pe id k i j=>exact atoms (v:= .pe id k i j) h (DenA.sel hg (v:= .pe id k i j) h)
 | mo id=>exact atoms (v:= .mo id) h (DenA.sel hg (v:= .mo id) h)
 | it id=>exact atoms (v:= .it id) h (DenA.sel hg (v:= .it id) h)
 | yl id=>exact atoms (v:= .yl id) h (DenA.sel hg (v:= .yl id) h)
theorem Own.sel (hg : ∀i j,g i=some j → ∀x,β i=some x→β' j=some x) {i j:Nat} {blk:Blk} (hij:g i=some j) (h:Own w I β i blk):Own w I β' j (blk.sel g):=by
 cases blk with
 | cell cs ty=>
  obtain ⟨b,cap,cur,t,h1,h2,h3,h4⟩:=h
  refine ⟨b,cap,cur,t,hg i j hij _ h1,h2,h3,fun m c hm =>?_⟩
  simp only [List.getElem?_map,Option.map_eq_some_iff] at hm
  obtain ⟨c',hc',rfl⟩:=hm
  obtain ⟨v,v1,v2,v3⟩:=h4 m c' hc'
  exact ⟨v,v1,v2,v3.sel hg⟩
 | row k es ty=>
  rcases h with ⟨h1,h2⟩|⟨b,cap,cur,t,h1,h2⟩
  ·exact .inl ⟨hg i j hij _ h1,h2⟩
  ·exact .inr ⟨b,cap,cur,t,hg i j hij _ h1,h2⟩
 | map es=>obtain ⟨b,cap,ents,clock,h1,h2⟩:=h;exact ⟨b,cap,ents,clock,hg i j hij _ h1,h2⟩
 | iter s pos=>obtain ⟨b,cap,h1,h2⟩:=h;exact ⟨b,cap,hg i j hij _ h1,h2⟩
 | rc y q e=>
  obtain ⟨b,cap,r,h1,h2,h3,h4,h5⟩:=h
  refine ⟨b,cap,r,hg i j hij _ h1,h2,h3,h4,fun t =>?_⟩
  rw [Env.get_sel]
  exact (h5 t).sel hg
end
def idx:List Nat→Nat→Nat→Option Nat
 | [],_,_=>none
 | x::r,i,m=>if x=i then some m else idx r i (m+1)
def selG (m:Nat) (l:List Nat):Nat→Option Nat:=fun i=>if i<m then some i else idx l i m
def Sig.sel (g:Nat→Option Nat):Sig→Sig
 | []=>[]
 | (i,b)::r=>match g i with
  | some j=>(j,b.sel g)::Sig.sel g r
  | none=>Sig.sel g r
def St.sel (st:St) (m:Nat) (l:List Nat):St:=⟨st.env.sel (selG m l),st.sg.sel (selG m l),m+l.length⟩
theorem idx_spec : ∀ {l:List Nat} {i m j:Nat},idx l i m=some j→m≤j∧j<m+l.length∧l[j - m]? = some i
 | x::r,i,m,j,h=>by
  unfold idx at h
  split at h
  ·rename_i hx;injection h with h;subst h;subst hx;exact ⟨Nat.le_refl _,by simp,by simp⟩
  ·obtain ⟨h1,h2,h3⟩:=idx_spec h
   refine ⟨by omega,by simp;omega,?_⟩
   rw [show j - m=(j - (m+1))+1 from by omega];simpa using h3
theorem Sig.get_sel {g:Nat→Option Nat} (hinj : ∀i i' j,g i=some j→g i'=some j→i=i') : ∀(σ:Sig) (j:Nat) b,(σ.sel g).get j=some b → ∃i b',g i=some j∧σ.get i=some b'∧b=b'.sel g
 | [],j,b,h=>by simp [Sig.sel,Sig.get] at h
 | (i,c)::r,j,b,h=>by
  simp only [Sig.sel] at h
  cases hi:g i with
  | none=>
   rw [hi] at h
   obtain ⟨i',b',h1,h2,h3⟩:=Sig.get_sel hinj r j b h
   refine ⟨i',b',h1,?_,h3⟩
   simp only [Sig.get]
   rw [if_neg]
   ·exact h2
   ·rintro rfl;rw [hi] at h1;cases h1
  | some j'=>
   rw [hi] at h
   simp only [Sig.get] at h
   split at h
   ·rename_i hj;subst hj;injection h with h
    exact ⟨i,c,hi,by simp [Sig.get],h.symm⟩
   ·rename_i hj
    obtain ⟨i',b',h1,h2,h3⟩:=Sig.get_sel hinj r j b h
    refine ⟨i',b',h1,?_,h3⟩
    simp only [Sig.get]
    rw [if_neg]
    ·exact h2
    ·rintro rfl;rw [hi] at h1;injection h1 with h1;exact hj h1
theorem selG_inj (m:Nat) (l:List Nat) : ∀i i' j,selG m l i=some j→selG m l i'=some j→i=i':=by
 intro i i' j h h'
 unfold selG at h h'
 split at h
 ·split at h'
  ·injection h with h;injection h' with h';omega
  ·injection h with h
   obtain ⟨q1,_⟩:=idx_spec h'
   omega
 ·split at h'
  ·injection h' with h'
   obtain ⟨q1,_⟩:=idx_spec h
   omega
  ·obtain ⟨_,_,q3⟩:=idx_spec h
   obtain ⟨_,_,q3'⟩:=idx_spec h'
   rw [q3] at q3';injection q3'
theorem StLe.sel (G:Gl) (m:Nat) (st:St) (l:List Nat):StLe G m st (st.sel m l):=by
 intro C a w hm hr
 obtain ⟨I,β,h1,h2,h3,h4,h5,h6⟩:=hr
 have hinj:=selG_inj m l
 let β':Bet:=fun j=>if j<m then β j else match l[j - m]? with|some i=>β i|none=>none
 have hg : ∀i j,selG m l i=some j → ∀x,β i=some x→β' j=some x:=by
  intro i j hij x hx
  unfold selG at hij
  split at hij
  ·rename_i hlt;injection hij with hij;subst hij;simp [β',hlt,hx]
  ·obtain ⟨q1,q2,q3⟩:=idx_spec hij
   simp [β',show ¬j<m by omega,q3,hx]
 have hgb : ∀i j,selG m l i=some j→β' j=β i:=by
  intro i j hij
  unfold selG at hij
  split at hij
  ·rename_i hlt;injection hij with hij;subst hij;simp [β',hlt]
  ·obtain ⟨q1,q2,q3⟩:=idx_spec hij
   simp [β',show ¬j<m by omega,q3]
 refine ⟨I,β',⟨⟨fun j b hj =>?_,fun j j' b b' k c c' g1 g2 g3 g4 =>?_,fun j hj =>?_,h1.mem.lt⟩,h1.os,h1.tape,h1.output,h1.size,h1.block,h1.imm,h1.immn,fun i x hx =>?_,?_,fun k ⟨j,b,c,g1,g2⟩ =>?_⟩,fun j hj =>?_,fun t =>?_,h4,h5.sub (fun k ⟨j,b,c,g1,g2⟩ =>?_) (fun b h=> .inl h),h6⟩
 ·obtain ⟨i,b',q1,q2,q3⟩:=Sig.get_sel hinj _ j b hj
  subst q3
  exact (h1.mem.own i b' q2).sel hg q1
 ·obtain ⟨i,x,q1,q2,q3⟩:=Sig.get_sel hinj _ j b g1
  obtain ⟨i',x',q1',q2',q3'⟩:=Sig.get_sel hinj _ j' b' g2
  rw [hgb i j q1] at g3
  rw [hgb i' j' q1'] at g4
  have:=h1.mem.inj i i' x x' k c c' q2 q2' g3 g4
  subst this
  rw [q1] at q1';injection q1'
 ·have hj':m+l.length≤j:=hj
  show (if j<m then β j else match l[j - m]? with|some i=>β i|none=>none)=none
  rw [if_neg (by omega),List.getElem?_eq_none (by omega)]
 ·have hi:i<m:=by
   rcases Nat.lt_or_ge i m with h|h
   ·exact h
   ·rw [C.free i (by omega)] at hx;cases hx
  show (if i<m then β i else _)=some x
  rw [if_pos hi]
  exact h1.bet i x hx
 ·show C.nx≤m+l.length
  omega
 ·obtain ⟨i,b',q1,q2,q3⟩:=Sig.get_sel hinj _ j b g1
  rw [hgb i j q1] at g2
  exact h1.own' k ⟨i,b',c,q2,g2⟩
 ·have hj':m+l.length≤j:=hj
  show (if j<m then β j else match l[j - m]? with|some i=>β i|none=>none)=none
  rw [if_neg (by omega),List.getElem?_eq_none (by omega)]
 ·show Den w I β' ((st.env.sel _).get t) _
  rw [Env.get_sel]
  exact (h3 t).sel hg
 ·obtain ⟨i,b',q1,q2,q3⟩:=Sig.get_sel hinj _ j b g1
  rw [hgb i j q1] at g2
  exact ⟨i,b',c,q2,g2⟩
def St.frz (st:St) (id:Nat):St:=match st.sg.get id with
 | some blk=>⟨st.env.frz id blk,st.sg.frz id blk,st.nx⟩
 | none=>st
theorem StLe.refl (G:Gl) (m:Nat) (st:St):StLe G m st st:=fun _ _ _ _ h=>h
theorem StLe.trans {G:Gl} {m:Nat} {a b c:St} (h:StLe G m a b) (k:StLe G m b c):StLe G m a c:=fun C x w hm hr=>k C x w hm (h C x w hm hr)
theorem StLe.frz (G:Gl) (m:Nat) (st:St) (id:Nat):StLe G m st (st.frz id):=by
 intro C a w _ hr
 unfold St.frz
 cases hg:st.sg.get id with
 | none=>exact hr
 | some blk=>
  obtain ⟨I,β,h1,h2,h3,h4,h5,h6⟩:=hr
  have hown:=h1.mem.own id blk hg
  let I':Nat→Prop:=fun b=>I b ∨ ∃c,β id=some (some (b,c))
  have hset:Set1 w I I' β id blk:=⟨fun b hb=> .inl hb,hown,fun b c hb=> .inr ⟨c,hb⟩⟩
  refine ⟨I',β,⟨⟨fun j b hj =>?_,fun j j' b b' k c c' g1 g2 g3 g4 =>?_,h1.mem.free,fun b hb =>?_⟩,h1.os,h1.tape,h1.output,h1.size,h1.block,fun b hb=> .inl (h1.imm b hb),fun b hb =>?_,h1.bet,h1.nx,fun b ⟨j,bl,c,g1,g2⟩ =>?_⟩,h2,fun t =>?_,h4,h5.sub (fun b ⟨j,bl,c,g1,g2⟩ =>?_) (fun b hb =>?_),fun g x hx=>(h6 g x hx).keep (fun _ _=>rfl) (fun b hb=> .inl hb)⟩
  ·have hj':(st.sg.frz id blk).get j=some b:=hj
   rw [Sig.get_frz] at hj'
   split at hj'
   ·cases hj'
   ·rename_i hne
    simp only [Option.map_eq_some_iff] at hj'
    obtain ⟨b0,hb0,rfl⟩:=hj'
    have ho:=h1.mem.own j b0 hb0
    have hni : ∀b c,β j=some (some (b,c)) → ¬I' b:=by
     intro b c hb hI
     rcases hI with hI|⟨c',hc'⟩
     ·exact (ho.not_imm hb).1 hI
     ·exact hne (h1.mem.inj j id b0 blk b c c' hb0 hg hb hc')
    cases b0 with
    | cell cs ty=>
     obtain ⟨b,cap,cur,t,q1,q2,q3,q4⟩:=ho
     refine ⟨b,cap,cur,t,q1,q2,hni b cap q1,fun i c hi =>?_⟩
     simp only [List.getElem?_map,Option.map_eq_some_iff] at hi
     obtain ⟨c',hc',rfl⟩:=hi
     obtain ⟨v,v1,v2,v3⟩:=q4 i c' hc'
     exact ⟨v,v1,v2,hset.den v3⟩
    | row k es ty=>exact ho.keep (fun _ _=>rfl) (fun b hb=> .inl hb) hni (fun _ _ h=>h)
    | map es=>exact ho.keep (fun _ _=>rfl) (fun b hb=> .inl hb) hni (fun _ _ h=>h)
    | iter s pos=>exact ho.keep (fun _ _=>rfl) (fun b hb=> .inl hb) hni (fun _ _ h=>h)
    | rc y q e=>
     obtain ⟨b,cap,r,q1,q2,q3,q4,q5⟩:=ho
     refine ⟨b,cap,r,q1,q2,hni b cap q1,q4,fun t =>?_⟩
     rw [Env.get_frz]
     exact hset.den (q5 t)
  ·have e1:(st.sg.frz id blk).get j=some b:=g1
   have e2:(st.sg.frz id blk).get j'=some b':=g2
   rw [Sig.get_frz] at e1 e2
   split at e1
   ·cases e1
   ·split at e2
    ·cases e2
    ·simp only [Option.map_eq_some_iff] at e1 e2
     obtain ⟨x,hx,_⟩:=e1
     obtain ⟨y,hy,_⟩:=e2
     exact h1.mem.inj j j' x y k c c' hx hy g3 g4
  ·rcases hb with hb|⟨c,hb⟩
   ·exact h1.mem.lt b hb
   ·exact (hown.not_imm hb).2
  ·rcases hb with hb|⟨c,hb⟩
   ·exact h1.immn b hb
   ·rcases h1.own' b ⟨id,blk,c,hg,hb⟩ with h|h
    ·exact .inr (.inl h)
    ·exact .inr (.inr h)
  ·have e1:(st.sg.frz id blk).get j=some bl:=g1
   rw [Sig.get_frz] at e1
   split at e1
   ·cases e1
   ·simp only [Option.map_eq_some_iff] at e1
    obtain ⟨x,hx,_⟩:=e1
    exact h1.own' b ⟨j,x,c,hx,g2⟩
  ·show Den w I' β ((st.env.frz id blk).get t) _
   rw [Env.get_frz]
   exact hset.den (h3 t)
  ·have e1:(st.sg.frz id blk).get j=some bl:=g1
   rw [Sig.get_frz] at e1
   split at e1
   ·cases e1
   ·simp only [Option.map_eq_some_iff] at e1
    obtain ⟨x,hx,_⟩:=e1
    exact ⟨j,x,c,hx,g2⟩
  ·rcases hb with hb|⟨c,hb⟩
   ·exact .inl hb
   ·exact .inr ⟨id,blk,c,hg,hb⟩
def St.pick (st:St) (ks is:List Nat):St:=⟨ks.map fun t=>(t,st.env.get t),is.filterMap fun i=>(st.sg.get i).map fun b=>(i,b),st.nx⟩
theorem Env.get_map (f:Nat→V) (t:Nat) : ∀(ks:List Nat),Env.get (ks.map fun t=>(t,f t)) t=f t∨Env.get (ks.map fun t=>(t,f t)) t = .unk
 | []=> .inr rfl
 | k::r=>by
  simp only [List.map_cons,Env.get]
  split
  ·rename_i h;subst h;exact .inl rfl
  ·exact Env.get_map f t r
theorem Sig.get_pick (σ:Sig) (j:Nat) (b:Blk) : ∀(is:List Nat),Sig.get (is.filterMap fun i=>(σ.get i).map fun b=>(i,b)) j=some b→σ.get j=some b
 | [],h=>by cases h
 | k::r,h=>by
  cases hk:σ.get k with
  | none=>
   simp only [List.filterMap_cons,hk,Option.map_none] at h
   exact Sig.get_pick σ j b r h
  | some c=>
   simp only [List.filterMap_cons,hk,Option.map_some,Sig.get] at h
   split at h
   ·rename_i e;subst e;rw [hk];exact h
   ·exact Sig.get_pick σ j b r h
theorem MStep.sub {w w':World} {I I':Nat→Prop} {β β':Bet} {σ σ' σ'':Sig} {nx nx' nx'':Nat} (h:MStep w I β σ nx w' I' β' σ' nx') (he : ∀j b,σ''.get j=some b→σ'.get j=some b) (hn:nx'≤nx''):MStep w I β σ nx w' I' β' σ'' nx'':=
 { h with
  mem:=⟨fun id b hb=>h.mem.own id b (he _ _ hb),fun i j b b' k c c' h1 h2=>h.mem.inj i j b b' k c c' (he _ _ h1) (he _ _ h2),fun j hj=>h.mem.free j (by omega),h.mem.lt⟩
  nx:=by have:=h.nx;omega
  own':=fun b ⟨id,blk,c,h1,h2⟩=>h.own' b ⟨id,blk,c,he _ _ h1,h2⟩ }
theorem StLe.pick (G:Gl) (m:Nat) (st:St) (ks is:List Nat):StLe G m st (st.pick ks is):=by
 intro C a w _ hr
 obtain ⟨I,β,h1,h2,h3,h4,h5,h6⟩:=hr
 refine ⟨I,β,h1.sub (fun j b hb=>Sig.get_pick _ j b is hb) (Nat.le_refl _),h2,fun t =>?_,h4,h5.sub (fun b ⟨j,bl,c,g1,g2⟩=>⟨j,bl,c,Sig.get_pick _ j bl is g1,g2⟩) (fun b h=> .inl h),h6⟩
 rcases Env.get_map (fun t=>st.env.get t) t ks with h|h
 ·show Den w I β (Env.get (ks.map fun t=>(t,st.env.get t)) t) _
  rw [h];exact h3 t
 ·show Den w I β (Env.get (ks.map fun t=>(t,st.env.get t)) t) _
  rw [h];trivial
def V.atm (v:V):V:=match v with
 | .agg _=> .unk
 | .tup _=> .unk
 | .fn _ _=> .unk
 | v=>v
def retV:List V→V
 | [v]=>v
 | vs=> .tup (vs.map V.atm)
def resW (P:Program):List ResultVar→St→(List V→Prop)→Prop
 | [],_,K=>K []
 | .tmp t::r,st,K=>resW P r st fun vs=>K (st.env.get t::vs)
 | .cell a t::r,st,K=>loadV P t (st.env.get a) st.sg fun v=>resW P r st fun vs=>K (v::vs)
def DoneW (P:Program) (G:Gl) (m:Nat) (rs:List ResultVar) (r:V) (σ':Sig) (st:St):Prop:=
 GhW G m (fun st=>resW P rs st fun vs=> ∃l:List Nat,(retV vs).sel (selG m l)=r∧Sub σ' (st.sg.sel (selG m l))∧l.length≤4) st
def retK (K:St→Prop):Exit→St→Prop
 | .normal,st=>K st
 | .ret,st=>K st
 | _,_=>False
def OFn (P:Program) (G:Gl) (f:Nat) (args:List V) (σ:Sig) (m:Nat) (r:V) (σ':Sig):Prop:=
 ∀w I β vals,Mem w I β σ m→GOk G w I→DenL w I β args vals→Calls P f vals.toArray w fun e w'=> ∃u I' β',e = .returned u∧Den w' I' β' r u∧MStep w I β σ m w' I' β' σ' (m+4)
def argE:Nat→List V→Env
 | _,[]=>[]
 | i,v::r=>(i,v)::argE (i+1) r
theorem get_argE (args:List V) : ∀(i t:Nat),(argE i args).get t=if i≤t then (args[t - i]?).getD .unk else .unk:=by
 induction args with
 | nil=>intro i t;simp [argE,Env.get]
 | cons v r ih=>
  intro i t
  simp only [argE,Env.get]
  split
  ·rename_i h;subst h;simp
  ·rename_i h
   rw [ih]
   by_cases h1:i+1≤t
   ·rw [if_pos h1,if_pos (by omega),show t - i=(t - (i+1))+1 from by omega];simp
   ·rw [if_neg h1,if_neg (by omega)]
section
variable {P:Program} {G:Gl}
theorem den_atm {w:World} {I:Nat→Prop} {β:Bet} {v:V} {x:Value} (h:Den w I β v x):DenA w I β v.atm x:=by
 cases v<;>first|exact h|trivial
def resOne (tmps:Array Value):ResultVar→Sem Value
 | .tmp t=>pure (tmps.getD t undef)
 | .cell a t=>do loadVar t (←asAddr (tmps.getD a undef))
theorem results_eq (fn:Func) (tmps:Array Value):results fn tmps=(do let vs ←fn.results.mapM (resOne tmps);pure (if h:vs.size=1 then vs[0] else .tuple vs)):=by
 unfold results
 congr 2
theorem mapM_list {P:Program} {w:World} {α:Type} (f:α→Sem Value) (rs:List α) (xs:List Value) (hl:rs.length=xs.length) (h : ∀(i:Nat) r x,rs[i]? = some r→xs[i]? = some x→(f r).run P w = .ok x w):(rs.mapM f).run P w = .ok xs w:=by
 induction rs generalizing xs with
 | nil=>
  cases xs with
  | nil=>simp
  | cons=>simp at hl
 | cons r rs ih=>
  cases xs with
  | nil=>simp at hl
  | cons x xs=>
   have h0:=h 0 r x rfl rfl
   have h1:=ih xs (by simpa using hl) (fun i r x hr hx=>h (i+1) r x (by simpa using hr) (by simpa using hx))
   rw [List.mapM_cons]
   simp only [Sem.run_bind,Sem.run_pure,Result.andThen,h0,h1]
theorem resW_sound {w:World} {I:Nat→Prop} {β:Bet} {nx:Nat} {st:St} {tmps:Array Value} (hm:Mem w I β st.sg nx) (he : ∀t,Den w I β (st.env.get t) (tmps.getD t undef)) :
 ∀(rs:List ResultVar) (K:List V→Prop),resW P rs st K →
   ∃(vs:List V) (xs:List Value),K vs∧vs.length=xs.length∧(∀(i:Nat) c v,vs[i]? = some c→xs[i]? = some v→Den w I β c v)∧rs.length=xs.length ∧ ∀(i:Nat) r x,rs[i]? = some r→xs[i]? = some x→(resOne tmps r).run P w = .ok x w:=by
 intro rs
 induction rs with
 | nil=>intro K h;exact ⟨[],[],h,rfl,by simp,rfl,by simp⟩
 | cons r rs ih=>
  intro K h
  have key : ∀(v:V) (x:Value),Den w I β v x→(resOne tmps r).run P w = .ok x w→resW P rs st (fun vs=>K (v::vs)) → ∃(vs:List V) (xs:List Value),K vs∧vs.length=xs.length∧(∀(i:Nat) c v,vs[i]? = some c→xs[i]? = some v→Den w I β c v)∧(r::rs).length=xs.length ∧ ∀(i:Nat) r' x,(r::rs)[i]? = some r'→xs[i]? = some x→(resOne tmps r').run P w = .ok x w:=by
   intro v x hv hx h
   obtain ⟨vs,xs,h1,h2,h3,h4,h5⟩:=ih _ h
   refine ⟨v::vs,x::xs,h1,by simp [h2],fun i c y hc hy =>?_,by simp [h4],fun i r' y hr hy =>?_⟩
   ·cases i with
    | zero=>simp at hc hy;subst hc;subst hy;exact hv
    | succ i=>exact h3 i c y (by simpa using hc) (by simpa using hy)
   ·cases i with
    | zero=>simp at hr hy;subst hr;subst hy;exact hx
    | succ i=>exact h5 i r' y (by simpa using hr) (by simpa using hy)
  cases r with
  | tmp t=>exact key _ _ (he t) (by simp [resOne]) h
  | cell a t=>
   obtain ⟨v,q1,q2⟩:=loadV_sound h
   obtain ⟨x,q3,q4⟩:=q2 w I β st.sg nx (tmps.getD a undef) hm (fun _ _ h=>h) (he a)
   refine key v x q4 ?_ q1
   cases hv:tmps.getD a undef with
   | pointer o=>
    cases o with
    | some ad=>rw [hv] at q3;simp only [resOne,hv,asAddr];exact q3
    | none=>rw [hv] at q3;simp [Instr.loadAt,Instr.sureAddr,stuck] at q3
   | _=>rw [hv] at q3;simp [Instr.loadAt,Instr.sureAddr,stuck] at q3
theorem den_ret {w:World} {I:Nat→Prop} {β:Bet} : ∀ {vs:List V} {xs:List Value},vs.length=xs.length→(∀(i:Nat) c v,vs[i]? = some c→xs[i]? = some v→Den w I β c v)→Den w I β (retV vs) (if h:xs.toArray.size=1 then xs.toArray[0] else .tuple xs.toArray)
 | [v],[x],_,h=>by simpa [retV] using h 0 v x rfl rfl
 | [],[],_,_=>by simp only [retV];exact ⟨[],by simp,by simp [DenAs]⟩
 | v::v'::vs,x::x'::xs,hl,h=>by
  simp only [retV]
  refine ⟨x::x'::xs,by simp,by simpa using hl,fun i c u hc hu =>?_⟩
  simp only [List.getElem?_map,Option.map_eq_some_iff] at hc
  obtain ⟨c',hc',rfl⟩:=hc
  exact den_atm (h i c' u hc' hu)
 | [],_::_,hl,_=>by simp at hl
 | [_],[],hl,_=>by simp at hl
 | [_],_::_::_,hl,_=>by simp at hl
 | _::_::_,[],hl,_=>by simp at hl
 | _::_::_,[_],hl,_=>by simp at hl
theorem DoneW_sound {fn:Func} {rs:List ResultVar} (hrs:fn.results=rs.toArray) {C:Ctx} {r:V} {σ':Sig} {st:St} {a:Act} {w:World} (h:DoneW P G C.nx rs r σ' st) (hr:Rel C G st a w) :
 ∃v,(results fn a.tmps).run P w = .ok v w ∧ ∃I' β',Den w I' β' r v∧MStep C.w C.I C.β C.σ C.nx w I' β' σ' (C.nx+4):=by
 obtain ⟨st',h1,h2⟩:=h
 obtain ⟨I,β,g1,g2,g3,g4,g5,g6⟩:=h1 C a w rfl hr
 obtain ⟨vs,xs,⟨l,k1,k2,k3⟩,k4,k5,k6,k7⟩:=resW_sound g1.mem g3 rs _ h2
 have hrun:=mapM_list (P:=P) (w:=w) (resOne a.tmps) rs xs k6 k7
 have hres:(results fn a.tmps).run P w = .ok (if h:xs.toArray.size=1 then xs.toArray[0] else .tuple xs.toArray) w:=by
  rw [results_eq,hrs,List.mapM_toArray]
  simp only [Sem.run_bind,Sem.run_map,hrun,Result.andThen,Sem.run_pure]
 have hden:=den_ret (w:=w) (I:=I) (β:=β) k4 k5
 clear k6 k7 hrun
 revert hres hden
 generalize (if h:xs.toArray.size=1 then xs.toArray[0] else Value.tuple xs.toArray)=u
 intro hres hden
 have hrel:Rel { C with n:=1,hd:=[] } G ⟨[(0,retV vs)],st'.sg,st'.nx⟩ { tmps :=#[u],defers:=[] } w:=by
  refine ⟨I,β,g1,g2,fun t =>?_,rfl,DfOk.nil,g6⟩
  show Den w I β (if 0=t then retV vs else .unk) _
  split
  ·rename_i e;subst e;exact hden
  ·trivial
 obtain ⟨I',β',q1,_,q3,_⟩:=StLe.sel G C.nx ⟨[(0,retV vs)],st'.sg,st'.nx⟩ l { C with n:=1,hd:=[] } { tmps :=#[u],defers:=[] } w rfl hrel
 refine ⟨_,hres,I',β',?_,q1.sub k2 (by show C.nx+l.length≤C.nx+4;omega)⟩
 subst k1
 exact q3 0
theorem RelE.shut {C:Ctx} (hC:C.hd=[]) {e:Env} {σ:Sig} {nx lim D:Nat} {ds:List Deferred} {tmps:Array Value} {w:World} (h:RelE C G e σ nx lim { tmps:=tmps,defers :={ target:= .collected D,args :=#[] } :: ds } w) :
 w.heap[D]? = some (.deferred (some []))∧RelE C G e σ nx lim { tmps:=tmps,defers:=ds } (w.putObj D (.deferred none)):=by
 obtain ⟨I,β,h1,h2,h3,h4,⟨⟨Ds,q1,q2,q3⟩,_⟩,h6⟩:=h
 match Ds,q1,q2,q3 with
 | [],q1,_,_=>simp at q1
 | D'::r,q1,q2,q3=>
  simp only [List.map_cons,List.cons.injEq,Deferred.mk.injEq,Target.collected.injEq,and_true] at q1
  obtain ⟨rfl,rfl⟩:=q1
  obtain ⟨g1,g2,g3,g4⟩:=q3 D (by simp)
  have hI : ∀b,I b→(w.putObj D (.deferred none)).heap[b]? = w.heap[b]? :=fun b hb=>World.putObj_heap_other (fun e=>g3 (e▸hb))
  have hO : ∀b,owned σ β b→(w.putObj D (.deferred none)).heap[b]? = w.heap[b]? :=fun b hb=>World.putObj_heap_other (fun e=>g4 (e▸hb))
  refine ⟨g2,I,β,⟨⟨fun id blk hb =>?_,h1.mem.inj,h1.mem.free,fun b hb =>?_⟩,h1.os,h1.tape,h1.output,?_,fun b hb ho =>?_,h1.imm,h1.immn,h1.bet,h1.nx,h1.own'⟩,h2,fun t=>(h3 t).keep hI (fun _ h=>h) (fun _ _ h=>h),h4,⟨⟨r,rfl,(List.nodup_cons.1 q2).2,fun D' hD' =>?_⟩,fun p hp=>by rw [hC] at hp;cases hp⟩,fun g x hx=>(h6 g x hx).keep hI (fun _ h=>h)⟩
  ·have ho:=h1.mem.own id blk hb
   refine ho.keep (fun b hb' =>?_) (fun _ h=>h) (fun b c hc=>(ho.not_imm hc).1) (fun _ _ h=>h)
   rcases hb' with hb'|⟨c,hc⟩
   ·exact hI b hb'
   ·exact hO b ⟨id,blk,c,hb,hc⟩
  ·rw [World.putObj_size];exact h1.mem.lt b hb
  ·rw [World.putObj_size];exact h1.size
  ·rw [World.putObj_heap_other (by omega)];exact h1.block b hb ho
  ·obtain ⟨k1,k2,k3,k4⟩:=q3 D' (by simp [hD'])
   refine ⟨k1,?_,k3,k4⟩
   rw [World.putObj_heap_other (fun e=>(List.nodup_cons.1 q2).1 (by rw [←e];exact hD'))]
   exact k2
theorem leavesM {fn:Func} {C:Ctx} (hC:C.hd=[]) {st:St} {tmps:Array Value} {R:Ending→World→Prop} (hf : ∀w,Rel C G st { tmps:=tmps,defers:=[] } w → ∃v,(results fn tmps).run P w = .ok v w∧R (.returned v) w) :
 ∀(ds:List Deferred) (w:World),Rel C G st { tmps:=tmps,defers:=ds } w→LeavesInM (Fr none) 0 P fn tmps R ds .returning w
 | [],w,h=>hf w h
 | d::ds,w,h=>by
  obtain ⟨D,rfl⟩ : ∃D,d = { target:= .collected D,args :=#[] } :=by
   obtain ⟨I,β,h1,h2,h3,h4,⟨⟨Ds,q1,q2,q3⟩,_⟩,h6⟩:=id h
   match Ds,q1 with
   | [],q1=>simp at q1
   | D::r,q1=>
    simp only [List.map_cons,List.cons.injEq] at q1
    exact ⟨D,q1.1⟩
  obtain ⟨g1,g2⟩:=RelE.shut hC h
  exact ⟨(fun e=>by cases e),.inl ⟨D,_,rfl,run_takeDeferred g1,leavesM hC hf ds _ g2⟩⟩
theorem OFn.of_aw {f:Nat} {fn:Func} {c:Code} {rs:List ResultVar} {n:Nat} (hf:P.funcs[f]? = some fn) (hb:fn.body=some c) (hrs:fn.results=rs.toArray) (hn:fn.ntmps=n)
 {args:List V} (hlen:args.length≤n) {σ:Sig} {m:Nat} {r:V} {σ':Sig} (h:AW P G n m c ⟨argE 0 args,σ,m⟩ (retK (DoneW P G m rs r σ'))):OFn P G f args σ m r σ':=by
 intro w I β vals hm hG hd
 subst hn
 refine (callsIn_wide (n:=0)).1 (callsIn_of_wp_marks (F:=Fr none) hf hb trivial ?_)
 let C:Ctx:=⟨w,I,β,σ,m,fn.ntmps,hm.free,[]⟩
 have hrel:Rel C G ⟨argE 0 args,σ,m⟩ { tmps:=vals.toArray++Array.replicate (fn.ntmps - vals.toArray.size) undef,defers:=[] } w:=by
  refine ⟨I,β,MStep.refl hm,hm.free,fun t =>?_,?_,DfOk.nil,hG⟩
  ·show Den w I β ((argE 0 args).get t) _
   rw [get_argE]
   simp only [Nat.zero_le,if_true,Nat.sub_zero]
   cases hv:args[t]? with
   | none=>trivial
   | some v=>
    have ht:t<vals.length:=by
     rw [←hd.1]
     rcases Nat.lt_or_ge t args.length with h|h
     ·exact h
     ·rw [List.getElem?_eq_none h] at hv;cases hv
    have:(vals.toArray++Array.replicate (fn.ntmps - vals.toArray.size) undef).getD t undef=vals[t]:=by
     simp [Array.getD_eq_getD_getElem?,Array.getElem?_append,ht]
    rw [this]
    exact hd.2 t v _ hv (List.getElem?_eq_getElem ht)
  ·show (vals.toArray++Array.replicate (fn.ntmps - vals.toArray.size) undef).size=fn.ntmps
   have:=hd.1
   simp;omega
 refine wpIn_mono (h none (.inl rfl) C _ w rfl rfl hrel) ?_
 rintro e a w' ⟨st',hq,hr⟩
 have key:DoneW P G m rs r σ' st'→LeavesInM (Fr none) 0 P fn a.tmps (fun e w'=> ∃u I' β',e = .returned u∧Den w' I' β' r u∧MStep w I β σ m w' I' β' σ' (m+4)) a.defers .returning w':=fun hq=>by
  refine leavesM (C:=C) rfl (G:=G) (st:=st') (fun w'' h =>?_) a.defers w' hr
  obtain ⟨v,h2,I',β',h3,h4⟩:=DoneW_sound (C:=C) (fn:=fn) hrs hq h
  exact ⟨v,h2,v,I',β',rfl,h3,h4⟩
 cases e with
 | normal=>exact key hq
 | ret=>exact key hq
 | _=>exact hq.elim
theorem OFn.of_code (ho:P.follows .mixedOrders=true) {f:Nat} {fn:Func} {c:Code} {rs:List ResultVar} {n:Nat} (lv:List Nat) (hf:P.funcs[f]? = some fn) (hb:fn.body=some c) (hrs:fn.results=rs.toArray) (hn:fn.ntmps=n) (hok:codeOk n c=true)
 {args:List V} (hlen:args.length≤n) {σ:Sig} {m:Nat} {r:V} {σ':Sig} (h:codeW P G n m lv c ⟨argE 0 args,σ,m⟩ (retK (DoneW P G m rs r σ'))):OFn P G f args σ m r σ':=
 OFn.of_aw hf hb hrs hn hlen (codeW_sound ho c _ _ hok h)
end
def bk (l:List Nat) (id:Nat):Nat→Option Nat:=fun j=>if j<l.length then l[j]? else if j<l.length+4 then some (id+(j - l.length)) else none
def fw (l:List Nat):Nat→Option Nat:=fun i=>idx l i 0
def delL (σ:Sig):List Nat→Sig
 | []=>σ
 | i::r=>delL (σ.del i) r
def okL (l:List Nat) (id:Nat) (σ:Sig):Bool:=(l.all fun i=>decide (i<id)&&(σ.get i).isSome)&&decide l.Nodup
theorem get_delL (l:List Nat) : ∀(σ:Sig) (j:Nat),(delL σ l).get j=if j∈l then none else σ.get j:=by
 induction l with
 | nil=>intro σ j;simp [delL]
 | cons i r ih=>
  intro σ j
  simp only [delL,ih,Sig.get_del,List.mem_cons]
  by_cases h:j∈r
  ·simp [h]
  ·by_cases h':j=i<;>simp [h,h']
theorem idx_of_get : ∀ {l:List Nat} (_:l.Nodup) {i j m:Nat},l[j]? = some i→idx l i m=some (m+j)
 | x::r,hn,i,j,m,h=>by
  unfold idx
  cases j with
  | zero=>simp at h;subst h;simp
  | succ j=>
   simp at h
   have hm:i∈r:=List.mem_of_getElem? h
   have hx:x≠i:=by rintro rfl;exact (List.nodup_cons.1 hn).1 hm
   rw [if_neg hx,idx_of_get (List.nodup_cons.1 hn).2 h]
   congr 1;omega
theorem bk_inj {l:List Nat} {id:Nat} (hn:l.Nodup) (hlt : ∀i∈l,i<id) : ∀j j' i,bk l id j=some i→bk l id j'=some i→j=j':=by
 intro j j' i h h'
 unfold bk at h h'
 split at h
 ·have hi:=hlt i (List.mem_of_getElem? h)
  split at h'
  ·have e1:=idx_of_get hn (m:=0) h
   have e2:=idx_of_get hn (m:=0) h'
   rw [e1] at e2;injection e2 with e2;omega
  ·split at h'
   ·injection h' with h';omega
   ·cases h'
 ·split at h
  ·injection h with h
   split at h'
   ·have hi:=hlt i (List.mem_of_getElem? h');omega
   ·split at h'
    ·injection h' with h';omega
    ·cases h'
  ·cases h
theorem Sig.get_sel' {g:Nat→Option Nat} (hinj : ∀i i' j,g i=some j→g i'=some j→i=i') {i j:Nat} (hg:g i=some j) : ∀(σ:Sig) (b:Blk),σ.get i=some b→(σ.sel g).get j=some (b.sel g)
 | [],b,h=>by simp [Sig.get] at h
 | (i',c)::r,b,h=>by
  simp only [Sig.get] at h
  split at h
  ·rename_i e;subst e;injection h with h;subst h
   simp [Sig.sel,hg,Sig.get]
  ·rename_i hne
   have ih:=Sig.get_sel' hinj hg r b h
   simp only [Sig.sel]
   cases hi:g i' with
   | none=>exact ih
   | some j'=>
    simp only [Sig.get]
    rw [if_neg]
    ·exact ih
    ·rintro rfl;exact hne (hinj _ _ _ hi hg)
theorem fw_spec {l:List Nat} {i j:Nat} (h:fw l i=some j):l[j]? = some i∧j<l.length:=by
 obtain ⟨h1,h2,h3⟩:=idx_spec h
 exact ⟨by simpa using h3,by omega⟩
theorem Own.named {w:World} {I:Nat→Prop} {β:Bet} {id:Nat} {blk:Blk} (h:Own w I β id blk) : ∃y,β id=some y:=by
 cases blk with
 | cell cs ty=>obtain ⟨b,cap,_,_,h1,_⟩:=h;exact ⟨_,h1⟩
 | row k es ty=>
  rcases h with ⟨h1,_⟩|⟨b,cap,_,_,h1,_⟩
  ·exact ⟨_,h1⟩
  ·exact ⟨_,h1⟩
 | map es=>obtain ⟨b,cap,_,_,h1,_⟩:=h;exact ⟨_,h1⟩
 | iter s pos=>obtain ⟨b,cap,h1,_⟩:=h;exact ⟨_,h1⟩
 | rc y j e=>obtain ⟨b,cap,r,h1,_⟩:=h;exact ⟨_,h1⟩
section
variable {P:Program} {G:Gl}
theorem does_of {f:Nat} {args:List V} {σ:Sig} {id:Nat} (l:List Nat) (hl:okL l id σ=true) {r:V} {σ1:Sig} (h:OFn P G f (args.map (V.sel (fw l))) (σ.sel (fw l)) l.length r σ1) :
 Does P G f args σ id (r.sel (bk l id)) (delL σ l++σ1.sel (bk l id)):=by
 intro w I β nx vals hm hG hf hnx hd
 simp only [okL,Bool.and_eq_true,List.all_eq_true,decide_eq_true_eq] at hl
 obtain ⟨hl1,hnd⟩:=hl
 have hlt : ∀i∈l,i<id:=fun i hi=>(hl1 i hi).1
 let β0:Bet:=fun j=>match l[j]? with|some i=>β i|none=>none
 have hfw : ∀i j,fw l i=some j → ∀x,β i=some x→β0 j=some x:=by
  intro i j hij x hx
  show (match l[j]? with|some i=>β i|none=>none)=some x
  rw [(fw_spec hij).1];exact hx
 have hfb : ∀i j,fw l i=some j→β0 j=β i:=by
  intro i j hij
  show (match l[j]? with|some i=>β i|none=>none)=β i
  rw [(fw_spec hij).1]
 have hinj : ∀i i' j,fw l i=some j→fw l i'=some j→i=i':=by
  intro i i' j h h'
  have e1:=(fw_spec h).1;have e2:=(fw_spec h').1
  rw [e1] at e2;injection e2
 have hm0:Mem w I β0 (σ.sel (fw l)) l.length:=by
  refine ⟨fun j b hj =>?_,fun j j' b b' k c c' g1 g2 g3 g4 =>?_,fun j hj =>?_,hm.lt⟩
  ·obtain ⟨i,b',q1,q2,q3⟩:=Sig.get_sel hinj _ j b hj
   subst q3
   exact (hm.own i b' q2).sel hfw q1
  ·obtain ⟨i,x,q1,q2,q3⟩:=Sig.get_sel hinj _ j b g1
   obtain ⟨i',x',q1',q2',q3'⟩:=Sig.get_sel hinj _ j' b' g2
   rw [hfb i j q1] at g3
   rw [hfb i' j' q1'] at g4
   have:=hm.inj i i' x x' k c c' q2 q2' g3 g4
   subst this
   rw [q1] at q1';injection q1'
  ·show (match l[j]? with|some i=>β i|none=>none)=none
   rw [List.getElem?_eq_none hj]
 have hd0:DenL w I β0 (args.map (V.sel (fw l))) vals:=by
  refine ⟨by simpa using hd.1,fun i c x hc hx =>?_⟩
  simp only [List.getElem?_map,Option.map_eq_some_iff] at hc
  obtain ⟨c',hc',rfl⟩:=hc
  exact (hd.2 i c' x hc' hx).sel hfw
 refine (h w I β0 vals hm0 hG hd0).mono ?_
 rintro e w' ⟨u,I',β1,rfl,hu,hs⟩
 let β':Bet:=fun i=>if id≤i∧i<id+4 then β1 (l.length+(i - id)) else β i
 have hβ : ∀i,¬(id≤i∧i<id+4)→β' i=β i:=fun i hi=>by simp only [β',if_neg hi]
 have hown0 : ∀b,owned (σ.sel (fw l)) β0 b → ∃i blk c,i∈l∧σ.get i=some blk∧β i=some (some (b,c)):=by
  rintro b ⟨j,blk,c,h1,h2⟩
  obtain ⟨i,b',q1,q2,q3⟩:=Sig.get_sel hinj _ j blk h1
  rw [hfb i j q1] at h2
  exact ⟨i,b',c,List.mem_of_getElem? (fw_spec q1).1,q2,h2⟩
 have hown0' : ∀b,owned (σ.sel (fw l)) β0 b→owned σ β b:=fun b hb=>by
  obtain ⟨i,blk,c,_,h2,h3⟩:=hown0 b hb;exact ⟨i,blk,c,h2,h3⟩
 have hbk : ∀j i,bk l id j=some i → ∀x,β1 j=some x→β' i=some x:=by
  intro j i hji x hx
  unfold bk at hji
  split at hji
  ·have hil:=List.mem_of_getElem? hji
   rw [hβ i (by have:=hlt i hil;omega)]
   have hs1:=(hl1 i hil).2
   cases hgi:σ.get i with
   | none=>rw [hgi] at hs1;cases hs1
   | some blk=>
    have hown:=hm.own i blk hgi
    obtain ⟨y,hy⟩:=hown.named
    have h0:β0 j=some y:=by
     show (match l[j]? with|some i=>β i|none=>none)=some y
     rw [hji];exact hy
    rw [hs.bet j y h0] at hx
    rw [hy,hx]
  ·split at hji
   ·injection hji with hji
    show (if id≤i∧i<id+4 then β1 (l.length+(i - id)) else β i)=some x
    rw [if_pos (by omega),show l.length+(i - id)=j from by omega]
    exact hx
   ·cases hji
 have hbk' : ∀j i,bk l id j=some i→β1 j≠none→β' i=β1 j:=by
  intro j i hji hne
  cases hx:β1 j with
  | none=>exact absurd hx hne
  | some x=>exact hbk j i hji x hx
 have hbinj:=bk_inj (id:=id) hnd hlt
 have hkeep : ∀i blk,i∉l→σ.get i=some blk → ∀b c,β i=some (some (b,c)) → ¬owned (σ.sel (fw l)) β0 b∧b<w.heap.size ∧ ¬I b:=by
  intro i blk hil hgi b c hb
  refine ⟨fun ho =>?_,((hm.own i blk hgi).not_imm hb).2,((hm.own i blk hgi).not_imm hb).1⟩
  obtain ⟨i',blk',c',h1,h2,h3⟩:=hown0 b ho
  have:=hm.inj i i' blk blk' b c c' hgi h2 hb h3
  subst this;exact hil h1
 have hget : ∀i b,(delL σ l++σ1.sel (bk l id)).get i=some b→(i∉l∧σ.get i=some b) ∨ ∃j b',bk l id j=some i∧σ1.get j=some b'∧b=b'.sel (bk l id):=by
  intro i b hi
  rw [get_append,get_delL] at hi
  split at hi
  ·rename_i b' hb'
   split at hb'
   ·cases hb'
   ·rename_i hil;injection hi with hi;subst hi;exact .inl ⟨hil,hb'⟩
  ·exact .inr (Sig.get_sel hbinj _ i b hi)
 have hnf : ∀i blk,σ.get i=some blk→β' i=β i:=by
  intro i blk hgi
  obtain ⟨y,hy⟩:=(hm.own i blk hgi).named
  apply hβ
  rintro ⟨h1,h2⟩
  rw [hf i h1 h2] at hy;cases hy
 have hdom : ∀j b',σ1.get j=some b'→β1 j≠none:=by
  intro j b' hj he
  obtain ⟨y,hy⟩:=(hs.mem.own j b' hj).named
  rw [he] at hy;cases hy
 have hother : ∀i blk b c,i∉l→σ.get i=some blk→β' i=some (some (b,c)) → ¬owned σ1 β1 b ∧ ¬I' b∧w'.heap[b]? = w.heap[b]? :=by
  intro i blk b c hil hgi hb
  have hb0:β i=some (some (b,c)):=by rw [←hnf i blk hgi];exact hb
  obtain ⟨h1,h2,h3⟩:=hkeep i blk hil hgi b c hb0
  refine ⟨fun ho =>?_,fun hi =>?_,hs.block b h2 h1⟩
  ·rcases hs.own' b ho with h|h
   ·exact h1 h
   ·omega
  ·rcases hs.immn b hi with h|h|h
   ·exact h3 h
   ·exact h1 h
   ·omega
 refine ⟨u,I',β',rfl,hu.sel hbk,⟨⟨fun i b hi =>?_,fun i i' b b' k c c' g1 g2 g3 g4 =>?_,fun j hj =>?_,hs.mem.lt⟩,hs.os,hs.tape,hs.output,hs.size,fun b hb ho=>hs.block b hb (fun h=>ho (hown0' b h)),hs.imm,fun b hb =>?_,fun i x hx =>?_,Nat.le_refl _,?_⟩,hβ⟩
 ·rcases hget i b hi with ⟨hil,hgi⟩|⟨j,b',h1,h2,rfl⟩
  ·have ho:=hm.own i b hgi
   have hbet : ∀j x,β j=some x→β' j=some x:=by
    intro j x hx
    rw [hβ j]
    ·exact hx
    ·rintro ⟨h1,h2⟩;rw [hf j h1 h2] at hx;cases hx
   refine ho.keep (fun k hk =>?_) hs.imm (fun k c hk=>(hother i b k c hil hgi (by rw [hnf i b hgi];exact hk)).2.1) hbet
   rcases hk with hk|⟨c,hk⟩
   ·exact hs.block k (hm.lt k hk) (hm0.not_owned hk)
   ·exact (hother i b k c hil hgi (by rw [hnf i b hgi];exact hk)).2.2
  ·exact (hs.mem.own j b' h2).sel hbk h1
 ·rcases hget i b g1 with ⟨hil,hgi⟩|⟨j,x,q1,q2,_⟩
  ·rcases hget i' b' g2 with ⟨hil',hgi'⟩|⟨j',x',q1',q2',_⟩
   ·rw [hnf i b hgi] at g3
    rw [hnf i' b' hgi'] at g4
    exact hm.inj i i' b b' k c c' hgi hgi' g3 g4
   ·exfalso
    rw [hbk' j' i' q1' (hdom j' x' q2')] at g4
    exact (hother i b k c hil hgi g3).1 ⟨j',x',c',q2',g4⟩
  ·rcases hget i' b' g2 with ⟨hil',hgi'⟩|⟨j',x',q1',q2',_⟩
   ·exfalso
    rw [hbk' j i q1 (hdom j x q2)] at g3
    exact (hother i' b' k c' hil' hgi' g4).1 ⟨j,x,c,q2,g3⟩
   ·rw [hbk' j i q1 (hdom j x q2)] at g3
    rw [hbk' j' i' q1' (hdom j' x' q2')] at g4
    have:=hs.mem.inj j j' x x' k c c' q2 q2' g3 g4
    subst this
    rw [q1] at q1';injection q1'
 ·rw [hβ j (by omega)];exact hm.free j hj
 ·rcases hs.immn b hb with h|h|h
  ·exact .inl h
  ·exact .inr (.inl (hown0' b h))
  ·exact .inr (.inr h)
 ·show β' i=some x
  rw [hβ i]
  ·exact hx
  ·rintro ⟨h1,h2⟩;rw [hf i h1 h2] at hx;cases hx
 ·rintro b ⟨i,blk,c,h1,h2⟩
  rcases hget i blk h1 with ⟨hil,hgi⟩|⟨j,b',q1,q2,rfl⟩
  ·exact .inl ⟨i,blk,c,hgi,by rw [←hnf i blk hgi];exact h2⟩
  ·rw [hbk' j i q1 (hdom j b' q2)] at h2
   rcases hs.own' b ⟨j,b',c,q2,h2⟩ with h|h
   ·exact .inl (hown0' b h)
   ·exact .inr h
theorem CallW.of {f:Nat} {args:List V} {σ:Sig} {id:Nat} {K:V→Sig→Prop} (l:List Nat) {r:V} {σ1:Sig} (he:entT P f=true) (h:OFn P G f (args.map (V.sel (fw l))) (σ.sel (fw l)) l.length r σ1) (hl:okL l id σ=true)
 (hK:K (r.sel (bk l id)) (delL σ l++σ1.sel (bk l id))):CallW P G f args σ id K:=⟨_,_,hK,.inl ⟨he,does_of l hl h⟩⟩
theorem sel_none (σ:Sig):σ.sel (fw [])=[]:=by
 induction σ with
 | nil=>rfl
 | cons x r ih=>simp [Sig.sel,fw,idx] at ih ⊢;exact ih
theorem DCallW.of {f:Nat} {args:List V} {σ:Sig} {id:Nat} {K:V→Sig→Prop} {r:V} {σ1:Sig} (he:entT P f=true) (h:OFn P G f (args.map (V.sel (fw []))) [] 0 r σ1)
 (hK:K (r.sel (bk [] id)) (σ1.sel (bk [] id))):DCallW P G f args σ id K:=by
 refine ⟨_,_,hK,.inl ⟨he,fun j b hj =>?_,fun σ' _=>does_of (σ1:=σ1) [] rfl (by rw [sel_none];exact h)⟩⟩
 obtain ⟨i,b',h1,_⟩:=Sig.get_sel (bk_inj (l:=[]) (id:=id) (by simp) (by simp)) _ j b hj
 unfold bk at h1
 simp at h1
 omega
end
def St.nil (st:St) (t k:Nat):St:=match st.env.get t with
 | .d (.lit (.slice none 0 0))=>⟨st.env.put t (.so st.nx k 0 0),(st.nx,.row k [])::st.sg,st.nx+1⟩
 | _=>st
theorem StLe.nil (G:Gl) (m:Nat) (st:St) (t k:Nat):StLe G m st (st.nil t k):=by
 intro C a w _ hr
 unfold St.nil
 split
 ·rename_i he
  obtain ⟨I,β,h1,h2,h3,h4,h5,h6⟩:=hr
  have hb:β st.nx=none:=h2 st.nx (Nat.le_refl _)
  have h1':MStep C.w C.I C.β C.σ C.nx w I β st.sg (st.nx+1):=h1.bump (by omega)
  have hs:=MStep.nilRow h1'.mem (id:=st.nx) hb (by omega) k (tq:=none)
  refine ⟨I,upd β st.nx none,h1'.trans hs,fun j hj =>?_,fun u =>?_,h4,h5.step hs,h6⟩
  ·have:j≠st.nx:=by have:st.nx+1≤j:=hj;omega
   rw [upd_other this];exact h2 j (by have:st.nx+1≤j:=hj;omega)
  ·show Den w I (upd β st.nx none) ((st.env.put t (.so st.nx k 0 0)).get u) _
   rw [Env.get_put]
   split
   ·rename_i e;subst e
    have:=h3 t
    rw [he] at this
    have hv:=den_lit this
    exact .inl ⟨upd_same _ _ _,rfl,rfl,none,hv⟩
   ·exact hs.den h1'.mem (h3 u)
 ·exact hr
section
variable {P:Program} {G:Gl}
@[congr] theorem optW_congr {α:Type} {o o':Option α} {K:α→Prop} (h:o=o'):optW o K=optW o' K:=by rw [h]
@[congr] theorem elemW_congr {k j j':Nat} {es es':List D} {i i':Nat} {x x':Nat × Bool} {K:V→Prop} (h:es=es') (hi:i=i') (hj:j=j') (hx:x=x'):elemW k es i j x K=elemW k es' i' j' x' K:=by rw [h,hi,hj,hx]
@[congr] theorem cellW_congr {b b':Blk} {K:List V→Prop} (h:b=b'):cellW b K=cellW b' K:=by rw [h]
@[congr] theorem rowW_congr {b b':Blk} {K:Nat→List D→Prop} (h:b=b'):rowW b K=rowW b' K:=by rw [h]
@[congr] theorem iterW_congr {b b':Blk} {K:ByteArray→Nat→Prop} (h:b=b'):iterW b K=iterW b' K:=by rw [h]
@[congr] theorem boolW_congr {v v':V} {K:Bool→Prop} (h:v=v'):boolW v K=boolW v' K:=by rw [h]
@[congr] theorem condW_congr {v v':V} {p q:Prop} (h:v=v'):condW v p q=condW v' p q:=by rw [h]
@[congr] theorem calleeW_congr {v v':V} {K:Nat→List V→Prop} {Y:Nat→Prop} {B:Nat→List V→Prop} (h:v=v'):calleeW v K Y B=calleeW v' K Y B:=by rw [h]
@[congr] theorem pickW_congr {c c' a a' b b':V} {K:V→Prop} (h:c=c') (ha:a=a') (hb:b=b'):pickW c a b K=pickW c' a' b' K:=by rw [h,ha,hb]
@[congr] theorem loadV_congr {t:Nat} {a a':V} {σ σ':Sig} {K:V→Prop} (h:a=a') (hs:σ=σ'):loadV P t a σ K=loadV P t a' σ' K:=by rw [h,hs]
@[congr] theorem nextW_congr {x x':V} {σ σ':Sig} {K:V→Sig→Prop} (h:x=x') (hs:σ=σ'):nextW x σ K=nextW x' σ' K:=by rw [h,hs]
@[congr] theorem grdW_congr {v v':V} {K:Bool→Prop} {q:Prop} (h:v=v'):grdW v K q=grdW v' K q:=by rw [h]
@[congr] theorem guardW_congr {ops:Array Oper} {o:Oper} {e e':Env} {y n:Env→Prop} (h:e=e'):guardW ops o e y n=guardW ops o e' y n:=by rw [h]
@[congr] theorem stepW_congr {op:Op} {g:Operand→V} {σ σ':Sig} {id id':Nat} {K:V→Sig→Prop} (h:σ=σ') (hi:id=id'):stepW P G op g σ id K=stepW P G op g σ' id' K:=by rw [h,hi]
@[congr] theorem quietW_congr {op:Op} {g:Operand→V} {σ σ':Sig} {id id':Nat} {K:V→Sig→Prop} (h:σ=σ') (hi:id=id'):quietW P G op g σ id K=quietW P G op g σ' id' K:=by rw [h,hi]
@[congr] theorem opsW_congr {ops:Array Oper} {b b' i i':Nat} {l l':List Oper} {e e':Env} {σ σ':Sig} {K:Env→Sig→Prop} (hb:b=b') (hi:i=i') (hl:l=l') (he:e=e') (h:σ=σ'):opsW P G ops b i l e σ K=opsW P G ops b' i' l' e' σ' K:=by rw [hb,hi,hl,he,h]
@[congr] theorem opsD_congr {ops:Array Oper} {b b' i i':Nat} {l l':List Oper} {e e':Env} {σ σ' τ τ':Sig} {K:Env→Sig→Prop} (hb:b=b') (hi:i=i') (hl:l=l') (he:e=e') (h:σ=σ') (ht:τ=τ'):opsD P G ops b i l e σ τ K=opsD P G ops b' i' l' e' σ' τ' K:=by rw [hb,hi,hl,he,h,ht]
@[congr] theorem opsL_congr {lo:List Nat} {σk:Sig} {ops:Array Oper} {b b' i i':Nat} {l l':List Oper} {e e':Env} {σ σ' τ τ':Sig} {K:Env→Sig→Prop} (hb:b=b') (hi:i=i') (hl:l=l') (he:e=e') (h:σ=σ') (ht:τ=τ'):opsL P G lo σk ops b i l e σ τ K=opsL P G lo σk ops b' i' l' e' σ' τ' K:=by rw [hb,hi,hl,he,h,ht]
@[congr] theorem sbW_congr {σk σ σ':Sig} {p:Prop} (h:σ=σ'):sbW σk σ p=sbW σk σ' p:=by rw [h]
@[congr] theorem nilW_congr {σ σ':Sig} {p:Prop} (h:σ=σ'):nilW σ p=nilW σ' p:=by rw [h]
@[congr] theorem vcallD_congr {lo:List Nat} {ops:Array Oper} {i i':Nat} {op:Op} {g:Operand→V} {σ σ' τ τ':Sig} {id id':Nat} {K L:V→Sig→Prop} (hi:i=i') (h:σ=σ') (ht:τ=τ') (hj:id=id'):vcallD P G lo ops i op g σ τ id K L=vcallD P G lo ops i' op g σ' τ' id' K L:=by rw [hi,h,ht,hj]
@[congr] theorem regW_congr {lv:List Nat} {ops:Array Oper} {draw:Bool} {K:St→Prop} {st st':St} (h:st=st'):regW P G lv ops draw K st=regW P G lv ops draw K st':=by rw [h]
@[congr] theorem codeW_congr {n m:Nat} {lv:List Nat} {c:Code} {st st':St} {Q:Exit→St→Prop} (h:st=st'):codeW P G n m lv c st Q=codeW P G n m lv c st' Q:=by rw [h]
@[congr] theorem DoneW_congr {m:Nat} {rs:List ResultVar} {r:V} {σ:Sig} {st st':St} (h:st=st'):DoneW P G m rs r σ st=DoneW P G m rs r σ st':=by rw [h]
@[congr] theorem resW_congr {rs:List ResultVar} {st st':St} {K:List V→Prop} (h:st=st'):resW P rs st K=resW P rs st' K:=by rw [h]
end
def pvW (r:PV) (K:V→Prop):Prop:=optW r fun x=>ndW x.1 (K x.2)
def pvsW (r:PVS) (K:V→Sig→Prop):Prop:=optW r fun x=>ndW x.1 (K x.2.1 x.2.2)
def isPure:Op→Bool
 | .move _ | .assign _ | .nilCheck _ | .binOp _ _ _ _ _ | .unOp _ _ _ | .makeInterface _ _ | .makeFunc _ _ _ | .slice _ _ _ _ _ | .fieldAddr _ _ _ | .field _ _ _ | .indexAddr _ _ _ | .index _ _ _ | .typeAssert _ _ _ _ | .extract _ _ | .build _ _=>true
 | .call c=>match c.callee with
  | .builtin .len=>true
  | .builtin .max=>true
  | .builtin .min=>true
  | _=>false
 | _=>false
def isMake:Op→Bool
 | .alloc _ | .box _ _ | .buildSlice _ _ _ | .range _ _ | .makeSlice _ _ _=>true
 | _=>false
section
variable {P:Program} {G:Gl} {g:Operand→V} {σ:Sig} {id:Nat} {K:V→Sig→Prop}
theorem pvW_some (p:Prop) (v:V) (K:V→Prop):pvW (some (p,v)) K=ndW p (K v):=rfl
theorem pvsW_some (p:Prop) (v:V) (s:Sig) (K:V→Sig→Prop):pvsW (some (p,v,s)) K=ndW p (K v s):=rfl
@[congr] theorem pvW_congr {r r':PV} {K:V→Prop} (h:r=r'):pvW r K=pvW r' K:=by rw [h]
@[congr] theorem pvsW_congr {r r':PVS} {K:V→Sig→Prop} (h:r=r'):pvsW r K=pvsW r' K:=by rw [h]
theorem pure_not {op:Op} (h:isPure op=true) (g:Operand→V) (σ:Sig) (id:Nat):aR P op g σ id=none∧eR P op g σ id=none:=by
 cases op<;>simp only [isPure,Bool.false_eq_true] at h<;>try exact ⟨rfl,rfl⟩
 case call c=>
  split at h<;>first
   | (exfalso;revert h;simp;done)
   | (rename_i hc;simp only [aR,eR,hc,and_self])
theorem stepW_pure {op:Op} (h:isPure op=true):stepW P G op g σ id K=pvW (pureR P op g) (fun v=>K v σ):=by
 have key:resQ op (stepR P op g σ id) K=pvW (pureR P op g) (fun v=>K v σ):=by
  obtain ⟨h1,h2⟩:=pure_not (P:=P) h g σ id
  simp only [stepR,quietR,h1,h2]
  cases pureR P op g with
  | none=>rfl
  | some x=>obtain ⟨p,v⟩:=x;show ndW p (K v (σ++[]))=ndW p (K v σ);rw [List.append_nil]
 cases op<;>simp only [isPure,Bool.false_eq_true] at h<;>try exact key
 case call c=>
  rw [←key]
  simp only [stepW]
  split at h<;>first
   | (exfalso;revert h;simp;done)
   | (rename_i hc;simp only [hc])
theorem quietW_pure {op:Op} (h:isPure op=true):quietW P G op g σ id K=pvW (pureR P op g) (fun v=>K v []):=by
 have key:resQ op (quietR P op g σ id) K=pvW (pureR P op g) (fun v=>K v []):=by
  obtain ⟨h1,h2⟩:=pure_not (P:=P) h g σ id
  simp only [quietR,h1]
  cases pureR P op g with
  | none=>rfl
  | some x=>obtain ⟨p,v⟩:=x;simp [resQ,pvW,optW]
 cases op<;>simp only [isPure,Bool.false_eq_true] at h<;>try exact key
 case call c=>
  rw [←key]
  simp only [quietW]
  split at h<;>first
   | (exfalso;revert h;simp;done)
   | (rename_i hc;simp only [hc])
theorem stepW_make {op:Op} (h:isMake op=true) (hb : ∀t n ps,op ≠ .buildSlice t n ps):stepW P G op g σ id K=pvsW (aR P op g σ id) (fun v new=>K v (σ++new)):=by
 have key:resQ op (stepR P op g σ id) K=pvsW (aR P op g σ id) (fun v new=>K v (σ++new)):=by
  have h1:pureR P op g=none:=by cases op<;>first|rfl|(simp only [isMake,Bool.false_eq_true] at h)
  have h2:eR P op g σ id=none:=by cases op<;>first|rfl|(simp only [isMake,Bool.false_eq_true] at h)
  simp only [stepR,quietR,h1,h2]
  cases aR P op g σ id with
  | none=>rfl
  | some x=>obtain ⟨p,v,s⟩:=x;simp [resQ,pvsW,optW]
 cases op<;>simp only [isMake,Bool.false_eq_true] at h<;>first|exact key|exact absurd rfl (hb _ _ _)
theorem bsW_some (p:Prop) (v:V) (new:Sig) (r2:PVS) (σ:Sig) (K:V→Sig→Prop):bsW (some (p,v,new)) r2 σ K=ndW p (K v (σ++new)):=rfl
theorem bsW_none (r2:PVS) (σ:Sig) (K:V→Sig→Prop):bsW none r2 σ K=pvsW r2 K:=by
 cases r2 with
 | none=>rfl
 | some x=>obtain ⟨p,v,s⟩:=x;rfl
@[congr] theorem bsW_congr {r r':PVS} {r2:PVS} {σ:Sig} {K:V→Sig→Prop} (h:r=r'):bsW r r2 σ K=bsW r' r2 σ K:=by rw [h]
theorem quietW_make {op:Op} (h:isMake op=true):quietW P G op g σ id K=pvsW (aR P op g σ id) K:=by
 have key:resQ op (quietR P op g σ id) K=pvsW (aR P op g σ id) K:=by
  have h1:pureR P op g=none:=by cases op<;>first|rfl|(simp only [isMake,Bool.false_eq_true] at h)
  simp only [quietR,h1]
  cases aR P op g σ id with
  | none=>rfl
  | some x=>obtain ⟨p,v,s⟩:=x;simp [resQ,pvsW,optW]
 cases op<;>simp only [isMake,Bool.false_eq_true] at h<;>exact key
def cvW (r:PV) (r2:PVS) (σ:Sig) (K:V→Sig→Prop):Prop:=match r with
 | some (p,v)=>ndW p (K v σ)
 | none=>pvsW r2 K
theorem cvW_some (p:Prop) (v:V) (r2:PVS) (σ:Sig) (K:V→Sig→Prop):cvW (some (p,v)) r2 σ K=ndW p (K v σ):=rfl
theorem cvW_none (r2:PVS) (σ:Sig) (K:V→Sig→Prop):cvW none r2 σ K=pvsW r2 K:=rfl
@[congr] theorem cvW_congr {r r':PV} {r2 r2':PVS} {σ:Sig} {K:V→Sig→Prop} (h:r=r') (h2:r2=r2'):cvW r r2 σ K=cvW r' r2' σ K:=by rw [h,h2]
theorem stepW_convert (s d:Nat) (x:Operand):stepW P G (.convert s d x) g σ id K=cvW (cvR P s d (g x)) (cbR P s d (g x) σ) σ K:=by
 simp only [stepW,stepR,quietR,pureR,aR,eR,resQ]
 cases cvR P s d (g x) with
 | some x=>obtain ⟨p,v⟩:=x;show ndW p (K v (σ++[]))=_;rw [List.append_nil];rfl
 | none=>
  cases cbR P s d (g x) σ with
  | none=>rfl
  | some x=>obtain ⟨p,v,s⟩:=x;rfl
theorem stepW_store (t:Nat) (a x:Operand):stepW P G (.store t a x) g σ id K=pvsW (stR P t (g a) (g x) σ) K:=by
 simp only [stepW,stepR,quietR,pureR,aR,eR,resQ]
 cases stR P t (g a) (g x) σ with
 | none=>rfl
 | some x=>obtain ⟨p,v,s⟩:=x;simp [pvsW,optW]
theorem stepW_load (t:Nat) (x:Operand):stepW P G (.load t x) g σ id K=loadV P t (g x) σ (fun v=>K v σ):=rfl
theorem quietW_load (t:Nat) (x:Operand):quietW P G (.load t x) g σ id K=loadV P t (g x) σ (fun v=>K v []):=rfl
theorem stepW_pick (c x y:Operand):stepW P G (.pick c x y) g σ id K=pickW (g c) (g x) (g y) (fun v=>K v σ):=rfl
theorem quietW_pick (c x y:Operand):quietW P G (.pick c x y) g σ id K=pickW (g c) (g x) (g y) (fun v=>K v []):=rfl
theorem stepW_next (x:Operand):stepW P G (.next x true) g σ id K=nextW (g x) σ K:=rfl
theorem stepW_call (f:Operand) (xs:Array Operand) (ts:Array Nat):stepW P G (.call ⟨.value f,xs,ts⟩) g σ id K=calleeW (g f) (fun k caps=>CallW P G k (xs.toList.map g++caps) σ id K) (fun i=>YieldW P G i (xs.toList.map g) σ id K) (fun k fs=>CallW P G k (fs++(xs.toList.map g++[])) σ id K):=rfl
def appW (P:Program) (t t':Nat) (s x:V) (σ:Sig) (id:Nat) (K:V→Sig→Prop):Prop:=match s with
 | .so i k lo n=>pvsW (appE P t t' (.so i k lo n) x σ id) K
 | s=>pvsW (appA P t t' s x σ id) (fun v new=>K v (σ++new))
@[congr] theorem appW_congr {t t':Nat} {s s' x x':V} {σ σ':Sig} {id id':Nat} {K:V→Sig→Prop} (hs:s=s') (hx:x=x') (h:σ=σ') (hi:id=id'):appW P t t' s x σ id K=appW P t t' s' x' σ' id' K:=by rw [hs,hx,h,hi]
theorem appE_none {t t':Nat} {s x:V} (hs : ∀i k lo n,s ≠ .so i k lo n):appE P t t' s x σ id=none:=by
 unfold appE
 split
 ·exact absurd rfl (hs _ _ _ _)
 ·rfl
theorem stepW_append (s x:Operand) (t t':Nat):stepW P G (.call ⟨.builtin .append,#[s,x],#[t,t']⟩) g σ id K=appW P t t' (g s) (g x) σ id K:=by
 simp only [stepW,stepR,quietR,pureR,callR,aR,eR,resQ]
 unfold appW
 cases hs:g s
 case so i k lo n=>
  have hA:appA P t t' (.so i k lo n) (g x) σ id=none:=by
   unfold appA
   repeat' split
   all_goals first|rfl|contradiction|(exfalso;simp_all;done)
  rw [hA]
  simp only
  cases appE P t t' (.so i k lo n) (g x) σ id with
  | none=>rfl
  | some x=>obtain ⟨p,v,s⟩:=x;simp [pvsW,optW]
 all_goals
  simp only
  rw [appE_none (by intros;simp)]
  generalize appA P t t' _ (g x) σ id=r
  cases r with
  | none=>rfl
  | some x=>obtain ⟨p,v,s⟩:=x;simp [pvsW,optW]
theorem stepW_copy (s x:Operand) (t t':Nat):stepW P G (.call ⟨.builtin .copy,#[s,x],#[t,t']⟩) g σ id K=pvsW (cpR P t t' (g s) (g x) σ) K:=by
 simp only [stepW,stepR,quietR,pureR,callR,aR,eR,resQ]
 cases cpR P t t' (g s) (g x) σ with
 | none=>rfl
 | some x=>obtain ⟨p,v,s⟩:=x;simp [pvsW,optW]
theorem stepW_clear (x:Operand) (t:Nat):stepW P G (.call ⟨.builtin .clear,#[x],#[t]⟩) g σ id K=pvsW (clR P t (g x) σ) K:=by
 simp only [stepW,stepR,quietR,pureR,callR,aR,eR,resQ]
 cases clR P t (g x) σ with
 | none=>rfl
 | some x=>obtain ⟨p,v,s⟩:=x;simp [pvsW,optW]
end
def endW (K:St→Prop) (st:St) (_u:Tag K:= .mk) (_h:True:=trivial):Prop:=K st
theorem endW.now {K:St→Prop} {st:St} (h:K st):endW K st:=h
def brM (b:Bool) (p q:Prop):Prop:=(b=true→p)∧(b=false→q)
theorem brM_true (p q:Prop):brM true p q=p:=by simp [brM]
theorem brM_false (p q:Prop):brM false p q=q:=by simp [brM]
theorem brM_end (b:Bool) (K:St→Prop) (s t:St):brM b (endW K s) (endW K t)=endW K (cond b s t):=by cases b<;>simp [brM]
theorem cond_St (b:Bool) (e f:Env) (σ τ:Sig) (n m:Nat):cond b (⟨e,σ,n⟩:St) ⟨f,τ,m⟩=⟨cond b e f,cond b σ τ,cond b n m⟩:=by cases b<;>rfl
theorem cond_consE (b:Bool) (k:Nat) (v v':V) (r r':Env):(cond b ((k,v)::r) ((k,v')::r'):Env)=(k,cond b v v')::cond b r r':=by cases b<;>rfl
theorem cond_consS (b:Bool) (k:Nat) (v v':Blk) (r r':Sig):(cond b ((k,v)::r) ((k,v')::r'):Sig)=(k,cond b v v')::cond b r r':=by cases b<;>rfl
theorem cond_consV (b:Bool) (v v':V) (r r':List V):cond b (v::r) (v'::r')=cond b v v'::cond b r r':=by cases b<;>rfl
theorem cond_cell (b:Bool) (cs cs':List V) (ty:Option Nat):cond b (Blk.cell cs ty) (.cell cs' ty) = .cell (cond b cs cs') ty:=by cases b<;>rfl
theorem cond_d (b:Bool) (x y:D):cond b (V.d x) (.d y) = .d (cond b x y):=by cases b<;>rfl
theorem cond_lit (b:Bool) (x y:Value):cond b (D.lit x) (.lit y) = .lit (cond b x y):=by cases b<;>rfl
theorem cond_bool (b x y:Bool):cond b (Value.bool x) (.bool y) = .bool (cond b x y):=by cases b<;>rfl
theorem cond_and (b x:Bool):cond b x false=(b&&x):=by cases b<;>rfl
theorem cond_or (b x:Bool):cond b true x=(b||x):=by cases b<;>rfl
theorem cond_t {α:Type} (x y:α):cond true x y=x:=rfl
theorem cond_f {α:Type} (x y:α):cond false x y=y:=rfl
theorem cond_same {α:Type} (b:Bool) (x:α):cond b x x=x:=by cases b<;>rfl
attribute [push_cast] brM_end cond_St cond_consE cond_consS cond_consV cond_cell cond_d cond_lit cond_bool cond_and cond_or cond_t cond_f cond_same
def letW {α:Type} (a:α) (K:α→Prop) (_u:Tag K:= .mk) (_h:True:=trivial):Prop:=K a
theorem letW_eq {α:Type} (a:α) (K:α→Prop):letW a K=K a:=rfl
attribute [push_cast] letW_eq
theorem opsW_nil (P:Program) (G:Gl) (ops:Array Oper) (base i:Nat) (e:Env) (σ:Sig) (K:Env→Sig→Prop):opsW P G ops base i [] e σ K=K e σ:=rfl
theorem opsW_cons (P:Program) (G:Gl) (ops:Array Oper) (base i:Nat) (d:Option Nat) (op:Op) (t:Nat) (p:String) (af:Array Edge) (gd:Option (Nat × Bool)) (r:List Oper) (e:Env) (σ:Sig) (K:Env→Sig→Prop):opsW P G ops base i (⟨d,op,t,p,af,gd⟩::r) e σ K=guardW ops ⟨d,op,t,p,af,gd⟩ e
 (fun e=>stepW P G op (evF G e.get) σ (base+4*i) fun v σ'=>letW (e.putO d v) fun e=>letW σ' fun σ'=>opsW P G ops base (i+1) r e σ' K)
 (fun e=>letW (e.putO d (.tup [])) fun e=>opsW P G ops base (i+1) r e σ K):=rfl
theorem opsD_nil (P:Program) (G:Gl) (ops:Array Oper) (base i:Nat) (e:Env) (σ acc:Sig) (K:Env→Sig→Prop):opsD P G ops base i [] e σ acc K=K e (σ++acc):=rfl
theorem opsD_cons (P:Program) (G:Gl) (ops:Array Oper) (base i:Nat) (d:Option Nat) (op:Op) (t:Nat) (p:String) (af:Array Edge) (gd:Option (Nat × Bool)) (r:List Oper) (e:Env) (σp acc:Sig) (K:Env→Sig→Prop):opsD P G ops base i (⟨d,op,t,p,af,gd⟩::r) e σp acc K=guardW ops ⟨d,op,t,p,af,gd⟩ e
 (fun e=>if isE op=true then stepW P G op (evF G e.get) (σp++acc) (base+4*i) fun v σ'=>letW (e.putO d v) fun e=>letW σ' fun σ'=>opsD P G ops base (i+1) r e σ' [] K
  else if isVCall op=true then vcallD P G [] ops i op (evF G e.get) σp acc (base+4*i) (fun v new=>letW (e.putO d v) fun e=>letW new fun new=>opsD P G ops base (i+1) r e σp (acc++new) K) (fun v σ'=>letW (e.putO d v) fun e=>letW σ' fun σ'=>opsD P G ops base (i+1) r e σ' [] K)
  else quietW P G op (evF G e.get) σp (base+4*i) fun v new=>letW (e.putO d v) fun e=>letW new fun new=>opsD P G ops base (i+1) r e σp (acc++new) K)
 (fun e=>letW (e.putO d (.tup [])) fun e=>opsD P G ops base (i+1) r e σp acc K):=rfl
theorem vcallD_call (P:Program) (G:Gl) (lo:List Nat) (ops:Array Oper) (i:Nat) (f:Operand) (xs:Array Operand) (ts:Array Nat) (g:Operand→V) (σp acc:Sig) (id:Nat) (Kq Ke:V→Sig→Prop):vcallD P G lo ops i (.call ⟨.value f,xs,ts⟩) g σp acc id Kq Ke=calleeW (g f) (fun k caps=>callD P G lo ops i k (xs.toList.map g++caps) σp acc id Kq Ke) (fun j=>lateOk lo ops i=true∧YieldW P G j (xs.toList.map g) (σp++acc) id Ke) (fun k fs=>callD P G lo ops i k (fs++(xs.toList.map g++[])) σp acc id Kq Ke):=rfl
theorem opsL_nil (P:Program) (G:Gl) (lo:List Nat) (σk:Sig) (ops:Array Oper) (base i:Nat) (e:Env) (σ acc:Sig) (K:Env→Sig→Prop):opsL P G lo σk ops base i [] e σ acc K=K e (σ++acc):=rfl
theorem opsL_cons (P:Program) (G:Gl) (lo:List Nat) (σk:Sig) (ops:Array Oper) (base i:Nat) (d:Option Nat) (op:Op) (t:Nat) (p:String) (af:Array Edge) (gd:Option (Nat × Bool)) (r:List Oper) (e:Env) (σp acc:Sig) (K:Env→Sig→Prop):opsL P G lo σk ops base i (⟨d,op,t,p,af,gd⟩::r) e σp acc K=guardW ops ⟨d,op,t,p,af,gd⟩ e
 (fun e=>if isE op=true then stepW P G op (evF G e.get) (σp++acc) (base+4*i) fun v σ'=>sbW (kpt lo ops i σk) σ' (letW (e.putO d v) fun e=>letW σ' fun σ'=>opsL P G lo σk ops base (i+1) r e σ' [] K)
  else if isVCall op=true then vcallD P G lo ops i op (evF G e.get) σp acc (base+4*i) (fun v new=>letW (e.putO d v) fun e=>letW new fun new=>opsL P G lo σk ops base (i+1) r e σp (acc++new) K) (fun v σ'=>sbW (kpt lo ops i σk) σ' (letW (e.putO d v) fun e=>letW σ' fun σ'=>opsL P G lo σk ops base (i+1) r e σ' [] K))
  else if lo.contains i=true then quietW P G op (evF G e.get) σk (base+4*i) fun v new=>nilW new (letW (e.putO d v) fun e=>opsL P G lo σk ops base (i+1) r e σp acc K)
  else quietW P G op (evF G e.get) σp (base+4*i) fun v new=>letW (e.putO d v) fun e=>letW new fun new=>opsL P G lo σk ops base (i+1) r e σp (acc++new) K)
 (fun e=>letW (e.putO d (.tup [])) fun e=>opsL P G lo σk ops base (i+1) r e σp acc K):=rfl
theorem nilW_nil (K:Prop):nilW [] K=K:=by simp [nilW]
attribute [push_cast] opsL_nil opsL_cons nilW_nil
theorem sbW.of {lo:List Nat} {ops:Array Oper} {i:Nat} {r:Sig} {σ:Sig} {K:Prop} (h:Sub r σ) (k:K):sbW (kpt lo ops i r) σ K:=by
 unfold kpt sbW
 split
 ·exact k
 ·refine ⟨?_,k⟩
  split
  ·exact fun _ _ h=>by cases h
  ·exact h
theorem sbW.late {lo:List Nat} {ops:Array Oper} {i:Nat} {r:Sig} {σ:Sig} {K:Prop} (k:K) (h:aftL lo ops i=true:=by decide +kernel):sbW (kpt lo ops i r) σ K:=by
 unfold kpt;rw [if_pos h];exact k
theorem Sub.nil {σ:Sig} : Sub [] σ:=fun _ _ h=>by cases h
theorem Sub.cons {i:Nat} {b:Blk} {r σ:Sig} (h:σ.get i=some b) (k:Sub r σ):Sub ((i,b)::r) σ:=fun j bl hj=>by
 simp only [Sig.get] at hj
 split at hj
 ·rename_i e;subst e;injection hj with hj;subst hj;exact h
 ·exact k j bl hj
theorem loOk_nil : ∀(i:Nat) (l:List Oper),loOk [] i l=true
 | _,[]=>rfl
 | i,_::r=>by simp [loOk,loOk_nil (i+1) r]
theorem GhW.dr {P:Program} {G:Gl} {m:Nat} {lv:List Nat} {ops:Array Oper} {K:St→Prop} {st:St} (hd:drawOk [] ops=true) (h:opsD P G ops st.nx 0 ops.toList st.env st.sg [] fun e σ=>endW K ⟨Env.keep lv e,σ,st.nx+4*ops.size⟩):GhW G m (regW P G lv ops true K) st:=
 .now ⟨[],[],hd,loOk_nil _ _,Sub.nil,h⟩
theorem regW.lo {P:Program} {G:Gl} {lv:List Nat} {ops:Array Oper} {K:St→Prop} {st:St} (σk:Sig) (hd:drawOk (loadsO ops) ops=true) (hl:loOk (loadsO ops) 0 ops.toList=true) (hk:Sub σk st.sg) (h:opsL P G (loadsO ops) σk ops st.nx 0 ops.toList st.env st.sg [] fun e σ=>endW K ⟨Env.keep lv e,σ,st.nx+4*ops.size⟩):regW P G lv ops true K st:=
 ⟨_,σk,hd,hl,hk,h⟩
theorem regW_false (P:Program) (G:Gl) (lv:List Nat) (ops:Array Oper) (K:St→Prop) (st:St):regW P G lv ops false K st=opsW P G ops st.nx 0 ops.toList st.env st.sg fun e σ=>endW K ⟨Env.keep lv e,σ,st.nx+4*ops.size⟩:=rfl
def idxA (P:Program) (t:Nat) (x i:V):PV:=match numV i with|some n=>idxR P t x n|none=>none
def idxV (P:Program) (t:Nat) (x i:V):PV:=match numV i with|some n=>idxVR P t x n|none=>none
section
variable {P:Program} {G:Gl} {g:Operand→V} {σ:Sig} {id:Nat} {K:V→Sig→Prop}
theorem pv_true (v:V) (K:V→Prop):pvW (some (True,v)) K=K v:=ndW_true _
theorem stepW_move (x:Operand):stepW P G (.move x) g σ id K=K (g x) σ:=(stepW_pure rfl).trans (pv_true _ _)
theorem quietW_move (x:Operand):quietW P G (.move x) g σ id K=K (g x) []:=(quietW_pure rfl).trans (pv_true _ _)
theorem stepW_assign (x:Operand):stepW P G (.assign x) g σ id K=K (g x) σ:=(stepW_pure rfl).trans (pv_true _ _)
theorem quietW_assign (x:Operand):quietW P G (.assign x) g σ id K=K (g x) []:=(quietW_pure rfl).trans (pv_true _ _)
theorem stepW_nilCheck (x:Operand):stepW P G (.nilCheck x) g σ id K=pvW (nilCkR (g x)) (fun v=>K v σ):=stepW_pure rfl
theorem quietW_nilCheck (x:Operand):quietW P G (.nilCheck x) g σ id K=pvW (nilCkR (g x)) (fun v=>K v []):=quietW_pure rfl
theorem stepW_binOp (o:BinOp) (t:Nat) (x y:Operand) (u:Nat):stepW P G (.binOp o t x y u) g σ id K=pvW (binR P o t (isCst x||isCst y) (g x) (g y)) (fun v=>K v σ):=stepW_pure rfl
theorem quietW_binOp (o:BinOp) (t:Nat) (x y:Operand) (u:Nat):quietW P G (.binOp o t x y u) g σ id K=pvW (binR P o t (isCst x||isCst y) (g x) (g y)) (fun v=>K v []):=quietW_pure rfl
theorem stepW_unOp (o:UnOp) (t:Nat) (x:Operand):stepW P G (.unOp o t x) g σ id K=pvW (unR o (g x)) (fun v=>K v σ):=stepW_pure rfl
theorem quietW_unOp (o:UnOp) (t:Nat) (x:Operand):quietW P G (.unOp o t x) g σ id K=pvW (unR o (g x)) (fun v=>K v []):=quietW_pure rfl
theorem evF_global (F:Nat→V) (k:Nat):evF G F (.global k)=match G k with|some x=> .d x|none=> .unk:=rfl
theorem byteOf_lit (k:IntKind) (n:Int):byteOf (.lit (.int k n))=UInt8.ofNat n.toNat:=rfl
theorem stepW_makeIface (t:Nat) (x:Operand):stepW P G (.makeInterface t x) g σ id K=pvW (miR P t (g x)) (fun v=>K v σ):=stepW_pure rfl
theorem quietW_makeIface (t:Nat) (x:Operand):quietW P G (.makeInterface t x) g σ id K=pvW (miR P t (g x)) (fun v=>K v []):=quietW_pure rfl
theorem stepW_makeFunc (fn:Fn) (first caps:Array Operand):stepW P G (.makeFunc fn first caps) g σ id K=pvW (mfR fn (first.toList.map g) (caps.toList.map g)) (fun v=>K v σ):=stepW_pure rfl
theorem stepW_slice (t:Nat) (x:Operand) (lo hi mx:Option Operand):stepW P G (.slice t x lo hi mx) g σ id K=pvW (slR P t (g x) (lo.map g) (hi.map g) (mx.map g)) (fun v=>K v σ):=stepW_pure rfl
theorem quietW_slice (t:Nat) (x:Operand) (lo hi mx:Option Operand):quietW P G (.slice t x lo hi mx) g σ id K=pvW (slR P t (g x) (lo.map g) (hi.map g) (mx.map g)) (fun v=>K v []):=quietW_pure rfl
theorem stepW_fieldAddr (t:Nat) (x:Operand) (f:Nat):stepW P G (.fieldAddr t x f) g σ id K=pvW (faR P t f (g x)) (fun v=>K v σ):=stepW_pure rfl
theorem quietW_fieldAddr (t:Nat) (x:Operand) (f:Nat):quietW P G (.fieldAddr t x f) g σ id K=pvW (faR P t f (g x)) (fun v=>K v []):=quietW_pure rfl
theorem stepW_field (t:Nat) (x:Operand) (f:Nat):stepW P G (.field t x f) g σ id K=pvW (fdR P t f (g x)) (fun v=>K v σ):=stepW_pure rfl
theorem quietW_field (t:Nat) (x:Operand) (f:Nat):quietW P G (.field t x f) g σ id K=pvW (fdR P t f (g x)) (fun v=>K v []):=quietW_pure rfl
theorem stepW_indexAddr (t:Nat) (x i:Operand):stepW P G (.indexAddr t x i) g σ id K=pvW (idxA P t (g x) (g i)) (fun v=>K v σ):=stepW_pure rfl
theorem quietW_indexAddr (t:Nat) (x i:Operand):quietW P G (.indexAddr t x i) g σ id K=pvW (idxA P t (g x) (g i)) (fun v=>K v []):=quietW_pure rfl
theorem stepW_index (t:Nat) (x i:Operand):stepW P G (.index t x i) g σ id K=pvW (idxV P t (g x) (g i)) (fun v=>K v σ):=stepW_pure rfl
theorem stepW_typeAssert (x:Operand) (a t:Nat) (ok:Bool):stepW P G (.typeAssert x a t ok) g σ id K=pvW (taR P (g x) t ok) (fun v=>K v σ):=stepW_pure rfl
theorem quietW_typeAssert (x:Operand) (a t:Nat) (ok:Bool):quietW P G (.typeAssert x a t ok) g σ id K=pvW (taR P (g x) t ok) (fun v=>K v []):=quietW_pure rfl
theorem stepW_extract (x:Operand) (i:Nat):stepW P G (.extract x i) g σ id K=pvW (exR i (g x)) (fun v=>K v σ):=stepW_pure rfl
theorem quietW_extract (x:Operand) (i:Nat):quietW P G (.extract x i) g σ id K=pvW (exR i (g x)) (fun v=>K v []):=quietW_pure rfl
theorem stepW_build (t:Nat) (parts:Array (Nat × Operand)):stepW P G (.build t parts) g σ id K=pvW (bdR P t (parts.toList.map fun p=>(p.1,g p.2))) (fun v=>K v σ):=stepW_pure rfl
theorem quietW_build (t:Nat) (parts:Array (Nat × Operand)):quietW P G (.build t parts) g σ id K=pvW (bdR P t (parts.toList.map fun p=>(p.1,g p.2))) (fun v=>K v []):=quietW_pure rfl
theorem stepW_len (x:Operand) (t:Nat):stepW P G (.call ⟨.builtin .len,#[x],#[t]⟩) g σ id K=pvW (lenTR P t (g x)) (fun v=>K v σ):=stepW_pure rfl
theorem quietW_len (x:Operand) (t:Nat):quietW P G (.call ⟨.builtin .len,#[x],#[t]⟩) g σ id K=pvW (lenTR P t (g x)) (fun v=>K v []):=quietW_pure rfl
theorem quietW_max (x y:Operand) (ts:Array Nat):quietW P G (.call ⟨.builtin .max,#[x,y],ts⟩) g σ id K=pvW (mmR true (g x) (g y)) (fun v=>K v []):=quietW_pure rfl
theorem stepW_min (x y:Operand) (ts:Array Nat):stepW P G (.call ⟨.builtin .min,#[x,y],ts⟩) g σ id K=pvW (mmR false (g x) (g y)) (fun v=>K v σ):=stepW_pure rfl
theorem stepW_alloc (t:Nat):stepW P G (.alloc t) g σ id K=pvsW (aR P (.alloc t) g σ id) (fun v new=>K v (σ++new)):=stepW_make rfl (fun _ _ _ h=>by cases h)
theorem quietW_alloc (t:Nat):quietW P G (.alloc t) g σ id K=pvsW (aR P (.alloc t) g σ id) K:=quietW_make rfl
theorem stepW_box (t:Nat) (x:Operand):stepW P G (.box t x) g σ id K=pvsW (aR P (.box t x) g σ id) (fun v new=>K v (σ++new)):=stepW_make rfl (fun _ _ _ h=>by cases h)
theorem stepW_buildSlice (t n:Nat) (parts:Array (Nat × Operand)):stepW P G (.buildSlice t n parts) g σ id K=bsW (aR P (.buildSlice t n parts) g σ id) (sbR P t n id (parts.toList.map fun p=>(p.1,g p.2)) σ) σ K:=rfl
theorem quietW_buildSlice (t n:Nat) (parts:Array (Nat × Operand)):quietW P G (.buildSlice t n parts) g σ id K=pvsW (aR P (.buildSlice t n parts) g σ id) K:=quietW_make rfl
theorem stepW_range (t:Nat) (x:Operand):stepW P G (.range t x) g σ id K=pvsW (aR P (.range t x) g σ id) (fun v new=>K v (σ++new)):=stepW_make rfl (fun _ _ _ h=>by cases h)
theorem stepW_makeSlice (t:Nat) (l c:Operand):stepW P G (.makeSlice t l c) g σ id K=pvsW (aR P (.makeSlice t l c) g σ id) (fun v new=>K v (σ++new)):=stepW_make rfl (fun _ _ _ h=>by cases h)
theorem quietW_makeSlice (t:Nat) (l c:Operand):quietW P G (.makeSlice t l c) g σ id K=pvsW (aR P (.makeSlice t l c) g σ id) K:=quietW_make rfl
end
theorem elW_zero (x:D) (l:List D) (K:D→Prop):elW (x::l) 0 K=K x:=by simp [elW]
theorem elW_succ (x:D) (l:List D) (n:Nat) (K:D→Prop):elW (x::l) (n+1) K=elW l n K:=by simp [elW]
theorem boolW_lit (b:Bool) (K:Bool→Prop):boolW (.d (.lit (.bool b))) K=K b:=rfl
theorem grdW_lit (b:Bool) (K:Bool→Prop) (q:Prop):grdW (.d (.lit (.bool b))) K q=K b:=rfl
theorem grdW_skip (K:Bool→Prop) (q:Prop):grdW (.tup []) K q=q:=rfl
theorem condW_lit (b:Bool) (p q:Prop):condW (.d (.lit (.bool b))) p q=brW b p q:=rfl
theorem pickW_lit (b:Bool) (x y:V) (K:V→Prop):pickW (.d (.lit (.bool b))) x y K=K (cond b x y):=by
 show brW b (K x) (K y)=_
 cases b
 ·exact brW_false _ _
 ·exact brW_true _ _
theorem calleeW_fn (k:Nat) (cs:List V) (K:Nat→List V→Prop) (Y:Nat→Prop) (B:Nat→List V→Prop):calleeW (.fn k cs) K Y B=K k cs:=rfl
theorem calleeW_d (k:Nat) (cs:List D) (K:Nat→List V→Prop) (Y:Nat→Prop) (B:Nat→List V→Prop):calleeW (.d (.fn k cs)) K Y B=K k (cs.map .d):=rfl
theorem calleeW_yl (i:Nat) (K:Nat→List V→Prop) (Y:Nat→Prop) (B:Nat→List V→Prop):calleeW (.yl i) K Y B=Y i:=rfl
theorem calleeW_bf (k:Nat) (cs:List D) (K:Nat→List V→Prop) (Y:Nat→Prop) (B:Nat→List V→Prop):calleeW (.d (.bf k cs)) K Y B=B k (cs.map .d):=rfl
attribute [push_cast] calleeW_yl calleeW_bf
theorem cellW_cell (cs:List V) (ty:Option Nat) (K:List V→Prop):cellW (.cell cs ty) K=K cs:=rfl
theorem rowW_row (k:Nat) (es:List D) (ty:Option Nat) (K:Nat→List D→Prop):rowW (.row k es ty) K=K k es:=rfl
theorem iterW_iter (s:ByteArray) (pos:Nat) (K:ByteArray→Nat→Prop):iterW (.iter s pos) K=K s pos:=rfl
theorem seqK_normal (k:St→Prop) (Q:Exit→St→Prop) (st:St):seqK k Q .normal st=k st:=rfl
theorem seqK_exit (k:St→Prop) (Q:Exit→St→Prop) (i:Nat) (st:St):seqK k Q (.exit i) st=Q (.exit i) st:=rfl
theorem seqK_ret (k:St→Prop) (Q:Exit→St→Prop) (st:St):seqK k Q .ret st=Q .ret st:=rfl
theorem scopeK_normal (Q:Exit→St→Prop) (st:St):scopeK Q .normal st=Q .normal st:=rfl
theorem scopeK_ret (Q:Exit→St→Prop) (st:St):scopeK Q .ret st=Q .ret st:=rfl
theorem scopeK_exit (j:Nat) (Q:Exit→St→Prop) (st:St):scopeK Q (.exit j) st=Q (.exit j) st:=rfl
theorem blockK_normal (i:Nat) (Q:Exit→St→Prop) (st:St):blockK i Q .normal st=Q .normal st:=rfl
theorem blockK_ret (i:Nat) (Q:Exit→St→Prop) (st:St):blockK i Q .ret st=Q .ret st:=rfl
theorem blockK_exit (i j:Nat) (Q:Exit→St→Prop) (st:St):blockK i Q (.exit j) st=if j=i then Q .normal st else Q (.exit j) st:=rfl
theorem retK_normal (K:St→Prop) (st:St):retK K .normal st=K st:=rfl
theorem retK_ret (K:St→Prop) (st:St):retK K .ret st=K st:=rfl
theorem loadV_pd (P:Program) (t k:Nat) (es:List D) (i j:Nat) (σ:Sig) (K:V→Prop):loadV P t (.d (.pd k es i j)) σ K=optW (ldT P t) fun x=>elemW k es i j x K:=rfl
theorem loadV_po (P:Program) (t id o:Nat) (σ:Sig) (K:V→Prop):loadV P t (.po id o) σ K=optW (ldT P t) fun x=>optW (σ.get id) fun b=>cellW b fun cs=>optW (partV x.2 o x.1 cs) K:=rfl
theorem loadV_pe (P:Program) (t id k i j:Nat) (σ:Sig) (K:V→Prop):loadV P t (.pe id k i j) σ K=optW (ldT P t) fun x=>optW (σ.get id) fun b=>rowW b fun k' es=>ndW (k=k') (elemW k es i j x K):=rfl
theorem guard_none (ops:Array Oper) (d:Option Nat) (op:Op) (t:Nat) (p:String) (af:Array Edge) (e:Env) (y n:Env→Prop):guardW ops ⟨d,op,t,p,af,none⟩ e y n=y e:=rfl
def dstL:List Oper→Nat→Option Nat
 | [],_=>none
 | o::_,0=>o.dst
 | _::r,j+1=>dstL r j
theorem dstL_zero (d:Option Nat) (op:Op) (t:Nat) (p:String) (af:Array Edge) (gd:Option (Nat × Bool)) (r:List Oper):dstL (⟨d,op,t,p,af,gd⟩::r) 0=d:=rfl
theorem dstL_succ (o:Oper) (r:List Oper) (j:Nat):dstL (o::r) (j+1)=dstL r j:=rfl
theorem dstL_eq : ∀(l:List Oper) (j:Nat),dstL l j=(l.toArray[j]?).bind (·.dst)
 | [],j=>by simp [dstL]
 | o::r,0=>by simp [dstL]
 | o::r,j+1=>by rw [dstL,dstL_eq r j];simp
theorem guard_true (l:List Oper) (d:Option Nat) (op:Op) (t:Nat) (p:String) (af:Array Edge) (e:Env) (y n:Env→Prop) (j:Nat):guardW l.toArray ⟨d,op,t,p,af,some (j,true)⟩ e y n=optW (dstL l j) fun d=>grdW (e.get d) (fun b=>brM b (letW (e.put d (.d (.lit (.bool true)))) y) (letW (e.put d (.d (.lit (.bool false)))) n)) (n e):=by rw [dstL_eq];rfl
theorem guard_false (l:List Oper) (d:Option Nat) (op:Op) (t:Nat) (p:String) (af:Array Edge) (e:Env) (y n:Env→Prop) (j:Nat):guardW l.toArray ⟨d,op,t,p,af,some (j,false)⟩ e y n=optW (dstL l j) fun d=>grdW (e.get d) (fun b=>brM b (letW (e.put d (.d (.lit (.bool true)))) n) (letW (e.put d (.d (.lit (.bool false)))) y)) (n e):=by rw [dstL_eq];rfl
theorem Env.get_nil (t:Nat):Env.get [] t = .unk:=rfl
theorem Env.get_cons (k t:Nat) (v:V) (r:Env):Env.get ((k,v)::r) t=if k=t then v else Env.get r t:=rfl
theorem evF_tmp (G:Gl) (F:Nat→V) (t:Nat):evF G F (.tmp t)=F t:=rfl
theorem evF_const (G:Gl) (F:Nat→V) (v:Value):evF G F (.const v) = .d (.lit v):=rfl
theorem evF_func (G:Gl) (F:Nat→V) (f:Nat):evF G F (.func f) = .d (.fn f []):=rfl
attribute [push_cast] Env.get_nil Env.get_cons Env.put.eq_def Env.putO.eq_def Env.keep rmN Sig.get Sig.set Sig.del
attribute [push_cast] isPure.eq_def isMake.eq_def isE.eq_def isVCall.eq_def pureR.eq_def binR.eq_def intBin.eq_def shiftBin.eq_def isShift.eq_def strBin.eq_def eqR.eq_def nilEq.eq_def isCst.eq_def allCK allLit ckD.eq_def litV.eq_def ckOf.eq_def sameCK eqVals eqVal.eq_def faR.eq_def fdR.eq_def idxR.eq_def idxVR.eq_def unR.eq_def cvR.eq_def miR.eq_def exR.eq_def lenTR.eq_def mmR.eq_def mm3R.eq_def usdR.eq_def nilCkR.eq_def callR.eq_def numV.eq_def numO.eq_def idxA.eq_def idxV.eq_def slR.eq_def taR.eq_def bdR.eq_def fillV mfR.eq_def V.cellOk.eq_def V.cellsV.eq_def D.cells.eq_def V.atom.eq_def mkAgg.eq_def allD partD.eq_def partV.eq_def D.asAgg.eq_def setAt.eq_def boxV.eq_def aR.eq_def stR.eq_def seqD elemsV.eq_def appKd.eq_def appA.eq_def appE.eq_def cpR.eq_def appW.eq_def
attribute [push_cast] Option.map_some Option.map_none Option.bind_some Option.bind_none List.map_cons List.map_nil List.cons_append List.nil_append List.append_nil List.length_cons List.length_nil List.all_cons List.all_nil Bool.and_true Bool.and_self Bool.or_true Bool.or_false Bool.true_and Bool.false_and Bool.and_false Bool.true_or Bool.false_or and_self and_true true_and and_false false_and List.drop_zero List.drop_succ_cons List.take_zero List.take_succ_cons List.getElem?_cons_zero List.getElem?_cons_succ List.size_toArray List.getElem?_toArray Bool.false_eq_true if_true if_false
attribute [push_cast] List.toList_toArray V.d.injEq D.lit.injEq argE List.contains_cons List.contains_nil List.drop_nil List.take_nil Nat.zero_add Nat.add_zero beq_self_eq_true List.getElem?_nil
section
variable {P:Program} {G:Gl} {m:Nat} {rs:List ResultVar} {r:V} {σ':Sig} {st:St}
theorem DoneW.sel (l:List Nat) (h:DoneW P G m rs r σ' (st.sel m l)):DoneW P G m rs r σ' st:=GhW.via (StLe.sel G m st l) h
theorem DoneW.frz (id:Nat) (h:DoneW P G m rs r σ' (st.frz id)):DoneW P G m rs r σ' st:=GhW.via (StLe.frz G m st id) h
theorem DoneW.pick (ks is:List Nat) (h:DoneW P G m rs r σ' (st.pick ks is)):DoneW P G m rs r σ' st:=GhW.via (StLe.pick G m st ks is) h
theorem Sub_nil (σ:Sig):Sub [] σ:=fun _ _ h=>by cases h
theorem optW_mono {α:Type} {o:Option α} {f f':α→Prop} (hf : ∀x,f x→f' x) (h:optW o f):optW o f':=by
 cases o with
 | none=>exact h
 | some x=>exact hf x h
theorem elemW_mono {k:Nat} {es:List D} {i j:Nat} {x:Nat × Bool} {K K':V→Prop} (hk : ∀v,K v→K' v) (h:elemW k es i j x K):elemW k es i j x K':=
 ⟨h.1,fun e he=>optW_mono (fun _ hy=>hk _ hy) (h.2 e he)⟩
theorem loadV_mono {t:Nat} {a:V} {σ:Sig} {K K':V→Prop} (hk : ∀v,K v→K' v) (h:loadV P t a σ K):loadV P t a σ K':=by
 unfold loadV at h ⊢
 refine optW_mono (fun x h =>?_) h
 split at h
 ·exact elemW_mono hk h
 ·refine optW_mono (fun b hb =>?_) h
  cases b<;>first|exact hb|exact optW_mono hk hb
 ·refine optW_mono (fun b hb =>?_) h
  cases b<;>first|exact hb|exact ⟨hb.1,elemW_mono hk hb.2⟩
 ·exact h
theorem resW_mono : ∀ {rs:List ResultVar} {K K':List V→Prop},(∀vs,K vs→K' vs)→resW P rs st K→resW P rs st K':=by
 intro rs
 induction rs with
 | nil=>intro K K' hk h;exact hk _ h
 | cons x rs ih=>
  intro K K' hk h
  cases x with
  | tmp t=>exact ih (fun vs hv=>hk _ hv) h
  | cell a t=>
   exact loadV_mono (fun v hv=>ih (fun vs hv=>hk _ hv) hv) h
theorem DoneW.now (l:List Nat) (hl:l.length≤4) (h:resW P rs st fun vs=>(retV vs).sel (selG m l)=r∧Sub σ' (st.sg.sel (selG m l))):DoneW P G m rs r σ' st:=
 GhW.now (resW_mono (fun _ h=>⟨l,h.1,h.2,hl⟩) h)
theorem DoneW.out (h:resW P rs st fun vs=>(retV vs).sel (selG m [])=r):DoneW P G m rs r [] st:=
 DoneW.now [] (Nat.zero_le _) (resW_mono (fun _ h=>⟨h,Sub_nil _⟩) h)
end
attribute [push_cast] Value.oneCell'.eq_def resW retV.eq_def V.atm.eq_def St.sel.eq_def Env.sel Sig.sel Blk.sel.eq_def V.sel.eq_def V.selA.eq_def selG.eq_def idx St.frz.eq_def Env.frz Sig.frz frzA.eq_def V.frz.eq_def Blk.frz.eq_def St.pick.eq_def List.filterMap_cons List.filterMap_nil List.map_map
attribute [push_cast] stepW_move quietW_move stepW_assign quietW_assign stepW_nilCheck quietW_nilCheck stepW_binOp quietW_binOp stepW_unOp quietW_unOp stepW_convert stepW_makeIface quietW_makeIface stepW_makeFunc stepW_slice quietW_slice stepW_fieldAddr quietW_fieldAddr stepW_field quietW_field stepW_indexAddr quietW_indexAddr stepW_index stepW_typeAssert quietW_typeAssert stepW_extract quietW_extract stepW_build quietW_build stepW_len quietW_len quietW_max stepW_min stepW_alloc quietW_alloc stepW_box stepW_buildSlice quietW_buildSlice stepW_range stepW_makeSlice quietW_makeSlice stepW_store stepW_load stepW_pick stepW_next stepW_call stepW_append stepW_copy stepW_clear clR.eq_def quietW_load quietW_pick
attribute [push_cast] bsW_some bsW_none sbR.eq_def sb1.eq_def sb0.eq_def ownA.eq_def ownL ownV.eq_def ownI frzP cvW_some cvW_none evF_global byteOf_lit bsR.eq_def cbR.eq_def unsR.eq_def rTy.eq_def kTy.eq_def
section
variable {P:Program} {G:Gl} {n m:Nat} {lv:List Nat}
theorem LoopW.via {c:Code} {st:St} {Q:Exit→St→Prop} (h:GhW G m (fun st'=>LoopW P G n m c st' Q) st):LoopW P G n m c st Q:=by
 obtain ⟨st',h1,h2⟩:=h
 exact fun fr hfr C a w hn hm hr=>h2 fr hfr C a w hn hm (h1 C a w hm hr)
theorem RangeW.via {g:Operand} {ps:Array Nat} {asg body:Code} {st:St} {Q:Exit→St→Prop} (h:GhW G m (fun st'=>RangeW P G n m g ps asg body st' Q) st):RangeW P G n m g ps asg body st Q:=by
 obtain ⟨st',h1,h2⟩:=h
 exact fun fr hfr C a w hn hm hr=>h2 fr hfr C a w hn hm (h1 C a w hm hr)
theorem GhW.to {K:St→Prop} {st st':St} (ks is l:List Nat) (he:(st.pick ks is).sel m l=st') (hK:K st'):GhW G m K st:=
 GhW.via (StLe.pick G m st ks is) (GhW.via (StLe.sel G m _ l) (GhW.now (by rw [he];exact hK)))
theorem GhW.frz {K:St→Prop} {st:St} (id:Nat) (h:GhW G m K (st.frz id)):GhW G m K st:=GhW.via (StLe.frz G m st id) h
theorem GhW.nil {K:St→Prop} {st:St} (t k:Nat) (h:GhW G m K (st.nil t k)):GhW G m K st:=GhW.via (StLe.nil G m st t k) h
theorem loopW_at (ho:P.follows .mixedOrders=true) {c:Code} (hok:codeOk n c=true) {st:St} {Q:Exit→St→Prop} {α:Type} (S:α→St) (pre:α→Prop) (mu:α→Nat) (x0:α) (h0:GhW G m (fun st'=>st'=S x0) st) (hp:pre x0)
 (hr : ∀x,pre x→codeW P G n m lv c (S x) (seqK (GhW G m fun st'=> ∃j,j<mu x ∧ ∃y,mu y=j∧st'=S y∧pre y) Q)):LoopW P G n m c st Q:=by
 refine LoopW.via ?_
 obtain ⟨st',h1,rfl⟩:=h0
 refine ⟨_,h1,?_⟩
 refine loopW_inv (lv:=lv) ho hok (fun k st=> ∃x,mu x=k∧st=S x∧pre x) (mu x0) ⟨x0,rfl,rfl,hp⟩ ?_
 rintro k st ⟨x,rfl,rfl,hx⟩
 exact hr x hx
theorem CallW.d {f:Nat} {args:List V} {σ:Sig} {id:Nat} {K:V→Sig→Prop} {r:V} (h:OFn P G f args [] 0 r []) (he:entT P f=true) (ha:args.map (V.sel (fw []))=args) (hr:r.sel (bk [] id)=r) (hK:K r σ):CallW P G f args σ id K:=
 CallW.of [] he (by rw [ha,sel_none];exact h) rfl (by rw [hr];show K r (σ++[]);rw [List.append_nil];exact hK)
theorem DCallW.d {f:Nat} {args:List V} {σ:Sig} {id:Nat} {K:V→Sig→Prop} {r:V} (h:OFn P G f args [] 0 r []) (he:entT P f=true) (ha:args.map (V.sel (fw []))=args) (hr:r.sel (bk [] id)=r) (hK:K r []):DCallW P G f args σ id K:=
 DCallW.of he (by rw [ha];exact h) (by rw [hr];exact hK)
end
theorem callD.q {P:Program} {G:Gl} {lo:List Nat} {ops:Array Oper} {i k:Nat} {args:List V} {σp acc:Sig} {id:Nat} {Kq Ke:V→Sig→Prop} (h:DCallW P G k args σp id Kq):callD P G lo ops i k args σp acc id Kq Ke:= .inl h
theorem callD.e {P:Program} {G:Gl} {lo:List Nat} {ops:Array Oper} {i k:Nat} {args:List V} {σp acc:Sig} {id:Nat} {Kq Ke:V→Sig→Prop} (hl:lateOk lo ops i=true) (h:CallW P G k args (σp++acc) id Ke):callD P G lo ops i k args σp acc id Kq Ke:= .inr ⟨hl,h⟩
theorem callD.d {P:Program} {G:Gl} {lo:List Nat} {ops:Array Oper} {i f:Nat} {args:List V} {σ acc:Sig} {id:Nat} {K L:V→Sig→Prop} {r:V} (h:OFn P G f args [] 0 r []) (he:entT P f=true) (ha:args.map (V.sel (fw []))=args) (hr:r.sel (bk [] id)=r) (hK:K r []):callD P G lo ops i f args σ acc id K L:= .inl (DCallW.d h he ha hr hK)
def elX {α:Type} (xs:List α) (i:Nat) (K:α→Prop) (_u:Tag K:= .mk) (_h:True:=trivial):Prop:= ∀x,xs[i]? = some x→K x
theorem elW_map {α:Type} (f:α→D) (xs:List α) (i:Nat) (K:D→Prop):elW (xs.map f) i K=elX xs i fun x=>K (f x):=by
 unfold elW elX
 apply propext
 constructor
 ·intro h x hx;exact h (f x) (by simp [hx])
 ·intro h e he
  simp only [List.getElem?_map,Option.map_eq_some_iff] at he
  obtain ⟨x,hx,rfl⟩:=he
  exact h x hx
attribute [push_cast] List.length_map Int.toNat_natCast
abbrev iv (a:Int):V:= .d (.lit (.int .i64 a))
abbrev bv (b:Bool):V:= .d (.lit (.bool b))
theorem brW.two {b:Bool} {p q:Prop} (h1:b=true→p) (h2:b=false→q):brW b p q:=⟨h1,h2⟩
theorem brM.two {b:Bool} {p q:Prop} (h1:b=true→p) (h2:b=false→q):brM b p q:=⟨h1,h2⟩
theorem brW.dec {p:Prop} [Decidable p] {q r:Prop} (h1:p→q) (h2 : ¬p→r):brW (decide p) q r:=⟨fun h=>h1 (of_decide_eq_true h),fun h=>h2 (of_decide_eq_false h)⟩
theorem brM.dec {p:Prop} [Decidable p] {q r:Prop} (h1:p→q) (h2 : ¬p→r):brM (decide p) q r:=⟨fun h=>h1 (of_decide_eq_true h),fun h=>h2 (of_decide_eq_false h)⟩
theorem brM.ndec {p:Prop} [Decidable p] {q r:Prop} (h1 : ¬p→q) (h2:p→r):brM (!decide p) q r:=⟨fun h=>h1 (by simpa using h),fun h=>h2 (by simpa using h)⟩
theorem brW.ndec {p:Prop} [Decidable p] {q r:Prop} (h1 : ¬p→q) (h2:p→r):brW (!decide p) q r:=⟨fun h=>h1 (by simpa using h),fun h=>h2 (by simpa using h)⟩
theorem ndW.intro {p q:Prop} (h1:p) (h2:p→q):ndW p q:=⟨h1,h2 h1⟩
theorem ndW.intro' {p q:Prop} (h1:p) (h2:q):ndW p q:=⟨h1,h2⟩
theorem elX.intro {α:Type} {xs:List α} {i:Nat} {K:α→Prop} (h : ∀x,xs[i]? = some x→K x):elX xs i K:=h
theorem elW.intro {xs:List D} {i:Nat} {K:D→Prop} (h : ∀x,xs[i]? = some x→K x):elW xs i K:=h
theorem elX.at {α:Type} {xs:List α} {i:Nat} {K:α→Prop} (n:Nat) (hn:i=n) (h : ∀x,xs[n]? = some x→K x):elX xs i K:=by subst hn;exact h
theorem elX.is {α:Type} {xs:List α} {i:Nat} {K:α→Prop} (n:Nat) (x:α) (hn:i=n) (hx:xs[n]? = some x) (h:K x):elX xs i K:=by
 subst hn
 intro y hy
 rw [hx] at hy;injection hy with hy;subst hy;exact h
theorem Sub_refl (σ:Sig):Sub σ σ:=fun _ _ h=>h
theorem w64 (n:Int) (h1 : -9223372036854775808≤n) (h2:n≤9223372036854775807):IntKind.i64.wrap n=n:=IntWalk.i64_in n ⟨h1,h2⟩
attribute [push_cast] St.nil.eq_def Nat.le_refl List.take_length Int.sub_zero Int.add_zero Int.zero_add
theorem take_snoc' {α:Type} {xs:List α} {i:Nat} {x:α} (h:xs[i]? = some x):xs.take (i+1)=xs.take i++[x]:=by
 rw [List.take_add_one,h];simp
theorem wu64 (n:Int) (h1:0≤n) (h2:n≤18446744073709551615):IntKind.u64.wrap n=n:=by rw [IntKind.wrap_u64];omega
theorem half64 (n:Int):n.fdiv (2 ^ min (Int.toNat 1) IntKind.u64.bits)=n / 2:=by
 rw [show (2:Int) ^ min (Int.toNat 1) IntKind.u64.bits=2 from rfl,Int.fdiv_eq_ediv_of_nonneg n (by omega)]
theorem half64' (n:Int):n.fdiv (2 ^ min 1 IntKind.u64.bits)=n / 2:=half64 n
def addI:List Nat→Nat→List Nat
 | [],i=>[i]
 | x::r,i=>if x=i then x::r else x::addI r i
def idsV (l:List Nat):V→List Nat
 | .so i _ _ _=>addI l i
 | .po i _=>addI l i
 | .pe i _ _ _=>addI l i
 | .mo i=>addI l i
 | .it i=>addI l i
 | .yl i=>addI l i
 | _=>l
def idsL (l:List Nat):List V→List Nat
 | []=>l
 | v::r=>idsL (idsV l v) r
def idsW (l:List Nat):V→List Nat
 | .agg cs=>idsL l cs
 | .tup cs=>idsL l cs
 | .fn _ cs=>idsL l cs
 | v=>idsV l v
def idsE (l:List Nat):List V→List Nat
 | []=>l
 | v::r=>idsE (idsW l v) r
def idsB (σ:Sig):List Nat→List Nat→List Nat
 | [],l=>l
 | i::r,l=>idsB σ r (match σ.get i with|some (.cell cs _)=>idsE l cs|_=>l)
def idsC (σ:Sig) (l:List Nat):List Nat:=idsB σ l l
def getL (e:Env):List Nat→List V
 | []=>[]
 | t::r=>e.get t::getL e r
def St.ids (st:St) (ks:List Nat):List Nat:=idsC st.sg (idsC st.sg (idsE [] (getL st.env ks)))
def geL (m:Nat):List Nat→List Nat
 | []=>[]
 | x::r=>if x<m then geL m r else x::geL m r
def St.norm (st:St) (m:Nat) (ks:List Nat):St:=(st.pick ks (st.ids ks)).sel m (geL m (st.ids ks))
attribute [push_cast] addI idsV.eq_def idsL idsW.eq_def idsE idsB idsC.eq_def getL geL St.ids.eq_def St.norm.eq_def
theorem GhW.go {G:Gl} {m:Nat} {K:St→Prop} {st st':St} (ks:List Nat) (he:st.norm m ks=st') (hK:K st'):GhW G m K st:=GhW.to ks (st.ids ks) (geL m (st.ids ks)) he hK
def AgW {α:Type} (G:Gl) (m:Nat) (S:α→St) (pre:α→Prop) (mu:α→Nat) (x:α) (st:St) (_u:Tag S:= .mk) (_v:Tag pre:= .mk) (_w:Tag mu:= .mk) (_x:Tag x:= .mk) (_h:True:=trivial):Prop:=GhW G m (fun st'=> ∃j,j<mu x ∧ ∃y,mu y=j∧st'=S y∧pre y) st
section
variable {P:Program} {G:Gl} {n m:Nat} {lv:List Nat} {α:Type} {S:α→St} {pre:α→Prop} {mu:α→Nat}
theorem AgW.to {x:α} {st:St} (y:α) (ks is l:List Nat) (he:(st.pick ks is).sel m l=S y) (hm:mu y<mu x) (hp:pre y):AgW G m S pre mu x st:=
 GhW.to ks is l he ⟨_,hm,y,rfl,rfl,hp⟩
theorem AgW.go {x:α} {st:St} (y:α) (ks:List Nat) (he:st.norm m ks=S y) (hm:mu y<mu x) (hp:pre y):AgW G m S pre mu x st:=
 GhW.go ks he ⟨_,hm,y,rfl,rfl,hp⟩
theorem AgW.frz {x:α} {st:St} (id:Nat) (h:AgW G m S pre mu x (st.frz id)):AgW G m S pre mu x st:=GhW.frz id h
theorem loopW_go (ho:P.follows .mixedOrders=true) {c:Code} (hok:codeOk n c=true) {st:St} {Q:Exit→St→Prop} (S:α→St) (pre:α→Prop) (mu:α→Nat) (x0:α) (h0:GhW G m (fun st'=>st'=S x0) st) (hp:pre x0)
 (hr : ∀x,pre x→codeW P G n m lv c (S x) (seqK (fun st=>AgW G m S pre mu x st) Q)):LoopW P G n m c st Q:=
 loopW_at (lv:=lv) ho hok S pre mu x0 h0 hp hr
end
section
variable {P:Program} {G:Gl}
theorem CallW.put {f:Nat} {args args':List V} {σ:Sig} {id:Nat} {K:V→Sig→Prop} {r:V} {b b':Blk} (i:Nat) (h:OFn P G f args' [(0,b)] 1 r [(0,b')]) (he:entT P f=true) (ha:args.map (V.sel (fw [i]))=args') (hs:σ.sel (fw [i])=[(0,b)]) (hl:okL [i] id σ=true)
 (hK:K (r.sel (bk [i] id)) (delL σ [i]++Sig.sel (bk [i] id) [(0,b')])):CallW P G f args σ id K:=
 CallW.of [i] he (by rw [ha,hs];exact h) hl hK
end
theorem brW.beq {a b:Int} {q r:Prop} (h1:a=b→q) (h2 : ¬a=b→r):brW (a==b) q r:=⟨fun h=>h1 (by simpa using h),fun h=>h2 (by simpa using h)⟩
theorem brM.beq {a b:Int} {q r:Prop} (h1:a=b→q) (h2 : ¬a=b→r):brM (a==b) q r:=⟨fun h=>h1 (by simpa using h),fun h=>h2 (by simpa using h)⟩
theorem brW.bne {a b:Int} {q r:Prop} (h1 : ¬a=b→q) (h2:a=b→r):brW (!(a==b)) q r:=⟨fun h=>h1 (by simpa using h),fun h=>h2 (by simpa using h)⟩
theorem brM.bne {a b:Int} {q r:Prop} (h1 : ¬a=b→q) (h2:a=b→r):brM (!(a==b)) q r:=⟨fun h=>h1 (by simpa using h),fun h=>h2 (by simpa using h)⟩
theorem brW.dand {p p':Prop} [Decidable p] [Decidable p'] {q r:Prop} (h1:p∧p'→q) (h2 : ¬(p∧p')→r):brW (decide p&&decide p') q r:=⟨fun h=>h1 (by simpa using h),fun h=>h2 (by simpa using h)⟩
theorem brM.dand {p p':Prop} [Decidable p] [Decidable p'] {q r:Prop} (h1:p∧p'→q) (h2 : ¬(p∧p')→r):brM (decide p&&decide p') q r:=⟨fun h=>h1 (by simpa using h),fun h=>h2 (by simpa using h)⟩
theorem brW.dor {p p':Prop} [Decidable p] [Decidable p'] {q r:Prop} (h1:p∨p'→q) (h2 : ¬(p∨p')→r):brW (decide p||decide p') q r:=⟨fun h=>h1 (by simpa using h),fun h=>h2 (by simpa using h)⟩
theorem brM.dor {p p':Prop} [Decidable p] [Decidable p'] {q r:Prop} (h1:p∨p'→q) (h2 : ¬(p∨p')→r):brM (decide p||decide p') q r:=⟨fun h=>h1 (by simpa using h),fun h=>h2 (by simpa using h)⟩
theorem brW.and {a b:Bool} {q r:Prop} (h:brW a (brW b q r) r):brW (a&&b) q r:=by
 cases a
 ·exact ⟨fun h=>by simp at h,fun _=>h.2 rfl⟩
 ·exact h.1 rfl
attribute [push_cast] Bool.not_true Bool.not_false bk.eq_def fw.eq_def delL okL.eq_def
end Go.Proofs.YtkhonlnajdfhfaaGreatDoor
set_option linter.unusedSimpArgs false
namespace Go.Proofs.YtkhonlnajdfhfaaGreatDoor
open Go
section
variable {P:Program}
def eqCKs (P:Program) (g:Nat→Option (List CK)):List Field→Nat→Option (List CK)
 | [],_=>some []
 | f::r,o=>if (decide (f.name ≠ "_")&&decide (f.offset=o)&&(P.info? f.type).isSome)=true then (match g f.type with
  | some a=>if P.cellsOf f.type=a.length then (eqCKs P g r (o+a.length)).map (a ++ ·) else none
  | none=>none) else none
def eqCK (P:Program):Nat→Nat→Option (List CK)
 | 0,_=>none
 | d+1,t=>match P.underlying t with
  | some (.int k)=>some [.int k]
  | some .bool=>some [.bool]
  | some .string=>some [.str]
  | some (.struct fs)=>if P.stoodInHeld t=false then eqCKs P (eqCK P d) fs.toList 0 else none
  | _=>none
def HoldsT (P:Program) (t:Nat) (xs:List Value) (v:Value):Prop:=
 match P.underlying t with
 | some (.struct _)=>v = .agg xs.toArray
 | _=>xs=[v]
theorem fitsAll_len : ∀ {ks:List CK} {xs:List Value},fitsAll ks xs→ks.length=xs.length
 | [],[],_=>rfl
 | _::_,_::_,h=>by simp [fitsAll_len h.2]
 | [],_::_,h=>h.elim
 | _::_,[],h=>h.elim
theorem fitsAll_app : ∀ {a b:List CK} {xs:List Value},fitsAll (a++b) xs→fitsAll a (xs.take a.length)∧fitsAll b (xs.drop a.length)
 | [],_,_,h=>⟨trivial,h⟩
 | _::_,_,[],h=>h.elim
 | c::a,b,x::xs,h=>by
  have:=fitsAll_app (a:=a) (b:=b) h.2
  exact ⟨⟨h.1,this.1⟩,this.2⟩
theorem eqVals_app : ∀ {a b c d:List Value},a.length=b.length→eqVals (a++c) (b++d)=(eqVals a b&&eqVals c d)
 | [],[],_,_,_=>by simp [eqVals]
 | x::a,y::b,c,d,h=>by simp [eqVals,eqVals_app (a:=a) (b:=b) (c:=c) (d:=d) (by simpa using h),Bool.and_assoc]
 | [],_::_,_,_,h=>by simp at h
 | _::_,[],_,_,h=>by simp at h
theorem eqCK_one {d t:Nat} {ks:List CK} (h:eqCK P d t=some ks) (hs : ∀fs,P.underlying t≠some (.struct fs)):ks.length=1∧((∃k,P.underlying t=some (.int k))∨P.underlying t=some .bool∨P.underlying t=some .string):=by
 cases d with
 | zero=>simp [eqCK] at h
 | succ d=>
  simp only [eqCK] at h
  split at h
  ·injection h with h;subst h;rename_i k hk;exact ⟨rfl,.inl ⟨k,hk⟩⟩
  ·injection h with h;subst h;rename_i hk;exact ⟨rfl,.inr (.inl hk)⟩
  ·injection h with h;subst h;rename_i hk;exact ⟨rfl,.inr (.inr hk)⟩
  ·rename_i fs hk;exact absurd hk (hs fs)
  ·cases h
theorem part_run {d e o:Nat} {ks:List CK} {xs:List Value} {w:World} (h:eqCK P d e=some ks) (hi:(P.info? e).isSome=true) (hc:P.cellsOf e=ks.length) (hl:o+ks.length≤xs.length) :
 ∃v,(part e xs.toArray o).run P w = .ok v w∧HoldsT P e ((xs.drop o).take ks.length) v:=by
 by_cases hs : ∃fs,P.underlying e=some (.struct fs)
 ·obtain ⟨fs,hu⟩:=hs
  obtain ⟨i,hi⟩:=Option.isSome_iff_exists.1 hi
  refine ⟨.agg (xs.toArray.extract o (o+P.cellsOf e)),by simp [part,isAgg,run_underlying hu,run_sizeOf w hi],?_⟩
  simp only [HoldsT,hu]
  congr 1
  apply Array.ext'
  rw [Array.toList_extract,hc]
  simp [List.extract]
 ·have hs' : ∀fs,P.underlying e≠some (.struct fs):=fun fs hu=>hs ⟨fs,hu⟩
  obtain ⟨h1,hk⟩:=eqCK_one h hs'
  have hlt:o<xs.length:=by omega
  have hp:P.plainKey e=true:=by
   unfold Program.plainKey
   rcases hk with ⟨k,hk⟩|hk|hk<;>rw [hk]
  refine ⟨xs[o],run_part_plain w hp (by simp [hlt]),?_⟩
  have:(xs.drop o).take ks.length=[xs[o]]:=by rw [h1,List.drop_eq_getElem_cons hlt,List.take_succ_cons,List.take_zero]
  rcases hk with ⟨k,hk⟩|hk|hk<;>simp only [HoldsT,hk]<;>exact this
theorem eqFields_run {d D:Nat} (ih : ∀t ks,eqCK P d t=some ks → ∀(w:World) xs ys vx vy,fitsAll ks xs→fitsAll ks ys→HoldsT P t xs vx→HoldsT P t ys vy→(Op.equalIn D t vx vy).run P w = .ok (eqVals xs ys) w)
 (xs ys:List Value) (w:World) : ∀(fs:List Field) (o:Nat) (ks:List CK),eqCKs P (eqCK P d) fs o=some ks→fitsAll ks (xs.drop o)→fitsAll ks (ys.drop o) →
  (Op.eqFields D xs.toArray ys.toArray fs).run P w = .ok (eqVals (xs.drop o) (ys.drop o)) w
 | [],o,ks,h,hx,hy=>by
  simp only [eqCKs,Option.some.injEq] at h
  subst h
  have h1:=fitsAll_len hx
  have h2:=fitsAll_len hy
  rw [List.eq_nil_of_length_eq_zero h1.symm,List.eq_nil_of_length_eq_zero h2.symm]
  simp [Op.eqFields,eqVals]
 | f::fs,o,ks,h,hx,hy=>by
  simp only [eqCKs] at h
  split at h
  rotate_left
  ·cases h
  rename_i hc
  simp only [Bool.and_eq_true,decide_eq_true_eq] at hc
  obtain ⟨⟨hn,ho⟩,hi⟩:=hc
  split at h
  rotate_left
  ·cases h
  rename_i a ha
  split at h
  rotate_left
  ·cases h
  rename_i hcl
  simp only [Option.map_eq_some_iff] at h
  obtain ⟨b,hb,rfl⟩:=h
  have lx:=fitsAll_len hx
  have ly:=fitsAll_len hy
  simp only [List.length_append,List.length_drop] at lx ly
  obtain ⟨hx1,hx2⟩:=fitsAll_app hx
  obtain ⟨hy1,hy2⟩:=fitsAll_app hy
  rw [List.drop_drop] at hx2 hy2
  have l1:o+a.length≤xs.length∨a.length=0:=by omega
  have l2:o+a.length≤ys.length∨a.length=0:=by omega
  rcases Nat.eq_zero_or_pos a.length with h0|h0
  ·-- a type without cells: a struct without fields
   have ha0:a=[]:=List.eq_nil_of_length_eq_zero h0
   subst ha0
   by_cases hs : ∃gs,P.underlying f.type=some (.struct gs)
   ·obtain ⟨gs,hu⟩:=hs
    obtain ⟨i,hi⟩:=Option.isSome_iff_exists.1 hi
    have p : ∀zs:List Value,(part f.type zs.toArray f.offset).run P w = .ok (.agg #[]) w:=by
     intro zs
     simp [part,isAgg,run_underlying hu,run_sizeOf w hi,hcl]
    have e:=ih f.type [] ha w [] [] (.agg #[]) (.agg #[]) trivial trivial (by simp [HoldsT,hu]) (by simp [HoldsT,hu])
    have r:=eqFields_run ih xs ys w fs (o+0) b hb hx2 hy2
    simp only [Op.eqFields,hn,ne_eq,not_false_eq_true,if_true,Sem.run_bind,p,e,Result.andThen_ok,eqVals,Bool.not_true,Bool.false_eq_true,if_false]
    exact r
   ·have:=(eqCK_one ha fun gs hu=>hs ⟨gs,hu⟩).1
    simp at this
  ·have l1:o+a.length≤xs.length:=by omega
   have l2:o+a.length≤ys.length:=by omega
   obtain ⟨v,p1,q1⟩:=part_run (w:=w) ha hi hcl l1
   obtain ⟨u,p2,q2⟩:=part_run (w:=w) ha hi hcl l2
   have e:=ih f.type a ha w _ _ v u hx1 hy1 q1 q2
   have r:=eqFields_run ih xs ys w fs (o+a.length) b hb hx2 hy2
   have key:eqVals (xs.drop o) (ys.drop o)=(eqVals ((xs.drop o).take a.length) ((ys.drop o).take a.length)&&eqVals (xs.drop (o+a.length)) (ys.drop (o+a.length))):=by
    rw [←eqVals_app (by simp;omega),←List.drop_drop,←List.drop_drop,List.take_append_drop,List.take_append_drop]
   rw [key]
   simp only [Op.eqFields,hn,ho,ne_eq,not_false_eq_true,if_true,Sem.run_bind,p1,p2,e,Result.andThen_ok]
   cases eqVals ((xs.drop o).take a.length) ((ys.drop o).take a.length)
   ·simp
   ·simpa using r
theorem eqCK_run : ∀(d t:Nat) (ks:List CK),eqCK P d t=some ks → ∀(D:Nat) (w:World) xs ys vx vy,d≤D→fitsAll ks xs→fitsAll ks ys→HoldsT P t xs vx→HoldsT P t ys vy→(Op.equalIn D t vx vy).run P w = .ok (eqVals xs ys) w:=by
 intro d
 induction d with
 | zero=>intro t ks h;simp [eqCK] at h
 | succ d ih=>
  intro t ks h D w xs ys vx vy hD hx hy hvx hvy
  obtain ⟨D,rfl⟩ : ∃E,D=E+1:=⟨D - 1,by omega⟩
  simp only [eqCK] at h
  split at h
  ·rename_i k hu
   injection h with h;subst h
   simp only [HoldsT,hu] at hvx hvy
   subst hvx hvy
   obtain ⟨⟨a,rfl⟩,_⟩:=hx
   obtain ⟨⟨b,rfl⟩,_⟩:=hy
   rw [run_equalIn_int w D t k k a b hu]
   simp [eqVals,eqVal]
  ·rename_i hu
   injection h with h;subst h
   simp only [HoldsT,hu] at hvx hvy
   subst hvx hvy
   obtain ⟨⟨a,rfl⟩,_⟩:=hx
   obtain ⟨⟨b,rfl⟩,_⟩:=hy
   rw [run_equalIn_bool' w D t a b hu]
   simp [eqVals,eqVal]
  ·rename_i hu
   injection h with h;subst h
   simp only [HoldsT,hu] at hvx hvy
   subst hvx hvy
   obtain ⟨⟨a,rfl⟩,_⟩:=hx
   obtain ⟨⟨b,rfl⟩,_⟩:=hy
   rw [run_equalIn_string w D t a b hu,←beq_toListBytes]
   simp [eqVals,eqVal]
  ·rename_i fs hu
   split at h
   rotate_left
   ·cases h
   rename_i hst
   simp only [HoldsT,hu] at hvx hvy
   subst hvx hvy
   have hf:P.fieldsOf t=fs:=by simp [Program.fieldsOf,hu]
   rw [run_equalIn_struct w D t _ _ (by rw [hf];exact hu) hst,hf]
   exact eqFields_run (fun t ks h w xs ys vx vy a b c e=>ih t ks h D w xs ys vx vy (by omega) a b c e) xs ys w fs.toList 0 ks h hx hy
  ·cases h
def eqOkT (P:Program) (t:Nat):Option (List CK):=
 match P.underlying t with
 | some (.struct _)=>if P.eqGuardType P.depth t=false then eqCK P 20 t else none
 | _=>none
theorem EqOk.of {t:Nat} {ks:List CK} (h:eqOkT P t=some ks):EqOk P t ks:=by
 unfold eqOkT at h
 split at h
 rotate_left
 ·cases h
 rename_i fs hu
 split at h
 rotate_left
 ·cases h
 rename_i hg
 refine ⟨hg,fun xs ys w hx hy =>?_⟩
 exact eqCK_run 20 t ks h Op.maxDepth w xs ys _ _ (by decide) hx hy (by simp [HoldsT,hu]) (by simp [HoldsT,hu])
end
attribute [push_cast] eqVals eqVal
end Go.Proofs.YtkhonlnajdfhfaaGreatDoor
set_option linter.unusedSimpArgs false
namespace Go.Proofs.YtkhonlnajdfhfaaGreatDoor
open Go
section
variable {P:Program} {G:Gl} {w:World} {I:Nat→Prop} {β:Bet} {σ:Sig} {nx id:Nat} {blk:Blk}
theorem Does.frz {f i:Nat} {args:List V} {v:V} {σ':Sig} (hg:σ.get i=some blk) (h:Does P G f (args.map (V.frz i blk)) (σ.frz i blk) id v σ'):Does P G f args σ id v σ':=by
 intro w I β nx vals hm hG hf hnx hd
 obtain ⟨s,hset⟩:=frz_step hm hg
 refine (h w _ β nx vals s.mem (fun g x hx=>(hG g x hx).keep (fun _ _=>rfl) (fun b hb=> .inl hb)) hf hnx ⟨by simpa using hd.1,fun j c x hc hx =>?_⟩).mono ?_
 ·simp only [List.getElem?_map,Option.map_eq_some_iff] at hc
  obtain ⟨c',hc',rfl⟩:=hc
  exact hset.den (hd.2 j c' x hc' hx)
 ·rintro e w' ⟨u,I2,β2,e1,e2,e3,e4⟩
  exact ⟨u,I2,β2,e1,e2,s.trans e3,e4⟩
theorem CallW.frz {f:Nat} {args:List V} {K:V→Sig→Prop} (i:Nat) (hg:σ.get i=some blk) (h:CallW P G f (args.map (V.frz i blk)) (σ.frz i blk) id K) (hent:entT P f=true:=by kernel_rfl):CallW P G f args σ id K:=by
 obtain ⟨v,σ',hK,hd⟩:=h
 rcases hd with ⟨he,hd⟩|⟨he,_⟩
 ·exact ⟨v,σ',hK,.inl ⟨he,hd.frz hg⟩⟩
 ·rw [ext_not hent] at he;cases he
end
attribute [push_cast] bne_self_eq_false beq_self_eq_true Bool.true_beq Bool.false_beq Bool.false_or Bool.true_or Bool.or_false Bool.or_true Bool.and_true Bool.true_and Bool.false_and Bool.and_false
end Go.Proofs.YtkhonlnajdfhfaaGreatDoor
set_option linter.unusedVariables false
namespace Go.Proofs.YtkhonlnajdfhfaaGreatDoor
theorem bneI (a b:Int):(a != b) = !(a==b):=rfl
attribute [push_cast] bneI Bool.not_not
class BrC (b:Bool) (p q:outParam Prop):Prop where
 says:b=true↔p
 nots:b=false↔q
theorem BrC.mk' {b:Bool} {p:Prop} (h:b=true↔p):BrC b p (¬p):=⟨h,by rw [←h];simp⟩
instance (priority:=100) BrC.any (b:Bool):BrC b (b=true) (b=false):=⟨Iff.rfl,Iff.rfl⟩
instance BrC.dec {p:Prop} [Decidable p]:BrC (decide p) p (¬p):=BrC.mk' (by simp)
instance BrC.beq {a b:Int} : BrC (a==b) (a=b) (¬a=b):=BrC.mk' (by simp)
instance BrC.not {b:Bool} {p q:Prop} [h:BrC b p q]:BrC (!b) q p:=⟨by rw [←h.nots];simp,by rw [←h.says];simp⟩
instance BrC.and {a b:Bool} {p q p' q':Prop} [h:BrC a p p'] [k:BrC b q q']:BrC (a&&b) (p∧q) (¬(p∧q)):=BrC.mk' (by rw [←h.says,←k.says];simp)
instance BrC.or {a b:Bool} {p q p' q':Prop} [h:BrC a p p'] [k:BrC b q q']:BrC (a||b) (p∨q) (¬(p∨q)):=BrC.mk' (by rw [←h.says,←k.says];simp)
theorem brW.of {b:Bool} {p p':Prop} [h:BrC b p p'] {q r:Prop} (h1:p→q) (h2:p'→r):brW b q r:=⟨fun e=>h1 (h.says.1 e),fun e=>h2 (h.nots.1 e)⟩
theorem brM.of {b:Bool} {p p':Prop} [h:BrC b p p'] {q r:Prop} (h1:p→q) (h2:p'→r):brM b q r:=⟨fun e=>h1 (h.says.1 e),fun e=>h2 (h.nots.1 e)⟩
theorem nextW_it (id:Nat) (σ:Sig) (K:V→Sig→Prop):nextW (.it id) σ K=optW (σ.get id) fun b=>iterW b fun s pos=>
 brW (decide (pos<s.size)) (K (.tup [.d (.lit (.bool true)),.d (.lit (.int .i64 pos)),.d (.lit (.int .i32 (Utf8.decode s pos).1))]) (σ.set id (.iter s (pos+(Utf8.decode s pos).2)))) (K (.tup [.d (.lit (.bool false))]) σ):=rfl
theorem toNat_add2 (a b:Nat):((a:Int)+(b:Int)).toNat=a+b:=by omega
attribute [push_cast] nextW_it Option.getD_some Option.getD_none toNat_add2
section
variable {P:Program} {G:Gl} {w:World} {I:Nat→Prop} {β:Bet}
def fillE:List Nat→List V→Env→Env
 | p::ps,v::vs,e=>fillE ps vs (e.put p v)
 | _,_,e=>e
def fillT (l:List (Nat × Value)) (tm:Array Value):Array Value:=l.foldl (fun tmps x=>tmps.setIfInBounds x.1 x.2) tm
theorem fillE_den : ∀(ps:List Nat) (args:List V) (vals:List Value) (e:Env) (tm:Array Value),DenL w I β args vals→(∀p∈ps,p<tm.size)→(∀t,Den w I β (e.get t) (tm.getD t undef)) →
 (fillT (ps.zip vals) tm).size=tm.size ∧ ∀t,Den w I β ((fillE ps args e).get t) ((fillT (ps.zip vals) tm).getD t undef)
 | [],args,vals,e,tm,_,_,h=>by simpa [fillT,fillE] using h
 | p::ps,[],vals,e,tm,hd,_,h=>by
  have:vals=[]:=List.eq_nil_of_length_eq_zero hd.1.symm
  subst this
  simpa [fillT,fillE] using h
 | p::ps,v::vs,[],e,tm,hd,_,h=>by have:=hd.1;simp at this
 | p::ps,v::vs,x::xs,e,tm,hd,hp,h=>by
  have h0 : ∀t,Den w I β ((e.put p v).get t) ((tm.setIfInBounds p x).getD t undef):=
   den_put (a :={ tmps:=tm,defers:=[] }) h (d:=some p) (fun y hy=>by injection hy with hy;subst hy;exact hp p (by simp)) (hd.2 0 v x rfl rfl)
  have:=fillE_den ps vs xs (e.put p v) (tm.setIfInBounds p x) ⟨by have:=hd.1;simpa using this,fun i c y hc hy=>hd.2 (i+1) c y (by simpa using hc) (by simpa using hy)⟩ (fun q hq=>by simpa using hp q (by simp [hq])) h0
  refine ⟨by rw [show fillT ((p::ps).zip (x::xs)) tm=fillT (ps.zip xs) (tm.setIfInBounds p x) from rfl,this.1];simp,this.2⟩
theorem fillT_eq (ps:Array Nat) (vals:List Value) (tm:Array Value):(ps.zip vals.toArray).foldl (fun tmps (t,a)=>tmps.setIfInBounds t a) tm=fillT (ps.toList.zip vals) tm:=by
 rw [←Array.foldl_toList]
 simp [fillT]
def ltG (id:Nat):Nat→Option Nat:=fun j=>if j<id then some j else none
def cutB (β:Bet) (id:Nat):Bet:=fun j=>if j<id then β j else none
theorem ltG_spec {id i j:Nat} (h:ltG id i=some j):i=j∧j<id:=by
 unfold ltG at h
 split at h
 ·injection h with h;omega
 ·cases h
theorem ltG_inj (id:Nat) : ∀i i' j,ltG id i=some j→ltG id i'=some j→i=i':=fun i i' j h h'=>by
 have:=ltG_spec h;have:=ltG_spec h';omega
theorem cutB_ext {id:Nat} : ∀i j,ltG id i=some j → ∀x,β i=some x→cutB β id j=some x:=fun i j h x hx=>by
 obtain ⟨rfl,hlt⟩:=ltG_spec h
 simp [cutB,hlt,hx]
theorem cutB_some {id j:Nat} {x:Option (Nat × Nat)} (h:cutB β id j=some x):j<id∧β j=some x:=by
 unfold cutB at h
 split at h
 ·exact ⟨by assumption,h⟩
 ·cases h
theorem get_cut {σ:Sig} {id j:Nat} {b:Blk} (h:(σ.sel (ltG id)).get j=some b):j<id ∧ ∃b',σ.get j=some b'∧b=b'.sel (ltG id):=by
 obtain ⟨i,b',h1,h2,h3⟩:=Sig.get_sel (ltG_inj id) σ j b h
 obtain ⟨rfl,hlt⟩:=ltG_spec h1
 exact ⟨hlt,b',h2,h3⟩
theorem Mem.cut {σ:Sig} {nx:Nat} (hm:Mem w I β σ nx) (id:Nat):Mem w I (cutB β id) (σ.sel (ltG id)) id where
 own:=fun j b hj=>by
  obtain ⟨hlt,b',h1,rfl⟩:=get_cut hj
  exact (hm.own j b' h1).sel cutB_ext (by simp [ltG,hlt])
 inj:=fun j j' b b' k c c' h1 h2 h3 h4=>by
  obtain ⟨_,x,q1,_⟩:=get_cut h1
  obtain ⟨_,x',q1',_⟩:=get_cut h2
  exact hm.inj j j' x x' k c c' q1 q1' (cutB_some h3).2 (cutB_some h4).2
 free:=fun j hj=>by simp [cutB,show ¬j<id by omega]
 lt:=hm.lt
theorem owned_cut {σ:Sig} {id b:Nat} (h:owned (σ.sel (ltG id)) (cutB β id) b):owned σ β b:=by
 obtain ⟨j,blk,c,h1,h2⟩:=h
 obtain ⟨_,b',q1,_⟩:=get_cut h1
 exact ⟨j,b',c,q1,(cutB_some h2).2⟩
def selY (σ:Sig) (id:Nat) (l:List Nat):Nat→Option Nat:=fun j=>if j<id then (if (σ.get j).isSome=true then some j else none) else idx l j id
def RndW (G:Gl) (σ:Sig) (id i:Nat) (y:Yd) (e:Env) (j:Option Code) (v:V) (σ':Sig) (st:St):Prop:=
 v = .d (.lit (.bool j.isNone))∧GhW G id (fun st=> ∃l:List Nat,l.length≤4∧Sub σ' ((i,.rc y j e)::st.sg.sel (selY σ id l))) st
def rndK (G:Gl) (σ:Sig) (id i:Nat) (y:Yd) (e:Env) (v:V) (σ':Sig):Exit→St→Prop
 | .normal,st=>RndW G σ id i y e none v σ' st
 | .ret,st=>RndW G σ id i y e (some .ret) v σ' st
 | .exit k,st=>RndW G σ id i y e (some (.exit k)) v σ' st
 | _,_=>False
theorem RelE.putHid {C:Ctx} {e:Env} {σ:Sig} {nx lim b:Nat} {o o':Obj} {a:Act} {w:World} (hC:C.hd=[(b,o)]) (ho:o ≠ .deferred (some [])) (hown:owned C.σ C.β b) (h:RelE C G e σ nx lim a w) :
 RelE { C with hd:=[(b,o')] } G e σ nx lim a (w.putObj b o'):=by
 obtain ⟨I,β,h1,h2,h3,h4,⟨⟨Ds,q1,q2,q3⟩,q4⟩,h6⟩:=h
 obtain ⟨k1,k2,k3⟩:=q4 (b,o) (by rw [hC];simp)
 simp only at k1 k2 k3
 have hI : ∀b',I b'→(w.putObj b o').heap[b']? = w.heap[b']? :=fun b' hb=>World.putObj_heap_other (fun e=>k2 (e▸hb))
 have hO : ∀b',owned σ β b'→(w.putObj b o').heap[b']? = w.heap[b']? :=fun b' hb=>World.putObj_heap_other (fun e=>k3 (e▸hb))
 refine ⟨I,β,⟨⟨fun id blk hb =>?_,h1.mem.inj,h1.mem.free,fun b hb =>?_⟩,h1.os,h1.tape,h1.output,?_,fun b' hb hn =>?_,h1.imm,h1.immn,h1.bet,h1.nx,h1.own'⟩,h2,fun t=>(h3 t).keep hI (fun _ h=>h) (fun _ _ h=>h),h4,⟨⟨Ds,q1,q2,fun D hD =>?_⟩,fun p hp =>?_⟩,fun g x hx=>(h6 g x hx).keep hI (fun _ h=>h)⟩
 ·have ho:=h1.mem.own id blk hb
  refine ho.keep (fun b hb' =>?_) (fun _ h=>h) (fun b c hc=>(ho.not_imm hc).1) (fun _ _ h=>h)
  rcases hb' with hb'|⟨c,hc⟩
  ·exact hI b hb'
  ·exact hO b ⟨id,blk,c,hb,hc⟩
 ·rw [World.putObj_size];exact h1.mem.lt b hb
 ·rw [World.putObj_size];exact h1.size
 ·rw [World.putObj_heap_other (fun e=>hn (by rw [e];exact hown))];exact h1.block b' hb hn
 ·obtain ⟨g1,g2,g3,g4⟩:=q3 D hD
  refine ⟨g1,?_,g3,g4⟩
  rw [World.putObj_heap_other]
  ·exact g2
  ·rintro rfl;rw [k1] at g2;injection g2 with g2;exact ho g2
 ·have hp':p=(b,o'):=by simpa using hp
  subst hp'
  exact ⟨World.putObj_heap_same (lt_of_heap k1),k2,k3⟩
end
section
variable {P:Program} {G:Gl}
theorem selY_spec {σ:Sig} {id i j:Nat} {l:List Nat} (h:selY σ id l i=some j):(i=j∧j<id ∧ ∃b,σ.get j=some b)∨(id≤i∧id≤j∧j<id+l.length∧l[j - id]? = some i):=by
 unfold selY at h
 split at h
 ·rename_i hlt
  split at h
  ·rename_i hs
   injection h with h;subst h
   exact .inl ⟨rfl,hlt,Option.isSome_iff_exists.1 hs⟩
  ·cases h
 ·obtain ⟨h1,h2,h3⟩:=idx_spec h
  exact .inr ⟨by omega,h1,h2,h3⟩
theorem selY_inj (σ:Sig) (id:Nat) (l:List Nat) : ∀i i' j,selY σ id l i=some j→selY σ id l i'=some j→i=i':=by
 intro i i' j h h'
 rcases selY_spec h with ⟨rfl,h1,_⟩|⟨h0,h1,_,h2⟩
 ·rcases selY_spec h' with ⟨rfl,_⟩|⟨_,h1',_⟩
  ·rfl
  ·omega
 ·rcases selY_spec h' with ⟨rfl,h1',_⟩|⟨_,_,_,h2'⟩
  ·omega
  ·rw [h2] at h2';injection h2'
theorem rnd_step {w w3:World} {I I3:Nat→Prop} {β β3:Bet} {σ σ3 σ':Sig} {nx nx3 id i b cap:Nat} {y:Yd} {e:Env} {j:Option Code} {r:Loop} {l:List Nat} {o:Obj}
 (hm:Mem w I β σ nx) (hi:i<id) (hfr : ∀k,id≤k→k<id+4→β k=none) (hnx:id+4≤nx) (hg:σ.get i=some (.rc y none e)) (hb:β i=some (some (b,cap))) (he : ∀t,Den w I β (e.get t) (r.tmps.getD t undef)) (hr:RecIs y j r)
 (hs:MStep w I (cutB β id) (σ.sel (ltG id)) id w3 I3 β3 σ3 nx3) (h3:w3.heap[b]? = some o) (hI3 : ¬I3 b) (ho3 : ¬owned σ3 β3 b) (hl:l.length≤4) (hsub:Sub σ' ((i,.rc y j e)::σ3.sel (selY σ id l))) :
 ∃β',MStep w I β σ nx (w3.putObj b (.loop r)) I3 β' σ' nx ∧ ∀k,¬(id≤k∧k<id+4)→β' k=β k:=by
 have hlt:b<w.heap.size:=(((hm.own i _ hg).not_imm hb).2)
 have hIb : ¬I b:=((hm.own i _ hg).not_imm hb).1
 let β':Bet:=fun k=>if id≤k∧k<id+4 then (match l[k - id]? with|some q=>β3 q|none=>none) else β k
 have hβ : ∀k,¬(id≤k∧k<id+4)→β' k=β k:=fun k hk=>by simp only [β',if_neg hk]
 have hext : ∀k x,β k=some x→β' k=some x:=fun k x hx=>by
  rw [hβ k]
  ·exact hx
  ·rintro ⟨h1,h2⟩;rw [hfr k h1 h2] at hx;cases hx
 have hin : ∀k k',selY σ id l k=some k'→β' k'=β3 k:=by
  intro k k' h
  rcases selY_spec h with ⟨rfl,h1,blk,h2⟩|⟨h0,h1,h2,h3⟩
  ·rw [hβ k (by omega)]
   obtain ⟨x,hx⟩:=(hm.own k blk h2).named
   rw [hx,hs.bet k x (by simp [cutB,h1,hx])]
  ·simp only [β',show id≤k'∧k'<id+4 from ⟨h1,by omega⟩,and_self,if_true,h3]
 have hing : ∀k k',selY σ id l k=some k' → ∀x,β3 k=some x→β' k'=some x:=fun k k' h x hx=>by rw [hin k k' h];exact hx
 have hinj:=selY_inj σ id l
 have hIk : ∀k,I3 k→(w3.putObj b (.loop r)).heap[k]? = w3.heap[k]? :=fun k hk=>World.putObj_heap_other (fun e=>hI3 (e▸hk))
 have hOk : ∀k,owned σ3 β3 k→(w3.putObj b (.loop r)).heap[k]? = w3.heap[k]? :=fun k hk=>World.putObj_heap_other (fun e=>ho3 (e▸hk))
 have hI0 : ∀k,I k→w3.heap[k]? = w.heap[k]? :=fun k hk=>hs.block k (hm.lt k hk) (fun h=>hm.not_owned hk (owned_cut h))
 have hget : ∀k blk,σ'.get k=some blk→(k=i∧blk = .rc y j e)∨(∃k0 blk0,selY σ id l k0=some k∧σ3.get k0=some blk0∧blk=blk0.sel (selY σ id l)):=by
  intro k blk hk
  have:=hsub k blk hk
  simp only [Sig.get] at this
  split at this
  ·rename_i e1;injection this with this;exact .inl ⟨e1.symm,this.symm⟩
  ·exact .inr (Sig.get_sel hinj _ k blk this)
 have hbi:β' i=some (some (b,cap)):=hext i _ hb
 have hoth : ∀k k0 blk0 c,selY σ id l k0=some k→σ3.get k0=some blk0→β' k=some (some (b,c))→False:=by
  intro k k0 blk0 c h1 h2 h4
  rw [hin k0 k h1] at h4
  exact ho3 ⟨k0,blk0,c,h2,h4⟩
 have howned : ∀k,owned σ' β' k→k=b∨owned σ3 β3 k:=by
  rintro k ⟨q,blk,c,h1,h2⟩
  rcases hget q blk h1 with ⟨rfl,rfl⟩|⟨q0,blk0,g1,g2,_⟩
  ·rw [hbi] at h2;injection h2 with h2;injection h2 with h2;injection h2 with h2 _;exact .inl h2.symm
  ·rw [hin q0 q g1] at h2;exact .inr ⟨q0,blk0,c,g2,h2⟩
 have hob:owned σ β b:=⟨i,_,cap,hg,hb⟩
 refine ⟨β',⟨⟨fun k blk hk =>?_,fun k k' blk blk' q c c' g1 g2 g3 g4 =>?_,fun k hk =>?_,fun k hk =>?_⟩,hs.os,hs.tape,hs.output,?_,fun k hk hn =>?_,hs.imm,fun k hk =>?_,hext,Nat.le_refl _,fun k hk =>?_⟩,hβ⟩
 ·rcases hget k blk hk with ⟨rfl,rfl⟩|⟨k0,blk0,g1,g2,rfl⟩
  ·exact ⟨b,cap,r,hbi,World.putObj_heap_same (lt_of_heap h3),hI3,hr,fun t=>(he t).keep (fun q hq=>(hIk q (hs.imm q hq)).trans (hI0 q hq)) hs.imm hext⟩
  ·have ho:=hs.mem.own k0 blk0 g2
   have ho':Own (w3.putObj b (.loop r)) I3 β3 k0 blk0:=ho.keep (fun q hq=>by
    rcases hq with hq|⟨c,hc⟩
    ·exact hIk q hq
    ·exact hOk q ⟨k0,blk0,c,g2,hc⟩) (fun _ h=>h) (fun q c hc=>(ho.not_imm hc).1) (fun _ _ h=>h)
   exact ho'.sel hing g1
 ·rcases hget k blk g1 with ⟨rfl,rfl⟩|⟨k0,blk0,p1,p2,rfl⟩
  ·rw [hbi] at g3;injection g3 with g3;injection g3 with g3;injection g3 with g3 _;subst g3
   rcases hget k' blk' g2 with ⟨rfl,rfl⟩|⟨k0',blk0',p1',p2',rfl⟩
   ·rfl
   ·exact (hoth k' k0' blk0' c' p1' p2' g4).elim
  ·rcases hget k' blk' g2 with ⟨rfl,rfl⟩|⟨k0',blk0',p1',p2',rfl⟩
   ·rw [hbi] at g4;injection g4 with g4;injection g4 with g4;injection g4 with g4 _;subst g4
    exact (hoth k k0 blk0 c p1 p2 g3).elim
   ·rw [hin k0 k p1] at g3
    rw [hin k0' k' p1'] at g4
    have:=hs.mem.inj k0 k0' blk0 blk0' q c c' p2 p2' g3 g4
    subst this
    rw [p1] at p1';injection p1'
 ·rw [hβ k (by omega)];exact hm.free k hk
 ·rw [World.putObj_size];exact hs.mem.lt k hk
 ·rw [World.putObj_size];exact hs.size
 ·have hkb:k≠b:=fun e=>hn (e▸hob)
  rw [World.putObj_heap_other hkb]
  exact hs.block k hk (fun h=>hn (owned_cut h))
 ·rcases hs.immn k hk with h|h|h
  ·exact .inl h
  ·exact .inr (.inl (owned_cut h))
  ·exact .inr (.inr h)
 ·rcases howned k hk with rfl|h
  ·exact .inl hob
  ·rcases hs.own' k h with h|h
   ·exact .inl (owned_cut h)
   ·exact .inr h
theorem YDoes.of {i:Nat} {args:List V} {σ:Sig} {id:Nat} {y:Yd} {e:Env} {v:V} {σ':Sig} (hg:σ.get i=some (.rc y none e)) (hi:i<id) (hps:y.ps.toList.all (fun p=>decide (p<y.n))=true) (hl:args.length=y.ps.size) (hn1:noR y.asg=true) (hn2:noR y.body=true)
 (h:AW P G y.n id y.asg ⟨fillE y.ps.toList (args.map (V.sel (ltG id))) (e.sel (ltG id)),(σ.del i).sel (ltG id),id⟩ (seqK (fun st=>AW P G y.n id y.body st (rndK G σ id i y e v σ')) (fun _ _=>False))):YDoes P G i args σ id v σ':=by
 intro w I β nx vals b cap hm hG hfr hnx hd hb
 obtain ⟨b',cap',r,q1,q2,q3,q4,q5⟩:=hm.own i _ hg
 rw [hb] at q1;injection q1 with q1;injection q1 with q1;injection q1 with q1 q1';subst q1;subst q1'
 refine ⟨r,q2,by rw [←hd.1,hl,q4.ps],?_⟩
 rw [fillT_eq]
 have hC:=hm.cut id
 let C:Ctx:=⟨w,I,cutB β id,σ.sel (ltG id),id,y.n,hC.free,[(b,.loop r)]⟩
 have hown:owned C.σ C.β b:=⟨i,Blk.sel (ltG id) (.rc y none e),cap,Sig.get_sel' (ltG_inj id) (by simp [ltG,hi]) σ _ hg,by simp [C,cutB,hi,hb]⟩
 have hsub : ∀j bl,((σ.del i).sel (ltG id)).get j=some bl→(σ.sel (ltG id)).get j=some bl∧j≠i:=by
  intro j bl hj
  obtain ⟨hlt,b',h1,rfl⟩:=get_cut hj
  rw [Sig.get_del] at h1
  split at h1
  ·cases h1
  ·rename_i hne
   exact ⟨Sig.get_sel' (ltG_inj id) (by simp [ltG,hlt]) σ _ h1,hne⟩
 have hargs:DenL w I (cutB β id) (args.map (V.sel (ltG id))) vals:=by
  refine ⟨by simpa using hd.1,fun k c x hc hx =>?_⟩
  simp only [List.getElem?_map,Option.map_eq_some_iff] at hc
  obtain ⟨c',hc',rfl⟩:=hc
  exact (hd.2 k c' x hc' hx).sel cutB_ext
 have hfill:=fillE_den (w:=w) (I:=I) (β:=cutB β id) y.ps.toList (args.map (V.sel (ltG id))) vals (e.sel (ltG id)) r.tmps hargs (fun p hp=>by
  have:=List.all_eq_true.1 hps p hp
  rw [q4.n];simpa using this) (fun t=>by rw [Env.get_sel];exact (q5 t).sel cutB_ext)
 have hrel:Rel C G ⟨fillE y.ps.toList (args.map (V.sel (ltG id))) (e.sel (ltG id)),(σ.del i).sel (ltG id),id⟩ { tmps:=fillT (y.ps.toList.zip vals) r.tmps,defers:=[] } w:=by
  refine ⟨I,cutB β id,(MStep.refl hC).sub (fun j bl hj=>(hsub j bl hj).1) (Nat.le_refl _),hC.free,hfill.2,by rw [hfill.1];exact q4.n,⟨⟨[],rfl,List.nodup_nil,fun D hD=>by cases hD⟩,fun p hp =>?_⟩,hG⟩
  have hp':p=(b,.loop r):=by simpa [C] using hp
  subst hp'
  refine ⟨q2,q3,?_⟩
  rintro ⟨j,bl,c,g1,g2⟩
  obtain ⟨hlt,b',h1,_⟩:=get_cut g1
  rw [Sig.get_del] at h1
  split at h1
  ·cases h1
  ·rename_i hne
   exact hne (hm.inj j i _ _ b c cap h1 hg (cutB_some g2).2 hb)
 rw [show r.params.toList=y.ps.toList by rw [q4.ps]]
 refine roundIn_of_wpIn (F:=Fence.wide) trivial ?_
 rw [q4.asg,q4.body]
 refine wpIn_mono (h (some b) (.inr hn1) C _ w rfl rfl hrel) ?_
 rintro e1 a1 w1 ⟨st1,hq,hr1⟩
 cases e1 with
 | normal=>
  have hhid:w1.heap[b]? = some (.loop r):=by
   obtain ⟨I1,β1,_,_,_,_,⟨_,k⟩,_⟩:=_root_.id hr1
   exact (k (b,.loop r) (by simp [C])).1
  have hst:r.state = .ready:=by rw [q4.state];rfl
  refine ⟨_,run_beginRound hhid hst,?_⟩
  have hr2:=RelE.putHid (o':= .loop { r with state:= .busy }) (C:=C) rfl (fun e=>by cases e) hown hr1
  let C2:Ctx :={ C with hd:=[(b,.loop { r with state:= .busy })] }
  refine wpIn_mono ((show AW P G y.n id y.body st1 (rndK G σ id i y e v σ') from hq) (some b) (.inr hn2) C2 a1 _ rfl rfl hr2) ?_
  have fin : ∀(j:Option Code) (st2:St) (a2:Act) (w3:World),RndW G σ id i y e j v σ' st2→Rel C2 G st2 a2 w3 →
   ∃u w',(Instr.endRound b j).run P w3 = .ok u w' ∧ ∃u0 I' β',Ending.returned u = .returned u0∧Den w' I' β' v u0∧MStep w I β σ nx w' I' β' σ' nx ∧ ∀k,¬(id≤k∧k<id+4)→β' k=β k:=by
   rintro j st2 a2 w3 ⟨rfl,st3,hle,l,hl4,hsb⟩ hr3
   obtain ⟨I3,β3,k1,k2,k3,k4,⟨_,k5⟩,k6⟩:=hle C2 a2 w3 rfl hr3
   obtain ⟨p1,p2,p3⟩:=k5 (b,.loop { r with state:= .busy }) (by simp [C2])
   obtain ⟨β',g1,g2⟩:=rnd_step (r :={ r with state:=if j.isNone then .ready else .done,pending:=j }) hm hi hfr hnx hg hb q5 ⟨rfl,rfl,q4.n,q4.ps,q4.asg,q4.body⟩ k1 p1 p2 p3 hl4 hsb
   exact ⟨_,_,run_endRound j p1,_,I3,β',rfl,DenD.lit _,g1,g2⟩
  rintro e2 a2 w3 ⟨st2,hq2,hr3⟩
  cases e2 with
  | normal=>exact fin none st2 a2 w3 hq2 hr3
  | ret=>exact fin (some .ret) st2 a2 w3 hq2 hr3
  | exit k=>exact fin (some (.exit k)) st2 a2 w3 hq2 hr3
  | _=>exact hq2.elim
 | _=>exact hq.elim
theorem YieldW.of (ho:P.follows .mixedOrders=true) (lv:List Nat) {i:Nat} {args:List V} {σ:Sig} {id:Nat} {K:V→Sig→Prop} {y:Yd} {e:Env} {v:V} {σ':Sig} (hg:σ.get i=some (.rc y none e)) (hi:i<id) (hps:y.ps.toList.all (fun p=>decide (p<y.n))=true) (hl:args.length=y.ps.size)
 (hn1:noR y.asg=true) (hn2:noR y.body=true) (ho1:codeOk y.n y.asg=true) (ho2:codeOk y.n y.body=true)
 (h:codeW P G y.n id lv y.asg ⟨fillE y.ps.toList (args.map (V.sel (ltG id))) (e.sel (ltG id)),(σ.del i).sel (ltG id),id⟩ (seqK (fun st=>codeW P G y.n id lv y.body st (rndK G σ id i y e v σ')) (fun _ _=>False))) (hK:K v σ'):YieldW P G i args σ id K:=by
 refine ⟨v,σ',hK,YDoes.of hg hi hps hl hn1 hn2 ((codeW_sound ho _ _ _ ho1 h).mono ?_)⟩
 intro ex st hq
 cases ex with
 | normal=>exact codeW_sound ho _ _ _ ho2 hq
 | _=>exact hq
end
end Go.Proofs.YtkhonlnajdfhfaaGreatDoor
set_option linter.unusedVariables false
namespace Go.Proofs.YtkhonlnajdfhfaaGreatDoor
open Go.RowKit
section
variable {P:Program} {G:Gl}
def RngW (G:Gl) (st:St) (Q:Exit→St→Prop) (st':St):Prop:=
 GhW G (st.nx+1) (fun st'=> ∃y j e,st'.sg.get st.nx=some (.rc y j e)∧match j with
  | none=>Q .normal ⟨st.env,st'.sg.del st.nx,st'.nx⟩
  | some .ret=>Q .ret ⟨st.env,st'.sg.del st.nx,st'.nx⟩
  | some (.exit k)=>Q (.exit k) ⟨st.env,st'.sg.del st.nx,st'.nx⟩
  | _=>False) st'
def rngK (G:Gl) (st:St) (Q:Exit→St→Prop):Exit→St→Prop
 | .normal,st'=>RngW G st Q st'
 | .ret,st'=>RngW G st Q st'
 | _,_=>False
theorem MStep.foreign {w:World} {I:Nat→Prop} {β:Bet} {σ:Sig} {nx:Nat} (hm:Mem w I β σ nx) (o:Obj):MStep w I β σ nx (w.alloc o) I β σ nx:=by
 have hb : ∀b,b<w.heap.size→(w.alloc o).heap[b]? = w.heap[b]? :=fun b hb=>Below.heap_alloc w o b hb
 refine ⟨⟨fun id blk h =>?_,hm.inj,hm.free,fun b hI=>by have:=hm.lt b hI;simp;omega⟩,rfl,rfl,rfl,by simp,fun b hlt _=>hb b hlt,fun _ h=>h,fun _ h=> .inl h,fun _ _ h=>h,Nat.le_refl _,fun _ h=> .inl h⟩
 have ho:=hm.own id blk h
 refine ho.keep (fun b hb' =>?_) (fun _ h=>h) (fun b c hc=>(ho.not_imm hc).1) (fun _ _ h=>h)
 rcases hb' with hb'|⟨c,hc⟩
 ·exact hb b (hm.lt b hb')
 ·exact hb b (ho.not_imm hc).2
theorem range_aw {n m:Nat} {g:Operand} {ps:Array Nat} {asg body:Code} {st:St} {Q:Exit→St→Prop} {k:Nat} {caps:List V} {fn:Func} {c:Code}
 (hg : ∀w I β x,Den w I β (evF G st.env.get g) x → ∃cv:List Value,x = .func (.func k) #[] cv.toArray∧DenL w I β caps cv) (he:entT P k=true) (hf:P.funcs[k]? = some fn) (hb:fn.body=some c) (hrs:fn.results = #[]) (hlen:caps.length+1≤fn.ntmps)
 (h:AW P G fn.ntmps (st.nx+1) c ⟨argE 0 (.yl st.nx::caps),(st.nx,.rc ⟨n,ps,asg,body⟩ none st.env)::st.sg,st.nx+1⟩ (rngK G st Q)):RangeW P G n m g ps asg body st Q:=by
 intro fr hfr C a w hn hm hr
 have hfr':fr=none:=hfr.resolve_right (by simp [noR])
 subst hfr'
 refine wpIn_rangeFunc (F:=Fr none) fun fn' _ =>?_
 obtain ⟨I,β,h1,h2,h3,h4,h5,h6⟩:=hr
 have hgd:=evF_den (G:=G) (e:=st.env) (a:=a) h3 h6 g
 obtain ⟨cv,e1,e2⟩:=hg w I β _ hgd
 let r:Loop :={ state:= .ready,pending:=none,fn:=fn',tmps:=a.tmps,params:=ps,assign:=asg,body:=body,defers:=w.heap.size }
 let w0:=w.alloc (.deferred (some []))
 let w1:=w0.alloc (.loop r)
 have hres:(resolve a.eval (rangeCall g (w.heap.size+1)) 0).run P w1 = .ok { target:= .fn (.func k) cv.toArray,args :=#[.func (.yield (w.heap.size+1)) #[] #[]] } w1:=by
  have ec : ∀v:Value,a.eval (.const v)=v:=fun _=>rfl
  simp [resolve,e1,ec,Deferred.ofValue]
 refine ⟨w.heap.size+1,[{ target:= .collected w.heap.size,args :=#[] }],w1,_,w1,k,(.func (.yield (w.heap.size+1)) #[] #[]::cv).toArray,w1,run_enterLoop_outer fn' a.tmps ps asg body,hres,fun _ _=>trivial,?_,(fun e=>by cases e),?_⟩
 ·simp only [invoke]
  rw [show (#[Value.func (Fn.yield (w.heap.size+1)) #[] #[]]++cv.toArray)=(Value.func (Fn.yield (w.heap.size+1)) #[] #[]::cv).toArray by simp]
  exact run_callFunc he _ w1
 have hb0:β st.nx=none:=h2 st.nx (Nat.le_refl _)
 have hm1:Mem w I β st.sg (st.nx+1):=h1.mem.bump (by omega)
 have s0:=MStep.foreign hm1 (.deferred (some []))
 let blk:Blk:= .rc ⟨n,ps,asg,body⟩ none st.env
 have hsz:w0.heap.size=w.heap.size+1:=by simp [w0]
 have hown:Own w1 I (upd β st.nx (some (w0.heap.size,0))) st.nx blk:=by
  refine ⟨w0.heap.size,0,r,upd_same _ _ _,World.alloc_heap_new w0 _,fun hI =>?_,⟨rfl,rfl,h4.trans hn,rfl,rfl,rfl⟩,fun t =>?_⟩
  ·have:=h1.mem.lt _ hI;omega
  ·refine (h3 t).keep (fun b hI =>?_) (fun _ h=>h) (upd_ext hb0)
   have hlt:=h1.mem.lt b hI
   exact (Below.heap_alloc w0 _ b (by omega)).trans (Below.heap_alloc w _ b hlt)
 have s1:=MStep.alloc s0.mem (id:=st.nx) hb0 (by omega) (.loop r) 0 blk hown
 have s01:=s0.trans s1
 let β1:=upd β st.nx (some (w0.heap.size,0))
 have hβ1:β1 st.nx=some (some (w0.heap.size,0)):=upd_same _ _ _
 let C':Ctx:=⟨w1,I,β1,(st.nx,blk)::st.sg,st.nx+1,fn.ntmps,s1.mem.free,[]⟩
 let vals:List Value:= .func (.yield (w.heap.size+1)) #[] #[]::cv
 have hvl:vals.length=caps.length+1:=by simp [vals,e2.1]
 have hrel:Rel C' G ⟨argE 0 (.yl st.nx::caps),(st.nx,blk)::st.sg,st.nx+1⟩ { tmps:=vals.toArray++Array.replicate (fn.ntmps - vals.toArray.size) undef,defers:=[] } w1:=by
  refine ⟨I,β1,MStep.refl s1.mem,s1.mem.free,fun t =>?_,?_,DfOk.nil,fun q x hx=>s01.denD hm1 (h6 q x hx)⟩
  ·show Den w1 I β1 ((argE 0 (.yl st.nx::caps)).get t) _
   rw [get_argE]
   simp only [Nat.zero_le,if_true,Nat.sub_zero]
   cases hv:(V.yl st.nx::caps)[t]? with
   | none=>trivial
   | some v=>
    have ht:t<vals.length:=by
     have:=(List.getElem?_eq_some_iff.1 hv).1
     simp at this;omega
    have e3:(vals.toArray++Array.replicate (fn.ntmps - vals.toArray.size) undef).getD t undef=vals[t]:=by
     simp [Array.getD_eq_getD_getElem?,Array.getElem?_append,ht]
    rw [e3]
    match t,hv,ht with
    | 0,hv,ht=>
     simp only [List.getElem?_cons_zero,Option.some.injEq] at hv
     subst hv
     exact ⟨w0.heap.size,0,hβ1,by show Value.func (.yield (w.heap.size+1)) #[] #[]=_;rw [hsz]⟩
    | t+1,hv,ht=>
     simp only [List.getElem?_cons_succ] at hv
     exact s01.den hm1 (e2.2 t v _ hv (by simp [vals]))
  ·show (vals.toArray++Array.replicate (fn.ntmps - vals.toArray.size) undef).size=fn.ntmps
   simp;omega
 refine callsIn_of_wp_marks (F:=Fr none) hf hb trivial ?_
 refine wpIn_mono (h none (.inl rfl) C' _ w1 rfl rfl hrel) ?_
 rintro ex aK w2 ⟨st2,hq,hr2⟩
 have hD:DfOk C.w.heap.size C.hd w1 I β1 ((st.nx,blk)::st.sg) ({ target:= .collected w.heap.size,args :=#[] } :: a.defers):=by
  obtain ⟨⟨Ds,d1,d2,d3⟩,d4⟩:=(h5.step s01)
  have hDlt : ∀D∈Ds,D<w.heap.size:=by
   obtain ⟨⟨Ds',d1',d2',d3'⟩,_⟩:=h5
   have:Ds'=Ds:=by
    have e4:=d1'.symm.trans d1
    have : ∀(x y:List Nat),x.map (fun D=>({ target:= .collected D,args :=#[] } : Deferred))=y.map (fun D =>{ target:= .collected D,args :=#[] })→x=y:=by
     intro x
     induction x with
     | nil=>intro y h;cases y with|nil=>rfl|cons=>simp at h
     | cons q x ih=>
      intro y h
      cases y with
      | nil=>simp at h
      | cons q' y=>simp only [List.map_cons,List.cons.injEq,Deferred.mk.injEq,Target.collected.injEq,and_true] at h;rw [h.1,ih y h.2]
    exact this _ _ e4
   subst this
   exact fun D hD=>lt_of_heap (d3' D hD).2.1
  refine ⟨⟨w.heap.size::Ds,by rw [List.map_cons,←d1],List.nodup_cons.2 ⟨fun hh=>by have:=hDlt _ hh;omega,d2⟩,fun D hD =>?_⟩,d4⟩
  rcases List.mem_cons.1 hD with rfl|hD
  ·refine ⟨h1.size,?_,fun hI=>by have:=h1.mem.lt _ hI;omega,?_⟩
   ·have:w1.heap[w.heap.size]? = w0.heap[w.heap.size]? :=Below.heap_alloc w0 _ _ (by omega)
    rw [this];exact World.alloc_heap_new w _
   ·rintro ⟨q,bl,cc,g1,g2⟩
    simp only [Sig.get] at g1
    by_cases hq:st.nx=q
    ·subst hq
     rw [hβ1] at g2;injection g2 with g2;injection g2 with g2;injection g2 with g2 _;omega
    ·rw [if_neg hq] at g1
     rw [show β1 q=β q from upd_other (fun e=>hq e.symm)] at g2
     have:=((h1.mem.own q bl g1).not_imm g2).2
     omega
  ·exact d3 D hD
 have key:RngW G st Q st2→LeavesInM (Fr none) 0 P fn aK.tmps (rangePost (Fr none) 0 P (w.heap.size+1) (fun e a' w'=> ∃st',Q e st'∧Rel C G st' a' w') { a with defers:=[{ target:= .collected w.heap.size,args :=#[] }]++a.defers }) aK.defers .returning w2:=by
  rintro ⟨st3,hle,y,j,e,g1,g2⟩
  refine leavesM (C:=C') rfl (G:=G) (st:=st3) (fun w3 hr3 =>?_) aK.defers w2 (hle C' aK w2 rfl hr2)
  refine ⟨.tuple #[],by simp [results_eq,hrs],?_⟩
  obtain ⟨I3,β3,k1,k2,k3,k4,k5,k6⟩:=hr3
  obtain ⟨b,cap,r3,p1,p2,p3,p4,p5⟩:=k1.mem.own _ _ g1
  have hbl:b=w.heap.size+1∧cap=0:=by
   have:=k1.bet st.nx _ hβ1
   rw [p1] at this;injection this with this;injection this with this;injection this with q1 q2
   exact ⟨q1.trans hsz,q2⟩
  obtain ⟨rfl,rfl⟩:=hbl
  have hnb:r3.state ≠ .busy:=by rw [p4.state];split<;>simp
  refine ⟨r3.pending,_,run_endLoop p2 hnb,?_⟩
  have hst:=s01.trans k1
  have back:Rel C G ⟨st.env,st3.sg.del st.nx,st3.nx⟩ { a with defers:=[{ target:= .collected w.heap.size,args :=#[] }]++a.defers } (w3.putObj (w.heap.size+1) (.loop { r3 with state:= .exhausted })):=by
   have hIk : ∀q,I3 q→(w3.putObj (w.heap.size+1) (.loop { r3 with state:= .exhausted })).heap[q]? = w3.heap[q]? :=fun q hq=>World.putObj_heap_other (fun e=>p3 (e▸hq))
   have hno : ∀q,owned (st3.sg.del st.nx) β3 q→q≠w.heap.size+1∧owned st3.sg β3 q:=by
    rintro q ⟨id',bl,cc,x1,x2⟩
    rw [Sig.get_del] at x1
    split at x1
    ·cases x1
    ·rename_i hne
     refine ⟨?_,id',bl,cc,x1,x2⟩
     rintro rfl
     exact hne (k1.mem.inj id' st.nx _ _ _ cc 0 x1 g1 x2 p1)
   have hOk : ∀q,owned (st3.sg.del st.nx) β3 q→(w3.putObj (w.heap.size+1) (.loop { r3 with state:= .exhausted })).heap[q]? = w3.heap[q]? :=fun q hq=>World.putObj_heap_other (hno q hq).1
   have hall:=h1.bump (show st.nx≤st.nx+1 by omega) |>.trans hst
   have hdd:=hD.step k1
   refine ⟨I3,β3,⟨⟨fun id' bl hb' =>?_,fun i j' b' b'' q cc cc' x1 x2 x3 x4 =>?_,k1.mem.free,fun q hq =>?_⟩,hall.os,hall.tape,hall.output,?_,fun q hq hnq =>?_,hall.imm,hall.immn,hall.bet,hall.nx,fun q hq=>hall.own' q (hno q hq).2⟩,k2,fun t =>?_,h4,?_,fun q x hx=>(k6 q x hx).keep hIk (fun _ h=>h)⟩
   ·have hx:st3.sg.get id'=some bl:=by
     have hb'':(st3.sg.del st.nx).get id'=some bl:=hb'
     rw [Sig.get_del] at hb''
     split at hb''
     ·cases hb''
     ·exact hb''
    have ho:=k1.mem.own id' bl hx
    refine ho.keep (fun q hq =>?_) (fun _ h=>h) (fun q cc hc=>(ho.not_imm hc).1) (fun _ _ h=>h)
    rcases hq with hq|⟨cc,hc⟩
    ·exact hIk q hq
    ·exact hOk q ⟨id',bl,cc,hb',hc⟩
   ·have y1:(st3.sg.del st.nx).get i=some b':=x1
    have y2:(st3.sg.del st.nx).get j'=some b'':=x2
    rw [Sig.get_del] at y1 y2
    split at y1
    ·cases y1
    ·split at y2
     ·cases y2
     ·exact k1.mem.inj i j' b' b'' q cc cc' y1 y2 x3 x4
   ·rw [World.putObj_size];exact k1.mem.lt q hq
   ·rw [World.putObj_size];exact hall.size
   ·rw [World.putObj_heap_other (by have:=h1.size;omega)];exact hall.block q hq hnq
   ·exact (k1.den s1.mem (s01.den hm1 (h3 t))).keep hIk (fun _ h=>h) (fun _ _ h=>h)
   ·obtain ⟨⟨Ds,d1,d2,d3⟩,d4⟩:=hdd
    have ne : ∀q (o:Obj),w3.heap[q]? = some o→(∀l,o ≠ .loop l)→q≠w.heap.size+1:=by
     rintro q o hq ho rfl
     rw [p2] at hq;injection hq with hq;exact ho _ hq.symm
    refine ⟨⟨Ds,d1,d2,fun D hD =>?_⟩,fun p hp =>?_⟩
    ·obtain ⟨z1,z2,z3,z4⟩:=d3 D hD
     refine ⟨z1,?_,z3,fun hh=>z4 (hno D hh).2⟩
     rw [World.putObj_heap_other (ne D _ z2 (fun l e=>by cases e))];exact z2
    ·obtain ⟨z1,z2,z3⟩:=d4 p hp
     refine ⟨?_,z2,fun hh=>z3 (hno _ hh).2⟩
     rw [World.putObj_heap_other]
     ·exact z1
     ·intro e5
      exact z3 ⟨st.nx,_,0,g1,by rw [e5];exact p1⟩
  generalize w3.putObj (w.heap.size+1) (.loop { r3 with state:= .exhausted })=w4 at back ⊢
  rw [p4.pending]
  match j,g2 with
  | none,g2=>exact ⟨_,g2,back⟩
  | some .ret,g2=>exact wpIn_ret ⟨_,g2,back⟩
  | some (.exit q),g2=>exact wpIn_exit ⟨_,g2,back⟩
 cases ex with
 | normal=>exact key hq
 | ret=>exact key hq
 | _=>exact hq.elim
theorem callee_fn {w:World} {I:Nat→Prop} {β:Bet} {k:Nat} {caps:List V} {x:Value} (h:Den w I β (.fn k caps) x) : ∃cv:List Value,x = .func (.func k) #[] cv.toArray∧DenL w I β caps cv:=by
 obtain ⟨k',caps',⟨rfl,rfl⟩,e2⟩:=callee_den (w:=w) (I:=I) (β:=β) (x:=x) (v:= .fn k caps) (K:=fun a b=>a=k∧b=caps) ⟨rfl,rfl⟩
 exact e2 h
theorem callee_d {w:World} {I:Nat→Prop} {β:Bet} {k:Nat} {caps:List D} {x:Value} (h:Den w I β (.d (.fn k caps)) x) : ∃cv:List Value,x = .func (.func k) #[] cv.toArray∧DenL w I β (caps.map .d) cv:=by
 obtain ⟨k',caps',⟨rfl,rfl⟩,e2⟩:=callee_den (w:=w) (I:=I) (β:=β) (x:=x) (v:= .d (.fn k caps)) (K:=fun a b=>a=k∧b=caps.map .d) ⟨rfl,rfl⟩
 exact e2 h
end
end Go.Proofs.YtkhonlnajdfhfaaGreatDoor
set_option linter.unusedVariables false
namespace Go.Proofs.YtkhonlnajdfhfaaGreatDoor
def Pt {α:Type} (W:(α→Prop)→Prop):Prop:= ∀K,W K → ∃x,K x ∧ ∀K':α→Prop,K' x→W K'
def Pt2 {α β:Type} (W:(α→β→Prop)→Prop):Prop:= ∀K,W K → ∃x y,K x y ∧ ∀K':α→β→Prop,K' x y→W K'
section
variable {α β γ δ:Type}
theorem Pt.at (x:α):Pt fun K:α→Prop=>K x:=fun _ h=>⟨x,h,fun _ h=>h⟩
theorem Pt2.at (x:α) (y:β):Pt2 fun K:α→β→Prop=>K x y:=fun _ h=>⟨x,y,h,fun _ h=>h⟩
theorem Pt.no:Pt fun _:α→Prop=>False:=fun _ h=>h.elim
theorem Pt2.no:Pt2 fun _:α→β→Prop=>False:=fun _ h=>h.elim
theorem Pt.bind {W:(α→Prop)→Prop} (h:Pt W) {V:α→(β→Prop)→Prop} (k : ∀x,Pt (V x)):Pt fun K=>W fun x=>V x K:=fun K hW=>by
 obtain ⟨x,hx,h1⟩:=h _ hW
 obtain ⟨y,hy,h2⟩:=k x _ hx
 exact ⟨y,hy,fun K' hK=>h1 _ (h2 _ hK)⟩
theorem Pt.bind2 {W:(α→Prop)→Prop} (h:Pt W) {V:α→(β→γ→Prop)→Prop} (k : ∀x,Pt2 (V x)):Pt2 fun K=>W fun x=>V x K:=fun K hW=>by
 obtain ⟨x,hx,h1⟩:=h _ hW
 obtain ⟨y,z,hy,h2⟩:=k x _ hx
 exact ⟨y,z,hy,fun K' hK=>h1 _ (h2 _ hK)⟩
theorem Pt2.bind {W:(α→β→Prop)→Prop} (h:Pt2 W) {V:α→β→(γ→δ→Prop)→Prop} (k : ∀x y,Pt2 (V x y)):Pt2 fun K=>W fun x y=>V x y K:=fun K hW=>by
 obtain ⟨x,y,hx,h1⟩:=h _ hW
 obtain ⟨z,t,hz,h2⟩:=k x y _ hx
 exact ⟨z,t,hz,fun K' hK=>h1 _ (h2 _ hK)⟩
theorem Pt.and {W:(α→Prop)→Prop} (p:Prop) (h:Pt W):Pt fun K=>p∧W K:=fun K ⟨hp,hW⟩=>by
 obtain ⟨x,hx,h1⟩:=h _ hW
 exact ⟨x,hx,fun K' hK=>⟨hp,h1 _ hK⟩⟩
theorem Pt2.and {W:(α→β→Prop)→Prop} (p:Prop) (h:Pt2 W):Pt2 fun K=>p∧W K:=fun K ⟨hp,hW⟩=>by
 obtain ⟨x,y,hx,h1⟩:=h _ hW
 exact ⟨x,y,hx,fun K' hK=>⟨hp,h1 _ hK⟩⟩
theorem Pt2.or {W V:(α→β→Prop)→Prop} (h:Pt2 W) (k:Pt2 V):Pt2 fun K=>W K∨V K:=fun K hW=>by
 rcases hW with hW|hW
 ·obtain ⟨x,y,hx,h1⟩:=h _ hW
  exact ⟨x,y,hx,fun K' hK=> .inl (h1 _ hK)⟩
 ·obtain ⟨x,y,hx,h1⟩:=k _ hW
  exact ⟨x,y,hx,fun K' hK=> .inr (h1 _ hK)⟩
theorem Pt.br (b:Bool) {W V:(α→Prop)→Prop} (h:Pt W) (k:Pt V):Pt fun K=>brW b (W K) (V K):=fun K hW=>by
 cases b with
 | true=>obtain ⟨x,hx,h1⟩:=h _ (hW.1 rfl);exact ⟨x,hx,fun K' hK=>⟨fun _=>h1 _ hK,fun h=>(by cases h)⟩⟩
 | false=>obtain ⟨x,hx,h1⟩:=k _ (hW.2 rfl);exact ⟨x,hx,fun K' hK=>⟨fun h=>(by cases h),fun _=>h1 _ hK⟩⟩
theorem Pt2.br (b:Bool) {W V:(α→β→Prop)→Prop} (h:Pt2 W) (k:Pt2 V):Pt2 fun K=>brW b (W K) (V K):=fun K hW=>by
 cases b with
 | true=>obtain ⟨x,y,hx,h1⟩:=h _ (hW.1 rfl);exact ⟨x,y,hx,fun K' hK=>⟨fun _=>h1 _ hK,fun h=>(by cases h)⟩⟩
 | false=>obtain ⟨x,y,hx,h1⟩:=k _ (hW.2 rfl);exact ⟨x,y,hx,fun K' hK=>⟨fun h=>(by cases h),fun _=>h1 _ hK⟩⟩
theorem Pt.opt (o:Option α):Pt fun K:α→Prop=>optW o K:=by
 cases o with
 | none=>exact Pt.no
 | some x=>exact Pt.at x
theorem Pt.elem (k:Nat) (es:List D) (i j:Nat) (x:Nat × Bool):Pt fun K=>elemW k es i j x K:=fun K h=>by
 obtain ⟨e,y,h1,h2,h3⟩:=elemW_sound h
 exact ⟨_,h3,fun K' hK=>⟨h.1,fun e' he=>by rw [h1] at he;cases he;rw [h2];exact hK⟩⟩
theorem Pt.cell (b:Blk):Pt fun K:List V→Prop=>cellW b K:=by
 cases b<;>first|exact Pt.at _|exact Pt.no
theorem Pt.load (P:Program) (t:Nat) (a:V) (σ:Sig):Pt fun K=>loadV P t a σ K:=by
 refine (Pt.opt (ldT P t)).bind fun x =>?_
 split
 ·exact Pt.elem _ _ _ _ _
 ·exact (Pt.opt _).bind fun b=>(Pt.cell b).bind fun cs=>Pt.opt _
 ·refine (Pt.opt _).bind fun b =>?_
  cases b with
  | row k es ty=>exact Pt.and _ (Pt.elem _ _ _ _ _)
  | _=>exact Pt.no
 ·exact Pt.no
theorem Pt.pick (c a b:V):Pt fun K=>pickW c a b K:=by
 unfold pickW
 split
 ·exact Pt.br _ (Pt.at _) (Pt.at _)
 ·exact Pt.no
theorem Pt2.next (x:V) (σ:Sig):Pt2 fun K=>nextW x σ K:=by
 unfold nextW
 split
 ·refine (Pt.opt _).bind2 fun b =>?_
  cases b with
  | iter s pos=>exact Pt2.br _ (Pt2.at _ _) (Pt2.at _ _)
  | _=>exact Pt2.no
 ·exact Pt2.no
theorem Pt2.call (P:Program) (G:Gl) (f:Nat) (args:List V) (σ:Sig) (id:Nat):Pt2 fun K=>CallW P G f args σ id K:=fun K ⟨v,σ',h,k⟩=>⟨v,σ',h,fun K' hK=>⟨v,σ',hK,k⟩⟩
theorem Pt2.dcall (P:Program) (G:Gl) (f:Nat) (args:List V) (σ:Sig) (id:Nat):Pt2 fun K=>DCallW P G f args σ id K:=fun K ⟨v,σ',h,k⟩=>⟨v,σ',h,fun K' hK=>⟨v,σ',hK,k⟩⟩
theorem Pt2.yield (P:Program) (G:Gl) (f:Nat) (args:List V) (σ:Sig) (id:Nat):Pt2 fun K=>YieldW P G f args σ id K:=fun K ⟨v,σ',h,k⟩=>⟨v,σ',h,fun K' hK=>⟨v,σ',hK,k⟩⟩
theorem Pt2.res (op:Op) (r:PVS):Pt2 fun K=>resQ op r K:=by
 cases r with
 | none=>exact Pt2.no
 | some x=>exact Pt2.and _ (Pt2.at _ _)
theorem Pt2.callee (v:V) {K:Nat→List V→(α→β→Prop)→Prop} {Y:Nat→(α→β→Prop)→Prop} {B:Nat→List V→(α→β→Prop)→Prop} (h : ∀k l,Pt2 (K k l)) (hy : ∀i,Pt2 (Y i)) (hb : ∀k l,Pt2 (B k l)) :
 Pt2 fun X=>calleeW v (fun k l=>K k l X) (fun i=>Y i X) fun k l=>B k l X:=by
 unfold calleeW
 split
 ·exact h _ _
 ·exact h _ _
 ·exact hy _
 ·exact hb _ _
 ·exact Pt2.no
variable {P:Program} {G:Gl}
theorem Pt2.bs (r r2:PVS) (σ:Sig):Pt2 fun K=>bsW r r2 σ K:=by
 unfold bsW
 split
 ·exact Pt2.and _ (Pt2.at _ _)
 ·split
  ·exact Pt2.and _ (Pt2.at _ _)
  ·exact Pt2.no
theorem Pt2.step (op:Op) (g:Operand→V) (σ:Sig) (id:Nat):Pt2 fun K=>stepW P G op g σ id K:=by
 unfold stepW
 split
 ·exact (Pt.pick _ _ _).bind2 fun v=>Pt2.at v σ
 ·exact (Pt.load _ _ _ _).bind2 fun v=>Pt2.at v σ
 ·split
  ·exact Pt2.next _ _
  ·exact Pt2.no
 ·split
  ·exact Pt2.callee _ (fun _ _=>Pt2.call _ _ _ _ _ _) (fun _=>Pt2.yield _ _ _ _ _ _) fun _ _=>Pt2.call _ _ _ _ _ _
  ·exact Pt2.res _ _
  ·exact Pt2.no
 ·exact Pt2.bs _ _ _
 ·exact Pt2.res _ _
theorem Pt2.quiet (op:Op) (g:Operand→V) (σ:Sig) (id:Nat):Pt2 fun K=>quietW P G op g σ id K:=by
 unfold quietW
 split
 ·exact (Pt.pick _ _ _).bind2 fun v=>Pt2.at v []
 ·exact (Pt.load _ _ _ _).bind2 fun v=>Pt2.at v []
 ·split
  ·exact Pt2.callee _ (fun _ _=>Pt2.dcall _ _ _ _ _ _) (fun _=>Pt2.no) fun _ _=>Pt2.dcall _ _ _ _ _ _
  ·exact Pt2.res _ _
  ·exact Pt2.no
 ·exact Pt2.res _ _
theorem Pt2.guard (ops:Array Oper) (o:Oper) (e:Env) {Y N:Env→(α→β→Prop)→Prop} (h : ∀e,Pt2 (Y e)) (k : ∀e,Pt2 (N e)):Pt2 fun K=>guardW ops o e (fun e=>Y e K) fun e=>N e K:=by
 unfold guardW
 split
 ·exact h _
 ·refine (Pt.opt _).bind2 fun d =>?_
  unfold grdW
  split
  ·refine Pt2.br _ ?_ ?_<;>split<;>first|exact h _|exact k _
  ·exact k _
  ·exact Pt2.no
theorem Pt2.ops (ops:Array Oper) (base:Nat) : ∀(l:List Oper) (i:Nat) (e:Env) (σ:Sig),Pt2 fun K=>opsW P G ops base i l e σ K
 | [],_,e,σ=>Pt2.at e σ
 | o::r,i,e,σ=>Pt2.guard _ _ _ (fun e=>(Pt2.step _ _ _ _).bind fun v σ'=>Pt2.ops ops base r _ _ _) fun e=>Pt2.ops ops base r _ _ _
theorem Pt2.sb (σk σ:Sig) {W:(α→β→Prop)→Prop} (h:Pt2 W):Pt2 fun K=>sbW σk σ (W K):=by
 cases σk with
 | nil=>exact h
 | cons x r=>exact Pt2.and _ h
theorem Pt2.opsL (lo:List Nat) (σk:Sig) (ops:Array Oper) (base:Nat) : ∀(l:List Oper) (i:Nat) (e:Env) (σ acc:Sig),Pt2 fun K=>opsL P G lo σk ops base i l e σ acc K
 | [],_,e,σ,acc=>Pt2.at e (σ++acc)
 | o::r,i,e,σ,acc=>Pt2.guard _ _ _ (fun e=>by
  split
  ·exact (Pt2.step _ _ _ _).bind fun v σ'=>Pt2.sb _ _ (Pt2.opsL lo σk ops base r _ _ _ _)
  ·split
   ·unfold vcallD
    split
    ·split
     ·exact Pt2.callee _ (fun _ _=>Pt2.or ((Pt2.dcall _ _ _ _ _ _).bind fun v new=>Pt2.opsL lo σk ops base r _ _ _ _) (Pt2.and _ ((Pt2.call _ _ _ _ _ _).bind fun v σ'=>Pt2.sb _ _ (Pt2.opsL lo σk ops base r _ _ _ _))))
       (fun _=>Pt2.and _ ((Pt2.yield _ _ _ _ _ _).bind fun v σ'=>Pt2.sb _ _ (Pt2.opsL lo σk ops base r _ _ _ _)))
       fun _ _=>Pt2.or ((Pt2.dcall _ _ _ _ _ _).bind fun v new=>Pt2.opsL lo σk ops base r _ _ _ _) (Pt2.and _ ((Pt2.call _ _ _ _ _ _).bind fun v σ'=>Pt2.sb _ _ (Pt2.opsL lo σk ops base r _ _ _ _)))
     ·exact Pt2.no
    ·exact Pt2.no
   ·split
    ·exact (Pt2.quiet _ _ _ _).bind fun v new=>Pt2.and _ (Pt2.opsL lo σk ops base r _ _ _ _)
    ·exact (Pt2.quiet _ _ _ _).bind fun v new=>Pt2.opsL lo σk ops base r _ _ _ _) fun e=>Pt2.opsL lo σk ops base r _ _ _ _
theorem Pt.reg (lv:List Nat) (ops:Array Oper) (draw:Bool) (st:St):Pt fun K=>regW P G lv ops draw K st:=by
 intro K h
 cases draw with
 | true=>
  simp only [regW,if_true] at h
  obtain ⟨lo,σk,h1,h2,h3,h4⟩:=h
  obtain ⟨e,σ,hK,hall⟩:=Pt2.opsL lo σk ops st.nx ops.toList 0 st.env st.sg [] (fun e σ=>K ⟨Env.keep lv e,σ,st.nx+4*ops.size⟩) h4
  exact ⟨_,hK,fun K' hK'=>by simp only [regW,if_true];exact ⟨lo,σk,h1,h2,h3,hall (fun e σ=>K' ⟨Env.keep lv e,σ,st.nx+4*ops.size⟩) hK'⟩⟩
 | false=>
  simp only [regW,Bool.false_eq_true,if_false] at h
  obtain ⟨e,σ,hK,hall⟩:=Pt2.ops ops st.nx ops.toList 0 st.env st.sg (fun e σ=>K ⟨Env.keep lv e,σ,st.nx+4*ops.size⟩) h
  exact ⟨_,hK,fun K' hK'=>by simp only [regW,Bool.false_eq_true,if_false];exact hall (fun e σ=>K' ⟨Env.keep lv e,σ,st.nx+4*ops.size⟩) hK'⟩
theorem Pt.gh (G:Gl) (m:Nat) {W:St→(α→Prop)→Prop} (h : ∀st,Pt (W st)) (st:St):Pt fun K=>GhW G m (fun st=>W st K) st:=fun K ⟨s,h1,h2⟩=>by
 obtain ⟨x,hx,hall⟩:=h s K h2
 exact ⟨x,hx,fun K' hK=>⟨s,h1,hall K' hK⟩⟩
end
def LoopE (G:Gl) (m:Nat) (B:List Nat→St→(Exit→St→Prop)→Prop) (st:St) (Q:Exit→St→Prop) (_u:Tag B:= .mk) (_v:Tag Q:= .mk) (_h:True:=trivial):Prop:=
 ∃(α:Type) (S:α→St) (pre:α→Prop) (mu:α→Nat) (x0:α) (lv:List Nat),GhW G m (fun st'=>st'=S x0) st∧pre x0 ∧ ∀x,pre x→B lv (S x) (seqK (fun st=>AgW G m S pre mu x st) Q)
def codeE (P:Program) (G:Gl) (n m:Nat):Code→List Nat→St→(Exit→St→Prop)→Prop
 | .skip,_,st,Q=>Q .normal st
 | .region _ ops draw,lv,st,Q=>GhW G m (regW P G lv ops draw fun st'=>Q .normal st') st
 | .seq a b,lv,st,Q=>codeE P G n m a lv st (seqK (fun st'=>codeE P G n m b lv st' Q) Q)
 | .cond c a b,lv,st,Q=>condW (evF G st.env.get c) (codeE P G n m a lv st Q) (codeE P G n m b lv st Q)
 | .block id c,lv,st,Q=>codeE P G n m c lv st (blockK id Q)
 | .loop c,_,st,Q=>LoopE G m (fun lv st Q=>codeE P G n m c lv st Q) st Q
 | .exit id,_,st,Q=>Q (.exit id) st
 | .ret,_,st,Q=>Q .ret st
 | .label _,_,st,Q=>Q .normal st
 | .scope c,lv,st,Q=>codeE P G n m c lv st (scopeK Q)
 | _,_,_,_=>False
section
variable {P:Program} {G:Gl} {n m:Nat}
def LoopI (P:Program) (G:Gl) (n m:Nat) (c:Code) (st:St) (Q:Exit→St→Prop):Prop:= ∀fr,(fr=none∨noR c=true) → ∀(C:Ctx) a w,C.n=n→C.nx=m→Rel C G st a w →
 ∀(b:Frame) (kk:List Item) (cs:List Frame),b.roundOf=(Fr fr).round→(Fr fr).fn b.fn→(Fr fr).room (cs.length+1+0) →
   ∃e a' w',(∃st',Q e st'∧Rel C G st' a' w')∧ArrivesIn (Machine.fenced P (Fr fr)) P (lone (b.atR a (.code c :: .inLoop c::kk)) cs w) b kk cs e a' w'
theorem LoopI.loop {c:Code} {st:St} {Q:Exit→St→Prop} (h:LoopI P G n m c st Q):LoopW P G n m c st Q:=by
 intro fr hfr C a w hn hm hrel b kk cs hro hb hroom
 obtain ⟨e,a',w',hq,harr⟩:=h fr hfr C a w hn hm hrel b kk cs hro hb hroom
 exact ⟨e,a',w',hq,.of_steps (.one (fenced_calm hb hroom rfl) stepR_loop) harr⟩
theorem LoopI.via {c:Code} {st:St} {Q:Exit→St→Prop} (h:GhW G m (fun s=>LoopI P G n m c s Q) st):LoopI P G n m c st Q:=by
 obtain ⟨s,h1,h2⟩:=h
 exact fun fr hfr C a w hn hm hr=>h2 fr hfr C a w hn hm (h1 C a w hm hr)
theorem LoopI.round (ho:P.follows .mixedOrders=true) {c:Code} (hok:codeOk n c=true) {lv:List Nat} {st:St} {Q:Exit→St→Prop} (h:codeW P G n m lv c st (seqK (fun s=>LoopI P G n m c s Q) Q)):LoopI P G n m c st Q:=by
 intro fr hfr C a w hn hm hr b kk cs hro hb hroom
 obtain ⟨e,a',w',⟨st',hq,hr2⟩,harr⟩:=codeW_sound ho c st _ hok h fr hfr C a w hn hm hr b (.inLoop c::kk) cs hro hb hroom
 cases e with
 | normal=>
  obtain ⟨e2,a2,w2,hq2,harr2⟩:=hq fr hfr C a' w' hn hm hr2 b kk cs hro hb hroom
  exact ⟨e2,a2,w2,hq2,.of_steps (StepsIn.trans harr (.one (fenced_calm hb hroom rfl) stepR_inLoop)) harr2⟩
 | exit id=>exact ⟨_,a',w',⟨st',hq,hr2⟩,.pass (x:= .inLoop c) rfl (fun _ _=> .inl (by simp)) harr⟩
 | goto l=>exact ⟨_,a',w',⟨st',hq,hr2⟩,.pass (x:= .inLoop c) rfl (fun _ _=> .inl (by simp)) harr⟩
 | ret=>exact ⟨_,a',w',⟨st',hq,hr2⟩,.pass (x:= .inLoop c) rfl (fun _ _=> .inl (by simp)) harr⟩
 | panic ch=>exact ⟨_,a',w',⟨st',hq,hr2⟩,.pass (x:= .inLoop c) rfl (fun _ _=> .inl (by simp)) harr⟩
 | outgrown=>exact ⟨_,a',w',⟨st',hq,hr2⟩,.pass (x:= .inLoop c) rfl (fun _ _=> .inl (by simp)) harr⟩
theorem seqK_mono {k k':St→Prop} {Q Q':Exit→St→Prop} (hk : ∀s,k s→k' s) (hq : ∀e s,Q e s→Q' e s) : ∀e s,seqK k Q e s→seqK k' Q' e s:=by
 intro e s h
 cases e<;>first|exact hk _ h|exact hq _ _ h
theorem blockK_mono {id:Nat} {Q Q':Exit→St→Prop} (hq : ∀e s,Q e s→Q' e s) : ∀e s,blockK id Q e s→blockK id Q' e s:=by
 intro e s h
 cases e with
 | exit i=>
  simp only [blockK] at h ⊢
  split
  ·rename_i hi;rw [if_pos hi] at h;exact hq _ _ h
  ·rename_i hi;rw [if_neg hi] at h;exact hq _ _ h
 | _=>exact hq _ _ h
theorem scopeK_mono {Q Q':Exit→St→Prop} (hq : ∀e s,Q e s→Q' e s) : ∀e s,scopeK Q e s→scopeK Q' e s:=by
 intro e s h
 cases e<;>first|exact h.elim|exact hq _ _ h
theorem codeE_mono : ∀(c:Code) {lv:List Nat} {st:St} {Q Q':Exit→St→Prop},(∀e s,Q e s→Q' e s)→codeE P G n m c lv st Q→codeE P G n m c lv st Q':=by
 intro c
 induction c with
 | skip=>intro lv st Q Q' hq h;exact hq _ _ h
 | exit id=>intro lv st Q Q' hq h;exact hq _ _ h
 | ret=>intro lv st Q Q' hq h;exact hq _ _ h
 | label l=>intro lv st Q Q' hq h;exact hq _ _ h
 | region id ops draw=>
  intro lv st Q Q' hq h
  obtain ⟨x,hx,hall⟩:=Pt.gh G m (fun s=>Pt.reg (P:=P) (G:=G) lv ops draw s) st _ h
  exact hall _ (hq _ _ hx)
 | seq a b iha ihb=>intro lv st Q Q' hq h;exact iha (seqK_mono (fun s hs=>ihb hq hs) hq) h
 | cond c a b iha ihb=>
  intro lv st Q Q' hq h
  simp only [codeE,condW] at h ⊢
  unfold boolW at h ⊢
  split
  ·rename_i t hb
   rw [hb] at h
   exact ⟨fun e=>iha hq (h.1 e),fun e=>ihb hq (h.2 e)⟩
  ·rename_i hb
   split at h
   ·rename_i t hb';exact (hb t hb').elim
   ·exact h.elim
 | block id c ih=>intro lv st Q Q' hq h;exact ih (blockK_mono hq) h
 | scope c ih=>intro lv st Q Q' hq h;exact ih (scopeK_mono hq) h
 | loop c ih=>
  intro lv st Q Q' hq h
  obtain ⟨α,S,pre,mu,x0,lv',h1,h2,h3⟩:=h
  exact ⟨α,S,pre,mu,x0,lv',h1,h2,fun x hx=>ih (seqK_mono (fun _ h=>h) hq) (h3 x hx)⟩
 | _=>intro lv st Q Q' hq h;exact h.elim
theorem codeE_ex (ho:P.follows .mixedOrders=true) {ρ:Type} : ∀(c:Code) {lv:List Nat} {st:St} {Q:ρ→Exit→St→Prop},codeOk n c=true→codeE P G n m c lv st (fun e s=> ∃r,Q r e s) → ∃r,codeW P G n m lv c st (Q r):=by
 intro c
 induction c with
 | skip=>intro lv st Q _ h;exact h
 | exit id=>intro lv st Q _ h;exact h
 | ret=>intro lv st Q _ h;exact h
 | label l=>intro lv st Q _ h;exact h
 | region id ops draw=>
  intro lv st Q _ h
  obtain ⟨x,⟨r,hx⟩,hall⟩:=Pt.gh G m (fun s=>Pt.reg (P:=P) (G:=G) lv ops draw s) st (fun st'=> ∃r,Q r .normal st') h
  exact ⟨r,hall (fun st'=>Q r .normal st') hx⟩
 | seq a b iha ihb=>
  intro lv st Q hok h
  simp only [codeOk,Bool.and_eq_true] at hok
  refine iha (Q:=fun r=>seqK (fun st'=>codeW P G n m lv b st' (Q r)) (Q r)) hok.1 (codeE_mono a ?_ h)
  intro e s hs
  cases e<;>first|exact ihb hok.2 hs|exact hs
 | cond c a b iha ihb=>
  intro lv st Q hok h
  simp only [codeOk,Bool.and_eq_true] at hok
  simp only [codeE,condW] at h
  simp only [codeW,condW]
  unfold boolW at h
  split at h
  ·rename_i t hb
   rw [hb]
   cases t with
   | true=>obtain ⟨r,hr⟩:=iha hok.1 (h.1 rfl);exact ⟨r,⟨fun _=>hr,fun e=>by cases e⟩⟩
   | false=>obtain ⟨r,hr⟩:=ihb hok.2 (h.2 rfl);exact ⟨r,⟨fun e=>(by cases e),fun _=>hr⟩⟩
  ·exact h.elim
 | block id c ih=>
  intro lv st Q hok h
  refine ih (Q:=fun r=>blockK id (Q r)) hok (codeE_mono c ?_ h)
  intro e s hs
  cases e with
  | exit i=>
   simp only [blockK] at hs ⊢
   split
   ·rename_i hi;rw [if_pos hi] at hs;exact hs
   ·rename_i hi;rw [if_neg hi] at hs;exact hs
  | _=>exact hs
 | scope c ih=>
  intro lv st Q hok h
  refine ih (Q:=fun r=>scopeK (Q r)) hok (codeE_mono c ?_ h)
  intro e s hs
  cases e<;>first|exact hs.elim|exact hs
 | loop c ih=>
  intro lv st Q hok h
  have hok:codeOk n c=true:=hok
  obtain ⟨α,S,pre,mu,x0,lv',h1,h2,h3⟩:=h
  have key : ∀k x,mu x=k→pre x → ∃r,LoopI P G n m c (S x) (Q r):=by
   intro k
   induction k using Nat.strongRecOn with
   | _ k ihk=>
    intro x hk hx
    obtain ⟨r,hr⟩:=ih (Q:=fun r=>seqK (fun s=>LoopI P G n m c s (Q r)) (Q r)) hok (codeE_mono c (fun e s hs=>by
     cases e with
     | normal=>
      obtain ⟨s',hle,j,hlt,y,hy,rfl,hpy⟩:=hs
      obtain ⟨r,hr⟩:=ihk j (by omega) y hy hpy
      exact ⟨r,LoopI.via ⟨_,hle,hr⟩⟩
     | _=>exact hs) (h3 x hx))
    exact ⟨r,LoopI.round ho hok hr⟩
  obtain ⟨r,hr⟩:=key _ x0 rfl h2
  obtain ⟨s,hle,rfl⟩:=h1
  exact ⟨r,LoopI.loop (LoopI.via ⟨_,hle,hr⟩)⟩
 | _=>intro lv st Q _ h;exact h.elim
def DoneE (P:Program) (G:Gl) (m:Nat) (rs:List ResultVar) {ρ:Type} (R:ρ→Prop) (r:ρ→V) (σ':ρ→Sig) (st:St) (_u:Tag R:= .mk) (_v:Tag r:= .mk) (_w:Tag σ':= .mk) (_h:True:=trivial):Prop:= ∃x,R x∧DoneW P G m rs (r x) (σ' x) st
theorem DoneE.is {rs:List ResultVar} {ρ:Type} {R:ρ→Prop} {r:ρ→V} {σ':ρ→Sig} {st:St} (x:ρ) (hx:R x) (h:DoneW P G m rs (r x) (σ' x) st):DoneE P G m rs R r σ' st:=⟨x,hx,h⟩
theorem OFn.ex (ho:P.follows .mixedOrders=true) {f:Nat} {fn:Func} {c:Code} {rs:List ResultVar} (lv:List Nat) (hf:P.funcs[f]? = some fn) (hb:fn.body=some c) (hrs:fn.results=rs.toArray) (hn:fn.ntmps=n)
 {args:List V} {σ:Sig} {ρ:Type} {R:ρ→Prop} {r:ρ→V} {σ':ρ→Sig} (h:codeE P G n m c lv ⟨argE 0 args,σ,m⟩ (retK (DoneE P G m rs R r σ'))) (hok:codeOk n c=true) (hlen:args.length≤n) : ∃x,R x∧OFn P G f args σ m (r x) (σ' x):=by
 obtain ⟨⟨x,hx⟩,hr⟩:=codeE_ex ho (ρ :={ x // R x }) (Q:=fun x=>retK (DoneW P G m rs (r x.1) (σ' x.1))) c hok (codeE_mono c (fun e s hs=>by
  cases e<;>first|exact hs.elim|exact (match hs with|⟨x,h1,h2⟩=>⟨⟨x,h1⟩,h2⟩)) h)
 exact ⟨x,hx,OFn.of_code ho lv hf hb hrs hn hok hlen hr⟩
def headOk:Code→Bool
 | .region _ _ _=>true
 | .seq a _=>headOk a
 | .block _ c=>headOk c
 | .loop _=>true
 | .scope c=>headOk c
 | _=>false
theorem codeE_via {st st':St} (hle:StLe G m st st') : ∀(c:Code) {lv:List Nat} {Q:Exit→St→Prop},headOk c=true→codeE P G n m c lv st' Q→codeE P G n m c lv st Q:=by
 intro c
 induction c with
 | region id ops draw=>intro lv Q _ h;exact GhW.via hle h
 | seq a b iha _=>intro lv Q hc h;exact iha hc h
 | block id c ih=>intro lv Q hc h;exact ih hc h
 | scope c ih=>intro lv Q hc h;exact ih hc h
 | loop c _=>
  intro lv Q _ h
  obtain ⟨α,S,pre,mu,x0,lv',h1,h2,h3⟩:=h
  exact ⟨α,S,pre,mu,x0,lv',GhW.via hle h1,h2,h3⟩
 | _=>intro lv Q hc h;cases hc
def ExW (G:Gl) (m:Nat) {β:Type} (T:β→St) (post:β→Prop) (st:St) (_u:Tag T:= .mk) (_v:Tag post:= .mk) (_h:True:=trivial):Prop:=GhW G m (fun st'=> ∃y,st'=T y∧post y) st
theorem ExW.go {β:Type} {T:β→St} {post:β→Prop} {st:St} (y:β) (ks:List Nat) (he:st.norm m ks=T y) (hp:post y):ExW G m T post st:=GhW.go ks he ⟨y,rfl,hp⟩
theorem ExW.frz {β:Type} {T:β→St} {post:β→Prop} {st:St} (id:Nat) (h:ExW G m T post (st.frz id)):ExW G m T post st:=GhW.frz id h
theorem ExW.use {β:Type} {T:β→St} {post:β→Prop} {st:St} {c:Code} {lv:List Nat} {Q:Exit→St→Prop} (hc:headOk c=true) (h:ExW G m T post st) (hq : ∀y,post y→codeE P G n m c lv (T y) Q):codeE P G n m c lv st Q:=by
 obtain ⟨st',hle,y,rfl,hy⟩:=h
 exact codeE_via hle c hc (hq y hy)
theorem vLX {c rest:Code} {st:St} {Q Q':Exit→St→Prop} {α β:Type} {lv':List Nat} (lv:List Nat) (ex:Nat) (S:α→St) (pre:α→Prop) (mu:α→Nat) (x0:α) (T:β→St) (post:β→Prop) (h0:GhW G m (fun st'=>st'=S x0) st) (hp:pre x0)
 (hr : ∀x,pre x→codeE P G n m c lv (S x) (seqK (fun st=>AgW G m S pre mu x st) (blockK ex (seqK (fun st=>ExW G m T post st) Q)))) (hq : ∀y,post y→codeE P G n m rest lv' (T y) Q')
 (hQ : ∀st,codeE P G n m rest lv' st Q'→Q (.exit ex) st) (hd:headOk rest=true):LoopE G m (fun lv st Q=>codeE P G n m c lv st Q) st Q:=by
 refine ⟨α,S,pre,mu,x0,lv,h0,hp,fun x hx=>codeE_mono c ?_ (hr x hx)⟩
 intro e s h
 cases e with
 | normal=>exact h
 | exit i=>
  have h2:blockK ex (seqK (fun st=>ExW G m T post st) Q) (.exit i) s:=h
  show Q (.exit i) s
  clear h
  simp only [blockK] at h2
  split at h2
  ·rename_i hi;subst hi;exact hQ s (ExW.use hd h2 hq)
  ·exact h2
 | _=>exact h
def HoldW (K:St→Prop) (st:St) (_u:Tag K:= .mk) (_h:True:=trivial):Prop:=K st
theorem vH {K:St→Prop} {st:St} (h:K st):HoldW K st:=h
theorem vSh {a b:Code} {lv:List Nat} {st:St} {Q:Exit→St→Prop} (h:codeE P G n m a lv st (seqK (fun st'=>HoldW (fun st'=>codeE P G n m b lv st' Q) st') Q)):codeE P G n m (.seq a b) lv st Q:=h
theorem vBl {id:Nat} {c:Code} {lv:List Nat} {st:St} {Q:Exit→St→Prop} (h:codeE P G n m c lv st (blockK id Q)):codeE P G n m (.block id c) lv st Q:=h
theorem vSq {a b:Code} {lv:List Nat} {st:St} {Q:Exit→St→Prop} {β:Type} (T:β→St) (post:β→Prop) (h:codeE P G n m a lv st (seqK (fun st=>ExW G m T post st) Q)) (hq : ∀y,post y→codeE P G n m b lv (T y) Q) (hd:headOk b=true:=by rfl):codeE P G n m (.seq a b) lv st Q:=
 codeE_mono a (seqK_mono (fun _ h=>ExW.use hd h hq) fun _ _ h=>h) h
end
end Go.Proofs.YtkhonlnajdfhfaaGreatDoor
