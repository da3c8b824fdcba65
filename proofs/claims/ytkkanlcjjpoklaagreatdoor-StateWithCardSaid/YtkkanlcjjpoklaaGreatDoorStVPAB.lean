/- What the theorem leans on, part 2. -/
import Derived.Laws.Externs
import Derived.RangeFuncLeaves
import Derived.RangeFuncRecord
import Derived.OrdersIn
import Derived.Orders
import Derived.Scope
import Derived.IntWalk
import Derived.ChangeKeysEq
import Derived.Test.YtkkanlcjjpoklaaGreatDoorStVPAA
set_option linter.unusedSimpArgs false
namespace Go.Proofs.YtkkanlcjjpoklaaGreatDoor
def AX (s:ByteArray) (c:UInt8):Nat:=s.data.toList.countP (· == c)
theorem HY (s:ByteArray) (c:UInt8):s.foldl (fun n x=>if (x==c)=true then n+1 else n) (0:Int)=(AX s c:Int):=by
 unfold ByteArray.foldl ByteArray.foldlM;simp only [aaV,dite_true];have key : ∀(i j:Nat) (b:Int),i+j=s.size→_root_.Id.run (ByteArray.foldlM.loop (m:=_root_.Id) (fun (n:Int) x=>pure (if (x==c)=true then n+1 else n)) s s.size (aaV _) i j b)=b+((s.data.toList.drop j).countP (· == c):Nat):=by
  intro i;induction i with
  | zero=>
   intro j b h;unfold ByteArray.foldlM.loop;have:s.data.toList.drop j=[]:=List.drop_eq_nil_of_le (by have:s.data.size=s.size:=rfl;simp;omega);rw [this];simp
  | succ i ih=>
   intro j b h;unfold ByteArray.foldlM.loop;have hlt:j<s.size:=by omega
   rw [acB hlt];simp only [pure_bind];have e:s.data.toList.drop j=s[j]::s.data.toList.drop (j+1):=by
    rw [abI (by have:s.data.size=s.size:=rfl;simp;omega)];rfl
   have h2:=ih (j+1) (if (s[j]==c)=true then b+1 else b) (by omega);refine h2.trans ?_;rw [e,ady];split<;>simp_all<;>omega
 have:=key s.size 0 0 (by omega);simpa [AX] using this
theorem o8 {P:Program} (s:ByteArray) (c:Int) (w:World) :
 (Extern.BytealgCount.count #[.string s,.int .u8 c]).run P w = .ok (.int .i64 (AX s c.toNat.toUInt8)) w:=by
 rw [←HY];change Sem.run P (do
  let b ←Extern.Bytes.bytesOf (.string s)
  let c ←Extern.Bytes.asByte (.int .u8 c)
  pure (goInt (b.foldl (fun n x=>if x==c then n+1 else n) (0:Nat)))) w=_
 simp only [Extern.Bytes.bytesOf,Extern.Bytes.asByte,Sem.run_bind,Sem.run_pure,Result.andThen,goInt];rfl
abbrev Gl:=Nat→Option D
def eO (G:Gl) (F:Nat→V):Operand→V
 | .tmp t=>F t
 | .const v=> .d (.lit v)
 | .global g=>match G g with
  | some x=> .d x
  | none=> .unk
 | .func f=> .d (.fn f [])
def GY (G:Gl) (w:World) (I:Nat→Prop):Prop:= ∀g x,G g=some x→ax w I x (.pointer (some ⟨g,0,none⟩))
def cU (w:World) (I:Nat→Prop) (β:co) (args:List V) (vals:List Value):Prop:=args.length=vals.length ∧ ∀(i:Nat) c x,args[i]? = some c→vals[i]? = some x→aL w I β c x
def uS (P:Program) (G:Gl) (f:Nat) (args:List V) (σ:ak) (id:Nat) (v:V) (σ':ak):Prop:=
 ∀w I β nx vals,de w I β σ nx→GY G w I→(∀j,id≤j→j<id+4→β j=none)→id+4≤nx→cU w I β args vals →
  Calls P f vals.toArray w fun e w'=> ∃u I' β',e = .returned u∧aL w' I' β' v u∧ay w I β σ nx w' I' β' σ' nx ∧ ∀j,¬(id≤j∧j<id+4)→β' j=β j
def cK (P:Program) (f:Nat):Bool:=match P.funcs[f]? with
 | some fn=>fn.body.isSome && !(fn.name == "runtime.NumGoroutine")
 | none=>false
def ar (σ0 σ:ak):Prop:= ∀i b,σ0.get i=some b→σ.get i=some b
def TU (fn:Func) (args:List V):Option V:=
 if fn.name = "internal/abi.NoEscape" then (match args with
  | [x]=>some x
  | _=>none)
 else if fn.name = "internal/bytealg.IndexByteString" then (match args with
  | [.d (.lit (.string s)),.d (.lit (.int .u8 c))]=>some (.d (.lit (.int .i64 (firstIdx s c.toNat.toUInt8))))
  | _=>none)
 else if fn.name = "internal/bytealg.CountString" then (match args with
  | [.d (.lit (.string s)),.d (.lit (.int .u8 c))]=>some (.d (.lit (.int .i64 (AX s c.toNat.toUInt8))))
  | _=>none)
 else none
def si (P:Program) (f:Nat) (args:List V):Option V:=match P.funcs[f]? with
 | some fn=>if fn.body.isNone=true∧(Extern.findNext fn).isNone=true then TU fn args else none
 | none=>none
def au (P:Program) (G:Gl) (f:Nat) (args:List V) (σ:ak) (id:Nat) (K:V→ak→Prop) (_u:Tag K:= .mk) (_h:True:=trivial):Prop:=
 ∃v σ',K v σ'∧(cK P f=true∧uS P G f args σ id v σ'∨si P f args=some v∧σ'=σ)
def pE (id:Nat) (new:ak):Prop:= ∀j b,new.get j=some b→id≤j∧j<id+4
def dV (P:Program) (G:Gl) (f:Nat) (args:List V) (σ:ak) (id:Nat) (K:V→ak→Prop) (_u:Tag K:= .mk) (_h:True:=trivial):Prop:=
 ∃v new,K v new∧(cK P f=true∧(pE id new ∧ ∀σ',ar σ σ'→uS P G f args σ' id v (σ'++new))∨si P f args=some v∧new=[])
def mO {α:Type} (_:α):Prop:=False
def fz (op:Op) (r:j3) (K:V→ak→Prop):Prop:=match r with
 | some (p,v,s)=>pT p (K v s)
 | none=>mO op
def bC (v:V) (K:Nat→List V→Prop) (Y:Nat→Prop:=fun _=>False) (B:Nat→List V→Prop:=fun _ _=>False):Prop:=match v with
 | .d (.fn k caps)=>K k (caps.map .d)
 | .fn k caps=>K k caps
 | .yl i=>Y i
 | .d (.bf k fs)=>B k (fs.map .d)
 | _=>mO v
def pG (P:Program) (G:Gl) (i:Nat) (args:List V) (σ:ak) (id:Nat) (v:V) (σ':ak):Prop:=
 ∀w I β nx vals b cap,de w I β σ nx→GY G w I→(∀j,id≤j→j<id+4→β j=none)→id+4≤nx→cU w I β args vals→β i=some (some (b,cap)) →
  ∃r,w.heap[b]? = some (.loop r)∧vals.length=r.params.size ∧
   RoundIn Fence.wide 0 P b r.fn ((r.params.zip vals.toArray).foldl (fun tmps (t,a)=>tmps.setIfInBounds t a) r.tmps) r.assign r.body w fun e w'=> ∃u I' β',e = .returned u∧aL w' I' β' v u∧ay w I β σ nx w' I' β' σ' nx ∧ ∀j,¬(id≤j∧j<id+4)→β' j=β j
def im (P:Program) (G:Gl) (i:Nat) (args:List V) (σ:ak) (id:Nat) (K:V→ak→Prop) (_u:Tag K:= .mk) (_h:True:=trivial):Prop:=
 ∃v σ',K v σ'∧pG P G i args σ id v σ'
def jO (c a b:V) (K:V→Prop):Prop:=match c with
 | .d (.lit (.bool t))=>jT t (K a) (K b)
 | _=>mO c
def sI (b:bN) (K:ByteArray→Nat→Prop):Prop:=match b with
 | .iter s pos=>K s pos
 | _=>False
def lT (x:V) (σ:ak) (K:V→ak→Prop):Prop:=match x with
 | .it id=>cG (σ.get id) fun b=>sI b fun s pos=>
  jT (decide (pos<s.size)) (K (.tup [.d (.lit (.bool true)),.d (.lit (.int .i64 pos)),.d (.lit (.int .i32 (Utf8.decode s pos).1))]) (σ.set id (.iter s (pos+(Utf8.decode s pos).2)))) (K (.tup [.d (.lit (.bool false))]) σ)
 | _=>mO x
def bg (P:Program) (op:Op) (g:Operand→V) (σ:ak) (id:Nat):j3:=match ce P op g with
 | some (p,v)=>some (p,v,[])
 | none=>aR P op g σ id
def dl (P:Program) (op:Op) (g:Operand→V) (σ:ak) (id:Nat):j3:=match bg P op g σ id with
 | some (p,v,new)=>some (p,v,σ++new)
 | none=>eR P op g σ id
def aZ (P:Program) (G:Gl) (op:Op) (g:Operand→V) (σ:ak) (id:Nat) (K:V→ak→Prop):Prop:=
 match op with
 | .pick c a b=>jO (g c) (g a) (g b) (fun v=>K v [])
 | .load t x=>fa P t (g x) σ (fun v=>K v [])
 | .call c=>match c.callee with
  | .value f=>bC (g f) (fun k caps=>dV P G k (c.args.toList.map g++caps) σ id K) (fun _=>False) (fun k fs=>dV P G k (fs++(c.args.toList.map g++[])) σ id K)
  | .builtin _=>fz op (bg P op g σ id) K
  | .invoke _ _=>mO op
 | op=>fz op (bg P op g σ id) K
def Kf (r r2:j3) (σ:ak) (K:V→ak→Prop):Prop:=match r with
 | some (p,v,new)=>pT p (K v (σ++new))
 | none=>(match r2 with
  | some (p,v,s)=>pT p (K v s)
  | none=>False)
def aT (P:Program) (G:Gl) (op:Op) (g:Operand→V) (σ:ak) (id:Nat) (K:V→ak→Prop):Prop:=
 match op with
 | .pick c a b=>jO (g c) (g a) (g b) (fun v=>K v σ)
 | .load t x=>fa P t (g x) σ (fun v=>K v σ)
 | .next x isStr=>if isStr=true then lT (g x) σ K else mO op
 | .call c=>match c.callee with
  | .value f=>bC (g f) (fun k caps=>au P G k (c.args.toList.map g++caps) σ id K) (fun i=>im P G i (c.args.toList.map g) σ id K) (fun k fs=>au P G k (fs++(c.args.toList.map g++[])) σ id K)
  | .builtin _=>fz op (dl P op g σ id) K
  | .invoke _ _=>mO op
 | .buildSlice t n parts=>Kf (aR P (.buildSlice t n parts) g σ id) (Yi P t n id (parts.toList.map fun p=>(p.1,g p.2)) σ) σ K
 | op=>fz op (dl P op g σ id) K
def cE (P:Program) (o:Oper) (a:Act) (w:World) (R:Value→World→Prop):Prop:=
 match (execOp a.eval o).run P w with
 | .ok (.value u) w'=>R u w'
 | .ok .skip w'=>R undef w'
 | .ok (.enter f args) w'=>Calls P f args w' fun e w''=> ∃u,e = .returned u∧R u w''
 | .ok (.round l f tmps assign body) w'=>RoundIn Fence.wide 0 P l f tmps assign body w' fun e w''=> ∃u,e = .returned u∧R u w''
 | _=>False
def Fr (ρ:Option Nat):Fence :={ Fence.wide with round:=ρ }
theorem cE.op {P:Program} {o:Oper} {a:Act} {w:World} {R:Value→World→Prop} (h:cE P o a w R) : ∀c,o.op ≠ .defer c:=by
 intro c hc;unfold cE at h;simp only [execOp,hc,Sem.run_bind] at h;cases hr:(resolve a.eval c o.type).run P w with
 | halt x w'=>rw [hr] at h;exact h
 | ok d w'=>rw [hr] at h;exact h
theorem I5 {n n':Nat} {P:Program} {l:Nat} {f:FuncId} {tmps:Array Value} {assign body:Code} {w:World} {R:Ending→World→Prop} {ρ:Option Nat} (h:RoundIn Fence.wide n P l f tmps assign body w R):RoundIn (Fr ρ) n' P l f tmps assign body w R:=
 ⟨trivial,fun c cs _=>h.2 c cs (room_wide _)⟩
theorem Ht {n:Nat} {P:Program} {f:FuncId} {args:Array Value} {w:World} {R:Ending→World→Prop} {ρ:Option Nat} (h:Calls P f args w R):CallsIn (Fr ρ) n P f args w R:=
 ⟨trivial,fun cs _=>(callsIn_wide (n:=n).2 h).2 cs (room_wide _)⟩
theorem cE.wpIn {P:Program} {o:Oper} {a:Act} {w:World} {R:Value→World→Prop} {K:Act→World→Prop} {Q:Exit→Act→World→Prop} {ρ:Option Nat} (h:cE P o a w R) (hK : ∀u w',R u w'→K (a.put o.dst u) w'):o.wpIn (Fr ρ) 0 P a w K Q:=by
 refine ⟨fun _ _=>trivial,?_⟩;rw [Oper.semAt_eq _ _ _ h.op];unfold cE at h;generalize (execOp a.eval o).run P w=r at *
 cases r with
 | halt x w'=>exact h.elim
 | ok n w'=>
  cases n<;>simp only at h<;>first
   | exact hK _ _ h
   | exact h.elim
   | exact ⟨(fun e=>by cases e),(Ht h).mono (by rintro e w'' ⟨u,rfl,hR⟩;exact hK u w'' hR)⟩
   | exact ⟨(fun e=>by cases e),(I5 h).mono (by rintro e w'' ⟨u,rfl,hR⟩;exact hK u w'' hR)⟩
theorem cE.mono {P:Program} {o:Oper} {a:Act} {w:World} {R R':Value→World→Prop} (h:cE P o a w R) (hR : ∀u w',R u w'→R' u w'):cE P o a w R':=by
 unfold cE at h ⊢;generalize (execOp a.eval o).run P w=r at *
 cases r with
 | halt x w'=>exact h.elim
 | ok n w'=>
  cases n<;>simp only at h ⊢ <;> first
   | exact hR _ _ h
   | exact h.elim
   | exact Calls.mono h (by rintro e w'' ⟨u,rfl,h⟩;exact ⟨u,rfl,hR u w'' h⟩)
   | exact RoundIn.mono h (by rintro e w'' ⟨u,rfl,h⟩;exact ⟨u,rfl,hR u w'' h⟩)
theorem cE.of_value {P:Program} {o:Oper} {a:Act} {w w':World} {R:Value→World→Prop} {u:Value} (h:(execOp a.eval o).run P w = .ok (.value u) w') (hR:R u w'):cE P o a w R:=by
 unfold cE;rw [h];exact hR
theorem cE.of_skip {P:Program} {o:Oper} {a:Act} {w w':World} {R:Value→World→Prop} (h:(execOp a.eval o).run P w = .ok .skip w') (hR:R undef w'):cE P o a w R:=by
 unfold cE;rw [h];exact hR
def bB (P:Program) (G:Gl) (o:Oper) (g:Operand→V) (σ:ak) (id:Nat) (v:V) (σ':ak):Prop:=
 ∀w I β nx a,de w I β σ nx→GY G w I→(∀j,id≤j→j<id+4→β j=none)→id+4≤nx→(∀x∈o.op.operands.toList,aL w I β (g x) (a.eval x)) →
  cE P o a w fun u w'=> ∃I' β',aL w' I' β' v u∧ay w I β σ nx w' I' β' σ' nx ∧ ∀j,¬(id≤j∧j<id+4)→β' j=β j
def gt (P:Program) (G:Gl) (o:Oper) (g:Operand→V) (σ0:ak) (id:Nat) (v:V) (new:ak):Prop:= ∀σ,ar σ0 σ→bB P G o g σ id v (σ++new)
section
variable {P:Program} {G:Gl} {o:Oper} {g:Operand→V} {σ:ak} {id:Nat} {K:V→ak→Prop}
open Classical in
noncomputable def only (o:Oper) (g:Operand→V):Operand→V:=fun x=>if x∈o.op.operands.toList then g x else .unk
theorem zf (x:Operand) (h:x∈o.op.operands.toList):g x=only o g x:=by unfold only;rw [aa3 h]
theorem s5 {w:World} {I:Nat→Prop} {β:co} {a:Act} (h : ∀x∈o.op.operands.toList,aL w I β (g x) (a.eval x)) : ∀x,aL w I β (only o g x) (a.eval x):=by
 intro x;unfold only;split
 ·rename_i hx;exact h x hx
 ·trivial
theorem oG {β β':co} {id:Nat} (h : ∀j,j≠id→β' j=β j) : ∀j,¬(id≤j∧j<id+4)→β' j=β j:=fun j hj=>h j (by omega)
theorem Cm {p:Prop} {v:V} (h:ce P o.op g=some (p,v)) (hp:p) (σ:ak) (id:Nat):bB P G o g σ id v σ:=by
 intro w I β nx a hm _ _ _ hg;rw [Ci (g':=only o g) (fun x hx=>zf x hx)] at h;obtain ⟨u,h1,h2⟩:=Cj (w:=w) h hp (s5 hg);exact cE.of_value h1 ⟨I,β,h2,ay.refl hm,fun _ _=>rfl⟩
theorem b8 (σ τ:ak) (j:Nat):ak.get (σ++τ) j=match σ.get j with|some b=>some b|none=>τ.get j:=by
 induction σ with
 | nil=>rfl
 | cons x r ih=>
  obtain ⟨i,b⟩:=x;show (if i=j then some b else ak.get (r++τ) j)=_;simp only [ak.get];split
  ·rfl
  ·exact ih
theorem ay.congr {w w':World} {I I':Nat→Prop} {β β':co} {σ σ' σ'':ak} {nx nx':Nat} (h:ay w I β σ nx w' I' β' σ' nx') (he : ∀j,σ''.get j=σ'.get j):ay w I β σ nx w' I' β' σ'' nx':=
 { h with
  mem:=⟨fun id b hb=>h.mem.own id b (by rw [←he];exact hb),fun i j b b' k c c' h1 h2=>h.mem.inj i j b b' k c c' (by rw [←he];exact h1) (by rw [←he];exact h2),h.mem.free,h.mem.lt⟩
  own':=fun b ⟨id,blk,c,h1,h2⟩=>h.own' b ⟨id,blk,c,by rw [←he];exact h1,h2⟩ }
theorem JX {op:Op} {g:Operand→V} {σ:ak} {id:Nat} {p:Prop} {v:V} {new:ak} (h:aR P op g σ id=some (p,v,new)) : ∃blk,new=[(id,blk)]:=by
 unfold aR at h;split at h
 ·split at h
  ·split at h
   ·injection h with h;injection h with _ h;injection h with _ h;exact ⟨_,h.symm⟩
   ·cases h
  ·cases h
 ·split at h
  ·injection h with h;injection h with _ h;injection h with _ h;exact ⟨_,h.symm⟩
  ·cases h
 ·split at h
  ·split at h
   ·injection h with h;injection h with _ h;injection h with _ h;exact ⟨_,h.symm⟩
   ·cases h
  ·cases h
 ·split at h
  ·injection h with h;injection h with _ h;injection h with _ h;exact ⟨_,h.symm⟩
  ·cases h
 ·split at h
  ·injection h with h;injection h with _ h;injection h with _ h;exact ⟨_,h.symm⟩
  ·cases h
 ·split at h
  ·unfold rq at h;split at h
   ·split at h
    ·split at h
     ·split at h
      ·injection h with h;injection h with _ h;injection h with _ h;exact ⟨_,h.symm⟩
      ·split at h
       ·injection h with h;injection h with _ h;injection h with _ h;exact ⟨_,h.symm⟩
       ·cases h
      ·cases h
     ·cases h
    ·cases h
   ·cases h
  ·cases h
 ·injection h with h;injection h with _ h;injection h with _ h;exact ⟨_,h.symm⟩
 ·cases h
theorem om {p:Prop} {v:V} {new σ0:ak} (h:aR P o.op g σ0 id=some (p,v,new)) (hp:p):gt P G o g σ0 id v new:=by
 intro σ hs w I β nx a hm _ hf hnx hg;rw [JW (g':=only o g) (fun x hx=>zf x hx)] at h;obtain ⟨u,w',β',h1,h2,h3,h4⟩:=JY h hp hm hs (hf id (aaV _) (by omega)) (by omega) (s5 hg);obtain ⟨blk,rfl⟩:=JX h;have h0:=hm.get_none (hf id (aaV _) (by omega));refine cE.of_value h1 ⟨I,β',h2,h3.congr (fun j =>?_),oG h4⟩;rw [b8];show _=if id=j then some blk else σ.get j
 by_cases hj:id=j
 ·subst hj;rw [h0];simp [ak.get]
 ·simp only [hj,ab1];cases σ.get j<;>simp [ak.get,hj]
theorem Oa {p:Prop} {v:V} {σ':ak} (h:eR P o.op g σ id=some (p,v,σ')) (hp:p):bB P G o g σ id v σ':=by
 intro w I β nx a hm _ hf hnx hg;rw [KH (g':=only o g) (fun x hx=>zf x hx)] at h;obtain ⟨u,w',β',h1,h2,h3,h4⟩:=KI h hp hm (hf id (aaV _) (by omega)) (by omega) (s5 hg);rcases h1 with h1|⟨h1,rfl⟩
 ·exact cE.of_value h1 ⟨I,β',h2,h3,oG h4⟩
 ·exact cE.of_skip h1 ⟨I,β',h2,h3,oG h4⟩
theorem mz {p:Prop} {v:V} {new σ0:ak} (h:bg P o.op g σ0 id=some (p,v,new)) (hp:p):gt P G o g σ0 id v new:=by
 unfold bg at h;split at h
 ·rename_i p' v' h1;injection h with h;injection h with e1 h;injection h with e2 e3;subst e1;subst e2;subst e3;intro σ _;rw [abb];exact Cm h1 hp σ id
 ·exact om h hp
theorem xK {p:Prop} {v:V} {σ':ak} (h:dl P o.op g σ id=some (p,v,σ')) (hp:p):bB P G o g σ id v σ':=by
 unfold dl at h;split at h
 ·rename_i p' v' new h1;injection h with h;injection h with e1 h;injection h with e2 e3;subst e1;subst e2;subst e3;exact mz h1 hp σ (fun _ _ h=>h)
 ·exact Oa h hp
theorem gK {op:Op} {r:j3} (h:fz op r K) : ∃p v s,r=some (p,v,s)∧p∧K v s:=by
 unfold fz at h;split at h
 ·exact ⟨_,_,_,rfl,h.1,h.2⟩
 ·exact h.elim
theorem tc {c x y:Operand} (ho:o.op = .pick c x y) {K:V→Prop} (h:jO (g c) (g x) (g y) K) : ∃v,K v ∧ ∀(σ:ak) (id:Nat),bB P G o g σ id v σ:=by
 unfold jO at h;split at h
 ·rename_i t hc;have key : ∀(b:Bool),b=t → ∀(σ:ak) (id:Nat),bB P G o g σ id (if b=true then g x else g y) σ:=by
   rintro b rfl σ id w I β nx a hm _ _ _ hg;have h1:=hg c (by simp [ho,Op.operands]);rw [hc] at h1;have h2:=aA h1;refine cE.of_value (u:=if b=true then a.eval x else a.eval y) (by simp [execOp,ho,h2,asBool]) ⟨I,β,?_,ay.refl hm,fun _ _=>rfl⟩;cases b with
   | true=>exact hg x (by simp [ho,Op.operands])
   | false=>exact hg y (by simp [ho,Op.operands])
  cases t with
  | true=>exact ⟨g x,h.1 rfl,key true rfl⟩
  | false=>exact ⟨g y,h.2 rfl,key false rfl⟩
 ·exact h.elim
theorem BS {t:Nat} {x:Operand} (ho:o.op = .load t x) {K:V→Prop} {σ0:ak} (h:fa P t (g x) σ0 K) (id:Nat) : ∃v,K v∧gt P G o g σ0 id v []:=by
 obtain ⟨v,h1,h2⟩:=pR h;refine ⟨v,h1,fun σ hs =>?_⟩;rw [abb];intro w I β nx a hm _ _ _ hg;obtain ⟨u,h3,h4⟩:=h2 w I β σ nx (a.eval x) hm hs (hg x (by simp [ho,Op.operands]));exact cE.of_value (by simp [execOp,ho,h3]) ⟨I,β,h4,ay.refl hm,fun _ _=>rfl⟩
theorem ay.iter {w:World} {I:Nat→Prop} {β:co} {nx:Nat} (hm:de w I β σ nx) {i b cap pos:Nat} {s:ByteArray} (hg:σ.get i=some (.iter s pos)) (hb:β i=some (some (b,cap))) (q:Nat) :
 ay w I β σ nx { w with heap:=w.heap.setIfInBounds b (.stringIter s q) } I β (σ.set i (.iter s q)) nx:=by
 have hs:(σ.get i).isSome=true:=by rw [hg];rfl
 have hbl:=((hm.own i _ hg).not_imm hb)
 have hnb : ∀k,k≠b→({ w with heap:=w.heap.setIfInBounds b (.stringIter s q) } : World).heap[k]? = w.heap[k]? :=fun k hk=>by simp [acG (acx hk)]
 refine ⟨⟨fun j bl hj =>?_,fun j j' bl bl' k c c' h1 h2 h3 h4 =>?_,hm.free,fun k hk=>by simpa using hm.lt k hk⟩,rfl,rfl,rfl,by simp,fun k _ ho=>hnb k (fun e=>ho ⟨i,_,cap,hg,by rw [e];exact hb⟩),fun _ h=>h,fun _ h=> .inl h,fun _ _ h=>h,aaV _,fun k ⟨j,bl,c,h1,h2⟩ =>?_⟩
 ·rw [ak.get_set hs] at hj;split at hj
  ·rename_i e;subst e;injection hj with hj;subst hj;exact ⟨b,cap,hb,by simp [hbl.2],hbl.1⟩
  ·rename_i hne;refine (hm.own j bl hj).keep (fun k hk=>hnb k ?_) (fun _ h=>h) (fun k c hk=>((hm.own j bl hj).not_imm hk).1) (fun _ _ h=>h);rintro rfl;rcases hk with hk|⟨c,hk⟩
   ·exact hbl.1 hk
   ·exact hne (hm.inj j i bl _ k c cap hj hg hk hb)
 ·rw [ak.get_set hs] at h1 h2;have g1 : ∃x,σ.get j=some x:=by
   split at h1
   ·rename_i e;subst e;exact ⟨_,hg⟩
   ·exact ⟨_,h1⟩
  have g2 : ∃x,σ.get j'=some x:=by
   split at h2
   ·rename_i e;subst e;exact ⟨_,hg⟩
   ·exact ⟨_,h2⟩
  obtain ⟨x,g1⟩:=g1;obtain ⟨y,g2⟩:=g2;exact hm.inj j j' x y k c c' g1 g2 h3 h4
 ·rw [ak.get_set hs] at h1;split at h1
  ·rename_i e;subst e;exact .inl ⟨j,_,c,hg,h2⟩
  ·exact .inl ⟨j,bl,c,h1,h2⟩
theorem LG {x:Operand} (ho:o.op = .next x true) (h:lT (g x) σ K) (id:Nat) : ∃v σ',K v σ'∧bB P G o g σ id v σ':=by
 unfold lT at h;split at h
 ·rename_i i hx;obtain ⟨b,hb,h⟩:=dw h;unfold sI at h;split at h
  ·rename_i s pos;have base : ∀w I β nx (a:Act),de w I β σ nx→(∀y∈o.op.operands.toList,aL w I β (g y) (a.eval y)) → ∃r cap,a.eval x = .pointer (some ⟨r,0,none⟩)∧β i=some (some (r,cap))∧w.heap[r]? = some (.stringIter s pos):=by
    intro w I β nx a hm hg;have h1:=hg x (by simp [ho,Op.operands]);rw [hx] at h1;obtain ⟨r,cap,h2,h3⟩:=h1;obtain ⟨r',cap',q1,q2,q3⟩:=hm.own i _ hb;rw [h2] at q1;injection q1 with q1;injection q1 with q1;injection q1 with q1 _;subst q1;exact ⟨r,cap,h3,h2,q2⟩
   by_cases hlt:pos<s.size
   ·refine ⟨_,_,h.1 (by simpa using hlt),fun w I β nx a hm _ _ _ hg =>?_⟩;obtain ⟨r,cap,e1,e2,e3⟩:=base w I β nx a hm hg;refine cE.of_value (u:= .tuple #[.bool true,.int .i64 pos,.int .i32 (Utf8.decode s pos).1]) (w' :={ w with heap:=w.heap.setIfInBounds r (.stringIter s (pos+(Utf8.decode s pos).2)) }) ?_ ⟨I,β,?_,ay.iter hm hb e2 _,fun _ _=>rfl⟩
    ·simp [execOp,ho,Instr.next,e1,getObj,setObj,Sem.run,e3,hlt,goInt]
    ·refine ⟨[.bool true,.int .i64 pos,.int .i32 (Utf8.decode s pos).1],rfl,rfl,fun j c v hc hv =>?_⟩;match j,hc,hv with
     | 0,hc,hv=>simp at hc hv;subst hc;subst hv;exact ax.lit _
     | 1,hc,hv=>simp at hc hv;subst hc;subst hv;exact ax.lit _
     | 2,hc,hv=>simp at hc hv;subst hc;subst hv;exact ax.lit _
   ·refine ⟨_,_,h.2 (by simpa using hlt),fun w I β nx a hm _ _ _ hg =>?_⟩;obtain ⟨r,cap,e1,e2,e3⟩:=base w I β nx a hm hg;refine cE.of_value (u:= .tuple #[.bool false]) (w':=w) ?_ ⟨I,β,?_,ay.refl hm,fun _ _=>rfl⟩
    ·simp [execOp,ho,Instr.next,e1,getObj,Sem.run,e3,hlt]
    ·refine ⟨[.bool false],rfl,rfl,fun j c v hc hv =>?_⟩;match j,hc,hv with
     | 0,hc,hv=>simp at hc hv;subst hc;subst hv;exact ax.lit _
  ·exact h.elim
 ·exact h.elim
theorem nM {f:Nat} (h:cK P f=true) (args:Array Value) (w:World):(callFunc f args).run P w = .ok (.enter f args) w:=by
 unfold cK at h;split at h
 ·rename_i fn hf;simp only [aa8,acb,acD] at h;obtain ⟨c,hb⟩:=acv.1 h.1;simp [callFunc,hf,hb,h.2]
 ·cases h
theorem Oj {P:Program} {f:Nat} {args:List V} (h:cK P f=true):si P f args=none:=by
 unfold cK at h;unfold si;split at h
 ·rename_i fn hf;rw [aaY];intro hc;have h1:=hc.1;cases hb:fn.body<;>simp [hb] at h h1
 ·cases h
theorem KR {fn:Func} {n:String} {e:Array Value→Sem Value} (hn:fn.name=n) (h1:Extern.allGenericRows.lookup n=none) (h2:Extern.allTypedRows.lookup n=none) (h3:Extern.allRows.lookup n=some e):Extern.find fn=some e:=by
 simp [Extern.find,hn,h1,h2,h3]
theorem Pp {f:Nat} {args:List V} {v:V} {w:World} {I:Nat→Prop} {β:co} {vals:List Value} (h:si P f args=some v) (hd:cU w I β args vals) : ∃u,(callFunc f vals.toArray).run P w = .ok (.value u) w∧aL w I β v u:=by
 unfold si at h;split at h;rotate_left
 ·cases h
 rename_i fn hf;split at h;rotate_left
 ·cases h
 rename_i hb0;obtain ⟨hb,hx⟩:=hb0;have hx:Extern.findNext fn=none:=by simpa using hx
 have one : ∀ {x:V} {l:List Value},cU w I β [x] l → ∃y,l=[y]∧aL w I β x y:=by
  rintro x l ⟨hl,hx⟩;match l,hl with
  | [y],_=>exact ⟨y,rfl,hx 0 _ _ rfl rfl⟩
 have two : ∀ {x x':V} {l:List Value},cU w I β [x,x'] l → ∃y y',l=[y,y']∧aL w I β x y∧aL w I β x' y':=by
  rintro x x' l ⟨hl,hx⟩;match l,hl with
  | [y,y'],_=>exact ⟨y,y',rfl,hx 0 _ _ rfl rfl,hx 1 _ _ rfl rfl⟩
 have go : ∀ {n:String} {e:Array Value→Sem Value} {u:Value},fn.name=n→(n == "runtime.NumGoroutine")=false→Extern.allGenericRows.lookup n=none→Extern.allTypedRows.lookup n=none→Extern.allRows.lookup n=some e →
  (e vals.toArray).run P w = .ok u w→(callFunc f vals.toArray).run P w = .ok (.value u) w:=by
  intro n e u hn hne h1 h2 h3 he;rw [run_callFunc_extern hf (by rw [hn];exact hne) hb hx (KR hn h1 h2 h3),he];rfl
 unfold TU at h;split at h
 ·rename_i hn;split at h
  ·rename_i x;injection h with h;subst h;obtain ⟨y,rfl,hy⟩:=one hd;exact ⟨y,go hn (by kernel_rfl) (by kernel_rfl) (by kernel_rfl) (e:=Extern.AbiNoEscape.same) (by kernel_rfl) rfl,hy⟩
  ·cases h
 ·split at h
  ·rename_i hn;split at h
   ·rename_i s c;injection h with h;subst h;obtain ⟨y,y',rfl,hy,hy'⟩:=two hd;have:=aA hy;subst this;have:=aA hy';subst this;exact ⟨_,go hn (by kernel_rfl) (by kernel_rfl) (by kernel_rfl) (e:=Extern.BytealgIndexByte.indexByte) (by kernel_rfl) (run_indexByte_string s c w),ax.lit _⟩
   ·cases h
  ·split at h
   ·rename_i hn;split at h
    ·rename_i s c;injection h with h;subst h;obtain ⟨y,y',rfl,hy,hy'⟩:=two hd;have:=aA hy;subst this;have:=aA hy';subst this;exact ⟨_,go hn (by kernel_rfl) (by kernel_rfl) (by kernel_rfl) (e:=Extern.BytealgCount.count) (by kernel_rfl) (o8 s c w),ax.lit _⟩
    ·cases h
   ·cases h
theorem fb {w:World} {I:Nat→Prop} {β:co} {v:V} {x:Value} {K:Nat→List V→Prop} (h:bC v K) : ∃k caps,K k caps∧(aL w I β v x → ∃cv:List Value,x = .func (.func k) #[] cv.toArray∧cU w I β caps cv):=by
 unfold bC at h;split at h
 ·rename_i k caps;refine ⟨k,_,h,fun hd =>?_⟩;obtain ⟨vs,rfl,hl,hds⟩:=m6 hd;refine ⟨vs,rfl,by simpa using hl,fun i c y hc hy =>?_⟩;simp only [abp,aaZ] at hc;obtain ⟨z,hz,rfl⟩:=hc;exact hds i z y hz hy
 ·rename_i k caps;refine ⟨k,_,h,fun hd =>?_⟩;obtain ⟨vs,rfl,hl,hds⟩:=(show ∃vs:List Value,x = .func (.func k) #[] vs.toArray∧bY w I β caps vs from hd)
  refine ⟨vs,rfl,hl,fun i c y hc hy =>?_⟩;have:=hds i c y hc hy;cases c<;>first|exact this|exact this.elim
 ·exact h.elim
 ·exact h.elim
 ·exact h.elim
theorem wF {w:World} {I:Nat→Prop} {β:co} {k:Nat} {fs:List D} {x:Value} (h:aL w I β (.d (.bf k fs)) x) : ∃pv cv:List Value,x = .func (.func k) pv.toArray cv.toArray∧cU w I β (fs.map .d) pv∧cU w I β [] cv:=by
 obtain ⟨vs,rfl,hl,hds⟩:=DU h;refine ⟨vs,[],rfl,⟨by simpa using hl,fun i c y hc hy =>?_⟩,rfl,fun i c y hc hy=>by simp at hc⟩;simp only [abp,aaZ] at hc;obtain ⟨z,hz,rfl⟩:=hc;exact hds i z y hz hy
theorem cU.append {w:World} {I:Nat→Prop} {β:co} {a b:List V} {x y:List Value} (h:cU w I β a x) (k:cU w I β b y):cU w I β (a++b) (x++y):=by
 refine ⟨by simp [h.1,k.1],fun i c v hc hv =>?_⟩;rw [acz] at hc hv;rw [←h.1] at hv;split at hc
 ·rename_i hlt;rw [aa3 hlt] at hv;exact h.2 i c v hc hv
 ·rename_i hlt;rw [aaY hlt] at hv;exact k.2 _ c v hc hv
theorem oA {w:World} {I:Nat→Prop} {β:co} {a:Act} {l:List Operand} (h : ∀x∈l,aL w I β (g x) (a.eval x)):cU w I β (l.map g) (l.map a.eval):=by
 refine ⟨by simp,fun i c v hc hv =>?_⟩;simp only [abp,aaZ] at hc hv;obtain ⟨x,hx,rfl⟩:=hc;obtain ⟨y,hy,rfl⟩:=hv;rw [hx] at hy;injection hy with hy;subst hy;exact h x (aa0 hx)
theorem ow {c:Call} {f:Operand} {k:Nat} {pre caps:List V} {v:V} {σ':ak} (ho:o.op = .call c) (hc:c.callee = .value f) (he:cK P k=true) (hd:uS P G k (pre++(c.args.toList.map g++caps)) σ id v σ')
 (hcal : ∀w I β x,aL w I β (g f) x → ∃pv cv:List Value,x = .func (.func k) pv.toArray cv.toArray∧cU w I β pre pv∧cU w I β caps cv):bB P G o g σ id v σ':=by
 intro w I β nx a hm hG hf hnx hg;have hops : ∀x,x=f∨x∈c.args.toList→x∈o.op.operands.toList:=by
  intro x hx;simp [ho,Op.operands,Call.operands,hc];rcases hx with h|h
  ·exact .inl h
  ·exact .inr (by simpa using h)
 obtain ⟨pv,cv,e1,e0,e2⟩:=hcal w I β (a.eval f) (hg f (hops f (.inl rfl)));have hargs:=e0.append<|(oA (g:=g) (a:=a) (l:=c.args.toList) (fun x hx=>hg x (hops x (.inr hx)))).append e2
 have hcall:=hd w I β nx _ hm hG hf hnx hargs;have hrun:(execOp a.eval o).run P w = .ok (.enter k (pv++(c.args.toList.map a.eval++cv)).toArray) w:=by
  simp only [execOp,ho,resolve,hc,e1,Deferred.ofValue,Sem.run_bind,Sem.run_pure,Result.andThen_ok,invoke];rw [show (pv.toArray++Array.map a.eval c.args++cv.toArray)=(pv++(c.args.toList.map a.eval++cv)).toArray from by apply abx.1;simp];exact nM he _ w
 unfold cE;rw [hrun];exact hcall.mono fun e w' ⟨u,I',β',h1,h2,h3,h4⟩=>⟨u,h1,I',β',h2,h3,h4⟩
theorem mW {c:Call} {f:Operand} {k:Nat} {caps:List V} {v:V} {σ':ak} (ho:o.op = .call c) (hc:c.callee = .value f) (he:cK P k=true) (hd:uS P G k (c.args.toList.map g++caps) σ id v σ')
 (hcal : ∀w I β x,aL w I β (g f) x → ∃cv:List Value,x = .func (.func k) #[] cv.toArray∧cU w I β caps cv):bB P G o g σ id v σ':=
 ow (pre:=[]) ho hc he hd fun w I β x h=>match hcal w I β x h with|⟨cv,e,d⟩=>⟨[],cv,e,⟨rfl,fun i c y hc hy=>by simp at hc⟩,d⟩
theorem JA {c:Call} {f:Operand} {i:Nat} {v:V} {σ':ak} (ho:o.op = .call c) (hc:c.callee = .value f) (hf:g f = .yl i) (hd:pG P G i (c.args.toList.map g) σ id v σ'):bB P G o g σ id v σ':=by
 intro w I β nx a hm hG hfr hnx hg;have hops : ∀x,x=f∨x∈c.args.toList→x∈o.op.operands.toList:=by
  intro x hx;simp [ho,Op.operands,Call.operands,hc];rcases hx with h|h
  ·exact .inl h
  ·exact .inr (by simpa using h)
 have h0:=hg f (hops f (.inl rfl));rw [hf] at h0;obtain ⟨b,cap,hb,e1⟩:=h0;have hargs:=oA (g:=g) (a:=a) (l:=c.args.toList) (fun x hx=>hg x (hops x (.inr hx)));obtain ⟨r,hr,hl,hround⟩:=hd w I β nx _ b cap hm hG hfr hnx hargs hb;have hrun:(execOp a.eval o).run P w = .ok (.round b r.fn ((r.params.zip (c.args.toList.map a.eval).toArray).foldl (fun tmps (t,a)=>tmps.setIfInBounds t a) r.tmps) r.assign r.body) w:=by
  simp only [execOp,ho,resolve,hc,e1,Deferred.ofValue,Sem.run_bind,Sem.run_pure,Result.andThen_ok,invoke];have e3:(#[]++Array.map a.eval c.args)=(c.args.toList.map a.eval).toArray:=by
   apply abx.1;simp
  rw [e3];exact run_yield hr (by simpa using hl)
 unfold cE;rw [hrun];exact hround.mono fun e w' ⟨u,I',β',h1,h2,h3,h4⟩=>⟨u,h1,I',β',h2,h3,h4⟩
theorem sj {c:Call} {f:Operand} {k:Nat} {pre caps:List V} {v:V} (ho:o.op = .call c) (hc:c.callee = .value f) (he:si P k (pre++(c.args.toList.map g++caps))=some v)
 (hcal : ∀w I β x,aL w I β (g f) x → ∃pv cv:List Value,x = .func (.func k) pv.toArray cv.toArray∧cU w I β pre pv∧cU w I β caps cv) (σ:ak) (id:Nat):bB P G o g σ id v σ:=by
 intro w I β nx a hm hG hf hnx hg;have hops : ∀x,x=f∨x∈c.args.toList→x∈o.op.operands.toList:=by
  intro x hx;simp [ho,Op.operands,Call.operands,hc];rcases hx with h|h
  ·exact .inl h
  ·exact .inr (by simpa using h)
 obtain ⟨pv,cv,e1,e0,e2⟩:=hcal w I β (a.eval f) (hg f (hops f (.inl rfl)));have hargs:=e0.append<|(oA (g:=g) (a:=a) (l:=c.args.toList) (fun x hx=>hg x (hops x (.inr hx)))).append e2
 obtain ⟨u,hu,hd⟩:=Pp (w:=w) (I:=I) (β:=β) he hargs;refine cE.of_value (u:=u) (w':=w) ?_ ⟨I,β,hd,ay.refl hm,fun _ _=>rfl⟩;simp only [execOp,ho,resolve,hc,e1,Deferred.ofValue,Sem.run_bind,Sem.run_pure,Result.andThen_ok,invoke];rw [show (pv.toArray++Array.map a.eval c.args++cv.toArray)=(pv++(c.args.toList.map a.eval++cv)).toArray from by apply abx.1;simp];exact hu
theorem qI {c:Call} {f:Operand} {k:Nat} {caps:List V} {v:V} (ho:o.op = .call c) (hc:c.callee = .value f) (he:si P k (c.args.toList.map g++caps)=some v)
 (hcal : ∀w I β x,aL w I β (g f) x → ∃cv:List Value,x = .func (.func k) #[] cv.toArray∧cU w I β caps cv) (σ:ak) (id:Nat):bB P G o g σ id v σ:=
 sj (pre:=[]) ho hc he (fun w I β x h=>match hcal w I β x h with|⟨cv,e,d⟩=>⟨[],cv,e,⟨rfl,fun i c y hc hy=>by simp at hc⟩,d⟩) σ id
theorem Pv {g:Operand→V} {σ:ak} {t n:Nat} {parts:Array (Nat × Operand)} (ho:o.op = .buildSlice t n parts) {p:Prop} {v:V} {s:ak} (h:Xd P t n id (parts.toList.map fun p=>(p.1,g p.2)) σ=some (p,v,s)) (hp:p):bB P G o g σ id v s:=by
 unfold Xd at h;split at h
 ·rename_i k b es h1 h2;split at h
  ·rename_i hc;injection h with h;injection h with e1 h;injection h with e2 e3;subst e1 e2 e3;have hr:aR P o.op g σ id=some (jg k es,.so id k 0 n,[(id,.row k es)]):=by
    rw [ho];simp only [aR,h1,h2];rw [aa3 hc]
   exact om hr hp σ (fun _ _ h=>h)
  ·cases h
 ·cases h
theorem zB {F:List (Nat × V)→ak→j3} {parts:List (Nat × Operand)} (hF : ∀(g:Operand→V) (σ:ak) (v:V) (s:ak) (p:Prop),F (parts.map fun p=>(p.1,g p.2)) σ=some (p,v,s)→p→bB P G o g σ id v s)
 {g:Operand→V} {σ:ak} {p:Prop} {v:V} {s:ak} (h:Ts F (parts.map fun p=>(p.1,g p.2)) σ=some (p,v,s)) (hp:p):bB P G o g σ id v s:=by
 unfold Ts at h;split at h
 ·rename_i i hi;split at h
  ·rename_i blk hb;rw [Bo] at h;have hs:=hF (fun x=>(g x).frz i blk) (σ.frz i blk) v s p h hp;intro w I β nx a hm hG hf hnx hg;obtain ⟨st,hset⟩:=Bp hm hb;refine (hs w _ β nx a st.mem (fun g x hx=>(hG g x hx).keep (fun _ _=>rfl) (fun b hb=> .inl hb)) hf hnx (fun x hx=>hset.den (hg x hx))).mono ?_;rintro u w' ⟨I2,β2,e1,e2,e3⟩;exact ⟨I2,β2,e1,st.trans e2,e3⟩
  ·cases h
 ·exact hF g σ v s p h hp
theorem et (h:aT P G o.op g σ id K) : ∃v σ',K v σ'∧bB P G o g σ id v σ':=by
 unfold aT at h;split at h;case h_1 c x y ho=>
  obtain ⟨v,h1,h2⟩:=tc ho h;exact ⟨v,σ,h1,h2 σ id⟩
 case h_2 t x ho=>
  obtain ⟨v,h1,h2⟩:=BS (G:=G) ho h id;exact ⟨v,σ,h1,by simpa using h2 σ (fun _ _ h=>h)⟩
 case h_3 x isStr ho=>
  split at h
  ·rename_i hs;subst hs;exact LG ho h id
  ·exact h.elim
 case h_4 c ho=>
  split at h
  ·rename_i f hc;unfold bC at h;split at h
   ·rename_i k caps hk;obtain ⟨v,σ',h1,h2⟩:=h;have hcal : ∀w I β x,aL w I β (g f) x → ∃cv:List Value,x = .func (.func k) #[] cv.toArray∧cU w I β (caps.map .d) cv:=fun w I β x hd=>by
     rw [hk] at hd;obtain ⟨k',caps',e1,e2⟩:=fb (w:=w) (I:=I) (β:=β) (x:=x) (v:= .d (.fn k caps)) (K:=fun a b=>a=k∧b=caps.map .d) ⟨rfl,rfl⟩;obtain ⟨rfl,rfl⟩:=e1;exact e2 hd
    rcases h2 with ⟨h2,h3⟩|⟨h2,rfl⟩
    ·exact ⟨v,σ',h1,mW ho hc h2 h3 hcal⟩
    ·exact ⟨v,_,h1,qI ho hc h2 hcal _ _⟩
   ·rename_i k caps hk;obtain ⟨v,σ',h1,h2⟩:=h;have hcal : ∀w I β x,aL w I β (g f) x → ∃cv:List Value,x = .func (.func k) #[] cv.toArray∧cU w I β caps cv:=fun w I β x hd=>by
     rw [hk] at hd;obtain ⟨k',caps',e1,e2⟩:=fb (w:=w) (I:=I) (β:=β) (x:=x) (v:= .fn k caps) (K:=fun a b=>a=k∧b=caps) ⟨rfl,rfl⟩;obtain ⟨rfl,rfl⟩:=e1;exact e2 hd
    rcases h2 with ⟨h2,h3⟩|⟨h2,rfl⟩
    ·exact ⟨v,σ',h1,mW ho hc h2 h3 hcal⟩
    ·exact ⟨v,_,h1,qI ho hc h2 hcal _ _⟩
   ·rename_i i hi;obtain ⟨v,σ',h1,h2⟩:=h;exact ⟨v,σ',h1,JA ho hc hi h2⟩
   ·rename_i k fs hk;obtain ⟨v,σ',h1,h2⟩:=h;have hcal : ∀w I β x,aL w I β (g f) x → ∃pv cv:List Value,x = .func (.func k) pv.toArray cv.toArray∧cU w I β (fs.map .d) pv∧cU w I β [] cv:=fun w I β x hd=>wF (hk▸hd)
    rcases h2 with ⟨h2,h3⟩|⟨h2,rfl⟩
    ·exact ⟨v,σ',h1,ow ho hc h2 h3 hcal⟩
    ·exact ⟨v,_,h1,sj ho hc h2 hcal _ _⟩
   ·exact h.elim
  ·obtain ⟨p,v,s,h1,h2,h3⟩:=gK h;exact ⟨v,s,h3,xK h1 h2⟩
  ·exact h.elim
 case h_5 t n parts ho=>
  unfold Kf at h;split at h
  ·rename_i p v new hr;rw [←ho] at hr;exact ⟨v,_,h.2,om hr h.1 σ (fun _ _ h=>h)⟩
  ·split at h
   ·rename_i p v s hr;exact ⟨v,s,h.2,zB (fun g' σ' v' s' p' hp'=>zB (fun g' σ' v' s' p' hp'=>zB (fun g' σ' v' s' p' hp'=>Pv ho hp') hp') hp') hr h.1⟩
   ·exact h.elim
 case h_6 _ _ _ _ _=>
  obtain ⟨p,v,s,h1,h2,h3⟩:=gK h;exact ⟨v,s,h3,xK h1 h2⟩
theorem dF (id:Nat):pE id []:=fun _ _ h=>by simp [ak.get] at h
theorem nG {op:Op} {p:Prop} {v:V} {new:ak} (h:bg P op g σ id=some (p,v,new)):pE id new:=by
 unfold bg at h;split at h
 ·injection h with h;injection h with _ h;injection h with _ h;subst h;exact dF id
 ·obtain ⟨blk,rfl⟩:=JX h;intro j b hj;simp only [ak.get] at hj;split at hj
  ·omega
  ·cases hj
theorem eK (h:aZ P G o.op g σ id K) : ∃v new,K v new∧pE id new∧gt P G o g σ id v new:=by
 unfold aZ at h;split at h;case h_1 c x y ho=>
  obtain ⟨v,h1,h2⟩:=tc (G:=G) ho h;exact ⟨v,[],h1,dF id,fun s _=>by simpa using h2 s id⟩
 case h_2 t x ho=>
  obtain ⟨v,h1,h2⟩:=BS (G:=G) ho h id;exact ⟨v,[],h1,dF id,h2⟩
 case h_3 c ho=>
  split at h
  ·rename_i f hc;unfold bC at h;split at h
   ·rename_i k caps hk;obtain ⟨v,new,h1,h2⟩:=h;have hcal : ∀w I β x,aL w I β (g f) x → ∃cv:List Value,x = .func (.func k) #[] cv.toArray∧cU w I β (caps.map .d) cv:=fun w I β x hd=>by
     rw [hk] at hd;obtain ⟨k',caps',e1,e2⟩:=fb (w:=w) (I:=I) (β:=β) (x:=x) (v:= .d (.fn k caps)) (K:=fun a b=>a=k∧b=caps.map .d) ⟨rfl,rfl⟩;obtain ⟨rfl,rfl⟩:=e1;exact e2 hd
    rcases h2 with ⟨h2,hn,h3⟩|⟨h2,rfl⟩
    ·exact ⟨v,new,h1,hn,fun s hs=>mW ho hc h2 (h3 s hs) hcal⟩
    ·exact ⟨v,[],h1,dF id,fun s hs=>by simpa using qI ho hc h2 hcal s id⟩
   ·rename_i k caps hk;obtain ⟨v,new,h1,h2⟩:=h;have hcal : ∀w I β x,aL w I β (g f) x → ∃cv:List Value,x = .func (.func k) #[] cv.toArray∧cU w I β caps cv:=fun w I β x hd=>by
     rw [hk] at hd;obtain ⟨k',caps',e1,e2⟩:=fb (w:=w) (I:=I) (β:=β) (x:=x) (v:= .fn k caps) (K:=fun a b=>a=k∧b=caps) ⟨rfl,rfl⟩;obtain ⟨rfl,rfl⟩:=e1;exact e2 hd
    rcases h2 with ⟨h2,hn,h3⟩|⟨h2,rfl⟩
    ·exact ⟨v,new,h1,hn,fun s hs=>mW ho hc h2 (h3 s hs) hcal⟩
    ·exact ⟨v,[],h1,dF id,fun s hs=>by simpa using qI ho hc h2 hcal s id⟩
   ·exact h.elim
   ·rename_i k fs hk;obtain ⟨v,new,h1,h2⟩:=h;have hcal : ∀w I β x,aL w I β (g f) x → ∃pv cv:List Value,x = .func (.func k) pv.toArray cv.toArray∧cU w I β (fs.map .d) pv∧cU w I β [] cv:=fun w I β x hd=>wF (hk▸hd)
    rcases h2 with ⟨h2,hn,h3⟩|⟨h2,rfl⟩
    ·exact ⟨v,new,h1,hn,fun s hs=>ow ho hc h2 (h3 s hs) hcal⟩
    ·exact ⟨v,[],h1,dF id,fun s hs=>by simpa using sj ho hc h2 hcal s id⟩
   ·exact h.elim
  ·obtain ⟨p,v,s,h1,h2,h3⟩:=gK h;exact ⟨v,s,h3,nG h1,mz h1 h2⟩
  ·exact h.elim
 case h_4 _ _ _=>
  obtain ⟨p,v,s,h1,h2,h3⟩:=gK h;exact ⟨v,s,h3,nG h1,mz h1 h2⟩
end
def aO.put (e:aO) (t:Nat) (v:V):aO:=(t,v)::e
def aO.putO (e:aO) (t:Option Nat) (v:V):aO:=match t with
 | some d=>e.put d v
 | none=>e
def Nt (k:Nat):List Nat→Option (List Nat)
 | []=>none
 | x::r=>if x=k then some r else (Nt k r).map (x :: ·)
def aO.keep:List Nat→aO→aO
 | _,[]=>[]
 | lv,(k,v)::r=>match Nt k lv with
  | some lv'=>(k,v)::aO.keep lv' r
  | none=>aO.keep lv r
theorem aO.get_put (e:aO) (t:Nat) (v:V) (j:Nat):(e.put t v).get j=if t=j then v else e.get j:=rfl
theorem Cx : ∀ {k:Nat} {lv:List Nat},Nt k lv=none→k∉lv
 | k,[],_=>by simp
 | k,x::r,h=>by
  unfold Nt at h;split at h
  ·cases h
  ·rename_i hx;have:Nt k r=none:=by simpa using h
   simp only [abi,not_or];exact ⟨fun e=>hx e.symm,Cx this⟩
theorem Cy : ∀ {k:Nat} {lv lv':List Nat},Nt k lv=some lv' → ∀x,x∈lv'→x∈lv
 | k,[],_,h=>by cases h
 | k,y::r,lv',h=>by
  unfold Nt at h;split at h
  ·injection h with h;subst h;intro x hx;exact abd _ hx
  ·simp only [aaZ] at h;obtain ⟨l,hl,rfl⟩:=h;intro x hx;rcases abi.1 hx with rfl|hx
   ·exact abj
   ·exact abd _ (Cy hl x hx)
theorem aO.keep_out : ∀(e:aO) (lv:List Nat) (k:Nat),k∉lv→(aO.keep lv e).get k = .unk
 | [],lv,k,_=>by cases lv<;>rfl
 | (k',v)::r,lv,k,h=>by
  unfold aO.keep;split
  ·rename_i lv' h';have hk:k'≠k:=by
    rintro rfl;apply h;have : ∀ {l l':List Nat},Nt k' l=some l'→k'∈l:=by
     intro l;induction l with
     | nil=>intro l' h;cases h
     | cons y r ih=>
      intro l' h;unfold Nt at h;split at h
      ·rename_i e;subst e;exact abj
      ·simp only [aaZ] at h;obtain ⟨q,hq,_⟩:=h;exact abd _ (ih hq)
    exact this h'
   show (if k'=k then v else (aO.keep lv' r).get k) = .unk;rw [aaY hk];exact aO.keep_out r lv' k (fun hm=>h (Cy h' k hm))
  ·exact aO.keep_out r lv k h
theorem aO.get_keep : ∀(lv:List Nat) (e:aO) (j:Nat),(aO.keep lv e).get j=e.get j∨(aO.keep lv e).get j = .unk
 | lv,[],j=>by cases lv<;>exact .inl rfl
 | lv,(k,v)::r,j=>by
  unfold aO.keep;split
  ·rename_i lv' h';show (if k=j then v else (aO.keep lv' r).get j)=(if k=j then v else aO.get r j)∨(if k=j then v else (aO.keep lv' r).get j) = .unk;split
   ·exact .inl rfl
   ·exact aO.get_keep lv' r j
  ·rename_i h';by_cases hk:k=j
   ·subst hk;exact .inr (aO.keep_out r lv k (Cx h'))
   ·show (aO.keep lv r).get j=(if k=j then v else aO.get r j)∨_;rw [aaY hk];exact aO.get_keep lv r j
structure St where
 env:aO
 sg:ak
 nx:Nat
structure uP where
 w:World
 I:Nat→Prop
 β:co
 σ:ak
 nx:Nat
 n:Nat
 free : ∀id,nx≤id→β id=none
 hd:List (Nat × Obj)
def j2 (n:Nat) (hd:List (Nat × Obj)) (w:World) (I:Nat→Prop) (β:co) (σ:ak) (ds:List Deferred):Prop:=
 (∃Ds:List Nat,ds=Ds.map (fun D =>{ target:= .collected D,args :=#[] })∧Ds.Nodup ∧ ∀D∈Ds,n≤D∧w.heap[D]? = some (.deferred (some [])) ∧ ¬I D ∧ ¬bK σ β D) ∧
 ∀p∈hd,w.heap[p.1]? = some p.2 ∧ ¬I p.1 ∧ ¬bK σ β p.1
section
variable {n:Nat} {hd:List (Nat × Obj)} {w w':World} {I I':Nat→Prop} {β β':co} {σ σ':ak} {nx nx':Nat} {ds:List Deferred}
theorem j2.nil:j2 n [] w I β σ []:=⟨⟨[],rfl,adQ,fun D h=>by cases h⟩,fun p h=>by cases h⟩
theorem j2.sub (h:j2 n hd w I β σ ds) (ho : ∀b,bK σ' β' b→bK σ β b) (hi : ∀b,I' b→I b∨bK σ β b):j2 n hd w I' β' σ' ds:=by
 obtain ⟨⟨Ds,h1,h2,h3⟩,h4⟩:=h;have key : ∀D,¬I D → ¬bK σ β D → ¬I' D ∧ ¬bK σ' β' D:=fun D q3 q4=>⟨fun h=>by rcases hi D h with h|h;exact q3 h;exact q4 h,fun h=>q4 (ho D h)⟩
 refine ⟨⟨Ds,h1,h2,fun D hD =>?_⟩,fun p hp =>?_⟩
 ·obtain ⟨q1,q2,q3,q4⟩:=h3 D hD;exact ⟨q1,q2,key D q3 q4⟩
 ·obtain ⟨q1,q2,q3⟩:=h4 p hp;exact ⟨q1,key _ q2 q3⟩
theorem j2.congr (h:j2 n hd w I β σ ds) (hs : ∀k,σ'.get k=σ.get k):j2 n hd w I β σ' ds:=
 h.sub (fun b ⟨id,blk,c,g1,g2⟩=>⟨id,blk,c,by rw [←hs];exact g1,g2⟩) (fun b h=> .inl h)
theorem jy {b:Nat} {o:Obj} (h:w.heap[b]? = some o):b<w.heap.size:=by
 rcases aa2 b w.heap.size with g|g
 ·exact g
 ·rw [ac1 g] at h;cases h
theorem ay.hid (hs:ay w I β σ nx w' I' β' σ' nx') {b:Nat} {o:Obj} (h:w.heap[b]? = some o) (hI : ¬I b) (ho : ¬bK σ β b):w'.heap[b]? = some o ∧ ¬I' b ∧ ¬bK σ' β' b:=by
 have hlt:=jy h;refine ⟨(hs.block b hlt ho).trans h,fun h =>?_,fun h =>?_⟩
 ·rcases hs.immn b h with h|h|h
  ·exact hI h
  ·exact ho h
  ·omega
 ·rcases hs.own' b h with h|h
  ·exact ho h
  ·omega
theorem j2.step (h:j2 n hd w I β σ ds) (hs:ay w I β σ nx w' I' β' σ' nx'):j2 n hd w' I' β' σ' ds:=by
 obtain ⟨⟨Ds,h1,h2,h3⟩,h4⟩:=h;refine ⟨⟨Ds,h1,h2,fun D hD =>?_⟩,fun p hp =>?_⟩
 ·obtain ⟨q1,q2,q3,q4⟩:=h3 D hD;exact ⟨q1,hs.hid q2 q3 q4⟩
 ·obtain ⟨q1,q2,q3⟩:=h4 p hp;exact hs.hid q1 q2 q3
end
def ft (C:uP) (G:Gl) (e:aO) (σ:ak) (nx lim:Nat) (a:Act) (w:World):Prop:=
 ∃I β,ay C.w C.I C.β C.σ C.nx w I β σ nx∧(∀j,lim≤j→β j=none)∧(∀t,aL w I β (e.get t) (a.tmps.getD t undef))∧a.tmps.size=C.n∧j2 C.w.heap.size C.hd w I β σ a.defers∧GY G w I
def qD (C:uP) (G:Gl) (st:St) (a:Act) (w:World):Prop:=ft C G st.env st.sg st.nx st.nx a w
def rA (v:V) (K:Bool→Prop):Prop:=match v with
 | .d (.lit (.bool b))=>K b
 | _=>mO v
def qq (v:V) (K:Bool→Prop) (no:Prop):Prop:=match v with
 | .d (.lit (.bool b))=>K b
 | .tup []=>no
 | _=>mO v
def cL (ops:Array Oper) (o:Oper) (e:aO) (yes no:aO→Prop):Prop:=match o.guard with
 | none=>yes e
 | some (j,want)=>cG ((ops[j]?).bind (·.dst)) fun d=>qq (e.get d) (fun b=>
  jT b (if want=true then yes (e.put d (.d (.lit (.bool true)))) else no (e.put d (.d (.lit (.bool true))))) (if want=true then no (e.put d (.d (.lit (.bool false)))) else yes (e.put d (.d (.lit (.bool false)))))) (no e)
def nC (P:Program) (G:Gl) (ops:Array Oper) (base:Nat):Nat→List Oper→aO→ak→(aO→ak→Prop)→Prop
 | _,[],e,σ,K=>K e σ
 | i,o::r,e,σ,K=>cL ops o e
  (fun e=>aT P G o.op (eO G e.get) σ (base+4*i) fun v σ'=>nC P G ops base (i+1) r (e.putO o.dst v) σ' K)
  (fun e=>nC P G ops base (i+1) r (e.putO o.dst (.tup [])) σ K)
section
variable {P:Program} {G:Gl} {C:uP} {ops:Array Oper} {Q:Exit→Act→World→Prop} {fr:Option Nat}
theorem qH {w:World} {I:Nat→Prop} {β:co} {e:aO} {a:Act} (he : ∀t,aL w I β (e.get t) (a.tmps.getD t undef)) (hG:GY G w I) (x:Operand):aL w I β (eO G e.get x) (a.eval x):=by
 cases x with
 | tmp t=>exact he t
 | const v=>exact ax.lit v
 | global g=>
  show aL w I β (match G g with|some x=> .d x|none=> .unk) _;cases h:G g with
  | none=>trivial
  | some x=>exact hG g x h
 | func f=>exact ax.fn f [] [] rfl (by simp)
theorem Bq {a:Act} {d t:Nat} {v:Value} (h:d<a.tmps.size):(a.put (some d) v).tmps.getD t undef=if d=t then v else a.tmps.getD t undef:=by
 simp only [Act.put,abE,adD];by_cases e:d=t
 ·subst e;simp [h]
 ·simp [e]
theorem yz {w:World} {I:Nat→Prop} {β:co} {e:aO} {a:Act} (he : ∀t,aL w I β (e.get t) (a.tmps.getD t undef)) {d:Option Nat} (hd : ∀x,d=some x→x<a.tmps.size) {v:V} {u:Value} (hv:aL w I β v u) :
 ∀t,aL w I β ((e.putO d v).get t) ((a.put d u).tmps.getD t undef):=by
 intro t;cases d with
 | none=>exact he t
 | some d=>
  rw [Bq (hd d rfl)];simp only [aO.putO,aO.get_put];split
  ·exact hv
  ·exact he t
theorem i6 {a:Act} {d:Option Nat} {v:Value} : (a.put d v).tmps.size=a.tmps.size:=by cases d<;>simp [Act.put]
theorem fm {a:Act} {d:Option Nat} {v:Value} : (a.put d v).defers=a.defers:=by cases d<;>rfl
theorem GY.step {w w':World} {I I':Nat→Prop} {β β':co} {σ σ':ak} {nx nx':Nat} (h:GY G w I) (hm:de w I β σ nx) (hs:ay w I β σ nx w' I' β' σ' nx'):GY G w' I':=fun g x hg=>hs.denD hm (h g x hg)
theorem de.bump {w:World} {I:Nat→Prop} {β:co} {σ:ak} {nx nx':Nat} (h:de w I β σ nx) (hn:nx≤nx'):de w I β σ nx':=⟨h.own,h.inj,fun id hid=>h.free id (by omega),h.lt⟩
theorem ay.bump {w w':World} {I I':Nat→Prop} {β β':co} {σ σ':ak} {nx nx' nx'':Nat} (h:ay w I β σ nx w' I' β' σ' nx') (hn:nx'≤nx''):ay w I β σ nx w' I' β' σ' nx'' :={ h with mem:=h.mem.bump hn,nx:=by have:=h.nx;omega }
theorem ov {b:Bool} {p q r:Prop} (h:jT b p q) (h1:b=true→p→r) (h2:b=false→q→r):r:=by
 cases b with
 | true=>exact h1 rfl (h.1 rfl)
 | false=>exact h2 rfl (h.2 rfl)
theorem Fv {a:Act} {w:World} {I:Nat→Prop} {β:co} {e:aO} (he : ∀t,aL w I β (e.get t) (a.tmps.getD t undef)) {j d:Nat} {b:Bool} (hd:(ops[j]?).bind (·.dst)=some d) (hb:e.get d = .d (.lit (.bool b))):yielded ops a.tmps j=some b:=by
 have h1:=he d;rw [hb] at h1;have h2:=aA h1;have h3:a.tmps[d]? = some (.bool b):=by
  cases h:a.tmps[d]? with
  | none=>simp [abE,h,undef] at h2
  | some x=>simp [abE,h] at h2;rw [h2]
 unfold yielded;rw [hd];show (match (a.tmps[d]? : Option Value) with|some (.bool b)=>some b|_=>none)=some b;rw [h3]
theorem A4 {w:World} {I:Nat→Prop} {β:co} {e:aO} {a:Act} (he : ∀t,aL w I β (e.get t) (a.tmps.getD t undef)) {d:Nat} {b c:Bool} (hb:e.get d = .d (.lit (.bool b))) (hbc:b=c) : ∀t,aL w I β ((e.put d (.d (.lit (.bool c)))).get t) (a.tmps.getD t undef):=by
 intro t;rw [aO.get_put];split
 ·rename_i h;subst h;subst hbc;rw [←hb];exact he d
 ·exact he t
theorem A5 {w:World} {I:Nat→Prop} {β:co} {x:Value} (h:aL w I β (.tup []) x):x=undef:=by
 obtain ⟨vs,rfl,hl,_⟩:=h;have:vs=[]:=abu (by simpa using hl.symm);subst this;rfl
theorem CI {w:World} {I:Nat→Prop} {β:co} : aL w I β (.tup []) undef:=⟨[],rfl,rfl,by simp⟩
theorem lV {tmps:Array Value} {j d:Nat} (hd:(ops[j]?).bind (·.dst)=some d) (h:tmps.getD d undef=undef):yielded ops tmps j=none:=by
 unfold yielded;rw [hd];show (match (tmps[d]? : Option Value) with|some (.bool b)=>some b|_=>none)=none;cases hx:tmps[d]? with
 | none=>rfl
 | some x=>
  simp [abE,hx] at h;subst h;rfl
theorem yQ {o:Oper} {e:aO} {yes no:aO→Prop} (h:cL ops o e yes no) : ∃e' b,(∀w I β (a:Act),(∀t,aL w I β (e.get t) (a.tmps.getD t undef))→(∀t,aL w I β (e'.get t) (a.tmps.getD t undef))∧Region.wanted o (yielded ops a.tmps)=b)∧(b=true→yes e')∧(b=false→no e'):=by
 unfold cL at h;split at h
 ·rename_i hg;exact ⟨e,true,fun w I β a he=>⟨he,by simp [Region.wanted,hg]⟩,fun _=>h,fun h=>by cases h⟩
 ·rename_i j want hg;obtain ⟨d,hd,h⟩:=dw h;unfold qq at h;split at h
  ·rename_i b hb;have hw : ∀w I β (a:Act),(∀t,aL w I β (e.get t) (a.tmps.getD t undef))→Region.wanted o (yielded ops a.tmps)=(b==want):=fun w I β a he=>by
    have:=Fv (ops:=ops) he hd hb;simp [Region.wanted,hg,this]
   refine ov h (fun e1 h9 =>?_) (fun e1 h9 =>?_)
   ·subst e1;refine ⟨_,want,fun w I β a he=>⟨A4 he hb rfl,by rw [hw w I β a he];cases want<;>rfl⟩,fun hh =>?_,fun hh =>?_⟩
    ·subst hh;simpa using h9
    ·subst hh;simpa using h9
   ·subst e1;refine ⟨_,!want,fun w I β a he=>⟨A4 he hb rfl,by rw [hw w I β a he];cases want<;>rfl⟩,fun hh =>?_,fun hh =>?_⟩
    ·have:want=false:=by simpa using hh
     subst this;simpa using h9
    ·have:want=true:=by simpa using hh
     subst this;simpa using h9
  ·rename_i hb;refine ⟨e,false,fun w I β a he=>⟨he,?_⟩,fun hh=>(by cases hh),fun _=>h⟩;have h1:=he d;rw [hb] at h1;simp [Region.wanted,hg,lV hd (A5 h1)]
  ·exact h.elim
theorem jC {base nx:Nat} (hn:base+4*ops.size≤nx) (hdst : ∀(i:Nat) o x,ops[i]? = some o→o.dst=some x→x<C.n) {K:aO→ak→Prop} (hQ : ∀e σ a w,K e σ→ft C G e σ nx (base+4*ops.size) a w→Q .normal a w) :
 ∀(r:List Oper) (i:Nat) (e:aO) (σ:ak) (a:Act) (w:World),ops.toList.drop i=r→nC P G ops base i r e σ K→ft C G e σ nx (base+4*i) a w→i≤ops.size→wpOpsIn (Fr fr) 0 P ops Q (List.range' i (ops.size - i)) a w
 | [],i,e,σ,a,w,hr,h,hrel,hi=>by
  have hsz:ops.size≤i:=by
   have:=congrArg List.length hr;simp at this;omega
  have:i=ops.size:=by omega
  subst this;rw [ac4];exact hQ e σ a w h hrel
 | o::r,i,e,σ,a,w,hr,h,hrel,hi=>by
  have hlt:i<ops.size:=by
   have:=congrArg List.length hr;simp at this;omega
  have ho:ops[i]? = some o:=by
   have:ops.toList[i]? = some o:=by
    have h1:(ops.toList.drop i)[0]? = some o:=by rw [hr];rfl
    rwa [abJ,abD] at h1
   simpa using this
  have hr':ops.toList.drop (i+1)=r:=by
   rw [←acm,hr];rfl
  have hrange:List.range' i (ops.size - i)=i::List.range' (i+1) (ops.size - (i+1)):=by
   rw [show ops.size - i=(ops.size - (i+1))+1 from by omega,List.range'_succ]
  rw [hrange,wpOpsIn_cons];unfold wpOpIn;rw [ho];simp only [];obtain ⟨I,β,hst,hfr,hen,hsz,hdf,hG⟩:=hrel;obtain ⟨e',b,g1,g2,g3⟩:=yQ (show cL ops o e _ _ from h);obtain ⟨hen',hw⟩:=g1 w I β a hen;rw [hw];cases b with
  | true=>
   rw [aa3 rfl];obtain ⟨v,σ',hK,hsem⟩:=et (g2 rfl);have hd:=hsem w I β nx a hst.mem hG (fun j hj _=>hfr j hj) (by omega) (fun x _=>qH hen' hG x);refine hd.wpIn (fun u w' ⟨I',β',hu,hst',hfr'⟩ =>?_);refine jC hn hdst hQ r (i+1) _ σ' _ w' hr' hK ⟨I',β',hst.trans hst',fun j hj =>?_,yz (fun t=>hst'.den hst.mem (hen' t)) (fun x hx=>by rw [hsz];exact hdst i o x ho hx) hu,by rw [i6];exact hsz,by rw [fm];exact hdf.step hst',hG.step hst.mem hst'⟩ (by omega);rw [hfr' j (by omega)];exact hfr j (by omega)
  | false=>
   rw [aaY (by simp)];refine ⟨fun _ _=>trivial,?_⟩;refine jC hn hdst hQ r (i+1) _ σ _ w hr' (g3 rfl) ⟨I,β,hst,fun j hj=>hfr j (by omega),yz hen' (fun x hx=>by rw [hsz];exact hdst i o x ho hx) CI,by rw [i6];exact hsz,by rw [fm];exact hdf,hG⟩ (by omega)
end
def BE:Op→Bool
 | .store _ _ _=>true
 | .next _ _=>true
 | .mapUpdate _ _ _ _=>true
 | .lookup _ _ _ _=>true
 | .call c=>match c.callee with
  | .builtin .append=>true
  | .builtin .copy=>true
  | .builtin .clear=>true
  | .builtin .unsafeString=>true
  | _=>false
 | _=>false
def yX:Op→Bool
 | .move _ | .assign _ | .nilCheck _ | .binOp _ _ _ _ _ | .unOp _ _ _ | .convert _ _ _ | .makeInterface _ _ | .makeFunc _ _ _ | .slice _ _ _ _ _ | .fieldAddr _ _ _ | .field _ _ _ | .indexAddr _ _ _ | .index _ _ _ | .typeAssert _ _ _ _ | .extract _ _ | .build _ _ | .pick _ _ _=>true
 | .call c=>match c.callee with
  | .builtin .len=>true
  | .builtin .max=>true
  | .builtin .min=>true
  | _=>false
 | _=>false
def xo (lo:List Nat) (i:Nat) (op:Op):Bool:=yX op||lo.contains i
def dD:Op→Bool
 | .call c=>match c.callee with
  | .value _=>true
  | _=>false
 | _=>false
def Ql (acc:List Nat) (es:List Edge):Nat:=es.foldl (fun s e=>if Region.binds .any e=true then s ||| 2 ^ e.on ||| acc.getD e.on 0 else s) 0
def lY (acc:List Nat):List Oper→List Nat
 | []=>acc
 | o::r=>lY (acc++[Ql acc o.after.toList]) r
def gI (ops:Array Oper) (o:Oper):List Nat:=o.dst.toList++o.looksAt ops
def FP (o:Oper) (l:List Nat):Bool:=match o.dst with
 | some d=>l.contains d
 | none=>false
def j5 (lo:List Nat) (ops:Array Oper) (i:Nat) (x:Oper) (j:Nat) (y:Oper):Bool:=FP x (gI ops y)||FP y (gI ops x)||(BE x.op && !xo lo j y.op)||(BE y.op && !xo lo i x.op)
def FR (i:Nat) (o:Oper):Bool:=o.after.toList.all fun e=> !Region.binds .any e||decide (e.on<i)
def s8 (lo:List Nat) (ops:Array Oper) (B:List Nat) (y:Oper) (j:Nat):Nat→List Oper→Bool
 | _,[]=>true
 | i,x::r=>if i<j then (!j5 lo ops i x j y||(B.getD j 0).testBit i)&&s8 lo ops B y j (i+1) r else true
def FA (lo:List Nat) (ops:Array Oper) (B:List Nat) (l:List Oper):Nat→List Oper→Bool
 | _,[]=>true
 | j,y::r=>FR j y&&s8 lo ops B y j 0 l&&FA lo ops B l (j+1) r
def cI (lo:List Nat) (ops:Array Oper):Bool:=FA lo ops (lY [] ops.toList) ops.toList 0 ops.toList
def Et:Nat→List Oper→List Nat
 | _,[]=>[]
 | i,o::r=>(match o.op with | .load _ _=>[i]|_=>[])++Et (i+1) r
def y8 (ops:Array Oper):List Nat:=Et 0 ops.toList
def vb (lo:List Nat):Nat→List Oper→Bool
 | _,[]=>true
 | i,o::r=>(!lo.contains i||(!BE o.op && !dD o.op))&&vb lo (i+1) r
theorem Ik {lo:List Nat} (l:List Oper) : ∀(i:Nat),vb lo i l=true → ∀(k:Nat) x,l[k]? = some x→lo.contains (i+k)=true→BE x.op=false∧dD x.op=false:=by
 induction l with
 | nil=>intro i _ k x hx;simp at hx
 | cons y r ih=>
  intro i h k x hx hc;simp only [vb,aa8,abP,acb] at h;cases k with
  | zero=>
   simp at hx;subst hx;rw [abD] at hc;rcases h.1 with h1|h1
   ·rw [hc] at h1;cases h1
   ·exact h1
  | succ k=>exact ih (i+1) h.2 k x (by simpa using hx) (by rw [show i+1+k=i+(k+1) from by omega];exact hc)
def Gg (lo B:List Nat) (i:Nat):Nat→List Oper→Bool
 | _,[]=>true
 | j,x::r=>(xo lo j x.op||(if j=i then true else if j<i then (B.getD i 0).testBit j else (B.getD j 0).testBit i))&&Gg lo B i (j+1) r
def gG (lo:List Nat) (ops:Array Oper) (i:Nat):Bool:=Gg lo (lY [] ops.toList) i 0 ops.toList
theorem Em {lo B:List Nat} {i:Nat} (l:List Oper) : ∀(j:Nat),Gg lo B i j l=true → ∀(k:Nat) x,l[k]? = some x→xo lo (j+k) x.op=false→(j+k<i→(B.getD i 0).testBit (j+k)=true)∧(i<j+k→(B.getD (j+k) 0).testBit i=true):=by
 induction l with
 | nil=>intro j _ k x hx;simp at hx
 | cons y r ih=>
  intro j h k x hx hp;simp only [Gg,aa8,abP] at h;cases k with
  | zero=>
   simp at hx;subst hx;rw [abD] at hp;rcases h.1 with h1|h1
   ·rw [hp] at h1;cases h1
   ·rw [abD];constructor
    ·intro hlt;rw [aaY (by omega),aa3 hlt] at h1;exact h1
    ·intro hlt;rw [aaY (by omega),aaY (by omega)] at h1;exact h1
  | succ k=>
   have:=ih (j+1) h.2 k x (by simpa using hx) (by rw [show j+1+k=j+(k+1) from by omega];exact hp);rw [show j+(k+1)=j+1+k from by omega];exact this
theorem Cb {lo:List Nat} {ops:Array Oper} {B:List Nat} {y:Oper} {j:Nat} (l:List Oper) : ∀(i:Nat),s8 lo ops B y j i l=true → ∀(k:Nat) x,l[k]? = some x→i+k<j→j5 lo ops (i+k) x j y=true→(B.getD j 0).testBit (i+k)=true:=by
 induction l with
 | nil=>intro i h k x hx;simp at hx
 | cons x r ih=>
  intro i h k x' hx hlt hc;unfold s8 at h;rw [aa3 (by omega)] at h;simp only [aa8,abP,acb] at h;cases k with
  | zero=>
   simp at hx;subst hx;rw [abD] at hc ⊢;rcases h.1 with h1|h1
   ·rw [hc] at h1;cases h1
   ·exact h1
  | succ k=>
   have:=ih (i+1) h.2 k x' (by simpa using hx) (by omega) (by rw [show i+1+k=i+(k+1) from by omega];exact hc);rw [show i+(k+1)=i+1+k from by omega];exact this
theorem rm {lo:List Nat} {ops:Array Oper} {B:List Nat} {l:List Oper} (r:List Oper) : ∀(j:Nat),FA lo ops B l j r=true → ∀(k:Nat) y,r[k]? = some y→FR (j+k) y=true∧s8 lo ops B y (j+k) 0 l=true:=by
 induction r with
 | nil=>intro j h k y hy;simp at hy
 | cons y r ih=>
  intro j h k y' hy;simp only [FA,aa8] at h;cases k with
  | zero=>simp at hy;subst hy;exact ⟨h.1.1,h.1.2⟩
  | succ k=>
   have:=ih (j+1) h.2 k y' (by simpa using hy);rw [show j+(k+1)=j+1+k from by omega];exact this
def jZ (ol:List Oper) (S:Nat→Bool):Prop:= ∀(j:Nat) o,ol[j]? = some o→S j=true → ∀e∈o.after.toList,Region.binds .any e=true→S e.on=true
theorem mT {S:Nat→Bool} {acc:List Nat} (hacc : ∀(j:Nat) m,acc[j]? = some m→S j=true → ∀i,m.testBit i=true→S i=true) : ∀(es:List Edge),(∀e∈es,Region.binds .any e=true→S e.on=true) →
 ∀s,(∀i,s.testBit i=true→S i=true) → ∀i,(es.foldl (fun s e=>if Region.binds .any e=true then s ||| 2 ^ e.on ||| acc.getD e.on 0 else s) s).testBit i=true→S i=true
 | [],_,s,hs,i,h=>hs i h
 | e::es,he,s,hs,i,h=>by
  rw [acE] at h;refine mT hacc es (fun x hx=>he x (by simp [hx])) _ (fun k hk =>?_) i h;split at hk
  ·rename_i hb;have hon:=he e (by simp) hb;rw [Nat.testBit_or,Nat.testBit_or] at hk;simp only [abP] at hk;rcases hk with (hk|hk)|hk
   ·exact hs k hk
   ·have:e.on=k:=by
     rw [Nat.testBit_two_pow] at hk;simpa using hk
    rw [←this];exact hon
   ·cases hg:acc[e.on]? with
    | none=>simp [List.getD,hg] at hk
    | some m=>
     simp [List.getD,hg] at hk;exact hacc e.on m hg hon k hk
  ·exact hs k hk
theorem gX {ol:List Oper} {S:Nat→Bool} (hS:jZ ol S) : ∀(r:List Oper) (acc:List Nat),ol.drop acc.length=r→(∀(j:Nat) m,acc[j]? = some m→S j=true → ∀i,m.testBit i=true→S i=true) →
 ∀(j:Nat) m,(lY acc r)[j]? = some m→S j=true → ∀i,m.testBit i=true→S i=true
 | [],acc,_,hacc=>hacc
 | o::r,acc,hd,hacc=>by
  refine gX hS r (acc++[Ql acc o.after.toList]) (by simp;rw [←acm,hd];rfl) (fun j m hj hSj =>?_);rw [acz] at hj;split at hj
  ·exact hacc j m hj hSj
  ·rename_i hge;have hje:j=acc.length:=by
    have:=(aaX.1 hj).1;simp at this;omega
   subst hje;simp at hj;subst hj;have ho:ol[acc.length]? = some o:=by
    have h1:(ol.drop acc.length)[0]? = some o:=by rw [hd];rfl
    rwa [abJ,abD] at h1
   exact mT hacc _ (fun e he hb=>hS _ o ho hSj e he hb) 0 (fun i hi=>by simp at hi)
theorem mS : ∀(r:List Oper) (acc:List Nat),(lY acc r).length=acc.length+r.length
 | [],acc=>by simp [lY]
 | o::r,acc=>by rw [lY,mS];simp;omega
def eW (P:Program) (G:Gl) (lo:List Nat) (ops:Array Oper) (i:Nat) (k:Nat) (args:List V) (σp acc:ak) (id:Nat) (Kq Ke:V→ak→Prop) (_u:Tag Kq:= .mk) (_v:Tag Ke:= .mk) (_w:Tag ops:= .mk) (_h:True:=trivial):Prop:=
 dV P G k args σp id Kq∨(gG lo ops i=true∧au P G k args (σp++acc) id Ke)
def gR (P:Program) (G:Gl) (lo:List Nat) (ops:Array Oper) (i:Nat) (op:Op) (g:Operand→V) (σp acc:ak) (id:Nat) (Kq Ke:V→ak→Prop):Prop:=match op with
 | .call c=>match c.callee with
  | .value f=>bC (g f) (fun k caps=>eW P G lo ops i k (c.args.toList.map g++caps) σp acc id Kq Ke) (fun j=>gG lo ops i=true∧im P G j (c.args.toList.map g) (σp++acc) id Ke) (fun k fs=>eW P G lo ops i k (fs++(c.args.toList.map g++[])) σp acc id Kq Ke)
  | _=>False
 | _=>False
def Iz (new:ak) (K:Prop):Prop:=new=[]∧K
def zC (σk σ:ak) (K:Prop):Prop:=match σk with
 | []=>K
 | σk=>ar σk σ∧K
theorem pc {σk σ:ak} {K:Prop} (h:zC σk σ K):ar σk σ∧K:=by
 unfold zC at h;split at h
 ·exact ⟨fun _ _ hh=>by simp [ak.get] at hh,h⟩
 ·exact h
def ye (lo:List Nat) (ops:Array Oper) (i:Nat):Bool:=lo.all fun j=>((lY [] ops.toList).getD i 0).testBit j
def Lo (lo:List Nat) (ops:Array Oper) (i:Nat) (σk:ak):ak:=if ye lo ops i=true then [] else σk
theorem w5 {lo:List Nat} {ops:Array Oper} {i:Nat} {σk σ:ak} {K:Prop} (h:zC (Lo lo ops i σk) σ K):(ar σk σ∨ye lo ops i=true)∧K:=by
 unfold Lo at h;split at h
 ·rename_i ha;exact ⟨.inr ha,(pc h).2⟩
 ·exact ⟨.inl (pc h).1,(pc h).2⟩
def opsL (P:Program) (G:Gl) (lo:List Nat) (σk:ak) (ops:Array Oper) (base:Nat):Nat→List Oper→aO→ak→ak→(aO→ak→Prop)→Prop
 | _,[],e,σp,acc,K=>K e (σp++acc)
 | i,o::r,e,σp,acc,K=>cL ops o e
  (fun e=>if BE o.op=true then aT P G o.op (eO G e.get) (σp++acc) (base+4*i) fun v σ'=>zC (Lo lo ops i σk) σ' (opsL P G lo σk ops base (i+1) r (e.putO o.dst v) σ' [] K)
   else if dD o.op=true then gR P G lo ops i o.op (eO G e.get) σp acc (base+4*i) (fun v new=>opsL P G lo σk ops base (i+1) r (e.putO o.dst v) σp (acc++new) K) (fun v σ'=>zC (Lo lo ops i σk) σ' (opsL P G lo σk ops base (i+1) r (e.putO o.dst v) σ' [] K))
   else if lo.contains i=true then aZ P G o.op (eO G e.get) σk (base+4*i) fun v new=>Iz new (opsL P G lo σk ops base (i+1) r (e.putO o.dst v) σp acc K)
   else aZ P G o.op (eO G e.get) σp (base+4*i) fun v new=>opsL P G lo σk ops base (i+1) r (e.putO o.dst v) σp (acc++new) K)
  (fun e=>opsL P G lo σk ops base (i+1) r (e.putO o.dst (.tup [])) σp acc K)
def s6 (P:Program) (G:Gl) (ops:Array Oper):=opsL P G [] [] ops
inductive mN where
 | skip
 | p (v:V)
 | q (v:V) (new:ak)
 | e (v:V) (σ':ak)
def mN.val:mN→V
 | .skip=> .tup []
 | .p v=>v
 | .q v _=>v
 | .e v _=>v
def mN.app (r:mN) (σ:ak):ak:=match r with
 | .skip=>σ
 | .p _=>σ
 | .q _ new=>σ++new
 | .e _ σ'=>σ'
section
variable (ol:List Oper) (ρ:Nat→mN) (F0:Nat→V) (σ0:ak) (S:Nat→Bool)
def eS:Nat→Nat→V
 | 0,t=>F0 t
 | j+1,t=>if S j=true∧(ol[j]?).bind (·.dst)=some t then (ρ j).val else eS j t
def sS:Nat→ak
 | 0=>σ0
 | j+1=>if S j=true then (ρ j).app (sS j) else sS j
def bS:Nat→ak
 | 0=>σ0
 | j+1=>match ρ j with
  | .e _ σ'=>σ'
  | _=>bS j
end
abbrev cF:Nat→Bool:=fun _=>true
def DA (P:Program) (G:Gl) (lo:List Nat) (σk:ak) (ops:Array Oper) (base:Nat) (ρ:Nat→mN) (F0:Nat→V) (σ0:ak) (i:Nat):Prop:=
 ∀o,ops.toList[i]? = some o → ∃b,(∀w I β (a:Act),(∀t∈o.looksAt ops,aL w I β (eS ops.toList ρ F0 cF i t) (a.tmps.getD t undef))→Region.wanted o (yielded ops a.tmps)=b) ∧
  match ρ i with
  | .skip=>b=false
  | .p v=>b=true∧xo lo i o.op=true ∧ ∀σ,(lo.contains i=true→ar σk σ)→bB P G o (eO G (eS ops.toList ρ F0 cF i)) σ (base+4*i) v σ
  | .q v new=>b=true∧xo lo i o.op=false∧pE (base+4*i) new∧gt P G o (eO G (eS ops.toList ρ F0 cF i)) (bS ρ σ0 i) (base+4*i) v new
  | .e v σ'=>b=true∧(xo lo i o.op=false∧(BE o.op=true∨gG lo ops i=true)∧(ar σk σ'∨ye lo ops i=true))∧bB P G o (eO G (eS ops.toList ρ F0 cF i)) (sS ρ σ0 cF i) (base+4*i) v σ'
section
variable {ol:List Oper} {ρ ρ':Nat→mN} {F0:Nat→V} {σ0:ak} {S:Nat→Bool}
theorem dQ : ∀ {i:Nat},(∀j,j<i→ρ j=ρ' j) → ∀t,eS ol ρ F0 S i t=eS ol ρ' F0 S i t
 | 0,_,_=>rfl
 | i+1,h,t=>by simp only [eS];rw [h i (by omega),dQ (fun j hj=>h j (by omega))]
theorem ja : ∀ {i:Nat},(∀j,j<i→ρ j=ρ' j)→sS ρ σ0 S i=sS ρ' σ0 S i
 | 0,_=>rfl
 | i+1,h=>by simp only [sS];rw [h i (by omega),ja (fun j hj=>h j (by omega))]
theorem iI : ∀ {i:Nat},(∀j,j<i→ρ j=ρ' j)→bS ρ σ0 i=bS ρ' σ0 i
 | 0,_=>rfl
 | i+1,h=>by simp only [bS];rw [h i (by omega),iI (fun j hj=>h j (by omega))]
theorem DA.congr {P:Program} {G:Gl} {lo:List Nat} {σk:ak} {ops:Array Oper} {base i:Nat} (h : ∀j,j≤i→ρ j=ρ' j) (hl:DA P G lo σk ops base ρ F0 σ0 i):DA P G lo σk ops base ρ' F0 σ0 i:=by
 intro o ho;obtain ⟨b,h1,h2⟩:=hl o ho;have e1:eS ops.toList ρ F0 cF i=eS ops.toList ρ' F0 cF i:=funext fun t=>dQ (fun j hj=>h j (by omega)) t
 have e2:sS ρ σ0 cF i=sS ρ' σ0 cF i:=ja (fun j hj=>h j (by omega));have e3:bS ρ σ0 i=bS ρ' σ0 i:=iI (fun j hj=>h j (by omega));rw [e1,e2,e3,h i (aaV _)] at h2;rw [e1] at h1;exact ⟨b,h1,h2⟩
end
section
variable {P:Program} {G:Gl} {C:uP} {ops:Array Oper} {Q:Exit→Act→World→Prop}
theorem yP {o:Oper} {e:aO} {yes no:aO→Prop} (h:cL ops o e yes no) : ∃e' b,(∀t,e'.get t=e.get t)∧(∀w I β (a:Act),(∀t∈o.looksAt ops,aL w I β (e.get t) (a.tmps.getD t undef))→Region.wanted o (yielded ops a.tmps)=b)∧(b=true→yes e')∧(b=false→no e'):=by
 unfold cL at h;split at h
 ·rename_i hg;exact ⟨e,true,fun _=>rfl,fun w I β a _=>by simp [Region.wanted,hg],fun _=>h,fun h=>by cases h⟩
 ·rename_i j want hg;obtain ⟨d,hd,h⟩:=dw h;unfold qq at h;split at h
  ·rename_i b hb;have hlk:d∈o.looksAt ops:=by simp [Oper.looksAt,hg,hd]
   have hw : ∀w I β (a:Act),(∀t∈o.looksAt ops,aL w I β (e.get t) (a.tmps.getD t undef))→Region.wanted o (yielded ops a.tmps)=(b==want):=fun w I β a he=>by
    have h1:=he d hlk;rw [hb] at h1;have h2:=aA h1;have h3:a.tmps[d]? = some (.bool b):=by
     cases h:a.tmps[d]? with
     | none=>simp [abE,h,undef] at h2
     | some x=>simp [abE,h] at h2;rw [h2]
    have:yielded ops a.tmps j=some b:=by
     unfold yielded;rw [hd];show (match (a.tmps[d]? : Option Value) with|some (.bool b)=>some b|_=>none)=some b;rw [h3]
    simp [Region.wanted,hg,this]
   have hsame : ∀(c:Bool),b=c → ∀t,(e.put d (.d (.lit (.bool c)))).get t=e.get t:=by
    rintro c rfl t;rw [aO.get_put];split
    ·rename_i hh;subst hh;exact hb.symm
    ·rfl
   refine ov h (fun e1 h9 =>?_) (fun e1 h9 =>?_)
   ·refine ⟨_,want,hsame true e1,fun w I β a he=>by rw [hw w I β a he,e1];cases want<;>rfl,fun hh =>?_,fun hh =>?_⟩
    ·subst hh;simpa using h9
    ·subst hh;simpa using h9
   ·refine ⟨_,!want,hsame false e1,fun w I β a he=>by rw [hw w I β a he,e1];cases want<;>rfl,fun hh =>?_,fun hh =>?_⟩
    ·have:want=false:=by simpa using hh
     subst this;simpa using h9
    ·have:want=true:=by simpa using hh
     subst this;simpa using h9
  ·rename_i hb;have hlk:d∈o.looksAt ops:=by simp [Oper.looksAt,hg,hd]
   refine ⟨e,false,fun _=>rfl,fun w I β a he =>?_,fun hh=>(by cases hh),fun _=>h⟩;have h1:=he d hlk;rw [hb] at h1;simp [Region.wanted,hg,lV hd (A5 h1)]
  ·exact h.elim
theorem R0 {op:Op} (h:BE op=true):yX op=false:=by
 cases op<;>simp only [BE,aa9] at h<;>try rfl
 case call c=>
  unfold yX;simp only;split at h<;>first
   | (exfalso;revert h;simp;done)
   | (rename_i hc;simp only [hc])
theorem IQ {o:Oper} {g:Operand→V} {σ:ak} {id:Nat} {K:V→ak→Prop} (hp:yX o.op=true) (h:aZ P G o.op g σ id K) : ∃v,K v [] ∧ ∀σ id,bB P G o g σ id v σ:=by
 have key:fz o.op (bg P o.op g σ id) K→aR P o.op g σ id=none → ∃v,K v [] ∧ ∀σ id,bB P G o g σ id v σ:=by
  intro h1 h2;obtain ⟨p,v,s,e1,e2,e3⟩:=gK h1;unfold bg at e1;split at e1
  ·rename_i p' v' hq;injection e1 with e1;injection e1 with q1 e1;injection e1 with q2 q3;subst q1;subst q2;subst q3;exact ⟨_,e3,fun σ id=>Cm hq e2 σ id⟩
  ·rw [h2] at e1;cases e1
 unfold aZ at h;split at h;case h_1 c x y ho=>
  obtain ⟨v,h1,h2⟩:=tc (G:=G) ho h;exact ⟨v,h1,h2⟩
 case h_2 t x ho=>rw [ho] at hp;cases hp
 case h_3 c ho=>
  have hp':=hp;rw [ho] at hp';unfold yX at hp';simp only at hp';split at h
  ·rename_i f hc;rw [hc] at hp';cases hp'
  ·refine key (by rw [ho] at h ⊢;exact h) ?_;rw [ho];split at hp'<;>first
    | (cases hp';done)
    | (rename_i hc;simp only [aR,hc];done)
  ·exact h.elim
 case h_4 _ _ n3=>
  refine key h ?_;generalize hop:o.op=op at hp;cases op<;>first
   | rfl
   | (cases hp;done)
   | exact (n3 _ hop).elim
theorem At {lo:List Nat} {o:Oper} {g:Operand→V} {i:Nat} {σp acc:ak} {id:Nat} {Kq Ke:V→ak→Prop} (h:gR P G lo ops i o.op g σp acc id Kq Ke) :
 yX o.op=false∧((∃v new,Kq v new∧pE id new∧gt P G o g σp id v new)∨(gG lo ops i=true ∧ ∃v σ',Ke v σ'∧bB P G o g (σp++acc) id v σ')):=by
 unfold gR at h;split at h;case h_1 c ho=>
  split at h
  ·rename_i f hc;refine ⟨by rw [ho];simp only [yX,hc],?_⟩;have q1 : ∀ {K:V→ak→Prop},(bC (g f) (fun k caps=>dV P G k (c.args.toList.map g++caps) σp id K) (fun _=>False) (fun k fs=>dV P G k (fs++(c.args.toList.map g++[])) σp id K))→aZ P G o.op g σp id K:=by
    intro K hh;rw [ho];simp only [aZ,hc];exact hh
   have q2 : ∀ {K:V→ak→Prop},(bC (g f) (fun k caps=>au P G k (c.args.toList.map g++caps) (σp++acc) id K) (fun j=>im P G j (c.args.toList.map g) (σp++acc) id K) (fun k fs=>au P G k (fs++(c.args.toList.map g++[])) (σp++acc) id K))→aT P G o.op g (σp++acc) id K:=by
    intro K hh;rw [ho];simp only [aT,hc];exact hh
   unfold bC at h q1 q2;split at h
   ·rename_i k caps hk;rw [hk] at q1 q2;rcases h with h|⟨hl,h⟩
    ·exact .inl (eK (q1 h))
    ·exact .inr ⟨hl,et (q2 h)⟩
   ·rename_i k caps hk;rw [hk] at q1 q2;rcases h with h|⟨hl,h⟩
    ·exact .inl (eK (q1 h))
    ·exact .inr ⟨hl,et (q2 h)⟩
   ·rename_i j hj;rw [hj] at q2;exact .inr ⟨h.1,et (q2 h.2)⟩
   ·rename_i k caps hk;rw [hk] at q1 q2;rcases h with h|⟨hl,h⟩
    ·exact .inl (eK (q1 h))
    ·exact .inr ⟨hl,et (q2 h)⟩
   ·exact h.elim
  ·exact h.elim
 ·exact h.elim
theorem trace {lo:List Nat} {σk:ak} (hlo : ∀(j:Nat) o,ops.toList[j]? = some o→lo.contains j=true→BE o.op=false∧dD o.op=false) {base:Nat} {F0:Nat→V} {σ0:ak} {K:aO→ak→Prop} : ∀(r:List Oper) (i:Nat) (e:aO) (σp acc:ak) (ρ:Nat→mN),ops.toList.drop i=r→opsL P G lo σk ops base i r e σp acc K→i≤ops.size →
 (∀t,e.get t=eS ops.toList ρ F0 cF i t)→σp=bS ρ σ0 i→σp++acc=sS ρ σ0 cF i→(∀j,j<i→DA P G lo σk ops base ρ F0 σ0 j) →
 ∃ρ' e',(∀j,j<ops.size→DA P G lo σk ops base ρ' F0 σ0 j)∧K e' (sS ρ' σ0 cF ops.size) ∧ ∀t,e'.get t=eS ops.toList ρ' F0 cF ops.size t
 | [],i,e,σp,acc,ρ,hr,h,hi,he,hb,hs,hl=>by
  have:ops.size≤i:=by
   have:=congrArg List.length hr;simp at this;omega
  have:i=ops.size:=by omega
  subst this;refine ⟨ρ,e,hl,?_,he⟩;rw [←hs];exact h
 | o::r,i,e,σp,acc,ρ,hr,h,hi,he,hb,hs,hl=>by
  have hlt:i<ops.size:=by
   have:=congrArg List.length hr;simp at this;omega
  have ho:ops.toList[i]? = some o:=by
   have h1:(ops.toList.drop i)[0]? = some o:=by rw [hr];rfl
   rwa [abJ,abD] at h1
  have hr':ops.toList.drop (i+1)=r:=by
   rw [←acm,hr];rfl
  obtain ⟨e',b,g1,g2,g3,g4⟩:=yP (show cL ops o e _ _ from h);have hee:e'.get=eS ops.toList ρ F0 cF i:=funext fun t=>(g1 t).trans (he t)
  have ext : ∀(rc:mN),∃ρ1:Nat→mN,ρ1 i=rc ∧ ∀j,j<i→ρ j=ρ1 j:=fun rc=>⟨fun j=>if j=i then rc else ρ j,by simp,fun j hj=>by simp [show j≠i by omega]⟩
  have putE : ∀(ρ1:Nat→mN) (v:V),(∀j,j<i→ρ j=ρ1 j)→(ρ1 i).val=v → ∀t,(e'.putO o.dst v).get t=eS ops.toList ρ1 F0 cF (i+1) t:=by
   intro ρ1 v h1 h2 t;simp only [eS,ho,Option.bind_some,h2];rw [←dQ h1,←hee];cases hd:o.dst with
   | none=>simp [aO.putO]
   | some d=>simp [aO.putO,aO.get_put]
  cases b with
  | false=>
   obtain ⟨ρ1,q1,q2⟩:=ext .skip;refine trace hlo r (i+1) _ σp acc ρ1 hr' (g4 rfl) (by omega) (putE ρ1 (.tup []) q2 (by rw [q1];rfl)) (by simp only [bS,q1];rw [←iI q2];exact hb) (by simp only [sS,q1,mN.app,ab0];rw [←ja q2];exact hs) (fun j hj =>?_);rcases aa2 j i with hji|hji
   ·exact (hl j hji).congr (fun k hk=>q2 k (by omega))
   ·have:j=i:=by omega
    subst this;intro o' ho';rw [ho] at ho';injection ho' with ho';subst ho';refine ⟨false,fun w I β a hh=>g2 w I β a (fun t ht =>?_),by rw [q1]⟩;rw [he t,dQ q2];exact hh t ht
  | true=>
   have h5:=g3 rfl;have goE : ∀(v:V) (σ':ak),opsL P G lo σk ops base (i+1) r (e'.putO o.dst v) σ' [] K→bB P G o (eO G e'.get) (σp++acc) (base+4*i) v σ'→xo lo i o.op=false→(BE o.op=true∨gG lo ops i=true)→(ar σk σ'∨ye lo ops i=true) →
    ∃ρ' e',(∀j,j<ops.size→DA P G lo σk ops base ρ' F0 σ0 j)∧K e' (sS ρ' σ0 cF ops.size) ∧ ∀t,e'.get t=eS ops.toList ρ' F0 cF ops.size t:=by
    intro v σ' hK hsem hE1 hE2 hE3;obtain ⟨ρ1,q1,q2⟩:=ext (.e v σ');refine trace hlo r (i+1) _ σ' [] ρ1 hr' hK (by omega) (putE ρ1 v q2 (by rw [q1];rfl)) (by simp only [bS,q1]) (by simp only [sS,q1,mN.app,ab0,abb]) (fun j hj =>?_);rcases aa2 j i with hji|hji
    ·exact (hl j hji).congr (fun k hk=>q2 k (by omega))
    ·have:j=i:=by omega
     subst this;intro o' ho';rw [ho] at ho';injection ho' with ho';subst ho';refine ⟨true,fun w I β a hh=>g2 w I β a (fun t ht =>?_),?_⟩
     ·rw [he t,dQ q2];exact hh t ht
     ·rw [q1];refine ⟨rfl,⟨hE1,hE2,hE3⟩,?_⟩;rw [hee,hs,ja q2] at hsem;rwa [show eS ops.toList ρ F0 cF j=eS ops.toList ρ1 F0 cF j from funext fun t=>dQ q2 t] at hsem
   have goQ : ∀(v:V) (new:ak),opsL P G lo σk ops base (i+1) r (e'.putO o.dst v) σp (acc++new) K→pE (base+4*i) new→gt P G o (eO G e'.get) σp (base+4*i) v new→xo lo i o.op=false →
    ∃ρ' e',(∀j,j<ops.size→DA P G lo σk ops base ρ' F0 σ0 j)∧K e' (sS ρ' σ0 cF ops.size) ∧ ∀t,e'.get t=eS ops.toList ρ' F0 cF ops.size t:=by
    intro v new hK hnew hsem hpr;obtain ⟨ρ1,q1,q2⟩:=ext (.q v new);refine trace hlo r (i+1) _ σp (acc++new) ρ1 hr' hK (by omega) (putE ρ1 v q2 (by rw [q1];rfl)) (by simp only [bS,q1];rw [←iI q2];exact hb) (by simp only [sS,q1,mN.app,ab0];rw [←ja q2,←hs,aba]) (fun j hj =>?_);rcases aa2 j i with hji|hji
    ·exact (hl j hji).congr (fun k hk=>q2 k (by omega))
    ·have:j=i:=by omega
     subst this;intro o' ho';rw [ho] at ho';injection ho' with ho';subst ho';refine ⟨true,fun w I β a hh=>g2 w I β a (fun t ht =>?_),?_⟩
     ·rw [he t,dQ q2];exact hh t ht
     ·rw [q1];refine ⟨rfl,hpr,hnew,?_⟩;rw [hee,hb,iI q2] at hsem;rwa [show eS ops.toList ρ F0 cF j=eS ops.toList ρ1 F0 cF j from funext fun t=>dQ q2 t] at hsem
   have goP : ∀(v:V),opsL P G lo σk ops base (i+1) r (e'.putO o.dst v) σp acc K→xo lo i o.op=true→(∀σ,(lo.contains i=true→ar σk σ)→bB P G o (eO G e'.get) σ (base+4*i) v σ) →
    ∃ρ' e',(∀j,j<ops.size→DA P G lo σk ops base ρ' F0 σ0 j)∧K e' (sS ρ' σ0 cF ops.size) ∧ ∀t,e'.get t=eS ops.toList ρ' F0 cF ops.size t:=by
    intro v hK hpr hsem;obtain ⟨ρ1,q1,q2⟩:=ext (.p v);refine trace hlo r (i+1) _ σp acc ρ1 hr' hK (by omega) (putE ρ1 v q2 (by rw [q1];rfl)) (by simp only [bS,q1];rw [←iI q2];exact hb) (by simp only [sS,q1,mN.app,ab0];rw [←ja q2];exact hs) (fun j hj =>?_);rcases aa2 j i with hji|hji
    ·exact (hl j hji).congr (fun k hk=>q2 k (by omega))
    ·have:j=i:=by omega
     subst this;intro o' ho';rw [ho] at ho';injection ho' with ho';subst ho';refine ⟨true,fun w I β a hh=>g2 w I β a (fun t ht =>?_),?_⟩
     ·rw [he t,dQ q2];exact hh t ht
     ·rw [q1];refine ⟨rfl,hpr,fun σ hσ =>?_⟩;have hsem:=hsem σ hσ;rw [hee] at hsem;rwa [show eS ops.toList ρ F0 cF j=eS ops.toList ρ1 F0 cF j from funext fun t=>dQ q2 t] at hsem
   have prN:lo.contains i=false→yX o.op=false→xo lo i o.op=false:=fun h1 h2=>by unfold xo;rw [h1,h2];rfl
   have loN : ∀b:Bool,(lo.contains i=true→b=false)→b=true→lo.contains i=false:=fun b h1 h2=>by
    cases hc:lo.contains i with
    | false=>rfl
    | true=>rw [h1 hc] at h2;cases h2
   split at h5
   ·rename_i hE;obtain ⟨v,σ',hsK,hsem⟩:=et h5;obtain ⟨hsub,hK⟩:=w5 hsK;exact goE v σ' hK hsem (prN (loN _ (fun hc=>(hlo i o ho hc).1) hE) (R0 hE)) (.inl hE) hsub
   ·rename_i hE;split at h5
    ·rename_i hV;have hN:=loN _ (fun hc=>(hlo i o ho hc).2) hV;obtain ⟨hpr,h6⟩:=At h5;rcases h6 with ⟨v,new,hK,hnew,hsem⟩|⟨hlate,v,σ',hsK,hsem⟩
     ·exact goQ v new hK hnew hsem (prN hN hpr)
     ·obtain ⟨hsub,hK⟩:=w5 hsK;exact goE v σ' hK hsem (prN hN hpr) (.inr hlate) hsub
    ·split at h5
     ·rename_i hL;obtain ⟨v,new,⟨hnil,hK⟩,hnew,hsem⟩:=eK h5;subst hnil;refine goP v hK (by unfold xo;rw [hL];simp) (fun σ hσ =>?_);have:=hsem σ (hσ hL);rwa [abb] at this
     ·rename_i hL;cases hpr:yX o.op with
      | true=>
       obtain ⟨v,hK,hsem⟩:=IQ hpr h5;rw [abb] at hK;exact goP v hK (by unfold xo;rw [hpr];rfl) (fun σ _=>hsem σ _)
      | false=>
       obtain ⟨v,new,hK,hnew,hsem⟩:=eK h5;exact goQ v new hK hnew hsem (prN (by simpa using hL) hpr)
end
section
variable {P:Program} {G:Gl} {C:uP} {ops:Array Oper} {Q:Exit→Act→World→Prop} {ρ:Nat→mN} {F0:Nat→V} {σ0 σk:ak} {base nx:Nat} {lo:List Nat}
theorem nD (hd:cI lo ops=true) {i j:Nat} {x y:Oper} (hx:ops.toList[i]? = some x) (hy:ops.toList[j]? = some y) (hij:i<j) (hc:j5 lo ops i x j y=true) {S:Nat→Bool} (hS:jZ ops.toList S) (hj:S j=true):S i=true:=by
 have h1:=(rm ops.toList 0 hd j y hy).2;rw [acC] at h1;have h2:=Cb ops.toList 0 h1 i x hx (by omega) (by rw [acC];exact hc);rw [acC] at h2;have hl:=mS ops.toList [];have hjl:j<(lY [] ops.toList).length:=by
  have:=(aaX.1 hy).1;rw [hl];simp at this ⊢;omega
 have h3:=gX hS ops.toList [] rfl (by simp) j _ (IO hjl) hj i;apply h3;simpa [List.getD,IO hjl] using h2
def Tot (lo:List Nat) (ops:Array Oper) (i:Nat):Prop:= ∀(j:Nat) x,ops.toList[j]? = some x→xo lo j x.op=false → ∀S:Nat→Bool,jZ ops.toList S→(j<i→S i=true→S j=true)∧(i<j→S j=true→S i=true)
theorem Ar (hd:cI lo ops=true) {i:Nat} {o:Oper} (ho:ops.toList[i]? = some o) (h:BE o.op=true∨gG lo ops i=true):Tot lo ops i:=by
 intro j x hx hpx S hS;rcases h with h|h
 ·exact ⟨fun hlt hi=>nD hd hx ho hlt (by simp [j5,h,hpx]) hS hi,fun hlt hj=>nD hd ho hx hlt (by simp [j5,h,hpx]) hS hj⟩
 ·have h2:=Em ops.toList 0 h j x hx (by rw [acC];exact hpx);rw [acC] at h2;have hl:=mS ops.toList [];have fin : ∀ {a b:Nat},a<ops.toList.length→((lY [] ops.toList).getD a 0).testBit b=true→S a=true→S b=true:=by
   intro a b ha hb hSa;have hal:a<(lY [] ops.toList).length:=by rw [hl];simpa using ha
   exact gX hS ops.toList [] rfl (by simp) a _ (IO hal) hSa b (by simpa [List.getD,IO hal] using hb)
  exact ⟨fun hlt hi=>fin (aaX.1 ho).1 (h2.1 hlt) hi,fun hlt hj=>fin (aaX.1 hx).1 (h2.2 hlt) hj⟩
theorem N9 (hd:cI lo ops=true) {j:Nat} {y:Oper} (hy:ops.toList[j]? = some y) {e:Edge} (he:e∈y.after.toList) (hb:Region.binds .any e=true):e.on<j:=by
 have h1:=(rm ops.toList 0 hd j y hy).1;rw [acC] at h1;have:=abF.1 h1 e he;simpa [hb] using this
theorem A0 {i j:Nat} {x y:Oper} {t:Nat} (h:x.dst=some t) (h':t∈gI ops y):j5 lo ops i x j y=true:=by
 simp [j5,FP,h,h']
theorem HB {i j:Nat} {x y:Oper} {t:Nat} (h:y.dst=some t) (h':t∈gI ops x):j5 lo ops i x j y=true:=by
 simp [j5,FP,h,h']
theorem Iw {x:Oper} {t:Nat} (h:x.dst=some t):t∈gI ops x:=by simp [gI,h]
theorem sT {x:Oper} {t:Nat} (h:t∈x.looksAt ops):t∈gI ops x:=by simp [gI,h]
theorem DA.pr {S:Nat} {o:Oper} (h:DA P G lo σk ops base ρ F0 σ0 S) (ho:ops.toList[S]? = some o) (hp:xo lo S o.op=true) (σ:ak):(ρ S).app σ=σ:=by
 obtain ⟨b,_,hl⟩:=h o ho;cases hr:ρ S with
 | skip=>rfl
 | p v=>rfl
 | q v new=>rw [hr] at hl;rw [hl.2.1] at hp;cases hp
 | e v σ'=>rw [hr] at hl;rw [hl.2.1.1] at hp;cases hp
structure Nx (ops:Array Oper) (S S':Nat→Bool) (i:Nat) (o:Oper):Prop where
 ho:ops.toList[i]? = some o
 not:S i=false
 cl:jZ ops.toList S
 cl':jZ ops.toList S'
 same : ∀j,S' j=if j=i then true else S j
variable {S S':Nat→Bool} {i:Nat} {o:Oper}
theorem Nx.ahead (h:Nx ops S S' i o) (hd:cI lo ops=true) {j:Nat} {x:Oper} (hx:ops.toList[j]? = some x) (hji:j<i) (hc:j5 lo ops j x i o=true):S j=true:=by
 have:=nD hd hx h.ho hji hc h.cl' (by rw [h.same];simp);rw [h.same] at this;simpa [show j≠i by omega] using this
theorem Nx.behind (h:Nx ops S S' i o) (hd:cI lo ops=true) {j:Nat} {x:Oper} (hx:ops.toList[j]? = some x) (hij:i<j) (hc:j5 lo ops i o j x=true):S j=false:=by
 cases hj:S j with
 | false=>rfl
 | true=>
  have:=nD hd h.ho hx hij hc h.cl hj;rw [h.not] at this;cases this
theorem Nx.looks (h:Nx ops S S' i o) (hd:cI lo ops=true) {t:Nat} (ht:t∈gI ops o) : ∀m,eS ops.toList ρ F0 S m t=if m≤i then eS ops.toList ρ F0 cF m t else eS ops.toList ρ F0 cF i t:=by
 intro m;induction m with
 | zero=>simp [eS]
 | succ m ih=>
  by_cases hm:m+1≤i
  ·rw [aa3 hm];rw [aa3 (by omega)] at ih;simp only [eS,ih];by_cases hdt:(ops.toList[m]?).bind (·.dst)=some t
   ·cases hx:ops.toList[m]? with
    | none=>simp [hx] at hdt
    | some x=>
     have hxd:x.dst=some t:=by simpa [hx] using hdt
     have:=h.ahead hd hx (by omega) (A0 hxd ht);simp [this]
   ·rw [aaY (fun e=>hdt e.2),aaY (fun e=>hdt e.2)]
  ·rw [aaY hm];have hmi:eS ops.toList ρ F0 S m t=eS ops.toList ρ F0 cF i t:=by
    rw [ih];by_cases h1:m≤i
    ·have:m=i:=by omega
     subst this;simp
    ·rw [aaY h1]
   simp only [eS];rw [aaY ?_]
   ·exact hmi
   ·rintro ⟨e1,e2⟩;by_cases h1:m=i
    ·subst h1;rw [h.not] at e1;cases e1
    ·cases hx:ops.toList[m]? with
     | none=>simp [hx] at e2
     | some x=>
      have hxd:x.dst=some t:=by simpa [hx] using e2
      have:=h.behind hd hx (by omega) (HB hxd ht);rw [this] at e1;cases e1
theorem Nx.env (h:Nx ops S S' i o) (hd:cI lo ops=true) (t:Nat) : ∀m,eS ops.toList ρ F0 S' m t=if i<m∧o.dst=some t then (ρ i).val else eS ops.toList ρ F0 S m t:=by
 intro m;induction m with
 | zero=>simp [eS]
 | succ m ih=>
  have e1:eS ops.toList ρ F0 S' (m+1) t=if S' m=true∧(ops.toList[m]?).bind (·.dst)=some t then (ρ m).val else eS ops.toList ρ F0 S' m t:=rfl
  have e2:eS ops.toList ρ F0 S (m+1) t=if S m=true∧(ops.toList[m]?).bind (·.dst)=some t then (ρ m).val else eS ops.toList ρ F0 S m t:=rfl
  have e3:=h.same m;rw [e1,e2,ih];rcases acN m i with hlt|heq|hgt
  ·rw [aaY (show ¬m=i by omega)] at e3;have n1 : ¬(i<m∧o.dst=some t):=by omega
   have n2 : ¬(i<m+1∧o.dst=some t):=by omega
   rw [e3,aaY n1,aaY n2]
  ·subst heq;have n1 : ¬(m<m∧o.dst=some t):=by omega
   rw [aa3 rfl] at e3;rw [e3,aaY n1,h.ho,h.not];simp
  ·rw [aaY (show ¬m=i by omega)] at e3;rw [e3];by_cases hdt:o.dst=some t
   ·have hno : ¬(S m=true∧(ops.toList[m]?).bind (·.dst)=some t):=by
     rintro ⟨q1,q2⟩;cases hx:ops.toList[m]? with
     | none=>simp [hx] at q2
     | some x=>
      have hxd:x.dst=some t:=by simpa [hx] using q2
      have:=h.behind hd hx (by omega) (A0 hdt (Iw hxd));rw [this] at q1;cases q1
    rw [aaY hno,aa3 ⟨by omega,hdt⟩,aa3 ⟨by omega,hdt⟩]
   ·rw [aaY (fun e:i<m∧o.dst=some t=>hdt e.2),aaY (fun e:i<m+1∧o.dst=some t=>hdt e.2)]
theorem Nx.under (h:Nx ops S S' i o) (hd:cI lo ops=true) (hop:xo lo i o.op=false) (hloc : ∀j,j<ops.size→DA P G lo σk ops base ρ F0 σ0 j) : ∀m,m≤ops.size → ∃τ,sS ρ σ0 S m=(if m≤i then bS ρ σ0 m else bS ρ σ0 i)++τ:=by
 intro m;induction m with
 | zero=>intro _;exact ⟨[],by simp [sS,bS]⟩
 | succ m ih=>
  intro hm;obtain ⟨τ,hτ⟩:=ih (by omega);have hx : ∃x,ops.toList[m]? = some x:=⟨_,IO (by simp;omega)⟩
  obtain ⟨x,hx⟩:=hx;obtain ⟨b,_,hl⟩:=hloc m (by omega) x hx;by_cases hmi:m+1≤i
  ·rw [aa3 hmi];rw [aa3 (by omega)] at hτ;simp only [sS,bS];cases hr:ρ m with
   | skip=>simp only [mN.app];split<;>exact ⟨τ,hτ⟩
   | p v=>simp only [mN.app];split<;>exact ⟨τ,hτ⟩
   | q v new=>
    simp only [mN.app];split
    ·exact ⟨τ++new,by rw [hτ,aba]⟩
    ·exact ⟨τ,hτ⟩
   | e v σ'=>
    rw [hr] at hl;have hT:=Ar hd hx hl.2.1.2.1;have h9:=(hT i o h.ho hop S' h.cl').2 (by omega) (by rw [h.same];simp);rw [h.same,aaY (by omega)] at h9;rw [aa3 h9];exact ⟨[],by simp [mN.app]⟩
  ·rw [aaY hmi];have hτ':sS ρ σ0 S m=bS ρ σ0 i++τ:=by
    rw [hτ];by_cases h1:m≤i
    ·have:m=i:=by omega
     subst this;simp
    ·rw [aaY h1]
   simp only [sS];by_cases h1:m=i
   ·subst h1;rw [h.not,aaY (by simp)];exact ⟨τ,hτ'⟩
   ·cases hr:ρ m with
    | skip=>simp only [mN.app];split<;>exact ⟨τ,hτ'⟩
    | p v=>simp only [mN.app];split<;>exact ⟨τ,hτ'⟩
    | q v new=>
     simp only [mN.app];split
     ·exact ⟨τ++new,by rw [hτ',aba]⟩
     ·exact ⟨τ,hτ'⟩
    | e v σ'=>
     rw [hr] at hl;have hT:=Ar hd hx hl.2.1.2.1;have this:S m=false:=by
      cases hs:S m with
      | false=>rfl
      | true=>
       have h9:=(hT i o h.ho hop S h.cl).1 (by omega) hs;rw [h.not] at h9;cases h9
     rw [this,aaY (by simp)];exact ⟨τ,hτ'⟩
theorem Nx.early (h:Nx ops S S' i o) : ∀n,n≤i→sS ρ σ0 S' n=sS ρ σ0 S n:=by
 intro n;induction n with
 | zero=>intro _;rfl
 | succ n ihn=>
  intro hn;have e1:sS ρ σ0 S' (n+1)=if S' n=true then (ρ n).app (sS ρ σ0 S' n) else sS ρ σ0 S' n:=rfl
  have e3:=h.same n;rw [aaY (show ¬n=i by omega)] at e3;rw [e1,e3,ihn (by omega)];rfl
theorem Nx.sig (h:Nx ops S S' i o) (hd:cI lo ops=true) {new:ak} (hop:xo lo i o.op=false∨new=[]) (hloc : ∀j,j<ops.size→DA P G lo σk ops base ρ F0 σ0 j) (hq : ∀σ,(ρ i).app σ=σ++new) (hnew:pE (base+4*i) new) : ∀m,m≤ops.size → ∀k,(sS ρ σ0 S' m).get k=if i<m then (sS ρ σ0 S m++new).get k else (sS ρ σ0 S m).get k:=by
 intro m;induction m with
 | zero=>intro _ k;simp [sS]
 | succ m ih=>
  intro hm k;have ih:=ih (by omega);obtain ⟨x,hx⟩ : ∃x,ops.toList[m]? = some x:=⟨_,IO (by simp;omega)⟩
  obtain ⟨b,_,hl⟩:=hloc m (by omega) x hx;rcases acN m i with hlt|heq|hgt
  ·rw [aaY (by omega)];rw [h.early (m+1) (by omega)]
  ·subst heq;rw [aa3 (by omega)];simp only [sS];rw [h.same,aa3 rfl,aa3 rfl,h.not,aaY (by simp),hq,h.early m (aaV _)]
  ·rw [aa3 (by omega)];have ih:=fun k=>(ih k).trans (aa3 hgt)
   have s1:sS ρ σ0 S' (m+1)=if S' m=true then (ρ m).app (sS ρ σ0 S' m) else sS ρ σ0 S' m:=rfl
   have s2:sS ρ σ0 S (m+1)=if S m=true then (ρ m).app (sS ρ σ0 S m) else sS ρ σ0 S m:=rfl
   have e3:=h.same m;rw [aaY (show ¬m=i by omega)] at e3;rw [s1,s2,e3];cases hs:S m with
   | false=>simp only [aa9,ab1];exact ih k
   | true=>
    simp only [ab0];cases hr:ρ m with
    | skip=>exact ih k
    | p v=>exact ih k
    | q v nw=>
     rw [hr] at hl;simp only [mN.app];have hdis : ∀b b',nw.get k=some b→new.get k=some b'→False:=by
      intro b b' h1 h2;have:=hl.2.2.1 k b h1;have:=hnew k b' h2;omega
     have g1:(sS ρ σ0 S' m++nw).get k=match (sS ρ σ0 S' m).get k with|some b=>some b|none=>nw.get k:=b8 _ _ _
     have g2:(sS ρ σ0 S m++nw++new).get k=match (sS ρ σ0 S m++nw).get k with|some b=>some b|none=>new.get k:=b8 _ _ _
     have g3:(sS ρ σ0 S m++nw).get k=match (sS ρ σ0 S m).get k with|some b=>some b|none=>nw.get k:=b8 _ _ _
     have g4:(sS ρ σ0 S m++new).get k=match (sS ρ σ0 S m).get k with|some b=>some b|none=>new.get k:=b8 _ _ _
     rw [g1,g2,g3,ih,g4];cases hg:(sS ρ σ0 S m).get k with
     | some b=>rfl
     | none=>
      simp only [];cases h1:nw.get k with
      | none=>cases new.get k<;>rfl
      | some b1=>
       cases h2:new.get k with
       | none=>rfl
       | some b2=>exact (hdis b1 b2 h1 h2).elim
    | e v σ'=>
     rw [hr] at hl;rcases hop with hop|rfl
     ·have hT:=Ar hd hx hl.2.1.2.1;have h9:=(hT i o h.ho hop S h.cl).1 (by omega) hs;rw [h.not] at h9;cases h9
     ·simp [mN.app]
theorem Nx.eff (h:Nx ops S S' i o) (hloc : ∀j,j<ops.size→DA P G lo σk ops base ρ F0 σ0 j) (hE:xo lo i o.op=false) (hT:Tot lo ops i) : ∀m,m≤ops.size→sS ρ σ0 S m=sS ρ σ0 cF (min m i)∧sS ρ σ0 S' m=if i<m then (ρ i).app (sS ρ σ0 cF i) else sS ρ σ0 cF m:=by
 intro m;induction m with
 | zero=>intro _;simp [sS]
 | succ m ih=>
  intro hm;obtain ⟨ih1,ih2⟩:=ih (by omega);obtain ⟨x,hx⟩ : ∃x,ops.toList[m]? = some x:=⟨_,IO (by simp;omega)⟩
  have s1:sS ρ σ0 S' (m+1)=if S' m=true then (ρ m).app (sS ρ σ0 S' m) else sS ρ σ0 S' m:=rfl
  have s2:sS ρ σ0 S (m+1)=if S m=true then (ρ m).app (sS ρ σ0 S m) else sS ρ σ0 S m:=rfl
  have s3:sS ρ σ0 cF (m+1)=(ρ m).app (sS ρ σ0 cF m):=rfl;have e3:=h.same m;rw [s1,s2,e3];cases hpr:xo lo m x.op with
  | true=>
   have hno:m≠i:=by
    rintro rfl;rw [h.ho] at hx;injection hx with hx;subst hx;rw [hE] at hpr;cases hpr
   have ha:=fun σ=>(hloc m (by omega)).pr hx hpr σ
   rw [aaY hno,ha,ha,s3,ha];have hS : ∀(b:Bool) (σ:ak),(if b=true then σ else σ)=σ:=fun b σ=>by cases b<;>rfl
   rw [hS,hS,ih1,ih2];rcases Nat.lt_or_gt_of_ne hno with hlt|hgt
   ·have e1:min (m+1) i=m+1:=by omega
    have e2:min m i=m:=by omega
    rw [e1,e2,s3,ha,aaY (show ¬i<m by omega),aaY (show ¬i<m+1 by omega)];exact ⟨rfl,rfl⟩
   ·have e1:min (m+1) i=min m i:=by omega
    rw [e1,aa3 (show i<m by omega),aa3 (show i<m+1 by omega)];exact ⟨rfl,rfl⟩
  | false=>
  rcases acN m i with hlt|heq|hgt
  ·have hs:=(hT m x hx hpr S' h.cl').1 hlt (by rw [h.same];simp);rw [h.same,aaY (by omega)] at hs;have e1:min (m+1) i=m+1:=by omega
   have e2:min m i=m:=by omega
   rw [e2] at ih1;rw [aaY (show ¬i<m by omega)] at ih2;rw [e1,aaY (show ¬i<m+1 by omega),aaY (show ¬m=i by omega),hs,s3,ih1,ih2];simp
  ·subst heq;have e1:min (m+1) m=m:=by omega
   have e2:min m m=m:=by omega
   rw [e2] at ih1;rw [aaY (show ¬m<m by omega)] at ih2;rw [e1,aa3 (show m<m+1 by omega),aa3 rfl,h.not,ih1,ih2];simp
  ·have hs:S m=false:=by
    cases hs:S m with
    | false=>rfl
    | true=>
     have h9:=(hT m x hx hpr S h.cl).2 hgt hs;rw [h.not] at h9;cases h9
   have e1:min (m+1) i=min m i:=by omega
   rw [aa3 hgt] at ih2;rw [e1,aa3 (show i<m+1 by omega),aaY (show ¬m=i by omega),hs,ih1,ih2];simp
end
section
variable {P:Program} {G:Gl} {C:uP} {ops:Array Oper} {Q:Exit→Act→World→Prop} {ρ:Nat→mN} {F0:Nat→V} {σ0 σk:ak} {base nx:Nat} {lo:List Nat} {fr:Option Nat}
abbrev dU (listed:Array Bool):Nat→Bool:=fun j=>listed.getD j true
def QZ (C:uP) (G:Gl) (ops:Array Oper) (ρ:Nat→mN) (F0:Nat→V) (σ0:ak) (base nx:Nat) (S:Nat→Bool) (a:Act) (w:World):Prop:=
 ∃I β,ay C.w C.I C.β C.σ C.nx w I β (sS ρ σ0 S ops.size) nx∧(∀j,j<ops.size→S j=false → ∀k,base+4*j≤k→k<base+4*j+4→β k=none)∧(∀k,base+4*ops.size≤k→β k=none) ∧
  (∀t,aL w I β (eS ops.toList ρ F0 S ops.size t) (a.tmps.getD t undef))∧a.tmps.size=C.n∧j2 C.w.heap.size C.hd w I β (sS ρ σ0 S ops.size) a.defers∧GY G w I
theorem I0 {listed:Array Bool} {i:Nat} (h:i∈Region.ready .any ops listed):i<ops.size∧listed.getD i true=false ∧ ∀o,ops[i]? = some o → ∀e∈o.after.toList,Region.binds .any e=true→listed.getD e.on false=true:=by
 unfold Region.ready at h;simp only [acj,adP,aa8,acb] at h;refine ⟨h.1,h.2.1,fun o ho e he hb =>?_⟩;have h2:=h.2.2;rw [ho] at h2;simp only [acT,acA,Array.all_eq_true'] at h2;have:=h2 e (by simpa using he);simpa [hb] using this
theorem Rb {S:Nat→Bool} (hS:jZ ops.toList S) {a b:Nat} (ha:a<ops.toList.length) (h:((lY [] ops.toList).getD a 0).testBit b=true) (hSa:S a=true):S b=true:=by
 have hl:=mS ops.toList [];have hal:a<(lY [] ops.toList).length:=by rw [hl];simpa using ha
 exact gX hS ops.toList [] rfl (by simp) a _ (IO hal) hSa b (by simpa [List.getD,IO hal] using h)
theorem SW (hk:ar σk σ0) (hloc : ∀j,j<ops.size→DA P G lo σk ops base ρ F0 σ0 j) (S:Nat→Bool) (hS : ∀j,j<ops.size→S j=true→ye lo ops j=true→False) : ∀m,m≤ops.size→ar σk (sS ρ σ0 S m):=by
 intro m;induction m with
 | zero=>intro _;exact hk
 | succ m ih=>
  intro hm;have ih:=ih (by omega);obtain ⟨x,hx⟩ : ∃x,ops.toList[m]? = some x:=⟨_,IO (by simp;omega)⟩
  obtain ⟨b,_,hl⟩:=hloc m (by omega) x hx;simp only [sS];split
  ·rename_i hSm;cases hr:ρ m with
   | skip=>exact ih
   | p v=>exact ih
   | q v new=>
    intro j bl hj;show ak.get (sS ρ σ0 S m++new) j=_;rw [b8,ih j bl hj]
   | e v σ'=>
    rw [hr] at hl;rcases hl.2.1.2.2 with h|h
    ·exact h
    ·exact (hS m (by omega) hSm h).elim
  ·exact ih
theorem G6 (hk:ar σk σ0) (hd:cI lo ops=true) (hn:base+4*ops.size≤nx) (hdst : ∀(i:Nat) o x,ops[i]? = some o→o.dst=some x→x<C.n) (hloc : ∀j,j<ops.size→DA P G lo σk ops base ρ F0 σ0 j)
 (hQ : ∀a w,QZ C G ops ρ F0 σ0 base nx cF a w→Q .normal a w) :
 ∀(fuel:Nat) (listed:Array Bool) (a:Act) (w:World),listed.size=ops.size→jZ ops.toList (dU listed)→QZ C G ops ρ F0 σ0 base nx (dU listed) a w→(List.range ops.size).countP (fun j=> !dU listed j)≤fuel→wpAnyIn (Fr fr) 0 P .any ops Q fuel listed a w:=by
 intro fuel;have fin : ∀(listed:Array Bool) (a:Act) (w:World),(∀j,j<ops.size→dU listed j=true)→QZ C G ops ρ F0 σ0 base nx (dU listed) a w→Q .normal a w:=by
  intro listed a w hall hrel;apply hQ;obtain ⟨I,β,h1,h2,h3,h4,h5,h6,h7⟩:=hrel;have e1 : ∀m,m≤ops.size→sS ρ σ0 (dU listed) m=sS ρ σ0 cF m:=by
   intro m;induction m with
   | zero=>intro _;rfl
   | succ m ih=>
    intro hm;have q:sS ρ σ0 (dU listed) (m+1)=if dU listed m=true then (ρ m).app (sS ρ σ0 (dU listed) m) else sS ρ σ0 (dU listed) m:=rfl
    rw [q,hall m (by omega),ih (by omega)];rfl
  have e2 : ∀m,m≤ops.size → ∀t,eS ops.toList ρ F0 (dU listed) m t=eS ops.toList ρ F0 cF m t:=by
   intro m;induction m with
   | zero=>intro _ _;rfl
   | succ m ih=>
    intro hm t;have q:eS ops.toList ρ F0 (dU listed) (m+1) t=if dU listed m=true∧(ops.toList[m]?).bind (·.dst)=some t then (ρ m).val else eS ops.toList ρ F0 (dU listed) m t:=rfl
    rw [q,hall m (by omega),ih (by omega)];rfl
  refine ⟨I,β,by rw [←e1 _ (aaV _)];exact h1,(fun j _ hj=>by cases hj),h3,(fun t=>by rw [←e2 _ (aaV _)];exact h4 t),h5,(by rw [←e1 _ (aaV _)];exact h6),h7⟩
 have done : ∀(listed:Array Bool),listed.size=ops.size→Region.ready .any ops listed=[] → ∀j,j<ops.size→dU listed j=true:=by
  intro listed hsz hr j;induction j using Nat.strongRecOn with
  | _ j ih=>
   intro hj;cases hl:dU listed j with
   | true=>rfl
   | false=>
    exfalso;have hoj:ops[j]? = some ops[j]:=by simp [hj]
    have:j∈Region.ready .any ops listed:=by
     unfold Region.ready;simp only [acj,adP,aa8,acb];refine ⟨hj,hl,?_⟩;rw [hoj];simp only [acT,acA,Array.all_eq_true'];intro e he;cases hb:Region.binds .any e with
     | false=>rfl
     | true=>
      have hlt:=N9 hd (j:=j) (y:=ops[j]) (by simp [hj]) (by simpa using he) hb;have:=ih e.on hlt (by omega);simp only [adX,Bool.false_or];unfold dU at this;simp only [abE] at this ⊢;cases hg:listed[e.on]? with
      | none=>rw [Array.getElem?_eq_none_iff] at hg;omega
      | some b=>rw [hg] at this;simpa using this
    rw [hr] at this;cases this
 induction fuel with
 | zero=>
  intro listed a w hsz hcl hrel hc;have hall : ∀j,j<ops.size→dU listed j=true:=by
   intro j hj;have h0:(List.range ops.size).countP (fun j=> !dU listed j)=0:=by omega
   have:=List.countP_eq_zero.1 h0 j (by simpa using hj);simpa using this
  refine ⟨?_,fin listed a w hall hrel⟩;unfold Region.ready;rw [acd];intro j hj;have:=hall j (by simpa using hj);unfold dU at this;simp [this]
 | succ fuel ih=>
  intro listed a w hsz hcl hrel hc;refine ⟨fun hr=>fin listed a w (done listed hsz hr) hrel,fun i hi =>?_⟩;obtain ⟨hi1,hi2,hi3⟩:=I0 hi;have hoi:ops[i]? = some ops[i]:=by simp [hi1]
  have hol:ops.toList[i]? = some ops[i]:=by simp [hi1]
  generalize hoo:ops[i]=o at hoi hol;have hS' : ∀j,dU (listed.setIfInBounds i true) j=if j=i then true else dU listed j:=by
   intro j;unfold dU;simp only [abE,adD];by_cases e:i=j
   ·subst e;simp [show i<listed.size by omega]
   ·simp [e,acx e]
  have hon : ∀e∈o.after.toList,Region.binds .any e=true→dU listed e.on=true:=by
   intro e he hb;have h1:=hi3 o hoi e he hb;unfold dU;simp only [abE] at h1 ⊢;cases hg:listed[e.on]? with
   | none=>rfl
   | some b=>rw [hg] at h1;simpa using h1
  have hcl':jZ ops.toList (dU (listed.setIfInBounds i true)):=by
   intro j x hx hj e he hb;rw [hS'];rw [hS'] at hj;split
   ·rfl
   ·by_cases hji:j=i
    ·subst hji;rw [hol] at hx;injection hx with hx;subst hx;exact hon e he hb
    ·rw [aaY hji] at hj;exact hcl j x hx hj e he hb
  have hnx:Nx ops (dU listed) (dU (listed.setIfInBounds i true)) i o:=⟨hol,hi2,hcl,hcl',hS'⟩
  have hcnt:(List.range ops.size).countP (fun j=> !dU (listed.setIfInBounds i true) j)≤fuel:=by
   have h1:(List.range ops.size).countP (fun j=> !dU (listed.setIfInBounds i true) j)<(List.range ops.size).countP (fun j=> !dU listed j):=by
    have h2:(List.range ops.size).countP (fun j=> !dU listed j)=(List.range ops.size).countP (fun j=> !dU (listed.setIfInBounds i true) j)+(List.range ops.size).countP (fun j=>decide (j=i)):=by
     have key : ∀(l:List Nat),l.countP (fun j=> !dU listed j)=l.countP (fun j=> !dU (listed.setIfInBounds i true) j)+l.countP (fun j=>decide (j=i)):=by
      intro l;induction l with
      | nil=>rfl
      | cons x r ihl=>
       simp only [ady,ihl,hS'];by_cases hx:x=i
       ·subst hx;rw [show dU listed x=false from hi2];simp;omega
       ·simp [hx];omega
     exact key _
    have h3:0<(List.range ops.size).countP (fun j=>decide (j=i)):=List.countP_pos_iff.2 ⟨i,by simpa using hi1,by simp⟩;omega
   omega
  obtain ⟨I,β,r1,r2,r3,r4,r5,r6,r7⟩:=hrel;obtain ⟨b,l1,l2⟩:=hloc i hi1 o hol;have hlook : ∀t∈gI ops o,eS ops.toList ρ F0 (dU listed) ops.size t=eS ops.toList ρ F0 cF i t:=by
   intro t ht;rw [hnx.looks hd ht ops.size];by_cases h:ops.size≤i
   ·omega
   ·rw [aaY h]
  have hwant:=l1 w I β a (fun t ht=>by rw [←hlook t (sT ht)];exact r4 t);have hfree : ∀j,base+4*i≤j→j<base+4*i+4→β j=none:=r2 i hi1 hi2;unfold wpOpIn;rw [hoi];simp only [];rw [hwant];have putOk : ∀ {w':World} {I':Nat→Prop} {β':co} {u:Value} {σ':ak},ay w I β (sS ρ σ0 (dU listed) ops.size) nx w' I' β' σ' nx→aL w' I' β' (ρ i).val u → ∀t,aL w' I' β' (eS ops.toList ρ F0 (dU (listed.setIfInBounds i true)) ops.size t) ((a.put o.dst u).tmps.getD t undef):=by
   intro w' I' β' u σ' hst hu t;rw [hnx.env hd t ops.size];cases hdd:o.dst with
   | none=>
    rw [aaY (by simp)];exact hst.den r1.mem (r4 t)
   | some d=>
    rw [Bq (by rw [r5];exact hdst i o d hoi hdd)];by_cases hdt:d=t
    ·subst hdt;rw [aa3 ⟨hi1,rfl⟩,aa3 rfl];exact hu
    ·rw [aaY (by simp [hdt]),aaY hdt];exact hst.den r1.mem (r4 t)
  have hden : ∀x∈o.op.operands.toList,aL w I β (eO G (eS ops.toList ρ F0 cF i) x) (a.eval x):=by
   intro x hx;cases x with
   | tmp t=>
    have ht:t∈gI ops o:=sT (by simp only [Oper.looksAt,abe,List.mem_filterMap];left;exact ⟨_,hx,rfl⟩);show aL w I β (eS ops.toList ρ F0 cF i t) _;rw [←hlook t ht];exact r4 t
   | const v=>exact ax.lit v
   | global g=>
    show aL w I β (match G g with|some x=> .d x|none=> .unk) _;cases h:G g with
    | none=>trivial
    | some x=>exact r7 g x h
   | func f=>exact ax.fn f [] [] rfl (by simp)
  cases hr:ρ i with
  | skip=>
   rw [hr] at l2;rw [l2,aaY (by simp)];have hsig : ∀k,(sS ρ σ0 (dU (listed.setIfInBounds i true)) ops.size).get k=(sS ρ σ0 (dU listed) ops.size).get k:=fun k=>by
    have h1:=hnx.sig hd (new:=[]) (.inr rfl) hloc (by rw [hr];intro σ;simp [mN.app]) (dF _) ops.size (aaV _) k;rw [h1,aa3 hi1,abb]
   refine ⟨fun _ _=>trivial,?_⟩;refine ih _ _ _ (by simpa using hsz) hcl' ⟨I,β,?_,fun j hj hjs=>r2 j hj ?_,r3,?_,by rw [i6];exact r5,by rw [fm];exact r6.congr hsig,r7⟩ hcnt
   ·exact r1.congr hsig
   ·rw [hS'] at hjs;split at hjs
    ·cases hjs
    ·exact hjs
   ·exact putOk (ay.refl r1.mem) (by rw [hr];exact CI)
  | p v=>
   rw [hr] at l2;obtain ⟨e1,e2,e4⟩:=l2;rw [e1,aa3 rfl];have hdo:=e4 _ (fun hci=>SW hk hloc (dU listed) (fun j hj hjs ha=>by
    have h1:=abF.1 ha i (by simpa using hci);have h2:=Rb hcl (by simpa using hj) h1 hjs;rw [show dU listed i=false from hi2] at h2;cases h2) ops.size (aaV _)) w I β nx a r1.mem r7 hfree (by omega) hden
   refine hdo.wpIn (fun u w' ⟨I',β',hu,hst,hfr⟩ =>?_);have hsig : ∀k,(sS ρ σ0 (dU (listed.setIfInBounds i true)) ops.size).get k=(sS ρ σ0 (dU listed) ops.size).get k:=fun k=>by
    have h1:=hnx.sig hd (new:=[]) (.inr rfl) hloc (by rw [hr];intro σ;simp [mN.app]) (dF _) ops.size (aaV _) k;rw [h1,aa3 hi1,abb]
   refine ih _ _ _ (by simpa using hsz) hcl' ⟨I',β',?_,fun j hj hjs k hk1 hk2 =>?_,fun k hk =>?_,putOk hst (by rw [hr];exact hu),by rw [i6];exact r5,by rw [fm];exact (r6.step hst).congr hsig,r7.step r1.mem hst⟩ hcnt
   ·exact (r1.trans hst).congr hsig
   ·rw [hS'] at hjs;split at hjs
    ·cases hjs
    ·rw [hfr k (by omega)];exact r2 j hj hjs k hk1 hk2
   ·rw [hfr k (by omega)];exact r3 k hk
  | q v new=>
   rw [hr] at l2;obtain ⟨e1,e2,e3,e4⟩:=l2;rw [e1,aa3 rfl];obtain ⟨τ,hτ⟩:=hnx.under hd e2 hloc ops.size (aaV _);have hsub:ar (bS ρ σ0 i) (sS ρ σ0 (dU listed) ops.size):=by
    intro k blk hk;rw [hτ,b8];rw [aaY (by omega),hk]
   have hdo:=e4 _ hsub w I β nx a r1.mem r7 hfree (by omega) hden;refine hdo.wpIn (fun u w' ⟨I',β',hu,hst,hfr⟩ =>?_);have hsig : ∀k,(sS ρ σ0 (dU (listed.setIfInBounds i true)) ops.size).get k=(sS ρ σ0 (dU listed) ops.size++new).get k:=fun k=>by
    have h1:=hnx.sig hd (new:=new) (.inl e2) hloc (by rw [hr];intro σ;rfl) e3 ops.size (aaV _) k;rw [h1,aa3 hi1]
   refine ih _ _ _ (by simpa using hsz) hcl' ⟨I',β',?_,fun j hj hjs k hk1 hk2 =>?_,fun k hk =>?_,putOk hst (by rw [hr];exact hu),by rw [i6];exact r5,by rw [fm];exact (r6.step hst).congr hsig,r7.step r1.mem hst⟩ hcnt
   ·exact (r1.trans hst).congr hsig
   ·rw [hS'] at hjs;split at hjs
    ·cases hjs
    ·rw [hfr k (by omega)];exact r2 j hj hjs k hk1 hk2
   ·rw [hfr k (by omega)];exact r3 k hk
  | e v σ'=>
   rw [hr] at l2;obtain ⟨e1,e2,e4⟩:=l2;rw [e1,aa3 rfl];obtain ⟨s1,s2⟩:=hnx.eff (ρ:=ρ) (σ0:=σ0) hloc e2.1 (Ar hd hol e2.2.1) ops.size (aaV _);rw [show min ops.size i=i from by omega] at s1;rw [aa3 hi1,hr] at s2;have hmem:de w I β (sS ρ σ0 cF i) nx:=by rw [←s1];exact r1.mem
   have hdo:=e4 w I β nx a hmem r7 hfree (by omega) hden;refine hdo.wpIn (fun u w' ⟨I',β',hu,hst,hfr⟩ =>?_);rw [←s1] at hst;refine ih _ _ _ (by simpa using hsz) hcl' ⟨I',β',?_,fun j hj hjs k hk1 hk2 =>?_,fun k hk =>?_,putOk hst (by rw [hr];exact hu),by rw [i6];exact r5,by rw [fm,s2];exact r6.step hst,r7.step r1.mem hst⟩ hcnt
   ·rw [s2];exact r1.trans hst
   ·rw [hS'] at hjs;split at hjs
    ·cases hjs
    ·rw [hfr k (by omega)];exact r2 j hj hjs k hk1 hk2
   ·rw [hfr k (by omega)];exact r3 k hk
theorem jB (hm:P.follows .mixedOrders=true) (hd:cI lo ops=true) (hlo:vb lo 0 ops.toList=true) (hn:base+4*ops.size≤nx) (hdst : ∀(i:Nat) o x,ops[i]? = some o→o.dst=some x→x<C.n) {K:aO→ak→Prop} {e:aO} {σ:ak} {a:Act} {w:World} {id:Nat}
 (hQ : ∀e σ a w,K e σ→ft C G e σ nx (base+4*ops.size) a w→Q .normal a w) (hk:ar σk σ) (h:opsL P G lo σk ops base 0 ops.toList e σ [] K) (hrel:ft C G e σ nx base a w):(Code.region id ops true).wpIn (Fr fr) 0 P Q a w:=by
 obtain ⟨ρ,e',t1,t2,t3⟩:=trace (fun j o ho hc=>Ik ops.toList 0 hlo j o ho (by rw [acC];exact hc)) (F0:=e.get) (σ0:=σ) ops.toList 0 e σ [] (fun _=> .skip) rfl h (aa1 _) (fun _=>rfl) rfl (by simp [sS]) (fun j hj=>by omega);refine wpIn_region_any hm ?_;obtain ⟨I,β,r1,r2,r3,r4,r5,r6⟩:=hrel;have hS0 : ∀j,j<ops.size→dU (Array.replicate ops.size false) j=false:=by
  intro j hj;simp [dU,hj]
 have e1 : ∀m,m≤ops.size→sS ρ σ (dU (Array.replicate ops.size false)) m=σ:=by
  intro m;induction m with
  | zero=>intro _;rfl
  | succ m ih=>
   intro hm;have:sS ρ σ (dU (Array.replicate ops.size false)) (m+1)=if dU (Array.replicate ops.size false) m=true then (ρ m).app (sS ρ σ (dU (Array.replicate ops.size false)) m) else sS ρ σ (dU (Array.replicate ops.size false)) m:=rfl
   rw [this,hS0 m (by omega),aaY (by simp),ih (by omega)]
 refine G6 (ρ:=ρ) (F0:=e.get) (σ0:=σ) (nx:=nx) hk hd hn hdst t1 (fun a' w' hr =>?_) ops.size _ a _ (by simp) (fun j o ho hj =>?_) ⟨I,β,?_,fun j hj _ k hk1 _=>r2 k (by omega),fun k hk=>r2 k (by omega),fun t =>?_,r4,?_,?_⟩ ?_
 ·obtain ⟨I',β',q1,q2,q3,q4,q5,q6,q7⟩:=hr;exact hQ e' _ a' w' t2 ⟨I',β',q1,q3,fun t=>by rw [t3];exact q4 t,q5,q6,q7⟩
 ·have hjs:j<ops.size:=by have:=(aaX.1 ho).1;simpa using this
  rw [hS0 j hjs] at hj;cases hj
 ·rw [e1 _ (aaV _)];exact r1.trans (ay.drew r1.mem)
 ·have e2 : ∀m,m≤ops.size→eS ops.toList ρ e.get (dU (Array.replicate ops.size false)) m t=e.get t:=by
   intro m;induction m with
   | zero=>intro _;rfl
   | succ m ih=>
    intro hm;have:eS ops.toList ρ e.get (dU (Array.replicate ops.size false)) (m+1) t=if dU (Array.replicate ops.size false) m=true∧(ops.toList[m]?).bind (·.dst)=some t then (ρ m).val else eS ops.toList ρ e.get (dU (Array.replicate ops.size false)) m t:=rfl
    rw [this,hS0 m (by omega),aaY (by simp),ih (by omega)]
  rw [e2 _ (aaV _)];exact (ay.drew r1.mem).den r1.mem (r3 t)
 ·rw [e1 _ (aaV _)];exact r5.step (ay.drew r1.mem)
 ·exact r6.step r1.mem (ay.drew r1.mem)
 ·refine ab5 (List.countP_le_length) (by simp)
end
def FQ (n:Nat):List Oper→Bool
 | []=>true
 | o::r=>(match o.dst with|some d=>decide (d<n)|none=>true)&&FQ n r
def aS (n:Nat):Code→Bool
 | .skip=>true
 | .region _ ops _=>FQ n ops.toList
 | .seq a b=>aS n a&&aS n b
 | .cond _ a b=>aS n a&&aS n b
 | .block _ c=>aS n c
 | .loop c=>aS n c
 | .exit _=>true
 | .ret=>true
 | .label _=>true
 | .refuse _=>true
 | .scope c=>aS n c
 | .rangeFunc _ ps a c=>ps.toList.all (fun p=>decide (p<n))&&aS n a&&aS n c
 | _=>false
def oS:Code→Bool
 | .seq a b=>oS a&&oS b
 | .cond _ a b=>oS a&&oS b
 | .block _ c=>oS c
 | .loop c=>oS c
 | .scope c=>oS c
 | .rangeFunc _ _ _ _=>false
 | _=>true
theorem rY {n:Nat} (l:List Oper) (h:FQ n l=true) : ∀(i:Nat) o x,l[i]? = some o→o.dst=some x→x<n:=by
 induction l with
 | nil=>intro i o x hi;simp at hi
 | cons y r ih=>
  intro i o x hi hx;simp only [FQ,aa8] at h;cases i with
  | zero=>
   simp at hi;subst hi;have:=h.1;rw [hx] at this;simpa using this
  | succ i=>exact ih h.2 i o x (by simpa using hi) hx
def cH (G:Gl) (m:Nat) (st st':St):Prop:= ∀C a w,C.nx=m→qD C G st a w→qD C G st' a w
def aC (G:Gl) (m:Nat) (K:St→Prop) (st:St) (_u:Tag K:= .mk) (_h:True:=trivial):Prop:= ∃st',cH G m st st'∧K st'
theorem aC.now {G:Gl} {m:Nat} {K:St→Prop} {st:St} (h:K st):aC G m K st:=⟨st,fun _ _ _ _ h=>h,h⟩
theorem aC.via {G:Gl} {m:Nat} {K:St→Prop} {st st':St} (h:cH G m st st') (k:aC G m K st'):aC G m K st:=by
 obtain ⟨s,h1,h2⟩:=k;exact ⟨s,fun C a w hm hr=>h1 C a w hm (h C a w hm hr),h2⟩
def AR (P:Program) (G:Gl) (fr:Option Nat) (n m:Nat) (c:Code) (st:St) (Q:Exit→St→Prop):Prop:=
 ∀(C:uP) a w,C.n=n→C.nx=m→qD C G st a w→c.wpIn (Fr fr) 0 P (fun e a' w'=> ∃st',Q e st'∧qD C G st' a' w') a w
def AW (P:Program) (G:Gl) (n m:Nat) (c:Code) (st:St) (Q:Exit→St→Prop):Prop:= ∀fr,(fr=none∨oS c=true)→AR P G fr n m c st Q
theorem AR.mono {P:Program} {G:Gl} {fr:Option Nat} {n m:Nat} {c:Code} {st:St} {Q Q':Exit→St→Prop} (h:AR P G fr n m c st Q) (hq : ∀e st,Q e st→Q' e st):AR P G fr n m c st Q':=
 fun C a w hn hm hr=>wpIn_mono (h C a w hn hm hr) fun e _ _ ⟨st',h1,h2⟩=>⟨st',hq e st' h1,h2⟩
theorem AW.mono {P:Program} {G:Gl} {n m:Nat} {c:Code} {st:St} {Q Q':Exit→St→Prop} (h:AW P G n m c st Q) (hq : ∀e st,Q e st→Q' e st):AW P G n m c st Q':=fun fr hfr=>(h fr hfr).mono hq
theorem ep {P:Program} {b:Frame} {a:Act} {k:List Item} {cs:List Frame} {w:World} {c:Code} : step P (lone (b.atR a (.code (.scope c)::k)) cs w) = .next (lone (b.atR a (.code c :: .inScope c::k)) cs w):=
 step_lone_go (by simp [stepG,stepG.exec,Frame.atR])
theorem we {P:Program} {b:Frame} {a:Act} {k:List Item} {cs:List Frame} {w:World} {c:Code} : step P (lone (b.atR a (.inScope c::k)) cs w) = .next (lone (b.atR a k) cs w):=
 step_lone_go (by simp [stepG,stepG.exec,Frame.atR])
theorem fT {F:Fence} {n:Nat} {P:Program} {Q:Exit→Act→World→Prop} {a:Act} {w:World} {c:Code} (h:c.wpIn F n P (Exit.noGoto Q) a w):(Code.scope c).wpIn F n P Q a w:=by
 intro b k cs hro hb hr;have h0:(lone (b.atR a (.code (.scope c)::k)) cs w).fenced P F:=fenced_calm hb hr rfl;obtain ⟨e,a₁,w₁,hq,harr⟩:=h b (.inScope c::k) cs hro hb hr;cases e with
 | normal=>exact ⟨.normal,a₁,w₁,hq,.head h0 ep (StepsIn.trans harr (.one (fenced_calm hb hr rfl) we))⟩
 | exit id=>
  have hx:exitTo id (.inScope c::k)=exitTo id k:=by simp [exitTo]
  exact ⟨.exit id,a₁,w₁,hq,fun k' hk=> .head h0 ep (harr.1 k' (by rw [hx];exact hk)),fun hr' hk=>let ⟨k₁,h1,h2⟩:=harr.2 hr' (by rw [hx];exact hk);⟨k₁,h1,.head h0 ep h2⟩⟩
 | goto l=>exact hq.elim
 | ret=>exact ⟨_,a₁,w₁,hq,.of_steps (.one h0 ep) harr⟩
 | panic ch=>exact ⟨_,a₁,w₁,hq,.of_steps (.one h0 ep) harr⟩
 | outgrown=>exact ⟨_,a₁,w₁,hq,.of_steps (.one h0 ep) harr⟩
def lM (P:Program) (G:Gl) (n m:Nat) (c:Code) (st:St) (Q:Exit→St→Prop) (_u:Tag c:= .mk) (_v:Tag Q:= .mk) (_h:True:=trivial):Prop:=AW P G n m (.loop c) st Q
def oj (P:Program) (G:Gl) (n m:Nat) (g:Operand) (ps:Array Nat) (asg body:Code) (st:St) (Q:Exit→St→Prop) (_u:Tag body:= .mk) (_v:Tag Q:= .mk) (_w:Tag asg:= .mk) (_h:True:=trivial):Prop:=AW P G n m (.rangeFunc g ps asg body) st Q
def mZ (v:V) (p q:Prop):Prop:=rA v fun b=>jT b p q
def ge (k:St→Prop) (Q:Exit→St→Prop):Exit→St→Prop
 | .normal,st=>k st
 | e,st=>Q e st
def dY (id:Nat) (Q:Exit→St→Prop):Exit→St→Prop
 | .exit i,st=>if i=id then Q .normal st else Q (.exit i) st
 | e,st=>Q e st
def kG (Q:Exit→St→Prop):Exit→St→Prop
 | .goto _,_=>False
 | e,st=>Q e st
def kA (P:Program) (G:Gl) (lv:List Nat) (ops:Array Oper) (draw:Bool) (K:St→Prop) (st:St):Prop:=if draw=true
 then ∃lo σk,cI lo ops=true∧vb lo 0 ops.toList=true∧ar σk st.sg∧opsL P G lo σk ops st.nx 0 ops.toList st.env st.sg [] fun e σ=>K ⟨aO.keep lv e,σ,st.nx+4*ops.size⟩
 else nC P G ops st.nx 0 ops.toList st.env st.sg fun e σ=>K ⟨aO.keep lv e,σ,st.nx+4*ops.size⟩
def bJ (P:Program) (G:Gl) (n m:Nat) (lv:List Nat):Code→St→(Exit→St→Prop)→Prop
 | .skip,st,Q=>Q .normal st
 | .region _ ops draw,st,Q=>aC G m (kA P G lv ops draw fun st'=>Q .normal st') st
 | .seq a b,st,Q=>bJ P G n m lv a st (ge (fun st'=>bJ P G n m lv b st' Q) Q)
 | .cond c a b,st,Q=>mZ (eO G st.env.get c) (bJ P G n m lv a st Q) (bJ P G n m lv b st Q)
 | .block id c,st,Q=>bJ P G n m lv c st (dY id Q)
 | .loop c,st,Q=>lM P G n m c st Q
 | .exit id,st,Q=>Q (.exit id) st
 | .ret,st,Q=>Q .ret st
 | .label _,st,Q=>Q .normal st
 | .scope c,st,Q=>bJ P G n m lv c st (kG Q)
 | .rangeFunc g ps a c,st,Q=>oj P G n m g ps a c st Q
 | _,_,_=>False
section
variable {P:Program} {G:Gl} {n m:Nat} {lv:List Nat}
theorem ft.keep {C:uP} {e:aO} {σ:ak} {nx lim:Nat} {a:Act} {w:World} (h:ft C G e σ nx lim a w) (lv:List Nat):ft C G (aO.keep lv e) σ nx lim a w:=by
 obtain ⟨I,β,h1,h2,h3,h4⟩:=h;refine ⟨I,β,h1,h2,fun t =>?_,h4⟩;rcases aO.get_keep lv e t with h|h
 ·rw [h];exact h3 t
 ·rw [h];trivial
theorem ft.bump {C:uP} {e:aO} {σ:ak} {nx lim nx':Nat} {a:Act} {w:World} (h:ft C G e σ nx lim a w) (hn:nx≤nx'):ft C G e σ nx' lim a w:=by
 obtain ⟨I,β,h1,h2⟩:=h;exact ⟨I,β,h1.bump hn,h2⟩
theorem AZ (ho:P.follows .mixedOrders=true) (fr:Option Nat) : ∀(c:Code) (st:St) (Q:Exit→St→Prop),(fr=none∨oS c=true)→aS n c=true→bJ P G n m lv c st Q→AR P G fr n m c st Q:=by
 intro c;induction c with
 | skip=>intro st Q _ _ h C a w _ _ hr;exact wpIn_skip ⟨st,h,hr⟩
 | region id ops draw=>
  intro st Q _ hok h C a w hn hm hr0;obtain ⟨st,hle,h⟩:=h;have hr:=hle C a w hm hr0;simp only [aS] at hok;have hdst : ∀(i:Nat) o x,ops[i]? = some o→o.dst=some x→x<C.n:=fun i o x hi hx=>by rw [hn];exact rY _ hok i o x (by simpa using hi) hx
  have hr':ft C G st.env st.sg (st.nx+4*ops.size) st.nx a w:=ft.bump hr (by omega);cases draw with
  | false=>
   simp only [kA,aa9,ab1] at h;refine wpIn_region ?_;have:=jC (P:=P) (G:=G) (C:=C) (fr:=fr) (ops:=ops) (base:=st.nx) (nx:=st.nx+4*ops.size) (Q:=fun e a' w'=> ∃st',Q e st'∧qD C G st' a' w') (aaV _) hdst (K:=fun e σ=>Q .normal ⟨aO.keep lv e,σ,st.nx+4*ops.size⟩) (fun e σ a w hK hrel=>⟨_,hK,hrel.keep lv⟩) ops.toList 0 st.env st.sg a w rfl h (by simpa using hr') (aa1 _);rw [List.range_eq_range'];simpa using this
  | true=>
   simp only [kA,ab0] at h;obtain ⟨lo,σk,hd,hlo,hk,h⟩:=h;exact jB (C:=C) ho hd hlo (nx:=st.nx+4*ops.size) (aaV _) hdst (K:=fun e σ=>Q .normal ⟨aO.keep lv e,σ,st.nx+4*ops.size⟩) (fun e σ a w hK hrel=>⟨_,hK,hrel.keep lv⟩) hk h hr'
 | seq x y ihx ihy=>
  intro st Q hfr hok h C a w hn hm hr;simp only [oS,aa8] at hfr;simp only [aS,aa8] at hok;refine wpIn_seq (wpIn_mono (ihx st _ (hfr.imp id (·.1)) hok.1 h C a w hn hm hr) ?_);rintro e a' w' ⟨st',hq,hr'⟩;cases e with
  | normal=>exact ihy st' Q (hfr.imp id (·.2)) hok.2 hq C a' w' hn hm hr'
  | _=>exact ⟨st',hq,hr'⟩
 | cond c x y ihx ihy=>
  intro st Q hfr hok h C a w hn hm hr;simp only [oS,aa8] at hfr;simp only [aS,aa8] at hok;simp only [bJ,mZ] at h;unfold rA at h;split at h
  ·rename_i b hb;obtain ⟨I,β,h1,h2,h3,h4,h5,h6⟩:=id hr;have hd:=qH (e:=st.env) (a:=a) h3 h6 c;rw [hb] at hd;have hc:=aA hd;refine ov h (fun e1 h9 =>?_) (fun e1 h9 =>?_)
   ·subst e1;exact wpIn_cond_true hc (ihx st Q (hfr.imp id (·.1)) hok.1 h9 C a w hn hm hr)
   ·subst e1;exact wpIn_cond_false hc (ihy st Q (hfr.imp id (·.2)) hok.2 h9 C a w hn hm hr)
  ·exact h.elim
 | block id c ih=>
  intro st Q hfr hok h C a w hn hm hr;simp only [aS] at hok;refine wpIn_block (wpIn_mono (ih st _ hfr hok h C a w hn hm hr) ?_);rintro e a' w' ⟨st',hq,hr'⟩;cases e with
  | exit i=>
   simp only [dY] at hq;simp only [Exit.inBlock];split
   ·rename_i hi;rw [aa3 hi] at hq;exact ⟨st',hq,hr'⟩
   ·rename_i hi;rw [aaY hi] at hq;exact ⟨st',hq,hr'⟩
  | _=>exact ⟨st',hq,hr'⟩
 | loop c _=>intro st Q hfr _ h;exact h fr hfr
 | exit id=>intro st Q _ _ h C a w _ _ hr;exact wpIn_exit ⟨st,h,hr⟩
 | ret=>intro st Q _ _ h C a w _ _ hr;exact wpIn_ret ⟨st,h,hr⟩
 | label l=>intro st Q _ _ h C a w _ _ hr;exact wpIn_label ⟨st,h,hr⟩
 | refuse r=>intro st Q _ _ h;exact h.elim
 | scope c ih=>
  intro st Q hfr hok h C a w hn hm hr;simp only [aS] at hok;refine fT (wpIn_mono (ih st _ hfr hok h C a w hn hm hr) ?_);rintro e a' w' ⟨st',hq,hr'⟩;cases e with
  | goto l=>exact hq.elim
  | _=>exact ⟨st',hq,hr'⟩
 | rangeFunc g ps x y _ _=>intro st Q hfr _ h;exact h fr hfr
 | _=>intro st Q _ hok;simp [aS] at hok
theorem d9 (ho:P.follows .mixedOrders=true) (c:Code) (st:St) (Q:Exit→St→Prop) (hok:aS n c=true) (h:bJ P G n m lv c st Q):AW P G n m c st Q:=fun fr hfr=>AZ ho fr c st Q hfr hok h
theorem Il (ho:P.follows .mixedOrders=true) {c:Code} (hok:aS n c=true) {st:St} {Q:Exit→St→Prop} (Inv:Nat→St→Prop) (k0:Nat) (h0:Inv k0 st)
 (hr : ∀k st,Inv k st→bJ P G n m lv c st (ge (aC G m fun st'=> ∃j,j<k∧Inv j st') Q)):lM P G n m c st Q:=by
 intro fr hfr C a w hn hm hrel b kk cs hro hb hroom;have key : ∀k st a w,Inv k st→qD C G st a w → ∃e a' w',(∃st',Q e st'∧qD C G st' a' w')∧ArrivesIn (Machine.fenced P (Fr fr)) P (lone (b.atR a (.code c :: .inLoop c::kk)) cs w) b kk cs e a' w':=by
  intro k;induction k using Nat.strongRecOn with
  | _ k ih=>
   intro st a w hI hr';obtain ⟨e,a',w',⟨st',hq,hr2⟩,harr⟩:=d9 ho c st _ hok (hr k st hI) fr hfr C a w hn hm hr' b (.inLoop c::kk) cs hro hb hroom;cases e with
   | normal=>
    obtain ⟨st',hle,j,hlt,hI'⟩:=hq;obtain ⟨e2,a2,w2,hq2,harr2⟩:=ih j hlt st' a' w' hI' (hle C a' w' hm hr2);exact ⟨e2,a2,w2,hq2,.of_steps (StepsIn.trans harr (.one (fenced_calm hb hroom rfl) stepR_inLoop)) harr2⟩
   | exit id=>exact ⟨_,a',w',⟨st',hq,hr2⟩,.pass (x:= .inLoop c) rfl (fun _ _=> .inl (by simp)) harr⟩
   | goto l=>exact ⟨_,a',w',⟨st',hq,hr2⟩,.pass (x:= .inLoop c) rfl (fun _ _=> .inl (by simp)) harr⟩
   | ret=>exact ⟨_,a',w',⟨st',hq,hr2⟩,.pass (x:= .inLoop c) rfl (fun _ _=> .inl (by simp)) harr⟩
   | panic ch=>exact ⟨_,a',w',⟨st',hq,hr2⟩,.pass (x:= .inLoop c) rfl (fun _ _=> .inl (by simp)) harr⟩
   | outgrown=>exact ⟨_,a',w',⟨st',hq,hr2⟩,.pass (x:= .inLoop c) rfl (fun _ _=> .inl (by simp)) harr⟩
 obtain ⟨e,a',w',hq,harr⟩:=key _ st a w h0 hrel;exact ⟨e,a',w',hq,.of_steps (.one (fenced_calm hb hroom rfl) stepR_loop) harr⟩
end
def V.selA (g:Nat→Option Nat):V→V
 | .d x=> .d x
 | .so id k lo n=>match g id with|some j=> .so j k lo n|none=> .unk
 | .po id o=>match g id with|some j=> .po j o|none=> .unk
 | .pe id k i j=>match g id with|some j'=> .pe j' k i j|none=> .unk
 | .mo id=>match g id with|some j=> .mo j|none=> .unk
 | .it id=>match g id with|some j=> .it j|none=> .unk
 | .yl id=>match g id with|some j=> .yl j|none=> .unk
 | v=>v
def V.sel (g:Nat→Option Nat):V→V
 | .agg cs=> .agg (cs.map (V.selA g))
 | .tup cs=> .tup (cs.map (V.selA g))
 | .fn f cs=> .fn f (cs.map (V.selA g))
 | .d x=> .d x
 | .so id k lo n=>V.selA g (.so id k lo n)
 | .po id o=>V.selA g (.po id o)
 | .pe id k i j=>V.selA g (.pe id k i j)
 | .mo id=>V.selA g (.mo id)
 | .it id=>V.selA g (.it id)
 | .yl id=>V.selA g (.yl id)
 | .unk=> .unk
def aO.sel (g:Nat→Option Nat):aO→aO
 | []=>[]
 | (k,v)::r=>(k,v.sel g)::aO.sel g r
def bN.sel (g:Nat→Option Nat):bN→bN
 | .cell cs ty=> .cell (cs.map (V.sel g)) ty
 | .row k es ty=> .row k es ty
 | .map es=> .map es
 | .iter s pos=> .iter s pos
 | .rc y j e=> .rc y j (e.sel g)
theorem aO.get_sel (g:Nat→Option Nat) (e:aO) (t:Nat):(e.sel g).get t=(e.get t).sel g:=by
 induction e with
 | nil=>rfl
 | cons x r ih=>
  obtain ⟨k,v⟩:=x;simp only [aO.sel,aO.get];split
  ·rfl
  ·exact ih
section
variable {w:World} {I:Nat→Prop} {β β':co} {g:Nat→Option Nat}
theorem cg.sel (hg : ∀i j,g i=some j → ∀x,β i=some x→β' j=some x) {v:V} {x:Value} (h:cg w I β v x):cg w I β' (v.selA g) x:=by
 cases v with
 | so id k lo n=>
  simp only [V.selA];cases hi:g id with
  | none=>trivial
  | some j=>
   rcases h with ⟨h1,h2⟩|⟨b,cap,c,h1,h2⟩
   ·exact .inl ⟨hg id j hi _ h1,h2⟩
   ·exact .inr ⟨b,cap,c,hg id j hi _ h1,h2⟩
 | po id o=>
  simp only [V.selA];cases hi:g id with
  | none=>trivial
  | some j=>obtain ⟨b,cap,h1,h2⟩:=h;exact ⟨b,cap,hg id j hi _ h1,h2⟩
 | pe id k i j=>
  simp only [V.selA];cases hi:g id with
  | none=>trivial
  | some j=>obtain ⟨b,cap,h1,h2⟩:=h;exact ⟨b,cap,hg id j hi _ h1,h2⟩
 | mo id=>
  simp only [V.selA];cases hi:g id with
  | none=>trivial
  | some j=>obtain ⟨b,cap,h1,h2⟩:=h;exact ⟨b,cap,hg id j hi _ h1,h2⟩
 | it id=>
  simp only [V.selA];cases hi:g id with
  | none=>trivial
  | some j=>obtain ⟨b,cap,h1,h2⟩:=h;exact ⟨b,cap,hg id j hi _ h1,h2⟩
 | yl id=>
  simp only [V.selA];cases hi:g id with
  | none=>trivial
  | some j=>obtain ⟨b,cap,h1,h2⟩:=h;exact ⟨b,cap,hg id j hi _ h1,h2⟩
 | _=>exact h
theorem bY.sel (hg : ∀i j,g i=some j → ∀x,β i=some x→β' j=some x) {cs:List V} {vs:List Value} (h:bY w I β cs vs):bY w I β' (cs.map (V.selA g)) vs:=by
 refine ⟨by simpa using h.1,fun i c v hc hv =>?_⟩;simp only [abp,aaZ] at hc;obtain ⟨c',hc',rfl⟩:=hc;exact (h.2 i c' v hc' hv).sel hg
theorem aL.sel (hg : ∀i j,g i=some j → ∀x,β i=some x→β' j=some x) {v:V} {x:Value} (h:aL w I β v x):aL w I β' (v.sel g) x:=by
 have atoms : ∀ {v:V},cg w I β v x→cg w I β' (v.selA g) x→aL w I β' (v.selA g) x:=by
  intro v h1 h2;cases v<;>simp only [V.selA] at h2 ⊢ <;> first
   | exact h2
   | exact h2.elim
   | (split<;>first|trivial|(rename_i q;rw [q] at h2;exact h2))
 cases v with
 | agg cs=>obtain ⟨vs,e,ho,h⟩:=h;exact ⟨vs,e,ho,h.sel hg⟩
 | tup cs=>obtain ⟨vs,e,h⟩:=h;exact ⟨vs,e,h.sel hg⟩
 | fn f cs=>obtain ⟨vs,e,h⟩:=h;exact ⟨vs,e,h.sel hg⟩
 | unk=>trivial
 | d x=>exact h
 | so id k lo n=>exact atoms (v:= .so id k lo n) h (cg.sel hg (v:= .so id k lo n) h)
 | po id o=>exact atoms (v:= .po id o) h (cg.sel hg (v:= .po id o) h)
 | pe id k i j=>exact atoms (v:= .pe id k i j) h (cg.sel hg (v:= .pe id k i j) h)
 | mo id=>exact atoms (v:= .mo id) h (cg.sel hg (v:= .mo id) h)
 | it id=>exact atoms (v:= .it id) h (cg.sel hg (v:= .it id) h)
 | yl id=>exact atoms (v:= .yl id) h (cg.sel hg (v:= .yl id) h)
theorem jS.sel (hg : ∀i j,g i=some j → ∀x,β i=some x→β' j=some x) {i j:Nat} {blk:bN} (hij:g i=some j) (h:jS w I β i blk):jS w I β' j (blk.sel g):=by
 cases blk with
 | cell cs ty=>
  obtain ⟨b,cap,cur,t,h1,h2,h3,h4⟩:=h;refine ⟨b,cap,cur,t,hg i j hij _ h1,h2,h3,fun m c hm =>?_⟩;simp only [abp,aaZ] at hm;obtain ⟨c',hc',rfl⟩:=hm;obtain ⟨v,v1,v2,v3⟩:=h4 m c' hc';exact ⟨v,v1,v2,v3.sel hg⟩
 | row k es ty=>
  rcases h with ⟨h1,h2⟩|⟨b,cap,cur,t,h1,h2⟩
  ·exact .inl ⟨hg i j hij _ h1,h2⟩
  ·exact .inr ⟨b,cap,cur,t,hg i j hij _ h1,h2⟩
 | map es=>obtain ⟨b,cap,ents,clock,h1,h2⟩:=h;exact ⟨b,cap,ents,clock,hg i j hij _ h1,h2⟩
 | iter s pos=>obtain ⟨b,cap,h1,h2⟩:=h;exact ⟨b,cap,hg i j hij _ h1,h2⟩
 | rc y q e=>
  obtain ⟨b,cap,r,h1,h2,h3,h4,h5⟩:=h;refine ⟨b,cap,r,hg i j hij _ h1,h2,h3,h4,fun t =>?_⟩;rw [aO.get_sel];exact (h5 t).sel hg
end
def Lf:List Nat→Nat→Nat→Option Nat
 | [],_,_=>none
 | x::r,i,m=>if x=i then some m else Lf r i (m+1)
def kI (m:Nat) (l:List Nat):Nat→Option Nat:=fun i=>if i<m then some i else Lf l i m
def ak.sel (g:Nat→Option Nat):ak→ak
 | []=>[]
 | (i,b)::r=>match g i with
  | some j=>(j,b.sel g)::ak.sel g r
  | none=>ak.sel g r
def St.sel (st:St) (m:Nat) (l:List Nat):St:=⟨st.env.sel (kI m l),st.sg.sel (kI m l),m+l.length⟩
theorem eF : ∀ {l:List Nat} {i m j:Nat},Lf l i m=some j→m≤j∧j<m+l.length∧l[j - m]? = some i
 | x::r,i,m,j,h=>by
  unfold Lf at h;split at h
  ·rename_i hx;injection h with h;subst h;subst hx;exact ⟨aaV _,by simp,by simp⟩
  ·obtain ⟨h1,h2,h3⟩:=eF h;refine ⟨by omega,by simp;omega,?_⟩;rw [show j - m=(j - (m+1))+1 from by omega];simpa using h3
theorem ak.get_sel {g:Nat→Option Nat} (hinj : ∀i i' j,g i=some j→g i'=some j→i=i') : ∀(σ:ak) (j:Nat) b,(σ.sel g).get j=some b → ∃i b',g i=some j∧σ.get i=some b'∧b=b'.sel g
 | [],j,b,h=>by simp [ak.sel,ak.get] at h
 | (i,c)::r,j,b,h=>by
  simp only [ak.sel] at h;cases hi:g i with
  | none=>
   rw [hi] at h;obtain ⟨i',b',h1,h2,h3⟩:=ak.get_sel hinj r j b h;refine ⟨i',b',h1,?_,h3⟩;simp only [ak.get];rw [aaY]
   ·exact h2
   ·rintro rfl;rw [hi] at h1;cases h1
  | some j'=>
   rw [hi] at h;simp only [ak.get] at h;split at h
   ·rename_i hj;subst hj;injection h with h;exact ⟨i,c,hi,by simp [ak.get],h.symm⟩
   ·rename_i hj;obtain ⟨i',b',h1,h2,h3⟩:=ak.get_sel hinj r j b h;refine ⟨i',b',h1,?_,h3⟩;simp only [ak.get];rw [aaY]
    ·exact h2
    ·rintro rfl;rw [hi] at h1;injection h1 with h1;exact hj h1
theorem Mp (m:Nat) (l:List Nat) : ∀i i' j,kI m l i=some j→kI m l i'=some j→i=i':=by
 intro i i' j h h';unfold kI at h h';split at h
 ·split at h'
  ·injection h with h;injection h' with h';omega
  ·injection h with h;obtain ⟨q1,_⟩:=eF h';omega
 ·split at h'
  ·injection h' with h';obtain ⟨q1,_⟩:=eF h;omega
  ·obtain ⟨_,_,q3⟩:=eF h;obtain ⟨_,_,q3'⟩:=eF h';rw [q3] at q3';injection q3'
theorem cH.sel (G:Gl) (m:Nat) (st:St) (l:List Nat):cH G m st (st.sel m l):=by
 intro C a w hm hr;obtain ⟨I,β,h1,h2,h3,h4,h5,h6⟩:=hr;have hinj:=Mp m l;let β':co:=fun j=>if j<m then β j else match l[j - m]? with|some i=>β i|none=>none
 have hg : ∀i j,kI m l i=some j → ∀x,β i=some x→β' j=some x:=by
  intro i j hij x hx;unfold kI at hij;split at hij
  ·rename_i hlt;injection hij with hij;subst hij;simp [β',hlt,hx]
  ·obtain ⟨q1,q2,q3⟩:=eF hij;simp [β',show ¬j<m by omega,q3,hx]
 have hgb : ∀i j,kI m l i=some j→β' j=β i:=by
  intro i j hij;unfold kI at hij;split at hij
  ·rename_i hlt;injection hij with hij;subst hij;simp [β',hlt]
  ·obtain ⟨q1,q2,q3⟩:=eF hij;simp [β',show ¬j<m by omega,q3]
 refine ⟨I,β',⟨⟨fun j b hj =>?_,fun j j' b b' k c c' g1 g2 g3 g4 =>?_,fun j hj =>?_,h1.mem.lt⟩,h1.os,h1.tape,h1.output,h1.size,h1.block,h1.imm,h1.immn,fun i x hx =>?_,?_,fun k ⟨j,b,c,g1,g2⟩ =>?_⟩,fun j hj =>?_,fun t =>?_,h4,h5.sub (fun k ⟨j,b,c,g1,g2⟩ =>?_) (fun b h=> .inl h),h6⟩
 ·obtain ⟨i,b',q1,q2,q3⟩:=ak.get_sel hinj _ j b hj;subst q3;exact (h1.mem.own i b' q2).sel hg q1
 ·obtain ⟨i,x,q1,q2,q3⟩:=ak.get_sel hinj _ j b g1;obtain ⟨i',x',q1',q2',q3'⟩:=ak.get_sel hinj _ j' b' g2;rw [hgb i j q1] at g3;rw [hgb i' j' q1'] at g4;have:=h1.mem.inj i i' x x' k c c' q2 q2' g3 g4;subst this;rw [q1] at q1';injection q1'
 ·have hj':m+l.length≤j:=hj;show (if j<m then β j else match l[j - m]? with|some i=>β i|none=>none)=none;rw [aaY (by omega),abz (by omega)]
 ·have hi:i<m:=by
   rcases aa2 i m with h|h
   ·exact h
   ·rw [C.free i (by omega)] at hx;cases hx
  show (if i<m then β i else _)=some x;rw [aa3 hi];exact h1.bet i x hx
 ·show C.nx≤m+l.length;omega
 ·obtain ⟨i,b',q1,q2,q3⟩:=ak.get_sel hinj _ j b g1;rw [hgb i j q1] at g2;exact h1.own' k ⟨i,b',c,q2,g2⟩
 ·have hj':m+l.length≤j:=hj;show (if j<m then β j else match l[j - m]? with|some i=>β i|none=>none)=none;rw [aaY (by omega),abz (by omega)]
 ·show aL w I β' ((st.env.sel _).get t) _;rw [aO.get_sel];exact (h3 t).sel hg
 ·obtain ⟨i,b',q1,q2,q3⟩:=ak.get_sel hinj _ j b g1;rw [hgb i j q1] at g2;exact ⟨i,b',c,q2,g2⟩
def St.frz (st:St) (id:Nat):St:=match st.sg.get id with
 | some blk=>⟨st.env.frz id blk,st.sg.frz id blk,st.nx⟩
 | none=>st
theorem cH.refl (G:Gl) (m:Nat) (st:St):cH G m st st:=fun _ _ _ _ h=>h
theorem cH.trans {G:Gl} {m:Nat} {a b c:St} (h:cH G m a b) (k:cH G m b c):cH G m a c:=fun C x w hm hr=>k C x w hm (h C x w hm hr)
theorem cH.frz (G:Gl) (m:Nat) (st:St) (id:Nat):cH G m st (st.frz id):=by
 intro C a w _ hr;unfold St.frz;cases hg:st.sg.get id with
 | none=>exact hr
 | some blk=>
  obtain ⟨I,β,h1,h2,h3,h4,h5,h6⟩:=hr;have hown:=h1.mem.own id blk hg;let I':Nat→Prop:=fun b=>I b ∨ ∃c,β id=some (some (b,c))
  have hset:x9 w I I' β id blk:=⟨fun b hb=> .inl hb,hown,fun b c hb=> .inr ⟨c,hb⟩⟩
  refine ⟨I',β,⟨⟨fun j b hj =>?_,fun j j' b b' k c c' g1 g2 g3 g4 =>?_,h1.mem.free,fun b hb =>?_⟩,h1.os,h1.tape,h1.output,h1.size,h1.block,fun b hb=> .inl (h1.imm b hb),fun b hb =>?_,h1.bet,h1.nx,fun b ⟨j,bl,c,g1,g2⟩ =>?_⟩,h2,fun t =>?_,h4,h5.sub (fun b ⟨j,bl,c,g1,g2⟩ =>?_) (fun b hb =>?_),fun g x hx=>(h6 g x hx).keep (fun _ _=>rfl) (fun b hb=> .inl hb)⟩
  ·have hj':(st.sg.frz id blk).get j=some b:=hj;rw [ak.get_frz] at hj';split at hj'
   ·cases hj'
   ·rename_i hne;simp only [aaZ] at hj';obtain ⟨b0,hb0,rfl⟩:=hj';have ho:=h1.mem.own j b0 hb0;have hni : ∀b c,β j=some (some (b,c)) → ¬I' b:=by
     intro b c hb hI;rcases hI with hI|⟨c',hc'⟩
     ·exact (ho.not_imm hb).1 hI
     ·exact hne (h1.mem.inj j id b0 blk b c c' hb0 hg hb hc')
    cases b0 with
    | cell cs ty=>
     obtain ⟨b,cap,cur,t,q1,q2,q3,q4⟩:=ho;refine ⟨b,cap,cur,t,q1,q2,hni b cap q1,fun i c hi =>?_⟩;simp only [abp,aaZ] at hi;obtain ⟨c',hc',rfl⟩:=hi;obtain ⟨v,v1,v2,v3⟩:=q4 i c' hc';exact ⟨v,v1,v2,hset.den v3⟩
    | row k es ty=>exact ho.keep (fun _ _=>rfl) (fun b hb=> .inl hb) hni (fun _ _ h=>h)
    | map es=>exact ho.keep (fun _ _=>rfl) (fun b hb=> .inl hb) hni (fun _ _ h=>h)
    | iter s pos=>exact ho.keep (fun _ _=>rfl) (fun b hb=> .inl hb) hni (fun _ _ h=>h)
    | rc y q e=>
     obtain ⟨b,cap,r,q1,q2,q3,q4,q5⟩:=ho;refine ⟨b,cap,r,q1,q2,hni b cap q1,q4,fun t =>?_⟩;rw [aO.get_frz];exact hset.den (q5 t)
  ·have e1:(st.sg.frz id blk).get j=some b:=g1;have e2:(st.sg.frz id blk).get j'=some b':=g2;rw [ak.get_frz] at e1 e2;split at e1
   ·cases e1
   ·split at e2
    ·cases e2
    ·simp only [aaZ] at e1 e2;obtain ⟨x,hx,_⟩:=e1;obtain ⟨y,hy,_⟩:=e2;exact h1.mem.inj j j' x y k c c' hx hy g3 g4
  ·rcases hb with hb|⟨c,hb⟩
   ·exact h1.mem.lt b hb
   ·exact (hown.not_imm hb).2
  ·rcases hb with hb|⟨c,hb⟩
   ·exact h1.immn b hb
   ·rcases h1.own' b ⟨id,blk,c,hg,hb⟩ with h|h
    ·exact .inr (.inl h)
    ·exact .inr (.inr h)
  ·have e1:(st.sg.frz id blk).get j=some bl:=g1;rw [ak.get_frz] at e1;split at e1
   ·cases e1
   ·simp only [aaZ] at e1;obtain ⟨x,hx,_⟩:=e1;exact h1.own' b ⟨j,x,c,hx,g2⟩
  ·show aL w I' β ((st.env.frz id blk).get t) _;rw [aO.get_frz];exact hset.den (h3 t)
  ·have e1:(st.sg.frz id blk).get j=some bl:=g1;rw [ak.get_frz] at e1;split at e1
   ·cases e1
   ·simp only [aaZ] at e1;obtain ⟨x,hx,_⟩:=e1;exact ⟨j,x,c,hx,g2⟩
  ·rcases hb with hb|⟨c,hb⟩
   ·exact .inl hb
   ·exact .inr ⟨id,blk,c,hg,hb⟩
def St.pick (st:St) (ks is:List Nat):St:=⟨ks.map fun t=>(t,st.env.get t),is.filterMap fun i=>(st.sg.get i).map fun b=>(i,b),st.nx⟩
theorem aO.get_map (f:Nat→V) (t:Nat) : ∀(ks:List Nat),aO.get (ks.map fun t=>(t,f t)) t=f t∨aO.get (ks.map fun t=>(t,f t)) t = .unk
 | []=> .inr rfl
 | k::r=>by
  simp only [abh,aO.get];split
  ·rename_i h;subst h;exact .inl rfl
  ·exact aO.get_map f t r
theorem ak.get_pick (σ:ak) (j:Nat) (b:bN) : ∀(is:List Nat),ak.get (is.filterMap fun i=>(σ.get i).map fun b=>(i,b)) j=some b→σ.get j=some b
 | [],h=>by cases h
 | k::r,h=>by
  cases hk:σ.get k with
  | none=>
   simp only [List.filterMap_cons,hk,Option.map_none] at h;exact ak.get_pick σ j b r h
  | some c=>
   simp only [List.filterMap_cons,hk,acT,ak.get] at h;split at h
   ·rename_i e;subst e;rw [hk];exact h
   ·exact ak.get_pick σ j b r h
theorem ay.sub {w w':World} {I I':Nat→Prop} {β β':co} {σ σ' σ'':ak} {nx nx' nx'':Nat} (h:ay w I β σ nx w' I' β' σ' nx') (he : ∀j b,σ''.get j=some b→σ'.get j=some b) (hn:nx'≤nx''):ay w I β σ nx w' I' β' σ'' nx'':=
 { h with
  mem:=⟨fun id b hb=>h.mem.own id b (he _ _ hb),fun i j b b' k c c' h1 h2=>h.mem.inj i j b b' k c c' (he _ _ h1) (he _ _ h2),fun j hj=>h.mem.free j (by omega),h.mem.lt⟩
  nx:=by have:=h.nx;omega
  own':=fun b ⟨id,blk,c,h1,h2⟩=>h.own' b ⟨id,blk,c,he _ _ h1,h2⟩ }
theorem cH.pick (G:Gl) (m:Nat) (st:St) (ks is:List Nat):cH G m st (st.pick ks is):=by
 intro C a w _ hr;obtain ⟨I,β,h1,h2,h3,h4,h5,h6⟩:=hr;refine ⟨I,β,h1.sub (fun j b hb=>ak.get_pick _ j b is hb) (aaV _),h2,fun t =>?_,h4,h5.sub (fun b ⟨j,bl,c,g1,g2⟩=>⟨j,bl,c,ak.get_pick _ j bl is g1,g2⟩) (fun b h=> .inl h),h6⟩;rcases aO.get_map (fun t=>st.env.get t) t ks with h|h
 ·show aL w I β (aO.get (ks.map fun t=>(t,st.env.get t)) t) _;rw [h];exact h3 t
 ·show aL w I β (aO.get (ks.map fun t=>(t,st.env.get t)) t) _;rw [h];trivial
def V.atm (v:V):V:=match v with
 | .agg _=> .unk
 | .tup _=> .unk
 | .fn _ _=> .unk
 | v=>v
def qt:List V→V
 | [v]=>v
 | vs=> .tup (vs.map V.atm)
def o7 (P:Program):List ResultVar→St→(List V→Prop)→Prop
 | [],_,K=>K []
 | .tmp t::r,st,K=>o7 P r st fun vs=>K (st.env.get t::vs)
 | .cell a t::r,st,K=>fa P t (st.env.get a) st.sg fun v=>o7 P r st fun vs=>K (v::vs)
def ae (P:Program) (G:Gl) (m:Nat) (rs:List ResultVar) (r:V) (σ':ak) (st:St):Prop:=
 aC G m (fun st=>o7 P rs st fun vs=> ∃l:List Nat,(qt vs).sel (kI m l)=r∧ar σ' (st.sg.sel (kI m l))∧l.length≤4) st
def Cv (K:St→Prop):Exit→St→Prop
 | .normal,st=>K st
 | .ret,st=>K st
 | _,_=>False
def ap (P:Program) (G:Gl) (f:Nat) (args:List V) (σ:ak) (m:Nat) (r:V) (σ':ak):Prop:=
 ∀w I β vals,de w I β σ m→GY G w I→cU w I β args vals→Calls P f vals.toArray w fun e w'=> ∃u I' β',e = .returned u∧aL w' I' β' r u∧ay w I β σ m w' I' β' σ' (m+4)
def gV:Nat→List V→aO
 | _,[]=>[]
 | i,v::r=>(i,v)::gV (i+1) r
theorem Br (args:List V) : ∀(i t:Nat),(gV i args).get t=if i≤t then (args[t - i]?).getD .unk else .unk:=by
 induction args with
 | nil=>intro i t;simp [gV,aO.get]
 | cons v r ih=>
  intro i t;simp only [gV,aO.get];split
  ·rename_i h;subst h;simp
  ·rename_i h;rw [ih];by_cases h1:i+1≤t
   ·rw [aa3 h1,aa3 (by omega),show t - i=(t - (i+1))+1 from by omega];simp
   ·rw [aaY h1,aaY (by omega)]
section
variable {P:Program} {G:Gl}
theorem N4 {w:World} {I:Nat→Prop} {β:co} {v:V} {x:Value} (h:aL w I β v x):cg w I β v.atm x:=by
 cases v<;>first|exact h|trivial
def mA (tmps:Array Value):ResultVar→Sem Value
 | .tmp t=>pure (tmps.getD t undef)
 | .cell a t=>do loadVar t (←asAddr (tmps.getD a undef))
theorem tA (fn:Func) (tmps:Array Value):results fn tmps=(do let vs ←fn.results.mapM (mA tmps);pure (if h:vs.size=1 then vs[0] else .tuple vs)):=by
 unfold results;congr 2
theorem Io {P:Program} {w:World} {α:Type} (f:α→Sem Value) (rs:List α) (xs:List Value) (hl:rs.length=xs.length) (h : ∀(i:Nat) r x,rs[i]? = some r→xs[i]? = some x→(f r).run P w = .ok x w):(rs.mapM f).run P w = .ok xs w:=by
 induction rs generalizing xs with
 | nil=>
  cases xs with
  | nil=>simp
  | cons=>simp at hl
 | cons r rs ih=>
  cases xs with
  | nil=>simp at hl
  | cons x xs=>
   have h0:=h 0 r x rfl rfl;have h1:=ih xs (by simpa using hl) (fun i r x hr hx=>h (i+1) r x (by simpa using hr) (by simpa using hx));rw [List.mapM_cons];simp only [Sem.run_bind,Sem.run_pure,Result.andThen,h0,h1]
theorem E2 {w:World} {I:Nat→Prop} {β:co} {nx:Nat} {st:St} {tmps:Array Value} (hm:de w I β st.sg nx) (he : ∀t,aL w I β (st.env.get t) (tmps.getD t undef)) :
 ∀(rs:List ResultVar) (K:List V→Prop),o7 P rs st K →
   ∃(vs:List V) (xs:List Value),K vs∧vs.length=xs.length∧(∀(i:Nat) c v,vs[i]? = some c→xs[i]? = some v→aL w I β c v)∧rs.length=xs.length ∧ ∀(i:Nat) r x,rs[i]? = some r→xs[i]? = some x→(mA tmps r).run P w = .ok x w:=by
 intro rs;induction rs with
 | nil=>intro K h;exact ⟨[],[],h,rfl,by simp,rfl,by simp⟩
 | cons r rs ih=>
  intro K h;have key : ∀(v:V) (x:Value),aL w I β v x→(mA tmps r).run P w = .ok x w→o7 P rs st (fun vs=>K (v::vs)) → ∃(vs:List V) (xs:List Value),K vs∧vs.length=xs.length∧(∀(i:Nat) c v,vs[i]? = some c→xs[i]? = some v→aL w I β c v)∧(r::rs).length=xs.length ∧ ∀(i:Nat) r' x,(r::rs)[i]? = some r'→xs[i]? = some x→(mA tmps r').run P w = .ok x w:=by
   intro v x hv hx h;obtain ⟨vs,xs,h1,h2,h3,h4,h5⟩:=ih _ h;refine ⟨v::vs,x::xs,h1,by simp [h2],fun i c y hc hy =>?_,by simp [h4],fun i r' y hr hy =>?_⟩
   ·cases i with
    | zero=>simp at hc hy;subst hc;subst hy;exact hv
    | succ i=>exact h3 i c y (by simpa using hc) (by simpa using hy)
   ·cases i with
    | zero=>simp at hr hy;subst hr;subst hy;exact hx
    | succ i=>exact h5 i r' y (by simpa using hr) (by simpa using hy)
  cases r with
  | tmp t=>exact key _ _ (he t) (by simp [mA]) h
  | cell a t=>
   obtain ⟨v,q1,q2⟩:=pR h;obtain ⟨x,q3,q4⟩:=q2 w I β st.sg nx (tmps.getD a undef) hm (fun _ _ h=>h) (he a);refine key v x q4 ?_ q1;cases hv:tmps.getD a undef with
   | pointer o=>
    cases o with
    | some ad=>rw [hv] at q3;simp only [mA,hv,asAddr];exact q3
    | none=>rw [hv] at q3;simp [Instr.loadAt,Instr.sureAddr,stuck] at q3
   | _=>rw [hv] at q3;simp [Instr.loadAt,Instr.sureAddr,stuck] at q3
theorem N5 {w:World} {I:Nat→Prop} {β:co} : ∀ {vs:List V} {xs:List Value},vs.length=xs.length→(∀(i:Nat) c v,vs[i]? = some c→xs[i]? = some v→aL w I β c v)→aL w I β (qt vs) (if h:xs.toArray.size=1 then xs.toArray[0] else .tuple xs.toArray)
 | [v],[x],_,h=>by simpa [qt] using h 0 v x rfl rfl
 | [],[],_,_=>by simp only [qt];exact ⟨[],by simp,by simp [bY]⟩
 | v::v'::vs,x::x'::xs,hl,h=>by
  simp only [qt];refine ⟨x::x'::xs,by simp,by simpa using hl,fun i c u hc hu =>?_⟩;simp only [abp,aaZ] at hc;obtain ⟨c',hc',rfl⟩:=hc;exact N4 (h i c' u hc' hu)
 | [],_::_,hl,_=>by simp at hl
 | [_],[],hl,_=>by simp at hl
 | [_],_::_::_,hl,_=>by simp at hl
 | _::_::_,[],hl,_=>by simp at hl
 | _::_::_,[_],hl,_=>by simp at hl
theorem AE {fn:Func} {rs:List ResultVar} (hrs:fn.results=rs.toArray) {C:uP} {r:V} {σ':ak} {st:St} {a:Act} {w:World} (h:ae P G C.nx rs r σ' st) (hr:qD C G st a w) :
 ∃v,(results fn a.tmps).run P w = .ok v w ∧ ∃I' β',aL w I' β' r v∧ay C.w C.I C.β C.σ C.nx w I' β' σ' (C.nx+4):=by
 obtain ⟨st',h1,h2⟩:=h;obtain ⟨I,β,g1,g2,g3,g4,g5,g6⟩:=h1 C a w rfl hr;obtain ⟨vs,xs,⟨l,k1,k2,k3⟩,k4,k5,k6,k7⟩:=E2 g1.mem g3 rs _ h2;have hrun:=Io (P:=P) (w:=w) (mA a.tmps) rs xs k6 k7;have hres:(results fn a.tmps).run P w = .ok (if h:xs.toArray.size=1 then xs.toArray[0] else .tuple xs.toArray) w:=by
  rw [tA,hrs,List.mapM_toArray];simp only [Sem.run_bind,Sem.run_map,hrun,Result.andThen,Sem.run_pure]
 have hden:=N5 (w:=w) (I:=I) (β:=β) k4 k5;clear k6 k7 hrun;revert hres hden;generalize (if h:xs.toArray.size=1 then xs.toArray[0] else Value.tuple xs.toArray)=u;intro hres hden;have hrel:qD { C with n:=1,hd:=[] } G ⟨[(0,qt vs)],st'.sg,st'.nx⟩ { tmps :=#[u],defers:=[] } w:=by
  refine ⟨I,β,g1,g2,fun t =>?_,rfl,j2.nil,g6⟩;show aL w I β (if 0=t then qt vs else .unk) _;split
  ·rename_i e;subst e;exact hden
  ·trivial
 obtain ⟨I',β',q1,_,q3,_⟩:=cH.sel G C.nx ⟨[(0,qt vs)],st'.sg,st'.nx⟩ l { C with n:=1,hd:=[] } { tmps :=#[u],defers:=[] } w rfl hrel;refine ⟨_,hres,I',β',?_,q1.sub k2 (by show C.nx+l.length≤C.nx+4;omega)⟩;subst k1;exact q3 0
theorem ft.shut {C:uP} (hC:C.hd=[]) {e:aO} {σ:ak} {nx lim D:Nat} {ds:List Deferred} {tmps:Array Value} {w:World} (h:ft C G e σ nx lim { tmps:=tmps,defers :={ target:= .collected D,args :=#[] } :: ds } w) :
 w.heap[D]? = some (.deferred (some []))∧ft C G e σ nx lim { tmps:=tmps,defers:=ds } (w.putObj D (.deferred none)):=by
 obtain ⟨I,β,h1,h2,h3,h4,⟨⟨Ds,q1,q2,q3⟩,_⟩,h6⟩:=h;match Ds,q1,q2,q3 with
 | [],q1,_,_=>simp at q1
 | D'::r,q1,q2,q3=>
  simp only [abh,ab7,Deferred.mk.injEq,Target.collected.injEq,adc] at q1;obtain ⟨rfl,rfl⟩:=q1;obtain ⟨g1,g2,g3,g4⟩:=q3 D (by simp);have hI : ∀b,I b→(w.putObj D (.deferred none)).heap[b]? = w.heap[b]? :=fun b hb=>World.putObj_heap_other (fun e=>g3 (e▸hb))
  have hO : ∀b,bK σ β b→(w.putObj D (.deferred none)).heap[b]? = w.heap[b]? :=fun b hb=>World.putObj_heap_other (fun e=>g4 (e▸hb))
  refine ⟨g2,I,β,⟨⟨fun id blk hb =>?_,h1.mem.inj,h1.mem.free,fun b hb =>?_⟩,h1.os,h1.tape,h1.output,?_,fun b hb ho =>?_,h1.imm,h1.immn,h1.bet,h1.nx,h1.own'⟩,h2,fun t=>(h3 t).keep hI (fun _ h=>h) (fun _ _ h=>h),h4,⟨⟨r,rfl,(acF.1 q2).2,fun D' hD' =>?_⟩,fun p hp=>by rw [hC] at hp;cases hp⟩,fun g x hx=>(h6 g x hx).keep hI (fun _ h=>h)⟩
  ·have ho:=h1.mem.own id blk hb;refine ho.keep (fun b hb' =>?_) (fun _ h=>h) (fun b c hc=>(ho.not_imm hc).1) (fun _ _ h=>h);rcases hb' with hb'|⟨c,hc⟩
   ·exact hI b hb'
   ·exact hO b ⟨id,blk,c,hb,hc⟩
  ·rw [World.putObj_size];exact h1.mem.lt b hb
  ·rw [World.putObj_size];exact h1.size
  ·rw [World.putObj_heap_other (by omega)];exact h1.block b hb ho
  ·obtain ⟨k1,k2,k3,k4⟩:=q3 D' (by simp [hD']);refine ⟨k1,?_,k3,k4⟩;rw [World.putObj_heap_other (fun e=>(acF.1 q2).1 (by rw [←e];exact hD'))];exact k2
theorem y7 {fn:Func} {C:uP} (hC:C.hd=[]) {st:St} {tmps:Array Value} {R:Ending→World→Prop} (hf : ∀w,qD C G st { tmps:=tmps,defers:=[] } w → ∃v,(results fn tmps).run P w = .ok v w∧R (.returned v) w) :
 ∀(ds:List Deferred) (w:World),qD C G st { tmps:=tmps,defers:=ds } w→LeavesInM (Fr none) 0 P fn tmps R ds .returning w
 | [],w,h=>hf w h
 | d::ds,w,h=>by
  obtain ⟨D,rfl⟩ : ∃D,d = { target:= .collected D,args :=#[] } :=by
   obtain ⟨I,β,h1,h2,h3,h4,⟨⟨Ds,q1,q2,q3⟩,_⟩,h6⟩:=id h;match Ds,q1 with
   | [],q1=>simp at q1
   | D::r,q1=>
    simp only [abh,ab7] at q1;exact ⟨D,q1.1⟩
  obtain ⟨g1,g2⟩:=ft.shut hC h;exact ⟨(fun e=>by cases e),.inl ⟨D,_,rfl,run_takeDeferred g1,y7 hC hf ds _ g2⟩⟩
theorem ap.of_aw {f:Nat} {fn:Func} {c:Code} {rs:List ResultVar} {n:Nat} (hf:P.funcs[f]? = some fn) (hb:fn.body=some c) (hrs:fn.results=rs.toArray) (hn:fn.ntmps=n)
 {args:List V} (hlen:args.length≤n) {σ:ak} {m:Nat} {r:V} {σ':ak} (h:AW P G n m c ⟨gV 0 args,σ,m⟩ (Cv (ae P G m rs r σ'))):ap P G f args σ m r σ':=by
 intro w I β vals hm hG hd;subst hn;refine (callsIn_wide (n:=0)).1 (callsIn_of_wp_marks (F:=Fr none) hf hb trivial ?_);let C:uP:=⟨w,I,β,σ,m,fn.ntmps,hm.free,[]⟩
 have hrel:qD C G ⟨gV 0 args,σ,m⟩ { tmps:=vals.toArray++Array.replicate (fn.ntmps - vals.toArray.size) undef,defers:=[] } w:=by
  refine ⟨I,β,ay.refl hm,hm.free,fun t =>?_,?_,j2.nil,hG⟩
  ·show aL w I β ((gV 0 args).get t) _;rw [Br];simp only [aa1,ab0,ad5];cases hv:args[t]? with
   | none=>trivial
   | some v=>
    have ht:t<vals.length:=by
     rw [←hd.1];rcases aa2 t args.length with h|h
     ·exact h
     ·rw [abz h] at hv;cases hv
    have:(vals.toArray++Array.replicate (fn.ntmps - vals.toArray.size) undef).getD t undef=vals[t]:=by
     simp [abE,Array.getElem?_append,ht]
    rw [this];exact hd.2 t v _ hv (IO ht)
  ·show (vals.toArray++Array.replicate (fn.ntmps - vals.toArray.size) undef).size=fn.ntmps;have:=hd.1;simp;omega
 refine wpIn_mono (h none (.inl rfl) C _ w rfl rfl hrel) ?_;rintro e a w' ⟨st',hq,hr⟩;have key:ae P G m rs r σ' st'→LeavesInM (Fr none) 0 P fn a.tmps (fun e w'=> ∃u I' β',e = .returned u∧aL w' I' β' r u∧ay w I β σ m w' I' β' σ' (m+4)) a.defers .returning w':=fun hq=>by
  refine y7 (C:=C) rfl (G:=G) (st:=st') (fun w'' h =>?_) a.defers w' hr;obtain ⟨v,h2,I',β',h3,h4⟩:=AE (C:=C) (fn:=fn) hrs hq h;exact ⟨v,h2,v,I',β',rfl,h3,h4⟩
 cases e with
 | normal=>exact key hq
 | ret=>exact key hq
 | _=>exact hq.elim
theorem ap.of_code (ho:P.follows .mixedOrders=true) {f:Nat} {fn:Func} {c:Code} {rs:List ResultVar} {n:Nat} (lv:List Nat) (hf:P.funcs[f]? = some fn) (hb:fn.body=some c) (hrs:fn.results=rs.toArray) (hn:fn.ntmps=n) (hok:aS n c=true)
 {args:List V} (hlen:args.length≤n) {σ:ak} {m:Nat} {r:V} {σ':ak} (h:bJ P G n m lv c ⟨gV 0 args,σ,m⟩ (Cv (ae P G m rs r σ'))):ap P G f args σ m r σ':=
 ap.of_aw hf hb hrs hn hlen (d9 ho c _ _ hok h)
end
def bk (l:List Nat) (id:Nat):Nat→Option Nat:=fun j=>if j<l.length then l[j]? else if j<l.length+4 then some (id+(j - l.length)) else none
def fw (l:List Nat):Nat→Option Nat:=fun i=>Lf l i 0
def l4 (σ:ak):List Nat→ak
 | []=>σ
 | i::r=>l4 (σ.del i) r
def JI (l:List Nat) (id:Nat) (σ:ak):Bool:=(l.all fun i=>decide (i<id)&&(σ.get i).isSome)&&decide l.Nodup
theorem sx (l:List Nat) : ∀(σ:ak) (j:Nat),(l4 σ l).get j=if j∈l then none else σ.get j:=by
 induction l with
 | nil=>intro σ j;simp [l4]
 | cons i r ih=>
  intro σ j;simp only [l4,ih,ak.get_del,abi];by_cases h:j∈r
  ·simp [h]
  ·by_cases h':j=i<;>simp [h,h']
theorem mg : ∀ {l:List Nat} (_:l.Nodup) {i j m:Nat},l[j]? = some i→Lf l i m=some (m+j)
 | x::r,hn,i,j,m,h=>by
  unfold Lf;cases j with
  | zero=>simp at h;subst h;simp
  | succ j=>
   simp at h;have hm:i∈r:=aa0 h;have hx:x≠i:=by rintro rfl;exact (acF.1 hn).1 hm
   rw [aaY hx,mg (acF.1 hn).2 h];congr 1;omega
theorem J7 {l:List Nat} {id:Nat} (hn:l.Nodup) (hlt : ∀i∈l,i<id) : ∀j j' i,bk l id j=some i→bk l id j'=some i→j=j':=by
 intro j j' i h h';unfold bk at h h';split at h
 ·have hi:=hlt i (aa0 h);split at h'
  ·have e1:=mg hn (m:=0) h;have e2:=mg hn (m:=0) h';rw [e1] at e2;injection e2 with e2;omega
  ·split at h'
   ·injection h' with h';omega
   ·cases h'
 ·split at h
  ·injection h with h;split at h'
   ·have hi:=hlt i (aa0 h');omega
   ·split at h'
    ·injection h' with h';omega
    ·cases h'
  ·cases h
theorem ak.get_sel' {g:Nat→Option Nat} (hinj : ∀i i' j,g i=some j→g i'=some j→i=i') {i j:Nat} (hg:g i=some j) : ∀(σ:ak) (b:bN),σ.get i=some b→(σ.sel g).get j=some (b.sel g)
 | [],b,h=>by simp [ak.get] at h
 | (i',c)::r,b,h=>by
  simp only [ak.get] at h;split at h
  ·rename_i e;subst e;injection h with h;subst h;simp [ak.sel,hg,ak.get]
  ·rename_i hne;have ih:=ak.get_sel' hinj hg r b h;simp only [ak.sel];cases hi:g i' with
   | none=>exact ih
   | some j'=>
    simp only [ak.get];rw [aaY]
    ·exact ih
    ·rintro rfl;exact hne (hinj _ _ _ hi hg)
theorem lb {l:List Nat} {i j:Nat} (h:fw l i=some j):l[j]? = some i∧j<l.length:=by
 obtain ⟨h1,h2,h3⟩:=eF h;exact ⟨by simpa using h3,by omega⟩
theorem jS.named {w:World} {I:Nat→Prop} {β:co} {id:Nat} {blk:bN} (h:jS w I β id blk) : ∃y,β id=some y:=by
 cases blk with
 | cell cs ty=>obtain ⟨b,cap,_,_,h1,_⟩:=h;exact ⟨_,h1⟩
 | row k es ty=>
  rcases h with ⟨h1,_⟩|⟨b,cap,_,_,h1,_⟩
  ·exact ⟨_,h1⟩
  ·exact ⟨_,h1⟩
 | map es=>obtain ⟨b,cap,_,_,h1,_⟩:=h;exact ⟨_,h1⟩
 | iter s pos=>obtain ⟨b,cap,h1,_⟩:=h;exact ⟨_,h1⟩
 | rc y j e=>obtain ⟨b,cap,r,h1,_⟩:=h;exact ⟨_,h1⟩
section
variable {P:Program} {G:Gl}
theorem yB {f:Nat} {args:List V} {σ:ak} {id:Nat} (l:List Nat) (hl:JI l id σ=true) {r:V} {σ1:ak} (h:ap P G f (args.map (V.sel (fw l))) (σ.sel (fw l)) l.length r σ1) :
 uS P G f args σ id (r.sel (bk l id)) (l4 σ l++σ1.sel (bk l id)):=by
 intro w I β nx vals hm hG hf hnx hd;simp only [JI,aa8,abF,abs] at hl;obtain ⟨hl1,hnd⟩:=hl;have hlt : ∀i∈l,i<id:=fun i hi=>(hl1 i hi).1
 let β0:co:=fun j=>match l[j]? with|some i=>β i|none=>none
 have hfw : ∀i j,fw l i=some j → ∀x,β i=some x→β0 j=some x:=by
  intro i j hij x hx;show (match l[j]? with|some i=>β i|none=>none)=some x;rw [(lb hij).1];exact hx
 have hfb : ∀i j,fw l i=some j→β0 j=β i:=by
  intro i j hij;show (match l[j]? with|some i=>β i|none=>none)=β i;rw [(lb hij).1]
 have hinj : ∀i i' j,fw l i=some j→fw l i'=some j→i=i':=by
  intro i i' j h h';have e1:=(lb h).1;have e2:=(lb h').1;rw [e1] at e2;injection e2
 have hm0:de w I β0 (σ.sel (fw l)) l.length:=by
  refine ⟨fun j b hj =>?_,fun j j' b b' k c c' g1 g2 g3 g4 =>?_,fun j hj =>?_,hm.lt⟩
  ·obtain ⟨i,b',q1,q2,q3⟩:=ak.get_sel hinj _ j b hj;subst q3;exact (hm.own i b' q2).sel hfw q1
  ·obtain ⟨i,x,q1,q2,q3⟩:=ak.get_sel hinj _ j b g1;obtain ⟨i',x',q1',q2',q3'⟩:=ak.get_sel hinj _ j' b' g2;rw [hfb i j q1] at g3;rw [hfb i' j' q1'] at g4;have:=hm.inj i i' x x' k c c' q2 q2' g3 g4;subst this;rw [q1] at q1';injection q1'
  ·show (match l[j]? with|some i=>β i|none=>none)=none;rw [abz hj]
 have hd0:cU w I β0 (args.map (V.sel (fw l))) vals:=by
  refine ⟨by simpa using hd.1,fun i c x hc hx =>?_⟩;simp only [abp,aaZ] at hc;obtain ⟨c',hc',rfl⟩:=hc;exact (hd.2 i c' x hc' hx).sel hfw
 refine (h w I β0 vals hm0 hG hd0).mono ?_;rintro e w' ⟨u,I',β1,rfl,hu,hs⟩;let β':co:=fun i=>if id≤i∧i<id+4 then β1 (l.length+(i - id)) else β i
 have hβ : ∀i,¬(id≤i∧i<id+4)→β' i=β i:=fun i hi=>by simp only [β',aaY hi]
 have hown0 : ∀b,bK (σ.sel (fw l)) β0 b → ∃i blk c,i∈l∧σ.get i=some blk∧β i=some (some (b,c)):=by
  rintro b ⟨j,blk,c,h1,h2⟩;obtain ⟨i,b',q1,q2,q3⟩:=ak.get_sel hinj _ j blk h1;rw [hfb i j q1] at h2;exact ⟨i,b',c,aa0 (lb q1).1,q2,h2⟩
 have hown0' : ∀b,bK (σ.sel (fw l)) β0 b→bK σ β b:=fun b hb=>by
  obtain ⟨i,blk,c,_,h2,h3⟩:=hown0 b hb;exact ⟨i,blk,c,h2,h3⟩
 have hbk : ∀j i,bk l id j=some i → ∀x,β1 j=some x→β' i=some x:=by
  intro j i hji x hx;unfold bk at hji;split at hji
  ·have hil:=aa0 hji;rw [hβ i (by have:=hlt i hil;omega)];have hs1:=(hl1 i hil).2;cases hgi:σ.get i with
   | none=>rw [hgi] at hs1;cases hs1
   | some blk=>
    have hown:=hm.own i blk hgi;obtain ⟨y,hy⟩:=hown.named;have h0:β0 j=some y:=by
     show (match l[j]? with|some i=>β i|none=>none)=some y;rw [hji];exact hy
    rw [hs.bet j y h0] at hx;rw [hy,hx]
  ·split at hji
   ·injection hji with hji;show (if id≤i∧i<id+4 then β1 (l.length+(i - id)) else β i)=some x;rw [aa3 (by omega),show l.length+(i - id)=j from by omega];exact hx
   ·cases hji
 have hbk' : ∀j i,bk l id j=some i→β1 j≠none→β' i=β1 j:=by
  intro j i hji hne;cases hx:β1 j with
  | none=>exact absurd hx hne
  | some x=>exact hbk j i hji x hx
 have hbinj:=J7 (id:=id) hnd hlt;have hkeep : ∀i blk,i∉l→σ.get i=some blk → ∀b c,β i=some (some (b,c)) → ¬bK (σ.sel (fw l)) β0 b∧b<w.heap.size ∧ ¬I b:=by
  intro i blk hil hgi b c hb;refine ⟨fun ho =>?_,((hm.own i blk hgi).not_imm hb).2,((hm.own i blk hgi).not_imm hb).1⟩;obtain ⟨i',blk',c',h1,h2,h3⟩:=hown0 b ho;have:=hm.inj i i' blk blk' b c c' hgi h2 hb h3;subst this;exact hil h1
 have hget : ∀i b,(l4 σ l++σ1.sel (bk l id)).get i=some b→(i∉l∧σ.get i=some b) ∨ ∃j b',bk l id j=some i∧σ1.get j=some b'∧b=b'.sel (bk l id):=by
  intro i b hi;rw [b8,sx] at hi;split at hi
  ·rename_i b' hb';split at hb'
   ·cases hb'
   ·rename_i hil;injection hi with hi;subst hi;exact .inl ⟨hil,hb'⟩
  ·exact .inr (ak.get_sel hbinj _ i b hi)
 have hnf : ∀i blk,σ.get i=some blk→β' i=β i:=by
  intro i blk hgi;obtain ⟨y,hy⟩:=(hm.own i blk hgi).named;apply hβ;rintro ⟨h1,h2⟩;rw [hf i h1 h2] at hy;cases hy
 have hdom : ∀j b',σ1.get j=some b'→β1 j≠none:=by
  intro j b' hj he;obtain ⟨y,hy⟩:=(hs.mem.own j b' hj).named;rw [he] at hy;cases hy
 have hother : ∀i blk b c,i∉l→σ.get i=some blk→β' i=some (some (b,c)) → ¬bK σ1 β1 b ∧ ¬I' b∧w'.heap[b]? = w.heap[b]? :=by
  intro i blk b c hil hgi hb;have hb0:β i=some (some (b,c)):=by rw [←hnf i blk hgi];exact hb
  obtain ⟨h1,h2,h3⟩:=hkeep i blk hil hgi b c hb0;refine ⟨fun ho =>?_,fun hi =>?_,hs.block b h2 h1⟩
  ·rcases hs.own' b ho with h|h
   ·exact h1 h
   ·omega
  ·rcases hs.immn b hi with h|h|h
   ·exact h3 h
   ·exact h1 h
   ·omega
 refine ⟨u,I',β',rfl,hu.sel hbk,⟨⟨fun i b hi =>?_,fun i i' b b' k c c' g1 g2 g3 g4 =>?_,fun j hj =>?_,hs.mem.lt⟩,hs.os,hs.tape,hs.output,hs.size,fun b hb ho=>hs.block b hb (fun h=>ho (hown0' b h)),hs.imm,fun b hb =>?_,fun i x hx =>?_,aaV _,?_⟩,hβ⟩
 ·rcases hget i b hi with ⟨hil,hgi⟩|⟨j,b',h1,h2,rfl⟩
  ·have ho:=hm.own i b hgi;have hbet : ∀j x,β j=some x→β' j=some x:=by
    intro j x hx;rw [hβ j]
    ·exact hx
    ·rintro ⟨h1,h2⟩;rw [hf j h1 h2] at hx;cases hx
   refine ho.keep (fun k hk =>?_) hs.imm (fun k c hk=>(hother i b k c hil hgi (by rw [hnf i b hgi];exact hk)).2.1) hbet;rcases hk with hk|⟨c,hk⟩
   ·exact hs.block k (hm.lt k hk) (hm0.not_owned hk)
   ·exact (hother i b k c hil hgi (by rw [hnf i b hgi];exact hk)).2.2
  ·exact (hs.mem.own j b' h2).sel hbk h1
 ·rcases hget i b g1 with ⟨hil,hgi⟩|⟨j,x,q1,q2,_⟩
  ·rcases hget i' b' g2 with ⟨hil',hgi'⟩|⟨j',x',q1',q2',_⟩
   ·rw [hnf i b hgi] at g3;rw [hnf i' b' hgi'] at g4;exact hm.inj i i' b b' k c c' hgi hgi' g3 g4
   ·exfalso;rw [hbk' j' i' q1' (hdom j' x' q2')] at g4;exact (hother i b k c hil hgi g3).1 ⟨j',x',c',q2',g4⟩
  ·rcases hget i' b' g2 with ⟨hil',hgi'⟩|⟨j',x',q1',q2',_⟩
   ·exfalso;rw [hbk' j i q1 (hdom j x q2)] at g3;exact (hother i' b' k c' hil' hgi' g4).1 ⟨j,x,c,q2,g3⟩
   ·rw [hbk' j i q1 (hdom j x q2)] at g3;rw [hbk' j' i' q1' (hdom j' x' q2')] at g4;have:=hs.mem.inj j j' x x' k c c' q2 q2' g3 g4;subst this;rw [q1] at q1';injection q1'
 ·rw [hβ j (by omega)];exact hm.free j hj
 ·rcases hs.immn b hb with h|h|h
  ·exact .inl h
  ·exact .inr (.inl (hown0' b h))
  ·exact .inr (.inr h)
 ·show β' i=some x;rw [hβ i]
  ·exact hx
  ·rintro ⟨h1,h2⟩;rw [hf i h1 h2] at hx;cases hx
 ·rintro b ⟨i,blk,c,h1,h2⟩;rcases hget i blk h1 with ⟨hil,hgi⟩|⟨j,b',q1,q2,rfl⟩
  ·exact .inl ⟨i,blk,c,hgi,by rw [←hnf i blk hgi];exact h2⟩
  ·rw [hbk' j i q1 (hdom j b' q2)] at h2;rcases hs.own' b ⟨j,b',c,q2,h2⟩ with h|h
   ·exact .inl (hown0' b h)
   ·exact .inr h
theorem au.of {f:Nat} {args:List V} {σ:ak} {id:Nat} {K:V→ak→Prop} (l:List Nat) {r:V} {σ1:ak} (he:cK P f=true) (h:ap P G f (args.map (V.sel (fw l))) (σ.sel (fw l)) l.length r σ1) (hl:JI l id σ=true)
 (hK:K (r.sel (bk l id)) (l4 σ l++σ1.sel (bk l id))):au P G f args σ id K:=⟨_,_,hK,.inl ⟨he,yB l hl h⟩⟩
theorem tG (σ:ak):σ.sel (fw [])=[]:=by
 induction σ with
 | nil=>rfl
 | cons x r ih=>simp [ak.sel,fw,Lf] at ih ⊢;exact ih
theorem dV.of {f:Nat} {args:List V} {σ:ak} {id:Nat} {K:V→ak→Prop} {r:V} {σ1:ak} (he:cK P f=true) (h:ap P G f (args.map (V.sel (fw []))) [] 0 r σ1)
 (hK:K (r.sel (bk [] id)) (σ1.sel (bk [] id))):dV P G f args σ id K:=by
 refine ⟨_,_,hK,.inl ⟨he,fun j b hj =>?_,fun σ' _=>yB (σ1:=σ1) [] rfl (by rw [tG];exact h)⟩⟩;obtain ⟨i,b',h1,_⟩:=ak.get_sel (J7 (l:=[]) (id:=id) (by simp) (by simp)) _ j b hj;unfold bk at h1;simp at h1;omega
end
def St.nil (st:St) (t k:Nat):St:=match st.env.get t with
 | .d (.lit (.slice none 0 0))=>⟨st.env.put t (.so st.nx k 0 0),(st.nx,.row k [])::st.sg,st.nx+1⟩
 | _=>st
theorem cH.nil (G:Gl) (m:Nat) (st:St) (t k:Nat):cH G m st (st.nil t k):=by
 intro C a w _ hr;unfold St.nil;split
 ·rename_i he;obtain ⟨I,β,h1,h2,h3,h4,h5,h6⟩:=hr;have hb:β st.nx=none:=h2 st.nx (aaV _);have h1':ay C.w C.I C.β C.σ C.nx w I β st.sg (st.nx+1):=h1.bump (by omega);have hs:=ay.nilRow h1'.mem (id:=st.nx) hb (by omega) k (tq:=none);refine ⟨I,oh β st.nx none,h1'.trans hs,fun j hj =>?_,fun u =>?_,h4,h5.step hs,h6⟩
  ·have:j≠st.nx:=by have:st.nx+1≤j:=hj;omega
   rw [aP this];exact h2 j (by have:st.nx+1≤j:=hj;omega)
  ·show aL w I (oh β st.nx none) ((st.env.put t (.so st.nx k 0 0)).get u) _;rw [aO.get_put];split
   ·rename_i e;subst e;have:=h3 t;rw [he] at this;have hv:=aA this;exact .inl ⟨aX _ _ _,rfl,rfl,none,hv⟩
   ·exact hs.den h1'.mem (h3 u)
 ·exact hr
section
variable {P:Program} {G:Gl}
@[congr] theorem Sw {α:Type} {o o':Option α} {K:α→Prop} (h:o=o'):cG o K=cG o' K:=by rw [h]
@[congr] theorem Qv {k j j':Nat} {es es':List D} {i i':Nat} {x x':Nat × Bool} {K:V→Prop} (h:es=es') (hi:i=i') (hj:j=j') (hx:x=x'):iQ k es i j x K=iQ k es' i' j' x' K:=by rw [h,hi,hj,hx]
@[congr] theorem Qo {b b':bN} {K:List V→Prop} (h:b=b'):rI b K=rI b' K:=by rw [h]
@[congr] theorem ST {b b':bN} {K:Nat→List D→Prop} (h:b=b'):I7 b K=I7 b' K:=by rw [h]
@[congr] theorem Qy {b b':bN} {K:ByteArray→Nat→Prop} (h:b=b'):sI b K=sI b' K:=by rw [h]
@[congr] theorem Qm {v v':V} {K:Bool→Prop} (h:v=v'):rA v K=rA v' K:=by rw [h]
@[congr] theorem Qr {v v':V} {p q:Prop} (h:v=v'):mZ v p q=mZ v' p q:=by rw [h]
@[congr] theorem Nn {v v':V} {K:Nat→List V→Prop} {Y:Nat→Prop} {B:Nat→List V→Prop} (h:v=v'):bC v K Y B=bC v' K Y B:=by rw [h]
@[congr] theorem QM {c c' a a' b b':V} {K:V→Prop} (h:c=c') (ha:a=a') (hb:b=b'):jO c a b K=jO c' a' b' K:=by rw [h,ha,hb]
@[congr] theorem QA {t:Nat} {a a':V} {σ σ':ak} {K:V→Prop} (h:a=a') (hs:σ=σ'):fa P t a σ K=fa P t a' σ' K:=by rw [h,hs]
@[congr] theorem QG {x x':V} {σ σ':ak} {K:V→ak→Prop} (h:x=x') (hs:σ=σ'):lT x σ K=lT x' σ' K:=by rw [h,hs]
@[congr] theorem RQ {v v':V} {K:Bool→Prop} {q:Prop} (h:v=v'):qq v K q=qq v' K q:=by rw [h]
@[congr] theorem OB {ops:Array Oper} {o:Oper} {e e':aO} {y n:aO→Prop} (h:e=e'):cL ops o e y n=cL ops o e' y n:=by rw [h]
@[congr] theorem QO {op:Op} {g:Operand→V} {σ σ':ak} {id id':Nat} {K:V→ak→Prop} (h:σ=σ') (hi:id=id'):aT P G op g σ id K=aT P G op g σ' id' K:=by rw [h,hi]
@[congr] theorem O8 {op:Op} {g:Operand→V} {σ σ':ak} {id id':Nat} {K:V→ak→Prop} (h:σ=σ') (hi:id=id'):aZ P G op g σ id K=aZ P G op g σ' id' K:=by rw [h,hi]
@[congr] theorem Sv {ops:Array Oper} {b b' i i':Nat} {l l':List Oper} {e e':aO} {σ σ':ak} {K:aO→ak→Prop} (hb:b=b') (hi:i=i') (hl:l=l') (he:e=e') (h:σ=σ'):nC P G ops b i l e σ K=nC P G ops b' i' l' e' σ' K:=by rw [hb,hi,hl,he,h]
@[congr] theorem Ss {ops:Array Oper} {b b' i i':Nat} {l l':List Oper} {e e':aO} {σ σ' τ τ':ak} {K:aO→ak→Prop} (hb:b=b') (hi:i=i') (hl:l=l') (he:e=e') (h:σ=σ') (ht:τ=τ'):s6 P G ops b i l e σ τ K=s6 P G ops b' i' l' e' σ' τ' K:=by rw [hb,hi,hl,he,h,ht]
@[congr] theorem Su {lo:List Nat} {σk:ak} {ops:Array Oper} {b b' i i':Nat} {l l':List Oper} {e e':aO} {σ σ' τ τ':ak} {K:aO→ak→Prop} (hb:b=b') (hi:i=i') (hl:l=l') (he:e=e') (h:σ=σ') (ht:τ=τ'):opsL P G lo σk ops b i l e σ τ K=opsL P G lo σk ops b' i' l' e' σ' τ' K:=by rw [hb,hi,hl,he,h,ht]
@[congr] theorem Tt {σk σ σ':ak} {p:Prop} (h:σ=σ'):zC σk σ p=zC σk σ' p:=by rw [h]
@[congr] theorem Sc {σ σ':ak} {p:Prop} (h:σ=σ'):Iz σ p=Iz σ' p:=by rw [h]
@[congr] theorem P0 {lo:List Nat} {ops:Array Oper} {i i':Nat} {op:Op} {g:Operand→V} {σ σ' τ τ':ak} {id id':Nat} {K L:V→ak→Prop} (hi:i=i') (h:σ=σ') (ht:τ=τ') (hj:id=id'):gR P G lo ops i op g σ τ id K L=gR P G lo ops i' op g σ' τ' id' K L:=by rw [hi,h,ht,hj]
@[congr] theorem SM {lv:List Nat} {ops:Array Oper} {draw:Bool} {K:St→Prop} {st st':St} (h:st=st'):kA P G lv ops draw K st=kA P G lv ops draw K st':=by rw [h]
@[congr] theorem Qq {n m:Nat} {lv:List Nat} {c:Code} {st st':St} {Q:Exit→St→Prop} (h:st=st'):bJ P G n m lv c st Q=bJ P G n m lv c st' Q:=by rw [h]
@[congr] theorem Qf {m:Nat} {rs:List ResultVar} {r:V} {σ:ak} {st st':St} (h:st=st'):ae P G m rs r σ st=ae P G m rs r σ st':=by rw [h]
@[congr] theorem SO {rs:List ResultVar} {st st':St} {K:List V→Prop} (h:st=st'):o7 P rs st K=o7 P rs st' K:=by rw [h]
end
def jE (r:PV) (K:V→Prop):Prop:=cG r fun x=>pT x.1 (K x.2)
def dx (r:j3) (K:V→ak→Prop):Prop:=cG r fun x=>pT x.1 (K x.2.1 x.2.2)
def mj:Op→Bool
 | .move _ | .assign _ | .nilCheck _ | .binOp _ _ _ _ _ | .unOp _ _ _ | .makeInterface _ _ | .makeFunc _ _ _ | .slice _ _ _ _ _ | .fieldAddr _ _ _ | .field _ _ _ | .indexAddr _ _ _ | .index _ _ _ | .typeAssert _ _ _ _ | .extract _ _ | .build _ _=>true
 | .call c=>match c.callee with
  | .builtin .len=>true
  | .builtin .max=>true
  | .builtin .min=>true
  | _=>false
 | _=>false
def kg:Op→Bool
 | .alloc _ | .box _ _ | .buildSlice _ _ _ | .range _ _ | .makeSlice _ _ _=>true
 | _=>false
section
variable {P:Program} {G:Gl} {g:Operand→V} {σ:ak} {id:Nat} {K:V→ak→Prop}
theorem L1 (p:Prop) (v:V) (K:V→Prop):jE (some (p,v)) K=pT p (K v):=rfl
theorem IN (p:Prop) (v:V) (s:ak) (K:V→ak→Prop):dx (some (p,v,s)) K=pT p (K v s):=rfl
@[congr] theorem Tp {r r':PV} {K:V→Prop} (h:r=r'):jE r K=jE r' K:=by rw [h]
@[congr] theorem SG {r r':j3} {K:V→ak→Prop} (h:r=r'):dx r K=dx r' K:=by rw [h]
theorem Ck {op:Op} (h:mj op=true) (g:Operand→V) (σ:ak) (id:Nat):aR P op g σ id=none∧eR P op g σ id=none:=by
 cases op<;>simp only [mj,aa9] at h<;>try exact ⟨rfl,rfl⟩
 case call c=>
  split at h<;>first
   | (exfalso;revert h;simp;done)
   | (rename_i hc;simp only [aR,eR,hc,and_self])
theorem a9 {op:Op} (h:mj op=true):aT P G op g σ id K=jE (ce P op g) (fun v=>K v σ):=by
 have key:fz op (dl P op g σ id) K=jE (ce P op g) (fun v=>K v σ):=by
  obtain ⟨h1,h2⟩:=Ck (P:=P) h g σ id;simp only [dl,bg,h1,h2];cases ce P op g with
  | none=>rfl
  | some x=>obtain ⟨p,v⟩:=x;show pT p (K v (σ++[]))=pT p (K v σ);rw [abb]
 cases op<;>simp only [mj,aa9] at h<;>try exact key
 case call c=>
  rw [←key];simp only [aT];split at h<;>first
   | (exfalso;revert h;simp;done)
   | (rename_i hc;simp only [hc])
theorem be {op:Op} (h:mj op=true):aZ P G op g σ id K=jE (ce P op g) (fun v=>K v []):=by
 have key:fz op (bg P op g σ id) K=jE (ce P op g) (fun v=>K v []):=by
  obtain ⟨h1,h2⟩:=Ck (P:=P) h g σ id;simp only [bg,h1];cases ce P op g with
  | none=>rfl
  | some x=>obtain ⟨p,v⟩:=x;simp [fz,jE,cG]
 cases op<;>simp only [mj,aa9] at h<;>try exact key
 case call c=>
  rw [←key];simp only [aZ];split at h<;>first
   | (exfalso;revert h;simp;done)
   | (rename_i hc;simp only [hc])
theorem jJ {op:Op} (h:kg op=true) (hb : ∀t n ps,op ≠ .buildSlice t n ps):aT P G op g σ id K=dx (aR P op g σ id) (fun v new=>K v (σ++new)):=by
 have key:fz op (dl P op g σ id) K=dx (aR P op g σ id) (fun v new=>K v (σ++new)):=by
  have h1:ce P op g=none:=by cases op<;>first|rfl|(simp only [kg,aa9] at h)
  have h2:eR P op g σ id=none:=by cases op<;>first|rfl|(simp only [kg,aa9] at h)
  simp only [dl,bg,h1,h2];cases aR P op g σ id with
  | none=>rfl
  | some x=>obtain ⟨p,v,s⟩:=x;simp [fz,dx,cG]
 cases op<;>simp only [kg,aa9] at h<;>first|exact key|exact absurd rfl (hb _ _ _)
theorem Kh (p:Prop) (v:V) (new:ak) (r2:j3) (σ:ak) (K:V→ak→Prop):Kf (some (p,v,new)) r2 σ K=pT p (K v (σ++new)):=rfl
theorem Kg (r2:j3) (σ:ak) (K:V→ak→Prop):Kf none r2 σ K=dx r2 K:=by
 cases r2 with
 | none=>rfl
 | some x=>obtain ⟨p,v,s⟩:=x;rfl
@[congr] theorem Tf {r r':j3} {r2:j3} {σ:ak} {K:V→ak→Prop} (h:r=r'):Kf r r2 σ K=Kf r' r2 σ K:=by rw [h]
theorem kz {op:Op} (h:kg op=true):aZ P G op g σ id K=dx (aR P op g σ id) K:=by
 have key:fz op (bg P op g σ id) K=dx (aR P op g σ id) K:=by
  have h1:ce P op g=none:=by cases op<;>first|rfl|(simp only [kg,aa9] at h)
  simp only [bg,h1];cases aR P op g σ id with
  | none=>rfl
  | some x=>obtain ⟨p,v,s⟩:=x;simp [fz,dx,cG]
 cases op<;>simp only [kg,aa9] at h<;>exact key
def TM (r:PV) (r2:j3) (σ:ak) (K:V→ak→Prop):Prop:=match r with
 | some (p,v)=>pT p (K v σ)
 | none=>dx r2 K
theorem KB (p:Prop) (v:V) (r2:j3) (σ:ak) (K:V→ak→Prop):TM (some (p,v)) r2 σ K=pT p (K v σ):=rfl
theorem KA (r2:j3) (σ:ak) (K:V→ak→Prop):TM none r2 σ K=dx r2 K:=rfl
@[congr] theorem Th {r r':PV} {r2 r2':j3} {σ:ak} {K:V→ak→Prop} (h:r=r') (h2:r2=r2'):TM r r2 σ K=TM r' r2' σ K:=by rw [h,h2]
theorem wg (s d:Nat) (x:Operand):aT P G (.convert s d x) g σ id K=TM (Ru P s d (g x)) (Tg P s d (g x) σ) σ K:=by
 simp only [aT,dl,bg,ce,aR,eR,fz];cases Ru P s d (g x) with
 | some x=>obtain ⟨p,v⟩:=x;show pT p (K v (σ++[]))=_;rw [abb];rfl
 | none=>
  cases Tg P s d (g x) σ with
  | none=>rfl
  | some x=>obtain ⟨p,v,s⟩:=x;rfl
theorem C4 (t:Nat) (a x:Operand):aT P G (.store t a x) g σ id K=dx (MI P t (g a) (g x) σ) K:=by
 simp only [aT,dl,bg,ce,aR,eR,fz];cases MI P t (g a) (g x) σ with
 | none=>rfl
 | some x=>obtain ⟨p,v,s⟩:=x;simp [dx,cG]
theorem uf (t:Nat) (x:Operand):aT P G (.load t x) g σ id K=fa P t (g x) σ (fun v=>K v σ):=rfl
theorem pY (t:Nat) (x:Operand):aZ P G (.load t x) g σ id K=fa P t (g x) σ (fun v=>K v []):=rfl
theorem uj (c x y:Operand):aT P G (.pick c x y) g σ id K=jO (g c) (g x) (g y) (fun v=>K v σ):=rfl
theorem p8 (c x y:Operand):aZ P G (.pick c x y) g σ id K=jO (g c) (g x) (g y) (fun v=>K v []):=rfl
theorem Fd (x:Operand):aT P G (.next x true) g σ id K=lT (g x) σ K:=rfl
theorem Fb (f:Operand) (xs:Array Operand) (ts:Array Nat):aT P G (.call ⟨.value f,xs,ts⟩) g σ id K=bC (g f) (fun k caps=>au P G k (xs.toList.map g++caps) σ id K) (fun i=>im P G i (xs.toList.map g) σ id K) (fun k fs=>au P G k (fs++(xs.toList.map g++[])) σ id K):=rfl
def J2 (P:Program) (t t':Nat) (s x:V) (σ:ak) (id:Nat) (K:V→ak→Prop):Prop:=match s with
 | .so i k lo n=>dx (uV P t t' (.so i k lo n) x σ id) K
 | s=>dx (rq P t t' s x σ id) (fun v new=>K v (σ++new))
@[congr] theorem Q8 {t t':Nat} {s s' x x':V} {σ σ':ak} {id id':Nat} {K:V→ak→Prop} (hs:s=s') (hx:x=x') (h:σ=σ') (hi:id=id'):J2 P t t' s x σ id K=J2 P t t' s' x' σ' id' K:=by rw [hs,hx,h,hi]
theorem G7 {t t':Nat} {s x:V} (hs : ∀i k lo n,s ≠ .so i k lo n):uV P t t' s x σ id=none:=by
 unfold uV;split
 ·exact absurd rfl (hs _ _ _ _)
 ·rfl
theorem Al (s x:Operand) (t t':Nat):aT P G (.call ⟨.builtin .append,#[s,x],#[t,t']⟩) g σ id K=J2 P t t' (g s) (g x) σ id K:=by
 simp only [aT,dl,bg,ce,iK,aR,eR,fz];unfold J2;cases hs:g s;case so i k lo n=>
  have hA:rq P t t' (.so i k lo n) (g x) σ id=none:=by
   unfold rq;repeat' split
   all_goals first|rfl|contradiction|(exfalso;simp_all;done)
  rw [hA];simp only;cases uV P t t' (.so i k lo n) (g x) σ id with
  | none=>rfl
  | some x=>obtain ⟨p,v,s⟩:=x;simp [dx,cG]
 all_goals
  simp only;rw [G7 (by intros;simp)];generalize rq P t t' _ (g x) σ id=r;cases r with
  | none=>rfl
  | some x=>obtain ⟨p,v,s⟩:=x;simp [dx,cG]
theorem Fc (s x:Operand) (t t':Nat):aT P G (.call ⟨.builtin .copy,#[s,x],#[t,t']⟩) g σ id K=dx (Qs P t t' (g s) (g x) σ) K:=by
 simp only [aT,dl,bg,ce,iK,aR,eR,fz];cases Qs P t t' (g s) (g x) σ with
 | none=>rfl
 | some x=>obtain ⟨p,v,s⟩:=x;simp [dx,cG]
theorem CZ (x:Operand) (t:Nat):aT P G (.call ⟨.builtin .clear,#[x],#[t]⟩) g σ id K=dx (Rl P t (g x) σ) K:=by
 simp only [aT,dl,bg,ce,iK,aR,eR,fz];cases Rl P t (g x) σ with
 | none=>rfl
 | some x=>obtain ⟨p,v,s⟩:=x;simp [dx,cG]
end
def u9 (K:St→Prop) (st:St) (_u:Tag K:= .mk) (_h:True:=trivial):Prop:=K st
theorem u9.now {K:St→Prop} {st:St} (h:K st):u9 K st:=h
def pI (b:Bool) (p q:Prop):Prop:=(b=true→p)∧(b=false→q)
theorem J9 (p q:Prop):pI true p q=p:=by simp [pI]
theorem Hf (p q:Prop):pI false p q=q:=by simp [pI]
theorem NQ (b:Bool) (K:St→Prop) (s t:St):pI b (u9 K s) (u9 K t)=u9 K (cond b s t):=by cases b<;>simp [pI]
theorem NX (b:Bool) (e f:aO) (σ τ:ak) (n m:Nat):cond b (⟨e,σ,n⟩:St) ⟨f,τ,m⟩=⟨cond b e f,cond b σ τ,cond b n m⟩:=by cases b<;>rfl
theorem DO (b:Bool) (k:Nat) (v v':V) (r r':aO):(cond b ((k,v)::r) ((k,v')::r'):aO)=(k,cond b v v')::cond b r r':=by cases b<;>rfl
theorem DP (b:Bool) (k:Nat) (v v':bN) (r r':ak):(cond b ((k,v)::r) ((k,v')::r'):ak)=(k,cond b v v')::cond b r r':=by cases b<;>rfl
theorem DQ (b:Bool) (v v':V) (r r':List V):cond b (v::r) (v'::r')=cond b v v'::cond b r r':=by cases b<;>rfl
theorem Hz (b:Bool) (cs cs':List V) (ty:Option Nat):cond b (bN.cell cs ty) (.cell cs' ty) = .cell (cond b cs cs') ty:=by cases b<;>rfl
theorem Rm (b:Bool) (x y:D):cond b (V.d x) (.d y) = .d (cond b x y):=by cases b<;>rfl
theorem Kt (b:Bool) (x y:Value):cond b (D.lit x) (.lit y) = .lit (cond b x y):=by cases b<;>rfl
theorem Hy (b x y:Bool):cond b (Value.bool x) (.bool y) = .bool (cond b x y):=by cases b<;>rfl
theorem Ks (b x:Bool):cond b x false=(b&&x):=by cases b<;>rfl
theorem NY (b x:Bool):cond b true x=(b||x):=by cases b<;>rfl
theorem Ro {α:Type} (x y:α):cond true x y=x:=rfl
theorem Rn {α:Type} (x y:α):cond false x y=y:=rfl
theorem HA {α:Type} (b:Bool) (x:α):cond b x x=x:=by cases b<;>rfl
attribute [push_cast] NQ NX DO DP DQ Hz Rm Kt Hy Ks NY Ro Rn HA
def ez {α:Type} (a:α) (K:α→Prop) (_u:Tag K:= .mk) (_h:True:=trivial):Prop:=K a
theorem OO {α:Type} (a:α) (K:α→Prop):ez a K=K a:=rfl
attribute [push_cast] OO
theorem LV (P:Program) (G:Gl) (ops:Array Oper) (base i:Nat) (e:aO) (σ:ak) (K:aO→ak→Prop):nC P G ops base i [] e σ K=K e σ:=rfl
theorem IF (P:Program) (G:Gl) (ops:Array Oper) (base i:Nat) (d:Option Nat) (op:Op) (t:Nat) (p:String) (af:Array Edge) (gd:Option (Nat × Bool)) (r:List Oper) (e:aO) (σ:ak) (K:aO→ak→Prop):nC P G ops base i (⟨d,op,t,p,af,gd⟩::r) e σ K=cL ops ⟨d,op,t,p,af,gd⟩ e
 (fun e=>aT P G op (eO G e.get) σ (base+4*i) fun v σ'=>ez (e.putO d v) fun e=>ez σ' fun σ'=>nC P G ops base (i+1) r e σ' K)
 (fun e=>ez (e.putO d (.tup [])) fun e=>nC P G ops base (i+1) r e σ K):=rfl
theorem LT (P:Program) (G:Gl) (ops:Array Oper) (base i:Nat) (e:aO) (σ acc:ak) (K:aO→ak→Prop):s6 P G ops base i [] e σ acc K=K e (σ++acc):=rfl
theorem ID (P:Program) (G:Gl) (ops:Array Oper) (base i:Nat) (d:Option Nat) (op:Op) (t:Nat) (p:String) (af:Array Edge) (gd:Option (Nat × Bool)) (r:List Oper) (e:aO) (σp acc:ak) (K:aO→ak→Prop):s6 P G ops base i (⟨d,op,t,p,af,gd⟩::r) e σp acc K=cL ops ⟨d,op,t,p,af,gd⟩ e
 (fun e=>if BE op=true then aT P G op (eO G e.get) (σp++acc) (base+4*i) fun v σ'=>ez (e.putO d v) fun e=>ez σ' fun σ'=>s6 P G ops base (i+1) r e σ' [] K
  else if dD op=true then gR P G [] ops i op (eO G e.get) σp acc (base+4*i) (fun v new=>ez (e.putO d v) fun e=>ez new fun new=>s6 P G ops base (i+1) r e σp (acc++new) K) (fun v σ'=>ez (e.putO d v) fun e=>ez σ' fun σ'=>s6 P G ops base (i+1) r e σ' [] K)
  else aZ P G op (eO G e.get) σp (base+4*i) fun v new=>ez (e.putO d v) fun e=>ez new fun new=>s6 P G ops base (i+1) r e σp (acc++new) K)
 (fun e=>ez (e.putO d (.tup [])) fun e=>s6 P G ops base (i+1) r e σp acc K):=rfl
theorem Dl (P:Program) (G:Gl) (lo:List Nat) (ops:Array Oper) (i:Nat) (f:Operand) (xs:Array Operand) (ts:Array Nat) (g:Operand→V) (σp acc:ak) (id:Nat) (Kq Ke:V→ak→Prop):gR P G lo ops i (.call ⟨.value f,xs,ts⟩) g σp acc id Kq Ke=bC (g f) (fun k caps=>eW P G lo ops i k (xs.toList.map g++caps) σp acc id Kq Ke) (fun j=>gG lo ops i=true∧im P G j (xs.toList.map g) (σp++acc) id Ke) (fun k fs=>eW P G lo ops i k (fs++(xs.toList.map g++[])) σp acc id Kq Ke):=rfl
theorem LU (P:Program) (G:Gl) (lo:List Nat) (σk:ak) (ops:Array Oper) (base i:Nat) (e:aO) (σ acc:ak) (K:aO→ak→Prop):opsL P G lo σk ops base i [] e σ acc K=K e (σ++acc):=rfl
theorem IE (P:Program) (G:Gl) (lo:List Nat) (σk:ak) (ops:Array Oper) (base i:Nat) (d:Option Nat) (op:Op) (t:Nat) (p:String) (af:Array Edge) (gd:Option (Nat × Bool)) (r:List Oper) (e:aO) (σp acc:ak) (K:aO→ak→Prop):opsL P G lo σk ops base i (⟨d,op,t,p,af,gd⟩::r) e σp acc K=cL ops ⟨d,op,t,p,af,gd⟩ e
 (fun e=>if BE op=true then aT P G op (eO G e.get) (σp++acc) (base+4*i) fun v σ'=>zC (Lo lo ops i σk) σ' (ez (e.putO d v) fun e=>ez σ' fun σ'=>opsL P G lo σk ops base (i+1) r e σ' [] K)
  else if dD op=true then gR P G lo ops i op (eO G e.get) σp acc (base+4*i) (fun v new=>ez (e.putO d v) fun e=>ez new fun new=>opsL P G lo σk ops base (i+1) r e σp (acc++new) K) (fun v σ'=>zC (Lo lo ops i σk) σ' (ez (e.putO d v) fun e=>ez σ' fun σ'=>opsL P G lo σk ops base (i+1) r e σ' [] K))
  else if lo.contains i=true then aZ P G op (eO G e.get) σk (base+4*i) fun v new=>Iz new (ez (e.putO d v) fun e=>opsL P G lo σk ops base (i+1) r e σp acc K)
  else aZ P G op (eO G e.get) σp (base+4*i) fun v new=>ez (e.putO d v) fun e=>ez new fun new=>opsL P G lo σk ops base (i+1) r e σp (acc++new) K)
 (fun e=>ez (e.putO d (.tup [])) fun e=>opsL P G lo σk ops base (i+1) r e σp acc K):=rfl
theorem LH (K:Prop):Iz [] K=K:=by simp [Iz]
attribute [push_cast] LU IE LH
theorem zC.of {lo:List Nat} {ops:Array Oper} {i:Nat} {r:ak} {σ:ak} {K:Prop} (h:ar r σ) (k:K):zC (Lo lo ops i r) σ K:=by
 unfold Lo zC;split
 ·exact k
 ·refine ⟨?_,k⟩;split
  ·exact fun _ _ h=>by cases h
  ·exact h
theorem zC.late {lo:List Nat} {ops:Array Oper} {i:Nat} {r:ak} {σ:ak} {K:Prop} (k:K) (h:ye lo ops i=true:=by decide +kernel):zC (Lo lo ops i r) σ K:=by
 unfold Lo;rw [aa3 h];exact k
theorem ar.nil {σ:ak} : ar [] σ:=fun _ _ h=>by cases h
theorem ar.cons {i:Nat} {b:bN} {r σ:ak} (h:σ.get i=some b) (k:ar r σ):ar ((i,b)::r) σ:=fun j bl hj=>by
 simp only [ak.get] at hj;split at hj
 ·rename_i e;subst e;injection hj with hj;subst hj;exact h
 ·exact k j bl hj
theorem sP : ∀(i:Nat) (l:List Oper),vb [] i l=true
 | _,[]=>rfl
 | i,_::r=>by simp [vb,sP (i+1) r]
theorem aC.dr {P:Program} {G:Gl} {m:Nat} {lv:List Nat} {ops:Array Oper} {K:St→Prop} {st:St} (hd:cI [] ops=true) (h:s6 P G ops st.nx 0 ops.toList st.env st.sg [] fun e σ=>u9 K ⟨aO.keep lv e,σ,st.nx+4*ops.size⟩):aC G m (kA P G lv ops true K) st:=
 .now ⟨[],[],hd,sP _ _,ar.nil,h⟩
theorem kA.lo {P:Program} {G:Gl} {lv:List Nat} {ops:Array Oper} {K:St→Prop} {st:St} (σk:ak) (hd:cI (y8 ops) ops=true) (hl:vb (y8 ops) 0 ops.toList=true) (hk:ar σk st.sg) (h:opsL P G (y8 ops) σk ops st.nx 0 ops.toList st.env st.sg [] fun e σ=>u9 K ⟨aO.keep lv e,σ,st.nx+4*ops.size⟩):kA P G lv ops true K st:=
 ⟨_,σk,hd,hl,hk,h⟩
theorem E0 (P:Program) (G:Gl) (lv:List Nat) (ops:Array Oper) (K:St→Prop) (st:St):kA P G lv ops false K st=nC P G ops st.nx 0 ops.toList st.env st.sg fun e σ=>u9 K ⟨aO.keep lv e,σ,st.nx+4*ops.size⟩:=rfl
def RV (P:Program) (t:Nat) (x i:V):PV:=match lH i with|some n=>Ef P t x n|none=>none
def T8 (P:Program) (t:Nat) (x i:V):PV:=match lH i with|some n=>sE P t x n|none=>none
section
variable {P:Program} {G:Gl} {g:Operand→V} {σ:ak} {id:Nat} {K:V→ak→Prop}
theorem qR (v:V) (K:V→Prop):jE (some (True,v)) K=K v:=BW _
theorem uh (x:Operand):aT P G (.move x) g σ id K=K (g x) σ:=(a9 rfl).trans (qR _ _)
theorem pZ (x:Operand):aZ P G (.move x) g σ id K=K (g x) []:=(be rfl).trans (qR _ _)
theorem nZ (x:Operand):aT P G (.assign x) g σ id K=K (g x) σ:=(a9 rfl).trans (qR _ _)
theorem lU (x:Operand):aZ P G (.assign x) g σ id K=K (g x) []:=(be rfl).trans (qR _ _)
theorem ui (x:Operand):aT P G (.nilCheck x) g σ id K=jE (mq (g x)) (fun v=>K v σ):=a9 rfl
theorem qs (x:Operand):aZ P G (.nilCheck x) g σ id K=jE (mq (g x)) (fun v=>K v []):=be rfl
theorem qd (o:BinOp) (t:Nat) (x y:Operand) (u:Nat):aT P G (.binOp o t x y u) g σ id K=jE (uW P o t (e8 x||e8 y) (g x) (g y)) (fun v=>K v σ):=a9 rfl
theorem nH (o:BinOp) (t:Nat) (x y:Operand) (u:Nat):aZ P G (.binOp o t x y u) g σ id K=jE (uW P o t (e8 x||e8 y) (g x) (g y)) (fun v=>K v []):=be rfl
theorem uk (o:UnOp) (t:Nat) (x:Operand):aT P G (.unOp o t x) g σ id K=jE (S5 o (g x)) (fun v=>K v σ):=a9 rfl
theorem p9 (o:UnOp) (t:Nat) (x:Operand):aZ P G (.unOp o t x) g σ id K=jE (S5 o (g x)) (fun v=>K v []):=be rfl
theorem DZ (F:Nat→V) (k:Nat):eO G F (.global k)=match G k with|some x=> .d x|none=> .unk:=rfl
theorem DJ (k:IntKind) (n:Int):jh (.lit (.int k n))=UInt8.ofNat n.toNat:=rfl
theorem qz (t:Nat) (x:Operand):aT P G (.makeInterface t x) g σ id K=jE (R7 P t (g x)) (fun v=>K v σ):=a9 rfl
theorem oZ (t:Nat) (x:Operand):aZ P G (.makeInterface t x) g σ id K=jE (R7 P t (g x)) (fun v=>K v []):=be rfl
theorem ug (fn:Fn) (first caps:Array Operand):aT P G (.makeFunc fn first caps) g σ id K=jE (Tn fn (first.toList.map g) (caps.toList.map g)) (fun v=>K v σ):=a9 rfl
theorem C3 (t:Nat) (x:Operand) (lo hi mx:Option Operand):aT P G (.slice t x lo hi mx) g σ id K=jE (QN P t (g x) (lo.map g) (hi.map g) (mx.map g)) (fun v=>K v σ):=a9 rfl
theorem zu (t:Nat) (x:Operand) (lo hi mx:Option Operand):aZ P G (.slice t x lo hi mx) g σ id K=jE (QN P t (g x) (lo.map g) (hi.map g) (mx.map g)) (fun v=>K v []):=be rfl
theorem jP (t:Nat) (x:Operand) (f:Nat):aT P G (.fieldAddr t x f) g σ id K=jE (RH P t f (g x)) (fun v=>K v σ):=a9 rfl
theorem i7 (t:Nat) (x:Operand) (f:Nat):aZ P G (.fieldAddr t x f) g σ id K=jE (RH P t f (g x)) (fun v=>K v []):=be rfl
theorem qe (t:Nat) (x:Operand) (f:Nat):aT P G (.field t x f) g σ id K=jE (RI P t f (g x)) (fun v=>K v σ):=a9 rfl
theorem nJ (t:Nat) (x:Operand) (f:Nat):aZ P G (.field t x f) g σ id K=jE (RI P t f (g x)) (fun v=>K v []):=be rfl
theorem jQ (t:Nat) (x i:Operand):aT P G (.indexAddr t x i) g σ id K=jE (RV P t (g x) (g i)) (fun v=>K v σ):=a9 rfl
theorem i8 (t:Nat) (x i:Operand):aZ P G (.indexAddr t x i) g σ id K=jE (RV P t (g x) (g i)) (fun v=>K v []):=be rfl
theorem C0 (t:Nat) (x i:Operand):aT P G (.index t x i) g σ id K=jE (T8 P t (g x) (g i)) (fun v=>K v σ):=a9 rfl
theorem pq (x:Operand) (a t:Nat) (ok:Bool):aT P G (.typeAssert x a t ok) g σ id K=jE (S3 P (g x) t ok) (fun v=>K v σ):=a9 rfl
theorem nK (x:Operand) (a t:Nat) (ok:Bool):aZ P G (.typeAssert x a t ok) g σ id K=jE (S3 P (g x) t ok) (fun v=>K v []):=be rfl
theorem wh (x:Operand) (i:Nat):aT P G (.extract x i) g σ id K=jE (RE i (g x)) (fun v=>K v σ):=a9 rfl
theorem tl (x:Operand) (i:Nat):aZ P G (.extract x i) g σ id K=jE (RE i (g x)) (fun v=>K v []):=be rfl
theorem CY (t:Nat) (parts:Array (Nat × Operand)):aT P G (.build t parts) g σ id K=jE (Ra P t (parts.toList.map fun p=>(p.1,g p.2))) (fun v=>K v σ):=a9 rfl
theorem zt (t:Nat) (parts:Array (Nat × Operand)):aZ P G (.build t parts) g σ id K=jE (Ra P t (parts.toList.map fun p=>(p.1,g p.2))) (fun v=>K v []):=be rfl
theorem xL (x:Operand) (t:Nat):aT P G (.call ⟨.builtin .len,#[x],#[t]⟩) g σ id K=jE (sN P t (g x)) (fun v=>K v σ):=a9 rfl
theorem tn (x:Operand) (t:Nat):aZ P G (.call ⟨.builtin .len,#[x],#[t]⟩) g σ id K=jE (sN P t (g x)) (fun v=>K v []):=be rfl
theorem Jn (x y:Operand) (ts:Array Nat):aT P G (.call ⟨.builtin .max,#[x,y],ts⟩) g σ id K=jE (Nq true (g x) (g y)) (fun v=>K v σ):=a9 rfl
theorem EU (x y:Operand) (ts:Array Nat):aZ P G (.call ⟨.builtin .max,#[x,y],ts⟩) g σ id K=jE (Nq true (g x) (g y)) (fun v=>K v []):=be rfl
theorem Jo (x y:Operand) (ts:Array Nat):aT P G (.call ⟨.builtin .min,#[x,y],ts⟩) g σ id K=jE (Nq false (g x) (g y)) (fun v=>K v σ):=a9 rfl
theorem CX (t:Nat):aT P G (.alloc t) g σ id K=dx (aR P (.alloc t) g σ id) (fun v new=>K v (σ++new)):=jJ rfl (fun _ _ _ h=>by cases h)
theorem zr (t:Nat):aZ P G (.alloc t) g σ id K=dx (aR P (.alloc t) g σ id) K:=kz rfl
theorem Jm (t:Nat) (x:Operand):aT P G (.box t x) g σ id K=dx (aR P (.box t x) g σ id) (fun v new=>K v (σ++new)):=jJ rfl (fun _ _ _ h=>by cases h)
theorem pp (t n:Nat) (parts:Array (Nat × Operand)):aT P G (.buildSlice t n parts) g σ id K=Kf (aR P (.buildSlice t n parts) g σ id) (Yi P t n id (parts.toList.map fun p=>(p.1,g p.2)) σ) σ K:=rfl
theorem nI (t n:Nat) (parts:Array (Nat × Operand)):aZ P G (.buildSlice t n parts) g σ id K=dx (aR P (.buildSlice t n parts) g σ id) K:=kz rfl
theorem C1 (t:Nat) (x:Operand):aT P G (.range t x) g σ id K=dx (aR P (.range t x) g σ id) (fun v new=>K v (σ++new)):=jJ rfl (fun _ _ _ h=>by cases h)
theorem qA (t:Nat) (l c:Operand):aT P G (.makeSlice t l c) g σ id K=dx (aR P (.makeSlice t l c) g σ id) (fun v new=>K v (σ++new)):=jJ rfl (fun _ _ _ h=>by cases h)
theorem o3 (t:Nat) (l c:Operand):aZ P G (.makeSlice t l c) g σ id K=dx (aR P (.makeSlice t l c) g σ id) K:=kz rfl
end
theorem KK (x:D) (l:List D) (K:D→Prop):No (x::l) 0 K=K x:=by simp [No]
theorem KJ (x:D) (l:List D) (n:Nat) (K:D→Prop):No (x::l) (n+1) K=No l n K:=by simp [No]
theorem Hc (b:Bool) (K:Bool→Prop):rA (.d (.lit (.bool b))) K=K b:=rfl
theorem K5 (b:Bool) (K:Bool→Prop) (q:Prop):qq (.d (.lit (.bool b))) K q=K b:=rfl
theorem HZ (K:Bool→Prop) (q:Prop):qq (.tup []) K q=q:=rfl
theorem Hx (b:Bool) (p q:Prop):mZ (.d (.lit (.bool b))) p q=jT b p q:=rfl
theorem IL (b:Bool) (x y:V) (K:V→Prop):jO (.d (.lit (.bool b))) x y K=K (cond b x y):=by
 show jT b (K x) (K y)=_;cases b
 ·exact ou _ _
 ·exact rD _ _
theorem DL (k:Nat) (cs:List V) (K:Nat→List V→Prop) (Y:Nat→Prop) (B:Nat→List V→Prop):bC (.fn k cs) K Y B=K k cs:=rfl
theorem Hr (k:Nat) (cs:List D) (K:Nat→List V→Prop) (Y:Nat→Prop) (B:Nat→List V→Prop):bC (.d (.fn k cs)) K Y B=K k (cs.map .d):=rfl
theorem DM (i:Nat) (K:Nat→List V→Prop) (Y:Nat→Prop) (B:Nat→List V→Prop):bC (.yl i) K Y B=Y i:=rfl
theorem rG (k:Nat) (cs:List D) (K:Nat→List V→Prop) (Y:Nat→Prop) (B:Nat→List V→Prop):bC (.d (.bf k cs)) K Y B=B k (cs.map .d):=rfl
attribute [push_cast] DM rG
theorem DN (cs:List V) (ty:Option Nat) (K:List V→Prop):rI (.cell cs ty) K=K cs:=rfl
theorem Mf (k:Nat) (es:List D) (ty:Option Nat) (K:Nat→List D→Prop):I7 (.row k es ty) K=K k es:=rfl
theorem Ek (s:ByteArray) (pos:Nat) (K:ByteArray→Nat→Prop):sI (.iter s pos) K=K s pos:=rfl
theorem CF (k:St→Prop) (Q:Exit→St→Prop) (st:St):ge k Q .normal st=k st:=rfl
theorem Jb (k:St→Prop) (Q:Exit→St→Prop) (i:Nat) (st:St):ge k Q (.exit i) st=Q (.exit i) st:=rfl
theorem Mt (k:St→Prop) (Q:Exit→St→Prop) (st:St):ge k Q .ret st=Q .ret st:=rfl
theorem ve (Q:Exit→St→Prop) (st:St):kG Q .normal st=Q .normal st:=rfl
theorem E6 (Q:Exit→St→Prop) (st:St):kG Q .ret st=Q .ret st:=rfl
theorem CD (j:Nat) (Q:Exit→St→Prop) (st:St):kG Q (.exit j) st=Q (.exit j) st:=rfl
theorem uX (i:Nat) (Q:Exit→St→Prop) (st:St):dY i Q .normal st=Q .normal st:=rfl
theorem DH (i:Nat) (Q:Exit→St→Prop) (st:St):dY i Q .ret st=Q .ret st:=rfl
theorem AP (i j:Nat) (Q:Exit→St→Prop) (st:St):dY i Q (.exit j) st=if j=i then Q .normal st else Q (.exit j) st:=rfl
theorem Cw (K:St→Prop) (st:St):Cv K .normal st=K st:=rfl
theorem Ma (K:St→Prop) (st:St):Cv K .ret st=K st:=rfl
theorem BO (P:Program) (t k:Nat) (es:List D) (i j:Nat) (σ:ak) (K:V→Prop):fa P t (.d (.pd k es i j)) σ K=cG (cu P t) fun x=>iQ k es i j x K:=rfl
theorem BQ (P:Program) (t id o:Nat) (σ:ak) (K:V→Prop):fa P t (.po id o) σ K=cG (cu P t) fun x=>cG (σ.get id) fun b=>rI b fun cs=>cG (ky x.2 o x.1 cs) K:=rfl
theorem BP (P:Program) (t id k i j:Nat) (σ:ak) (K:V→Prop):fa P t (.pe id k i j) σ K=cG (cu P t) fun x=>cG (σ.get id) fun b=>I7 b fun k' es=>pT (k=k') (iQ k es i j x K):=rfl
theorem D7 (ops:Array Oper) (d:Option Nat) (op:Op) (t:Nat) (p:String) (af:Array Edge) (e:aO) (y n:aO→Prop):cL ops ⟨d,op,t,p,af,none⟩ e y n=y e:=rfl
def u7:List Oper→Nat→Option Nat
 | [],_=>none
 | o::_,0=>o.dst
 | _::r,j+1=>u7 r j
theorem HN (d:Option Nat) (op:Op) (t:Nat) (p:String) (af:Array Edge) (gd:Option (Nat × Bool)) (r:List Oper):u7 (⟨d,op,t,p,af,gd⟩::r) 0=d:=rfl
theorem HM (o:Oper) (r:List Oper) (j:Nat):u7 (o::r) (j+1)=u7 r j:=rfl
theorem yE : ∀(l:List Oper) (j:Nat),u7 l j=(l.toArray[j]?).bind (·.dst)
 | [],j=>by simp [u7]
 | o::r,0=>by simp [u7]
 | o::r,j+1=>by rw [u7,yE r j];simp
theorem D8 (l:List Oper) (d:Option Nat) (op:Op) (t:Nat) (p:String) (af:Array Edge) (e:aO) (y n:aO→Prop) (j:Nat):cL l.toArray ⟨d,op,t,p,af,some (j,true)⟩ e y n=cG (u7 l j) fun d=>qq (e.get d) (fun b=>pI b (ez (e.put d (.d (.lit (.bool true)))) y) (ez (e.put d (.d (.lit (.bool false)))) n)) (n e):=by rw [yE];rfl
theorem Bs (l:List Oper) (d:Option Nat) (op:Op) (t:Nat) (p:String) (af:Array Edge) (e:aO) (y n:aO→Prop) (j:Nat):cL l.toArray ⟨d,op,t,p,af,some (j,false)⟩ e y n=cG (u7 l j) fun d=>qq (e.get d) (fun b=>pI b (ez (e.put d (.d (.lit (.bool true)))) n) (ez (e.put d (.d (.lit (.bool false)))) y)) (n e):=by rw [yE];rfl
theorem aO.get_nil (t:Nat):aO.get [] t = .unk:=rfl
theorem aO.get_cons (k t:Nat) (v:V) (r:aO):aO.get ((k,v)::r) t=if k=t then v else aO.get r t:=rfl
theorem Oh (G:Gl) (F:Nat→V) (t:Nat):eO G F (.tmp t)=F t:=rfl
theorem HR (G:Gl) (F:Nat→V) (v:Value):eO G F (.const v) = .d (.lit v):=rfl
theorem KQ (G:Gl) (F:Nat→V) (f:Nat):eO G F (.func f) = .d (.fn f []):=rfl
attribute [push_cast] aO.get_nil aO.get_cons aO.put.eq_def aO.putO.eq_def aO.keep Nt ak.get ak.set ak.del
attribute [push_cast] mj.eq_def kg.eq_def BE.eq_def dD.eq_def ce.eq_def uW.eq_def sF.eq_def kK.eq_def Gf.eq_def pu.eq_def RB.eq_def Gn.eq_def e8.eq_def iH df TK.eq_def BN.eq_def NW.eq_def cN bG se.eq_def RH.eq_def RI.eq_def Ef.eq_def sE.eq_def S5.eq_def Ru.eq_def R7.eq_def RE.eq_def sN.eq_def Nq.eq_def Ew.eq_def Fp.eq_def mq.eq_def iK.eq_def lH.eq_def vc.eq_def RV.eq_def T8.eq_def QN.eq_def S3.eq_def Ra.eq_def wP Tn.eq_def V.cellOk.eq_def V.cellsV.eq_def D.cells.eq_def V.atom.eq_def xg.eq_def ql xn.eq_def ky.eq_def D.asAgg.eq_def setAt.eq_def Hd.eq_def aR.eq_def MI.eq_def zD fM.eq_def mR.eq_def rq.eq_def uV.eq_def Qs.eq_def J2.eq_def
attribute [push_cast] Option.map_some Option.map_none Option.bind_some Option.bind_none List.map_cons List.map_nil List.cons_append List.nil_append List.append_nil List.length_cons List.length_nil List.all_cons List.all_nil Bool.and_true Bool.and_self Bool.or_true Bool.or_false Bool.true_and Bool.false_and Bool.and_false Bool.true_or Bool.false_or and_self and_true true_and and_false false_and List.drop_zero List.drop_succ_cons List.take_zero List.take_succ_cons List.getElem?_cons_zero List.getElem?_cons_succ List.size_toArray List.getElem?_toArray Bool.false_eq_true if_true if_false
attribute [push_cast] List.toList_toArray V.d.injEq D.lit.injEq gV List.contains_cons List.contains_nil List.drop_nil List.take_nil Nat.zero_add Nat.add_zero beq_self_eq_true List.getElem?_nil
section
variable {P:Program} {G:Gl} {m:Nat} {rs:List ResultVar} {r:V} {σ':ak} {st:St}
theorem ae.sel (l:List Nat) (h:ae P G m rs r σ' (st.sel m l)):ae P G m rs r σ' st:=aC.via (cH.sel G m st l) h
theorem ae.frz (id:Nat) (h:ae P G m rs r σ' (st.frz id)):ae P G m rs r σ' st:=aC.via (cH.frz G m st id) h
theorem ae.pick (ks is:List Nat) (h:ae P G m rs r σ' (st.pick ks is)):ae P G m rs r σ' st:=aC.via (cH.pick G m st ks is) h
theorem NE (σ:ak):ar [] σ:=fun _ _ h=>by cases h
theorem i5 {α:Type} {o:Option α} {f f':α→Prop} (hf : ∀x,f x→f' x) (h:cG o f):cG o f':=by
 cases o with
 | none=>exact h
 | some x=>exact hf x h
theorem sa {k:Nat} {es:List D} {i j:Nat} {x:Nat × Bool} {K K':V→Prop} (hk : ∀v,K v→K' v) (h:iQ k es i j x K):iQ k es i j x K':=
 ⟨h.1,fun e he=>i5 (fun _ hy=>hk _ hy) (h.2 e he)⟩
theorem Es {t:Nat} {a:V} {σ:ak} {K K':V→Prop} (hk : ∀v,K v→K' v) (h:fa P t a σ K):fa P t a σ K':=by
 unfold fa at h ⊢;refine i5 (fun x h =>?_) h;split at h
 ·exact sa hk h
 ·refine i5 (fun b hb =>?_) h;cases b<;>first|exact hb|exact i5 hk hb
 ·refine i5 (fun b hb =>?_) h;cases b<;>first|exact hb|exact ⟨hb.1,sa hk hb.2⟩
 ·exact h
theorem xw : ∀ {rs:List ResultVar} {K K':List V→Prop},(∀vs,K vs→K' vs)→o7 P rs st K→o7 P rs st K':=by
 intro rs;induction rs with
 | nil=>intro K K' hk h;exact hk _ h
 | cons x rs ih=>
  intro K K' hk h;cases x with
  | tmp t=>exact ih (fun vs hv=>hk _ hv) h
  | cell a t=>
   exact Es (fun v hv=>ih (fun vs hv=>hk _ hv) hv) h
theorem ae.now (l:List Nat) (hl:l.length≤4) (h:o7 P rs st fun vs=>(qt vs).sel (kI m l)=r∧ar σ' (st.sg.sel (kI m l))):ae P G m rs r σ' st:=
 aC.now (xw (fun _ h=>⟨l,h.1,h.2,hl⟩) h)
theorem ae.out (h:o7 P rs st fun vs=>(qt vs).sel (kI m [])=r):ae P G m rs r [] st:=
 ae.now [] (aa1 _) (xw (fun _ h=>⟨h,NE _⟩) h)
end
attribute [push_cast] Value.oneCell'.eq_def o7 qt.eq_def V.atm.eq_def St.sel.eq_def aO.sel ak.sel bN.sel.eq_def V.sel.eq_def V.selA.eq_def kI.eq_def Lf St.frz.eq_def aO.frz ak.frz js.eq_def V.frz.eq_def bN.frz.eq_def St.pick.eq_def List.filterMap_cons List.filterMap_nil List.map_map
attribute [push_cast] uh pZ nZ lU ui qs qd nH uk p9 wg qz oZ ug C3 zu jP i7 qe nJ jQ i8 C0 pq nK wh tl CY zt xL tn Jn EU Jo CX zr Jm pp nI C1 qA o3 C4 uf uj Fd Fb Al Fc CZ Rl.eq_def pY p8
attribute [push_cast] Kh Kg Yi.eq_def Ts.eq_def Xd.eq_def Ur.eq_def Sz Us.eq_def Sy K1 KB KA DZ DJ Te.eq_def Tg.eq_def MY.eq_def Tq.eq_def R1.eq_def
section
variable {P:Program} {G:Gl} {n m:Nat} {lv:List Nat}
theorem lM.via {c:Code} {st:St} {Q:Exit→St→Prop} (h:aC G m (fun st'=>lM P G n m c st' Q) st):lM P G n m c st Q:=by
 obtain ⟨st',h1,h2⟩:=h;exact fun fr hfr C a w hn hm hr=>h2 fr hfr C a w hn hm (h1 C a w hm hr)
theorem oj.via {g:Operand} {ps:Array Nat} {asg body:Code} {st:St} {Q:Exit→St→Prop} (h:aC G m (fun st'=>oj P G n m g ps asg body st' Q) st):oj P G n m g ps asg body st Q:=by
 obtain ⟨st',h1,h2⟩:=h;exact fun fr hfr C a w hn hm hr=>h2 fr hfr C a w hn hm (h1 C a w hm hr)
theorem aC.to {K:St→Prop} {st st':St} (ks is l:List Nat) (he:(st.pick ks is).sel m l=st') (hK:K st'):aC G m K st:=
 aC.via (cH.pick G m st ks is) (aC.via (cH.sel G m _ l) (aC.now (by rw [he];exact hK)))
theorem aC.frz {K:St→Prop} {st:St} (id:Nat) (h:aC G m K (st.frz id)):aC G m K st:=aC.via (cH.frz G m st id) h
theorem aC.nil {K:St→Prop} {st:St} (t k:Nat) (h:aC G m K (st.nil t k)):aC G m K st:=aC.via (cH.nil G m st t k) h
theorem Ly (ho:P.follows .mixedOrders=true) {c:Code} (hok:aS n c=true) {st:St} {Q:Exit→St→Prop} {α:Type} (S:α→St) (pre:α→Prop) (mu:α→Nat) (x0:α) (h0:aC G m (fun st'=>st'=S x0) st) (hp:pre x0)
 (hr : ∀x,pre x→bJ P G n m lv c (S x) (ge (aC G m fun st'=> ∃j,j<mu x ∧ ∃y,mu y=j∧st'=S y∧pre y) Q)):lM P G n m c st Q:=by
 refine lM.via ?_;obtain ⟨st',h1,rfl⟩:=h0;refine ⟨_,h1,?_⟩;refine Il (lv:=lv) ho hok (fun k st=> ∃x,mu x=k∧st=S x∧pre x) (mu x0) ⟨x0,rfl,rfl,hp⟩ ?_;rintro k st ⟨x,rfl,rfl,hx⟩;exact hr x hx
theorem au.d {f:Nat} {args:List V} {σ:ak} {id:Nat} {K:V→ak→Prop} {r:V} (h:ap P G f args [] 0 r []) (he:cK P f=true) (ha:args.map (V.sel (fw []))=args) (hr:r.sel (bk [] id)=r) (hK:K r σ):au P G f args σ id K:=
 au.of [] he (by rw [ha,tG];exact h) rfl (by rw [hr];show K r (σ++[]);rw [abb];exact hK)
theorem dV.d {f:Nat} {args:List V} {σ:ak} {id:Nat} {K:V→ak→Prop} {r:V} (h:ap P G f args [] 0 r []) (he:cK P f=true) (ha:args.map (V.sel (fw []))=args) (hr:r.sel (bk [] id)=r) (hK:K r []):dV P G f args σ id K:=
 dV.of he (by rw [ha];exact h) (by rw [hr];exact hK)
end
theorem eW.q {P:Program} {G:Gl} {lo:List Nat} {ops:Array Oper} {i k:Nat} {args:List V} {σp acc:ak} {id:Nat} {Kq Ke:V→ak→Prop} (h:dV P G k args σp id Kq):eW P G lo ops i k args σp acc id Kq Ke:= .inl h
theorem eW.e {P:Program} {G:Gl} {lo:List Nat} {ops:Array Oper} {i k:Nat} {args:List V} {σp acc:ak} {id:Nat} {Kq Ke:V→ak→Prop} (hl:gG lo ops i=true) (h:au P G k args (σp++acc) id Ke):eW P G lo ops i k args σp acc id Kq Ke:= .inr ⟨hl,h⟩
theorem eW.d {P:Program} {G:Gl} {lo:List Nat} {ops:Array Oper} {i f:Nat} {args:List V} {σ acc:ak} {id:Nat} {K L:V→ak→Prop} {r:V} (h:ap P G f args [] 0 r []) (he:cK P f=true) (ha:args.map (V.sel (fw []))=args) (hr:r.sel (bk [] id)=r) (hK:K r []):eW P G lo ops i f args σ acc id K L:= .inl (dV.d h he ha hr hK)
def aF {α:Type} (xs:List α) (i:Nat) (K:α→Prop) (_u:Tag K:= .mk) (_h:True:=trivial):Prop:= ∀x,xs[i]? = some x→K x
theorem Ob {α:Type} (f:α→D) (xs:List α) (i:Nat) (K:D→Prop):No (xs.map f) i K=aF xs i fun x=>K (f x):=by
 unfold No aF;apply propext;constructor
 ·intro h x hx;exact h (f x) (by simp [hx])
 ·intro h e he;simp only [abp,aaZ] at he;obtain ⟨x,hx,rfl⟩:=he;exact h x hx
attribute [push_cast] List.length_map Int.toNat_natCast
abbrev iv (a:Int):V:= .d (.lit (.int .i64 a))
abbrev bv (b:Bool):V:= .d (.lit (.bool b))
theorem jT.two {b:Bool} {p q:Prop} (h1:b=true→p) (h2:b=false→q):jT b p q:=⟨h1,h2⟩
theorem pI.two {b:Bool} {p q:Prop} (h1:b=true→p) (h2:b=false→q):pI b p q:=⟨h1,h2⟩
theorem jT.dec {p:Prop} [Decidable p] {q r:Prop} (h1:p→q) (h2 : ¬p→r):jT (decide p) q r:=⟨fun h=>h1 (acO h),fun h=>h2 (ac5 h)⟩
theorem pI.dec {p:Prop} [Decidable p] {q r:Prop} (h1:p→q) (h2 : ¬p→r):pI (decide p) q r:=⟨fun h=>h1 (acO h),fun h=>h2 (ac5 h)⟩
theorem pI.ndec {p:Prop} [Decidable p] {q r:Prop} (h1 : ¬p→q) (h2:p→r):pI (!decide p) q r:=⟨fun h=>h1 (by simpa using h),fun h=>h2 (by simpa using h)⟩
theorem jT.ndec {p:Prop} [Decidable p] {q r:Prop} (h1 : ¬p→q) (h2:p→r):jT (!decide p) q r:=⟨fun h=>h1 (by simpa using h),fun h=>h2 (by simpa using h)⟩
theorem pT.intro {p q:Prop} (h1:p) (h2:p→q):pT p q:=⟨h1,h2 h1⟩
theorem pT.intro' {p q:Prop} (h1:p) (h2:q):pT p q:=⟨h1,h2⟩
theorem aF.intro {α:Type} {xs:List α} {i:Nat} {K:α→Prop} (h : ∀x,xs[i]? = some x→K x):aF xs i K:=h
theorem No.intro {xs:List D} {i:Nat} {K:D→Prop} (h : ∀x,xs[i]? = some x→K x):No xs i K:=h
theorem aF.at {α:Type} {xs:List α} {i:Nat} {K:α→Prop} (n:Nat) (hn:i=n) (h : ∀x,xs[n]? = some x→K x):aF xs i K:=by subst hn;exact h
theorem aF.is {α:Type} {xs:List α} {i:Nat} {K:α→Prop} (n:Nat) (x:α) (hn:i=n) (hx:xs[n]? = some x) (h:K x):aF xs i K:=by
 subst hn;intro y hy;rw [hx] at hy;injection hy with hy;subst hy;exact h
theorem aj (σ:ak):ar σ σ:=fun _ _ h=>h
theorem Tv (n:Int) (h1 : -9223372036854775808≤n) (h2:n≤9223372036854775807):IntKind.i64.wrap n=n:=IntWalk.i64_in n ⟨h1,h2⟩
attribute [push_cast] St.nil.eq_def Nat.le_refl List.take_length Int.sub_zero Int.add_zero Int.zero_add
theorem ao {α:Type} {xs:List α} {i:Nat} {x:α} (h:xs[i]? = some x):xs.take (i+1)=xs.take i++[x]:=by
 rw [ac7,h];simp
theorem wu64 (n:Int) (h1:0≤n) (h2:n≤18446744073709551615):IntKind.u64.wrap n=n:=by rw [IntKind.wrap_u64];omega
theorem K7 (n:Int):n.fdiv (2 ^ min (Int.toNat 1) IntKind.u64.bits)=n / 2:=by
 rw [show (2:Int) ^ min (Int.toNat 1) IntKind.u64.bits=2 from rfl,Int.fdiv_eq_ediv_of_nonneg n (by omega)]
theorem OC (n:Int):n.fdiv (2 ^ min 1 IntKind.u64.bits)=n / 2:=K7 n
def AI:List Nat→Nat→List Nat
 | [],i=>[i]
 | x::r,i=>if x=i then x::r else x::AI r i
def RU (l:List Nat):V→List Nat
 | .so i _ _ _=>AI l i
 | .po i _=>AI l i
 | .pe i _ _ _=>AI l i
 | .mo i=>AI l i
 | .it i=>AI l i
 | .yl i=>AI l i
 | _=>l
def Le (l:List Nat):List V→List Nat
 | []=>l
 | v::r=>Le (RU l v) r
def T7 (l:List Nat):V→List Nat
 | .agg cs=>Le l cs
 | .tup cs=>Le l cs
 | .fn _ cs=>Le l cs
 | v=>RU l v
def sD (l:List Nat):List V→List Nat
 | []=>l
 | v::r=>sD (T7 l v) r
def RT (σ:ak):List Nat→List Nat→List Nat
 | [],l=>l
 | i::r,l=>RT σ r (match σ.get i with|some (.cell cs _)=>sD l cs|_=>l)
def H6 (σ:ak) (l:List Nat):List Nat:=RT σ l l
def RO (e:aO):List Nat→List V
 | []=>[]
 | t::r=>e.get t::RO e r
def St.ids (st:St) (ks:List Nat):List Nat:=H6 st.sg (H6 st.sg (sD [] (RO st.env ks)))
def Oz (m:Nat):List Nat→List Nat
 | []=>[]
 | x::r=>if x<m then Oz m r else x::Oz m r
def St.norm (st:St) (m:Nat) (ks:List Nat):St:=(st.pick ks (st.ids ks)).sel m (Oz m (st.ids ks))
attribute [push_cast] AI RU.eq_def Le T7.eq_def sD RT H6.eq_def RO Oz St.ids.eq_def St.norm.eq_def
theorem aC.go {G:Gl} {m:Nat} {K:St→Prop} {st st':St} (ks:List Nat) (he:st.norm m ks=st') (hK:K st'):aC G m K st:=aC.to ks (st.ids ks) (Oz m (st.ids ks)) he hK
def aG {α:Type} (G:Gl) (m:Nat) (S:α→St) (pre:α→Prop) (mu:α→Nat) (x:α) (st:St) (_u:Tag S:= .mk) (_v:Tag pre:= .mk) (_w:Tag mu:= .mk) (_x:Tag x:= .mk) (_h:True:=trivial):Prop:=aC G m (fun st'=> ∃j,j<mu x ∧ ∃y,mu y=j∧st'=S y∧pre y) st
section
variable {P:Program} {G:Gl} {n m:Nat} {lv:List Nat} {α:Type} {S:α→St} {pre:α→Prop} {mu:α→Nat}
theorem aG.to {x:α} {st:St} (y:α) (ks is l:List Nat) (he:(st.pick ks is).sel m l=S y) (hm:mu y<mu x) (hp:pre y):aG G m S pre mu x st:=
 aC.to ks is l he ⟨_,hm,y,rfl,rfl,hp⟩
theorem aG.go {x:α} {st:St} (y:α) (ks:List Nat) (he:st.norm m ks=S y) (hm:mu y<mu x) (hp:pre y):aG G m S pre mu x st:=
 aC.go ks he ⟨_,hm,y,rfl,rfl,hp⟩
theorem aG.frz {x:α} {st:St} (id:Nat) (h:aG G m S pre mu x (st.frz id)):aG G m S pre mu x st:=aC.frz id h
theorem Lz (ho:P.follows .mixedOrders=true) {c:Code} (hok:aS n c=true) {st:St} {Q:Exit→St→Prop} (S:α→St) (pre:α→Prop) (mu:α→Nat) (x0:α) (h0:aC G m (fun st'=>st'=S x0) st) (hp:pre x0)
 (hr : ∀x,pre x→bJ P G n m lv c (S x) (ge (fun st=>aG G m S pre mu x st) Q)):lM P G n m c st Q:=
 Ly (lv:=lv) ho hok S pre mu x0 h0 hp hr
end
section
variable {P:Program} {G:Gl}
theorem au.put {f:Nat} {args args':List V} {σ:ak} {id:Nat} {K:V→ak→Prop} {r:V} {b b':bN} (i:Nat) (h:ap P G f args' [(0,b)] 1 r [(0,b')]) (he:cK P f=true) (ha:args.map (V.sel (fw [i]))=args') (hs:σ.sel (fw [i])=[(0,b)]) (hl:JI [i] id σ=true)
 (hK:K (r.sel (bk [i] id)) (l4 σ [i]++ak.sel (bk [i] id) [(0,b')])):au P G f args σ id K:=
 au.of [i] he (by rw [ha,hs];exact h) hl hK
end
theorem jT.beq {a b:Int} {q r:Prop} (h1:a=b→q) (h2 : ¬a=b→r):jT (a==b) q r:=⟨fun h=>h1 (by simpa using h),fun h=>h2 (by simpa using h)⟩
theorem pI.beq {a b:Int} {q r:Prop} (h1:a=b→q) (h2 : ¬a=b→r):pI (a==b) q r:=⟨fun h=>h1 (by simpa using h),fun h=>h2 (by simpa using h)⟩
theorem jT.bne {a b:Int} {q r:Prop} (h1 : ¬a=b→q) (h2:a=b→r):jT (!(a==b)) q r:=⟨fun h=>h1 (by simpa using h),fun h=>h2 (by simpa using h)⟩
theorem pI.bne {a b:Int} {q r:Prop} (h1 : ¬a=b→q) (h2:a=b→r):pI (!(a==b)) q r:=⟨fun h=>h1 (by simpa using h),fun h=>h2 (by simpa using h)⟩
theorem jT.dand {p p':Prop} [Decidable p] [Decidable p'] {q r:Prop} (h1:p∧p'→q) (h2 : ¬(p∧p')→r):jT (decide p&&decide p') q r:=⟨fun h=>h1 (by simpa using h),fun h=>h2 (by simpa using h)⟩
theorem pI.dand {p p':Prop} [Decidable p] [Decidable p'] {q r:Prop} (h1:p∧p'→q) (h2 : ¬(p∧p')→r):pI (decide p&&decide p') q r:=⟨fun h=>h1 (by simpa using h),fun h=>h2 (by simpa using h)⟩
theorem jT.dor {p p':Prop} [Decidable p] [Decidable p'] {q r:Prop} (h1:p∨p'→q) (h2 : ¬(p∨p')→r):jT (decide p||decide p') q r:=⟨fun h=>h1 (by simpa using h),fun h=>h2 (by simpa using h)⟩
theorem pI.dor {p p':Prop} [Decidable p] [Decidable p'] {q r:Prop} (h1:p∨p'→q) (h2 : ¬(p∨p')→r):pI (decide p||decide p') q r:=⟨fun h=>h1 (by simpa using h),fun h=>h2 (by simpa using h)⟩
theorem jT.and {a b:Bool} {q r:Prop} (h:jT a (jT b q r) r):jT (a&&b) q r:=by
 cases a
 ·exact ⟨fun h=>by simp at h,fun _=>h.2 rfl⟩
 ·exact h.1 rfl
attribute [push_cast] Bool.not_true Bool.not_false bk.eq_def fw.eq_def l4 JI.eq_def
end Go.Proofs.YtkkanlcjjpoklaaGreatDoor
set_option linter.unusedSimpArgs false
namespace Go.Proofs.YtkkanlcjjpoklaaGreatDoor
open Go
section
variable {P:Program}
def A8 (P:Program) (g:Nat→Option (List CK)):List Field→Nat→Option (List CK)
 | [],_=>some []
 | f::r,o=>if (decide (f.name ≠ "_")&&decide (f.offset=o)&&(P.info? f.type).isSome)=true then (match g f.type with
  | some a=>if P.cellsOf f.type=a.length then (A8 P g r (o+a.length)).map (a ++ ·) else none
  | none=>none) else none
def sc (P:Program):Nat→Nat→Option (List CK)
 | 0,_=>none
 | d+1,t=>match P.underlying t with
  | some (.int k)=>some [.int k]
  | some .bool=>some [.bool]
  | some .string=>some [.str]
  | some (.struct fs)=>if P.stoodInHeld t=false then A8 P (sc P d) fs.toList 0 else none
  | _=>none
def dW (P:Program) (t:Nat) (xs:List Value) (v:Value):Prop:=
 match P.underlying t with
 | some (.struct _)=>v = .agg xs.toArray
 | _=>xs=[v]
theorem fv : ∀ {ks:List CK} {xs:List Value},cq ks xs→ks.length=xs.length
 | [],[],_=>rfl
 | _::_,_::_,h=>by simp [fv h.2]
 | [],_::_,h=>h.elim
 | _::_,[],h=>h.elim
theorem ke : ∀ {a b:List CK} {xs:List Value},cq (a++b) xs→cq a (xs.take a.length)∧cq b (xs.drop a.length)
 | [],_,_,h=>⟨trivial,h⟩
 | _::_,_,[],h=>h.elim
 | c::a,b,x::xs,h=>by
  have:=ke (a:=a) (b:=b) h.2;exact ⟨⟨h.1,this.1⟩,this.2⟩
theorem sf : ∀ {a b c d:List Value},a.length=b.length→bG (a++c) (b++d)=(bG a b&&bG c d)
 | [],[],_,_,_=>by simp [bG]
 | x::a,y::b,c,d,h=>by simp [bG,sf (a:=a) (b:=b) (c:=c) (d:=d) (by simpa using h),Bool.and_assoc]
 | [],_::_,_,_,h=>by simp at h
 | _::_,[],_,_,h=>by simp at h
theorem A7 {d t:Nat} {ks:List CK} (h:sc P d t=some ks) (hs : ∀fs,P.underlying t≠some (.struct fs)):ks.length=1∧((∃k,P.underlying t=some (.int k))∨P.underlying t=some .bool∨P.underlying t=some .string):=by
 cases d with
 | zero=>simp [sc] at h
 | succ d=>
  simp only [sc] at h;split at h
  ·injection h with h;subst h;rename_i k hk;exact ⟨rfl,.inl ⟨k,hk⟩⟩
  ·injection h with h;subst h;rename_i hk;exact ⟨rfl,.inr (.inl hk)⟩
  ·injection h with h;subst h;rename_i hk;exact ⟨rfl,.inr (.inr hk)⟩
  ·rename_i fs hk;exact absurd hk (hs fs)
  ·cases h
theorem Cc {d e o:Nat} {ks:List CK} {xs:List Value} {w:World} (h:sc P d e=some ks) (hi:(P.info? e).isSome=true) (hc:P.cellsOf e=ks.length) (hl:o+ks.length≤xs.length) :
 ∃v,(part e xs.toArray o).run P w = .ok v w∧dW P e ((xs.drop o).take ks.length) v:=by
 by_cases hs : ∃fs,P.underlying e=some (.struct fs)
 ·obtain ⟨fs,hu⟩:=hs;obtain ⟨i,hi⟩:=acv.1 hi;refine ⟨.agg (xs.toArray.extract o (o+P.cellsOf e)),by simp [part,isAgg,run_underlying hu,run_sizeOf w hi],?_⟩;simp only [dW,hu];congr 1;apply aeg;rw [adB,hc];simp [List.extract]
 ·have hs' : ∀fs,P.underlying e≠some (.struct fs):=fun fs hu=>hs ⟨fs,hu⟩
  obtain ⟨h1,hk⟩:=A7 h hs';have hlt:o<xs.length:=by omega
  have hp:P.plainKey e=true:=by
   unfold Program.plainKey;rcases hk with ⟨k,hk⟩|hk|hk<;>rw [hk]
  refine ⟨xs[o],run_part_plain w hp (by simp [hlt]),?_⟩;have:(xs.drop o).take ks.length=[xs[o]]:=by rw [h1,abI hlt,abn,abO]
  rcases hk with ⟨k,hk⟩|hk|hk<;>simp only [dW,hk]<;>exact this
theorem jq {d D:Nat} (ih : ∀t ks,sc P d t=some ks → ∀(w:World) xs ys vx vy,cq ks xs→cq ks ys→dW P t xs vx→dW P t ys vy→(Op.equalIn D t vx vy).run P w = .ok (bG xs ys) w)
 (xs ys:List Value) (w:World) : ∀(fs:List Field) (o:Nat) (ks:List CK),A8 P (sc P d) fs o=some ks→cq ks (xs.drop o)→cq ks (ys.drop o) →
  (Op.eqFields D xs.toArray ys.toArray fs).run P w = .ok (bG (xs.drop o) (ys.drop o)) w
 | [],o,ks,h,hx,hy=>by
  simp only [A8,aa5] at h;subst h;have h1:=fv hx;have h2:=fv hy;rw [abu h1.symm,abu h2.symm];simp [Op.eqFields,bG]
 | f::fs,o,ks,h,hx,hy=>by
  simp only [A8] at h;split at h;rotate_left
  ·cases h
  rename_i hc;simp only [aa8,abs] at hc;obtain ⟨⟨hn,ho⟩,hi⟩:=hc;split at h;rotate_left
  ·cases h
  rename_i a ha;split at h;rotate_left
  ·cases h
  rename_i hcl;simp only [aaZ] at h;obtain ⟨b,hb,rfl⟩:=h;have lx:=fv hx;have ly:=fv hy;simp only [Or,abg] at lx ly;obtain ⟨hx1,hx2⟩:=ke hx;obtain ⟨hy1,hy2⟩:=ke hy;rw [acm] at hx2 hy2;have l1:o+a.length≤xs.length∨a.length=0:=by omega
  have l2:o+a.length≤ys.length∨a.length=0:=by omega
  rcases abH a.length with h0|h0
  ·-- a type without cells: a struct without fields
   have ha0:a=[]:=abu h0;subst ha0;by_cases hs : ∃gs,P.underlying f.type=some (.struct gs)
   ·obtain ⟨gs,hu⟩:=hs;obtain ⟨i,hi⟩:=acv.1 hi;have p : ∀zs:List Value,(part f.type zs.toArray f.offset).run P w = .ok (.agg #[]) w:=by
     intro zs;simp [part,isAgg,run_underlying hu,run_sizeOf w hi,hcl]
    have e:=ih f.type [] ha w [] [] (.agg #[]) (.agg #[]) trivial trivial (by simp [dW,hu]) (by simp [dW,hu]);have r:=jq ih xs ys w fs (o+0) b hb hx2 hy2;simp only [Op.eqFields,hn,ne_eq,not_false_eq_true,ab0,Sem.run_bind,p,e,Result.andThen_ok,bG,adX,aa9,ab1];exact r
   ·have:=(A7 ha fun gs hu=>hs ⟨gs,hu⟩).1;simp at this
  ·have l1:o+a.length≤xs.length:=by omega
   have l2:o+a.length≤ys.length:=by omega
   obtain ⟨v,p1,q1⟩:=Cc (w:=w) ha hi hcl l1;obtain ⟨u,p2,q2⟩:=Cc (w:=w) ha hi hcl l2;have e:=ih f.type a ha w _ _ v u hx1 hy1 q1 q2;have r:=jq ih xs ys w fs (o+a.length) b hb hx2 hy2;have key:bG (xs.drop o) (ys.drop o)=(bG ((xs.drop o).take a.length) ((ys.drop o).take a.length)&&bG (xs.drop (o+a.length)) (ys.drop (o+a.length))):=by
    rw [←sf (by simp;omega),←acm,←acm,abf,abf]
   rw [key];simp only [Op.eqFields,hn,ho,ne_eq,not_false_eq_true,ab0,Sem.run_bind,p1,p2,e,Result.andThen_ok];cases bG ((xs.drop o).take a.length) ((ys.drop o).take a.length)
   ·simp
   ·simpa using r
theorem KL : ∀(d t:Nat) (ks:List CK),sc P d t=some ks → ∀(D:Nat) (w:World) xs ys vx vy,d≤D→cq ks xs→cq ks ys→dW P t xs vx→dW P t ys vy→(Op.equalIn D t vx vy).run P w = .ok (bG xs ys) w:=by
 intro d;induction d with
 | zero=>intro t ks h;simp [sc] at h
 | succ d ih=>
  intro t ks h D w xs ys vx vy hD hx hy hvx hvy;obtain ⟨D,rfl⟩ : ∃E,D=E+1:=⟨D - 1,by omega⟩
  simp only [sc] at h;split at h
  ·rename_i k hu;injection h with h;subst h;simp only [dW,hu] at hvx hvy;subst hvx hvy;obtain ⟨⟨a,rfl⟩,_⟩:=hx;obtain ⟨⟨b,rfl⟩,_⟩:=hy;rw [run_equalIn_int w D t k k a b hu];simp [bG,se]
  ·rename_i hu;injection h with h;subst h;simp only [dW,hu] at hvx hvy;subst hvx hvy;obtain ⟨⟨a,rfl⟩,_⟩:=hx;obtain ⟨⟨b,rfl⟩,_⟩:=hy;rw [run_equalIn_bool' w D t a b hu];simp [bG,se]
  ·rename_i hu;injection h with h;subst h;simp only [dW,hu] at hvx hvy;subst hvx hvy;obtain ⟨⟨a,rfl⟩,_⟩:=hx;obtain ⟨⟨b,rfl⟩,_⟩:=hy;rw [run_equalIn_string w D t a b hu,←beq_toListBytes];simp [bG,se]
  ·rename_i fs hu;split at h;rotate_left
   ·cases h
   rename_i hst;simp only [dW,hu] at hvx hvy;subst hvx hvy;have hf:P.fieldsOf t=fs:=by simp [Program.fieldsOf,hu]
   rw [run_equalIn_struct w D t _ _ (by rw [hf];exact hu) hst,hf];exact jq (fun t ks h w xs ys vx vy a b c e=>ih t ks h D w xs ys vx vy (by omega) a b c e) xs ys w fs.toList 0 ks h hx hy
  ·cases h
def KM (P:Program) (t:Nat):Option (List CK):=
 match P.underlying t with
 | some (.struct _)=>if P.eqGuardType P.depth t=false then sc P 20 t else none
 | _=>none
theorem gU.of {t:Nat} {ks:List CK} (h:KM P t=some ks):gU P t ks:=by
 unfold KM at h;split at h;rotate_left
 ·cases h
 rename_i fs hu;split at h;rotate_left
 ·cases h
 rename_i hg;refine ⟨hg,fun xs ys w hx hy =>?_⟩;exact KL 20 t ks h Op.maxDepth w xs ys _ _ (by decide) hx hy (by simp [dW,hu]) (by simp [dW,hu])
end
attribute [push_cast] bG se
end Go.Proofs.YtkkanlcjjpoklaaGreatDoor
set_option linter.unusedSimpArgs false
namespace Go.Proofs.YtkkanlcjjpoklaaGreatDoor
open Go
section
variable {P:Program} {G:Gl} {w:World} {I:Nat→Prop} {β:co} {σ:ak} {nx id:Nat} {blk:bN}
theorem uS.frz {f i:Nat} {args:List V} {v:V} {σ':ak} (hg:σ.get i=some blk) (h:uS P G f (args.map (V.frz i blk)) (σ.frz i blk) id v σ'):uS P G f args σ id v σ':=by
 intro w I β nx vals hm hG hf hnx hd;obtain ⟨s,hset⟩:=Bp hm hg;refine (h w _ β nx vals s.mem (fun g x hx=>(hG g x hx).keep (fun _ _=>rfl) (fun b hb=> .inl hb)) hf hnx ⟨by simpa using hd.1,fun j c x hc hx =>?_⟩).mono ?_
 ·simp only [abp,aaZ] at hc;obtain ⟨c',hc',rfl⟩:=hc;exact hset.den (hd.2 j c' x hc' hx)
 ·rintro e w' ⟨u,I2,β2,e1,e2,e3,e4⟩;exact ⟨u,I2,β2,e1,e2,s.trans e3,e4⟩
theorem au.frz {f:Nat} {args:List V} {K:V→ak→Prop} (i:Nat) (hg:σ.get i=some blk) (h:au P G f (args.map (V.frz i blk)) (σ.frz i blk) id K) (hent:cK P f=true:=by kernel_rfl):au P G f args σ id K:=by
 obtain ⟨v,σ',hK,hd⟩:=h;rcases hd with ⟨he,hd⟩|⟨he,_⟩
 ·exact ⟨v,σ',hK,.inl ⟨he,hd.frz hg⟩⟩
 ·rw [Oj hent] at he;cases he
end
attribute [push_cast] bne_self_eq_false beq_self_eq_true Bool.true_beq Bool.false_beq Bool.false_or Bool.true_or Bool.or_false Bool.or_true Bool.and_true Bool.true_and Bool.false_and Bool.and_false
end Go.Proofs.YtkkanlcjjpoklaaGreatDoor
set_option linter.unusedVariables false
namespace Go.Proofs.YtkkanlcjjpoklaaGreatDoor
theorem XQ (a b:Int):(a != b) = !(a==b):=rfl
attribute [push_cast] XQ Bool.not_not
class lE (b:Bool) (p q:outParam Prop):Prop where
 says:b=true↔p
 nots:b=false↔q
theorem lE.mk' {b:Bool} {p:Prop} (h:b=true↔p):lE b p (¬p):=⟨h,by rw [←h];simp⟩
instance (priority:=100) lE.any (b:Bool):lE b (b=true) (b=false):=⟨Iff.rfl,Iff.rfl⟩
instance lE.dec {p:Prop} [Decidable p]:lE (decide p) p (¬p):=lE.mk' (by simp)
instance lE.beq {a b:Int} : lE (a==b) (a=b) (¬a=b):=lE.mk' (by simp)
instance lE.not {b:Bool} {p q:Prop} [h:lE b p q]:lE (!b) q p:=⟨by rw [←h.nots];simp,by rw [←h.says];simp⟩
instance lE.and {a b:Bool} {p q p' q':Prop} [h:lE a p p'] [k:lE b q q']:lE (a&&b) (p∧q) (¬(p∧q)):=lE.mk' (by rw [←h.says,←k.says];simp)
instance lE.or {a b:Bool} {p q p' q':Prop} [h:lE a p p'] [k:lE b q q']:lE (a||b) (p∨q) (¬(p∨q)):=lE.mk' (by rw [←h.says,←k.says];simp)
theorem jT.of {b:Bool} {p p':Prop} [h:lE b p p'] {q r:Prop} (h1:p→q) (h2:p'→r):jT b q r:=⟨fun e=>h1 (h.says.1 e),fun e=>h2 (h.nots.1 e)⟩
theorem pI.of {b:Bool} {p p':Prop} [h:lE b p p'] {q r:Prop} (h1:p→q) (h2:p'→r):pI b q r:=⟨fun e=>h1 (h.says.1 e),fun e=>h2 (h.nots.1 e)⟩
theorem BZ (id:Nat) (σ:ak) (K:V→ak→Prop):lT (.it id) σ K=cG (σ.get id) fun b=>sI b fun s pos=>
 jT (decide (pos<s.size)) (K (.tup [.d (.lit (.bool true)),.d (.lit (.int .i64 pos)),.d (.lit (.int .i32 (Utf8.decode s pos).1))]) (σ.set id (.iter s (pos+(Utf8.decode s pos).2)))) (K (.tup [.d (.lit (.bool false))]) σ):=rfl
theorem uJ (a b:Nat):((a:Int)+(b:Int)).toNat=a+b:=by omega
attribute [push_cast] BZ Option.getD_some Option.getD_none uJ
section
variable {P:Program} {G:Gl} {w:World} {I:Nat→Prop} {β:co}
def ka:List Nat→List V→aO→aO
 | p::ps,v::vs,e=>ka ps vs (e.put p v)
 | _,_,e=>e
def nc (l:List (Nat × Value)) (tm:Array Value):Array Value:=l.foldl (fun tmps x=>tmps.setIfInBounds x.1 x.2) tm
theorem wO : ∀(ps:List Nat) (args:List V) (vals:List Value) (e:aO) (tm:Array Value),cU w I β args vals→(∀p∈ps,p<tm.size)→(∀t,aL w I β (e.get t) (tm.getD t undef)) →
 (nc (ps.zip vals) tm).size=tm.size ∧ ∀t,aL w I β ((ka ps args e).get t) ((nc (ps.zip vals) tm).getD t undef)
 | [],args,vals,e,tm,_,_,h=>by simpa [nc,ka] using h
 | p::ps,[],vals,e,tm,hd,_,h=>by
  have:vals=[]:=abu hd.1.symm;subst this;simpa [nc,ka] using h
 | p::ps,v::vs,[],e,tm,hd,_,h=>by have:=hd.1;simp at this
 | p::ps,v::vs,x::xs,e,tm,hd,hp,h=>by
  have h0 : ∀t,aL w I β ((e.put p v).get t) ((tm.setIfInBounds p x).getD t undef):=
   yz (a :={ tmps:=tm,defers:=[] }) h (d:=some p) (fun y hy=>by injection hy with hy;subst hy;exact hp p (by simp)) (hd.2 0 v x rfl rfl)
  have:=wO ps vs xs (e.put p v) (tm.setIfInBounds p x) ⟨by have:=hd.1;simpa using this,fun i c y hc hy=>hd.2 (i+1) c y (by simpa using hc) (by simpa using hy)⟩ (fun q hq=>by simpa using hp q (by simp [hq])) h0;refine ⟨by rw [show nc ((p::ps).zip (x::xs)) tm=nc (ps.zip xs) (tm.setIfInBounds p x) from rfl,this.1];simp,this.2⟩
theorem KV (ps:Array Nat) (vals:List Value) (tm:Array Value):(ps.zip vals.toArray).foldl (fun tmps (t,a)=>tmps.setIfInBounds t a) tm=nc (ps.toList.zip vals) tm:=by
 rw [←adK];simp [nc]
def jV (id:Nat):Nat→Option Nat:=fun j=>if j<id then some j else none
def m5 (β:co) (id:Nat):co:=fun j=>if j<id then β j else none
theorem nu {id i j:Nat} (h:jV id i=some j):i=j∧j<id:=by
 unfold jV at h;split at h
 ·injection h with h;omega
 ·cases h
theorem y9 (id:Nat) : ∀i i' j,jV id i=some j→jV id i'=some j→i=i':=fun i i' j h h'=>by
 have:=nu h;have:=nu h';omega
theorem rP {id:Nat} : ∀i j,jV id i=some j → ∀x,β i=some x→m5 β id j=some x:=fun i j h x hx=>by
 obtain ⟨rfl,hlt⟩:=nu h;simp [m5,hlt,hx]
theorem kV {id j:Nat} {x:Option (Nat × Nat)} (h:m5 β id j=some x):j<id∧β j=some x:=by
 unfold m5 at h;split at h
 ·exact ⟨by assumption,h⟩
 ·cases h
theorem lc {σ:ak} {id j:Nat} {b:bN} (h:(σ.sel (jV id)).get j=some b):j<id ∧ ∃b',σ.get j=some b'∧b=b'.sel (jV id):=by
 obtain ⟨i,b',h1,h2,h3⟩:=ak.get_sel (y9 id) σ j b h;obtain ⟨rfl,hlt⟩:=nu h1;exact ⟨hlt,b',h2,h3⟩
theorem de.cut {σ:ak} {nx:Nat} (hm:de w I β σ nx) (id:Nat):de w I (m5 β id) (σ.sel (jV id)) id where
 own:=fun j b hj=>by
  obtain ⟨hlt,b',h1,rfl⟩:=lc hj;exact (hm.own j b' h1).sel rP (by simp [jV,hlt])
 inj:=fun j j' b b' k c c' h1 h2 h3 h4=>by
  obtain ⟨_,x,q1,_⟩:=lc h1;obtain ⟨_,x',q1',_⟩:=lc h2;exact hm.inj j j' x x' k c c' q1 q1' (kV h3).2 (kV h4).2
 free:=fun j hj=>by simp [m5,show ¬j<id by omega]
 lt:=hm.lt
theorem lk {σ:ak} {id b:Nat} (h:bK (σ.sel (jV id)) (m5 β id) b):bK σ β b:=by
 obtain ⟨j,blk,c,h1,h2⟩:=h;obtain ⟨_,b',q1,_⟩:=lc h1;exact ⟨j,b',c,q1,(kV h2).2⟩
def mF (σ:ak) (id:Nat) (l:List Nat):Nat→Option Nat:=fun j=>if j<id then (if (σ.get j).isSome=true then some j else none) else Lf l j id
def JU (G:Gl) (σ:ak) (id i:Nat) (y:Yd) (e:aO) (j:Option Code) (v:V) (σ':ak) (st:St):Prop:=
 v = .d (.lit (.bool j.isNone))∧aC G id (fun st=> ∃l:List Nat,l.length≤4∧ar σ' ((i,.rc y j e)::st.sg.sel (mF σ id l))) st
def Pj (G:Gl) (σ:ak) (id i:Nat) (y:Yd) (e:aO) (v:V) (σ':ak):Exit→St→Prop
 | .normal,st=>JU G σ id i y e none v σ' st
 | .ret,st=>JU G σ id i y e (some .ret) v σ' st
 | .exit k,st=>JU G σ id i y e (some (.exit k)) v σ' st
 | _,_=>False
theorem ft.putHid {C:uP} {e:aO} {σ:ak} {nx lim b:Nat} {o o':Obj} {a:Act} {w:World} (hC:C.hd=[(b,o)]) (ho:o ≠ .deferred (some [])) (hown:bK C.σ C.β b) (h:ft C G e σ nx lim a w) :
 ft { C with hd:=[(b,o')] } G e σ nx lim a (w.putObj b o'):=by
 obtain ⟨I,β,h1,h2,h3,h4,⟨⟨Ds,q1,q2,q3⟩,q4⟩,h6⟩:=h;obtain ⟨k1,k2,k3⟩:=q4 (b,o) (by rw [hC];simp);simp only at k1 k2 k3;have hI : ∀b',I b'→(w.putObj b o').heap[b']? = w.heap[b']? :=fun b' hb=>World.putObj_heap_other (fun e=>k2 (e▸hb))
 have hO : ∀b',bK σ β b'→(w.putObj b o').heap[b']? = w.heap[b']? :=fun b' hb=>World.putObj_heap_other (fun e=>k3 (e▸hb))
 refine ⟨I,β,⟨⟨fun id blk hb =>?_,h1.mem.inj,h1.mem.free,fun b hb =>?_⟩,h1.os,h1.tape,h1.output,?_,fun b' hb hn =>?_,h1.imm,h1.immn,h1.bet,h1.nx,h1.own'⟩,h2,fun t=>(h3 t).keep hI (fun _ h=>h) (fun _ _ h=>h),h4,⟨⟨Ds,q1,q2,fun D hD =>?_⟩,fun p hp =>?_⟩,fun g x hx=>(h6 g x hx).keep hI (fun _ h=>h)⟩
 ·have ho:=h1.mem.own id blk hb;refine ho.keep (fun b hb' =>?_) (fun _ h=>h) (fun b c hc=>(ho.not_imm hc).1) (fun _ _ h=>h);rcases hb' with hb'|⟨c,hc⟩
  ·exact hI b hb'
  ·exact hO b ⟨id,blk,c,hb,hc⟩
 ·rw [World.putObj_size];exact h1.mem.lt b hb
 ·rw [World.putObj_size];exact h1.size
 ·rw [World.putObj_heap_other (fun e=>hn (by rw [e];exact hown))];exact h1.block b' hb hn
 ·obtain ⟨g1,g2,g3,g4⟩:=q3 D hD;refine ⟨g1,?_,g3,g4⟩;rw [World.putObj_heap_other]
  ·exact g2
  ·rintro rfl;rw [k1] at g2;injection g2 with g2;exact ho g2
 ·have hp':p=(b,o'):=by simpa using hp
  subst hp';exact ⟨World.putObj_heap_same (jy k1),k2,k3⟩
end
section
variable {P:Program} {G:Gl}
theorem lr {σ:ak} {id i j:Nat} {l:List Nat} (h:mF σ id l i=some j):(i=j∧j<id ∧ ∃b,σ.get j=some b)∨(id≤i∧id≤j∧j<id+l.length∧l[j - id]? = some i):=by
 unfold mF at h;split at h
 ·rename_i hlt;split at h
  ·rename_i hs;injection h with h;subst h;exact .inl ⟨rfl,hlt,acv.1 hs⟩
  ·cases h
 ·obtain ⟨h1,h2,h3⟩:=eF h;exact .inr ⟨by omega,h1,h2,h3⟩
theorem Mq (σ:ak) (id:Nat) (l:List Nat) : ∀i i' j,mF σ id l i=some j→mF σ id l i'=some j→i=i':=by
 intro i i' j h h';rcases lr h with ⟨rfl,h1,_⟩|⟨h0,h1,_,h2⟩
 ·rcases lr h' with ⟨rfl,_⟩|⟨_,h1',_⟩
  ·rfl
  ·omega
 ·rcases lr h' with ⟨rfl,h1',_⟩|⟨_,_,_,h2'⟩
  ·omega
  ·rw [h2] at h2';injection h2'
theorem Md {w w3:World} {I I3:Nat→Prop} {β β3:co} {σ σ3 σ':ak} {nx Yb id i b cap:Nat} {y:Yd} {e:aO} {j:Option Code} {r:Loop} {l:List Nat} {o:Obj}
 (hm:de w I β σ nx) (hi:i<id) (hfr : ∀k,id≤k→k<id+4→β k=none) (hnx:id+4≤nx) (hg:σ.get i=some (.rc y none e)) (hb:β i=some (some (b,cap))) (he : ∀t,aL w I β (e.get t) (r.tmps.getD t undef)) (hr:Qh y j r)
 (hs:ay w I (m5 β id) (σ.sel (jV id)) id w3 I3 β3 σ3 Yb) (h3:w3.heap[b]? = some o) (hI3 : ¬I3 b) (ho3 : ¬bK σ3 β3 b) (hl:l.length≤4) (hsub:ar σ' ((i,.rc y j e)::σ3.sel (mF σ id l))) :
 ∃β',ay w I β σ nx (w3.putObj b (.loop r)) I3 β' σ' nx ∧ ∀k,¬(id≤k∧k<id+4)→β' k=β k:=by
 have hlt:b<w.heap.size:=(((hm.own i _ hg).not_imm hb).2)
 have hIb : ¬I b:=((hm.own i _ hg).not_imm hb).1;let β':co:=fun k=>if id≤k∧k<id+4 then (match l[k - id]? with|some q=>β3 q|none=>none) else β k
 have hβ : ∀k,¬(id≤k∧k<id+4)→β' k=β k:=fun k hk=>by simp only [β',aaY hk]
 have hext : ∀k x,β k=some x→β' k=some x:=fun k x hx=>by
  rw [hβ k]
  ·exact hx
  ·rintro ⟨h1,h2⟩;rw [hfr k h1 h2] at hx;cases hx
 have hin : ∀k k',mF σ id l k=some k'→β' k'=β3 k:=by
  intro k k' h;rcases lr h with ⟨rfl,h1,blk,h2⟩|⟨h0,h1,h2,h3⟩
  ·rw [hβ k (by omega)];obtain ⟨x,hx⟩:=(hm.own k blk h2).named;rw [hx,hs.bet k x (by simp [m5,h1,hx])]
  ·simp only [β',show id≤k'∧k'<id+4 from ⟨h1,by omega⟩,and_self,ab0,h3]
 have hing : ∀k k',mF σ id l k=some k' → ∀x,β3 k=some x→β' k'=some x:=fun k k' h x hx=>by rw [hin k k' h];exact hx
 have hinj:=Mq σ id l;have hIk : ∀k,I3 k→(w3.putObj b (.loop r)).heap[k]? = w3.heap[k]? :=fun k hk=>World.putObj_heap_other (fun e=>hI3 (e▸hk))
 have hOk : ∀k,bK σ3 β3 k→(w3.putObj b (.loop r)).heap[k]? = w3.heap[k]? :=fun k hk=>World.putObj_heap_other (fun e=>ho3 (e▸hk))
 have hI0 : ∀k,I k→w3.heap[k]? = w.heap[k]? :=fun k hk=>hs.block k (hm.lt k hk) (fun h=>hm.not_owned hk (lk h))
 have hget : ∀k blk,σ'.get k=some blk→(k=i∧blk = .rc y j e)∨(∃k0 blk0,mF σ id l k0=some k∧σ3.get k0=some blk0∧blk=blk0.sel (mF σ id l)):=by
  intro k blk hk;have:=hsub k blk hk;simp only [ak.get] at this;split at this
  ·rename_i e1;injection this with this;exact .inl ⟨e1.symm,this.symm⟩
  ·exact .inr (ak.get_sel hinj _ k blk this)
 have hbi:β' i=some (some (b,cap)):=hext i _ hb;have hoth : ∀k k0 blk0 c,mF σ id l k0=some k→σ3.get k0=some blk0→β' k=some (some (b,c))→False:=by
  intro k k0 blk0 c h1 h2 h4;rw [hin k0 k h1] at h4;exact ho3 ⟨k0,blk0,c,h2,h4⟩
 have howned : ∀k,bK σ' β' k→k=b∨bK σ3 β3 k:=by
  rintro k ⟨q,blk,c,h1,h2⟩;rcases hget q blk h1 with ⟨rfl,rfl⟩|⟨q0,blk0,g1,g2,_⟩
  ·rw [hbi] at h2;injection h2 with h2;injection h2 with h2;injection h2 with h2 _;exact .inl h2.symm
  ·rw [hin q0 q g1] at h2;exact .inr ⟨q0,blk0,c,g2,h2⟩
 have hob:bK σ β b:=⟨i,_,cap,hg,hb⟩
 refine ⟨β',⟨⟨fun k blk hk =>?_,fun k k' blk blk' q c c' g1 g2 g3 g4 =>?_,fun k hk =>?_,fun k hk =>?_⟩,hs.os,hs.tape,hs.output,?_,fun k hk hn =>?_,hs.imm,fun k hk =>?_,hext,aaV _,fun k hk =>?_⟩,hβ⟩
 ·rcases hget k blk hk with ⟨rfl,rfl⟩|⟨k0,blk0,g1,g2,rfl⟩
  ·exact ⟨b,cap,r,hbi,World.putObj_heap_same (jy h3),hI3,hr,fun t=>(he t).keep (fun q hq=>(hIk q (hs.imm q hq)).trans (hI0 q hq)) hs.imm hext⟩
  ·have ho:=hs.mem.own k0 blk0 g2;have ho':jS (w3.putObj b (.loop r)) I3 β3 k0 blk0:=ho.keep (fun q hq=>by
    rcases hq with hq|⟨c,hc⟩
    ·exact hIk q hq
    ·exact hOk q ⟨k0,blk0,c,g2,hc⟩) (fun _ h=>h) (fun q c hc=>(ho.not_imm hc).1) (fun _ _ h=>h)
   exact ho'.sel hing g1
 ·rcases hget k blk g1 with ⟨rfl,rfl⟩|⟨k0,blk0,p1,p2,rfl⟩
  ·rw [hbi] at g3;injection g3 with g3;injection g3 with g3;injection g3 with g3 _;subst g3;rcases hget k' blk' g2 with ⟨rfl,rfl⟩|⟨k0',blk0',p1',p2',rfl⟩
   ·rfl
   ·exact (hoth k' k0' blk0' c' p1' p2' g4).elim
  ·rcases hget k' blk' g2 with ⟨rfl,rfl⟩|⟨k0',blk0',p1',p2',rfl⟩
   ·rw [hbi] at g4;injection g4 with g4;injection g4 with g4;injection g4 with g4 _;subst g4;exact (hoth k k0 blk0 c p1 p2 g3).elim
   ·rw [hin k0 k p1] at g3;rw [hin k0' k' p1'] at g4;have:=hs.mem.inj k0 k0' blk0 blk0' q c c' p2 p2' g3 g4;subst this;rw [p1] at p1';injection p1'
 ·rw [hβ k (by omega)];exact hm.free k hk
 ·rw [World.putObj_size];exact hs.mem.lt k hk
 ·rw [World.putObj_size];exact hs.size
 ·have hkb:k≠b:=fun e=>hn (e▸hob)
  rw [World.putObj_heap_other hkb];exact hs.block k hk (fun h=>hn (lk h))
 ·rcases hs.immn k hk with h|h|h
  ·exact .inl h
  ·exact .inr (.inl (lk h))
  ·exact .inr (.inr h)
 ·rcases howned k hk with rfl|h
  ·exact .inl hob
  ·rcases hs.own' k h with h|h
   ·exact .inl (lk h)
   ·exact .inr h
theorem pG.of {i:Nat} {args:List V} {σ:ak} {id:Nat} {y:Yd} {e:aO} {v:V} {σ':ak} (hg:σ.get i=some (.rc y none e)) (hi:i<id) (hps:y.ps.toList.all (fun p=>decide (p<y.n))=true) (hl:args.length=y.ps.size) (hn1:oS y.asg=true) (hn2:oS y.body=true)
 (h:AW P G y.n id y.asg ⟨ka y.ps.toList (args.map (V.sel (jV id))) (e.sel (jV id)),(σ.del i).sel (jV id),id⟩ (ge (fun st=>AW P G y.n id y.body st (Pj G σ id i y e v σ')) (fun _ _=>False))):pG P G i args σ id v σ':=by
 intro w I β nx vals b cap hm hG hfr hnx hd hb;obtain ⟨b',cap',r,q1,q2,q3,q4,q5⟩:=hm.own i _ hg;rw [hb] at q1;injection q1 with q1;injection q1 with q1;injection q1 with q1 q1';subst q1;subst q1';refine ⟨r,q2,by rw [←hd.1,hl,q4.ps],?_⟩;rw [KV];have hC:=hm.cut id;let C:uP:=⟨w,I,m5 β id,σ.sel (jV id),id,y.n,hC.free,[(b,.loop r)]⟩
 have hown:bK C.σ C.β b:=⟨i,bN.sel (jV id) (.rc y none e),cap,ak.get_sel' (y9 id) (by simp [jV,hi]) σ _ hg,by simp [C,m5,hi,hb]⟩
 have hsub : ∀j bl,((σ.del i).sel (jV id)).get j=some bl→(σ.sel (jV id)).get j=some bl∧j≠i:=by
  intro j bl hj;obtain ⟨hlt,b',h1,rfl⟩:=lc hj;rw [ak.get_del] at h1;split at h1
  ·cases h1
  ·rename_i hne;exact ⟨ak.get_sel' (y9 id) (by simp [jV,hlt]) σ _ h1,hne⟩
 have hargs:cU w I (m5 β id) (args.map (V.sel (jV id))) vals:=by
  refine ⟨by simpa using hd.1,fun k c x hc hx =>?_⟩;simp only [abp,aaZ] at hc;obtain ⟨c',hc',rfl⟩:=hc;exact (hd.2 k c' x hc' hx).sel rP
 have hfill:=wO (w:=w) (I:=I) (β:=m5 β id) y.ps.toList (args.map (V.sel (jV id))) vals (e.sel (jV id)) r.tmps hargs (fun p hp=>by
  have:=abF.1 hps p hp;rw [q4.n];simpa using this) (fun t=>by rw [aO.get_sel];exact (q5 t).sel rP)
 have hrel:qD C G ⟨ka y.ps.toList (args.map (V.sel (jV id))) (e.sel (jV id)),(σ.del i).sel (jV id),id⟩ { tmps:=nc (y.ps.toList.zip vals) r.tmps,defers:=[] } w:=by
  refine ⟨I,m5 β id,(ay.refl hC).sub (fun j bl hj=>(hsub j bl hj).1) (aaV _),hC.free,hfill.2,by rw [hfill.1];exact q4.n,⟨⟨[],rfl,adQ,fun D hD=>by cases hD⟩,fun p hp =>?_⟩,hG⟩;have hp':p=(b,.loop r):=by simpa [C] using hp
  subst hp';refine ⟨q2,q3,?_⟩;rintro ⟨j,bl,c,g1,g2⟩;obtain ⟨hlt,b',h1,_⟩:=lc g1;rw [ak.get_del] at h1;split at h1
  ·cases h1
  ·rename_i hne;exact hne (hm.inj j i _ _ b c cap h1 hg (kV g2).2 hb)
 rw [show r.params.toList=y.ps.toList by rw [q4.ps]];refine roundIn_of_wpIn (F:=Fence.wide) trivial ?_;rw [q4.asg,q4.body];refine wpIn_mono (h (some b) (.inr hn1) C _ w rfl rfl hrel) ?_;rintro e1 a1 w1 ⟨st1,hq,hr1⟩;cases e1 with
 | normal=>
  have hhid:w1.heap[b]? = some (.loop r):=by
   obtain ⟨I1,β1,_,_,_,_,⟨_,k⟩,_⟩:=_root_.id hr1;exact (k (b,.loop r) (by simp [C])).1
  have hst:r.state = .ready:=by rw [q4.state];rfl
  refine ⟨_,run_beginRound hhid hst,?_⟩;have hr2:=ft.putHid (o':= .loop { r with state:= .busy }) (C:=C) rfl (fun e=>by cases e) hown hr1;let C2:uP :={ C with hd:=[(b,.loop { r with state:= .busy })] }
  refine wpIn_mono ((show AW P G y.n id y.body st1 (Pj G σ id i y e v σ') from hq) (some b) (.inr hn2) C2 a1 _ rfl rfl hr2) ?_;have fin : ∀(j:Option Code) (st2:St) (a2:Act) (w3:World),JU G σ id i y e j v σ' st2→qD C2 G st2 a2 w3 →
   ∃u w',(Instr.endRound b j).run P w3 = .ok u w' ∧ ∃u0 I' β',Ending.returned u = .returned u0∧aL w' I' β' v u0∧ay w I β σ nx w' I' β' σ' nx ∧ ∀k,¬(id≤k∧k<id+4)→β' k=β k:=by
   rintro j st2 a2 w3 ⟨rfl,st3,hle,l,hl4,hsb⟩ hr3;obtain ⟨I3,β3,k1,k2,k3,k4,⟨_,k5⟩,k6⟩:=hle C2 a2 w3 rfl hr3;obtain ⟨p1,p2,p3⟩:=k5 (b,.loop { r with state:= .busy }) (by simp [C2]);obtain ⟨β',g1,g2⟩:=Md (r :={ r with state:=if j.isNone then .ready else .done,pending:=j }) hm hi hfr hnx hg hb q5 ⟨rfl,rfl,q4.n,q4.ps,q4.asg,q4.body⟩ k1 p1 p2 p3 hl4 hsb;exact ⟨_,_,run_endRound j p1,_,I3,β',rfl,ax.lit _,g1,g2⟩
  rintro e2 a2 w3 ⟨st2,hq2,hr3⟩;cases e2 with
  | normal=>exact fin none st2 a2 w3 hq2 hr3
  | ret=>exact fin (some .ret) st2 a2 w3 hq2 hr3
  | exit k=>exact fin (some (.exit k)) st2 a2 w3 hq2 hr3
  | _=>exact hq2.elim
 | _=>exact hq.elim
theorem im.of (ho:P.follows .mixedOrders=true) (lv:List Nat) {i:Nat} {args:List V} {σ:ak} {id:Nat} {K:V→ak→Prop} {y:Yd} {e:aO} {v:V} {σ':ak} (hg:σ.get i=some (.rc y none e)) (hi:i<id) (hps:y.ps.toList.all (fun p=>decide (p<y.n))=true) (hl:args.length=y.ps.size)
 (hn1:oS y.asg=true) (hn2:oS y.body=true) (ho1:aS y.n y.asg=true) (ho2:aS y.n y.body=true)
 (h:bJ P G y.n id lv y.asg ⟨ka y.ps.toList (args.map (V.sel (jV id))) (e.sel (jV id)),(σ.del i).sel (jV id),id⟩ (ge (fun st=>bJ P G y.n id lv y.body st (Pj G σ id i y e v σ')) (fun _ _=>False))) (hK:K v σ'):im P G i args σ id K:=by
 refine ⟨v,σ',hK,pG.of hg hi hps hl hn1 hn2 ((d9 ho _ _ _ ho1 h).mono ?_)⟩;intro ex st hq;cases ex with
 | normal=>exact d9 ho _ _ _ ho2 hq
 | _=>exact hq
end
end Go.Proofs.YtkkanlcjjpoklaaGreatDoor
set_option linter.unusedVariables false
namespace Go.Proofs.YtkkanlcjjpoklaaGreatDoor
open Go.RowKit
section
variable {P:Program} {G:Gl}
def Nz (G:Gl) (st:St) (Q:Exit→St→Prop) (st':St):Prop:=
 aC G (st.nx+1) (fun st'=> ∃y j e,st'.sg.get st.nx=some (.rc y j e)∧match j with
  | none=>Q .normal ⟨st.env,st'.sg.del st.nx,st'.nx⟩
  | some .ret=>Q .ret ⟨st.env,st'.sg.del st.nx,st'.nx⟩
  | some (.exit k)=>Q (.exit k) ⟨st.env,st'.sg.del st.nx,st'.nx⟩
  | _=>False) st'
def UG (G:Gl) (st:St) (Q:Exit→St→Prop):Exit→St→Prop
 | .normal,st'=>Nz G st Q st'
 | .ret,st'=>Nz G st Q st'
 | _,_=>False
theorem ay.foreign {w:World} {I:Nat→Prop} {β:co} {σ:ak} {nx:Nat} (hm:de w I β σ nx) (o:Obj):ay w I β σ nx (w.alloc o) I β σ nx:=by
 have hb : ∀b,b<w.heap.size→(w.alloc o).heap[b]? = w.heap[b]? :=fun b hb=>Below.heap_alloc w o b hb
 refine ⟨⟨fun id blk h =>?_,hm.inj,hm.free,fun b hI=>by have:=hm.lt b hI;simp;omega⟩,rfl,rfl,rfl,by simp,fun b hlt _=>hb b hlt,fun _ h=>h,fun _ h=> .inl h,fun _ _ h=>h,aaV _,fun _ h=> .inl h⟩;have ho:=hm.own id blk h;refine ho.keep (fun b hb' =>?_) (fun _ h=>h) (fun b c hc=>(ho.not_imm hc).1) (fun _ _ h=>h);rcases hb' with hb'|⟨c,hc⟩
 ·exact hb b (hm.lt b hb')
 ·exact hb b (ho.not_imm hc).2
theorem tz {n m:Nat} {g:Operand} {ps:Array Nat} {asg body:Code} {st:St} {Q:Exit→St→Prop} {k:Nat} {caps:List V} {fn:Func} {c:Code}
 (hg : ∀w I β x,aL w I β (eO G st.env.get g) x → ∃cv:List Value,x = .func (.func k) #[] cv.toArray∧cU w I β caps cv) (he:cK P k=true) (hf:P.funcs[k]? = some fn) (hb:fn.body=some c) (hrs:fn.results = #[]) (hlen:caps.length+1≤fn.ntmps)
 (h:AW P G fn.ntmps (st.nx+1) c ⟨gV 0 (.yl st.nx::caps),(st.nx,.rc ⟨n,ps,asg,body⟩ none st.env)::st.sg,st.nx+1⟩ (UG G st Q)):oj P G n m g ps asg body st Q:=by
 intro fr hfr C a w hn hm hr;have hfr':fr=none:=hfr.resolve_right (by simp [oS]);subst hfr';refine wpIn_rangeFunc (F:=Fr none) fun fn' _ =>?_
 obtain ⟨I,β,h1,h2,h3,h4,h5,h6⟩:=hr;have hgd:=qH (G:=G) (e:=st.env) (a:=a) h3 h6 g;obtain ⟨cv,e1,e2⟩:=hg w I β _ hgd;let r:Loop :={ state:= .ready,pending:=none,fn:=fn',tmps:=a.tmps,params:=ps,assign:=asg,body:=body,defers:=w.heap.size }
 let w0:=w.alloc (.deferred (some []))
 let w1:=w0.alloc (.loop r)
 have hres:(resolve a.eval (rangeCall g (w.heap.size+1)) 0).run P w1 = .ok { target:= .fn (.func k) cv.toArray,args :=#[.func (.yield (w.heap.size+1)) #[] #[]] } w1:=by
  have ec : ∀v:Value,a.eval (.const v)=v:=fun _=>rfl
  simp [resolve,e1,ec,Deferred.ofValue]
 refine ⟨w.heap.size+1,[{ target:= .collected w.heap.size,args :=#[] }],w1,_,w1,k,(.func (.yield (w.heap.size+1)) #[] #[]::cv).toArray,w1,run_enterLoop_outer fn' a.tmps ps asg body,hres,fun _ _=>trivial,?_,(fun e=>by cases e),?_⟩
 ·simp only [invoke];rw [show (#[Value.func (Fn.yield (w.heap.size+1)) #[] #[]]++cv.toArray)=(Value.func (Fn.yield (w.heap.size+1)) #[] #[]::cv).toArray by simp];exact nM he _ w1
 have hb0:β st.nx=none:=h2 st.nx (aaV _);have hm1:de w I β st.sg (st.nx+1):=h1.mem.bump (by omega);have s0:=ay.foreign hm1 (.deferred (some []));let blk:bN:= .rc ⟨n,ps,asg,body⟩ none st.env
 have hsz:w0.heap.size=w.heap.size+1:=by simp [w0]
 have hown:jS w1 I (oh β st.nx (some (w0.heap.size,0))) st.nx blk:=by
  refine ⟨w0.heap.size,0,r,aX _ _ _,World.alloc_heap_new w0 _,fun hI =>?_,⟨rfl,rfl,h4.trans hn,rfl,rfl,rfl⟩,fun t =>?_⟩
  ·have:=h1.mem.lt _ hI;omega
  ·refine (h3 t).keep (fun b hI =>?_) (fun _ h=>h) (ii hb0);have hlt:=h1.mem.lt b hI;exact (Below.heap_alloc w0 _ b (by omega)).trans (Below.heap_alloc w _ b hlt)
 have s1:=ay.alloc s0.mem (id:=st.nx) hb0 (by omega) (.loop r) 0 blk hown;have s01:=s0.trans s1;let β1:=oh β st.nx (some (w0.heap.size,0))
 have hβ1:β1 st.nx=some (some (w0.heap.size,0)):=aX _ _ _;let C':uP:=⟨w1,I,β1,(st.nx,blk)::st.sg,st.nx+1,fn.ntmps,s1.mem.free,[]⟩
 let vals:List Value:= .func (.yield (w.heap.size+1)) #[] #[]::cv
 have hvl:vals.length=caps.length+1:=by simp [vals,e2.1]
 have hrel:qD C' G ⟨gV 0 (.yl st.nx::caps),(st.nx,blk)::st.sg,st.nx+1⟩ { tmps:=vals.toArray++Array.replicate (fn.ntmps - vals.toArray.size) undef,defers:=[] } w1:=by
  refine ⟨I,β1,ay.refl s1.mem,s1.mem.free,fun t =>?_,?_,j2.nil,fun q x hx=>s01.denD hm1 (h6 q x hx)⟩
  ·show aL w1 I β1 ((gV 0 (.yl st.nx::caps)).get t) _;rw [Br];simp only [aa1,ab0,ad5];cases hv:(V.yl st.nx::caps)[t]? with
   | none=>trivial
   | some v=>
    have ht:t<vals.length:=by
     have:=(aaX.1 hv).1;simp at this;omega
    have e3:(vals.toArray++Array.replicate (fn.ntmps - vals.toArray.size) undef).getD t undef=vals[t]:=by
     simp [abE,Array.getElem?_append,ht]
    rw [e3];match t,hv,ht with
    | 0,hv,ht=>
     simp only [abq,aa5] at hv;subst hv;exact ⟨w0.heap.size,0,hβ1,by show Value.func (.yield (w.heap.size+1)) #[] #[]=_;rw [hsz]⟩
    | t+1,hv,ht=>
     simp only [abB] at hv;exact s01.den hm1 (e2.2 t v _ hv (by simp [vals]))
  ·show (vals.toArray++Array.replicate (fn.ntmps - vals.toArray.size) undef).size=fn.ntmps;simp;omega
 refine callsIn_of_wp_marks (F:=Fr none) hf hb trivial ?_;refine wpIn_mono (h none (.inl rfl) C' _ w1 rfl rfl hrel) ?_;rintro ex aK w2 ⟨st2,hq,hr2⟩;have hD:j2 C.w.heap.size C.hd w1 I β1 ((st.nx,blk)::st.sg) ({ target:= .collected w.heap.size,args :=#[] } :: a.defers):=by
  obtain ⟨⟨Ds,d1,d2,d3⟩,d4⟩:=(h5.step s01)
  have hDlt : ∀D∈Ds,D<w.heap.size:=by
   obtain ⟨⟨Ds',d1',d2',d3'⟩,_⟩:=h5;have:Ds'=Ds:=by
    have e4:=d1'.symm.trans d1;have : ∀(x y:List Nat),x.map (fun D=>({ target:= .collected D,args :=#[] } : Deferred))=y.map (fun D =>{ target:= .collected D,args :=#[] })→x=y:=by
     intro x;induction x with
     | nil=>intro y h;cases y with|nil=>rfl|cons=>simp at h
     | cons q x ih=>
      intro y h;cases y with
      | nil=>simp at h
      | cons q' y=>simp only [abh,ab7,Deferred.mk.injEq,Target.collected.injEq,adc] at h;rw [h.1,ih y h.2]
    exact this _ _ e4
   subst this;exact fun D hD=>jy (d3' D hD).2.1
  refine ⟨⟨w.heap.size::Ds,by rw [abh,←d1],acF.2 ⟨fun hh=>by have:=hDlt _ hh;omega,d2⟩,fun D hD =>?_⟩,d4⟩;rcases abi.1 hD with rfl|hD
  ·refine ⟨h1.size,?_,fun hI=>by have:=h1.mem.lt _ hI;omega,?_⟩
   ·have:w1.heap[w.heap.size]? = w0.heap[w.heap.size]? :=Below.heap_alloc w0 _ _ (by omega);rw [this];exact World.alloc_heap_new w _
   ·rintro ⟨q,bl,cc,g1,g2⟩;simp only [ak.get] at g1;by_cases hq:st.nx=q
    ·subst hq;rw [hβ1] at g2;injection g2 with g2;injection g2 with g2;injection g2 with g2 _;omega
    ·rw [aaY hq] at g1;rw [show β1 q=β q from aP (fun e=>hq e.symm)] at g2;have:=((h1.mem.own q bl g1).not_imm g2).2;omega
  ·exact d3 D hD
 have key:Nz G st Q st2→LeavesInM (Fr none) 0 P fn aK.tmps (rangePost (Fr none) 0 P (w.heap.size+1) (fun e a' w'=> ∃st',Q e st'∧qD C G st' a' w') { a with defers:=[{ target:= .collected w.heap.size,args :=#[] }]++a.defers }) aK.defers .returning w2:=by
  rintro ⟨st3,hle,y,j,e,g1,g2⟩;refine y7 (C:=C') rfl (G:=G) (st:=st3) (fun w3 hr3 =>?_) aK.defers w2 (hle C' aK w2 rfl hr2);refine ⟨.tuple #[],by simp [tA,hrs],?_⟩;obtain ⟨I3,β3,k1,k2,k3,k4,k5,k6⟩:=hr3;obtain ⟨b,cap,r3,p1,p2,p3,p4,p5⟩:=k1.mem.own _ _ g1;have hbl:b=w.heap.size+1∧cap=0:=by
   have:=k1.bet st.nx _ hβ1;rw [p1] at this;injection this with this;injection this with this;injection this with q1 q2;exact ⟨q1.trans hsz,q2⟩
  obtain ⟨rfl,rfl⟩:=hbl;have hnb:r3.state ≠ .busy:=by rw [p4.state];split<;>simp
  refine ⟨r3.pending,_,run_endLoop p2 hnb,?_⟩;have hst:=s01.trans k1;have back:qD C G ⟨st.env,st3.sg.del st.nx,st3.nx⟩ { a with defers:=[{ target:= .collected w.heap.size,args :=#[] }]++a.defers } (w3.putObj (w.heap.size+1) (.loop { r3 with state:= .exhausted })):=by
   have hIk : ∀q,I3 q→(w3.putObj (w.heap.size+1) (.loop { r3 with state:= .exhausted })).heap[q]? = w3.heap[q]? :=fun q hq=>World.putObj_heap_other (fun e=>p3 (e▸hq))
   have hno : ∀q,bK (st3.sg.del st.nx) β3 q→q≠w.heap.size+1∧bK st3.sg β3 q:=by
    rintro q ⟨id',bl,cc,x1,x2⟩;rw [ak.get_del] at x1;split at x1
    ·cases x1
    ·rename_i hne;refine ⟨?_,id',bl,cc,x1,x2⟩;rintro rfl;exact hne (k1.mem.inj id' st.nx _ _ _ cc 0 x1 g1 x2 p1)
   have hOk : ∀q,bK (st3.sg.del st.nx) β3 q→(w3.putObj (w.heap.size+1) (.loop { r3 with state:= .exhausted })).heap[q]? = w3.heap[q]? :=fun q hq=>World.putObj_heap_other (hno q hq).1
   have hall:=h1.bump (show st.nx≤st.nx+1 by omega) |>.trans hst
   have hdd:=hD.step k1;refine ⟨I3,β3,⟨⟨fun id' bl hb' =>?_,fun i j' b' b'' q cc cc' x1 x2 x3 x4 =>?_,k1.mem.free,fun q hq =>?_⟩,hall.os,hall.tape,hall.output,?_,fun q hq hnq =>?_,hall.imm,hall.immn,hall.bet,hall.nx,fun q hq=>hall.own' q (hno q hq).2⟩,k2,fun t =>?_,h4,?_,fun q x hx=>(k6 q x hx).keep hIk (fun _ h=>h)⟩
   ·have hx:st3.sg.get id'=some bl:=by
     have hb'':(st3.sg.del st.nx).get id'=some bl:=hb';rw [ak.get_del] at hb'';split at hb''
     ·cases hb''
     ·exact hb''
    have ho:=k1.mem.own id' bl hx;refine ho.keep (fun q hq =>?_) (fun _ h=>h) (fun q cc hc=>(ho.not_imm hc).1) (fun _ _ h=>h);rcases hq with hq|⟨cc,hc⟩
    ·exact hIk q hq
    ·exact hOk q ⟨id',bl,cc,hb',hc⟩
   ·have y1:(st3.sg.del st.nx).get i=some b':=x1;have y2:(st3.sg.del st.nx).get j'=some b'':=x2;rw [ak.get_del] at y1 y2;split at y1
    ·cases y1
    ·split at y2
     ·cases y2
     ·exact k1.mem.inj i j' b' b'' q cc cc' y1 y2 x3 x4
   ·rw [World.putObj_size];exact k1.mem.lt q hq
   ·rw [World.putObj_size];exact hall.size
   ·rw [World.putObj_heap_other (by have:=h1.size;omega)];exact hall.block q hq hnq
   ·exact (k1.den s1.mem (s01.den hm1 (h3 t))).keep hIk (fun _ h=>h) (fun _ _ h=>h)
   ·obtain ⟨⟨Ds,d1,d2,d3⟩,d4⟩:=hdd;have ne : ∀q (o:Obj),w3.heap[q]? = some o→(∀l,o ≠ .loop l)→q≠w.heap.size+1:=by
     rintro q o hq ho rfl;rw [p2] at hq;injection hq with hq;exact ho _ hq.symm
    refine ⟨⟨Ds,d1,d2,fun D hD =>?_⟩,fun p hp =>?_⟩
    ·obtain ⟨z1,z2,z3,z4⟩:=d3 D hD;refine ⟨z1,?_,z3,fun hh=>z4 (hno D hh).2⟩;rw [World.putObj_heap_other (ne D _ z2 (fun l e=>by cases e))];exact z2
    ·obtain ⟨z1,z2,z3⟩:=d4 p hp;refine ⟨?_,z2,fun hh=>z3 (hno _ hh).2⟩;rw [World.putObj_heap_other]
     ·exact z1
     ·intro e5;exact z3 ⟨st.nx,_,0,g1,by rw [e5];exact p1⟩
  generalize w3.putObj (w.heap.size+1) (.loop { r3 with state:= .exhausted })=w4 at back ⊢;rw [p4.pending];match j,g2 with
  | none,g2=>exact ⟨_,g2,back⟩
  | some .ret,g2=>exact wpIn_ret ⟨_,g2,back⟩
  | some (.exit q),g2=>exact wpIn_exit ⟨_,g2,back⟩
 cases ex with
 | normal=>exact key hq
 | ret=>exact key hq
 | _=>exact hq.elim
theorem wG {w:World} {I:Nat→Prop} {β:co} {k:Nat} {caps:List V} {x:Value} (h:aL w I β (.fn k caps) x) : ∃cv:List Value,x = .func (.func k) #[] cv.toArray∧cU w I β caps cv:=by
 obtain ⟨k',caps',⟨rfl,rfl⟩,e2⟩:=fb (w:=w) (I:=I) (β:=β) (x:=x) (v:= .fn k caps) (K:=fun a b=>a=k∧b=caps) ⟨rfl,rfl⟩;exact e2 h
theorem Kl {w:World} {I:Nat→Prop} {β:co} {k:Nat} {caps:List D} {x:Value} (h:aL w I β (.d (.fn k caps)) x) : ∃cv:List Value,x = .func (.func k) #[] cv.toArray∧cU w I β (caps.map .d) cv:=by
 obtain ⟨k',caps',⟨rfl,rfl⟩,e2⟩:=fb (w:=w) (I:=I) (β:=β) (x:=x) (v:= .d (.fn k caps)) (K:=fun a b=>a=k∧b=caps.map .d) ⟨rfl,rfl⟩;exact e2 h
end
end Go.Proofs.YtkkanlcjjpoklaaGreatDoor
set_option linter.defProp false
set_option linter.unusedSimpArgs false
set_option linter.unusedVariables false
set_option maxRecDepth 8000
namespace Go.Proofs.YtkkanlcjjpoklaaGreatDoor
def Pt {α:Type} (W:(α→Prop)→Prop):Prop:= ∀K,W K → ∃x,K x ∧ ∀K':α→Prop,K' x→W K'
def bn {α β:Type} (W:(α→β→Prop)→Prop):Prop:= ∀K,W K → ∃x y,K x y ∧ ∀K':α→β→Prop,K' x y→W K'
section
variable {α β γ δ:Type}
theorem Pt.at (x:α):Pt fun K:α→Prop=>K x:=fun _ h=>⟨x,h,fun _ h=>h⟩
theorem bn.at (x:α) (y:β):bn fun K:α→β→Prop=>K x y:=fun _ h=>⟨x,y,h,fun _ h=>h⟩
theorem Pt.no:Pt fun _:α→Prop=>False:=fun _ h=>h.elim
theorem bn.no:bn fun _:α→β→Prop=>False:=fun _ h=>h.elim
theorem Pt.bind {W:(α→Prop)→Prop} (h:Pt W) {V:α→(β→Prop)→Prop} (k : ∀x,Pt (V x)):Pt fun K=>W fun x=>V x K:=fun K hW=>by
 obtain ⟨x,hx,h1⟩:=h _ hW;obtain ⟨y,hy,h2⟩:=k x _ hx;exact ⟨y,hy,fun K' hK=>h1 _ (h2 _ hK)⟩
theorem Pt.bind2 {W:(α→Prop)→Prop} (h:Pt W) {V:α→(β→γ→Prop)→Prop} (k : ∀x,bn (V x)):bn fun K=>W fun x=>V x K:=fun K hW=>by
 obtain ⟨x,hx,h1⟩:=h _ hW;obtain ⟨y,z,hy,h2⟩:=k x _ hx;exact ⟨y,z,hy,fun K' hK=>h1 _ (h2 _ hK)⟩
theorem bn.bind {W:(α→β→Prop)→Prop} (h:bn W) {V:α→β→(γ→δ→Prop)→Prop} (k : ∀x y,bn (V x y)):bn fun K=>W fun x y=>V x y K:=fun K hW=>by
 obtain ⟨x,y,hx,h1⟩:=h _ hW;obtain ⟨z,t,hz,h2⟩:=k x y _ hx;exact ⟨z,t,hz,fun K' hK=>h1 _ (h2 _ hK)⟩
theorem Pt.and {W:(α→Prop)→Prop} (p:Prop) (h:Pt W):Pt fun K=>p∧W K:=fun K ⟨hp,hW⟩=>by
 obtain ⟨x,hx,h1⟩:=h _ hW;exact ⟨x,hx,fun K' hK=>⟨hp,h1 _ hK⟩⟩
theorem bn.and {W:(α→β→Prop)→Prop} (p:Prop) (h:bn W):bn fun K=>p∧W K:=fun K ⟨hp,hW⟩=>by
 obtain ⟨x,y,hx,h1⟩:=h _ hW;exact ⟨x,y,hx,fun K' hK=>⟨hp,h1 _ hK⟩⟩
theorem bn.or {W V:(α→β→Prop)→Prop} (h:bn W) (k:bn V):bn fun K=>W K∨V K:=fun K hW=>by
 rcases hW with hW|hW
 ·obtain ⟨x,y,hx,h1⟩:=h _ hW;exact ⟨x,y,hx,fun K' hK=> .inl (h1 _ hK)⟩
 ·obtain ⟨x,y,hx,h1⟩:=k _ hW;exact ⟨x,y,hx,fun K' hK=> .inr (h1 _ hK)⟩
theorem Pt.br (b:Bool) {W V:(α→Prop)→Prop} (h:Pt W) (k:Pt V):Pt fun K=>jT b (W K) (V K):=fun K hW=>by
 cases b with
 | true=>obtain ⟨x,hx,h1⟩:=h _ (hW.1 rfl);exact ⟨x,hx,fun K' hK=>⟨fun _=>h1 _ hK,fun h=>(by cases h)⟩⟩
 | false=>obtain ⟨x,hx,h1⟩:=k _ (hW.2 rfl);exact ⟨x,hx,fun K' hK=>⟨fun h=>(by cases h),fun _=>h1 _ hK⟩⟩
theorem bn.br (b:Bool) {W V:(α→β→Prop)→Prop} (h:bn W) (k:bn V):bn fun K=>jT b (W K) (V K):=fun K hW=>by
 cases b with
 | true=>obtain ⟨x,y,hx,h1⟩:=h _ (hW.1 rfl);exact ⟨x,y,hx,fun K' hK=>⟨fun _=>h1 _ hK,fun h=>(by cases h)⟩⟩
 | false=>obtain ⟨x,y,hx,h1⟩:=k _ (hW.2 rfl);exact ⟨x,y,hx,fun K' hK=>⟨fun h=>(by cases h),fun _=>h1 _ hK⟩⟩
theorem Pt.opt (o:Option α):Pt fun K:α→Prop=>cG o K:=by
 cases o with
 | none=>exact Pt.no
 | some x=>exact Pt.at x
theorem Pt.elem (k:Nat) (es:List D) (i j:Nat) (x:Nat × Bool):Pt fun K=>iQ k es i j x K:=fun K h=>by
 obtain ⟨e,y,h1,h2,h3⟩:=j9 h;exact ⟨_,h3,fun K' hK=>⟨h.1,fun e' he=>by rw [h1] at he;cases he;rw [h2];exact hK⟩⟩
theorem Pt.cell (b:bN):Pt fun K:List V→Prop=>rI b K:=by
 cases b<;>first|exact Pt.at _|exact Pt.no
theorem Pt.load (P:Program) (t:Nat) (a:V) (σ:ak):Pt fun K=>fa P t a σ K:=by
 refine (Pt.opt (cu P t)).bind fun x =>?_
 split
 ·exact Pt.elem _ _ _ _ _
 ·exact (Pt.opt _).bind fun b=>(Pt.cell b).bind fun cs=>Pt.opt _
 ·refine (Pt.opt _).bind fun b =>?_
  cases b with
  | row k es ty=>exact Pt.and _ (Pt.elem _ _ _ _ _)
  | _=>exact Pt.no
 ·exact Pt.no
theorem Pt.pick (c a b:V):Pt fun K=>jO c a b K:=by
 unfold jO;split
 ·exact Pt.br _ (Pt.at _) (Pt.at _)
 ·exact Pt.no
theorem bn.next (x:V) (σ:ak):bn fun K=>lT x σ K:=by
 unfold lT;split
 ·refine (Pt.opt _).bind2 fun b =>?_
  cases b with
  | iter s pos=>exact bn.br _ (bn.at _ _) (bn.at _ _)
  | _=>exact bn.no
 ·exact bn.no
theorem bn.call (P:Program) (G:Gl) (f:Nat) (args:List V) (σ:ak) (id:Nat):bn fun K=>au P G f args σ id K:=fun K ⟨v,σ',h,k⟩=>⟨v,σ',h,fun K' hK=>⟨v,σ',hK,k⟩⟩
theorem bn.dcall (P:Program) (G:Gl) (f:Nat) (args:List V) (σ:ak) (id:Nat):bn fun K=>dV P G f args σ id K:=fun K ⟨v,σ',h,k⟩=>⟨v,σ',h,fun K' hK=>⟨v,σ',hK,k⟩⟩
theorem bn.yield (P:Program) (G:Gl) (f:Nat) (args:List V) (σ:ak) (id:Nat):bn fun K=>im P G f args σ id K:=fun K ⟨v,σ',h,k⟩=>⟨v,σ',h,fun K' hK=>⟨v,σ',hK,k⟩⟩
theorem bn.res (op:Op) (r:j3):bn fun K=>fz op r K:=by
 cases r with
 | none=>exact bn.no
 | some x=>exact bn.and _ (bn.at _ _)
theorem bn.callee (v:V) {K:Nat→List V→(α→β→Prop)→Prop} {Y:Nat→(α→β→Prop)→Prop} {B:Nat→List V→(α→β→Prop)→Prop} (h : ∀k l,bn (K k l)) (hy : ∀i,bn (Y i)) (hb : ∀k l,bn (B k l)) :
 bn fun X=>bC v (fun k l=>K k l X) (fun i=>Y i X) fun k l=>B k l X:=by
 unfold bC;split
 ·exact h _ _
 ·exact h _ _
 ·exact hy _
 ·exact hb _ _
 ·exact bn.no
variable {P:Program} {G:Gl}
theorem bn.bs (r r2:j3) (σ:ak):bn fun K=>Kf r r2 σ K:=by
 unfold Kf;split
 ·exact bn.and _ (bn.at _ _)
 ·split
  ·exact bn.and _ (bn.at _ _)
  ·exact bn.no
theorem bn.step (op:Op) (g:Operand→V) (σ:ak) (id:Nat):bn fun K=>aT P G op g σ id K:=by
 unfold aT;split
 ·exact (Pt.pick _ _ _).bind2 fun v=>bn.at v σ
 ·exact (Pt.load _ _ _ _).bind2 fun v=>bn.at v σ
 ·split
  ·exact bn.next _ _
  ·exact bn.no
 ·split
  ·exact bn.callee _ (fun _ _=>bn.call _ _ _ _ _ _) (fun _=>bn.yield _ _ _ _ _ _) fun _ _=>bn.call _ _ _ _ _ _
  ·exact bn.res _ _
  ·exact bn.no
 ·exact bn.bs _ _ _
 ·exact bn.res _ _
theorem bn.quiet (op:Op) (g:Operand→V) (σ:ak) (id:Nat):bn fun K=>aZ P G op g σ id K:=by
 unfold aZ;split
 ·exact (Pt.pick _ _ _).bind2 fun v=>bn.at v []
 ·exact (Pt.load _ _ _ _).bind2 fun v=>bn.at v []
 ·split
  ·exact bn.callee _ (fun _ _=>bn.dcall _ _ _ _ _ _) (fun _=>bn.no) fun _ _=>bn.dcall _ _ _ _ _ _
  ·exact bn.res _ _
  ·exact bn.no
 ·exact bn.res _ _
theorem bn.guard (ops:Array Oper) (o:Oper) (e:aO) {Y N:aO→(α→β→Prop)→Prop} (h : ∀e,bn (Y e)) (k : ∀e,bn (N e)):bn fun K=>cL ops o e (fun e=>Y e K) fun e=>N e K:=by
 unfold cL;split
 ·exact h _
 ·refine (Pt.opt _).bind2 fun d =>?_
  unfold qq;split
  ·refine bn.br _ ?_ ?_<;>split<;>first|exact h _|exact k _
  ·exact k _
  ·exact bn.no
theorem bn.ops (ops:Array Oper) (base:Nat) : ∀(l:List Oper) (i:Nat) (e:aO) (σ:ak),bn fun K=>nC P G ops base i l e σ K
 | [],_,e,σ=>bn.at e σ
 | o::r,i,e,σ=>bn.guard _ _ _ (fun e=>(bn.step _ _ _ _).bind fun v σ'=>bn.ops ops base r _ _ _) fun e=>bn.ops ops base r _ _ _
theorem bn.sb (σk σ:ak) {W:(α→β→Prop)→Prop} (h:bn W):bn fun K=>zC σk σ (W K):=by
 cases σk with
 | nil=>exact h
 | cons x r=>exact bn.and _ h
theorem bn.opsL (lo:List Nat) (σk:ak) (ops:Array Oper) (base:Nat) : ∀(l:List Oper) (i:Nat) (e:aO) (σ acc:ak),bn fun K=>opsL P G lo σk ops base i l e σ acc K
 | [],_,e,σ,acc=>bn.at e (σ++acc)
 | o::r,i,e,σ,acc=>bn.guard _ _ _ (fun e=>by
  split
  ·exact (bn.step _ _ _ _).bind fun v σ'=>bn.sb _ _ (bn.opsL lo σk ops base r _ _ _ _)
  ·split
   ·unfold gR;split
    ·split
     ·exact bn.callee _ (fun _ _=>bn.or ((bn.dcall _ _ _ _ _ _).bind fun v new=>bn.opsL lo σk ops base r _ _ _ _) (bn.and _ ((bn.call _ _ _ _ _ _).bind fun v σ'=>bn.sb _ _ (bn.opsL lo σk ops base r _ _ _ _))))
       (fun _=>bn.and _ ((bn.yield _ _ _ _ _ _).bind fun v σ'=>bn.sb _ _ (bn.opsL lo σk ops base r _ _ _ _)))
       fun _ _=>bn.or ((bn.dcall _ _ _ _ _ _).bind fun v new=>bn.opsL lo σk ops base r _ _ _ _) (bn.and _ ((bn.call _ _ _ _ _ _).bind fun v σ'=>bn.sb _ _ (bn.opsL lo σk ops base r _ _ _ _)))
     ·exact bn.no
    ·exact bn.no
   ·split
    ·exact (bn.quiet _ _ _ _).bind fun v new=>bn.and _ (bn.opsL lo σk ops base r _ _ _ _)
    ·exact (bn.quiet _ _ _ _).bind fun v new=>bn.opsL lo σk ops base r _ _ _ _) fun e=>bn.opsL lo σk ops base r _ _ _ _
theorem Pt.reg (lv:List Nat) (ops:Array Oper) (draw:Bool) (st:St):Pt fun K=>kA P G lv ops draw K st:=by
 intro K h;cases draw with
 | true=>
  simp only [kA,ab0] at h;obtain ⟨lo,σk,h1,h2,h3,h4⟩:=h;obtain ⟨e,σ,hK,hall⟩:=bn.opsL lo σk ops st.nx ops.toList 0 st.env st.sg [] (fun e σ=>K ⟨aO.keep lv e,σ,st.nx+4*ops.size⟩) h4;exact ⟨_,hK,fun K' hK'=>by simp only [kA,ab0];exact ⟨lo,σk,h1,h2,h3,hall (fun e σ=>K' ⟨aO.keep lv e,σ,st.nx+4*ops.size⟩) hK'⟩⟩
 | false=>
  simp only [kA,aa9,ab1] at h;obtain ⟨e,σ,hK,hall⟩:=bn.ops ops st.nx ops.toList 0 st.env st.sg (fun e σ=>K ⟨aO.keep lv e,σ,st.nx+4*ops.size⟩) h;exact ⟨_,hK,fun K' hK'=>by simp only [kA,aa9,ab1];exact hall (fun e σ=>K' ⟨aO.keep lv e,σ,st.nx+4*ops.size⟩) hK'⟩
theorem Pt.gh (G:Gl) (m:Nat) {W:St→(α→Prop)→Prop} (h : ∀st,Pt (W st)) (st:St):Pt fun K=>aC G m (fun st=>W st K) st:=fun K ⟨s,h1,h2⟩=>by
 obtain ⟨x,hx,hall⟩:=h s K h2;exact ⟨x,hx,fun K' hK=>⟨s,h1,hall K' hK⟩⟩
end
def JR (G:Gl) (m:Nat) (B:List Nat→St→(Exit→St→Prop)→Prop) (st:St) (Q:Exit→St→Prop) (_u:Tag B:= .mk) (_v:Tag Q:= .mk) (_h:True:=trivial):Prop:=
 ∃(α:Type) (S:α→St) (pre:α→Prop) (mu:α→Nat) (x0:α) (lv:List Nat),aC G m (fun st'=>st'=S x0) st∧pre x0 ∧ ∀x,pre x→B lv (S x) (ge (fun st=>aG G m S pre mu x st) Q)
def bp (P:Program) (G:Gl) (n m:Nat):Code→List Nat→St→(Exit→St→Prop)→Prop
 | .skip,_,st,Q=>Q .normal st
 | .region _ ops draw,lv,st,Q=>aC G m (kA P G lv ops draw fun st'=>Q .normal st') st
 | .seq a b,lv,st,Q=>bp P G n m a lv st (ge (fun st'=>bp P G n m b lv st' Q) Q)
 | .cond c a b,lv,st,Q=>mZ (eO G st.env.get c) (bp P G n m a lv st Q) (bp P G n m b lv st Q)
 | .block id c,lv,st,Q=>bp P G n m c lv st (dY id Q)
 | .loop c,_,st,Q=>JR G m (fun lv st Q=>bp P G n m c lv st Q) st Q
 | .exit id,_,st,Q=>Q (.exit id) st
 | .ret,_,st,Q=>Q .ret st
 | .label _,_,st,Q=>Q .normal st
 | .scope c,lv,st,Q=>bp P G n m c lv st (kG Q)
 | _,_,_,_=>False
section
variable {P:Program} {G:Gl} {n m:Nat}
def gW (P:Program) (G:Gl) (n m:Nat) (c:Code) (st:St) (Q:Exit→St→Prop):Prop:= ∀fr,(fr=none∨oS c=true) → ∀(C:uP) a w,C.n=n→C.nx=m→qD C G st a w →
 ∀(b:Frame) (kk:List Item) (cs:List Frame),b.roundOf=(Fr fr).round→(Fr fr).fn b.fn→(Fr fr).room (cs.length+1+0) →
   ∃e a' w',(∃st',Q e st'∧qD C G st' a' w')∧ArrivesIn (Machine.fenced P (Fr fr)) P (lone (b.atR a (.code c :: .inLoop c::kk)) cs w) b kk cs e a' w'
theorem gW.loop {c:Code} {st:St} {Q:Exit→St→Prop} (h:gW P G n m c st Q):lM P G n m c st Q:=by
 intro fr hfr C a w hn hm hrel b kk cs hro hb hroom;obtain ⟨e,a',w',hq,harr⟩:=h fr hfr C a w hn hm hrel b kk cs hro hb hroom;exact ⟨e,a',w',hq,.of_steps (.one (fenced_calm hb hroom rfl) stepR_loop) harr⟩
theorem gW.via {c:Code} {st:St} {Q:Exit→St→Prop} (h:aC G m (fun s=>gW P G n m c s Q) st):gW P G n m c st Q:=by
 obtain ⟨s,h1,h2⟩:=h;exact fun fr hfr C a w hn hm hr=>h2 fr hfr C a w hn hm (h1 C a w hm hr)
theorem gW.round (ho:P.follows .mixedOrders=true) {c:Code} (hok:aS n c=true) {lv:List Nat} {st:St} {Q:Exit→St→Prop} (h:bJ P G n m lv c st (ge (fun s=>gW P G n m c s Q) Q)):gW P G n m c st Q:=by
 intro fr hfr C a w hn hm hr b kk cs hro hb hroom;obtain ⟨e,a',w',⟨st',hq,hr2⟩,harr⟩:=d9 ho c st _ hok h fr hfr C a w hn hm hr b (.inLoop c::kk) cs hro hb hroom;cases e with
 | normal=>
  obtain ⟨e2,a2,w2,hq2,harr2⟩:=hq fr hfr C a' w' hn hm hr2 b kk cs hro hb hroom;exact ⟨e2,a2,w2,hq2,.of_steps (StepsIn.trans harr (.one (fenced_calm hb hroom rfl) stepR_inLoop)) harr2⟩
 | exit id=>exact ⟨_,a',w',⟨st',hq,hr2⟩,.pass (x:= .inLoop c) rfl (fun _ _=> .inl (by simp)) harr⟩
 | goto l=>exact ⟨_,a',w',⟨st',hq,hr2⟩,.pass (x:= .inLoop c) rfl (fun _ _=> .inl (by simp)) harr⟩
 | ret=>exact ⟨_,a',w',⟨st',hq,hr2⟩,.pass (x:= .inLoop c) rfl (fun _ _=> .inl (by simp)) harr⟩
 | panic ch=>exact ⟨_,a',w',⟨st',hq,hr2⟩,.pass (x:= .inLoop c) rfl (fun _ _=> .inl (by simp)) harr⟩
 | outgrown=>exact ⟨_,a',w',⟨st',hq,hr2⟩,.pass (x:= .inLoop c) rfl (fun _ _=> .inl (by simp)) harr⟩
theorem pg {k k':St→Prop} {Q Q':Exit→St→Prop} (hk : ∀s,k s→k' s) (hq : ∀e s,Q e s→Q' e s) : ∀e s,ge k Q e s→ge k' Q' e s:=by
 intro e s h;cases e<;>first|exact hk _ h|exact hq _ _ h
theorem AQ {id:Nat} {Q Q':Exit→St→Prop} (hq : ∀e s,Q e s→Q' e s) : ∀e s,dY id Q e s→dY id Q' e s:=by
 intro e s h;cases e with
 | exit i=>
  simp only [dY] at h ⊢;split
  ·rename_i hi;rw [aa3 hi] at h;exact hq _ _ h
  ·rename_i hi;rw [aaY hi] at h;exact hq _ _ h
 | _=>exact hq _ _ h
theorem CE {Q Q':Exit→St→Prop} (hq : ∀e s,Q e s→Q' e s) : ∀e s,kG Q e s→kG Q' e s:=by
 intro e s h;cases e<;>first|exact h.elim|exact hq _ _ h
theorem dZ : ∀(c:Code) {lv:List Nat} {st:St} {Q Q':Exit→St→Prop},(∀e s,Q e s→Q' e s)→bp P G n m c lv st Q→bp P G n m c lv st Q':=by
 intro c;induction c with
 | skip=>intro lv st Q Q' hq h;exact hq _ _ h
 | exit id=>intro lv st Q Q' hq h;exact hq _ _ h
 | ret=>intro lv st Q Q' hq h;exact hq _ _ h
 | label l=>intro lv st Q Q' hq h;exact hq _ _ h
 | region id ops draw=>
  intro lv st Q Q' hq h;obtain ⟨x,hx,hall⟩:=Pt.gh G m (fun s=>Pt.reg (P:=P) (G:=G) lv ops draw s) st _ h;exact hall _ (hq _ _ hx)
 | seq a b iha ihb=>intro lv st Q Q' hq h;exact iha (pg (fun s hs=>ihb hq hs) hq) h
 | cond c a b iha ihb=>
  intro lv st Q Q' hq h;simp only [bp,mZ] at h ⊢;unfold rA at h ⊢;split
  ·rename_i t hb;rw [hb] at h;exact ⟨fun e=>iha hq (h.1 e),fun e=>ihb hq (h.2 e)⟩
  ·rename_i hb;split at h
   ·rename_i t hb';exact (hb t hb').elim
   ·exact h.elim
 | block id c ih=>intro lv st Q Q' hq h;exact ih (AQ hq) h
 | scope c ih=>intro lv st Q Q' hq h;exact ih (CE hq) h
 | loop c ih=>
  intro lv st Q Q' hq h;obtain ⟨α,S,pre,mu,x0,lv',h1,h2,h3⟩:=h;exact ⟨α,S,pre,mu,x0,lv',h1,h2,fun x hx=>ih (pg (fun _ h=>h) hq) (h3 x hx)⟩
 | _=>intro lv st Q Q' hq h;exact h.elim
theorem Kp (ho:P.follows .mixedOrders=true) {ρ:Type} : ∀(c:Code) {lv:List Nat} {st:St} {Q:ρ→Exit→St→Prop},aS n c=true→bp P G n m c lv st (fun e s=> ∃r,Q r e s) → ∃r,bJ P G n m lv c st (Q r):=by
 intro c;induction c with
 | skip=>intro lv st Q _ h;exact h
 | exit id=>intro lv st Q _ h;exact h
 | ret=>intro lv st Q _ h;exact h
 | label l=>intro lv st Q _ h;exact h
 | region id ops draw=>
  intro lv st Q _ h;obtain ⟨x,⟨r,hx⟩,hall⟩:=Pt.gh G m (fun s=>Pt.reg (P:=P) (G:=G) lv ops draw s) st (fun st'=> ∃r,Q r .normal st') h;exact ⟨r,hall (fun st'=>Q r .normal st') hx⟩
 | seq a b iha ihb=>
  intro lv st Q hok h;simp only [aS,aa8] at hok;refine iha (Q:=fun r=>ge (fun st'=>bJ P G n m lv b st' (Q r)) (Q r)) hok.1 (dZ a ?_ h);intro e s hs;cases e<;>first|exact ihb hok.2 hs|exact hs
 | cond c a b iha ihb=>
  intro lv st Q hok h;simp only [aS,aa8] at hok;simp only [bp,mZ] at h;simp only [bJ,mZ];unfold rA at h;split at h
  ·rename_i t hb;rw [hb];cases t with
   | true=>obtain ⟨r,hr⟩:=iha hok.1 (h.1 rfl);exact ⟨r,⟨fun _=>hr,fun e=>by cases e⟩⟩
   | false=>obtain ⟨r,hr⟩:=ihb hok.2 (h.2 rfl);exact ⟨r,⟨fun e=>(by cases e),fun _=>hr⟩⟩
  ·exact h.elim
 | block id c ih=>
  intro lv st Q hok h;refine ih (Q:=fun r=>dY id (Q r)) hok (dZ c ?_ h);intro e s hs;cases e with
  | exit i=>
   simp only [dY] at hs ⊢;split
   ·rename_i hi;rw [aa3 hi] at hs;exact hs
   ·rename_i hi;rw [aaY hi] at hs;exact hs
  | _=>exact hs
 | scope c ih=>
  intro lv st Q hok h;refine ih (Q:=fun r=>kG (Q r)) hok (dZ c ?_ h);intro e s hs;cases e<;>first|exact hs.elim|exact hs
 | loop c ih=>
  intro lv st Q hok h;have hok:aS n c=true:=hok;obtain ⟨α,S,pre,mu,x0,lv',h1,h2,h3⟩:=h;have key : ∀k x,mu x=k→pre x → ∃r,gW P G n m c (S x) (Q r):=by
   intro k;induction k using Nat.strongRecOn with
   | _ k ihk=>
    intro x hk hx;obtain ⟨r,hr⟩:=ih (Q:=fun r=>ge (fun s=>gW P G n m c s (Q r)) (Q r)) hok (dZ c (fun e s hs=>by
     cases e with
     | normal=>
      obtain ⟨s',hle,j,hlt,y,hy,rfl,hpy⟩:=hs;obtain ⟨r,hr⟩:=ihk j (by omega) y hy hpy;exact ⟨r,gW.via ⟨_,hle,hr⟩⟩
     | _=>exact hs) (h3 x hx))
    exact ⟨r,gW.round ho hok hr⟩
  obtain ⟨r,hr⟩:=key _ x0 rfl h2;obtain ⟨s,hle,rfl⟩:=h1;exact ⟨r,gW.loop (gW.via ⟨_,hle,hr⟩)⟩
 | _=>intro lv st Q _ h;exact h.elim
def a7 (P:Program) (G:Gl) (m:Nat) (rs:List ResultVar) {ρ:Type} (R:ρ→Prop) (r:ρ→V) (σ':ρ→ak) (st:St) (_u:Tag R:= .mk) (_v:Tag r:= .mk) (_w:Tag σ':= .mk) (_h:True:=trivial):Prop:= ∃x,R x∧ae P G m rs (r x) (σ' x) st
theorem a7.is {rs:List ResultVar} {ρ:Type} {R:ρ→Prop} {r:ρ→V} {σ':ρ→ak} {st:St} (x:ρ) (hx:R x) (h:ae P G m rs (r x) (σ' x) st):a7 P G m rs R r σ' st:=⟨x,hx,h⟩
theorem ap.ex (ho:P.follows .mixedOrders=true) {f:Nat} {fn:Func} {c:Code} {rs:List ResultVar} (lv:List Nat) (hf:P.funcs[f]? = some fn) (hb:fn.body=some c) (hrs:fn.results=rs.toArray) (hn:fn.ntmps=n)
 {args:List V} {σ:ak} {ρ:Type} {R:ρ→Prop} {r:ρ→V} {σ':ρ→ak} (h:bp P G n m c lv ⟨gV 0 args,σ,m⟩ (Cv (a7 P G m rs R r σ'))) (hok:aS n c=true) (hlen:args.length≤n) : ∃x,R x∧ap P G f args σ m (r x) (σ' x):=by
 obtain ⟨⟨x,hx⟩,hr⟩:=Kp ho (ρ :={ x // R x }) (Q:=fun x=>Cv (ae P G m rs (r x.1) (σ' x.1))) c hok (dZ c (fun e s hs=>by
  cases e<;>first|exact hs.elim|exact (match hs with|⟨x,h1,h2⟩=>⟨⟨x,h1⟩,h2⟩)) h)
 exact ⟨x,hx,ap.of_code ho lv hf hb hrs hn hok hlen hr⟩
def mf:Code→Bool
 | .region _ _ _=>true
 | .seq a _=>mf a
 | .block _ c=>mf c
 | .loop _=>true
 | .scope c=>mf c
 | _=>false
theorem Hw {st st':St} (hle:cH G m st st') : ∀(c:Code) {lv:List Nat} {Q:Exit→St→Prop},mf c=true→bp P G n m c lv st' Q→bp P G n m c lv st Q:=by
 intro c;induction c with
 | region id ops draw=>intro lv Q _ h;exact aC.via hle h
 | seq a b iha _=>intro lv Q hc h;exact iha hc h
 | block id c ih=>intro lv Q hc h;exact ih hc h
 | scope c ih=>intro lv Q hc h;exact ih hc h
 | loop c _=>
  intro lv Q _ h;obtain ⟨α,S,pre,mu,x0,lv',h1,h2,h3⟩:=h;exact ⟨α,S,pre,mu,x0,lv',aC.via hle h1,h2,h3⟩
 | _=>intro lv Q hc h;cases hc
def dI (G:Gl) (m:Nat) {β:Type} (T:β→St) (post:β→Prop) (st:St) (_u:Tag T:= .mk) (_v:Tag post:= .mk) (_h:True:=trivial):Prop:=aC G m (fun st'=> ∃y,st'=T y∧post y) st
theorem dI.go {β:Type} {T:β→St} {post:β→Prop} {st:St} (y:β) (ks:List Nat) (he:st.norm m ks=T y) (hp:post y):dI G m T post st:=aC.go ks he ⟨y,rfl,hp⟩
theorem dI.frz {β:Type} {T:β→St} {post:β→Prop} {st:St} (id:Nat) (h:dI G m T post (st.frz id)):dI G m T post st:=aC.frz id h
theorem dI.use {β:Type} {T:β→St} {post:β→Prop} {st:St} {c:Code} {lv:List Nat} {Q:Exit→St→Prop} (hc:mf c=true) (h:dI G m T post st) (hq : ∀y,post y→bp P G n m c lv (T y) Q):bp P G n m c lv st Q:=by
 obtain ⟨st',hle,y,rfl,hy⟩:=h;exact Hw hle c hc (hq y hy)
theorem xS {c rest:Code} {st:St} {Q Q':Exit→St→Prop} {α β:Type} {lv':List Nat} (lv:List Nat) (ex:Nat) (S:α→St) (pre:α→Prop) (mu:α→Nat) (x0:α) (T:β→St) (post:β→Prop) (h0:aC G m (fun st'=>st'=S x0) st) (hp:pre x0)
 (hr : ∀x,pre x→bp P G n m c lv (S x) (ge (fun st=>aG G m S pre mu x st) (dY ex (ge (fun st=>dI G m T post st) Q)))) (hq : ∀y,post y→bp P G n m rest lv' (T y) Q')
 (hQ : ∀st,bp P G n m rest lv' st Q'→Q (.exit ex) st) (hd:mf rest=true):JR G m (fun lv st Q=>bp P G n m c lv st Q) st Q:=by
 refine ⟨α,S,pre,mu,x0,lv,h0,hp,fun x hx=>dZ c ?_ (hr x hx)⟩;intro e s h;cases e with
 | normal=>exact h
 | exit i=>
  have h2:dY ex (ge (fun st=>dI G m T post st) Q) (.exit i) s:=h;show Q (.exit i) s;clear h;simp only [dY] at h2;split at h2
  ·rename_i hi;subst hi;exact hQ s (dI.use hd h2 hq)
  ·exact h2
 | _=>exact h
def Qg (K:St→Prop) (st:St) (_u:Tag K:= .mk) (_h:True:=trivial):Prop:=K st
theorem vH {K:St→Prop} {st:St} (h:K st):Qg K st:=h
theorem QP {a b:Code} {lv:List Nat} {st:St} {Q:Exit→St→Prop} (h:bp P G n m a lv st (ge (fun st'=>Qg (fun st'=>bp P G n m b lv st' Q) st') Q)):bp P G n m (.seq a b) lv st Q:=h
theorem vBl {id:Nat} {c:Code} {lv:List Nat} {st:St} {Q:Exit→St→Prop} (h:bp P G n m c lv st (dY id Q)):bp P G n m (.block id c) lv st Q:=h
theorem QQ {a b:Code} {lv:List Nat} {st:St} {Q:Exit→St→Prop} {β:Type} (T:β→St) (post:β→Prop) (h:bp P G n m a lv st (ge (fun st=>dI G m T post st) Q)) (hq : ∀y,post y→bp P G n m b lv (T y) Q) (hd:mf b=true:=by rfl):bp P G n m (.seq a b) lv st Q:=
 dZ a (pg (fun _ h=>dI.use hd h hq) fun _ _ h=>h) h
end
def RR :=@And.intro _ _ @BW <| @And.intro _ _ @J9 <| @And.intro _ _ @Hf <| @And.intro _ _ @HN <| @And.intro _ _ @HM <| @And.intro _ _ @rD <| @And.intro _ _ @ou <| @And.intro _ _ @IH <| @And.intro _ _ @KK <| @And.intro _ _ @KJ <| @And.intro _ _ @Ob <| @And.intro _ _ @Hc <| @And.intro _ _ @K5 <| @And.intro _ _ @HZ <| @And.intro _ _ @Hx <| @And.intro _ _ @IL <| @And.intro _ _ @DL <| @And.intro _ _ @Hr <| @And.intro _ _ @rG <| @And.intro _ _ @DN <| @And.intro _ _ @Mf <| @And.intro _ _ @Ek <| @And.intro _ _ @CF <| @And.intro _ _ @Jb <| @And.intro _ _ @Mt <| @And.intro _ _ @uX <| @And.intro _ _ @DH <| @And.intro _ _ @AP <| @And.intro _ _ @ve <| @And.intro _ _ @CD <| @And.intro _ _ @E6 <| @And.intro _ _ @Cw <| @And.intro _ _ @Ma <| @And.intro _ _ @BO <| @And.intro _ _ @BQ <| @And.intro _ _ @BP <| @And.intro _ _ @iQ.eq_1 <| @And.intro _ _ @Oh <| @And.intro _ _ @HR <| @And.intro _ _ @KQ <| @And.intro _ _ @D7 <| @And.intro _ _ @D8 <| @And.intro _ _ @Bs <| @And.intro _ _ @bJ.eq_1 <| @And.intro _ _ @bJ.eq_2 <| @And.intro _ _ @bJ.eq_3 <| @And.intro _ _ @bJ.eq_4 <| @And.intro _ _ @bJ.eq_5 <| @And.intro _ _ @bJ.eq_6 <| @And.intro _ _ @bJ.eq_7 <| @And.intro _ _ @bJ.eq_8 <| @And.intro _ _ @bJ.eq_9 <| @And.intro _ _ @bJ.eq_10 <| @And.intro _ _ @bp.eq_1 <| @And.intro _ _ @bp.eq_2 <| @And.intro _ _ @bp.eq_3 <| @And.intro _ _ @bp.eq_4 <| @And.intro _ _ @bp.eq_5 <| @And.intro _ _ @bp.eq_6 <| @And.intro _ _ @bp.eq_7 <| @And.intro _ _ @bp.eq_8 <| @And.intro _ _ @bp.eq_9 <| @And.intro _ _ @bp.eq_10 <| @And.intro _ _ @E0 <| @And.intro _ _ @LV <| @And.intro _ _ @IF <| @And.intro _ _ @LT <| @And.intro _ _ @ID <| @And.intro _ _ @L1 <| @And.intro _ _ @IN @Dl
def SS :=@And.intro _ _ @uh <| @And.intro _ _ @nZ <| @And.intro _ _ @qd <| @And.intro _ _ @uk <| @And.intro _ _ @jP <| @And.intro _ _ @qe <| @And.intro _ _ @uf <| @And.intro _ _ @uj <| @And.intro _ _ @xL <| @And.intro _ _ @jQ <| @And.intro _ _ @pZ <| @And.intro _ _ @lU <| @And.intro _ _ @nH <| @And.intro _ _ @p9 <| @And.intro _ _ @i7 <| @And.intro _ _ @nJ <| @And.intro _ _ @pY <| @And.intro _ _ @p8 <| @And.intro _ _ @tn <| @i8
theorem pi (k t:Nat) (b:bN) (r:ak):ak.get ((k,b)::r) t=if k=t then some b else ak.get r t:=by rw [ak.get]
def W6 :=@And.intro _ _ @Tv <| @And.intro _ _ @wu64 <| @And.intro _ _ @K7 @OC
theorem w32 (n:Int) (h1 : -2147483648≤n) (h2:n≤2147483647):IntKind.i32.wrap n=n:=by
 rw [IntKind.wrap_i32];omega
theorem wu8 (n:Int) (h1:0≤n) (h2:n≤255):IntKind.u8.wrap n=n:=by
 rw [IntKind.wrap_u8];omega
theorem ML (a b:Int) (h:0≤a):a.tdiv b=a / b:=Int.tdiv_eq_ediv_of_nonneg h
theorem WI (a b:Int) (h:0≤a):a.tmod b=a % b:=Int.tmod_eq_emod_of_nonneg h
def W3 :=@And.intro _ _ @W6 <| @And.intro _ _ @w32 <| @And.intro _ _ @wu8 <| @And.intro _ _ @ML @WI
instance lE.cond {a b c:Bool} {p q r p' q' r':Prop} [h:lE a p p'] [k:lE b q q'] [l:lE c r r']:lE (cond a b c) ((p∧q)∨(p'∧r)) (¬((p∧q)∨(p'∧r))):=lE.mk' (by rw [←h.says,←h.nots,←k.says,←l.says];cases a<;>simp)
theorem vR {p q:Prop} (h:q) (e:p=q:=by simp -implicitDefEqProofs -dsimp only [push_cast,↓RR,↓SS,↓pi,↓reduceIte,Nat.reduceMul,Nat.reduceAdd,Nat.reduceSub,Nat.reduceEqDiff,Nat.reduceBeqDiff,Nat.reduceLeDiff,Nat.reduceLT,reduceCtorEq,Int.reduceToNat];exact rfl):p:=e▸h
theorem v6 {p q:Prop} (h:q) (e:p=q:=by simp -implicitDefEqProofs -dsimp (disch:=omega) only [W6];exact rfl):p:=e▸h
theorem v3 {p q:Prop} (h:q) (e:p=q:=by simp -implicitDefEqProofs -dsimp (disch:=omega) only [W3];exact rfl):p:=e▸h
theorem vD {P:Program} {G:Gl} {m:Nat} {lv:List Nat} {ops:Array Oper} {K:St→Prop} {st:St} (h:s6 P G ops st.nx 0 ops.toList st.env st.sg [] fun e σ=>u9 K ⟨aO.keep lv e,σ,st.nx+4*ops.size⟩) (hd:cI [] ops=true:=by decide +kernel):aC G m (kA P G lv ops true K) st:=aC.dr hd h
theorem vG {G:Gl} {m:Nat} {K:St→Prop} {st:St} (h:K st):aC G m K st:=aC.now h
theorem vE {K:St→Prop} {st:St} (h:K st):u9 K st:=h
theorem vN {p q:Prop} (h2:q) (h1:p:=by first|omega|(simp [jg,JQ,fU,V.cellOk,Value.oneCell',D.cells,oM];done)|(simp [jg,JQ,fU,V.cellOk,Value.oneCell',D.cells,oM];omega)):pT p q:=⟨h1,h2⟩
theorem vB {b:Bool} {p p':Prop} [h:lE b p p'] {q r:Prop} (h1:p→q) (h2:p'→r):jT b q r:=jT.of h1 h2
theorem vM {b:Bool} {p p':Prop} [h:lE b p p'] {q r:Prop} (h1:p→q) (h2:p'→r):pI b q r:=pI.of h1 h2
section
variable {P:Program} {G:Gl}
theorem vC {f:Nat} {args:List V} {σ:ak} {id:Nat} {K:V→ak→Prop} {r:V} (h:ap P G f args [] 0 r []) (hK:K r σ) (he:cK P f=true:=by kernel_rfl) (ha:args.map (V.sel (fw []))=args:=by with_unfolding_all rfl) (hr:r.sel (bk [] id)=r:=by with_unfolding_all rfl):au P G f args σ id K:=au.d h he ha hr hK
theorem vQ {lo:List Nat} {ops:Array Oper} {i f:Nat} {args:List V} {σ acc:ak} {id:Nat} {K L:V→ak→Prop} {r:V} (h:ap P G f args [] 0 r []) (hK:K r []) (he:cK P f=true:=by kernel_rfl) (ha:args.map (V.sel (fw []))=args:=by with_unfolding_all rfl) (hr:r.sel (bk [] id)=r:=by with_unfolding_all rfl):eW P G lo ops i f args σ acc id K L:=eW.d h he ha hr hK
class Qd (p:Prop) (P:outParam Program) (G:outParam Gl) (f:outParam Nat) (args:outParam (List V)) (id:outParam Nat) (K:outParam (V→Prop)):Prop where
 of : ∀r,ap P G f args [] 0 r []→cK P f=true→args.map (V.sel (fw []))=args→r.sel (bk [] id)=r→K r→p
instance {f:Nat} {args:List V} {σ:ak} {id:Nat} {K:V→ak→Prop} : Qd (au P G f args σ id K) P G f args id (fun r=>K r σ):=⟨fun _ h he ha hr hK=>au.d h he ha hr hK⟩
instance {lo:List Nat} {ops:Array Oper} {i f:Nat} {args:List V} {σ acc:ak} {id:Nat} {K L:V→ak→Prop} : Qd (eW P G lo ops i f args σ acc id K L) P G f args id (fun r=>K r []):=⟨fun _ h he ha hr hK=>eW.d h he ha hr hK⟩
theorem vY (ho:P.follows .mixedOrders=true) (lv:List Nat) {i:Nat} {args:List V} {σ:ak} {id:Nat} {K:V→ak→Prop} {y:Yd} {e:aO} (v:V) (σ':ak)
 (h:bJ P G y.n id lv y.asg ⟨ka y.ps.toList (args.map (V.sel (jV id))) (e.sel (jV id)),(σ.del i).sel (jV id),id⟩ (ge (fun st=>bJ P G y.n id lv y.body st (Pj G σ id i y e v σ')) (fun _ _=>False))) (hK:K v σ') (hg:σ.get i=some (.rc y none e):=by rfl) (hi:i<id:=by decide) (hps:y.ps.toList.all (fun p=>decide (p<y.n))=true:=by kernel_rfl) (hl:args.length=y.ps.size:=by rfl)
 (hn1:oS y.asg=true:=by kernel_rfl) (hn2:oS y.body=true:=by kernel_rfl) (ho1:aS y.n y.asg=true:=by kernel_rfl) (ho2:aS y.n y.body=true:=by kernel_rfl):im P G i args σ id K:=
 im.of ho lv hg hi hps hl hn1 hn2 ho1 ho2 h hK
theorem vRn (ho:P.follows .mixedOrders=true) {n m:Nat} {g:Operand} {ps:Array Nat} {asg body:Code} {st:St} {Q:Exit→St→Prop} {k:Nat} {caps:List V} {fn:Func} {c:Code} (lv:List Nat) (hf:P.funcs[k]? = some fn) (hb:fn.body=some c)
 (h:bJ P G fn.ntmps (st.nx+1) lv c ⟨gV 0 (.yl st.nx::caps),(st.nx,.rc ⟨n,ps,asg,body⟩ none st.env)::st.sg,st.nx+1⟩ (UG G st Q)) (hg:eO G st.env.get g = .fn k caps:=by rfl) (he:cK P k=true:=by kernel_rfl) (hrs:fn.results = #[]:=by rfl) (hlen:caps.length+1≤fn.ntmps:=by decide) (hok:aS fn.ntmps c=true:=by kernel_rfl):oj P G n m g ps asg body st Q:=
 tz (fun _ _ _ _ hd=>wG (hg▸hd)) he hf hb hrs hlen (d9 ho c _ _ hok h)
theorem vF (ho:P.follows .mixedOrders=true) {f:Nat} {fn:Func} {c:Code} {rs:List ResultVar} {n:Nat} (lv:List Nat) (hf:P.funcs[f]? = some fn) (hb:fn.body=some c) (hrs:fn.results=rs.toArray) (hn:fn.ntmps=n)
 {args:List V} {σ:ak} {m:Nat} {r:V} {σ':ak} (h:bJ P G n m lv c ⟨gV 0 args,σ,m⟩ (Cv (ae P G m rs r σ'))) (hok:aS n c=true:=by kernel_rfl) (hlen:args.length≤n:=by simp):ap P G f args σ m r σ':=ap.of_code ho lv hf hb hrs hn hok hlen h
theorem vL {n m:Nat} {lv:List Nat} (ho:P.follows .mixedOrders=true) {c:Code} {st:St} {Q:Exit→St→Prop} {α:Type} (S:α→St) (pre:α→Prop) (mu:α→Nat) (x0:α) (h0:aC G m (fun st'=>st'=S x0) st) (hp:pre x0)
 (hr : ∀x,pre x→bJ P G n m lv c (S x) (ge (fun st=>aG G m S pre mu x st) Q)) (hok:aS n c=true:=by kernel_rfl):lM P G n m c st Q:=Lz ho hok S pre mu x0 h0 hp hr
theorem uL (ho:P.follows .mixedOrders=true) {f:Nat} {fn:Func} {c:Code} {rs:List ResultVar} {n:Nat} (lv:List Nat) (hf:P.funcs[f]? = some fn) (hb:fn.body=some c) (hrs:fn.results=rs.toArray) (hn:fn.ntmps=n)
 {args:List V} {σ:ak} {m:Nat} {ρ:Type} {R:ρ→Prop} {r:ρ→V} {σ':ρ→ak} (h:bp P G n m c lv ⟨gV 0 args,σ,m⟩ (Cv (a7 P G m rs R r σ'))) (hok:aS n c=true:=by kernel_rfl) (hlen:args.length≤n:=by simp) : ∃x,R x∧ap P G f args σ m (r x) (σ' x):=ap.ex ho lv hf hb hrs hn h hok hlen
theorem uQ {n m:Nat} {c:Code} {st:St} {Q:Exit→St→Prop} {α:Type} (lv:List Nat) (S:α→St) (pre:α→Prop) (mu:α→Nat) (x0:α) (h0:aC G m (fun st'=>st'=S x0) st) (hp:pre x0)
 (hr : ∀x,pre x→bp P G n m c lv (S x) (ge (fun st=>aG G m S pre mu x st) Q)):JR G m (fun lv st Q=>bp P G n m c lv st Q) st Q:=⟨α,S,pre,mu,x0,lv,h0,hp,hr⟩
end
theorem vS {α:Sort _} {a b:α} (h:a=b:=by first|rfl|(refine vR ?_;first|done|exact True.intro|rfl|(refine v6 ?_;first|exact True.intro|(refine vR ?_;exact True.intro))|((try refine v6 ?_);simp only [St.mk.injEq,ab7,abl,V.d.injEq,D.lit.injEq,Value.int.injEq,true_and,adc];omega))):a=b:=h
theorem vT {α:Sort _} {a b:α} (h:a=b:=by (refine vR ?_;first|done|exact True.intro|rfl|(refine v6 ?_;first|exact True.intro|(refine vR ?_;exact True.intro))|((try refine v6 ?_);simp only [St.mk.injEq,ab7,abl,V.d.injEq,D.lit.injEq,Value.int.injEq,true_and,adc];omega))):a=b:=h
inductive iC {G:Prop} : G→Prop|i (h:G):iC h
structure iF (G:Prop):Prop where g:G
theorem je {G:Prop} (h:G) (_:iC h):iF G:=⟨h⟩
theorem zq {p:Prop} (h:p:=by (first|(with_reducible first|exact True.intro|refine vD ?_|refine vG ?_|refine vE ?_)|refine vR ?_|refine v6 ?_|with_reducible refine vN ?_|((with_reducible first|refine vB (fun h =>?_) (fun h =>?_)|refine vM (fun h =>?_) (fun h =>?_))<;>(first|(exfalso;omega)|skip)));all_goals (repeat' (first|(with_reducible first|exact True.intro|refine vD ?_|refine vG ?_|refine vE ?_)|refine vR ?_|refine v6 ?_|with_reducible refine vN ?_|((with_reducible first|refine vB (fun h =>?_) (fun h =>?_)|refine vM (fun h =>?_) (fun h =>?_))<;>(first|(exfalso;omega)|skip))));all_goals (refine iF.g ?_;apply_rules (newGoals:= .nonDependentOnly) only [je,iC.i])):p:=h
theorem cP {p:Prop} (h:p:=by (first|(with_reducible first|exact True.intro|refine vD ?_|refine vG ?_|refine vE ?_)|refine vR ?_|refine v3 ?_|with_reducible refine vN ?_|((with_reducible first|refine vB (fun h =>?_) (fun h =>?_)|refine vM (fun h =>?_) (fun h =>?_))<;>(first|(exfalso;omega)|skip)));all_goals (repeat' (first|(with_reducible first|exact True.intro|refine vD ?_|refine vG ?_|refine vE ?_)|refine vR ?_|refine v3 ?_|with_reducible refine vN ?_|((with_reducible first|refine vB (fun h =>?_) (fun h =>?_)|refine vM (fun h =>?_) (fun h =>?_))<;>(first|(exfalso;omega)|skip))));all_goals (refine iF.g ?_;apply_rules (newGoals:= .nonDependentOnly) only [je,iC.i])):p:=h
end Go.Proofs.YtkkanlcjjpoklaaGreatDoor
