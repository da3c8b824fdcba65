/- What the theorem leans on, part 2. -/
import Derived.Laws.Externs
import Derived.RangeFuncLeaves
import Derived.RangeFuncRecord
import Derived.OrdersIn
import Derived.Orders
import Derived.Scope
import Derived.IntWalk
import Derived.ChangeKeysEq
import Derived.Test.YtkkanlcjjpoklaaGreatDoorSpTPAA
set_option linter.unusedSimpArgs false
namespace Go.Proofs.YtkkanlcjjpoklaaGreatDoor
def uv (s:ByteArray) (c:UInt8):Nat:=s.data.toList.countP (· == c)
theorem Ba (s:ByteArray) (c:UInt8):s.foldl (fun n x=>if (x==c)=true then n+1 else n) (0:Int)=(uv s c:Int):=by
 unfold ByteArray.foldl ByteArray.foldlM;simp only [Nat.le_refl,dite_true];have key : ∀(i j:Nat) (b:Int),i+j=s.size→_root_.Id.run (ByteArray.foldlM.loop (m:=_root_.Id) (fun (n:Int) x=>pure (if (x==c)=true then n+1 else n)) s s.size (Nat.le_refl _) i j b)=b+((s.data.toList.drop j).countP (· == c):Nat):=by
  intro i;induction i with
  | zero=>
   intro j b h;unfold ByteArray.foldlM.loop;have:s.data.toList.drop j=[]:=List.drop_eq_nil_of_le (by have:s.data.size=s.size:=rfl;simp;omega);rw [this];simp
  | succ i ih=>
   intro j b h;unfold ByteArray.foldlM.loop;have hlt:j<s.size:=by omega
   rw [dif_pos hlt];simp only [pure_bind];have e:s.data.toList.drop j=s[j]::s.data.toList.drop (j+1):=by
    rw [List.drop_eq_getElem_cons (by have:s.data.size=s.size:=rfl;simp;omega)];rfl
   have h2:=ih (j+1) (if (s[j]==c)=true then b+1 else b) (by omega);refine h2.trans ?_;rw [e,List.countP_cons];split<;>simp_all<;>omega
 have:=key s.size 0 0 (by omega);simpa [uv] using this
theorem lO {P:Program} (s:ByteArray) (c:Int) (w:World) :
 (Extern.BytealgCount.count #[.string s,.int .u8 c]).run P w = .ok (.int .i64 (uv s c.toNat.toUInt8)) w:=by
 rw [←Ba];change Sem.run P (do
  let b ←Extern.Bytes.bytesOf (.string s)
  let c ←Extern.Bytes.asByte (.int .u8 c)
  pure (goInt (b.foldl (fun n x=>if x==c then n+1 else n) (0:Nat)))) w=_
 simp only [Extern.Bytes.bytesOf,Extern.Bytes.asByte,Sem.run_bind,Sem.run_pure,Result.andThen,goInt];rfl
abbrev Gl:=Nat→Option D
def di (G:Gl) (F:Nat→V):Operand→V
 | .tmp t=>F t
 | .const v=> .d (.lit v)
 | .global g=>match G g with
  | some x=> .d x
  | none=> .unk
 | .func f=> .d (.fn f [])
def An (G:Gl) (w:World) (I:Nat→Prop):Prop:= ∀g x,G g=some x→ai w I x (.pointer (some ⟨g,0,none⟩))
def bU (w:World) (I:Nat→Prop) (β:bA) (args:List V) (vals:List Value):Prop:=args.length=vals.length ∧ ∀(i:Nat) c x,args[i]? = some c→vals[i]? = some x→ax w I β c x
def qg (P:Program) (G:Gl) (f:Nat) (args:List V) (σ:ae) (id:Nat) (v:V) (σ':ae):Prop:=
 ∀w I β nx vals,b4 w I β σ nx→An G w I→(∀j,id≤j→j<id+4→β j=none)→id+4≤nx→bU w I β args vals →
  Calls P f vals.toArray w fun e w'=> ∃u I' β',e = .returned u∧ax w' I' β' v u∧aj w I β σ nx w' I' β' σ' nx ∧ ∀j,¬(id≤j∧j<id+4)→β' j=β j
def bN (P:Program) (f:Nat):Bool:=match P.funcs[f]? with
 | some fn=>fn.body.isSome && !(fn.name == "runtime.NumGoroutine")
 | none=>false
def ar (σ0 σ:ae):Prop:= ∀i b,σ0.get i=some b→σ.get i=some b
def KN (fn:Func) (args:List V):Option V:=
 if fn.name = "internal/abi.NoEscape" then (match args with
  | [x]=>some x
  | _=>none)
 else if fn.name = "internal/bytealg.IndexByteString" then (match args with
  | [.d (.lit (.string s)),.d (.lit (.int .u8 c))]=>some (.d (.lit (.int .i64 (firstIdx s c.toNat.toUInt8))))
  | _=>none)
 else if fn.name = "internal/bytealg.CountString" then (match args with
  | [.d (.lit (.string s)),.d (.lit (.int .u8 c))]=>some (.d (.lit (.int .i64 (uv s c.toNat.toUInt8))))
  | _=>none)
 else none
def od (P:Program) (f:Nat) (args:List V):Option V:=match P.funcs[f]? with
 | some fn=>if fn.body.isNone=true∧(Extern.findNext fn).isNone=true then KN fn args else none
 | none=>none
def aB (P:Program) (G:Gl) (f:Nat) (args:List V) (σ:ae) (id:Nat) (K:V→ae→Prop) (_u:Tag K:= .mk) (_h:True:=trivial):Prop:=
 ∃v σ',K v σ'∧(bN P f=true∧qg P G f args σ id v σ'∨od P f args=some v∧σ'=σ)
def ma (id:Nat) (new:ae):Prop:= ∀j b,new.get j=some b→id≤j∧j<id+4
def cJ (P:Program) (G:Gl) (f:Nat) (args:List V) (σ:ae) (id:Nat) (K:V→ae→Prop) (_u:Tag K:= .mk) (_h:True:=trivial):Prop:=
 ∃v new,K v new∧(bN P f=true∧(ma id new ∧ ∀σ',ar σ σ'→qg P G f args σ' id v (σ'++new))∨od P f args=some v∧new=[])
def jQ {α:Type} (_:α):Prop:=False
def d5 (op:Op) (r:iO) (K:V→ae→Prop):Prop:=match r with
 | some (p,v,s)=>mr p (K v s)
 | none=>jQ op
def a8 (v:V) (K:Nat→List V→Prop) (Y:Nat→Prop:=fun _=>False) (B:Nat→List V→Prop:=fun _ _=>False):Prop:=match v with
 | .d (.fn k caps)=>K k (caps.map .d)
 | .fn k caps=>K k caps
 | .yl i=>Y i
 | .d (.bf k fs)=>B k (fs.map .d)
 | _=>jQ v
def md (P:Program) (G:Gl) (i:Nat) (args:List V) (σ:ae) (id:Nat) (v:V) (σ':ae):Prop:=
 ∀w I β nx vals b cap,b4 w I β σ nx→An G w I→(∀j,id≤j→j<id+4→β j=none)→id+4≤nx→bU w I β args vals→β i=some (some (b,cap)) →
  ∃r,w.heap[b]? = some (.loop r)∧vals.length=r.params.size ∧
   RoundIn Fence.wide 0 P b r.fn ((r.params.zip vals.toArray).foldl (fun tmps (t,a)=>tmps.setIfInBounds t a) r.tmps) r.assign r.body w fun e w'=> ∃u I' β',e = .returned u∧ax w' I' β' v u∧aj w I β σ nx w' I' β' σ' nx ∧ ∀j,¬(id≤j∧j<id+4)→β' j=β j
def ff (P:Program) (G:Gl) (i:Nat) (args:List V) (σ:ae) (id:Nat) (K:V→ae→Prop) (_u:Tag K:= .mk) (_h:True:=trivial):Prop:=
 ∃v σ',K v σ'∧md P G i args σ id v σ'
def gD (c a b:V) (K:V→Prop):Prop:=match c with
 | .d (.lit (.bool t))=>gI t (K a) (K b)
 | _=>jQ c
def oF (b:bu) (K:ByteArray→Nat→Prop):Prop:=match b with
 | .iter s pos=>K s pos
 | _=>False
def ji (x:V) (σ:ae) (K:V→ae→Prop):Prop:=match x with
 | .it id=>bT (σ.get id) fun b=>oF b fun s pos=>
  gI (decide (pos<s.size)) (K (.tup [.d (.lit (.bool true)),.d (.lit (.int .i64 pos)),.d (.lit (.int .i32 (Utf8.decode s pos).1))]) (σ.set id (.iter s (pos+(Utf8.decode s pos).2)))) (K (.tup [.d (.lit (.bool false))]) σ)
 | _=>jQ x
def aW (P:Program) (op:Op) (g:Operand→V) (σ:ae) (id:Nat):iO:=match bD P op g with
 | some (p,v)=>some (p,v,[])
 | none=>aR P op g σ id
def cz (P:Program) (op:Op) (g:Operand→V) (σ:ae) (id:Nat):iO:=match aW P op g σ id with
 | some (p,v,new)=>some (p,v,σ++new)
 | none=>eR P op g σ id
def aH (P:Program) (G:Gl) (op:Op) (g:Operand→V) (σ:ae) (id:Nat) (K:V→ae→Prop):Prop:=
 match op with
 | .pick c a b=>gD (g c) (g a) (g b) (fun v=>K v [])
 | .load t x=>dp P t (g x) σ (fun v=>K v [])
 | .call c=>match c.callee with
  | .value f=>a8 (g f) (fun k caps=>cJ P G k (c.args.toList.map g++caps) σ id K) (fun _=>False) (fun k fs=>cJ P G k (fs++(c.args.toList.map g++[])) σ id K)
  | .builtin _=>d5 op (aW P op g σ id) K
  | .invoke _ _=>jQ op
 | op=>d5 op (aW P op g σ id) K
def Fd (r r2:iO) (σ:ae) (K:V→ae→Prop):Prop:=match r with
 | some (p,v,new)=>mr p (K v (σ++new))
 | none=>(match r2 with
  | some (p,v,s)=>mr p (K v s)
  | none=>False)
def aG (P:Program) (G:Gl) (op:Op) (g:Operand→V) (σ:ae) (id:Nat) (K:V→ae→Prop):Prop:=
 match op with
 | .pick c a b=>gD (g c) (g a) (g b) (fun v=>K v σ)
 | .load t x=>dp P t (g x) σ (fun v=>K v σ)
 | .next x isStr=>if isStr=true then ji (g x) σ K else jQ op
 | .call c=>match c.callee with
  | .value f=>a8 (g f) (fun k caps=>aB P G k (c.args.toList.map g++caps) σ id K) (fun i=>ff P G i (c.args.toList.map g) σ id K) (fun k fs=>aB P G k (fs++(c.args.toList.map g++[])) σ id K)
  | .builtin _=>d5 op (cz P op g σ id) K
  | .invoke _ _=>jQ op
 | .buildSlice t n parts=>Fd (aR P (.buildSlice t n parts) g σ id) (Nv P t n id (parts.toList.map fun p=>(p.1,g p.2)) σ) σ K
 | op=>d5 op (cz P op g σ id) K
def bI (P:Program) (o:Oper) (a:Act) (w:World) (R:Value→World→Prop):Prop:=
 match (execOp a.eval o).run P w with
 | .ok (.value u) w'=>R u w'
 | .ok .skip w'=>R undef w'
 | .ok (.enter f args) w'=>Calls P f args w' fun e w''=> ∃u,e = .returned u∧R u w''
 | .ok (.round l f tmps assign body) w'=>RoundIn Fence.wide 0 P l f tmps assign body w' fun e w''=> ∃u,e = .returned u∧R u w''
 | _=>False
def Fr (ρ:Option Nat):Fence :={ Fence.wide with round:=ρ }
theorem bI.op {P:Program} {o:Oper} {a:Act} {w:World} {R:Value→World→Prop} (h:bI P o a w R) : ∀c,o.op ≠ .defer c:=by
 intro c hc;unfold bI at h;simp only [execOp,hc,Sem.run_bind] at h;cases hr:(resolve a.eval c o.type).run P w with
 | halt x w'=>rw [hr] at h;exact h
 | ok d w'=>rw [hr] at h;exact h
theorem BR {n n':Nat} {P:Program} {l:Nat} {f:FuncId} {tmps:Array Value} {assign body:Code} {w:World} {R:Ending→World→Prop} {ρ:Option Nat} (h:RoundIn Fence.wide n P l f tmps assign body w R):RoundIn (Fr ρ) n' P l f tmps assign body w R:=
 ⟨trivial,fun c cs _=>h.2 c cs (room_wide _)⟩
theorem AJ {n:Nat} {P:Program} {f:FuncId} {args:Array Value} {w:World} {R:Ending→World→Prop} {ρ:Option Nat} (h:Calls P f args w R):CallsIn (Fr ρ) n P f args w R:=
 ⟨trivial,fun cs _=>(callsIn_wide (n:=n).2 h).2 cs (room_wide _)⟩
theorem bI.wpIn {P:Program} {o:Oper} {a:Act} {w:World} {R:Value→World→Prop} {K:Act→World→Prop} {Q:Exit→Act→World→Prop} {ρ:Option Nat} (h:bI P o a w R) (hK : ∀u w',R u w'→K (a.put o.dst u) w'):o.wpIn (Fr ρ) 0 P a w K Q:=by
 refine ⟨fun _ _=>trivial,?_⟩;rw [Oper.semAt_eq _ _ _ h.op];unfold bI at h;generalize (execOp a.eval o).run P w=r at *
 cases r with
 | halt x w'=>exact h.elim
 | ok n w'=>
  cases n<;>simp only at h<;>first
   | exact hK _ _ h
   | exact h.elim
   | exact ⟨(fun e=>by cases e),(AJ h).mono (by rintro e w'' ⟨u,rfl,hR⟩;exact hK u w'' hR)⟩
   | exact ⟨(fun e=>by cases e),(BR h).mono (by rintro e w'' ⟨u,rfl,hR⟩;exact hK u w'' hR)⟩
theorem bI.mono {P:Program} {o:Oper} {a:Act} {w:World} {R R':Value→World→Prop} (h:bI P o a w R) (hR : ∀u w',R u w'→R' u w'):bI P o a w R':=by
 unfold bI at h ⊢;generalize (execOp a.eval o).run P w=r at *
 cases r with
 | halt x w'=>exact h.elim
 | ok n w'=>
  cases n<;>simp only at h ⊢ <;> first
   | exact hR _ _ h
   | exact h.elim
   | exact Calls.mono h (by rintro e w'' ⟨u,rfl,h⟩;exact ⟨u,rfl,hR u w'' h⟩)
   | exact RoundIn.mono h (by rintro e w'' ⟨u,rfl,h⟩;exact ⟨u,rfl,hR u w'' h⟩)
theorem bI.of_value {P:Program} {o:Oper} {a:Act} {w w':World} {R:Value→World→Prop} {u:Value} (h:(execOp a.eval o).run P w = .ok (.value u) w') (hR:R u w'):bI P o a w R:=by
 unfold bI;rw [h];exact hR
theorem bI.of_skip {P:Program} {o:Oper} {a:Act} {w w':World} {R:Value→World→Prop} (h:(execOp a.eval o).run P w = .ok .skip w') (hR:R undef w'):bI P o a w R:=by
 unfold bI;rw [h];exact hR
def a7 (P:Program) (G:Gl) (o:Oper) (g:Operand→V) (σ:ae) (id:Nat) (v:V) (σ':ae):Prop:=
 ∀w I β nx a,b4 w I β σ nx→An G w I→(∀j,id≤j→j<id+4→β j=none)→id+4≤nx→(∀x∈o.op.operands.toList,ax w I β (g x) (a.eval x)) →
  bI P o a w fun u w'=> ∃I' β',ax w' I' β' v u∧aj w I β σ nx w' I' β' σ' nx ∧ ∀j,¬(id≤j∧j<id+4)→β' j=β j
def eg (P:Program) (G:Gl) (o:Oper) (g:Operand→V) (σ0:ae) (id:Nat) (v:V) (new:ae):Prop:= ∀σ,ar σ0 σ→a7 P G o g σ id v (σ++new)
section
variable {P:Program} {G:Gl} {o:Oper} {g:Operand→V} {σ:ae} {id:Nat} {K:V→ae→Prop}
open Classical in
noncomputable def only (o:Oper) (g:Operand→V):Operand→V:=fun x=>if x∈o.op.operands.toList then g x else .unk
theorem tu (x:Operand) (h:x∈o.op.operands.toList):g x=only o g x:=by unfold only;rw [if_pos h]
theorem oU {w:World} {I:Nat→Prop} {β:bA} {a:Act} (h : ∀x∈o.op.operands.toList,ax w I β (g x) (a.eval x)) : ∀x,ax w I β (only o g x) (a.eval x):=by
 intro x;unfold only;split
 ·rename_i hx;exact h x hx
 ·trivial
theorem lp {β β':bA} {id:Nat} (h : ∀j,j≠id→β' j=β j) : ∀j,¬(id≤j∧j<id+4)→β' j=β j:=fun j hj=>h j (by omega)
theorem v8 {p:Prop} {v:V} (h:bD P o.op g=some (p,v)) (hp:p) (σ:ae) (id:Nat):a7 P G o g σ id v σ:=by
 intro w I β nx a hm _ _ _ hg;rw [v4 (g':=only o g) (fun x hx=>tu x hx)] at h;obtain ⟨u,h1,h2⟩:=v5 (w:=w) h hp (oU hg);exact bI.of_value h1 ⟨I,β,h2,aj.refl hm,fun _ _=>rfl⟩
theorem bt (σ τ:ae) (j:Nat):ae.get (σ++τ) j=match σ.get j with|some b=>some b|none=>τ.get j:=by
 induction σ with
 | nil=>rfl
 | cons x r ih=>
  obtain ⟨i,b⟩:=x;show (if i=j then some b else ae.get (r++τ) j)=_;simp only [ae.get];split
  ·rfl
  ·exact ih
theorem aj.congr {w w':World} {I I':Nat→Prop} {β β':bA} {σ σ' σ'':ae} {nx nx':Nat} (h:aj w I β σ nx w' I' β' σ' nx') (he : ∀j,σ''.get j=σ'.get j):aj w I β σ nx w' I' β' σ'' nx':=
 { h with
  mem:=⟨fun id b hb=>h.mem.own id b (by rw [←he];exact hb),fun i j b b' k c c' h1 h2=>h.mem.inj i j b b' k c c' (by rw [←he];exact h1) (by rw [←he];exact h2),h.mem.free,h.mem.lt⟩
  own':=fun b ⟨id,blk,c,h1,h2⟩=>h.own' b ⟨id,blk,c,by rw [←he];exact h1,h2⟩ }
theorem CC {op:Op} {g:Operand→V} {σ:ae} {id:Nat} {p:Prop} {v:V} {new:ae} (h:aR P op g σ id=some (p,v,new)) : ∃blk,new=[(id,blk)]:=by
 unfold aR at h;split at h
 ·split at h
  ·split at h
   ·injection h with h;injection h with _ h;injection h with _ h;exact ⟨_,h.symm⟩
   ·cases h
  ·cases h
 ·split at h
  ·injection h with h;injection h with _ h;injection h with _ h;exact ⟨_,h.symm⟩
  ·cases h
 ·split at h
  ·split at h
   ·injection h with h;injection h with _ h;injection h with _ h;exact ⟨_,h.symm⟩
   ·cases h
  ·cases h
 ·split at h
  ·injection h with h;injection h with _ h;injection h with _ h;exact ⟨_,h.symm⟩
  ·cases h
 ·split at h
  ·injection h with h;injection h with _ h;injection h with _ h;exact ⟨_,h.symm⟩
  ·cases h
 ·split at h
  ·unfold nI at h;split at h
   ·split at h
    ·split at h
     ·split at h
      ·injection h with h;injection h with _ h;injection h with _ h;exact ⟨_,h.symm⟩
      ·split at h
       ·injection h with h;injection h with _ h;injection h with _ h;exact ⟨_,h.symm⟩
       ·cases h
      ·cases h
     ·cases h
    ·cases h
   ·cases h
  ·cases h
 ·injection h with h;injection h with _ h;injection h with _ h;exact ⟨_,h.symm⟩
 ·cases h
theorem lc {p:Prop} {v:V} {new σ0:ae} (h:aR P o.op g σ0 id=some (p,v,new)) (hp:p):eg P G o g σ0 id v new:=by
 intro σ hs w I β nx a hm _ hf hnx hg;rw [CB (g':=only o g) (fun x hx=>tu x hx)] at h;obtain ⟨u,w',β',h1,h2,h3,h4⟩:=CD h hp hm hs (hf id (Nat.le_refl _) (by omega)) (by omega) (oU hg);obtain ⟨blk,rfl⟩:=CC h;have h0:=hm.get_none (hf id (Nat.le_refl _) (by omega));refine bI.of_value h1 ⟨I,β',h2,h3.congr (fun j =>?_),lp h4⟩;rw [bt];show _=if id=j then some blk else σ.get j
 by_cases hj:id=j
 ·subst hj;rw [h0];simp [ae.get]
 ·simp only [hj,if_false];cases σ.get j<;>simp [ae.get,hj]
theorem FZ {p:Prop} {v:V} {σ':ae} (h:eR P o.op g σ id=some (p,v,σ')) (hp:p):a7 P G o g σ id v σ':=by
 intro w I β nx a hm _ hf hnx hg;rw [C9 (g':=only o g) (fun x hx=>tu x hx)] at h;obtain ⟨u,w',β',h1,h2,h3,h4⟩:=Da h hp hm (hf id (Nat.le_refl _) (by omega)) (by omega) (oU hg);rcases h1 with h1|⟨h1,rfl⟩
 ·exact bI.of_value h1 ⟨I,β',h2,h3,lp h4⟩
 ·exact bI.of_skip h1 ⟨I,β',h2,h3,lp h4⟩
theorem jC {p:Prop} {v:V} {new σ0:ae} (h:aW P o.op g σ0 id=some (p,v,new)) (hp:p):eg P G o g σ0 id v new:=by
 unfold aW at h;split at h
 ·rename_i p' v' h1;injection h with h;injection h with e1 h;injection h with e2 e3;subst e1;subst e2;subst e3;intro σ _;rw [List.append_nil];exact v8 h1 hp σ id
 ·exact lc h hp
theorem rV {p:Prop} {v:V} {σ':ae} (h:cz P o.op g σ id=some (p,v,σ')) (hp:p):a7 P G o g σ id v σ':=by
 unfold cz at h;split at h
 ·rename_i p' v' new h1;injection h with h;injection h with e1 h;injection h with e2 e3;subst e1;subst e2;subst e3;exact jC h1 hp σ (fun _ _ h=>h)
 ·exact FZ h hp
theorem eE {op:Op} {r:iO} (h:d5 op r K) : ∃p v s,r=some (p,v,s)∧p∧K v s:=by
 unfold d5 at h;split at h
 ·exact ⟨_,_,_,rfl,h.1,h.2⟩
 ·exact h.elim
theorem oZ {c x y:Operand} (ho:o.op = .pick c x y) {K:V→Prop} (h:gD (g c) (g x) (g y) K) : ∃v,K v ∧ ∀(σ:ae) (id:Nat),a7 P G o g σ id v σ:=by
 unfold gD at h;split at h
 ·rename_i t hc;have key : ∀(b:Bool),b=t → ∀(σ:ae) (id:Nat),a7 P G o g σ id (if b=true then g x else g y) σ:=by
   rintro b rfl σ id w I β nx a hm _ _ _ hg;have h1:=hg c (by simp [ho,Op.operands]);rw [hc] at h1;have h2:=an h1;refine bI.of_value (u:=if b=true then a.eval x else a.eval y) (by simp [execOp,ho,h2,asBool]) ⟨I,β,?_,aj.refl hm,fun _ _=>rfl⟩;cases b with
   | true=>exact hg x (by simp [ho,Op.operands])
   | false=>exact hg y (by simp [ho,Op.operands])
  cases t with
  | true=>exact ⟨g x,h.1 rfl,key true rfl⟩
  | false=>exact ⟨g y,h.2 rfl,key false rfl⟩
 ·exact h.elim
theorem vk {t:Nat} {x:Operand} (ho:o.op = .load t x) {K:V→Prop} {σ0:ae} (h:dp P t (g x) σ0 K) (id:Nat) : ∃v,K v∧eg P G o g σ0 id v []:=by
 obtain ⟨v,h1,h2⟩:=mq h;refine ⟨v,h1,fun σ hs =>?_⟩;rw [List.append_nil];intro w I β nx a hm _ _ _ hg;obtain ⟨u,h3,h4⟩:=h2 w I β σ nx (a.eval x) hm hs (hg x (by simp [ho,Op.operands]));exact bI.of_value (by simp [execOp,ho,h3]) ⟨I,β,h4,aj.refl hm,fun _ _=>rfl⟩
theorem aj.iter {w:World} {I:Nat→Prop} {β:bA} {nx:Nat} (hm:b4 w I β σ nx) {i b cap pos:Nat} {s:ByteArray} (hg:σ.get i=some (.iter s pos)) (hb:β i=some (some (b,cap))) (q:Nat) :
 aj w I β σ nx { w with heap:=w.heap.setIfInBounds b (.stringIter s q) } I β (σ.set i (.iter s q)) nx:=by
 have hs:(σ.get i).isSome=true:=by rw [hg];rfl
 have hbl:=((hm.own i _ hg).not_imm hb)
 have hnb : ∀k,k≠b→({ w with heap:=w.heap.setIfInBounds b (.stringIter s q) } : World).heap[k]? = w.heap[k]? :=fun k hk=>by simp [Array.getElem?_setIfInBounds_ne (Ne.symm hk)]
 refine ⟨⟨fun j bl hj =>?_,fun j j' bl bl' k c c' h1 h2 h3 h4 =>?_,hm.free,fun k hk=>by simpa using hm.lt k hk⟩,rfl,rfl,rfl,by simp,fun k _ ho=>hnb k (fun e=>ho ⟨i,_,cap,hg,by rw [e];exact hb⟩),fun _ h=>h,fun _ h=> .inl h,fun _ _ h=>h,Nat.le_refl _,fun k ⟨j,bl,c,h1,h2⟩ =>?_⟩
 ·rw [ae.get_set hs] at hj;split at hj
  ·rename_i e;subst e;injection hj with hj;subst hj;exact ⟨b,cap,hb,by simp [hbl.2],hbl.1⟩
  ·rename_i hne;refine (hm.own j bl hj).keep (fun k hk=>hnb k ?_) (fun _ h=>h) (fun k c hk=>((hm.own j bl hj).not_imm hk).1) (fun _ _ h=>h);rintro rfl;rcases hk with hk|⟨c,hk⟩
   ·exact hbl.1 hk
   ·exact hne (hm.inj j i bl _ k c cap hj hg hk hb)
 ·rw [ae.get_set hs] at h1 h2;have g1 : ∃x,σ.get j=some x:=by
   split at h1
   ·rename_i e;subst e;exact ⟨_,hg⟩
   ·exact ⟨_,h1⟩
  have g2 : ∃x,σ.get j'=some x:=by
   split at h2
   ·rename_i e;subst e;exact ⟨_,hg⟩
   ·exact ⟨_,h2⟩
  obtain ⟨x,g1⟩:=g1;obtain ⟨y,g2⟩:=g2;exact hm.inj j j' x y k c c' g1 g2 h3 h4
 ·rw [ae.get_set hs] at h1;split at h1
  ·rename_i e;subst e;exact .inl ⟨j,_,c,hg,h2⟩
  ·exact .inl ⟨j,bl,c,h1,h2⟩
theorem DR {x:Operand} (ho:o.op = .next x true) (h:ji (g x) σ K) (id:Nat) : ∃v σ',K v σ'∧a7 P G o g σ id v σ':=by
 unfold ji at h;split at h
 ·rename_i i hx;obtain ⟨b,hb,h⟩:=cg h;unfold oF at h;split at h
  ·rename_i s pos;have base : ∀w I β nx (a:Act),b4 w I β σ nx→(∀y∈o.op.operands.toList,ax w I β (g y) (a.eval y)) → ∃r cap,a.eval x = .pointer (some ⟨r,0,none⟩)∧β i=some (some (r,cap))∧w.heap[r]? = some (.stringIter s pos):=by
    intro w I β nx a hm hg;have h1:=hg x (by simp [ho,Op.operands]);rw [hx] at h1;obtain ⟨r,cap,h2,h3⟩:=h1;obtain ⟨r',cap',q1,q2,q3⟩:=hm.own i _ hb;rw [h2] at q1;injection q1 with q1;injection q1 with q1;injection q1 with q1 _;subst q1;exact ⟨r,cap,h3,h2,q2⟩
   by_cases hlt:pos<s.size
   ·refine ⟨_,_,h.1 (by simpa using hlt),fun w I β nx a hm _ _ _ hg =>?_⟩;obtain ⟨r,cap,e1,e2,e3⟩:=base w I β nx a hm hg;refine bI.of_value (u:= .tuple #[.bool true,.int .i64 pos,.int .i32 (Utf8.decode s pos).1]) (w' :={ w with heap:=w.heap.setIfInBounds r (.stringIter s (pos+(Utf8.decode s pos).2)) }) ?_ ⟨I,β,?_,aj.iter hm hb e2 _,fun _ _=>rfl⟩
    ·simp [execOp,ho,Instr.next,e1,getObj,setObj,Sem.run,e3,hlt,goInt]
    ·refine ⟨[.bool true,.int .i64 pos,.int .i32 (Utf8.decode s pos).1],rfl,rfl,fun j c v hc hv =>?_⟩;match j,hc,hv with
     | 0,hc,hv=>simp at hc hv;subst hc;subst hv;exact ai.lit _
     | 1,hc,hv=>simp at hc hv;subst hc;subst hv;exact ai.lit _
     | 2,hc,hv=>simp at hc hv;subst hc;subst hv;exact ai.lit _
   ·refine ⟨_,_,h.2 (by simpa using hlt),fun w I β nx a hm _ _ _ hg =>?_⟩;obtain ⟨r,cap,e1,e2,e3⟩:=base w I β nx a hm hg;refine bI.of_value (u:= .tuple #[.bool false]) (w':=w) ?_ ⟨I,β,?_,aj.refl hm,fun _ _=>rfl⟩
    ·simp [execOp,ho,Instr.next,e1,getObj,Sem.run,e3,hlt]
    ·refine ⟨[.bool false],rfl,rfl,fun j c v hc hv =>?_⟩;match j,hc,hv with
     | 0,hc,hv=>simp at hc hv;subst hc;subst hv;exact ai.lit _
  ·exact h.elim
 ·exact h.elim
theorem kG {f:Nat} (h:bN P f=true) (args:Array Value) (w:World):(callFunc f args).run P w = .ok (.enter f args) w:=by
 unfold bN at h;split at h
 ·rename_i fn hf;simp only [Bool.and_eq_true,Bool.not_eq_true',beq_eq_false_iff_ne] at h;obtain ⟨c,hb⟩:=Option.isSome_iff_exists.1 h.1;simp [callFunc,hf,hb,h.2]
 ·cases h
theorem Ga {P:Program} {f:Nat} {args:List V} (h:bN P f=true):od P f args=none:=by
 unfold bN at h;unfold od;split at h
 ·rename_i fn hf;rw [if_neg];intro hc;have h1:=hc.1;cases hb:fn.body<;>simp [hb] at h h1
 ·cases h
theorem Dj {fn:Func} {n:String} {e:Array Value→Sem Value} (hn:fn.name=n) (h1:Extern.allGenericRows.lookup n=none) (h2:Extern.allTypedRows.lookup n=none) (h3:Extern.allRows.lookup n=some e):Extern.find fn=some e:=by
 simp [Extern.find,hn,h1,h2,h3]
theorem G3 {f:Nat} {args:List V} {v:V} {w:World} {I:Nat→Prop} {β:bA} {vals:List Value} (h:od P f args=some v) (hd:bU w I β args vals) : ∃u,(callFunc f vals.toArray).run P w = .ok (.value u) w∧ax w I β v u:=by
 unfold od at h;split at h;rotate_left
 ·cases h
 rename_i fn hf;split at h;rotate_left
 ·cases h
 rename_i hb0;obtain ⟨hb,hx⟩:=hb0;have hx:Extern.findNext fn=none:=by simpa using hx
 have one : ∀ {x:V} {l:List Value},bU w I β [x] l → ∃y,l=[y]∧ax w I β x y:=by
  rintro x l ⟨hl,hx⟩;match l,hl with
  | [y],_=>exact ⟨y,rfl,hx 0 _ _ rfl rfl⟩
 have two : ∀ {x x':V} {l:List Value},bU w I β [x,x'] l → ∃y y',l=[y,y']∧ax w I β x y∧ax w I β x' y':=by
  rintro x x' l ⟨hl,hx⟩;match l,hl with
  | [y,y'],_=>exact ⟨y,y',rfl,hx 0 _ _ rfl rfl,hx 1 _ _ rfl rfl⟩
 have go : ∀ {n:String} {e:Array Value→Sem Value} {u:Value},fn.name=n→(n == "runtime.NumGoroutine")=false→Extern.allGenericRows.lookup n=none→Extern.allTypedRows.lookup n=none→Extern.allRows.lookup n=some e →
  (e vals.toArray).run P w = .ok u w→(callFunc f vals.toArray).run P w = .ok (.value u) w:=by
  intro n e u hn hne h1 h2 h3 he;rw [run_callFunc_extern hf (by rw [hn];exact hne) hb hx (Dj hn h1 h2 h3),he];rfl
 unfold KN at h;split at h
 ·rename_i hn;split at h
  ·rename_i x;injection h with h;subst h;obtain ⟨y,rfl,hy⟩:=one hd;exact ⟨y,go hn (by kernel_rfl) (by kernel_rfl) (by kernel_rfl) (e:=Extern.AbiNoEscape.same) (by kernel_rfl) rfl,hy⟩
  ·cases h
 ·split at h
  ·rename_i hn;split at h
   ·rename_i s c;injection h with h;subst h;obtain ⟨y,y',rfl,hy,hy'⟩:=two hd;have:=an hy;subst this;have:=an hy';subst this;exact ⟨_,go hn (by kernel_rfl) (by kernel_rfl) (by kernel_rfl) (e:=Extern.BytealgIndexByte.indexByte) (by kernel_rfl) (run_indexByte_string s c w),ai.lit _⟩
   ·cases h
  ·split at h
   ·rename_i hn;split at h
    ·rename_i s c;injection h with h;subst h;obtain ⟨y,y',rfl,hy,hy'⟩:=two hd;have:=an hy;subst this;have:=an hy';subst this;exact ⟨_,go hn (by kernel_rfl) (by kernel_rfl) (by kernel_rfl) (e:=Extern.BytealgCount.count) (by kernel_rfl) (lO s c w),ai.lit _⟩
    ·cases h
   ·cases h
theorem dt {w:World} {I:Nat→Prop} {β:bA} {v:V} {x:Value} {K:Nat→List V→Prop} (h:a8 v K) : ∃k caps,K k caps∧(ax w I β v x → ∃cv:List Value,x = .func (.func k) #[] cv.toArray∧bU w I β caps cv):=by
 unfold a8 at h;split at h
 ·rename_i k caps;refine ⟨k,_,h,fun hd =>?_⟩;obtain ⟨vs,rfl,hl,hds⟩:=j5 hd;refine ⟨vs,rfl,by simpa using hl,fun i c y hc hy =>?_⟩;simp only [List.getElem?_map,Option.map_eq_some_iff] at hc;obtain ⟨z,hz,rfl⟩:=hc;exact hds i z y hz hy
 ·rename_i k caps;refine ⟨k,_,h,fun hd =>?_⟩;obtain ⟨vs,rfl,hl,hds⟩:=(show ∃vs:List Value,x = .func (.func k) #[] vs.toArray∧bo w I β caps vs from hd)
  refine ⟨vs,rfl,hl,fun i c y hc hy =>?_⟩;have:=hds i c y hc hy;cases c<;>first|exact this|exact this.elim
 ·exact h.elim
 ·exact h.elim
 ·exact h.elim
theorem qQ {w:World} {I:Nat→Prop} {β:bA} {k:Nat} {fs:List D} {x:Value} (h:ax w I β (.d (.bf k fs)) x) : ∃pv cv:List Value,x = .func (.func k) pv.toArray cv.toArray∧bU w I β (fs.map .d) pv∧bU w I β [] cv:=by
 obtain ⟨vs,rfl,hl,hds⟩:=xC h;refine ⟨vs,[],rfl,⟨by simpa using hl,fun i c y hc hy =>?_⟩,rfl,fun i c y hc hy=>by simp at hc⟩;simp only [List.getElem?_map,Option.map_eq_some_iff] at hc;obtain ⟨z,hz,rfl⟩:=hc;exact hds i z y hz hy
theorem bU.append {w:World} {I:Nat→Prop} {β:bA} {a b:List V} {x y:List Value} (h:bU w I β a x) (k:bU w I β b y):bU w I β (a++b) (x++y):=by
 refine ⟨by simp [h.1,k.1],fun i c v hc hv =>?_⟩;rw [List.getElem?_append] at hc hv;rw [←h.1] at hv;split at hc
 ·rename_i hlt;rw [if_pos hlt] at hv;exact h.2 i c v hc hv
 ·rename_i hlt;rw [if_neg hlt] at hv;exact k.2 _ c v hc hv
theorem lh {w:World} {I:Nat→Prop} {β:bA} {a:Act} {l:List Operand} (h : ∀x∈l,ax w I β (g x) (a.eval x)):bU w I β (l.map g) (l.map a.eval):=by
 refine ⟨by simp,fun i c v hc hv =>?_⟩;simp only [List.getElem?_map,Option.map_eq_some_iff] at hc hv;obtain ⟨x,hx,rfl⟩:=hc;obtain ⟨y,hy,rfl⟩:=hv;rw [hx] at hy;injection hy with hy;subst hy;exact h x (List.mem_of_getElem? hx)
theorem lg {c:Call} {f:Operand} {k:Nat} {pre caps:List V} {v:V} {σ':ae} (ho:o.op = .call c) (hc:c.callee = .value f) (he:bN P k=true) (hd:qg P G k (pre++(c.args.toList.map g++caps)) σ id v σ')
 (hcal : ∀w I β x,ax w I β (g f) x → ∃pv cv:List Value,x = .func (.func k) pv.toArray cv.toArray∧bU w I β pre pv∧bU w I β caps cv):a7 P G o g σ id v σ':=by
 intro w I β nx a hm hG hf hnx hg;have hops : ∀x,x=f∨x∈c.args.toList→x∈o.op.operands.toList:=by
  intro x hx;simp [ho,Op.operands,Call.operands,hc];rcases hx with h|h
  ·exact .inl h
  ·exact .inr (by simpa using h)
 obtain ⟨pv,cv,e1,e0,e2⟩:=hcal w I β (a.eval f) (hg f (hops f (.inl rfl)));have hargs:=e0.append<|(lh (g:=g) (a:=a) (l:=c.args.toList) (fun x hx=>hg x (hops x (.inr hx)))).append e2
 have hcall:=hd w I β nx _ hm hG hf hnx hargs;have hrun:(execOp a.eval o).run P w = .ok (.enter k (pv++(c.args.toList.map a.eval++cv)).toArray) w:=by
  simp only [execOp,ho,resolve,hc,e1,Deferred.ofValue,Sem.run_bind,Sem.run_pure,Result.andThen_ok,invoke];rw [show (pv.toArray++Array.map a.eval c.args++cv.toArray)=(pv++(c.args.toList.map a.eval++cv)).toArray from by apply Array.toList_inj.1;simp];exact kG he _ w
 unfold bI;rw [hrun];exact hcall.mono fun e w' ⟨u,I',β',h1,h2,h3,h4⟩=>⟨u,h1,I',β',h2,h3,h4⟩
theorem jX {c:Call} {f:Operand} {k:Nat} {caps:List V} {v:V} {σ':ae} (ho:o.op = .call c) (hc:c.callee = .value f) (he:bN P k=true) (hd:qg P G k (c.args.toList.map g++caps) σ id v σ')
 (hcal : ∀w I β x,ax w I β (g f) x → ∃cv:List Value,x = .func (.func k) #[] cv.toArray∧bU w I β caps cv):a7 P G o g σ id v σ':=
 lg (pre:=[]) ho hc he hd fun w I β x h=>match hcal w I β x h with|⟨cv,e,d⟩=>⟨[],cv,e,⟨rfl,fun i c y hc hy=>by simp at hc⟩,d⟩
theorem Ci {c:Call} {f:Operand} {i:Nat} {v:V} {σ':ae} (ho:o.op = .call c) (hc:c.callee = .value f) (hf:g f = .yl i) (hd:md P G i (c.args.toList.map g) σ id v σ'):a7 P G o g σ id v σ':=by
 intro w I β nx a hm hG hfr hnx hg;have hops : ∀x,x=f∨x∈c.args.toList→x∈o.op.operands.toList:=by
  intro x hx;simp [ho,Op.operands,Call.operands,hc];rcases hx with h|h
  ·exact .inl h
  ·exact .inr (by simpa using h)
 have h0:=hg f (hops f (.inl rfl));rw [hf] at h0;obtain ⟨b,cap,hb,e1⟩:=h0;have hargs:=lh (g:=g) (a:=a) (l:=c.args.toList) (fun x hx=>hg x (hops x (.inr hx)));obtain ⟨r,hr,hl,hround⟩:=hd w I β nx _ b cap hm hG hfr hnx hargs hb;have hrun:(execOp a.eval o).run P w = .ok (.round b r.fn ((r.params.zip (c.args.toList.map a.eval).toArray).foldl (fun tmps (t,a)=>tmps.setIfInBounds t a) r.tmps) r.assign r.body) w:=by
  simp only [execOp,ho,resolve,hc,e1,Deferred.ofValue,Sem.run_bind,Sem.run_pure,Result.andThen_ok,invoke];have e3:(#[]++Array.map a.eval c.args)=(c.args.toList.map a.eval).toArray:=by
   apply Array.toList_inj.1;simp
  rw [e3];exact run_yield hr (by simpa using hl)
 unfold bI;rw [hrun];exact hround.mono fun e w' ⟨u,I',β',h1,h2,h3,h4⟩=>⟨u,h1,I',β',h2,h3,h4⟩
theorem oe {c:Call} {f:Operand} {k:Nat} {pre caps:List V} {v:V} (ho:o.op = .call c) (hc:c.callee = .value f) (he:od P k (pre++(c.args.toList.map g++caps))=some v)
 (hcal : ∀w I β x,ax w I β (g f) x → ∃pv cv:List Value,x = .func (.func k) pv.toArray cv.toArray∧bU w I β pre pv∧bU w I β caps cv) (σ:ae) (id:Nat):a7 P G o g σ id v σ:=by
 intro w I β nx a hm hG hf hnx hg;have hops : ∀x,x=f∨x∈c.args.toList→x∈o.op.operands.toList:=by
  intro x hx;simp [ho,Op.operands,Call.operands,hc];rcases hx with h|h
  ·exact .inl h
  ·exact .inr (by simpa using h)
 obtain ⟨pv,cv,e1,e0,e2⟩:=hcal w I β (a.eval f) (hg f (hops f (.inl rfl)));have hargs:=e0.append<|(lh (g:=g) (a:=a) (l:=c.args.toList) (fun x hx=>hg x (hops x (.inr hx)))).append e2
 obtain ⟨u,hu,hd⟩:=G3 (w:=w) (I:=I) (β:=β) he hargs;refine bI.of_value (u:=u) (w':=w) ?_ ⟨I,β,hd,aj.refl hm,fun _ _=>rfl⟩;simp only [execOp,ho,resolve,hc,e1,Deferred.ofValue,Sem.run_bind,Sem.run_pure,Result.andThen_ok,invoke];rw [show (pv.toArray++Array.map a.eval c.args++cv.toArray)=(pv++(c.args.toList.map a.eval++cv)).toArray from by apply Array.toList_inj.1;simp];exact hu
theorem ni {c:Call} {f:Operand} {k:Nat} {caps:List V} {v:V} (ho:o.op = .call c) (hc:c.callee = .value f) (he:od P k (c.args.toList.map g++caps)=some v)
 (hcal : ∀w I β x,ax w I β (g f) x → ∃cv:List Value,x = .func (.func k) #[] cv.toArray∧bU w I β caps cv) (σ:ae) (id:Nat):a7 P G o g σ id v σ:=
 oe (pre:=[]) ho hc he (fun w I β x h=>match hcal w I β x h with|⟨cv,e,d⟩=>⟨[],cv,e,⟨rfl,fun i c y hc hy=>by simp at hc⟩,d⟩) σ id
theorem G8 {g:Operand→V} {σ:ae} {t n:Nat} {parts:Array (Nat × Operand)} (ho:o.op = .buildSlice t n parts) {p:Prop} {v:V} {s:ae} (h:MQ P t n id (parts.toList.map fun p=>(p.1,g p.2)) σ=some (p,v,s)) (hp:p):a7 P G o g σ id v s:=by
 unfold MQ at h;split at h
 ·rename_i k b es h1 h2;split at h
  ·rename_i hc;injection h with h;injection h with e1 h;injection h with e2 e3;subst e1 e2 e3;have hr:aR P o.op g σ id=some (fX k es,.so id k 0 n,[(id,.row k es)]):=by
    rw [ho];simp only [aR,h1,h2];rw [if_pos hc]
   exact lc hr hp σ (fun _ _ h=>h)
  ·cases h
 ·cases h
theorem tG {F:List (Nat × V)→ae→iO} {parts:List (Nat × Operand)} (hF : ∀(g:Operand→V) (σ:ae) (v:V) (s:ae) (p:Prop),F (parts.map fun p=>(p.1,g p.2)) σ=some (p,v,s)→p→a7 P G o g σ id v s)
 {g:Operand→V} {σ:ae} {p:Prop} {v:V} {s:ae} (h:Kr F (parts.map fun p=>(p.1,g p.2)) σ=some (p,v,s)) (hp:p):a7 P G o g σ id v s:=by
 unfold Kr at h;split at h
 ·rename_i i hi;split at h
  ·rename_i blk hb;rw [uN] at h;have hs:=hF (fun x=>(g x).frz i blk) (σ.frz i blk) v s p h hp;intro w I β nx a hm hG hf hnx hg;obtain ⟨st,hset⟩:=uO hm hb;refine (hs w _ β nx a st.mem (fun g x hx=>(hG g x hx).keep (fun _ _=>rfl) (fun b hb=> .inl hb)) hf hnx (fun x hx=>hset.den (hg x hx))).mono ?_;rintro u w' ⟨I2,β2,e1,e2,e3⟩;exact ⟨I2,β2,e1,st.trans e2,e3⟩
  ·cases h
 ·exact hF g σ v s p h hp
theorem cZ (h:aG P G o.op g σ id K) : ∃v σ',K v σ'∧a7 P G o g σ id v σ':=by
 unfold aG at h;split at h;case h_1 c x y ho=>
  obtain ⟨v,h1,h2⟩:=oZ ho h;exact ⟨v,σ,h1,h2 σ id⟩
 case h_2 t x ho=>
  obtain ⟨v,h1,h2⟩:=vk (G:=G) ho h id;exact ⟨v,σ,h1,by simpa using h2 σ (fun _ _ h=>h)⟩
 case h_3 x isStr ho=>
  split at h
  ·rename_i hs;subst hs;exact DR ho h id
  ·exact h.elim
 case h_4 c ho=>
  split at h
  ·rename_i f hc;unfold a8 at h;split at h
   ·rename_i k caps hk;obtain ⟨v,σ',h1,h2⟩:=h;have hcal : ∀w I β x,ax w I β (g f) x → ∃cv:List Value,x = .func (.func k) #[] cv.toArray∧bU w I β (caps.map .d) cv:=fun w I β x hd=>by
     rw [hk] at hd;obtain ⟨k',caps',e1,e2⟩:=dt (w:=w) (I:=I) (β:=β) (x:=x) (v:= .d (.fn k caps)) (K:=fun a b=>a=k∧b=caps.map .d) ⟨rfl,rfl⟩;obtain ⟨rfl,rfl⟩:=e1;exact e2 hd
    rcases h2 with ⟨h2,h3⟩|⟨h2,rfl⟩
    ·exact ⟨v,σ',h1,jX ho hc h2 h3 hcal⟩
    ·exact ⟨v,_,h1,ni ho hc h2 hcal _ _⟩
   ·rename_i k caps hk;obtain ⟨v,σ',h1,h2⟩:=h;have hcal : ∀w I β x,ax w I β (g f) x → ∃cv:List Value,x = .func (.func k) #[] cv.toArray∧bU w I β caps cv:=fun w I β x hd=>by
     rw [hk] at hd;obtain ⟨k',caps',e1,e2⟩:=dt (w:=w) (I:=I) (β:=β) (x:=x) (v:= .fn k caps) (K:=fun a b=>a=k∧b=caps) ⟨rfl,rfl⟩;obtain ⟨rfl,rfl⟩:=e1;exact e2 hd
    rcases h2 with ⟨h2,h3⟩|⟨h2,rfl⟩
    ·exact ⟨v,σ',h1,jX ho hc h2 h3 hcal⟩
    ·exact ⟨v,_,h1,ni ho hc h2 hcal _ _⟩
   ·rename_i i hi;obtain ⟨v,σ',h1,h2⟩:=h;exact ⟨v,σ',h1,Ci ho hc hi h2⟩
   ·rename_i k fs hk;obtain ⟨v,σ',h1,h2⟩:=h;have hcal : ∀w I β x,ax w I β (g f) x → ∃pv cv:List Value,x = .func (.func k) pv.toArray cv.toArray∧bU w I β (fs.map .d) pv∧bU w I β [] cv:=fun w I β x hd=>qQ (hk▸hd)
    rcases h2 with ⟨h2,h3⟩|⟨h2,rfl⟩
    ·exact ⟨v,σ',h1,lg ho hc h2 h3 hcal⟩
    ·exact ⟨v,_,h1,oe ho hc h2 hcal _ _⟩
   ·exact h.elim
  ·obtain ⟨p,v,s,h1,h2,h3⟩:=eE h;exact ⟨v,s,h3,rV h1 h2⟩
  ·exact h.elim
 case h_5 t n parts ho=>
  unfold Fd at h;split at h
  ·rename_i p v new hr;rw [←ho] at hr;exact ⟨v,_,h.2,lc hr h.1 σ (fun _ _ h=>h)⟩
  ·split at h
   ·rename_i p v s hr;exact ⟨v,s,h.2,tG (fun g' σ' v' s' p' hp'=>tG (fun g' σ' v' s' p' hp'=>tG (fun g' σ' v' s' p' hp'=>G8 ho hp') hp') hp') hr h.1⟩
   ·exact h.elim
 case h_6 _ _ _ _ _=>
  obtain ⟨p,v,s,h1,h2,h3⟩:=eE h;exact ⟨v,s,h3,rV h1 h2⟩
theorem cr (id:Nat):ma id []:=fun _ _ h=>by simp [ae.get] at h
theorem kB {op:Op} {p:Prop} {v:V} {new:ae} (h:aW P op g σ id=some (p,v,new)):ma id new:=by
 unfold aW at h;split at h
 ·injection h with h;injection h with _ h;injection h with _ h;subst h;exact cr id
 ·obtain ⟨blk,rfl⟩:=CC h;intro j b hj;simp only [ae.get] at hj;split at hj
  ·omega
  ·cases hj
theorem df (h:aH P G o.op g σ id K) : ∃v new,K v new∧ma id new∧eg P G o g σ id v new:=by
 unfold aH at h;split at h;case h_1 c x y ho=>
  obtain ⟨v,h1,h2⟩:=oZ (G:=G) ho h;exact ⟨v,[],h1,cr id,fun s _=>by simpa using h2 s id⟩
 case h_2 t x ho=>
  obtain ⟨v,h1,h2⟩:=vk (G:=G) ho h id;exact ⟨v,[],h1,cr id,h2⟩
 case h_3 c ho=>
  split at h
  ·rename_i f hc;unfold a8 at h;split at h
   ·rename_i k caps hk;obtain ⟨v,new,h1,h2⟩:=h;have hcal : ∀w I β x,ax w I β (g f) x → ∃cv:List Value,x = .func (.func k) #[] cv.toArray∧bU w I β (caps.map .d) cv:=fun w I β x hd=>by
     rw [hk] at hd;obtain ⟨k',caps',e1,e2⟩:=dt (w:=w) (I:=I) (β:=β) (x:=x) (v:= .d (.fn k caps)) (K:=fun a b=>a=k∧b=caps.map .d) ⟨rfl,rfl⟩;obtain ⟨rfl,rfl⟩:=e1;exact e2 hd
    rcases h2 with ⟨h2,hn,h3⟩|⟨h2,rfl⟩
    ·exact ⟨v,new,h1,hn,fun s hs=>jX ho hc h2 (h3 s hs) hcal⟩
    ·exact ⟨v,[],h1,cr id,fun s hs=>by simpa using ni ho hc h2 hcal s id⟩
   ·rename_i k caps hk;obtain ⟨v,new,h1,h2⟩:=h;have hcal : ∀w I β x,ax w I β (g f) x → ∃cv:List Value,x = .func (.func k) #[] cv.toArray∧bU w I β caps cv:=fun w I β x hd=>by
     rw [hk] at hd;obtain ⟨k',caps',e1,e2⟩:=dt (w:=w) (I:=I) (β:=β) (x:=x) (v:= .fn k caps) (K:=fun a b=>a=k∧b=caps) ⟨rfl,rfl⟩;obtain ⟨rfl,rfl⟩:=e1;exact e2 hd
    rcases h2 with ⟨h2,hn,h3⟩|⟨h2,rfl⟩
    ·exact ⟨v,new,h1,hn,fun s hs=>jX ho hc h2 (h3 s hs) hcal⟩
    ·exact ⟨v,[],h1,cr id,fun s hs=>by simpa using ni ho hc h2 hcal s id⟩
   ·exact h.elim
   ·rename_i k fs hk;obtain ⟨v,new,h1,h2⟩:=h;have hcal : ∀w I β x,ax w I β (g f) x → ∃pv cv:List Value,x = .func (.func k) pv.toArray cv.toArray∧bU w I β (fs.map .d) pv∧bU w I β [] cv:=fun w I β x hd=>qQ (hk▸hd)
    rcases h2 with ⟨h2,hn,h3⟩|⟨h2,rfl⟩
    ·exact ⟨v,new,h1,hn,fun s hs=>lg ho hc h2 (h3 s hs) hcal⟩
    ·exact ⟨v,[],h1,cr id,fun s hs=>by simpa using oe ho hc h2 hcal s id⟩
   ·exact h.elim
  ·obtain ⟨p,v,s,h1,h2,h3⟩:=eE h;exact ⟨v,s,h3,kB h1,jC h1 h2⟩
  ·exact h.elim
 case h_4 _ _ _=>
  obtain ⟨p,v,s,h1,h2,h3⟩:=eE h;exact ⟨v,s,h3,kB h1,jC h1 h2⟩
end
def aC.put (e:aC) (t:Nat) (v:V):aC:=(t,v)::e
def aC.putO (e:aC) (t:Option Nat) (v:V):aC:=match t with
 | some d=>e.put d v
 | none=>e
def Fk (k:Nat):List Nat→Option (List Nat)
 | []=>none
 | x::r=>if x=k then some r else (Fk k r).map (x :: ·)
def aC.keep:List Nat→aC→aC
 | _,[]=>[]
 | lv,(k,v)::r=>match Fk k lv with
  | some lv'=>(k,v)::aC.keep lv' r
  | none=>aC.keep lv r
theorem aC.get_put (e:aC) (t:Nat) (v:V) (j:Nat):(e.put t v).get j=if t=j then v else e.get j:=rfl
theorem wp : ∀ {k:Nat} {lv:List Nat},Fk k lv=none→k∉lv
 | k,[],_=>by simp
 | k,x::r,h=>by
  unfold Fk at h;split at h
  ·cases h
  ·rename_i hx;have:Fk k r=none:=by simpa using h
   simp only [List.mem_cons,not_or];exact ⟨fun e=>hx e.symm,wp this⟩
theorem wq : ∀ {k:Nat} {lv lv':List Nat},Fk k lv=some lv' → ∀x,x∈lv'→x∈lv
 | k,[],_,h=>by cases h
 | k,y::r,lv',h=>by
  unfold Fk at h;split at h
  ·injection h with h;subst h;intro x hx;exact List.mem_cons_of_mem _ hx
  ·simp only [Option.map_eq_some_iff] at h;obtain ⟨l,hl,rfl⟩:=h;intro x hx;rcases List.mem_cons.1 hx with rfl|hx
   ·exact List.mem_cons_self
   ·exact List.mem_cons_of_mem _ (wq hl x hx)
theorem aC.keep_out : ∀(e:aC) (lv:List Nat) (k:Nat),k∉lv→(aC.keep lv e).get k = .unk
 | [],lv,k,_=>by cases lv<;>rfl
 | (k',v)::r,lv,k,h=>by
  unfold aC.keep;split
  ·rename_i lv' h';have hk:k'≠k:=by
    rintro rfl;apply h;have : ∀ {l l':List Nat},Fk k' l=some l'→k'∈l:=by
     intro l;induction l with
     | nil=>intro l' h;cases h
     | cons y r ih=>
      intro l' h;unfold Fk at h;split at h
      ·rename_i e;subst e;exact List.mem_cons_self
      ·simp only [Option.map_eq_some_iff] at h;obtain ⟨q,hq,_⟩:=h;exact List.mem_cons_of_mem _ (ih hq)
    exact this h'
   show (if k'=k then v else (aC.keep lv' r).get k) = .unk;rw [if_neg hk];exact aC.keep_out r lv' k (fun hm=>h (wq h' k hm))
  ·exact aC.keep_out r lv k h
theorem aC.get_keep : ∀(lv:List Nat) (e:aC) (j:Nat),(aC.keep lv e).get j=e.get j∨(aC.keep lv e).get j = .unk
 | lv,[],j=>by cases lv<;>exact .inl rfl
 | lv,(k,v)::r,j=>by
  unfold aC.keep;split
  ·rename_i lv' h';show (if k=j then v else (aC.keep lv' r).get j)=(if k=j then v else aC.get r j)∨(if k=j then v else (aC.keep lv' r).get j) = .unk;split
   ·exact .inl rfl
   ·exact aC.get_keep lv' r j
  ·rename_i h';by_cases hk:k=j
   ·subst hk;exact .inr (aC.keep_out r lv k (wp h'))
   ·show (aC.keep lv r).get j=(if k=j then v else aC.get r j)∨_;rw [if_neg hk];exact aC.get_keep lv r j
structure St where
 env:aC
 sg:ae
 nx:Nat
structure qf where
 w:World
 I:Nat→Prop
 β:bA
 σ:ae
 nx:Nat
 n:Nat
 free : ∀id,nx≤id→β id=none
 hd:List (Nat × Obj)
def gQ (n:Nat) (hd:List (Nat × Obj)) (w:World) (I:Nat→Prop) (β:bA) (σ:ae) (ds:List Deferred):Prop:=
 (∃Ds:List Nat,ds=Ds.map (fun D =>{ target:= .collected D,args :=#[] })∧Ds.Nodup ∧ ∀D∈Ds,n≤D∧w.heap[D]? = some (.deferred (some [])) ∧ ¬I D ∧ ¬bd σ β D) ∧
 ∀p∈hd,w.heap[p.1]? = some p.2 ∧ ¬I p.1 ∧ ¬bd σ β p.1
section
variable {n:Nat} {hd:List (Nat × Obj)} {w w':World} {I I':Nat→Prop} {β β':bA} {σ σ':ae} {nx nx':Nat} {ds:List Deferred}
theorem gQ.nil:gQ n [] w I β σ []:=⟨⟨[],rfl,List.nodup_nil,fun D h=>by cases h⟩,fun p h=>by cases h⟩
theorem gQ.sub (h:gQ n hd w I β σ ds) (ho : ∀b,bd σ' β' b→bd σ β b) (hi : ∀b,I' b→I b∨bd σ β b):gQ n hd w I' β' σ' ds:=by
 obtain ⟨⟨Ds,h1,h2,h3⟩,h4⟩:=h;have key : ∀D,¬I D → ¬bd σ β D → ¬I' D ∧ ¬bd σ' β' D:=fun D q3 q4=>⟨fun h=>by rcases hi D h with h|h;exact q3 h;exact q4 h,fun h=>q4 (ho D h)⟩
 refine ⟨⟨Ds,h1,h2,fun D hD =>?_⟩,fun p hp =>?_⟩
 ·obtain ⟨q1,q2,q3,q4⟩:=h3 D hD;exact ⟨q1,q2,key D q3 q4⟩
 ·obtain ⟨q1,q2,q3⟩:=h4 p hp;exact ⟨q1,key _ q2 q3⟩
theorem gQ.congr (h:gQ n hd w I β σ ds) (hs : ∀k,σ'.get k=σ.get k):gQ n hd w I β σ' ds:=
 h.sub (fun b ⟨id,blk,c,g1,g2⟩=>⟨id,blk,c,by rw [←hs];exact g1,g2⟩) (fun b h=> .inl h)
theorem gl {b:Nat} {o:Obj} (h:w.heap[b]? = some o):b<w.heap.size:=by
 rcases Nat.lt_or_ge b w.heap.size with g|g
 ·exact g
 ·rw [Array.getElem?_eq_none g] at h;cases h
theorem aj.hid (hs:aj w I β σ nx w' I' β' σ' nx') {b:Nat} {o:Obj} (h:w.heap[b]? = some o) (hI : ¬I b) (ho : ¬bd σ β b):w'.heap[b]? = some o ∧ ¬I' b ∧ ¬bd σ' β' b:=by
 have hlt:=gl h;refine ⟨(hs.block b hlt ho).trans h,fun h =>?_,fun h =>?_⟩
 ·rcases hs.immn b h with h|h|h
  ·exact hI h
  ·exact ho h
  ·omega
 ·rcases hs.own' b h with h|h
  ·exact ho h
  ·omega
theorem gQ.step (h:gQ n hd w I β σ ds) (hs:aj w I β σ nx w' I' β' σ' nx'):gQ n hd w' I' β' σ' ds:=by
 obtain ⟨⟨Ds,h1,h2,h3⟩,h4⟩:=h;refine ⟨⟨Ds,h1,h2,fun D hD =>?_⟩,fun p hp =>?_⟩
 ·obtain ⟨q1,q2,q3,q4⟩:=h3 D hD;exact ⟨q1,hs.hid q2 q3 q4⟩
 ·obtain ⟨q1,q2,q3⟩:=h4 p hp;exact hs.hid q1 q2 q3
end
def dC (C:qf) (G:Gl) (e:aC) (σ:ae) (nx lim:Nat) (a:Act) (w:World):Prop:=
 ∃I β,aj C.w C.I C.β C.σ C.nx w I β σ nx∧(∀j,lim≤j→β j=none)∧(∀t,ax w I β (e.get t) (a.tmps.getD t undef))∧a.tmps.size=C.n∧gQ C.w.heap.size C.hd w I β σ a.defers∧An G w I
def na (C:qf) (G:Gl) (st:St) (a:Act) (w:World):Prop:=dC C G st.env st.sg st.nx st.nx a w
def nL (v:V) (K:Bool→Prop):Prop:=match v with
 | .d (.lit (.bool b))=>K b
 | _=>jQ v
def mW (v:V) (K:Bool→Prop) (no:Prop):Prop:=match v with
 | .d (.lit (.bool b))=>K b
 | .tup []=>no
 | _=>jQ v
def bO (ops:Array Oper) (o:Oper) (e:aC) (yes no:aC→Prop):Prop:=match o.guard with
 | none=>yes e
 | some (j,want)=>bT ((ops[j]?).bind (·.dst)) fun d=>mW (e.get d) (fun b=>
  gI b (if want=true then yes (e.put d (.d (.lit (.bool true)))) else no (e.put d (.d (.lit (.bool true))))) (if want=true then no (e.put d (.d (.lit (.bool false)))) else yes (e.put d (.d (.lit (.bool false)))))) (no e)
def ky (P:Program) (G:Gl) (ops:Array Oper) (base:Nat):Nat→List Oper→aC→ae→(aC→ae→Prop)→Prop
 | _,[],e,σ,K=>K e σ
 | i,o::r,e,σ,K=>bO ops o e
  (fun e=>aG P G o.op (di G e.get) σ (base+4*i) fun v σ'=>ky P G ops base (i+1) r (e.putO o.dst v) σ' K)
  (fun e=>ky P G ops base (i+1) r (e.putO o.dst (.tup [])) σ K)
section
variable {P:Program} {G:Gl} {C:qf} {ops:Array Oper} {Q:Exit→Act→World→Prop} {fr:Option Nat}
theorem nh {w:World} {I:Nat→Prop} {β:bA} {e:aC} {a:Act} (he : ∀t,ax w I β (e.get t) (a.tmps.getD t undef)) (hG:An G w I) (x:Operand):ax w I β (di G e.get x) (a.eval x):=by
 cases x with
 | tmp t=>exact he t
 | const v=>exact ai.lit v
 | global g=>
  show ax w I β (match G g with|some x=> .d x|none=> .unk) _;cases h:G g with
  | none=>trivial
  | some x=>exact hG g x h
 | func f=>exact ai.fn f [] [] rfl (by simp)
theorem uP {a:Act} {d t:Nat} {v:Value} (h:d<a.tmps.size):(a.put (some d) v).tmps.getD t undef=if d=t then v else a.tmps.getD t undef:=by
 simp only [Act.put,Array.getD_eq_getD_getElem?,Array.getElem?_setIfInBounds];by_cases e:d=t
 ·subst e;simp [h]
 ·simp [e]
theorem sJ {w:World} {I:Nat→Prop} {β:bA} {e:aC} {a:Act} (he : ∀t,ax w I β (e.get t) (a.tmps.getD t undef)) {d:Option Nat} (hd : ∀x,d=some x→x<a.tmps.size) {v:V} {u:Value} (hv:ax w I β v u) :
 ∀t,ax w I β ((e.putO d v).get t) ((a.put d u).tmps.getD t undef):=by
 intro t;cases d with
 | none=>exact he t
 | some d=>
  rw [uP (hd d rfl)];simp only [aC.putO,aC.get_put];split
  ·exact hv
  ·exact he t
theorem fM {a:Act} {d:Option Nat} {v:Value} : (a.put d v).tmps.size=a.tmps.size:=by cases d<;>simp [Act.put]
theorem dz {a:Act} {d:Option Nat} {v:Value} : (a.put d v).defers=a.defers:=by cases d<;>rfl
theorem An.step {w w':World} {I I':Nat→Prop} {β β':bA} {σ σ':ae} {nx nx':Nat} (h:An G w I) (hm:b4 w I β σ nx) (hs:aj w I β σ nx w' I' β' σ' nx'):An G w' I':=fun g x hg=>hs.denD hm (h g x hg)
theorem b4.bump {w:World} {I:Nat→Prop} {β:bA} {σ:ae} {nx nx':Nat} (h:b4 w I β σ nx) (hn:nx≤nx'):b4 w I β σ nx':=⟨h.own,h.inj,fun id hid=>h.free id (by omega),h.lt⟩
theorem aj.bump {w w':World} {I I':Nat→Prop} {β β':bA} {σ σ':ae} {nx nx' nx'':Nat} (h:aj w I β σ nx w' I' β' σ' nx') (hn:nx'≤nx''):aj w I β σ nx w' I' β' σ' nx'' :={ h with mem:=h.mem.bump hn,nx:=by have:=h.nx;omega }
theorem lf {b:Bool} {p q r:Prop} (h:gI b p q) (h1:b=true→p→r) (h2:b=false→q→r):r:=by
 cases b with
 | true=>exact h1 rfl (h.1 rfl)
 | false=>exact h2 rfl (h.2 rfl)
theorem yW {a:Act} {w:World} {I:Nat→Prop} {β:bA} {e:aC} (he : ∀t,ax w I β (e.get t) (a.tmps.getD t undef)) {j d:Nat} {b:Bool} (hd:(ops[j]?).bind (·.dst)=some d) (hb:e.get d = .d (.lit (.bool b))):yielded ops a.tmps j=some b:=by
 have h1:=he d;rw [hb] at h1;have h2:=an h1;have h3:a.tmps[d]? = some (.bool b):=by
  cases h:a.tmps[d]? with
  | none=>simp [Array.getD_eq_getD_getElem?,h,undef] at h2
  | some x=>simp [Array.getD_eq_getD_getElem?,h] at h2;rw [h2]
 unfold yielded;rw [hd];show (match (a.tmps[d]? : Option Value) with|some (.bool b)=>some b|_=>none)=some b;rw [h3]
theorem uz {w:World} {I:Nat→Prop} {β:bA} {e:aC} {a:Act} (he : ∀t,ax w I β (e.get t) (a.tmps.getD t undef)) {d:Nat} {b c:Bool} (hb:e.get d = .d (.lit (.bool b))) (hbc:b=c) : ∀t,ax w I β ((e.put d (.d (.lit (.bool c)))).get t) (a.tmps.getD t undef):=by
 intro t;rw [aC.get_put];split
 ·rename_i h;subst h;subst hbc;rw [←hb];exact he d
 ·exact he t
theorem uA {w:World} {I:Nat→Prop} {β:bA} {x:Value} (h:ax w I β (.tup []) x):x=undef:=by
 obtain ⟨vs,rfl,hl,_⟩:=h;have:vs=[]:=List.eq_nil_of_length_eq_zero (by simpa using hl.symm);subst this;rfl
theorem wy {w:World} {I:Nat→Prop} {β:bA} : ax w I β (.tup []) undef:=⟨[],rfl,rfl,by simp⟩
theorem jm {tmps:Array Value} {j d:Nat} (hd:(ops[j]?).bind (·.dst)=some d) (h:tmps.getD d undef=undef):yielded ops tmps j=none:=by
 unfold yielded;rw [hd];show (match (tmps[d]? : Option Value) with|some (.bool b)=>some b|_=>none)=none;cases hx:tmps[d]? with
 | none=>rfl
 | some x=>
  simp [Array.getD_eq_getD_getElem?,hx] at h;subst h;rfl
theorem s4 {o:Oper} {e:aC} {yes no:aC→Prop} (h:bO ops o e yes no) : ∃e' b,(∀w I β (a:Act),(∀t,ax w I β (e.get t) (a.tmps.getD t undef))→(∀t,ax w I β (e'.get t) (a.tmps.getD t undef))∧Region.wanted o (yielded ops a.tmps)=b)∧(b=true→yes e')∧(b=false→no e'):=by
 unfold bO at h;split at h
 ·rename_i hg;exact ⟨e,true,fun w I β a he=>⟨he,by simp [Region.wanted,hg]⟩,fun _=>h,fun h=>by cases h⟩
 ·rename_i j want hg;obtain ⟨d,hd,h⟩:=cg h;unfold mW at h;split at h
  ·rename_i b hb;have hw : ∀w I β (a:Act),(∀t,ax w I β (e.get t) (a.tmps.getD t undef))→Region.wanted o (yielded ops a.tmps)=(b==want):=fun w I β a he=>by
    have:=yW (ops:=ops) he hd hb;simp [Region.wanted,hg,this]
   refine lf h (fun e1 h9 =>?_) (fun e1 h9 =>?_)
   ·subst e1;refine ⟨_,want,fun w I β a he=>⟨uz he hb rfl,by rw [hw w I β a he];cases want<;>rfl⟩,fun hh =>?_,fun hh =>?_⟩
    ·subst hh;simpa using h9
    ·subst hh;simpa using h9
   ·subst e1;refine ⟨_,!want,fun w I β a he=>⟨uz he hb rfl,by rw [hw w I β a he];cases want<;>rfl⟩,fun hh =>?_,fun hh =>?_⟩
    ·have:want=false:=by simpa using hh
     subst this;simpa using h9
    ·have:want=true:=by simpa using hh
     subst this;simpa using h9
  ·rename_i hb;refine ⟨e,false,fun w I β a he=>⟨he,?_⟩,fun hh=>(by cases hh),fun _=>h⟩;have h1:=he d;rw [hb] at h1;simp [Region.wanted,hg,jm hd (uA h1)]
  ·exact h.elim
theorem gq {base nx:Nat} (hn:base+4*ops.size≤nx) (hdst : ∀(i:Nat) o x,ops[i]? = some o→o.dst=some x→x<C.n) {K:aC→ae→Prop} (hQ : ∀e σ a w,K e σ→dC C G e σ nx (base+4*ops.size) a w→Q .normal a w) :
 ∀(r:List Oper) (i:Nat) (e:aC) (σ:ae) (a:Act) (w:World),ops.toList.drop i=r→ky P G ops base i r e σ K→dC C G e σ nx (base+4*i) a w→i≤ops.size→wpOpsIn (Fr fr) 0 P ops Q (List.range' i (ops.size - i)) a w
 | [],i,e,σ,a,w,hr,h,hrel,hi=>by
  have hsz:ops.size≤i:=by
   have:=congrArg List.length hr;simp at this;omega
  have:i=ops.size:=by omega
  subst this;rw [Nat.sub_self];exact hQ e σ a w h hrel
 | o::r,i,e,σ,a,w,hr,h,hrel,hi=>by
  have hlt:i<ops.size:=by
   have:=congrArg List.length hr;simp at this;omega
  have ho:ops[i]? = some o:=by
   have:ops.toList[i]? = some o:=by
    have h1:(ops.toList.drop i)[0]? = some o:=by rw [hr];rfl
    rwa [List.getElem?_drop,Nat.add_zero] at h1
   simpa using this
  have hr':ops.toList.drop (i+1)=r:=by
   rw [←List.drop_drop,hr];rfl
  have hrange:List.range' i (ops.size - i)=i::List.range' (i+1) (ops.size - (i+1)):=by
   rw [show ops.size - i=(ops.size - (i+1))+1 from by omega,List.range'_succ]
  rw [hrange,wpOpsIn_cons];unfold wpOpIn;rw [ho];simp only [];obtain ⟨I,β,hst,hfr,hen,hsz,hdf,hG⟩:=hrel;obtain ⟨e',b,g1,g2,g3⟩:=s4 (show bO ops o e _ _ from h);obtain ⟨hen',hw⟩:=g1 w I β a hen;rw [hw];cases b with
  | true=>
   rw [if_pos rfl];obtain ⟨v,σ',hK,hsem⟩:=cZ (g2 rfl);have hd:=hsem w I β nx a hst.mem hG (fun j hj _=>hfr j hj) (by omega) (fun x _=>nh hen' hG x);refine hd.wpIn (fun u w' ⟨I',β',hu,hst',hfr'⟩ =>?_);refine gq hn hdst hQ r (i+1) _ σ' _ w' hr' hK ⟨I',β',hst.trans hst',fun j hj =>?_,sJ (fun t=>hst'.den hst.mem (hen' t)) (fun x hx=>by rw [hsz];exact hdst i o x ho hx) hu,by rw [fM];exact hsz,by rw [dz];exact hdf.step hst',hG.step hst.mem hst'⟩ (by omega);rw [hfr' j (by omega)];exact hfr j (by omega)
  | false=>
   rw [if_neg (by simp)];refine ⟨fun _ _=>trivial,?_⟩;refine gq hn hdst hQ r (i+1) _ σ _ w hr' (g3 rfl) ⟨I,β,hst,fun j hj=>hfr j (by omega),sJ hen' (fun x hx=>by rw [hsz];exact hdst i o x ho hx) wy,by rw [fM];exact hsz,by rw [dz];exact hdf,hG⟩ (by omega)
end
def u7:Op→Bool
 | .store _ _ _=>true
 | .next _ _=>true
 | .mapUpdate _ _ _ _=>true
 | .lookup _ _ _ _=>true
 | .call c=>match c.callee with
  | .builtin .append=>true
  | .builtin .copy=>true
  | .builtin .clear=>true
  | .builtin .unsafeString=>true
  | _=>false
 | _=>false
def s9:Op→Bool
 | .move _ | .assign _ | .nilCheck _ | .binOp _ _ _ _ _ | .unOp _ _ _ | .convert _ _ _ | .makeInterface _ _ | .makeFunc _ _ _ | .slice _ _ _ _ _ | .fieldAddr _ _ _ | .field _ _ _ | .indexAddr _ _ _ | .index _ _ _ | .typeAssert _ _ _ _ | .extract _ _ | .build _ _ | .pick _ _ _=>true
 | .call c=>match c.callee with
  | .builtin .len=>true
  | .builtin .max=>true
  | .builtin .min=>true
  | _=>false
 | _=>false
def rG (lo:List Nat) (i:Nat) (op:Op):Bool:=s9 op||lo.contains i
def cp:Op→Bool
 | .call c=>match c.callee with
  | .value _=>true
  | _=>false
 | _=>false
def HP (acc:List Nat) (es:List Edge):Nat:=es.foldl (fun s e=>if Region.binds .any e=true then s ||| 2 ^ e.on ||| acc.getD e.on 0 else s) 0
def jq (acc:List Nat):List Oper→List Nat
 | []=>acc
 | o::r=>jq (acc++[HP acc o.after.toList]) r
def eC (ops:Array Oper) (o:Oper):List Nat:=o.dst.toList++o.looksAt ops
def zd (o:Oper) (l:List Nat):Bool:=match o.dst with
 | some d=>l.contains d
 | none=>false
def gV (lo:List Nat) (ops:Array Oper) (i:Nat) (x:Oper) (j:Nat) (y:Oper):Bool:=zd x (eC ops y)||zd y (eC ops x)||(u7 x.op && !rG lo j y.op)||(u7 y.op && !rG lo i x.op)
def zf (i:Nat) (o:Oper):Bool:=o.after.toList.all fun e=> !Region.binds .any e||decide (e.on<i)
def oX (lo:List Nat) (ops:Array Oper) (B:List Nat) (y:Oper) (j:Nat):Nat→List Oper→Bool
 | _,[]=>true
 | i,x::r=>if i<j then (!gV lo ops i x j y||(B.getD j 0).testBit i)&&oX lo ops B y j (i+1) r else true
def y3 (lo:List Nat) (ops:Array Oper) (B:List Nat) (l:List Oper):Nat→List Oper→Bool
 | _,[]=>true
 | j,y::r=>zf j y&&oX lo ops B y j 0 l&&y3 lo ops B l (j+1) r
def bM (lo:List Nat) (ops:Array Oper):Bool:=y3 lo ops (jq [] ops.toList) ops.toList 0 ops.toList
def x9:Nat→List Oper→List Nat
 | _,[]=>[]
 | i,o::r=>(match o.op with | .load _ _=>[i]|_=>[])++x9 (i+1) r
def tg (ops:Array Oper):List Nat:=x9 0 ops.toList
def qs (lo:List Nat):Nat→List Oper→Bool
 | _,[]=>true
 | i,o::r=>(!lo.contains i||(!u7 o.op && !cp o.op))&&qs lo (i+1) r
theorem Bo {lo:List Nat} (l:List Oper) : ∀(i:Nat),qs lo i l=true → ∀(k:Nat) x,l[k]? = some x→lo.contains (i+k)=true→u7 x.op=false∧cp x.op=false:=by
 induction l with
 | nil=>intro i _ k x hx;simp at hx
 | cons y r ih=>
  intro i h k x hx hc;simp only [qs,Bool.and_eq_true,Bool.or_eq_true,Bool.not_eq_true'] at h;cases k with
  | zero=>
   simp at hx;subst hx;rw [Nat.add_zero] at hc;rcases h.1 with h1|h1
   ·rw [hc] at h1;cases h1
   ·exact h1
  | succ k=>exact ih (i+1) h.2 k x (by simpa using hx) (by rw [show i+1+k=i+(k+1) from by omega];exact hc)
def zE (lo B:List Nat) (i:Nat):Nat→List Oper→Bool
 | _,[]=>true
 | j,x::r=>(rG lo j x.op||(if j=i then true else if j<i then (B.getD i 0).testBit j else (B.getD j 0).testBit i))&&zE lo B i (j+1) r
def eA (lo:List Nat) (ops:Array Oper) (i:Nat):Bool:=zE lo (jq [] ops.toList) i 0 ops.toList
theorem x7 {lo B:List Nat} {i:Nat} (l:List Oper) : ∀(j:Nat),zE lo B i j l=true → ∀(k:Nat) x,l[k]? = some x→rG lo (j+k) x.op=false→(j+k<i→(B.getD i 0).testBit (j+k)=true)∧(i<j+k→(B.getD (j+k) 0).testBit i=true):=by
 induction l with
 | nil=>intro j _ k x hx;simp at hx
 | cons y r ih=>
  intro j h k x hx hp;simp only [zE,Bool.and_eq_true,Bool.or_eq_true] at h;cases k with
  | zero=>
   simp at hx;subst hx;rw [Nat.add_zero] at hp;rcases h.1 with h1|h1
   ·rw [hp] at h1;cases h1
   ·rw [Nat.add_zero];constructor
    ·intro hlt;rw [if_neg (by omega),if_pos hlt] at h1;exact h1
    ·intro hlt;rw [if_neg (by omega),if_neg (by omega)] at h1;exact h1
  | succ k=>
   have:=ih (j+1) h.2 k x (by simpa using hx) (by rw [show j+1+k=j+(k+1) from by omega];exact hp);rw [show j+(k+1)=j+1+k from by omega];exact this
theorem vU {lo:List Nat} {ops:Array Oper} {B:List Nat} {y:Oper} {j:Nat} (l:List Oper) : ∀(i:Nat),oX lo ops B y j i l=true → ∀(k:Nat) x,l[k]? = some x→i+k<j→gV lo ops (i+k) x j y=true→(B.getD j 0).testBit (i+k)=true:=by
 induction l with
 | nil=>intro i h k x hx;simp at hx
 | cons x r ih=>
  intro i h k x' hx hlt hc;unfold oX at h;rw [if_pos (by omega)] at h;simp only [Bool.and_eq_true,Bool.or_eq_true,Bool.not_eq_true'] at h;cases k with
  | zero=>
   simp at hx;subst hx;rw [Nat.add_zero] at hc ⊢;rcases h.1 with h1|h1
   ·rw [hc] at h1;cases h1
   ·exact h1
  | succ k=>
   have:=ih (i+1) h.2 k x' (by simpa using hx) (by omega) (by rw [show i+1+k=i+(k+1) from by omega];exact hc);rw [show i+(k+1)=i+1+k from by omega];exact this
theorem nG {lo:List Nat} {ops:Array Oper} {B:List Nat} {l:List Oper} (r:List Oper) : ∀(j:Nat),y3 lo ops B l j r=true → ∀(k:Nat) y,r[k]? = some y→zf (j+k) y=true∧oX lo ops B y (j+k) 0 l=true:=by
 induction r with
 | nil=>intro j h k y hy;simp at hy
 | cons y r ih=>
  intro j h k y' hy;simp only [y3,Bool.and_eq_true] at h;cases k with
  | zero=>simp at hy;subst hy;exact ⟨h.1.1,h.1.2⟩
  | succ k=>
   have:=ih (j+1) h.2 k y' (by simpa using hy);rw [show j+(k+1)=j+1+k from by omega];exact this
def gO (ol:List Oper) (S:Nat→Bool):Prop:= ∀(j:Nat) o,ol[j]? = some o→S j=true → ∀e∈o.after.toList,Region.binds .any e=true→S e.on=true
theorem jU {S:Nat→Bool} {acc:List Nat} (hacc : ∀(j:Nat) m,acc[j]? = some m→S j=true → ∀i,m.testBit i=true→S i=true) : ∀(es:List Edge),(∀e∈es,Region.binds .any e=true→S e.on=true) →
 ∀s,(∀i,s.testBit i=true→S i=true) → ∀i,(es.foldl (fun s e=>if Region.binds .any e=true then s ||| 2 ^ e.on ||| acc.getD e.on 0 else s) s).testBit i=true→S i=true
 | [],_,s,hs,i,h=>hs i h
 | e::es,he,s,hs,i,h=>by
  rw [List.foldl_cons] at h;refine jU hacc es (fun x hx=>he x (by simp [hx])) _ (fun k hk =>?_) i h;split at hk
  ·rename_i hb;have hon:=he e (by simp) hb;rw [Nat.testBit_or,Nat.testBit_or] at hk;simp only [Bool.or_eq_true] at hk;rcases hk with (hk|hk)|hk
   ·exact hs k hk
   ·have:e.on=k:=by
     rw [Nat.testBit_two_pow] at hk;simpa using hk
    rw [←this];exact hon
   ·cases hg:acc[e.on]? with
    | none=>simp [List.getD,hg] at hk
    | some m=>
     simp [List.getD,hg] at hk;exact hacc e.on m hg hon k hk
  ·exact hs k hk
theorem eU {ol:List Oper} {S:Nat→Bool} (hS:gO ol S) : ∀(r:List Oper) (acc:List Nat),ol.drop acc.length=r→(∀(j:Nat) m,acc[j]? = some m→S j=true → ∀i,m.testBit i=true→S i=true) →
 ∀(j:Nat) m,(jq acc r)[j]? = some m→S j=true → ∀i,m.testBit i=true→S i=true
 | [],acc,_,hacc=>hacc
 | o::r,acc,hd,hacc=>by
  refine eU hS r (acc++[HP acc o.after.toList]) (by simp;rw [←List.drop_drop,hd];rfl) (fun j m hj hSj =>?_);rw [List.getElem?_append] at hj;split at hj
  ·exact hacc j m hj hSj
  ·rename_i hge;have hje:j=acc.length:=by
    have:=(List.getElem?_eq_some_iff.1 hj).1;simp at this;omega
   subst hje;simp at hj;subst hj;have ho:ol[acc.length]? = some o:=by
    have h1:(ol.drop acc.length)[0]? = some o:=by rw [hd];rfl
    rwa [List.getElem?_drop,Nat.add_zero] at h1
   exact jU hacc _ (fun e he hb=>hS _ o ho hSj e he hb) 0 (fun i hi=>by simp at hi)
theorem jS : ∀(r:List Oper) (acc:List Nat),(jq acc r).length=acc.length+r.length
 | [],acc=>by simp [jq]
 | o::r,acc=>by rw [jq,jS];simp;omega
def dO (P:Program) (G:Gl) (lo:List Nat) (ops:Array Oper) (i:Nat) (k:Nat) (args:List V) (σp acc:ae) (id:Nat) (Kq Ke:V→ae→Prop) (_u:Tag Kq:= .mk) (_v:Tag Ke:= .mk) (_w:Tag ops:= .mk) (_h:True:=trivial):Prop:=
 cJ P G k args σp id Kq∨(eA lo ops i=true∧aB P G k args (σp++acc) id Ke)
def eM (P:Program) (G:Gl) (lo:List Nat) (ops:Array Oper) (i:Nat) (op:Op) (g:Operand→V) (σp acc:ae) (id:Nat) (Kq Ke:V→ae→Prop):Prop:=match op with
 | .call c=>match c.callee with
  | .value f=>a8 (g f) (fun k caps=>dO P G lo ops i k (c.args.toList.map g++caps) σp acc id Kq Ke) (fun j=>eA lo ops i=true∧ff P G j (c.args.toList.map g) (σp++acc) id Ke) (fun k fs=>dO P G lo ops i k (fs++(c.args.toList.map g++[])) σp acc id Kq Ke)
  | _=>False
 | _=>False
def BB (new:ae) (K:Prop):Prop:=new=[]∧K
def tH (σk σ:ae) (K:Prop):Prop:=match σk with
 | []=>K
 | σk=>ar σk σ∧K
theorem lR {σk σ:ae} {K:Prop} (h:tH σk σ K):ar σk σ∧K:=by
 unfold tH at h;split at h
 ·exact ⟨fun _ _ hh=>by simp [ae.get] at hh,h⟩
 ·exact h
def sx (lo:List Nat) (ops:Array Oper) (i:Nat):Bool:=lo.all fun j=>((jq [] ops.toList).getD i 0).testBit j
def DG (lo:List Nat) (ops:Array Oper) (i:Nat) (σk:ae):ae:=if sx lo ops i=true then [] else σk
theorem rq {lo:List Nat} {ops:Array Oper} {i:Nat} {σk σ:ae} {K:Prop} (h:tH (DG lo ops i σk) σ K):(ar σk σ∨sx lo ops i=true)∧K:=by
 unfold DG at h;split at h
 ·rename_i ha;exact ⟨.inr ha,(lR h).2⟩
 ·exact ⟨.inl (lR h).1,(lR h).2⟩
def opsL (P:Program) (G:Gl) (lo:List Nat) (σk:ae) (ops:Array Oper) (base:Nat):Nat→List Oper→aC→ae→ae→(aC→ae→Prop)→Prop
 | _,[],e,σp,acc,K=>K e (σp++acc)
 | i,o::r,e,σp,acc,K=>bO ops o e
  (fun e=>if u7 o.op=true then aG P G o.op (di G e.get) (σp++acc) (base+4*i) fun v σ'=>tH (DG lo ops i σk) σ' (opsL P G lo σk ops base (i+1) r (e.putO o.dst v) σ' [] K)
   else if cp o.op=true then eM P G lo ops i o.op (di G e.get) σp acc (base+4*i) (fun v new=>opsL P G lo σk ops base (i+1) r (e.putO o.dst v) σp (acc++new) K) (fun v σ'=>tH (DG lo ops i σk) σ' (opsL P G lo σk ops base (i+1) r (e.putO o.dst v) σ' [] K))
   else if lo.contains i=true then aH P G o.op (di G e.get) σk (base+4*i) fun v new=>BB new (opsL P G lo σk ops base (i+1) r (e.putO o.dst v) σp acc K)
   else aH P G o.op (di G e.get) σp (base+4*i) fun v new=>opsL P G lo σk ops base (i+1) r (e.putO o.dst v) σp (acc++new) K)
  (fun e=>opsL P G lo σk ops base (i+1) r (e.putO o.dst (.tup [])) σp acc K)
def oV (P:Program) (G:Gl) (ops:Array Oper):=opsL P G [] [] ops
inductive jP where
 | skip
 | p (v:V)
 | q (v:V) (new:ae)
 | e (v:V) (σ':ae)
def jP.val:jP→V
 | .skip=> .tup []
 | .p v=>v
 | .q v _=>v
 | .e v _=>v
def jP.app (r:jP) (σ:ae):ae:=match r with
 | .skip=>σ
 | .p _=>σ
 | .q _ new=>σ++new
 | .e _ σ'=>σ'
section
variable (ol:List Oper) (ρ:Nat→jP) (F0:Nat→V) (σ0:ae) (S:Nat→Bool)
def eS:Nat→Nat→V
 | 0,t=>F0 t
 | j+1,t=>if S j=true∧(ol[j]?).bind (·.dst)=some t then (ρ j).val else eS j t
def sS:Nat→ae
 | 0=>σ0
 | j+1=>if S j=true then (ρ j).app (sS j) else sS j
def bS:Nat→ae
 | 0=>σ0
 | j+1=>match ρ j with
  | .e _ σ'=>σ'
  | _=>bS j
end
abbrev bJ:Nat→Bool:=fun _=>true
def xm (P:Program) (G:Gl) (lo:List Nat) (σk:ae) (ops:Array Oper) (base:Nat) (ρ:Nat→jP) (F0:Nat→V) (σ0:ae) (i:Nat):Prop:=
 ∀o,ops.toList[i]? = some o → ∃b,(∀w I β (a:Act),(∀t∈o.looksAt ops,ax w I β (eS ops.toList ρ F0 bJ i t) (a.tmps.getD t undef))→Region.wanted o (yielded ops a.tmps)=b) ∧
  match ρ i with
  | .skip=>b=false
  | .p v=>b=true∧rG lo i o.op=true ∧ ∀σ,(lo.contains i=true→ar σk σ)→a7 P G o (di G (eS ops.toList ρ F0 bJ i)) σ (base+4*i) v σ
  | .q v new=>b=true∧rG lo i o.op=false∧ma (base+4*i) new∧eg P G o (di G (eS ops.toList ρ F0 bJ i)) (bS ρ σ0 i) (base+4*i) v new
  | .e v σ'=>b=true∧(rG lo i o.op=false∧(u7 o.op=true∨eA lo ops i=true)∧(ar σk σ'∨sx lo ops i=true))∧a7 P G o (di G (eS ops.toList ρ F0 bJ i)) (sS ρ σ0 bJ i) (base+4*i) v σ'
section
variable {ol:List Oper} {ρ ρ':Nat→jP} {F0:Nat→V} {σ0:ae} {S:Nat→Bool}
theorem cF : ∀ {i:Nat},(∀j,j<i→ρ j=ρ' j) → ∀t,eS ol ρ F0 S i t=eS ol ρ' F0 S i t
 | 0,_,_=>rfl
 | i+1,h,t=>by simp only [eS];rw [h i (by omega),cF (fun j hj=>h j (by omega))]
theorem fQ : ∀ {i:Nat},(∀j,j<i→ρ j=ρ' j)→sS ρ σ0 S i=sS ρ' σ0 S i
 | 0,_=>rfl
 | i+1,h=>by simp only [sS];rw [h i (by omega),fQ (fun j hj=>h j (by omega))]
theorem ft : ∀ {i:Nat},(∀j,j<i→ρ j=ρ' j)→bS ρ σ0 i=bS ρ' σ0 i
 | 0,_=>rfl
 | i+1,h=>by simp only [bS];rw [h i (by omega),ft (fun j hj=>h j (by omega))]
theorem xm.congr {P:Program} {G:Gl} {lo:List Nat} {σk:ae} {ops:Array Oper} {base i:Nat} (h : ∀j,j≤i→ρ j=ρ' j) (hl:xm P G lo σk ops base ρ F0 σ0 i):xm P G lo σk ops base ρ' F0 σ0 i:=by
 intro o ho;obtain ⟨b,h1,h2⟩:=hl o ho;have e1:eS ops.toList ρ F0 bJ i=eS ops.toList ρ' F0 bJ i:=funext fun t=>cF (fun j hj=>h j (by omega)) t
 have e2:sS ρ σ0 bJ i=sS ρ' σ0 bJ i:=fQ (fun j hj=>h j (by omega));have e3:bS ρ σ0 i=bS ρ' σ0 i:=ft (fun j hj=>h j (by omega));rw [e1,e2,e3,h i (Nat.le_refl _)] at h2;rw [e1] at h1;exact ⟨b,h1,h2⟩
end
section
variable {P:Program} {G:Gl} {C:qf} {ops:Array Oper} {Q:Exit→Act→World→Prop}
theorem sZ {o:Oper} {e:aC} {yes no:aC→Prop} (h:bO ops o e yes no) : ∃e' b,(∀t,e'.get t=e.get t)∧(∀w I β (a:Act),(∀t∈o.looksAt ops,ax w I β (e.get t) (a.tmps.getD t undef))→Region.wanted o (yielded ops a.tmps)=b)∧(b=true→yes e')∧(b=false→no e'):=by
 unfold bO at h;split at h
 ·rename_i hg;exact ⟨e,true,fun _=>rfl,fun w I β a _=>by simp [Region.wanted,hg],fun _=>h,fun h=>by cases h⟩
 ·rename_i j want hg;obtain ⟨d,hd,h⟩:=cg h;unfold mW at h;split at h
  ·rename_i b hb;have hlk:d∈o.looksAt ops:=by simp [Oper.looksAt,hg,hd]
   have hw : ∀w I β (a:Act),(∀t∈o.looksAt ops,ax w I β (e.get t) (a.tmps.getD t undef))→Region.wanted o (yielded ops a.tmps)=(b==want):=fun w I β a he=>by
    have h1:=he d hlk;rw [hb] at h1;have h2:=an h1;have h3:a.tmps[d]? = some (.bool b):=by
     cases h:a.tmps[d]? with
     | none=>simp [Array.getD_eq_getD_getElem?,h,undef] at h2
     | some x=>simp [Array.getD_eq_getD_getElem?,h] at h2;rw [h2]
    have:yielded ops a.tmps j=some b:=by
     unfold yielded;rw [hd];show (match (a.tmps[d]? : Option Value) with|some (.bool b)=>some b|_=>none)=some b;rw [h3]
    simp [Region.wanted,hg,this]
   have hsame : ∀(c:Bool),b=c → ∀t,(e.put d (.d (.lit (.bool c)))).get t=e.get t:=by
    rintro c rfl t;rw [aC.get_put];split
    ·rename_i hh;subst hh;exact hb.symm
    ·rfl
   refine lf h (fun e1 h9 =>?_) (fun e1 h9 =>?_)
   ·refine ⟨_,want,hsame true e1,fun w I β a he=>by rw [hw w I β a he,e1];cases want<;>rfl,fun hh =>?_,fun hh =>?_⟩
    ·subst hh;simpa using h9
    ·subst hh;simpa using h9
   ·refine ⟨_,!want,hsame false e1,fun w I β a he=>by rw [hw w I β a he,e1];cases want<;>rfl,fun hh =>?_,fun hh =>?_⟩
    ·have:want=false:=by simpa using hh
     subst this;simpa using h9
    ·have:want=true:=by simpa using hh
     subst this;simpa using h9
  ·rename_i hb;have hlk:d∈o.looksAt ops:=by simp [Oper.looksAt,hg,hd]
   refine ⟨e,false,fun _=>rfl,fun w I β a he =>?_,fun hh=>(by cases hh),fun _=>h⟩;have h1:=he d hlk;rw [hb] at h1;simp [Region.wanted,hg,jm hd (uA h1)]
  ·exact h.elim
theorem Jh {op:Op} (h:u7 op=true):s9 op=false:=by
 cases op<;>simp only [u7,Bool.false_eq_true] at h<;>try rfl
 case call c=>
  unfold s9;simp only;split at h<;>first
   | (exfalso;revert h;simp;done)
   | (rename_i hc;simp only [hc])
theorem BN {o:Oper} {g:Operand→V} {σ:ae} {id:Nat} {K:V→ae→Prop} (hp:s9 o.op=true) (h:aH P G o.op g σ id K) : ∃v,K v [] ∧ ∀σ id,a7 P G o g σ id v σ:=by
 have key:d5 o.op (aW P o.op g σ id) K→aR P o.op g σ id=none → ∃v,K v [] ∧ ∀σ id,a7 P G o g σ id v σ:=by
  intro h1 h2;obtain ⟨p,v,s,e1,e2,e3⟩:=eE h1;unfold aW at e1;split at e1
  ·rename_i p' v' hq;injection e1 with e1;injection e1 with q1 e1;injection e1 with q2 q3;subst q1;subst q2;subst q3;exact ⟨_,e3,fun σ id=>v8 hq e2 σ id⟩
  ·rw [h2] at e1;cases e1
 unfold aH at h;split at h;case h_1 c x y ho=>
  obtain ⟨v,h1,h2⟩:=oZ (G:=G) ho h;exact ⟨v,h1,h2⟩
 case h_2 t x ho=>rw [ho] at hp;cases hp
 case h_3 c ho=>
  have hp':=hp;rw [ho] at hp';unfold s9 at hp';simp only at hp';split at h
  ·rename_i f hc;rw [hc] at hp';cases hp'
  ·refine key (by rw [ho] at h ⊢;exact h) ?_;rw [ho];split at hp'<;>first
    | (cases hp';done)
    | (rename_i hc;simp only [aR,hc];done)
  ·exact h.elim
 case h_4 _ _ n3=>
  refine key h ?_;generalize hop:o.op=op at hp;cases op<;>first
   | rfl
   | (cases hp;done)
   | exact (n3 _ hop).elim
theorem t4 {lo:List Nat} {o:Oper} {g:Operand→V} {i:Nat} {σp acc:ae} {id:Nat} {Kq Ke:V→ae→Prop} (h:eM P G lo ops i o.op g σp acc id Kq Ke) :
 s9 o.op=false∧((∃v new,Kq v new∧ma id new∧eg P G o g σp id v new)∨(eA lo ops i=true ∧ ∃v σ',Ke v σ'∧a7 P G o g (σp++acc) id v σ')):=by
 unfold eM at h;split at h;case h_1 c ho=>
  split at h
  ·rename_i f hc;refine ⟨by rw [ho];simp only [s9,hc],?_⟩;have q1 : ∀ {K:V→ae→Prop},(a8 (g f) (fun k caps=>cJ P G k (c.args.toList.map g++caps) σp id K) (fun _=>False) (fun k fs=>cJ P G k (fs++(c.args.toList.map g++[])) σp id K))→aH P G o.op g σp id K:=by
    intro K hh;rw [ho];simp only [aH,hc];exact hh
   have q2 : ∀ {K:V→ae→Prop},(a8 (g f) (fun k caps=>aB P G k (c.args.toList.map g++caps) (σp++acc) id K) (fun j=>ff P G j (c.args.toList.map g) (σp++acc) id K) (fun k fs=>aB P G k (fs++(c.args.toList.map g++[])) (σp++acc) id K))→aG P G o.op g (σp++acc) id K:=by
    intro K hh;rw [ho];simp only [aG,hc];exact hh
   unfold a8 at h q1 q2;split at h
   ·rename_i k caps hk;rw [hk] at q1 q2;rcases h with h|⟨hl,h⟩
    ·exact .inl (df (q1 h))
    ·exact .inr ⟨hl,cZ (q2 h)⟩
   ·rename_i k caps hk;rw [hk] at q1 q2;rcases h with h|⟨hl,h⟩
    ·exact .inl (df (q1 h))
    ·exact .inr ⟨hl,cZ (q2 h)⟩
   ·rename_i j hj;rw [hj] at q2;exact .inr ⟨h.1,cZ (q2 h.2)⟩
   ·rename_i k caps hk;rw [hk] at q1 q2;rcases h with h|⟨hl,h⟩
    ·exact .inl (df (q1 h))
    ·exact .inr ⟨hl,cZ (q2 h)⟩
   ·exact h.elim
  ·exact h.elim
 ·exact h.elim
theorem trace {lo:List Nat} {σk:ae} (hlo : ∀(j:Nat) o,ops.toList[j]? = some o→lo.contains j=true→u7 o.op=false∧cp o.op=false) {base:Nat} {F0:Nat→V} {σ0:ae} {K:aC→ae→Prop} : ∀(r:List Oper) (i:Nat) (e:aC) (σp acc:ae) (ρ:Nat→jP),ops.toList.drop i=r→opsL P G lo σk ops base i r e σp acc K→i≤ops.size →
 (∀t,e.get t=eS ops.toList ρ F0 bJ i t)→σp=bS ρ σ0 i→σp++acc=sS ρ σ0 bJ i→(∀j,j<i→xm P G lo σk ops base ρ F0 σ0 j) →
 ∃ρ' e',(∀j,j<ops.size→xm P G lo σk ops base ρ' F0 σ0 j)∧K e' (sS ρ' σ0 bJ ops.size) ∧ ∀t,e'.get t=eS ops.toList ρ' F0 bJ ops.size t
 | [],i,e,σp,acc,ρ,hr,h,hi,he,hb,hs,hl=>by
  have:ops.size≤i:=by
   have:=congrArg List.length hr;simp at this;omega
  have:i=ops.size:=by omega
  subst this;refine ⟨ρ,e,hl,?_,he⟩;rw [←hs];exact h
 | o::r,i,e,σp,acc,ρ,hr,h,hi,he,hb,hs,hl=>by
  have hlt:i<ops.size:=by
   have:=congrArg List.length hr;simp at this;omega
  have ho:ops.toList[i]? = some o:=by
   have h1:(ops.toList.drop i)[0]? = some o:=by rw [hr];rfl
   rwa [List.getElem?_drop,Nat.add_zero] at h1
  have hr':ops.toList.drop (i+1)=r:=by
   rw [←List.drop_drop,hr];rfl
  obtain ⟨e',b,g1,g2,g3,g4⟩:=sZ (show bO ops o e _ _ from h);have hee:e'.get=eS ops.toList ρ F0 bJ i:=funext fun t=>(g1 t).trans (he t)
  have ext : ∀(rc:jP),∃ρ1:Nat→jP,ρ1 i=rc ∧ ∀j,j<i→ρ j=ρ1 j:=fun rc=>⟨fun j=>if j=i then rc else ρ j,by simp,fun j hj=>by simp [show j≠i by omega]⟩
  have putE : ∀(ρ1:Nat→jP) (v:V),(∀j,j<i→ρ j=ρ1 j)→(ρ1 i).val=v → ∀t,(e'.putO o.dst v).get t=eS ops.toList ρ1 F0 bJ (i+1) t:=by
   intro ρ1 v h1 h2 t;simp only [eS,ho,Option.bind_some,h2];rw [←cF h1,←hee];cases hd:o.dst with
   | none=>simp [aC.putO]
   | some d=>simp [aC.putO,aC.get_put]
  cases b with
  | false=>
   obtain ⟨ρ1,q1,q2⟩:=ext .skip;refine trace hlo r (i+1) _ σp acc ρ1 hr' (g4 rfl) (by omega) (putE ρ1 (.tup []) q2 (by rw [q1];rfl)) (by simp only [bS,q1];rw [←ft q2];exact hb) (by simp only [sS,q1,jP.app,if_true];rw [←fQ q2];exact hs) (fun j hj =>?_);rcases Nat.lt_or_ge j i with hji|hji
   ·exact (hl j hji).congr (fun k hk=>q2 k (by omega))
   ·have:j=i:=by omega
    subst this;intro o' ho';rw [ho] at ho';injection ho' with ho';subst ho';refine ⟨false,fun w I β a hh=>g2 w I β a (fun t ht =>?_),by rw [q1]⟩;rw [he t,cF q2];exact hh t ht
  | true=>
   have h5:=g3 rfl;have goE : ∀(v:V) (σ':ae),opsL P G lo σk ops base (i+1) r (e'.putO o.dst v) σ' [] K→a7 P G o (di G e'.get) (σp++acc) (base+4*i) v σ'→rG lo i o.op=false→(u7 o.op=true∨eA lo ops i=true)→(ar σk σ'∨sx lo ops i=true) →
    ∃ρ' e',(∀j,j<ops.size→xm P G lo σk ops base ρ' F0 σ0 j)∧K e' (sS ρ' σ0 bJ ops.size) ∧ ∀t,e'.get t=eS ops.toList ρ' F0 bJ ops.size t:=by
    intro v σ' hK hsem hE1 hE2 hE3;obtain ⟨ρ1,q1,q2⟩:=ext (.e v σ');refine trace hlo r (i+1) _ σ' [] ρ1 hr' hK (by omega) (putE ρ1 v q2 (by rw [q1];rfl)) (by simp only [bS,q1]) (by simp only [sS,q1,jP.app,if_true,List.append_nil]) (fun j hj =>?_);rcases Nat.lt_or_ge j i with hji|hji
    ·exact (hl j hji).congr (fun k hk=>q2 k (by omega))
    ·have:j=i:=by omega
     subst this;intro o' ho';rw [ho] at ho';injection ho' with ho';subst ho';refine ⟨true,fun w I β a hh=>g2 w I β a (fun t ht =>?_),?_⟩
     ·rw [he t,cF q2];exact hh t ht
     ·rw [q1];refine ⟨rfl,⟨hE1,hE2,hE3⟩,?_⟩;rw [hee,hs,fQ q2] at hsem;rwa [show eS ops.toList ρ F0 bJ j=eS ops.toList ρ1 F0 bJ j from funext fun t=>cF q2 t] at hsem
   have goQ : ∀(v:V) (new:ae),opsL P G lo σk ops base (i+1) r (e'.putO o.dst v) σp (acc++new) K→ma (base+4*i) new→eg P G o (di G e'.get) σp (base+4*i) v new→rG lo i o.op=false →
    ∃ρ' e',(∀j,j<ops.size→xm P G lo σk ops base ρ' F0 σ0 j)∧K e' (sS ρ' σ0 bJ ops.size) ∧ ∀t,e'.get t=eS ops.toList ρ' F0 bJ ops.size t:=by
    intro v new hK hnew hsem hpr;obtain ⟨ρ1,q1,q2⟩:=ext (.q v new);refine trace hlo r (i+1) _ σp (acc++new) ρ1 hr' hK (by omega) (putE ρ1 v q2 (by rw [q1];rfl)) (by simp only [bS,q1];rw [←ft q2];exact hb) (by simp only [sS,q1,jP.app,if_true];rw [←fQ q2,←hs,List.append_assoc]) (fun j hj =>?_);rcases Nat.lt_or_ge j i with hji|hji
    ·exact (hl j hji).congr (fun k hk=>q2 k (by omega))
    ·have:j=i:=by omega
     subst this;intro o' ho';rw [ho] at ho';injection ho' with ho';subst ho';refine ⟨true,fun w I β a hh=>g2 w I β a (fun t ht =>?_),?_⟩
     ·rw [he t,cF q2];exact hh t ht
     ·rw [q1];refine ⟨rfl,hpr,hnew,?_⟩;rw [hee,hb,ft q2] at hsem;rwa [show eS ops.toList ρ F0 bJ j=eS ops.toList ρ1 F0 bJ j from funext fun t=>cF q2 t] at hsem
   have goP : ∀(v:V),opsL P G lo σk ops base (i+1) r (e'.putO o.dst v) σp acc K→rG lo i o.op=true→(∀σ,(lo.contains i=true→ar σk σ)→a7 P G o (di G e'.get) σ (base+4*i) v σ) →
    ∃ρ' e',(∀j,j<ops.size→xm P G lo σk ops base ρ' F0 σ0 j)∧K e' (sS ρ' σ0 bJ ops.size) ∧ ∀t,e'.get t=eS ops.toList ρ' F0 bJ ops.size t:=by
    intro v hK hpr hsem;obtain ⟨ρ1,q1,q2⟩:=ext (.p v);refine trace hlo r (i+1) _ σp acc ρ1 hr' hK (by omega) (putE ρ1 v q2 (by rw [q1];rfl)) (by simp only [bS,q1];rw [←ft q2];exact hb) (by simp only [sS,q1,jP.app,if_true];rw [←fQ q2];exact hs) (fun j hj =>?_);rcases Nat.lt_or_ge j i with hji|hji
    ·exact (hl j hji).congr (fun k hk=>q2 k (by omega))
    ·have:j=i:=by omega
     subst this;intro o' ho';rw [ho] at ho';injection ho' with ho';subst ho';refine ⟨true,fun w I β a hh=>g2 w I β a (fun t ht =>?_),?_⟩
     ·rw [he t,cF q2];exact hh t ht
     ·rw [q1];refine ⟨rfl,hpr,fun σ hσ =>?_⟩;have hsem:=hsem σ hσ;rw [hee] at hsem;rwa [show eS ops.toList ρ F0 bJ j=eS ops.toList ρ1 F0 bJ j from funext fun t=>cF q2 t] at hsem
   have prN:lo.contains i=false→s9 o.op=false→rG lo i o.op=false:=fun h1 h2=>by unfold rG;rw [h1,h2];rfl
   have loN : ∀b:Bool,(lo.contains i=true→b=false)→b=true→lo.contains i=false:=fun b h1 h2=>by
    cases hc:lo.contains i with
    | false=>rfl
    | true=>rw [h1 hc] at h2;cases h2
   split at h5
   ·rename_i hE;obtain ⟨v,σ',hsK,hsem⟩:=cZ h5;obtain ⟨hsub,hK⟩:=rq hsK;exact goE v σ' hK hsem (prN (loN _ (fun hc=>(hlo i o ho hc).1) hE) (Jh hE)) (.inl hE) hsub
   ·rename_i hE;split at h5
    ·rename_i hV;have hN:=loN _ (fun hc=>(hlo i o ho hc).2) hV;obtain ⟨hpr,h6⟩:=t4 h5;rcases h6 with ⟨v,new,hK,hnew,hsem⟩|⟨hlate,v,σ',hsK,hsem⟩
     ·exact goQ v new hK hnew hsem (prN hN hpr)
     ·obtain ⟨hsub,hK⟩:=rq hsK;exact goE v σ' hK hsem (prN hN hpr) (.inr hlate) hsub
    ·split at h5
     ·rename_i hL;obtain ⟨v,new,⟨hnil,hK⟩,hnew,hsem⟩:=df h5;subst hnil;refine goP v hK (by unfold rG;rw [hL];simp) (fun σ hσ =>?_);have:=hsem σ (hσ hL);rwa [List.append_nil] at this
     ·rename_i hL;cases hpr:s9 o.op with
      | true=>
       obtain ⟨v,hK,hsem⟩:=BN hpr h5;rw [List.append_nil] at hK;exact goP v hK (by unfold rG;rw [hpr];rfl) (fun σ _=>hsem σ _)
      | false=>
       obtain ⟨v,new,hK,hnew,hsem⟩:=df h5;exact goQ v new hK hnew hsem (prN (by simpa using hL) hpr)
end
section
variable {P:Program} {G:Gl} {C:qf} {ops:Array Oper} {Q:Exit→Act→World→Prop} {ρ:Nat→jP} {F0:Nat→V} {σ0 σk:ae} {base nx:Nat} {lo:List Nat}
theorem kz (hd:bM lo ops=true) {i j:Nat} {x y:Oper} (hx:ops.toList[i]? = some x) (hy:ops.toList[j]? = some y) (hij:i<j) (hc:gV lo ops i x j y=true) {S:Nat→Bool} (hS:gO ops.toList S) (hj:S j=true):S i=true:=by
 have h1:=(nG ops.toList 0 hd j y hy).2;rw [Nat.zero_add] at h1;have h2:=vU ops.toList 0 h1 i x hx (by omega) (by rw [Nat.zero_add];exact hc);rw [Nat.zero_add] at h2;have hl:=jS ops.toList [];have hjl:j<(jq [] ops.toList).length:=by
  have:=(List.getElem?_eq_some_iff.1 hy).1;rw [hl];simp at this ⊢;omega
 have h3:=eU hS ops.toList [] rfl (by simp) j _ (List.getElem?_eq_getElem hjl) hj i;apply h3;simpa [List.getD,List.getElem?_eq_getElem hjl] using h2
def Ps (lo:List Nat) (ops:Array Oper) (i:Nat):Prop:= ∀(j:Nat) x,ops.toList[j]? = some x→rG lo j x.op=false → ∀S:Nat→Bool,gO ops.toList S→(j<i→S i=true→S j=true)∧(i<j→S j=true→S i=true)
theorem tY (hd:bM lo ops=true) {i:Nat} {o:Oper} (ho:ops.toList[i]? = some o) (h:u7 o.op=true∨eA lo ops i=true):Ps lo ops i:=by
 intro j x hx hpx S hS;rcases h with h|h
 ·exact ⟨fun hlt hi=>kz hd hx ho hlt (by simp [gV,h,hpx]) hS hi,fun hlt hj=>kz hd ho hx hlt (by simp [gV,h,hpx]) hS hj⟩
 ·have h2:=x7 ops.toList 0 h j x hx (by rw [Nat.zero_add];exact hpx);rw [Nat.zero_add] at h2;have hl:=jS ops.toList [];have fin : ∀ {a b:Nat},a<ops.toList.length→((jq [] ops.toList).getD a 0).testBit b=true→S a=true→S b=true:=by
   intro a b ha hb hSa;have hal:a<(jq [] ops.toList).length:=by rw [hl];simpa using ha
   exact eU hS ops.toList [] rfl (by simp) a _ (List.getElem?_eq_getElem hal) hSa b (by simpa [List.getD,List.getElem?_eq_getElem hal] using hb)
  exact ⟨fun hlt hi=>fin (List.getElem?_eq_some_iff.1 ho).1 (h2.1 hlt) hi,fun hlt hj=>fin (List.getElem?_eq_some_iff.1 hx).1 (h2.2 hlt) hj⟩
theorem FY (hd:bM lo ops=true) {j:Nat} {y:Oper} (hy:ops.toList[j]? = some y) {e:Edge} (he:e∈y.after.toList) (hb:Region.binds .any e=true):e.on<j:=by
 have h1:=(nG ops.toList 0 hd j y hy).1;rw [Nat.zero_add] at h1;have:=List.all_eq_true.1 h1 e he;simpa [hb] using this
theorem ux {i j:Nat} {x y:Oper} {t:Nat} (h:x.dst=some t) (h':t∈eC ops y):gV lo ops i x j y=true:=by
 simp [gV,zd,h,h']
theorem AS {i j:Nat} {x y:Oper} {t:Nat} (h:y.dst=some t) (h':t∈eC ops x):gV lo ops i x j y=true:=by
 simp [gV,zd,h,h']
theorem Bz {x:Oper} {t:Nat} (h:x.dst=some t):t∈eC ops x:=by simp [eC,h]
theorem oN {x:Oper} {t:Nat} (h:t∈x.looksAt ops):t∈eC ops x:=by simp [eC,h]
theorem xm.pr {S:Nat} {o:Oper} (h:xm P G lo σk ops base ρ F0 σ0 S) (ho:ops.toList[S]? = some o) (hp:rG lo S o.op=true) (σ:ae):(ρ S).app σ=σ:=by
 obtain ⟨b,_,hl⟩:=h o ho;cases hr:ρ S with
 | skip=>rfl
 | p v=>rfl
 | q v new=>rw [hr] at hl;rw [hl.2.1] at hp;cases hp
 | e v σ'=>rw [hr] at hl;rw [hl.2.1.1] at hp;cases hp
structure Nx (ops:Array Oper) (S S':Nat→Bool) (i:Nat) (o:Oper):Prop where
 ho:ops.toList[i]? = some o
 not:S i=false
 cl:gO ops.toList S
 cl':gO ops.toList S'
 same : ∀j,S' j=if j=i then true else S j
variable {S S':Nat→Bool} {i:Nat} {o:Oper}
theorem Nx.ahead (h:Nx ops S S' i o) (hd:bM lo ops=true) {j:Nat} {x:Oper} (hx:ops.toList[j]? = some x) (hji:j<i) (hc:gV lo ops j x i o=true):S j=true:=by
 have:=kz hd hx h.ho hji hc h.cl' (by rw [h.same];simp);rw [h.same] at this;simpa [show j≠i by omega] using this
theorem Nx.behind (h:Nx ops S S' i o) (hd:bM lo ops=true) {j:Nat} {x:Oper} (hx:ops.toList[j]? = some x) (hij:i<j) (hc:gV lo ops i o j x=true):S j=false:=by
 cases hj:S j with
 | false=>rfl
 | true=>
  have:=kz hd h.ho hx hij hc h.cl hj;rw [h.not] at this;cases this
theorem Nx.looks (h:Nx ops S S' i o) (hd:bM lo ops=true) {t:Nat} (ht:t∈eC ops o) : ∀m,eS ops.toList ρ F0 S m t=if m≤i then eS ops.toList ρ F0 bJ m t else eS ops.toList ρ F0 bJ i t:=by
 intro m;induction m with
 | zero=>simp [eS]
 | succ m ih=>
  by_cases hm:m+1≤i
  ·rw [if_pos hm];rw [if_pos (by omega)] at ih;simp only [eS,ih];by_cases hdt:(ops.toList[m]?).bind (·.dst)=some t
   ·cases hx:ops.toList[m]? with
    | none=>simp [hx] at hdt
    | some x=>
     have hxd:x.dst=some t:=by simpa [hx] using hdt
     have:=h.ahead hd hx (by omega) (ux hxd ht);simp [this]
   ·rw [if_neg (fun e=>hdt e.2),if_neg (fun e=>hdt e.2)]
  ·rw [if_neg hm];have hmi:eS ops.toList ρ F0 S m t=eS ops.toList ρ F0 bJ i t:=by
    rw [ih];by_cases h1:m≤i
    ·have:m=i:=by omega
     subst this;simp
    ·rw [if_neg h1]
   simp only [eS];rw [if_neg ?_]
   ·exact hmi
   ·rintro ⟨e1,e2⟩;by_cases h1:m=i
    ·subst h1;rw [h.not] at e1;cases e1
    ·cases hx:ops.toList[m]? with
     | none=>simp [hx] at e2
     | some x=>
      have hxd:x.dst=some t:=by simpa [hx] using e2
      have:=h.behind hd hx (by omega) (AS hxd ht);rw [this] at e1;cases e1
theorem Nx.env (h:Nx ops S S' i o) (hd:bM lo ops=true) (t:Nat) : ∀m,eS ops.toList ρ F0 S' m t=if i<m∧o.dst=some t then (ρ i).val else eS ops.toList ρ F0 S m t:=by
 intro m;induction m with
 | zero=>simp [eS]
 | succ m ih=>
  have e1:eS ops.toList ρ F0 S' (m+1) t=if S' m=true∧(ops.toList[m]?).bind (·.dst)=some t then (ρ m).val else eS ops.toList ρ F0 S' m t:=rfl
  have e2:eS ops.toList ρ F0 S (m+1) t=if S m=true∧(ops.toList[m]?).bind (·.dst)=some t then (ρ m).val else eS ops.toList ρ F0 S m t:=rfl
  have e3:=h.same m;rw [e1,e2,ih];rcases Nat.lt_trichotomy m i with hlt|heq|hgt
  ·rw [if_neg (show ¬m=i by omega)] at e3;have n1 : ¬(i<m∧o.dst=some t):=by omega
   have n2 : ¬(i<m+1∧o.dst=some t):=by omega
   rw [e3,if_neg n1,if_neg n2]
  ·subst heq;have n1 : ¬(m<m∧o.dst=some t):=by omega
   rw [if_pos rfl] at e3;rw [e3,if_neg n1,h.ho,h.not];simp
  ·rw [if_neg (show ¬m=i by omega)] at e3;rw [e3];by_cases hdt:o.dst=some t
   ·have hno : ¬(S m=true∧(ops.toList[m]?).bind (·.dst)=some t):=by
     rintro ⟨q1,q2⟩;cases hx:ops.toList[m]? with
     | none=>simp [hx] at q2
     | some x=>
      have hxd:x.dst=some t:=by simpa [hx] using q2
      have:=h.behind hd hx (by omega) (ux hdt (Bz hxd));rw [this] at q1;cases q1
    rw [if_neg hno,if_pos ⟨by omega,hdt⟩,if_pos ⟨by omega,hdt⟩]
   ·rw [if_neg (fun e:i<m∧o.dst=some t=>hdt e.2),if_neg (fun e:i<m+1∧o.dst=some t=>hdt e.2)]
theorem Nx.under (h:Nx ops S S' i o) (hd:bM lo ops=true) (hop:rG lo i o.op=false) (hloc : ∀j,j<ops.size→xm P G lo σk ops base ρ F0 σ0 j) : ∀m,m≤ops.size → ∃τ,sS ρ σ0 S m=(if m≤i then bS ρ σ0 m else bS ρ σ0 i)++τ:=by
 intro m;induction m with
 | zero=>intro _;exact ⟨[],by simp [sS,bS]⟩
 | succ m ih=>
  intro hm;obtain ⟨τ,hτ⟩:=ih (by omega);have hx : ∃x,ops.toList[m]? = some x:=⟨_,List.getElem?_eq_getElem (by simp;omega)⟩
  obtain ⟨x,hx⟩:=hx;obtain ⟨b,_,hl⟩:=hloc m (by omega) x hx;by_cases hmi:m+1≤i
  ·rw [if_pos hmi];rw [if_pos (by omega)] at hτ;simp only [sS,bS];cases hr:ρ m with
   | skip=>simp only [jP.app];split<;>exact ⟨τ,hτ⟩
   | p v=>simp only [jP.app];split<;>exact ⟨τ,hτ⟩
   | q v new=>
    simp only [jP.app];split
    ·exact ⟨τ++new,by rw [hτ,List.append_assoc]⟩
    ·exact ⟨τ,hτ⟩
   | e v σ'=>
    rw [hr] at hl;have hT:=tY hd hx hl.2.1.2.1;have h9:=(hT i o h.ho hop S' h.cl').2 (by omega) (by rw [h.same];simp);rw [h.same,if_neg (by omega)] at h9;rw [if_pos h9];exact ⟨[],by simp [jP.app]⟩
  ·rw [if_neg hmi];have hτ':sS ρ σ0 S m=bS ρ σ0 i++τ:=by
    rw [hτ];by_cases h1:m≤i
    ·have:m=i:=by omega
     subst this;simp
    ·rw [if_neg h1]
   simp only [sS];by_cases h1:m=i
   ·subst h1;rw [h.not,if_neg (by simp)];exact ⟨τ,hτ'⟩
   ·cases hr:ρ m with
    | skip=>simp only [jP.app];split<;>exact ⟨τ,hτ'⟩
    | p v=>simp only [jP.app];split<;>exact ⟨τ,hτ'⟩
    | q v new=>
     simp only [jP.app];split
     ·exact ⟨τ++new,by rw [hτ',List.append_assoc]⟩
     ·exact ⟨τ,hτ'⟩
    | e v σ'=>
     rw [hr] at hl;have hT:=tY hd hx hl.2.1.2.1;have this:S m=false:=by
      cases hs:S m with
      | false=>rfl
      | true=>
       have h9:=(hT i o h.ho hop S h.cl).1 (by omega) hs;rw [h.not] at h9;cases h9
     rw [this,if_neg (by simp)];exact ⟨τ,hτ'⟩
theorem Nx.early (h:Nx ops S S' i o) : ∀n,n≤i→sS ρ σ0 S' n=sS ρ σ0 S n:=by
 intro n;induction n with
 | zero=>intro _;rfl
 | succ n ihn=>
  intro hn;have e1:sS ρ σ0 S' (n+1)=if S' n=true then (ρ n).app (sS ρ σ0 S' n) else sS ρ σ0 S' n:=rfl
  have e3:=h.same n;rw [if_neg (show ¬n=i by omega)] at e3;rw [e1,e3,ihn (by omega)];rfl
theorem Nx.sig (h:Nx ops S S' i o) (hd:bM lo ops=true) {new:ae} (hop:rG lo i o.op=false∨new=[]) (hloc : ∀j,j<ops.size→xm P G lo σk ops base ρ F0 σ0 j) (hq : ∀σ,(ρ i).app σ=σ++new) (hnew:ma (base+4*i) new) : ∀m,m≤ops.size → ∀k,(sS ρ σ0 S' m).get k=if i<m then (sS ρ σ0 S m++new).get k else (sS ρ σ0 S m).get k:=by
 intro m;induction m with
 | zero=>intro _ k;simp [sS]
 | succ m ih=>
  intro hm k;have ih:=ih (by omega);obtain ⟨x,hx⟩ : ∃x,ops.toList[m]? = some x:=⟨_,List.getElem?_eq_getElem (by simp;omega)⟩
  obtain ⟨b,_,hl⟩:=hloc m (by omega) x hx;rcases Nat.lt_trichotomy m i with hlt|heq|hgt
  ·rw [if_neg (by omega)];rw [h.early (m+1) (by omega)]
  ·subst heq;rw [if_pos (by omega)];simp only [sS];rw [h.same,if_pos rfl,if_pos rfl,h.not,if_neg (by simp),hq,h.early m (Nat.le_refl _)]
  ·rw [if_pos (by omega)];have ih:=fun k=>(ih k).trans (if_pos hgt)
   have s1:sS ρ σ0 S' (m+1)=if S' m=true then (ρ m).app (sS ρ σ0 S' m) else sS ρ σ0 S' m:=rfl
   have s2:sS ρ σ0 S (m+1)=if S m=true then (ρ m).app (sS ρ σ0 S m) else sS ρ σ0 S m:=rfl
   have e3:=h.same m;rw [if_neg (show ¬m=i by omega)] at e3;rw [s1,s2,e3];cases hs:S m with
   | false=>simp only [Bool.false_eq_true,if_false];exact ih k
   | true=>
    simp only [if_true];cases hr:ρ m with
    | skip=>exact ih k
    | p v=>exact ih k
    | q v nw=>
     rw [hr] at hl;simp only [jP.app];have hdis : ∀b b',nw.get k=some b→new.get k=some b'→False:=by
      intro b b' h1 h2;have:=hl.2.2.1 k b h1;have:=hnew k b' h2;omega
     have g1:(sS ρ σ0 S' m++nw).get k=match (sS ρ σ0 S' m).get k with|some b=>some b|none=>nw.get k:=bt _ _ _
     have g2:(sS ρ σ0 S m++nw++new).get k=match (sS ρ σ0 S m++nw).get k with|some b=>some b|none=>new.get k:=bt _ _ _
     have g3:(sS ρ σ0 S m++nw).get k=match (sS ρ σ0 S m).get k with|some b=>some b|none=>nw.get k:=bt _ _ _
     have g4:(sS ρ σ0 S m++new).get k=match (sS ρ σ0 S m).get k with|some b=>some b|none=>new.get k:=bt _ _ _
     rw [g1,g2,g3,ih,g4];cases hg:(sS ρ σ0 S m).get k with
     | some b=>rfl
     | none=>
      simp only [];cases h1:nw.get k with
      | none=>cases new.get k<;>rfl
      | some b1=>
       cases h2:new.get k with
       | none=>rfl
       | some b2=>exact (hdis b1 b2 h1 h2).elim
    | e v σ'=>
     rw [hr] at hl;rcases hop with hop|rfl
     ·have hT:=tY hd hx hl.2.1.2.1;have h9:=(hT i o h.ho hop S h.cl).1 (by omega) hs;rw [h.not] at h9;cases h9
     ·simp [jP.app]
theorem Nx.eff (h:Nx ops S S' i o) (hloc : ∀j,j<ops.size→xm P G lo σk ops base ρ F0 σ0 j) (hE:rG lo i o.op=false) (hT:Ps lo ops i) : ∀m,m≤ops.size→sS ρ σ0 S m=sS ρ σ0 bJ (min m i)∧sS ρ σ0 S' m=if i<m then (ρ i).app (sS ρ σ0 bJ i) else sS ρ σ0 bJ m:=by
 intro m;induction m with
 | zero=>intro _;simp [sS]
 | succ m ih=>
  intro hm;obtain ⟨ih1,ih2⟩:=ih (by omega);obtain ⟨x,hx⟩ : ∃x,ops.toList[m]? = some x:=⟨_,List.getElem?_eq_getElem (by simp;omega)⟩
  have s1:sS ρ σ0 S' (m+1)=if S' m=true then (ρ m).app (sS ρ σ0 S' m) else sS ρ σ0 S' m:=rfl
  have s2:sS ρ σ0 S (m+1)=if S m=true then (ρ m).app (sS ρ σ0 S m) else sS ρ σ0 S m:=rfl
  have s3:sS ρ σ0 bJ (m+1)=(ρ m).app (sS ρ σ0 bJ m):=rfl;have e3:=h.same m;rw [s1,s2,e3];cases hpr:rG lo m x.op with
  | true=>
   have hno:m≠i:=by
    rintro rfl;rw [h.ho] at hx;injection hx with hx;subst hx;rw [hE] at hpr;cases hpr
   have ha:=fun σ=>(hloc m (by omega)).pr hx hpr σ
   rw [if_neg hno,ha,ha,s3,ha];have hS : ∀(b:Bool) (σ:ae),(if b=true then σ else σ)=σ:=fun b σ=>by cases b<;>rfl
   rw [hS,hS,ih1,ih2];rcases Nat.lt_or_gt_of_ne hno with hlt|hgt
   ·have e1:min (m+1) i=m+1:=by omega
    have e2:min m i=m:=by omega
    rw [e1,e2,s3,ha,if_neg (show ¬i<m by omega),if_neg (show ¬i<m+1 by omega)];exact ⟨rfl,rfl⟩
   ·have e1:min (m+1) i=min m i:=by omega
    rw [e1,if_pos (show i<m by omega),if_pos (show i<m+1 by omega)];exact ⟨rfl,rfl⟩
  | false=>
  rcases Nat.lt_trichotomy m i with hlt|heq|hgt
  ·have hs:=(hT m x hx hpr S' h.cl').1 hlt (by rw [h.same];simp);rw [h.same,if_neg (by omega)] at hs;have e1:min (m+1) i=m+1:=by omega
   have e2:min m i=m:=by omega
   rw [e2] at ih1;rw [if_neg (show ¬i<m by omega)] at ih2;rw [e1,if_neg (show ¬i<m+1 by omega),if_neg (show ¬m=i by omega),hs,s3,ih1,ih2];simp
  ·subst heq;have e1:min (m+1) m=m:=by omega
   have e2:min m m=m:=by omega
   rw [e2] at ih1;rw [if_neg (show ¬m<m by omega)] at ih2;rw [e1,if_pos (show m<m+1 by omega),if_pos rfl,h.not,ih1,ih2];simp
  ·have hs:S m=false:=by
    cases hs:S m with
    | false=>rfl
    | true=>
     have h9:=(hT m x hx hpr S h.cl).2 hgt hs;rw [h.not] at h9;cases h9
   have e1:min (m+1) i=min m i:=by omega
   rw [if_pos hgt] at ih2;rw [e1,if_pos (show i<m+1 by omega),if_neg (show ¬m=i by omega),hs,ih1,ih2];simp
end
section
variable {P:Program} {G:Gl} {C:qf} {ops:Array Oper} {Q:Exit→Act→World→Prop} {ρ:Nat→jP} {F0:Nat→V} {σ0 σk:ae} {base nx:Nat} {lo:List Nat} {fr:Option Nat}
abbrev cI (listed:Array Bool):Nat→Bool:=fun j=>listed.getD j true
def Is (C:qf) (G:Gl) (ops:Array Oper) (ρ:Nat→jP) (F0:Nat→V) (σ0:ae) (base nx:Nat) (S:Nat→Bool) (a:Act) (w:World):Prop:=
 ∃I β,aj C.w C.I C.β C.σ C.nx w I β (sS ρ σ0 S ops.size) nx∧(∀j,j<ops.size→S j=false → ∀k,base+4*j≤k→k<base+4*j+4→β k=none)∧(∀k,base+4*ops.size≤k→β k=none) ∧
  (∀t,ax w I β (eS ops.toList ρ F0 S ops.size t) (a.tmps.getD t undef))∧a.tmps.size=C.n∧gQ C.w.heap.size C.hd w I β (sS ρ σ0 S ops.size) a.defers∧An G w I
theorem BP {listed:Array Bool} {i:Nat} (h:i∈Region.ready .any ops listed):i<ops.size∧listed.getD i true=false ∧ ∀o,ops[i]? = some o → ∀e∈o.after.toList,Region.binds .any e=true→listed.getD e.on false=true:=by
 unfold Region.ready at h;simp only [List.mem_filter,List.mem_range,Bool.and_eq_true,Bool.not_eq_true'] at h;refine ⟨h.1,h.2.1,fun o ho e he hb =>?_⟩;have h2:=h.2.2;rw [ho] at h2;simp only [Option.map_some,Option.getD_some,Array.all_eq_true'] at h2;have:=h2 e (by simpa using he);simpa [hb] using this
theorem IC {S:Nat→Bool} (hS:gO ops.toList S) {a b:Nat} (ha:a<ops.toList.length) (h:((jq [] ops.toList).getD a 0).testBit b=true) (hSa:S a=true):S b=true:=by
 have hl:=jS ops.toList [];have hal:a<(jq [] ops.toList).length:=by rw [hl];simpa using ha
 exact eU hS ops.toList [] rfl (by simp) a _ (List.getElem?_eq_getElem hal) hSa b (by simpa [List.getD,List.getElem?_eq_getElem hal] using h)
theorem JY (hk:ar σk σ0) (hloc : ∀j,j<ops.size→xm P G lo σk ops base ρ F0 σ0 j) (S:Nat→Bool) (hS : ∀j,j<ops.size→S j=true→sx lo ops j=true→False) : ∀m,m≤ops.size→ar σk (sS ρ σ0 S m):=by
 intro m;induction m with
 | zero=>intro _;exact hk
 | succ m ih=>
  intro hm;have ih:=ih (by omega);obtain ⟨x,hx⟩ : ∃x,ops.toList[m]? = some x:=⟨_,List.getElem?_eq_getElem (by simp;omega)⟩
  obtain ⟨b,_,hl⟩:=hloc m (by omega) x hx;simp only [sS];split
  ·rename_i hSm;cases hr:ρ m with
   | skip=>exact ih
   | p v=>exact ih
   | q v new=>
    intro j bl hj;show ae.get (sS ρ σ0 S m++new) j=_;rw [bt,ih j bl hj]
   | e v σ'=>
    rw [hr] at hl;rcases hl.2.1.2.2 with h|h
    ·exact h
    ·exact (hS m (by omega) hSm h).elim
  ·exact ih
theorem As (hk:ar σk σ0) (hd:bM lo ops=true) (hn:base+4*ops.size≤nx) (hdst : ∀(i:Nat) o x,ops[i]? = some o→o.dst=some x→x<C.n) (hloc : ∀j,j<ops.size→xm P G lo σk ops base ρ F0 σ0 j)
 (hQ : ∀a w,Is C G ops ρ F0 σ0 base nx bJ a w→Q .normal a w) :
 ∀(fuel:Nat) (listed:Array Bool) (a:Act) (w:World),listed.size=ops.size→gO ops.toList (cI listed)→Is C G ops ρ F0 σ0 base nx (cI listed) a w→(List.range ops.size).countP (fun j=> !cI listed j)≤fuel→wpAnyIn (Fr fr) 0 P .any ops Q fuel listed a w:=by
 intro fuel;have fin : ∀(listed:Array Bool) (a:Act) (w:World),(∀j,j<ops.size→cI listed j=true)→Is C G ops ρ F0 σ0 base nx (cI listed) a w→Q .normal a w:=by
  intro listed a w hall hrel;apply hQ;obtain ⟨I,β,h1,h2,h3,h4,h5,h6,h7⟩:=hrel;have e1 : ∀m,m≤ops.size→sS ρ σ0 (cI listed) m=sS ρ σ0 bJ m:=by
   intro m;induction m with
   | zero=>intro _;rfl
   | succ m ih=>
    intro hm;have q:sS ρ σ0 (cI listed) (m+1)=if cI listed m=true then (ρ m).app (sS ρ σ0 (cI listed) m) else sS ρ σ0 (cI listed) m:=rfl
    rw [q,hall m (by omega),ih (by omega)];rfl
  have e2 : ∀m,m≤ops.size → ∀t,eS ops.toList ρ F0 (cI listed) m t=eS ops.toList ρ F0 bJ m t:=by
   intro m;induction m with
   | zero=>intro _ _;rfl
   | succ m ih=>
    intro hm t;have q:eS ops.toList ρ F0 (cI listed) (m+1) t=if cI listed m=true∧(ops.toList[m]?).bind (·.dst)=some t then (ρ m).val else eS ops.toList ρ F0 (cI listed) m t:=rfl
    rw [q,hall m (by omega),ih (by omega)];rfl
  refine ⟨I,β,by rw [←e1 _ (Nat.le_refl _)];exact h1,(fun j _ hj=>by cases hj),h3,(fun t=>by rw [←e2 _ (Nat.le_refl _)];exact h4 t),h5,(by rw [←e1 _ (Nat.le_refl _)];exact h6),h7⟩
 have done : ∀(listed:Array Bool),listed.size=ops.size→Region.ready .any ops listed=[] → ∀j,j<ops.size→cI listed j=true:=by
  intro listed hsz hr j;induction j using Nat.strongRecOn with
  | _ j ih=>
   intro hj;cases hl:cI listed j with
   | true=>rfl
   | false=>
    exfalso;have hoj:ops[j]? = some ops[j]:=by simp [hj]
    have:j∈Region.ready .any ops listed:=by
     unfold Region.ready;simp only [List.mem_filter,List.mem_range,Bool.and_eq_true,Bool.not_eq_true'];refine ⟨hj,hl,?_⟩;rw [hoj];simp only [Option.map_some,Option.getD_some,Array.all_eq_true'];intro e he;cases hb:Region.binds .any e with
     | false=>rfl
     | true=>
      have hlt:=FY hd (j:=j) (y:=ops[j]) (by simp [hj]) (by simpa using he) hb;have:=ih e.on hlt (by omega);simp only [Bool.not_true,Bool.false_or];unfold cI at this;simp only [Array.getD_eq_getD_getElem?] at this ⊢;cases hg:listed[e.on]? with
      | none=>rw [Array.getElem?_eq_none_iff] at hg;omega
      | some b=>rw [hg] at this;simpa using this
    rw [hr] at this;cases this
 induction fuel with
 | zero=>
  intro listed a w hsz hcl hrel hc;have hall : ∀j,j<ops.size→cI listed j=true:=by
   intro j hj;have h0:(List.range ops.size).countP (fun j=> !cI listed j)=0:=by omega
   have:=List.countP_eq_zero.1 h0 j (by simpa using hj);simpa using this
  refine ⟨?_,fin listed a w hall hrel⟩;unfold Region.ready;rw [List.filter_eq_nil_iff];intro j hj;have:=hall j (by simpa using hj);unfold cI at this;simp [this]
 | succ fuel ih=>
  intro listed a w hsz hcl hrel hc;refine ⟨fun hr=>fin listed a w (done listed hsz hr) hrel,fun i hi =>?_⟩;obtain ⟨hi1,hi2,hi3⟩:=BP hi;have hoi:ops[i]? = some ops[i]:=by simp [hi1]
  have hol:ops.toList[i]? = some ops[i]:=by simp [hi1]
  generalize hoo:ops[i]=o at hoi hol;have hS' : ∀j,cI (listed.setIfInBounds i true) j=if j=i then true else cI listed j:=by
   intro j;unfold cI;simp only [Array.getD_eq_getD_getElem?,Array.getElem?_setIfInBounds];by_cases e:i=j
   ·subst e;simp [show i<listed.size by omega]
   ·simp [e,Ne.symm e]
  have hon : ∀e∈o.after.toList,Region.binds .any e=true→cI listed e.on=true:=by
   intro e he hb;have h1:=hi3 o hoi e he hb;unfold cI;simp only [Array.getD_eq_getD_getElem?] at h1 ⊢;cases hg:listed[e.on]? with
   | none=>rfl
   | some b=>rw [hg] at h1;simpa using h1
  have hcl':gO ops.toList (cI (listed.setIfInBounds i true)):=by
   intro j x hx hj e he hb;rw [hS'];rw [hS'] at hj;split
   ·rfl
   ·by_cases hji:j=i
    ·subst hji;rw [hol] at hx;injection hx with hx;subst hx;exact hon e he hb
    ·rw [if_neg hji] at hj;exact hcl j x hx hj e he hb
  have hnx:Nx ops (cI listed) (cI (listed.setIfInBounds i true)) i o:=⟨hol,hi2,hcl,hcl',hS'⟩
  have hcnt:(List.range ops.size).countP (fun j=> !cI (listed.setIfInBounds i true) j)≤fuel:=by
   have h1:(List.range ops.size).countP (fun j=> !cI (listed.setIfInBounds i true) j)<(List.range ops.size).countP (fun j=> !cI listed j):=by
    have h2:(List.range ops.size).countP (fun j=> !cI listed j)=(List.range ops.size).countP (fun j=> !cI (listed.setIfInBounds i true) j)+(List.range ops.size).countP (fun j=>decide (j=i)):=by
     have key : ∀(l:List Nat),l.countP (fun j=> !cI listed j)=l.countP (fun j=> !cI (listed.setIfInBounds i true) j)+l.countP (fun j=>decide (j=i)):=by
      intro l;induction l with
      | nil=>rfl
      | cons x r ihl=>
       simp only [List.countP_cons,ihl,hS'];by_cases hx:x=i
       ·subst hx;rw [show cI listed x=false from hi2];simp;omega
       ·simp [hx];omega
     exact key _
    have h3:0<(List.range ops.size).countP (fun j=>decide (j=i)):=List.countP_pos_iff.2 ⟨i,by simpa using hi1,by simp⟩;omega
   omega
  obtain ⟨I,β,r1,r2,r3,r4,r5,r6,r7⟩:=hrel;obtain ⟨b,l1,l2⟩:=hloc i hi1 o hol;have hlook : ∀t∈eC ops o,eS ops.toList ρ F0 (cI listed) ops.size t=eS ops.toList ρ F0 bJ i t:=by
   intro t ht;rw [hnx.looks hd ht ops.size];by_cases h:ops.size≤i
   ·omega
   ·rw [if_neg h]
  have hwant:=l1 w I β a (fun t ht=>by rw [←hlook t (oN ht)];exact r4 t);have hfree : ∀j,base+4*i≤j→j<base+4*i+4→β j=none:=r2 i hi1 hi2;unfold wpOpIn;rw [hoi];simp only [];rw [hwant];have putOk : ∀ {w':World} {I':Nat→Prop} {β':bA} {u:Value} {σ':ae},aj w I β (sS ρ σ0 (cI listed) ops.size) nx w' I' β' σ' nx→ax w' I' β' (ρ i).val u → ∀t,ax w' I' β' (eS ops.toList ρ F0 (cI (listed.setIfInBounds i true)) ops.size t) ((a.put o.dst u).tmps.getD t undef):=by
   intro w' I' β' u σ' hst hu t;rw [hnx.env hd t ops.size];cases hdd:o.dst with
   | none=>
    rw [if_neg (by simp)];exact hst.den r1.mem (r4 t)
   | some d=>
    rw [uP (by rw [r5];exact hdst i o d hoi hdd)];by_cases hdt:d=t
    ·subst hdt;rw [if_pos ⟨hi1,rfl⟩,if_pos rfl];exact hu
    ·rw [if_neg (by simp [hdt]),if_neg hdt];exact hst.den r1.mem (r4 t)
  have hden : ∀x∈o.op.operands.toList,ax w I β (di G (eS ops.toList ρ F0 bJ i) x) (a.eval x):=by
   intro x hx;cases x with
   | tmp t=>
    have ht:t∈eC ops o:=oN (by simp only [Oper.looksAt,List.mem_append,List.mem_filterMap];left;exact ⟨_,hx,rfl⟩);show ax w I β (eS ops.toList ρ F0 bJ i t) _;rw [←hlook t ht];exact r4 t
   | const v=>exact ai.lit v
   | global g=>
    show ax w I β (match G g with|some x=> .d x|none=> .unk) _;cases h:G g with
    | none=>trivial
    | some x=>exact r7 g x h
   | func f=>exact ai.fn f [] [] rfl (by simp)
  cases hr:ρ i with
  | skip=>
   rw [hr] at l2;rw [l2,if_neg (by simp)];have hsig : ∀k,(sS ρ σ0 (cI (listed.setIfInBounds i true)) ops.size).get k=(sS ρ σ0 (cI listed) ops.size).get k:=fun k=>by
    have h1:=hnx.sig hd (new:=[]) (.inr rfl) hloc (by rw [hr];intro σ;simp [jP.app]) (cr _) ops.size (Nat.le_refl _) k;rw [h1,if_pos hi1,List.append_nil]
   refine ⟨fun _ _=>trivial,?_⟩;refine ih _ _ _ (by simpa using hsz) hcl' ⟨I,β,?_,fun j hj hjs=>r2 j hj ?_,r3,?_,by rw [fM];exact r5,by rw [dz];exact r6.congr hsig,r7⟩ hcnt
   ·exact r1.congr hsig
   ·rw [hS'] at hjs;split at hjs
    ·cases hjs
    ·exact hjs
   ·exact putOk (aj.refl r1.mem) (by rw [hr];exact wy)
  | p v=>
   rw [hr] at l2;obtain ⟨e1,e2,e4⟩:=l2;rw [e1,if_pos rfl];have hdo:=e4 _ (fun hci=>JY hk hloc (cI listed) (fun j hj hjs ha=>by
    have h1:=List.all_eq_true.1 ha i (by simpa using hci);have h2:=IC hcl (by simpa using hj) h1 hjs;rw [show cI listed i=false from hi2] at h2;cases h2) ops.size (Nat.le_refl _)) w I β nx a r1.mem r7 hfree (by omega) hden
   refine hdo.wpIn (fun u w' ⟨I',β',hu,hst,hfr⟩ =>?_);have hsig : ∀k,(sS ρ σ0 (cI (listed.setIfInBounds i true)) ops.size).get k=(sS ρ σ0 (cI listed) ops.size).get k:=fun k=>by
    have h1:=hnx.sig hd (new:=[]) (.inr rfl) hloc (by rw [hr];intro σ;simp [jP.app]) (cr _) ops.size (Nat.le_refl _) k;rw [h1,if_pos hi1,List.append_nil]
   refine ih _ _ _ (by simpa using hsz) hcl' ⟨I',β',?_,fun j hj hjs k hk1 hk2 =>?_,fun k hk =>?_,putOk hst (by rw [hr];exact hu),by rw [fM];exact r5,by rw [dz];exact (r6.step hst).congr hsig,r7.step r1.mem hst⟩ hcnt
   ·exact (r1.trans hst).congr hsig
   ·rw [hS'] at hjs;split at hjs
    ·cases hjs
    ·rw [hfr k (by omega)];exact r2 j hj hjs k hk1 hk2
   ·rw [hfr k (by omega)];exact r3 k hk
  | q v new=>
   rw [hr] at l2;obtain ⟨e1,e2,e3,e4⟩:=l2;rw [e1,if_pos rfl];obtain ⟨τ,hτ⟩:=hnx.under hd e2 hloc ops.size (Nat.le_refl _);have hsub:ar (bS ρ σ0 i) (sS ρ σ0 (cI listed) ops.size):=by
    intro k blk hk;rw [hτ,bt];rw [if_neg (by omega),hk]
   have hdo:=e4 _ hsub w I β nx a r1.mem r7 hfree (by omega) hden;refine hdo.wpIn (fun u w' ⟨I',β',hu,hst,hfr⟩ =>?_);have hsig : ∀k,(sS ρ σ0 (cI (listed.setIfInBounds i true)) ops.size).get k=(sS ρ σ0 (cI listed) ops.size++new).get k:=fun k=>by
    have h1:=hnx.sig hd (new:=new) (.inl e2) hloc (by rw [hr];intro σ;rfl) e3 ops.size (Nat.le_refl _) k;rw [h1,if_pos hi1]
   refine ih _ _ _ (by simpa using hsz) hcl' ⟨I',β',?_,fun j hj hjs k hk1 hk2 =>?_,fun k hk =>?_,putOk hst (by rw [hr];exact hu),by rw [fM];exact r5,by rw [dz];exact (r6.step hst).congr hsig,r7.step r1.mem hst⟩ hcnt
   ·exact (r1.trans hst).congr hsig
   ·rw [hS'] at hjs;split at hjs
    ·cases hjs
    ·rw [hfr k (by omega)];exact r2 j hj hjs k hk1 hk2
   ·rw [hfr k (by omega)];exact r3 k hk
  | e v σ'=>
   rw [hr] at l2;obtain ⟨e1,e2,e4⟩:=l2;rw [e1,if_pos rfl];obtain ⟨s1,s2⟩:=hnx.eff (ρ:=ρ) (σ0:=σ0) hloc e2.1 (tY hd hol e2.2.1) ops.size (Nat.le_refl _);rw [show min ops.size i=i from by omega] at s1;rw [if_pos hi1,hr] at s2;have hmem:b4 w I β (sS ρ σ0 bJ i) nx:=by rw [←s1];exact r1.mem
   have hdo:=e4 w I β nx a hmem r7 hfree (by omega) hden;refine hdo.wpIn (fun u w' ⟨I',β',hu,hst,hfr⟩ =>?_);rw [←s1] at hst;refine ih _ _ _ (by simpa using hsz) hcl' ⟨I',β',?_,fun j hj hjs k hk1 hk2 =>?_,fun k hk =>?_,putOk hst (by rw [hr];exact hu),by rw [fM];exact r5,by rw [dz,s2];exact r6.step hst,r7.step r1.mem hst⟩ hcnt
   ·rw [s2];exact r1.trans hst
   ·rw [hS'] at hjs;split at hjs
    ·cases hjs
    ·rw [hfr k (by omega)];exact r2 j hj hjs k hk1 hk2
   ·rw [hfr k (by omega)];exact r3 k hk
theorem gp (hm:P.follows .mixedOrders=true) (hd:bM lo ops=true) (hlo:qs lo 0 ops.toList=true) (hn:base+4*ops.size≤nx) (hdst : ∀(i:Nat) o x,ops[i]? = some o→o.dst=some x→x<C.n) {K:aC→ae→Prop} {e:aC} {σ:ae} {a:Act} {w:World} {id:Nat}
 (hQ : ∀e σ a w,K e σ→dC C G e σ nx (base+4*ops.size) a w→Q .normal a w) (hk:ar σk σ) (h:opsL P G lo σk ops base 0 ops.toList e σ [] K) (hrel:dC C G e σ nx base a w):(Code.region id ops true).wpIn (Fr fr) 0 P Q a w:=by
 obtain ⟨ρ,e',t1,t2,t3⟩:=trace (fun j o ho hc=>Bo ops.toList 0 hlo j o ho (by rw [Nat.zero_add];exact hc)) (F0:=e.get) (σ0:=σ) ops.toList 0 e σ [] (fun _=> .skip) rfl h (Nat.zero_le _) (fun _=>rfl) rfl (by simp [sS]) (fun j hj=>by omega);refine wpIn_region_any hm ?_;obtain ⟨I,β,r1,r2,r3,r4,r5,r6⟩:=hrel;have hS0 : ∀j,j<ops.size→cI (Array.replicate ops.size false) j=false:=by
  intro j hj;simp [cI,hj]
 have e1 : ∀m,m≤ops.size→sS ρ σ (cI (Array.replicate ops.size false)) m=σ:=by
  intro m;induction m with
  | zero=>intro _;rfl
  | succ m ih=>
   intro hm;have:sS ρ σ (cI (Array.replicate ops.size false)) (m+1)=if cI (Array.replicate ops.size false) m=true then (ρ m).app (sS ρ σ (cI (Array.replicate ops.size false)) m) else sS ρ σ (cI (Array.replicate ops.size false)) m:=rfl
   rw [this,hS0 m (by omega),if_neg (by simp),ih (by omega)]
 refine As (ρ:=ρ) (F0:=e.get) (σ0:=σ) (nx:=nx) hk hd hn hdst t1 (fun a' w' hr =>?_) ops.size _ a _ (by simp) (fun j o ho hj =>?_) ⟨I,β,?_,fun j hj _ k hk1 _=>r2 k (by omega),fun k hk=>r2 k (by omega),fun t =>?_,r4,?_,?_⟩ ?_
 ·obtain ⟨I',β',q1,q2,q3,q4,q5,q6,q7⟩:=hr;exact hQ e' _ a' w' t2 ⟨I',β',q1,q3,fun t=>by rw [t3];exact q4 t,q5,q6,q7⟩
 ·have hjs:j<ops.size:=by have:=(List.getElem?_eq_some_iff.1 ho).1;simpa using this
  rw [hS0 j hjs] at hj;cases hj
 ·rw [e1 _ (Nat.le_refl _)];exact r1.trans (aj.drew r1.mem)
 ·have e2 : ∀m,m≤ops.size→eS ops.toList ρ e.get (cI (Array.replicate ops.size false)) m t=e.get t:=by
   intro m;induction m with
   | zero=>intro _;rfl
   | succ m ih=>
    intro hm;have:eS ops.toList ρ e.get (cI (Array.replicate ops.size false)) (m+1) t=if cI (Array.replicate ops.size false) m=true∧(ops.toList[m]?).bind (·.dst)=some t then (ρ m).val else eS ops.toList ρ e.get (cI (Array.replicate ops.size false)) m t:=rfl
    rw [this,hS0 m (by omega),if_neg (by simp),ih (by omega)]
  rw [e2 _ (Nat.le_refl _)];exact (aj.drew r1.mem).den r1.mem (r3 t)
 ·rw [e1 _ (Nat.le_refl _)];exact r5.step (aj.drew r1.mem)
 ·exact r6.step r1.mem (aj.drew r1.mem)
 ·refine Nat.le_trans (List.countP_le_length) (by simp)
end
def ze (n:Nat):List Oper→Bool
 | []=>true
 | o::r=>(match o.dst with|some d=>decide (d<n)|none=>true)&&ze n r
def aE (n:Nat):Code→Bool
 | .skip=>true
 | .region _ ops _=>ze n ops.toList
 | .seq a b=>aE n a&&aE n b
 | .cond _ a b=>aE n a&&aE n b
 | .block _ c=>aE n c
 | .loop c=>aE n c
 | .exit _=>true
 | .ret=>true
 | .label _=>true
 | .refuse _=>true
 | .scope c=>aE n c
 | .rangeFunc _ ps a c=>ps.toList.all (fun p=>decide (p<n))&&aE n a&&aE n c
 | _=>false
def lF:Code→Bool
 | .seq a b=>lF a&&lF b
 | .cond _ a b=>lF a&&lF b
 | .block _ c=>lF c
 | .loop c=>lF c
 | .scope c=>lF c
 | .rangeFunc _ _ _ _=>false
 | _=>true
theorem n6 {n:Nat} (l:List Oper) (h:ze n l=true) : ∀(i:Nat) o x,l[i]? = some o→o.dst=some x→x<n:=by
 induction l with
 | nil=>intro i o x hi;simp at hi
 | cons y r ih=>
  intro i o x hi hx;simp only [ze,Bool.and_eq_true] at h;cases i with
  | zero=>
   simp at hi;subst hi;have:=h.1;rw [hx] at this;simpa using this
  | succ i=>exact ih h.2 i o x (by simpa using hi) hx
def bK (G:Gl) (m:Nat) (st st':St):Prop:= ∀C a w,C.nx=m→na C G st a w→na C G st' a w
def aN (G:Gl) (m:Nat) (K:St→Prop) (st:St) (_u:Tag K:= .mk) (_h:True:=trivial):Prop:= ∃st',bK G m st st'∧K st'
theorem aN.now {G:Gl} {m:Nat} {K:St→Prop} {st:St} (h:K st):aN G m K st:=⟨st,fun _ _ _ _ h=>h,h⟩
theorem aN.via {G:Gl} {m:Nat} {K:St→Prop} {st st':St} (h:bK G m st st') (k:aN G m K st'):aN G m K st:=by
 obtain ⟨s,h1,h2⟩:=k;exact ⟨s,fun C a w hm hr=>h1 C a w hm (h C a w hm hr),h2⟩
def AR (P:Program) (G:Gl) (fr:Option Nat) (n m:Nat) (c:Code) (st:St) (Q:Exit→St→Prop):Prop:=
 ∀(C:qf) a w,C.n=n→C.nx=m→na C G st a w→c.wpIn (Fr fr) 0 P (fun e a' w'=> ∃st',Q e st'∧na C G st' a' w') a w
def AW (P:Program) (G:Gl) (n m:Nat) (c:Code) (st:St) (Q:Exit→St→Prop):Prop:= ∀fr,(fr=none∨lF c=true)→AR P G fr n m c st Q
theorem AR.mono {P:Program} {G:Gl} {fr:Option Nat} {n m:Nat} {c:Code} {st:St} {Q Q':Exit→St→Prop} (h:AR P G fr n m c st Q) (hq : ∀e st,Q e st→Q' e st):AR P G fr n m c st Q':=
 fun C a w hn hm hr=>wpIn_mono (h C a w hn hm hr) fun e _ _ ⟨st',h1,h2⟩=>⟨st',hq e st' h1,h2⟩
theorem AW.mono {P:Program} {G:Gl} {n m:Nat} {c:Code} {st:St} {Q Q':Exit→St→Prop} (h:AW P G n m c st Q) (hq : ∀e st,Q e st→Q' e st):AW P G n m c st Q':=fun fr hfr=>(h fr hfr).mono hq
theorem cY {P:Program} {b:Frame} {a:Act} {k:List Item} {cs:List Frame} {w:World} {c:Code} : step P (lone (b.atR a (.code (.scope c)::k)) cs w) = .next (lone (b.atR a (.code c :: .inScope c::k)) cs w):=
 step_lone_go (by simp [stepG,stepG.exec,Frame.atR])
theorem qC {P:Program} {b:Frame} {a:Act} {k:List Item} {cs:List Frame} {w:World} {c:Code} : step P (lone (b.atR a (.inScope c::k)) cs w) = .next (lone (b.atR a k) cs w):=
 step_lone_go (by simp [stepG,stepG.exec,Frame.atR])
theorem dS {F:Fence} {n:Nat} {P:Program} {Q:Exit→Act→World→Prop} {a:Act} {w:World} {c:Code} (h:c.wpIn F n P (Exit.noGoto Q) a w):(Code.scope c).wpIn F n P Q a w:=by
 intro b k cs hro hb hr;have h0:(lone (b.atR a (.code (.scope c)::k)) cs w).fenced P F:=fenced_calm hb hr rfl;obtain ⟨e,a₁,w₁,hq,harr⟩:=h b (.inScope c::k) cs hro hb hr;cases e with
 | normal=>exact ⟨.normal,a₁,w₁,hq,.head h0 cY (StepsIn.trans harr (.one (fenced_calm hb hr rfl) qC))⟩
 | exit id=>
  have hx:exitTo id (.inScope c::k)=exitTo id k:=by simp [exitTo]
  exact ⟨.exit id,a₁,w₁,hq,fun k' hk=> .head h0 cY (harr.1 k' (by rw [hx];exact hk)),fun hr' hk=>let ⟨k₁,h1,h2⟩:=harr.2 hr' (by rw [hx];exact hk);⟨k₁,h1,.head h0 cY h2⟩⟩
 | goto l=>exact hq.elim
 | ret=>exact ⟨_,a₁,w₁,hq,.of_steps (.one h0 cY) harr⟩
 | panic ch=>exact ⟨_,a₁,w₁,hq,.of_steps (.one h0 cY) harr⟩
 | outgrown=>exact ⟨_,a₁,w₁,hq,.of_steps (.one h0 cY) harr⟩
def jd (P:Program) (G:Gl) (n m:Nat) (c:Code) (st:St) (Q:Exit→St→Prop) (_u:Tag c:= .mk) (_v:Tag Q:= .mk) (_h:True:=trivial):Prop:=AW P G n m (.loop c) st Q
def lb (P:Program) (G:Gl) (n m:Nat) (g:Operand) (ps:Array Nat) (asg body:Code) (st:St) (Q:Exit→St→Prop) (_u:Tag body:= .mk) (_v:Tag Q:= .mk) (_w:Tag asg:= .mk) (_h:True:=trivial):Prop:=AW P G n m (.rangeFunc g ps asg body) st Q
def j2 (v:V) (p q:Prop):Prop:=nL v fun b=>gI b p q
def gN (k:St→Prop) (Q:Exit→St→Prop):Exit→St→Prop
 | .normal,st=>k st
 | e,st=>Q e st
def ek (id:Nat) (Q:Exit→St→Prop):Exit→St→Prop
 | .exit i,st=>if i=id then Q .normal st else Q (.exit i) st
 | e,st=>Q e st
def iC (Q:Exit→St→Prop):Exit→St→Prop
 | .goto _,_=>False
 | e,st=>Q e st
def iu (P:Program) (G:Gl) (lv:List Nat) (ops:Array Oper) (draw:Bool) (K:St→Prop) (st:St):Prop:=if draw=true
 then ∃lo σk,bM lo ops=true∧qs lo 0 ops.toList=true∧ar σk st.sg∧opsL P G lo σk ops st.nx 0 ops.toList st.env st.sg [] fun e σ=>K ⟨aC.keep lv e,σ,st.nx+4*ops.size⟩
 else ky P G ops st.nx 0 ops.toList st.env st.sg fun e σ=>K ⟨aC.keep lv e,σ,st.nx+4*ops.size⟩
def bc (P:Program) (G:Gl) (n m:Nat) (lv:List Nat):Code→St→(Exit→St→Prop)→Prop
 | .skip,st,Q=>Q .normal st
 | .region _ ops draw,st,Q=>aN G m (iu P G lv ops draw fun st'=>Q .normal st') st
 | .seq a b,st,Q=>bc P G n m lv a st (gN (fun st'=>bc P G n m lv b st' Q) Q)
 | .cond c a b,st,Q=>j2 (di G st.env.get c) (bc P G n m lv a st Q) (bc P G n m lv b st Q)
 | .block id c,st,Q=>bc P G n m lv c st (ek id Q)
 | .loop c,st,Q=>jd P G n m c st Q
 | .exit id,st,Q=>Q (.exit id) st
 | .ret,st,Q=>Q .ret st
 | .label _,st,Q=>Q .normal st
 | .scope c,st,Q=>bc P G n m lv c st (iC Q)
 | .rangeFunc g ps a c,st,Q=>lb P G n m g ps a c st Q
 | _,_,_=>False
section
variable {P:Program} {G:Gl} {n m:Nat} {lv:List Nat}
theorem dC.keep {C:qf} {e:aC} {σ:ae} {nx lim:Nat} {a:Act} {w:World} (h:dC C G e σ nx lim a w) (lv:List Nat):dC C G (aC.keep lv e) σ nx lim a w:=by
 obtain ⟨I,β,h1,h2,h3,h4⟩:=h;refine ⟨I,β,h1,h2,fun t =>?_,h4⟩;rcases aC.get_keep lv e t with h|h
 ·rw [h];exact h3 t
 ·rw [h];trivial
theorem dC.bump {C:qf} {e:aC} {σ:ae} {nx lim nx':Nat} {a:Act} {w:World} (h:dC C G e σ nx lim a w) (hn:nx≤nx'):dC C G e σ nx' lim a w:=by
 obtain ⟨I,β,h1,h2⟩:=h;exact ⟨I,β,h1.bump hn,h2⟩
theorem uw (ho:P.follows .mixedOrders=true) (fr:Option Nat) : ∀(c:Code) (st:St) (Q:Exit→St→Prop),(fr=none∨lF c=true)→aE n c=true→bc P G n m lv c st Q→AR P G fr n m c st Q:=by
 intro c;induction c with
 | skip=>intro st Q _ _ h C a w _ _ hr;exact wpIn_skip ⟨st,h,hr⟩
 | region id ops draw=>
  intro st Q _ hok h C a w hn hm hr0;obtain ⟨st,hle,h⟩:=h;have hr:=hle C a w hm hr0;simp only [aE] at hok;have hdst : ∀(i:Nat) o x,ops[i]? = some o→o.dst=some x→x<C.n:=fun i o x hi hx=>by rw [hn];exact n6 _ hok i o x (by simpa using hi) hx
  have hr':dC C G st.env st.sg (st.nx+4*ops.size) st.nx a w:=dC.bump hr (by omega);cases draw with
  | false=>
   simp only [iu,Bool.false_eq_true,if_false] at h;refine wpIn_region ?_;have:=gq (P:=P) (G:=G) (C:=C) (fr:=fr) (ops:=ops) (base:=st.nx) (nx:=st.nx+4*ops.size) (Q:=fun e a' w'=> ∃st',Q e st'∧na C G st' a' w') (Nat.le_refl _) hdst (K:=fun e σ=>Q .normal ⟨aC.keep lv e,σ,st.nx+4*ops.size⟩) (fun e σ a w hK hrel=>⟨_,hK,hrel.keep lv⟩) ops.toList 0 st.env st.sg a w rfl h (by simpa using hr') (Nat.zero_le _);rw [List.range_eq_range'];simpa using this
  | true=>
   simp only [iu,if_true] at h;obtain ⟨lo,σk,hd,hlo,hk,h⟩:=h;exact gp (C:=C) ho hd hlo (nx:=st.nx+4*ops.size) (Nat.le_refl _) hdst (K:=fun e σ=>Q .normal ⟨aC.keep lv e,σ,st.nx+4*ops.size⟩) (fun e σ a w hK hrel=>⟨_,hK,hrel.keep lv⟩) hk h hr'
 | seq x y ihx ihy=>
  intro st Q hfr hok h C a w hn hm hr;simp only [lF,Bool.and_eq_true] at hfr;simp only [aE,Bool.and_eq_true] at hok;refine wpIn_seq (wpIn_mono (ihx st _ (hfr.imp id (·.1)) hok.1 h C a w hn hm hr) ?_);rintro e a' w' ⟨st',hq,hr'⟩;cases e with
  | normal=>exact ihy st' Q (hfr.imp id (·.2)) hok.2 hq C a' w' hn hm hr'
  | _=>exact ⟨st',hq,hr'⟩
 | cond c x y ihx ihy=>
  intro st Q hfr hok h C a w hn hm hr;simp only [lF,Bool.and_eq_true] at hfr;simp only [aE,Bool.and_eq_true] at hok;simp only [bc,j2] at h;unfold nL at h;split at h
  ·rename_i b hb;obtain ⟨I,β,h1,h2,h3,h4,h5,h6⟩:=id hr;have hd:=nh (e:=st.env) (a:=a) h3 h6 c;rw [hb] at hd;have hc:=an hd;refine lf h (fun e1 h9 =>?_) (fun e1 h9 =>?_)
   ·subst e1;exact wpIn_cond_true hc (ihx st Q (hfr.imp id (·.1)) hok.1 h9 C a w hn hm hr)
   ·subst e1;exact wpIn_cond_false hc (ihy st Q (hfr.imp id (·.2)) hok.2 h9 C a w hn hm hr)
  ·exact h.elim
 | block id c ih=>
  intro st Q hfr hok h C a w hn hm hr;simp only [aE] at hok;refine wpIn_block (wpIn_mono (ih st _ hfr hok h C a w hn hm hr) ?_);rintro e a' w' ⟨st',hq,hr'⟩;cases e with
  | exit i=>
   simp only [ek] at hq;simp only [Exit.inBlock];split
   ·rename_i hi;rw [if_pos hi] at hq;exact ⟨st',hq,hr'⟩
   ·rename_i hi;rw [if_neg hi] at hq;exact ⟨st',hq,hr'⟩
  | _=>exact ⟨st',hq,hr'⟩
 | loop c _=>intro st Q hfr _ h;exact h fr hfr
 | exit id=>intro st Q _ _ h C a w _ _ hr;exact wpIn_exit ⟨st,h,hr⟩
 | ret=>intro st Q _ _ h C a w _ _ hr;exact wpIn_ret ⟨st,h,hr⟩
 | label l=>intro st Q _ _ h C a w _ _ hr;exact wpIn_label ⟨st,h,hr⟩
 | refuse r=>intro st Q _ _ h;exact h.elim
 | scope c ih=>
  intro st Q hfr hok h C a w hn hm hr;simp only [aE] at hok;refine dS (wpIn_mono (ih st _ hfr hok h C a w hn hm hr) ?_);rintro e a' w' ⟨st',hq,hr'⟩;cases e with
  | goto l=>exact hq.elim
  | _=>exact ⟨st',hq,hr'⟩
 | rangeFunc g ps x y _ _=>intro st Q hfr _ h;exact h fr hfr
 | _=>intro st Q _ hok;simp [aE] at hok
theorem cU (ho:P.follows .mixedOrders=true) (c:Code) (st:St) (Q:Exit→St→Prop) (hok:aE n c=true) (h:bc P G n m lv c st Q):AW P G n m c st Q:=fun fr hfr=>uw ho fr c st Q hfr hok h
theorem Bp (ho:P.follows .mixedOrders=true) {c:Code} (hok:aE n c=true) {st:St} {Q:Exit→St→Prop} (Inv:Nat→St→Prop) (k0:Nat) (h0:Inv k0 st)
 (hr : ∀k st,Inv k st→bc P G n m lv c st (gN (aN G m fun st'=> ∃j,j<k∧Inv j st') Q)):jd P G n m c st Q:=by
 intro fr hfr C a w hn hm hrel b kk cs hro hb hroom;have key : ∀k st a w,Inv k st→na C G st a w → ∃e a' w',(∃st',Q e st'∧na C G st' a' w')∧ArrivesIn (Machine.fenced P (Fr fr)) P (lone (b.atR a (.code c :: .inLoop c::kk)) cs w) b kk cs e a' w':=by
  intro k;induction k using Nat.strongRecOn with
  | _ k ih=>
   intro st a w hI hr';obtain ⟨e,a',w',⟨st',hq,hr2⟩,harr⟩:=cU ho c st _ hok (hr k st hI) fr hfr C a w hn hm hr' b (.inLoop c::kk) cs hro hb hroom;cases e with
   | normal=>
    obtain ⟨st',hle,j,hlt,hI'⟩:=hq;obtain ⟨e2,a2,w2,hq2,harr2⟩:=ih j hlt st' a' w' hI' (hle C a' w' hm hr2);exact ⟨e2,a2,w2,hq2,.of_steps (StepsIn.trans harr (.one (fenced_calm hb hroom rfl) stepR_inLoop)) harr2⟩
   | exit id=>exact ⟨_,a',w',⟨st',hq,hr2⟩,.pass (x:= .inLoop c) rfl (fun _ _=> .inl (by simp)) harr⟩
   | goto l=>exact ⟨_,a',w',⟨st',hq,hr2⟩,.pass (x:= .inLoop c) rfl (fun _ _=> .inl (by simp)) harr⟩
   | ret=>exact ⟨_,a',w',⟨st',hq,hr2⟩,.pass (x:= .inLoop c) rfl (fun _ _=> .inl (by simp)) harr⟩
   | panic ch=>exact ⟨_,a',w',⟨st',hq,hr2⟩,.pass (x:= .inLoop c) rfl (fun _ _=> .inl (by simp)) harr⟩
   | outgrown=>exact ⟨_,a',w',⟨st',hq,hr2⟩,.pass (x:= .inLoop c) rfl (fun _ _=> .inl (by simp)) harr⟩
 obtain ⟨e,a',w',hq,harr⟩:=key _ st a w h0 hrel;exact ⟨e,a',w',hq,.of_steps (.one (fenced_calm hb hroom rfl) stepR_loop) harr⟩
end
def V.selA (g:Nat→Option Nat):V→V
 | .d x=> .d x
 | .so id k lo n=>match g id with|some j=> .so j k lo n|none=> .unk
 | .po id o=>match g id with|some j=> .po j o|none=> .unk
 | .pe id k i j=>match g id with|some j'=> .pe j' k i j|none=> .unk
 | .mo id=>match g id with|some j=> .mo j|none=> .unk
 | .it id=>match g id with|some j=> .it j|none=> .unk
 | .yl id=>match g id with|some j=> .yl j|none=> .unk
 | v=>v
def V.sel (g:Nat→Option Nat):V→V
 | .agg cs=> .agg (cs.map (V.selA g))
 | .tup cs=> .tup (cs.map (V.selA g))
 | .fn f cs=> .fn f (cs.map (V.selA g))
 | .d x=> .d x
 | .so id k lo n=>V.selA g (.so id k lo n)
 | .po id o=>V.selA g (.po id o)
 | .pe id k i j=>V.selA g (.pe id k i j)
 | .mo id=>V.selA g (.mo id)
 | .it id=>V.selA g (.it id)
 | .yl id=>V.selA g (.yl id)
 | .unk=> .unk
def aC.sel (g:Nat→Option Nat):aC→aC
 | []=>[]
 | (k,v)::r=>(k,v.sel g)::aC.sel g r
def bu.sel (g:Nat→Option Nat):bu→bu
 | .cell cs ty=> .cell (cs.map (V.sel g)) ty
 | .row k es ty=> .row k es ty
 | .map es=> .map es
 | .iter s pos=> .iter s pos
 | .rc y j e=> .rc y j (e.sel g)
theorem aC.get_sel (g:Nat→Option Nat) (e:aC) (t:Nat):(e.sel g).get t=(e.get t).sel g:=by
 induction e with
 | nil=>rfl
 | cons x r ih=>
  obtain ⟨k,v⟩:=x;simp only [aC.sel,aC.get];split
  ·rfl
  ·exact ih
section
variable {w:World} {I:Nat→Prop} {β β':bA} {g:Nat→Option Nat}
theorem bw.sel (hg : ∀i j,g i=some j → ∀x,β i=some x→β' j=some x) {v:V} {x:Value} (h:bw w I β v x):bw w I β' (v.selA g) x:=by
 cases v with
 | so id k lo n=>
  simp only [V.selA];cases hi:g id with
  | none=>trivial
  | some j=>
   rcases h with ⟨h1,h2⟩|⟨b,cap,c,h1,h2⟩
   ·exact .inl ⟨hg id j hi _ h1,h2⟩
   ·exact .inr ⟨b,cap,c,hg id j hi _ h1,h2⟩
 | po id o=>
  simp only [V.selA];cases hi:g id with
  | none=>trivial
  | some j=>obtain ⟨b,cap,h1,h2⟩:=h;exact ⟨b,cap,hg id j hi _ h1,h2⟩
 | pe id k i j=>
  simp only [V.selA];cases hi:g id with
  | none=>trivial
  | some j=>obtain ⟨b,cap,h1,h2⟩:=h;exact ⟨b,cap,hg id j hi _ h1,h2⟩
 | mo id=>
  simp only [V.selA];cases hi:g id with
  | none=>trivial
  | some j=>obtain ⟨b,cap,h1,h2⟩:=h;exact ⟨b,cap,hg id j hi _ h1,h2⟩
 | it id=>
  simp only [V.selA];cases hi:g id with
  | none=>trivial
  | some j=>obtain ⟨b,cap,h1,h2⟩:=h;exact ⟨b,cap,hg id j hi _ h1,h2⟩
 | yl id=>
  simp only [V.selA];cases hi:g id with
  | none=>trivial
  | some j=>obtain ⟨b,cap,h1,h2⟩:=h;exact ⟨b,cap,hg id j hi _ h1,h2⟩
 | _=>exact h
theorem bo.sel (hg : ∀i j,g i=some j → ∀x,β i=some x→β' j=some x) {cs:List V} {vs:List Value} (h:bo w I β cs vs):bo w I β' (cs.map (V.selA g)) vs:=by
 refine ⟨by simpa using h.1,fun i c v hc hv =>?_⟩;simp only [List.getElem?_map,Option.map_eq_some_iff] at hc;obtain ⟨c',hc',rfl⟩:=hc;exact (h.2 i c' v hc' hv).sel hg
theorem ax.sel (hg : ∀i j,g i=some j → ∀x,β i=some x→β' j=some x) {v:V} {x:Value} (h:ax w I β v x):ax w I β' (v.sel g) x:=by
 have atoms : ∀ {v:V},bw w I β v x→bw w I β' (v.selA g) x→ax w I β' (v.selA g) x:=by
  intro v h1 h2;cases v<;>simp only [V.selA] at h2 ⊢ <;> first
   | exact h2
   | exact h2.elim
   | (split<;>first|trivial|(rename_i q;rw [q] at h2;exact h2))
 cases v with
 | agg cs=>obtain ⟨vs,e,ho,h⟩:=h;exact ⟨vs,e,ho,h.sel hg⟩
 | tup cs=>obtain ⟨vs,e,h⟩:=h;exact ⟨vs,e,h.sel hg⟩
 | fn f cs=>obtain ⟨vs,e,h⟩:=h;exact ⟨vs,e,h.sel hg⟩
 | unk=>trivial
 | d x=>exact h
 | so id k lo n=>exact atoms (v:= .so id k lo n) h (bw.sel hg (v:= .so id k lo n) h)
 | po id o=>exact atoms (v:= .po id o) h (bw.sel hg (v:= .po id o) h)
 | pe id k i j=>exact atoms (v:= .pe id k i j) h (bw.sel hg (v:= .pe id k i j) h)
 | mo id=>exact atoms (v:= .mo id) h (bw.sel hg (v:= .mo id) h)
 | it id=>exact atoms (v:= .it id) h (bw.sel hg (v:= .it id) h)
 | yl id=>exact atoms (v:= .yl id) h (bw.sel hg (v:= .yl id) h)
theorem gH.sel (hg : ∀i j,g i=some j → ∀x,β i=some x→β' j=some x) {i j:Nat} {blk:bu} (hij:g i=some j) (h:gH w I β i blk):gH w I β' j (blk.sel g):=by
 cases blk with
 | cell cs ty=>
  obtain ⟨b,cap,cur,t,h1,h2,h3,h4⟩:=h;refine ⟨b,cap,cur,t,hg i j hij _ h1,h2,h3,fun m c hm =>?_⟩;simp only [List.getElem?_map,Option.map_eq_some_iff] at hm;obtain ⟨c',hc',rfl⟩:=hm;obtain ⟨v,v1,v2,v3⟩:=h4 m c' hc';exact ⟨v,v1,v2,v3.sel hg⟩
 | row k es ty=>
  rcases h with ⟨h1,h2⟩|⟨b,cap,cur,t,h1,h2⟩
  ·exact .inl ⟨hg i j hij _ h1,h2⟩
  ·exact .inr ⟨b,cap,cur,t,hg i j hij _ h1,h2⟩
 | map es=>obtain ⟨b,cap,ents,clock,h1,h2⟩:=h;exact ⟨b,cap,ents,clock,hg i j hij _ h1,h2⟩
 | iter s pos=>obtain ⟨b,cap,h1,h2⟩:=h;exact ⟨b,cap,hg i j hij _ h1,h2⟩
 | rc y q e=>
  obtain ⟨b,cap,r,h1,h2,h3,h4,h5⟩:=h;refine ⟨b,cap,r,hg i j hij _ h1,h2,h3,h4,fun t =>?_⟩;rw [aC.get_sel];exact (h5 t).sel hg
end
def Dz:List Nat→Nat→Nat→Option Nat
 | [],_,_=>none
 | x::r,i,m=>if x=i then some m else Dz r i (m+1)
def iF (m:Nat) (l:List Nat):Nat→Option Nat:=fun i=>if i<m then some i else Dz l i m
def ae.sel (g:Nat→Option Nat):ae→ae
 | []=>[]
 | (i,b)::r=>match g i with
  | some j=>(j,b.sel g)::ae.sel g r
  | none=>ae.sel g r
def St.sel (st:St) (m:Nat) (l:List Nat):St:=⟨st.env.sel (iF m l),st.sg.sel (iF m l),m+l.length⟩
theorem dd : ∀ {l:List Nat} {i m j:Nat},Dz l i m=some j→m≤j∧j<m+l.length∧l[j - m]? = some i
 | x::r,i,m,j,h=>by
  unfold Dz at h;split at h
  ·rename_i hx;injection h with h;subst h;subst hx;exact ⟨Nat.le_refl _,by simp,by simp⟩
  ·obtain ⟨h1,h2,h3⟩:=dd h;refine ⟨by omega,by simp;omega,?_⟩;rw [show j - m=(j - (m+1))+1 from by omega];simpa using h3
theorem ae.get_sel {g:Nat→Option Nat} (hinj : ∀i i' j,g i=some j→g i'=some j→i=i') : ∀(σ:ae) (j:Nat) b,(σ.sel g).get j=some b → ∃i b',g i=some j∧σ.get i=some b'∧b=b'.sel g
 | [],j,b,h=>by simp [ae.sel,ae.get] at h
 | (i,c)::r,j,b,h=>by
  simp only [ae.sel] at h;cases hi:g i with
  | none=>
   rw [hi] at h;obtain ⟨i',b',h1,h2,h3⟩:=ae.get_sel hinj r j b h;refine ⟨i',b',h1,?_,h3⟩;simp only [ae.get];rw [if_neg]
   ·exact h2
   ·rintro rfl;rw [hi] at h1;cases h1
  | some j'=>
   rw [hi] at h;simp only [ae.get] at h;split at h
   ·rename_i hj;subst hj;injection h with h;exact ⟨i,c,hi,by simp [ae.get],h.symm⟩
   ·rename_i hj;obtain ⟨i',b',h1,h2,h3⟩:=ae.get_sel hinj r j b h;refine ⟨i',b',h1,?_,h3⟩;simp only [ae.get];rw [if_neg]
    ·exact h2
    ·rintro rfl;rw [hi] at h1;injection h1 with h1;exact hj h1
theorem Ep (m:Nat) (l:List Nat) : ∀i i' j,iF m l i=some j→iF m l i'=some j→i=i':=by
 intro i i' j h h';unfold iF at h h';split at h
 ·split at h'
  ·injection h with h;injection h' with h';omega
  ·injection h with h;obtain ⟨q1,_⟩:=dd h';omega
 ·split at h'
  ·injection h' with h';obtain ⟨q1,_⟩:=dd h;omega
  ·obtain ⟨_,_,q3⟩:=dd h;obtain ⟨_,_,q3'⟩:=dd h';rw [q3] at q3';injection q3'
theorem bK.sel (G:Gl) (m:Nat) (st:St) (l:List Nat):bK G m st (st.sel m l):=by
 intro C a w hm hr;obtain ⟨I,β,h1,h2,h3,h4,h5,h6⟩:=hr;have hinj:=Ep m l;let β':bA:=fun j=>if j<m then β j else match l[j - m]? with|some i=>β i|none=>none
 have hg : ∀i j,iF m l i=some j → ∀x,β i=some x→β' j=some x:=by
  intro i j hij x hx;unfold iF at hij;split at hij
  ·rename_i hlt;injection hij with hij;subst hij;simp [β',hlt,hx]
  ·obtain ⟨q1,q2,q3⟩:=dd hij;simp [β',show ¬j<m by omega,q3,hx]
 have hgb : ∀i j,iF m l i=some j→β' j=β i:=by
  intro i j hij;unfold iF at hij;split at hij
  ·rename_i hlt;injection hij with hij;subst hij;simp [β',hlt]
  ·obtain ⟨q1,q2,q3⟩:=dd hij;simp [β',show ¬j<m by omega,q3]
 refine ⟨I,β',⟨⟨fun j b hj =>?_,fun j j' b b' k c c' g1 g2 g3 g4 =>?_,fun j hj =>?_,h1.mem.lt⟩,h1.os,h1.tape,h1.output,h1.size,h1.block,h1.imm,h1.immn,fun i x hx =>?_,?_,fun k ⟨j,b,c,g1,g2⟩ =>?_⟩,fun j hj =>?_,fun t =>?_,h4,h5.sub (fun k ⟨j,b,c,g1,g2⟩ =>?_) (fun b h=> .inl h),h6⟩
 ·obtain ⟨i,b',q1,q2,q3⟩:=ae.get_sel hinj _ j b hj;subst q3;exact (h1.mem.own i b' q2).sel hg q1
 ·obtain ⟨i,x,q1,q2,q3⟩:=ae.get_sel hinj _ j b g1;obtain ⟨i',x',q1',q2',q3'⟩:=ae.get_sel hinj _ j' b' g2;rw [hgb i j q1] at g3;rw [hgb i' j' q1'] at g4;have:=h1.mem.inj i i' x x' k c c' q2 q2' g3 g4;subst this;rw [q1] at q1';injection q1'
 ·have hj':m+l.length≤j:=hj;show (if j<m then β j else match l[j - m]? with|some i=>β i|none=>none)=none;rw [if_neg (by omega),List.getElem?_eq_none (by omega)]
 ·have hi:i<m:=by
   rcases Nat.lt_or_ge i m with h|h
   ·exact h
   ·rw [C.free i (by omega)] at hx;cases hx
  show (if i<m then β i else _)=some x;rw [if_pos hi];exact h1.bet i x hx
 ·show C.nx≤m+l.length;omega
 ·obtain ⟨i,b',q1,q2,q3⟩:=ae.get_sel hinj _ j b g1;rw [hgb i j q1] at g2;exact h1.own' k ⟨i,b',c,q2,g2⟩
 ·have hj':m+l.length≤j:=hj;show (if j<m then β j else match l[j - m]? with|some i=>β i|none=>none)=none;rw [if_neg (by omega),List.getElem?_eq_none (by omega)]
 ·show ax w I β' ((st.env.sel _).get t) _;rw [aC.get_sel];exact (h3 t).sel hg
 ·obtain ⟨i,b',q1,q2,q3⟩:=ae.get_sel hinj _ j b g1;rw [hgb i j q1] at g2;exact ⟨i,b',c,q2,g2⟩
def St.frz (st:St) (id:Nat):St:=match st.sg.get id with
 | some blk=>⟨st.env.frz id blk,st.sg.frz id blk,st.nx⟩
 | none=>st
theorem bK.refl (G:Gl) (m:Nat) (st:St):bK G m st st:=fun _ _ _ _ h=>h
theorem bK.trans {G:Gl} {m:Nat} {a b c:St} (h:bK G m a b) (k:bK G m b c):bK G m a c:=fun C x w hm hr=>k C x w hm (h C x w hm hr)
theorem bK.frz (G:Gl) (m:Nat) (st:St) (id:Nat):bK G m st (st.frz id):=by
 intro C a w _ hr;unfold St.frz;cases hg:st.sg.get id with
 | none=>exact hr
 | some blk=>
  obtain ⟨I,β,h1,h2,h3,h4,h5,h6⟩:=hr;have hown:=h1.mem.own id blk hg;let I':Nat→Prop:=fun b=>I b ∨ ∃c,β id=some (some (b,c))
  have hset:sr w I I' β id blk:=⟨fun b hb=> .inl hb,hown,fun b c hb=> .inr ⟨c,hb⟩⟩
  refine ⟨I',β,⟨⟨fun j b hj =>?_,fun j j' b b' k c c' g1 g2 g3 g4 =>?_,h1.mem.free,fun b hb =>?_⟩,h1.os,h1.tape,h1.output,h1.size,h1.block,fun b hb=> .inl (h1.imm b hb),fun b hb =>?_,h1.bet,h1.nx,fun b ⟨j,bl,c,g1,g2⟩ =>?_⟩,h2,fun t =>?_,h4,h5.sub (fun b ⟨j,bl,c,g1,g2⟩ =>?_) (fun b hb =>?_),fun g x hx=>(h6 g x hx).keep (fun _ _=>rfl) (fun b hb=> .inl hb)⟩
  ·have hj':(st.sg.frz id blk).get j=some b:=hj;rw [ae.get_frz] at hj';split at hj'
   ·cases hj'
   ·rename_i hne;simp only [Option.map_eq_some_iff] at hj';obtain ⟨b0,hb0,rfl⟩:=hj';have ho:=h1.mem.own j b0 hb0;have hni : ∀b c,β j=some (some (b,c)) → ¬I' b:=by
     intro b c hb hI;rcases hI with hI|⟨c',hc'⟩
     ·exact (ho.not_imm hb).1 hI
     ·exact hne (h1.mem.inj j id b0 blk b c c' hb0 hg hb hc')
    cases b0 with
    | cell cs ty=>
     obtain ⟨b,cap,cur,t,q1,q2,q3,q4⟩:=ho;refine ⟨b,cap,cur,t,q1,q2,hni b cap q1,fun i c hi =>?_⟩;simp only [List.getElem?_map,Option.map_eq_some_iff] at hi;obtain ⟨c',hc',rfl⟩:=hi;obtain ⟨v,v1,v2,v3⟩:=q4 i c' hc';exact ⟨v,v1,v2,hset.den v3⟩
    | row k es ty=>exact ho.keep (fun _ _=>rfl) (fun b hb=> .inl hb) hni (fun _ _ h=>h)
    | map es=>exact ho.keep (fun _ _=>rfl) (fun b hb=> .inl hb) hni (fun _ _ h=>h)
    | iter s pos=>exact ho.keep (fun _ _=>rfl) (fun b hb=> .inl hb) hni (fun _ _ h=>h)
    | rc y q e=>
     obtain ⟨b,cap,r,q1,q2,q3,q4,q5⟩:=ho;refine ⟨b,cap,r,q1,q2,hni b cap q1,q4,fun t =>?_⟩;rw [aC.get_frz];exact hset.den (q5 t)
  ·have e1:(st.sg.frz id blk).get j=some b:=g1;have e2:(st.sg.frz id blk).get j'=some b':=g2;rw [ae.get_frz] at e1 e2;split at e1
   ·cases e1
   ·split at e2
    ·cases e2
    ·simp only [Option.map_eq_some_iff] at e1 e2;obtain ⟨x,hx,_⟩:=e1;obtain ⟨y,hy,_⟩:=e2;exact h1.mem.inj j j' x y k c c' hx hy g3 g4
  ·rcases hb with hb|⟨c,hb⟩
   ·exact h1.mem.lt b hb
   ·exact (hown.not_imm hb).2
  ·rcases hb with hb|⟨c,hb⟩
   ·exact h1.immn b hb
   ·rcases h1.own' b ⟨id,blk,c,hg,hb⟩ with h|h
    ·exact .inr (.inl h)
    ·exact .inr (.inr h)
  ·have e1:(st.sg.frz id blk).get j=some bl:=g1;rw [ae.get_frz] at e1;split at e1
   ·cases e1
   ·simp only [Option.map_eq_some_iff] at e1;obtain ⟨x,hx,_⟩:=e1;exact h1.own' b ⟨j,x,c,hx,g2⟩
  ·show ax w I' β ((st.env.frz id blk).get t) _;rw [aC.get_frz];exact hset.den (h3 t)
  ·have e1:(st.sg.frz id blk).get j=some bl:=g1;rw [ae.get_frz] at e1;split at e1
   ·cases e1
   ·simp only [Option.map_eq_some_iff] at e1;obtain ⟨x,hx,_⟩:=e1;exact ⟨j,x,c,hx,g2⟩
  ·rcases hb with hb|⟨c,hb⟩
   ·exact .inl hb
   ·exact .inr ⟨id,blk,c,hg,hb⟩
def St.pick (st:St) (ks is:List Nat):St:=⟨ks.map fun t=>(t,st.env.get t),is.filterMap fun i=>(st.sg.get i).map fun b=>(i,b),st.nx⟩
theorem aC.get_map (f:Nat→V) (t:Nat) : ∀(ks:List Nat),aC.get (ks.map fun t=>(t,f t)) t=f t∨aC.get (ks.map fun t=>(t,f t)) t = .unk
 | []=> .inr rfl
 | k::r=>by
  simp only [List.map_cons,aC.get];split
  ·rename_i h;subst h;exact .inl rfl
  ·exact aC.get_map f t r
theorem ae.get_pick (σ:ae) (j:Nat) (b:bu) : ∀(is:List Nat),ae.get (is.filterMap fun i=>(σ.get i).map fun b=>(i,b)) j=some b→σ.get j=some b
 | [],h=>by cases h
 | k::r,h=>by
  cases hk:σ.get k with
  | none=>
   simp only [List.filterMap_cons,hk,Option.map_none] at h;exact ae.get_pick σ j b r h
  | some c=>
   simp only [List.filterMap_cons,hk,Option.map_some,ae.get] at h;split at h
   ·rename_i e;subst e;rw [hk];exact h
   ·exact ae.get_pick σ j b r h
theorem aj.sub {w w':World} {I I':Nat→Prop} {β β':bA} {σ σ' σ'':ae} {nx nx' nx'':Nat} (h:aj w I β σ nx w' I' β' σ' nx') (he : ∀j b,σ''.get j=some b→σ'.get j=some b) (hn:nx'≤nx''):aj w I β σ nx w' I' β' σ'' nx'':=
 { h with
  mem:=⟨fun id b hb=>h.mem.own id b (he _ _ hb),fun i j b b' k c c' h1 h2=>h.mem.inj i j b b' k c c' (he _ _ h1) (he _ _ h2),fun j hj=>h.mem.free j (by omega),h.mem.lt⟩
  nx:=by have:=h.nx;omega
  own':=fun b ⟨id,blk,c,h1,h2⟩=>h.own' b ⟨id,blk,c,he _ _ h1,h2⟩ }
theorem bK.pick (G:Gl) (m:Nat) (st:St) (ks is:List Nat):bK G m st (st.pick ks is):=by
 intro C a w _ hr;obtain ⟨I,β,h1,h2,h3,h4,h5,h6⟩:=hr;refine ⟨I,β,h1.sub (fun j b hb=>ae.get_pick _ j b is hb) (Nat.le_refl _),h2,fun t =>?_,h4,h5.sub (fun b ⟨j,bl,c,g1,g2⟩=>⟨j,bl,c,ae.get_pick _ j bl is g1,g2⟩) (fun b h=> .inl h),h6⟩;rcases aC.get_map (fun t=>st.env.get t) t ks with h|h
 ·show ax w I β (aC.get (ks.map fun t=>(t,st.env.get t)) t) _;rw [h];exact h3 t
 ·show ax w I β (aC.get (ks.map fun t=>(t,st.env.get t)) t) _;rw [h];trivial
def V.atm (v:V):V:=match v with
 | .agg _=> .unk
 | .tup _=> .unk
 | .fn _ _=> .unk
 | v=>v
def m5:List V→V
 | [v]=>v
 | vs=> .tup (vs.map V.atm)
def lN (P:Program):List ResultVar→St→(List V→Prop)→Prop
 | [],_,K=>K []
 | .tmp t::r,st,K=>lN P r st fun vs=>K (st.env.get t::vs)
 | .cell a t::r,st,K=>dp P t (st.env.get a) st.sg fun v=>lN P r st fun vs=>K (v::vs)
def ah (P:Program) (G:Gl) (m:Nat) (rs:List ResultVar) (r:V) (σ':ae) (st:St):Prop:=
 aN G m (fun st=>lN P rs st fun vs=> ∃l:List Nat,(m5 vs).sel (iF m l)=r∧ar σ' (st.sg.sel (iF m l))∧l.length≤4) st
def yF (K:St→Prop):Exit→St→Prop
 | .normal,st=>K st
 | .ret,st=>K st
 | _,_=>False
def aq (P:Program) (G:Gl) (f:Nat) (args:List V) (σ:ae) (m:Nat) (r:V) (σ':ae):Prop:=
 ∀w I β vals,b4 w I β σ m→An G w I→bU w I β args vals→Calls P f vals.toArray w fun e w'=> ∃u I' β',e = .returned u∧ax w' I' β' r u∧aj w I β σ m w' I' β' σ' (m+4)
def fg:Nat→List V→aC
 | _,[]=>[]
 | i,v::r=>(i,v)::fg (i+1) r
theorem uQ (args:List V) : ∀(i t:Nat),(fg i args).get t=if i≤t then (args[t - i]?).getD .unk else .unk:=by
 induction args with
 | nil=>intro i t;simp [fg,aC.get]
 | cons v r ih=>
  intro i t;simp only [fg,aC.get];split
  ·rename_i h;subst h;simp
  ·rename_i h;rw [ih];by_cases h1:i+1≤t
   ·rw [if_pos h1,if_pos (by omega),show t - i=(t - (i+1))+1 from by omega];simp
   ·rw [if_neg h1,if_neg (by omega)]
section
variable {P:Program} {G:Gl}
theorem FU {w:World} {I:Nat→Prop} {β:bA} {v:V} {x:Value} (h:ax w I β v x):bw w I β v.atm x:=by
 cases v<;>first|exact h|trivial
def jD (tmps:Array Value):ResultVar→Sem Value
 | .tmp t=>pure (tmps.getD t undef)
 | .cell a t=>do loadVar t (←asAddr (tmps.getD a undef))
theorem pc (fn:Func) (tmps:Array Value):results fn tmps=(do let vs ←fn.results.mapM (jD tmps);pure (if h:vs.size=1 then vs[0] else .tuple vs)):=by
 unfold results;congr 2
theorem Bs {P:Program} {w:World} {α:Type} (f:α→Sem Value) (rs:List α) (xs:List Value) (hl:rs.length=xs.length) (h : ∀(i:Nat) r x,rs[i]? = some r→xs[i]? = some x→(f r).run P w = .ok x w):(rs.mapM f).run P w = .ok xs w:=by
 induction rs generalizing xs with
 | nil=>
  cases xs with
  | nil=>simp
  | cons=>simp at hl
 | cons r rs ih=>
  cases xs with
  | nil=>simp at hl
  | cons x xs=>
   have h0:=h 0 r x rfl rfl;have h1:=ih xs (by simpa using hl) (fun i r x hr hx=>h (i+1) r x (by simpa using hr) (by simpa using hx));rw [List.mapM_cons];simp only [Sem.run_bind,Sem.run_pure,Result.andThen,h0,h1]
theorem yE {w:World} {I:Nat→Prop} {β:bA} {nx:Nat} {st:St} {tmps:Array Value} (hm:b4 w I β st.sg nx) (he : ∀t,ax w I β (st.env.get t) (tmps.getD t undef)) :
 ∀(rs:List ResultVar) (K:List V→Prop),lN P rs st K →
   ∃(vs:List V) (xs:List Value),K vs∧vs.length=xs.length∧(∀(i:Nat) c v,vs[i]? = some c→xs[i]? = some v→ax w I β c v)∧rs.length=xs.length ∧ ∀(i:Nat) r x,rs[i]? = some r→xs[i]? = some x→(jD tmps r).run P w = .ok x w:=by
 intro rs;induction rs with
 | nil=>intro K h;exact ⟨[],[],h,rfl,by simp,rfl,by simp⟩
 | cons r rs ih=>
  intro K h;have key : ∀(v:V) (x:Value),ax w I β v x→(jD tmps r).run P w = .ok x w→lN P rs st (fun vs=>K (v::vs)) → ∃(vs:List V) (xs:List Value),K vs∧vs.length=xs.length∧(∀(i:Nat) c v,vs[i]? = some c→xs[i]? = some v→ax w I β c v)∧(r::rs).length=xs.length ∧ ∀(i:Nat) r' x,(r::rs)[i]? = some r'→xs[i]? = some x→(jD tmps r').run P w = .ok x w:=by
   intro v x hv hx h;obtain ⟨vs,xs,h1,h2,h3,h4,h5⟩:=ih _ h;refine ⟨v::vs,x::xs,h1,by simp [h2],fun i c y hc hy =>?_,by simp [h4],fun i r' y hr hy =>?_⟩
   ·cases i with
    | zero=>simp at hc hy;subst hc;subst hy;exact hv
    | succ i=>exact h3 i c y (by simpa using hc) (by simpa using hy)
   ·cases i with
    | zero=>simp at hr hy;subst hr;subst hy;exact hx
    | succ i=>exact h5 i r' y (by simpa using hr) (by simpa using hy)
  cases r with
  | tmp t=>exact key _ _ (he t) (by simp [jD]) h
  | cell a t=>
   obtain ⟨v,q1,q2⟩:=mq h;obtain ⟨x,q3,q4⟩:=q2 w I β st.sg nx (tmps.getD a undef) hm (fun _ _ h=>h) (he a);refine key v x q4 ?_ q1;cases hv:tmps.getD a undef with
   | pointer o=>
    cases o with
    | some ad=>rw [hv] at q3;simp only [jD,hv,asAddr];exact q3
    | none=>rw [hv] at q3;simp [Instr.loadAt,Instr.sureAddr,stuck] at q3
   | _=>rw [hv] at q3;simp [Instr.loadAt,Instr.sureAddr,stuck] at q3
theorem FV {w:World} {I:Nat→Prop} {β:bA} : ∀ {vs:List V} {xs:List Value},vs.length=xs.length→(∀(i:Nat) c v,vs[i]? = some c→xs[i]? = some v→ax w I β c v)→ax w I β (m5 vs) (if h:xs.toArray.size=1 then xs.toArray[0] else .tuple xs.toArray)
 | [v],[x],_,h=>by simpa [m5] using h 0 v x rfl rfl
 | [],[],_,_=>by simp only [m5];exact ⟨[],by simp,by simp [bo]⟩
 | v::v'::vs,x::x'::xs,hl,h=>by
  simp only [m5];refine ⟨x::x'::xs,by simp,by simpa using hl,fun i c u hc hu =>?_⟩;simp only [List.getElem?_map,Option.map_eq_some_iff] at hc;obtain ⟨c',hc',rfl⟩:=hc;exact FU (h i c' u hc' hu)
 | [],_::_,hl,_=>by simp at hl
 | [_],[],hl,_=>by simp at hl
 | [_],_::_::_,hl,_=>by simp at hl
 | _::_::_,[],hl,_=>by simp at hl
 | _::_::_,[_],hl,_=>by simp at hl
theorem ud {fn:Func} {rs:List ResultVar} (hrs:fn.results=rs.toArray) {C:qf} {r:V} {σ':ae} {st:St} {a:Act} {w:World} (h:ah P G C.nx rs r σ' st) (hr:na C G st a w) :
 ∃v,(results fn a.tmps).run P w = .ok v w ∧ ∃I' β',ax w I' β' r v∧aj C.w C.I C.β C.σ C.nx w I' β' σ' (C.nx+4):=by
 obtain ⟨st',h1,h2⟩:=h;obtain ⟨I,β,g1,g2,g3,g4,g5,g6⟩:=h1 C a w rfl hr;obtain ⟨vs,xs,⟨l,k1,k2,k3⟩,k4,k5,k6,k7⟩:=yE g1.mem g3 rs _ h2;have hrun:=Bs (P:=P) (w:=w) (jD a.tmps) rs xs k6 k7;have hres:(results fn a.tmps).run P w = .ok (if h:xs.toArray.size=1 then xs.toArray[0] else .tuple xs.toArray) w:=by
  rw [pc,hrs,List.mapM_toArray];simp only [Sem.run_bind,Sem.run_map,hrun,Result.andThen,Sem.run_pure]
 have hden:=FV (w:=w) (I:=I) (β:=β) k4 k5;clear k6 k7 hrun;revert hres hden;generalize (if h:xs.toArray.size=1 then xs.toArray[0] else Value.tuple xs.toArray)=u;intro hres hden;have hrel:na { C with n:=1,hd:=[] } G ⟨[(0,m5 vs)],st'.sg,st'.nx⟩ { tmps :=#[u],defers:=[] } w:=by
  refine ⟨I,β,g1,g2,fun t =>?_,rfl,gQ.nil,g6⟩;show ax w I β (if 0=t then m5 vs else .unk) _;split
  ·rename_i e;subst e;exact hden
  ·trivial
 obtain ⟨I',β',q1,_,q3,_⟩:=bK.sel G C.nx ⟨[(0,m5 vs)],st'.sg,st'.nx⟩ l { C with n:=1,hd:=[] } { tmps :=#[u],defers:=[] } w rfl hrel;refine ⟨_,hres,I',β',?_,q1.sub k2 (by show C.nx+l.length≤C.nx+4;omega)⟩;subst k1;exact q3 0
theorem dC.shut {C:qf} (hC:C.hd=[]) {e:aC} {σ:ae} {nx lim D:Nat} {ds:List Deferred} {tmps:Array Value} {w:World} (h:dC C G e σ nx lim { tmps:=tmps,defers :={ target:= .collected D,args :=#[] } :: ds } w) :
 w.heap[D]? = some (.deferred (some []))∧dC C G e σ nx lim { tmps:=tmps,defers:=ds } (w.putObj D (.deferred none)):=by
 obtain ⟨I,β,h1,h2,h3,h4,⟨⟨Ds,q1,q2,q3⟩,_⟩,h6⟩:=h;match Ds,q1,q2,q3 with
 | [],q1,_,_=>simp at q1
 | D'::r,q1,q2,q3=>
  simp only [List.map_cons,List.cons.injEq,Deferred.mk.injEq,Target.collected.injEq,and_true] at q1;obtain ⟨rfl,rfl⟩:=q1;obtain ⟨g1,g2,g3,g4⟩:=q3 D (by simp);have hI : ∀b,I b→(w.putObj D (.deferred none)).heap[b]? = w.heap[b]? :=fun b hb=>World.putObj_heap_other (fun e=>g3 (e▸hb))
  have hO : ∀b,bd σ β b→(w.putObj D (.deferred none)).heap[b]? = w.heap[b]? :=fun b hb=>World.putObj_heap_other (fun e=>g4 (e▸hb))
  refine ⟨g2,I,β,⟨⟨fun id blk hb =>?_,h1.mem.inj,h1.mem.free,fun b hb =>?_⟩,h1.os,h1.tape,h1.output,?_,fun b hb ho =>?_,h1.imm,h1.immn,h1.bet,h1.nx,h1.own'⟩,h2,fun t=>(h3 t).keep hI (fun _ h=>h) (fun _ _ h=>h),h4,⟨⟨r,rfl,(List.nodup_cons.1 q2).2,fun D' hD' =>?_⟩,fun p hp=>by rw [hC] at hp;cases hp⟩,fun g x hx=>(h6 g x hx).keep hI (fun _ h=>h)⟩
  ·have ho:=h1.mem.own id blk hb;refine ho.keep (fun b hb' =>?_) (fun _ h=>h) (fun b c hc=>(ho.not_imm hc).1) (fun _ _ h=>h);rcases hb' with hb'|⟨c,hc⟩
   ·exact hI b hb'
   ·exact hO b ⟨id,blk,c,hb,hc⟩
  ·rw [World.putObj_size];exact h1.mem.lt b hb
  ·rw [World.putObj_size];exact h1.size
  ·rw [World.putObj_heap_other (by omega)];exact h1.block b hb ho
  ·obtain ⟨k1,k2,k3,k4⟩:=q3 D' (by simp [hD']);refine ⟨k1,?_,k3,k4⟩;rw [World.putObj_heap_other (fun e=>(List.nodup_cons.1 q2).1 (by rw [←e];exact hD'))];exact k2
theorem tf {fn:Func} {C:qf} (hC:C.hd=[]) {st:St} {tmps:Array Value} {R:Ending→World→Prop} (hf : ∀w,na C G st { tmps:=tmps,defers:=[] } w → ∃v,(results fn tmps).run P w = .ok v w∧R (.returned v) w) :
 ∀(ds:List Deferred) (w:World),na C G st { tmps:=tmps,defers:=ds } w→LeavesInM (Fr none) 0 P fn tmps R ds .returning w
 | [],w,h=>hf w h
 | d::ds,w,h=>by
  obtain ⟨D,rfl⟩ : ∃D,d = { target:= .collected D,args :=#[] } :=by
   obtain ⟨I,β,h1,h2,h3,h4,⟨⟨Ds,q1,q2,q3⟩,_⟩,h6⟩:=id h;match Ds,q1 with
   | [],q1=>simp at q1
   | D::r,q1=>
    simp only [List.map_cons,List.cons.injEq] at q1;exact ⟨D,q1.1⟩
  obtain ⟨g1,g2⟩:=dC.shut hC h;exact ⟨(fun e=>by cases e),.inl ⟨D,_,rfl,run_takeDeferred g1,tf hC hf ds _ g2⟩⟩
theorem aq.of_aw {f:Nat} {fn:Func} {c:Code} {rs:List ResultVar} {n:Nat} (hf:P.funcs[f]? = some fn) (hb:fn.body=some c) (hrs:fn.results=rs.toArray) (hn:fn.ntmps=n)
 {args:List V} (hlen:args.length≤n) {σ:ae} {m:Nat} {r:V} {σ':ae} (h:AW P G n m c ⟨fg 0 args,σ,m⟩ (yF (ah P G m rs r σ'))):aq P G f args σ m r σ':=by
 intro w I β vals hm hG hd;subst hn;refine (callsIn_wide (n:=0)).1 (callsIn_of_wp_marks (F:=Fr none) hf hb trivial ?_);let C:qf:=⟨w,I,β,σ,m,fn.ntmps,hm.free,[]⟩
 have hrel:na C G ⟨fg 0 args,σ,m⟩ { tmps:=vals.toArray++Array.replicate (fn.ntmps - vals.toArray.size) undef,defers:=[] } w:=by
  refine ⟨I,β,aj.refl hm,hm.free,fun t =>?_,?_,gQ.nil,hG⟩
  ·show ax w I β ((fg 0 args).get t) _;rw [uQ];simp only [Nat.zero_le,if_true,Nat.sub_zero];cases hv:args[t]? with
   | none=>trivial
   | some v=>
    have ht:t<vals.length:=by
     rw [←hd.1];rcases Nat.lt_or_ge t args.length with h|h
     ·exact h
     ·rw [List.getElem?_eq_none h] at hv;cases hv
    have:(vals.toArray++Array.replicate (fn.ntmps - vals.toArray.size) undef).getD t undef=vals[t]:=by
     simp [Array.getD_eq_getD_getElem?,Array.getElem?_append,ht]
    rw [this];exact hd.2 t v _ hv (List.getElem?_eq_getElem ht)
  ·show (vals.toArray++Array.replicate (fn.ntmps - vals.toArray.size) undef).size=fn.ntmps;have:=hd.1;simp;omega
 refine wpIn_mono (h none (.inl rfl) C _ w rfl rfl hrel) ?_;rintro e a w' ⟨st',hq,hr⟩;have key:ah P G m rs r σ' st'→LeavesInM (Fr none) 0 P fn a.tmps (fun e w'=> ∃u I' β',e = .returned u∧ax w' I' β' r u∧aj w I β σ m w' I' β' σ' (m+4)) a.defers .returning w':=fun hq=>by
  refine tf (C:=C) rfl (G:=G) (st:=st') (fun w'' h =>?_) a.defers w' hr;obtain ⟨v,h2,I',β',h3,h4⟩:=ud (C:=C) (fn:=fn) hrs hq h;exact ⟨v,h2,v,I',β',rfl,h3,h4⟩
 cases e with
 | normal=>exact key hq
 | ret=>exact key hq
 | _=>exact hq.elim
theorem aq.of_code (ho:P.follows .mixedOrders=true) {f:Nat} {fn:Func} {c:Code} {rs:List ResultVar} {n:Nat} (lv:List Nat) (hf:P.funcs[f]? = some fn) (hb:fn.body=some c) (hrs:fn.results=rs.toArray) (hn:fn.ntmps=n) (hok:aE n c=true)
 {args:List V} (hlen:args.length≤n) {σ:ae} {m:Nat} {r:V} {σ':ae} (h:bc P G n m lv c ⟨fg 0 args,σ,m⟩ (yF (ah P G m rs r σ'))):aq P G f args σ m r σ':=
 aq.of_aw hf hb hrs hn hlen (cU ho c _ _ hok h)
end
def bk (l:List Nat) (id:Nat):Nat→Option Nat:=fun j=>if j<l.length then l[j]? else if j<l.length+4 then some (id+(j - l.length)) else none
def fw (l:List Nat):Nat→Option Nat:=fun i=>Dz l i 0
def jr (σ:ae):List Nat→ae
 | []=>σ
 | i::r=>jr (σ.del i) r
def Cm (l:List Nat) (id:Nat) (σ:ae):Bool:=(l.all fun i=>decide (i<id)&&(σ.get i).isSome)&&decide l.Nodup
theorem oo (l:List Nat) : ∀(σ:ae) (j:Nat),(jr σ l).get j=if j∈l then none else σ.get j:=by
 induction l with
 | nil=>intro σ j;simp [jr]
 | cons i r ih=>
  intro σ j;simp only [jr,ih,ae.get_del,List.mem_cons];by_cases h:j∈r
  ·simp [h]
  ·by_cases h':j=i<;>simp [h,h']
theorem jx : ∀ {l:List Nat} (_:l.Nodup) {i j m:Nat},l[j]? = some i→Dz l i m=some (m+j)
 | x::r,hn,i,j,m,h=>by
  unfold Dz;cases j with
  | zero=>simp at h;subst h;simp
  | succ j=>
   simp at h;have hm:i∈r:=List.mem_of_getElem? h;have hx:x≠i:=by rintro rfl;exact (List.nodup_cons.1 hn).1 hm
   rw [if_neg hx,jx (List.nodup_cons.1 hn).2 h];congr 1;omega
theorem CM {l:List Nat} {id:Nat} (hn:l.Nodup) (hlt : ∀i∈l,i<id) : ∀j j' i,bk l id j=some i→bk l id j'=some i→j=j':=by
 intro j j' i h h';unfold bk at h h';split at h
 ·have hi:=hlt i (List.mem_of_getElem? h);split at h'
  ·have e1:=jx hn (m:=0) h;have e2:=jx hn (m:=0) h';rw [e1] at e2;injection e2 with e2;omega
  ·split at h'
   ·injection h' with h';omega
   ·cases h'
 ·split at h
  ·injection h with h;split at h'
   ·have hi:=hlt i (List.mem_of_getElem? h');omega
   ·split at h'
    ·injection h' with h';omega
    ·cases h'
  ·cases h
theorem ae.get_sel' {g:Nat→Option Nat} (hinj : ∀i i' j,g i=some j→g i'=some j→i=i') {i j:Nat} (hg:g i=some j) : ∀(σ:ae) (b:bu),σ.get i=some b→(σ.sel g).get j=some (b.sel g)
 | [],b,h=>by simp [ae.get] at h
 | (i',c)::r,b,h=>by
  simp only [ae.get] at h;split at h
  ·rename_i e;subst e;injection h with h;subst h;simp [ae.sel,hg,ae.get]
  ·rename_i hne;have ih:=ae.get_sel' hinj hg r b h;simp only [ae.sel];cases hi:g i' with
   | none=>exact ih
   | some j'=>
    simp only [ae.get];rw [if_neg]
    ·exact ih
    ·rintro rfl;exact hne (hinj _ _ _ hi hg)
theorem iT {l:List Nat} {i j:Nat} (h:fw l i=some j):l[j]? = some i∧j<l.length:=by
 obtain ⟨h1,h2,h3⟩:=dd h;exact ⟨by simpa using h3,by omega⟩
theorem gH.named {w:World} {I:Nat→Prop} {β:bA} {id:Nat} {blk:bu} (h:gH w I β id blk) : ∃y,β id=some y:=by
 cases blk with
 | cell cs ty=>obtain ⟨b,cap,_,_,h1,_⟩:=h;exact ⟨_,h1⟩
 | row k es ty=>
  rcases h with ⟨h1,_⟩|⟨b,cap,_,_,h1,_⟩
  ·exact ⟨_,h1⟩
  ·exact ⟨_,h1⟩
 | map es=>obtain ⟨b,cap,_,_,h1,_⟩:=h;exact ⟨_,h1⟩
 | iter s pos=>obtain ⟨b,cap,h1,_⟩:=h;exact ⟨_,h1⟩
 | rc y j e=>obtain ⟨b,cap,r,h1,_⟩:=h;exact ⟨_,h1⟩
section
variable {P:Program} {G:Gl}
theorem sM {f:Nat} {args:List V} {σ:ae} {id:Nat} (l:List Nat) (hl:Cm l id σ=true) {r:V} {σ1:ae} (h:aq P G f (args.map (V.sel (fw l))) (σ.sel (fw l)) l.length r σ1) :
 qg P G f args σ id (r.sel (bk l id)) (jr σ l++σ1.sel (bk l id)):=by
 intro w I β nx vals hm hG hf hnx hd;simp only [Cm,Bool.and_eq_true,List.all_eq_true,decide_eq_true_eq] at hl;obtain ⟨hl1,hnd⟩:=hl;have hlt : ∀i∈l,i<id:=fun i hi=>(hl1 i hi).1
 let β0:bA:=fun j=>match l[j]? with|some i=>β i|none=>none
 have hfw : ∀i j,fw l i=some j → ∀x,β i=some x→β0 j=some x:=by
  intro i j hij x hx;show (match l[j]? with|some i=>β i|none=>none)=some x;rw [(iT hij).1];exact hx
 have hfb : ∀i j,fw l i=some j→β0 j=β i:=by
  intro i j hij;show (match l[j]? with|some i=>β i|none=>none)=β i;rw [(iT hij).1]
 have hinj : ∀i i' j,fw l i=some j→fw l i'=some j→i=i':=by
  intro i i' j h h';have e1:=(iT h).1;have e2:=(iT h').1;rw [e1] at e2;injection e2
 have hm0:b4 w I β0 (σ.sel (fw l)) l.length:=by
  refine ⟨fun j b hj =>?_,fun j j' b b' k c c' g1 g2 g3 g4 =>?_,fun j hj =>?_,hm.lt⟩
  ·obtain ⟨i,b',q1,q2,q3⟩:=ae.get_sel hinj _ j b hj;subst q3;exact (hm.own i b' q2).sel hfw q1
  ·obtain ⟨i,x,q1,q2,q3⟩:=ae.get_sel hinj _ j b g1;obtain ⟨i',x',q1',q2',q3'⟩:=ae.get_sel hinj _ j' b' g2;rw [hfb i j q1] at g3;rw [hfb i' j' q1'] at g4;have:=hm.inj i i' x x' k c c' q2 q2' g3 g4;subst this;rw [q1] at q1';injection q1'
  ·show (match l[j]? with|some i=>β i|none=>none)=none;rw [List.getElem?_eq_none hj]
 have hd0:bU w I β0 (args.map (V.sel (fw l))) vals:=by
  refine ⟨by simpa using hd.1,fun i c x hc hx =>?_⟩;simp only [List.getElem?_map,Option.map_eq_some_iff] at hc;obtain ⟨c',hc',rfl⟩:=hc;exact (hd.2 i c' x hc' hx).sel hfw
 refine (h w I β0 vals hm0 hG hd0).mono ?_;rintro e w' ⟨u,I',β1,rfl,hu,hs⟩;let β':bA:=fun i=>if id≤i∧i<id+4 then β1 (l.length+(i - id)) else β i
 have hβ : ∀i,¬(id≤i∧i<id+4)→β' i=β i:=fun i hi=>by simp only [β',if_neg hi]
 have hown0 : ∀b,bd (σ.sel (fw l)) β0 b → ∃i blk c,i∈l∧σ.get i=some blk∧β i=some (some (b,c)):=by
  rintro b ⟨j,blk,c,h1,h2⟩;obtain ⟨i,b',q1,q2,q3⟩:=ae.get_sel hinj _ j blk h1;rw [hfb i j q1] at h2;exact ⟨i,b',c,List.mem_of_getElem? (iT q1).1,q2,h2⟩
 have hown0' : ∀b,bd (σ.sel (fw l)) β0 b→bd σ β b:=fun b hb=>by
  obtain ⟨i,blk,c,_,h2,h3⟩:=hown0 b hb;exact ⟨i,blk,c,h2,h3⟩
 have hbk : ∀j i,bk l id j=some i → ∀x,β1 j=some x→β' i=some x:=by
  intro j i hji x hx;unfold bk at hji;split at hji
  ·have hil:=List.mem_of_getElem? hji;rw [hβ i (by have:=hlt i hil;omega)];have hs1:=(hl1 i hil).2;cases hgi:σ.get i with
   | none=>rw [hgi] at hs1;cases hs1
   | some blk=>
    have hown:=hm.own i blk hgi;obtain ⟨y,hy⟩:=hown.named;have h0:β0 j=some y:=by
     show (match l[j]? with|some i=>β i|none=>none)=some y;rw [hji];exact hy
    rw [hs.bet j y h0] at hx;rw [hy,hx]
  ·split at hji
   ·injection hji with hji;show (if id≤i∧i<id+4 then β1 (l.length+(i - id)) else β i)=some x;rw [if_pos (by omega),show l.length+(i - id)=j from by omega];exact hx
   ·cases hji
 have hbk' : ∀j i,bk l id j=some i→β1 j≠none→β' i=β1 j:=by
  intro j i hji hne;cases hx:β1 j with
  | none=>exact absurd hx hne
  | some x=>exact hbk j i hji x hx
 have hbinj:=CM (id:=id) hnd hlt;have hkeep : ∀i blk,i∉l→σ.get i=some blk → ∀b c,β i=some (some (b,c)) → ¬bd (σ.sel (fw l)) β0 b∧b<w.heap.size ∧ ¬I b:=by
  intro i blk hil hgi b c hb;refine ⟨fun ho =>?_,((hm.own i blk hgi).not_imm hb).2,((hm.own i blk hgi).not_imm hb).1⟩;obtain ⟨i',blk',c',h1,h2,h3⟩:=hown0 b ho;have:=hm.inj i i' blk blk' b c c' hgi h2 hb h3;subst this;exact hil h1
 have hget : ∀i b,(jr σ l++σ1.sel (bk l id)).get i=some b→(i∉l∧σ.get i=some b) ∨ ∃j b',bk l id j=some i∧σ1.get j=some b'∧b=b'.sel (bk l id):=by
  intro i b hi;rw [bt,oo] at hi;split at hi
  ·rename_i b' hb';split at hb'
   ·cases hb'
   ·rename_i hil;injection hi with hi;subst hi;exact .inl ⟨hil,hb'⟩
  ·exact .inr (ae.get_sel hbinj _ i b hi)
 have hnf : ∀i blk,σ.get i=some blk→β' i=β i:=by
  intro i blk hgi;obtain ⟨y,hy⟩:=(hm.own i blk hgi).named;apply hβ;rintro ⟨h1,h2⟩;rw [hf i h1 h2] at hy;cases hy
 have hdom : ∀j b',σ1.get j=some b'→β1 j≠none:=by
  intro j b' hj he;obtain ⟨y,hy⟩:=(hs.mem.own j b' hj).named;rw [he] at hy;cases hy
 have hother : ∀i blk b c,i∉l→σ.get i=some blk→β' i=some (some (b,c)) → ¬bd σ1 β1 b ∧ ¬I' b∧w'.heap[b]? = w.heap[b]? :=by
  intro i blk b c hil hgi hb;have hb0:β i=some (some (b,c)):=by rw [←hnf i blk hgi];exact hb
  obtain ⟨h1,h2,h3⟩:=hkeep i blk hil hgi b c hb0;refine ⟨fun ho =>?_,fun hi =>?_,hs.block b h2 h1⟩
  ·rcases hs.own' b ho with h|h
   ·exact h1 h
   ·omega
  ·rcases hs.immn b hi with h|h|h
   ·exact h3 h
   ·exact h1 h
   ·omega
 refine ⟨u,I',β',rfl,hu.sel hbk,⟨⟨fun i b hi =>?_,fun i i' b b' k c c' g1 g2 g3 g4 =>?_,fun j hj =>?_,hs.mem.lt⟩,hs.os,hs.tape,hs.output,hs.size,fun b hb ho=>hs.block b hb (fun h=>ho (hown0' b h)),hs.imm,fun b hb =>?_,fun i x hx =>?_,Nat.le_refl _,?_⟩,hβ⟩
 ·rcases hget i b hi with ⟨hil,hgi⟩|⟨j,b',h1,h2,rfl⟩
  ·have ho:=hm.own i b hgi;have hbet : ∀j x,β j=some x→β' j=some x:=by
    intro j x hx;rw [hβ j]
    ·exact hx
    ·rintro ⟨h1,h2⟩;rw [hf j h1 h2] at hx;cases hx
   refine ho.keep (fun k hk =>?_) hs.imm (fun k c hk=>(hother i b k c hil hgi (by rw [hnf i b hgi];exact hk)).2.1) hbet;rcases hk with hk|⟨c,hk⟩
   ·exact hs.block k (hm.lt k hk) (hm0.not_owned hk)
   ·exact (hother i b k c hil hgi (by rw [hnf i b hgi];exact hk)).2.2
  ·exact (hs.mem.own j b' h2).sel hbk h1
 ·rcases hget i b g1 with ⟨hil,hgi⟩|⟨j,x,q1,q2,_⟩
  ·rcases hget i' b' g2 with ⟨hil',hgi'⟩|⟨j',x',q1',q2',_⟩
   ·rw [hnf i b hgi] at g3;rw [hnf i' b' hgi'] at g4;exact hm.inj i i' b b' k c c' hgi hgi' g3 g4
   ·exfalso;rw [hbk' j' i' q1' (hdom j' x' q2')] at g4;exact (hother i b k c hil hgi g3).1 ⟨j',x',c',q2',g4⟩
  ·rcases hget i' b' g2 with ⟨hil',hgi'⟩|⟨j',x',q1',q2',_⟩
   ·exfalso;rw [hbk' j i q1 (hdom j x q2)] at g3;exact (hother i' b' k c' hil' hgi' g4).1 ⟨j,x,c,q2,g3⟩
   ·rw [hbk' j i q1 (hdom j x q2)] at g3;rw [hbk' j' i' q1' (hdom j' x' q2')] at g4;have:=hs.mem.inj j j' x x' k c c' q2 q2' g3 g4;subst this;rw [q1] at q1';injection q1'
 ·rw [hβ j (by omega)];exact hm.free j hj
 ·rcases hs.immn b hb with h|h|h
  ·exact .inl h
  ·exact .inr (.inl (hown0' b h))
  ·exact .inr (.inr h)
 ·show β' i=some x;rw [hβ i]
  ·exact hx
  ·rintro ⟨h1,h2⟩;rw [hf i h1 h2] at hx;cases hx
 ·rintro b ⟨i,blk,c,h1,h2⟩;rcases hget i blk h1 with ⟨hil,hgi⟩|⟨j,b',q1,q2,rfl⟩
  ·exact .inl ⟨i,blk,c,hgi,by rw [←hnf i blk hgi];exact h2⟩
  ·rw [hbk' j i q1 (hdom j b' q2)] at h2;rcases hs.own' b ⟨j,b',c,q2,h2⟩ with h|h
   ·exact .inl (hown0' b h)
   ·exact .inr h
theorem aB.of {f:Nat} {args:List V} {σ:ae} {id:Nat} {K:V→ae→Prop} (l:List Nat) {r:V} {σ1:ae} (he:bN P f=true) (h:aq P G f (args.map (V.sel (fw l))) (σ.sel (fw l)) l.length r σ1) (hl:Cm l id σ=true)
 (hK:K (r.sel (bk l id)) (jr σ l++σ1.sel (bk l id))):aB P G f args σ id K:=⟨_,_,hK,.inl ⟨he,sM l hl h⟩⟩
theorem pm (σ:ae):σ.sel (fw [])=[]:=by
 induction σ with
 | nil=>rfl
 | cons x r ih=>simp [ae.sel,fw,Dz] at ih ⊢;exact ih
theorem cJ.of {f:Nat} {args:List V} {σ:ae} {id:Nat} {K:V→ae→Prop} {r:V} {σ1:ae} (he:bN P f=true) (h:aq P G f (args.map (V.sel (fw []))) [] 0 r σ1)
 (hK:K (r.sel (bk [] id)) (σ1.sel (bk [] id))):cJ P G f args σ id K:=by
 refine ⟨_,_,hK,.inl ⟨he,fun j b hj =>?_,fun σ' _=>sM (σ1:=σ1) [] rfl (by rw [pm];exact h)⟩⟩;obtain ⟨i,b',h1,_⟩:=ae.get_sel (CM (l:=[]) (id:=id) (by simp) (by simp)) _ j b hj;unfold bk at h1;simp at h1;omega
end
def St.nil (st:St) (t k:Nat):St:=match st.env.get t with
 | .d (.lit (.slice none 0 0))=>⟨st.env.put t (.so st.nx k 0 0),(st.nx,.row k [])::st.sg,st.nx+1⟩
 | _=>st
theorem bK.nil (G:Gl) (m:Nat) (st:St) (t k:Nat):bK G m st (st.nil t k):=by
 intro C a w _ hr;unfold St.nil;split
 ·rename_i he;obtain ⟨I,β,h1,h2,h3,h4,h5,h6⟩:=hr;have hb:β st.nx=none:=h2 st.nx (Nat.le_refl _);have h1':aj C.w C.I C.β C.σ C.nx w I β st.sg (st.nx+1):=h1.bump (by omega);have hs:=aj.nilRow h1'.mem (id:=st.nx) hb (by omega) k (tq:=none);refine ⟨I,kY β st.nx none,h1'.trans hs,fun j hj =>?_,fun u =>?_,h4,h5.step hs,h6⟩
  ·have:j≠st.nx:=by have:st.nx+1≤j:=hj;omega
   rw [aD this];exact h2 j (by have:st.nx+1≤j:=hj;omega)
  ·show ax w I (kY β st.nx none) ((st.env.put t (.so st.nx k 0 0)).get u) _;rw [aC.get_put];split
   ·rename_i e;subst e;have:=h3 t;rw [he] at this;have hv:=an this;exact .inl ⟨aF _ _ _,rfl,rfl,none,hv⟩
   ·exact hs.den h1'.mem (h3 u)
 ·exact hr
section
variable {P:Program} {G:Gl}
@[congr] theorem JH {α:Type} {o o':Option α} {K:α→Prop} (h:o=o'):bT o K=bT o' K:=by rw [h]
@[congr] theorem HX {k j j':Nat} {es es':List D} {i i':Nat} {x x':Nat × Bool} {K:V→Prop} (h:es=es') (hi:i=i') (hj:j=j') (hx:x=x'):fC k es i j x K=fC k es' i' j' x' K:=by rw [h,hi,hj,hx]
@[congr] theorem HR {b b':bu} {K:List V→Prop} (h:b=b'):nR b K=nR b' K:=by rw [h]
@[congr] theorem JV {b b':bu} {K:Nat→List D→Prop} (h:b=b'):BT b K=BT b' K:=by rw [h]
@[congr] theorem H2 {b b':bu} {K:ByteArray→Nat→Prop} (h:b=b'):oF b K=oF b' K:=by rw [h]
@[congr] theorem HQ {v v':V} {K:Bool→Prop} (h:v=v'):nL v K=nL v' K:=by rw [h]
@[congr] theorem HT {v v':V} {p q:Prop} (h:v=v'):j2 v p q=j2 v' p q:=by rw [h]
@[congr] theorem Fe {v v':V} {K:Nat→List V→Prop} {Y:Nat→Prop} {B:Nat→List V→Prop} (h:v=v'):a8 v K Y B=a8 v' K Y B:=by rw [h]
@[congr] theorem If {c c' a a' b b':V} {K:V→Prop} (h:c=c') (ha:a=a') (hb:b=b'):gD c a b K=gD c' a' b' K:=by rw [h,ha,hb]
@[congr] theorem H3 {t:Nat} {a a':V} {σ σ':ae} {K:V→Prop} (h:a=a') (hs:σ=σ'):dp P t a σ K=dp P t a' σ' K:=by rw [h,hs]
@[congr] theorem H7 {x x':V} {σ σ':ae} {K:V→ae→Prop} (h:x=x') (hs:σ=σ'):ji x σ K=ji x' σ' K:=by rw [h,hs]
@[congr] theorem Jb {v v':V} {K:Bool→Prop} {q:Prop} (h:v=v'):mW v K q=mW v' K q:=by rw [h]
@[congr] theorem Gn {ops:Array Oper} {o:Oper} {e e':aC} {y n:aC→Prop} (h:e=e'):bO ops o e y n=bO ops o e' y n:=by rw [h]
@[congr] theorem Ij {op:Op} {g:Operand→V} {σ σ':ae} {id id':Nat} {K:V→ae→Prop} (h:σ=σ') (hi:id=id'):aG P G op g σ id K=aG P G op g σ' id' K:=by rw [h,hi]
@[congr] theorem GV {op:Op} {g:Operand→V} {σ σ':ae} {id id':Nat} {K:V→ae→Prop} (h:σ=σ') (hi:id=id'):aH P G op g σ id K=aH P G op g σ' id' K:=by rw [h,hi]
@[congr] theorem JG {ops:Array Oper} {b b' i i':Nat} {l l':List Oper} {e e':aC} {σ σ':ae} {K:aC→ae→Prop} (hb:b=b') (hi:i=i') (hl:l=l') (he:e=e') (h:σ=σ'):ky P G ops b i l e σ K=ky P G ops b' i' l' e' σ' K:=by rw [hb,hi,hl,he,h]
@[congr] theorem JE {ops:Array Oper} {b b' i i':Nat} {l l':List Oper} {e e':aC} {σ σ' τ τ':ae} {K:aC→ae→Prop} (hb:b=b') (hi:i=i') (hl:l=l') (he:e=e') (h:σ=σ') (ht:τ=τ'):oV P G ops b i l e σ τ K=oV P G ops b' i' l' e' σ' τ' K:=by rw [hb,hi,hl,he,h,ht]
@[congr] theorem JF {lo:List Nat} {σk:ae} {ops:Array Oper} {b b' i i':Nat} {l l':List Oper} {e e':aC} {σ σ' τ τ':ae} {K:aC→ae→Prop} (hb:b=b') (hi:i=i') (hl:l=l') (he:e=e') (h:σ=σ') (ht:τ=τ'):opsL P G lo σk ops b i l e σ τ K=opsL P G lo σk ops b' i' l' e' σ' τ' K:=by rw [hb,hi,hl,he,h,ht]
@[congr] theorem Ks {σk σ σ':ae} {p:Prop} (h:σ=σ'):tH σk σ p=tH σk σ' p:=by rw [h]
@[congr] theorem Jq {σ σ':ae} {p:Prop} (h:σ=σ'):BB σ p=BB σ' p:=by rw [h]
@[congr] theorem HB {lo:List Nat} {ops:Array Oper} {i i':Nat} {op:Op} {g:Operand→V} {σ σ' τ τ':ae} {id id':Nat} {K L:V→ae→Prop} (hi:i=i') (h:σ=σ') (ht:τ=τ') (hj:id=id'):eM P G lo ops i op g σ τ id K L=eM P G lo ops i' op g σ' τ' id' K L:=by rw [hi,h,ht,hj]
@[congr] theorem JQ {lv:List Nat} {ops:Array Oper} {draw:Bool} {K:St→Prop} {st st':St} (h:st=st'):iu P G lv ops draw K st=iu P G lv ops draw K st':=by rw [h]
@[congr] theorem HS {n m:Nat} {lv:List Nat} {c:Code} {st st':St} {Q:Exit→St→Prop} (h:st=st'):bc P G n m lv c st Q=bc P G n m lv c st' Q:=by rw [h]
@[congr] theorem HL {m:Nat} {rs:List ResultVar} {r:V} {σ:ae} {st st':St} (h:st=st'):ah P G m rs r σ st=ah P G m rs r σ st':=by rw [h]
@[congr] theorem JS {rs:List ResultVar} {st st':St} {K:List V→Prop} (h:st=st'):lN P rs st K=lN P rs st' K:=by rw [h]
end
def gE (r:PV) (K:V→Prop):Prop:=bT r fun x=>mr x.1 (K x.2)
def da (r:iO) (K:V→ae→Prop):Prop:=bT r fun x=>mr x.1 (K x.2.1 x.2.2)
def jy:Op→Bool
 | .move _ | .assign _ | .nilCheck _ | .binOp _ _ _ _ _ | .unOp _ _ _ | .makeInterface _ _ | .makeFunc _ _ _ | .slice _ _ _ _ _ | .fieldAddr _ _ _ | .field _ _ _ | .indexAddr _ _ _ | .index _ _ _ | .typeAssert _ _ _ _ | .extract _ _ | .build _ _=>true
 | .call c=>match c.callee with
  | .builtin .len=>true
  | .builtin .max=>true
  | .builtin .min=>true
  | _=>false
 | _=>false
def hY:Op→Bool
 | .alloc _ | .box _ _ | .buildSlice _ _ _ | .range _ _ | .makeSlice _ _ _=>true
 | _=>false
section
variable {P:Program} {G:Gl} {g:Operand→V} {σ:ae} {id:Nat} {K:V→ae→Prop}
theorem Ea (p:Prop) (v:V) (K:V→Prop):gE (some (p,v)) K=mr p (K v):=rfl
theorem BM (p:Prop) (v:V) (s:ae) (K:V→ae→Prop):da (some (p,v,s)) K=mr p (K v s):=rfl
@[congr] theorem Ko {r r':PV} {K:V→Prop} (h:r=r'):gE r K=gE r' K:=by rw [h]
@[congr] theorem JM {r r':iO} {K:V→ae→Prop} (h:r=r'):da r K=da r' K:=by rw [h]
theorem v7 {op:Op} (h:jy op=true) (g:Operand→V) (σ:ae) (id:Nat):aR P op g σ id=none∧eR P op g σ id=none:=by
 cases op<;>simp only [jy,Bool.false_eq_true] at h<;>try exact ⟨rfl,rfl⟩
 case call c=>
  split at h<;>first
   | (exfalso;revert h;simp;done)
   | (rename_i hc;simp only [aR,eR,hc,and_self])
theorem aM {op:Op} (h:jy op=true):aG P G op g σ id K=gE (bD P op g) (fun v=>K v σ):=by
 have key:d5 op (cz P op g σ id) K=gE (bD P op g) (fun v=>K v σ):=by
  obtain ⟨h1,h2⟩:=v7 (P:=P) h g σ id;simp only [cz,aW,h1,h2];cases bD P op g with
  | none=>rfl
  | some x=>obtain ⟨p,v⟩:=x;show mr p (K v (σ++[]))=mr p (K v σ);rw [List.append_nil]
 cases op<;>simp only [jy,Bool.false_eq_true] at h<;>try exact key
 case call c=>
  rw [←key];simp only [aG];split at h<;>first
   | (exfalso;revert h;simp;done)
   | (rename_i hc;simp only [hc])
theorem aT {op:Op} (h:jy op=true):aH P G op g σ id K=gE (bD P op g) (fun v=>K v []):=by
 have key:d5 op (aW P op g σ id) K=gE (bD P op g) (fun v=>K v []):=by
  obtain ⟨h1,h2⟩:=v7 (P:=P) h g σ id;simp only [aW,h1];cases bD P op g with
  | none=>rfl
  | some x=>obtain ⟨p,v⟩:=x;simp [d5,gE,bT]
 cases op<;>simp only [jy,Bool.false_eq_true] at h<;>try exact key
 case call c=>
  rw [←key];simp only [aH];split at h<;>first
   | (exfalso;revert h;simp;done)
   | (rename_i hc;simp only [hc])
theorem gx {op:Op} (h:hY op=true) (hb : ∀t n ps,op ≠ .buildSlice t n ps):aG P G op g σ id K=da (aR P op g σ id) (fun v new=>K v (σ++new)):=by
 have key:d5 op (cz P op g σ id) K=da (aR P op g σ id) (fun v new=>K v (σ++new)):=by
  have h1:bD P op g=none:=by cases op<;>first|rfl|(simp only [hY,Bool.false_eq_true] at h)
  have h2:eR P op g σ id=none:=by cases op<;>first|rfl|(simp only [hY,Bool.false_eq_true] at h)
  simp only [cz,aW,h1,h2];cases aR P op g σ id with
  | none=>rfl
  | some x=>obtain ⟨p,v,s⟩:=x;simp [d5,da,bT]
 cases op<;>simp only [hY,Bool.false_eq_true] at h<;>first|exact key|exact absurd rfl (hb _ _ _)
theorem CR (p:Prop) (v:V) (new:ae) (r2:iO) (σ:ae) (K:V→ae→Prop):Fd (some (p,v,new)) r2 σ K=mr p (K v (σ++new)):=rfl
@[congr] theorem Kc {r r':iO} {r2:iO} {σ:ae} {K:V→ae→Prop} (h:r=r'):Fd r r2 σ K=Fd r' r2 σ K:=by rw [h]
theorem iq {op:Op} (h:hY op=true):aH P G op g σ id K=da (aR P op g σ id) K:=by
 have key:d5 op (aW P op g σ id) K=da (aR P op g σ id) K:=by
  have h1:bD P op g=none:=by cases op<;>first|rfl|(simp only [hY,Bool.false_eq_true] at h)
  simp only [aW,h1];cases aR P op g σ id with
  | none=>rfl
  | some x=>obtain ⟨p,v,s⟩:=x;simp [d5,da,bT]
 cases op<;>simp only [hY,Bool.false_eq_true] at h<;>exact key
def KJ (r:PV) (r2:iO) (σ:ae) (K:V→ae→Prop):Prop:=match r with
 | some (p,v)=>mr p (K v σ)
 | none=>da r2 K
theorem C5 (p:Prop) (v:V) (r2:iO) (σ:ae) (K:V→ae→Prop):KJ (some (p,v)) r2 σ K=mr p (K v σ):=rfl
theorem C4 (r2:iO) (σ:ae) (K:V→ae→Prop):KJ none r2 σ K=da r2 K:=rfl
@[congr] theorem Kh {r r':PV} {r2 r2':iO} {σ:ae} {K:V→ae→Prop} (h:r=r') (h2:r2=r2'):KJ r r2 σ K=KJ r' r2' σ K:=by rw [h,h2]
theorem qD (s d:Nat) (x:Operand):aG P G (.convert s d x) g σ id K=KJ (IS P s d (g x)) (Kg P s d (g x) σ) σ K:=by
 simp only [aG,cz,aW,bD,aR,eR,d5];cases IS P s d (g x) with
 | some x=>obtain ⟨p,v⟩:=x;show mr p (K v (σ++[]))=_;rw [List.append_nil];rfl
 | none=>
  cases Kg P s d (g x) σ with
  | none=>rfl
  | some x=>obtain ⟨p,v,s⟩:=x;rfl
theorem wI (t:Nat) (a x:Operand):aG P G (.store t a x) g σ id K=da (EG P t (g a) (g x) σ) K:=by
 simp only [aG,cz,aW,bD,aR,eR,d5];cases EG P t (g a) (g x) σ with
 | none=>rfl
 | some x=>obtain ⟨p,v,s⟩:=x;simp [da,bT]
theorem pN (t:Nat) (x:Operand):aG P G (.load t x) g σ id K=dp P t (g x) σ (fun v=>K v σ):=rfl
theorem mC (t:Nat) (x:Operand):aH P G (.load t x) g σ id K=dp P t (g x) σ (fun v=>K v []):=rfl
theorem pR (c x y:Operand):aG P G (.pick c x y) g σ id K=gD (g c) (g x) (g y) (fun v=>K v σ):=rfl
theorem mE (c x y:Operand):aH P G (.pick c x y) g σ id K=gD (g c) (g x) (g y) (fun v=>K v []):=rfl
theorem yN (x:Operand):aG P G (.next x true) g σ id K=ji (g x) σ K:=rfl
theorem yL (f:Operand) (xs:Array Operand) (ts:Array Nat):aG P G (.call ⟨.value f,xs,ts⟩) g σ id K=a8 (g f) (fun k caps=>aB P G k (xs.toList.map g++caps) σ id K) (fun i=>ff P G i (xs.toList.map g) σ id K) (fun k fs=>aB P G k (fs++(xs.toList.map g++[])) σ id K):=rfl
def CG (P:Program) (t t':Nat) (s x:V) (σ:ae) (id:Nat) (K:V→ae→Prop):Prop:=match s with
 | .so i k lo n=>da (qk P t t' (.so i k lo n) x σ id) K
 | s=>da (nI P t t' s x σ id) (fun v new=>K v (σ++new))
@[congr] theorem IA {t t':Nat} {s s' x x':V} {σ σ':ae} {id id':Nat} {K:V→ae→Prop} (hs:s=s') (hx:x=x') (h:σ=σ') (hi:id=id'):CG P t t' s x σ id K=CG P t t' s' x' σ' id' K:=by rw [hs,hx,h,hi]
theorem At {t t':Nat} {s x:V} (hs : ∀i k lo n,s ≠ .so i k lo n):qk P t t' s x σ id=none:=by
 unfold qk;split
 ·exact absurd rfl (hs _ _ _ _)
 ·rfl
theorem tP (s x:Operand) (t t':Nat):aG P G (.call ⟨.builtin .append,#[s,x],#[t,t']⟩) g σ id K=CG P t t' (g s) (g x) σ id K:=by
 simp only [aG,cz,aW,bD,gU,aR,eR,d5];unfold CG;cases hs:g s;case so i k lo n=>
  have hA:nI P t t' (.so i k lo n) (g x) σ id=none:=by
   unfold nI;repeat' split
   all_goals first|rfl|contradiction|(exfalso;simp_all;done)
  rw [hA];simp only;cases qk P t t' (.so i k lo n) (g x) σ id with
  | none=>rfl
  | some x=>obtain ⟨p,v,s⟩:=x;simp [da,bT]
 all_goals
  simp only;rw [At (by intros;simp)];generalize nI P t t' _ (g x) σ id=r;cases r with
  | none=>rfl
  | some x=>obtain ⟨p,v,s⟩:=x;simp [da,bT]
theorem yM (s x:Operand) (t t':Nat):aG P G (.call ⟨.builtin .copy,#[s,x],#[t,t']⟩) g σ id K=da (HU P t t' (g s) (g x) σ) K:=by
 simp only [aG,cz,aW,bD,gU,aR,eR,d5];cases HU P t t' (g s) (g x) σ with
 | none=>rfl
 | some x=>obtain ⟨p,v,s⟩:=x;simp [da,bT]
theorem wE (x:Operand) (t:Nat):aG P G (.call ⟨.builtin .clear,#[x],#[t]⟩) g σ id K=da (IK P t (g x) σ) K:=by
 simp only [aG,cz,aW,bD,gU,aR,eR,d5];cases IK P t (g x) σ with
 | none=>rfl
 | some x=>obtain ⟨p,v,s⟩:=x;simp [da,bT]
end
def qr (K:St→Prop) (st:St) (_u:Tag K:= .mk) (_h:True:=trivial):Prop:=K st
theorem qr.now {K:St→Prop} {st:St} (h:K st):qr K st:=h
def me (b:Bool) (p q:Prop):Prop:=(b=true→p)∧(b=false→q)
theorem CO (p q:Prop):me true p q=p:=by simp [me]
theorem AA (p q:Prop):me false p q=q:=by simp [me]
theorem FG (b:Bool) (K:St→Prop) (s t:St):me b (qr K s) (qr K t)=qr K (cond b s t):=by cases b<;>simp [me]
theorem FM (b:Bool) (e f:aC) (σ τ:ae) (n m:Nat):cond b (⟨e,σ,n⟩:St) ⟨f,τ,m⟩=⟨cond b e f,cond b σ τ,cond b n m⟩:=by cases b<;>rfl
theorem xA (b:Bool) (k:Nat) (v v':V) (r r':aC):(cond b ((k,v)::r) ((k,v')::r'):aC)=(k,cond b v v')::cond b r r':=by cases b<;>rfl
theorem IL (b:Bool) (x y:D):cond b (V.d x) (.d y) = .d (cond b x y):=by cases b<;>rfl
theorem C1 (b:Bool) (x y:Value):cond b (D.lit x) (.lit y) = .lit (cond b x y):=by cases b<;>rfl
theorem AP (b x y:Bool):cond b (Value.bool x) (.bool y) = .bool (cond b x y):=by cases b<;>rfl
theorem C0 (b x:Bool):cond b x false=(b&&x):=by cases b<;>rfl
theorem FN (b x:Bool):cond b true x=(b||x):=by cases b<;>rfl
theorem IN {α:Type} (x y:α):cond true x y=x:=rfl
theorem IM {α:Type} (x y:α):cond false x y=y:=rfl
theorem AQ {α:Type} (b:Bool) (x:α):cond b x x=x:=by cases b<;>rfl
attribute [push_cast] FG FM xA IL C1 AP C0 FN IN IM AQ
def dj {α:Type} (a:α) (K:α→Prop) (_u:Tag K:= .mk) (_h:True:=trivial):Prop:=K a
theorem Gx {α:Type} (a:α) (K:α→Prop):dj a K=K a:=rfl
attribute [push_cast] Gx
theorem D6 (P:Program) (G:Gl) (ops:Array Oper) (base i:Nat) (e:aC) (σ:ae) (K:aC→ae→Prop):ky P G ops base i [] e σ K=K e σ:=rfl
theorem BG (P:Program) (G:Gl) (ops:Array Oper) (base i:Nat) (d:Option Nat) (op:Op) (t:Nat) (p:String) (af:Array Edge) (gd:Option (Nat × Bool)) (r:List Oper) (e:aC) (σ:ae) (K:aC→ae→Prop):ky P G ops base i (⟨d,op,t,p,af,gd⟩::r) e σ K=bO ops ⟨d,op,t,p,af,gd⟩ e
 (fun e=>aG P G op (di G e.get) σ (base+4*i) fun v σ'=>dj (e.putO d v) fun e=>dj σ' fun σ'=>ky P G ops base (i+1) r e σ' K)
 (fun e=>dj (e.putO d (.tup [])) fun e=>ky P G ops base (i+1) r e σ K):=rfl
theorem D4 (P:Program) (G:Gl) (ops:Array Oper) (base i:Nat) (e:aC) (σ acc:ae) (K:aC→ae→Prop):oV P G ops base i [] e σ acc K=K e (σ++acc):=rfl
theorem BE (P:Program) (G:Gl) (ops:Array Oper) (base i:Nat) (d:Option Nat) (op:Op) (t:Nat) (p:String) (af:Array Edge) (gd:Option (Nat × Bool)) (r:List Oper) (e:aC) (σp acc:ae) (K:aC→ae→Prop):oV P G ops base i (⟨d,op,t,p,af,gd⟩::r) e σp acc K=bO ops ⟨d,op,t,p,af,gd⟩ e
 (fun e=>if u7 op=true then aG P G op (di G e.get) (σp++acc) (base+4*i) fun v σ'=>dj (e.putO d v) fun e=>dj σ' fun σ'=>oV P G ops base (i+1) r e σ' [] K
  else if cp op=true then eM P G [] ops i op (di G e.get) σp acc (base+4*i) (fun v new=>dj (e.putO d v) fun e=>dj new fun new=>oV P G ops base (i+1) r e σp (acc++new) K) (fun v σ'=>dj (e.putO d v) fun e=>dj σ' fun σ'=>oV P G ops base (i+1) r e σ' [] K)
  else aH P G op (di G e.get) σp (base+4*i) fun v new=>dj (e.putO d v) fun e=>dj new fun new=>oV P G ops base (i+1) r e σp (acc++new) K)
 (fun e=>dj (e.putO d (.tup [])) fun e=>oV P G ops base (i+1) r e σp acc K):=rfl
theorem w6 (P:Program) (G:Gl) (lo:List Nat) (ops:Array Oper) (i:Nat) (f:Operand) (xs:Array Operand) (ts:Array Nat) (g:Operand→V) (σp acc:ae) (id:Nat) (Kq Ke:V→ae→Prop):eM P G lo ops i (.call ⟨.value f,xs,ts⟩) g σp acc id Kq Ke=a8 (g f) (fun k caps=>dO P G lo ops i k (xs.toList.map g++caps) σp acc id Kq Ke) (fun j=>eA lo ops i=true∧ff P G j (xs.toList.map g) (σp++acc) id Ke) (fun k fs=>dO P G lo ops i k (fs++(xs.toList.map g++[])) σp acc id Kq Ke):=rfl
theorem D5 (P:Program) (G:Gl) (lo:List Nat) (σk:ae) (ops:Array Oper) (base i:Nat) (e:aC) (σ acc:ae) (K:aC→ae→Prop):opsL P G lo σk ops base i [] e σ acc K=K e (σ++acc):=rfl
theorem BF (P:Program) (G:Gl) (lo:List Nat) (σk:ae) (ops:Array Oper) (base i:Nat) (d:Option Nat) (op:Op) (t:Nat) (p:String) (af:Array Edge) (gd:Option (Nat × Bool)) (r:List Oper) (e:aC) (σp acc:ae) (K:aC→ae→Prop):opsL P G lo σk ops base i (⟨d,op,t,p,af,gd⟩::r) e σp acc K=bO ops ⟨d,op,t,p,af,gd⟩ e
 (fun e=>if u7 op=true then aG P G op (di G e.get) (σp++acc) (base+4*i) fun v σ'=>tH (DG lo ops i σk) σ' (dj (e.putO d v) fun e=>dj σ' fun σ'=>opsL P G lo σk ops base (i+1) r e σ' [] K)
  else if cp op=true then eM P G lo ops i op (di G e.get) σp acc (base+4*i) (fun v new=>dj (e.putO d v) fun e=>dj new fun new=>opsL P G lo σk ops base (i+1) r e σp (acc++new) K) (fun v σ'=>tH (DG lo ops i σk) σ' (dj (e.putO d v) fun e=>dj σ' fun σ'=>opsL P G lo σk ops base (i+1) r e σ' [] K))
  else if lo.contains i=true then aH P G op (di G e.get) σk (base+4*i) fun v new=>BB new (dj (e.putO d v) fun e=>opsL P G lo σk ops base (i+1) r e σp acc K)
  else aH P G op (di G e.get) σp (base+4*i) fun v new=>dj (e.putO d v) fun e=>dj new fun new=>opsL P G lo σk ops base (i+1) r e σp (acc++new) K)
 (fun e=>dj (e.putO d (.tup [])) fun e=>opsL P G lo σk ops base (i+1) r e σp acc K):=rfl
theorem DS (K:Prop):BB [] K=K:=by simp [BB]
attribute [push_cast] D5 BF DS
theorem tH.of {lo:List Nat} {ops:Array Oper} {i:Nat} {r:ae} {σ:ae} {K:Prop} (h:ar r σ) (k:K):tH (DG lo ops i r) σ K:=by
 unfold DG tH;split
 ·exact k
 ·refine ⟨?_,k⟩;split
  ·exact fun _ _ h=>by cases h
  ·exact h
theorem tH.late {lo:List Nat} {ops:Array Oper} {i:Nat} {r:ae} {σ:ae} {K:Prop} (k:K) (h:sx lo ops i=true:=by decide +kernel):tH (DG lo ops i r) σ K:=by
 unfold DG;rw [if_pos h];exact k
theorem ar.nil {σ:ae} : ar [] σ:=fun _ _ h=>by cases h
theorem ar.cons {i:Nat} {b:bu} {r σ:ae} (h:σ.get i=some b) (k:ar r σ):ar ((i,b)::r) σ:=fun j bl hj=>by
 simp only [ae.get] at hj;split at hj
 ·rename_i e;subst e;injection hj with hj;subst hj;exact h
 ·exact k j bl hj
theorem oL : ∀(i:Nat) (l:List Oper),qs [] i l=true
 | _,[]=>rfl
 | i,_::r=>by simp [qs,oL (i+1) r]
theorem aN.dr {P:Program} {G:Gl} {m:Nat} {lv:List Nat} {ops:Array Oper} {K:St→Prop} {st:St} (hd:bM [] ops=true) (h:oV P G ops st.nx 0 ops.toList st.env st.sg [] fun e σ=>qr K ⟨aC.keep lv e,σ,st.nx+4*ops.size⟩):aN G m (iu P G lv ops true K) st:=
 .now ⟨[],[],hd,oL _ _,ar.nil,h⟩
theorem iu.lo {P:Program} {G:Gl} {lv:List Nat} {ops:Array Oper} {K:St→Prop} {st:St} (σk:ae) (hd:bM (tg ops) ops=true) (hl:qs (tg ops) 0 ops.toList=true) (hk:ar σk st.sg) (h:opsL P G (tg ops) σk ops st.nx 0 ops.toList st.env st.sg [] fun e σ=>qr K ⟨aC.keep lv e,σ,st.nx+4*ops.size⟩):iu P G lv ops true K st:=
 ⟨_,σk,hd,hl,hk,h⟩
theorem yC (P:Program) (G:Gl) (lv:List Nat) (ops:Array Oper) (K:St→Prop) (st:St):iu P G lv ops false K st=ky P G ops st.nx 0 ops.toList st.env st.sg fun e σ=>qr K ⟨aC.keep lv e,σ,st.nx+4*ops.size⟩:=rfl
def Je (P:Program) (t:Nat) (x i:V):PV:=match i9 i with|some n=>xV P t x n|none=>none
def KY (P:Program) (t:Nat) (x i:V):PV:=match i9 i with|some n=>oA P t x n|none=>none
section
variable {P:Program} {G:Gl} {g:Operand→V} {σ:ae} {id:Nat} {K:V→ae→Prop}
theorem np (v:V) (K:V→Prop):gE (some (True,v)) K=K v:=vq _
theorem pP (x:Operand):aG P G (.move x) g σ id K=K (g x) σ:=(aM rfl).trans (np _ _)
theorem mD (x:Operand):aH P G (.move x) g σ id K=K (g x) []:=(aT rfl).trans (np _ _)
theorem kQ (x:Operand):aG P G (.assign x) g σ id K=K (g x) σ:=(aM rfl).trans (np _ _)
theorem jj (x:Operand):aH P G (.assign x) g σ id K=K (g x) []:=(aT rfl).trans (np _ _)
theorem pQ (x:Operand):aG P G (.nilCheck x) g σ id K=gE (jA (g x)) (fun v=>K v σ):=aM rfl
theorem m0 (x:Operand):aH P G (.nilCheck x) g σ id K=gE (jA (g x)) (fun v=>K v []):=aT rfl
theorem mJ (o:BinOp) (t:Nat) (x y:Operand) (u:Nat):aG P G (.binOp o t x y u) g σ id K=gE (ql P o t (dm x||dm y) (g x) (g y)) (fun v=>K v σ):=aM rfl
theorem kC (o:BinOp) (t:Nat) (x y:Operand) (u:Nat):aH P G (.binOp o t x y u) g σ id K=gE (ql P o t (dm x||dm y) (g x) (g y)) (fun v=>K v []):=aT rfl
theorem pS (o:UnOp) (t:Nat) (x:Operand):aG P G (.unOp o t x) g σ id K=gE (J5 o (g x)) (fun v=>K v σ):=aM rfl
theorem mF (o:UnOp) (t:Nat) (x:Operand):aH P G (.unOp o t x) g σ id K=gE (J5 o (g x)) (fun v=>K v []):=aT rfl
theorem xG (F:Nat→V) (k:Nat):di G F (.global k)=match G k with|some x=> .d x|none=> .unk:=rfl
theorem m8 (t:Nat) (x:Operand):aG P G (.makeInterface t x) g σ id K=gE (Jo P t (g x)) (fun v=>K v σ):=aM rfl
theorem lK (t:Nat) (x:Operand):aH P G (.makeInterface t x) g σ id K=gE (Jo P t (g x)) (fun v=>K v []):=aT rfl
theorem pO (fn:Fn) (first caps:Array Operand):aG P G (.makeFunc fn first caps) g σ id K=gE (Kl fn (first.toList.map g) (caps.toList.map g)) (fun v=>K v σ):=aM rfl
theorem wH (t:Nat) (x:Operand) (lo hi mx:Option Operand):aG P G (.slice t x lo hi mx) g σ id K=gE (Ii P t (g x) (lo.map g) (hi.map g) (mx.map g)) (fun v=>K v σ):=aM rfl
theorem tB (t:Nat) (x:Operand) (lo hi mx:Option Operand):aH P G (.slice t x lo hi mx) g σ id K=gE (Ii P t (g x) (lo.map g) (hi.map g) (mx.map g)) (fun v=>K v []):=aT rfl
theorem gF (t:Nat) (x:Operand) (f:Nat):aG P G (.fieldAddr t x f) g σ id K=gE (I4 P t f (g x)) (fun v=>K v σ):=aM rfl
theorem fO (t:Nat) (x:Operand) (f:Nat):aH P G (.fieldAddr t x f) g σ id K=gE (I4 P t f (g x)) (fun v=>K v []):=aT rfl
theorem mK (t:Nat) (x:Operand) (f:Nat):aG P G (.field t x f) g σ id K=gE (I5 P t f (g x)) (fun v=>K v σ):=aM rfl
theorem kE (t:Nat) (x:Operand) (f:Nat):aH P G (.field t x f) g σ id K=gE (I5 P t f (g x)) (fun v=>K v []):=aT rfl
theorem gG (t:Nat) (x i:Operand):aG P G (.indexAddr t x i) g σ id K=gE (Je P t (g x) (g i)) (fun v=>K v σ):=aM rfl
theorem fP (t:Nat) (x i:Operand):aH P G (.indexAddr t x i) g σ id K=gE (Je P t (g x) (g i)) (fun v=>K v []):=aT rfl
theorem wF (t:Nat) (x i:Operand):aG P G (.index t x i) g σ id K=gE (KY P t (g x) (g i)) (fun v=>K v σ):=aM rfl
theorem lW (x:Operand) (a t:Nat) (ok:Bool):aG P G (.typeAssert x a t ok) g σ id K=gE (J4 P (g x) t ok) (fun v=>K v σ):=aM rfl
theorem kF (x:Operand) (a t:Nat) (ok:Bool):aH P G (.typeAssert x a t ok) g σ id K=gE (J4 P (g x) t ok) (fun v=>K v []):=aT rfl
theorem qE (x:Operand) (i:Nat):aG P G (.extract x i) g σ id K=gE (IY i (g x)) (fun v=>K v σ):=aM rfl
theorem o6 (x:Operand) (i:Nat):aH P G (.extract x i) g σ id K=gE (IY i (g x)) (fun v=>K v []):=aT rfl
theorem wD (t:Nat) (parts:Array (Nat × Operand)):aG P G (.build t parts) g σ id K=gE (IB P t (parts.toList.map fun p=>(p.1,g p.2))) (fun v=>K v σ):=aM rfl
theorem tA (t:Nat) (parts:Array (Nat × Operand)):aH P G (.build t parts) g σ id K=gE (IB P t (parts.toList.map fun p=>(p.1,g p.2))) (fun v=>K v []):=aT rfl
theorem rW (x:Operand) (t:Nat):aG P G (.call ⟨.builtin .len,#[x],#[t]⟩) g σ id K=gE (oJ P t (g x)) (fun v=>K v σ):=aM rfl
theorem o7 (x:Operand) (t:Nat):aH P G (.call ⟨.builtin .len,#[x],#[t]⟩) g σ id K=gE (oJ P t (g x)) (fun v=>K v []):=aT rfl
theorem B6 (x y:Operand) (ts:Array Nat):aG P G (.call ⟨.builtin .max,#[x,y],ts⟩) g σ id K=gE (GH true (g x) (g y)) (fun v=>K v σ):=aM rfl
theorem B7 (x y:Operand) (ts:Array Nat):aG P G (.call ⟨.builtin .min,#[x,y],ts⟩) g σ id K=gE (GH false (g x) (g y)) (fun v=>K v σ):=aM rfl
theorem wC (t:Nat):aG P G (.alloc t) g σ id K=da (aR P (.alloc t) g σ id) (fun v new=>K v (σ++new)):=gx rfl (fun _ _ _ h=>by cases h)
theorem tz (t:Nat):aH P G (.alloc t) g σ id K=da (aR P (.alloc t) g σ id) K:=iq rfl
theorem B5 (t:Nat) (x:Operand):aG P G (.box t x) g σ id K=da (aR P (.box t x) g σ id) (fun v new=>K v (σ++new)):=gx rfl (fun _ _ _ h=>by cases h)
theorem lV (t n:Nat) (parts:Array (Nat × Operand)):aG P G (.buildSlice t n parts) g σ id K=Fd (aR P (.buildSlice t n parts) g σ id) (Nv P t n id (parts.toList.map fun p=>(p.1,g p.2)) σ) σ K:=rfl
theorem kD (t n:Nat) (parts:Array (Nat × Operand)):aH P G (.buildSlice t n parts) g σ id K=da (aR P (.buildSlice t n parts) g σ id) K:=iq rfl
theorem wG (t:Nat) (x:Operand):aG P G (.range t x) g σ id K=da (aR P (.range t x) g σ id) (fun v new=>K v (σ++new)):=gx rfl (fun _ _ _ h=>by cases h)
theorem m9 (t:Nat) (l c:Operand):aG P G (.makeSlice t l c) g σ id K=da (aR P (.makeSlice t l c) g σ id) (fun v new=>K v (σ++new)):=gx rfl (fun _ _ _ h=>by cases h)
theorem lL (t:Nat) (l c:Operand):aH P G (.makeSlice t l c) g σ id K=da (aR P (.makeSlice t l c) g σ id) K:=iq rfl
end
theorem Dc (x:D) (l:List D) (K:D→Prop):Ff (x::l) 0 K=K x:=by simp [Ff]
theorem Db (x:D) (l:List D) (n:Nat) (K:D→Prop):Ff (x::l) (n+1) K=Ff l n K:=by simp [Ff]
theorem Ax (b:Bool) (K:Bool→Prop):nL (.d (.lit (.bool b))) K=K b:=rfl
theorem Du (b:Bool) (K:Bool→Prop) (q:Prop):mW (.d (.lit (.bool b))) K q=K b:=rfl
theorem Bb (K:Bool→Prop) (q:Prop):mW (.tup []) K q=q:=rfl
theorem AO (b:Bool) (p q:Prop):j2 (.d (.lit (.bool b))) p q=gI b p q:=rfl
theorem BJ (b:Bool) (x y:V) (K:V→Prop):gD (.d (.lit (.bool b))) x y K=K (cond b x y):=by
 show gI b (K x) (K y)=_;cases b
 ·exact ld _ _
 ·exact nO _ _
theorem xx (k:Nat) (cs:List V) (K:Nat→List V→Prop) (Y:Nat→Prop) (B:Nat→List V→Prop):a8 (.fn k cs) K Y B=K k cs:=rfl
theorem AI (k:Nat) (cs:List D) (K:Nat→List V→Prop) (Y:Nat→Prop) (B:Nat→List V→Prop):a8 (.d (.fn k cs)) K Y B=K k (cs.map .d):=rfl
theorem xy (i:Nat) (K:Nat→List V→Prop) (Y:Nat→Prop) (B:Nat→List V→Prop):a8 (.yl i) K Y B=Y i:=rfl
theorem nP (k:Nat) (cs:List D) (K:Nat→List V→Prop) (Y:Nat→Prop) (B:Nat→List V→Prop):a8 (.d (.bf k cs)) K Y B=B k (cs.map .d):=rfl
attribute [push_cast] xy nP
theorem xz (cs:List V) (ty:Option Nat) (K:List V→Prop):nR (.cell cs ty) K=K cs:=rfl
theorem Eg (k:Nat) (es:List D) (ty:Option Nat) (K:Nat→List D→Prop):BT (.row k es ty) K=K k es:=rfl
theorem x6 (s:ByteArray) (pos:Nat) (K:ByteArray→Nat→Prop):oF (.iter s pos) K=K s pos:=rfl
theorem wv (k:St→Prop) (Q:Exit→St→Prop) (st:St):gN k Q .normal st=k st:=rfl
theorem BX (k:St→Prop) (Q:Exit→St→Prop) (i:Nat) (st:St):gN k Q (.exit i) st=Q (.exit i) st:=rfl
theorem Eu (k:St→Prop) (Q:Exit→St→Prop) (st:St):gN k Q .ret st=Q .ret st:=rfl
theorem qu (Q:Exit→St→Prop) (st:St):iC Q .normal st=Q .normal st:=rfl
theorem yI (Q:Exit→St→Prop) (st:St):iC Q .ret st=Q .ret st:=rfl
theorem wt (j:Nat) (Q:Exit→St→Prop) (st:St):iC Q (.exit j) st=Q (.exit j) st:=rfl
theorem qm (i:Nat) (Q:Exit→St→Prop) (st:St):ek i Q .normal st=Q .normal st:=rfl
theorem xw (i:Nat) (Q:Exit→St→Prop) (st:St):ek i Q .ret st=Q .ret st:=rfl
theorem ul (i j:Nat) (Q:Exit→St→Prop) (st:St):ek i Q (.exit j) st=if j=i then Q .normal st else Q (.exit j) st:=rfl
theorem wo (K:St→Prop) (st:St):yF K .normal st=K st:=rfl
theorem Ec (K:St→Prop) (st:St):yF K .ret st=K st:=rfl
theorem vf (P:Program) (t k:Nat) (es:List D) (i j:Nat) (σ:ae) (K:V→Prop):dp P t (.d (.pd k es i j)) σ K=bT (cW P t) fun x=>fC k es i j x K:=rfl
theorem vi (P:Program) (t id o:Nat) (σ:ae) (K:V→Prop):dp P t (.po id o) σ K=bT (cW P t) fun x=>bT (σ.get id) fun b=>nR b fun cs=>bT (ip x.2 o x.1 cs) K:=rfl
theorem vg (P:Program) (t id k i j:Nat) (σ:ae) (K:V→Prop):dp P t (.pe id k i j) σ K=bT (cW P t) fun x=>bT (σ.get id) fun b=>BT b fun k' es=>mr (k=k') (fC k es i j x K):=rfl
theorem xK (ops:Array Oper) (d:Option Nat) (op:Op) (t:Nat) (p:String) (af:Array Edge) (e:aC) (y n:aC→Prop):bO ops ⟨d,op,t,p,af,none⟩ e y n=y e:=rfl
def qq:List Oper→Nat→Option Nat
 | [],_=>none
 | o::_,0=>o.dst
 | _::r,j+1=>qq r j
theorem AZ (d:Option Nat) (op:Op) (t:Nat) (p:String) (af:Array Edge) (gd:Option (Nat × Bool)) (r:List Oper):qq (⟨d,op,t,p,af,gd⟩::r) 0=d:=rfl
theorem AY (o:Oper) (r:List Oper) (j:Nat):qq (o::r) (j+1)=qq r j:=rfl
theorem sO : ∀(l:List Oper) (j:Nat),qq l j=(l.toArray[j]?).bind (·.dst)
 | [],j=>by simp [qq]
 | o::r,0=>by simp [qq]
 | o::r,j+1=>by rw [qq,sO r j];simp
theorem xL (l:List Oper) (d:Option Nat) (op:Op) (t:Nat) (p:String) (af:Array Edge) (e:aC) (y n:aC→Prop) (j:Nat):bO l.toArray ⟨d,op,t,p,af,some (j,true)⟩ e y n=bT (qq l j) fun d=>mW (e.get d) (fun b=>me b (dj (e.put d (.d (.lit (.bool true)))) y) (dj (e.put d (.d (.lit (.bool false)))) n)) (n e):=by rw [sO];rfl
theorem uR (l:List Oper) (d:Option Nat) (op:Op) (t:Nat) (p:String) (af:Array Edge) (e:aC) (y n:aC→Prop) (j:Nat):bO l.toArray ⟨d,op,t,p,af,some (j,false)⟩ e y n=bT (qq l j) fun d=>mW (e.get d) (fun b=>me b (dj (e.put d (.d (.lit (.bool true)))) n) (dj (e.put d (.d (.lit (.bool false)))) y)) (n e):=by rw [sO];rfl
theorem aC.get_nil (t:Nat):aC.get [] t = .unk:=rfl
theorem aC.get_cons (k t:Nat) (v:V) (r:aC):aC.get ((k,v)::r) t=if k=t then v else aC.get r t:=rfl
theorem F8 (G:Gl) (F:Nat→V) (t:Nat):di G F (.tmp t)=F t:=rfl
theorem A3 (G:Gl) (F:Nat→V) (v:Value):di G F (.const v) = .d (.lit v):=rfl
theorem Di (G:Gl) (F:Nat→V) (f:Nat):di G F (.func f) = .d (.fn f []):=rfl
attribute [push_cast] aC.get_nil aC.get_cons aC.put.eq_def aC.putO.eq_def aC.keep Fk ae.get ae.set ae.del
attribute [push_cast] jy.eq_def hY.eq_def u7.eq_def cp.eq_def bD.eq_def ql.eq_def oD.eq_def iH.eq_def zD.eq_def lX.eq_def IW.eq_def zJ.eq_def dm.eq_def fq b5 KH.eq_def ve.eq_def FL.eq_def bR bm q8.eq_def I4.eq_def I5.eq_def xV.eq_def oA.eq_def J5.eq_def IS.eq_def Jo.eq_def IY.eq_def oJ.eq_def GH.eq_def yc.eq_def yS.eq_def jA.eq_def gU.eq_def i9.eq_def qt.eq_def Je.eq_def KY.eq_def Ii.eq_def J4.eq_def IB.eq_def re Kl.eq_def V.cellOk.eq_def V.cellsV.eq_def D.cells.eq_def V.atom.eq_def rA.eq_def mQ rF.eq_def ip.eq_def D.asAgg.eq_def setAt.eq_def Ay.eq_def aR.eq_def EG.eq_def tI dM.eq_def jR.eq_def nI.eq_def qk.eq_def HU.eq_def CG.eq_def
attribute [push_cast] Option.map_some Option.map_none Option.bind_some Option.bind_none List.map_cons List.map_nil List.cons_append List.nil_append List.append_nil List.length_cons List.length_nil List.all_cons List.all_nil Bool.and_true Bool.and_self Bool.or_true Bool.or_false Bool.true_and Bool.false_and Bool.and_false Bool.true_or Bool.false_or and_self and_true true_and and_false false_and List.drop_zero List.drop_succ_cons List.take_zero List.take_succ_cons List.getElem?_cons_zero List.getElem?_cons_succ List.size_toArray List.getElem?_toArray Bool.false_eq_true if_true if_false
attribute [push_cast] List.toList_toArray V.d.injEq D.lit.injEq fg List.contains_cons List.contains_nil List.drop_nil List.take_nil Nat.zero_add Nat.add_zero beq_self_eq_true List.getElem?_nil
section
variable {P:Program} {G:Gl} {m:Nat} {rs:List ResultVar} {r:V} {σ':ae} {st:St}
theorem ah.sel (l:List Nat) (h:ah P G m rs r σ' (st.sel m l)):ah P G m rs r σ' st:=aN.via (bK.sel G m st l) h
theorem ah.frz (id:Nat) (h:ah P G m rs r σ' (st.frz id)):ah P G m rs r σ' st:=aN.via (bK.frz G m st id) h
theorem ah.pick (ks is:List Nat) (h:ah P G m rs r σ' (st.pick ks is)):ah P G m rs r σ' st:=aN.via (bK.pick G m st ks is) h
theorem Fv (σ:ae):ar [] σ:=fun _ _ h=>by cases h
theorem fK {α:Type} {o:Option α} {f f':α→Prop} (hf : ∀x,f x→f' x) (h:bT o f):bT o f':=by
 cases o with
 | none=>exact h
 | some x=>exact hf x h
theorem n8 {k:Nat} {es:List D} {i j:Nat} {x:Nat × Bool} {K K':V→Prop} (hk : ∀v,K v→K' v) (h:fC k es i j x K):fC k es i j x K':=
 ⟨h.1,fun e he=>fK (fun _ hy=>hk _ hy) (h.2 e he)⟩
theorem x8 {t:Nat} {a:V} {σ:ae} {K K':V→Prop} (hk : ∀v,K v→K' v) (h:dp P t a σ K):dp P t a σ K':=by
 unfold dp at h ⊢;refine fK (fun x h =>?_) h;split at h
 ·exact n8 hk h
 ·refine fK (fun b hb =>?_) h;cases b<;>first|exact hb|exact fK hk hb
 ·refine fK (fun b hb =>?_) h;cases b<;>first|exact hb|exact ⟨hb.1,n8 hk hb.2⟩
 ·exact h
theorem rI : ∀ {rs:List ResultVar} {K K':List V→Prop},(∀vs,K vs→K' vs)→lN P rs st K→lN P rs st K':=by
 intro rs;induction rs with
 | nil=>intro K K' hk h;exact hk _ h
 | cons x rs ih=>
  intro K K' hk h;cases x with
  | tmp t=>exact ih (fun vs hv=>hk _ hv) h
  | cell a t=>
   exact x8 (fun v hv=>ih (fun vs hv=>hk _ hv) hv) h
theorem ah.now (l:List Nat) (hl:l.length≤4) (h:lN P rs st fun vs=>(m5 vs).sel (iF m l)=r∧ar σ' (st.sg.sel (iF m l))):ah P G m rs r σ' st:=
 aN.now (rI (fun _ h=>⟨l,h.1,h.2,hl⟩) h)
theorem ah.out (h:lN P rs st fun vs=>(m5 vs).sel (iF m [])=r):ah P G m rs r [] st:=
 ah.now [] (Nat.zero_le _) (rI (fun _ h=>⟨h,Fv _⟩) h)
end
attribute [push_cast] Value.oneCell'.eq_def lN m5.eq_def V.atm.eq_def St.sel.eq_def aC.sel ae.sel bu.sel.eq_def V.sel.eq_def V.selA.eq_def iF.eq_def Dz St.frz.eq_def aC.frz ae.frz gi.eq_def V.frz.eq_def bu.frz.eq_def St.pick.eq_def List.filterMap_cons List.filterMap_nil List.map_map
attribute [push_cast] pP mD kQ jj pQ m0 mJ kC pS mF qD m8 lK pO wH tB gF fO mK kE gG fP wF lW kF qE o6 wD tA rW o7 B6 B7 wC tz B5 lV kD wG m9 lL wI pN pR yN yL tP yM wE IK.eq_def mC mE
attribute [push_cast] CR Nv.eq_def Kr.eq_def MQ.eq_def Lg.eq_def JK Lh.eq_def JJ Do C5 C4 xG Kb.eq_def Kg.eq_def EV.eq_def Kp.eq_def Ji.eq_def
section
variable {P:Program} {G:Gl} {n m:Nat} {lv:List Nat}
theorem jd.via {c:Code} {st:St} {Q:Exit→St→Prop} (h:aN G m (fun st'=>jd P G n m c st' Q) st):jd P G n m c st Q:=by
 obtain ⟨st',h1,h2⟩:=h;exact fun fr hfr C a w hn hm hr=>h2 fr hfr C a w hn hm (h1 C a w hm hr)
theorem lb.via {g:Operand} {ps:Array Nat} {asg body:Code} {st:St} {Q:Exit→St→Prop} (h:aN G m (fun st'=>lb P G n m g ps asg body st' Q) st):lb P G n m g ps asg body st Q:=by
 obtain ⟨st',h1,h2⟩:=h;exact fun fr hfr C a w hn hm hr=>h2 fr hfr C a w hn hm (h1 C a w hm hr)
theorem aN.to {K:St→Prop} {st st':St} (ks is l:List Nat) (he:(st.pick ks is).sel m l=st') (hK:K st'):aN G m K st:=
 aN.via (bK.pick G m st ks is) (aN.via (bK.sel G m _ l) (aN.now (by rw [he];exact hK)))
theorem aN.frz {K:St→Prop} {st:St} (id:Nat) (h:aN G m K (st.frz id)):aN G m K st:=aN.via (bK.frz G m st id) h
theorem aN.nil {K:St→Prop} {st:St} (t k:Nat) (h:aN G m K (st.nil t k)):aN G m K st:=aN.via (bK.nil G m st t k) h
theorem DM (ho:P.follows .mixedOrders=true) {c:Code} (hok:aE n c=true) {st:St} {Q:Exit→St→Prop} {α:Type} (S:α→St) (pre:α→Prop) (mu:α→Nat) (x0:α) (h0:aN G m (fun st'=>st'=S x0) st) (hp:pre x0)
 (hr : ∀x,pre x→bc P G n m lv c (S x) (gN (aN G m fun st'=> ∃j,j<mu x ∧ ∃y,mu y=j∧st'=S y∧pre y) Q)):jd P G n m c st Q:=by
 refine jd.via ?_;obtain ⟨st',h1,rfl⟩:=h0;refine ⟨_,h1,?_⟩;refine Bp (lv:=lv) ho hok (fun k st=> ∃x,mu x=k∧st=S x∧pre x) (mu x0) ⟨x0,rfl,rfl,hp⟩ ?_;rintro k st ⟨x,rfl,rfl,hx⟩;exact hr x hx
theorem aB.d {f:Nat} {args:List V} {σ:ae} {id:Nat} {K:V→ae→Prop} {r:V} (h:aq P G f args [] 0 r []) (he:bN P f=true) (ha:args.map (V.sel (fw []))=args) (hr:r.sel (bk [] id)=r) (hK:K r σ):aB P G f args σ id K:=
 aB.of [] he (by rw [ha,pm];exact h) rfl (by rw [hr];show K r (σ++[]);rw [List.append_nil];exact hK)
theorem cJ.d {f:Nat} {args:List V} {σ:ae} {id:Nat} {K:V→ae→Prop} {r:V} (h:aq P G f args [] 0 r []) (he:bN P f=true) (ha:args.map (V.sel (fw []))=args) (hr:r.sel (bk [] id)=r) (hK:K r []):cJ P G f args σ id K:=
 cJ.of he (by rw [ha];exact h) (by rw [hr];exact hK)
end
theorem dO.q {P:Program} {G:Gl} {lo:List Nat} {ops:Array Oper} {i k:Nat} {args:List V} {σp acc:ae} {id:Nat} {Kq Ke:V→ae→Prop} (h:cJ P G k args σp id Kq):dO P G lo ops i k args σp acc id Kq Ke:= .inl h
theorem dO.e {P:Program} {G:Gl} {lo:List Nat} {ops:Array Oper} {i k:Nat} {args:List V} {σp acc:ae} {id:Nat} {Kq Ke:V→ae→Prop} (hl:eA lo ops i=true) (h:aB P G k args (σp++acc) id Ke):dO P G lo ops i k args σp acc id Kq Ke:= .inr ⟨hl,h⟩
theorem dO.d {P:Program} {G:Gl} {lo:List Nat} {ops:Array Oper} {i f:Nat} {args:List V} {σ acc:ae} {id:Nat} {K L:V→ae→Prop} {r:V} (h:aq P G f args [] 0 r []) (he:bN P f=true) (ha:args.map (V.sel (fw []))=args) (hr:r.sel (bk [] id)=r) (hK:K r []):dO P G lo ops i f args σ acc id K L:= .inl (cJ.d h he ha hr hK)
def dV {α:Type} (xs:List α) (i:Nat) (K:α→Prop) (_u:Tag K:= .mk) (_h:True:=trivial):Prop:= ∀x,xs[i]? = some x→K x
theorem F1 {α:Type} (f:α→D) (xs:List α) (i:Nat) (K:D→Prop):Ff (xs.map f) i K=dV xs i fun x=>K (f x):=by
 unfold Ff dV;apply propext;constructor
 ·intro h x hx;exact h (f x) (by simp [hx])
 ·intro h e he;simp only [List.getElem?_map,Option.map_eq_some_iff] at he;obtain ⟨x,hx,rfl⟩:=he;exact h x hx
attribute [push_cast] List.length_map Int.toNat_natCast
abbrev iv (a:Int):V:= .d (.lit (.int .i64 a))
abbrev bv (b:Bool):V:= .d (.lit (.bool b))
theorem gI.two {b:Bool} {p q:Prop} (h1:b=true→p) (h2:b=false→q):gI b p q:=⟨h1,h2⟩
theorem me.two {b:Bool} {p q:Prop} (h1:b=true→p) (h2:b=false→q):me b p q:=⟨h1,h2⟩
theorem gI.dec {p:Prop} [Decidable p] {q r:Prop} (h1:p→q) (h2 : ¬p→r):gI (decide p) q r:=⟨fun h=>h1 (of_decide_eq_true h),fun h=>h2 (of_decide_eq_false h)⟩
theorem me.dec {p:Prop} [Decidable p] {q r:Prop} (h1:p→q) (h2 : ¬p→r):me (decide p) q r:=⟨fun h=>h1 (of_decide_eq_true h),fun h=>h2 (of_decide_eq_false h)⟩
theorem me.ndec {p:Prop} [Decidable p] {q r:Prop} (h1 : ¬p→q) (h2:p→r):me (!decide p) q r:=⟨fun h=>h1 (by simpa using h),fun h=>h2 (by simpa using h)⟩
theorem gI.ndec {p:Prop} [Decidable p] {q r:Prop} (h1 : ¬p→q) (h2:p→r):gI (!decide p) q r:=⟨fun h=>h1 (by simpa using h),fun h=>h2 (by simpa using h)⟩
theorem mr.intro {p q:Prop} (h1:p) (h2:p→q):mr p q:=⟨h1,h2 h1⟩
theorem mr.intro' {p q:Prop} (h1:p) (h2:q):mr p q:=⟨h1,h2⟩
theorem dV.intro {α:Type} {xs:List α} {i:Nat} {K:α→Prop} (h : ∀x,xs[i]? = some x→K x):dV xs i K:=h
theorem Ff.intro {xs:List D} {i:Nat} {K:D→Prop} (h : ∀x,xs[i]? = some x→K x):Ff xs i K:=h
theorem dV.at {α:Type} {xs:List α} {i:Nat} {K:α→Prop} (n:Nat) (hn:i=n) (h : ∀x,xs[n]? = some x→K x):dV xs i K:=by subst hn;exact h
theorem dV.is {α:Type} {xs:List α} {i:Nat} {K:α→Prop} (n:Nat) (x:α) (hn:i=n) (hx:xs[n]? = some x) (h:K x):dV xs i K:=by
 subst hn;intro y hy;rw [hx] at hy;injection hy with hy;subst hy;exact h
theorem ay (σ:ae):ar σ σ:=fun _ _ h=>h
theorem M2 (n:Int) (h1 : -9223372036854775808≤n) (h2:n≤9223372036854775807):IntKind.i64.wrap n=n:=IntWalk.i64_in n ⟨h1,h2⟩
attribute [push_cast] St.nil.eq_def Nat.le_refl List.take_length Int.sub_zero Int.add_zero Int.zero_add
theorem aJ {α:Type} {xs:List α} {i:Nat} {x:α} (h:xs[i]? = some x):xs.take (i+1)=xs.take i++[x]:=by
 rw [List.take_add_one,h];simp
theorem Pp (n:Int) (h1:0≤n) (h2:n≤18446744073709551615):IntKind.u64.wrap n=n:=by rw [IntKind.wrap_u64];omega
theorem Dv (n:Int):n.fdiv (2 ^ min (Int.toNat 1) IntKind.u64.bits)=n / 2:=by
 rw [show (2:Int) ^ min (Int.toNat 1) IntKind.u64.bits=2 from rfl,Int.fdiv_eq_ediv_of_nonneg n (by omega)]
theorem Gp (n:Int):n.fdiv (2 ^ min 1 IntKind.u64.bits)=n / 2:=Dv n
def ug:List Nat→Nat→List Nat
 | [],i=>[i]
 | x::r,i=>if x=i then x::r else x::ug r i
def Jd (l:List Nat):V→List Nat
 | .so i _ _ _=>ug l i
 | .po i _=>ug l i
 | .pe i _ _ _=>ug l i
 | .mo i=>ug l i
 | .it i=>ug l i
 | .yl i=>ug l i
 | _=>l
def Dy (l:List Nat):List V→List Nat
 | []=>l
 | v::r=>Dy (Jd l v) r
def KX (l:List Nat):V→List Nat
 | .agg cs=>Dy l cs
 | .tup cs=>Dy l cs
 | .fn _ cs=>Dy l cs
 | v=>Jd l v
def oz (l:List Nat):List V→List Nat
 | []=>l
 | v::r=>oz (KX l v) r
def Jc (σ:ae):List Nat→List Nat→List Nat
 | [],l=>l
 | i::r,l=>Jc σ r (match σ.get i with|some (.cell cs _)=>oz l cs|_=>l)
def Bf (σ:ae) (l:List Nat):List Nat:=Jc σ l l
def Ja (e:aC):List Nat→List V
 | []=>[]
 | t::r=>e.get t::Ja e r
def St.ids (st:St) (ks:List Nat):List Nat:=Bf st.sg (Bf st.sg (oz [] (Ja st.env ks)))
def Gk (m:Nat):List Nat→List Nat
 | []=>[]
 | x::r=>if x<m then Gk m r else x::Gk m r
def St.norm (st:St) (m:Nat) (ks:List Nat):St:=(st.pick ks (st.ids ks)).sel m (Gk m (st.ids ks))
attribute [push_cast] ug Jd.eq_def Dy KX.eq_def oz Jc Bf.eq_def Ja Gk St.ids.eq_def St.norm.eq_def
theorem aN.go {G:Gl} {m:Nat} {K:St→Prop} {st st':St} (ks:List Nat) (he:st.norm m ks=st') (hK:K st'):aN G m K st:=aN.to ks (st.ids ks) (Gk m (st.ids ks)) he hK
def bH {α:Type} (G:Gl) (m:Nat) (S:α→St) (pre:α→Prop) (mu:α→Nat) (x:α) (st:St) (_u:Tag S:= .mk) (_v:Tag pre:= .mk) (_w:Tag mu:= .mk) (_x:Tag x:= .mk) (_h:True:=trivial):Prop:=aN G m (fun st'=> ∃j,j<mu x ∧ ∃y,mu y=j∧st'=S y∧pre y) st
section
variable {P:Program} {G:Gl} {n m:Nat} {lv:List Nat} {α:Type} {S:α→St} {pre:α→Prop} {mu:α→Nat}
theorem bH.to {x:α} {st:St} (y:α) (ks is l:List Nat) (he:(st.pick ks is).sel m l=S y) (hm:mu y<mu x) (hp:pre y):bH G m S pre mu x st:=
 aN.to ks is l he ⟨_,hm,y,rfl,rfl,hp⟩
theorem bH.go {x:α} {st:St} (y:α) (ks:List Nat) (he:st.norm m ks=S y) (hm:mu y<mu x) (hp:pre y):bH G m S pre mu x st:=
 aN.go ks he ⟨_,hm,y,rfl,rfl,hp⟩
theorem bH.frz {x:α} {st:St} (id:Nat) (h:bH G m S pre mu x (st.frz id)):bH G m S pre mu x st:=aN.frz id h
theorem DN (ho:P.follows .mixedOrders=true) {c:Code} (hok:aE n c=true) {st:St} {Q:Exit→St→Prop} (S:α→St) (pre:α→Prop) (mu:α→Nat) (x0:α) (h0:aN G m (fun st'=>st'=S x0) st) (hp:pre x0)
 (hr : ∀x,pre x→bc P G n m lv c (S x) (gN (fun st=>bH G m S pre mu x st) Q)):jd P G n m c st Q:=
 DM (lv:=lv) ho hok S pre mu x0 h0 hp hr
end
section
variable {P:Program} {G:Gl}
theorem aB.put {f:Nat} {args args':List V} {σ:ae} {id:Nat} {K:V→ae→Prop} {r:V} {b b':bu} (i:Nat) (h:aq P G f args' [(0,b)] 1 r [(0,b')]) (he:bN P f=true) (ha:args.map (V.sel (fw [i]))=args') (hs:σ.sel (fw [i])=[(0,b)]) (hl:Cm [i] id σ=true)
 (hK:K (r.sel (bk [i] id)) (jr σ [i]++ae.sel (bk [i] id) [(0,b')])):aB P G f args σ id K:=
 aB.of [i] he (by rw [ha,hs];exact h) hl hK
end
theorem gI.beq {a b:Int} {q r:Prop} (h1:a=b→q) (h2 : ¬a=b→r):gI (a==b) q r:=⟨fun h=>h1 (by simpa using h),fun h=>h2 (by simpa using h)⟩
theorem me.beq {a b:Int} {q r:Prop} (h1:a=b→q) (h2 : ¬a=b→r):me (a==b) q r:=⟨fun h=>h1 (by simpa using h),fun h=>h2 (by simpa using h)⟩
theorem gI.bne {a b:Int} {q r:Prop} (h1 : ¬a=b→q) (h2:a=b→r):gI (!(a==b)) q r:=⟨fun h=>h1 (by simpa using h),fun h=>h2 (by simpa using h)⟩
theorem me.bne {a b:Int} {q r:Prop} (h1 : ¬a=b→q) (h2:a=b→r):me (!(a==b)) q r:=⟨fun h=>h1 (by simpa using h),fun h=>h2 (by simpa using h)⟩
theorem gI.dand {p p':Prop} [Decidable p] [Decidable p'] {q r:Prop} (h1:p∧p'→q) (h2 : ¬(p∧p')→r):gI (decide p&&decide p') q r:=⟨fun h=>h1 (by simpa using h),fun h=>h2 (by simpa using h)⟩
theorem me.dand {p p':Prop} [Decidable p] [Decidable p'] {q r:Prop} (h1:p∧p'→q) (h2 : ¬(p∧p')→r):me (decide p&&decide p') q r:=⟨fun h=>h1 (by simpa using h),fun h=>h2 (by simpa using h)⟩
theorem gI.dor {p p':Prop} [Decidable p] [Decidable p'] {q r:Prop} (h1:p∨p'→q) (h2 : ¬(p∨p')→r):gI (decide p||decide p') q r:=⟨fun h=>h1 (by simpa using h),fun h=>h2 (by simpa using h)⟩
theorem me.dor {p p':Prop} [Decidable p] [Decidable p'] {q r:Prop} (h1:p∨p'→q) (h2 : ¬(p∨p')→r):me (decide p||decide p') q r:=⟨fun h=>h1 (by simpa using h),fun h=>h2 (by simpa using h)⟩
theorem gI.and {a b:Bool} {q r:Prop} (h:gI a (gI b q r) r):gI (a&&b) q r:=by
 cases a
 ·exact ⟨fun h=>by simp at h,fun _=>h.2 rfl⟩
 ·exact h.1 rfl
attribute [push_cast] Bool.not_true Bool.not_false bk.eq_def fw.eq_def jr Cm.eq_def
end Go.Proofs.YtkkanlcjjpoklaaGreatDoor
set_option linter.unusedSimpArgs false
namespace Go.Proofs.YtkkanlcjjpoklaaGreatDoor
open Go
section
variable {P:Program}
def uC (P:Program) (g:Nat→Option (List CK)):List Field→Nat→Option (List CK)
 | [],_=>some []
 | f::r,o=>if (decide (f.name ≠ "_")&&decide (f.offset=o)&&(P.info? f.type).isSome)=true then (match g f.type with
  | some a=>if P.cellsOf f.type=a.length then (uC P g r (o+a.length)).map (a ++ ·) else none
  | none=>none) else none
def oa (P:Program):Nat→Nat→Option (List CK)
 | 0,_=>none
 | d+1,t=>match P.underlying t with
  | some (.int k)=>some [.int k]
  | some .bool=>some [.bool]
  | some .string=>some [.str]
  | some (.struct fs)=>if P.stoodInHeld t=false then uC P (oa P d) fs.toList 0 else none
  | _=>none
def cK (P:Program) (t:Nat) (xs:List Value) (v:Value):Prop:=
 match P.underlying t with
 | some (.struct _)=>v = .agg xs.toArray
 | _=>xs=[v]
theorem dF : ∀ {ks:List CK} {xs:List Value},bB ks xs→ks.length=xs.length
 | [],[],_=>rfl
 | _::_,_::_,h=>by simp [dF h.2]
 | [],_::_,h=>h.elim
 | _::_,[],h=>h.elim
theorem hJ : ∀ {a b:List CK} {xs:List Value},bB (a++b) xs→bB a (xs.take a.length)∧bB b (xs.drop a.length)
 | [],_,_,h=>⟨trivial,h⟩
 | _::_,_,[],h=>h.elim
 | c::a,b,x::xs,h=>by
  have:=hJ (a:=a) (b:=b) h.2;exact ⟨⟨h.1,this.1⟩,this.2⟩
theorem ob : ∀ {a b c d:List Value},a.length=b.length→bm (a++c) (b++d)=(bm a b&&bm c d)
 | [],[],_,_,_=>by simp [bm]
 | x::a,y::b,c,d,h=>by simp [bm,ob (a:=a) (b:=b) (c:=c) (d:=d) (by simpa using h),Bool.and_assoc]
 | [],_::_,_,_,h=>by simp at h
 | _::_,[],_,_,h=>by simp at h
theorem uB {d t:Nat} {ks:List CK} (h:oa P d t=some ks) (hs : ∀fs,P.underlying t≠some (.struct fs)):ks.length=1∧((∃k,P.underlying t=some (.int k))∨P.underlying t=some .bool∨P.underlying t=some .string):=by
 cases d with
 | zero=>simp [oa] at h
 | succ d=>
  simp only [oa] at h;split at h
  ·injection h with h;subst h;rename_i k hk;exact ⟨rfl,.inl ⟨k,hk⟩⟩
  ·injection h with h;subst h;rename_i hk;exact ⟨rfl,.inr (.inl hk)⟩
  ·injection h with h;subst h;rename_i hk;exact ⟨rfl,.inr (.inr hk)⟩
  ·rename_i fs hk;exact absurd hk (hs fs)
  ·cases h
theorem vV {d e o:Nat} {ks:List CK} {xs:List Value} {w:World} (h:oa P d e=some ks) (hi:(P.info? e).isSome=true) (hc:P.cellsOf e=ks.length) (hl:o+ks.length≤xs.length) :
 ∃v,(part e xs.toArray o).run P w = .ok v w∧cK P e ((xs.drop o).take ks.length) v:=by
 by_cases hs : ∃fs,P.underlying e=some (.struct fs)
 ·obtain ⟨fs,hu⟩:=hs;obtain ⟨i,hi⟩:=Option.isSome_iff_exists.1 hi;refine ⟨.agg (xs.toArray.extract o (o+P.cellsOf e)),by simp [part,isAgg,run_underlying hu,run_sizeOf w hi],?_⟩;simp only [cK,hu];congr 1;apply Array.ext';rw [Array.toList_extract,hc];simp [List.extract]
 ·have hs' : ∀fs,P.underlying e≠some (.struct fs):=fun fs hu=>hs ⟨fs,hu⟩
  obtain ⟨h1,hk⟩:=uB h hs';have hlt:o<xs.length:=by omega
  have hp:P.plainKey e=true:=by
   unfold Program.plainKey;rcases hk with ⟨k,hk⟩|hk|hk<;>rw [hk]
  refine ⟨xs[o],run_part_plain w hp (by simp [hlt]),?_⟩;have:(xs.drop o).take ks.length=[xs[o]]:=by rw [h1,List.drop_eq_getElem_cons hlt,List.take_succ_cons,List.take_zero]
  rcases hk with ⟨k,hk⟩|hk|hk<;>simp only [cK,hk]<;>exact this
theorem gf {d D:Nat} (ih : ∀t ks,oa P d t=some ks → ∀(w:World) xs ys vx vy,bB ks xs→bB ks ys→cK P t xs vx→cK P t ys vy→(Op.equalIn D t vx vy).run P w = .ok (bm xs ys) w)
 (xs ys:List Value) (w:World) : ∀(fs:List Field) (o:Nat) (ks:List CK),uC P (oa P d) fs o=some ks→bB ks (xs.drop o)→bB ks (ys.drop o) →
  (Op.eqFields D xs.toArray ys.toArray fs).run P w = .ok (bm (xs.drop o) (ys.drop o)) w
 | [],o,ks,h,hx,hy=>by
  simp only [uC,Option.some.injEq] at h;subst h;have h1:=dF hx;have h2:=dF hy;rw [List.eq_nil_of_length_eq_zero h1.symm,List.eq_nil_of_length_eq_zero h2.symm];simp [Op.eqFields,bm]
 | f::fs,o,ks,h,hx,hy=>by
  simp only [uC] at h;split at h;rotate_left
  ·cases h
  rename_i hc;simp only [Bool.and_eq_true,decide_eq_true_eq] at hc;obtain ⟨⟨hn,ho⟩,hi⟩:=hc;split at h;rotate_left
  ·cases h
  rename_i a ha;split at h;rotate_left
  ·cases h
  rename_i hcl;simp only [Option.map_eq_some_iff] at h;obtain ⟨b,hb,rfl⟩:=h;have lx:=dF hx;have ly:=dF hy;simp only [List.length_append,List.length_drop] at lx ly;obtain ⟨hx1,hx2⟩:=hJ hx;obtain ⟨hy1,hy2⟩:=hJ hy;rw [List.drop_drop] at hx2 hy2;have l1:o+a.length≤xs.length∨a.length=0:=by omega
  have l2:o+a.length≤ys.length∨a.length=0:=by omega
  rcases Nat.eq_zero_or_pos a.length with h0|h0
  ·-- a type without cells: a struct without fields
   have ha0:a=[]:=List.eq_nil_of_length_eq_zero h0;subst ha0;by_cases hs : ∃gs,P.underlying f.type=some (.struct gs)
   ·obtain ⟨gs,hu⟩:=hs;obtain ⟨i,hi⟩:=Option.isSome_iff_exists.1 hi;have p : ∀zs:List Value,(part f.type zs.toArray f.offset).run P w = .ok (.agg #[]) w:=by
     intro zs;simp [part,isAgg,run_underlying hu,run_sizeOf w hi,hcl]
    have e:=ih f.type [] ha w [] [] (.agg #[]) (.agg #[]) trivial trivial (by simp [cK,hu]) (by simp [cK,hu]);have r:=gf ih xs ys w fs (o+0) b hb hx2 hy2;simp only [Op.eqFields,hn,ne_eq,not_false_eq_true,if_true,Sem.run_bind,p,e,Result.andThen_ok,bm,Bool.not_true,Bool.false_eq_true,if_false];exact r
   ·have:=(uB ha fun gs hu=>hs ⟨gs,hu⟩).1;simp at this
  ·have l1:o+a.length≤xs.length:=by omega
   have l2:o+a.length≤ys.length:=by omega
   obtain ⟨v,p1,q1⟩:=vV (w:=w) ha hi hcl l1;obtain ⟨u,p2,q2⟩:=vV (w:=w) ha hi hcl l2;have e:=ih f.type a ha w _ _ v u hx1 hy1 q1 q2;have r:=gf ih xs ys w fs (o+a.length) b hb hx2 hy2;have key:bm (xs.drop o) (ys.drop o)=(bm ((xs.drop o).take a.length) ((ys.drop o).take a.length)&&bm (xs.drop (o+a.length)) (ys.drop (o+a.length))):=by
    rw [←ob (by simp;omega),←List.drop_drop,←List.drop_drop,List.take_append_drop,List.take_append_drop]
   rw [key];simp only [Op.eqFields,hn,ho,ne_eq,not_false_eq_true,if_true,Sem.run_bind,p1,p2,e,Result.andThen_ok];cases bm ((xs.drop o).take a.length) ((ys.drop o).take a.length)
   ·simp
   ·simpa using r
theorem Dd : ∀(d t:Nat) (ks:List CK),oa P d t=some ks → ∀(D:Nat) (w:World) xs ys vx vy,d≤D→bB ks xs→bB ks ys→cK P t xs vx→cK P t ys vy→(Op.equalIn D t vx vy).run P w = .ok (bm xs ys) w:=by
 intro d;induction d with
 | zero=>intro t ks h;simp [oa] at h
 | succ d ih=>
  intro t ks h D w xs ys vx vy hD hx hy hvx hvy;obtain ⟨D,rfl⟩ : ∃E,D=E+1:=⟨D - 1,by omega⟩
  simp only [oa] at h;split at h
  ·rename_i k hu;injection h with h;subst h;simp only [cK,hu] at hvx hvy;subst hvx hvy;obtain ⟨⟨a,rfl⟩,_⟩:=hx;obtain ⟨⟨b,rfl⟩,_⟩:=hy;rw [run_equalIn_int w D t k k a b hu];simp [bm,q8]
  ·rename_i hu;injection h with h;subst h;simp only [cK,hu] at hvx hvy;subst hvx hvy;obtain ⟨⟨a,rfl⟩,_⟩:=hx;obtain ⟨⟨b,rfl⟩,_⟩:=hy;rw [run_equalIn_bool' w D t a b hu];simp [bm,q8]
  ·rename_i hu;injection h with h;subst h;simp only [cK,hu] at hvx hvy;subst hvx hvy;obtain ⟨⟨a,rfl⟩,_⟩:=hx;obtain ⟨⟨b,rfl⟩,_⟩:=hy;rw [run_equalIn_string w D t a b hu,←beq_toListBytes];simp [bm,q8]
  ·rename_i fs hu;split at h;rotate_left
   ·cases h
   rename_i hst;simp only [cK,hu] at hvx hvy;subst hvx hvy;have hf:P.fieldsOf t=fs:=by simp [Program.fieldsOf,hu]
   rw [run_equalIn_struct w D t _ _ (by rw [hf];exact hu) hst,hf];exact gf (fun t ks h w xs ys vx vy a b c e=>ih t ks h D w xs ys vx vy (by omega) a b c e) xs ys w fs.toList 0 ks h hx hy
  ·cases h
def De (P:Program) (t:Nat):Option (List CK):=
 match P.underlying t with
 | some (.struct _)=>if P.eqGuardType P.depth t=false then oa P 20 t else none
 | _=>none
theorem ue.of {t:Nat} {ks:List CK} (h:De P t=some ks):ue P t ks:=by
 unfold De at h;split at h;rotate_left
 ·cases h
 rename_i fs hu;split at h;rotate_left
 ·cases h
 rename_i hg;refine ⟨hg,fun xs ys w hx hy =>?_⟩;exact Dd 20 t ks h Op.maxDepth w xs ys _ _ (by decide) hx hy (by simp [cK,hu]) (by simp [cK,hu])
end
attribute [push_cast] bm q8
end Go.Proofs.YtkkanlcjjpoklaaGreatDoor
set_option linter.unusedSimpArgs false
namespace Go.Proofs.YtkkanlcjjpoklaaGreatDoor
open Go
section
variable {P:Program} {G:Gl} {w:World} {I:Nat→Prop} {β:bA} {σ:ae} {nx id:Nat} {blk:bu}
theorem qg.frz {f i:Nat} {args:List V} {v:V} {σ':ae} (hg:σ.get i=some blk) (h:qg P G f (args.map (V.frz i blk)) (σ.frz i blk) id v σ'):qg P G f args σ id v σ':=by
 intro w I β nx vals hm hG hf hnx hd;obtain ⟨s,hset⟩:=uO hm hg;refine (h w _ β nx vals s.mem (fun g x hx=>(hG g x hx).keep (fun _ _=>rfl) (fun b hb=> .inl hb)) hf hnx ⟨by simpa using hd.1,fun j c x hc hx =>?_⟩).mono ?_
 ·simp only [List.getElem?_map,Option.map_eq_some_iff] at hc;obtain ⟨c',hc',rfl⟩:=hc;exact hset.den (hd.2 j c' x hc' hx)
 ·rintro e w' ⟨u,I2,β2,e1,e2,e3,e4⟩;exact ⟨u,I2,β2,e1,e2,s.trans e3,e4⟩
theorem aB.frz {f:Nat} {args:List V} {K:V→ae→Prop} (i:Nat) (hg:σ.get i=some blk) (h:aB P G f (args.map (V.frz i blk)) (σ.frz i blk) id K) (hent:bN P f=true:=by kernel_rfl):aB P G f args σ id K:=by
 obtain ⟨v,σ',hK,hd⟩:=h;rcases hd with ⟨he,hd⟩|⟨he,_⟩
 ·exact ⟨v,σ',hK,.inl ⟨he,hd.frz hg⟩⟩
 ·rw [Ga hent] at he;cases he
end
theorem Nb (b:Bool):(b==false) = !b:=by cases b<;>rfl
attribute [push_cast] bne_self_eq_false beq_self_eq_true Bool.true_beq Bool.false_beq Nb Bool.false_or Bool.true_or Bool.or_false Bool.or_true Bool.and_true Bool.true_and Bool.false_and Bool.and_false
end Go.Proofs.YtkkanlcjjpoklaaGreatDoor
set_option linter.unusedVariables false
namespace Go.Proofs.YtkkanlcjjpoklaaGreatDoor
theorem Nc (a b:Int):(a != b) = !(a==b):=rfl
attribute [push_cast] Nc Bool.not_not
class i7 (b:Bool) (p q:outParam Prop):Prop where
 says:b=true↔p
 nots:b=false↔q
theorem i7.mk' {b:Bool} {p:Prop} (h:b=true↔p):i7 b p (¬p):=⟨h,by rw [←h];simp⟩
instance (priority:=100) i7.any (b:Bool):i7 b (b=true) (b=false):=⟨Iff.rfl,Iff.rfl⟩
instance i7.dec {p:Prop} [Decidable p]:i7 (decide p) p (¬p):=i7.mk' (by simp)
instance i7.beq {a b:Int} : i7 (a==b) (a=b) (¬a=b):=i7.mk' (by simp)
instance i7.not {b:Bool} {p q:Prop} [h:i7 b p q]:i7 (!b) q p:=⟨by rw [←h.nots];simp,by rw [←h.says];simp⟩
instance i7.and {a b:Bool} {p q p' q':Prop} [h:i7 a p p'] [k:i7 b q q']:i7 (a&&b) (p∧q) (¬(p∧q)):=i7.mk' (by rw [←h.says,←k.says];simp)
instance i7.or {a b:Bool} {p q p' q':Prop} [h:i7 a p p'] [k:i7 b q q']:i7 (a||b) (p∨q) (¬(p∨q)):=i7.mk' (by rw [←h.says,←k.says];simp)
theorem gI.of {b:Bool} {p p':Prop} [h:i7 b p p'] {q r:Prop} (h1:p→q) (h2:p'→r):gI b q r:=⟨fun e=>h1 (h.says.1 e),fun e=>h2 (h.nots.1 e)⟩
theorem me.of {b:Bool} {p p':Prop} [h:i7 b p p'] {q r:Prop} (h1:p→q) (h2:p'→r):me b q r:=⟨fun e=>h1 (h.says.1 e),fun e=>h2 (h.nots.1 e)⟩
theorem vt (id:Nat) (σ:ae) (K:V→ae→Prop):ji (.it id) σ K=bT (σ.get id) fun b=>oF b fun s pos=>
 gI (decide (pos<s.size)) (K (.tup [.d (.lit (.bool true)),.d (.lit (.int .i64 pos)),.d (.lit (.int .i32 (Utf8.decode s pos).1))]) (σ.set id (.iter s (pos+(Utf8.decode s pos).2)))) (K (.tup [.d (.lit (.bool false))]) σ):=rfl
attribute [push_cast] vt Option.getD_some Option.getD_none
section
variable {P:Program} {G:Gl} {w:World} {I:Nat→Prop} {β:bA}
def g8:List Nat→List V→aC→aC
 | p::ps,v::vs,e=>g8 ps vs (e.put p v)
 | _,_,e=>e
def j8 (l:List (Nat × Value)) (tm:Array Value):Array Value:=l.foldl (fun tmps x=>tmps.setIfInBounds x.1 x.2) tm
theorem rd : ∀(ps:List Nat) (args:List V) (vals:List Value) (e:aC) (tm:Array Value),bU w I β args vals→(∀p∈ps,p<tm.size)→(∀t,ax w I β (e.get t) (tm.getD t undef)) →
 (j8 (ps.zip vals) tm).size=tm.size ∧ ∀t,ax w I β ((g8 ps args e).get t) ((j8 (ps.zip vals) tm).getD t undef)
 | [],args,vals,e,tm,_,_,h=>by simpa [j8,g8] using h
 | p::ps,[],vals,e,tm,hd,_,h=>by
  have:vals=[]:=List.eq_nil_of_length_eq_zero hd.1.symm;subst this;simpa [j8,g8] using h
 | p::ps,v::vs,[],e,tm,hd,_,h=>by have:=hd.1;simp at this
 | p::ps,v::vs,x::xs,e,tm,hd,hp,h=>by
  have h0 : ∀t,ax w I β ((e.put p v).get t) ((tm.setIfInBounds p x).getD t undef):=
   sJ (a :={ tmps:=tm,defers:=[] }) h (d:=some p) (fun y hy=>by injection hy with hy;subst hy;exact hp p (by simp)) (hd.2 0 v x rfl rfl)
  have:=rd ps vs xs (e.put p v) (tm.setIfInBounds p x) ⟨by have:=hd.1;simpa using this,fun i c y hc hy=>hd.2 (i+1) c y (by simpa using hc) (by simpa using hy)⟩ (fun q hq=>by simpa using hp q (by simp [hq])) h0;refine ⟨by rw [show j8 ((p::ps).zip (x::xs)) tm=j8 (ps.zip xs) (tm.setIfInBounds p x) from rfl,this.1];simp,this.2⟩
theorem Dm (ps:Array Nat) (vals:List Value) (tm:Array Value):(ps.zip vals.toArray).foldl (fun tmps (t,a)=>tmps.setIfInBounds t a) tm=j8 (ps.toList.zip vals) tm:=by
 rw [←Array.foldl_toList];simp [j8]
def gL (id:Nat):Nat→Option Nat:=fun j=>if j<id then some j else none
def j3 (β:bA) (id:Nat):bA:=fun j=>if j<id then β j else none
theorem km {id i j:Nat} (h:gL id i=some j):i=j∧j<id:=by
 unfold gL at h;split at h
 ·injection h with h;omega
 ·cases h
theorem ti (id:Nat) : ∀i i' j,gL id i=some j→gL id i'=some j→i=i':=fun i i' j h h'=>by
 have:=km h;have:=km h';omega
theorem nV {id:Nat} : ∀i j,gL id i=some j → ∀x,β i=some x→j3 β id j=some x:=fun i j h x hx=>by
 obtain ⟨rfl,hlt⟩:=km h;simp [j3,hlt,hx]
theorem iQ {id j:Nat} {x:Option (Nat × Nat)} (h:j3 β id j=some x):j<id∧β j=some x:=by
 unfold j3 at h;split at h
 ·exact ⟨by assumption,h⟩
 ·cases h
theorem iU {σ:ae} {id j:Nat} {b:bu} (h:(σ.sel (gL id)).get j=some b):j<id ∧ ∃b',σ.get j=some b'∧b=b'.sel (gL id):=by
 obtain ⟨i,b',h1,h2,h3⟩:=ae.get_sel (ti id) σ j b h;obtain ⟨rfl,hlt⟩:=km h1;exact ⟨hlt,b',h2,h3⟩
theorem b4.cut {σ:ae} {nx:Nat} (hm:b4 w I β σ nx) (id:Nat):b4 w I (j3 β id) (σ.sel (gL id)) id where
 own:=fun j b hj=>by
  obtain ⟨hlt,b',h1,rfl⟩:=iU hj;exact (hm.own j b' h1).sel nV (by simp [gL,hlt])
 inj:=fun j j' b b' k c c' h1 h2 h3 h4=>by
  obtain ⟨_,x,q1,_⟩:=iU h1;obtain ⟨_,x',q1',_⟩:=iU h2;exact hm.inj j j' x x' k c c' q1 q1' (iQ h3).2 (iQ h4).2
 free:=fun j hj=>by simp [j3,show ¬j<id by omega]
 lt:=hm.lt
theorem iY {σ:ae} {id b:Nat} (h:bd (σ.sel (gL id)) (j3 β id) b):bd σ β b:=by
 obtain ⟨j,blk,c,h1,h2⟩:=h;obtain ⟨_,b',q1,_⟩:=iU h1;exact ⟨j,b',c,q1,(iQ h2).2⟩
def jG (σ:ae) (id:Nat) (l:List Nat):Nat→Option Nat:=fun j=>if j<id then (if (σ.get j).isSome=true then some j else none) else Dz l j id
def Cy (G:Gl) (σ:ae) (id i:Nat) (y:Yd) (e:aC) (j:Option Code) (v:V) (σ':ae) (st:St):Prop:=
 v = .d (.lit (.bool j.isNone))∧aN G id (fun st=> ∃l:List Nat,l.length≤4∧ar σ' ((i,.rc y j e)::st.sg.sel (jG σ id l))) st
def GZ (G:Gl) (σ:ae) (id i:Nat) (y:Yd) (e:aC) (v:V) (σ':ae):Exit→St→Prop
 | .normal,st=>Cy G σ id i y e none v σ' st
 | .ret,st=>Cy G σ id i y e (some .ret) v σ' st
 | .exit k,st=>Cy G σ id i y e (some (.exit k)) v σ' st
 | _,_=>False
theorem dC.putHid {C:qf} {e:aC} {σ:ae} {nx lim b:Nat} {o o':Obj} {a:Act} {w:World} (hC:C.hd=[(b,o)]) (ho:o ≠ .deferred (some [])) (hown:bd C.σ C.β b) (h:dC C G e σ nx lim a w) :
 dC { C with hd:=[(b,o')] } G e σ nx lim a (w.putObj b o'):=by
 obtain ⟨I,β,h1,h2,h3,h4,⟨⟨Ds,q1,q2,q3⟩,q4⟩,h6⟩:=h;obtain ⟨k1,k2,k3⟩:=q4 (b,o) (by rw [hC];simp);simp only at k1 k2 k3;have hI : ∀b',I b'→(w.putObj b o').heap[b']? = w.heap[b']? :=fun b' hb=>World.putObj_heap_other (fun e=>k2 (e▸hb))
 have hO : ∀b',bd σ β b'→(w.putObj b o').heap[b']? = w.heap[b']? :=fun b' hb=>World.putObj_heap_other (fun e=>k3 (e▸hb))
 refine ⟨I,β,⟨⟨fun id blk hb =>?_,h1.mem.inj,h1.mem.free,fun b hb =>?_⟩,h1.os,h1.tape,h1.output,?_,fun b' hb hn =>?_,h1.imm,h1.immn,h1.bet,h1.nx,h1.own'⟩,h2,fun t=>(h3 t).keep hI (fun _ h=>h) (fun _ _ h=>h),h4,⟨⟨Ds,q1,q2,fun D hD =>?_⟩,fun p hp =>?_⟩,fun g x hx=>(h6 g x hx).keep hI (fun _ h=>h)⟩
 ·have ho:=h1.mem.own id blk hb;refine ho.keep (fun b hb' =>?_) (fun _ h=>h) (fun b c hc=>(ho.not_imm hc).1) (fun _ _ h=>h);rcases hb' with hb'|⟨c,hc⟩
  ·exact hI b hb'
  ·exact hO b ⟨id,blk,c,hb,hc⟩
 ·rw [World.putObj_size];exact h1.mem.lt b hb
 ·rw [World.putObj_size];exact h1.size
 ·rw [World.putObj_heap_other (fun e=>hn (by rw [e];exact hown))];exact h1.block b' hb hn
 ·obtain ⟨g1,g2,g3,g4⟩:=q3 D hD;refine ⟨g1,?_,g3,g4⟩;rw [World.putObj_heap_other]
  ·exact g2
  ·rintro rfl;rw [k1] at g2;injection g2 with g2;exact ho g2
 ·have hp':p=(b,o'):=by simpa using hp
  subst hp';exact ⟨World.putObj_heap_same (gl k1),k2,k3⟩
end
section
variable {P:Program} {G:Gl}
theorem i1 {σ:ae} {id i j:Nat} {l:List Nat} (h:jG σ id l i=some j):(i=j∧j<id ∧ ∃b,σ.get j=some b)∨(id≤i∧id≤j∧j<id+l.length∧l[j - id]? = some i):=by
 unfold jG at h;split at h
 ·rename_i hlt;split at h
  ·rename_i hs;injection h with h;subst h;exact .inl ⟨rfl,hlt,Option.isSome_iff_exists.1 hs⟩
  ·cases h
 ·obtain ⟨h1,h2,h3⟩:=dd h;exact .inr ⟨by omega,h1,h2,h3⟩
theorem Er (σ:ae) (id:Nat) (l:List Nat) : ∀i i' j,jG σ id l i=some j→jG σ id l i'=some j→i=i':=by
 intro i i' j h h';rcases i1 h with ⟨rfl,h1,_⟩|⟨h0,h1,_,h2⟩
 ·rcases i1 h' with ⟨rfl,_⟩|⟨_,h1',_⟩
  ·rfl
  ·omega
 ·rcases i1 h' with ⟨rfl,h1',_⟩|⟨_,_,_,h2'⟩
  ·omega
  ·rw [h2] at h2';injection h2'
theorem Ee {w w3:World} {I I3:Nat→Prop} {β β3:bA} {σ σ3 σ':ae} {nx PO id i b cap:Nat} {y:Yd} {e:aC} {j:Option Code} {r:Loop} {l:List Nat} {o:Obj}
 (hm:b4 w I β σ nx) (hi:i<id) (hfr : ∀k,id≤k→k<id+4→β k=none) (hnx:id+4≤nx) (hg:σ.get i=some (.rc y none e)) (hb:β i=some (some (b,cap))) (he : ∀t,ax w I β (e.get t) (r.tmps.getD t undef)) (hr:HM y j r)
 (hs:aj w I (j3 β id) (σ.sel (gL id)) id w3 I3 β3 σ3 PO) (h3:w3.heap[b]? = some o) (hI3 : ¬I3 b) (ho3 : ¬bd σ3 β3 b) (hl:l.length≤4) (hsub:ar σ' ((i,.rc y j e)::σ3.sel (jG σ id l))) :
 ∃β',aj w I β σ nx (w3.putObj b (.loop r)) I3 β' σ' nx ∧ ∀k,¬(id≤k∧k<id+4)→β' k=β k:=by
 have hlt:b<w.heap.size:=(((hm.own i _ hg).not_imm hb).2)
 have hIb : ¬I b:=((hm.own i _ hg).not_imm hb).1;let β':bA:=fun k=>if id≤k∧k<id+4 then (match l[k - id]? with|some q=>β3 q|none=>none) else β k
 have hβ : ∀k,¬(id≤k∧k<id+4)→β' k=β k:=fun k hk=>by simp only [β',if_neg hk]
 have hext : ∀k x,β k=some x→β' k=some x:=fun k x hx=>by
  rw [hβ k]
  ·exact hx
  ·rintro ⟨h1,h2⟩;rw [hfr k h1 h2] at hx;cases hx
 have hin : ∀k k',jG σ id l k=some k'→β' k'=β3 k:=by
  intro k k' h;rcases i1 h with ⟨rfl,h1,blk,h2⟩|⟨h0,h1,h2,h3⟩
  ·rw [hβ k (by omega)];obtain ⟨x,hx⟩:=(hm.own k blk h2).named;rw [hx,hs.bet k x (by simp [j3,h1,hx])]
  ·simp only [β',show id≤k'∧k'<id+4 from ⟨h1,by omega⟩,and_self,if_true,h3]
 have hing : ∀k k',jG σ id l k=some k' → ∀x,β3 k=some x→β' k'=some x:=fun k k' h x hx=>by rw [hin k k' h];exact hx
 have hinj:=Er σ id l;have hIk : ∀k,I3 k→(w3.putObj b (.loop r)).heap[k]? = w3.heap[k]? :=fun k hk=>World.putObj_heap_other (fun e=>hI3 (e▸hk))
 have hOk : ∀k,bd σ3 β3 k→(w3.putObj b (.loop r)).heap[k]? = w3.heap[k]? :=fun k hk=>World.putObj_heap_other (fun e=>ho3 (e▸hk))
 have hI0 : ∀k,I k→w3.heap[k]? = w.heap[k]? :=fun k hk=>hs.block k (hm.lt k hk) (fun h=>hm.not_owned hk (iY h))
 have hget : ∀k blk,σ'.get k=some blk→(k=i∧blk = .rc y j e)∨(∃k0 blk0,jG σ id l k0=some k∧σ3.get k0=some blk0∧blk=blk0.sel (jG σ id l)):=by
  intro k blk hk;have:=hsub k blk hk;simp only [ae.get] at this;split at this
  ·rename_i e1;injection this with this;exact .inl ⟨e1.symm,this.symm⟩
  ·exact .inr (ae.get_sel hinj _ k blk this)
 have hbi:β' i=some (some (b,cap)):=hext i _ hb;have hoth : ∀k k0 blk0 c,jG σ id l k0=some k→σ3.get k0=some blk0→β' k=some (some (b,c))→False:=by
  intro k k0 blk0 c h1 h2 h4;rw [hin k0 k h1] at h4;exact ho3 ⟨k0,blk0,c,h2,h4⟩
 have howned : ∀k,bd σ' β' k→k=b∨bd σ3 β3 k:=by
  rintro k ⟨q,blk,c,h1,h2⟩;rcases hget q blk h1 with ⟨rfl,rfl⟩|⟨q0,blk0,g1,g2,_⟩
  ·rw [hbi] at h2;injection h2 with h2;injection h2 with h2;injection h2 with h2 _;exact .inl h2.symm
  ·rw [hin q0 q g1] at h2;exact .inr ⟨q0,blk0,c,g2,h2⟩
 have hob:bd σ β b:=⟨i,_,cap,hg,hb⟩
 refine ⟨β',⟨⟨fun k blk hk =>?_,fun k k' blk blk' q c c' g1 g2 g3 g4 =>?_,fun k hk =>?_,fun k hk =>?_⟩,hs.os,hs.tape,hs.output,?_,fun k hk hn =>?_,hs.imm,fun k hk =>?_,hext,Nat.le_refl _,fun k hk =>?_⟩,hβ⟩
 ·rcases hget k blk hk with ⟨rfl,rfl⟩|⟨k0,blk0,g1,g2,rfl⟩
  ·exact ⟨b,cap,r,hbi,World.putObj_heap_same (gl h3),hI3,hr,fun t=>(he t).keep (fun q hq=>(hIk q (hs.imm q hq)).trans (hI0 q hq)) hs.imm hext⟩
  ·have ho:=hs.mem.own k0 blk0 g2;have ho':gH (w3.putObj b (.loop r)) I3 β3 k0 blk0:=ho.keep (fun q hq=>by
    rcases hq with hq|⟨c,hc⟩
    ·exact hIk q hq
    ·exact hOk q ⟨k0,blk0,c,g2,hc⟩) (fun _ h=>h) (fun q c hc=>(ho.not_imm hc).1) (fun _ _ h=>h)
   exact ho'.sel hing g1
 ·rcases hget k blk g1 with ⟨rfl,rfl⟩|⟨k0,blk0,p1,p2,rfl⟩
  ·rw [hbi] at g3;injection g3 with g3;injection g3 with g3;injection g3 with g3 _;subst g3;rcases hget k' blk' g2 with ⟨rfl,rfl⟩|⟨k0',blk0',p1',p2',rfl⟩
   ·rfl
   ·exact (hoth k' k0' blk0' c' p1' p2' g4).elim
  ·rcases hget k' blk' g2 with ⟨rfl,rfl⟩|⟨k0',blk0',p1',p2',rfl⟩
   ·rw [hbi] at g4;injection g4 with g4;injection g4 with g4;injection g4 with g4 _;subst g4;exact (hoth k k0 blk0 c p1 p2 g3).elim
   ·rw [hin k0 k p1] at g3;rw [hin k0' k' p1'] at g4;have:=hs.mem.inj k0 k0' blk0 blk0' q c c' p2 p2' g3 g4;subst this;rw [p1] at p1';injection p1'
 ·rw [hβ k (by omega)];exact hm.free k hk
 ·rw [World.putObj_size];exact hs.mem.lt k hk
 ·rw [World.putObj_size];exact hs.size
 ·have hkb:k≠b:=fun e=>hn (e▸hob)
  rw [World.putObj_heap_other hkb];exact hs.block k hk (fun h=>hn (iY h))
 ·rcases hs.immn k hk with h|h|h
  ·exact .inl h
  ·exact .inr (.inl (iY h))
  ·exact .inr (.inr h)
 ·rcases howned k hk with rfl|h
  ·exact .inl hob
  ·rcases hs.own' k h with h|h
   ·exact .inl (iY h)
   ·exact .inr h
theorem md.of {i:Nat} {args:List V} {σ:ae} {id:Nat} {y:Yd} {e:aC} {v:V} {σ':ae} (hg:σ.get i=some (.rc y none e)) (hi:i<id) (hps:y.ps.toList.all (fun p=>decide (p<y.n))=true) (hl:args.length=y.ps.size) (hn1:lF y.asg=true) (hn2:lF y.body=true)
 (h:AW P G y.n id y.asg ⟨g8 y.ps.toList (args.map (V.sel (gL id))) (e.sel (gL id)),(σ.del i).sel (gL id),id⟩ (gN (fun st=>AW P G y.n id y.body st (GZ G σ id i y e v σ')) (fun _ _=>False))):md P G i args σ id v σ':=by
 intro w I β nx vals b cap hm hG hfr hnx hd hb;obtain ⟨b',cap',r,q1,q2,q3,q4,q5⟩:=hm.own i _ hg;rw [hb] at q1;injection q1 with q1;injection q1 with q1;injection q1 with q1 q1';subst q1;subst q1';refine ⟨r,q2,by rw [←hd.1,hl,q4.ps],?_⟩;rw [Dm];have hC:=hm.cut id;let C:qf:=⟨w,I,j3 β id,σ.sel (gL id),id,y.n,hC.free,[(b,.loop r)]⟩
 have hown:bd C.σ C.β b:=⟨i,bu.sel (gL id) (.rc y none e),cap,ae.get_sel' (ti id) (by simp [gL,hi]) σ _ hg,by simp [C,j3,hi,hb]⟩
 have hsub : ∀j bl,((σ.del i).sel (gL id)).get j=some bl→(σ.sel (gL id)).get j=some bl∧j≠i:=by
  intro j bl hj;obtain ⟨hlt,b',h1,rfl⟩:=iU hj;rw [ae.get_del] at h1;split at h1
  ·cases h1
  ·rename_i hne;exact ⟨ae.get_sel' (ti id) (by simp [gL,hlt]) σ _ h1,hne⟩
 have hargs:bU w I (j3 β id) (args.map (V.sel (gL id))) vals:=by
  refine ⟨by simpa using hd.1,fun k c x hc hx =>?_⟩;simp only [List.getElem?_map,Option.map_eq_some_iff] at hc;obtain ⟨c',hc',rfl⟩:=hc;exact (hd.2 k c' x hc' hx).sel nV
 have hfill:=rd (w:=w) (I:=I) (β:=j3 β id) y.ps.toList (args.map (V.sel (gL id))) vals (e.sel (gL id)) r.tmps hargs (fun p hp=>by
  have:=List.all_eq_true.1 hps p hp;rw [q4.n];simpa using this) (fun t=>by rw [aC.get_sel];exact (q5 t).sel nV)
 have hrel:na C G ⟨g8 y.ps.toList (args.map (V.sel (gL id))) (e.sel (gL id)),(σ.del i).sel (gL id),id⟩ { tmps:=j8 (y.ps.toList.zip vals) r.tmps,defers:=[] } w:=by
  refine ⟨I,j3 β id,(aj.refl hC).sub (fun j bl hj=>(hsub j bl hj).1) (Nat.le_refl _),hC.free,hfill.2,by rw [hfill.1];exact q4.n,⟨⟨[],rfl,List.nodup_nil,fun D hD=>by cases hD⟩,fun p hp =>?_⟩,hG⟩;have hp':p=(b,.loop r):=by simpa [C] using hp
  subst hp';refine ⟨q2,q3,?_⟩;rintro ⟨j,bl,c,g1,g2⟩;obtain ⟨hlt,b',h1,_⟩:=iU g1;rw [ae.get_del] at h1;split at h1
  ·cases h1
  ·rename_i hne;exact hne (hm.inj j i _ _ b c cap h1 hg (iQ g2).2 hb)
 rw [show r.params.toList=y.ps.toList by rw [q4.ps]];refine roundIn_of_wpIn (F:=Fence.wide) trivial ?_;rw [q4.asg,q4.body];refine wpIn_mono (h (some b) (.inr hn1) C _ w rfl rfl hrel) ?_;rintro e1 a1 w1 ⟨st1,hq,hr1⟩;cases e1 with
 | normal=>
  have hhid:w1.heap[b]? = some (.loop r):=by
   obtain ⟨I1,β1,_,_,_,_,⟨_,k⟩,_⟩:=_root_.id hr1;exact (k (b,.loop r) (by simp [C])).1
  have hst:r.state = .ready:=by rw [q4.state];rfl
  refine ⟨_,run_beginRound hhid hst,?_⟩;have hr2:=dC.putHid (o':= .loop { r with state:= .busy }) (C:=C) rfl (fun e=>by cases e) hown hr1;let C2:qf :={ C with hd:=[(b,.loop { r with state:= .busy })] }
  refine wpIn_mono ((show AW P G y.n id y.body st1 (GZ G σ id i y e v σ') from hq) (some b) (.inr hn2) C2 a1 _ rfl rfl hr2) ?_;have fin : ∀(j:Option Code) (st2:St) (a2:Act) (w3:World),Cy G σ id i y e j v σ' st2→na C2 G st2 a2 w3 →
   ∃u w',(Instr.endRound b j).run P w3 = .ok u w' ∧ ∃u0 I' β',Ending.returned u = .returned u0∧ax w' I' β' v u0∧aj w I β σ nx w' I' β' σ' nx ∧ ∀k,¬(id≤k∧k<id+4)→β' k=β k:=by
   rintro j st2 a2 w3 ⟨rfl,st3,hle,l,hl4,hsb⟩ hr3;obtain ⟨I3,β3,k1,k2,k3,k4,⟨_,k5⟩,k6⟩:=hle C2 a2 w3 rfl hr3;obtain ⟨p1,p2,p3⟩:=k5 (b,.loop { r with state:= .busy }) (by simp [C2]);obtain ⟨β',g1,g2⟩:=Ee (r :={ r with state:=if j.isNone then .ready else .done,pending:=j }) hm hi hfr hnx hg hb q5 ⟨rfl,rfl,q4.n,q4.ps,q4.asg,q4.body⟩ k1 p1 p2 p3 hl4 hsb;exact ⟨_,_,run_endRound j p1,_,I3,β',rfl,ai.lit _,g1,g2⟩
  rintro e2 a2 w3 ⟨st2,hq2,hr3⟩;cases e2 with
  | normal=>exact fin none st2 a2 w3 hq2 hr3
  | ret=>exact fin (some .ret) st2 a2 w3 hq2 hr3
  | exit k=>exact fin (some (.exit k)) st2 a2 w3 hq2 hr3
  | _=>exact hq2.elim
 | _=>exact hq.elim
theorem ff.of (ho:P.follows .mixedOrders=true) (lv:List Nat) {i:Nat} {args:List V} {σ:ae} {id:Nat} {K:V→ae→Prop} {y:Yd} {e:aC} {v:V} {σ':ae} (hg:σ.get i=some (.rc y none e)) (hi:i<id) (hps:y.ps.toList.all (fun p=>decide (p<y.n))=true) (hl:args.length=y.ps.size)
 (hn1:lF y.asg=true) (hn2:lF y.body=true) (ho1:aE y.n y.asg=true) (ho2:aE y.n y.body=true)
 (h:bc P G y.n id lv y.asg ⟨g8 y.ps.toList (args.map (V.sel (gL id))) (e.sel (gL id)),(σ.del i).sel (gL id),id⟩ (gN (fun st=>bc P G y.n id lv y.body st (GZ G σ id i y e v σ')) (fun _ _=>False))) (hK:K v σ'):ff P G i args σ id K:=by
 refine ⟨v,σ',hK,md.of hg hi hps hl hn1 hn2 ((cU ho _ _ _ ho1 h).mono ?_)⟩;intro ex st hq;cases ex with
 | normal=>exact cU ho _ _ _ ho2 hq
 | _=>exact hq
end
end Go.Proofs.YtkkanlcjjpoklaaGreatDoor
set_option linter.unusedVariables false
namespace Go.Proofs.YtkkanlcjjpoklaaGreatDoor
open Go.RowKit
section
variable {P:Program} {G:Gl}
def Fs (G:Gl) (st:St) (Q:Exit→St→Prop) (st':St):Prop:=
 aN G (st.nx+1) (fun st'=> ∃y j e,st'.sg.get st.nx=some (.rc y j e)∧match j with
  | none=>Q .normal ⟨st.env,st'.sg.del st.nx,st'.nx⟩
  | some .ret=>Q .ret ⟨st.env,st'.sg.del st.nx,st'.nx⟩
  | some (.exit k)=>Q (.exit k) ⟨st.env,st'.sg.del st.nx,st'.nx⟩
  | _=>False) st'
def Li (G:Gl) (st:St) (Q:Exit→St→Prop):Exit→St→Prop
 | .normal,st'=>Fs G st Q st'
 | .ret,st'=>Fs G st Q st'
 | _,_=>False
theorem aj.foreign {w:World} {I:Nat→Prop} {β:bA} {σ:ae} {nx:Nat} (hm:b4 w I β σ nx) (o:Obj):aj w I β σ nx (w.alloc o) I β σ nx:=by
 have hb : ∀b,b<w.heap.size→(w.alloc o).heap[b]? = w.heap[b]? :=fun b hb=>Below.heap_alloc w o b hb
 refine ⟨⟨fun id blk h =>?_,hm.inj,hm.free,fun b hI=>by have:=hm.lt b hI;simp;omega⟩,rfl,rfl,rfl,by simp,fun b hlt _=>hb b hlt,fun _ h=>h,fun _ h=> .inl h,fun _ _ h=>h,Nat.le_refl _,fun _ h=> .inl h⟩;have ho:=hm.own id blk h;refine ho.keep (fun b hb' =>?_) (fun _ h=>h) (fun b c hc=>(ho.not_imm hc).1) (fun _ _ h=>h);rcases hb' with hb'|⟨c,hc⟩
 ·exact hb b (hm.lt b hb')
 ·exact hb b (ho.not_imm hc).2
theorem pb {n m:Nat} {g:Operand} {ps:Array Nat} {asg body:Code} {st:St} {Q:Exit→St→Prop} {k:Nat} {caps:List V} {fn:Func} {c:Code}
 (hg : ∀w I β x,ax w I β (di G st.env.get g) x → ∃cv:List Value,x = .func (.func k) #[] cv.toArray∧bU w I β caps cv) (he:bN P k=true) (hf:P.funcs[k]? = some fn) (hb:fn.body=some c) (hrs:fn.results = #[]) (hlen:caps.length+1≤fn.ntmps)
 (h:AW P G fn.ntmps (st.nx+1) c ⟨fg 0 (.yl st.nx::caps),(st.nx,.rc ⟨n,ps,asg,body⟩ none st.env)::st.sg,st.nx+1⟩ (Li G st Q)):lb P G n m g ps asg body st Q:=by
 intro fr hfr C a w hn hm hr;have hfr':fr=none:=hfr.resolve_right (by simp [lF]);subst hfr';refine wpIn_rangeFunc (F:=Fr none) fun fn' _ =>?_
 obtain ⟨I,β,h1,h2,h3,h4,h5,h6⟩:=hr;have hgd:=nh (G:=G) (e:=st.env) (a:=a) h3 h6 g;obtain ⟨cv,e1,e2⟩:=hg w I β _ hgd;let r:Loop :={ state:= .ready,pending:=none,fn:=fn',tmps:=a.tmps,params:=ps,assign:=asg,body:=body,defers:=w.heap.size }
 let w0:=w.alloc (.deferred (some []))
 let w1:=w0.alloc (.loop r)
 have hres:(resolve a.eval (rangeCall g (w.heap.size+1)) 0).run P w1 = .ok { target:= .fn (.func k) cv.toArray,args :=#[.func (.yield (w.heap.size+1)) #[] #[]] } w1:=by
  have ec : ∀v:Value,a.eval (.const v)=v:=fun _=>rfl
  simp [resolve,e1,ec,Deferred.ofValue]
 refine ⟨w.heap.size+1,[{ target:= .collected w.heap.size,args :=#[] }],w1,_,w1,k,(.func (.yield (w.heap.size+1)) #[] #[]::cv).toArray,w1,run_enterLoop_outer fn' a.tmps ps asg body,hres,fun _ _=>trivial,?_,(fun e=>by cases e),?_⟩
 ·simp only [invoke];rw [show (#[Value.func (Fn.yield (w.heap.size+1)) #[] #[]]++cv.toArray)=(Value.func (Fn.yield (w.heap.size+1)) #[] #[]::cv).toArray by simp];exact kG he _ w1
 have hb0:β st.nx=none:=h2 st.nx (Nat.le_refl _);have hm1:b4 w I β st.sg (st.nx+1):=h1.mem.bump (by omega);have s0:=aj.foreign hm1 (.deferred (some []));let blk:bu:= .rc ⟨n,ps,asg,body⟩ none st.env
 have hsz:w0.heap.size=w.heap.size+1:=by simp [w0]
 have hown:gH w1 I (kY β st.nx (some (w0.heap.size,0))) st.nx blk:=by
  refine ⟨w0.heap.size,0,r,aF _ _ _,World.alloc_heap_new w0 _,fun hI =>?_,⟨rfl,rfl,h4.trans hn,rfl,rfl,rfl⟩,fun t =>?_⟩
  ·have:=h1.mem.lt _ hI;omega
  ·refine (h3 t).keep (fun b hI =>?_) (fun _ h=>h) (fc hb0);have hlt:=h1.mem.lt b hI;exact (Below.heap_alloc w0 _ b (by omega)).trans (Below.heap_alloc w _ b hlt)
 have s1:=aj.alloc s0.mem (id:=st.nx) hb0 (by omega) (.loop r) 0 blk hown;have s01:=s0.trans s1;let β1:=kY β st.nx (some (w0.heap.size,0))
 have hβ1:β1 st.nx=some (some (w0.heap.size,0)):=aF _ _ _;let C':qf:=⟨w1,I,β1,(st.nx,blk)::st.sg,st.nx+1,fn.ntmps,s1.mem.free,[]⟩
 let vals:List Value:= .func (.yield (w.heap.size+1)) #[] #[]::cv
 have hvl:vals.length=caps.length+1:=by simp [vals,e2.1]
 have hrel:na C' G ⟨fg 0 (.yl st.nx::caps),(st.nx,blk)::st.sg,st.nx+1⟩ { tmps:=vals.toArray++Array.replicate (fn.ntmps - vals.toArray.size) undef,defers:=[] } w1:=by
  refine ⟨I,β1,aj.refl s1.mem,s1.mem.free,fun t =>?_,?_,gQ.nil,fun q x hx=>s01.denD hm1 (h6 q x hx)⟩
  ·show ax w1 I β1 ((fg 0 (.yl st.nx::caps)).get t) _;rw [uQ];simp only [Nat.zero_le,if_true,Nat.sub_zero];cases hv:(V.yl st.nx::caps)[t]? with
   | none=>trivial
   | some v=>
    have ht:t<vals.length:=by
     have:=(List.getElem?_eq_some_iff.1 hv).1;simp at this;omega
    have e3:(vals.toArray++Array.replicate (fn.ntmps - vals.toArray.size) undef).getD t undef=vals[t]:=by
     simp [Array.getD_eq_getD_getElem?,Array.getElem?_append,ht]
    rw [e3];match t,hv,ht with
    | 0,hv,ht=>
     simp only [List.getElem?_cons_zero,Option.some.injEq] at hv;subst hv;exact ⟨w0.heap.size,0,hβ1,by show Value.func (.yield (w.heap.size+1)) #[] #[]=_;rw [hsz]⟩
    | t+1,hv,ht=>
     simp only [List.getElem?_cons_succ] at hv;exact s01.den hm1 (e2.2 t v _ hv (by simp [vals]))
  ·show (vals.toArray++Array.replicate (fn.ntmps - vals.toArray.size) undef).size=fn.ntmps;simp;omega
 refine callsIn_of_wp_marks (F:=Fr none) hf hb trivial ?_;refine wpIn_mono (h none (.inl rfl) C' _ w1 rfl rfl hrel) ?_;rintro ex aK w2 ⟨st2,hq,hr2⟩;have hD:gQ C.w.heap.size C.hd w1 I β1 ((st.nx,blk)::st.sg) ({ target:= .collected w.heap.size,args :=#[] } :: a.defers):=by
  obtain ⟨⟨Ds,d1,d2,d3⟩,d4⟩:=(h5.step s01)
  have hDlt : ∀D∈Ds,D<w.heap.size:=by
   obtain ⟨⟨Ds',d1',d2',d3'⟩,_⟩:=h5;have:Ds'=Ds:=by
    have e4:=d1'.symm.trans d1;have : ∀(x y:List Nat),x.map (fun D=>({ target:= .collected D,args :=#[] } : Deferred))=y.map (fun D =>{ target:= .collected D,args :=#[] })→x=y:=by
     intro x;induction x with
     | nil=>intro y h;cases y with|nil=>rfl|cons=>simp at h
     | cons q x ih=>
      intro y h;cases y with
      | nil=>simp at h
      | cons q' y=>simp only [List.map_cons,List.cons.injEq,Deferred.mk.injEq,Target.collected.injEq,and_true] at h;rw [h.1,ih y h.2]
    exact this _ _ e4
   subst this;exact fun D hD=>gl (d3' D hD).2.1
  refine ⟨⟨w.heap.size::Ds,by rw [List.map_cons,←d1],List.nodup_cons.2 ⟨fun hh=>by have:=hDlt _ hh;omega,d2⟩,fun D hD =>?_⟩,d4⟩;rcases List.mem_cons.1 hD with rfl|hD
  ·refine ⟨h1.size,?_,fun hI=>by have:=h1.mem.lt _ hI;omega,?_⟩
   ·have:w1.heap[w.heap.size]? = w0.heap[w.heap.size]? :=Below.heap_alloc w0 _ _ (by omega);rw [this];exact World.alloc_heap_new w _
   ·rintro ⟨q,bl,cc,g1,g2⟩;simp only [ae.get] at g1;by_cases hq:st.nx=q
    ·subst hq;rw [hβ1] at g2;injection g2 with g2;injection g2 with g2;injection g2 with g2 _;omega
    ·rw [if_neg hq] at g1;rw [show β1 q=β q from aD (fun e=>hq e.symm)] at g2;have:=((h1.mem.own q bl g1).not_imm g2).2;omega
  ·exact d3 D hD
 have key:Fs G st Q st2→LeavesInM (Fr none) 0 P fn aK.tmps (rangePost (Fr none) 0 P (w.heap.size+1) (fun e a' w'=> ∃st',Q e st'∧na C G st' a' w') { a with defers:=[{ target:= .collected w.heap.size,args :=#[] }]++a.defers }) aK.defers .returning w2:=by
  rintro ⟨st3,hle,y,j,e,g1,g2⟩;refine tf (C:=C') rfl (G:=G) (st:=st3) (fun w3 hr3 =>?_) aK.defers w2 (hle C' aK w2 rfl hr2);refine ⟨.tuple #[],by simp [pc,hrs],?_⟩;obtain ⟨I3,β3,k1,k2,k3,k4,k5,k6⟩:=hr3;obtain ⟨b,cap,r3,p1,p2,p3,p4,p5⟩:=k1.mem.own _ _ g1;have hbl:b=w.heap.size+1∧cap=0:=by
   have:=k1.bet st.nx _ hβ1;rw [p1] at this;injection this with this;injection this with this;injection this with q1 q2;exact ⟨q1.trans hsz,q2⟩
  obtain ⟨rfl,rfl⟩:=hbl;have hnb:r3.state ≠ .busy:=by rw [p4.state];split<;>simp
  refine ⟨r3.pending,_,run_endLoop p2 hnb,?_⟩;have hst:=s01.trans k1;have back:na C G ⟨st.env,st3.sg.del st.nx,st3.nx⟩ { a with defers:=[{ target:= .collected w.heap.size,args :=#[] }]++a.defers } (w3.putObj (w.heap.size+1) (.loop { r3 with state:= .exhausted })):=by
   have hIk : ∀q,I3 q→(w3.putObj (w.heap.size+1) (.loop { r3 with state:= .exhausted })).heap[q]? = w3.heap[q]? :=fun q hq=>World.putObj_heap_other (fun e=>p3 (e▸hq))
   have hno : ∀q,bd (st3.sg.del st.nx) β3 q→q≠w.heap.size+1∧bd st3.sg β3 q:=by
    rintro q ⟨id',bl,cc,x1,x2⟩;rw [ae.get_del] at x1;split at x1
    ·cases x1
    ·rename_i hne;refine ⟨?_,id',bl,cc,x1,x2⟩;rintro rfl;exact hne (k1.mem.inj id' st.nx _ _ _ cc 0 x1 g1 x2 p1)
   have hOk : ∀q,bd (st3.sg.del st.nx) β3 q→(w3.putObj (w.heap.size+1) (.loop { r3 with state:= .exhausted })).heap[q]? = w3.heap[q]? :=fun q hq=>World.putObj_heap_other (hno q hq).1
   have hall:=h1.bump (show st.nx≤st.nx+1 by omega) |>.trans hst
   have hdd:=hD.step k1;refine ⟨I3,β3,⟨⟨fun id' bl hb' =>?_,fun i j' b' b'' q cc cc' x1 x2 x3 x4 =>?_,k1.mem.free,fun q hq =>?_⟩,hall.os,hall.tape,hall.output,?_,fun q hq hnq =>?_,hall.imm,hall.immn,hall.bet,hall.nx,fun q hq=>hall.own' q (hno q hq).2⟩,k2,fun t =>?_,h4,?_,fun q x hx=>(k6 q x hx).keep hIk (fun _ h=>h)⟩
   ·have hx:st3.sg.get id'=some bl:=by
     have hb'':(st3.sg.del st.nx).get id'=some bl:=hb';rw [ae.get_del] at hb'';split at hb''
     ·cases hb''
     ·exact hb''
    have ho:=k1.mem.own id' bl hx;refine ho.keep (fun q hq =>?_) (fun _ h=>h) (fun q cc hc=>(ho.not_imm hc).1) (fun _ _ h=>h);rcases hq with hq|⟨cc,hc⟩
    ·exact hIk q hq
    ·exact hOk q ⟨id',bl,cc,hb',hc⟩
   ·have y1:(st3.sg.del st.nx).get i=some b':=x1;have y2:(st3.sg.del st.nx).get j'=some b'':=x2;rw [ae.get_del] at y1 y2;split at y1
    ·cases y1
    ·split at y2
     ·cases y2
     ·exact k1.mem.inj i j' b' b'' q cc cc' y1 y2 x3 x4
   ·rw [World.putObj_size];exact k1.mem.lt q hq
   ·rw [World.putObj_size];exact hall.size
   ·rw [World.putObj_heap_other (by have:=h1.size;omega)];exact hall.block q hq hnq
   ·exact (k1.den s1.mem (s01.den hm1 (h3 t))).keep hIk (fun _ h=>h) (fun _ _ h=>h)
   ·obtain ⟨⟨Ds,d1,d2,d3⟩,d4⟩:=hdd;have ne : ∀q (o:Obj),w3.heap[q]? = some o→(∀l,o ≠ .loop l)→q≠w.heap.size+1:=by
     rintro q o hq ho rfl;rw [p2] at hq;injection hq with hq;exact ho _ hq.symm
    refine ⟨⟨Ds,d1,d2,fun D hD =>?_⟩,fun p hp =>?_⟩
    ·obtain ⟨z1,z2,z3,z4⟩:=d3 D hD;refine ⟨z1,?_,z3,fun hh=>z4 (hno D hh).2⟩;rw [World.putObj_heap_other (ne D _ z2 (fun l e=>by cases e))];exact z2
    ·obtain ⟨z1,z2,z3⟩:=d4 p hp;refine ⟨?_,z2,fun hh=>z3 (hno _ hh).2⟩;rw [World.putObj_heap_other]
     ·exact z1
     ·intro e5;exact z3 ⟨st.nx,_,0,g1,by rw [e5];exact p1⟩
  generalize w3.putObj (w.heap.size+1) (.loop { r3 with state:= .exhausted })=w4 at back ⊢;rw [p4.pending];match j,g2 with
  | none,g2=>exact ⟨_,g2,back⟩
  | some .ret,g2=>exact wpIn_ret ⟨_,g2,back⟩
  | some (.exit q),g2=>exact wpIn_exit ⟨_,g2,back⟩
 cases ex with
 | normal=>exact key hq
 | ret=>exact key hq
 | _=>exact hq.elim
theorem qR {w:World} {I:Nat→Prop} {β:bA} {k:Nat} {caps:List V} {x:Value} (h:ax w I β (.fn k caps) x) : ∃cv:List Value,x = .func (.func k) #[] cv.toArray∧bU w I β caps cv:=by
 obtain ⟨k',caps',⟨rfl,rfl⟩,e2⟩:=dt (w:=w) (I:=I) (β:=β) (x:=x) (v:= .fn k caps) (K:=fun a b=>a=k∧b=caps) ⟨rfl,rfl⟩;exact e2 h
theorem CV {w:World} {I:Nat→Prop} {β:bA} {k:Nat} {caps:List D} {x:Value} (h:ax w I β (.d (.fn k caps)) x) : ∃cv:List Value,x = .func (.func k) #[] cv.toArray∧bU w I β (caps.map .d) cv:=by
 obtain ⟨k',caps',⟨rfl,rfl⟩,e2⟩:=dt (w:=w) (I:=I) (β:=β) (x:=x) (v:= .d (.fn k caps)) (K:=fun a b=>a=k∧b=caps.map .d) ⟨rfl,rfl⟩;exact e2 h
end
end Go.Proofs.YtkkanlcjjpoklaaGreatDoor
set_option linter.defProp false
set_option linter.unusedSimpArgs false
set_option linter.unusedVariables false
set_option maxRecDepth 8000
namespace Go.Proofs.YtkkanlcjjpoklaaGreatDoor
def Pt {α:Type} (W:(α→Prop)→Prop):Prop:= ∀K,W K → ∃x,K x ∧ ∀K':α→Prop,K' x→W K'
def aY {α β:Type} (W:(α→β→Prop)→Prop):Prop:= ∀K,W K → ∃x y,K x y ∧ ∀K':α→β→Prop,K' x y→W K'
section
variable {α β γ δ:Type}
theorem Pt.at (x:α):Pt fun K:α→Prop=>K x:=fun _ h=>⟨x,h,fun _ h=>h⟩
theorem aY.at (x:α) (y:β):aY fun K:α→β→Prop=>K x y:=fun _ h=>⟨x,y,h,fun _ h=>h⟩
theorem Pt.no:Pt fun _:α→Prop=>False:=fun _ h=>h.elim
theorem aY.no:aY fun _:α→β→Prop=>False:=fun _ h=>h.elim
theorem Pt.bind {W:(α→Prop)→Prop} (h:Pt W) {V:α→(β→Prop)→Prop} (k : ∀x,Pt (V x)):Pt fun K=>W fun x=>V x K:=fun K hW=>by
 obtain ⟨x,hx,h1⟩:=h _ hW;obtain ⟨y,hy,h2⟩:=k x _ hx;exact ⟨y,hy,fun K' hK=>h1 _ (h2 _ hK)⟩
theorem Pt.bind2 {W:(α→Prop)→Prop} (h:Pt W) {V:α→(β→γ→Prop)→Prop} (k : ∀x,aY (V x)):aY fun K=>W fun x=>V x K:=fun K hW=>by
 obtain ⟨x,hx,h1⟩:=h _ hW;obtain ⟨y,z,hy,h2⟩:=k x _ hx;exact ⟨y,z,hy,fun K' hK=>h1 _ (h2 _ hK)⟩
theorem aY.bind {W:(α→β→Prop)→Prop} (h:aY W) {V:α→β→(γ→δ→Prop)→Prop} (k : ∀x y,aY (V x y)):aY fun K=>W fun x y=>V x y K:=fun K hW=>by
 obtain ⟨x,y,hx,h1⟩:=h _ hW;obtain ⟨z,t,hz,h2⟩:=k x y _ hx;exact ⟨z,t,hz,fun K' hK=>h1 _ (h2 _ hK)⟩
theorem Pt.and {W:(α→Prop)→Prop} (p:Prop) (h:Pt W):Pt fun K=>p∧W K:=fun K ⟨hp,hW⟩=>by
 obtain ⟨x,hx,h1⟩:=h _ hW;exact ⟨x,hx,fun K' hK=>⟨hp,h1 _ hK⟩⟩
theorem aY.and {W:(α→β→Prop)→Prop} (p:Prop) (h:aY W):aY fun K=>p∧W K:=fun K ⟨hp,hW⟩=>by
 obtain ⟨x,y,hx,h1⟩:=h _ hW;exact ⟨x,y,hx,fun K' hK=>⟨hp,h1 _ hK⟩⟩
theorem aY.or {W V:(α→β→Prop)→Prop} (h:aY W) (k:aY V):aY fun K=>W K∨V K:=fun K hW=>by
 rcases hW with hW|hW
 ·obtain ⟨x,y,hx,h1⟩:=h _ hW;exact ⟨x,y,hx,fun K' hK=> .inl (h1 _ hK)⟩
 ·obtain ⟨x,y,hx,h1⟩:=k _ hW;exact ⟨x,y,hx,fun K' hK=> .inr (h1 _ hK)⟩
theorem Pt.br (b:Bool) {W V:(α→Prop)→Prop} (h:Pt W) (k:Pt V):Pt fun K=>gI b (W K) (V K):=fun K hW=>by
 cases b with
 | true=>obtain ⟨x,hx,h1⟩:=h _ (hW.1 rfl);exact ⟨x,hx,fun K' hK=>⟨fun _=>h1 _ hK,fun h=>(by cases h)⟩⟩
 | false=>obtain ⟨x,hx,h1⟩:=k _ (hW.2 rfl);exact ⟨x,hx,fun K' hK=>⟨fun h=>(by cases h),fun _=>h1 _ hK⟩⟩
theorem aY.br (b:Bool) {W V:(α→β→Prop)→Prop} (h:aY W) (k:aY V):aY fun K=>gI b (W K) (V K):=fun K hW=>by
 cases b with
 | true=>obtain ⟨x,y,hx,h1⟩:=h _ (hW.1 rfl);exact ⟨x,y,hx,fun K' hK=>⟨fun _=>h1 _ hK,fun h=>(by cases h)⟩⟩
 | false=>obtain ⟨x,y,hx,h1⟩:=k _ (hW.2 rfl);exact ⟨x,y,hx,fun K' hK=>⟨fun h=>(by cases h),fun _=>h1 _ hK⟩⟩
theorem Pt.opt (o:Option α):Pt fun K:α→Prop=>bT o K:=by
 cases o with
 | none=>exact Pt.no
 | some x=>exact Pt.at x
theorem Pt.elem (k:Nat) (es:List D) (i j:Nat) (x:Nat × Bool):Pt fun K=>fC k es i j x K:=fun K h=>by
 obtain ⟨e,y,h1,h2,h3⟩:=g7 h;exact ⟨_,h3,fun K' hK=>⟨h.1,fun e' he=>by rw [h1] at he;cases he;rw [h2];exact hK⟩⟩
theorem Pt.cell (b:bu):Pt fun K:List V→Prop=>nR b K:=by
 cases b<;>first|exact Pt.at _|exact Pt.no
theorem Pt.load (P:Program) (t:Nat) (a:V) (σ:ae):Pt fun K=>dp P t a σ K:=by
 refine (Pt.opt (cW P t)).bind fun x =>?_
 split
 ·exact Pt.elem _ _ _ _ _
 ·exact (Pt.opt _).bind fun b=>(Pt.cell b).bind fun cs=>Pt.opt _
 ·refine (Pt.opt _).bind fun b =>?_
  cases b with
  | row k es ty=>exact Pt.and _ (Pt.elem _ _ _ _ _)
  | _=>exact Pt.no
 ·exact Pt.no
theorem Pt.pick (c a b:V):Pt fun K=>gD c a b K:=by
 unfold gD;split
 ·exact Pt.br _ (Pt.at _) (Pt.at _)
 ·exact Pt.no
theorem aY.next (x:V) (σ:ae):aY fun K=>ji x σ K:=by
 unfold ji;split
 ·refine (Pt.opt _).bind2 fun b =>?_
  cases b with
  | iter s pos=>exact aY.br _ (aY.at _ _) (aY.at _ _)
  | _=>exact aY.no
 ·exact aY.no
theorem aY.call (P:Program) (G:Gl) (f:Nat) (args:List V) (σ:ae) (id:Nat):aY fun K=>aB P G f args σ id K:=fun K ⟨v,σ',h,k⟩=>⟨v,σ',h,fun K' hK=>⟨v,σ',hK,k⟩⟩
theorem aY.dcall (P:Program) (G:Gl) (f:Nat) (args:List V) (σ:ae) (id:Nat):aY fun K=>cJ P G f args σ id K:=fun K ⟨v,σ',h,k⟩=>⟨v,σ',h,fun K' hK=>⟨v,σ',hK,k⟩⟩
theorem aY.yield (P:Program) (G:Gl) (f:Nat) (args:List V) (σ:ae) (id:Nat):aY fun K=>ff P G f args σ id K:=fun K ⟨v,σ',h,k⟩=>⟨v,σ',h,fun K' hK=>⟨v,σ',hK,k⟩⟩
theorem aY.res (op:Op) (r:iO):aY fun K=>d5 op r K:=by
 cases r with
 | none=>exact aY.no
 | some x=>exact aY.and _ (aY.at _ _)
theorem aY.callee (v:V) {K:Nat→List V→(α→β→Prop)→Prop} {Y:Nat→(α→β→Prop)→Prop} {B:Nat→List V→(α→β→Prop)→Prop} (h : ∀k l,aY (K k l)) (hy : ∀i,aY (Y i)) (hb : ∀k l,aY (B k l)) :
 aY fun X=>a8 v (fun k l=>K k l X) (fun i=>Y i X) fun k l=>B k l X:=by
 unfold a8;split
 ·exact h _ _
 ·exact h _ _
 ·exact hy _
 ·exact hb _ _
 ·exact aY.no
variable {P:Program} {G:Gl}
theorem aY.bs (r r2:iO) (σ:ae):aY fun K=>Fd r r2 σ K:=by
 unfold Fd;split
 ·exact aY.and _ (aY.at _ _)
 ·split
  ·exact aY.and _ (aY.at _ _)
  ·exact aY.no
theorem aY.step (op:Op) (g:Operand→V) (σ:ae) (id:Nat):aY fun K=>aG P G op g σ id K:=by
 unfold aG;split
 ·exact (Pt.pick _ _ _).bind2 fun v=>aY.at v σ
 ·exact (Pt.load _ _ _ _).bind2 fun v=>aY.at v σ
 ·split
  ·exact aY.next _ _
  ·exact aY.no
 ·split
  ·exact aY.callee _ (fun _ _=>aY.call _ _ _ _ _ _) (fun _=>aY.yield _ _ _ _ _ _) fun _ _=>aY.call _ _ _ _ _ _
  ·exact aY.res _ _
  ·exact aY.no
 ·exact aY.bs _ _ _
 ·exact aY.res _ _
theorem aY.quiet (op:Op) (g:Operand→V) (σ:ae) (id:Nat):aY fun K=>aH P G op g σ id K:=by
 unfold aH;split
 ·exact (Pt.pick _ _ _).bind2 fun v=>aY.at v []
 ·exact (Pt.load _ _ _ _).bind2 fun v=>aY.at v []
 ·split
  ·exact aY.callee _ (fun _ _=>aY.dcall _ _ _ _ _ _) (fun _=>aY.no) fun _ _=>aY.dcall _ _ _ _ _ _
  ·exact aY.res _ _
  ·exact aY.no
 ·exact aY.res _ _
theorem aY.guard (ops:Array Oper) (o:Oper) (e:aC) {Y N:aC→(α→β→Prop)→Prop} (h : ∀e,aY (Y e)) (k : ∀e,aY (N e)):aY fun K=>bO ops o e (fun e=>Y e K) fun e=>N e K:=by
 unfold bO;split
 ·exact h _
 ·refine (Pt.opt _).bind2 fun d =>?_
  unfold mW;split
  ·refine aY.br _ ?_ ?_<;>split<;>first|exact h _|exact k _
  ·exact k _
  ·exact aY.no
theorem aY.ops (ops:Array Oper) (base:Nat) : ∀(l:List Oper) (i:Nat) (e:aC) (σ:ae),aY fun K=>ky P G ops base i l e σ K
 | [],_,e,σ=>aY.at e σ
 | o::r,i,e,σ=>aY.guard _ _ _ (fun e=>(aY.step _ _ _ _).bind fun v σ'=>aY.ops ops base r _ _ _) fun e=>aY.ops ops base r _ _ _
theorem aY.sb (σk σ:ae) {W:(α→β→Prop)→Prop} (h:aY W):aY fun K=>tH σk σ (W K):=by
 cases σk with
 | nil=>exact h
 | cons x r=>exact aY.and _ h
theorem aY.opsL (lo:List Nat) (σk:ae) (ops:Array Oper) (base:Nat) : ∀(l:List Oper) (i:Nat) (e:aC) (σ acc:ae),aY fun K=>opsL P G lo σk ops base i l e σ acc K
 | [],_,e,σ,acc=>aY.at e (σ++acc)
 | o::r,i,e,σ,acc=>aY.guard _ _ _ (fun e=>by
  split
  ·exact (aY.step _ _ _ _).bind fun v σ'=>aY.sb _ _ (aY.opsL lo σk ops base r _ _ _ _)
  ·split
   ·unfold eM;split
    ·split
     ·exact aY.callee _ (fun _ _=>aY.or ((aY.dcall _ _ _ _ _ _).bind fun v new=>aY.opsL lo σk ops base r _ _ _ _) (aY.and _ ((aY.call _ _ _ _ _ _).bind fun v σ'=>aY.sb _ _ (aY.opsL lo σk ops base r _ _ _ _))))
       (fun _=>aY.and _ ((aY.yield _ _ _ _ _ _).bind fun v σ'=>aY.sb _ _ (aY.opsL lo σk ops base r _ _ _ _)))
       fun _ _=>aY.or ((aY.dcall _ _ _ _ _ _).bind fun v new=>aY.opsL lo σk ops base r _ _ _ _) (aY.and _ ((aY.call _ _ _ _ _ _).bind fun v σ'=>aY.sb _ _ (aY.opsL lo σk ops base r _ _ _ _)))
     ·exact aY.no
    ·exact aY.no
   ·split
    ·exact (aY.quiet _ _ _ _).bind fun v new=>aY.and _ (aY.opsL lo σk ops base r _ _ _ _)
    ·exact (aY.quiet _ _ _ _).bind fun v new=>aY.opsL lo σk ops base r _ _ _ _) fun e=>aY.opsL lo σk ops base r _ _ _ _
theorem Pt.reg (lv:List Nat) (ops:Array Oper) (draw:Bool) (st:St):Pt fun K=>iu P G lv ops draw K st:=by
 intro K h;cases draw with
 | true=>
  simp only [iu,if_true] at h;obtain ⟨lo,σk,h1,h2,h3,h4⟩:=h;obtain ⟨e,σ,hK,hall⟩:=aY.opsL lo σk ops st.nx ops.toList 0 st.env st.sg [] (fun e σ=>K ⟨aC.keep lv e,σ,st.nx+4*ops.size⟩) h4;exact ⟨_,hK,fun K' hK'=>by simp only [iu,if_true];exact ⟨lo,σk,h1,h2,h3,hall (fun e σ=>K' ⟨aC.keep lv e,σ,st.nx+4*ops.size⟩) hK'⟩⟩
 | false=>
  simp only [iu,Bool.false_eq_true,if_false] at h;obtain ⟨e,σ,hK,hall⟩:=aY.ops ops st.nx ops.toList 0 st.env st.sg (fun e σ=>K ⟨aC.keep lv e,σ,st.nx+4*ops.size⟩) h;exact ⟨_,hK,fun K' hK'=>by simp only [iu,Bool.false_eq_true,if_false];exact hall (fun e σ=>K' ⟨aC.keep lv e,σ,st.nx+4*ops.size⟩) hK'⟩
theorem Pt.gh (G:Gl) (m:Nat) {W:St→(α→Prop)→Prop} (h : ∀st,Pt (W st)) (st:St):Pt fun K=>aN G m (fun st=>W st K) st:=fun K ⟨s,h1,h2⟩=>by
 obtain ⟨x,hx,hall⟩:=h s K h2;exact ⟨x,hx,fun K' hK=>⟨s,h1,hall K' hK⟩⟩
end
def Kw (G:Gl) (m:Nat) (B:List Nat→St→(Exit→St→Prop)→Prop) (st:St) (Q:Exit→St→Prop) (_u:Tag B:= .mk) (_v:Tag Q:= .mk) (_h:True:=trivial):Prop:=
 ∃(α:Type) (S:α→St) (pre:α→Prop) (mu:α→Nat) (x0:α) (lv:List Nat),aN G m (fun st'=>st'=S x0) st∧pre x0 ∧ ∀x,pre x→B lv (S x) (gN (fun st=>bH G m S pre mu x st) Q)
def bL (P:Program) (G:Gl) (n m:Nat):Code→List Nat→St→(Exit→St→Prop)→Prop
 | .skip,_,st,Q=>Q .normal st
 | .region _ ops draw,lv,st,Q=>aN G m (iu P G lv ops draw fun st'=>Q .normal st') st
 | .seq a b,lv,st,Q=>bL P G n m a lv st (gN (fun st'=>bL P G n m b lv st' Q) Q)
 | .cond c a b,lv,st,Q=>j2 (di G st.env.get c) (bL P G n m a lv st Q) (bL P G n m b lv st Q)
 | .block id c,lv,st,Q=>bL P G n m c lv st (ek id Q)
 | .loop c,_,st,Q=>Kw G m (fun lv st Q=>bL P G n m c lv st Q) st Q
 | .exit id,_,st,Q=>Q (.exit id) st
 | .ret,_,st,Q=>Q .ret st
 | .label _,_,st,Q=>Q .normal st
 | .scope c,lv,st,Q=>bL P G n m c lv st (iC Q)
 | _,_,_,_=>False
section
variable {P:Program} {G:Gl} {n m:Nat}
def eT (P:Program) (G:Gl) (n m:Nat) (c:Code) (st:St) (Q:Exit→St→Prop):Prop:= ∀fr,(fr=none∨lF c=true) → ∀(C:qf) a w,C.n=n→C.nx=m→na C G st a w →
 ∀(b:Frame) (kk:List Item) (cs:List Frame),b.roundOf=(Fr fr).round→(Fr fr).fn b.fn→(Fr fr).room (cs.length+1+0) →
   ∃e a' w',(∃st',Q e st'∧na C G st' a' w')∧ArrivesIn (Machine.fenced P (Fr fr)) P (lone (b.atR a (.code c :: .inLoop c::kk)) cs w) b kk cs e a' w'
theorem eT.loop {c:Code} {st:St} {Q:Exit→St→Prop} (h:eT P G n m c st Q):jd P G n m c st Q:=by
 intro fr hfr C a w hn hm hrel b kk cs hro hb hroom;obtain ⟨e,a',w',hq,harr⟩:=h fr hfr C a w hn hm hrel b kk cs hro hb hroom;exact ⟨e,a',w',hq,.of_steps (.one (fenced_calm hb hroom rfl) stepR_loop) harr⟩
theorem eT.via {c:Code} {st:St} {Q:Exit→St→Prop} (h:aN G m (fun s=>eT P G n m c s Q) st):eT P G n m c st Q:=by
 obtain ⟨s,h1,h2⟩:=h;exact fun fr hfr C a w hn hm hr=>h2 fr hfr C a w hn hm (h1 C a w hm hr)
theorem eT.round (ho:P.follows .mixedOrders=true) {c:Code} (hok:aE n c=true) {lv:List Nat} {st:St} {Q:Exit→St→Prop} (h:bc P G n m lv c st (gN (fun s=>eT P G n m c s Q) Q)):eT P G n m c st Q:=by
 intro fr hfr C a w hn hm hr b kk cs hro hb hroom;obtain ⟨e,a',w',⟨st',hq,hr2⟩,harr⟩:=cU ho c st _ hok h fr hfr C a w hn hm hr b (.inLoop c::kk) cs hro hb hroom;cases e with
 | normal=>
  obtain ⟨e2,a2,w2,hq2,harr2⟩:=hq fr hfr C a' w' hn hm hr2 b kk cs hro hb hroom;exact ⟨e2,a2,w2,hq2,.of_steps (StepsIn.trans harr (.one (fenced_calm hb hroom rfl) stepR_inLoop)) harr2⟩
 | exit id=>exact ⟨_,a',w',⟨st',hq,hr2⟩,.pass (x:= .inLoop c) rfl (fun _ _=> .inl (by simp)) harr⟩
 | goto l=>exact ⟨_,a',w',⟨st',hq,hr2⟩,.pass (x:= .inLoop c) rfl (fun _ _=> .inl (by simp)) harr⟩
 | ret=>exact ⟨_,a',w',⟨st',hq,hr2⟩,.pass (x:= .inLoop c) rfl (fun _ _=> .inl (by simp)) harr⟩
 | panic ch=>exact ⟨_,a',w',⟨st',hq,hr2⟩,.pass (x:= .inLoop c) rfl (fun _ _=> .inl (by simp)) harr⟩
 | outgrown=>exact ⟨_,a',w',⟨st',hq,hr2⟩,.pass (x:= .inLoop c) rfl (fun _ _=> .inl (by simp)) harr⟩
theorem rQ {k k':St→Prop} {Q Q':Exit→St→Prop} (hk : ∀s,k s→k' s) (hq : ∀e s,Q e s→Q' e s) : ∀e s,gN k Q e s→gN k' Q' e s:=by
 intro e s h;cases e<;>first|exact hk _ h|exact hq _ _ h
theorem um {id:Nat} {Q Q':Exit→St→Prop} (hq : ∀e s,Q e s→Q' e s) : ∀e s,ek id Q e s→ek id Q' e s:=by
 intro e s h;cases e with
 | exit i=>
  simp only [ek] at h ⊢;split
  ·rename_i hi;rw [if_pos hi] at h;exact hq _ _ h
  ·rename_i hi;rw [if_neg hi] at h;exact hq _ _ h
 | _=>exact hq _ _ h
theorem wu {Q Q':Exit→St→Prop} (hq : ∀e s,Q e s→Q' e s) : ∀e s,iC Q e s→iC Q' e s:=by
 intro e s h;cases e<;>first|exact h.elim|exact hq _ _ h
theorem ep : ∀(c:Code) {lv:List Nat} {st:St} {Q Q':Exit→St→Prop},(∀e s,Q e s→Q' e s)→bL P G n m c lv st Q→bL P G n m c lv st Q':=by
 intro c;induction c with
 | skip=>intro lv st Q Q' hq h;exact hq _ _ h
 | exit id=>intro lv st Q Q' hq h;exact hq _ _ h
 | ret=>intro lv st Q Q' hq h;exact hq _ _ h
 | label l=>intro lv st Q Q' hq h;exact hq _ _ h
 | region id ops draw=>
  intro lv st Q Q' hq h;obtain ⟨x,hx,hall⟩:=Pt.gh G m (fun s=>Pt.reg (P:=P) (G:=G) lv ops draw s) st _ h;exact hall _ (hq _ _ hx)
 | seq a b iha ihb=>intro lv st Q Q' hq h;exact iha (rQ (fun s hs=>ihb hq hs) hq) h
 | cond c a b iha ihb=>
  intro lv st Q Q' hq h;simp only [bL,j2] at h ⊢;unfold nL at h ⊢;split
  ·rename_i t hb;rw [hb] at h;exact ⟨fun e=>iha hq (h.1 e),fun e=>ihb hq (h.2 e)⟩
  ·rename_i hb;split at h
   ·rename_i t hb';exact (hb t hb').elim
   ·exact h.elim
 | block id c ih=>intro lv st Q Q' hq h;exact ih (um hq) h
 | scope c ih=>intro lv st Q Q' hq h;exact ih (wu hq) h
 | loop c ih=>
  intro lv st Q Q' hq h;obtain ⟨α,S,pre,mu,x0,lv',h1,h2,h3⟩:=h;exact ⟨α,S,pre,mu,x0,lv',h1,h2,fun x hx=>ih (rQ (fun _ h=>h) hq) (h3 x hx)⟩
 | _=>intro lv st Q Q' hq h;exact h.elim
theorem CY (ho:P.follows .mixedOrders=true) {ρ:Type} : ∀(c:Code) {lv:List Nat} {st:St} {Q:ρ→Exit→St→Prop},aE n c=true→bL P G n m c lv st (fun e s=> ∃r,Q r e s) → ∃r,bc P G n m lv c st (Q r):=by
 intro c;induction c with
 | skip=>intro lv st Q _ h;exact h
 | exit id=>intro lv st Q _ h;exact h
 | ret=>intro lv st Q _ h;exact h
 | label l=>intro lv st Q _ h;exact h
 | region id ops draw=>
  intro lv st Q _ h;obtain ⟨x,⟨r,hx⟩,hall⟩:=Pt.gh G m (fun s=>Pt.reg (P:=P) (G:=G) lv ops draw s) st (fun st'=> ∃r,Q r .normal st') h;exact ⟨r,hall (fun st'=>Q r .normal st') hx⟩
 | seq a b iha ihb=>
  intro lv st Q hok h;simp only [aE,Bool.and_eq_true] at hok;refine iha (Q:=fun r=>gN (fun st'=>bc P G n m lv b st' (Q r)) (Q r)) hok.1 (ep a ?_ h);intro e s hs;cases e<;>first|exact ihb hok.2 hs|exact hs
 | cond c a b iha ihb=>
  intro lv st Q hok h;simp only [aE,Bool.and_eq_true] at hok;simp only [bL,j2] at h;simp only [bc,j2];unfold nL at h;split at h
  ·rename_i t hb;rw [hb];cases t with
   | true=>obtain ⟨r,hr⟩:=iha hok.1 (h.1 rfl);exact ⟨r,⟨fun _=>hr,fun e=>by cases e⟩⟩
   | false=>obtain ⟨r,hr⟩:=ihb hok.2 (h.2 rfl);exact ⟨r,⟨fun e=>(by cases e),fun _=>hr⟩⟩
  ·exact h.elim
 | block id c ih=>
  intro lv st Q hok h;refine ih (Q:=fun r=>ek id (Q r)) hok (ep c ?_ h);intro e s hs;cases e with
  | exit i=>
   simp only [ek] at hs ⊢;split
   ·rename_i hi;rw [if_pos hi] at hs;exact hs
   ·rename_i hi;rw [if_neg hi] at hs;exact hs
  | _=>exact hs
 | scope c ih=>
  intro lv st Q hok h;refine ih (Q:=fun r=>iC (Q r)) hok (ep c ?_ h);intro e s hs;cases e<;>first|exact hs.elim|exact hs
 | loop c ih=>
  intro lv st Q hok h;have hok:aE n c=true:=hok;obtain ⟨α,S,pre,mu,x0,lv',h1,h2,h3⟩:=h;have key : ∀k x,mu x=k→pre x → ∃r,eT P G n m c (S x) (Q r):=by
   intro k;induction k using Nat.strongRecOn with
   | _ k ihk=>
    intro x hk hx;obtain ⟨r,hr⟩:=ih (Q:=fun r=>gN (fun s=>eT P G n m c s (Q r)) (Q r)) hok (ep c (fun e s hs=>by
     cases e with
     | normal=>
      obtain ⟨s',hle,j,hlt,y,hy,rfl,hpy⟩:=hs;obtain ⟨r,hr⟩:=ihk j (by omega) y hy hpy;exact ⟨r,eT.via ⟨_,hle,hr⟩⟩
     | _=>exact hs) (h3 x hx))
    exact ⟨r,eT.round ho hok hr⟩
  obtain ⟨r,hr⟩:=key _ x0 rfl h2;obtain ⟨s,hle,rfl⟩:=h1;exact ⟨r,eT.loop (eT.via ⟨_,hle,hr⟩)⟩
 | _=>intro lv st Q _ h;exact h.elim
def Cu (P:Program) (G:Gl) (m:Nat) (rs:List ResultVar) {ρ:Type} (R:ρ→Prop) (r:ρ→V) (σ':ρ→ae) (st:St) (_u:Tag R:= .mk) (_v:Tag r:= .mk) (_w:Tag σ':= .mk) (_h:True:=trivial):Prop:= ∃x,R x∧ah P G m rs (r x) (σ' x) st
theorem Cu.is {rs:List ResultVar} {ρ:Type} {R:ρ→Prop} {r:ρ→V} {σ':ρ→ae} {st:St} (x:ρ) (hx:R x) (h:ah P G m rs (r x) (σ' x) st):Cu P G m rs R r σ' st:=⟨x,hx,h⟩
theorem aq.ex (ho:P.follows .mixedOrders=true) {f:Nat} {fn:Func} {c:Code} {rs:List ResultVar} (lv:List Nat) (hf:P.funcs[f]? = some fn) (hb:fn.body=some c) (hrs:fn.results=rs.toArray) (hn:fn.ntmps=n)
 {args:List V} {σ:ae} {ρ:Type} {R:ρ→Prop} {r:ρ→V} {σ':ρ→ae} (h:bL P G n m c lv ⟨fg 0 args,σ,m⟩ (yF (Cu P G m rs R r σ'))) (hok:aE n c=true) (hlen:args.length≤n) : ∃x,R x∧aq P G f args σ m (r x) (σ' x):=by
 obtain ⟨⟨x,hx⟩,hr⟩:=CY ho (ρ :={ x // R x }) (Q:=fun x=>yF (ah P G m rs (r x.1) (σ' x.1))) c hok (ep c (fun e s hs=>by
  cases e<;>first|exact hs.elim|exact (match hs with|⟨x,h1,h2⟩=>⟨⟨x,h1⟩,h2⟩)) h)
 exact ⟨x,hx,aq.of_code ho lv hf hb hrs hn hok hlen hr⟩
def oq:Code→Bool
 | .region _ _ _=>true
 | .seq a _=>oq a
 | .block _ c=>oq c
 | .loop _=>true
 | .scope c=>oq c
 | _=>false
theorem AN {st st':St} (hle:bK G m st st') : ∀(c:Code) {lv:List Nat} {Q:Exit→St→Prop},oq c=true→bL P G n m c lv st' Q→bL P G n m c lv st Q:=by
 intro c;induction c with
 | region id ops draw=>intro lv Q _ h;exact aN.via hle h
 | seq a b iha _=>intro lv Q hc h;exact iha hc h
 | block id c ih=>intro lv Q hc h;exact ih hc h
 | scope c ih=>intro lv Q hc h;exact ih hc h
 | loop c _=>
  intro lv Q _ h;obtain ⟨α,S,pre,mu,x0,lv',h1,h2,h3⟩:=h;exact ⟨α,S,pre,mu,x0,lv',aN.via hle h1,h2,h3⟩
 | _=>intro lv Q hc h;cases hc
def Io (G:Gl) (m:Nat) {β:Type} (T:β→St) (post:β→Prop) (st:St) (_u:Tag T:= .mk) (_v:Tag post:= .mk) (_h:True:=trivial):Prop:=aN G m (fun st'=> ∃y,st'=T y∧post y) st
theorem Io.go {β:Type} {T:β→St} {post:β→Prop} {st:St} (y:β) (ks:List Nat) (he:st.norm m ks=T y) (hp:post y):Io G m T post st:=aN.go ks he ⟨y,rfl,hp⟩
theorem Io.frz {β:Type} {T:β→St} {post:β→Prop} {st:St} (id:Nat) (h:Io G m T post (st.frz id)):Io G m T post st:=aN.frz id h
theorem Io.use {β:Type} {T:β→St} {post:β→Prop} {st:St} {c:Code} {lv:List Nat} {Q:Exit→St→Prop} (hc:oq c=true) (h:Io G m T post st) (hq : ∀y,post y→bL P G n m c lv (T y) Q):bL P G n m c lv st Q:=by
 obtain ⟨st',hle,y,rfl,hy⟩:=h;exact AN hle c hc (hq y hy)
end
def RR :=@And.intro _ _ @vq <| @And.intro _ _ @CO <| @And.intro _ _ @AA <| @And.intro _ _ @AZ <| @And.intro _ _ @AY <| @And.intro _ _ @nO <| @And.intro _ _ @ld <| @And.intro _ _ @BI <| @And.intro _ _ @Dc <| @And.intro _ _ @Db <| @And.intro _ _ @F1 <| @And.intro _ _ @Ax <| @And.intro _ _ @Du <| @And.intro _ _ @Bb <| @And.intro _ _ @AO <| @And.intro _ _ @BJ <| @And.intro _ _ @xx <| @And.intro _ _ @AI <| @And.intro _ _ @nP <| @And.intro _ _ @xz <| @And.intro _ _ @Eg <| @And.intro _ _ @x6 <| @And.intro _ _ @wv <| @And.intro _ _ @BX <| @And.intro _ _ @Eu <| @And.intro _ _ @qm <| @And.intro _ _ @xw <| @And.intro _ _ @ul <| @And.intro _ _ @qu <| @And.intro _ _ @wt <| @And.intro _ _ @yI <| @And.intro _ _ @wo <| @And.intro _ _ @Ec <| @And.intro _ _ @vf <| @And.intro _ _ @vi <| @And.intro _ _ @vg <| @And.intro _ _ @fC.eq_1 <| @And.intro _ _ @F8 <| @And.intro _ _ @A3 <| @And.intro _ _ @Di <| @And.intro _ _ @xK <| @And.intro _ _ @xL <| @And.intro _ _ @uR <| @And.intro _ _ @bc.eq_1 <| @And.intro _ _ @bc.eq_2 <| @And.intro _ _ @bc.eq_3 <| @And.intro _ _ @bc.eq_4 <| @And.intro _ _ @bc.eq_5 <| @And.intro _ _ @bc.eq_6 <| @And.intro _ _ @bc.eq_7 <| @And.intro _ _ @bc.eq_8 <| @And.intro _ _ @bc.eq_9 <| @And.intro _ _ @bc.eq_10 <| @And.intro _ _ @bL.eq_1 <| @And.intro _ _ @bL.eq_2 <| @And.intro _ _ @bL.eq_3 <| @And.intro _ _ @bL.eq_4 <| @And.intro _ _ @bL.eq_5 <| @And.intro _ _ @bL.eq_6 <| @And.intro _ _ @bL.eq_7 <| @And.intro _ _ @bL.eq_8 <| @And.intro _ _ @bL.eq_9 <| @And.intro _ _ @bL.eq_10 <| @And.intro _ _ @yC <| @And.intro _ _ @D6 <| @And.intro _ _ @BG <| @And.intro _ _ @D4 <| @And.intro _ _ @BE <| @And.intro _ _ @Ea <| @And.intro _ _ @BM @w6
def SS :=@And.intro _ _ @pP <| @And.intro _ _ @kQ <| @And.intro _ _ @mJ <| @And.intro _ _ @pS <| @And.intro _ _ @gF <| @And.intro _ _ @mK <| @And.intro _ _ @pN <| @And.intro _ _ @pR <| @And.intro _ _ @rW <| @And.intro _ _ @gG <| @And.intro _ _ @mD <| @And.intro _ _ @jj <| @And.intro _ _ @kC <| @And.intro _ _ @mF <| @And.intro _ _ @fO <| @And.intro _ _ @kE <| @And.intro _ _ @mC <| @And.intro _ _ @mE <| @And.intro _ _ @o7 <| @fP
theorem rR (k t:Nat) (b:bu) (r:ae):ae.get ((k,b)::r) t=if k=t then some b else ae.get r t:=by rw [ae.get]
def W6 :=@And.intro _ _ @M2 <| @And.intro _ _ @Pp <| @And.intro _ _ @Dv @Gp
theorem Q5 (n:Int) (h1 : -2147483648≤n) (h2:n≤2147483647):IntKind.i32.wrap n=n:=by
 rw [IntKind.wrap_i32];omega
theorem Q6 (n:Int) (h1:0≤n) (h2:n≤255):IntKind.u8.wrap n=n:=by
 rw [IntKind.wrap_u8];omega
theorem Lr (a b:Int) (h:0≤a):a.tdiv b=a / b:=Int.tdiv_eq_ediv_of_nonneg h
theorem Mq (a b:Int) (h:0≤a):a.tmod b=a % b:=Int.tmod_eq_emod_of_nonneg h
def W3 :=@And.intro _ _ @W6 <| @And.intro _ _ @Q5 <| @And.intro _ _ @Q6 <| @And.intro _ _ @Lr @Mq
instance i7.cond {a b c:Bool} {p q r p' q' r':Prop} [h:i7 a p p'] [k:i7 b q q'] [l:i7 c r r']:i7 (cond a b c) ((p∧q)∨(p'∧r)) (¬((p∧q)∨(p'∧r))):=i7.mk' (by rw [←h.says,←h.nots,←k.says,←l.says];cases a<;>simp)
theorem vR {p q:Prop} (h:q) (e:p=q:=by simp -implicitDefEqProofs -dsimp only [push_cast,↓RR,↓SS,↓rR,↓reduceIte,Nat.reduceMul,Nat.reduceAdd,Nat.reduceSub,Nat.reduceEqDiff,Nat.reduceBeqDiff,Nat.reduceLeDiff,Nat.reduceLT,reduceCtorEq,Int.reduceToNat];exact rfl):p:=e▸h
theorem v6 {p q:Prop} (h:q) (e:p=q:=by simp -implicitDefEqProofs -dsimp (disch:=omega) only [W6];exact rfl):p:=e▸h
theorem v3 {p q:Prop} (h:q) (e:p=q:=by simp -implicitDefEqProofs -dsimp (disch:=omega) only [W3];exact rfl):p:=e▸h
theorem vD {P:Program} {G:Gl} {m:Nat} {lv:List Nat} {ops:Array Oper} {K:St→Prop} {st:St} (h:oV P G ops st.nx 0 ops.toList st.env st.sg [] fun e σ=>qr K ⟨aC.keep lv e,σ,st.nx+4*ops.size⟩) (hd:bM [] ops=true:=by decide +kernel):aN G m (iu P G lv ops true K) st:=aN.dr hd h
theorem vG {G:Gl} {m:Nat} {K:St→Prop} {st:St} (h:K st):aN G m K st:=aN.now h
theorem vE {K:St→Prop} {st:St} (h:K st):qr K st:=h
theorem vN {p q:Prop} (h2:q) (h1:p:=by first|omega|(simp [fX,Cw,dT,V.cellOk,Value.oneCell',D.cells,lC];done)|(simp [fX,Cw,dT,V.cellOk,Value.oneCell',D.cells,lC];omega)):mr p q:=⟨h1,h2⟩
theorem vB {b:Bool} {p p':Prop} [h:i7 b p p'] {q r:Prop} (h1:p→q) (h2:p'→r):gI b q r:=gI.of h1 h2
theorem vM {b:Bool} {p p':Prop} [h:i7 b p p'] {q r:Prop} (h1:p→q) (h2:p'→r):me b q r:=me.of h1 h2
section
variable {P:Program} {G:Gl}
theorem vC {f:Nat} {args:List V} {σ:ae} {id:Nat} {K:V→ae→Prop} {r:V} (h:aq P G f args [] 0 r []) (hK:K r σ) (he:bN P f=true:=by kernel_rfl) (ha:args.map (V.sel (fw []))=args:=by with_unfolding_all rfl) (hr:r.sel (bk [] id)=r:=by with_unfolding_all rfl):aB P G f args σ id K:=aB.d h he ha hr hK
theorem vQ {lo:List Nat} {ops:Array Oper} {i f:Nat} {args:List V} {σ acc:ae} {id:Nat} {K L:V→ae→Prop} {r:V} (h:aq P G f args [] 0 r []) (hK:K r []) (he:bN P f=true:=by kernel_rfl) (ha:args.map (V.sel (fw []))=args:=by with_unfolding_all rfl) (hr:r.sel (bk [] id)=r:=by with_unfolding_all rfl):dO P G lo ops i f args σ acc id K L:=dO.d h he ha hr hK
class HJ (p:Prop) (P:outParam Program) (G:outParam Gl) (f:outParam Nat) (args:outParam (List V)) (id:outParam Nat) (K:outParam (V→Prop)):Prop where
 of : ∀r,aq P G f args [] 0 r []→bN P f=true→args.map (V.sel (fw []))=args→r.sel (bk [] id)=r→K r→p
instance {f:Nat} {args:List V} {σ:ae} {id:Nat} {K:V→ae→Prop} : HJ (aB P G f args σ id K) P G f args id (fun r=>K r σ):=⟨fun _ h he ha hr hK=>aB.d h he ha hr hK⟩
instance {lo:List Nat} {ops:Array Oper} {i f:Nat} {args:List V} {σ acc:ae} {id:Nat} {K L:V→ae→Prop} : HJ (dO P G lo ops i f args σ acc id K L) P G f args id (fun r=>K r []):=⟨fun _ h he ha hr hK=>dO.d h he ha hr hK⟩
theorem vY (ho:P.follows .mixedOrders=true) (lv:List Nat) {i:Nat} {args:List V} {σ:ae} {id:Nat} {K:V→ae→Prop} {y:Yd} {e:aC} (v:V) (σ':ae)
 (h:bc P G y.n id lv y.asg ⟨g8 y.ps.toList (args.map (V.sel (gL id))) (e.sel (gL id)),(σ.del i).sel (gL id),id⟩ (gN (fun st=>bc P G y.n id lv y.body st (GZ G σ id i y e v σ')) (fun _ _=>False))) (hK:K v σ') (hg:σ.get i=some (.rc y none e):=by rfl) (hi:i<id:=by decide) (hps:y.ps.toList.all (fun p=>decide (p<y.n))=true:=by kernel_rfl) (hl:args.length=y.ps.size:=by rfl)
 (hn1:lF y.asg=true:=by kernel_rfl) (hn2:lF y.body=true:=by kernel_rfl) (ho1:aE y.n y.asg=true:=by kernel_rfl) (ho2:aE y.n y.body=true:=by kernel_rfl):ff P G i args σ id K:=
 ff.of ho lv hg hi hps hl hn1 hn2 ho1 ho2 h hK
theorem QB (ho:P.follows .mixedOrders=true) {n m:Nat} {g:Operand} {ps:Array Nat} {asg body:Code} {st:St} {Q:Exit→St→Prop} {k:Nat} {caps:List V} {fn:Func} {c:Code} (lv:List Nat) (hf:P.funcs[k]? = some fn) (hb:fn.body=some c)
 (h:bc P G fn.ntmps (st.nx+1) lv c ⟨fg 0 (.yl st.nx::caps),(st.nx,.rc ⟨n,ps,asg,body⟩ none st.env)::st.sg,st.nx+1⟩ (Li G st Q)) (hg:di G st.env.get g = .fn k caps:=by rfl) (he:bN P k=true:=by kernel_rfl) (hrs:fn.results = #[]:=by rfl) (hlen:caps.length+1≤fn.ntmps:=by decide) (hok:aE fn.ntmps c=true:=by kernel_rfl):lb P G n m g ps asg body st Q:=
 pb (fun _ _ _ _ hd=>qR (hg▸hd)) he hf hb hrs hlen (cU ho c _ _ hok h)
theorem vF (ho:P.follows .mixedOrders=true) {f:Nat} {fn:Func} {c:Code} {rs:List ResultVar} {n:Nat} (lv:List Nat) (hf:P.funcs[f]? = some fn) (hb:fn.body=some c) (hrs:fn.results=rs.toArray) (hn:fn.ntmps=n)
 {args:List V} {σ:ae} {m:Nat} {r:V} {σ':ae} (h:bc P G n m lv c ⟨fg 0 args,σ,m⟩ (yF (ah P G m rs r σ'))) (hok:aE n c=true:=by kernel_rfl) (hlen:args.length≤n:=by simp):aq P G f args σ m r σ':=aq.of_code ho lv hf hb hrs hn hok hlen h
theorem vL {n m:Nat} {lv:List Nat} (ho:P.follows .mixedOrders=true) {c:Code} {st:St} {Q:Exit→St→Prop} {α:Type} (S:α→St) (pre:α→Prop) (mu:α→Nat) (x0:α) (h0:aN G m (fun st'=>st'=S x0) st) (hp:pre x0)
 (hr : ∀x,pre x→bc P G n m lv c (S x) (gN (fun st=>bH G m S pre mu x st) Q)) (hok:aE n c=true:=by kernel_rfl):jd P G n m c st Q:=DN ho hok S pre mu x0 h0 hp hr
end
theorem vS {α:Sort _} {a b:α} (h:a=b:=by first|rfl|(refine vR ?_;first|done|exact True.intro|rfl|(refine v6 ?_;first|exact True.intro|(refine vR ?_;exact True.intro))|((try refine v6 ?_);simp only [St.mk.injEq,List.cons.injEq,Prod.mk.injEq,V.d.injEq,D.lit.injEq,Value.int.injEq,true_and,and_true];omega))):a=b:=h
theorem vT {α:Sort _} {a b:α} (h:a=b:=by (refine vR ?_;first|done|exact True.intro|rfl|(refine v6 ?_;first|exact True.intro|(refine vR ?_;exact True.intro))|((try refine v6 ?_);simp only [St.mk.injEq,List.cons.injEq,Prod.mk.injEq,V.d.injEq,D.lit.injEq,Value.int.injEq,true_and,and_true];omega))):a=b:=h
end Go.Proofs.YtkkanlcjjpoklaaGreatDoor
