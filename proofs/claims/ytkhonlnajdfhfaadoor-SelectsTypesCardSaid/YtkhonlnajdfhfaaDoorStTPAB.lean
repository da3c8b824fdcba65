/- What the theorem leans on, part 2. -/
import Derived.Laws.Externs
import Derived.RangeFuncLeaves
import Derived.RangeFuncRecord
import Derived.OrdersIn
import Derived.Orders
import Derived.Scope
import Derived.IntWalk
import Derived.ChangeKeysEq
import Derived.Test.YtkhonlnajdfhfaaDoorStTPAA
set_option linter.unusedSimpArgs false
namespace Go.Proofs.YtkhonlnajdfhfaaDoor
def yo (s:ByteArray) (c:UInt8):Nat:=s.data.toList.countP (· == c)
theorem tY (s:ByteArray) (c:UInt8):s.foldl (fun n x=>if (x==c)=true then n+1 else n) (0:Int)=(yo s c:Int):=by
 unfold ByteArray.foldl ByteArray.foldlM;simp only [Nat.le_refl,dite_true];have key : ∀(i j:Nat) (b:Int),i+j=s.size→_root_.Id.run (ByteArray.foldlM.loop (m:=_root_.Id) (fun (n:Int) x=>pure (if (x==c)=true then n+1 else n)) s s.size (Nat.le_refl _) i j b)=b+((s.data.toList.drop j).countP (· == c):Nat):=by
  intro i;induction i with
  | zero=>
   intro j b h;unfold ByteArray.foldlM.loop;have:s.data.toList.drop j=[]:=List.drop_eq_nil_of_le (by have:s.data.size=s.size:=rfl;simp;omega);rw [this];simp
  | succ i ih=>
   intro j b h;unfold ByteArray.foldlM.loop;have hlt:j<s.size:=by omega
   rw [dif_pos hlt];simp only [pure_bind];have e:s.data.toList.drop j=s[j]::s.data.toList.drop (j+1):=by
    rw [List.drop_eq_getElem_cons (by have:s.data.size=s.size:=rfl;simp;omega)];rfl
   have h2:=ih (j+1) (if (s[j]==c)=true then b+1 else b) (by omega);refine h2.trans ?_;rw [e,List.countP_cons];split<;>simp_all<;>omega
 have:=key s.size 0 0 (by omega);simpa [yo] using this
theorem jf {P:Program} (s:ByteArray) (c:Int) (w:World) :
 (Extern.BytealgCount.count #[.string s,.int .u8 c]).run P w = .ok (.int .i64 (yo s c.toNat.toUInt8)) w:=by
 rw [←tY];change Sem.run P (do
  let b ←Extern.Bytes.bytesOf (.string s)
  let c ←Extern.Bytes.asByte (.int .u8 c)
  pure (goInt (b.foldl (fun n x=>if x==c then n+1 else n) (0:Nat)))) w=_
 simp only [Extern.Bytes.bytesOf,Extern.Bytes.asByte,Sem.run_bind,Sem.run_pure,Result.andThen,goInt];rfl
abbrev Gl:=Nat→Option D
def i2 (G:Gl) (F:Nat→V):Operand→V
 | .tmp t=>F t
 | .const v=> .d (.lit v)
 | .global g=>match G g with
  | some x=> .d x
  | none=> .unk
 | .func f=> .d (.fn f [])
def ta (G:Gl) (w:World) (I:Nat→Prop):Prop:= ∀g x,G g=some x→aj w I x (.pointer (some ⟨g,0,none⟩))
def ca (w:World) (I:Nat→Prop) (β:bF) (args:List V) (vals:List Value):Prop:=args.length=vals.length ∧ ∀(i:Nat) c x,args[i]? = some c→vals[i]? = some x→aA w I β c x
def mf (P:Program) (G:Gl) (f:Nat) (args:List V) (σ:aa) (id:Nat) (v:V) (σ':aa):Prop:=
 ∀w I β nx vals,bW w I β σ nx→ta G w I→(∀j,id≤j→j<id+4→β j=none)→id+4≤nx→ca w I β args vals →
  Calls P f vals.toArray w fun e w'=> ∃u I' β',e = .returned u∧aA w' I' β' v u∧al w I β σ nx w' I' β' σ' nx ∧ ∀j,¬(id≤j∧j<id+4)→β' j=β j
def cU (P:Program) (f:Nat):Bool:=match P.funcs[f]? with
 | some fn=>fn.body.isSome && !(fn.name == "runtime.NumGoroutine")
 | none=>false
def aY (σ0 σ:aa):Prop:= ∀i b,σ0.get i=some b→σ.get i=some b
def B4 (fn:Func) (args:List V):Option V:=
 if fn.name = "internal/abi.NoEscape" then (match args with
  | [x]=>some x
  | _=>none)
 else if fn.name = "internal/bytealg.IndexByteString" then (match args with
  | [.d (.lit (.string s)),.d (.lit (.int .u8 c))]=>some (.d (.lit (.int .i64 (firstIdx s c.toNat.toUInt8))))
  | _=>none)
 else if fn.name = "internal/bytealg.CountString" then (match args with
  | [.d (.lit (.string s)),.d (.lit (.int .u8 c))]=>some (.d (.lit (.int .i64 (yo s c.toNat.toUInt8))))
  | _=>none)
 else none
def nL (P:Program) (f:Nat) (args:List V):Option V:=match P.funcs[f]? with
 | some fn=>if fn.body.isNone=true∧(Extern.findNext fn).isNone=true then B4 fn args else none
 | none=>none
def ap (P:Program) (G:Gl) (f:Nat) (args:List V) (σ:aa) (id:Nat) (K:V→aa→Prop) (_u:Tag K:= .mk) (_h:True:=trivial):Prop:=
 ∃v σ',K v σ'∧(cU P f=true∧mf P G f args σ id v σ'∨nL P f args=some v∧σ'=σ)
def jK (id:Nat) (new:aa):Prop:= ∀j b,new.get j=some b→id≤j∧j<id+4
def cM (P:Program) (G:Gl) (f:Nat) (args:List V) (σ:aa) (id:Nat) (K:V→aa→Prop) (_u:Tag K:= .mk) (_h:True:=trivial):Prop:=
 ∃v new,K v new∧(cU P f=true∧(jK id new ∧ ∀σ',aY σ σ'→mf P G f args σ' id v (σ'++new))∨nL P f args=some v∧new=[])
def gR {α:Type} (_:α):Prop:=False
def dZ (op:Op) (r:gp) (K:V→aa→Prop):Prop:=match r with
 | some (p,v,s)=>j7 p (K v s)
 | none=>gR op
def bn (v:V) (K:Nat→List V→Prop) (Y:Nat→Prop:=fun _=>False) (B:Nat→List V→Prop:=fun _ _=>False):Prop:=match v with
 | .d (.fn k caps)=>K k (caps.map .d)
 | .fn k caps=>K k caps
 | .yl i=>Y i
 | .d (.bf k fs)=>B k (fs.map .d)
 | _=>gR v
def oB (P:Program) (G:Gl) (i:Nat) (args:List V) (σ:aa) (id:Nat) (v:V) (σ':aa):Prop:=
 ∀w I β nx vals b cap,bW w I β σ nx→ta G w I→(∀j,id≤j→j<id+4→β j=none)→id+4≤nx→ca w I β args vals→β i=some (some (b,cap)) →
  ∃r,w.heap[b]? = some (.loop r)∧vals.length=r.params.size ∧
   RoundIn Fence.wide 0 P b r.fn ((r.params.zip vals.toArray).foldl (fun tmps (t,a)=>tmps.setIfInBounds t a) r.tmps) r.assign r.body w fun e w'=> ∃u I' β',e = .returned u∧aA w' I' β' v u∧al w I β σ nx w' I' β' σ' nx ∧ ∀j,¬(id≤j∧j<id+4)→β' j=β j
def fm (P:Program) (G:Gl) (i:Nat) (args:List V) (σ:aa) (id:Nat) (K:V→aa→Prop) (_u:Tag K:= .mk) (_h:True:=trivial):Prop:=
 ∃v σ',K v σ'∧oB P G i args σ id v σ'
def fH (c a b:V) (K:V→Prop):Prop:=match c with
 | .d (.lit (.bool t))=>fj t (K a) (K b)
 | _=>gR c
def mQ (b:bP) (K:ByteArray→Nat→Prop):Prop:=match b with
 | .iter s pos=>K s pos
 | _=>False
def iw (x:V) (σ:aa) (K:V→aa→Prop):Prop:=match x with
 | .it id=>ce (σ.get id) fun b=>mQ b fun s pos=>
  fj (decide (pos<s.size)) (K (.tup [.d (.lit (.bool true)),.d (.lit (.int .i64 pos)),.d (.lit (.int .i32 (Utf8.decode s pos).1))]) (σ.set id (.iter s (pos+(Utf8.decode s pos).2)))) (K (.tup [.d (.lit (.bool false))]) σ)
 | _=>gR x
def bC (P:Program) (op:Op) (g:Operand→V) (σ:aa) (id:Nat):gp:=match ci P op g with
 | some (p,v)=>some (p,v,[])
 | none=>aR P op g σ id
def eA (P:Program) (op:Op) (g:Operand→V) (σ:aa) (id:Nat):gp:=match bC P op g σ id with
 | some (p,v,new)=>some (p,v,σ++new)
 | none=>eR P op g σ id
def aI (P:Program) (G:Gl) (op:Op) (g:Operand→V) (σ:aa) (id:Nat) (K:V→aa→Prop):Prop:=
 match op with
 | .pick c a b=>fH (g c) (g a) (g b) (fun v=>K v [])
 | .load t x=>cZ P t (g x) σ (fun v=>K v [])
 | .call c=>match c.callee with
  | .value f=>bn (g f) (fun k caps=>cM P G k (c.args.toList.map g++caps) σ id K) (fun _=>False) (fun k fs=>cM P G k (fs++(c.args.toList.map g++[])) σ id K)
  | .builtin _=>dZ op (bC P op g σ id) K
  | .invoke _ _=>gR op
 | op=>dZ op (bC P op g σ id) K
def zR (r r2:gp) (σ:aa) (K:V→aa→Prop):Prop:=match r with
 | some (p,v,new)=>j7 p (K v (σ++new))
 | none=>(match r2 with
  | some (p,v,s)=>j7 p (K v s)
  | none=>False)
def aJ (P:Program) (G:Gl) (op:Op) (g:Operand→V) (σ:aa) (id:Nat) (K:V→aa→Prop):Prop:=
 match op with
 | .pick c a b=>fH (g c) (g a) (g b) (fun v=>K v σ)
 | .load t x=>cZ P t (g x) σ (fun v=>K v σ)
 | .next x isStr=>if isStr=true then iw (g x) σ K else gR op
 | .call c=>match c.callee with
  | .value f=>bn (g f) (fun k caps=>ap P G k (c.args.toList.map g++caps) σ id K) (fun i=>fm P G i (c.args.toList.map g) σ id K) (fun k fs=>ap P G k (fs++(c.args.toList.map g++[])) σ id K)
  | .builtin _=>dZ op (eA P op g σ id) K
  | .invoke _ _=>gR op
 | .buildSlice t n parts=>zR (aR P (.buildSlice t n parts) g σ id) (DM P t n id (parts.toList.map fun p=>(p.1,g p.2)) σ) σ K
 | op=>dZ op (eA P op g σ id) K
def bD (P:Program) (o:Oper) (a:Act) (w:World) (R:Value→World→Prop):Prop:=
 match (execOp a.eval o).run P w with
 | .ok (.value u) w'=>R u w'
 | .ok .skip w'=>R undef w'
 | .ok (.enter f args) w'=>Calls P f args w' fun e w''=> ∃u,e = .returned u∧R u w''
 | .ok (.round l f tmps assign body) w'=>RoundIn Fence.wide 0 P l f tmps assign body w' fun e w''=> ∃u,e = .returned u∧R u w''
 | _=>False
def Fr (ρ:Option Nat):Fence :={ Fence.wide with round:=ρ }
theorem bD.op {P:Program} {o:Oper} {a:Act} {w:World} {R:Value→World→Prop} (h:bD P o a w R) : ∀c,o.op ≠ .defer c:=by
 intro c hc;unfold bD at h;simp only [execOp,hc,Sem.run_bind] at h;cases hr:(resolve a.eval c o.type).run P w with
 | halt x w'=>rw [hr] at h;exact h
 | ok d w'=>rw [hr] at h;exact h
theorem uK {n n':Nat} {P:Program} {l:Nat} {f:FuncId} {tmps:Array Value} {assign body:Code} {w:World} {R:Ending→World→Prop} {ρ:Option Nat} (h:RoundIn Fence.wide n P l f tmps assign body w R):RoundIn (Fr ρ) n' P l f tmps assign body w R:=
 ⟨trivial,fun c cs _=>h.2 c cs (room_wide _)⟩
theorem tF {n:Nat} {P:Program} {f:FuncId} {args:Array Value} {w:World} {R:Ending→World→Prop} {ρ:Option Nat} (h:Calls P f args w R):CallsIn (Fr ρ) n P f args w R:=
 ⟨trivial,fun cs _=>(callsIn_wide (n:=n).2 h).2 cs (room_wide _)⟩
theorem bD.wpIn {P:Program} {o:Oper} {a:Act} {w:World} {R:Value→World→Prop} {K:Act→World→Prop} {Q:Exit→Act→World→Prop} {ρ:Option Nat} (h:bD P o a w R) (hK : ∀u w',R u w'→K (a.put o.dst u) w'):o.wpIn (Fr ρ) 0 P a w K Q:=by
 refine ⟨fun _ _=>trivial,?_⟩;rw [Oper.semAt_eq _ _ _ h.op];unfold bD at h;generalize (execOp a.eval o).run P w=r at *
 cases r with
 | halt x w'=>exact h.elim
 | ok n w'=>
  cases n<;>simp only at h<;>first
   | exact hK _ _ h
   | exact h.elim
   | exact ⟨(fun e=>by cases e),(tF h).mono (by rintro e w'' ⟨u,rfl,hR⟩;exact hK u w'' hR)⟩
   | exact ⟨(fun e=>by cases e),(uK h).mono (by rintro e w'' ⟨u,rfl,hR⟩;exact hK u w'' hR)⟩
theorem bD.mono {P:Program} {o:Oper} {a:Act} {w:World} {R R':Value→World→Prop} (h:bD P o a w R) (hR : ∀u w',R u w'→R' u w'):bD P o a w R':=by
 unfold bD at h ⊢;generalize (execOp a.eval o).run P w=r at *
 cases r with
 | halt x w'=>exact h.elim
 | ok n w'=>
  cases n<;>simp only at h ⊢ <;> first
   | exact hR _ _ h
   | exact h.elim
   | exact Calls.mono h (by rintro e w'' ⟨u,rfl,h⟩;exact ⟨u,rfl,hR u w'' h⟩)
   | exact RoundIn.mono h (by rintro e w'' ⟨u,rfl,h⟩;exact ⟨u,rfl,hR u w'' h⟩)
theorem bD.of_value {P:Program} {o:Oper} {a:Act} {w w':World} {R:Value→World→Prop} {u:Value} (h:(execOp a.eval o).run P w = .ok (.value u) w') (hR:R u w'):bD P o a w R:=by
 unfold bD;rw [h];exact hR
theorem bD.of_skip {P:Program} {o:Oper} {a:Act} {w w':World} {R:Value→World→Prop} (h:(execOp a.eval o).run P w = .ok .skip w') (hR:R undef w'):bD P o a w R:=by
 unfold bD;rw [h];exact hR
def a8 (P:Program) (G:Gl) (o:Oper) (g:Operand→V) (σ:aa) (id:Nat) (v:V) (σ':aa):Prop:=
 ∀w I β nx a,bW w I β σ nx→ta G w I→(∀j,id≤j→j<id+4→β j=none)→id+4≤nx→(∀x∈o.op.operands.toList,aA w I β (g x) (a.eval x)) →
  bD P o a w fun u w'=> ∃I' β',aA w' I' β' v u∧al w I β σ nx w' I' β' σ' nx ∧ ∀j,¬(id≤j∧j<id+4)→β' j=β j
def dp (P:Program) (G:Gl) (o:Oper) (g:Operand→V) (σ0:aa) (id:Nat) (v:V) (new:aa):Prop:= ∀σ,aY σ0 σ→a8 P G o g σ id v (σ++new)
section
variable {P:Program} {G:Gl} {o:Oper} {g:Operand→V} {σ:aa} {id:Nat} {K:V→aa→Prop}
open Classical in
noncomputable def only (o:Oper) (g:Operand→V):Operand→V:=fun x=>if x∈o.op.operands.toList then g x else .unk
theorem nY (x:Operand) (h:x∈o.op.operands.toList):g x=only o g x:=by unfold only;rw [if_pos h]
theorem lH {w:World} {I:Nat→Prop} {β:bF} {a:Act} (h : ∀x∈o.op.operands.toList,aA w I β (g x) (a.eval x)) : ∀x,aA w I β (only o g x) (a.eval x):=by
 intro x;unfold only;split
 ·rename_i hx;exact h x hx
 ·trivial
theorem i3 {β β':bF} {id:Nat} (h : ∀j,j≠id→β' j=β j) : ∀j,¬(id≤j∧j<id+4)→β' j=β j:=fun j hj=>h j (by omega)
theorem pH {p:Prop} {v:V} (h:ci P o.op g=some (p,v)) (hp:p) (σ:aa) (id:Nat):a8 P G o g σ id v σ:=by
 intro w I β nx a hm _ _ _ hg;rw [pE (g':=only o g) (fun x hx=>nY x hx)] at h;obtain ⟨u,h1,h2⟩:=pF (w:=w) h hp (lH hg);exact bD.of_value h1 ⟨I,β,h2,al.refl hm,fun _ _=>rfl⟩
theorem bJ (σ τ:aa) (j:Nat):aa.get (σ++τ) j=match σ.get j with|some b=>some b|none=>τ.get j:=by
 induction σ with
 | nil=>rfl
 | cons x r ih=>
  obtain ⟨i,b⟩:=x;show (if i=j then some b else aa.get (r++τ) j)=_;simp only [aa.get];split
  ·rfl
  ·exact ih
theorem al.congr {w w':World} {I I':Nat→Prop} {β β':bF} {σ σ' σ'':aa} {nx nx':Nat} (h:al w I β σ nx w' I' β' σ' nx') (he : ∀j,σ''.get j=σ'.get j):al w I β σ nx w' I' β' σ'' nx':=
 { h with
  mem:=⟨fun id b hb=>h.mem.own id b (by rw [←he];exact hb),fun i j b b' k c c' h1 h2=>h.mem.inj i j b b' k c c' (by rw [←he];exact h1) (by rw [←he];exact h2),h.mem.free,h.mem.lt⟩
  own':=fun b ⟨id,blk,c,h1,h2⟩=>h.own' b ⟨id,blk,c,by rw [←he];exact h1,h2⟩ }
theorem vp {op:Op} {g:Operand→V} {σ:aa} {id:Nat} {p:Prop} {v:V} {new:aa} (h:aR P op g σ id=some (p,v,new)) : ∃blk,new=[(id,blk)]:=by
 unfold aR at h;split at h
 ·split at h
  ·split at h
   ·injection h with h;injection h with _ h;injection h with _ h;exact ⟨_,h.symm⟩
   ·cases h
  ·cases h
 ·split at h
  ·injection h with h;injection h with _ h;injection h with _ h;exact ⟨_,h.symm⟩
  ·cases h
 ·split at h
  ·split at h
   ·injection h with h;injection h with _ h;injection h with _ h;exact ⟨_,h.symm⟩
   ·cases h
  ·cases h
 ·split at h
  ·injection h with h;injection h with _ h;injection h with _ h;exact ⟨_,h.symm⟩
  ·cases h
 ·split at h
  ·injection h with h;injection h with _ h;injection h with _ h;exact ⟨_,h.symm⟩
  ·cases h
 ·split at h
  ·unfold nz at h;split at h
   ·split at h
    ·split at h
     ·split at h
      ·injection h with h;injection h with _ h;injection h with _ h;exact ⟨_,h.symm⟩
      ·split at h
       ·injection h with h;injection h with _ h;injection h with _ h;exact ⟨_,h.symm⟩
       ·cases h
      ·cases h
     ·cases h
    ·cases h
   ·cases h
  ·cases h
 ·injection h with h;injection h with _ h;injection h with _ h;exact ⟨_,h.symm⟩
 ·cases h
theorem iW {p:Prop} {v:V} {new σ0:aa} (h:aR P o.op g σ0 id=some (p,v,new)) (hp:p):dp P G o g σ0 id v new:=by
 intro σ hs w I β nx a hm _ hf hnx hg;rw [vo (g':=only o g) (fun x hx=>nY x hx)] at h;obtain ⟨u,w',β',h1,h2,h3,h4⟩:=vq h hp hm hs (hf id (Nat.le_refl _) (by omega)) (by omega) (lH hg);obtain ⟨blk,rfl⟩:=vp h;have h0:=hm.get_none (hf id (Nat.le_refl _) (by omega));refine bD.of_value h1 ⟨I,β',h2,h3.congr (fun j =>?_),i3 h4⟩;rw [bJ];show _=if id=j then some blk else σ.get j
 by_cases hj:id=j
 ·subst hj;rw [h0];simp [aa.get]
 ·simp only [hj,if_false];cases σ.get j<;>simp [aa.get,hj]
theorem yB {p:Prop} {v:V} {σ':aa} (h:eR P o.op g σ id=some (p,v,σ')) (hp:p):a8 P G o g σ id v σ':=by
 intro w I β nx a hm _ hf hnx hg;rw [v7 (g':=only o g) (fun x hx=>nY x hx)] at h;obtain ⟨u,w',β',h1,h2,h3,h4⟩:=v8 h hp hm (hf id (Nat.le_refl _) (by omega)) (by omega) (lH hg);rcases h1 with h1|⟨h1,rfl⟩
 ·exact bD.of_value h1 ⟨I,β',h2,h3,i3 h4⟩
 ·exact bD.of_skip h1 ⟨I,β',h2,h3,i3 h4⟩
theorem gJ {p:Prop} {v:V} {new σ0:aa} (h:bC P o.op g σ0 id=some (p,v,new)) (hp:p):dp P G o g σ0 id v new:=by
 unfold bC at h;split at h
 ·rename_i p' v' h1;injection h with h;injection h with e1 h;injection h with e2 e3;subst e1;subst e2;subst e3;intro σ _;rw [List.append_nil];exact pH h1 hp σ id
 ·exact iW h hp
theorem nm {p:Prop} {v:V} {σ':aa} (h:eA P o.op g σ id=some (p,v,σ')) (hp:p):a8 P G o g σ id v σ':=by
 unfold eA at h;split at h
 ·rename_i p' v' new h1;injection h with h;injection h with e1 h;injection h with e2 e3;subst e1;subst e2;subst e3;exact gJ h1 hp σ (fun _ _ h=>h)
 ·exact yB h hp
theorem dF {op:Op} {r:gp} (h:dZ op r K) : ∃p v s,r=some (p,v,s)∧p∧K v s:=by
 unfold dZ at h;split at h
 ·exact ⟨_,_,_,rfl,h.1,h.2⟩
 ·exact h.elim
theorem lO {c x y:Operand} (ho:o.op = .pick c x y) {K:V→Prop} (h:fH (g c) (g x) (g y) K) : ∃v,K v ∧ ∀(σ:aa) (id:Nat),a8 P G o g σ id v σ:=by
 unfold fH at h;split at h
 ·rename_i t hc;have key : ∀(b:Bool),b=t → ∀(σ:aa) (id:Nat),a8 P G o g σ id (if b=true then g x else g y) σ:=by
   rintro b rfl σ id w I β nx a hm _ _ _ hg;have h1:=hg c (by simp [ho,Op.operands]);rw [hc] at h1;have h2:=an h1;refine bD.of_value (u:=if b=true then a.eval x else a.eval y) (by simp [execOp,ho,h2,asBool]) ⟨I,β,?_,al.refl hm,fun _ _=>rfl⟩;cases b with
   | true=>exact hg x (by simp [ho,Op.operands])
   | false=>exact hg y (by simp [ho,Op.operands])
  cases t with
  | true=>exact ⟨g x,h.1 rfl,key true rfl⟩
  | false=>exact ⟨g y,h.2 rfl,key false rfl⟩
 ·exact h.elim
theorem pk {t:Nat} {x:Operand} (ho:o.op = .load t x) {K:V→Prop} {σ0:aa} (h:cZ P t (g x) σ0 K) (id:Nat) : ∃v,K v∧dp P G o g σ0 id v []:=by
 obtain ⟨v,h1,h2⟩:=jT h;refine ⟨v,h1,fun σ hs =>?_⟩;rw [List.append_nil];intro w I β nx a hm _ _ _ hg;obtain ⟨u,h3,h4⟩:=h2 w I β σ nx (a.eval x) hm hs (hg x (by simp [ho,Op.operands]));exact bD.of_value (by simp [execOp,ho,h3]) ⟨I,β,h4,al.refl hm,fun _ _=>rfl⟩
theorem al.iter {w:World} {I:Nat→Prop} {β:bF} {nx:Nat} (hm:bW w I β σ nx) {i b cap pos:Nat} {s:ByteArray} (hg:σ.get i=some (.iter s pos)) (hb:β i=some (some (b,cap))) (q:Nat) :
 al w I β σ nx { w with heap:=w.heap.setIfInBounds b (.stringIter s q) } I β (σ.set i (.iter s q)) nx:=by
 have hs:(σ.get i).isSome=true:=by rw [hg];rfl
 have hbl:=((hm.own i _ hg).not_imm hb)
 have hnb : ∀k,k≠b→({ w with heap:=w.heap.setIfInBounds b (.stringIter s q) } : World).heap[k]? = w.heap[k]? :=fun k hk=>by simp [Array.getElem?_setIfInBounds_ne (Ne.symm hk)]
 refine ⟨⟨fun j bl hj =>?_,fun j j' bl bl' k c c' h1 h2 h3 h4 =>?_,hm.free,fun k hk=>by simpa using hm.lt k hk⟩,rfl,rfl,rfl,by simp,fun k _ ho=>hnb k (fun e=>ho ⟨i,_,cap,hg,by rw [e];exact hb⟩),fun _ h=>h,fun _ h=> .inl h,fun _ _ h=>h,Nat.le_refl _,fun k ⟨j,bl,c,h1,h2⟩ =>?_⟩
 ·rw [aa.get_set hs] at hj;split at hj
  ·rename_i e;subst e;injection hj with hj;subst hj;exact ⟨b,cap,hb,by simp [hbl.2],hbl.1⟩
  ·rename_i hne;refine (hm.own j bl hj).keep (fun k hk=>hnb k ?_) (fun _ h=>h) (fun k c hk=>((hm.own j bl hj).not_imm hk).1) (fun _ _ h=>h);rintro rfl;rcases hk with hk|⟨c,hk⟩
   ·exact hbl.1 hk
   ·exact hne (hm.inj j i bl _ k c cap hj hg hk hb)
 ·rw [aa.get_set hs] at h1 h2;have g1 : ∃x,σ.get j=some x:=by
   split at h1
   ·rename_i e;subst e;exact ⟨_,hg⟩
   ·exact ⟨_,h1⟩
  have g2 : ∃x,σ.get j'=some x:=by
   split at h2
   ·rename_i e;subst e;exact ⟨_,hg⟩
   ·exact ⟨_,h2⟩
  obtain ⟨x,g1⟩:=g1;obtain ⟨y,g2⟩:=g2;exact hm.inj j j' x y k c c' g1 g2 h3 h4
 ·rw [aa.get_set hs] at h1;split at h1
  ·rename_i e;subst e;exact .inl ⟨j,_,c,hg,h2⟩
  ·exact .inl ⟨j,bl,c,h1,h2⟩
theorem wV {x:Operand} (ho:o.op = .next x true) (h:iw (g x) σ K) (id:Nat) : ∃v σ',K v σ'∧a8 P G o g σ id v σ':=by
 unfold iw at h;split at h
 ·rename_i i hx;obtain ⟨b,hb,h⟩:=b6 h;unfold mQ at h;split at h
  ·rename_i s pos;have base : ∀w I β nx (a:Act),bW w I β σ nx→(∀y∈o.op.operands.toList,aA w I β (g y) (a.eval y)) → ∃r cap,a.eval x = .pointer (some ⟨r,0,none⟩)∧β i=some (some (r,cap))∧w.heap[r]? = some (.stringIter s pos):=by
    intro w I β nx a hm hg;have h1:=hg x (by simp [ho,Op.operands]);rw [hx] at h1;obtain ⟨r,cap,h2,h3⟩:=h1;obtain ⟨r',cap',q1,q2,q3⟩:=hm.own i _ hb;rw [h2] at q1;injection q1 with q1;injection q1 with q1;injection q1 with q1 _;subst q1;exact ⟨r,cap,h3,h2,q2⟩
   by_cases hlt:pos<s.size
   ·refine ⟨_,_,h.1 (by simpa using hlt),fun w I β nx a hm _ _ _ hg =>?_⟩;obtain ⟨r,cap,e1,e2,e3⟩:=base w I β nx a hm hg;refine bD.of_value (u:= .tuple #[.bool true,.int .i64 pos,.int .i32 (Utf8.decode s pos).1]) (w' :={ w with heap:=w.heap.setIfInBounds r (.stringIter s (pos+(Utf8.decode s pos).2)) }) ?_ ⟨I,β,?_,al.iter hm hb e2 _,fun _ _=>rfl⟩
    ·simp [execOp,ho,Instr.next,e1,getObj,setObj,Sem.run,e3,hlt,goInt]
    ·refine ⟨[.bool true,.int .i64 pos,.int .i32 (Utf8.decode s pos).1],rfl,rfl,fun j c v hc hv =>?_⟩;match j,hc,hv with
     | 0,hc,hv=>simp at hc hv;subst hc;subst hv;exact aj.lit _
     | 1,hc,hv=>simp at hc hv;subst hc;subst hv;exact aj.lit _
     | 2,hc,hv=>simp at hc hv;subst hc;subst hv;exact aj.lit _
   ·refine ⟨_,_,h.2 (by simpa using hlt),fun w I β nx a hm _ _ _ hg =>?_⟩;obtain ⟨r,cap,e1,e2,e3⟩:=base w I β nx a hm hg;refine bD.of_value (u:= .tuple #[.bool false]) (w':=w) ?_ ⟨I,β,?_,al.refl hm,fun _ _=>rfl⟩
    ·simp [execOp,ho,Instr.next,e1,getObj,Sem.run,e3,hlt]
    ·refine ⟨[.bool false],rfl,rfl,fun j c v hc hv =>?_⟩;match j,hc,hv with
     | 0,hc,hv=>simp at hc hv;subst hc;subst hv;exact aj.lit _
  ·exact h.elim
 ·exact h.elim
theorem n9 {f:Nat} (h:cU P f=true) (args:Array Value) (w:World):(callFunc f args).run P w = .ok (.enter f args) w:=by
 unfold cU at h;split at h
 ·rename_i fn hf;simp only [Bool.and_eq_true,Bool.not_eq_true',beq_eq_false_iff_ne] at h;obtain ⟨c,hb⟩:=Option.isSome_iff_exists.1 h.1;simp [callFunc,hf,hb,h.2]
 ·cases h
theorem yK {P:Program} {f:Nat} {args:List V} (h:cU P f=true):nL P f args=none:=by
 unfold cU at h;unfold nL;split at h
 ·rename_i fn hf;rw [if_neg];intro hc;have h1:=hc.1;cases hb:fn.body<;>simp [hb] at h h1
 ·cases h
theorem wm {fn:Func} {n:String} {e:Array Value→Sem Value} (hn:fn.name=n) (h1:Extern.allGenericRows.lookup n=none) (h2:Extern.allTypedRows.lookup n=none) (h3:Extern.allRows.lookup n=some e):Extern.find fn=some e:=by
 simp [Extern.find,hn,h1,h2,h3]
theorem zi {f:Nat} {args:List V} {v:V} {w:World} {I:Nat→Prop} {β:bF} {vals:List Value} (h:nL P f args=some v) (hd:ca w I β args vals) : ∃u,(callFunc f vals.toArray).run P w = .ok (.value u) w∧aA w I β v u:=by
 unfold nL at h;split at h;rotate_left
 ·cases h
 rename_i fn hf;split at h;rotate_left
 ·cases h
 rename_i hb0;obtain ⟨hb,hx⟩:=hb0;have hx:Extern.findNext fn=none:=by simpa using hx
 have one : ∀ {x:V} {l:List Value},ca w I β [x] l → ∃y,l=[y]∧aA w I β x y:=by
  rintro x l ⟨hl,hx⟩;match l,hl with
  | [y],_=>exact ⟨y,rfl,hx 0 _ _ rfl rfl⟩
 have two : ∀ {x x':V} {l:List Value},ca w I β [x,x'] l → ∃y y',l=[y,y']∧aA w I β x y∧aA w I β x' y':=by
  rintro x x' l ⟨hl,hx⟩;match l,hl with
  | [y,y'],_=>exact ⟨y,y',rfl,hx 0 _ _ rfl rfl,hx 1 _ _ rfl rfl⟩
 have go : ∀ {n:String} {e:Array Value→Sem Value} {u:Value},fn.name=n→(n == "runtime.NumGoroutine")=false→Extern.allGenericRows.lookup n=none→Extern.allTypedRows.lookup n=none→Extern.allRows.lookup n=some e →
  (e vals.toArray).run P w = .ok u w→(callFunc f vals.toArray).run P w = .ok (.value u) w:=by
  intro n e u hn hne h1 h2 h3 he;rw [run_callFunc_extern hf (by rw [hn];exact hne) hb hx (wm hn h1 h2 h3),he];rfl
 unfold B4 at h;split at h
 ·rename_i hn;split at h
  ·rename_i x;injection h with h;subst h;obtain ⟨y,rfl,hy⟩:=one hd;exact ⟨y,go hn (by kernel_rfl) (by kernel_rfl) (by kernel_rfl) (e:=Extern.AbiNoEscape.same) (by kernel_rfl) rfl,hy⟩
  ·cases h
 ·split at h
  ·rename_i hn;split at h
   ·rename_i s c;injection h with h;subst h;obtain ⟨y,y',rfl,hy,hy'⟩:=two hd;have:=an hy;subst this;have:=an hy';subst this;exact ⟨_,go hn (by kernel_rfl) (by kernel_rfl) (by kernel_rfl) (e:=Extern.BytealgIndexByte.indexByte) (by kernel_rfl) (run_indexByte_string s c w),aj.lit _⟩
   ·cases h
  ·split at h
   ·rename_i hn;split at h
    ·rename_i s c;injection h with h;subst h;obtain ⟨y,y',rfl,hy,hy'⟩:=two hd;have:=an hy;subst this;have:=an hy';subst this;exact ⟨_,go hn (by kernel_rfl) (by kernel_rfl) (by kernel_rfl) (e:=Extern.BytealgCount.count) (by kernel_rfl) (jf s c w),aj.lit _⟩
    ·cases h
   ·cases h
theorem eF {w:World} {I:Nat→Prop} {β:bF} {v:V} {x:Value} {K:Nat→List V→Prop} (h:bn v K) : ∃k caps,K k caps∧(aA w I β v x → ∃cv:List Value,x = .func (.func k) #[] cv.toArray∧ca w I β caps cv):=by
 unfold bn at h;split at h
 ·rename_i k caps;refine ⟨k,_,h,fun hd =>?_⟩;obtain ⟨vs,rfl,hl,hds⟩:=g9 hd;refine ⟨vs,rfl,by simpa using hl,fun i c y hc hy =>?_⟩;simp only [List.getElem?_map,Option.map_eq_some_iff] at hc;obtain ⟨z,hz,rfl⟩:=hc;exact hds i z y hz hy
 ·rename_i k caps;refine ⟨k,_,h,fun hd =>?_⟩;obtain ⟨vs,rfl,hl,hds⟩:=(show ∃vs:List Value,x = .func (.func k) #[] vs.toArray∧bh w I β caps vs from hd)
  refine ⟨vs,rfl,hl,fun i c y hc hy =>?_⟩;have:=hds i c y hc hy;cases c<;>first|exact this|exact this.elim
 ·exact h.elim
 ·exact h.elim
 ·exact h.elim
theorem mG {w:World} {I:Nat→Prop} {β:bF} {k:Nat} {fs:List D} {x:Value} (h:aA w I β (.d (.bf k fs)) x) : ∃pv cv:List Value,x = .func (.func k) pv.toArray cv.toArray∧ca w I β (fs.map .d) pv∧ca w I β [] cv:=by
 obtain ⟨vs,rfl,hl,hds⟩:=qG h;refine ⟨vs,[],rfl,⟨by simpa using hl,fun i c y hc hy =>?_⟩,rfl,fun i c y hc hy=>by simp at hc⟩;simp only [List.getElem?_map,Option.map_eq_some_iff] at hc;obtain ⟨z,hz,rfl⟩:=hc;exact hds i z y hz hy
theorem ca.append {w:World} {I:Nat→Prop} {β:bF} {a b:List V} {x y:List Value} (h:ca w I β a x) (k:ca w I β b y):ca w I β (a++b) (x++y):=by
 refine ⟨by simp [h.1,k.1],fun i c v hc hv =>?_⟩;rw [List.getElem?_append] at hc hv;rw [←h.1] at hv;split at hc
 ·rename_i hlt;rw [if_pos hlt] at hv;exact h.2 i c v hc hv
 ·rename_i hlt;rw [if_neg hlt] at hv;exact k.2 _ c v hc hv
theorem i1 {w:World} {I:Nat→Prop} {β:bF} {a:Act} {l:List Operand} (h : ∀x∈l,aA w I β (g x) (a.eval x)):ca w I β (l.map g) (l.map a.eval):=by
 refine ⟨by simp,fun i c v hc hv =>?_⟩;simp only [List.getElem?_map,Option.map_eq_some_iff] at hc hv;obtain ⟨x,hx,rfl⟩:=hc;obtain ⟨y,hy,rfl⟩:=hv;rw [hx] at hy;injection hy with hy;subst hy;exact h x (List.mem_of_getElem? hx)
theorem iZ {c:Call} {f:Operand} {k:Nat} {pre caps:List V} {v:V} {σ':aa} (ho:o.op = .call c) (hc:c.callee = .value f) (he:cU P k=true) (hd:mf P G k (pre++(c.args.toList.map g++caps)) σ id v σ')
 (hcal : ∀w I β x,aA w I β (g f) x → ∃pv cv:List Value,x = .func (.func k) pv.toArray cv.toArray∧ca w I β pre pv∧ca w I β caps cv):a8 P G o g σ id v σ':=by
 intro w I β nx a hm hG hf hnx hg;have hops : ∀x,x=f∨x∈c.args.toList→x∈o.op.operands.toList:=by
  intro x hx;simp [ho,Op.operands,Call.operands,hc];rcases hx with h|h
  ·exact .inl h
  ·exact .inr (by simpa using h)
 obtain ⟨pv,cv,e1,e0,e2⟩:=hcal w I β (a.eval f) (hg f (hops f (.inl rfl)));have hargs:=e0.append<|(i1 (g:=g) (a:=a) (l:=c.args.toList) (fun x hx=>hg x (hops x (.inr hx)))).append e2
 have hcall:=hd w I β nx _ hm hG hf hnx hargs;have hrun:(execOp a.eval o).run P w = .ok (.enter k (pv++(c.args.toList.map a.eval++cv)).toArray) w:=by
  simp only [execOp,ho,resolve,hc,e1,Deferred.ofValue,Sem.run_bind,Sem.run_pure,Result.andThen_ok,invoke];rw [show (pv.toArray++Array.map a.eval c.args++cv.toArray)=(pv++(c.args.toList.map a.eval++cv)).toArray from by apply Array.toList_inj.1;simp];exact n9 he _ w
 unfold bD;rw [hrun];exact hcall.mono fun e w' ⟨u,I',β',h1,h2,h3,h4⟩=>⟨u,h1,I',β',h2,h3,h4⟩
theorem gW {c:Call} {f:Operand} {k:Nat} {caps:List V} {v:V} {σ':aa} (ho:o.op = .call c) (hc:c.callee = .value f) (he:cU P k=true) (hd:mf P G k (c.args.toList.map g++caps) σ id v σ')
 (hcal : ∀w I β x,aA w I β (g f) x → ∃cv:List Value,x = .func (.func k) #[] cv.toArray∧ca w I β caps cv):a8 P G o g σ id v σ':=
 iZ (pre:=[]) ho hc he hd fun w I β x h=>match hcal w I β x h with|⟨cv,e,d⟩=>⟨[],cv,e,⟨rfl,fun i c y hc hy=>by simp at hc⟩,d⟩
theorem uZ {c:Call} {f:Operand} {i:Nat} {v:V} {σ':aa} (ho:o.op = .call c) (hc:c.callee = .value f) (hf:g f = .yl i) (hd:oB P G i (c.args.toList.map g) σ id v σ'):a8 P G o g σ id v σ':=by
 intro w I β nx a hm hG hfr hnx hg;have hops : ∀x,x=f∨x∈c.args.toList→x∈o.op.operands.toList:=by
  intro x hx;simp [ho,Op.operands,Call.operands,hc];rcases hx with h|h
  ·exact .inl h
  ·exact .inr (by simpa using h)
 have h0:=hg f (hops f (.inl rfl));rw [hf] at h0;obtain ⟨b,cap,hb,e1⟩:=h0;have hargs:=i1 (g:=g) (a:=a) (l:=c.args.toList) (fun x hx=>hg x (hops x (.inr hx)));obtain ⟨r,hr,hl,hround⟩:=hd w I β nx _ b cap hm hG hfr hnx hargs hb;have hrun:(execOp a.eval o).run P w = .ok (.round b r.fn ((r.params.zip (c.args.toList.map a.eval).toArray).foldl (fun tmps (t,a)=>tmps.setIfInBounds t a) r.tmps) r.assign r.body) w:=by
  simp only [execOp,ho,resolve,hc,e1,Deferred.ofValue,Sem.run_bind,Sem.run_pure,Result.andThen_ok,invoke];have e3:(#[]++Array.map a.eval c.args)=(c.args.toList.map a.eval).toArray:=by
   apply Array.toList_inj.1;simp
  rw [e3];exact run_yield hr (by simpa using hl)
 unfold bD;rw [hrun];exact hround.mono fun e w' ⟨u,I',β',h1,h2,h3,h4⟩=>⟨u,h1,I',β',h2,h3,h4⟩
theorem ld {c:Call} {f:Operand} {k:Nat} {pre caps:List V} {v:V} (ho:o.op = .call c) (hc:c.callee = .value f) (he:nL P k (pre++(c.args.toList.map g++caps))=some v)
 (hcal : ∀w I β x,aA w I β (g f) x → ∃pv cv:List Value,x = .func (.func k) pv.toArray cv.toArray∧ca w I β pre pv∧ca w I β caps cv) (σ:aa) (id:Nat):a8 P G o g σ id v σ:=by
 intro w I β nx a hm hG hf hnx hg;have hops : ∀x,x=f∨x∈c.args.toList→x∈o.op.operands.toList:=by
  intro x hx;simp [ho,Op.operands,Call.operands,hc];rcases hx with h|h
  ·exact .inl h
  ·exact .inr (by simpa using h)
 obtain ⟨pv,cv,e1,e0,e2⟩:=hcal w I β (a.eval f) (hg f (hops f (.inl rfl)));have hargs:=e0.append<|(i1 (g:=g) (a:=a) (l:=c.args.toList) (fun x hx=>hg x (hops x (.inr hx)))).append e2
 obtain ⟨u,hu,hd⟩:=zi (w:=w) (I:=I) (β:=β) he hargs;refine bD.of_value (u:=u) (w':=w) ?_ ⟨I,β,hd,al.refl hm,fun _ _=>rfl⟩;simp only [execOp,ho,resolve,hc,e1,Deferred.ofValue,Sem.run_bind,Sem.run_pure,Result.andThen_ok,invoke];rw [show (pv.toArray++Array.map a.eval c.args++cv.toArray)=(pv++(c.args.toList.map a.eval++cv)).toArray from by apply Array.toList_inj.1;simp];exact hu
theorem kA {c:Call} {f:Operand} {k:Nat} {caps:List V} {v:V} (ho:o.op = .call c) (hc:c.callee = .value f) (he:nL P k (c.args.toList.map g++caps)=some v)
 (hcal : ∀w I β x,aA w I β (g f) x → ∃cv:List Value,x = .func (.func k) #[] cv.toArray∧ca w I β caps cv) (σ:aa) (id:Nat):a8 P G o g σ id v σ:=
 ld (pre:=[]) ho hc he (fun w I β x h=>match hcal w I β x h with|⟨cv,e,d⟩=>⟨[],cv,e,⟨rfl,fun i c y hc hy=>by simp at hc⟩,d⟩) σ id
theorem zl {g:Operand→V} {σ:aa} {t n:Nat} {parts:Array (Nat × Operand)} (ho:o.op = .buildSlice t n parts) {p:Prop} {v:V} {s:aa} (h:C4 P t n id (parts.toList.map fun p=>(p.1,g p.2)) σ=some (p,v,s)) (hp:p):a8 P G o g σ id v s:=by
 unfold C4 at h;split at h
 ·rename_i k b es h1 h2;split at h
  ·rename_i hc;injection h with h;injection h with e1 h;injection h with e2 e3;subst e1 e2 e3;have hr:aR P o.op g σ id=some (fo k es,.so id k 0 n,[(id,.row k es)]):=by
    rw [ho];simp only [aR,h1,h2];rw [if_pos hc]
   exact iW hr hp σ (fun _ _ h=>h)
  ·cases h
 ·cases h
theorem oa {F:List (Nat × V)→aa→gp} {parts:List (Nat × Operand)} (hF : ∀(g:Operand→V) (σ:aa) (v:V) (s:aa) (p:Prop),F (parts.map fun p=>(p.1,g p.2)) σ=some (p,v,s)→p→a8 P G o g σ id v s)
 {g:Operand→V} {σ:aa} {p:Prop} {v:V} {s:aa} (h:BE F (parts.map fun p=>(p.1,g p.2)) σ=some (p,v,s)) (hp:p):a8 P G o g σ id v s:=by
 unfold BE at h;split at h
 ·rename_i i hi;split at h
  ·rename_i blk hb;rw [oZ] at h;have hs:=hF (fun x=>(g x).frz i blk) (σ.frz i blk) v s p h hp;intro w I β nx a hm hG hf hnx hg;obtain ⟨st,hset⟩:=o0 hm hb;refine (hs w _ β nx a st.mem (fun g x hx=>(hG g x hx).keep (fun _ _=>rfl) (fun b hb=> .inl hb)) hf hnx (fun x hx=>hset.den (hg x hx))).mono ?_;rintro u w' ⟨I2,β2,e1,e2,e3⟩;exact ⟨I2,β2,e1,st.trans e2,e3⟩
  ·cases h
 ·exact hF g σ v s p h hp
theorem cD (h:aJ P G o.op g σ id K) : ∃v σ',K v σ'∧a8 P G o g σ id v σ':=by
 unfold aJ at h;split at h;case h_1 c x y ho=>
  obtain ⟨v,h1,h2⟩:=lO ho h;exact ⟨v,σ,h1,h2 σ id⟩
 case h_2 t x ho=>
  obtain ⟨v,h1,h2⟩:=pk (G:=G) ho h id;exact ⟨v,σ,h1,by simpa using h2 σ (fun _ _ h=>h)⟩
 case h_3 x isStr ho=>
  split at h
  ·rename_i hs;subst hs;exact wV ho h id
  ·exact h.elim
 case h_4 c ho=>
  split at h
  ·rename_i f hc;unfold bn at h;split at h
   ·rename_i k caps hk;obtain ⟨v,σ',h1,h2⟩:=h;have hcal : ∀w I β x,aA w I β (g f) x → ∃cv:List Value,x = .func (.func k) #[] cv.toArray∧ca w I β (caps.map .d) cv:=fun w I β x hd=>by
     rw [hk] at hd;obtain ⟨k',caps',e1,e2⟩:=eF (w:=w) (I:=I) (β:=β) (x:=x) (v:= .d (.fn k caps)) (K:=fun a b=>a=k∧b=caps.map .d) ⟨rfl,rfl⟩;obtain ⟨rfl,rfl⟩:=e1;exact e2 hd
    rcases h2 with ⟨h2,h3⟩|⟨h2,rfl⟩
    ·exact ⟨v,σ',h1,gW ho hc h2 h3 hcal⟩
    ·exact ⟨v,_,h1,kA ho hc h2 hcal _ _⟩
   ·rename_i k caps hk;obtain ⟨v,σ',h1,h2⟩:=h;have hcal : ∀w I β x,aA w I β (g f) x → ∃cv:List Value,x = .func (.func k) #[] cv.toArray∧ca w I β caps cv:=fun w I β x hd=>by
     rw [hk] at hd;obtain ⟨k',caps',e1,e2⟩:=eF (w:=w) (I:=I) (β:=β) (x:=x) (v:= .fn k caps) (K:=fun a b=>a=k∧b=caps) ⟨rfl,rfl⟩;obtain ⟨rfl,rfl⟩:=e1;exact e2 hd
    rcases h2 with ⟨h2,h3⟩|⟨h2,rfl⟩
    ·exact ⟨v,σ',h1,gW ho hc h2 h3 hcal⟩
    ·exact ⟨v,_,h1,kA ho hc h2 hcal _ _⟩
   ·rename_i i hi;obtain ⟨v,σ',h1,h2⟩:=h;exact ⟨v,σ',h1,uZ ho hc hi h2⟩
   ·rename_i k fs hk;obtain ⟨v,σ',h1,h2⟩:=h;have hcal : ∀w I β x,aA w I β (g f) x → ∃pv cv:List Value,x = .func (.func k) pv.toArray cv.toArray∧ca w I β (fs.map .d) pv∧ca w I β [] cv:=fun w I β x hd=>mG (hk▸hd)
    rcases h2 with ⟨h2,h3⟩|⟨h2,rfl⟩
    ·exact ⟨v,σ',h1,iZ ho hc h2 h3 hcal⟩
    ·exact ⟨v,_,h1,ld ho hc h2 hcal _ _⟩
   ·exact h.elim
  ·obtain ⟨p,v,s,h1,h2,h3⟩:=dF h;exact ⟨v,s,h3,nm h1 h2⟩
  ·exact h.elim
 case h_5 t n parts ho=>
  unfold zR at h;split at h
  ·rename_i p v new hr;rw [←ho] at hr;exact ⟨v,_,h.2,iW hr h.1 σ (fun _ _ h=>h)⟩
  ·split at h
   ·rename_i p v s hr;exact ⟨v,s,h.2,oa (fun g' σ' v' s' p' hp'=>oa (fun g' σ' v' s' p' hp'=>oa (fun g' σ' v' s' p' hp'=>zl ho hp') hp') hp') hr h.1⟩
   ·exact h.elim
 case h_6 _ _ _ _ _=>
  obtain ⟨p,v,s,h1,h2,h3⟩:=dF h;exact ⟨v,s,h3,nm h1 h2⟩
theorem cd (id:Nat):jK id []:=fun _ _ h=>by simp [aa.get] at h
theorem iA {op:Op} {p:Prop} {v:V} {new:aa} (h:bC P op g σ id=some (p,v,new)):jK id new:=by
 unfold bC at h;split at h
 ·injection h with h;injection h with _ h;injection h with _ h;subst h;exact cd id
 ·obtain ⟨blk,rfl⟩:=vp h;intro j b hj;simp only [aa.get] at hj;split at hj
  ·omega
  ·cases hj
theorem cI (h:aI P G o.op g σ id K) : ∃v new,K v new∧jK id new∧dp P G o g σ id v new:=by
 unfold aI at h;split at h;case h_1 c x y ho=>
  obtain ⟨v,h1,h2⟩:=lO (G:=G) ho h;exact ⟨v,[],h1,cd id,fun s _=>by simpa using h2 s id⟩
 case h_2 t x ho=>
  obtain ⟨v,h1,h2⟩:=pk (G:=G) ho h id;exact ⟨v,[],h1,cd id,h2⟩
 case h_3 c ho=>
  split at h
  ·rename_i f hc;unfold bn at h;split at h
   ·rename_i k caps hk;obtain ⟨v,new,h1,h2⟩:=h;have hcal : ∀w I β x,aA w I β (g f) x → ∃cv:List Value,x = .func (.func k) #[] cv.toArray∧ca w I β (caps.map .d) cv:=fun w I β x hd=>by
     rw [hk] at hd;obtain ⟨k',caps',e1,e2⟩:=eF (w:=w) (I:=I) (β:=β) (x:=x) (v:= .d (.fn k caps)) (K:=fun a b=>a=k∧b=caps.map .d) ⟨rfl,rfl⟩;obtain ⟨rfl,rfl⟩:=e1;exact e2 hd
    rcases h2 with ⟨h2,hn,h3⟩|⟨h2,rfl⟩
    ·exact ⟨v,new,h1,hn,fun s hs=>gW ho hc h2 (h3 s hs) hcal⟩
    ·exact ⟨v,[],h1,cd id,fun s hs=>by simpa using kA ho hc h2 hcal s id⟩
   ·rename_i k caps hk;obtain ⟨v,new,h1,h2⟩:=h;have hcal : ∀w I β x,aA w I β (g f) x → ∃cv:List Value,x = .func (.func k) #[] cv.toArray∧ca w I β caps cv:=fun w I β x hd=>by
     rw [hk] at hd;obtain ⟨k',caps',e1,e2⟩:=eF (w:=w) (I:=I) (β:=β) (x:=x) (v:= .fn k caps) (K:=fun a b=>a=k∧b=caps) ⟨rfl,rfl⟩;obtain ⟨rfl,rfl⟩:=e1;exact e2 hd
    rcases h2 with ⟨h2,hn,h3⟩|⟨h2,rfl⟩
    ·exact ⟨v,new,h1,hn,fun s hs=>gW ho hc h2 (h3 s hs) hcal⟩
    ·exact ⟨v,[],h1,cd id,fun s hs=>by simpa using kA ho hc h2 hcal s id⟩
   ·exact h.elim
   ·rename_i k fs hk;obtain ⟨v,new,h1,h2⟩:=h;have hcal : ∀w I β x,aA w I β (g f) x → ∃pv cv:List Value,x = .func (.func k) pv.toArray cv.toArray∧ca w I β (fs.map .d) pv∧ca w I β [] cv:=fun w I β x hd=>mG (hk▸hd)
    rcases h2 with ⟨h2,hn,h3⟩|⟨h2,rfl⟩
    ·exact ⟨v,new,h1,hn,fun s hs=>iZ ho hc h2 (h3 s hs) hcal⟩
    ·exact ⟨v,[],h1,cd id,fun s hs=>by simpa using ld ho hc h2 hcal s id⟩
   ·exact h.elim
  ·obtain ⟨p,v,s,h1,h2,h3⟩:=dF h;exact ⟨v,s,h3,iA h1,gJ h1 h2⟩
  ·exact h.elim
 case h_4 _ _ _=>
  obtain ⟨p,v,s,h1,h2,h3⟩:=dF h;exact ⟨v,s,h3,iA h1,gJ h1 h2⟩
end
def aF.put (e:aF) (t:Nat) (v:V):aF:=(t,v)::e
def aF.putO (e:aF) (t:Option Nat) (v:V):aF:=match t with
 | some d=>e.put d v
 | none=>e
def xX (k:Nat):List Nat→Option (List Nat)
 | []=>none
 | x::r=>if x=k then some r else (xX k r).map (x :: ·)
def aF.keep:List Nat→aF→aF
 | _,[]=>[]
 | lv,(k,v)::r=>match xX k lv with
  | some lv'=>(k,v)::aF.keep lv' r
  | none=>aF.keep lv r
theorem aF.get_put (e:aF) (t:Nat) (v:V) (j:Nat):(e.put t v).get j=if t=j then v else e.get j:=rfl
theorem pM : ∀ {k:Nat} {lv:List Nat},xX k lv=none→k∉lv
 | k,[],_=>by simp
 | k,x::r,h=>by
  unfold xX at h;split at h
  ·cases h
  ·rename_i hx;have:xX k r=none:=by simpa using h
   simp only [List.mem_cons,not_or];exact ⟨fun e=>hx e.symm,pM this⟩
theorem pN : ∀ {k:Nat} {lv lv':List Nat},xX k lv=some lv' → ∀x,x∈lv'→x∈lv
 | k,[],_,h=>by cases h
 | k,y::r,lv',h=>by
  unfold xX at h;split at h
  ·injection h with h;subst h;intro x hx;exact List.mem_cons_of_mem _ hx
  ·simp only [Option.map_eq_some_iff] at h;obtain ⟨l,hl,rfl⟩:=h;intro x hx;rcases List.mem_cons.1 hx with rfl|hx
   ·exact List.mem_cons_self
   ·exact List.mem_cons_of_mem _ (pN hl x hx)
theorem aF.keep_out : ∀(e:aF) (lv:List Nat) (k:Nat),k∉lv→(aF.keep lv e).get k = .unk
 | [],lv,k,_=>by cases lv<;>rfl
 | (k',v)::r,lv,k,h=>by
  unfold aF.keep;split
  ·rename_i lv' h';have hk:k'≠k:=by
    rintro rfl;apply h;have : ∀ {l l':List Nat},xX k' l=some l'→k'∈l:=by
     intro l;induction l with
     | nil=>intro l' h;cases h
     | cons y r ih=>
      intro l' h;unfold xX at h;split at h
      ·rename_i e;subst e;exact List.mem_cons_self
      ·simp only [Option.map_eq_some_iff] at h;obtain ⟨q,hq,_⟩:=h;exact List.mem_cons_of_mem _ (ih hq)
    exact this h'
   show (if k'=k then v else (aF.keep lv' r).get k) = .unk;rw [if_neg hk];exact aF.keep_out r lv' k (fun hm=>h (pN h' k hm))
  ·exact aF.keep_out r lv k h
theorem aF.get_keep : ∀(lv:List Nat) (e:aF) (j:Nat),(aF.keep lv e).get j=e.get j∨(aF.keep lv e).get j = .unk
 | lv,[],j=>by cases lv<;>exact .inl rfl
 | lv,(k,v)::r,j=>by
  unfold aF.keep;split
  ·rename_i lv' h';show (if k=j then v else (aF.keep lv' r).get j)=(if k=j then v else aF.get r j)∨(if k=j then v else (aF.keep lv' r).get j) = .unk;split
   ·exact .inl rfl
   ·exact aF.get_keep lv' r j
  ·rename_i h';by_cases hk:k=j
   ·subst hk;exact .inr (aF.keep_out r lv k (pM h'))
   ·show (aF.keep lv r).get j=(if k=j then v else aF.get r j)∨_;rw [if_neg hk];exact aF.get_keep lv r j
structure St where
 env:aF
 sg:aa
 nx:Nat
structure mA where
 w:World
 I:Nat→Prop
 β:bF
 σ:aa
 nx:Nat
 n:Nat
 free : ∀id,nx≤id→β id=none
 hd:List (Nat × Obj)
def gy (n:Nat) (hd:List (Nat × Obj)) (w:World) (I:Nat→Prop) (β:bF) (σ:aa) (ds:List Deferred):Prop:=
 (∃Ds:List Nat,ds=Ds.map (fun D =>{ target:= .collected D,args :=#[] })∧Ds.Nodup ∧ ∀D∈Ds,n≤D∧w.heap[D]? = some (.deferred (some [])) ∧ ¬I D ∧ ¬bj σ β D) ∧
 ∀p∈hd,w.heap[p.1]? = some p.2 ∧ ¬I p.1 ∧ ¬bj σ β p.1
section
variable {n:Nat} {hd:List (Nat × Obj)} {w w':World} {I I':Nat→Prop} {β β':bF} {σ σ':aa} {nx nx':Nat} {ds:List Deferred}
theorem gy.nil:gy n [] w I β σ []:=⟨⟨[],rfl,List.nodup_nil,fun D h=>by cases h⟩,fun p h=>by cases h⟩
theorem gy.sub (h:gy n hd w I β σ ds) (ho : ∀b,bj σ' β' b→bj σ β b) (hi : ∀b,I' b→I b∨bj σ β b):gy n hd w I' β' σ' ds:=by
 obtain ⟨⟨Ds,h1,h2,h3⟩,h4⟩:=h;have key : ∀D,¬I D → ¬bj σ β D → ¬I' D ∧ ¬bj σ' β' D:=fun D q3 q4=>⟨fun h=>by rcases hi D h with h|h;exact q3 h;exact q4 h,fun h=>q4 (ho D h)⟩
 refine ⟨⟨Ds,h1,h2,fun D hD =>?_⟩,fun p hp =>?_⟩
 ·obtain ⟨q1,q2,q3,q4⟩:=h3 D hD;exact ⟨q1,q2,key D q3 q4⟩
 ·obtain ⟨q1,q2,q3⟩:=h4 p hp;exact ⟨q1,key _ q2 q3⟩
theorem gy.congr (h:gy n hd w I β σ ds) (hs : ∀k,σ'.get k=σ.get k):gy n hd w I β σ' ds:=
 h.sub (fun b ⟨id,blk,c,g1,g2⟩=>⟨id,blk,c,by rw [←hs];exact g1,g2⟩) (fun b h=> .inl h)
theorem gG {b:Nat} {o:Obj} (h:w.heap[b]? = some o):b<w.heap.size:=by
 rcases Nat.lt_or_ge b w.heap.size with g|g
 ·exact g
 ·rw [Array.getElem?_eq_none g] at h;cases h
theorem al.hid (hs:al w I β σ nx w' I' β' σ' nx') {b:Nat} {o:Obj} (h:w.heap[b]? = some o) (hI : ¬I b) (ho : ¬bj σ β b):w'.heap[b]? = some o ∧ ¬I' b ∧ ¬bj σ' β' b:=by
 have hlt:=gG h;refine ⟨(hs.block b hlt ho).trans h,fun h =>?_,fun h =>?_⟩
 ·rcases hs.immn b h with h|h|h
  ·exact hI h
  ·exact ho h
  ·omega
 ·rcases hs.own' b h with h|h
  ·exact ho h
  ·omega
theorem gy.step (h:gy n hd w I β σ ds) (hs:al w I β σ nx w' I' β' σ' nx'):gy n hd w' I' β' σ' ds:=by
 obtain ⟨⟨Ds,h1,h2,h3⟩,h4⟩:=h;refine ⟨⟨Ds,h1,h2,fun D hD =>?_⟩,fun p hp =>?_⟩
 ·obtain ⟨q1,q2,q3,q4⟩:=h3 D hD;exact ⟨q1,hs.hid q2 q3 q4⟩
 ·obtain ⟨q1,q2,q3⟩:=h4 p hp;exact hs.hid q1 q2 q3
end
def dg (C:mA) (G:Gl) (e:aF) (σ:aa) (nx lim:Nat) (a:Act) (w:World):Prop:=
 ∃I β,al C.w C.I C.β C.σ C.nx w I β σ nx∧(∀j,lim≤j→β j=none)∧(∀t,aA w I β (e.get t) (a.tmps.getD t undef))∧a.tmps.size=C.n∧gy C.w.heap.size C.hd w I β σ a.defers∧ta G w I
def ou (C:mA) (G:Gl) (st:St) (a:Act) (w:World):Prop:=dg C G st.env st.sg st.nx st.nx a w
def kT (v:V) (K:Bool→Prop):Prop:=match v with
 | .d (.lit (.bool b))=>K b
 | _=>gR v
def ml (v:V) (K:Bool→Prop) (no:Prop):Prop:=match v with
 | .d (.lit (.bool b))=>K b
 | .tup []=>no
 | _=>gR v
def bT (ops:Array Oper) (o:Oper) (e:aF) (yes no:aF→Prop):Prop:=match o.guard with
 | none=>yes e
 | some (j,want)=>ce ((ops[j]?).bind (·.dst)) fun d=>ml (e.get d) (fun b=>
  fj b (if want=true then yes (e.put d (.d (.lit (.bool true)))) else no (e.put d (.d (.lit (.bool true))))) (if want=true then no (e.put d (.d (.lit (.bool false)))) else yes (e.put d (.d (.lit (.bool false)))))) (no e)
def j8 (P:Program) (G:Gl) (ops:Array Oper) (base:Nat):Nat→List Oper→aF→aa→(aF→aa→Prop)→Prop
 | _,[],e,σ,K=>K e σ
 | i,o::r,e,σ,K=>bT ops o e
  (fun e=>aJ P G o.op (i2 G e.get) σ (base+4*i) fun v σ'=>j8 P G ops base (i+1) r (e.putO o.dst v) σ' K)
  (fun e=>j8 P G ops base (i+1) r (e.putO o.dst (.tup [])) σ K)
section
variable {P:Program} {G:Gl} {C:mA} {ops:Array Oper} {Q:Exit→Act→World→Prop} {fr:Option Nat}
theorem su {w:World} {I:Nat→Prop} {β:bF} {e:aF} {a:Act} (he : ∀t,aA w I β (e.get t) (a.tmps.getD t undef)) (hG:ta G w I) (x:Operand):aA w I β (i2 G e.get x) (a.eval x):=by
 cases x with
 | tmp t=>exact he t
 | const v=>exact aj.lit v
 | global g=>
  show aA w I β (match G g with|some x=> .d x|none=> .unk) _;cases h:G g with
  | none=>trivial
  | some x=>exact hG g x h
 | func f=>exact aj.fn f [] [] rfl (by simp)
theorem o2 {a:Act} {d t:Nat} {v:Value} (h:d<a.tmps.size):(a.put (some d) v).tmps.getD t undef=if d=t then v else a.tmps.getD t undef:=by
 simp only [Act.put,Array.getD_eq_getD_getElem?,Array.getElem?_setIfInBounds];by_cases e:d=t
 ·subst e;simp [h]
 ·simp [e]
theorem nF {w:World} {I:Nat→Prop} {β:bF} {e:aF} {a:Act} (he : ∀t,aA w I β (e.get t) (a.tmps.getD t undef)) {d:Option Nat} (hd : ∀x,d=some x→x<a.tmps.size) {v:V} {u:Value} (hv:aA w I β v u) :
 ∀t,aA w I β ((e.putO d v).get t) ((a.put d u).tmps.getD t undef):=by
 intro t;cases d with
 | none=>exact he t
 | some d=>
  rw [o2 (hd d rfl)];simp only [aF.putO,aF.get_put];split
  ·exact hv
  ·exact he t
theorem et {a:Act} {d:Option Nat} {v:Value} : (a.put d v).tmps.size=a.tmps.size:=by cases d<;>simp [Act.put]
theorem cO {a:Act} {d:Option Nat} {v:Value} : (a.put d v).defers=a.defers:=by cases d<;>rfl
theorem ta.step {w w':World} {I I':Nat→Prop} {β β':bF} {σ σ':aa} {nx nx':Nat} (h:ta G w I) (hm:bW w I β σ nx) (hs:al w I β σ nx w' I' β' σ' nx'):ta G w' I':=fun g x hg=>hs.denD hm (h g x hg)
theorem bW.bump {w:World} {I:Nat→Prop} {β:bF} {σ:aa} {nx nx':Nat} (h:bW w I β σ nx) (hn:nx≤nx'):bW w I β σ nx':=⟨h.own,h.inj,fun id hid=>h.free id (by omega),h.lt⟩
theorem al.bump {w w':World} {I I':Nat→Prop} {β β':bF} {σ σ':aa} {nx nx' nx'':Nat} (h:al w I β σ nx w' I' β' σ' nx') (hn:nx'≤nx''):al w I β σ nx w' I' β' σ' nx'' :={ h with mem:=h.mem.bump hn,nx:=by have:=h.nx;omega }
theorem iY {b:Bool} {p q r:Prop} (h:fj b p q) (h1:b=true→p→r) (h2:b=false→q→r):r:=by
 cases b with
 | true=>exact h1 rfl (h.1 rfl)
 | false=>exact h2 rfl (h.2 rfl)
theorem rQ {a:Act} {w:World} {I:Nat→Prop} {β:bF} {e:aF} (he : ∀t,aA w I β (e.get t) (a.tmps.getD t undef)) {j d:Nat} {b:Bool} (hd:(ops[j]?).bind (·.dst)=some d) (hb:e.get d = .d (.lit (.bool b))):yielded ops a.tmps j=some b:=by
 have h1:=he d;rw [hb] at h1;have h2:=an h1;have h3:a.tmps[d]? = some (.bool b):=by
  cases h:a.tmps[d]? with
  | none=>simp [Array.getD_eq_getD_getElem?,h,undef] at h2
  | some x=>simp [Array.getD_eq_getD_getElem?,h] at h2;rw [h2]
 unfold yielded;rw [hd];show (match (a.tmps[d]? : Option Value) with|some (.bool b)=>some b|_=>none)=some b;rw [h3]
theorem oT {w:World} {I:Nat→Prop} {β:bF} {e:aF} {a:Act} (he : ∀t,aA w I β (e.get t) (a.tmps.getD t undef)) {d:Nat} {b c:Bool} (hb:e.get d = .d (.lit (.bool b))) (hbc:b=c) : ∀t,aA w I β ((e.put d (.d (.lit (.bool c)))).get t) (a.tmps.getD t undef):=by
 intro t;rw [aF.get_put];split
 ·rename_i h;subst h;subst hbc;rw [←hb];exact he d
 ·exact he t
theorem oU {w:World} {I:Nat→Prop} {β:bF} {x:Value} (h:aA w I β (.tup []) x):x=undef:=by
 obtain ⟨vs,rfl,hl,_⟩:=h;have:vs=[]:=List.eq_nil_of_length_eq_zero (by simpa using hl.symm);subst this;rfl
theorem pW {w:World} {I:Nat→Prop} {β:bF} : aA w I β (.tup []) undef:=⟨[],rfl,rfl,by simp⟩
theorem gw {tmps:Array Value} {j d:Nat} (hd:(ops[j]?).bind (·.dst)=some d) (h:tmps.getD d undef=undef):yielded ops tmps j=none:=by
 unfold yielded;rw [hd];show (match (tmps[d]? : Option Value) with|some (.bool b)=>some b|_=>none)=none;cases hx:tmps[d]? with
 | none=>rfl
 | some x=>
  simp [Array.getD_eq_getD_getElem?,hx] at h;subst h;rfl
theorem nO {o:Oper} {e:aF} {yes no:aF→Prop} (h:bT ops o e yes no) : ∃e' b,(∀w I β (a:Act),(∀t,aA w I β (e.get t) (a.tmps.getD t undef))→(∀t,aA w I β (e'.get t) (a.tmps.getD t undef))∧Region.wanted o (yielded ops a.tmps)=b)∧(b=true→yes e')∧(b=false→no e'):=by
 unfold bT at h;split at h
 ·rename_i hg;exact ⟨e,true,fun w I β a he=>⟨he,by simp [Region.wanted,hg]⟩,fun _=>h,fun h=>by cases h⟩
 ·rename_i j want hg;obtain ⟨d,hd,h⟩:=b6 h;unfold ml at h;split at h
  ·rename_i b hb;have hw : ∀w I β (a:Act),(∀t,aA w I β (e.get t) (a.tmps.getD t undef))→Region.wanted o (yielded ops a.tmps)=(b==want):=fun w I β a he=>by
    have:=rQ (ops:=ops) he hd hb;simp [Region.wanted,hg,this]
   refine iY h (fun e1 h9 =>?_) (fun e1 h9 =>?_)
   ·subst e1;refine ⟨_,want,fun w I β a he=>⟨oT he hb rfl,by rw [hw w I β a he];cases want<;>rfl⟩,fun hh =>?_,fun hh =>?_⟩
    ·subst hh;simpa using h9
    ·subst hh;simpa using h9
   ·subst e1;refine ⟨_,!want,fun w I β a he=>⟨oT he hb rfl,by rw [hw w I β a he];cases want<;>rfl⟩,fun hh =>?_,fun hh =>?_⟩
    ·have:want=false:=by simpa using hh
     subst this;simpa using h9
    ·have:want=true:=by simpa using hh
     subst this;simpa using h9
  ·rename_i hb;refine ⟨e,false,fun w I β a he=>⟨he,?_⟩,fun hh=>(by cases hh),fun _=>h⟩;have h1:=he d;rw [hb] at h1;simp [Region.wanted,hg,gw hd (oU h1)]
  ·exact h.elim
theorem gI {base nx:Nat} (hn:base+4*ops.size≤nx) (hdst : ∀(i:Nat) o x,ops[i]? = some o→o.dst=some x→x<C.n) {K:aF→aa→Prop} (hQ : ∀e σ a w,K e σ→dg C G e σ nx (base+4*ops.size) a w→Q .normal a w) :
 ∀(r:List Oper) (i:Nat) (e:aF) (σ:aa) (a:Act) (w:World),ops.toList.drop i=r→j8 P G ops base i r e σ K→dg C G e σ nx (base+4*i) a w→i≤ops.size→wpOpsIn (Fr fr) 0 P ops Q (List.range' i (ops.size - i)) a w
 | [],i,e,σ,a,w,hr,h,hrel,hi=>by
  have hsz:ops.size≤i:=by
   have:=congrArg List.length hr;simp at this;omega
  have:i=ops.size:=by omega
  subst this;rw [Nat.sub_self];exact hQ e σ a w h hrel
 | o::r,i,e,σ,a,w,hr,h,hrel,hi=>by
  have hlt:i<ops.size:=by
   have:=congrArg List.length hr;simp at this;omega
  have ho:ops[i]? = some o:=by
   have:ops.toList[i]? = some o:=by
    have h1:(ops.toList.drop i)[0]? = some o:=by rw [hr];rfl
    rwa [List.getElem?_drop,Nat.add_zero] at h1
   simpa using this
  have hr':ops.toList.drop (i+1)=r:=by
   rw [←List.drop_drop,hr];rfl
  have hrange:List.range' i (ops.size - i)=i::List.range' (i+1) (ops.size - (i+1)):=by
   rw [show ops.size - i=(ops.size - (i+1))+1 from by omega,List.range'_succ]
  rw [hrange,wpOpsIn_cons];unfold wpOpIn;rw [ho];simp only [];obtain ⟨I,β,hst,hfr,hen,hsz,hdf,hG⟩:=hrel;obtain ⟨e',b,g1,g2,g3⟩:=nO (show bT ops o e _ _ from h);obtain ⟨hen',hw⟩:=g1 w I β a hen;rw [hw];cases b with
  | true=>
   rw [if_pos rfl];obtain ⟨v,σ',hK,hsem⟩:=cD (g2 rfl);have hd:=hsem w I β nx a hst.mem hG (fun j hj _=>hfr j hj) (by omega) (fun x _=>su hen' hG x);refine hd.wpIn (fun u w' ⟨I',β',hu,hst',hfr'⟩ =>?_);refine gI hn hdst hQ r (i+1) _ σ' _ w' hr' hK ⟨I',β',hst.trans hst',fun j hj =>?_,nF (fun t=>hst'.den hst.mem (hen' t)) (fun x hx=>by rw [hsz];exact hdst i o x ho hx) hu,by rw [et];exact hsz,by rw [cO];exact hdf.step hst',hG.step hst.mem hst'⟩ (by omega);rw [hfr' j (by omega)];exact hfr j (by omega)
  | false=>
   rw [if_neg (by simp)];refine ⟨fun _ _=>trivial,?_⟩;refine gI hn hdst hQ r (i+1) _ σ _ w hr' (g3 rfl) ⟨I,β,hst,fun j hj=>hfr j (by omega),nF hen' (fun x hx=>by rw [hsz];exact hdst i o x ho hx) pW,by rw [et];exact hsz,by rw [cO];exact hdf,hG⟩ (by omega)
end
def sy:Op→Bool
 | .store _ _ _=>true
 | .next _ _=>true
 | .mapUpdate _ _ _ _=>true
 | .lookup _ _ _ _=>true
 | .call c=>match c.callee with
  | .builtin .append=>true
  | .builtin .copy=>true
  | .builtin .clear=>true
  | .builtin .unsafeString=>true
  | _=>false
 | _=>false
def nQ:Op→Bool
 | .move _ | .assign _ | .nilCheck _ | .binOp _ _ _ _ _ | .unOp _ _ _ | .convert _ _ _ | .makeInterface _ _ | .makeFunc _ _ _ | .slice _ _ _ _ _ | .fieldAddr _ _ _ | .field _ _ _ | .indexAddr _ _ _ | .index _ _ _ | .typeAssert _ _ _ _ | .extract _ _ | .build _ _ | .pick _ _ _=>true
 | .call c=>match c.callee with
  | .builtin .len=>true
  | .builtin .max=>true
  | .builtin .min=>true
  | _=>false
 | _=>false
def m7 (lo:List Nat) (i:Nat) (op:Op):Bool:=nQ op||lo.contains i
def eO:Op→Bool
 | .call c=>match c.callee with
  | .value _=>true
  | _=>false
 | _=>false
def zP (acc:List Nat) (es:List Edge):Nat:=es.foldl (fun s e=>if Region.binds .any e=true then s ||| 2 ^ e.on ||| acc.getD e.on 0 else s) 0
def iX (acc:List Nat):List Oper→List Nat
 | []=>acc
 | o::r=>iX (acc++[zP acc o.after.toList]) r
def dD (ops:Array Oper) (o:Oper):List Nat:=o.dst.toList++o.looksAt ops
def si (o:Oper) (l:List Nat):Bool:=match o.dst with
 | some d=>l.contains d
 | none=>false
def fp (lo:List Nat) (ops:Array Oper) (i:Nat) (x:Oper) (j:Nat) (y:Oper):Bool:=si x (dD ops y)||si y (dD ops x)||(sy x.op && !m7 lo j y.op)||(sy y.op && !m7 lo i x.op)
def sk (i:Nat) (o:Oper):Bool:=o.after.toList.all fun e=> !Region.binds .any e||decide (e.on<i)
def lM (lo:List Nat) (ops:Array Oper) (B:List Nat) (y:Oper) (j:Nat):Nat→List Oper→Bool
 | _,[]=>true
 | i,x::r=>if i<j then (!fp lo ops i x j y||(B.getD j 0).testBit i)&&lM lo ops B y j (i+1) r else true
def rX (lo:List Nat) (ops:Array Oper) (B:List Nat) (l:List Oper):Nat→List Oper→Bool
 | _,[]=>true
 | j,y::r=>sk j y&&lM lo ops B y j 0 l&&rX lo ops B l (j+1) r
def cu (lo:List Nat) (ops:Array Oper):Bool:=rX lo ops (iX [] ops.toList) ops.toList 0 ops.toList
def qX:Nat→List Oper→List Nat
 | _,[]=>[]
 | i,o::r=>(match o.op with | .load _ _=>[i]|_=>[])++qX (i+1) r
def nS (ops:Array Oper):List Nat:=qX 0 ops.toList
def pi (lo:List Nat):Nat→List Oper→Bool
 | _,[]=>true
 | i,o::r=>(!lo.contains i||(!sy o.op && !eO o.op))&&pi lo (i+1) r
theorem uf {lo:List Nat} (l:List Oper) : ∀(i:Nat),pi lo i l=true → ∀(k:Nat) x,l[k]? = some x→lo.contains (i+k)=true→sy x.op=false∧eO x.op=false:=by
 induction l with
 | nil=>intro i _ k x hx;simp at hx
 | cons y r ih=>
  intro i h k x hx hc;simp only [pi,Bool.and_eq_true,Bool.or_eq_true,Bool.not_eq_true'] at h;cases k with
  | zero=>
   simp at hx;subst hx;rw [Nat.add_zero] at hc;rcases h.1 with h1|h1
   ·rw [hc] at h1;cases h1
   ·exact h1
  | succ k=>exact ih (i+1) h.2 k x (by simpa using hx) (by rw [show i+1+k=i+(k+1) from by omega];exact hc)
def sB (lo B:List Nat) (i:Nat):Nat→List Oper→Bool
 | _,[]=>true
 | j,x::r=>(m7 lo j x.op||(if j=i then true else if j<i then (B.getD i 0).testBit j else (B.getD j 0).testBit i))&&sB lo B i (j+1) r
def fA (lo:List Nat) (ops:Array Oper) (i:Nat):Bool:=sB lo (iX [] ops.toList) i 0 ops.toList
theorem qU {lo B:List Nat} {i:Nat} (l:List Oper) : ∀(j:Nat),sB lo B i j l=true → ∀(k:Nat) x,l[k]? = some x→m7 lo (j+k) x.op=false→(j+k<i→(B.getD i 0).testBit (j+k)=true)∧(i<j+k→(B.getD (j+k) 0).testBit i=true):=by
 induction l with
 | nil=>intro j _ k x hx;simp at hx
 | cons y r ih=>
  intro j h k x hx hp;simp only [sB,Bool.and_eq_true,Bool.or_eq_true] at h;cases k with
  | zero=>
   simp at hx;subst hx;rw [Nat.add_zero] at hp;rcases h.1 with h1|h1
   ·rw [hp] at h1;cases h1
   ·rw [Nat.add_zero];constructor
    ·intro hlt;rw [if_neg (by omega),if_pos hlt] at h1;exact h1
    ·intro hlt;rw [if_neg (by omega),if_neg (by omega)] at h1;exact h1
  | succ k=>
   have:=ih (j+1) h.2 k x (by simpa using hx) (by rw [show j+1+k=j+(k+1) from by omega];exact hp);rw [show j+(k+1)=j+1+k from by omega];exact this
theorem pA {lo:List Nat} {ops:Array Oper} {B:List Nat} {y:Oper} {j:Nat} (l:List Oper) : ∀(i:Nat),lM lo ops B y j i l=true → ∀(k:Nat) x,l[k]? = some x→i+k<j→fp lo ops (i+k) x j y=true→(B.getD j 0).testBit (i+k)=true:=by
 induction l with
 | nil=>intro i h k x hx;simp at hx
 | cons x r ih=>
  intro i h k x' hx hlt hc;unfold lM at h;rw [if_pos (by omega)] at h;simp only [Bool.and_eq_true,Bool.or_eq_true,Bool.not_eq_true'] at h;cases k with
  | zero=>
   simp at hx;subst hx;rw [Nat.add_zero] at hc ⊢;rcases h.1 with h1|h1
   ·rw [hc] at h1;cases h1
   ·exact h1
  | succ k=>
   have:=ih (i+1) h.2 k x' (by simpa using hx) (by omega) (by rw [show i+1+k=i+(k+1) from by omega];exact hc);rw [show i+(k+1)=i+1+k from by omega];exact this
theorem kP {lo:List Nat} {ops:Array Oper} {B:List Nat} {l:List Oper} (r:List Oper) : ∀(j:Nat),rX lo ops B l j r=true → ∀(k:Nat) y,r[k]? = some y→sk (j+k) y=true∧lM lo ops B y (j+k) 0 l=true:=by
 induction r with
 | nil=>intro j h k y hy;simp at hy
 | cons y r ih=>
  intro j h k y' hy;simp only [rX,Bool.and_eq_true] at h;cases k with
  | zero=>simp at hy;subst hy;exact ⟨h.1.1,h.1.2⟩
  | succ k=>
   have:=ih (j+1) h.2 k y' (by simpa using hy);rw [show j+(k+1)=j+1+k from by omega];exact this
def fl (ol:List Oper) (S:Nat→Bool):Prop:= ∀(j:Nat) o,ol[j]? = some o→S j=true → ∀e∈o.after.toList,Region.binds .any e=true→S e.on=true
theorem gU {S:Nat→Bool} {acc:List Nat} (hacc : ∀(j:Nat) m,acc[j]? = some m→S j=true → ∀i,m.testBit i=true→S i=true) : ∀(es:List Edge),(∀e∈es,Region.binds .any e=true→S e.on=true) →
 ∀s,(∀i,s.testBit i=true→S i=true) → ∀i,(es.foldl (fun s e=>if Region.binds .any e=true then s ||| 2 ^ e.on ||| acc.getD e.on 0 else s) s).testBit i=true→S i=true
 | [],_,s,hs,i,h=>hs i h
 | e::es,he,s,hs,i,h=>by
  rw [List.foldl_cons] at h;refine gU hacc es (fun x hx=>he x (by simp [hx])) _ (fun k hk =>?_) i h;split at hk
  ·rename_i hb;have hon:=he e (by simp) hb;rw [Nat.testBit_or,Nat.testBit_or] at hk;simp only [Bool.or_eq_true] at hk;rcases hk with (hk|hk)|hk
   ·exact hs k hk
   ·have:e.on=k:=by
     rw [Nat.testBit_two_pow] at hk;simpa using hk
    rw [←this];exact hon
   ·cases hg:acc[e.on]? with
    | none=>simp [List.getD,hg] at hk
    | some m=>
     simp [List.getD,hg] at hk;exact hacc e.on m hg hon k hk
  ·exact hs k hk
theorem dP {ol:List Oper} {S:Nat→Bool} (hS:fl ol S) : ∀(r:List Oper) (acc:List Nat),ol.drop acc.length=r→(∀(j:Nat) m,acc[j]? = some m→S j=true → ∀i,m.testBit i=true→S i=true) →
 ∀(j:Nat) m,(iX acc r)[j]? = some m→S j=true → ∀i,m.testBit i=true→S i=true
 | [],acc,_,hacc=>hacc
 | o::r,acc,hd,hacc=>by
  refine dP hS r (acc++[zP acc o.after.toList]) (by simp;rw [←List.drop_drop,hd];rfl) (fun j m hj hSj =>?_);rw [List.getElem?_append] at hj;split at hj
  ·exact hacc j m hj hSj
  ·rename_i hge;have hje:j=acc.length:=by
    have:=(List.getElem?_eq_some_iff.1 hj).1;simp at this;omega
   subst hje;simp at hj;subst hj;have ho:ol[acc.length]? = some o:=by
    have h1:(ol.drop acc.length)[0]? = some o:=by rw [hd];rfl
    rwa [List.getElem?_drop,Nat.add_zero] at h1
   exact gU hacc _ (fun e he hb=>hS _ o ho hSj e he hb) 0 (fun i hi=>by simp at hi)
theorem gT : ∀(r:List Oper) (acc:List Nat),(iX acc r).length=acc.length+r.length
 | [],acc=>by simp [iX]
 | o::r,acc=>by rw [iX,gT];simp;omega
def aU (P:Program) (G:Gl) (lo:List Nat) (ops:Array Oper) (i:Nat) (k:Nat) (args:List V) (σp acc:aa) (id:Nat) (Kq Ke:V→aa→Prop) (_u:Tag Kq:= .mk) (_v:Tag Ke:= .mk) (_w:Tag ops:= .mk) (_h:True:=trivial):Prop:=
 cM P G k args σp id Kq∨(fA lo ops i=true∧ap P G k args (σp++acc) id Ke)
def e7 (P:Program) (G:Gl) (lo:List Nat) (ops:Array Oper) (i:Nat) (op:Op) (g:Operand→V) (σp acc:aa) (id:Nat) (Kq Ke:V→aa→Prop):Prop:=match op with
 | .call c=>match c.callee with
  | .value f=>bn (g f) (fun k caps=>aU P G lo ops i k (c.args.toList.map g++caps) σp acc id Kq Ke) (fun j=>fA lo ops i=true∧fm P G j (c.args.toList.map g) (σp++acc) id Ke) (fun k fs=>aU P G lo ops i k (fs++(c.args.toList.map g++[])) σp acc id Kq Ke)
  | _=>False
 | _=>False
def uw (new:aa) (K:Prop):Prop:=new=[]∧K
def qh (σk σ:aa) (K:Prop):Prop:=match σk with
 | []=>K
 | σk=>aY σk σ∧K
theorem ji {σk σ:aa} {K:Prop} (h:qh σk σ K):aY σk σ∧K:=by
 unfold qh at h;split at h
 ·exact ⟨fun _ _ hh=>by simp [aa.get] at hh,h⟩
 ·exact h
def tj (lo:List Nat) (ops:Array Oper) (i:Nat):Bool:=lo.all fun j=>((iX [] ops.toList).getD i 0).testBit j
def xV (lo:List Nat) (ops:Array Oper) (i:Nat) (σk:aa):aa:=if tj lo ops i=true then [] else σk
theorem mR {lo:List Nat} {ops:Array Oper} {i:Nat} {σk σ:aa} {K:Prop} (h:qh (xV lo ops i σk) σ K):(aY σk σ∨tj lo ops i=true)∧K:=by
 unfold xV at h;split at h
 ·rename_i ha;exact ⟨.inr ha,(ji h).2⟩
 ·exact ⟨.inl (ji h).1,(ji h).2⟩
def opsL (P:Program) (G:Gl) (lo:List Nat) (σk:aa) (ops:Array Oper) (base:Nat):Nat→List Oper→aF→aa→aa→(aF→aa→Prop)→Prop
 | _,[],e,σp,acc,K=>K e (σp++acc)
 | i,o::r,e,σp,acc,K=>bT ops o e
  (fun e=>if sy o.op=true then aJ P G o.op (i2 G e.get) (σp++acc) (base+4*i) fun v σ'=>qh (xV lo ops i σk) σ' (opsL P G lo σk ops base (i+1) r (e.putO o.dst v) σ' [] K)
   else if eO o.op=true then e7 P G lo ops i o.op (i2 G e.get) σp acc (base+4*i) (fun v new=>opsL P G lo σk ops base (i+1) r (e.putO o.dst v) σp (acc++new) K) (fun v σ'=>qh (xV lo ops i σk) σ' (opsL P G lo σk ops base (i+1) r (e.putO o.dst v) σ' [] K))
   else if lo.contains i=true then aI P G o.op (i2 G e.get) σk (base+4*i) fun v new=>uw new (opsL P G lo σk ops base (i+1) r (e.putO o.dst v) σp acc K)
   else aI P G o.op (i2 G e.get) σp (base+4*i) fun v new=>opsL P G lo σk ops base (i+1) r (e.putO o.dst v) σp (acc++new) K)
  (fun e=>opsL P G lo σk ops base (i+1) r (e.putO o.dst (.tup [])) σp acc K)
def lI (P:Program) (G:Gl) (ops:Array Oper):=opsL P G [] [] ops
inductive gP where
 | skip
 | p (v:V)
 | q (v:V) (new:aa)
 | e (v:V) (σ':aa)
def gP.val:gP→V
 | .skip=> .tup []
 | .p v=>v
 | .q v _=>v
 | .e v _=>v
def gP.app (r:gP) (σ:aa):aa:=match r with
 | .skip=>σ
 | .p _=>σ
 | .q _ new=>σ++new
 | .e _ σ'=>σ'
section
variable (ol:List Oper) (ρ:Nat→gP) (F0:Nat→V) (σ0:aa) (S:Nat→Bool)
def eS:Nat→Nat→V
 | 0,t=>F0 t
 | j+1,t=>if S j=true∧(ol[j]?).bind (·.dst)=some t then (ρ j).val else eS j t
def sS:Nat→aa
 | 0=>σ0
 | j+1=>if S j=true then (ρ j).app (sS j) else sS j
def bS:Nat→aa
 | 0=>σ0
 | j+1=>match ρ j with
  | .e _ σ'=>σ'
  | _=>bS j
end
abbrev bE:Nat→Bool:=fun _=>true
def ql (P:Program) (G:Gl) (lo:List Nat) (σk:aa) (ops:Array Oper) (base:Nat) (ρ:Nat→gP) (F0:Nat→V) (σ0:aa) (i:Nat):Prop:=
 ∀o,ops.toList[i]? = some o → ∃b,(∀w I β (a:Act),(∀t∈o.looksAt ops,aA w I β (eS ops.toList ρ F0 bE i t) (a.tmps.getD t undef))→Region.wanted o (yielded ops a.tmps)=b) ∧
  match ρ i with
  | .skip=>b=false
  | .p v=>b=true∧m7 lo i o.op=true ∧ ∀σ,(lo.contains i=true→aY σk σ)→a8 P G o (i2 G (eS ops.toList ρ F0 bE i)) σ (base+4*i) v σ
  | .q v new=>b=true∧m7 lo i o.op=false∧jK (base+4*i) new∧dp P G o (i2 G (eS ops.toList ρ F0 bE i)) (bS ρ σ0 i) (base+4*i) v new
  | .e v σ'=>b=true∧(m7 lo i o.op=false∧(sy o.op=true∨fA lo ops i=true)∧(aY σk σ'∨tj lo ops i=true))∧a8 P G o (i2 G (eS ops.toList ρ F0 bE i)) (sS ρ σ0 bE i) (base+4*i) v σ'
section
variable {ol:List Oper} {ρ ρ':Nat→gP} {F0:Nat→V} {σ0:aa} {S:Nat→Bool}
theorem co : ∀ {i:Nat},(∀j,j<i→ρ j=ρ' j) → ∀t,eS ol ρ F0 S i t=eS ol ρ' F0 S i t
 | 0,_,_=>rfl
 | i+1,h,t=>by simp only [eS];rw [h i (by omega),co (fun j hj=>h j (by omega))]
theorem ey : ∀ {i:Nat},(∀j,j<i→ρ j=ρ' j)→sS ρ σ0 S i=sS ρ' σ0 S i
 | 0,_=>rfl
 | i+1,h=>by simp only [sS];rw [h i (by omega),ey (fun j hj=>h j (by omega))]
theorem d8 : ∀ {i:Nat},(∀j,j<i→ρ j=ρ' j)→bS ρ σ0 i=bS ρ' σ0 i
 | 0,_=>rfl
 | i+1,h=>by simp only [bS];rw [h i (by omega),d8 (fun j hj=>h j (by omega))]
theorem ql.congr {P:Program} {G:Gl} {lo:List Nat} {σk:aa} {ops:Array Oper} {base i:Nat} (h : ∀j,j≤i→ρ j=ρ' j) (hl:ql P G lo σk ops base ρ F0 σ0 i):ql P G lo σk ops base ρ' F0 σ0 i:=by
 intro o ho;obtain ⟨b,h1,h2⟩:=hl o ho;have e1:eS ops.toList ρ F0 bE i=eS ops.toList ρ' F0 bE i:=funext fun t=>co (fun j hj=>h j (by omega)) t
 have e2:sS ρ σ0 bE i=sS ρ' σ0 bE i:=ey (fun j hj=>h j (by omega));have e3:bS ρ σ0 i=bS ρ' σ0 i:=d8 (fun j hj=>h j (by omega));rw [e1,e2,e3,h i (Nat.le_refl _)] at h2;rw [e1] at h1;exact ⟨b,h1,h2⟩
end
section
variable {P:Program} {G:Gl} {C:mA} {ops:Array Oper} {Q:Exit→Act→World→Prop}
theorem nN {o:Oper} {e:aF} {yes no:aF→Prop} (h:bT ops o e yes no) : ∃e' b,(∀t,e'.get t=e.get t)∧(∀w I β (a:Act),(∀t∈o.looksAt ops,aA w I β (e.get t) (a.tmps.getD t undef))→Region.wanted o (yielded ops a.tmps)=b)∧(b=true→yes e')∧(b=false→no e'):=by
 unfold bT at h;split at h
 ·rename_i hg;exact ⟨e,true,fun _=>rfl,fun w I β a _=>by simp [Region.wanted,hg],fun _=>h,fun h=>by cases h⟩
 ·rename_i j want hg;obtain ⟨d,hd,h⟩:=b6 h;unfold ml at h;split at h
  ·rename_i b hb;have hlk:d∈o.looksAt ops:=by simp [Oper.looksAt,hg,hd]
   have hw : ∀w I β (a:Act),(∀t∈o.looksAt ops,aA w I β (e.get t) (a.tmps.getD t undef))→Region.wanted o (yielded ops a.tmps)=(b==want):=fun w I β a he=>by
    have h1:=he d hlk;rw [hb] at h1;have h2:=an h1;have h3:a.tmps[d]? = some (.bool b):=by
     cases h:a.tmps[d]? with
     | none=>simp [Array.getD_eq_getD_getElem?,h,undef] at h2
     | some x=>simp [Array.getD_eq_getD_getElem?,h] at h2;rw [h2]
    have:yielded ops a.tmps j=some b:=by
     unfold yielded;rw [hd];show (match (a.tmps[d]? : Option Value) with|some (.bool b)=>some b|_=>none)=some b;rw [h3]
    simp [Region.wanted,hg,this]
   have hsame : ∀(c:Bool),b=c → ∀t,(e.put d (.d (.lit (.bool c)))).get t=e.get t:=by
    rintro c rfl t;rw [aF.get_put];split
    ·rename_i hh;subst hh;exact hb.symm
    ·rfl
   refine iY h (fun e1 h9 =>?_) (fun e1 h9 =>?_)
   ·refine ⟨_,want,hsame true e1,fun w I β a he=>by rw [hw w I β a he,e1];cases want<;>rfl,fun hh =>?_,fun hh =>?_⟩
    ·subst hh;simpa using h9
    ·subst hh;simpa using h9
   ·refine ⟨_,!want,hsame false e1,fun w I β a he=>by rw [hw w I β a he,e1];cases want<;>rfl,fun hh =>?_,fun hh =>?_⟩
    ·have:want=false:=by simpa using hh
     subst this;simpa using h9
    ·have:want=true:=by simpa using hh
     subst this;simpa using h9
  ·rename_i hb;have hlk:d∈o.looksAt ops:=by simp [Oper.looksAt,hg,hd]
   refine ⟨e,false,fun _=>rfl,fun w I β a he =>?_,fun hh=>(by cases hh),fun _=>h⟩;have h1:=he d hlk;rw [hb] at h1;simp [Region.wanted,hg,gw hd (oU h1)]
  ·exact h.elim
theorem AT {op:Op} (h:sy op=true):nQ op=false:=by
 cases op<;>simp only [sy,Bool.false_eq_true] at h<;>try rfl
 case call c=>
  unfold nQ;simp only;split at h<;>first
   | (exfalso;revert h;simp;done)
   | (rename_i hc;simp only [hc])
theorem uG {o:Oper} {g:Operand→V} {σ:aa} {id:Nat} {K:V→aa→Prop} (hp:nQ o.op=true) (h:aI P G o.op g σ id K) : ∃v,K v [] ∧ ∀σ id,a8 P G o g σ id v σ:=by
 have key:dZ o.op (bC P o.op g σ id) K→aR P o.op g σ id=none → ∃v,K v [] ∧ ∀σ id,a8 P G o g σ id v σ:=by
  intro h1 h2;obtain ⟨p,v,s,e1,e2,e3⟩:=dF h1;unfold bC at e1;split at e1
  ·rename_i p' v' hq;injection e1 with e1;injection e1 with q1 e1;injection e1 with q2 q3;subst q1;subst q2;subst q3;exact ⟨_,e3,fun σ id=>pH hq e2 σ id⟩
  ·rw [h2] at e1;cases e1
 unfold aI at h;split at h;case h_1 c x y ho=>
  obtain ⟨v,h1,h2⟩:=lO (G:=G) ho h;exact ⟨v,h1,h2⟩
 case h_2 t x ho=>rw [ho] at hp;cases hp
 case h_3 c ho=>
  have hp':=hp;rw [ho] at hp';unfold nQ at hp';simp only at hp';split at h
  ·rename_i f hc;rw [hc] at hp';cases hp'
  ·refine key (by rw [ho] at h ⊢;exact h) ?_;rw [ho];split at hp'<;>first
    | (cases hp';done)
    | (rename_i hc;simp only [aR,hc];done)
  ·exact h.elim
 case h_4 _ _ n3=>
  refine key h ?_;generalize hop:o.op=op at hp;cases op<;>first
   | rfl
   | (cases hp;done)
   | exact (n3 _ hop).elim
theorem oq {lo:List Nat} {o:Oper} {g:Operand→V} {i:Nat} {σp acc:aa} {id:Nat} {Kq Ke:V→aa→Prop} (h:e7 P G lo ops i o.op g σp acc id Kq Ke) :
 nQ o.op=false∧((∃v new,Kq v new∧jK id new∧dp P G o g σp id v new)∨(fA lo ops i=true ∧ ∃v σ',Ke v σ'∧a8 P G o g (σp++acc) id v σ')):=by
 unfold e7 at h;split at h;case h_1 c ho=>
  split at h
  ·rename_i f hc;refine ⟨by rw [ho];simp only [nQ,hc],?_⟩;have q1 : ∀ {K:V→aa→Prop},(bn (g f) (fun k caps=>cM P G k (c.args.toList.map g++caps) σp id K) (fun _=>False) (fun k fs=>cM P G k (fs++(c.args.toList.map g++[])) σp id K))→aI P G o.op g σp id K:=by
    intro K hh;rw [ho];simp only [aI,hc];exact hh
   have q2 : ∀ {K:V→aa→Prop},(bn (g f) (fun k caps=>ap P G k (c.args.toList.map g++caps) (σp++acc) id K) (fun j=>fm P G j (c.args.toList.map g) (σp++acc) id K) (fun k fs=>ap P G k (fs++(c.args.toList.map g++[])) (σp++acc) id K))→aJ P G o.op g (σp++acc) id K:=by
    intro K hh;rw [ho];simp only [aJ,hc];exact hh
   unfold bn at h q1 q2;split at h
   ·rename_i k caps hk;rw [hk] at q1 q2;rcases h with h|⟨hl,h⟩
    ·exact .inl (cI (q1 h))
    ·exact .inr ⟨hl,cD (q2 h)⟩
   ·rename_i k caps hk;rw [hk] at q1 q2;rcases h with h|⟨hl,h⟩
    ·exact .inl (cI (q1 h))
    ·exact .inr ⟨hl,cD (q2 h)⟩
   ·rename_i j hj;rw [hj] at q2;exact .inr ⟨h.1,cD (q2 h.2)⟩
   ·rename_i k caps hk;rw [hk] at q1 q2;rcases h with h|⟨hl,h⟩
    ·exact .inl (cI (q1 h))
    ·exact .inr ⟨hl,cD (q2 h)⟩
   ·exact h.elim
  ·exact h.elim
 ·exact h.elim
theorem trace {lo:List Nat} {σk:aa} (hlo : ∀(j:Nat) o,ops.toList[j]? = some o→lo.contains j=true→sy o.op=false∧eO o.op=false) {base:Nat} {F0:Nat→V} {σ0:aa} {K:aF→aa→Prop} : ∀(r:List Oper) (i:Nat) (e:aF) (σp acc:aa) (ρ:Nat→gP),ops.toList.drop i=r→opsL P G lo σk ops base i r e σp acc K→i≤ops.size →
 (∀t,e.get t=eS ops.toList ρ F0 bE i t)→σp=bS ρ σ0 i→σp++acc=sS ρ σ0 bE i→(∀j,j<i→ql P G lo σk ops base ρ F0 σ0 j) →
 ∃ρ' e',(∀j,j<ops.size→ql P G lo σk ops base ρ' F0 σ0 j)∧K e' (sS ρ' σ0 bE ops.size) ∧ ∀t,e'.get t=eS ops.toList ρ' F0 bE ops.size t
 | [],i,e,σp,acc,ρ,hr,h,hi,he,hb,hs,hl=>by
  have:ops.size≤i:=by
   have:=congrArg List.length hr;simp at this;omega
  have:i=ops.size:=by omega
  subst this;refine ⟨ρ,e,hl,?_,he⟩;rw [←hs];exact h
 | o::r,i,e,σp,acc,ρ,hr,h,hi,he,hb,hs,hl=>by
  have hlt:i<ops.size:=by
   have:=congrArg List.length hr;simp at this;omega
  have ho:ops.toList[i]? = some o:=by
   have h1:(ops.toList.drop i)[0]? = some o:=by rw [hr];rfl
   rwa [List.getElem?_drop,Nat.add_zero] at h1
  have hr':ops.toList.drop (i+1)=r:=by
   rw [←List.drop_drop,hr];rfl
  obtain ⟨e',b,g1,g2,g3,g4⟩:=nN (show bT ops o e _ _ from h);have hee:e'.get=eS ops.toList ρ F0 bE i:=funext fun t=>(g1 t).trans (he t)
  have ext : ∀(rc:gP),∃ρ1:Nat→gP,ρ1 i=rc ∧ ∀j,j<i→ρ j=ρ1 j:=fun rc=>⟨fun j=>if j=i then rc else ρ j,by simp,fun j hj=>by simp [show j≠i by omega]⟩
  have putE : ∀(ρ1:Nat→gP) (v:V),(∀j,j<i→ρ j=ρ1 j)→(ρ1 i).val=v → ∀t,(e'.putO o.dst v).get t=eS ops.toList ρ1 F0 bE (i+1) t:=by
   intro ρ1 v h1 h2 t;simp only [eS,ho,Option.bind_some,h2];rw [←co h1,←hee];cases hd:o.dst with
   | none=>simp [aF.putO]
   | some d=>simp [aF.putO,aF.get_put]
  cases b with
  | false=>
   obtain ⟨ρ1,q1,q2⟩:=ext .skip;refine trace hlo r (i+1) _ σp acc ρ1 hr' (g4 rfl) (by omega) (putE ρ1 (.tup []) q2 (by rw [q1];rfl)) (by simp only [bS,q1];rw [←d8 q2];exact hb) (by simp only [sS,q1,gP.app,if_true];rw [←ey q2];exact hs) (fun j hj =>?_);rcases Nat.lt_or_ge j i with hji|hji
   ·exact (hl j hji).congr (fun k hk=>q2 k (by omega))
   ·have:j=i:=by omega
    subst this;intro o' ho';rw [ho] at ho';injection ho' with ho';subst ho';refine ⟨false,fun w I β a hh=>g2 w I β a (fun t ht =>?_),by rw [q1]⟩;rw [he t,co q2];exact hh t ht
  | true=>
   have h5:=g3 rfl;have goE : ∀(v:V) (σ':aa),opsL P G lo σk ops base (i+1) r (e'.putO o.dst v) σ' [] K→a8 P G o (i2 G e'.get) (σp++acc) (base+4*i) v σ'→m7 lo i o.op=false→(sy o.op=true∨fA lo ops i=true)→(aY σk σ'∨tj lo ops i=true) →
    ∃ρ' e',(∀j,j<ops.size→ql P G lo σk ops base ρ' F0 σ0 j)∧K e' (sS ρ' σ0 bE ops.size) ∧ ∀t,e'.get t=eS ops.toList ρ' F0 bE ops.size t:=by
    intro v σ' hK hsem hE1 hE2 hE3;obtain ⟨ρ1,q1,q2⟩:=ext (.e v σ');refine trace hlo r (i+1) _ σ' [] ρ1 hr' hK (by omega) (putE ρ1 v q2 (by rw [q1];rfl)) (by simp only [bS,q1]) (by simp only [sS,q1,gP.app,if_true,List.append_nil]) (fun j hj =>?_);rcases Nat.lt_or_ge j i with hji|hji
    ·exact (hl j hji).congr (fun k hk=>q2 k (by omega))
    ·have:j=i:=by omega
     subst this;intro o' ho';rw [ho] at ho';injection ho' with ho';subst ho';refine ⟨true,fun w I β a hh=>g2 w I β a (fun t ht =>?_),?_⟩
     ·rw [he t,co q2];exact hh t ht
     ·rw [q1];refine ⟨rfl,⟨hE1,hE2,hE3⟩,?_⟩;rw [hee,hs,ey q2] at hsem;rwa [show eS ops.toList ρ F0 bE j=eS ops.toList ρ1 F0 bE j from funext fun t=>co q2 t] at hsem
   have goQ : ∀(v:V) (new:aa),opsL P G lo σk ops base (i+1) r (e'.putO o.dst v) σp (acc++new) K→jK (base+4*i) new→dp P G o (i2 G e'.get) σp (base+4*i) v new→m7 lo i o.op=false →
    ∃ρ' e',(∀j,j<ops.size→ql P G lo σk ops base ρ' F0 σ0 j)∧K e' (sS ρ' σ0 bE ops.size) ∧ ∀t,e'.get t=eS ops.toList ρ' F0 bE ops.size t:=by
    intro v new hK hnew hsem hpr;obtain ⟨ρ1,q1,q2⟩:=ext (.q v new);refine trace hlo r (i+1) _ σp (acc++new) ρ1 hr' hK (by omega) (putE ρ1 v q2 (by rw [q1];rfl)) (by simp only [bS,q1];rw [←d8 q2];exact hb) (by simp only [sS,q1,gP.app,if_true];rw [←ey q2,←hs,List.append_assoc]) (fun j hj =>?_);rcases Nat.lt_or_ge j i with hji|hji
    ·exact (hl j hji).congr (fun k hk=>q2 k (by omega))
    ·have:j=i:=by omega
     subst this;intro o' ho';rw [ho] at ho';injection ho' with ho';subst ho';refine ⟨true,fun w I β a hh=>g2 w I β a (fun t ht =>?_),?_⟩
     ·rw [he t,co q2];exact hh t ht
     ·rw [q1];refine ⟨rfl,hpr,hnew,?_⟩;rw [hee,hb,d8 q2] at hsem;rwa [show eS ops.toList ρ F0 bE j=eS ops.toList ρ1 F0 bE j from funext fun t=>co q2 t] at hsem
   have goP : ∀(v:V),opsL P G lo σk ops base (i+1) r (e'.putO o.dst v) σp acc K→m7 lo i o.op=true→(∀σ,(lo.contains i=true→aY σk σ)→a8 P G o (i2 G e'.get) σ (base+4*i) v σ) →
    ∃ρ' e',(∀j,j<ops.size→ql P G lo σk ops base ρ' F0 σ0 j)∧K e' (sS ρ' σ0 bE ops.size) ∧ ∀t,e'.get t=eS ops.toList ρ' F0 bE ops.size t:=by
    intro v hK hpr hsem;obtain ⟨ρ1,q1,q2⟩:=ext (.p v);refine trace hlo r (i+1) _ σp acc ρ1 hr' hK (by omega) (putE ρ1 v q2 (by rw [q1];rfl)) (by simp only [bS,q1];rw [←d8 q2];exact hb) (by simp only [sS,q1,gP.app,if_true];rw [←ey q2];exact hs) (fun j hj =>?_);rcases Nat.lt_or_ge j i with hji|hji
    ·exact (hl j hji).congr (fun k hk=>q2 k (by omega))
    ·have:j=i:=by omega
     subst this;intro o' ho';rw [ho] at ho';injection ho' with ho';subst ho';refine ⟨true,fun w I β a hh=>g2 w I β a (fun t ht =>?_),?_⟩
     ·rw [he t,co q2];exact hh t ht
     ·rw [q1];refine ⟨rfl,hpr,fun σ hσ =>?_⟩;have hsem:=hsem σ hσ;rw [hee] at hsem;rwa [show eS ops.toList ρ F0 bE j=eS ops.toList ρ1 F0 bE j from funext fun t=>co q2 t] at hsem
   have prN:lo.contains i=false→nQ o.op=false→m7 lo i o.op=false:=fun h1 h2=>by unfold m7;rw [h1,h2];rfl
   have loN : ∀b:Bool,(lo.contains i=true→b=false)→b=true→lo.contains i=false:=fun b h1 h2=>by
    cases hc:lo.contains i with
    | false=>rfl
    | true=>rw [h1 hc] at h2;cases h2
   split at h5
   ·rename_i hE;obtain ⟨v,σ',hsK,hsem⟩:=cD h5;obtain ⟨hsub,hK⟩:=mR hsK;exact goE v σ' hK hsem (prN (loN _ (fun hc=>(hlo i o ho hc).1) hE) (AT hE)) (.inl hE) hsub
   ·rename_i hE;split at h5
    ·rename_i hV;have hN:=loN _ (fun hc=>(hlo i o ho hc).2) hV;obtain ⟨hpr,h6⟩:=oq h5;rcases h6 with ⟨v,new,hK,hnew,hsem⟩|⟨hlate,v,σ',hsK,hsem⟩
     ·exact goQ v new hK hnew hsem (prN hN hpr)
     ·obtain ⟨hsub,hK⟩:=mR hsK;exact goE v σ' hK hsem (prN hN hpr) (.inr hlate) hsub
    ·split at h5
     ·rename_i hL;obtain ⟨v,new,⟨hnil,hK⟩,hnew,hsem⟩:=cI h5;subst hnil;refine goP v hK (by unfold m7;rw [hL];simp) (fun σ hσ =>?_);have:=hsem σ (hσ hL);rwa [List.append_nil] at this
     ·rename_i hL;cases hpr:nQ o.op with
      | true=>
       obtain ⟨v,hK,hsem⟩:=uG hpr h5;rw [List.append_nil] at hK;exact goP v hK (by unfold m7;rw [hpr];rfl) (fun σ _=>hsem σ _)
      | false=>
       obtain ⟨v,new,hK,hnew,hsem⟩:=cI h5;exact goQ v new hK hnew hsem (prN (by simpa using hL) hpr)
end
section
variable {P:Program} {G:Gl} {C:mA} {ops:Array Oper} {Q:Exit→Act→World→Prop} {ρ:Nat→gP} {F0:Nat→V} {σ0 σk:aa} {base nx:Nat} {lo:List Nat}
theorem iz (hd:cu lo ops=true) {i j:Nat} {x y:Oper} (hx:ops.toList[i]? = some x) (hy:ops.toList[j]? = some y) (hij:i<j) (hc:fp lo ops i x j y=true) {S:Nat→Bool} (hS:fl ops.toList S) (hj:S j=true):S i=true:=by
 have h1:=(kP ops.toList 0 hd j y hy).2;rw [Nat.zero_add] at h1;have h2:=pA ops.toList 0 h1 i x hx (by omega) (by rw [Nat.zero_add];exact hc);rw [Nat.zero_add] at h2;have hl:=gT ops.toList [];have hjl:j<(iX [] ops.toList).length:=by
  have:=(List.getElem?_eq_some_iff.1 hy).1;rw [hl];simp at this ⊢;omega
 have h3:=dP hS ops.toList [] rfl (by simp) j _ (List.getElem?_eq_getElem hjl) hj i;apply h3;simpa [List.getD,List.getElem?_eq_getElem hjl] using h2
def Ew (lo:List Nat) (ops:Array Oper) (i:Nat):Prop:= ∀(j:Nat) x,ops.toList[j]? = some x→m7 lo j x.op=false → ∀S:Nat→Bool,fl ops.toList S→(j<i→S i=true→S j=true)∧(i<j→S j=true→S i=true)
theorem om (hd:cu lo ops=true) {i:Nat} {o:Oper} (ho:ops.toList[i]? = some o) (h:sy o.op=true∨fA lo ops i=true):Ew lo ops i:=by
 intro j x hx hpx S hS;rcases h with h|h
 ·exact ⟨fun hlt hi=>iz hd hx ho hlt (by simp [fp,h,hpx]) hS hi,fun hlt hj=>iz hd ho hx hlt (by simp [fp,h,hpx]) hS hj⟩
 ·have h2:=qU ops.toList 0 h j x hx (by rw [Nat.zero_add];exact hpx);rw [Nat.zero_add] at h2;have hl:=gT ops.toList [];have fin : ∀ {a b:Nat},a<ops.toList.length→((iX [] ops.toList).getD a 0).testBit b=true→S a=true→S b=true:=by
   intro a b ha hb hSa;have hal:a<(iX [] ops.toList).length:=by rw [hl];simpa using ha
   exact dP hS ops.toList [] rfl (by simp) a _ (List.getElem?_eq_getElem hal) hSa b (by simpa [List.getD,List.getElem?_eq_getElem hal] using hb)
  exact ⟨fun hlt hi=>fin (List.getElem?_eq_some_iff.1 ho).1 (h2.1 hlt) hi,fun hlt hj=>fin (List.getElem?_eq_some_iff.1 hx).1 (h2.2 hlt) hj⟩
theorem yA (hd:cu lo ops=true) {j:Nat} {y:Oper} (hy:ops.toList[j]? = some y) {e:Edge} (he:e∈y.after.toList) (hb:Region.binds .any e=true):e.on<j:=by
 have h1:=(kP ops.toList 0 hd j y hy).1;rw [Nat.zero_add] at h1;have:=List.all_eq_true.1 h1 e he;simpa [hb] using this
theorem oS {i j:Nat} {x y:Oper} {t:Nat} (h:x.dst=some t) (h':t∈dD ops y):fp lo ops i x j y=true:=by
 simp [fp,si,h,h']
theorem tN {i j:Nat} {x y:Oper} {t:Nat} (h:y.dst=some t) (h':t∈dD ops x):fp lo ops i x j y=true:=by
 simp [fp,si,h,h']
theorem ut {x:Oper} {t:Nat} (h:x.dst=some t):t∈dD ops x:=by simp [dD,h]
theorem lC {x:Oper} {t:Nat} (h:t∈x.looksAt ops):t∈dD ops x:=by simp [dD,h]
theorem ql.pr {S:Nat} {o:Oper} (h:ql P G lo σk ops base ρ F0 σ0 S) (ho:ops.toList[S]? = some o) (hp:m7 lo S o.op=true) (σ:aa):(ρ S).app σ=σ:=by
 obtain ⟨b,_,hl⟩:=h o ho;cases hr:ρ S with
 | skip=>rfl
 | p v=>rfl
 | q v new=>rw [hr] at hl;rw [hl.2.1] at hp;cases hp
 | e v σ'=>rw [hr] at hl;rw [hl.2.1.1] at hp;cases hp
structure Nx (ops:Array Oper) (S S':Nat→Bool) (i:Nat) (o:Oper):Prop where
 ho:ops.toList[i]? = some o
 not:S i=false
 cl:fl ops.toList S
 cl':fl ops.toList S'
 same : ∀j,S' j=if j=i then true else S j
variable {S S':Nat→Bool} {i:Nat} {o:Oper}
theorem Nx.ahead (h:Nx ops S S' i o) (hd:cu lo ops=true) {j:Nat} {x:Oper} (hx:ops.toList[j]? = some x) (hji:j<i) (hc:fp lo ops j x i o=true):S j=true:=by
 have:=iz hd hx h.ho hji hc h.cl' (by rw [h.same];simp);rw [h.same] at this;simpa [show j≠i by omega] using this
theorem Nx.behind (h:Nx ops S S' i o) (hd:cu lo ops=true) {j:Nat} {x:Oper} (hx:ops.toList[j]? = some x) (hij:i<j) (hc:fp lo ops i o j x=true):S j=false:=by
 cases hj:S j with
 | false=>rfl
 | true=>
  have:=iz hd h.ho hx hij hc h.cl hj;rw [h.not] at this;cases this
theorem Nx.looks (h:Nx ops S S' i o) (hd:cu lo ops=true) {t:Nat} (ht:t∈dD ops o) : ∀m,eS ops.toList ρ F0 S m t=if m≤i then eS ops.toList ρ F0 bE m t else eS ops.toList ρ F0 bE i t:=by
 intro m;induction m with
 | zero=>simp [eS]
 | succ m ih=>
  by_cases hm:m+1≤i
  ·rw [if_pos hm];rw [if_pos (by omega)] at ih;simp only [eS,ih];by_cases hdt:(ops.toList[m]?).bind (·.dst)=some t
   ·cases hx:ops.toList[m]? with
    | none=>simp [hx] at hdt
    | some x=>
     have hxd:x.dst=some t:=by simpa [hx] using hdt
     have:=h.ahead hd hx (by omega) (oS hxd ht);simp [this]
   ·rw [if_neg (fun e=>hdt e.2),if_neg (fun e=>hdt e.2)]
  ·rw [if_neg hm];have hmi:eS ops.toList ρ F0 S m t=eS ops.toList ρ F0 bE i t:=by
    rw [ih];by_cases h1:m≤i
    ·have:m=i:=by omega
     subst this;simp
    ·rw [if_neg h1]
   simp only [eS];rw [if_neg ?_]
   ·exact hmi
   ·rintro ⟨e1,e2⟩;by_cases h1:m=i
    ·subst h1;rw [h.not] at e1;cases e1
    ·cases hx:ops.toList[m]? with
     | none=>simp [hx] at e2
     | some x=>
      have hxd:x.dst=some t:=by simpa [hx] using e2
      have:=h.behind hd hx (by omega) (tN hxd ht);rw [this] at e1;cases e1
theorem Nx.env (h:Nx ops S S' i o) (hd:cu lo ops=true) (t:Nat) : ∀m,eS ops.toList ρ F0 S' m t=if i<m∧o.dst=some t then (ρ i).val else eS ops.toList ρ F0 S m t:=by
 intro m;induction m with
 | zero=>simp [eS]
 | succ m ih=>
  have e1:eS ops.toList ρ F0 S' (m+1) t=if S' m=true∧(ops.toList[m]?).bind (·.dst)=some t then (ρ m).val else eS ops.toList ρ F0 S' m t:=rfl
  have e2:eS ops.toList ρ F0 S (m+1) t=if S m=true∧(ops.toList[m]?).bind (·.dst)=some t then (ρ m).val else eS ops.toList ρ F0 S m t:=rfl
  have e3:=h.same m;rw [e1,e2,ih];rcases Nat.lt_trichotomy m i with hlt|heq|hgt
  ·rw [if_neg (show ¬m=i by omega)] at e3;have n1 : ¬(i<m∧o.dst=some t):=by omega
   have n2 : ¬(i<m+1∧o.dst=some t):=by omega
   rw [e3,if_neg n1,if_neg n2]
  ·subst heq;have n1 : ¬(m<m∧o.dst=some t):=by omega
   rw [if_pos rfl] at e3;rw [e3,if_neg n1,h.ho,h.not];simp
  ·rw [if_neg (show ¬m=i by omega)] at e3;rw [e3];by_cases hdt:o.dst=some t
   ·have hno : ¬(S m=true∧(ops.toList[m]?).bind (·.dst)=some t):=by
     rintro ⟨q1,q2⟩;cases hx:ops.toList[m]? with
     | none=>simp [hx] at q2
     | some x=>
      have hxd:x.dst=some t:=by simpa [hx] using q2
      have:=h.behind hd hx (by omega) (oS hdt (ut hxd));rw [this] at q1;cases q1
    rw [if_neg hno,if_pos ⟨by omega,hdt⟩,if_pos ⟨by omega,hdt⟩]
   ·rw [if_neg (fun e:i<m∧o.dst=some t=>hdt e.2),if_neg (fun e:i<m+1∧o.dst=some t=>hdt e.2)]
theorem Nx.under (h:Nx ops S S' i o) (hd:cu lo ops=true) (hop:m7 lo i o.op=false) (hloc : ∀j,j<ops.size→ql P G lo σk ops base ρ F0 σ0 j) : ∀m,m≤ops.size → ∃τ,sS ρ σ0 S m=(if m≤i then bS ρ σ0 m else bS ρ σ0 i)++τ:=by
 intro m;induction m with
 | zero=>intro _;exact ⟨[],by simp [sS,bS]⟩
 | succ m ih=>
  intro hm;obtain ⟨τ,hτ⟩:=ih (by omega);have hx : ∃x,ops.toList[m]? = some x:=⟨_,List.getElem?_eq_getElem (by simp;omega)⟩
  obtain ⟨x,hx⟩:=hx;obtain ⟨b,_,hl⟩:=hloc m (by omega) x hx;by_cases hmi:m+1≤i
  ·rw [if_pos hmi];rw [if_pos (by omega)] at hτ;simp only [sS,bS];cases hr:ρ m with
   | skip=>simp only [gP.app];split<;>exact ⟨τ,hτ⟩
   | p v=>simp only [gP.app];split<;>exact ⟨τ,hτ⟩
   | q v new=>
    simp only [gP.app];split
    ·exact ⟨τ++new,by rw [hτ,List.append_assoc]⟩
    ·exact ⟨τ,hτ⟩
   | e v σ'=>
    rw [hr] at hl;have hT:=om hd hx hl.2.1.2.1;have h9:=(hT i o h.ho hop S' h.cl').2 (by omega) (by rw [h.same];simp);rw [h.same,if_neg (by omega)] at h9;rw [if_pos h9];exact ⟨[],by simp [gP.app]⟩
  ·rw [if_neg hmi];have hτ':sS ρ σ0 S m=bS ρ σ0 i++τ:=by
    rw [hτ];by_cases h1:m≤i
    ·have:m=i:=by omega
     subst this;simp
    ·rw [if_neg h1]
   simp only [sS];by_cases h1:m=i
   ·subst h1;rw [h.not,if_neg (by simp)];exact ⟨τ,hτ'⟩
   ·cases hr:ρ m with
    | skip=>simp only [gP.app];split<;>exact ⟨τ,hτ'⟩
    | p v=>simp only [gP.app];split<;>exact ⟨τ,hτ'⟩
    | q v new=>
     simp only [gP.app];split
     ·exact ⟨τ++new,by rw [hτ',List.append_assoc]⟩
     ·exact ⟨τ,hτ'⟩
    | e v σ'=>
     rw [hr] at hl;have hT:=om hd hx hl.2.1.2.1;have this:S m=false:=by
      cases hs:S m with
      | false=>rfl
      | true=>
       have h9:=(hT i o h.ho hop S h.cl).1 (by omega) hs;rw [h.not] at h9;cases h9
     rw [this,if_neg (by simp)];exact ⟨τ,hτ'⟩
theorem Nx.early (h:Nx ops S S' i o) : ∀n,n≤i→sS ρ σ0 S' n=sS ρ σ0 S n:=by
 intro n;induction n with
 | zero=>intro _;rfl
 | succ n ihn=>
  intro hn;have e1:sS ρ σ0 S' (n+1)=if S' n=true then (ρ n).app (sS ρ σ0 S' n) else sS ρ σ0 S' n:=rfl
  have e3:=h.same n;rw [if_neg (show ¬n=i by omega)] at e3;rw [e1,e3,ihn (by omega)];rfl
theorem Nx.sig (h:Nx ops S S' i o) (hd:cu lo ops=true) {new:aa} (hop:m7 lo i o.op=false∨new=[]) (hloc : ∀j,j<ops.size→ql P G lo σk ops base ρ F0 σ0 j) (hq : ∀σ,(ρ i).app σ=σ++new) (hnew:jK (base+4*i) new) : ∀m,m≤ops.size → ∀k,(sS ρ σ0 S' m).get k=if i<m then (sS ρ σ0 S m++new).get k else (sS ρ σ0 S m).get k:=by
 intro m;induction m with
 | zero=>intro _ k;simp [sS]
 | succ m ih=>
  intro hm k;have ih:=ih (by omega);obtain ⟨x,hx⟩ : ∃x,ops.toList[m]? = some x:=⟨_,List.getElem?_eq_getElem (by simp;omega)⟩
  obtain ⟨b,_,hl⟩:=hloc m (by omega) x hx;rcases Nat.lt_trichotomy m i with hlt|heq|hgt
  ·rw [if_neg (by omega)];rw [h.early (m+1) (by omega)]
  ·subst heq;rw [if_pos (by omega)];simp only [sS];rw [h.same,if_pos rfl,if_pos rfl,h.not,if_neg (by simp),hq,h.early m (Nat.le_refl _)]
  ·rw [if_pos (by omega)];have ih:=fun k=>(ih k).trans (if_pos hgt)
   have s1:sS ρ σ0 S' (m+1)=if S' m=true then (ρ m).app (sS ρ σ0 S' m) else sS ρ σ0 S' m:=rfl
   have s2:sS ρ σ0 S (m+1)=if S m=true then (ρ m).app (sS ρ σ0 S m) else sS ρ σ0 S m:=rfl
   have e3:=h.same m;rw [if_neg (show ¬m=i by omega)] at e3;rw [s1,s2,e3];cases hs:S m with
   | false=>simp only [Bool.false_eq_true,if_false];exact ih k
   | true=>
    simp only [if_true];cases hr:ρ m with
    | skip=>exact ih k
    | p v=>exact ih k
    | q v nw=>
     rw [hr] at hl;simp only [gP.app];have hdis : ∀b b',nw.get k=some b→new.get k=some b'→False:=by
      intro b b' h1 h2;have:=hl.2.2.1 k b h1;have:=hnew k b' h2;omega
     have g1:(sS ρ σ0 S' m++nw).get k=match (sS ρ σ0 S' m).get k with|some b=>some b|none=>nw.get k:=bJ _ _ _
     have g2:(sS ρ σ0 S m++nw++new).get k=match (sS ρ σ0 S m++nw).get k with|some b=>some b|none=>new.get k:=bJ _ _ _
     have g3:(sS ρ σ0 S m++nw).get k=match (sS ρ σ0 S m).get k with|some b=>some b|none=>nw.get k:=bJ _ _ _
     have g4:(sS ρ σ0 S m++new).get k=match (sS ρ σ0 S m).get k with|some b=>some b|none=>new.get k:=bJ _ _ _
     rw [g1,g2,g3,ih,g4];cases hg:(sS ρ σ0 S m).get k with
     | some b=>rfl
     | none=>
      simp only [];cases h1:nw.get k with
      | none=>cases new.get k<;>rfl
      | some b1=>
       cases h2:new.get k with
       | none=>rfl
       | some b2=>exact (hdis b1 b2 h1 h2).elim
    | e v σ'=>
     rw [hr] at hl;rcases hop with hop|rfl
     ·have hT:=om hd hx hl.2.1.2.1;have h9:=(hT i o h.ho hop S h.cl).1 (by omega) hs;rw [h.not] at h9;cases h9
     ·simp [gP.app]
theorem Nx.eff (h:Nx ops S S' i o) (hloc : ∀j,j<ops.size→ql P G lo σk ops base ρ F0 σ0 j) (hE:m7 lo i o.op=false) (hT:Ew lo ops i) : ∀m,m≤ops.size→sS ρ σ0 S m=sS ρ σ0 bE (min m i)∧sS ρ σ0 S' m=if i<m then (ρ i).app (sS ρ σ0 bE i) else sS ρ σ0 bE m:=by
 intro m;induction m with
 | zero=>intro _;simp [sS]
 | succ m ih=>
  intro hm;obtain ⟨ih1,ih2⟩:=ih (by omega);obtain ⟨x,hx⟩ : ∃x,ops.toList[m]? = some x:=⟨_,List.getElem?_eq_getElem (by simp;omega)⟩
  have s1:sS ρ σ0 S' (m+1)=if S' m=true then (ρ m).app (sS ρ σ0 S' m) else sS ρ σ0 S' m:=rfl
  have s2:sS ρ σ0 S (m+1)=if S m=true then (ρ m).app (sS ρ σ0 S m) else sS ρ σ0 S m:=rfl
  have s3:sS ρ σ0 bE (m+1)=(ρ m).app (sS ρ σ0 bE m):=rfl;have e3:=h.same m;rw [s1,s2,e3];cases hpr:m7 lo m x.op with
  | true=>
   have hno:m≠i:=by
    rintro rfl;rw [h.ho] at hx;injection hx with hx;subst hx;rw [hE] at hpr;cases hpr
   have ha:=fun σ=>(hloc m (by omega)).pr hx hpr σ
   rw [if_neg hno,ha,ha,s3,ha];have hS : ∀(b:Bool) (σ:aa),(if b=true then σ else σ)=σ:=fun b σ=>by cases b<;>rfl
   rw [hS,hS,ih1,ih2];rcases Nat.lt_or_gt_of_ne hno with hlt|hgt
   ·have e1:min (m+1) i=m+1:=by omega
    have e2:min m i=m:=by omega
    rw [e1,e2,s3,ha,if_neg (show ¬i<m by omega),if_neg (show ¬i<m+1 by omega)];exact ⟨rfl,rfl⟩
   ·have e1:min (m+1) i=min m i:=by omega
    rw [e1,if_pos (show i<m by omega),if_pos (show i<m+1 by omega)];exact ⟨rfl,rfl⟩
  | false=>
  rcases Nat.lt_trichotomy m i with hlt|heq|hgt
  ·have hs:=(hT m x hx hpr S' h.cl').1 hlt (by rw [h.same];simp);rw [h.same,if_neg (by omega)] at hs;have e1:min (m+1) i=m+1:=by omega
   have e2:min m i=m:=by omega
   rw [e2] at ih1;rw [if_neg (show ¬i<m by omega)] at ih2;rw [e1,if_neg (show ¬i<m+1 by omega),if_neg (show ¬m=i by omega),hs,s3,ih1,ih2];simp
  ·subst heq;have e1:min (m+1) m=m:=by omega
   have e2:min m m=m:=by omega
   rw [e2] at ih1;rw [if_neg (show ¬m<m by omega)] at ih2;rw [e1,if_pos (show m<m+1 by omega),if_pos rfl,h.not,ih1,ih2];simp
  ·have hs:S m=false:=by
    cases hs:S m with
    | false=>rfl
    | true=>
     have h9:=(hT m x hx hpr S h.cl).2 hgt hs;rw [h.not] at h9;cases h9
   have e1:min (m+1) i=min m i:=by omega
   rw [if_pos hgt] at ih2;rw [e1,if_pos (show i<m+1 by omega),if_neg (show ¬m=i by omega),hs,ih1,ih2];simp
end
section
variable {P:Program} {G:Gl} {C:mA} {ops:Array Oper} {Q:Exit→Act→World→Prop} {ρ:Nat→gP} {F0:Nat→V} {σ0 σk:aa} {base nx:Nat} {lo:List Nat} {fr:Option Nat}
abbrev cH (listed:Array Bool):Nat→Bool:=fun j=>listed.getD j true
def As (C:mA) (G:Gl) (ops:Array Oper) (ρ:Nat→gP) (F0:Nat→V) (σ0:aa) (base nx:Nat) (S:Nat→Bool) (a:Act) (w:World):Prop:=
 ∃I β,al C.w C.I C.β C.σ C.nx w I β (sS ρ σ0 S ops.size) nx∧(∀j,j<ops.size→S j=false → ∀k,base+4*j≤k→k<base+4*j+4→β k=none)∧(∀k,base+4*ops.size≤k→β k=none) ∧
  (∀t,aA w I β (eS ops.toList ρ F0 S ops.size t) (a.tmps.getD t undef))∧a.tmps.size=C.n∧gy C.w.heap.size C.hd w I β (sS ρ σ0 S ops.size) a.defers∧ta G w I
theorem uI {listed:Array Bool} {i:Nat} (h:i∈Region.ready .any ops listed):i<ops.size∧listed.getD i true=false ∧ ∀o,ops[i]? = some o → ∀e∈o.after.toList,Region.binds .any e=true→listed.getD e.on false=true:=by
 unfold Region.ready at h;simp only [List.mem_filter,List.mem_range,Bool.and_eq_true,Bool.not_eq_true'] at h;refine ⟨h.1,h.2.1,fun o ho e he hb =>?_⟩;have h2:=h.2.2;rw [ho] at h2;simp only [Option.map_some,Option.getD_some,Array.all_eq_true'] at h2;have:=h2 e (by simpa using he);simpa [hb] using this
theorem AA {S:Nat→Bool} (hS:fl ops.toList S) {a b:Nat} (ha:a<ops.toList.length) (h:((iX [] ops.toList).getD a 0).testBit b=true) (hSa:S a=true):S b=true:=by
 have hl:=gT ops.toList [];have hal:a<(iX [] ops.toList).length:=by rw [hl];simpa using ha
 exact dP hS ops.toList [] rfl (by simp) a _ (List.getElem?_eq_getElem hal) hSa b (by simpa [List.getD,List.getElem?_eq_getElem hal] using h)
theorem Bi (hk:aY σk σ0) (hloc : ∀j,j<ops.size→ql P G lo σk ops base ρ F0 σ0 j) (S:Nat→Bool) (hS : ∀j,j<ops.size→S j=true→tj lo ops j=true→False) : ∀m,m≤ops.size→aY σk (sS ρ σ0 S m):=by
 intro m;induction m with
 | zero=>intro _;exact hk
 | succ m ih=>
  intro hm;have ih:=ih (by omega);obtain ⟨x,hx⟩ : ∃x,ops.toList[m]? = some x:=⟨_,List.getElem?_eq_getElem (by simp;omega)⟩
  obtain ⟨b,_,hl⟩:=hloc m (by omega) x hx;simp only [sS];split
  ·rename_i hSm;cases hr:ρ m with
   | skip=>exact ih
   | p v=>exact ih
   | q v new=>
    intro j bl hj;show aa.get (sS ρ σ0 S m++new) j=_;rw [bJ,ih j bl hj]
   | e v σ'=>
    rw [hr] at hl;rcases hl.2.1.2.2 with h|h
    ·exact h
    ·exact (hS m (by omega) hSm h).elim
  ·exact ih
theorem tn (hk:aY σk σ0) (hd:cu lo ops=true) (hn:base+4*ops.size≤nx) (hdst : ∀(i:Nat) o x,ops[i]? = some o→o.dst=some x→x<C.n) (hloc : ∀j,j<ops.size→ql P G lo σk ops base ρ F0 σ0 j)
 (hQ : ∀a w,As C G ops ρ F0 σ0 base nx bE a w→Q .normal a w) :
 ∀(fuel:Nat) (listed:Array Bool) (a:Act) (w:World),listed.size=ops.size→fl ops.toList (cH listed)→As C G ops ρ F0 σ0 base nx (cH listed) a w→(List.range ops.size).countP (fun j=> !cH listed j)≤fuel→wpAnyIn (Fr fr) 0 P .any ops Q fuel listed a w:=by
 intro fuel;have fin : ∀(listed:Array Bool) (a:Act) (w:World),(∀j,j<ops.size→cH listed j=true)→As C G ops ρ F0 σ0 base nx (cH listed) a w→Q .normal a w:=by
  intro listed a w hall hrel;apply hQ;obtain ⟨I,β,h1,h2,h3,h4,h5,h6,h7⟩:=hrel;have e1 : ∀m,m≤ops.size→sS ρ σ0 (cH listed) m=sS ρ σ0 bE m:=by
   intro m;induction m with
   | zero=>intro _;rfl
   | succ m ih=>
    intro hm;have q:sS ρ σ0 (cH listed) (m+1)=if cH listed m=true then (ρ m).app (sS ρ σ0 (cH listed) m) else sS ρ σ0 (cH listed) m:=rfl
    rw [q,hall m (by omega),ih (by omega)];rfl
  have e2 : ∀m,m≤ops.size → ∀t,eS ops.toList ρ F0 (cH listed) m t=eS ops.toList ρ F0 bE m t:=by
   intro m;induction m with
   | zero=>intro _ _;rfl
   | succ m ih=>
    intro hm t;have q:eS ops.toList ρ F0 (cH listed) (m+1) t=if cH listed m=true∧(ops.toList[m]?).bind (·.dst)=some t then (ρ m).val else eS ops.toList ρ F0 (cH listed) m t:=rfl
    rw [q,hall m (by omega),ih (by omega)];rfl
  refine ⟨I,β,by rw [←e1 _ (Nat.le_refl _)];exact h1,(fun j _ hj=>by cases hj),h3,(fun t=>by rw [←e2 _ (Nat.le_refl _)];exact h4 t),h5,(by rw [←e1 _ (Nat.le_refl _)];exact h6),h7⟩
 have done : ∀(listed:Array Bool),listed.size=ops.size→Region.ready .any ops listed=[] → ∀j,j<ops.size→cH listed j=true:=by
  intro listed hsz hr j;induction j using Nat.strongRecOn with
  | _ j ih=>
   intro hj;cases hl:cH listed j with
   | true=>rfl
   | false=>
    exfalso;have hoj:ops[j]? = some ops[j]:=by simp [hj]
    have:j∈Region.ready .any ops listed:=by
     unfold Region.ready;simp only [List.mem_filter,List.mem_range,Bool.and_eq_true,Bool.not_eq_true'];refine ⟨hj,hl,?_⟩;rw [hoj];simp only [Option.map_some,Option.getD_some,Array.all_eq_true'];intro e he;cases hb:Region.binds .any e with
     | false=>rfl
     | true=>
      have hlt:=yA hd (j:=j) (y:=ops[j]) (by simp [hj]) (by simpa using he) hb;have:=ih e.on hlt (by omega);simp only [Bool.not_true,Bool.false_or];unfold cH at this;simp only [Array.getD_eq_getD_getElem?] at this ⊢;cases hg:listed[e.on]? with
      | none=>rw [Array.getElem?_eq_none_iff] at hg;omega
      | some b=>rw [hg] at this;simpa using this
    rw [hr] at this;cases this
 induction fuel with
 | zero=>
  intro listed a w hsz hcl hrel hc;have hall : ∀j,j<ops.size→cH listed j=true:=by
   intro j hj;have h0:(List.range ops.size).countP (fun j=> !cH listed j)=0:=by omega
   have:=List.countP_eq_zero.1 h0 j (by simpa using hj);simpa using this
  refine ⟨?_,fin listed a w hall hrel⟩;unfold Region.ready;rw [List.filter_eq_nil_iff];intro j hj;have:=hall j (by simpa using hj);unfold cH at this;simp [this]
 | succ fuel ih=>
  intro listed a w hsz hcl hrel hc;refine ⟨fun hr=>fin listed a w (done listed hsz hr) hrel,fun i hi =>?_⟩;obtain ⟨hi1,hi2,hi3⟩:=uI hi;have hoi:ops[i]? = some ops[i]:=by simp [hi1]
  have hol:ops.toList[i]? = some ops[i]:=by simp [hi1]
  generalize hoo:ops[i]=o at hoi hol;have hS' : ∀j,cH (listed.setIfInBounds i true) j=if j=i then true else cH listed j:=by
   intro j;unfold cH;simp only [Array.getD_eq_getD_getElem?,Array.getElem?_setIfInBounds];by_cases e:i=j
   ·subst e;simp [show i<listed.size by omega]
   ·simp [e,Ne.symm e]
  have hon : ∀e∈o.after.toList,Region.binds .any e=true→cH listed e.on=true:=by
   intro e he hb;have h1:=hi3 o hoi e he hb;unfold cH;simp only [Array.getD_eq_getD_getElem?] at h1 ⊢;cases hg:listed[e.on]? with
   | none=>rfl
   | some b=>rw [hg] at h1;simpa using h1
  have hcl':fl ops.toList (cH (listed.setIfInBounds i true)):=by
   intro j x hx hj e he hb;rw [hS'];rw [hS'] at hj;split
   ·rfl
   ·by_cases hji:j=i
    ·subst hji;rw [hol] at hx;injection hx with hx;subst hx;exact hon e he hb
    ·rw [if_neg hji] at hj;exact hcl j x hx hj e he hb
  have hnx:Nx ops (cH listed) (cH (listed.setIfInBounds i true)) i o:=⟨hol,hi2,hcl,hcl',hS'⟩
  have hcnt:(List.range ops.size).countP (fun j=> !cH (listed.setIfInBounds i true) j)≤fuel:=by
   have h1:(List.range ops.size).countP (fun j=> !cH (listed.setIfInBounds i true) j)<(List.range ops.size).countP (fun j=> !cH listed j):=by
    have h2:(List.range ops.size).countP (fun j=> !cH listed j)=(List.range ops.size).countP (fun j=> !cH (listed.setIfInBounds i true) j)+(List.range ops.size).countP (fun j=>decide (j=i)):=by
     have key : ∀(l:List Nat),l.countP (fun j=> !cH listed j)=l.countP (fun j=> !cH (listed.setIfInBounds i true) j)+l.countP (fun j=>decide (j=i)):=by
      intro l;induction l with
      | nil=>rfl
      | cons x r ihl=>
       simp only [List.countP_cons,ihl,hS'];by_cases hx:x=i
       ·subst hx;rw [show cH listed x=false from hi2];simp;omega
       ·simp [hx];omega
     exact key _
    have h3:0<(List.range ops.size).countP (fun j=>decide (j=i)):=List.countP_pos_iff.2 ⟨i,by simpa using hi1,by simp⟩;omega
   omega
  obtain ⟨I,β,r1,r2,r3,r4,r5,r6,r7⟩:=hrel;obtain ⟨b,l1,l2⟩:=hloc i hi1 o hol;have hlook : ∀t∈dD ops o,eS ops.toList ρ F0 (cH listed) ops.size t=eS ops.toList ρ F0 bE i t:=by
   intro t ht;rw [hnx.looks hd ht ops.size];by_cases h:ops.size≤i
   ·omega
   ·rw [if_neg h]
  have hwant:=l1 w I β a (fun t ht=>by rw [←hlook t (lC ht)];exact r4 t);have hfree : ∀j,base+4*i≤j→j<base+4*i+4→β j=none:=r2 i hi1 hi2;unfold wpOpIn;rw [hoi];simp only [];rw [hwant];have putOk : ∀ {w':World} {I':Nat→Prop} {β':bF} {u:Value} {σ':aa},al w I β (sS ρ σ0 (cH listed) ops.size) nx w' I' β' σ' nx→aA w' I' β' (ρ i).val u → ∀t,aA w' I' β' (eS ops.toList ρ F0 (cH (listed.setIfInBounds i true)) ops.size t) ((a.put o.dst u).tmps.getD t undef):=by
   intro w' I' β' u σ' hst hu t;rw [hnx.env hd t ops.size];cases hdd:o.dst with
   | none=>
    rw [if_neg (by simp)];exact hst.den r1.mem (r4 t)
   | some d=>
    rw [o2 (by rw [r5];exact hdst i o d hoi hdd)];by_cases hdt:d=t
    ·subst hdt;rw [if_pos ⟨hi1,rfl⟩,if_pos rfl];exact hu
    ·rw [if_neg (by simp [hdt]),if_neg hdt];exact hst.den r1.mem (r4 t)
  have hden : ∀x∈o.op.operands.toList,aA w I β (i2 G (eS ops.toList ρ F0 bE i) x) (a.eval x):=by
   intro x hx;cases x with
   | tmp t=>
    have ht:t∈dD ops o:=lC (by simp only [Oper.looksAt,List.mem_append,List.mem_filterMap];left;exact ⟨_,hx,rfl⟩);show aA w I β (eS ops.toList ρ F0 bE i t) _;rw [←hlook t ht];exact r4 t
   | const v=>exact aj.lit v
   | global g=>
    show aA w I β (match G g with|some x=> .d x|none=> .unk) _;cases h:G g with
    | none=>trivial
    | some x=>exact r7 g x h
   | func f=>exact aj.fn f [] [] rfl (by simp)
  cases hr:ρ i with
  | skip=>
   rw [hr] at l2;rw [l2,if_neg (by simp)];have hsig : ∀k,(sS ρ σ0 (cH (listed.setIfInBounds i true)) ops.size).get k=(sS ρ σ0 (cH listed) ops.size).get k:=fun k=>by
    have h1:=hnx.sig hd (new:=[]) (.inr rfl) hloc (by rw [hr];intro σ;simp [gP.app]) (cd _) ops.size (Nat.le_refl _) k;rw [h1,if_pos hi1,List.append_nil]
   refine ⟨fun _ _=>trivial,?_⟩;refine ih _ _ _ (by simpa using hsz) hcl' ⟨I,β,?_,fun j hj hjs=>r2 j hj ?_,r3,?_,by rw [et];exact r5,by rw [cO];exact r6.congr hsig,r7⟩ hcnt
   ·exact r1.congr hsig
   ·rw [hS'] at hjs;split at hjs
    ·cases hjs
    ·exact hjs
   ·exact putOk (al.refl r1.mem) (by rw [hr];exact pW)
  | p v=>
   rw [hr] at l2;obtain ⟨e1,e2,e4⟩:=l2;rw [e1,if_pos rfl];have hdo:=e4 _ (fun hci=>Bi hk hloc (cH listed) (fun j hj hjs ha=>by
    have h1:=List.all_eq_true.1 ha i (by simpa using hci);have h2:=AA hcl (by simpa using hj) h1 hjs;rw [show cH listed i=false from hi2] at h2;cases h2) ops.size (Nat.le_refl _)) w I β nx a r1.mem r7 hfree (by omega) hden
   refine hdo.wpIn (fun u w' ⟨I',β',hu,hst,hfr⟩ =>?_);have hsig : ∀k,(sS ρ σ0 (cH (listed.setIfInBounds i true)) ops.size).get k=(sS ρ σ0 (cH listed) ops.size).get k:=fun k=>by
    have h1:=hnx.sig hd (new:=[]) (.inr rfl) hloc (by rw [hr];intro σ;simp [gP.app]) (cd _) ops.size (Nat.le_refl _) k;rw [h1,if_pos hi1,List.append_nil]
   refine ih _ _ _ (by simpa using hsz) hcl' ⟨I',β',?_,fun j hj hjs k hk1 hk2 =>?_,fun k hk =>?_,putOk hst (by rw [hr];exact hu),by rw [et];exact r5,by rw [cO];exact (r6.step hst).congr hsig,r7.step r1.mem hst⟩ hcnt
   ·exact (r1.trans hst).congr hsig
   ·rw [hS'] at hjs;split at hjs
    ·cases hjs
    ·rw [hfr k (by omega)];exact r2 j hj hjs k hk1 hk2
   ·rw [hfr k (by omega)];exact r3 k hk
  | q v new=>
   rw [hr] at l2;obtain ⟨e1,e2,e3,e4⟩:=l2;rw [e1,if_pos rfl];obtain ⟨τ,hτ⟩:=hnx.under hd e2 hloc ops.size (Nat.le_refl _);have hsub:aY (bS ρ σ0 i) (sS ρ σ0 (cH listed) ops.size):=by
    intro k blk hk;rw [hτ,bJ];rw [if_neg (by omega),hk]
   have hdo:=e4 _ hsub w I β nx a r1.mem r7 hfree (by omega) hden;refine hdo.wpIn (fun u w' ⟨I',β',hu,hst,hfr⟩ =>?_);have hsig : ∀k,(sS ρ σ0 (cH (listed.setIfInBounds i true)) ops.size).get k=(sS ρ σ0 (cH listed) ops.size++new).get k:=fun k=>by
    have h1:=hnx.sig hd (new:=new) (.inl e2) hloc (by rw [hr];intro σ;rfl) e3 ops.size (Nat.le_refl _) k;rw [h1,if_pos hi1]
   refine ih _ _ _ (by simpa using hsz) hcl' ⟨I',β',?_,fun j hj hjs k hk1 hk2 =>?_,fun k hk =>?_,putOk hst (by rw [hr];exact hu),by rw [et];exact r5,by rw [cO];exact (r6.step hst).congr hsig,r7.step r1.mem hst⟩ hcnt
   ·exact (r1.trans hst).congr hsig
   ·rw [hS'] at hjs;split at hjs
    ·cases hjs
    ·rw [hfr k (by omega)];exact r2 j hj hjs k hk1 hk2
   ·rw [hfr k (by omega)];exact r3 k hk
  | e v σ'=>
   rw [hr] at l2;obtain ⟨e1,e2,e4⟩:=l2;rw [e1,if_pos rfl];obtain ⟨s1,s2⟩:=hnx.eff (ρ:=ρ) (σ0:=σ0) hloc e2.1 (om hd hol e2.2.1) ops.size (Nat.le_refl _);rw [show min ops.size i=i from by omega] at s1;rw [if_pos hi1,hr] at s2;have hmem:bW w I β (sS ρ σ0 bE i) nx:=by rw [←s1];exact r1.mem
   have hdo:=e4 w I β nx a hmem r7 hfree (by omega) hden;refine hdo.wpIn (fun u w' ⟨I',β',hu,hst,hfr⟩ =>?_);rw [←s1] at hst;refine ih _ _ _ (by simpa using hsz) hcl' ⟨I',β',?_,fun j hj hjs k hk1 hk2 =>?_,fun k hk =>?_,putOk hst (by rw [hr];exact hu),by rw [et];exact r5,by rw [cO,s2];exact r6.step hst,r7.step r1.mem hst⟩ hcnt
   ·rw [s2];exact r1.trans hst
   ·rw [hS'] at hjs;split at hjs
    ·cases hjs
    ·rw [hfr k (by omega)];exact r2 j hj hjs k hk1 hk2
   ·rw [hfr k (by omega)];exact r3 k hk
theorem rq (hm:P.follows .mixedOrders=true) (hd:cu lo ops=true) (hlo:pi lo 0 ops.toList=true) (hn:base+4*ops.size≤nx) (hdst : ∀(i:Nat) o x,ops[i]? = some o→o.dst=some x→x<C.n) {K:aF→aa→Prop} {e:aF} {σ:aa} {a:Act} {w:World} {id:Nat}
 (hQ : ∀e σ a w,K e σ→dg C G e σ nx (base+4*ops.size) a w→Q .normal a w) (hk:aY σk σ) (h:opsL P G lo σk ops base 0 ops.toList e σ [] K) (hrel:dg C G e σ nx base a w):(Code.region id ops true).wpIn (Fr fr) 0 P Q a w:=by
 obtain ⟨ρ,e',t1,t2,t3⟩:=trace (fun j o ho hc=>uf ops.toList 0 hlo j o ho (by rw [Nat.zero_add];exact hc)) (F0:=e.get) (σ0:=σ) ops.toList 0 e σ [] (fun _=> .skip) rfl h (Nat.zero_le _) (fun _=>rfl) rfl (by simp [sS]) (fun j hj=>by omega);refine wpIn_region_any hm ?_;obtain ⟨I,β,r1,r2,r3,r4,r5,r6⟩:=hrel;have hS0 : ∀j,j<ops.size→cH (Array.replicate ops.size false) j=false:=by
  intro j hj;simp [cH,hj]
 have e1 : ∀m,m≤ops.size→sS ρ σ (cH (Array.replicate ops.size false)) m=σ:=by
  intro m;induction m with
  | zero=>intro _;rfl
  | succ m ih=>
   intro hm;have:sS ρ σ (cH (Array.replicate ops.size false)) (m+1)=if cH (Array.replicate ops.size false) m=true then (ρ m).app (sS ρ σ (cH (Array.replicate ops.size false)) m) else sS ρ σ (cH (Array.replicate ops.size false)) m:=rfl
   rw [this,hS0 m (by omega),if_neg (by simp),ih (by omega)]
 refine tn (ρ:=ρ) (F0:=e.get) (σ0:=σ) (nx:=nx) hk hd hn hdst t1 (fun a' w' hr =>?_) ops.size _ a _ (by simp) (fun j o ho hj =>?_) ⟨I,β,?_,fun j hj _ k hk1 _=>r2 k (by omega),fun k hk=>r2 k (by omega),fun t =>?_,r4,?_,?_⟩ ?_
 ·obtain ⟨I',β',q1,q2,q3,q4,q5,q6,q7⟩:=hr;exact hQ e' _ a' w' t2 ⟨I',β',q1,q3,fun t=>by rw [t3];exact q4 t,q5,q6,q7⟩
 ·have hjs:j<ops.size:=by have:=(List.getElem?_eq_some_iff.1 ho).1;simpa using this
  rw [hS0 j hjs] at hj;cases hj
 ·rw [e1 _ (Nat.le_refl _)];exact r1.trans (al.drew r1.mem)
 ·have e2 : ∀m,m≤ops.size→eS ops.toList ρ e.get (cH (Array.replicate ops.size false)) m t=e.get t:=by
   intro m;induction m with
   | zero=>intro _;rfl
   | succ m ih=>
    intro hm;have:eS ops.toList ρ e.get (cH (Array.replicate ops.size false)) (m+1) t=if cH (Array.replicate ops.size false) m=true∧(ops.toList[m]?).bind (·.dst)=some t then (ρ m).val else eS ops.toList ρ e.get (cH (Array.replicate ops.size false)) m t:=rfl
    rw [this,hS0 m (by omega),if_neg (by simp),ih (by omega)]
  rw [e2 _ (Nat.le_refl _)];exact (al.drew r1.mem).den r1.mem (r3 t)
 ·rw [e1 _ (Nat.le_refl _)];exact r5.step (al.drew r1.mem)
 ·exact r6.step r1.mem (al.drew r1.mem)
 ·refine Nat.le_trans (List.countP_le_length) (by simp)
end
def sj (n:Nat):List Oper→Bool
 | []=>true
 | o::r=>(match o.dst with|some d=>decide (d<n)|none=>true)&&sj n r
def aT (n:Nat):Code→Bool
 | .skip=>true
 | .region _ ops _=>sj n ops.toList
 | .seq a b=>aT n a&&aT n b
 | .cond _ a b=>aT n a&&aT n b
 | .block _ c=>aT n c
 | .loop c=>aT n c
 | .exit _=>true
 | .ret=>true
 | .label _=>true
 | .refuse _=>true
 | .scope c=>aT n c
 | .rangeFunc _ ps a c=>ps.toList.all (fun p=>decide (p<n))&&aT n a&&aT n c
 | _=>false
def pu:Code→Bool
 | .seq a b=>pu a&&pu b
 | .cond _ a b=>pu a&&pu b
 | .block _ c=>pu c
 | .loop c=>pu c
 | .scope c=>pu c
 | .rangeFunc _ _ _ _=>false
 | _=>true
theorem qI {n:Nat} (l:List Oper) (h:sj n l=true) : ∀(i:Nat) o x,l[i]? = some o→o.dst=some x→x<n:=by
 induction l with
 | nil=>intro i o x hi;simp at hi
 | cons y r ih=>
  intro i o x hi hx;simp only [sj,Bool.and_eq_true] at h;cases i with
  | zero=>
   simp at hi;subst hi;have:=h.1;rw [hx] at this;simpa using this
  | succ i=>exact ih h.2 i o x (by simpa using hi) hx
def cS (G:Gl) (m:Nat) (st st':St):Prop:= ∀C a w,C.nx=m→ou C G st a w→ou C G st' a w
def a7 (G:Gl) (m:Nat) (K:St→Prop) (st:St) (_u:Tag K:= .mk) (_h:True:=trivial):Prop:= ∃st',cS G m st st'∧K st'
theorem a7.now {G:Gl} {m:Nat} {K:St→Prop} {st:St} (h:K st):a7 G m K st:=⟨st,fun _ _ _ _ h=>h,h⟩
theorem a7.via {G:Gl} {m:Nat} {K:St→Prop} {st st':St} (h:cS G m st st') (k:a7 G m K st'):a7 G m K st:=by
 obtain ⟨s,h1,h2⟩:=k;exact ⟨s,fun C a w hm hr=>h1 C a w hm (h C a w hm hr),h2⟩
def AR (P:Program) (G:Gl) (fr:Option Nat) (n m:Nat) (c:Code) (st:St) (Q:Exit→St→Prop):Prop:=
 ∀(C:mA) a w,C.n=n→C.nx=m→ou C G st a w→c.wpIn (Fr fr) 0 P (fun e a' w'=> ∃st',Q e st'∧ou C G st' a' w') a w
def AW (P:Program) (G:Gl) (n m:Nat) (c:Code) (st:St) (Q:Exit→St→Prop):Prop:= ∀fr,(fr=none∨pu c=true)→AR P G fr n m c st Q
theorem AR.mono {P:Program} {G:Gl} {fr:Option Nat} {n m:Nat} {c:Code} {st:St} {Q Q':Exit→St→Prop} (h:AR P G fr n m c st Q) (hq : ∀e st,Q e st→Q' e st):AR P G fr n m c st Q':=
 fun C a w hn hm hr=>wpIn_mono (h C a w hn hm hr) fun e _ _ ⟨st',h1,h2⟩=>⟨st',hq e st' h1,h2⟩
theorem AW.mono {P:Program} {G:Gl} {n m:Nat} {c:Code} {st:St} {Q Q':Exit→St→Prop} (h:AW P G n m c st Q) (hq : ∀e st,Q e st→Q' e st):AW P G n m c st Q':=fun fr hfr=>(h fr hfr).mono hq
theorem cC {P:Program} {b:Frame} {a:Act} {k:List Item} {cs:List Frame} {w:World} {c:Code} : step P (lone (b.atR a (.code (.scope c)::k)) cs w) = .next (lone (b.atR a (.code c :: .inScope c::k)) cs w):=
 step_lone_go (by simp [stepG,stepG.exec,Frame.atR])
theorem mr {P:Program} {b:Frame} {a:Act} {k:List Item} {cs:List Frame} {w:World} {c:Code} : step P (lone (b.atR a (.inScope c::k)) cs w) = .next (lone (b.atR a k) cs w):=
 step_lone_go (by simp [stepG,stepG.exec,Frame.atR])
theorem gl {F:Fence} {n:Nat} {P:Program} {Q:Exit→Act→World→Prop} {a:Act} {w:World} {c:Code} (h:c.wpIn F n P (Exit.noGoto Q) a w):(Code.scope c).wpIn F n P Q a w:=by
 intro b k cs hro hb hr;have h0:(lone (b.atR a (.code (.scope c)::k)) cs w).fenced P F:=fenced_calm hb hr rfl;obtain ⟨e,a₁,w₁,hq,harr⟩:=h b (.inScope c::k) cs hro hb hr;cases e with
 | normal=>exact ⟨.normal,a₁,w₁,hq,.head h0 cC (StepsIn.trans harr (.one (fenced_calm hb hr rfl) mr))⟩
 | exit id=>
  have hx:exitTo id (.inScope c::k)=exitTo id k:=by simp [exitTo]
  exact ⟨.exit id,a₁,w₁,hq,fun k' hk=> .head h0 cC (harr.1 k' (by rw [hx];exact hk)),fun hr' hk=>let ⟨k₁,h1,h2⟩:=harr.2 hr' (by rw [hx];exact hk);⟨k₁,h1,.head h0 cC h2⟩⟩
 | goto l=>exact hq.elim
 | ret=>exact ⟨_,a₁,w₁,hq,.of_steps (.one h0 cC) harr⟩
 | panic ch=>exact ⟨_,a₁,w₁,hq,.of_steps (.one h0 cC) harr⟩
 | outgrown=>exact ⟨_,a₁,w₁,hq,.of_steps (.one h0 cC) harr⟩
def gn (P:Program) (G:Gl) (n m:Nat) (c:Code) (st:St) (Q:Exit→St→Prop) (_u:Tag c:= .mk) (_v:Tag Q:= .mk) (_h:True:=trivial):Prop:=AW P G n m (.loop c) st Q
def nt (P:Program) (G:Gl) (n m:Nat) (g:Operand) (ps:Array Nat) (asg body:Code) (st:St) (Q:Exit→St→Prop) (_u:Tag body:= .mk) (_v:Tag Q:= .mk) (_w:Tag asg:= .mk) (_h:True:=trivial):Prop:=AW P G n m (.rangeFunc g ps asg body) st Q
def gZ (v:V) (p q:Prop):Prop:=kT v fun b=>fj b p q
def fO (k:St→Prop) (Q:Exit→St→Prop):Exit→St→Prop
 | .normal,st=>k st
 | e,st=>Q e st
def du (id:Nat) (Q:Exit→St→Prop):Exit→St→Prop
 | .exit i,st=>if i=id then Q .normal st else Q (.exit i) st
 | e,st=>Q e st
def fN (Q:Exit→St→Prop):Exit→St→Prop
 | .goto _,_=>False
 | e,st=>Q e st
def fJ (P:Program) (G:Gl) (lv:List Nat) (ops:Array Oper) (draw:Bool) (K:St→Prop) (st:St):Prop:=if draw=true
 then ∃lo σk,cu lo ops=true∧pi lo 0 ops.toList=true∧aY σk st.sg∧opsL P G lo σk ops st.nx 0 ops.toList st.env st.sg [] fun e σ=>K ⟨aF.keep lv e,σ,st.nx+4*ops.size⟩
 else j8 P G ops st.nx 0 ops.toList st.env st.sg fun e σ=>K ⟨aF.keep lv e,σ,st.nx+4*ops.size⟩
def bi (P:Program) (G:Gl) (n m:Nat) (lv:List Nat):Code→St→(Exit→St→Prop)→Prop
 | .skip,st,Q=>Q .normal st
 | .region _ ops draw,st,Q=>a7 G m (fJ P G lv ops draw fun st'=>Q .normal st') st
 | .seq a b,st,Q=>bi P G n m lv a st (fO (fun st'=>bi P G n m lv b st' Q) Q)
 | .cond c a b,st,Q=>gZ (i2 G st.env.get c) (bi P G n m lv a st Q) (bi P G n m lv b st Q)
 | .block id c,st,Q=>bi P G n m lv c st (du id Q)
 | .loop c,st,Q=>gn P G n m c st Q
 | .exit id,st,Q=>Q (.exit id) st
 | .ret,st,Q=>Q .ret st
 | .label _,st,Q=>Q .normal st
 | .scope c,st,Q=>bi P G n m lv c st (fN Q)
 | .rangeFunc g ps a c,st,Q=>nt P G n m g ps a c st Q
 | _,_,_=>False
section
variable {P:Program} {G:Gl} {n m:Nat} {lv:List Nat}
theorem dg.keep {C:mA} {e:aF} {σ:aa} {nx lim:Nat} {a:Act} {w:World} (h:dg C G e σ nx lim a w) (lv:List Nat):dg C G (aF.keep lv e) σ nx lim a w:=by
 obtain ⟨I,β,h1,h2,h3,h4⟩:=h;refine ⟨I,β,h1,h2,fun t =>?_,h4⟩;rcases aF.get_keep lv e t with h|h
 ·rw [h];exact h3 t
 ·rw [h];trivial
theorem dg.bump {C:mA} {e:aF} {σ:aa} {nx lim nx':Nat} {a:Act} {w:World} (h:dg C G e σ nx lim a w) (hn:nx≤nx'):dg C G e σ nx' lim a w:=by
 obtain ⟨I,β,h1,h2⟩:=h;exact ⟨I,β,h1.bump hn,h2⟩
theorem oR (ho:P.follows .mixedOrders=true) (fr:Option Nat) : ∀(c:Code) (st:St) (Q:Exit→St→Prop),(fr=none∨pu c=true)→aT n c=true→bi P G n m lv c st Q→AR P G fr n m c st Q:=by
 intro c;induction c with
 | skip=>intro st Q _ _ h C a w _ _ hr;exact wpIn_skip ⟨st,h,hr⟩
 | region id ops draw=>
  intro st Q _ hok h C a w hn hm hr0;obtain ⟨st,hle,h⟩:=h;have hr:=hle C a w hm hr0;simp only [aT] at hok;have hdst : ∀(i:Nat) o x,ops[i]? = some o→o.dst=some x→x<C.n:=fun i o x hi hx=>by rw [hn];exact qI _ hok i o x (by simpa using hi) hx
  have hr':dg C G st.env st.sg (st.nx+4*ops.size) st.nx a w:=dg.bump hr (by omega);cases draw with
  | false=>
   simp only [fJ,Bool.false_eq_true,if_false] at h;refine wpIn_region ?_;have:=gI (P:=P) (G:=G) (C:=C) (fr:=fr) (ops:=ops) (base:=st.nx) (nx:=st.nx+4*ops.size) (Q:=fun e a' w'=> ∃st',Q e st'∧ou C G st' a' w') (Nat.le_refl _) hdst (K:=fun e σ=>Q .normal ⟨aF.keep lv e,σ,st.nx+4*ops.size⟩) (fun e σ a w hK hrel=>⟨_,hK,hrel.keep lv⟩) ops.toList 0 st.env st.sg a w rfl h (by simpa using hr') (Nat.zero_le _);rw [List.range_eq_range'];simpa using this
  | true=>
   simp only [fJ,if_true] at h;obtain ⟨lo,σk,hd,hlo,hk,h⟩:=h;exact rq (C:=C) ho hd hlo (nx:=st.nx+4*ops.size) (Nat.le_refl _) hdst (K:=fun e σ=>Q .normal ⟨aF.keep lv e,σ,st.nx+4*ops.size⟩) (fun e σ a w hK hrel=>⟨_,hK,hrel.keep lv⟩) hk h hr'
 | seq x y ihx ihy=>
  intro st Q hfr hok h C a w hn hm hr;simp only [pu,Bool.and_eq_true] at hfr;simp only [aT,Bool.and_eq_true] at hok;refine wpIn_seq (wpIn_mono (ihx st _ (hfr.imp id (·.1)) hok.1 h C a w hn hm hr) ?_);rintro e a' w' ⟨st',hq,hr'⟩;cases e with
  | normal=>exact ihy st' Q (hfr.imp id (·.2)) hok.2 hq C a' w' hn hm hr'
  | _=>exact ⟨st',hq,hr'⟩
 | cond c x y ihx ihy=>
  intro st Q hfr hok h C a w hn hm hr;simp only [pu,Bool.and_eq_true] at hfr;simp only [aT,Bool.and_eq_true] at hok;simp only [bi,gZ] at h;unfold kT at h;split at h
  ·rename_i b hb;obtain ⟨I,β,h1,h2,h3,h4,h5,h6⟩:=id hr;have hd:=su (e:=st.env) (a:=a) h3 h6 c;rw [hb] at hd;have hc:=an hd;refine iY h (fun e1 h9 =>?_) (fun e1 h9 =>?_)
   ·subst e1;exact wpIn_cond_true hc (ihx st Q (hfr.imp id (·.1)) hok.1 h9 C a w hn hm hr)
   ·subst e1;exact wpIn_cond_false hc (ihy st Q (hfr.imp id (·.2)) hok.2 h9 C a w hn hm hr)
  ·exact h.elim
 | block id c ih=>
  intro st Q hfr hok h C a w hn hm hr;simp only [aT] at hok;refine wpIn_block (wpIn_mono (ih st _ hfr hok h C a w hn hm hr) ?_);rintro e a' w' ⟨st',hq,hr'⟩;cases e with
  | exit i=>
   simp only [du] at hq;simp only [Exit.inBlock];split
   ·rename_i hi;rw [if_pos hi] at hq;exact ⟨st',hq,hr'⟩
   ·rename_i hi;rw [if_neg hi] at hq;exact ⟨st',hq,hr'⟩
  | _=>exact ⟨st',hq,hr'⟩
 | loop c _=>intro st Q hfr _ h;exact h fr hfr
 | exit id=>intro st Q _ _ h C a w _ _ hr;exact wpIn_exit ⟨st,h,hr⟩
 | ret=>intro st Q _ _ h C a w _ _ hr;exact wpIn_ret ⟨st,h,hr⟩
 | label l=>intro st Q _ _ h C a w _ _ hr;exact wpIn_label ⟨st,h,hr⟩
 | refuse r=>intro st Q _ _ h;exact h.elim
 | scope c ih=>
  intro st Q hfr hok h C a w hn hm hr;simp only [aT] at hok;refine gl (wpIn_mono (ih st _ hfr hok h C a w hn hm hr) ?_);rintro e a' w' ⟨st',hq,hr'⟩;cases e with
  | goto l=>exact hq.elim
  | _=>exact ⟨st',hq,hr'⟩
 | rangeFunc g ps x y _ _=>intro st Q hfr _ h;exact h fr hfr
 | _=>intro st Q _ hok;simp [aT] at hok
theorem cT (ho:P.follows .mixedOrders=true) (c:Code) (st:St) (Q:Exit→St→Prop) (hok:aT n c=true) (h:bi P G n m lv c st Q):AW P G n m c st Q:=fun fr hfr=>oR ho fr c st Q hfr hok h
theorem ug (ho:P.follows .mixedOrders=true) {c:Code} (hok:aT n c=true) {st:St} {Q:Exit→St→Prop} (Inv:Nat→St→Prop) (k0:Nat) (h0:Inv k0 st)
 (hr : ∀k st,Inv k st→bi P G n m lv c st (fO (a7 G m fun st'=> ∃j,j<k∧Inv j st') Q)):gn P G n m c st Q:=by
 intro fr hfr C a w hn hm hrel b kk cs hro hb hroom;have key : ∀k st a w,Inv k st→ou C G st a w → ∃e a' w',(∃st',Q e st'∧ou C G st' a' w')∧ArrivesIn (Machine.fenced P (Fr fr)) P (lone (b.atR a (.code c :: .inLoop c::kk)) cs w) b kk cs e a' w':=by
  intro k;induction k using Nat.strongRecOn with
  | _ k ih=>
   intro st a w hI hr';obtain ⟨e,a',w',⟨st',hq,hr2⟩,harr⟩:=cT ho c st _ hok (hr k st hI) fr hfr C a w hn hm hr' b (.inLoop c::kk) cs hro hb hroom;cases e with
   | normal=>
    obtain ⟨st',hle,j,hlt,hI'⟩:=hq;obtain ⟨e2,a2,w2,hq2,harr2⟩:=ih j hlt st' a' w' hI' (hle C a' w' hm hr2);exact ⟨e2,a2,w2,hq2,.of_steps (StepsIn.trans harr (.one (fenced_calm hb hroom rfl) stepR_inLoop)) harr2⟩
   | exit id=>exact ⟨_,a',w',⟨st',hq,hr2⟩,.pass (x:= .inLoop c) rfl (fun _ _=> .inl (by simp)) harr⟩
   | goto l=>exact ⟨_,a',w',⟨st',hq,hr2⟩,.pass (x:= .inLoop c) rfl (fun _ _=> .inl (by simp)) harr⟩
   | ret=>exact ⟨_,a',w',⟨st',hq,hr2⟩,.pass (x:= .inLoop c) rfl (fun _ _=> .inl (by simp)) harr⟩
   | panic ch=>exact ⟨_,a',w',⟨st',hq,hr2⟩,.pass (x:= .inLoop c) rfl (fun _ _=> .inl (by simp)) harr⟩
   | outgrown=>exact ⟨_,a',w',⟨st',hq,hr2⟩,.pass (x:= .inLoop c) rfl (fun _ _=> .inl (by simp)) harr⟩
 obtain ⟨e,a',w',hq,harr⟩:=key _ st a w h0 hrel;exact ⟨e,a',w',hq,.of_steps (.one (fenced_calm hb hroom rfl) stepR_loop) harr⟩
end
def V.selA (g:Nat→Option Nat):V→V
 | .d x=> .d x
 | .so id k lo n=>match g id with|some j=> .so j k lo n|none=> .unk
 | .po id o=>match g id with|some j=> .po j o|none=> .unk
 | .pe id k i j=>match g id with|some j'=> .pe j' k i j|none=> .unk
 | .mo id=>match g id with|some j=> .mo j|none=> .unk
 | .it id=>match g id with|some j=> .it j|none=> .unk
 | .yl id=>match g id with|some j=> .yl j|none=> .unk
 | v=>v
def V.sel (g:Nat→Option Nat):V→V
 | .agg cs=> .agg (cs.map (V.selA g))
 | .tup cs=> .tup (cs.map (V.selA g))
 | .fn f cs=> .fn f (cs.map (V.selA g))
 | .d x=> .d x
 | .so id k lo n=>V.selA g (.so id k lo n)
 | .po id o=>V.selA g (.po id o)
 | .pe id k i j=>V.selA g (.pe id k i j)
 | .mo id=>V.selA g (.mo id)
 | .it id=>V.selA g (.it id)
 | .yl id=>V.selA g (.yl id)
 | .unk=> .unk
def aF.sel (g:Nat→Option Nat):aF→aF
 | []=>[]
 | (k,v)::r=>(k,v.sel g)::aF.sel g r
def bP.sel (g:Nat→Option Nat):bP→bP
 | .cell cs ty=> .cell (cs.map (V.sel g)) ty
 | .row k es ty=> .row k es ty
 | .map es=> .map es
 | .iter s pos=> .iter s pos
 | .rc y j e=> .rc y j (e.sel g)
theorem aF.get_sel (g:Nat→Option Nat) (e:aF) (t:Nat):(e.sel g).get t=(e.get t).sel g:=by
 induction e with
 | nil=>rfl
 | cons x r ih=>
  obtain ⟨k,v⟩:=x;simp only [aF.sel,aF.get];split
  ·rfl
  ·exact ih
section
variable {w:World} {I:Nat→Prop} {β β':bF} {g:Nat→Option Nat}
theorem bt.sel (hg : ∀i j,g i=some j → ∀x,β i=some x→β' j=some x) {v:V} {x:Value} (h:bt w I β v x):bt w I β' (v.selA g) x:=by
 cases v with
 | so id k lo n=>
  simp only [V.selA];cases hi:g id with
  | none=>trivial
  | some j=>
   rcases h with ⟨h1,h2⟩|⟨b,cap,c,h1,h2⟩
   ·exact .inl ⟨hg id j hi _ h1,h2⟩
   ·exact .inr ⟨b,cap,c,hg id j hi _ h1,h2⟩
 | po id o=>
  simp only [V.selA];cases hi:g id with
  | none=>trivial
  | some j=>obtain ⟨b,cap,h1,h2⟩:=h;exact ⟨b,cap,hg id j hi _ h1,h2⟩
 | pe id k i j=>
  simp only [V.selA];cases hi:g id with
  | none=>trivial
  | some j=>obtain ⟨b,cap,h1,h2⟩:=h;exact ⟨b,cap,hg id j hi _ h1,h2⟩
 | mo id=>
  simp only [V.selA];cases hi:g id with
  | none=>trivial
  | some j=>obtain ⟨b,cap,h1,h2⟩:=h;exact ⟨b,cap,hg id j hi _ h1,h2⟩
 | it id=>
  simp only [V.selA];cases hi:g id with
  | none=>trivial
  | some j=>obtain ⟨b,cap,h1,h2⟩:=h;exact ⟨b,cap,hg id j hi _ h1,h2⟩
 | yl id=>
  simp only [V.selA];cases hi:g id with
  | none=>trivial
  | some j=>obtain ⟨b,cap,h1,h2⟩:=h;exact ⟨b,cap,hg id j hi _ h1,h2⟩
 | _=>exact h
theorem bh.sel (hg : ∀i j,g i=some j → ∀x,β i=some x→β' j=some x) {cs:List V} {vs:List Value} (h:bh w I β cs vs):bh w I β' (cs.map (V.selA g)) vs:=by
 refine ⟨by simpa using h.1,fun i c v hc hv =>?_⟩;simp only [List.getElem?_map,Option.map_eq_some_iff] at hc;obtain ⟨c',hc',rfl⟩:=hc;exact (h.2 i c' v hc' hv).sel hg
theorem aA.sel (hg : ∀i j,g i=some j → ∀x,β i=some x→β' j=some x) {v:V} {x:Value} (h:aA w I β v x):aA w I β' (v.sel g) x:=by
 have atoms : ∀ {v:V},bt w I β v x→bt w I β' (v.selA g) x→aA w I β' (v.selA g) x:=by
  intro v h1 h2;cases v<;>simp only [V.selA] at h2 ⊢ <;> first
   | exact h2
   | exact h2.elim
   | (split<;>first|trivial|(rename_i q;rw [q] at h2;exact h2))
 cases v with
 | agg cs=>obtain ⟨vs,e,ho,h⟩:=h;exact ⟨vs,e,ho,h.sel hg⟩
 | tup cs=>obtain ⟨vs,e,h⟩:=h;exact ⟨vs,e,h.sel hg⟩
 | fn f cs=>obtain ⟨vs,e,h⟩:=h;exact ⟨vs,e,h.sel hg⟩
 | unk=>trivial
 | d x=>exact h
 | so id k lo n=>exact atoms (v:= .so id k lo n) h (bt.sel hg (v:= .so id k lo n) h)
 | po id o=>exact atoms (v:= .po id o) h (bt.sel hg (v:= .po id o) h)
 | pe id k i j=>exact atoms (v:= .pe id k i j) h (bt.sel hg (v:= .pe id k i j) h)
 | mo id=>exact atoms (v:= .mo id) h (bt.sel hg (v:= .mo id) h)
 | it id=>exact atoms (v:= .it id) h (bt.sel hg (v:= .it id) h)
 | yl id=>exact atoms (v:= .yl id) h (bt.sel hg (v:= .yl id) h)
theorem iU.sel (hg : ∀i j,g i=some j → ∀x,β i=some x→β' j=some x) {i j:Nat} {blk:bP} (hij:g i=some j) (h:iU w I β i blk):iU w I β' j (blk.sel g):=by
 cases blk with
 | cell cs ty=>
  obtain ⟨b,cap,cur,t,h1,h2,h3,h4⟩:=h;refine ⟨b,cap,cur,t,hg i j hij _ h1,h2,h3,fun m c hm =>?_⟩;simp only [List.getElem?_map,Option.map_eq_some_iff] at hm;obtain ⟨c',hc',rfl⟩:=hm;obtain ⟨v,v1,v2,v3⟩:=h4 m c' hc';exact ⟨v,v1,v2,v3.sel hg⟩
 | row k es ty=>
  rcases h with ⟨h1,h2⟩|⟨b,cap,cur,t,h1,h2⟩
  ·exact .inl ⟨hg i j hij _ h1,h2⟩
  ·exact .inr ⟨b,cap,cur,t,hg i j hij _ h1,h2⟩
 | map es=>obtain ⟨b,cap,ents,clock,h1,h2⟩:=h;exact ⟨b,cap,ents,clock,hg i j hij _ h1,h2⟩
 | iter s pos=>obtain ⟨b,cap,h1,h2⟩:=h;exact ⟨b,cap,hg i j hij _ h1,h2⟩
 | rc y q e=>
  obtain ⟨b,cap,r,h1,h2,h3,h4,h5⟩:=h;refine ⟨b,cap,r,hg i j hij _ h1,h2,h3,h4,fun t =>?_⟩;rw [aF.get_sel];exact (h5 t).sel hg
end
def wy:List Nat→Nat→Nat→Option Nat
 | [],_,_=>none
 | x::r,i,m=>if x=i then some m else wy r i (m+1)
def gM (m:Nat) (l:List Nat):Nat→Option Nat:=fun i=>if i<m then some i else wy l i m
def aa.sel (g:Nat→Option Nat):aa→aa
 | []=>[]
 | (i,b)::r=>match g i with
  | some j=>(j,b.sel g)::aa.sel g r
  | none=>aa.sel g r
def St.sel (st:St) (m:Nat) (l:List Nat):St:=⟨st.env.sel (gM m l),st.sg.sel (gM m l),m+l.length⟩
theorem cF : ∀ {l:List Nat} {i m j:Nat},wy l i m=some j→m≤j∧j<m+l.length∧l[j - m]? = some i
 | x::r,i,m,j,h=>by
  unfold wy at h;split at h
  ·rename_i hx;injection h with h;subst h;subst hx;exact ⟨Nat.le_refl _,by simp,by simp⟩
  ·obtain ⟨h1,h2,h3⟩:=cF h;refine ⟨by omega,by simp;omega,?_⟩;rw [show j - m=(j - (m+1))+1 from by omega];simpa using h3
theorem aa.get_sel {g:Nat→Option Nat} (hinj : ∀i i' j,g i=some j→g i'=some j→i=i') : ∀(σ:aa) (j:Nat) b,(σ.sel g).get j=some b → ∃i b',g i=some j∧σ.get i=some b'∧b=b'.sel g
 | [],j,b,h=>by simp [aa.sel,aa.get] at h
 | (i,c)::r,j,b,h=>by
  simp only [aa.sel] at h;cases hi:g i with
  | none=>
   rw [hi] at h;obtain ⟨i',b',h1,h2,h3⟩:=aa.get_sel hinj r j b h;refine ⟨i',b',h1,?_,h3⟩;simp only [aa.get];rw [if_neg]
   ·exact h2
   ·rintro rfl;rw [hi] at h1;cases h1
  | some j'=>
   rw [hi] at h;simp only [aa.get] at h;split at h
   ·rename_i hj;subst hj;injection h with h;exact ⟨i,c,hi,by simp [aa.get],h.symm⟩
   ·rename_i hj;obtain ⟨i',b',h1,h2,h3⟩:=aa.get_sel hinj r j b h;refine ⟨i',b',h1,?_,h3⟩;simp only [aa.get];rw [if_neg]
    ·exact h2
    ·rintro rfl;rw [hi] at h1;injection h1 with h1;exact hj h1
theorem xm (m:Nat) (l:List Nat) : ∀i i' j,gM m l i=some j→gM m l i'=some j→i=i':=by
 intro i i' j h h';unfold gM at h h';split at h
 ·split at h'
  ·injection h with h;injection h' with h';omega
  ·injection h with h;obtain ⟨q1,_⟩:=cF h';omega
 ·split at h'
  ·injection h' with h';obtain ⟨q1,_⟩:=cF h;omega
  ·obtain ⟨_,_,q3⟩:=cF h;obtain ⟨_,_,q3'⟩:=cF h';rw [q3] at q3';injection q3'
theorem cS.sel (G:Gl) (m:Nat) (st:St) (l:List Nat):cS G m st (st.sel m l):=by
 intro C a w hm hr;obtain ⟨I,β,h1,h2,h3,h4,h5,h6⟩:=hr;have hinj:=xm m l;let β':bF:=fun j=>if j<m then β j else match l[j - m]? with|some i=>β i|none=>none
 have hg : ∀i j,gM m l i=some j → ∀x,β i=some x→β' j=some x:=by
  intro i j hij x hx;unfold gM at hij;split at hij
  ·rename_i hlt;injection hij with hij;subst hij;simp [β',hlt,hx]
  ·obtain ⟨q1,q2,q3⟩:=cF hij;simp [β',show ¬j<m by omega,q3,hx]
 have hgb : ∀i j,gM m l i=some j→β' j=β i:=by
  intro i j hij;unfold gM at hij;split at hij
  ·rename_i hlt;injection hij with hij;subst hij;simp [β',hlt]
  ·obtain ⟨q1,q2,q3⟩:=cF hij;simp [β',show ¬j<m by omega,q3]
 refine ⟨I,β',⟨⟨fun j b hj =>?_,fun j j' b b' k c c' g1 g2 g3 g4 =>?_,fun j hj =>?_,h1.mem.lt⟩,h1.os,h1.tape,h1.output,h1.size,h1.block,h1.imm,h1.immn,fun i x hx =>?_,?_,fun k ⟨j,b,c,g1,g2⟩ =>?_⟩,fun j hj =>?_,fun t =>?_,h4,h5.sub (fun k ⟨j,b,c,g1,g2⟩ =>?_) (fun b h=> .inl h),h6⟩
 ·obtain ⟨i,b',q1,q2,q3⟩:=aa.get_sel hinj _ j b hj;subst q3;exact (h1.mem.own i b' q2).sel hg q1
 ·obtain ⟨i,x,q1,q2,q3⟩:=aa.get_sel hinj _ j b g1;obtain ⟨i',x',q1',q2',q3'⟩:=aa.get_sel hinj _ j' b' g2;rw [hgb i j q1] at g3;rw [hgb i' j' q1'] at g4;have:=h1.mem.inj i i' x x' k c c' q2 q2' g3 g4;subst this;rw [q1] at q1';injection q1'
 ·have hj':m+l.length≤j:=hj;show (if j<m then β j else match l[j - m]? with|some i=>β i|none=>none)=none;rw [if_neg (by omega),List.getElem?_eq_none (by omega)]
 ·have hi:i<m:=by
   rcases Nat.lt_or_ge i m with h|h
   ·exact h
   ·rw [C.free i (by omega)] at hx;cases hx
  show (if i<m then β i else _)=some x;rw [if_pos hi];exact h1.bet i x hx
 ·show C.nx≤m+l.length;omega
 ·obtain ⟨i,b',q1,q2,q3⟩:=aa.get_sel hinj _ j b g1;rw [hgb i j q1] at g2;exact h1.own' k ⟨i,b',c,q2,g2⟩
 ·have hj':m+l.length≤j:=hj;show (if j<m then β j else match l[j - m]? with|some i=>β i|none=>none)=none;rw [if_neg (by omega),List.getElem?_eq_none (by omega)]
 ·show aA w I β' ((st.env.sel _).get t) _;rw [aF.get_sel];exact (h3 t).sel hg
 ·obtain ⟨i,b',q1,q2,q3⟩:=aa.get_sel hinj _ j b g1;rw [hgb i j q1] at g2;exact ⟨i,b',c,q2,g2⟩
def St.frz (st:St) (id:Nat):St:=match st.sg.get id with
 | some blk=>⟨st.env.frz id blk,st.sg.frz id blk,st.nx⟩
 | none=>st
theorem cS.refl (G:Gl) (m:Nat) (st:St):cS G m st st:=fun _ _ _ _ h=>h
theorem cS.trans {G:Gl} {m:Nat} {a b c:St} (h:cS G m a b) (k:cS G m b c):cS G m a c:=fun C x w hm hr=>k C x w hm (h C x w hm hr)
theorem cS.frz (G:Gl) (m:Nat) (st:St) (id:Nat):cS G m st (st.frz id):=by
 intro C a w _ hr;unfold St.frz;cases hg:st.sg.get id with
 | none=>exact hr
 | some blk=>
  obtain ⟨I,β,h1,h2,h3,h4,h5,h6⟩:=hr;have hown:=h1.mem.own id blk hg;let I':Nat→Prop:=fun b=>I b ∨ ∃c,β id=some (some (b,c))
  have hset:nu w I I' β id blk:=⟨fun b hb=> .inl hb,hown,fun b c hb=> .inr ⟨c,hb⟩⟩
  refine ⟨I',β,⟨⟨fun j b hj =>?_,fun j j' b b' k c c' g1 g2 g3 g4 =>?_,h1.mem.free,fun b hb =>?_⟩,h1.os,h1.tape,h1.output,h1.size,h1.block,fun b hb=> .inl (h1.imm b hb),fun b hb =>?_,h1.bet,h1.nx,fun b ⟨j,bl,c,g1,g2⟩ =>?_⟩,h2,fun t =>?_,h4,h5.sub (fun b ⟨j,bl,c,g1,g2⟩ =>?_) (fun b hb =>?_),fun g x hx=>(h6 g x hx).keep (fun _ _=>rfl) (fun b hb=> .inl hb)⟩
  ·have hj':(st.sg.frz id blk).get j=some b:=hj;rw [aa.get_frz] at hj';split at hj'
   ·cases hj'
   ·rename_i hne;simp only [Option.map_eq_some_iff] at hj';obtain ⟨b0,hb0,rfl⟩:=hj';have ho:=h1.mem.own j b0 hb0;have hni : ∀b c,β j=some (some (b,c)) → ¬I' b:=by
     intro b c hb hI;rcases hI with hI|⟨c',hc'⟩
     ·exact (ho.not_imm hb).1 hI
     ·exact hne (h1.mem.inj j id b0 blk b c c' hb0 hg hb hc')
    cases b0 with
    | cell cs ty=>
     obtain ⟨b,cap,cur,t,q1,q2,q3,q4⟩:=ho;refine ⟨b,cap,cur,t,q1,q2,hni b cap q1,fun i c hi =>?_⟩;simp only [List.getElem?_map,Option.map_eq_some_iff] at hi;obtain ⟨c',hc',rfl⟩:=hi;obtain ⟨v,v1,v2,v3⟩:=q4 i c' hc';exact ⟨v,v1,v2,hset.den v3⟩
    | row k es ty=>exact ho.keep (fun _ _=>rfl) (fun b hb=> .inl hb) hni (fun _ _ h=>h)
    | map es=>exact ho.keep (fun _ _=>rfl) (fun b hb=> .inl hb) hni (fun _ _ h=>h)
    | iter s pos=>exact ho.keep (fun _ _=>rfl) (fun b hb=> .inl hb) hni (fun _ _ h=>h)
    | rc y q e=>
     obtain ⟨b,cap,r,q1,q2,q3,q4,q5⟩:=ho;refine ⟨b,cap,r,q1,q2,hni b cap q1,q4,fun t =>?_⟩;rw [aF.get_frz];exact hset.den (q5 t)
  ·have e1:(st.sg.frz id blk).get j=some b:=g1;have e2:(st.sg.frz id blk).get j'=some b':=g2;rw [aa.get_frz] at e1 e2;split at e1
   ·cases e1
   ·split at e2
    ·cases e2
    ·simp only [Option.map_eq_some_iff] at e1 e2;obtain ⟨x,hx,_⟩:=e1;obtain ⟨y,hy,_⟩:=e2;exact h1.mem.inj j j' x y k c c' hx hy g3 g4
  ·rcases hb with hb|⟨c,hb⟩
   ·exact h1.mem.lt b hb
   ·exact (hown.not_imm hb).2
  ·rcases hb with hb|⟨c,hb⟩
   ·exact h1.immn b hb
   ·rcases h1.own' b ⟨id,blk,c,hg,hb⟩ with h|h
    ·exact .inr (.inl h)
    ·exact .inr (.inr h)
  ·have e1:(st.sg.frz id blk).get j=some bl:=g1;rw [aa.get_frz] at e1;split at e1
   ·cases e1
   ·simp only [Option.map_eq_some_iff] at e1;obtain ⟨x,hx,_⟩:=e1;exact h1.own' b ⟨j,x,c,hx,g2⟩
  ·show aA w I' β ((st.env.frz id blk).get t) _;rw [aF.get_frz];exact hset.den (h3 t)
  ·have e1:(st.sg.frz id blk).get j=some bl:=g1;rw [aa.get_frz] at e1;split at e1
   ·cases e1
   ·simp only [Option.map_eq_some_iff] at e1;obtain ⟨x,hx,_⟩:=e1;exact ⟨j,x,c,hx,g2⟩
  ·rcases hb with hb|⟨c,hb⟩
   ·exact .inl hb
   ·exact .inr ⟨id,blk,c,hg,hb⟩
def St.pick (st:St) (ks is:List Nat):St:=⟨ks.map fun t=>(t,st.env.get t),is.filterMap fun i=>(st.sg.get i).map fun b=>(i,b),st.nx⟩
theorem aF.get_map (f:Nat→V) (t:Nat) : ∀(ks:List Nat),aF.get (ks.map fun t=>(t,f t)) t=f t∨aF.get (ks.map fun t=>(t,f t)) t = .unk
 | []=> .inr rfl
 | k::r=>by
  simp only [List.map_cons,aF.get];split
  ·rename_i h;subst h;exact .inl rfl
  ·exact aF.get_map f t r
theorem aa.get_pick (σ:aa) (j:Nat) (b:bP) : ∀(is:List Nat),aa.get (is.filterMap fun i=>(σ.get i).map fun b=>(i,b)) j=some b→σ.get j=some b
 | [],h=>by cases h
 | k::r,h=>by
  cases hk:σ.get k with
  | none=>
   simp only [List.filterMap_cons,hk,Option.map_none] at h;exact aa.get_pick σ j b r h
  | some c=>
   simp only [List.filterMap_cons,hk,Option.map_some,aa.get] at h;split at h
   ·rename_i e;subst e;rw [hk];exact h
   ·exact aa.get_pick σ j b r h
theorem al.sub {w w':World} {I I':Nat→Prop} {β β':bF} {σ σ' σ'':aa} {nx nx' nx'':Nat} (h:al w I β σ nx w' I' β' σ' nx') (he : ∀j b,σ''.get j=some b→σ'.get j=some b) (hn:nx'≤nx''):al w I β σ nx w' I' β' σ'' nx'':=
 { h with
  mem:=⟨fun id b hb=>h.mem.own id b (he _ _ hb),fun i j b b' k c c' h1 h2=>h.mem.inj i j b b' k c c' (he _ _ h1) (he _ _ h2),fun j hj=>h.mem.free j (by omega),h.mem.lt⟩
  nx:=by have:=h.nx;omega
  own':=fun b ⟨id,blk,c,h1,h2⟩=>h.own' b ⟨id,blk,c,he _ _ h1,h2⟩ }
theorem cS.pick (G:Gl) (m:Nat) (st:St) (ks is:List Nat):cS G m st (st.pick ks is):=by
 intro C a w _ hr;obtain ⟨I,β,h1,h2,h3,h4,h5,h6⟩:=hr;refine ⟨I,β,h1.sub (fun j b hb=>aa.get_pick _ j b is hb) (Nat.le_refl _),h2,fun t =>?_,h4,h5.sub (fun b ⟨j,bl,c,g1,g2⟩=>⟨j,bl,c,aa.get_pick _ j bl is g1,g2⟩) (fun b h=> .inl h),h6⟩;rcases aF.get_map (fun t=>st.env.get t) t ks with h|h
 ·show aA w I β (aF.get (ks.map fun t=>(t,st.env.get t)) t) _;rw [h];exact h3 t
 ·show aA w I β (aF.get (ks.map fun t=>(t,st.env.get t)) t) _;rw [h];trivial
def V.atm (v:V):V:=match v with
 | .agg _=> .unk
 | .tup _=> .unk
 | .fn _ _=> .unk
 | v=>v
def lT:List V→V
 | [v]=>v
 | vs=> .tup (vs.map V.atm)
def ka (P:Program):List ResultVar→St→(List V→Prop)→Prop
 | [],_,K=>K []
 | .tmp t::r,st,K=>ka P r st fun vs=>K (st.env.get t::vs)
 | .cell a t::r,st,K=>cZ P t (st.env.get a) st.sg fun v=>ka P r st fun vs=>K (v::vs)
def ah (P:Program) (G:Gl) (m:Nat) (rs:List ResultVar) (r:V) (σ':aa) (st:St):Prop:=
 a7 G m (fun st=>ka P rs st fun vs=> ∃l:List Nat,(lT vs).sel (gM m l)=r∧aY σ' (st.sg.sel (gM m l))∧l.length≤4) st
def rF (K:St→Prop):Exit→St→Prop
 | .normal,st=>K st
 | .ret,st=>K st
 | _,_=>False
def aG (P:Program) (G:Gl) (f:Nat) (args:List V) (σ:aa) (m:Nat) (r:V) (σ':aa):Prop:=
 ∀w I β vals,bW w I β σ m→ta G w I→ca w I β args vals→Calls P f vals.toArray w fun e w'=> ∃u I' β',e = .returned u∧aA w' I' β' r u∧al w I β σ m w' I' β' σ' (m+4)
def kS:Nat→List V→aF
 | _,[]=>[]
 | i,v::r=>(i,v)::kS (i+1) r
theorem wt (args:List V) : ∀(i t:Nat),(kS i args).get t=if i≤t then (args[t - i]?).getD .unk else .unk:=by
 induction args with
 | nil=>intro i t;simp [kS,aF.get]
 | cons v r ih=>
  intro i t;simp only [kS,aF.get];split
  ·rename_i h;subst h;simp
  ·rename_i h;rw [ih];by_cases h1:i+1≤t
   ·rw [if_pos h1,if_pos (by omega),show t - i=(t - (i+1))+1 from by omega];simp
   ·rw [if_neg h1,if_neg (by omega)]
section
variable {P:Program} {G:Gl}
theorem yx {w:World} {I:Nat→Prop} {β:bF} {v:V} {x:Value} (h:aA w I β v x):bt w I β v.atm x:=by
 cases v<;>first|exact h|trivial
def gK (tmps:Array Value):ResultVar→Sem Value
 | .tmp t=>pure (tmps.getD t undef)
 | .cell a t=>do loadVar t (←asAddr (tmps.getD a undef))
theorem rE (fn:Func) (tmps:Array Value):results fn tmps=(do let vs ←fn.results.mapM (gK tmps);pure (if h:vs.size=1 then vs[0] else .tuple vs)):=by
 unfold results;congr 2
theorem uj {P:Program} {w:World} {α:Type} (f:α→Sem Value) (rs:List α) (xs:List Value) (hl:rs.length=xs.length) (h : ∀(i:Nat) r x,rs[i]? = some r→xs[i]? = some x→(f r).run P w = .ok x w):(rs.mapM f).run P w = .ok xs w:=by
 induction rs generalizing xs with
 | nil=>
  cases xs with
  | nil=>simp
  | cons=>simp at hl
 | cons r rs ih=>
  cases xs with
  | nil=>simp at hl
  | cons x xs=>
   have h0:=h 0 r x rfl rfl;have h1:=ih xs (by simpa using hl) (fun i r x hr hx=>h (i+1) r x (by simpa using hr) (by simpa using hx));rw [List.mapM_cons];simp only [Sem.run_bind,Sem.run_pure,Result.andThen,h0,h1]
theorem rD {w:World} {I:Nat→Prop} {β:bF} {nx:Nat} {st:St} {tmps:Array Value} (hm:bW w I β st.sg nx) (he : ∀t,aA w I β (st.env.get t) (tmps.getD t undef)) :
 ∀(rs:List ResultVar) (K:List V→Prop),ka P rs st K →
   ∃(vs:List V) (xs:List Value),K vs∧vs.length=xs.length∧(∀(i:Nat) c v,vs[i]? = some c→xs[i]? = some v→aA w I β c v)∧rs.length=xs.length ∧ ∀(i:Nat) r x,rs[i]? = some r→xs[i]? = some x→(gK tmps r).run P w = .ok x w:=by
 intro rs;induction rs with
 | nil=>intro K h;exact ⟨[],[],h,rfl,by simp,rfl,by simp⟩
 | cons r rs ih=>
  intro K h;have key : ∀(v:V) (x:Value),aA w I β v x→(gK tmps r).run P w = .ok x w→ka P rs st (fun vs=>K (v::vs)) → ∃(vs:List V) (xs:List Value),K vs∧vs.length=xs.length∧(∀(i:Nat) c v,vs[i]? = some c→xs[i]? = some v→aA w I β c v)∧(r::rs).length=xs.length ∧ ∀(i:Nat) r' x,(r::rs)[i]? = some r'→xs[i]? = some x→(gK tmps r').run P w = .ok x w:=by
   intro v x hv hx h;obtain ⟨vs,xs,h1,h2,h3,h4,h5⟩:=ih _ h;refine ⟨v::vs,x::xs,h1,by simp [h2],fun i c y hc hy =>?_,by simp [h4],fun i r' y hr hy =>?_⟩
   ·cases i with
    | zero=>simp at hc hy;subst hc;subst hy;exact hv
    | succ i=>exact h3 i c y (by simpa using hc) (by simpa using hy)
   ·cases i with
    | zero=>simp at hr hy;subst hr;subst hy;exact hx
    | succ i=>exact h5 i r' y (by simpa using hr) (by simpa using hy)
  cases r with
  | tmp t=>exact key _ _ (he t) (by simp [gK]) h
  | cell a t=>
   obtain ⟨v,q1,q2⟩:=jT h;obtain ⟨x,q3,q4⟩:=q2 w I β st.sg nx (tmps.getD a undef) hm (fun _ _ h=>h) (he a);refine key v x q4 ?_ q1;cases hv:tmps.getD a undef with
   | pointer o=>
    cases o with
    | some ad=>rw [hv] at q3;simp only [gK,hv,asAddr];exact q3
    | none=>rw [hv] at q3;simp [Instr.loadAt,Instr.sureAddr,stuck] at q3
   | _=>rw [hv] at q3;simp [Instr.loadAt,Instr.sureAddr,stuck] at q3
theorem yy {w:World} {I:Nat→Prop} {β:bF} : ∀ {vs:List V} {xs:List Value},vs.length=xs.length→(∀(i:Nat) c v,vs[i]? = some c→xs[i]? = some v→aA w I β c v)→aA w I β (lT vs) (if h:xs.toArray.size=1 then xs.toArray[0] else .tuple xs.toArray)
 | [v],[x],_,h=>by simpa [lT] using h 0 v x rfl rfl
 | [],[],_,_=>by simp only [lT];exact ⟨[],by simp,by simp [bh]⟩
 | v::v'::vs,x::x'::xs,hl,h=>by
  simp only [lT];refine ⟨x::x'::xs,by simp,by simpa using hl,fun i c u hc hu =>?_⟩;simp only [List.getElem?_map,Option.map_eq_some_iff] at hc;obtain ⟨c',hc',rfl⟩:=hc;exact yx (h i c' u hc' hu)
 | [],_::_,hl,_=>by simp at hl
 | [_],[],hl,_=>by simp at hl
 | [_],_::_::_,hl,_=>by simp at hl
 | _::_::_,[],hl,_=>by simp at hl
 | _::_::_,[_],hl,_=>by simp at hl
theorem ow {fn:Func} {rs:List ResultVar} (hrs:fn.results=rs.toArray) {C:mA} {r:V} {σ':aa} {st:St} {a:Act} {w:World} (h:ah P G C.nx rs r σ' st) (hr:ou C G st a w) :
 ∃v,(results fn a.tmps).run P w = .ok v w ∧ ∃I' β',aA w I' β' r v∧al C.w C.I C.β C.σ C.nx w I' β' σ' (C.nx+4):=by
 obtain ⟨st',h1,h2⟩:=h;obtain ⟨I,β,g1,g2,g3,g4,g5,g6⟩:=h1 C a w rfl hr;obtain ⟨vs,xs,⟨l,k1,k2,k3⟩,k4,k5,k6,k7⟩:=rD g1.mem g3 rs _ h2;have hrun:=uj (P:=P) (w:=w) (gK a.tmps) rs xs k6 k7;have hres:(results fn a.tmps).run P w = .ok (if h:xs.toArray.size=1 then xs.toArray[0] else .tuple xs.toArray) w:=by
  rw [rE,hrs,List.mapM_toArray];simp only [Sem.run_bind,Sem.run_map,hrun,Result.andThen,Sem.run_pure]
 have hden:=yy (w:=w) (I:=I) (β:=β) k4 k5;clear k6 k7 hrun;revert hres hden;generalize (if h:xs.toArray.size=1 then xs.toArray[0] else Value.tuple xs.toArray)=u;intro hres hden;have hrel:ou { C with n:=1,hd:=[] } G ⟨[(0,lT vs)],st'.sg,st'.nx⟩ { tmps :=#[u],defers:=[] } w:=by
  refine ⟨I,β,g1,g2,fun t =>?_,rfl,gy.nil,g6⟩;show aA w I β (if 0=t then lT vs else .unk) _;split
  ·rename_i e;subst e;exact hden
  ·trivial
 obtain ⟨I',β',q1,_,q3,_⟩:=cS.sel G C.nx ⟨[(0,lT vs)],st'.sg,st'.nx⟩ l { C with n:=1,hd:=[] } { tmps :=#[u],defers:=[] } w rfl hrel;refine ⟨_,hres,I',β',?_,q1.sub k2 (by show C.nx+l.length≤C.nx+4;omega)⟩;subst k1;exact q3 0
theorem dg.shut {C:mA} (hC:C.hd=[]) {e:aF} {σ:aa} {nx lim D:Nat} {ds:List Deferred} {tmps:Array Value} {w:World} (h:dg C G e σ nx lim { tmps:=tmps,defers :={ target:= .collected D,args :=#[] } :: ds } w) :
 w.heap[D]? = some (.deferred (some []))∧dg C G e σ nx lim { tmps:=tmps,defers:=ds } (w.putObj D (.deferred none)):=by
 obtain ⟨I,β,h1,h2,h3,h4,⟨⟨Ds,q1,q2,q3⟩,_⟩,h6⟩:=h;match Ds,q1,q2,q3 with
 | [],q1,_,_=>simp at q1
 | D'::r,q1,q2,q3=>
  simp only [List.map_cons,List.cons.injEq,Deferred.mk.injEq,Target.collected.injEq,and_true] at q1;obtain ⟨rfl,rfl⟩:=q1;obtain ⟨g1,g2,g3,g4⟩:=q3 D (by simp);have hI : ∀b,I b→(w.putObj D (.deferred none)).heap[b]? = w.heap[b]? :=fun b hb=>World.putObj_heap_other (fun e=>g3 (e▸hb))
  have hO : ∀b,bj σ β b→(w.putObj D (.deferred none)).heap[b]? = w.heap[b]? :=fun b hb=>World.putObj_heap_other (fun e=>g4 (e▸hb))
  refine ⟨g2,I,β,⟨⟨fun id blk hb =>?_,h1.mem.inj,h1.mem.free,fun b hb =>?_⟩,h1.os,h1.tape,h1.output,?_,fun b hb ho =>?_,h1.imm,h1.immn,h1.bet,h1.nx,h1.own'⟩,h2,fun t=>(h3 t).keep hI (fun _ h=>h) (fun _ _ h=>h),h4,⟨⟨r,rfl,(List.nodup_cons.1 q2).2,fun D' hD' =>?_⟩,fun p hp=>by rw [hC] at hp;cases hp⟩,fun g x hx=>(h6 g x hx).keep hI (fun _ h=>h)⟩
  ·have ho:=h1.mem.own id blk hb;refine ho.keep (fun b hb' =>?_) (fun _ h=>h) (fun b c hc=>(ho.not_imm hc).1) (fun _ _ h=>h);rcases hb' with hb'|⟨c,hc⟩
   ·exact hI b hb'
   ·exact hO b ⟨id,blk,c,hb,hc⟩
  ·rw [World.putObj_size];exact h1.mem.lt b hb
  ·rw [World.putObj_size];exact h1.size
  ·rw [World.putObj_heap_other (by omega)];exact h1.block b hb ho
  ·obtain ⟨k1,k2,k3,k4⟩:=q3 D' (by simp [hD']);refine ⟨k1,?_,k3,k4⟩;rw [World.putObj_heap_other (fun e=>(List.nodup_cons.1 q2).1 (by rw [←e];exact hD'))];exact k2
theorem sC {fn:Func} {C:mA} (hC:C.hd=[]) {st:St} {tmps:Array Value} {R:Ending→World→Prop} (hf : ∀w,ou C G st { tmps:=tmps,defers:=[] } w → ∃v,(results fn tmps).run P w = .ok v w∧R (.returned v) w) :
 ∀(ds:List Deferred) (w:World),ou C G st { tmps:=tmps,defers:=ds } w→LeavesInM (Fr none) 0 P fn tmps R ds .returning w
 | [],w,h=>hf w h
 | d::ds,w,h=>by
  obtain ⟨D,rfl⟩ : ∃D,d = { target:= .collected D,args :=#[] } :=by
   obtain ⟨I,β,h1,h2,h3,h4,⟨⟨Ds,q1,q2,q3⟩,_⟩,h6⟩:=id h;match Ds,q1 with
   | [],q1=>simp at q1
   | D::r,q1=>
    simp only [List.map_cons,List.cons.injEq] at q1;exact ⟨D,q1.1⟩
  obtain ⟨g1,g2⟩:=dg.shut hC h;exact ⟨(fun e=>by cases e),.inl ⟨D,_,rfl,run_takeDeferred g1,sC hC hf ds _ g2⟩⟩
theorem aG.of_aw {f:Nat} {fn:Func} {c:Code} {rs:List ResultVar} {n:Nat} (hf:P.funcs[f]? = some fn) (hb:fn.body=some c) (hrs:fn.results=rs.toArray) (hn:fn.ntmps=n)
 {args:List V} (hlen:args.length≤n) {σ:aa} {m:Nat} {r:V} {σ':aa} (h:AW P G n m c ⟨kS 0 args,σ,m⟩ (rF (ah P G m rs r σ'))):aG P G f args σ m r σ':=by
 intro w I β vals hm hG hd;subst hn;refine (callsIn_wide (n:=0)).1 (callsIn_of_wp_marks (F:=Fr none) hf hb trivial ?_);let C:mA:=⟨w,I,β,σ,m,fn.ntmps,hm.free,[]⟩
 have hrel:ou C G ⟨kS 0 args,σ,m⟩ { tmps:=vals.toArray++Array.replicate (fn.ntmps - vals.toArray.size) undef,defers:=[] } w:=by
  refine ⟨I,β,al.refl hm,hm.free,fun t =>?_,?_,gy.nil,hG⟩
  ·show aA w I β ((kS 0 args).get t) _;rw [wt];simp only [Nat.zero_le,if_true,Nat.sub_zero];cases hv:args[t]? with
   | none=>trivial
   | some v=>
    have ht:t<vals.length:=by
     rw [←hd.1];rcases Nat.lt_or_ge t args.length with h|h
     ·exact h
     ·rw [List.getElem?_eq_none h] at hv;cases hv
    have:(vals.toArray++Array.replicate (fn.ntmps - vals.toArray.size) undef).getD t undef=vals[t]:=by
     simp [Array.getD_eq_getD_getElem?,Array.getElem?_append,ht]
    rw [this];exact hd.2 t v _ hv (List.getElem?_eq_getElem ht)
  ·show (vals.toArray++Array.replicate (fn.ntmps - vals.toArray.size) undef).size=fn.ntmps;have:=hd.1;simp;omega
 refine wpIn_mono (h none (.inl rfl) C _ w rfl rfl hrel) ?_;rintro e a w' ⟨st',hq,hr⟩;have key:ah P G m rs r σ' st'→LeavesInM (Fr none) 0 P fn a.tmps (fun e w'=> ∃u I' β',e = .returned u∧aA w' I' β' r u∧al w I β σ m w' I' β' σ' (m+4)) a.defers .returning w':=fun hq=>by
  refine sC (C:=C) rfl (G:=G) (st:=st') (fun w'' h =>?_) a.defers w' hr;obtain ⟨v,h2,I',β',h3,h4⟩:=ow (C:=C) (fn:=fn) hrs hq h;exact ⟨v,h2,v,I',β',rfl,h3,h4⟩
 cases e with
 | normal=>exact key hq
 | ret=>exact key hq
 | _=>exact hq.elim
theorem aG.of_code (ho:P.follows .mixedOrders=true) {f:Nat} {fn:Func} {c:Code} {rs:List ResultVar} {n:Nat} (lv:List Nat) (hf:P.funcs[f]? = some fn) (hb:fn.body=some c) (hrs:fn.results=rs.toArray) (hn:fn.ntmps=n) (hok:aT n c=true)
 {args:List V} (hlen:args.length≤n) {σ:aa} {m:Nat} {r:V} {σ':aa} (h:bi P G n m lv c ⟨kS 0 args,σ,m⟩ (rF (ah P G m rs r σ'))):aG P G f args σ m r σ':=
 aG.of_aw hf hb hrs hn hlen (cT ho c _ _ hok h)
end
def bk (l:List Nat) (id:Nat):Nat→Option Nat:=fun j=>if j<l.length then l[j]? else if j<l.length+4 then some (id+(j - l.length)) else none
def fw (l:List Nat):Nat→Option Nat:=fun i=>wy l i 0
def g8 (σ:aa):List Nat→aa
 | []=>σ
 | i::r=>g8 (σ.del i) r
def wZ (l:List Nat) (id:Nat) (σ:aa):Bool:=(l.all fun i=>decide (i<id)&&(σ.get i).isSome)&&decide l.Nodup
theorem o3 (l:List Nat) : ∀(σ:aa) (j:Nat),(g8 σ l).get j=if j∈l then none else σ.get j:=by
 induction l with
 | nil=>intro σ j;simp [g8]
 | cons i r ih=>
  intro σ j;simp only [g8,ih,aa.get_del,List.mem_cons];by_cases h:j∈r
  ·simp [h]
  ·by_cases h':j=i<;>simp [h,h']
theorem gE : ∀ {l:List Nat} (_:l.Nodup) {i j m:Nat},l[j]? = some i→wy l i m=some (m+j)
 | x::r,hn,i,j,m,h=>by
  unfold wy;cases j with
  | zero=>simp at h;subst h;simp
  | succ j=>
   simp at h;have hm:i∈r:=List.mem_of_getElem? h;have hx:x≠i:=by rintro rfl;exact (List.nodup_cons.1 hn).1 hm
   rw [if_neg hx,gE (List.nodup_cons.1 hn).2 h];congr 1;omega
theorem vH {l:List Nat} {id:Nat} (hn:l.Nodup) (hlt : ∀i∈l,i<id) : ∀j j' i,bk l id j=some i→bk l id j'=some i→j=j':=by
 intro j j' i h h';unfold bk at h h';split at h
 ·have hi:=hlt i (List.mem_of_getElem? h);split at h'
  ·have e1:=gE hn (m:=0) h;have e2:=gE hn (m:=0) h';rw [e1] at e2;injection e2 with e2;omega
  ·split at h'
   ·injection h' with h';omega
   ·cases h'
 ·split at h
  ·injection h with h;split at h'
   ·have hi:=hlt i (List.mem_of_getElem? h');omega
   ·split at h'
    ·injection h' with h';omega
    ·cases h'
  ·cases h
theorem aa.get_sel' {g:Nat→Option Nat} (hinj : ∀i i' j,g i=some j→g i'=some j→i=i') {i j:Nat} (hg:g i=some j) : ∀(σ:aa) (b:bP),σ.get i=some b→(σ.sel g).get j=some (b.sel g)
 | [],b,h=>by simp [aa.get] at h
 | (i',c)::r,b,h=>by
  simp only [aa.get] at h;split at h
  ·rename_i e;subst e;injection h with h;subst h;simp [aa.sel,hg,aa.get]
  ·rename_i hne;have ih:=aa.get_sel' hinj hg r b h;simp only [aa.sel];cases hi:g i' with
   | none=>exact ih
   | some j'=>
    simp only [aa.get];rw [if_neg]
    ·exact ih
    ·rintro rfl;exact hne (hinj _ _ _ hi hg)
theorem fX {l:List Nat} {i j:Nat} (h:fw l i=some j):l[j]? = some i∧j<l.length:=by
 obtain ⟨h1,h2,h3⟩:=cF h;exact ⟨by simpa using h3,by omega⟩
theorem iU.named {w:World} {I:Nat→Prop} {β:bF} {id:Nat} {blk:bP} (h:iU w I β id blk) : ∃y,β id=some y:=by
 cases blk with
 | cell cs ty=>obtain ⟨b,cap,_,_,h1,_⟩:=h;exact ⟨_,h1⟩
 | row k es ty=>
  rcases h with ⟨h1,_⟩|⟨b,cap,_,_,h1,_⟩
  ·exact ⟨_,h1⟩
  ·exact ⟨_,h1⟩
 | map es=>obtain ⟨b,cap,_,_,h1,_⟩:=h;exact ⟨_,h1⟩
 | iter s pos=>obtain ⟨b,cap,h1,_⟩:=h;exact ⟨_,h1⟩
 | rc y j e=>obtain ⟨b,cap,r,h1,_⟩:=h;exact ⟨_,h1⟩
section
variable {P:Program} {G:Gl}
theorem nG {f:Nat} {args:List V} {σ:aa} {id:Nat} (l:List Nat) (hl:wZ l id σ=true) {r:V} {σ1:aa} (h:aG P G f (args.map (V.sel (fw l))) (σ.sel (fw l)) l.length r σ1) :
 mf P G f args σ id (r.sel (bk l id)) (g8 σ l++σ1.sel (bk l id)):=by
 intro w I β nx vals hm hG hf hnx hd;simp only [wZ,Bool.and_eq_true,List.all_eq_true,decide_eq_true_eq] at hl;obtain ⟨hl1,hnd⟩:=hl;have hlt : ∀i∈l,i<id:=fun i hi=>(hl1 i hi).1
 let β0:bF:=fun j=>match l[j]? with|some i=>β i|none=>none
 have hfw : ∀i j,fw l i=some j → ∀x,β i=some x→β0 j=some x:=by
  intro i j hij x hx;show (match l[j]? with|some i=>β i|none=>none)=some x;rw [(fX hij).1];exact hx
 have hfb : ∀i j,fw l i=some j→β0 j=β i:=by
  intro i j hij;show (match l[j]? with|some i=>β i|none=>none)=β i;rw [(fX hij).1]
 have hinj : ∀i i' j,fw l i=some j→fw l i'=some j→i=i':=by
  intro i i' j h h';have e1:=(fX h).1;have e2:=(fX h').1;rw [e1] at e2;injection e2
 have hm0:bW w I β0 (σ.sel (fw l)) l.length:=by
  refine ⟨fun j b hj =>?_,fun j j' b b' k c c' g1 g2 g3 g4 =>?_,fun j hj =>?_,hm.lt⟩
  ·obtain ⟨i,b',q1,q2,q3⟩:=aa.get_sel hinj _ j b hj;subst q3;exact (hm.own i b' q2).sel hfw q1
  ·obtain ⟨i,x,q1,q2,q3⟩:=aa.get_sel hinj _ j b g1;obtain ⟨i',x',q1',q2',q3'⟩:=aa.get_sel hinj _ j' b' g2;rw [hfb i j q1] at g3;rw [hfb i' j' q1'] at g4;have:=hm.inj i i' x x' k c c' q2 q2' g3 g4;subst this;rw [q1] at q1';injection q1'
  ·show (match l[j]? with|some i=>β i|none=>none)=none;rw [List.getElem?_eq_none hj]
 have hd0:ca w I β0 (args.map (V.sel (fw l))) vals:=by
  refine ⟨by simpa using hd.1,fun i c x hc hx =>?_⟩;simp only [List.getElem?_map,Option.map_eq_some_iff] at hc;obtain ⟨c',hc',rfl⟩:=hc;exact (hd.2 i c' x hc' hx).sel hfw
 refine (h w I β0 vals hm0 hG hd0).mono ?_;rintro e w' ⟨u,I',β1,rfl,hu,hs⟩;let β':bF:=fun i=>if id≤i∧i<id+4 then β1 (l.length+(i - id)) else β i
 have hβ : ∀i,¬(id≤i∧i<id+4)→β' i=β i:=fun i hi=>by simp only [β',if_neg hi]
 have hown0 : ∀b,bj (σ.sel (fw l)) β0 b → ∃i blk c,i∈l∧σ.get i=some blk∧β i=some (some (b,c)):=by
  rintro b ⟨j,blk,c,h1,h2⟩;obtain ⟨i,b',q1,q2,q3⟩:=aa.get_sel hinj _ j blk h1;rw [hfb i j q1] at h2;exact ⟨i,b',c,List.mem_of_getElem? (fX q1).1,q2,h2⟩
 have hown0' : ∀b,bj (σ.sel (fw l)) β0 b→bj σ β b:=fun b hb=>by
  obtain ⟨i,blk,c,_,h2,h3⟩:=hown0 b hb;exact ⟨i,blk,c,h2,h3⟩
 have hbk : ∀j i,bk l id j=some i → ∀x,β1 j=some x→β' i=some x:=by
  intro j i hji x hx;unfold bk at hji;split at hji
  ·have hil:=List.mem_of_getElem? hji;rw [hβ i (by have:=hlt i hil;omega)];have hs1:=(hl1 i hil).2;cases hgi:σ.get i with
   | none=>rw [hgi] at hs1;cases hs1
   | some blk=>
    have hown:=hm.own i blk hgi;obtain ⟨y,hy⟩:=hown.named;have h0:β0 j=some y:=by
     show (match l[j]? with|some i=>β i|none=>none)=some y;rw [hji];exact hy
    rw [hs.bet j y h0] at hx;rw [hy,hx]
  ·split at hji
   ·injection hji with hji;show (if id≤i∧i<id+4 then β1 (l.length+(i - id)) else β i)=some x;rw [if_pos (by omega),show l.length+(i - id)=j from by omega];exact hx
   ·cases hji
 have hbk' : ∀j i,bk l id j=some i→β1 j≠none→β' i=β1 j:=by
  intro j i hji hne;cases hx:β1 j with
  | none=>exact absurd hx hne
  | some x=>exact hbk j i hji x hx
 have hbinj:=vH (id:=id) hnd hlt;have hkeep : ∀i blk,i∉l→σ.get i=some blk → ∀b c,β i=some (some (b,c)) → ¬bj (σ.sel (fw l)) β0 b∧b<w.heap.size ∧ ¬I b:=by
  intro i blk hil hgi b c hb;refine ⟨fun ho =>?_,((hm.own i blk hgi).not_imm hb).2,((hm.own i blk hgi).not_imm hb).1⟩;obtain ⟨i',blk',c',h1,h2,h3⟩:=hown0 b ho;have:=hm.inj i i' blk blk' b c c' hgi h2 hb h3;subst this;exact hil h1
 have hget : ∀i b,(g8 σ l++σ1.sel (bk l id)).get i=some b→(i∉l∧σ.get i=some b) ∨ ∃j b',bk l id j=some i∧σ1.get j=some b'∧b=b'.sel (bk l id):=by
  intro i b hi;rw [bJ,o3] at hi;split at hi
  ·rename_i b' hb';split at hb'
   ·cases hb'
   ·rename_i hil;injection hi with hi;subst hi;exact .inl ⟨hil,hb'⟩
  ·exact .inr (aa.get_sel hbinj _ i b hi)
 have hnf : ∀i blk,σ.get i=some blk→β' i=β i:=by
  intro i blk hgi;obtain ⟨y,hy⟩:=(hm.own i blk hgi).named;apply hβ;rintro ⟨h1,h2⟩;rw [hf i h1 h2] at hy;cases hy
 have hdom : ∀j b',σ1.get j=some b'→β1 j≠none:=by
  intro j b' hj he;obtain ⟨y,hy⟩:=(hs.mem.own j b' hj).named;rw [he] at hy;cases hy
 have hother : ∀i blk b c,i∉l→σ.get i=some blk→β' i=some (some (b,c)) → ¬bj σ1 β1 b ∧ ¬I' b∧w'.heap[b]? = w.heap[b]? :=by
  intro i blk b c hil hgi hb;have hb0:β i=some (some (b,c)):=by rw [←hnf i blk hgi];exact hb
  obtain ⟨h1,h2,h3⟩:=hkeep i blk hil hgi b c hb0;refine ⟨fun ho =>?_,fun hi =>?_,hs.block b h2 h1⟩
  ·rcases hs.own' b ho with h|h
   ·exact h1 h
   ·omega
  ·rcases hs.immn b hi with h|h|h
   ·exact h3 h
   ·exact h1 h
   ·omega
 refine ⟨u,I',β',rfl,hu.sel hbk,⟨⟨fun i b hi =>?_,fun i i' b b' k c c' g1 g2 g3 g4 =>?_,fun j hj =>?_,hs.mem.lt⟩,hs.os,hs.tape,hs.output,hs.size,fun b hb ho=>hs.block b hb (fun h=>ho (hown0' b h)),hs.imm,fun b hb =>?_,fun i x hx =>?_,Nat.le_refl _,?_⟩,hβ⟩
 ·rcases hget i b hi with ⟨hil,hgi⟩|⟨j,b',h1,h2,rfl⟩
  ·have ho:=hm.own i b hgi;have hbet : ∀j x,β j=some x→β' j=some x:=by
    intro j x hx;rw [hβ j]
    ·exact hx
    ·rintro ⟨h1,h2⟩;rw [hf j h1 h2] at hx;cases hx
   refine ho.keep (fun k hk =>?_) hs.imm (fun k c hk=>(hother i b k c hil hgi (by rw [hnf i b hgi];exact hk)).2.1) hbet;rcases hk with hk|⟨c,hk⟩
   ·exact hs.block k (hm.lt k hk) (hm0.not_owned hk)
   ·exact (hother i b k c hil hgi (by rw [hnf i b hgi];exact hk)).2.2
  ·exact (hs.mem.own j b' h2).sel hbk h1
 ·rcases hget i b g1 with ⟨hil,hgi⟩|⟨j,x,q1,q2,_⟩
  ·rcases hget i' b' g2 with ⟨hil',hgi'⟩|⟨j',x',q1',q2',_⟩
   ·rw [hnf i b hgi] at g3;rw [hnf i' b' hgi'] at g4;exact hm.inj i i' b b' k c c' hgi hgi' g3 g4
   ·exfalso;rw [hbk' j' i' q1' (hdom j' x' q2')] at g4;exact (hother i b k c hil hgi g3).1 ⟨j',x',c',q2',g4⟩
  ·rcases hget i' b' g2 with ⟨hil',hgi'⟩|⟨j',x',q1',q2',_⟩
   ·exfalso;rw [hbk' j i q1 (hdom j x q2)] at g3;exact (hother i' b' k c' hil' hgi' g4).1 ⟨j,x,c,q2,g3⟩
   ·rw [hbk' j i q1 (hdom j x q2)] at g3;rw [hbk' j' i' q1' (hdom j' x' q2')] at g4;have:=hs.mem.inj j j' x x' k c c' q2 q2' g3 g4;subst this;rw [q1] at q1';injection q1'
 ·rw [hβ j (by omega)];exact hm.free j hj
 ·rcases hs.immn b hb with h|h|h
  ·exact .inl h
  ·exact .inr (.inl (hown0' b h))
  ·exact .inr (.inr h)
 ·show β' i=some x;rw [hβ i]
  ·exact hx
  ·rintro ⟨h1,h2⟩;rw [hf i h1 h2] at hx;cases hx
 ·rintro b ⟨i,blk,c,h1,h2⟩;rcases hget i blk h1 with ⟨hil,hgi⟩|⟨j,b',q1,q2,rfl⟩
  ·exact .inl ⟨i,blk,c,hgi,by rw [←hnf i blk hgi];exact h2⟩
  ·rw [hbk' j i q1 (hdom j b' q2)] at h2;rcases hs.own' b ⟨j,b',c,q2,h2⟩ with h|h
   ·exact .inl (hown0' b h)
   ·exact .inr h
theorem ap.of {f:Nat} {args:List V} {σ:aa} {id:Nat} {K:V→aa→Prop} (l:List Nat) {r:V} {σ1:aa} (he:cU P f=true) (h:aG P G f (args.map (V.sel (fw l))) (σ.sel (fw l)) l.length r σ1) (hl:wZ l id σ=true)
 (hK:K (r.sel (bk l id)) (g8 σ l++σ1.sel (bk l id))):ap P G f args σ id K:=⟨_,_,hK,.inl ⟨he,nG l hl h⟩⟩
theorem lY (σ:aa):σ.sel (fw [])=[]:=by
 induction σ with
 | nil=>rfl
 | cons x r ih=>simp [aa.sel,fw,wy] at ih ⊢;exact ih
theorem cM.of {f:Nat} {args:List V} {σ:aa} {id:Nat} {K:V→aa→Prop} {r:V} {σ1:aa} (he:cU P f=true) (h:aG P G f (args.map (V.sel (fw []))) [] 0 r σ1)
 (hK:K (r.sel (bk [] id)) (σ1.sel (bk [] id))):cM P G f args σ id K:=by
 refine ⟨_,_,hK,.inl ⟨he,fun j b hj =>?_,fun σ' _=>nG (σ1:=σ1) [] rfl (by rw [lY];exact h)⟩⟩;obtain ⟨i,b',h1,_⟩:=aa.get_sel (vH (l:=[]) (id:=id) (by simp) (by simp)) _ j b hj;unfold bk at h1;simp at h1;omega
end
def St.nil (st:St) (t k:Nat):St:=match st.env.get t with
 | .d (.lit (.slice none 0 0))=>⟨st.env.put t (.so st.nx k 0 0),(st.nx,.row k [])::st.sg,st.nx+1⟩
 | _=>st
theorem cS.nil (G:Gl) (m:Nat) (st:St) (t k:Nat):cS G m st (st.nil t k):=by
 intro C a w _ hr;unfold St.nil;split
 ·rename_i he;obtain ⟨I,β,h1,h2,h3,h4,h5,h6⟩:=hr;have hb:β st.nx=none:=h2 st.nx (Nat.le_refl _);have h1':al C.w C.I C.β C.σ C.nx w I β st.sg (st.nx+1):=h1.bump (by omega);have hs:=al.nilRow h1'.mem (id:=st.nx) hb (by omega) k (tq:=none);refine ⟨I,kr β st.nx none,h1'.trans hs,fun j hj =>?_,fun u =>?_,h4,h5.step hs,h6⟩
  ·have:j≠st.nx:=by have:st.nx+1≤j:=hj;omega
   rw [aC this];exact h2 j (by have:st.nx+1≤j:=hj;omega)
  ·show aA w I (kr β st.nx none) ((st.env.put t (.so st.nx k 0 0)).get u) _;rw [aF.get_put];split
   ·rename_i e;subst e;have:=h3 t;rw [he] at this;have hv:=an this;exact .inl ⟨aH _ _ _,rfl,rfl,none,hv⟩
   ·exact hs.den h1'.mem (h3 u)
 ·exact hr
section
variable {P:Program} {G:Gl}
@[congr] theorem A7 {α:Type} {o o':Option α} {K:α→Prop} (h:o=o'):ce o K=ce o' K:=by rw [h]
@[congr] theorem zW {k j j':Nat} {es es':List D} {i i':Nat} {x x':Nat × Bool} {K:V→Prop} (h:es=es') (hi:i=i') (hj:j=j') (hx:x=x'):fe k es i j x K=fe k es' i' j' x' K:=by rw [h,hi,hj,hx]
@[congr] theorem zT {b b':bP} {K:List V→Prop} (h:b=b'):mH b K=mH b' K:=by rw [h]
@[congr] theorem Bh {b b':bP} {K:Nat→List D→Prop} (h:b=b'):xi b K=xi b' K:=by rw [h]
@[congr] theorem zZ {b b':bP} {K:ByteArray→Nat→Prop} (h:b=b'):mQ b K=mQ b' K:=by rw [h]
@[congr] theorem zQ {v v':V} {K:Bool→Prop} (h:v=v'):kT v K=kT v' K:=by rw [h]
@[congr] theorem zV {v v':V} {p q:Prop} (h:v=v'):gZ v p q=gZ v' p q:=by rw [h]
@[congr] theorem xS {v v':V} {K:Nat→List V→Prop} {Y:Nat→Prop} {B:Nat→List V→Prop} (h:v=v'):bn v K Y B=bn v' K Y B:=by rw [h]
@[congr] theorem Ag {c c' a a' b b':V} {K:V→Prop} (h:c=c') (ha:a=a') (hb:b=b'):fH c a b K=fH c' a' b' K:=by rw [h,ha,hb]
@[congr] theorem z4 {t:Nat} {a a':V} {σ σ':aa} {K:V→Prop} (h:a=a') (hs:σ=σ'):cZ P t a σ K=cZ P t a' σ' K:=by rw [h,hs]
@[congr] theorem z9 {x x':V} {σ σ':aa} {K:V→aa→Prop} (h:x=x') (hs:σ=σ'):iw x σ K=iw x' σ' K:=by rw [h,hs]
@[congr] theorem AN {v v':V} {K:Bool→Prop} {q:Prop} (h:v=v'):ml v K q=ml v' K q:=by rw [h]
@[congr] theorem yP {ops:Array Oper} {o:Oper} {e e':aF} {y n:aF→Prop} (h:e=e'):bT ops o e y n=bT ops o e' y n:=by rw [h]
@[congr] theorem Aj {op:Op} {g:Operand→V} {σ σ':aa} {id id':Nat} {K:V→aa→Prop} (h:σ=σ') (hi:id=id'):aJ P G op g σ id K=aJ P G op g σ' id' K:=by rw [h,hi]
@[congr] theorem zc {op:Op} {g:Operand→V} {σ σ':aa} {id id':Nat} {K:V→aa→Prop} (h:σ=σ') (hi:id=id'):aI P G op g σ id K=aI P G op g σ' id' K:=by rw [h,hi]
@[congr] theorem A6 {ops:Array Oper} {b b' i i':Nat} {l l':List Oper} {e e':aF} {σ σ':aa} {K:aF→aa→Prop} (hb:b=b') (hi:i=i') (hl:l=l') (he:e=e') (h:σ=σ'):j8 P G ops b i l e σ K=j8 P G ops b' i' l' e' σ' K:=by rw [hb,hi,hl,he,h]
@[congr] theorem A4 {ops:Array Oper} {b b' i i':Nat} {l l':List Oper} {e e':aF} {σ σ' τ τ':aa} {K:aF→aa→Prop} (hb:b=b') (hi:i=i') (hl:l=l') (he:e=e') (h:σ=σ') (ht:τ=τ'):lI P G ops b i l e σ τ K=lI P G ops b' i' l' e' σ' τ' K:=by rw [hb,hi,hl,he,h,ht]
@[congr] theorem A5 {lo:List Nat} {σk:aa} {ops:Array Oper} {b b' i i':Nat} {l l':List Oper} {e e':aF} {σ σ' τ τ':aa} {K:aF→aa→Prop} (hb:b=b') (hi:i=i') (hl:l=l') (he:e=e') (h:σ=σ') (ht:τ=τ'):opsL P G lo σk ops b i l e σ τ K=opsL P G lo σk ops b' i' l' e' σ' τ' K:=by rw [hb,hi,hl,he,h,ht]
@[congr] theorem BF {σk σ σ':aa} {p:Prop} (h:σ=σ'):qh σk σ p=qh σk σ' p:=by rw [h]
@[congr] theorem AZ {σ σ':aa} {p:Prop} (h:σ=σ'):uw σ p=uw σ' p:=by rw [h]
@[congr] theorem zI {lo:List Nat} {ops:Array Oper} {i i':Nat} {op:Op} {g:Operand→V} {σ σ' τ τ':aa} {id id':Nat} {K L:V→aa→Prop} (hi:i=i') (h:σ=σ') (ht:τ=τ') (hj:id=id'):e7 P G lo ops i op g σ τ id K L=e7 P G lo ops i' op g σ' τ' id' K L:=by rw [hi,h,ht,hj]
@[congr] theorem Be {lv:List Nat} {ops:Array Oper} {draw:Bool} {K:St→Prop} {st st':St} (h:st=st'):fJ P G lv ops draw K st=fJ P G lv ops draw K st':=by rw [h]
@[congr] theorem zU {n m:Nat} {lv:List Nat} {c:Code} {st st':St} {Q:Exit→St→Prop} (h:st=st'):bi P G n m lv c st Q=bi P G n m lv c st' Q:=by rw [h]
@[congr] theorem zK {m:Nat} {rs:List ResultVar} {r:V} {σ:aa} {st st':St} (h:st=st'):ah P G m rs r σ st=ah P G m rs r σ st':=by rw [h]
@[congr] theorem Bf {rs:List ResultVar} {st st':St} {K:List V→Prop} (h:st=st'):ka P rs st K=ka P rs st' K:=by rw [h]
end
def eT (r:PV) (K:V→Prop):Prop:=ce r fun x=>j7 x.1 (K x.2)
def cK (r:gp) (K:V→aa→Prop):Prop:=ce r fun x=>j7 x.1 (K x.2.1 x.2.2)
def gF:Op→Bool
 | .move _ | .assign _ | .nilCheck _ | .binOp _ _ _ _ _ | .unOp _ _ _ | .makeInterface _ _ | .makeFunc _ _ _ | .slice _ _ _ _ _ | .fieldAddr _ _ _ | .field _ _ _ | .indexAddr _ _ _ | .index _ _ _ | .typeAssert _ _ _ _ | .extract _ _ | .build _ _=>true
 | .call c=>match c.callee with
  | .builtin .len=>true
  | .builtin .max=>true
  | .builtin .min=>true
  | _=>false
 | _=>false
def fy:Op→Bool
 | .alloc _ | .box _ _ | .buildSlice _ _ _ | .range _ _ | .makeSlice _ _ _=>true
 | _=>false
section
variable {P:Program} {G:Gl} {g:Operand→V} {σ:aa} {id:Nat} {K:V→aa→Prop}
theorem xd (p:Prop) (v:V) (K:V→Prop):eT (some (p,v)) K=j7 p (K v):=rfl
theorem uF (p:Prop) (v:V) (s:aa) (K:V→aa→Prop):cK (some (p,v,s)) K=j7 p (K v s):=rfl
@[congr] theorem BB {r r':PV} {K:V→Prop} (h:r=r'):eT r K=eT r' K:=by rw [h]
@[congr] theorem Bb {r r':gp} {K:V→aa→Prop} (h:r=r'):cK r K=cK r' K:=by rw [h]
theorem pG {op:Op} (h:gF op=true) (g:Operand→V) (σ:aa) (id:Nat):aR P op g σ id=none∧eR P op g σ id=none:=by
 cases op<;>simp only [gF,Bool.false_eq_true] at h<;>try exact ⟨rfl,rfl⟩
 case call c=>
  split at h<;>first
   | (exfalso;revert h;simp;done)
   | (rename_i hc;simp only [aR,eR,hc,and_self])
theorem aN {op:Op} (h:gF op=true):aJ P G op g σ id K=eT (ci P op g) (fun v=>K v σ):=by
 have key:dZ op (eA P op g σ id) K=eT (ci P op g) (fun v=>K v σ):=by
  obtain ⟨h1,h2⟩:=pG (P:=P) h g σ id;simp only [eA,bC,h1,h2];cases ci P op g with
  | none=>rfl
  | some x=>obtain ⟨p,v⟩:=x;show j7 p (K v (σ++[]))=j7 p (K v σ);rw [List.append_nil]
 cases op<;>simp only [gF,Bool.false_eq_true] at h<;>try exact key
 case call c=>
  rw [←key];simp only [aJ];split at h<;>first
   | (exfalso;revert h;simp;done)
   | (rename_i hc;simp only [hc])
theorem aP {op:Op} (h:gF op=true):aI P G op g σ id K=eT (ci P op g) (fun v=>K v []):=by
 have key:dZ op (bC P op g σ id) K=eT (ci P op g) (fun v=>K v []):=by
  obtain ⟨h1,h2⟩:=pG (P:=P) h g σ id;simp only [bC,h1];cases ci P op g with
  | none=>rfl
  | some x=>obtain ⟨p,v⟩:=x;simp [dZ,eT,ce]
 cases op<;>simp only [gF,Bool.false_eq_true] at h<;>try exact key
 case call c=>
  rw [←key];simp only [aI];split at h<;>first
   | (exfalso;revert h;simp;done)
   | (rename_i hc;simp only [hc])
theorem eW {op:Op} (h:fy op=true) (hb : ∀t n ps,op ≠ .buildSlice t n ps):aJ P G op g σ id K=cK (aR P op g σ id) (fun v new=>K v (σ++new)):=by
 have key:dZ op (eA P op g σ id) K=cK (aR P op g σ id) (fun v new=>K v (σ++new)):=by
  have h1:ci P op g=none:=by cases op<;>first|rfl|(simp only [fy,Bool.false_eq_true] at h)
  have h2:eR P op g σ id=none:=by cases op<;>first|rfl|(simp only [fy,Bool.false_eq_true] at h)
  simp only [eA,bC,h1,h2];cases aR P op g σ id with
  | none=>rfl
  | some x=>obtain ⟨p,v,s⟩:=x;simp [dZ,cK,ce]
 cases op<;>simp only [fy,Bool.false_eq_true] at h<;>first|exact key|exact absurd rfl (hb _ _ _)
theorem vJ (p:Prop) (v:V) (new:aa) (r2:gp) (σ:aa) (K:V→aa→Prop):zR (some (p,v,new)) r2 σ K=j7 p (K v (σ++new)):=rfl
@[congr] theorem Br {r r':gp} {r2:gp} {σ:aa} {K:V→aa→Prop} (h:r=r'):zR r r2 σ K=zR r' r2 σ K:=by rw [h]
theorem fI {op:Op} (h:fy op=true):aI P G op g σ id K=cK (aR P op g σ id) K:=by
 have key:dZ op (bC P op g σ id) K=cK (aR P op g σ id) K:=by
  have h1:ci P op g=none:=by cases op<;>first|rfl|(simp only [fy,Bool.false_eq_true] at h)
  simp only [bC,h1];cases aR P op g σ id with
  | none=>rfl
  | some x=>obtain ⟨p,v,s⟩:=x;simp [dZ,cK,ce]
 cases op<;>simp only [fy,Bool.false_eq_true] at h<;>exact key
def BY (r:PV) (r2:gp) (σ:aa) (K:V→aa→Prop):Prop:=match r with
 | some (p,v)=>j7 p (K v σ)
 | none=>cK r2 K
theorem v4 (p:Prop) (v:V) (r2:gp) (σ:aa) (K:V→aa→Prop):BY (some (p,v)) r2 σ K=j7 p (K v σ):=rfl
theorem v0 (r2:gp) (σ:aa) (K:V→aa→Prop):BY none r2 σ K=cK r2 K:=rfl
@[congr] theorem Bu {r r':PV} {r2 r2':gp} {σ:aa} {K:V→aa→Prop} (h:r=r') (h2:r2=r2'):BY r r2 σ K=BY r' r2' σ K:=by rw [h,h2]
theorem mt (s d:Nat) (x:Operand):aJ P G (.convert s d x) g σ id K=BY (Bt P s d (g x)) (BT P s d (g x) σ) σ K:=by
 simp only [aJ,eA,bC,ci,aR,eR,dZ];cases Bt P s d (g x) with
 | some x=>obtain ⟨p,v⟩:=x;show j7 p (K v (σ++[]))=_;rw [List.append_nil];rfl
 | none=>
  cases BT P s d (g x) σ with
  | none=>rfl
  | some x=>obtain ⟨p,v,s⟩:=x;rfl
theorem p8 (t:Nat) (a x:Operand):aJ P G (.store t a x) g σ id K=cK (BH P t (g a) (g x) σ) K:=by
 simp only [aJ,eA,bC,ci,aR,eR,dZ];cases BH P t (g a) (g x) σ with
 | none=>rfl
 | some x=>obtain ⟨p,v,s⟩:=x;simp [cK,ce]
theorem lZ (t:Nat) (x:Operand):aJ P G (.load t x) g σ id K=cZ P t (g x) σ (fun v=>K v σ):=rfl
theorem jW (t:Nat) (x:Operand):aI P G (.load t x) g σ id K=cZ P t (g x) σ (fun v=>K v []):=rfl
theorem l7 (c x y:Operand):aJ P G (.pick c x y) g σ id K=fH (g c) (g x) (g y) (fun v=>K v σ):=rfl
theorem jY (c x y:Operand):aI P G (.pick c x y) g σ id K=fH (g c) (g x) (g y) (fun v=>K v []):=rfl
theorem rL (x:Operand):aJ P G (.next x true) g σ id K=iw (g x) σ K:=rfl
theorem rJ (f:Operand) (xs:Array Operand) (ts:Array Nat):aJ P G (.call ⟨.value f,xs,ts⟩) g σ id K=bn (g f) (fun k caps=>ap P G k (xs.toList.map g++caps) σ id K) (fun i=>fm P G i (xs.toList.map g) σ id K) (fun k fs=>ap P G k (fs++(xs.toList.map g++[])) σ id K):=rfl
def vv (P:Program) (t t':Nat) (s x:V) (σ:aa) (id:Nat) (K:V→aa→Prop):Prop:=match s with
 | .so i k lo n=>cK (oH P t t' (.so i k lo n) x σ id) K
 | s=>cK (nz P t t' s x σ id) (fun v new=>K v (σ++new))
@[congr] theorem Ax {t t':Nat} {s s' x x':V} {σ σ':aa} {id id':Nat} {K:V→aa→Prop} (hs:s=s') (hx:x=x') (h:σ=σ') (hi:id=id'):vv P t t' s x σ id K=vv P t t' s' x' σ' id' K:=by rw [hs,hx,h,hi]
theorem tp {t t':Nat} {s x:V} (hs : ∀i k lo n,s ≠ .so i k lo n):oH P t t' s x σ id=none:=by
 unfold oH;split
 ·exact absurd rfl (hs _ _ _ _)
 ·rfl
theorem oe (s x:Operand) (t t':Nat):aJ P G (.call ⟨.builtin .append,#[s,x],#[t,t']⟩) g σ id K=vv P t t' (g s) (g x) σ id K:=by
 simp only [aJ,eA,bC,ci,jM,aR,eR,dZ];unfold vv;cases hs:g s;case so i k lo n=>
  have hA:nz P t t' (.so i k lo n) (g x) σ id=none:=by
   unfold nz;repeat' split
   all_goals first|rfl|contradiction|(exfalso;simp_all;done)
  rw [hA];simp only;cases oH P t t' (.so i k lo n) (g x) σ id with
  | none=>rfl
  | some x=>obtain ⟨p,v,s⟩:=x;simp [cK,ce]
 all_goals
  simp only;rw [tp (by intros;simp)];generalize nz P t t' _ (g x) σ id=r;cases r with
  | none=>rfl
  | some x=>obtain ⟨p,v,s⟩:=x;simp [cK,ce]
theorem rK (s x:Operand) (t t':Nat):aJ P G (.call ⟨.builtin .copy,#[s,x],#[t,t']⟩) g σ id K=cK (Bs P t t' (g s) (g x) σ) K:=by
 simp only [aJ,eA,bC,ci,jM,aR,eR,dZ];cases Bs P t t' (g s) (g x) σ with
 | none=>rfl
 | some x=>obtain ⟨p,v,s⟩:=x;simp [cK,ce]
end
def mj (K:St→Prop) (st:St) (_u:Tag K:= .mk) (_h:True:=trivial):Prop:=K st
theorem mj.now {K:St→Prop} {st:St} (h:K st):mj K st:=h
def jL (b:Bool) (p q:Prop):Prop:=(b=true→p)∧(b=false→q)
theorem vI (p q:Prop):jL true p q=p:=by simp [jL]
theorem tz (p q:Prop):jL false p q=q:=by simp [jL]
theorem yk (b:Bool) (K:St→Prop) (s t:St):jL b (mj K s) (mj K t)=mj K (cond b s t):=by cases b<;>simp [jL]
theorem yp (b:Bool) (e f:aF) (σ τ:aa) (n m:Nat):cond b (⟨e,σ,n⟩:St) ⟨f,τ,m⟩=⟨cond b e f,cond b σ τ,cond b n m⟩:=by cases b<;>rfl
theorem qD (b:Bool) (k:Nat) (v v':V) (r r':aF):(cond b ((k,v)::r) ((k,v')::r'):aF)=(k,cond b v v')::cond b r r':=by cases b<;>rfl
theorem qC (b:Bool) (v v':D) (r r':List D):cond b (v::r) (v'::r')=cond b v v'::cond b r r':=by cases b<;>rfl
theorem AD (b:Bool) (x y:D):cond b (V.d x) (.d y) = .d (cond b x y):=by cases b<;>rfl
theorem vZ (b:Bool) (x y:Value):cond b (D.lit x) (.lit y) = .lit (cond b x y):=by cases b<;>rfl
theorem vV (b:Bool) (x y:List D):cond b (D.agg x) (.agg y) = .agg (cond b x y):=by cases b<;>rfl
theorem tL (b x y:Bool):cond b (Value.bool x) (.bool y) = .bool (cond b x y):=by cases b<;>rfl
theorem vY (b:Bool) (k:IntKind) (x y:Int):cond b (Value.int k x) (.int k y) = .int k (cond b x y):=by cases b<;>rfl
theorem vW (b x:Bool):cond b x false=(b&&x):=by cases b<;>rfl
theorem yq (b x:Bool):cond b true x=(b||x):=by cases b<;>rfl
theorem AF {α:Type} (x y:α):cond true x y=x:=rfl
theorem AE {α:Type} (x y:α):cond false x y=y:=rfl
theorem tM {α:Type} (b:Bool) (x:α):cond b x x=x:=by cases b<;>rfl
attribute [push_cast] yk yp qD qC AD vZ vV tL vY vW yq AF AE tM
def cE {α:Type} (a:α) (K:α→Prop) (_u:Tag K:= .mk) (_h:True:=trivial):Prop:=K a
theorem yW {α:Type} (a:α) (K:α→Prop):cE a K=K a:=rfl
attribute [push_cast] yW
theorem w8 (P:Program) (G:Gl) (ops:Array Oper) (base i:Nat) (e:aF) (σ:aa) (K:aF→aa→Prop):j8 P G ops base i [] e σ K=K e σ:=rfl
theorem uB (P:Program) (G:Gl) (ops:Array Oper) (base i:Nat) (d:Option Nat) (op:Op) (t:Nat) (p:String) (af:Array Edge) (gd:Option (Nat × Bool)) (r:List Oper) (e:aF) (σ:aa) (K:aF→aa→Prop):j8 P G ops base i (⟨d,op,t,p,af,gd⟩::r) e σ K=bT ops ⟨d,op,t,p,af,gd⟩ e
 (fun e=>aJ P G op (i2 G e.get) σ (base+4*i) fun v σ'=>cE (e.putO d v) fun e=>cE σ' fun σ'=>j8 P G ops base (i+1) r e σ' K)
 (fun e=>cE (e.putO d (.tup [])) fun e=>j8 P G ops base (i+1) r e σ K):=rfl
theorem w6 (P:Program) (G:Gl) (ops:Array Oper) (base i:Nat) (e:aF) (σ acc:aa) (K:aF→aa→Prop):lI P G ops base i [] e σ acc K=K e (σ++acc):=rfl
theorem uz (P:Program) (G:Gl) (ops:Array Oper) (base i:Nat) (d:Option Nat) (op:Op) (t:Nat) (p:String) (af:Array Edge) (gd:Option (Nat × Bool)) (r:List Oper) (e:aF) (σp acc:aa) (K:aF→aa→Prop):lI P G ops base i (⟨d,op,t,p,af,gd⟩::r) e σp acc K=bT ops ⟨d,op,t,p,af,gd⟩ e
 (fun e=>if sy op=true then aJ P G op (i2 G e.get) (σp++acc) (base+4*i) fun v σ'=>cE (e.putO d v) fun e=>cE σ' fun σ'=>lI P G ops base (i+1) r e σ' [] K
  else if eO op=true then e7 P G [] ops i op (i2 G e.get) σp acc (base+4*i) (fun v new=>cE (e.putO d v) fun e=>cE new fun new=>lI P G ops base (i+1) r e σp (acc++new) K) (fun v σ'=>cE (e.putO d v) fun e=>cE σ' fun σ'=>lI P G ops base (i+1) r e σ' [] K)
  else aI P G op (i2 G e.get) σp (base+4*i) fun v new=>cE (e.putO d v) fun e=>cE new fun new=>lI P G ops base (i+1) r e σp (acc++new) K)
 (fun e=>cE (e.putO d (.tup [])) fun e=>lI P G ops base (i+1) r e σp acc K):=rfl
theorem qd (P:Program) (G:Gl) (lo:List Nat) (ops:Array Oper) (i:Nat) (f:Operand) (xs:Array Operand) (ts:Array Nat) (g:Operand→V) (σp acc:aa) (id:Nat) (Kq Ke:V→aa→Prop):e7 P G lo ops i (.call ⟨.value f,xs,ts⟩) g σp acc id Kq Ke=bn (g f) (fun k caps=>aU P G lo ops i k (xs.toList.map g++caps) σp acc id Kq Ke) (fun j=>fA lo ops i=true∧fm P G j (xs.toList.map g) (σp++acc) id Ke) (fun k fs=>aU P G lo ops i k (fs++(xs.toList.map g++[])) σp acc id Kq Ke):=rfl
theorem w7 (P:Program) (G:Gl) (lo:List Nat) (σk:aa) (ops:Array Oper) (base i:Nat) (e:aF) (σ acc:aa) (K:aF→aa→Prop):opsL P G lo σk ops base i [] e σ acc K=K e (σ++acc):=rfl
theorem uA (P:Program) (G:Gl) (lo:List Nat) (σk:aa) (ops:Array Oper) (base i:Nat) (d:Option Nat) (op:Op) (t:Nat) (p:String) (af:Array Edge) (gd:Option (Nat × Bool)) (r:List Oper) (e:aF) (σp acc:aa) (K:aF→aa→Prop):opsL P G lo σk ops base i (⟨d,op,t,p,af,gd⟩::r) e σp acc K=bT ops ⟨d,op,t,p,af,gd⟩ e
 (fun e=>if sy op=true then aJ P G op (i2 G e.get) (σp++acc) (base+4*i) fun v σ'=>qh (xV lo ops i σk) σ' (cE (e.putO d v) fun e=>cE σ' fun σ'=>opsL P G lo σk ops base (i+1) r e σ' [] K)
  else if eO op=true then e7 P G lo ops i op (i2 G e.get) σp acc (base+4*i) (fun v new=>cE (e.putO d v) fun e=>cE new fun new=>opsL P G lo σk ops base (i+1) r e σp (acc++new) K) (fun v σ'=>qh (xV lo ops i σk) σ' (cE (e.putO d v) fun e=>cE σ' fun σ'=>opsL P G lo σk ops base (i+1) r e σ' [] K))
  else if lo.contains i=true then aI P G op (i2 G e.get) σk (base+4*i) fun v new=>uw new (cE (e.putO d v) fun e=>opsL P G lo σk ops base (i+1) r e σp acc K)
  else aI P G op (i2 G e.get) σp (base+4*i) fun v new=>cE (e.putO d v) fun e=>cE new fun new=>opsL P G lo σk ops base (i+1) r e σp (acc++new) K)
 (fun e=>cE (e.putO d (.tup [])) fun e=>opsL P G lo σk ops base (i+1) r e σp acc K):=rfl
theorem wW (K:Prop):uw [] K=K:=by simp [uw]
attribute [push_cast] w7 uA wW
theorem qh.of {lo:List Nat} {ops:Array Oper} {i:Nat} {r:aa} {σ:aa} {K:Prop} (h:aY r σ) (k:K):qh (xV lo ops i r) σ K:=by
 unfold xV qh;split
 ·exact k
 ·refine ⟨?_,k⟩;split
  ·exact fun _ _ h=>by cases h
  ·exact h
theorem qh.late {lo:List Nat} {ops:Array Oper} {i:Nat} {r:aa} {σ:aa} {K:Prop} (k:K) (h:tj lo ops i=true:=by decide +kernel):qh (xV lo ops i r) σ K:=by
 unfold xV;rw [if_pos h];exact k
theorem aY.nil {σ:aa} : aY [] σ:=fun _ _ h=>by cases h
theorem aY.cons {i:Nat} {b:bP} {r σ:aa} (h:σ.get i=some b) (k:aY r σ):aY ((i,b)::r) σ:=fun j bl hj=>by
 simp only [aa.get] at hj;split at hj
 ·rename_i e;subst e;injection hj with hj;subst hj;exact h
 ·exact k j bl hj
theorem pj : ∀(i:Nat) (l:List Oper),pi [] i l=true
 | _,[]=>rfl
 | i,_::r=>by simp [pi,pj (i+1) r]
theorem a7.dr {P:Program} {G:Gl} {m:Nat} {lv:List Nat} {ops:Array Oper} {K:St→Prop} {st:St} (hd:cu [] ops=true) (h:lI P G ops st.nx 0 ops.toList st.env st.sg [] fun e σ=>mj K ⟨aF.keep lv e,σ,st.nx+4*ops.size⟩):a7 G m (fJ P G lv ops true K) st:=
 .now ⟨[],[],hd,pj _ _,aY.nil,h⟩
theorem fJ.lo {P:Program} {G:Gl} {lv:List Nat} {ops:Array Oper} {K:St→Prop} {st:St} (σk:aa) (hd:cu (nS ops) ops=true) (hl:pi (nS ops) 0 ops.toList=true) (hk:aY σk st.sg) (h:opsL P G (nS ops) σk ops st.nx 0 ops.toList st.env st.sg [] fun e σ=>mj K ⟨aF.keep lv e,σ,st.nx+4*ops.size⟩):fJ P G lv ops true K st:=
 ⟨_,σk,hd,hl,hk,h⟩
theorem rC (P:Program) (G:Gl) (lv:List Nat) (ops:Array Oper) (K:St→Prop) (st:St):fJ P G lv ops false K st=j8 P G ops st.nx 0 ops.toList st.env st.sg fun e σ=>mj K ⟨aF.keep lv e,σ,st.nx+4*ops.size⟩:=rfl
def AS (P:Program) (t:Nat) (x i:V):PV:=match mn i with|some n=>wz P t x n|none=>none
def B9 (P:Program) (t:Nat) (x i:V):PV:=match mn i with|some n=>o7 P t x n|none=>none
section
variable {P:Program} {G:Gl} {g:Operand→V} {σ:aa} {id:Nat} {K:V→aa→Prop}
theorem kD (v:V) (K:V→Prop):eT (some (True,v)) K=K v:=pq _
theorem l5 (x:Operand):aJ P G (.move x) g σ id K=K (g x) σ:=(aN rfl).trans (kD _ _)
theorem jX (x:Operand):aI P G (.move x) g σ id K=K (g x) []:=(aP rfl).trans (kD _ _)
theorem iN (x:Operand):aJ P G (.assign x) g σ id K=K (g x) σ:=(aN rfl).trans (kD _ _)
theorem gv (x:Operand):aI P G (.assign x) g σ id K=K (g x) []:=(aP rfl).trans (kD _ _)
theorem l6 (x:Operand):aJ P G (.nilCheck x) g σ id K=eT (ja (g x)) (fun v=>K v σ):=aN rfl
theorem j9 (x:Operand):aI P G (.nilCheck x) g σ id K=eT (ja (g x)) (fun v=>K v []):=aP rfl
theorem j3 (o:BinOp) (t:Nat) (x y:Operand) (u:Nat):aJ P G (.binOp o t x y u) g σ id K=eT (tu P o t (dS x||dS y) (g x) (g y)) (fun v=>K v σ):=aN rfl
theorem iB (o:BinOp) (t:Nat) (x y:Operand) (u:Nat):aI P G (.binOp o t x y u) g σ id K=eT (tu P o t (dS x||dS y) (g x) (g y)) (fun v=>K v []):=aP rfl
theorem l8 (o:UnOp) (t:Nat) (x:Operand):aJ P G (.unOp o t x) g σ id K=eT (BJ o (g x)) (fun v=>K v σ):=aN rfl
theorem jZ (o:UnOp) (t:Nat) (x:Operand):aI P G (.unOp o t x) g σ id K=eT (BJ o (g x)) (fun v=>K v []):=aP rfl
theorem qJ (F:Nat→V) (k:Nat):i2 G F (.global k)=match G k with|some x=> .d x|none=> .unk:=rfl
theorem qz (k:IntKind) (n:Int):eE (.lit (.int k n))=UInt8.ofNat n.toNat:=rfl
theorem kn (t:Nat) (x:Operand):aJ P G (.makeInterface t x) g σ id K=eT (Bz P t (g x)) (fun v=>K v σ):=aN rfl
theorem jc (t:Nat) (x:Operand):aI P G (.makeInterface t x) g σ id K=eT (Bz P t (g x)) (fun v=>K v []):=aP rfl
theorem l4 (fn:Fn) (first caps:Array Operand):aJ P G (.makeFunc fn first caps) g σ id K=eT (Ca fn (first.toList.map g) (caps.toList.map g)) (fun v=>K v σ):=aN rfl
theorem p7 (t:Nat) (x:Operand) (lo hi mx:Option Operand):aJ P G (.slice t x lo hi mx) g σ id K=eT (BG P t (g x) (lo.map g) (hi.map g) (mx.map g)) (fun v=>K v σ):=aN rfl
theorem n5 (t:Nat) (x:Operand) (lo hi mx:Option Operand):aI P G (.slice t x lo hi mx) g σ id K=eT (BG P t (g x) (lo.map g) (hi.map g) (mx.map g)) (fun v=>K v []):=aP rfl
theorem fg (t:Nat) (x:Operand) (f:Nat):aJ P G (.fieldAddr t x f) g σ id K=eT (Bx P t f (g x)) (fun v=>K v σ):=aN rfl
theorem eu (t:Nat) (x:Operand) (f:Nat):aI P G (.fieldAddr t x f) g σ id K=eT (Bx P t f (g x)) (fun v=>K v []):=aP rfl
theorem j4 (t:Nat) (x:Operand) (f:Nat):aJ P G (.field t x f) g σ id K=eT (By P t f (g x)) (fun v=>K v σ):=aN rfl
theorem iD (t:Nat) (x:Operand) (f:Nat):aI P G (.field t x f) g σ id K=eT (By P t f (g x)) (fun v=>K v []):=aP rfl
theorem fh (t:Nat) (x i:Operand):aJ P G (.indexAddr t x i) g σ id K=eT (AS P t (g x) (g i)) (fun v=>K v σ):=aN rfl
theorem ev (t:Nat) (x i:Operand):aI P G (.indexAddr t x i) g σ id K=eT (AS P t (g x) (g i)) (fun v=>K v []):=aP rfl
theorem pZ (t:Nat) (x i:Operand):aJ P G (.index t x i) g σ id K=eT (B9 P t (g x) (g i)) (fun v=>K v σ):=aN rfl
theorem jH (x:Operand) (a t:Nat) (ok:Bool):aJ P G (.typeAssert x a t ok) g σ id K=eT (BI P (g x) t ok) (fun v=>K v σ):=aN rfl
theorem iE (x:Operand) (a t:Nat) (ok:Bool):aI P G (.typeAssert x a t ok) g σ id K=eT (BI P (g x) t ok) (fun v=>K v []):=aP rfl
theorem mw (x:Operand) (i:Nat):aJ P G (.extract x i) g σ id K=eT (Bw i (g x)) (fun v=>K v σ):=aN rfl
theorem lQ (x:Operand) (i:Nat):aI P G (.extract x i) g σ id K=eT (Bw i (g x)) (fun v=>K v []):=aP rfl
theorem pY (t:Nat) (parts:Array (Nat × Operand)):aJ P G (.build t parts) g σ id K=eT (Bq P t (parts.toList.map fun p=>(p.1,g p.2))) (fun v=>K v σ):=aN rfl
theorem n4 (t:Nat) (parts:Array (Nat × Operand)):aI P G (.build t parts) g σ id K=eT (Bq P t (parts.toList.map fun p=>(p.1,g p.2))) (fun v=>K v []):=aP rfl
theorem nn (x:Operand) (t:Nat):aJ P G (.call ⟨.builtin .len,#[x],#[t]⟩) g σ id K=eT (mS P t (g x)) (fun v=>K v σ):=aN rfl
theorem lR (x:Operand) (t:Nat):aI P G (.call ⟨.builtin .len,#[x],#[t]⟩) g σ id K=eT (mS P t (g x)) (fun v=>K v []):=aP rfl
theorem uR (x y:Operand) (ts:Array Nat):aJ P G (.call ⟨.builtin .max,#[x,y],ts⟩) g σ id K=eT (z5 true (g x) (g y)) (fun v=>K v σ):=aN rfl
theorem rB (x y:Operand) (ts:Array Nat):aI P G (.call ⟨.builtin .max,#[x,y],ts⟩) g σ id K=eT (z5 true (g x) (g y)) (fun v=>K v []):=aP rfl
theorem uS (x y:Operand) (ts:Array Nat):aJ P G (.call ⟨.builtin .min,#[x,y],ts⟩) g σ id K=eT (z5 false (g x) (g y)) (fun v=>K v σ):=aN rfl
theorem pX (t:Nat):aJ P G (.alloc t) g σ id K=cK (aR P (.alloc t) g σ id) (fun v new=>K v (σ++new)):=eW rfl (fun _ _ _ h=>by cases h)
theorem n0 (t:Nat):aI P G (.alloc t) g σ id K=cK (aR P (.alloc t) g σ id) K:=fI rfl
theorem uQ (t:Nat) (x:Operand):aJ P G (.box t x) g σ id K=cK (aR P (.box t x) g σ id) (fun v new=>K v (σ++new)):=eW rfl (fun _ _ _ h=>by cases h)
theorem jG (t n:Nat) (parts:Array (Nat × Operand)):aJ P G (.buildSlice t n parts) g σ id K=zR (aR P (.buildSlice t n parts) g σ id) (DM P t n id (parts.toList.map fun p=>(p.1,g p.2)) σ) σ K:=rfl
theorem iC (t n:Nat) (parts:Array (Nat × Operand)):aI P G (.buildSlice t n parts) g σ id K=cK (aR P (.buildSlice t n parts) g σ id) K:=fI rfl
theorem p6 (t:Nat) (x:Operand):aJ P G (.range t x) g σ id K=cK (aR P (.range t x) g σ id) (fun v new=>K v (σ++new)):=eW rfl (fun _ _ _ h=>by cases h)
theorem ko (t:Nat) (l c:Operand):aJ P G (.makeSlice t l c) g σ id K=cK (aR P (.makeSlice t l c) g σ id) (fun v new=>K v (σ++new)):=eW rfl (fun _ _ _ h=>by cases h)
theorem jd (t:Nat) (l c:Operand):aI P G (.makeSlice t l c) g σ id K=cK (aR P (.makeSlice t l c) g σ id) K:=fI rfl
end
theorem wc (x:D) (l:List D) (K:D→Prop):xU (x::l) 0 K=K x:=by simp [xU]
theorem v9 (x:D) (l:List D) (n:Nat) (K:D→Prop):xU (x::l) (n+1) K=xU l n K:=by simp [xU]
theorem tv (b:Bool) (K:Bool→Prop):kT (.d (.lit (.bool b))) K=K b:=rfl
theorem wv (b:Bool) (K:Bool→Prop) (q:Prop):ml (.d (.lit (.bool b))) K q=K b:=rfl
theorem tZ (K:Bool→Prop) (q:Prop):ml (.tup []) K q=q:=rfl
theorem tJ (b:Bool) (p q:Prop):gZ (.d (.lit (.bool b))) p q=fj b p q:=rfl
theorem uD (b:Bool) (x y:V) (K:V→Prop):fH (.d (.lit (.bool b))) x y K=K (cond b x y):=by
 show fj b (K x) (K y)=_;cases b
 ·exact mD _ _
 ·exact oO _ _
theorem qA (k:Nat) (cs:List V) (K:Nat→List V→Prop) (Y:Nat→Prop) (B:Nat→List V→Prop):bn (.fn k cs) K Y B=K k cs:=rfl
theorem tE (k:Nat) (cs:List D) (K:Nat→List V→Prop) (Y:Nat→Prop) (B:Nat→List V→Prop):bn (.d (.fn k cs)) K Y B=K k (cs.map .d):=rfl
theorem kV (k:Nat) (cs:List D) (K:Nat→List V→Prop) (Y:Nat→Prop) (B:Nat→List V→Prop):bn (.d (.bf k cs)) K Y B=B k (cs.map .d):=rfl
attribute [push_cast] kV
theorem qB (cs:List V) (ty:Option Nat) (K:List V→Prop):mH (.cell cs ty) K=K cs:=rfl
theorem xj (k:Nat) (es:List D) (ty:Option Nat) (K:Nat→List D→Prop):xi (.row k es ty) K=K k es:=rfl
theorem qR (s:ByteArray) (pos:Nat) (K:ByteArray→Nat→Prop):mQ (.iter s pos) K=K s pos:=rfl
theorem pU (k:St→Prop) (Q:Exit→St→Prop) (st:St):fO k Q .normal st=k st:=rfl
theorem uL (k:St→Prop) (Q:Exit→St→Prop) (i:Nat) (st:St):fO k Q (.exit i) st=Q (.exit i) st:=rfl
theorem xq (k:St→Prop) (Q:Exit→St→Prop) (st:St):fO k Q .ret st=Q .ret st:=rfl
theorem mp (Q:Exit→St→Prop) (st:St):fN Q .normal st=Q .normal st:=rfl
theorem rG (Q:Exit→St→Prop) (st:St):fN Q .ret st=Q .ret st:=rfl
theorem pQ (j:Nat) (Q:Exit→St→Prop) (st:St):fN Q (.exit j) st=Q (.exit j) st:=rfl
theorem mg (i:Nat) (Q:Exit→St→Prop) (st:St):du i Q .normal st=Q .normal st:=rfl
theorem qy (i:Nat) (Q:Exit→St→Prop) (st:St):du i Q .ret st=Q .ret st:=rfl
theorem oM (i j:Nat) (Q:Exit→St→Prop) (st:St):du i Q (.exit j) st=if j=i then Q .normal st else Q (.exit j) st:=rfl
theorem pK (K:St→Prop) (st:St):rF K .normal st=K st:=rfl
theorem xf (K:St→Prop) (st:St):rF K .ret st=K st:=rfl
theorem wL (P:Program) (t k:Nat) (es:List D) (i j:Nat) (σ:aa) (K:V→Prop):cZ P t (.d (.pd k es i j)) σ K=ce (dT P t) fun x=>fe k es i j x K:=rfl
theorem wN (P:Program) (t id o:Nat) (σ:aa) (K:V→Prop):cZ P t (.po id o) σ K=ce (dT P t) fun x=>ce (σ.get id) fun b=>mH b fun cs=>ce (gu x.2 o x.1 cs) K:=rfl
theorem wM (P:Program) (t id k i j:Nat) (σ:aa) (K:V→Prop):cZ P t (.pe id k i j) σ K=ce (dT P t) fun x=>ce (σ.get id) fun b=>xi b fun k' es=>j7 (k=k') (fe k es i j x K):=rfl
theorem qL (ops:Array Oper) (d:Option Nat) (op:Op) (t:Nat) (p:String) (af:Array Edge) (e:aF) (y n:aF→Prop):bT ops ⟨d,op,t,p,af,none⟩ e y n=y e:=rfl
def mi:List Oper→Nat→Option Nat
 | [],_=>none
 | o::_,0=>o.dst
 | _::r,j+1=>mi r j
theorem tR (d:Option Nat) (op:Op) (t:Nat) (p:String) (af:Array Edge) (gd:Option (Nat × Bool)) (r:List Oper):mi (⟨d,op,t,p,af,gd⟩::r) 0=d:=rfl
theorem tQ (o:Oper) (r:List Oper) (j:Nat):mi (o::r) (j+1)=mi r j:=rfl
theorem nI : ∀(l:List Oper) (j:Nat),mi l j=(l.toArray[j]?).bind (·.dst)
 | [],j=>by simp [mi]
 | o::r,0=>by simp [mi]
 | o::r,j+1=>by rw [mi,nI r j];simp
theorem qM (l:List Oper) (d:Option Nat) (op:Op) (t:Nat) (p:String) (af:Array Edge) (e:aF) (y n:aF→Prop) (j:Nat):bT l.toArray ⟨d,op,t,p,af,some (j,true)⟩ e y n=ce (mi l j) fun d=>ml (e.get d) (fun b=>jL b (cE (e.put d (.d (.lit (.bool true)))) y) (cE (e.put d (.d (.lit (.bool false)))) n)) (n e):=by rw [nI];rfl
theorem o4 (l:List Oper) (d:Option Nat) (op:Op) (t:Nat) (p:String) (af:Array Edge) (e:aF) (y n:aF→Prop) (j:Nat):bT l.toArray ⟨d,op,t,p,af,some (j,false)⟩ e y n=ce (mi l j) fun d=>ml (e.get d) (fun b=>jL b (cE (e.put d (.d (.lit (.bool true)))) n) (cE (e.put d (.d (.lit (.bool false)))) y)) (n e):=by rw [nI];rfl
theorem aF.get_nil (t:Nat):aF.get [] t = .unk:=rfl
theorem aF.get_cons (k t:Nat) (v:V) (r:aF):aF.get ((k,v)::r) t=if k=t then v else aF.get r t:=rfl
theorem yI (G:Gl) (F:Nat→V) (t:Nat):i2 G F (.tmp t)=F t:=rfl
theorem tU (G:Gl) (F:Nat→V) (v:Value):i2 G F (.const v) = .d (.lit v):=rfl
theorem wk (G:Gl) (F:Nat→V) (f:Nat):i2 G F (.func f) = .d (.fn f []):=rfl
attribute [push_cast] aF.get_nil aF.get_cons aF.put.eq_def aF.putO.eq_def aF.keep xX aa.get aa.set aa.del
attribute [push_cast] gF.eq_def fy.eq_def sy.eq_def eO.eq_def ci.eq_def tu.eq_def nP.eq_def iK.eq_def sA.eq_def og.eq_def B3.eq_def sG.eq_def dS.eq_def fb bQ BW.eq_def ph.eq_def ym.eq_def bL bg mM.eq_def Bx.eq_def By.eq_def wz.eq_def o7.eq_def BJ.eq_def Bt.eq_def Bz.eq_def Bw.eq_def mS.eq_def z5.eq_def wS.eq_def uX.eq_def ja.eq_def jM.eq_def mn.eq_def rk.eq_def AS.eq_def B9.eq_def BG.eq_def BI.eq_def Bq.eq_def mO Ca.eq_def V.cellOk.eq_def V.cellsV.eq_def D.cells.eq_def V.atom.eq_def mZ.eq_def j5 pB.eq_def gu.eq_def D.asAgg.eq_def setAt.eq_def tw.eq_def aR.eq_def BH.eq_def pT fu.eq_def gS.eq_def nz.eq_def oH.eq_def Bs.eq_def vv.eq_def
attribute [push_cast] Option.map_some Option.map_none Option.bind_some Option.bind_none List.map_cons List.map_nil List.cons_append List.nil_append List.append_nil List.length_cons List.length_nil List.all_cons List.all_nil Bool.and_true Bool.and_self Bool.or_true Bool.or_false Bool.true_and Bool.false_and Bool.and_false Bool.true_or Bool.false_or and_self and_true true_and and_false false_and List.drop_zero List.drop_succ_cons List.take_zero List.take_succ_cons List.getElem?_cons_zero List.getElem?_cons_succ List.size_toArray List.getElem?_toArray Bool.false_eq_true if_true if_false
attribute [push_cast] List.toList_toArray V.d.injEq D.lit.injEq kS List.contains_cons List.contains_nil List.drop_nil List.take_nil Nat.zero_add Nat.add_zero beq_self_eq_true List.getElem?_nil
section
variable {P:Program} {G:Gl} {m:Nat} {rs:List ResultVar} {r:V} {σ':aa} {st:St}
theorem ah.sel (l:List Nat) (h:ah P G m rs r σ' (st.sel m l)):ah P G m rs r σ' st:=a7.via (cS.sel G m st l) h
theorem ah.frz (id:Nat) (h:ah P G m rs r σ' (st.frz id)):ah P G m rs r σ' st:=a7.via (cS.frz G m st id) h
theorem ah.pick (ks is:List Nat) (h:ah P G m rs r σ' (st.pick ks is)):ah P G m rs r σ' st:=a7.via (cS.pick G m st ks is) h
theorem x8 (σ:aa):aY [] σ:=fun _ _ h=>by cases h
theorem ek {α:Type} {o:Option α} {f f':α→Prop} (hf : ∀x,f x→f' x) (h:ce o f):ce o f':=by
 cases o with
 | none=>exact h
 | some x=>exact hf x h
theorem k9 {k:Nat} {es:List D} {i j:Nat} {x:Nat × Bool} {K K':V→Prop} (hk : ∀v,K v→K' v) (h:fe k es i j x K):fe k es i j x K':=
 ⟨h.1,fun e he=>ek (fun _ hy=>hk _ hy) (h.2 e he)⟩
theorem qW {t:Nat} {a:V} {σ:aa} {K K':V→Prop} (hk : ∀v,K v→K' v) (h:cZ P t a σ K):cZ P t a σ K':=by
 unfold cZ at h ⊢;refine ek (fun x h =>?_) h;split at h
 ·exact k9 hk h
 ·refine ek (fun b hb =>?_) h;cases b<;>first|exact hb|exact ek hk hb
 ·refine ek (fun b hb =>?_) h;cases b<;>first|exact hb|exact ⟨hb.1,k9 hk hb.2⟩
 ·exact h
theorem m9 : ∀ {rs:List ResultVar} {K K':List V→Prop},(∀vs,K vs→K' vs)→ka P rs st K→ka P rs st K':=by
 intro rs;induction rs with
 | nil=>intro K K' hk h;exact hk _ h
 | cons x rs ih=>
  intro K K' hk h;cases x with
  | tmp t=>exact ih (fun vs hv=>hk _ hv) h
  | cell a t=>
   exact qW (fun v hv=>ih (fun vs hv=>hk _ hv) hv) h
theorem ah.now (l:List Nat) (hl:l.length≤4) (h:ka P rs st fun vs=>(lT vs).sel (gM m l)=r∧aY σ' (st.sg.sel (gM m l))):ah P G m rs r σ' st:=
 a7.now (m9 (fun _ h=>⟨l,h.1,h.2,hl⟩) h)
theorem ah.out (h:ka P rs st fun vs=>(lT vs).sel (gM m [])=r):ah P G m rs r [] st:=
 ah.now [] (Nat.zero_le _) (m9 (fun _ h=>⟨h,x8 _⟩) h)
end
attribute [push_cast] Value.oneCell'.eq_def ka lT.eq_def V.atm.eq_def St.sel.eq_def aF.sel aa.sel bP.sel.eq_def V.sel.eq_def V.selA.eq_def gM.eq_def wy St.frz.eq_def aF.frz aa.frz eN.eq_def V.frz.eq_def bP.frz.eq_def St.pick.eq_def List.filterMap_cons List.filterMap_nil List.map_map
attribute [push_cast] l5 jX iN gv l6 j9 j3 iB l8 jZ mt kn jc l4 p7 n5 fg eu j4 iD fh ev pZ jH iE mw lQ pY n4 nn lR uR rB uS pX n0 uQ jG iC p6 ko jd p8 lZ l7 rL rJ oe rK CW.eq_def jW jY
attribute [push_cast] vJ DM.eq_def BE.eq_def C4.eq_def Cd.eq_def A9 Ce.eq_def A8 wq v4 v0 qJ qz CV.eq_def BT.eq_def zH.eq_def BC.eq_def AU.eq_def
section
variable {P:Program} {G:Gl} {n m:Nat} {lv:List Nat}
theorem gn.via {c:Code} {st:St} {Q:Exit→St→Prop} (h:a7 G m (fun st'=>gn P G n m c st' Q) st):gn P G n m c st Q:=by
 obtain ⟨st',h1,h2⟩:=h;exact fun fr hfr C a w hn hm hr=>h2 fr hfr C a w hn hm (h1 C a w hm hr)
theorem nt.via {g:Operand} {ps:Array Nat} {asg body:Code} {st:St} {Q:Exit→St→Prop} (h:a7 G m (fun st'=>nt P G n m g ps asg body st' Q) st):nt P G n m g ps asg body st Q:=by
 obtain ⟨st',h1,h2⟩:=h;exact fun fr hfr C a w hn hm hr=>h2 fr hfr C a w hn hm (h1 C a w hm hr)
theorem a7.to {K:St→Prop} {st st':St} (ks is l:List Nat) (he:(st.pick ks is).sel m l=st') (hK:K st'):a7 G m K st:=
 a7.via (cS.pick G m st ks is) (a7.via (cS.sel G m _ l) (a7.now (by rw [he];exact hK)))
theorem a7.frz {K:St→Prop} {st:St} (id:Nat) (h:a7 G m K (st.frz id)):a7 G m K st:=a7.via (cS.frz G m st id) h
theorem a7.nil {K:St→Prop} {st:St} (t k:Nat) (h:a7 G m K (st.nil t k)):a7 G m K st:=a7.via (cS.nil G m st t k) h
theorem wO (ho:P.follows .mixedOrders=true) {c:Code} (hok:aT n c=true) {st:St} {Q:Exit→St→Prop} {α:Type} (S:α→St) (pre:α→Prop) (mu:α→Nat) (x0:α) (h0:a7 G m (fun st'=>st'=S x0) st) (hp:pre x0)
 (hr : ∀x,pre x→bi P G n m lv c (S x) (fO (a7 G m fun st'=> ∃j,j<mu x ∧ ∃y,mu y=j∧st'=S y∧pre y) Q)):gn P G n m c st Q:=by
 refine gn.via ?_;obtain ⟨st',h1,rfl⟩:=h0;refine ⟨_,h1,?_⟩;refine ug (lv:=lv) ho hok (fun k st=> ∃x,mu x=k∧st=S x∧pre x) (mu x0) ⟨x0,rfl,rfl,hp⟩ ?_;rintro k st ⟨x,rfl,rfl,hx⟩;exact hr x hx
theorem ap.d {f:Nat} {args:List V} {σ:aa} {id:Nat} {K:V→aa→Prop} {r:V} (h:aG P G f args [] 0 r []) (he:cU P f=true) (ha:args.map (V.sel (fw []))=args) (hr:r.sel (bk [] id)=r) (hK:K r σ):ap P G f args σ id K:=
 ap.of [] he (by rw [ha,lY];exact h) rfl (by rw [hr];show K r (σ++[]);rw [List.append_nil];exact hK)
theorem cM.d {f:Nat} {args:List V} {σ:aa} {id:Nat} {K:V→aa→Prop} {r:V} (h:aG P G f args [] 0 r []) (he:cU P f=true) (ha:args.map (V.sel (fw []))=args) (hr:r.sel (bk [] id)=r) (hK:K r []):cM P G f args σ id K:=
 cM.of he (by rw [ha];exact h) (by rw [hr];exact hK)
end
theorem aU.q {P:Program} {G:Gl} {lo:List Nat} {ops:Array Oper} {i k:Nat} {args:List V} {σp acc:aa} {id:Nat} {Kq Ke:V→aa→Prop} (h:cM P G k args σp id Kq):aU P G lo ops i k args σp acc id Kq Ke:= .inl h
theorem aU.e {P:Program} {G:Gl} {lo:List Nat} {ops:Array Oper} {i k:Nat} {args:List V} {σp acc:aa} {id:Nat} {Kq Ke:V→aa→Prop} (hl:fA lo ops i=true) (h:ap P G k args (σp++acc) id Ke):aU P G lo ops i k args σp acc id Kq Ke:= .inr ⟨hl,h⟩
theorem aU.d {P:Program} {G:Gl} {lo:List Nat} {ops:Array Oper} {i f:Nat} {args:List V} {σ acc:aa} {id:Nat} {K L:V→aa→Prop} {r:V} (h:aG P G f args [] 0 r []) (he:cU P f=true) (ha:args.map (V.sel (fw []))=args) (hr:r.sel (bk [] id)=r) (hK:K r []):aU P G lo ops i f args σ acc id K L:= .inl (cM.d h he ha hr hK)
def cj {α:Type} (xs:List α) (i:Nat) (K:α→Prop) (_u:Tag K:= .mk) (_h:True:=trivial):Prop:= ∀x,xs[i]? = some x→K x
theorem yC {α:Type} (f:α→D) (xs:List α) (i:Nat) (K:D→Prop):xU (xs.map f) i K=cj xs i fun x=>K (f x):=by
 unfold xU cj;apply propext;constructor
 ·intro h x hx;exact h (f x) (by simp [hx])
 ·intro h e he;simp only [List.getElem?_map,Option.map_eq_some_iff] at he;obtain ⟨x,hx,rfl⟩:=he;exact h x hx
attribute [push_cast] List.length_map Int.toNat_natCast
abbrev ii (a b:Int):D:= .agg [.lit (.int .i64 a),.lit (.int .i64 b)]
abbrev iv (a:Int):V:= .d (.lit (.int .i64 a))
abbrev bv (b:Bool):V:= .d (.lit (.bool b))
theorem fj.two {b:Bool} {p q:Prop} (h1:b=true→p) (h2:b=false→q):fj b p q:=⟨h1,h2⟩
theorem jL.two {b:Bool} {p q:Prop} (h1:b=true→p) (h2:b=false→q):jL b p q:=⟨h1,h2⟩
theorem fj.dec {p:Prop} [Decidable p] {q r:Prop} (h1:p→q) (h2 : ¬p→r):fj (decide p) q r:=⟨fun h=>h1 (of_decide_eq_true h),fun h=>h2 (of_decide_eq_false h)⟩
theorem jL.dec {p:Prop} [Decidable p] {q r:Prop} (h1:p→q) (h2 : ¬p→r):jL (decide p) q r:=⟨fun h=>h1 (of_decide_eq_true h),fun h=>h2 (of_decide_eq_false h)⟩
theorem jL.ndec {p:Prop} [Decidable p] {q r:Prop} (h1 : ¬p→q) (h2:p→r):jL (!decide p) q r:=⟨fun h=>h1 (by simpa using h),fun h=>h2 (by simpa using h)⟩
theorem fj.ndec {p:Prop} [Decidable p] {q r:Prop} (h1 : ¬p→q) (h2:p→r):fj (!decide p) q r:=⟨fun h=>h1 (by simpa using h),fun h=>h2 (by simpa using h)⟩
theorem j7.intro {p q:Prop} (h1:p) (h2:p→q):j7 p q:=⟨h1,h2 h1⟩
theorem j7.intro' {p q:Prop} (h1:p) (h2:q):j7 p q:=⟨h1,h2⟩
theorem cj.intro {α:Type} {xs:List α} {i:Nat} {K:α→Prop} (h : ∀x,xs[i]? = some x→K x):cj xs i K:=h
theorem xU.intro {xs:List D} {i:Nat} {K:D→Prop} (h : ∀x,xs[i]? = some x→K x):xU xs i K:=h
theorem cj.at {α:Type} {xs:List α} {i:Nat} {K:α→Prop} (n:Nat) (hn:i=n) (h : ∀x,xs[n]? = some x→K x):cj xs i K:=by subst hn;exact h
theorem cj.is {α:Type} {xs:List α} {i:Nat} {K:α→Prop} (n:Nat) (x:α) (hn:i=n) (hx:xs[n]? = some x) (h:K x):cj xs i K:=by
 subst hn;intro y hy;rw [hx] at hy;injection hy with hy;subst hy;exact h
theorem am (σ:aa):aY σ σ:=fun _ _ h=>h
theorem Dq (n:Int) (h1 : -9223372036854775808≤n) (h2:n≤9223372036854775807):IntKind.i64.wrap n=n:=IntWalk.i64_in n ⟨h1,h2⟩
attribute [push_cast] St.nil.eq_def Nat.le_refl List.take_length Int.sub_zero Int.add_zero Int.zero_add
theorem aX {α:Type} {xs:List α} {i:Nat} {x:α} (h:xs[i]? = some x):xs.take (i+1)=xs.take i++[x]:=by
 rw [List.take_add_one,h];simp
theorem Et (n:Int) (h1:0≤n) (h2:n≤18446744073709551615):IntKind.u64.wrap n=n:=by rw [IntKind.wrap_u64];omega
theorem ww (n:Int):n.fdiv (2 ^ min (Int.toNat 1) IntKind.u64.bits)=n / 2:=by
 rw [show (2:Int) ^ min (Int.toNat 1) IntKind.u64.bits=2 from rfl,Int.fdiv_eq_ediv_of_nonneg n (by omega)]
theorem yQ (n:Int):n.fdiv (2 ^ min 1 IntKind.u64.bits)=n / 2:=ww n
def oC:List Nat→Nat→List Nat
 | [],i=>[i]
 | x::r,i=>if x=i then x::r else x::oC r i
def AQ (l:List Nat):V→List Nat
 | .so i _ _ _=>oC l i
 | .po i _=>oC l i
 | .pe i _ _ _=>oC l i
 | .mo i=>oC l i
 | .it i=>oC l i
 | .yl i=>oC l i
 | _=>l
def wx (l:List Nat):List V→List Nat
 | []=>l
 | v::r=>wx (AQ l v) r
def B8 (l:List Nat):V→List Nat
 | .agg cs=>wx l cs
 | .tup cs=>wx l cs
 | .fn _ cs=>wx l cs
 | v=>AQ l v
def yR (l:List Nat):List V→List Nat
 | []=>l
 | v::r=>yR (B8 l v) r
def AO (σ:aa):List Nat→List Nat→List Nat
 | [],l=>l
 | i::r,l=>AO σ r (match σ.get i with|some (.cell cs _)=>yR l cs|_=>l)
def AP (σ:aa) (l:List Nat):List Nat:=AO σ l l
def AM (e:aF):List Nat→List V
 | []=>[]
 | t::r=>e.get t::AM e r
def St.ids (st:St) (ks:List Nat):List Nat:=AP st.sg (AP st.sg (yR [] (AM st.env ks)))
def B7 (m:Nat):List Nat→List Nat
 | []=>[]
 | x::r=>if x<m then B7 m r else x::B7 m r
def St.norm (st:St) (m:Nat) (ks:List Nat):St:=(st.pick ks (st.ids ks)).sel m (B7 m (st.ids ks))
attribute [push_cast] oC AQ.eq_def wx B8.eq_def yR AO AP.eq_def AM B7 St.ids.eq_def St.norm.eq_def
theorem a7.go {G:Gl} {m:Nat} {K:St→Prop} {st st':St} (ks:List Nat) (he:st.norm m ks=st') (hK:K st'):a7 G m K st:=a7.to ks (st.ids ks) (B7 m (st.ids ks)) he hK
def bA {α:Type} (G:Gl) (m:Nat) (S:α→St) (pre:α→Prop) (mu:α→Nat) (x:α) (st:St) (_u:Tag S:= .mk) (_v:Tag pre:= .mk) (_w:Tag mu:= .mk) (_x:Tag x:= .mk) (_h:True:=trivial):Prop:=a7 G m (fun st'=> ∃j,j<mu x ∧ ∃y,mu y=j∧st'=S y∧pre y) st
section
variable {P:Program} {G:Gl} {n m:Nat} {lv:List Nat} {α:Type} {S:α→St} {pre:α→Prop} {mu:α→Nat}
theorem bA.to {x:α} {st:St} (y:α) (ks is l:List Nat) (he:(st.pick ks is).sel m l=S y) (hm:mu y<mu x) (hp:pre y):bA G m S pre mu x st:=
 a7.to ks is l he ⟨_,hm,y,rfl,rfl,hp⟩
theorem bA.go {x:α} {st:St} (y:α) (ks:List Nat) (he:st.norm m ks=S y) (hm:mu y<mu x) (hp:pre y):bA G m S pre mu x st:=
 a7.go ks he ⟨_,hm,y,rfl,rfl,hp⟩
theorem bA.frz {x:α} {st:St} (id:Nat) (h:bA G m S pre mu x (st.frz id)):bA G m S pre mu x st:=a7.frz id h
theorem wP (ho:P.follows .mixedOrders=true) {c:Code} (hok:aT n c=true) {st:St} {Q:Exit→St→Prop} (S:α→St) (pre:α→Prop) (mu:α→Nat) (x0:α) (h0:a7 G m (fun st'=>st'=S x0) st) (hp:pre x0)
 (hr : ∀x,pre x→bi P G n m lv c (S x) (fO (fun st=>bA G m S pre mu x st) Q)):gn P G n m c st Q:=
 wO (lv:=lv) ho hok S pre mu x0 h0 hp hr
end
section
variable {P:Program} {G:Gl}
theorem ap.put {f:Nat} {args args':List V} {σ:aa} {id:Nat} {K:V→aa→Prop} {r:V} {b b':bP} (i:Nat) (h:aG P G f args' [(0,b)] 1 r [(0,b')]) (he:cU P f=true) (ha:args.map (V.sel (fw [i]))=args') (hs:σ.sel (fw [i])=[(0,b)]) (hl:wZ [i] id σ=true)
 (hK:K (r.sel (bk [i] id)) (g8 σ [i]++aa.sel (bk [i] id) [(0,b')])):ap P G f args σ id K:=
 ap.of [i] he (by rw [ha,hs];exact h) hl hK
end
theorem fj.beq {a b:Int} {q r:Prop} (h1:a=b→q) (h2 : ¬a=b→r):fj (a==b) q r:=⟨fun h=>h1 (by simpa using h),fun h=>h2 (by simpa using h)⟩
theorem jL.beq {a b:Int} {q r:Prop} (h1:a=b→q) (h2 : ¬a=b→r):jL (a==b) q r:=⟨fun h=>h1 (by simpa using h),fun h=>h2 (by simpa using h)⟩
theorem fj.bne {a b:Int} {q r:Prop} (h1 : ¬a=b→q) (h2:a=b→r):fj (!(a==b)) q r:=⟨fun h=>h1 (by simpa using h),fun h=>h2 (by simpa using h)⟩
theorem jL.bne {a b:Int} {q r:Prop} (h1 : ¬a=b→q) (h2:a=b→r):jL (!(a==b)) q r:=⟨fun h=>h1 (by simpa using h),fun h=>h2 (by simpa using h)⟩
theorem fj.dand {p p':Prop} [Decidable p] [Decidable p'] {q r:Prop} (h1:p∧p'→q) (h2 : ¬(p∧p')→r):fj (decide p&&decide p') q r:=⟨fun h=>h1 (by simpa using h),fun h=>h2 (by simpa using h)⟩
theorem jL.dand {p p':Prop} [Decidable p] [Decidable p'] {q r:Prop} (h1:p∧p'→q) (h2 : ¬(p∧p')→r):jL (decide p&&decide p') q r:=⟨fun h=>h1 (by simpa using h),fun h=>h2 (by simpa using h)⟩
theorem fj.dor {p p':Prop} [Decidable p] [Decidable p'] {q r:Prop} (h1:p∨p'→q) (h2 : ¬(p∨p')→r):fj (decide p||decide p') q r:=⟨fun h=>h1 (by simpa using h),fun h=>h2 (by simpa using h)⟩
theorem jL.dor {p p':Prop} [Decidable p] [Decidable p'] {q r:Prop} (h1:p∨p'→q) (h2 : ¬(p∨p')→r):jL (decide p||decide p') q r:=⟨fun h=>h1 (by simpa using h),fun h=>h2 (by simpa using h)⟩
theorem fj.and {a b:Bool} {q r:Prop} (h:fj a (fj b q r) r):fj (a&&b) q r:=by
 cases a
 ·exact ⟨fun h=>by simp at h,fun _=>h.2 rfl⟩
 ·exact h.1 rfl
attribute [push_cast] Bool.not_true Bool.not_false bk.eq_def fw.eq_def g8 wZ.eq_def
end Go.Proofs.YtkhonlnajdfhfaaDoor
set_option linter.unusedSimpArgs false
namespace Go.Proofs.YtkhonlnajdfhfaaDoor
open Go
section
variable {P:Program}
def oW (P:Program) (g:Nat→Option (List CK)):List Field→Nat→Option (List CK)
 | [],_=>some []
 | f::r,o=>if (decide (f.name ≠ "_")&&decide (f.offset=o)&&(P.info? f.type).isSome)=true then (match g f.type with
  | some a=>if P.cellsOf f.type=a.length then (oW P g r (o+a.length)).map (a ++ ·) else none
  | none=>none) else none
def lb (P:Program):Nat→Nat→Option (List CK)
 | 0,_=>none
 | d+1,t=>match P.underlying t with
  | some (.int k)=>some [.int k]
  | some .bool=>some [.bool]
  | some .string=>some [.str]
  | some (.struct fs)=>if P.stoodInHeld t=false then oW P (lb P d) fs.toList 0 else none
  | _=>none
def cr (P:Program) (t:Nat) (xs:List Value) (v:Value):Prop:=
 match P.underlying t with
 | some (.struct _)=>v = .agg xs.toArray
 | _=>xs=[v]
theorem cW : ∀ {ks:List CK} {xs:List Value},bx ks xs→ks.length=xs.length
 | [],[],_=>rfl
 | _::_,_::_,h=>by simp [cW h.2]
 | [],_::_,h=>h.elim
 | _::_,[],h=>h.elim
theorem fx : ∀ {a b:List CK} {xs:List Value},bx (a++b) xs→bx a (xs.take a.length)∧bx b (xs.drop a.length)
 | [],_,_,h=>⟨trivial,h⟩
 | _::_,_,[],h=>h.elim
 | c::a,b,x::xs,h=>by
  have:=fx (a:=a) (b:=b) h.2;exact ⟨⟨h.1,this.1⟩,this.2⟩
theorem lc : ∀ {a b c d:List Value},a.length=b.length→bg (a++c) (b++d)=(bg a b&&bg c d)
 | [],[],_,_,_=>by simp [bg]
 | x::a,y::b,c,d,h=>by simp [bg,lc (a:=a) (b:=b) (c:=c) (d:=d) (by simpa using h),Bool.and_assoc]
 | [],_::_,_,_,h=>by simp at h
 | _::_,[],_,_,h=>by simp at h
theorem oV {d t:Nat} {ks:List CK} (h:lb P d t=some ks) (hs : ∀fs,P.underlying t≠some (.struct fs)):ks.length=1∧((∃k,P.underlying t=some (.int k))∨P.underlying t=some .bool∨P.underlying t=some .string):=by
 cases d with
 | zero=>simp [lb] at h
 | succ d=>
  simp only [lb] at h;split at h
  ·injection h with h;subst h;rename_i k hk;exact ⟨rfl,.inl ⟨k,hk⟩⟩
  ·injection h with h;subst h;rename_i hk;exact ⟨rfl,.inr (.inl hk)⟩
  ·injection h with h;subst h;rename_i hk;exact ⟨rfl,.inr (.inr hk)⟩
  ·rename_i fs hk;exact absurd hk (hs fs)
  ·cases h
theorem pC {d e o:Nat} {ks:List CK} {xs:List Value} {w:World} (h:lb P d e=some ks) (hi:(P.info? e).isSome=true) (hc:P.cellsOf e=ks.length) (hl:o+ks.length≤xs.length) :
 ∃v,(part e xs.toArray o).run P w = .ok v w∧cr P e ((xs.drop o).take ks.length) v:=by
 by_cases hs : ∃fs,P.underlying e=some (.struct fs)
 ·obtain ⟨fs,hu⟩:=hs;obtain ⟨i,hi⟩:=Option.isSome_iff_exists.1 hi;refine ⟨.agg (xs.toArray.extract o (o+P.cellsOf e)),by simp [part,isAgg,run_underlying hu,run_sizeOf w hi],?_⟩;simp only [cr,hu];congr 1;apply Array.ext';rw [Array.toList_extract,hc];simp [List.extract]
 ·have hs' : ∀fs,P.underlying e≠some (.struct fs):=fun fs hu=>hs ⟨fs,hu⟩
  obtain ⟨h1,hk⟩:=oV h hs';have hlt:o<xs.length:=by omega
  have hp:P.plainKey e=true:=by
   unfold Program.plainKey;rcases hk with ⟨k,hk⟩|hk|hk<;>rw [hk]
  refine ⟨xs[o],run_part_plain w hp (by simp [hlt]),?_⟩;have:(xs.drop o).take ks.length=[xs[o]]:=by rw [h1,List.drop_eq_getElem_cons hlt,List.take_succ_cons,List.take_zero]
  rcases hk with ⟨k,hk⟩|hk|hk<;>simp only [cr,hk]<;>exact this
theorem eM {d D:Nat} (ih : ∀t ks,lb P d t=some ks → ∀(w:World) xs ys vx vy,bx ks xs→bx ks ys→cr P t xs vx→cr P t ys vy→(Op.equalIn D t vx vy).run P w = .ok (bg xs ys) w)
 (xs ys:List Value) (w:World) : ∀(fs:List Field) (o:Nat) (ks:List CK),oW P (lb P d) fs o=some ks→bx ks (xs.drop o)→bx ks (ys.drop o) →
  (Op.eqFields D xs.toArray ys.toArray fs).run P w = .ok (bg (xs.drop o) (ys.drop o)) w
 | [],o,ks,h,hx,hy=>by
  simp only [oW,Option.some.injEq] at h;subst h;have h1:=cW hx;have h2:=cW hy;rw [List.eq_nil_of_length_eq_zero h1.symm,List.eq_nil_of_length_eq_zero h2.symm];simp [Op.eqFields,bg]
 | f::fs,o,ks,h,hx,hy=>by
  simp only [oW] at h;split at h;rotate_left
  ·cases h
  rename_i hc;simp only [Bool.and_eq_true,decide_eq_true_eq] at hc;obtain ⟨⟨hn,ho⟩,hi⟩:=hc;split at h;rotate_left
  ·cases h
  rename_i a ha;split at h;rotate_left
  ·cases h
  rename_i hcl;simp only [Option.map_eq_some_iff] at h;obtain ⟨b,hb,rfl⟩:=h;have lx:=cW hx;have ly:=cW hy;simp only [List.length_append,List.length_drop] at lx ly;obtain ⟨hx1,hx2⟩:=fx hx;obtain ⟨hy1,hy2⟩:=fx hy;rw [List.drop_drop] at hx2 hy2;have l1:o+a.length≤xs.length∨a.length=0:=by omega
  have l2:o+a.length≤ys.length∨a.length=0:=by omega
  rcases Nat.eq_zero_or_pos a.length with h0|h0
  ·-- a type without cells: a struct without fields
   have ha0:a=[]:=List.eq_nil_of_length_eq_zero h0;subst ha0;by_cases hs : ∃gs,P.underlying f.type=some (.struct gs)
   ·obtain ⟨gs,hu⟩:=hs;obtain ⟨i,hi⟩:=Option.isSome_iff_exists.1 hi;have p : ∀zs:List Value,(part f.type zs.toArray f.offset).run P w = .ok (.agg #[]) w:=by
     intro zs;simp [part,isAgg,run_underlying hu,run_sizeOf w hi,hcl]
    have e:=ih f.type [] ha w [] [] (.agg #[]) (.agg #[]) trivial trivial (by simp [cr,hu]) (by simp [cr,hu]);have r:=eM ih xs ys w fs (o+0) b hb hx2 hy2;simp only [Op.eqFields,hn,ne_eq,not_false_eq_true,if_true,Sem.run_bind,p,e,Result.andThen_ok,bg,Bool.not_true,Bool.false_eq_true,if_false];exact r
   ·have:=(oV ha fun gs hu=>hs ⟨gs,hu⟩).1;simp at this
  ·have l1:o+a.length≤xs.length:=by omega
   have l2:o+a.length≤ys.length:=by omega
   obtain ⟨v,p1,q1⟩:=pC (w:=w) ha hi hcl l1;obtain ⟨u,p2,q2⟩:=pC (w:=w) ha hi hcl l2;have e:=ih f.type a ha w _ _ v u hx1 hy1 q1 q2;have r:=eM ih xs ys w fs (o+a.length) b hb hx2 hy2;have key:bg (xs.drop o) (ys.drop o)=(bg ((xs.drop o).take a.length) ((ys.drop o).take a.length)&&bg (xs.drop (o+a.length)) (ys.drop (o+a.length))):=by
    rw [←lc (by simp;omega),←List.drop_drop,←List.drop_drop,List.take_append_drop,List.take_append_drop]
   rw [key];simp only [Op.eqFields,hn,ho,ne_eq,not_false_eq_true,if_true,Sem.run_bind,p1,p2,e,Result.andThen_ok];cases bg ((xs.drop o).take a.length) ((ys.drop o).take a.length)
   ·simp
   ·simpa using r
theorem wd : ∀(d t:Nat) (ks:List CK),lb P d t=some ks → ∀(D:Nat) (w:World) xs ys vx vy,d≤D→bx ks xs→bx ks ys→cr P t xs vx→cr P t ys vy→(Op.equalIn D t vx vy).run P w = .ok (bg xs ys) w:=by
 intro d;induction d with
 | zero=>intro t ks h;simp [lb] at h
 | succ d ih=>
  intro t ks h D w xs ys vx vy hD hx hy hvx hvy;obtain ⟨D,rfl⟩ : ∃E,D=E+1:=⟨D - 1,by omega⟩
  simp only [lb] at h;split at h
  ·rename_i k hu;injection h with h;subst h;simp only [cr,hu] at hvx hvy;subst hvx hvy;obtain ⟨⟨a,rfl⟩,_⟩:=hx;obtain ⟨⟨b,rfl⟩,_⟩:=hy;rw [run_equalIn_int w D t k k a b hu];simp [bg,mM]
  ·rename_i hu;injection h with h;subst h;simp only [cr,hu] at hvx hvy;subst hvx hvy;obtain ⟨⟨a,rfl⟩,_⟩:=hx;obtain ⟨⟨b,rfl⟩,_⟩:=hy;rw [run_equalIn_bool' w D t a b hu];simp [bg,mM]
  ·rename_i hu;injection h with h;subst h;simp only [cr,hu] at hvx hvy;subst hvx hvy;obtain ⟨⟨a,rfl⟩,_⟩:=hx;obtain ⟨⟨b,rfl⟩,_⟩:=hy;rw [run_equalIn_string w D t a b hu,←beq_toListBytes];simp [bg,mM]
  ·rename_i fs hu;split at h;rotate_left
   ·cases h
   rename_i hst;simp only [cr,hu] at hvx hvy;subst hvx hvy;have hf:P.fieldsOf t=fs:=by simp [Program.fieldsOf,hu]
   rw [run_equalIn_struct w D t _ _ (by rw [hf];exact hu) hst,hf];exact eM (fun t ks h w xs ys vx vy a b c e=>ih t ks h D w xs ys vx vy (by omega) a b c e) xs ys w fs.toList 0 ks h hx hy
  ·cases h
def zX (P:Program) (t:Nat):Option (List CK):=
 match P.underlying t with
 | some (.struct _)=>if P.eqGuardType P.depth t=false then lb P 20 t else none
 | _=>none
theorem kI.of {t:Nat} {ks:List CK} (h:zX P t=some ks):kI P t ks:=by
 unfold zX at h;split at h;rotate_left
 ·cases h
 rename_i fs hu;split at h;rotate_left
 ·cases h
 rename_i hg;refine ⟨hg,fun xs ys w hx hy =>?_⟩;exact wd 20 t ks h Op.maxDepth w xs ys _ _ (by decide) hx hy (by simp [cr,hu]) (by simp [cr,hu])
end
attribute [push_cast] bg mM
end Go.Proofs.YtkhonlnajdfhfaaDoor
set_option linter.unusedSimpArgs false
namespace Go.Proofs.YtkhonlnajdfhfaaDoor
open Go
section
variable {P:Program} {G:Gl} {w:World} {I:Nat→Prop} {β:bF} {σ:aa} {nx id:Nat} {blk:bP}
theorem mf.frz {f i:Nat} {args:List V} {v:V} {σ':aa} (hg:σ.get i=some blk) (h:mf P G f (args.map (V.frz i blk)) (σ.frz i blk) id v σ'):mf P G f args σ id v σ':=by
 intro w I β nx vals hm hG hf hnx hd;obtain ⟨s,hset⟩:=o0 hm hg;refine (h w _ β nx vals s.mem (fun g x hx=>(hG g x hx).keep (fun _ _=>rfl) (fun b hb=> .inl hb)) hf hnx ⟨by simpa using hd.1,fun j c x hc hx =>?_⟩).mono ?_
 ·simp only [List.getElem?_map,Option.map_eq_some_iff] at hc;obtain ⟨c',hc',rfl⟩:=hc;exact hset.den (hd.2 j c' x hc' hx)
 ·rintro e w' ⟨u,I2,β2,e1,e2,e3,e4⟩;exact ⟨u,I2,β2,e1,e2,s.trans e3,e4⟩
theorem ap.frz {f:Nat} {args:List V} {K:V→aa→Prop} (i:Nat) (hg:σ.get i=some blk) (h:ap P G f (args.map (V.frz i blk)) (σ.frz i blk) id K) (hent:cU P f=true:=by kernel_rfl):ap P G f args σ id K:=by
 obtain ⟨v,σ',hK,hd⟩:=h;rcases hd with ⟨he,hd⟩|⟨he,_⟩
 ·exact ⟨v,σ',hK,.inl ⟨he,hd.frz hg⟩⟩
 ·rw [yK hent] at he;cases he
end
attribute [push_cast] bne_self_eq_false beq_self_eq_true Bool.true_beq Bool.false_beq Bool.false_or Bool.true_or Bool.or_false Bool.or_true Bool.and_true Bool.true_and Bool.false_and Bool.and_false
end Go.Proofs.YtkhonlnajdfhfaaDoor
set_option linter.unusedVariables false
namespace Go.Proofs.YtkhonlnajdfhfaaDoor
theorem Dx (a b:Int):(a != b) = !(a==b):=rfl
attribute [push_cast] Dx Bool.not_not
class gf (b:Bool) (p q:outParam Prop):Prop where
 says:b=true↔p
 nots:b=false↔q
theorem gf.mk' {b:Bool} {p:Prop} (h:b=true↔p):gf b p (¬p):=⟨h,by rw [←h];simp⟩
instance (priority:=100) gf.any (b:Bool):gf b (b=true) (b=false):=⟨Iff.rfl,Iff.rfl⟩
instance gf.dec {p:Prop} [Decidable p]:gf (decide p) p (¬p):=gf.mk' (by simp)
instance gf.beq {a b:Int} : gf (a==b) (a=b) (¬a=b):=gf.mk' (by simp)
instance gf.not {b:Bool} {p q:Prop} [h:gf b p q]:gf (!b) q p:=⟨by rw [←h.nots];simp,by rw [←h.says];simp⟩
instance gf.and {a b:Bool} {p q p' q':Prop} [h:gf a p p'] [k:gf b q q']:gf (a&&b) (p∧q) (¬(p∧q)):=gf.mk' (by rw [←h.says,←k.says];simp)
instance gf.or {a b:Bool} {p q p' q':Prop} [h:gf a p p'] [k:gf b q q']:gf (a||b) (p∨q) (¬(p∨q)):=gf.mk' (by rw [←h.says,←k.says];simp)
theorem fj.of {b:Bool} {p p':Prop} [h:gf b p p'] {q r:Prop} (h1:p→q) (h2:p'→r):fj b q r:=⟨fun e=>h1 (h.says.1 e),fun e=>h2 (h.nots.1 e)⟩
theorem jL.of {b:Bool} {p p':Prop} [h:gf b p p'] {q r:Prop} (h1:p→q) (h2:p'→r):jL b q r:=⟨fun e=>h1 (h.says.1 e),fun e=>h2 (h.nots.1 e)⟩
theorem wU (id:Nat) (σ:aa) (K:V→aa→Prop):iw (.it id) σ K=ce (σ.get id) fun b=>mQ b fun s pos=>
 fj (decide (pos<s.size)) (K (.tup [.d (.lit (.bool true)),.d (.lit (.int .i64 pos)),.d (.lit (.int .i32 (Utf8.decode s pos).1))]) (σ.set id (.iter s (pos+(Utf8.decode s pos).2)))) (K (.tup [.d (.lit (.bool false))]) σ):=rfl
theorem rN (a b:Nat):((a:Int)+(b:Int)).toNat=a+b:=by omega
attribute [push_cast] wU Option.getD_some Option.getD_none rN
section
variable {P:Program} {G:Gl} {w:World} {I:Nat→Prop} {β:bF}
def lf:List Nat→List V→aF→aF
 | p::ps,v::vs,e=>lf ps vs (e.put p v)
 | _,_,e=>e
def hU (l:List (Nat × Value)) (tm:Array Value):Array Value:=l.foldl (fun tmps x=>tmps.setIfInBounds x.1 x.2) tm
theorem mN : ∀(ps:List Nat) (args:List V) (vals:List Value) (e:aF) (tm:Array Value),ca w I β args vals→(∀p∈ps,p<tm.size)→(∀t,aA w I β (e.get t) (tm.getD t undef)) →
 (hU (ps.zip vals) tm).size=tm.size ∧ ∀t,aA w I β ((lf ps args e).get t) ((hU (ps.zip vals) tm).getD t undef)
 | [],args,vals,e,tm,_,_,h=>by simpa [hU,lf] using h
 | p::ps,[],vals,e,tm,hd,_,h=>by
  have:vals=[]:=List.eq_nil_of_length_eq_zero hd.1.symm;subst this;simpa [hU,lf] using h
 | p::ps,v::vs,[],e,tm,hd,_,h=>by have:=hd.1;simp at this
 | p::ps,v::vs,x::xs,e,tm,hd,hp,h=>by
  have h0 : ∀t,aA w I β ((e.put p v).get t) ((tm.setIfInBounds p x).getD t undef):=
   nF (a :={ tmps:=tm,defers:=[] }) h (d:=some p) (fun y hy=>by injection hy with hy;subst hy;exact hp p (by simp)) (hd.2 0 v x rfl rfl)
  have:=mN ps vs xs (e.put p v) (tm.setIfInBounds p x) ⟨by have:=hd.1;simpa using this,fun i c y hc hy=>hd.2 (i+1) c y (by simpa using hc) (by simpa using hy)⟩ (fun q hq=>by simpa using hp q (by simp [hq])) h0;refine ⟨by rw [show hU ((p::ps).zip (x::xs)) tm=hU (ps.zip xs) (tm.setIfInBounds p x) from rfl,this.1];simp,this.2⟩
theorem wp (ps:Array Nat) (vals:List Value) (tm:Array Value):(ps.zip vals.toArray).foldl (fun tmps (t,a)=>tmps.setIfInBounds t a) tm=hU (ps.toList.zip vals) tm:=by
 rw [←Array.foldl_toList];simp [hU]
def io (id:Nat):Nat→Option Nat:=fun j=>if j<id then some j else none
def g7 (β:bF) (id:Nat):bF:=fun j=>if j<id then β j else none
theorem ip {id i j:Nat} (h:io id i=some j):i=j∧j<id:=by
 unfold io at h;split at h
 ·injection h with h;omega
 ·cases h
theorem nT (id:Nat) : ∀i i' j,io id i=some j→io id i'=some j→i=i':=fun i i' j h h'=>by
 have:=ip h;have:=ip h';omega
theorem kX {id:Nat} : ∀i j,io id i=some j → ∀x,β i=some x→g7 β id j=some x:=fun i j h x hx=>by
 obtain ⟨rfl,hlt⟩:=ip h;simp [g7,hlt,hx]
theorem fT {id j:Nat} {x:Option (Nat × Nat)} (h:g7 β id j=some x):j<id∧β j=some x:=by
 unfold g7 at h;split at h
 ·exact ⟨by assumption,h⟩
 ·cases h
theorem fY {σ:aa} {id j:Nat} {b:bP} (h:(σ.sel (io id)).get j=some b):j<id ∧ ∃b',σ.get j=some b'∧b=b'.sel (io id):=by
 obtain ⟨i,b',h1,h2,h3⟩:=aa.get_sel (nT id) σ j b h;obtain ⟨rfl,hlt⟩:=ip h1;exact ⟨hlt,b',h2,h3⟩
theorem bW.cut {σ:aa} {nx:Nat} (hm:bW w I β σ nx) (id:Nat):bW w I (g7 β id) (σ.sel (io id)) id where
 own:=fun j b hj=>by
  obtain ⟨hlt,b',h1,rfl⟩:=fY hj;exact (hm.own j b' h1).sel kX (by simp [io,hlt])
 inj:=fun j j' b b' k c c' h1 h2 h3 h4=>by
  obtain ⟨_,x,q1,_⟩:=fY h1;obtain ⟨_,x',q1',_⟩:=fY h2;exact hm.inj j j' x x' k c c' q1 q1' (fT h3).2 (fT h4).2
 free:=fun j hj=>by simp [g7,show ¬j<id by omega]
 lt:=hm.lt
theorem ga {σ:aa} {id b:Nat} (h:bj (σ.sel (io id)) (g7 β id) b):bj σ β b:=by
 obtain ⟨j,blk,c,h1,h2⟩:=h;obtain ⟨_,b',q1,_⟩:=fY h1;exact ⟨j,b',c,q1,(fT h2).2⟩
def lX (σ:aa) (id:Nat) (l:List Nat):Nat→Option Nat:=fun j=>if j<id then (if (σ.get j).isSome=true then some j else none) else wy l j id
def x5 (G:Gl) (σ:aa) (id i:Nat) (y:Yd) (e:aF) (j:Option Code) (v:V) (σ':aa) (st:St):Prop:=
 v = .d (.lit (.bool j.isNone))∧a7 G id (fun st=> ∃l:List Nat,l.length≤4∧aY σ' ((i,.rc y j e)::st.sg.sel (lX σ id l))) st
def Bg (G:Gl) (σ:aa) (id i:Nat) (y:Yd) (e:aF) (v:V) (σ':aa):Exit→St→Prop
 | .normal,st=>x5 G σ id i y e none v σ' st
 | .ret,st=>x5 G σ id i y e (some .ret) v σ' st
 | .exit k,st=>x5 G σ id i y e (some (.exit k)) v σ' st
 | _,_=>False
theorem dg.putHid {C:mA} {e:aF} {σ:aa} {nx lim b:Nat} {o o':Obj} {a:Act} {w:World} (hC:C.hd=[(b,o)]) (ho:o ≠ .deferred (some [])) (hown:bj C.σ C.β b) (h:dg C G e σ nx lim a w) :
 dg { C with hd:=[(b,o')] } G e σ nx lim a (w.putObj b o'):=by
 obtain ⟨I,β,h1,h2,h3,h4,⟨⟨Ds,q1,q2,q3⟩,q4⟩,h6⟩:=h;obtain ⟨k1,k2,k3⟩:=q4 (b,o) (by rw [hC];simp);simp only at k1 k2 k3;have hI : ∀b',I b'→(w.putObj b o').heap[b']? = w.heap[b']? :=fun b' hb=>World.putObj_heap_other (fun e=>k2 (e▸hb))
 have hO : ∀b',bj σ β b'→(w.putObj b o').heap[b']? = w.heap[b']? :=fun b' hb=>World.putObj_heap_other (fun e=>k3 (e▸hb))
 refine ⟨I,β,⟨⟨fun id blk hb =>?_,h1.mem.inj,h1.mem.free,fun b hb =>?_⟩,h1.os,h1.tape,h1.output,?_,fun b' hb hn =>?_,h1.imm,h1.immn,h1.bet,h1.nx,h1.own'⟩,h2,fun t=>(h3 t).keep hI (fun _ h=>h) (fun _ _ h=>h),h4,⟨⟨Ds,q1,q2,fun D hD =>?_⟩,fun p hp =>?_⟩,fun g x hx=>(h6 g x hx).keep hI (fun _ h=>h)⟩
 ·have ho:=h1.mem.own id blk hb;refine ho.keep (fun b hb' =>?_) (fun _ h=>h) (fun b c hc=>(ho.not_imm hc).1) (fun _ _ h=>h);rcases hb' with hb'|⟨c,hc⟩
  ·exact hI b hb'
  ·exact hO b ⟨id,blk,c,hb,hc⟩
 ·rw [World.putObj_size];exact h1.mem.lt b hb
 ·rw [World.putObj_size];exact h1.size
 ·rw [World.putObj_heap_other (fun e=>hn (by rw [e];exact hown))];exact h1.block b' hb hn
 ·obtain ⟨g1,g2,g3,g4⟩:=q3 D hD;refine ⟨g1,?_,g3,g4⟩;rw [World.putObj_heap_other]
  ·exact g2
  ·rintro rfl;rw [k1] at g2;injection g2 with g2;exact ho g2
 ·have hp':p=(b,o'):=by simpa using hp
  subst hp';exact ⟨World.putObj_heap_same (gG k1),k2,k3⟩
end
section
variable {P:Program} {G:Gl}
theorem gc {σ:aa} {id i j:Nat} {l:List Nat} (h:lX σ id l i=some j):(i=j∧j<id ∧ ∃b,σ.get j=some b)∨(id≤i∧id≤j∧j<id+l.length∧l[j - id]? = some i):=by
 unfold lX at h;split at h
 ·rename_i hlt;split at h
  ·rename_i hs;injection h with h;subst h;exact .inl ⟨rfl,hlt,Option.isSome_iff_exists.1 hs⟩
  ·cases h
 ·obtain ⟨h1,h2,h3⟩:=cF h;exact .inr ⟨by omega,h1,h2,h3⟩
theorem xn (σ:aa) (id:Nat) (l:List Nat) : ∀i i' j,lX σ id l i=some j→lX σ id l i'=some j→i=i':=by
 intro i i' j h h';rcases gc h with ⟨rfl,h1,_⟩|⟨h0,h1,_,h2⟩
 ·rcases gc h' with ⟨rfl,_⟩|⟨_,h1',_⟩
  ·rfl
  ·omega
 ·rcases gc h' with ⟨rfl,h1',_⟩|⟨_,_,_,h2'⟩
  ·omega
  ·rw [h2] at h2';injection h2'
theorem xh {w w3:World} {I I3:Nat→Prop} {β β3:bF} {σ σ3 σ':aa} {nx nx3 id i b cap:Nat} {y:Yd} {e:aF} {j:Option Code} {r:Loop} {l:List Nat} {o:Obj}
 (hm:bW w I β σ nx) (hi:i<id) (hfr : ∀k,id≤k→k<id+4→β k=none) (hnx:id+4≤nx) (hg:σ.get i=some (.rc y none e)) (hb:β i=some (some (b,cap))) (he : ∀t,aA w I β (e.get t) (r.tmps.getD t undef)) (hr:zL y j r)
 (hs:al w I (g7 β id) (σ.sel (io id)) id w3 I3 β3 σ3 nx3) (h3:w3.heap[b]? = some o) (hI3 : ¬I3 b) (ho3 : ¬bj σ3 β3 b) (hl:l.length≤4) (hsub:aY σ' ((i,.rc y j e)::σ3.sel (lX σ id l))) :
 ∃β',al w I β σ nx (w3.putObj b (.loop r)) I3 β' σ' nx ∧ ∀k,¬(id≤k∧k<id+4)→β' k=β k:=by
 have hlt:b<w.heap.size:=(((hm.own i _ hg).not_imm hb).2)
 have hIb : ¬I b:=((hm.own i _ hg).not_imm hb).1;let β':bF:=fun k=>if id≤k∧k<id+4 then (match l[k - id]? with|some q=>β3 q|none=>none) else β k
 have hβ : ∀k,¬(id≤k∧k<id+4)→β' k=β k:=fun k hk=>by simp only [β',if_neg hk]
 have hext : ∀k x,β k=some x→β' k=some x:=fun k x hx=>by
  rw [hβ k]
  ·exact hx
  ·rintro ⟨h1,h2⟩;rw [hfr k h1 h2] at hx;cases hx
 have hin : ∀k k',lX σ id l k=some k'→β' k'=β3 k:=by
  intro k k' h;rcases gc h with ⟨rfl,h1,blk,h2⟩|⟨h0,h1,h2,h3⟩
  ·rw [hβ k (by omega)];obtain ⟨x,hx⟩:=(hm.own k blk h2).named;rw [hx,hs.bet k x (by simp [g7,h1,hx])]
  ·simp only [β',show id≤k'∧k'<id+4 from ⟨h1,by omega⟩,and_self,if_true,h3]
 have hing : ∀k k',lX σ id l k=some k' → ∀x,β3 k=some x→β' k'=some x:=fun k k' h x hx=>by rw [hin k k' h];exact hx
 have hinj:=xn σ id l;have hIk : ∀k,I3 k→(w3.putObj b (.loop r)).heap[k]? = w3.heap[k]? :=fun k hk=>World.putObj_heap_other (fun e=>hI3 (e▸hk))
 have hOk : ∀k,bj σ3 β3 k→(w3.putObj b (.loop r)).heap[k]? = w3.heap[k]? :=fun k hk=>World.putObj_heap_other (fun e=>ho3 (e▸hk))
 have hI0 : ∀k,I k→w3.heap[k]? = w.heap[k]? :=fun k hk=>hs.block k (hm.lt k hk) (fun h=>hm.not_owned hk (ga h))
 have hget : ∀k blk,σ'.get k=some blk→(k=i∧blk = .rc y j e)∨(∃k0 blk0,lX σ id l k0=some k∧σ3.get k0=some blk0∧blk=blk0.sel (lX σ id l)):=by
  intro k blk hk;have:=hsub k blk hk;simp only [aa.get] at this;split at this
  ·rename_i e1;injection this with this;exact .inl ⟨e1.symm,this.symm⟩
  ·exact .inr (aa.get_sel hinj _ k blk this)
 have hbi:β' i=some (some (b,cap)):=hext i _ hb;have hoth : ∀k k0 blk0 c,lX σ id l k0=some k→σ3.get k0=some blk0→β' k=some (some (b,c))→False:=by
  intro k k0 blk0 c h1 h2 h4;rw [hin k0 k h1] at h4;exact ho3 ⟨k0,blk0,c,h2,h4⟩
 have howned : ∀k,bj σ' β' k→k=b∨bj σ3 β3 k:=by
  rintro k ⟨q,blk,c,h1,h2⟩;rcases hget q blk h1 with ⟨rfl,rfl⟩|⟨q0,blk0,g1,g2,_⟩
  ·rw [hbi] at h2;injection h2 with h2;injection h2 with h2;injection h2 with h2 _;exact .inl h2.symm
  ·rw [hin q0 q g1] at h2;exact .inr ⟨q0,blk0,c,g2,h2⟩
 have hob:bj σ β b:=⟨i,_,cap,hg,hb⟩
 refine ⟨β',⟨⟨fun k blk hk =>?_,fun k k' blk blk' q c c' g1 g2 g3 g4 =>?_,fun k hk =>?_,fun k hk =>?_⟩,hs.os,hs.tape,hs.output,?_,fun k hk hn =>?_,hs.imm,fun k hk =>?_,hext,Nat.le_refl _,fun k hk =>?_⟩,hβ⟩
 ·rcases hget k blk hk with ⟨rfl,rfl⟩|⟨k0,blk0,g1,g2,rfl⟩
  ·exact ⟨b,cap,r,hbi,World.putObj_heap_same (gG h3),hI3,hr,fun t=>(he t).keep (fun q hq=>(hIk q (hs.imm q hq)).trans (hI0 q hq)) hs.imm hext⟩
  ·have ho:=hs.mem.own k0 blk0 g2;have ho':iU (w3.putObj b (.loop r)) I3 β3 k0 blk0:=ho.keep (fun q hq=>by
    rcases hq with hq|⟨c,hc⟩
    ·exact hIk q hq
    ·exact hOk q ⟨k0,blk0,c,g2,hc⟩) (fun _ h=>h) (fun q c hc=>(ho.not_imm hc).1) (fun _ _ h=>h)
   exact ho'.sel hing g1
 ·rcases hget k blk g1 with ⟨rfl,rfl⟩|⟨k0,blk0,p1,p2,rfl⟩
  ·rw [hbi] at g3;injection g3 with g3;injection g3 with g3;injection g3 with g3 _;subst g3;rcases hget k' blk' g2 with ⟨rfl,rfl⟩|⟨k0',blk0',p1',p2',rfl⟩
   ·rfl
   ·exact (hoth k' k0' blk0' c' p1' p2' g4).elim
  ·rcases hget k' blk' g2 with ⟨rfl,rfl⟩|⟨k0',blk0',p1',p2',rfl⟩
   ·rw [hbi] at g4;injection g4 with g4;injection g4 with g4;injection g4 with g4 _;subst g4;exact (hoth k k0 blk0 c p1 p2 g3).elim
   ·rw [hin k0 k p1] at g3;rw [hin k0' k' p1'] at g4;have:=hs.mem.inj k0 k0' blk0 blk0' q c c' p2 p2' g3 g4;subst this;rw [p1] at p1';injection p1'
 ·rw [hβ k (by omega)];exact hm.free k hk
 ·rw [World.putObj_size];exact hs.mem.lt k hk
 ·rw [World.putObj_size];exact hs.size
 ·have hkb:k≠b:=fun e=>hn (e▸hob)
  rw [World.putObj_heap_other hkb];exact hs.block k hk (fun h=>hn (ga h))
 ·rcases hs.immn k hk with h|h|h
  ·exact .inl h
  ·exact .inr (.inl (ga h))
  ·exact .inr (.inr h)
 ·rcases howned k hk with rfl|h
  ·exact .inl hob
  ·rcases hs.own' k h with h|h
   ·exact .inl (ga h)
   ·exact .inr h
theorem oB.of {i:Nat} {args:List V} {σ:aa} {id:Nat} {y:Yd} {e:aF} {v:V} {σ':aa} (hg:σ.get i=some (.rc y none e)) (hi:i<id) (hps:y.ps.toList.all (fun p=>decide (p<y.n))=true) (hl:args.length=y.ps.size) (hn1:pu y.asg=true) (hn2:pu y.body=true)
 (h:AW P G y.n id y.asg ⟨lf y.ps.toList (args.map (V.sel (io id))) (e.sel (io id)),(σ.del i).sel (io id),id⟩ (fO (fun st=>AW P G y.n id y.body st (Bg G σ id i y e v σ')) (fun _ _=>False))):oB P G i args σ id v σ':=by
 intro w I β nx vals b cap hm hG hfr hnx hd hb;obtain ⟨b',cap',r,q1,q2,q3,q4,q5⟩:=hm.own i _ hg;rw [hb] at q1;injection q1 with q1;injection q1 with q1;injection q1 with q1 q1';subst q1;subst q1';refine ⟨r,q2,by rw [←hd.1,hl,q4.ps],?_⟩;rw [wp];have hC:=hm.cut id;let C:mA:=⟨w,I,g7 β id,σ.sel (io id),id,y.n,hC.free,[(b,.loop r)]⟩
 have hown:bj C.σ C.β b:=⟨i,bP.sel (io id) (.rc y none e),cap,aa.get_sel' (nT id) (by simp [io,hi]) σ _ hg,by simp [C,g7,hi,hb]⟩
 have hsub : ∀j bl,((σ.del i).sel (io id)).get j=some bl→(σ.sel (io id)).get j=some bl∧j≠i:=by
  intro j bl hj;obtain ⟨hlt,b',h1,rfl⟩:=fY hj;rw [aa.get_del] at h1;split at h1
  ·cases h1
  ·rename_i hne;exact ⟨aa.get_sel' (nT id) (by simp [io,hlt]) σ _ h1,hne⟩
 have hargs:ca w I (g7 β id) (args.map (V.sel (io id))) vals:=by
  refine ⟨by simpa using hd.1,fun k c x hc hx =>?_⟩;simp only [List.getElem?_map,Option.map_eq_some_iff] at hc;obtain ⟨c',hc',rfl⟩:=hc;exact (hd.2 k c' x hc' hx).sel kX
 have hfill:=mN (w:=w) (I:=I) (β:=g7 β id) y.ps.toList (args.map (V.sel (io id))) vals (e.sel (io id)) r.tmps hargs (fun p hp=>by
  have:=List.all_eq_true.1 hps p hp;rw [q4.n];simpa using this) (fun t=>by rw [aF.get_sel];exact (q5 t).sel kX)
 have hrel:ou C G ⟨lf y.ps.toList (args.map (V.sel (io id))) (e.sel (io id)),(σ.del i).sel (io id),id⟩ { tmps:=hU (y.ps.toList.zip vals) r.tmps,defers:=[] } w:=by
  refine ⟨I,g7 β id,(al.refl hC).sub (fun j bl hj=>(hsub j bl hj).1) (Nat.le_refl _),hC.free,hfill.2,by rw [hfill.1];exact q4.n,⟨⟨[],rfl,List.nodup_nil,fun D hD=>by cases hD⟩,fun p hp =>?_⟩,hG⟩;have hp':p=(b,.loop r):=by simpa [C] using hp
  subst hp';refine ⟨q2,q3,?_⟩;rintro ⟨j,bl,c,g1,g2⟩;obtain ⟨hlt,b',h1,_⟩:=fY g1;rw [aa.get_del] at h1;split at h1
  ·cases h1
  ·rename_i hne;exact hne (hm.inj j i _ _ b c cap h1 hg (fT g2).2 hb)
 rw [show r.params.toList=y.ps.toList by rw [q4.ps]];refine roundIn_of_wpIn (F:=Fence.wide) trivial ?_;rw [q4.asg,q4.body];refine wpIn_mono (h (some b) (.inr hn1) C _ w rfl rfl hrel) ?_;rintro e1 a1 w1 ⟨xC,hq,hr1⟩;cases e1 with
 | normal=>
  have hhid:w1.heap[b]? = some (.loop r):=by
   obtain ⟨I1,β1,_,_,_,_,⟨_,k⟩,_⟩:=_root_.id hr1;exact (k (b,.loop r) (by simp [C])).1
  have hst:r.state = .ready:=by rw [q4.state];rfl
  refine ⟨_,run_beginRound hhid hst,?_⟩;have hr2:=dg.putHid (o':= .loop { r with state:= .busy }) (C:=C) rfl (fun e=>by cases e) hown hr1;let C2:mA :={ C with hd:=[(b,.loop { r with state:= .busy })] }
  refine wpIn_mono ((show AW P G y.n id y.body xC (Bg G σ id i y e v σ') from hq) (some b) (.inr hn2) C2 a1 _ rfl rfl hr2) ?_;have fin : ∀(j:Option Code) (xY:St) (a2:Act) (w3:World),x5 G σ id i y e j v σ' xY→ou C2 G xY a2 w3 →
   ∃u w',(Instr.endRound b j).run P w3 = .ok u w' ∧ ∃u0 I' β',Ending.returned u = .returned u0∧aA w' I' β' v u0∧al w I β σ nx w' I' β' σ' nx ∧ ∀k,¬(id≤k∧k<id+4)→β' k=β k:=by
   rintro j xY a2 w3 ⟨rfl,C5,hle,l,hl4,hsb⟩ hr3;obtain ⟨I3,β3,k1,k2,k3,k4,⟨_,k5⟩,k6⟩:=hle C2 a2 w3 rfl hr3;obtain ⟨p1,p2,p3⟩:=k5 (b,.loop { r with state:= .busy }) (by simp [C2]);obtain ⟨β',g1,g2⟩:=xh (r :={ r with state:=if j.isNone then .ready else .done,pending:=j }) hm hi hfr hnx hg hb q5 ⟨rfl,rfl,q4.n,q4.ps,q4.asg,q4.body⟩ k1 p1 p2 p3 hl4 hsb;exact ⟨_,_,run_endRound j p1,_,I3,β',rfl,aj.lit _,g1,g2⟩
  rintro e2 a2 w3 ⟨xY,hq2,hr3⟩;cases e2 with
  | normal=>exact fin none xY a2 w3 hq2 hr3
  | ret=>exact fin (some .ret) xY a2 w3 hq2 hr3
  | exit k=>exact fin (some (.exit k)) xY a2 w3 hq2 hr3
  | _=>exact hq2.elim
 | _=>exact hq.elim
theorem fm.of (ho:P.follows .mixedOrders=true) (lv:List Nat) {i:Nat} {args:List V} {σ:aa} {id:Nat} {K:V→aa→Prop} {y:Yd} {e:aF} {v:V} {σ':aa} (hg:σ.get i=some (.rc y none e)) (hi:i<id) (hps:y.ps.toList.all (fun p=>decide (p<y.n))=true) (hl:args.length=y.ps.size)
 (hn1:pu y.asg=true) (hn2:pu y.body=true) (ho1:aT y.n y.asg=true) (ho2:aT y.n y.body=true)
 (h:bi P G y.n id lv y.asg ⟨lf y.ps.toList (args.map (V.sel (io id))) (e.sel (io id)),(σ.del i).sel (io id),id⟩ (fO (fun st=>bi P G y.n id lv y.body st (Bg G σ id i y e v σ')) (fun _ _=>False))) (hK:K v σ'):fm P G i args σ id K:=by
 refine ⟨v,σ',hK,oB.of hg hi hps hl hn1 hn2 ((cT ho _ _ _ ho1 h).mono ?_)⟩;intro ex st hq;cases ex with
 | normal=>exact cT ho _ _ _ ho2 hq
 | _=>exact hq
end
end Go.Proofs.YtkhonlnajdfhfaaDoor
set_option linter.unusedVariables false
namespace Go.Proofs.YtkhonlnajdfhfaaDoor
open Go.RowKit
section
variable {P:Program} {G:Gl}
theorem al.foreign {w:World} {I:Nat→Prop} {β:bF} {σ:aa} {nx:Nat} (hm:bW w I β σ nx) (o:Obj):al w I β σ nx (w.alloc o) I β σ nx:=by
 have hb : ∀b,b<w.heap.size→(w.alloc o).heap[b]? = w.heap[b]? :=fun b hb=>Below.heap_alloc w o b hb
 refine ⟨⟨fun id blk h =>?_,hm.inj,hm.free,fun b hI=>by have:=hm.lt b hI;simp;omega⟩,rfl,rfl,rfl,by simp,fun b hlt _=>hb b hlt,fun _ h=>h,fun _ h=> .inl h,fun _ _ h=>h,Nat.le_refl _,fun _ h=> .inl h⟩;have ho:=hm.own id blk h;refine ho.keep (fun b hb' =>?_) (fun _ h=>h) (fun b c hc=>(ho.not_imm hc).1) (fun _ _ h=>h);rcases hb' with hb'|⟨c,hc⟩
 ·exact hb b (hm.lt b hb')
 ·exact hb b (ho.not_imm hc).2
end
end Go.Proofs.YtkhonlnajdfhfaaDoor
set_option linter.defProp false
set_option linter.unusedSimpArgs false
set_option linter.unusedVariables false
set_option maxRecDepth 8000
namespace Go.Proofs.YtkhonlnajdfhfaaDoor
def Pt {α:Type} (W:(α→Prop)→Prop):Prop:= ∀K,W K → ∃x,K x ∧ ∀K':α→Prop,K' x→W K'
def aV {α β:Type} (W:(α→β→Prop)→Prop):Prop:= ∀K,W K → ∃x y,K x y ∧ ∀K':α→β→Prop,K' x y→W K'
section
variable {α β γ δ:Type}
theorem Pt.at (x:α):Pt fun K:α→Prop=>K x:=fun _ h=>⟨x,h,fun _ h=>h⟩
theorem aV.at (x:α) (y:β):aV fun K:α→β→Prop=>K x y:=fun _ h=>⟨x,y,h,fun _ h=>h⟩
theorem Pt.no:Pt fun _:α→Prop=>False:=fun _ h=>h.elim
theorem aV.no:aV fun _:α→β→Prop=>False:=fun _ h=>h.elim
theorem Pt.bind {W:(α→Prop)→Prop} (h:Pt W) {V:α→(β→Prop)→Prop} (k : ∀x,Pt (V x)):Pt fun K=>W fun x=>V x K:=fun K hW=>by
 obtain ⟨x,hx,h1⟩:=h _ hW;obtain ⟨y,hy,h2⟩:=k x _ hx;exact ⟨y,hy,fun K' hK=>h1 _ (h2 _ hK)⟩
theorem Pt.bind2 {W:(α→Prop)→Prop} (h:Pt W) {V:α→(β→γ→Prop)→Prop} (k : ∀x,aV (V x)):aV fun K=>W fun x=>V x K:=fun K hW=>by
 obtain ⟨x,hx,h1⟩:=h _ hW;obtain ⟨y,z,hy,h2⟩:=k x _ hx;exact ⟨y,z,hy,fun K' hK=>h1 _ (h2 _ hK)⟩
theorem aV.bind {W:(α→β→Prop)→Prop} (h:aV W) {V:α→β→(γ→δ→Prop)→Prop} (k : ∀x y,aV (V x y)):aV fun K=>W fun x y=>V x y K:=fun K hW=>by
 obtain ⟨x,y,hx,h1⟩:=h _ hW;obtain ⟨z,t,hz,h2⟩:=k x y _ hx;exact ⟨z,t,hz,fun K' hK=>h1 _ (h2 _ hK)⟩
theorem Pt.and {W:(α→Prop)→Prop} (p:Prop) (h:Pt W):Pt fun K=>p∧W K:=fun K ⟨hp,hW⟩=>by
 obtain ⟨x,hx,h1⟩:=h _ hW;exact ⟨x,hx,fun K' hK=>⟨hp,h1 _ hK⟩⟩
theorem aV.and {W:(α→β→Prop)→Prop} (p:Prop) (h:aV W):aV fun K=>p∧W K:=fun K ⟨hp,hW⟩=>by
 obtain ⟨x,y,hx,h1⟩:=h _ hW;exact ⟨x,y,hx,fun K' hK=>⟨hp,h1 _ hK⟩⟩
theorem aV.or {W V:(α→β→Prop)→Prop} (h:aV W) (k:aV V):aV fun K=>W K∨V K:=fun K hW=>by
 rcases hW with hW|hW
 ·obtain ⟨x,y,hx,h1⟩:=h _ hW;exact ⟨x,y,hx,fun K' hK=> .inl (h1 _ hK)⟩
 ·obtain ⟨x,y,hx,h1⟩:=k _ hW;exact ⟨x,y,hx,fun K' hK=> .inr (h1 _ hK)⟩
theorem Pt.br (b:Bool) {W V:(α→Prop)→Prop} (h:Pt W) (k:Pt V):Pt fun K=>fj b (W K) (V K):=fun K hW=>by
 cases b with
 | true=>obtain ⟨x,hx,h1⟩:=h _ (hW.1 rfl);exact ⟨x,hx,fun K' hK=>⟨fun _=>h1 _ hK,fun h=>(by cases h)⟩⟩
 | false=>obtain ⟨x,hx,h1⟩:=k _ (hW.2 rfl);exact ⟨x,hx,fun K' hK=>⟨fun h=>(by cases h),fun _=>h1 _ hK⟩⟩
theorem aV.br (b:Bool) {W V:(α→β→Prop)→Prop} (h:aV W) (k:aV V):aV fun K=>fj b (W K) (V K):=fun K hW=>by
 cases b with
 | true=>obtain ⟨x,y,hx,h1⟩:=h _ (hW.1 rfl);exact ⟨x,y,hx,fun K' hK=>⟨fun _=>h1 _ hK,fun h=>(by cases h)⟩⟩
 | false=>obtain ⟨x,y,hx,h1⟩:=k _ (hW.2 rfl);exact ⟨x,y,hx,fun K' hK=>⟨fun h=>(by cases h),fun _=>h1 _ hK⟩⟩
theorem Pt.opt (o:Option α):Pt fun K:α→Prop=>ce o K:=by
 cases o with
 | none=>exact Pt.no
 | some x=>exact Pt.at x
theorem Pt.elem (k:Nat) (es:List D) (i j:Nat) (x:Nat × Bool):Pt fun K=>fe k es i j x K:=fun K h=>by
 obtain ⟨e,y,h1,h2,h3⟩:=ft h;exact ⟨_,h3,fun K' hK=>⟨h.1,fun e' he=>by rw [h1] at he;cases he;rw [h2];exact hK⟩⟩
theorem Pt.cell (b:bP):Pt fun K:List V→Prop=>mH b K:=by
 cases b<;>first|exact Pt.at _|exact Pt.no
theorem Pt.load (P:Program) (t:Nat) (a:V) (σ:aa):Pt fun K=>cZ P t a σ K:=by
 refine (Pt.opt (dT P t)).bind fun x =>?_
 split
 ·exact Pt.elem _ _ _ _ _
 ·exact (Pt.opt _).bind fun b=>(Pt.cell b).bind fun cs=>Pt.opt _
 ·refine (Pt.opt _).bind fun b =>?_
  cases b with
  | row k es ty=>exact Pt.and _ (Pt.elem _ _ _ _ _)
  | _=>exact Pt.no
 ·exact Pt.no
theorem Pt.pick (c a b:V):Pt fun K=>fH c a b K:=by
 unfold fH;split
 ·exact Pt.br _ (Pt.at _) (Pt.at _)
 ·exact Pt.no
theorem aV.next (x:V) (σ:aa):aV fun K=>iw x σ K:=by
 unfold iw;split
 ·refine (Pt.opt _).bind2 fun b =>?_
  cases b with
  | iter s pos=>exact aV.br _ (aV.at _ _) (aV.at _ _)
  | _=>exact aV.no
 ·exact aV.no
theorem aV.call (P:Program) (G:Gl) (f:Nat) (args:List V) (σ:aa) (id:Nat):aV fun K=>ap P G f args σ id K:=fun K ⟨v,σ',h,k⟩=>⟨v,σ',h,fun K' hK=>⟨v,σ',hK,k⟩⟩
theorem aV.dcall (P:Program) (G:Gl) (f:Nat) (args:List V) (σ:aa) (id:Nat):aV fun K=>cM P G f args σ id K:=fun K ⟨v,σ',h,k⟩=>⟨v,σ',h,fun K' hK=>⟨v,σ',hK,k⟩⟩
theorem aV.yield (P:Program) (G:Gl) (f:Nat) (args:List V) (σ:aa) (id:Nat):aV fun K=>fm P G f args σ id K:=fun K ⟨v,σ',h,k⟩=>⟨v,σ',h,fun K' hK=>⟨v,σ',hK,k⟩⟩
theorem aV.res (op:Op) (r:gp):aV fun K=>dZ op r K:=by
 cases r with
 | none=>exact aV.no
 | some x=>exact aV.and _ (aV.at _ _)
theorem aV.callee (v:V) {K:Nat→List V→(α→β→Prop)→Prop} {Y:Nat→(α→β→Prop)→Prop} {B:Nat→List V→(α→β→Prop)→Prop} (h : ∀k l,aV (K k l)) (hy : ∀i,aV (Y i)) (hb : ∀k l,aV (B k l)) :
 aV fun X=>bn v (fun k l=>K k l X) (fun i=>Y i X) fun k l=>B k l X:=by
 unfold bn;split
 ·exact h _ _
 ·exact h _ _
 ·exact hy _
 ·exact hb _ _
 ·exact aV.no
variable {P:Program} {G:Gl}
theorem aV.bs (r r2:gp) (σ:aa):aV fun K=>zR r r2 σ K:=by
 unfold zR;split
 ·exact aV.and _ (aV.at _ _)
 ·split
  ·exact aV.and _ (aV.at _ _)
  ·exact aV.no
theorem aV.step (op:Op) (g:Operand→V) (σ:aa) (id:Nat):aV fun K=>aJ P G op g σ id K:=by
 unfold aJ;split
 ·exact (Pt.pick _ _ _).bind2 fun v=>aV.at v σ
 ·exact (Pt.load _ _ _ _).bind2 fun v=>aV.at v σ
 ·split
  ·exact aV.next _ _
  ·exact aV.no
 ·split
  ·exact aV.callee _ (fun _ _=>aV.call _ _ _ _ _ _) (fun _=>aV.yield _ _ _ _ _ _) fun _ _=>aV.call _ _ _ _ _ _
  ·exact aV.res _ _
  ·exact aV.no
 ·exact aV.bs _ _ _
 ·exact aV.res _ _
theorem aV.quiet (op:Op) (g:Operand→V) (σ:aa) (id:Nat):aV fun K=>aI P G op g σ id K:=by
 unfold aI;split
 ·exact (Pt.pick _ _ _).bind2 fun v=>aV.at v []
 ·exact (Pt.load _ _ _ _).bind2 fun v=>aV.at v []
 ·split
  ·exact aV.callee _ (fun _ _=>aV.dcall _ _ _ _ _ _) (fun _=>aV.no) fun _ _=>aV.dcall _ _ _ _ _ _
  ·exact aV.res _ _
  ·exact aV.no
 ·exact aV.res _ _
theorem aV.guard (ops:Array Oper) (o:Oper) (e:aF) {Y N:aF→(α→β→Prop)→Prop} (h : ∀e,aV (Y e)) (k : ∀e,aV (N e)):aV fun K=>bT ops o e (fun e=>Y e K) fun e=>N e K:=by
 unfold bT;split
 ·exact h _
 ·refine (Pt.opt _).bind2 fun d =>?_
  unfold ml;split
  ·refine aV.br _ ?_ ?_<;>split<;>first|exact h _|exact k _
  ·exact k _
  ·exact aV.no
theorem aV.ops (ops:Array Oper) (base:Nat) : ∀(l:List Oper) (i:Nat) (e:aF) (σ:aa),aV fun K=>j8 P G ops base i l e σ K
 | [],_,e,σ=>aV.at e σ
 | o::r,i,e,σ=>aV.guard _ _ _ (fun e=>(aV.step _ _ _ _).bind fun v σ'=>aV.ops ops base r _ _ _) fun e=>aV.ops ops base r _ _ _
theorem aV.sb (σk σ:aa) {W:(α→β→Prop)→Prop} (h:aV W):aV fun K=>qh σk σ (W K):=by
 cases σk with
 | nil=>exact h
 | cons x r=>exact aV.and _ h
theorem aV.opsL (lo:List Nat) (σk:aa) (ops:Array Oper) (base:Nat) : ∀(l:List Oper) (i:Nat) (e:aF) (σ acc:aa),aV fun K=>opsL P G lo σk ops base i l e σ acc K
 | [],_,e,σ,acc=>aV.at e (σ++acc)
 | o::r,i,e,σ,acc=>aV.guard _ _ _ (fun e=>by
  split
  ·exact (aV.step _ _ _ _).bind fun v σ'=>aV.sb _ _ (aV.opsL lo σk ops base r _ _ _ _)
  ·split
   ·unfold e7;split
    ·split
     ·exact aV.callee _ (fun _ _=>aV.or ((aV.dcall _ _ _ _ _ _).bind fun v new=>aV.opsL lo σk ops base r _ _ _ _) (aV.and _ ((aV.call _ _ _ _ _ _).bind fun v σ'=>aV.sb _ _ (aV.opsL lo σk ops base r _ _ _ _))))
       (fun _=>aV.and _ ((aV.yield _ _ _ _ _ _).bind fun v σ'=>aV.sb _ _ (aV.opsL lo σk ops base r _ _ _ _)))
       fun _ _=>aV.or ((aV.dcall _ _ _ _ _ _).bind fun v new=>aV.opsL lo σk ops base r _ _ _ _) (aV.and _ ((aV.call _ _ _ _ _ _).bind fun v σ'=>aV.sb _ _ (aV.opsL lo σk ops base r _ _ _ _)))
     ·exact aV.no
    ·exact aV.no
   ·split
    ·exact (aV.quiet _ _ _ _).bind fun v new=>aV.and _ (aV.opsL lo σk ops base r _ _ _ _)
    ·exact (aV.quiet _ _ _ _).bind fun v new=>aV.opsL lo σk ops base r _ _ _ _) fun e=>aV.opsL lo σk ops base r _ _ _ _
theorem Pt.reg (lv:List Nat) (ops:Array Oper) (draw:Bool) (st:St):Pt fun K=>fJ P G lv ops draw K st:=by
 intro K h;cases draw with
 | true=>
  simp only [fJ,if_true] at h;obtain ⟨lo,σk,h1,h2,h3,h4⟩:=h;obtain ⟨e,σ,hK,hall⟩:=aV.opsL lo σk ops st.nx ops.toList 0 st.env st.sg [] (fun e σ=>K ⟨aF.keep lv e,σ,st.nx+4*ops.size⟩) h4;exact ⟨_,hK,fun K' hK'=>by simp only [fJ,if_true];exact ⟨lo,σk,h1,h2,h3,hall (fun e σ=>K' ⟨aF.keep lv e,σ,st.nx+4*ops.size⟩) hK'⟩⟩
 | false=>
  simp only [fJ,Bool.false_eq_true,if_false] at h;obtain ⟨e,σ,hK,hall⟩:=aV.ops ops st.nx ops.toList 0 st.env st.sg (fun e σ=>K ⟨aF.keep lv e,σ,st.nx+4*ops.size⟩) h;exact ⟨_,hK,fun K' hK'=>by simp only [fJ,Bool.false_eq_true,if_false];exact hall (fun e σ=>K' ⟨aF.keep lv e,σ,st.nx+4*ops.size⟩) hK'⟩
theorem Pt.gh (G:Gl) (m:Nat) {W:St→(α→Prop)→Prop} (h : ∀st,Pt (W st)) (st:St):Pt fun K=>a7 G m (fun st=>W st K) st:=fun K ⟨s,h1,h2⟩=>by
 obtain ⟨x,hx,hall⟩:=h s K h2;exact ⟨x,hx,fun K' hK=>⟨s,h1,hall K' hK⟩⟩
end
def BN (G:Gl) (m:Nat) (B:List Nat→St→(Exit→St→Prop)→Prop) (st:St) (Q:Exit→St→Prop) (_u:Tag B:= .mk) (_v:Tag Q:= .mk) (_h:True:=trivial):Prop:=
 ∃(α:Type) (S:α→St) (pre:α→Prop) (mu:α→Nat) (x0:α) (lv:List Nat),a7 G m (fun st'=>st'=S x0) st∧pre x0 ∧ ∀x,pre x→B lv (S x) (fO (fun st=>bA G m S pre mu x st) Q)
def bG (P:Program) (G:Gl) (n m:Nat):Code→List Nat→St→(Exit→St→Prop)→Prop
 | .skip,_,st,Q=>Q .normal st
 | .region _ ops draw,lv,st,Q=>a7 G m (fJ P G lv ops draw fun st'=>Q .normal st') st
 | .seq a b,lv,st,Q=>bG P G n m a lv st (fO (fun st'=>bG P G n m b lv st' Q) Q)
 | .cond c a b,lv,st,Q=>gZ (i2 G st.env.get c) (bG P G n m a lv st Q) (bG P G n m b lv st Q)
 | .block id c,lv,st,Q=>bG P G n m c lv st (du id Q)
 | .loop c,_,st,Q=>BN G m (fun lv st Q=>bG P G n m c lv st Q) st Q
 | .exit id,_,st,Q=>Q (.exit id) st
 | .ret,_,st,Q=>Q .ret st
 | .label _,_,st,Q=>Q .normal st
 | .scope c,lv,st,Q=>bG P G n m c lv st (fN Q)
 | _,_,_,_=>False
section
variable {P:Program} {G:Gl} {n m:Nat}
def dO (P:Program) (G:Gl) (n m:Nat) (c:Code) (st:St) (Q:Exit→St→Prop):Prop:= ∀fr,(fr=none∨pu c=true) → ∀(C:mA) a w,C.n=n→C.nx=m→ou C G st a w →
 ∀(b:Frame) (kk:List Item) (cs:List Frame),b.roundOf=(Fr fr).round→(Fr fr).fn b.fn→(Fr fr).room (cs.length+1+0) →
   ∃e a' w',(∃st',Q e st'∧ou C G st' a' w')∧ArrivesIn (Machine.fenced P (Fr fr)) P (lone (b.atR a (.code c :: .inLoop c::kk)) cs w) b kk cs e a' w'
theorem dO.loop {c:Code} {st:St} {Q:Exit→St→Prop} (h:dO P G n m c st Q):gn P G n m c st Q:=by
 intro fr hfr C a w hn hm hrel b kk cs hro hb hroom;obtain ⟨e,a',w',hq,harr⟩:=h fr hfr C a w hn hm hrel b kk cs hro hb hroom;exact ⟨e,a',w',hq,.of_steps (.one (fenced_calm hb hroom rfl) stepR_loop) harr⟩
theorem dO.via {c:Code} {st:St} {Q:Exit→St→Prop} (h:a7 G m (fun s=>dO P G n m c s Q) st):dO P G n m c st Q:=by
 obtain ⟨s,h1,h2⟩:=h;exact fun fr hfr C a w hn hm hr=>h2 fr hfr C a w hn hm (h1 C a w hm hr)
theorem dO.round (ho:P.follows .mixedOrders=true) {c:Code} (hok:aT n c=true) {lv:List Nat} {st:St} {Q:Exit→St→Prop} (h:bi P G n m lv c st (fO (fun s=>dO P G n m c s Q) Q)):dO P G n m c st Q:=by
 intro fr hfr C a w hn hm hr b kk cs hro hb hroom;obtain ⟨e,a',w',⟨st',hq,hr2⟩,harr⟩:=cT ho c st _ hok h fr hfr C a w hn hm hr b (.inLoop c::kk) cs hro hb hroom;cases e with
 | normal=>
  obtain ⟨e2,a2,w2,hq2,harr2⟩:=hq fr hfr C a' w' hn hm hr2 b kk cs hro hb hroom;exact ⟨e2,a2,w2,hq2,.of_steps (StepsIn.trans harr (.one (fenced_calm hb hroom rfl) stepR_inLoop)) harr2⟩
 | exit id=>exact ⟨_,a',w',⟨st',hq,hr2⟩,.pass (x:= .inLoop c) rfl (fun _ _=> .inl (by simp)) harr⟩
 | goto l=>exact ⟨_,a',w',⟨st',hq,hr2⟩,.pass (x:= .inLoop c) rfl (fun _ _=> .inl (by simp)) harr⟩
 | ret=>exact ⟨_,a',w',⟨st',hq,hr2⟩,.pass (x:= .inLoop c) rfl (fun _ _=> .inl (by simp)) harr⟩
 | panic ch=>exact ⟨_,a',w',⟨st',hq,hr2⟩,.pass (x:= .inLoop c) rfl (fun _ _=> .inl (by simp)) harr⟩
 | outgrown=>exact ⟨_,a',w',⟨st',hq,hr2⟩,.pass (x:= .inLoop c) rfl (fun _ _=> .inl (by simp)) harr⟩
theorem nh {k k':St→Prop} {Q Q':Exit→St→Prop} (hk : ∀s,k s→k' s) (hq : ∀e s,Q e s→Q' e s) : ∀e s,fO k Q e s→fO k' Q' e s:=by
 intro e s h;cases e<;>first|exact hk _ h|exact hq _ _ h
theorem oN {id:Nat} {Q Q':Exit→St→Prop} (hq : ∀e s,Q e s→Q' e s) : ∀e s,du id Q e s→du id Q' e s:=by
 intro e s h;cases e with
 | exit i=>
  simp only [du] at h ⊢;split
  ·rename_i hi;rw [if_pos hi] at h;exact hq _ _ h
  ·rename_i hi;rw [if_neg hi] at h;exact hq _ _ h
 | _=>exact hq _ _ h
theorem pR {Q Q':Exit→St→Prop} (hq : ∀e s,Q e s→Q' e s) : ∀e s,fN Q e s→fN Q' e s:=by
 intro e s h;cases e<;>first|exact h.elim|exact hq _ _ h
theorem dw : ∀(c:Code) {lv:List Nat} {st:St} {Q Q':Exit→St→Prop},(∀e s,Q e s→Q' e s)→bG P G n m c lv st Q→bG P G n m c lv st Q':=by
 intro c;induction c with
 | skip=>intro lv st Q Q' hq h;exact hq _ _ h
 | exit id=>intro lv st Q Q' hq h;exact hq _ _ h
 | ret=>intro lv st Q Q' hq h;exact hq _ _ h
 | label l=>intro lv st Q Q' hq h;exact hq _ _ h
 | region id ops draw=>
  intro lv st Q Q' hq h;obtain ⟨x,hx,hall⟩:=Pt.gh G m (fun s=>Pt.reg (P:=P) (G:=G) lv ops draw s) st _ h;exact hall _ (hq _ _ hx)
 | seq a b iha ihb=>intro lv st Q Q' hq h;exact iha (nh (fun s hs=>ihb hq hs) hq) h
 | cond c a b iha ihb=>
  intro lv st Q Q' hq h;simp only [bG,gZ] at h ⊢;unfold kT at h ⊢;split
  ·rename_i t hb;rw [hb] at h;exact ⟨fun e=>iha hq (h.1 e),fun e=>ihb hq (h.2 e)⟩
  ·rename_i hb;split at h
   ·rename_i t hb';exact (hb t hb').elim
   ·exact h.elim
 | block id c ih=>intro lv st Q Q' hq h;exact ih (oN hq) h
 | scope c ih=>intro lv st Q Q' hq h;exact ih (pR hq) h
 | loop c ih=>
  intro lv st Q Q' hq h;obtain ⟨α,S,pre,mu,x0,lv',h1,h2,h3⟩:=h;exact ⟨α,S,pre,mu,x0,lv',h1,h2,fun x hx=>ih (nh (fun _ h=>h) hq) (h3 x hx)⟩
 | _=>intro lv st Q Q' hq h;exact h.elim
theorem vU (ho:P.follows .mixedOrders=true) {ρ:Type} : ∀(c:Code) {lv:List Nat} {st:St} {Q:ρ→Exit→St→Prop},aT n c=true→bG P G n m c lv st (fun e s=> ∃r,Q r e s) → ∃r,bi P G n m lv c st (Q r):=by
 intro c;induction c with
 | skip=>intro lv st Q _ h;exact h
 | exit id=>intro lv st Q _ h;exact h
 | ret=>intro lv st Q _ h;exact h
 | label l=>intro lv st Q _ h;exact h
 | region id ops draw=>
  intro lv st Q _ h;obtain ⟨x,⟨r,hx⟩,hall⟩:=Pt.gh G m (fun s=>Pt.reg (P:=P) (G:=G) lv ops draw s) st (fun st'=> ∃r,Q r .normal st') h;exact ⟨r,hall (fun st'=>Q r .normal st') hx⟩
 | seq a b iha ihb=>
  intro lv st Q hok h;simp only [aT,Bool.and_eq_true] at hok;refine iha (Q:=fun r=>fO (fun st'=>bi P G n m lv b st' (Q r)) (Q r)) hok.1 (dw a ?_ h);intro e s hs;cases e<;>first|exact ihb hok.2 hs|exact hs
 | cond c a b iha ihb=>
  intro lv st Q hok h;simp only [aT,Bool.and_eq_true] at hok;simp only [bG,gZ] at h;simp only [bi,gZ];unfold kT at h;split at h
  ·rename_i t hb;rw [hb];cases t with
   | true=>obtain ⟨r,hr⟩:=iha hok.1 (h.1 rfl);exact ⟨r,⟨fun _=>hr,fun e=>by cases e⟩⟩
   | false=>obtain ⟨r,hr⟩:=ihb hok.2 (h.2 rfl);exact ⟨r,⟨fun e=>(by cases e),fun _=>hr⟩⟩
  ·exact h.elim
 | block id c ih=>
  intro lv st Q hok h;refine ih (Q:=fun r=>du id (Q r)) hok (dw c ?_ h);intro e s hs;cases e with
  | exit i=>
   simp only [du] at hs ⊢;split
   ·rename_i hi;rw [if_pos hi] at hs;exact hs
   ·rename_i hi;rw [if_neg hi] at hs;exact hs
  | _=>exact hs
 | scope c ih=>
  intro lv st Q hok h;refine ih (Q:=fun r=>fN (Q r)) hok (dw c ?_ h);intro e s hs;cases e<;>first|exact hs.elim|exact hs
 | loop c ih=>
  intro lv st Q hok h;have hok:aT n c=true:=hok;obtain ⟨α,S,pre,mu,x0,lv',h1,h2,h3⟩:=h;have key : ∀k x,mu x=k→pre x → ∃r,dO P G n m c (S x) (Q r):=by
   intro k;induction k using Nat.strongRecOn with
   | _ k ihk=>
    intro x hk hx;obtain ⟨r,hr⟩:=ih (Q:=fun r=>fO (fun s=>dO P G n m c s (Q r)) (Q r)) hok (dw c (fun e s hs=>by
     cases e with
     | normal=>
      obtain ⟨s',hle,j,hlt,y,hy,rfl,hpy⟩:=hs;obtain ⟨r,hr⟩:=ihk j (by omega) y hy hpy;exact ⟨r,dO.via ⟨_,hle,hr⟩⟩
     | _=>exact hs) (h3 x hx))
    exact ⟨r,dO.round ho hok hr⟩
  obtain ⟨r,hr⟩:=key _ x0 rfl h2;obtain ⟨s,hle,rfl⟩:=h1;exact ⟨r,dO.loop (dO.via ⟨_,hle,hr⟩)⟩
 | _=>intro lv st Q _ h;exact h.elim
def vc (P:Program) (G:Gl) (m:Nat) (rs:List ResultVar) {ρ:Type} (R:ρ→Prop) (r:ρ→V) (σ':ρ→aa) (st:St) (_u:Tag R:= .mk) (_v:Tag r:= .mk) (_w:Tag σ':= .mk) (_h:True:=trivial):Prop:= ∃x,R x∧ah P G m rs (r x) (σ' x) st
theorem vc.is {rs:List ResultVar} {ρ:Type} {R:ρ→Prop} {r:ρ→V} {σ':ρ→aa} {st:St} (x:ρ) (hx:R x) (h:ah P G m rs (r x) (σ' x) st):vc P G m rs R r σ' st:=⟨x,hx,h⟩
theorem aG.ex (ho:P.follows .mixedOrders=true) {f:Nat} {fn:Func} {c:Code} {rs:List ResultVar} (lv:List Nat) (hf:P.funcs[f]? = some fn) (hb:fn.body=some c) (hrs:fn.results=rs.toArray) (hn:fn.ntmps=n)
 {args:List V} {σ:aa} {ρ:Type} {R:ρ→Prop} {r:ρ→V} {σ':ρ→aa} (h:bG P G n m c lv ⟨kS 0 args,σ,m⟩ (rF (vc P G m rs R r σ'))) (hok:aT n c=true) (hlen:args.length≤n) : ∃x,R x∧aG P G f args σ m (r x) (σ' x):=by
 obtain ⟨⟨x,hx⟩,hr⟩:=vU ho (ρ :={ x // R x }) (Q:=fun x=>rF (ah P G m rs (r x.1) (σ' x.1))) c hok (dw c (fun e s hs=>by
  cases e<;>first|exact hs.elim|exact (match hs with|⟨x,h1,h2⟩=>⟨⟨x,h1⟩,h2⟩)) h)
 exact ⟨x,hx,aG.of_code ho lv hf hb hrs hn hok hlen hr⟩
def lj:Code→Bool
 | .region _ _ _=>true
 | .seq a _=>lj a
 | .block _ c=>lj c
 | .loop _=>true
 | .scope c=>lj c
 | _=>false
theorem tI {st st':St} (hle:cS G m st st') : ∀(c:Code) {lv:List Nat} {Q:Exit→St→Prop},lj c=true→bG P G n m c lv st' Q→bG P G n m c lv st Q:=by
 intro c;induction c with
 | region id ops draw=>intro lv Q _ h;exact a7.via hle h
 | seq a b iha _=>intro lv Q hc h;exact iha hc h
 | block id c ih=>intro lv Q hc h;exact ih hc h
 | scope c ih=>intro lv Q hc h;exact ih hc h
 | loop c _=>
  intro lv Q _ h;obtain ⟨α,S,pre,mu,x0,lv',h1,h2,h3⟩:=h;exact ⟨α,S,pre,mu,x0,lv',a7.via hle h1,h2,h3⟩
 | _=>intro lv Q hc h;cases hc
def An (G:Gl) (m:Nat) {β:Type} (T:β→St) (post:β→Prop) (st:St) (_u:Tag T:= .mk) (_v:Tag post:= .mk) (_h:True:=trivial):Prop:=a7 G m (fun st'=> ∃y,st'=T y∧post y) st
theorem An.go {β:Type} {T:β→St} {post:β→Prop} {st:St} (y:β) (ks:List Nat) (he:st.norm m ks=T y) (hp:post y):An G m T post st:=a7.go ks he ⟨y,rfl,hp⟩
theorem An.frz {β:Type} {T:β→St} {post:β→Prop} {st:St} (id:Nat) (h:An G m T post (st.frz id)):An G m T post st:=a7.frz id h
theorem An.use {β:Type} {T:β→St} {post:β→Prop} {st:St} {c:Code} {lv:List Nat} {Q:Exit→St→Prop} (hc:lj c=true) (h:An G m T post st) (hq : ∀y,post y→bG P G n m c lv (T y) Q):bG P G n m c lv st Q:=by
 obtain ⟨st',hle,y,rfl,hy⟩:=h;exact tI hle c hc (hq y hy)
end
def RR :=@And.intro _ _ @pq <| @And.intro _ _ @vI <| @And.intro _ _ @tz <| @And.intro _ _ @tR <| @And.intro _ _ @tQ <| @And.intro _ _ @oO <| @And.intro _ _ @mD <| @And.intro _ _ @uC <| @And.intro _ _ @wc <| @And.intro _ _ @v9 <| @And.intro _ _ @yC <| @And.intro _ _ @tv <| @And.intro _ _ @wv <| @And.intro _ _ @tZ <| @And.intro _ _ @tJ <| @And.intro _ _ @uD <| @And.intro _ _ @qA <| @And.intro _ _ @tE <| @And.intro _ _ @kV <| @And.intro _ _ @qB <| @And.intro _ _ @xj <| @And.intro _ _ @qR <| @And.intro _ _ @pU <| @And.intro _ _ @uL <| @And.intro _ _ @xq <| @And.intro _ _ @mg <| @And.intro _ _ @qy <| @And.intro _ _ @oM <| @And.intro _ _ @mp <| @And.intro _ _ @pQ <| @And.intro _ _ @rG <| @And.intro _ _ @pK <| @And.intro _ _ @xf <| @And.intro _ _ @wL <| @And.intro _ _ @wN <| @And.intro _ _ @wM <| @And.intro _ _ @fe.eq_1 <| @And.intro _ _ @yI <| @And.intro _ _ @tU <| @And.intro _ _ @wk <| @And.intro _ _ @qL <| @And.intro _ _ @qM <| @And.intro _ _ @o4 <| @And.intro _ _ @bi.eq_1 <| @And.intro _ _ @bi.eq_2 <| @And.intro _ _ @bi.eq_3 <| @And.intro _ _ @bi.eq_4 <| @And.intro _ _ @bi.eq_5 <| @And.intro _ _ @bi.eq_6 <| @And.intro _ _ @bi.eq_7 <| @And.intro _ _ @bi.eq_8 <| @And.intro _ _ @bi.eq_9 <| @And.intro _ _ @bi.eq_10 <| @And.intro _ _ @bG.eq_1 <| @And.intro _ _ @bG.eq_2 <| @And.intro _ _ @bG.eq_3 <| @And.intro _ _ @bG.eq_4 <| @And.intro _ _ @bG.eq_5 <| @And.intro _ _ @bG.eq_6 <| @And.intro _ _ @bG.eq_7 <| @And.intro _ _ @bG.eq_8 <| @And.intro _ _ @bG.eq_9 <| @And.intro _ _ @bG.eq_10 <| @And.intro _ _ @rC <| @And.intro _ _ @w8 <| @And.intro _ _ @uB <| @And.intro _ _ @w6 <| @And.intro _ _ @uz <| @And.intro _ _ @xd <| @And.intro _ _ @uF @qd
def SS :=@And.intro _ _ @l5 <| @And.intro _ _ @iN <| @And.intro _ _ @j3 <| @And.intro _ _ @l8 <| @And.intro _ _ @fg <| @And.intro _ _ @j4 <| @And.intro _ _ @lZ <| @And.intro _ _ @l7 <| @And.intro _ _ @nn <| @And.intro _ _ @fh <| @And.intro _ _ @jX <| @And.intro _ _ @gv <| @And.intro _ _ @iB <| @And.intro _ _ @jZ <| @And.intro _ _ @eu <| @And.intro _ _ @iD <| @And.intro _ _ @jW <| @And.intro _ _ @jY <| @And.intro _ _ @lR <| @ev
theorem ni (k t:Nat) (b:bP) (r:aa):aa.get ((k,b)::r) t=if k=t then some b else aa.get r t:=by rw [aa.get]
def W6 :=@And.intro _ _ @Dq <| @And.intro _ _ @Et <| @And.intro _ _ @ww @yQ
theorem Gx (n:Int) (h1 : -2147483648≤n) (h2:n≤2147483647):IntKind.i32.wrap n=n:=by
 rw [IntKind.wrap_i32];omega
theorem Gy (n:Int) (h1:0≤n) (h2:n≤255):IntKind.u8.wrap n=n:=by
 rw [IntKind.wrap_u8];omega
theorem Ct (a b:Int) (h:0≤a):a.tdiv b=a / b:=Int.tdiv_eq_ediv_of_nonneg h
theorem CP (a b:Int) (h:0≤a):a.tmod b=a % b:=Int.tmod_eq_emod_of_nonneg h
def W3 :=@And.intro _ _ @W6 <| @And.intro _ _ @Gx <| @And.intro _ _ @Gy <| @And.intro _ _ @Ct @CP
instance gf.cond {a b c:Bool} {p q r p' q' r':Prop} [h:gf a p p'] [k:gf b q q'] [l:gf c r r']:gf (cond a b c) ((p∧q)∨(p'∧r)) (¬((p∧q)∨(p'∧r))):=gf.mk' (by rw [←h.says,←h.nots,←k.says,←l.says];cases a<;>simp)
theorem vR {p q:Prop} (h:q) (e:p=q:=by simp -implicitDefEqProofs -dsimp only [push_cast,↓RR,↓SS,↓ni,↓reduceIte,Nat.reduceMul,Nat.reduceAdd,Nat.reduceSub,Nat.reduceEqDiff,Nat.reduceBeqDiff,Nat.reduceLeDiff,Nat.reduceLT,reduceCtorEq,Int.reduceToNat];exact rfl):p:=e▸h
theorem v6 {p q:Prop} (h:q) (e:p=q:=by simp -implicitDefEqProofs -dsimp (disch:=omega) only [W6];exact rfl):p:=e▸h
theorem v3 {p q:Prop} (h:q) (e:p=q:=by simp -implicitDefEqProofs -dsimp (disch:=omega) only [W3];exact rfl):p:=e▸h
theorem vD {P:Program} {G:Gl} {m:Nat} {lv:List Nat} {ops:Array Oper} {K:St→Prop} {st:St} (h:lI P G ops st.nx 0 ops.toList st.env st.sg [] fun e σ=>mj K ⟨aF.keep lv e,σ,st.nx+4*ops.size⟩) (hd:cu [] ops=true:=by decide +kernel):a7 G m (fJ P G lv ops true K) st:=a7.dr hd h
theorem vG {G:Gl} {m:Nat} {K:St→Prop} {st:St} (h:K st):a7 G m K st:=a7.now h
theorem vE {K:St→Prop} {st:St} (h:K st):mj K st:=h
theorem vN {p q:Prop} (h2:q) (h1:p:=by first|omega|(simp [fo,x4,eC,V.cellOk,Value.oneCell',D.cells,i5];done)|(simp [fo,x4,eC,V.cellOk,Value.oneCell',D.cells,i5];omega)):j7 p q:=⟨h1,h2⟩
theorem vB {b:Bool} {p p':Prop} [h:gf b p p'] {q r:Prop} (h1:p→q) (h2:p'→r):fj b q r:=fj.of h1 h2
theorem vM {b:Bool} {p p':Prop} [h:gf b p p'] {q r:Prop} (h1:p→q) (h2:p'→r):jL b q r:=jL.of h1 h2
section
variable {P:Program} {G:Gl}
theorem vC {f:Nat} {args:List V} {σ:aa} {id:Nat} {K:V→aa→Prop} {r:V} (h:aG P G f args [] 0 r []) (hK:K r σ) (he:cU P f=true:=by kernel_rfl) (ha:args.map (V.sel (fw []))=args:=by with_unfolding_all rfl) (hr:r.sel (bk [] id)=r:=by with_unfolding_all rfl):ap P G f args σ id K:=ap.d h he ha hr hK
theorem vQ {lo:List Nat} {ops:Array Oper} {i f:Nat} {args:List V} {σ acc:aa} {id:Nat} {K L:V→aa→Prop} {r:V} (h:aG P G f args [] 0 r []) (hK:K r []) (he:cU P f=true:=by kernel_rfl) (ha:args.map (V.sel (fw []))=args:=by with_unfolding_all rfl) (hr:r.sel (bk [] id)=r:=by with_unfolding_all rfl):aU P G lo ops i f args σ acc id K L:=aU.d h he ha hr hK
class zJ (p:Prop) (P:outParam Program) (G:outParam Gl) (f:outParam Nat) (args:outParam (List V)) (id:outParam Nat) (K:outParam (V→Prop)):Prop where
 of : ∀r,aG P G f args [] 0 r []→cU P f=true→args.map (V.sel (fw []))=args→r.sel (bk [] id)=r→K r→p
instance {f:Nat} {args:List V} {σ:aa} {id:Nat} {K:V→aa→Prop} : zJ (ap P G f args σ id K) P G f args id (fun r=>K r σ):=⟨fun _ h he ha hr hK=>ap.d h he ha hr hK⟩
instance {lo:List Nat} {ops:Array Oper} {i f:Nat} {args:List V} {σ acc:aa} {id:Nat} {K L:V→aa→Prop} : zJ (aU P G lo ops i f args σ acc id K L) P G f args id (fun r=>K r []):=⟨fun _ h he ha hr hK=>aU.d h he ha hr hK⟩
theorem vF (ho:P.follows .mixedOrders=true) {f:Nat} {fn:Func} {c:Code} {rs:List ResultVar} {n:Nat} (lv:List Nat) (hf:P.funcs[f]? = some fn) (hb:fn.body=some c) (hrs:fn.results=rs.toArray) (hn:fn.ntmps=n)
 {args:List V} {σ:aa} {m:Nat} {r:V} {σ':aa} (h:bi P G n m lv c ⟨kS 0 args,σ,m⟩ (rF (ah P G m rs r σ'))) (hok:aT n c=true:=by kernel_rfl) (hlen:args.length≤n:=by simp):aG P G f args σ m r σ':=aG.of_code ho lv hf hb hrs hn hok hlen h
theorem vL {n m:Nat} {lv:List Nat} (ho:P.follows .mixedOrders=true) {c:Code} {st:St} {Q:Exit→St→Prop} {α:Type} (S:α→St) (pre:α→Prop) (mu:α→Nat) (x0:α) (h0:a7 G m (fun st'=>st'=S x0) st) (hp:pre x0)
 (hr : ∀x,pre x→bi P G n m lv c (S x) (fO (fun st=>bA G m S pre mu x st) Q)) (hok:aT n c=true:=by kernel_rfl):gn P G n m c st Q:=wP ho hok S pre mu x0 h0 hp hr
end
theorem vS {α:Sort _} {a b:α} (h:a=b:=by first|rfl|(refine vR ?_;first|done|exact True.intro|rfl|(refine v6 ?_;first|exact True.intro|(refine vR ?_;exact True.intro))|((try refine v6 ?_);simp only [St.mk.injEq,List.cons.injEq,Prod.mk.injEq,V.d.injEq,D.lit.injEq,Value.int.injEq,true_and,and_true];omega))):a=b:=h
theorem vT {α:Sort _} {a b:α} (h:a=b:=by (refine vR ?_;first|done|exact True.intro|rfl|(refine v6 ?_;first|exact True.intro|(refine vR ?_;exact True.intro))|((try refine v6 ?_);simp only [St.mk.injEq,List.cons.injEq,Prod.mk.injEq,V.d.injEq,D.lit.injEq,Value.int.injEq,true_and,and_true];omega))):a=b:=h
section
variable {P:Program} {G:Gl}
theorem fG {σ τ:aa} (he : ∀j,τ.get j=σ.get j) {β:bF} {b:Nat} : bj σ β b↔bj τ β b:=by
 constructor
 ·rintro ⟨id,blk,c,h1,h2⟩;exact ⟨id,blk,c,by rw [he];exact h1,h2⟩
 ·rintro ⟨id,blk,c,h1,h2⟩;exact ⟨id,blk,c,by rw [←he];exact h1,h2⟩
theorem aG.congr {f:Nat} {args:List V} {σ τ:aa} {m:Nat} {r:V} {σ':aa} (h:aG P G f args σ m r σ') (he : ∀j,τ.get j=σ.get j):aG P G f args τ m r σ':=by
 intro w I β vals hm hG hd;have hm':bW w I β σ m:=⟨fun id blk hb=>hm.own id blk (by rw [he];exact hb),fun i j b b' k c c' h1 h2=>hm.inj i j b b' k c c' (by rw [he];exact h1) (by rw [he];exact h2),hm.free,hm.lt⟩
 refine (h w I β vals hm' hG hd).mono ?_;rintro e w' ⟨u,I',β',h1,h2,h3⟩;exact ⟨u,I',β',h1,h2,{ h3 with
  block:=fun b hb ho=>h3.block b hb fun h=>ho ((fG he).1 h)
  immn:=fun b hb=>by
   rcases h3.immn b hb with h|h|h
   ·exact .inl h
   ·exact .inr (.inl ((fG he).1 h))
   ·exact .inr (.inr h)
  own':=fun b hb=>by
   rcases h3.own' b hb with h|h
   ·exact .inl ((fG he).1 h)
   ·exact .inr h }⟩
theorem DC {i j k:Nat} (h:fw [i] j=some k):j=i∧k=0:=by
 obtain ⟨h1,h2⟩:=fX h;simp at h2;subst h2;simp at h1;exact ⟨h1.symm,rfl⟩
theorem wr (i:Nat):fw [i] i=some 0:=by simp [fw,wy]
theorem vA (i id:Nat):bk [i] id 0=some i:=by simp [bk]
theorem yO {σ:aa} {i:Nat} {b:bP} (hg:σ.get i=some b) (j:Nat):(σ.sel (fw [i])).get j=aa.get [(0,b.sel (fw [i]))] j:=by
 have hinj : ∀a a' j,fw [i] a=some j→fw [i] a'=some j→a=a':=fun a a' j h1 h2=>by rw [(DC h1).1,(DC h2).1]
 by_cases h0:j=0
 ·subst h0;rw [aa.get_sel' hinj (wr i) σ b hg];rfl
 ·cases hs:(σ.sel (fw [i])).get j with
  | none=>simp [aa.get,Ne.symm h0]
  | some c=>
   obtain ⟨a,c',h1,_,_⟩:=aa.get_sel hinj σ j c hs;exact (h0 (DC h1).2).elim
theorem mL {f:Nat} {args args':List V} {σ:aa} {id i:Nat} {b b0 b':bP} {r:V} (hg:σ.get i=some b) (hi:i<id) (ha:args.map (V.sel (fw [i]))=args') (hb:b.sel (fw [i])=b0) (h:aG P G f args' [(0,b0)] 1 r [(0,b')]) :
 mf P G f args σ id (r.sel (bk [i] id)) (σ.set i (b'.sel (bk [i] id))):=by
 have hl:wZ [i] id σ=true:=by simp [wZ,hi,hg]
 have h1:aG P G f (args.map (V.sel (fw [i]))) (σ.sel (fw [i])) [i].length r [(0,b')]:=by
  rw [ha];subst hb;exact h.congr (yO hg)
 have h2:=nG [i] hl h1;intro w I β nx vals hm hG hf hnx hd;refine (h2 w I β nx vals hm hG hf hnx hd).mono ?_;rintro e w' ⟨u,I',β',g1,g2,g3,g4⟩;refine ⟨u,I',β',g1,g2,g3.congr fun j =>?_,g4⟩;rw [aa.get_set (by rw [hg];rfl),bJ,o3];have es:aa.sel (bk [i] id) [(0,b')]=[(i,b'.sel (bk [i] id))]:=by simp [aa.sel,vA]
 rw [es];by_cases hj:j=i
 ·subst hj;simp [aa.get]
 ·simp only [List.mem_singleton,hj,if_false];cases σ.get j with
  | some x=>rfl
  | none=>simp [aa.get,Ne.symm hj]
theorem vO {f:Nat} {rest rest':List V} {σ:aa} {id:Nat} {K:V→aa→Prop} {i:Nat} {b b0 b':bP} {r:V} (h:aG P G f (.po 0 0::rest') [(0,b0)] 1 r [(0,b')]) (hK:K (r.sel (bk [i] id)) (σ.set i (b'.sel (bk [i] id))))
 (hg:σ.get i=some b:=by with_unfolding_all rfl) (hb:b.sel (fw [i])=b0:=by with_unfolding_all rfl) (ha:(V.po i 0::rest).map (V.sel (fw [i])) = .po 0 0::rest':=by with_unfolding_all rfl) (he:cU P f=true:=by kernel_rfl) (hi:i<id:=by with_unfolding_all decide):ap P G f (.po i 0::rest) σ id K:=
 ⟨_,_,hK,.inl ⟨he,mL hg hi ha hb h⟩⟩
theorem sf {f:Nat} {args args':List V} {σ:aa} {id i:Nat} {b b0 b':bP} {r r':V} (hg:σ.get i=some b) (hi:i<id) (ha:args.map (V.sel (fw [i]))=args') (hb:b.sel (fw [i])=b0) (hb':b'.sel (bk [i] id)=b) (hr:r.sel (bk [i] id)=r') (h:aG P G f args' [(0,b0)] 1 r [(0,b')]) :
 mf P G f args σ id r' σ:=by
 have h2:=mL hg hi ha hb h;rw [hr,hb'] at h2;intro w I β nx vals hm hG hf hnx hd;refine (h2 w I β nx vals hm hG hf hnx hd).mono ?_;rintro e w' ⟨u,I',β',g1,g2,g3,g4⟩;refine ⟨u,I',β',g1,g2,g3.congr fun j =>?_,g4⟩;rw [aa.get_set (by rw [hg];rfl)];by_cases hj:j=i
 ·subst hj;rw [if_pos rfl];exact hg
 ·rw [if_neg hj]
theorem xK {f:Nat} {rest rest':List V} {σ:aa} {id:Nat} {K:V→aa→Prop} {i:Nat} {b b0 b':bP} {r r':V} (h:aG P G f (.po 0 0::rest') [(0,b0)] 1 r [(0,b')]) (hK:K r' σ)
 (hg:σ.get i=some b:=by with_unfolding_all rfl) (hb:b.sel (fw [i])=b0:=by with_unfolding_all rfl) (ha:(V.po i 0::rest).map (V.sel (fw [i])) = .po 0 0::rest':=by with_unfolding_all rfl) (hb':b'.sel (bk [i] id)=b:=by with_unfolding_all rfl) (hr:r.sel (bk [i] id)=r':=by with_unfolding_all rfl) (he:cU P f=true:=by kernel_rfl) (hi:i<id:=by with_unfolding_all decide):ap P G f (.po i 0::rest) σ id K:=
 ⟨_,_,hK,.inl ⟨he,sf hg hi ha hb hb' hr h⟩⟩
theorem Es {lo:List Nat} {ops:Array Oper} {n f:Nat} {rest rest':List V} {σ acc:aa} {id:Nat} {K L:V→aa→Prop} {i:Nat} {b b0 b':bP} {r r':V} (h:aG P G f (.po 0 0::rest') [(0,b0)] 1 r [(0,b')]) (hK:K r' [])
 (hg:σ.get i=some b:=by with_unfolding_all rfl) (hb:b.sel (fw [i])=b0:=by with_unfolding_all rfl) (ha:(V.po i 0::rest).map (V.sel (fw [i])) = .po 0 0::rest':=by with_unfolding_all rfl) (hb':b'.sel (bk [i] id)=b:=by with_unfolding_all rfl) (hr:r.sel (bk [i] id)=r':=by with_unfolding_all rfl) (he:cU P f=true:=by kernel_rfl) (hi:i<id:=by with_unfolding_all decide):aU P G lo ops n f (.po i 0::rest) σ acc id K L:=
 .inl ⟨_,_,hK,.inl ⟨he,cd id,fun σ' hs=>by rw [List.append_nil];exact sf (hs i b hg) hi ha hb hb' hr h⟩⟩
theorem vK {f:Nat} {args:List V} {σ:aa} {id:Nat} {K:V→aa→Prop} {r:V} {σ1:aa} (h:aG P G f args [] 0 r σ1) (hK:K (r.sel (bk [] id)) (σ++σ1.sel (bk [] id))) (he:cU P f=true:=by kernel_rfl) (ha:args.map (V.sel (fw []))=args:=by with_unfolding_all rfl):ap P G f args σ id K:=
 ap.of [] he (by rw [ha,lY];exact h) rfl (by simpa [g8] using hK)
end
theorem vX {P:Program} {G:Gl} {f:Nat} {args:List V} {σ:aa} {id:Nat} {K:V→aa→Prop} (v:V) (hK:K v σ) (h:nL P f args=some v:=by kernel_rfl):ap P G f args σ id K:=⟨v,σ,hK,.inr ⟨h,rfl⟩⟩
theorem ap.two {P:Program} {G:Gl} {f:Nat} {args args':List V} {σ:aa} {id:Nat} {K:V→aa→Prop} {r:V} {b b' c c':bP} (i j:Nat) (h:aG P G f args' [(0,b),(1,c)] 2 r [(0,b'),(1,c')])
 (hK:K (r.sel (bk [i,j] id)) (g8 σ [i,j]++aa.sel (bk [i,j] id) [(0,b'),(1,c')])) (he:cU P f=true:=by kernel_rfl) (ha:args.map (V.sel (fw [i,j]))=args':=by rfl) (hs:σ.sel (fw [i,j])=[(0,b),(1,c)]:=by rfl) (hl:wZ [i,j] id σ=true:=by rfl):ap P G f args σ id K:=
 ap.of [i,j] he (by rw [ha,hs];exact h) hl hK
theorem ap.twoN {P:Program} {G:Gl} {f:Nat} {args args':List V} {σ σ1:aa} {id:Nat} {K:V→aa→Prop} {r:V} {b c:bP} (i j:Nat) (h:aG P G f args' [(0,b),(1,c)] 2 r σ1)
 (hK:K (r.sel (bk [i,j] id)) (g8 σ [i,j]++aa.sel (bk [i,j] id) σ1)) (he:cU P f=true:=by kernel_rfl) (ha:args.map (V.sel (fw [i,j]))=args':=by rfl) (hs:σ.sel (fw [i,j])=[(0,b),(1,c)]:=by rfl) (hl:wZ [i,j] id σ=true:=by rfl):ap P G f args σ id K:=
 ap.of [i,j] he (by rw [ha,hs];exact h) hl hK
theorem ap.oneN {P:Program} {G:Gl} {f:Nat} {args args':List V} {σ σ1:aa} {id:Nat} {K:V→aa→Prop} {r:V} {b:bP} (i:Nat) (h:aG P G f args' [(0,b)] 1 r σ1)
 (hK:K (r.sel (bk [i] id)) (g8 σ [i]++aa.sel (bk [i] id) σ1)) (he:cU P f=true:=by kernel_rfl) (ha:args.map (V.sel (fw [i]))=args':=by rfl) (hs:σ.sel (fw [i])=[(0,b)]:=by rfl) (hl:wZ [i] id σ=true:=by rfl):ap P G f args σ id K:=
 ap.of [i] he (by rw [ha,hs];exact h) hl hK
theorem ap.ofN {P:Program} {G:Gl} {f n:Nat} {args args':List V} {σ σ0 σ1:aa} {id:Nat} {K:V→aa→Prop} {r:V} (l:List Nat) (h:aG P G f args' σ0 n r σ1)
 (hK:K (r.sel (bk l id)) (g8 σ l++σ1.sel (bk l id))) (he:cU P f=true:=by kernel_rfl) (hn:l.length=n:=by rfl) (ha:args.map (V.sel (fw l))=args':=by rfl) (hs:σ.sel (fw l)=σ0:=by rfl) (hl:wZ l id σ=true:=by rfl):ap P G f args σ id K:=
 ap.of l he (by rw [ha,hs,hn];exact h) hl hK
theorem aG.nil {P:Program} {G:Gl} {f:Nat} {args:List V} {σ:aa} {m:Nat} {σ':aa} (k:Nat) (b:Bool) (h:aG P G f args σ m (.d (.lit (.slice none 0 0))) σ'):aG P G f args σ m (.d (.sd k b [])) σ':=by
 intro w I β vals hm hG hd;refine (h w I β vals hm hG hd).mono ?_;rintro e w' ⟨u,I',β',h1,h2,h3⟩;refine ⟨u,I',β',h1,?_,h3⟩;cases h2 with
 | lit v=>exact .sd0 k b none
theorem aG.nilOr {P:Program} {G:Gl} {f:Nat} {σ:aa} {m:Nat} {r:V} {σ':aa} (k:Nat) (b:Bool) (h1:aG P G f [.d (.lit (.slice none 0 0))] σ m r σ') (h2:aG P G f [.d (.ne k)] σ m r σ'):aG P G f [.d (.sd k b [])] σ m r σ':=by
 intro w I β vals hm hG hd;obtain ⟨hl,hd⟩:=hd;match vals,hl with
 | [v],_=>
  have hv:aj w I (.sd k b []) v:=hd 0 _ v rfl rfl;have one : ∀x:V,aA w I β x v→ca w I β [x] [v]:=fun x hx=>⟨rfl,fun i c y hc hy=>by
   match i,hc,hy with
   | 0,hc,hy=>
    simp only [List.getElem?_cons_zero,Option.some.injEq] at hc hy;subst hc hy;exact hx
   | i+1,hc,hy=>simp at hc⟩
  cases hv with
  | sd _ _ _ b o cap=>exact h2 w I β [_] hm hG (one _ (aj.ne k _ _))
  | sd0 _ _ a=>
   cases a with
   | none=>exact h1 w I β [_] hm hG (one _ (aj.lit _))
   | some a=>exact h2 w I β [_] hm hG (one _ (aj.ne k _ _))
inductive qo {G:Prop} : G→Prop|i (h:G):qo h
structure rU (G:Prop):Prop where g:G
theorem t5 {G:Prop} (h:G) (_:qo h):rU G:=⟨h⟩
theorem zg {p:Prop} (h:p:=by (repeat' (first|(with_reducible first|exact True.intro|refine vD ?_|refine vG ?_|refine vE ?_)|refine vR ?_|refine v6 ?_|with_reducible refine vN ?_|((with_reducible first|refine vB (fun h =>?_) (fun h =>?_)|refine vM (fun h =>?_) (fun h =>?_))<;>(first|(exfalso;omega)|skip))));all_goals (refine rU.g ?_;apply_rules (newGoals:= .nonDependentOnly) only [t5,qo.i])):p:=h
theorem zo {p:Prop} (h:p:=by (repeat' (first|(with_reducible first|exact True.intro|refine vD ?_|refine vG ?_|refine vE ?_)|with_reducible refine ah.out ?_|refine vR ?_|refine v6 ?_|with_reducible refine vN ?_|((with_reducible first|refine vB (fun h =>?_) (fun h =>?_)|refine vM (fun h =>?_) (fun h =>?_))<;>(first|(exfalso;omega)|skip))));all_goals (refine rU.g ?_;apply_rules (newGoals:= .nonDependentOnly) only [t5,qo.i])):p:=h
theorem qj {p q0:Prop} (c0:q0) (h:q0→p:=by intro zc0;(repeat' (first|(with_reducible first|exact True.intro|refine vD ?_|refine vG ?_|refine vE ?_)|with_reducible refine vC zc0 ?_|with_reducible refine vQ zc0 ?_|refine vR ?_|refine v6 ?_|with_reducible refine vN ?_|((with_reducible first|refine vB (fun h =>?_) (fun h =>?_)|refine vM (fun h =>?_) (fun h =>?_))<;>(first|(exfalso;omega)|skip))));all_goals (clear zc0;refine rU.g ?_;apply_rules (newGoals:= .nonDependentOnly) only [t5,qo.i])):p:=h c0
theorem xZ {p q0:Prop} (c0:q0) (h:q0→p:=by intro zc0;(repeat' (first|(with_reducible first|exact True.intro|refine vD ?_|refine vG ?_|refine vE ?_)|with_reducible refine ah.out ?_|with_reducible refine vC zc0 ?_|with_reducible refine vQ zc0 ?_|refine vR ?_|refine v6 ?_|with_reducible refine vN ?_|((with_reducible first|refine vB (fun h =>?_) (fun h =>?_)|refine vM (fun h =>?_) (fun h =>?_))<;>(first|(exfalso;omega)|skip))));all_goals (clear zc0;refine rU.g ?_;apply_rules (newGoals:= .nonDependentOnly) only [t5,qo.i])):p:=h c0
theorem BL {p q0 q1:Prop} (c0:q0) (c1:q1) (h:q0→q1→p:=by intro zc0 zc1;(repeat' (first|(with_reducible first|exact True.intro|refine vD ?_|refine vG ?_|refine vE ?_)|with_reducible refine vC zc0 ?_|with_reducible refine vQ zc0 ?_|with_reducible refine vC zc1 ?_|with_reducible refine vQ zc1 ?_|refine vR ?_|refine v6 ?_|with_reducible refine vN ?_|((with_reducible first|refine vB (fun h =>?_) (fun h =>?_)|refine vM (fun h =>?_) (fun h =>?_))<;>(first|(exfalso;omega)|skip))));all_goals (clear zc0;clear zc1;refine rU.g ?_;apply_rules (newGoals:= .nonDependentOnly) only [t5,qo.i])):p:=h c0 c1
theorem CT {p q0 q1:Prop} (c0:q0) (c1:q1) (h:q0→q1→p:=by intro zc0 zc1;(repeat' (first|(with_reducible first|exact True.intro|refine vD ?_|refine vG ?_|refine vE ?_)|with_reducible refine ah.out ?_|with_reducible refine vC zc0 ?_|with_reducible refine vQ zc0 ?_|with_reducible refine vC zc1 ?_|with_reducible refine vQ zc1 ?_|refine vR ?_|refine v6 ?_|with_reducible refine vN ?_|((with_reducible first|refine vB (fun h =>?_) (fun h =>?_)|refine vM (fun h =>?_) (fun h =>?_))<;>(first|(exfalso;omega)|skip))));all_goals (clear zc0;clear zc1;refine rU.g ?_;apply_rules (newGoals:= .nonDependentOnly) only [t5,qo.i])):p:=h c0 c1
theorem Dr {p q0 q1 q2:Prop} (c0:q0) (c1:q1) (c2:q2) (h:q0→q1→q2→p:=by intro zc0 zc1 zc2;(repeat' (first|(with_reducible first|exact True.intro|refine vD ?_|refine vG ?_|refine vE ?_)|with_reducible refine vC zc0 ?_|with_reducible refine vQ zc0 ?_|with_reducible refine vC zc1 ?_|with_reducible refine vQ zc1 ?_|with_reducible refine vC zc2 ?_|with_reducible refine vQ zc2 ?_|refine vR ?_|refine v6 ?_|with_reducible refine vN ?_|((with_reducible first|refine vB (fun h =>?_) (fun h =>?_)|refine vM (fun h =>?_) (fun h =>?_))<;>(first|(exfalso;omega)|skip))));all_goals (clear zc0;clear zc1;clear zc2;refine rU.g ?_;apply_rules (newGoals:= .nonDependentOnly) only [t5,qo.i])):p:=h c0 c1 c2
theorem Ev {p q0 q1 q2 q3:Prop} (c0:q0) (c1:q1) (c2:q2) (c3:q3) (h:q0→q1→q2→q3→p:=by intro zc0 zc1 zc2 zc3;(repeat' (first|(with_reducible first|exact True.intro|refine vD ?_|refine vG ?_|refine vE ?_)|with_reducible refine ah.out ?_|with_reducible refine vC zc0 ?_|with_reducible refine vQ zc0 ?_|with_reducible refine vC zc1 ?_|with_reducible refine vQ zc1 ?_|with_reducible refine vC zc2 ?_|with_reducible refine vQ zc2 ?_|with_reducible refine vC zc3 ?_|with_reducible refine vQ zc3 ?_|refine vR ?_|refine v6 ?_|with_reducible refine vN ?_|((with_reducible first|refine vB (fun h =>?_) (fun h =>?_)|refine vM (fun h =>?_) (fun h =>?_))<;>(first|(exfalso;omega)|skip))));all_goals (clear zc0;clear zc1;clear zc2;clear zc3;refine rU.g ?_;apply_rules (newGoals:= .nonDependentOnly) only [t5,qo.i])):p:=h c0 c1 c2 c3
theorem GA {p q0 q1 q2 q3 q4 q5:Prop} (c0:q0) (c1:q1) (c2:q2) (c3:q3) (c4:q4) (c5:q5) (h:q0→q1→q2→q3→q4→q5→p:=by intro zc0 zc1 zc2 zc3 zc4 zc5;(repeat' (first|(with_reducible first|exact True.intro|refine vD ?_|refine vG ?_|refine vE ?_)|with_reducible refine ah.out ?_|with_reducible refine vC zc0 ?_|with_reducible refine vQ zc0 ?_|with_reducible refine vC zc1 ?_|with_reducible refine vQ zc1 ?_|with_reducible refine vC zc2 ?_|with_reducible refine vQ zc2 ?_|with_reducible refine vC zc3 ?_|with_reducible refine vQ zc3 ?_|with_reducible refine vC zc4 ?_|with_reducible refine vQ zc4 ?_|with_reducible refine vC zc5 ?_|with_reducible refine vQ zc5 ?_|refine vR ?_|refine v6 ?_|with_reducible refine vN ?_|((with_reducible first|refine vB (fun h =>?_) (fun h =>?_)|refine vM (fun h =>?_) (fun h =>?_))<;>(first|(exfalso;omega)|skip))));all_goals (clear zc0;clear zc1;clear zc2;clear zc3;clear zc4;clear zc5;refine rU.g ?_;apply_rules (newGoals:= .nonDependentOnly) only [t5,qo.i])):p:=h c0 c1 c2 c3 c4 c5
theorem Gz {p q0:Prop} (c0:q0) (h:q0→p:=by intro zc0;(repeat' (first|(with_reducible first|exact True.intro|refine vD ?_|refine vG ?_|refine vE ?_)|with_reducible refine vK zc0 ?_|refine vR ?_|refine v6 ?_|with_reducible refine vN ?_|((with_reducible first|refine vB (fun h =>?_) (fun h =>?_)|refine vM (fun h =>?_) (fun h =>?_))<;>(first|(exfalso;omega)|skip))));all_goals (clear zc0;refine rU.g ?_;apply_rules (newGoals:= .nonDependentOnly) only [t5,qo.i])):p:=h c0
theorem Eu {p q0:Prop} (c0:q0) (h:q0→p:=by intro zc0;(repeat' (first|(with_reducible first|exact True.intro|refine vD ?_|refine vG ?_|refine vE ?_)|with_reducible refine vO zc0 ?_|refine vR ?_|refine v6 ?_|with_reducible refine vN ?_|((with_reducible first|refine vB (fun h =>?_) (fun h =>?_)|refine vM (fun h =>?_) (fun h =>?_))<;>(first|(exfalso;omega)|skip))));all_goals (clear zc0;refine rU.g ?_;apply_rules (newGoals:= .nonDependentOnly) only [t5,qo.i])):p:=h c0
theorem Ga {p q0:Prop} (c0:q0) (h:q0→p:=by intro zc0;(repeat' (first|(with_reducible first|exact True.intro|refine vD ?_|refine vG ?_|refine vE ?_)|with_reducible refine xK zc0 ?_|refine vR ?_|refine v6 ?_|with_reducible refine vN ?_|((with_reducible first|refine vB (fun h =>?_) (fun h =>?_)|refine vM (fun h =>?_) (fun h =>?_))<;>(first|(exfalso;omega)|skip))));all_goals (clear zc0;refine rU.g ?_;apply_rules (newGoals:= .nonDependentOnly) only [t5,qo.i])):p:=h c0
end Go.Proofs.YtkhonlnajdfhfaaDoor
