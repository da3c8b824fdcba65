/- What the theorem leans on, part 2. -/
import Derived.Laws.Externs
import Derived.RangeFuncLeaves
import Derived.RangeFuncRecord
import Derived.OrdersIn
import Derived.Orders
import Derived.Scope
import Derived.IntWalk
import Derived.ChangeKeysEq
import Derived.Test.YtkkanlcjjpoklaaGreatDoorStUPAA
set_option linter.unusedSimpArgs false
namespace Go.Proofs.YtkkanlcjjpoklaaGreatDoor
def yX (s:ByteArray) (c:UInt8):Nat:=s.data.toList.countP (· == c)
theorem FZ (s:ByteArray) (c:UInt8):s.foldl (fun n x=>if (x==c)=true then n+1 else n) (0:Int)=(yX s c:Int):=by
 unfold ByteArray.foldl ByteArray.foldlM;simp only [Nat.le_refl,dite_true];have key : ∀(i j:Nat) (b:Int),i+j=s.size→_root_.Id.run (ByteArray.foldlM.loop (m:=_root_.Id) (fun (n:Int) x=>pure (if (x==c)=true then n+1 else n)) s s.size (Nat.le_refl _) i j b)=b+((s.data.toList.drop j).countP (· == c):Nat):=by
  intro i;induction i with
  | zero=>
   intro j b h;unfold ByteArray.foldlM.loop;have:s.data.toList.drop j=[]:=List.drop_eq_nil_of_le (by have:s.data.size=s.size:=rfl;simp;omega);rw [this];simp
  | succ i ih=>
   intro j b h;unfold ByteArray.foldlM.loop;have hlt:j<s.size:=by omega
   rw [dif_pos hlt];simp only [pure_bind];have e:s.data.toList.drop j=s[j]::s.data.toList.drop (j+1):=by
    rw [List.drop_eq_getElem_cons (by have:s.data.size=s.size:=rfl;simp;omega)];rfl
   have h2:=ih (j+1) (if (s[j]==c)=true then b+1 else b) (by omega);refine h2.trans ?_;rw [e,List.countP_cons];split<;>simp_all<;>omega
 have:=key s.size 0 0 (by omega);simpa [yX] using this
theorem ob {P:Program} (s:ByteArray) (c:Int) (w:World) :
 (Extern.BytealgCount.count #[.string s,.int .u8 c]).run P w = .ok (.int .i64 (yX s c.toNat.toUInt8)) w:=by
 rw [←FZ];change Sem.run P (do
  let b ←Extern.Bytes.bytesOf (.string s)
  let c ←Extern.Bytes.asByte (.int .u8 c)
  pure (goInt (b.foldl (fun n x=>if x==c then n+1 else n) (0:Nat)))) w=_
 simp only [Extern.Bytes.bytesOf,Extern.Bytes.asByte,Sem.run_bind,Sem.run_pure,Result.andThen,goInt];rfl
abbrev Gl:=Nat→Option D
def ep (G:Gl) (F:Nat→V):Operand→V
 | .tmp t=>F t
 | .const v=> .d (.lit v)
 | .global g=>match G g with
  | some x=> .d x
  | none=> .unk
 | .func f=> .d (.fn f [])
def E1 (G:Gl) (w:World) (I:Nat→Prop):Prop:= ∀g x,G g=some x→aq w I x (.pointer (some ⟨g,0,none⟩))
def cH (w:World) (I:Nat→Prop) (β:b7) (args:List V) (vals:List Value):Prop:=args.length=vals.length ∧ ∀(i:Nat) c x,args[i]? = some c→vals[i]? = some x→aJ w I β c x
def tO (P:Program) (G:Gl) (f:Nat) (args:List V) (σ:ak) (id:Nat) (v:V) (σ':ak):Prop:=
 ∀w I β nx vals,cQ w I β σ nx→E1 G w I→(∀j,id≤j→j<id+4→β j=none)→id+4≤nx→cH w I β args vals →
  Calls P f vals.toArray w fun e w'=> ∃u I' β',e = .returned u∧aJ w' I' β' v u∧ar w I β σ nx w' I' β' σ' nx ∧ ∀j,¬(id≤j∧j<id+4)→β' j=β j
def cx (P:Program) (f:Nat):Bool:=match P.funcs[f]? with
 | some fn=>fn.body.isSome && !(fn.name == "runtime.NumGoroutine")
 | none=>false
def ap (σ0 σ:ak):Prop:= ∀i b,σ0.get i=some b→σ.get i=some b
def Rm (fn:Func) (args:List V):Option V:=
 if fn.name = "internal/abi.NoEscape" then (match args with
  | [x]=>some x
  | _=>none)
 else if fn.name = "internal/bytealg.IndexByteString" then (match args with
  | [.d (.lit (.string s)),.d (.lit (.int .u8 c))]=>some (.d (.lit (.int .i64 (firstIdx s c.toNat.toUInt8))))
  | _=>none)
 else if fn.name = "internal/bytealg.CountString" then (match args with
  | [.d (.lit (.string s)),.d (.lit (.int .u8 c))]=>some (.d (.lit (.int .i64 (yX s c.toNat.toUInt8))))
  | _=>none)
 else none
def rd (P:Program) (f:Nat) (args:List V):Option V:=match P.funcs[f]? with
 | some fn=>if fn.body.isNone=true∧(Extern.findNext fn).isNone=true then Rm fn args else none
 | none=>none
def au (P:Program) (G:Gl) (f:Nat) (args:List V) (σ:ak) (id:Nat) (K:V→ak→Prop) (_u:Tag K:= .mk) (_h:True:=trivial):Prop:=
 ∃v σ',K v σ'∧(cx P f=true∧tO P G f args σ id v σ'∨rd P f args=some v∧σ'=σ)
def oH (id:Nat) (new:ak):Prop:= ∀j b,new.get j=some b→id≤j∧j<id+4
def dI (P:Program) (G:Gl) (f:Nat) (args:List V) (σ:ak) (id:Nat) (K:V→ak→Prop) (_u:Tag K:= .mk) (_h:True:=trivial):Prop:=
 ∃v new,K v new∧(cx P f=true∧(oH id new ∧ ∀σ',ap σ σ'→tO P G f args σ' id v (σ'++new))∨rd P f args=some v∧new=[])
def lX {α:Type} (_:α):Prop:=False
def eV (op:Op) (r:jt) (K:V→ak→Prop):Prop:=match r with
 | some (p,v,s)=>oX p (K v s)
 | none=>lX op
def bt (v:V) (K:Nat→List V→Prop) (Y:Nat→Prop:=fun _=>False) (B:Nat→List V→Prop:=fun _ _=>False):Prop:=match v with
 | .d (.fn k caps)=>K k (caps.map .d)
 | .fn k caps=>K k caps
 | .yl i=>Y i
 | .d (.bf k fs)=>B k (fs.map .d)
 | _=>lX v
def oJ (P:Program) (G:Gl) (i:Nat) (args:List V) (σ:ak) (id:Nat) (v:V) (σ':ak):Prop:=
 ∀w I β nx vals b cap,cQ w I β σ nx→E1 G w I→(∀j,id≤j→j<id+4→β j=none)→id+4≤nx→cH w I β args vals→β i=some (some (b,cap)) →
  ∃r,w.heap[b]? = some (.loop r)∧vals.length=r.params.size ∧
   RoundIn Fence.wide 0 P b r.fn ((r.params.zip vals.toArray).foldl (fun tmps (t,a)=>tmps.setIfInBounds t a) r.tmps) r.assign r.body w fun e w'=> ∃u I' β',e = .returned u∧aJ w' I' β' v u∧ar w I β σ nx w' I' β' σ' nx ∧ ∀j,¬(id≤j∧j<id+4)→β' j=β j
def gD (P:Program) (G:Gl) (i:Nat) (args:List V) (σ:ak) (id:Nat) (K:V→ak→Prop) (_u:Tag K:= .mk) (_h:True:=trivial):Prop:=
 ∃v σ',K v σ'∧oJ P G i args σ id v σ'
def je (c a b:V) (K:V→Prop):Prop:=match c with
 | .d (.lit (.bool t))=>jj t (K a) (K b)
 | _=>lX c
def rD (b:bF) (K:ByteArray→Nat→Prop):Prop:=match b with
 | .iter s pos=>K s pos
 | _=>False
def kS (x:V) (σ:ak) (K:V→ak→Prop):Prop:=match x with
 | .it id=>cp (σ.get id) fun b=>rD b fun s pos=>
  jj (decide (pos<s.size)) (K (.tup [.d (.lit (.bool true)),.d (.lit (.int .i64 pos)),.d (.lit (.int .i32 (Utf8.decode s pos).1))]) (σ.set id (.iter s (pos+(Utf8.decode s pos).2)))) (K (.tup [.d (.lit (.bool false))]) σ)
 | _=>lX x
def a8 (P:Program) (op:Op) (g:Operand→V) (σ:ak) (id:Nat):jt:=match bX P op g with
 | some (p,v)=>some (p,v,[])
 | none=>aR P op g σ id
def cX (P:Program) (op:Op) (g:Operand→V) (σ:ak) (id:Nat):jt:=match a8 P op g σ id with
 | some (p,v,new)=>some (p,v,σ++new)
 | none=>eR P op g σ id
def aV (P:Program) (G:Gl) (op:Op) (g:Operand→V) (σ:ak) (id:Nat) (K:V→ak→Prop):Prop:=
 match op with
 | .pick c a b=>je (g c) (g a) (g b) (fun v=>K v [])
 | .load t x=>eB P t (g x) σ (fun v=>K v [])
 | .call c=>match c.callee with
  | .value f=>bt (g f) (fun k caps=>dI P G k (c.args.toList.map g++caps) σ id K) (fun _=>False) (fun k fs=>dI P G k (fs++(c.args.toList.map g++[])) σ id K)
  | .builtin _=>eV op (a8 P op g σ id) K
  | .invoke _ _=>lX op
 | op=>eV op (a8 P op g σ id) K
def Ib (r r2:jt) (σ:ak) (K:V→ak→Prop):Prop:=match r with
 | some (p,v,new)=>oX p (K v (σ++new))
 | none=>(match r2 with
  | some (p,v,s)=>oX p (K v s)
  | none=>False)
def aQ (P:Program) (G:Gl) (op:Op) (g:Operand→V) (σ:ak) (id:Nat) (K:V→ak→Prop):Prop:=
 match op with
 | .pick c a b=>je (g c) (g a) (g b) (fun v=>K v σ)
 | .load t x=>eB P t (g x) σ (fun v=>K v σ)
 | .next x isStr=>if isStr=true then kS (g x) σ K else lX op
 | .call c=>match c.callee with
  | .value f=>bt (g f) (fun k caps=>au P G k (c.args.toList.map g++caps) σ id K) (fun i=>gD P G i (c.args.toList.map g) σ id K) (fun k fs=>au P G k (fs++(c.args.toList.map g++[])) σ id K)
  | .builtin _=>eV op (cX P op g σ id) K
  | .invoke _ _=>lX op
 | .buildSlice t n parts=>Ib (aR P (.buildSlice t n parts) g σ id) (Vh P t n id (parts.toList.map fun p=>(p.1,g p.2)) σ) σ K
 | op=>eV op (cX P op g σ id) K
def cj (P:Program) (o:Oper) (a:Act) (w:World) (R:Value→World→Prop):Prop:=
 match (execOp a.eval o).run P w with
 | .ok (.value u) w'=>R u w'
 | .ok .skip w'=>R undef w'
 | .ok (.enter f args) w'=>Calls P f args w' fun e w''=> ∃u,e = .returned u∧R u w''
 | .ok (.round l f tmps assign body) w'=>RoundIn Fence.wide 0 P l f tmps assign body w' fun e w''=> ∃u,e = .returned u∧R u w''
 | _=>False
def Fr (ρ:Option Nat):Fence :={ Fence.wide with round:=ρ }
theorem cj.op {P:Program} {o:Oper} {a:Act} {w:World} {R:Value→World→Prop} (h:cj P o a w R) : ∀c,o.op ≠ .defer c:=by
 intro c hc;unfold cj at h;simp only [execOp,hc,Sem.run_bind] at h;cases hr:(resolve a.eval c o.type).run P w with
 | halt x w'=>rw [hr] at h;exact h
 | ok d w'=>rw [hr] at h;exact h
theorem G1 {n n':Nat} {P:Program} {l:Nat} {f:FuncId} {tmps:Array Value} {assign body:Code} {w:World} {R:Ending→World→Prop} {ρ:Option Nat} (h:RoundIn Fence.wide n P l f tmps assign body w R):RoundIn (Fr ρ) n' P l f tmps assign body w R:=
 ⟨trivial,fun c cs _=>h.2 c cs (room_wide _)⟩
theorem Fu {n:Nat} {P:Program} {f:FuncId} {args:Array Value} {w:World} {R:Ending→World→Prop} {ρ:Option Nat} (h:Calls P f args w R):CallsIn (Fr ρ) n P f args w R:=
 ⟨trivial,fun cs _=>(callsIn_wide (n:=n).2 h).2 cs (room_wide _)⟩
theorem cj.wpIn {P:Program} {o:Oper} {a:Act} {w:World} {R:Value→World→Prop} {K:Act→World→Prop} {Q:Exit→Act→World→Prop} {ρ:Option Nat} (h:cj P o a w R) (hK : ∀u w',R u w'→K (a.put o.dst u) w'):o.wpIn (Fr ρ) 0 P a w K Q:=by
 refine ⟨fun _ _=>trivial,?_⟩;rw [Oper.semAt_eq _ _ _ h.op];unfold cj at h;generalize (execOp a.eval o).run P w=r at *
 cases r with
 | halt x w'=>exact h.elim
 | ok n w'=>
  cases n<;>simp only at h<;>first
   | exact hK _ _ h
   | exact h.elim
   | exact ⟨(fun e=>by cases e),(Fu h).mono (by rintro e w'' ⟨u,rfl,hR⟩;exact hK u w'' hR)⟩
   | exact ⟨(fun e=>by cases e),(G1 h).mono (by rintro e w'' ⟨u,rfl,hR⟩;exact hK u w'' hR)⟩
theorem cj.mono {P:Program} {o:Oper} {a:Act} {w:World} {R R':Value→World→Prop} (h:cj P o a w R) (hR : ∀u w',R u w'→R' u w'):cj P o a w R':=by
 unfold cj at h ⊢;generalize (execOp a.eval o).run P w=r at *
 cases r with
 | halt x w'=>exact h.elim
 | ok n w'=>
  cases n<;>simp only at h ⊢ <;> first
   | exact hR _ _ h
   | exact h.elim
   | exact Calls.mono h (by rintro e w'' ⟨u,rfl,h⟩;exact ⟨u,rfl,hR u w'' h⟩)
   | exact RoundIn.mono h (by rintro e w'' ⟨u,rfl,h⟩;exact ⟨u,rfl,hR u w'' h⟩)
theorem cj.of_value {P:Program} {o:Oper} {a:Act} {w w':World} {R:Value→World→Prop} {u:Value} (h:(execOp a.eval o).run P w = .ok (.value u) w') (hR:R u w'):cj P o a w R:=by
 unfold cj;rw [h];exact hR
theorem cj.of_skip {P:Program} {o:Oper} {a:Act} {w w':World} {R:Value→World→Prop} (h:(execOp a.eval o).run P w = .ok .skip w') (hR:R undef w'):cj P o a w R:=by
 unfold cj;rw [h];exact hR
def bq (P:Program) (G:Gl) (o:Oper) (g:Operand→V) (σ:ak) (id:Nat) (v:V) (σ':ak):Prop:=
 ∀w I β nx a,cQ w I β σ nx→E1 G w I→(∀j,id≤j→j<id+4→β j=none)→id+4≤nx→(∀x∈o.op.operands.toList,aJ w I β (g x) (a.eval x)) →
  cj P o a w fun u w'=> ∃I' β',aJ w' I' β' v u∧ar w I β σ nx w' I' β' σ' nx ∧ ∀j,¬(id≤j∧j<id+4)→β' j=β j
def fJ (P:Program) (G:Gl) (o:Oper) (g:Operand→V) (σ0:ak) (id:Nat) (v:V) (new:ak):Prop:= ∀σ,ap σ0 σ→bq P G o g σ id v (σ++new)
section
variable {P:Program} {G:Gl} {o:Oper} {g:Operand→V} {σ:ak} {id:Nat} {K:V→ak→Prop}
open Classical in
noncomputable def only (o:Oper) (g:Operand→V):Operand→V:=fun x=>if x∈o.op.operands.toList then g x else .unk
theorem xH (x:Operand) (h:x∈o.op.operands.toList):g x=only o g x:=by unfold only;rw [if_pos h]
theorem rT {w:World} {I:Nat→Prop} {β:b7} {a:Act} (h : ∀x∈o.op.operands.toList,aJ w I β (g x) (a.eval x)) : ∀x,aJ w I β (only o g x) (a.eval x):=by
 intro x;unfold only;split
 ·rename_i hx;exact h x hx
 ·trivial
theorem nJ {β β':b7} {id:Nat} (h : ∀j,j≠id→β' j=β j) : ∀j,¬(id≤j∧j<id+4)→β' j=β j:=fun j hj=>h j (by omega)
theorem AB {p:Prop} {v:V} (h:bX P o.op g=some (p,v)) (hp:p) (σ:ak) (id:Nat):bq P G o g σ id v σ:=by
 intro w I β nx a hm _ _ _ hg;rw [Ay (g':=only o g) (fun x hx=>xH x hx)] at h;obtain ⟨u,h1,h2⟩:=Az (w:=w) h hp (rT hg);exact cj.of_value h1 ⟨I,β,h2,ar.refl hm,fun _ _=>rfl⟩
theorem bV (σ τ:ak) (j:Nat):ak.get (σ++τ) j=match σ.get j with|some b=>some b|none=>τ.get j:=by
 induction σ with
 | nil=>rfl
 | cons x r ih=>
  obtain ⟨i,b⟩:=x;show (if i=j then some b else ak.get (r++τ) j)=_;simp only [ak.get];split
  ·rfl
  ·exact ih
theorem ar.congr {w w':World} {I I':Nat→Prop} {β β':b7} {σ σ' σ'':ak} {nx nx':Nat} (h:ar w I β σ nx w' I' β' σ' nx') (he : ∀j,σ''.get j=σ'.get j):ar w I β σ nx w' I' β' σ'' nx':=
 { h with
  mem:=⟨fun id b hb=>h.mem.own id b (by rw [←he];exact hb),fun i j b b' k c c' h1 h2=>h.mem.inj i j b b' k c c' (by rw [←he];exact h1) (by rw [←he];exact h2),h.mem.free,h.mem.lt⟩
  own':=fun b ⟨id,blk,c,h1,h2⟩=>h.own' b ⟨id,blk,c,by rw [←he];exact h1,h2⟩ }
theorem HW {op:Op} {g:Operand→V} {σ:ak} {id:Nat} {p:Prop} {v:V} {new:ak} (h:aR P op g σ id=some (p,v,new)) : ∃blk,new=[(id,blk)]:=by
 unfold aR at h;split at h
 ·split at h
  ·split at h
   ·injection h with h;injection h with _ h;injection h with _ h;exact ⟨_,h.symm⟩
   ·cases h
  ·cases h
 ·split at h
  ·injection h with h;injection h with _ h;injection h with _ h;exact ⟨_,h.symm⟩
  ·cases h
 ·split at h
  ·split at h
   ·injection h with h;injection h with _ h;injection h with _ h;exact ⟨_,h.symm⟩
   ·cases h
  ·cases h
 ·split at h
  ·injection h with h;injection h with _ h;injection h with _ h;exact ⟨_,h.symm⟩
  ·cases h
 ·split at h
  ·injection h with h;injection h with _ h;injection h with _ h;exact ⟨_,h.symm⟩
  ·cases h
 ·split at h
  ·unfold qx at h;split at h
   ·split at h
    ·split at h
     ·split at h
      ·injection h with h;injection h with _ h;injection h with _ h;exact ⟨_,h.symm⟩
      ·split at h
       ·injection h with h;injection h with _ h;injection h with _ h;exact ⟨_,h.symm⟩
       ·cases h
      ·cases h
     ·cases h
    ·cases h
   ·cases h
  ·cases h
 ·injection h with h;injection h with _ h;injection h with _ h;exact ⟨_,h.symm⟩
 ·cases h
theorem nq {p:Prop} {v:V} {new σ0:ak} (h:aR P o.op g σ0 id=some (p,v,new)) (hp:p):fJ P G o g σ0 id v new:=by
 intro σ hs w I β nx a hm _ hf hnx hg;rw [HV (g':=only o g) (fun x hx=>xH x hx)] at h;obtain ⟨u,w',β',h1,h2,h3,h4⟩:=HX h hp hm hs (hf id (Nat.le_refl _) (by omega)) (by omega) (rT hg);obtain ⟨blk,rfl⟩:=HW h;have h0:=hm.get_none (hf id (Nat.le_refl _) (by omega));refine cj.of_value h1 ⟨I,β',h2,h3.congr (fun j =>?_),nJ h4⟩;rw [bV];show _=if id=j then some blk else σ.get j
 by_cases hj:id=j
 ·subst hj;rw [h0];simp [ak.get]
 ·simp only [hj,if_false];cases σ.get j<;>simp [ak.get,hj]
theorem LT {p:Prop} {v:V} {σ':ak} (h:eR P o.op g σ id=some (p,v,σ')) (hp:p):bq P G o g σ id v σ':=by
 intro w I β nx a hm _ hf hnx hg;rw [IC (g':=only o g) (fun x hx=>xH x hx)] at h;obtain ⟨u,w',β',h1,h2,h3,h4⟩:=ID h hp hm (hf id (Nat.le_refl _) (by omega)) (by omega) (rT hg);rcases h1 with h1|⟨h1,rfl⟩
 ·exact cj.of_value h1 ⟨I,β',h2,h3,nJ h4⟩
 ·exact cj.of_skip h1 ⟨I,β',h2,h3,nJ h4⟩
theorem lH {p:Prop} {v:V} {new σ0:ak} (h:a8 P o.op g σ0 id=some (p,v,new)) (hp:p):fJ P G o g σ0 id v new:=by
 unfold a8 at h;split at h
 ·rename_i p' v' h1;injection h with h;injection h with e1 h;injection h with e2 e3;subst e1;subst e2;subst e3;intro σ _;rw [List.append_nil];exact AB h1 hp σ id
 ·exact nq h hp
theorem wu {p:Prop} {v:V} {σ':ak} (h:cX P o.op g σ id=some (p,v,σ')) (hp:p):bq P G o g σ id v σ':=by
 unfold cX at h;split at h
 ·rename_i p' v' new h1;injection h with h;injection h with e1 h;injection h with e2 e3;subst e1;subst e2;subst e3;exact lH h1 hp σ (fun _ _ h=>h)
 ·exact LT h hp
theorem gc {op:Op} {r:jt} (h:eV op r K) : ∃p v s,r=some (p,v,s)∧p∧K v s:=by
 unfold eV at h;split at h
 ·exact ⟨_,_,_,rfl,h.1,h.2⟩
 ·exact h.elim
theorem rZ {c x y:Operand} (ho:o.op = .pick c x y) {K:V→Prop} (h:je (g c) (g x) (g y) K) : ∃v,K v ∧ ∀(σ:ak) (id:Nat),bq P G o g σ id v σ:=by
 unfold je at h;split at h
 ·rename_i t hc;have key : ∀(b:Bool),b=t → ∀(σ:ak) (id:Nat),bq P G o g σ id (if b=true then g x else g y) σ:=by
   rintro b rfl σ id w I β nx a hm _ _ _ hg;have h1:=hg c (by simp [ho,Op.operands]);rw [hc] at h1;have h2:=aA h1;refine cj.of_value (u:=if b=true then a.eval x else a.eval y) (by simp [execOp,ho,h2,asBool]) ⟨I,β,?_,ar.refl hm,fun _ _=>rfl⟩;cases b with
   | true=>exact hg x (by simp [ho,Op.operands])
   | false=>exact hg y (by simp [ho,Op.operands])
  cases t with
  | true=>exact ⟨g x,h.1 rfl,key true rfl⟩
  | false=>exact ⟨g y,h.2 rfl,key false rfl⟩
 ·exact h.elim
theorem zX {t:Nat} {x:Operand} (ho:o.op = .load t x) {K:V→Prop} {σ0:ak} (h:eB P t (g x) σ0 K) (id:Nat) : ∃v,K v∧fJ P G o g σ0 id v []:=by
 obtain ⟨v,h1,h2⟩:=oV h;refine ⟨v,h1,fun σ hs =>?_⟩;rw [List.append_nil];intro w I β nx a hm _ _ _ hg;obtain ⟨u,h3,h4⟩:=h2 w I β σ nx (a.eval x) hm hs (hg x (by simp [ho,Op.operands]));exact cj.of_value (by simp [execOp,ho,h3]) ⟨I,β,h4,ar.refl hm,fun _ _=>rfl⟩
theorem ar.iter {w:World} {I:Nat→Prop} {β:b7} {nx:Nat} (hm:cQ w I β σ nx) {i b cap pos:Nat} {s:ByteArray} (hg:σ.get i=some (.iter s pos)) (hb:β i=some (some (b,cap))) (q:Nat) :
 ar w I β σ nx { w with heap:=w.heap.setIfInBounds b (.stringIter s q) } I β (σ.set i (.iter s q)) nx:=by
 have hs:(σ.get i).isSome=true:=by rw [hg];rfl
 have hbl:=((hm.own i _ hg).not_imm hb)
 have hnb : ∀k,k≠b→({ w with heap:=w.heap.setIfInBounds b (.stringIter s q) } : World).heap[k]? = w.heap[k]? :=fun k hk=>by simp [Array.getElem?_setIfInBounds_ne (Ne.symm hk)]
 refine ⟨⟨fun j bl hj =>?_,fun j j' bl bl' k c c' h1 h2 h3 h4 =>?_,hm.free,fun k hk=>by simpa using hm.lt k hk⟩,rfl,rfl,rfl,by simp,fun k _ ho=>hnb k (fun e=>ho ⟨i,_,cap,hg,by rw [e];exact hb⟩),fun _ h=>h,fun _ h=> .inl h,fun _ _ h=>h,Nat.le_refl _,fun k ⟨j,bl,c,h1,h2⟩ =>?_⟩
 ·rw [ak.get_set hs] at hj;split at hj
  ·rename_i e;subst e;injection hj with hj;subst hj;exact ⟨b,cap,hb,by simp [hbl.2],hbl.1⟩
  ·rename_i hne;refine (hm.own j bl hj).keep (fun k hk=>hnb k ?_) (fun _ h=>h) (fun k c hk=>((hm.own j bl hj).not_imm hk).1) (fun _ _ h=>h);rintro rfl;rcases hk with hk|⟨c,hk⟩
   ·exact hbl.1 hk
   ·exact hne (hm.inj j i bl _ k c cap hj hg hk hb)
 ·rw [ak.get_set hs] at h1 h2;have g1 : ∃x,σ.get j=some x:=by
   split at h1
   ·rename_i e;subst e;exact ⟨_,hg⟩
   ·exact ⟨_,h1⟩
  have g2 : ∃x,σ.get j'=some x:=by
   split at h2
   ·rename_i e;subst e;exact ⟨_,hg⟩
   ·exact ⟨_,h2⟩
  obtain ⟨x,g1⟩:=g1;obtain ⟨y,g2⟩:=g2;exact hm.inj j j' x y k c c' g1 g2 h3 h4
 ·rw [ak.get_set hs] at h1;split at h1
  ·rename_i e;subst e;exact .inl ⟨j,_,c,hg,h2⟩
  ·exact .inl ⟨j,bl,c,h1,h2⟩
theorem JJ {x:Operand} (ho:o.op = .next x true) (h:kS (g x) σ K) (id:Nat) : ∃v σ',K v σ'∧bq P G o g σ id v σ':=by
 unfold kS at h;split at h
 ·rename_i i hx;obtain ⟨b,hb,h⟩:=dc h;unfold rD at h;split at h
  ·rename_i s pos;have base : ∀w I β nx (a:Act),cQ w I β σ nx→(∀y∈o.op.operands.toList,aJ w I β (g y) (a.eval y)) → ∃r cap,a.eval x = .pointer (some ⟨r,0,none⟩)∧β i=some (some (r,cap))∧w.heap[r]? = some (.stringIter s pos):=by
    intro w I β nx a hm hg;have h1:=hg x (by simp [ho,Op.operands]);rw [hx] at h1;obtain ⟨r,cap,h2,h3⟩:=h1;obtain ⟨r',cap',q1,q2,q3⟩:=hm.own i _ hb;rw [h2] at q1;injection q1 with q1;injection q1 with q1;injection q1 with q1 _;subst q1;exact ⟨r,cap,h3,h2,q2⟩
   by_cases hlt:pos<s.size
   ·refine ⟨_,_,h.1 (by simpa using hlt),fun w I β nx a hm _ _ _ hg =>?_⟩;obtain ⟨r,cap,e1,e2,e3⟩:=base w I β nx a hm hg;refine cj.of_value (u:= .tuple #[.bool true,.int .i64 pos,.int .i32 (Utf8.decode s pos).1]) (w' :={ w with heap:=w.heap.setIfInBounds r (.stringIter s (pos+(Utf8.decode s pos).2)) }) ?_ ⟨I,β,?_,ar.iter hm hb e2 _,fun _ _=>rfl⟩
    ·simp [execOp,ho,Instr.next,e1,getObj,setObj,Sem.run,e3,hlt,goInt]
    ·refine ⟨[.bool true,.int .i64 pos,.int .i32 (Utf8.decode s pos).1],rfl,rfl,fun j c v hc hv =>?_⟩;match j,hc,hv with
     | 0,hc,hv=>simp at hc hv;subst hc;subst hv;exact aq.lit _
     | 1,hc,hv=>simp at hc hv;subst hc;subst hv;exact aq.lit _
     | 2,hc,hv=>simp at hc hv;subst hc;subst hv;exact aq.lit _
   ·refine ⟨_,_,h.2 (by simpa using hlt),fun w I β nx a hm _ _ _ hg =>?_⟩;obtain ⟨r,cap,e1,e2,e3⟩:=base w I β nx a hm hg;refine cj.of_value (u:= .tuple #[.bool false]) (w':=w) ?_ ⟨I,β,?_,ar.refl hm,fun _ _=>rfl⟩
    ·simp [execOp,ho,Instr.next,e1,getObj,Sem.run,e3,hlt]
    ·refine ⟨[.bool false],rfl,rfl,fun j c v hc hv =>?_⟩;match j,hc,hv with
     | 0,hc,hv=>simp at hc hv;subst hc;subst hv;exact aq.lit _
  ·exact h.elim
 ·exact h.elim
theorem mS {f:Nat} (h:cx P f=true) (args:Array Value) (w:World):(callFunc f args).run P w = .ok (.enter f args) w:=by
 unfold cx at h;split at h
 ·rename_i fn hf;simp only [Bool.and_eq_true,Bool.not_eq_true',beq_eq_false_iff_ne] at h;obtain ⟨c,hb⟩:=Option.isSome_iff_exists.1 h.1;simp [callFunc,hf,hb,h.2]
 ·cases h
theorem L2 {P:Program} {f:Nat} {args:List V} (h:cx P f=true):rd P f args=none:=by
 unfold cx at h;unfold rd;split at h
 ·rename_i fn hf;rw [if_neg];intro hc;have h1:=hc.1;cases hb:fn.body<;>simp [hb] at h h1
 ·cases h
theorem IM {fn:Func} {n:String} {e:Array Value→Sem Value} (hn:fn.name=n) (h1:Extern.allGenericRows.lookup n=none) (h2:Extern.allTypedRows.lookup n=none) (h3:Extern.allRows.lookup n=some e):Extern.find fn=some e:=by
 simp [Extern.find,hn,h1,h2,h3]
theorem MZ {f:Nat} {args:List V} {v:V} {w:World} {I:Nat→Prop} {β:b7} {vals:List Value} (h:rd P f args=some v) (hd:cH w I β args vals) : ∃u,(callFunc f vals.toArray).run P w = .ok (.value u) w∧aJ w I β v u:=by
 unfold rd at h;split at h;rotate_left
 ·cases h
 rename_i fn hf;split at h;rotate_left
 ·cases h
 rename_i hb0;obtain ⟨hb,hx⟩:=hb0;have hx:Extern.findNext fn=none:=by simpa using hx
 have one : ∀ {x:V} {l:List Value},cH w I β [x] l → ∃y,l=[y]∧aJ w I β x y:=by
  rintro x l ⟨hl,hx⟩;match l,hl with
  | [y],_=>exact ⟨y,rfl,hx 0 _ _ rfl rfl⟩
 have two : ∀ {x x':V} {l:List Value},cH w I β [x,x'] l → ∃y y',l=[y,y']∧aJ w I β x y∧aJ w I β x' y':=by
  rintro x x' l ⟨hl,hx⟩;match l,hl with
  | [y,y'],_=>exact ⟨y,y',rfl,hx 0 _ _ rfl rfl,hx 1 _ _ rfl rfl⟩
 have go : ∀ {n:String} {e:Array Value→Sem Value} {u:Value},fn.name=n→(n == "runtime.NumGoroutine")=false→Extern.allGenericRows.lookup n=none→Extern.allTypedRows.lookup n=none→Extern.allRows.lookup n=some e →
  (e vals.toArray).run P w = .ok u w→(callFunc f vals.toArray).run P w = .ok (.value u) w:=by
  intro n e u hn hne h1 h2 h3 he;rw [run_callFunc_extern hf (by rw [hn];exact hne) hb hx (IM hn h1 h2 h3),he];rfl
 unfold Rm at h;split at h
 ·rename_i hn;split at h
  ·rename_i x;injection h with h;subst h;obtain ⟨y,rfl,hy⟩:=one hd;exact ⟨y,go hn (by kernel_rfl) (by kernel_rfl) (by kernel_rfl) (e:=Extern.AbiNoEscape.same) (by kernel_rfl) rfl,hy⟩
  ·cases h
 ·split at h
  ·rename_i hn;split at h
   ·rename_i s c;injection h with h;subst h;obtain ⟨y,y',rfl,hy,hy'⟩:=two hd;have:=aA hy;subst this;have:=aA hy';subst this;exact ⟨_,go hn (by kernel_rfl) (by kernel_rfl) (by kernel_rfl) (e:=Extern.BytealgIndexByte.indexByte) (by kernel_rfl) (run_indexByte_string s c w),aq.lit _⟩
   ·cases h
  ·split at h
   ·rename_i hn;split at h
    ·rename_i s c;injection h with h;subst h;obtain ⟨y,y',rfl,hy,hy'⟩:=two hd;have:=aA hy;subst this;have:=aA hy';subst this;exact ⟨_,go hn (by kernel_rfl) (by kernel_rfl) (by kernel_rfl) (e:=Extern.BytealgCount.count) (by kernel_rfl) (ob s c w),aq.lit _⟩
    ·cases h
   ·cases h
theorem eC {w:World} {I:Nat→Prop} {β:b7} {v:V} {x:Value} {K:Nat→List V→Prop} (h:bt v K) : ∃k caps,K k caps∧(aJ w I β v x → ∃cv:List Value,x = .func (.func k) #[] cv.toArray∧cH w I β caps cv):=by
 unfold bt at h;split at h
 ·rename_i k caps;refine ⟨k,_,h,fun hd =>?_⟩;obtain ⟨vs,rfl,hl,hds⟩:=mf hd;refine ⟨vs,rfl,by simpa using hl,fun i c y hc hy =>?_⟩;simp only [List.getElem?_map,Option.map_eq_some_iff] at hc;obtain ⟨z,hz,rfl⟩:=hc;exact hds i z y hz hy
 ·rename_i k caps;refine ⟨k,_,h,fun hd =>?_⟩;obtain ⟨vs,rfl,hl,hds⟩:=(show ∃vs:List Value,x = .func (.func k) #[] vs.toArray∧bR w I β caps vs from hd)
  refine ⟨vs,rfl,hl,fun i c y hc hy =>?_⟩;have:=hds i c y hc hy;cases c<;>first|exact this|exact this.elim
 ·exact h.elim
 ·exact h.elim
 ·exact h.elim
theorem uU {w:World} {I:Nat→Prop} {β:b7} {k:Nat} {fs:List D} {x:Value} (h:aJ w I β (.d (.bf k fs)) x) : ∃pv cv:List Value,x = .func (.func k) pv.toArray cv.toArray∧cH w I β (fs.map .d) pv∧cH w I β [] cv:=by
 obtain ⟨vs,rfl,hl,hds⟩:=B7 h;refine ⟨vs,[],rfl,⟨by simpa using hl,fun i c y hc hy =>?_⟩,rfl,fun i c y hc hy=>by simp at hc⟩;simp only [List.getElem?_map,Option.map_eq_some_iff] at hc;obtain ⟨z,hz,rfl⟩:=hc;exact hds i z y hz hy
theorem cH.append {w:World} {I:Nat→Prop} {β:b7} {a b:List V} {x y:List Value} (h:cH w I β a x) (k:cH w I β b y):cH w I β (a++b) (x++y):=by
 refine ⟨by simp [h.1,k.1],fun i c v hc hv =>?_⟩;rw [List.getElem?_append] at hc hv;rw [←h.1] at hv;split at hc
 ·rename_i hlt;rw [if_pos hlt] at hv;exact h.2 i c v hc hv
 ·rename_i hlt;rw [if_neg hlt] at hv;exact k.2 _ c v hc hv
theorem nB {w:World} {I:Nat→Prop} {β:b7} {a:Act} {l:List Operand} (h : ∀x∈l,aJ w I β (g x) (a.eval x)):cH w I β (l.map g) (l.map a.eval):=by
 refine ⟨by simp,fun i c v hc hv =>?_⟩;simp only [List.getElem?_map,Option.map_eq_some_iff] at hc hv;obtain ⟨x,hx,rfl⟩:=hc;obtain ⟨y,hy,rfl⟩:=hv;rw [hx] at hy;injection hy with hy;subst hy;exact h x (List.mem_of_getElem? hx)
theorem nA {c:Call} {f:Operand} {k:Nat} {pre caps:List V} {v:V} {σ':ak} (ho:o.op = .call c) (hc:c.callee = .value f) (he:cx P k=true) (hd:tO P G k (pre++(c.args.toList.map g++caps)) σ id v σ')
 (hcal : ∀w I β x,aJ w I β (g f) x → ∃pv cv:List Value,x = .func (.func k) pv.toArray cv.toArray∧cH w I β pre pv∧cH w I β caps cv):bq P G o g σ id v σ':=by
 intro w I β nx a hm hG hf hnx hg;have hops : ∀x,x=f∨x∈c.args.toList→x∈o.op.operands.toList:=by
  intro x hx;simp [ho,Op.operands,Call.operands,hc];rcases hx with h|h
  ·exact .inl h
  ·exact .inr (by simpa using h)
 obtain ⟨pv,cv,e1,e0,e2⟩:=hcal w I β (a.eval f) (hg f (hops f (.inl rfl)));have hargs:=e0.append<|(nB (g:=g) (a:=a) (l:=c.args.toList) (fun x hx=>hg x (hops x (.inr hx)))).append e2
 have hcall:=hd w I β nx _ hm hG hf hnx hargs;have hrun:(execOp a.eval o).run P w = .ok (.enter k (pv++(c.args.toList.map a.eval++cv)).toArray) w:=by
  simp only [execOp,ho,resolve,hc,e1,Deferred.ofValue,Sem.run_bind,Sem.run_pure,Result.andThen_ok,invoke];rw [show (pv.toArray++Array.map a.eval c.args++cv.toArray)=(pv++(c.args.toList.map a.eval++cv)).toArray from by apply Array.toList_inj.1;simp];exact mS he _ w
 unfold cj;rw [hrun];exact hcall.mono fun e w' ⟨u,I',β',h1,h2,h3,h4⟩=>⟨u,h1,I',β',h2,h3,h4⟩
theorem l9 {c:Call} {f:Operand} {k:Nat} {caps:List V} {v:V} {σ':ak} (ho:o.op = .call c) (hc:c.callee = .value f) (he:cx P k=true) (hd:tO P G k (c.args.toList.map g++caps) σ id v σ')
 (hcal : ∀w I β x,aJ w I β (g f) x → ∃cv:List Value,x = .func (.func k) #[] cv.toArray∧cH w I β caps cv):bq P G o g σ id v σ':=
 nA (pre:=[]) ho hc he hd fun w I β x h=>match hcal w I β x h with|⟨cv,e,d⟩=>⟨[],cv,e,⟨rfl,fun i c y hc hy=>by simp at hc⟩,d⟩
theorem HA {c:Call} {f:Operand} {i:Nat} {v:V} {σ':ak} (ho:o.op = .call c) (hc:c.callee = .value f) (hf:g f = .yl i) (hd:oJ P G i (c.args.toList.map g) σ id v σ'):bq P G o g σ id v σ':=by
 intro w I β nx a hm hG hfr hnx hg;have hops : ∀x,x=f∨x∈c.args.toList→x∈o.op.operands.toList:=by
  intro x hx;simp [ho,Op.operands,Call.operands,hc];rcases hx with h|h
  ·exact .inl h
  ·exact .inr (by simpa using h)
 have h0:=hg f (hops f (.inl rfl));rw [hf] at h0;obtain ⟨b,cap,hb,e1⟩:=h0;have hargs:=nB (g:=g) (a:=a) (l:=c.args.toList) (fun x hx=>hg x (hops x (.inr hx)));obtain ⟨r,hr,hl,hround⟩:=hd w I β nx _ b cap hm hG hfr hnx hargs hb;have hrun:(execOp a.eval o).run P w = .ok (.round b r.fn ((r.params.zip (c.args.toList.map a.eval).toArray).foldl (fun tmps (t,a)=>tmps.setIfInBounds t a) r.tmps) r.assign r.body) w:=by
  simp only [execOp,ho,resolve,hc,e1,Deferred.ofValue,Sem.run_bind,Sem.run_pure,Result.andThen_ok,invoke];have e3:(#[]++Array.map a.eval c.args)=(c.args.toList.map a.eval).toArray:=by
   apply Array.toList_inj.1;simp
  rw [e3];exact run_yield hr (by simpa using hl)
 unfold cj;rw [hrun];exact hround.mono fun e w' ⟨u,I',β',h1,h2,h3,h4⟩=>⟨u,h1,I',β',h2,h3,h4⟩
theorem re {c:Call} {f:Operand} {k:Nat} {pre caps:List V} {v:V} (ho:o.op = .call c) (hc:c.callee = .value f) (he:rd P k (pre++(c.args.toList.map g++caps))=some v)
 (hcal : ∀w I β x,aJ w I β (g f) x → ∃pv cv:List Value,x = .func (.func k) pv.toArray cv.toArray∧cH w I β pre pv∧cH w I β caps cv) (σ:ak) (id:Nat):bq P G o g σ id v σ:=by
 intro w I β nx a hm hG hf hnx hg;have hops : ∀x,x=f∨x∈c.args.toList→x∈o.op.operands.toList:=by
  intro x hx;simp [ho,Op.operands,Call.operands,hc];rcases hx with h|h
  ·exact .inl h
  ·exact .inr (by simpa using h)
 obtain ⟨pv,cv,e1,e0,e2⟩:=hcal w I β (a.eval f) (hg f (hops f (.inl rfl)));have hargs:=e0.append<|(nB (g:=g) (a:=a) (l:=c.args.toList) (fun x hx=>hg x (hops x (.inr hx)))).append e2
 obtain ⟨u,hu,hd⟩:=MZ (w:=w) (I:=I) (β:=β) he hargs;refine cj.of_value (u:=u) (w':=w) ?_ ⟨I,β,hd,ar.refl hm,fun _ _=>rfl⟩;simp only [execOp,ho,resolve,hc,e1,Deferred.ofValue,Sem.run_bind,Sem.run_pure,Result.andThen_ok,invoke];rw [show (pv.toArray++Array.map a.eval c.args++cv.toArray)=(pv++(c.args.toList.map a.eval++cv)).toArray from by apply Array.toList_inj.1;simp];exact hu
theorem pY {c:Call} {f:Operand} {k:Nat} {caps:List V} {v:V} (ho:o.op = .call c) (hc:c.callee = .value f) (he:rd P k (c.args.toList.map g++caps)=some v)
 (hcal : ∀w I β x,aJ w I β (g f) x → ∃cv:List Value,x = .func (.func k) #[] cv.toArray∧cH w I β caps cv) (σ:ak) (id:Nat):bq P G o g σ id v σ:=
 re (pre:=[]) ho hc he (fun w I β x h=>match hcal w I β x h with|⟨cv,e,d⟩=>⟨[],cv,e,⟨rfl,fun i c y hc hy=>by simp at hc⟩,d⟩) σ id
theorem M4 {g:Operand→V} {σ:ak} {t n:Nat} {parts:Array (Nat × Operand)} (ho:o.op = .buildSlice t n parts) {p:Prop} {v:V} {s:ak} (h:Uj P t n id (parts.toList.map fun p=>(p.1,g p.2)) σ=some (p,v,s)) (hp:p):bq P G o g σ id v s:=by
 unfold Uj at h;split at h
 ·rename_i k b es h1 h2;split at h
  ·rename_i hc;injection h with h;injection h with e1 h;injection h with e2 e3;subst e1 e2 e3;have hr:aR P o.op g σ id=some (iz k es,.so id k 0 n,[(id,.row k es)]):=by
    rw [ho];simp only [aR,h1,h2];rw [if_pos hc]
   exact nq hr hp σ (fun _ _ h=>h)
  ·cases h
 ·cases h
theorem xR {F:List (Nat × V)→ak→jt} {parts:List (Nat × Operand)} (hF : ∀(g:Operand→V) (σ:ak) (v:V) (s:ak) (p:Prop),F (parts.map fun p=>(p.1,g p.2)) σ=some (p,v,s)→p→bq P G o g σ id v s)
 {g:Operand→V} {σ:ak} {p:Prop} {v:V} {s:ak} (h:QO F (parts.map fun p=>(p.1,g p.2)) σ=some (p,v,s)) (hp:p):bq P G o g σ id v s:=by
 unfold QO at h;split at h
 ·rename_i i hi;split at h
  ·rename_i blk hb;rw [zt] at h;have hs:=hF (fun x=>(g x).frz i blk) (σ.frz i blk) v s p h hp;intro w I β nx a hm hG hf hnx hg;obtain ⟨st,hset⟩:=zu hm hb;refine (hs w _ β nx a st.mem (fun g x hx=>(hG g x hx).keep (fun _ _=>rfl) (fun b hb=> .inl hb)) hf hnx (fun x hx=>hset.den (hg x hx))).mono ?_;rintro u w' ⟨I2,β2,e1,e2,e3⟩;exact ⟨I2,β2,e1,st.trans e2,e3⟩
  ·cases h
 ·exact hF g σ v s p h hp
theorem dY (h:aQ P G o.op g σ id K) : ∃v σ',K v σ'∧bq P G o g σ id v σ':=by
 unfold aQ at h;split at h;case h_1 c x y ho=>
  obtain ⟨v,h1,h2⟩:=rZ ho h;exact ⟨v,σ,h1,h2 σ id⟩
 case h_2 t x ho=>
  obtain ⟨v,h1,h2⟩:=zX (G:=G) ho h id;exact ⟨v,σ,h1,by simpa using h2 σ (fun _ _ h=>h)⟩
 case h_3 x isStr ho=>
  split at h
  ·rename_i hs;subst hs;exact JJ ho h id
  ·exact h.elim
 case h_4 c ho=>
  split at h
  ·rename_i f hc;unfold bt at h;split at h
   ·rename_i k caps hk;obtain ⟨v,σ',h1,h2⟩:=h;have hcal : ∀w I β x,aJ w I β (g f) x → ∃cv:List Value,x = .func (.func k) #[] cv.toArray∧cH w I β (caps.map .d) cv:=fun w I β x hd=>by
     rw [hk] at hd;obtain ⟨k',caps',e1,e2⟩:=eC (w:=w) (I:=I) (β:=β) (x:=x) (v:= .d (.fn k caps)) (K:=fun a b=>a=k∧b=caps.map .d) ⟨rfl,rfl⟩;obtain ⟨rfl,rfl⟩:=e1;exact e2 hd
    rcases h2 with ⟨h2,h3⟩|⟨h2,rfl⟩
    ·exact ⟨v,σ',h1,l9 ho hc h2 h3 hcal⟩
    ·exact ⟨v,_,h1,pY ho hc h2 hcal _ _⟩
   ·rename_i k caps hk;obtain ⟨v,σ',h1,h2⟩:=h;have hcal : ∀w I β x,aJ w I β (g f) x → ∃cv:List Value,x = .func (.func k) #[] cv.toArray∧cH w I β caps cv:=fun w I β x hd=>by
     rw [hk] at hd;obtain ⟨k',caps',e1,e2⟩:=eC (w:=w) (I:=I) (β:=β) (x:=x) (v:= .fn k caps) (K:=fun a b=>a=k∧b=caps) ⟨rfl,rfl⟩;obtain ⟨rfl,rfl⟩:=e1;exact e2 hd
    rcases h2 with ⟨h2,h3⟩|⟨h2,rfl⟩
    ·exact ⟨v,σ',h1,l9 ho hc h2 h3 hcal⟩
    ·exact ⟨v,_,h1,pY ho hc h2 hcal _ _⟩
   ·rename_i i hi;obtain ⟨v,σ',h1,h2⟩:=h;exact ⟨v,σ',h1,HA ho hc hi h2⟩
   ·rename_i k fs hk;obtain ⟨v,σ',h1,h2⟩:=h;have hcal : ∀w I β x,aJ w I β (g f) x → ∃pv cv:List Value,x = .func (.func k) pv.toArray cv.toArray∧cH w I β (fs.map .d) pv∧cH w I β [] cv:=fun w I β x hd=>uU (hk▸hd)
    rcases h2 with ⟨h2,h3⟩|⟨h2,rfl⟩
    ·exact ⟨v,σ',h1,nA ho hc h2 h3 hcal⟩
    ·exact ⟨v,_,h1,re ho hc h2 hcal _ _⟩
   ·exact h.elim
  ·obtain ⟨p,v,s,h1,h2,h3⟩:=gc h;exact ⟨v,s,h3,wu h1 h2⟩
  ·exact h.elim
 case h_5 t n parts ho=>
  unfold Ib at h;split at h
  ·rename_i p v new hr;rw [←ho] at hr;exact ⟨v,_,h.2,nq hr h.1 σ (fun _ _ h=>h)⟩
  ·split at h
   ·rename_i p v s hr;exact ⟨v,s,h.2,xR (fun g' σ' v' s' p' hp'=>xR (fun g' σ' v' s' p' hp'=>xR (fun g' σ' v' s' p' hp'=>M4 ho hp') hp') hp') hr h.1⟩
   ·exact h.elim
 case h_6 _ _ _ _ _=>
  obtain ⟨p,v,s,h1,h2,h3⟩:=gc h;exact ⟨v,s,h3,wu h1 h2⟩
theorem dl (id:Nat):oH id []:=fun _ _ h=>by simp [ak.get] at h
theorem mM {op:Op} {p:Prop} {v:V} {new:ak} (h:a8 P op g σ id=some (p,v,new)):oH id new:=by
 unfold a8 at h;split at h
 ·injection h with h;injection h with _ h;injection h with _ h;subst h;exact dl id
 ·obtain ⟨blk,rfl⟩:=HW h;intro j b hj;simp only [ak.get] at hj;split at hj
  ·omega
  ·cases hj
theorem eg (h:aV P G o.op g σ id K) : ∃v new,K v new∧oH id new∧fJ P G o g σ id v new:=by
 unfold aV at h;split at h;case h_1 c x y ho=>
  obtain ⟨v,h1,h2⟩:=rZ (G:=G) ho h;exact ⟨v,[],h1,dl id,fun s _=>by simpa using h2 s id⟩
 case h_2 t x ho=>
  obtain ⟨v,h1,h2⟩:=zX (G:=G) ho h id;exact ⟨v,[],h1,dl id,h2⟩
 case h_3 c ho=>
  split at h
  ·rename_i f hc;unfold bt at h;split at h
   ·rename_i k caps hk;obtain ⟨v,new,h1,h2⟩:=h;have hcal : ∀w I β x,aJ w I β (g f) x → ∃cv:List Value,x = .func (.func k) #[] cv.toArray∧cH w I β (caps.map .d) cv:=fun w I β x hd=>by
     rw [hk] at hd;obtain ⟨k',caps',e1,e2⟩:=eC (w:=w) (I:=I) (β:=β) (x:=x) (v:= .d (.fn k caps)) (K:=fun a b=>a=k∧b=caps.map .d) ⟨rfl,rfl⟩;obtain ⟨rfl,rfl⟩:=e1;exact e2 hd
    rcases h2 with ⟨h2,hn,h3⟩|⟨h2,rfl⟩
    ·exact ⟨v,new,h1,hn,fun s hs=>l9 ho hc h2 (h3 s hs) hcal⟩
    ·exact ⟨v,[],h1,dl id,fun s hs=>by simpa using pY ho hc h2 hcal s id⟩
   ·rename_i k caps hk;obtain ⟨v,new,h1,h2⟩:=h;have hcal : ∀w I β x,aJ w I β (g f) x → ∃cv:List Value,x = .func (.func k) #[] cv.toArray∧cH w I β caps cv:=fun w I β x hd=>by
     rw [hk] at hd;obtain ⟨k',caps',e1,e2⟩:=eC (w:=w) (I:=I) (β:=β) (x:=x) (v:= .fn k caps) (K:=fun a b=>a=k∧b=caps) ⟨rfl,rfl⟩;obtain ⟨rfl,rfl⟩:=e1;exact e2 hd
    rcases h2 with ⟨h2,hn,h3⟩|⟨h2,rfl⟩
    ·exact ⟨v,new,h1,hn,fun s hs=>l9 ho hc h2 (h3 s hs) hcal⟩
    ·exact ⟨v,[],h1,dl id,fun s hs=>by simpa using pY ho hc h2 hcal s id⟩
   ·exact h.elim
   ·rename_i k fs hk;obtain ⟨v,new,h1,h2⟩:=h;have hcal : ∀w I β x,aJ w I β (g f) x → ∃pv cv:List Value,x = .func (.func k) pv.toArray cv.toArray∧cH w I β (fs.map .d) pv∧cH w I β [] cv:=fun w I β x hd=>uU (hk▸hd)
    rcases h2 with ⟨h2,hn,h3⟩|⟨h2,rfl⟩
    ·exact ⟨v,new,h1,hn,fun s hs=>nA ho hc h2 (h3 s hs) hcal⟩
    ·exact ⟨v,[],h1,dl id,fun s hs=>by simpa using re ho hc h2 hcal s id⟩
   ·exact h.elim
  ·obtain ⟨p,v,s,h1,h2,h3⟩:=gc h;exact ⟨v,s,h3,mM h1,lH h1 h2⟩
  ·exact h.elim
 case h_4 _ _ _=>
  obtain ⟨p,v,s,h1,h2,h3⟩:=gc h;exact ⟨v,s,h3,mM h1,lH h1 h2⟩
end
def aN.put (e:aN) (t:Nat) (v:V):aN:=(t,v)::e
def aN.putO (e:aN) (t:Option Nat) (v:V):aN:=match t with
 | some d=>e.put d v
 | none=>e
def Lh (k:Nat):List Nat→Option (List Nat)
 | []=>none
 | x::r=>if x=k then some r else (Lh k r).map (x :: ·)
def aN.keep:List Nat→aN→aN
 | _,[]=>[]
 | lv,(k,v)::r=>match Lh k lv with
  | some lv'=>(k,v)::aN.keep lv' r
  | none=>aN.keep lv r
theorem aN.get_put (e:aN) (t:Nat) (v:V) (j:Nat):(e.put t v).get j=if t=j then v else e.get j:=rfl
theorem AP : ∀ {k:Nat} {lv:List Nat},Lh k lv=none→k∉lv
 | k,[],_=>by simp
 | k,x::r,h=>by
  unfold Lh at h;split at h
  ·cases h
  ·rename_i hx;have:Lh k r=none:=by simpa using h
   simp only [List.mem_cons,not_or];exact ⟨fun e=>hx e.symm,AP this⟩
theorem AQ : ∀ {k:Nat} {lv lv':List Nat},Lh k lv=some lv' → ∀x,x∈lv'→x∈lv
 | k,[],_,h=>by cases h
 | k,y::r,lv',h=>by
  unfold Lh at h;split at h
  ·injection h with h;subst h;intro x hx;exact List.mem_cons_of_mem _ hx
  ·simp only [Option.map_eq_some_iff] at h;obtain ⟨l,hl,rfl⟩:=h;intro x hx;rcases List.mem_cons.1 hx with rfl|hx
   ·exact List.mem_cons_self
   ·exact List.mem_cons_of_mem _ (AQ hl x hx)
theorem aN.keep_out : ∀(e:aN) (lv:List Nat) (k:Nat),k∉lv→(aN.keep lv e).get k = .unk
 | [],lv,k,_=>by cases lv<;>rfl
 | (k',v)::r,lv,k,h=>by
  unfold aN.keep;split
  ·rename_i lv' h';have hk:k'≠k:=by
    rintro rfl;apply h;have : ∀ {l l':List Nat},Lh k' l=some l'→k'∈l:=by
     intro l;induction l with
     | nil=>intro l' h;cases h
     | cons y r ih=>
      intro l' h;unfold Lh at h;split at h
      ·rename_i e;subst e;exact List.mem_cons_self
      ·simp only [Option.map_eq_some_iff] at h;obtain ⟨q,hq,_⟩:=h;exact List.mem_cons_of_mem _ (ih hq)
    exact this h'
   show (if k'=k then v else (aN.keep lv' r).get k) = .unk;rw [if_neg hk];exact aN.keep_out r lv' k (fun hm=>h (AQ h' k hm))
  ·exact aN.keep_out r lv k h
theorem aN.get_keep : ∀(lv:List Nat) (e:aN) (j:Nat),(aN.keep lv e).get j=e.get j∨(aN.keep lv e).get j = .unk
 | lv,[],j=>by cases lv<;>exact .inl rfl
 | lv,(k,v)::r,j=>by
  unfold aN.keep;split
  ·rename_i lv' h';show (if k=j then v else (aN.keep lv' r).get j)=(if k=j then v else aN.get r j)∨(if k=j then v else (aN.keep lv' r).get j) = .unk;split
   ·exact .inl rfl
   ·exact aN.get_keep lv' r j
  ·rename_i h';by_cases hk:k=j
   ·subst hk;exact .inr (aN.keep_out r lv k (AP h'))
   ·show (aN.keep lv r).get j=(if k=j then v else aN.get r j)∨_;rw [if_neg hk];exact aN.get_keep lv r j
structure St where
 env:aN
 sg:ak
 nx:Nat
structure tK where
 w:World
 I:Nat→Prop
 β:b7
 σ:ak
 nx:Nat
 n:Nat
 free : ∀id,nx≤id→β id=none
 hd:List (Nat × Obj)
def js (n:Nat) (hd:List (Nat × Obj)) (w:World) (I:Nat→Prop) (β:b7) (σ:ak) (ds:List Deferred):Prop:=
 (∃Ds:List Nat,ds=Ds.map (fun D =>{ target:= .collected D,args :=#[] })∧Ds.Nodup ∧ ∀D∈Ds,n≤D∧w.heap[D]? = some (.deferred (some [])) ∧ ¬I D ∧ ¬bD σ β D) ∧
 ∀p∈hd,w.heap[p.1]? = some p.2 ∧ ¬I p.1 ∧ ¬bD σ β p.1
section
variable {n:Nat} {hd:List (Nat × Obj)} {w w':World} {I I':Nat→Prop} {β β':b7} {σ σ':ak} {nx nx':Nat} {ds:List Deferred}
theorem js.nil:js n [] w I β σ []:=⟨⟨[],rfl,List.nodup_nil,fun D h=>by cases h⟩,fun p h=>by cases h⟩
theorem js.sub (h:js n hd w I β σ ds) (ho : ∀b,bD σ' β' b→bD σ β b) (hi : ∀b,I' b→I b∨bD σ β b):js n hd w I' β' σ' ds:=by
 obtain ⟨⟨Ds,h1,h2,h3⟩,h4⟩:=h;have key : ∀D,¬I D → ¬bD σ β D → ¬I' D ∧ ¬bD σ' β' D:=fun D q3 q4=>⟨fun h=>by rcases hi D h with h|h;exact q3 h;exact q4 h,fun h=>q4 (ho D h)⟩
 refine ⟨⟨Ds,h1,h2,fun D hD =>?_⟩,fun p hp =>?_⟩
 ·obtain ⟨q1,q2,q3,q4⟩:=h3 D hD;exact ⟨q1,q2,key D q3 q4⟩
 ·obtain ⟨q1,q2,q3⟩:=h4 p hp;exact ⟨q1,key _ q2 q3⟩
theorem js.congr (h:js n hd w I β σ ds) (hs : ∀k,σ'.get k=σ.get k):js n hd w I β σ' ds:=
 h.sub (fun b ⟨id,blk,c,g1,g2⟩=>⟨id,blk,c,by rw [←hs];exact g1,g2⟩) (fun b h=> .inl h)
theorem iR {b:Nat} {o:Obj} (h:w.heap[b]? = some o):b<w.heap.size:=by
 rcases Nat.lt_or_ge b w.heap.size with g|g
 ·exact g
 ·rw [Array.getElem?_eq_none g] at h;cases h
theorem ar.hid (hs:ar w I β σ nx w' I' β' σ' nx') {b:Nat} {o:Obj} (h:w.heap[b]? = some o) (hI : ¬I b) (ho : ¬bD σ β b):w'.heap[b]? = some o ∧ ¬I' b ∧ ¬bD σ' β' b:=by
 have hlt:=iR h;refine ⟨(hs.block b hlt ho).trans h,fun h =>?_,fun h =>?_⟩
 ·rcases hs.immn b h with h|h|h
  ·exact hI h
  ·exact ho h
  ·omega
 ·rcases hs.own' b h with h|h
  ·exact ho h
  ·omega
theorem js.step (h:js n hd w I β σ ds) (hs:ar w I β σ nx w' I' β' σ' nx'):js n hd w' I' β' σ' ds:=by
 obtain ⟨⟨Ds,h1,h2,h3⟩,h4⟩:=h;refine ⟨⟨Ds,h1,h2,fun D hD =>?_⟩,fun p hp =>?_⟩
 ·obtain ⟨q1,q2,q3,q4⟩:=h3 D hD;exact ⟨q1,hs.hid q2 q3 q4⟩
 ·obtain ⟨q1,q2,q3⟩:=h4 p hp;exact hs.hid q1 q2 q3
end
def eM (C:tK) (G:Gl) (e:aN) (σ:ak) (nx lim:Nat) (a:Act) (w:World):Prop:=
 ∃I β,ar C.w C.I C.β C.σ C.nx w I β σ nx∧(∀j,lim≤j→β j=none)∧(∀t,aJ w I β (e.get t) (a.tmps.getD t undef))∧a.tmps.size=C.n∧js C.w.heap.size C.hd w I β σ a.defers∧E1 G w I
def pS (C:tK) (G:Gl) (st:St) (a:Act) (w:World):Prop:=eM C G st.env st.sg st.nx st.nx a w
def qB (v:V) (K:Bool→Prop):Prop:=match v with
 | .d (.lit (.bool b))=>K b
 | _=>lX v
def pD (v:V) (K:Bool→Prop) (no:Prop):Prop:=match v with
 | .d (.lit (.bool b))=>K b
 | .tup []=>no
 | _=>lX v
def cy (ops:Array Oper) (o:Oper) (e:aN) (yes no:aN→Prop):Prop:=match o.guard with
 | none=>yes e
 | some (j,want)=>cp ((ops[j]?).bind (·.dst)) fun d=>pD (e.get d) (fun b=>
  jj b (if want=true then yes (e.put d (.d (.lit (.bool true)))) else no (e.put d (.d (.lit (.bool true))))) (if want=true then no (e.put d (.d (.lit (.bool false)))) else yes (e.put d (.d (.lit (.bool false)))))) (no e)
def mK (P:Program) (G:Gl) (ops:Array Oper) (base:Nat):Nat→List Oper→aN→ak→(aN→ak→Prop)→Prop
 | _,[],e,σ,K=>K e σ
 | i,o::r,e,σ,K=>cy ops o e
  (fun e=>aQ P G o.op (ep G e.get) σ (base+4*i) fun v σ'=>mK P G ops base (i+1) r (e.putO o.dst v) σ' K)
  (fun e=>mK P G ops base (i+1) r (e.putO o.dst (.tup [])) σ K)
section
variable {P:Program} {G:Gl} {C:tK} {ops:Array Oper} {Q:Exit→Act→World→Prop} {fr:Option Nat}
theorem pX {w:World} {I:Nat→Prop} {β:b7} {e:aN} {a:Act} (he : ∀t,aJ w I β (e.get t) (a.tmps.getD t undef)) (hG:E1 G w I) (x:Operand):aJ w I β (ep G e.get x) (a.eval x):=by
 cases x with
 | tmp t=>exact he t
 | const v=>exact aq.lit v
 | global g=>
  show aJ w I β (match G g with|some x=> .d x|none=> .unk) _;cases h:G g with
  | none=>trivial
  | some x=>exact hG g x h
 | func f=>exact aq.fn f [] [] rfl (by simp)
theorem zx {a:Act} {d t:Nat} {v:Value} (h:d<a.tmps.size):(a.put (some d) v).tmps.getD t undef=if d=t then v else a.tmps.getD t undef:=by
 simp only [Act.put,Array.getD_eq_getD_getElem?,Array.getElem?_setIfInBounds];by_cases e:d=t
 ·subst e;simp [h]
 ·simp [e]
theorem xa {w:World} {I:Nat→Prop} {β:b7} {e:aN} {a:Act} (he : ∀t,aJ w I β (e.get t) (a.tmps.getD t undef)) {d:Option Nat} (hd : ∀x,d=some x→x<a.tmps.size) {v:V} {u:Value} (hv:aJ w I β v u) :
 ∀t,aJ w I β ((e.putO d v).get t) ((a.put d u).tmps.getD t undef):=by
 intro t;cases d with
 | none=>exact he t
 | some d=>
  rw [zx (hd d rfl)];simp only [aN.putO,aN.get_put];split
  ·exact hv
  ·exact he t
theorem ic {a:Act} {d:Option Nat} {v:Value} : (a.put d v).tmps.size=a.tmps.size:=by cases d<;>simp [Act.put]
theorem eK {a:Act} {d:Option Nat} {v:Value} : (a.put d v).defers=a.defers:=by cases d<;>rfl
theorem E1.step {w w':World} {I I':Nat→Prop} {β β':b7} {σ σ':ak} {nx nx':Nat} (h:E1 G w I) (hm:cQ w I β σ nx) (hs:ar w I β σ nx w' I' β' σ' nx'):E1 G w' I':=fun g x hg=>hs.denD hm (h g x hg)
theorem cQ.bump {w:World} {I:Nat→Prop} {β:b7} {σ:ak} {nx nx':Nat} (h:cQ w I β σ nx) (hn:nx≤nx'):cQ w I β σ nx':=⟨h.own,h.inj,fun id hid=>h.free id (by omega),h.lt⟩
theorem ar.bump {w w':World} {I I':Nat→Prop} {β β':b7} {σ σ':ak} {nx nx' nx'':Nat} (h:ar w I β σ nx w' I' β' σ' nx') (hn:nx'≤nx''):ar w I β σ nx w' I' β' σ' nx'' :={ h with mem:=h.mem.bump hn,nx:=by have:=h.nx;omega }
theorem nz {b:Bool} {p q r:Prop} (h:jj b p q) (h1:b=true→p→r) (h2:b=false→q→r):r:=by
 cases b with
 | true=>exact h1 rfl (h.1 rfl)
 | false=>exact h2 rfl (h.2 rfl)
theorem DC {a:Act} {w:World} {I:Nat→Prop} {β:b7} {e:aN} (he : ∀t,aJ w I β (e.get t) (a.tmps.getD t undef)) {j d:Nat} {b:Bool} (hd:(ops[j]?).bind (·.dst)=some d) (hb:e.get d = .d (.lit (.bool b))):yielded ops a.tmps j=some b:=by
 have h1:=he d;rw [hb] at h1;have h2:=aA h1;have h3:a.tmps[d]? = some (.bool b):=by
  cases h:a.tmps[d]? with
  | none=>simp [Array.getD_eq_getD_getElem?,h,undef] at h2
  | some x=>simp [Array.getD_eq_getD_getElem?,h] at h2;rw [h2]
 unfold yielded;rw [hd];show (match (a.tmps[d]? : Option Value) with|some (.bool b)=>some b|_=>none)=some b;rw [h3]
theorem y8 {w:World} {I:Nat→Prop} {β:b7} {e:aN} {a:Act} (he : ∀t,aJ w I β (e.get t) (a.tmps.getD t undef)) {d:Nat} {b c:Bool} (hb:e.get d = .d (.lit (.bool b))) (hbc:b=c) : ∀t,aJ w I β ((e.put d (.d (.lit (.bool c)))).get t) (a.tmps.getD t undef):=by
 intro t;rw [aN.get_put];split
 ·rename_i h;subst h;subst hbc;rw [←hb];exact he d
 ·exact he t
theorem y9 {w:World} {I:Nat→Prop} {β:b7} {x:Value} (h:aJ w I β (.tup []) x):x=undef:=by
 obtain ⟨vs,rfl,hl,_⟩:=h;have:vs=[]:=List.eq_nil_of_length_eq_zero (by simpa using hl.symm);subst this;rfl
theorem A4 {w:World} {I:Nat→Prop} {β:b7} : aJ w I β (.tup []) undef:=⟨[],rfl,rfl,by simp⟩
theorem kV {tmps:Array Value} {j d:Nat} (hd:(ops[j]?).bind (·.dst)=some d) (h:tmps.getD d undef=undef):yielded ops tmps j=none:=by
 unfold yielded;rw [hd];show (match (tmps[d]? : Option Value) with|some (.bool b)=>some b|_=>none)=none;cases hx:tmps[d]? with
 | none=>rfl
 | some x=>
  simp [Array.getD_eq_getD_getElem?,hx] at h;subst h;rfl
theorem xp {o:Oper} {e:aN} {yes no:aN→Prop} (h:cy ops o e yes no) : ∃e' b,(∀w I β (a:Act),(∀t,aJ w I β (e.get t) (a.tmps.getD t undef))→(∀t,aJ w I β (e'.get t) (a.tmps.getD t undef))∧Region.wanted o (yielded ops a.tmps)=b)∧(b=true→yes e')∧(b=false→no e'):=by
 unfold cy at h;split at h
 ·rename_i hg;exact ⟨e,true,fun w I β a he=>⟨he,by simp [Region.wanted,hg]⟩,fun _=>h,fun h=>by cases h⟩
 ·rename_i j want hg;obtain ⟨d,hd,h⟩:=dc h;unfold pD at h;split at h
  ·rename_i b hb;have hw : ∀w I β (a:Act),(∀t,aJ w I β (e.get t) (a.tmps.getD t undef))→Region.wanted o (yielded ops a.tmps)=(b==want):=fun w I β a he=>by
    have:=DC (ops:=ops) he hd hb;simp [Region.wanted,hg,this]
   refine nz h (fun e1 h9 =>?_) (fun e1 h9 =>?_)
   ·subst e1;refine ⟨_,want,fun w I β a he=>⟨y8 he hb rfl,by rw [hw w I β a he];cases want<;>rfl⟩,fun hh =>?_,fun hh =>?_⟩
    ·subst hh;simpa using h9
    ·subst hh;simpa using h9
   ·subst e1;refine ⟨_,!want,fun w I β a he=>⟨y8 he hb rfl,by rw [hw w I β a he];cases want<;>rfl⟩,fun hh =>?_,fun hh =>?_⟩
    ·have:want=false:=by simpa using hh
     subst this;simpa using h9
    ·have:want=true:=by simpa using hh
     subst this;simpa using h9
  ·rename_i hb;refine ⟨e,false,fun w I β a he=>⟨he,?_⟩,fun hh=>(by cases hh),fun _=>h⟩;have h1:=he d;rw [hb] at h1;simp [Region.wanted,hg,kV hd (y9 h1)]
  ·exact h.elim
theorem iW {base nx:Nat} (hn:base+4*ops.size≤nx) (hdst : ∀(i:Nat) o x,ops[i]? = some o→o.dst=some x→x<C.n) {K:aN→ak→Prop} (hQ : ∀e σ a w,K e σ→eM C G e σ nx (base+4*ops.size) a w→Q .normal a w) :
 ∀(r:List Oper) (i:Nat) (e:aN) (σ:ak) (a:Act) (w:World),ops.toList.drop i=r→mK P G ops base i r e σ K→eM C G e σ nx (base+4*i) a w→i≤ops.size→wpOpsIn (Fr fr) 0 P ops Q (List.range' i (ops.size - i)) a w
 | [],i,e,σ,a,w,hr,h,hrel,hi=>by
  have hsz:ops.size≤i:=by
   have:=congrArg List.length hr;simp at this;omega
  have:i=ops.size:=by omega
  subst this;rw [Nat.sub_self];exact hQ e σ a w h hrel
 | o::r,i,e,σ,a,w,hr,h,hrel,hi=>by
  have hlt:i<ops.size:=by
   have:=congrArg List.length hr;simp at this;omega
  have ho:ops[i]? = some o:=by
   have:ops.toList[i]? = some o:=by
    have h1:(ops.toList.drop i)[0]? = some o:=by rw [hr];rfl
    rwa [List.getElem?_drop,Nat.add_zero] at h1
   simpa using this
  have hr':ops.toList.drop (i+1)=r:=by
   rw [←List.drop_drop,hr];rfl
  have hrange:List.range' i (ops.size - i)=i::List.range' (i+1) (ops.size - (i+1)):=by
   rw [show ops.size - i=(ops.size - (i+1))+1 from by omega,List.range'_succ]
  rw [hrange,wpOpsIn_cons];unfold wpOpIn;rw [ho];simp only [];obtain ⟨I,β,hst,hfr,hen,hsz,hdf,hG⟩:=hrel;obtain ⟨e',b,g1,g2,g3⟩:=xp (show cy ops o e _ _ from h);obtain ⟨hen',hw⟩:=g1 w I β a hen;rw [hw];cases b with
  | true=>
   rw [if_pos rfl];obtain ⟨v,σ',hK,hsem⟩:=dY (g2 rfl);have hd:=hsem w I β nx a hst.mem hG (fun j hj _=>hfr j hj) (by omega) (fun x _=>pX hen' hG x);refine hd.wpIn (fun u w' ⟨I',β',hu,hst',hfr'⟩ =>?_);refine iW hn hdst hQ r (i+1) _ σ' _ w' hr' hK ⟨I',β',hst.trans hst',fun j hj =>?_,xa (fun t=>hst'.den hst.mem (hen' t)) (fun x hx=>by rw [hsz];exact hdst i o x ho hx) hu,by rw [ic];exact hsz,by rw [eK];exact hdf.step hst',hG.step hst.mem hst'⟩ (by omega);rw [hfr' j (by omega)];exact hfr j (by omega)
  | false=>
   rw [if_neg (by simp)];refine ⟨fun _ _=>trivial,?_⟩;refine iW hn hdst hQ r (i+1) _ σ _ w hr' (g3 rfl) ⟨I,β,hst,fun j hj=>hfr j (by omega),xa hen' (fun x hx=>by rw [hsz];exact hdst i o x ho hx) A4,by rw [ic];exact hsz,by rw [eK];exact hdf,hG⟩ (by omega)
end
def zJ:Op→Bool
 | .store _ _ _=>true
 | .next _ _=>true
 | .mapUpdate _ _ _ _=>true
 | .lookup _ _ _ _=>true
 | .call c=>match c.callee with
  | .builtin .append=>true
  | .builtin .copy=>true
  | .builtin .clear=>true
  | .builtin .unsafeString=>true
  | _=>false
 | _=>false
def xy:Op→Bool
 | .move _ | .assign _ | .nilCheck _ | .binOp _ _ _ _ _ | .unOp _ _ _ | .convert _ _ _ | .makeInterface _ _ | .makeFunc _ _ _ | .slice _ _ _ _ _ | .fieldAddr _ _ _ | .field _ _ _ | .indexAddr _ _ _ | .index _ _ _ | .typeAssert _ _ _ _ | .extract _ _ | .build _ _ | .pick _ _ _=>true
 | .call c=>match c.callee with
  | .builtin .len=>true
  | .builtin .max=>true
  | .builtin .min=>true
  | _=>false
 | _=>false
def vW (lo:List Nat) (i:Nat) (op:Op):Bool:=xy op||lo.contains i
def dj:Op→Bool
 | .call c=>match c.callee with
  | .value _=>true
  | _=>false
 | _=>false
def NR (acc:List Nat) (es:List Edge):Nat:=es.foldl (fun s e=>if Region.binds .any e=true then s ||| 2 ^ e.on ||| acc.getD e.on 0 else s) 0
def kZ (acc:List Nat):List Oper→List Nat
 | []=>acc
 | o::r=>kZ (acc++[NR acc o.after.toList]) r
def f9 (ops:Array Oper) (o:Oper):List Nat:=o.dst.toList++o.looksAt ops
def DS (o:Oper) (l:List Nat):Bool:=match o.dst with
 | some d=>l.contains d
 | none=>false
def jw (lo:List Nat) (ops:Array Oper) (i:Nat) (x:Oper) (j:Nat) (y:Oper):Bool:=DS x (f9 ops y)||DS y (f9 ops x)||(zJ x.op && !vW lo j y.op)||(zJ y.op && !vW lo i x.op)
def DU (i:Nat) (o:Oper):Bool:=o.after.toList.all fun e=> !Region.binds .any e||decide (e.on<i)
def rW (lo:List Nat) (ops:Array Oper) (B:List Nat) (y:Oper) (j:Nat):Nat→List Oper→Bool
 | _,[]=>true
 | i,x::r=>if i<j then (!jw lo ops i x j y||(B.getD j 0).testBit i)&&rW lo ops B y j (i+1) r else true
def DG (lo:List Nat) (ops:Array Oper) (B:List Nat) (l:List Oper):Nat→List Oper→Bool
 | _,[]=>true
 | j,y::r=>DU j y&&rW lo ops B y j 0 l&&DG lo ops B l (j+1) r
def ct (lo:List Nat) (ops:Array Oper):Bool:=DG lo ops (kZ [] ops.toList) ops.toList 0 ops.toList
def CC:Nat→List Oper→List Nat
 | _,[]=>[]
 | i,o::r=>(match o.op with | .load _ _=>[i]|_=>[])++CC (i+1) r
def xB (ops:Array Oper):List Nat:=CC 0 ops.toList
def t5 (lo:List Nat):Nat→List Oper→Bool
 | _,[]=>true
 | i,o::r=>(!lo.contains i||(!zJ o.op && !dj o.op))&&t5 lo (i+1) r
theorem Gm {lo:List Nat} (l:List Oper) : ∀(i:Nat),t5 lo i l=true → ∀(k:Nat) x,l[k]? = some x→lo.contains (i+k)=true→zJ x.op=false∧dj x.op=false:=by
 induction l with
 | nil=>intro i _ k x hx;simp at hx
 | cons y r ih=>
  intro i h k x hx hc;simp only [t5,Bool.and_eq_true,Bool.or_eq_true,Bool.not_eq_true'] at h;cases k with
  | zero=>
   simp at hx;subst hx;rw [Nat.add_zero] at hc;rcases h.1 with h1|h1
   ·rw [hc] at h1;cases h1
   ·exact h1
  | succ k=>exact ih (i+1) h.2 k x (by simpa using hx) (by rw [show i+1+k=i+(k+1) from by omega];exact hc)
def Eh (lo B:List Nat) (i:Nat):Nat→List Oper→Bool
 | _,[]=>true
 | j,x::r=>(vW lo j x.op||(if j=i then true else if j<i then (B.getD i 0).testBit j else (B.getD j 0).testBit i))&&Eh lo B i (j+1) r
def f7 (lo:List Nat) (ops:Array Oper) (i:Nat):Bool:=Eh lo (kZ [] ops.toList) i 0 ops.toList
theorem Cx {lo B:List Nat} {i:Nat} (l:List Oper) : ∀(j:Nat),Eh lo B i j l=true → ∀(k:Nat) x,l[k]? = some x→vW lo (j+k) x.op=false→(j+k<i→(B.getD i 0).testBit (j+k)=true)∧(i<j+k→(B.getD (j+k) 0).testBit i=true):=by
 induction l with
 | nil=>intro j _ k x hx;simp at hx
 | cons y r ih=>
  intro j h k x hx hp;simp only [Eh,Bool.and_eq_true,Bool.or_eq_true] at h;cases k with
  | zero=>
   simp at hx;subst hx;rw [Nat.add_zero] at hp;rcases h.1 with h1|h1
   ·rw [hp] at h1;cases h1
   ·rw [Nat.add_zero];constructor
    ·intro hlt;rw [if_neg (by omega),if_pos hlt] at h1;exact h1
    ·intro hlt;rw [if_neg (by omega),if_neg (by omega)] at h1;exact h1
  | succ k=>
   have:=ih (j+1) h.2 k x (by simpa using hx) (by rw [show j+1+k=j+(k+1) from by omega];exact hp);rw [show j+(k+1)=j+1+k from by omega];exact this
theorem Aq {lo:List Nat} {ops:Array Oper} {B:List Nat} {y:Oper} {j:Nat} (l:List Oper) : ∀(i:Nat),rW lo ops B y j i l=true → ∀(k:Nat) x,l[k]? = some x→i+k<j→jw lo ops (i+k) x j y=true→(B.getD j 0).testBit (i+k)=true:=by
 induction l with
 | nil=>intro i h k x hx;simp at hx
 | cons x r ih=>
  intro i h k x' hx hlt hc;unfold rW at h;rw [if_pos (by omega)] at h;simp only [Bool.and_eq_true,Bool.or_eq_true,Bool.not_eq_true'] at h;cases k with
  | zero=>
   simp at hx;subst hx;rw [Nat.add_zero] at hc ⊢;rcases h.1 with h1|h1
   ·rw [hc] at h1;cases h1
   ·exact h1
  | succ k=>
   have:=ih (i+1) h.2 k x' (by simpa using hx) (by omega) (by rw [show i+1+k=i+(k+1) from by omega];exact hc);rw [show i+(k+1)=i+1+k from by omega];exact this
theorem qu {lo:List Nat} {ops:Array Oper} {B:List Nat} {l:List Oper} (r:List Oper) : ∀(j:Nat),DG lo ops B l j r=true → ∀(k:Nat) y,r[k]? = some y→DU (j+k) y=true∧rW lo ops B y (j+k) 0 l=true:=by
 induction r with
 | nil=>intro j h k y hy;simp at hy
 | cons y r ih=>
  intro j h k y' hy;simp only [DG,Bool.and_eq_true] at h;cases k with
  | zero=>simp at hy;subst hy;exact ⟨h.1.1,h.1.2⟩
  | succ k=>
   have:=ih (j+1) h.2 k y' (by simpa using hy);rw [show j+(k+1)=j+1+k from by omega];exact this
def jq (ol:List Oper) (S:Nat→Bool):Prop:= ∀(j:Nat) o,ol[j]? = some o→S j=true → ∀e∈o.after.toList,Region.binds .any e=true→S e.on=true
theorem l5 {S:Nat→Bool} {acc:List Nat} (hacc : ∀(j:Nat) m,acc[j]? = some m→S j=true → ∀i,m.testBit i=true→S i=true) : ∀(es:List Edge),(∀e∈es,Region.binds .any e=true→S e.on=true) →
 ∀s,(∀i,s.testBit i=true→S i=true) → ∀i,(es.foldl (fun s e=>if Region.binds .any e=true then s ||| 2 ^ e.on ||| acc.getD e.on 0 else s) s).testBit i=true→S i=true
 | [],_,s,hs,i,h=>hs i h
 | e::es,he,s,hs,i,h=>by
  rw [List.foldl_cons] at h;refine l5 hacc es (fun x hx=>he x (by simp [hx])) _ (fun k hk =>?_) i h;split at hk
  ·rename_i hb;have hon:=he e (by simp) hb;rw [Nat.testBit_or,Nat.testBit_or] at hk;simp only [Bool.or_eq_true] at hk;rcases hk with (hk|hk)|hk
   ·exact hs k hk
   ·have:e.on=k:=by
     rw [Nat.testBit_two_pow] at hk;simpa using hk
    rw [←this];exact hon
   ·cases hg:acc[e.on]? with
    | none=>simp [List.getD,hg] at hk
    | some m=>
     simp [List.getD,hg] at hk;exact hacc e.on m hg hon k hk
  ·exact hs k hk
theorem gq {ol:List Oper} {S:Nat→Bool} (hS:jq ol S) : ∀(r:List Oper) (acc:List Nat),ol.drop acc.length=r→(∀(j:Nat) m,acc[j]? = some m→S j=true → ∀i,m.testBit i=true→S i=true) →
 ∀(j:Nat) m,(kZ acc r)[j]? = some m→S j=true → ∀i,m.testBit i=true→S i=true
 | [],acc,_,hacc=>hacc
 | o::r,acc,hd,hacc=>by
  refine gq hS r (acc++[NR acc o.after.toList]) (by simp;rw [←List.drop_drop,hd];rfl) (fun j m hj hSj =>?_);rw [List.getElem?_append] at hj;split at hj
  ·exact hacc j m hj hSj
  ·rename_i hge;have hje:j=acc.length:=by
    have:=(List.getElem?_eq_some_iff.1 hj).1;simp at this;omega
   subst hje;simp at hj;subst hj;have ho:ol[acc.length]? = some o:=by
    have h1:(ol.drop acc.length)[0]? = some o:=by rw [hd];rfl
    rwa [List.getElem?_drop,Nat.add_zero] at h1
   exact l5 hacc _ (fun e he hb=>hS _ o ho hSj e he hb) 0 (fun i hi=>by simp at hi)
theorem l4 : ∀(r:List Oper) (acc:List Nat),(kZ acc r).length=acc.length+r.length
 | [],acc=>by simp [kZ]
 | o::r,acc=>by rw [kZ,l4];simp;omega
def ev (P:Program) (G:Gl) (lo:List Nat) (ops:Array Oper) (i:Nat) (k:Nat) (args:List V) (σp acc:ak) (id:Nat) (Kq Ke:V→ak→Prop) (_u:Tag Kq:= .mk) (_v:Tag Ke:= .mk) (_w:Tag ops:= .mk) (_h:True:=trivial):Prop:=
 dI P G k args σp id Kq∨(f7 lo ops i=true∧au P G k args (σp++acc) id Ke)
def gk (P:Program) (G:Gl) (lo:List Nat) (ops:Array Oper) (i:Nat) (op:Op) (g:Operand→V) (σp acc:ak) (id:Nat) (Kq Ke:V→ak→Prop):Prop:=match op with
 | .call c=>match c.callee with
  | .value f=>bt (g f) (fun k caps=>ev P G lo ops i k (c.args.toList.map g++caps) σp acc id Kq Ke) (fun j=>f7 lo ops i=true∧gD P G j (c.args.toList.map g) (σp++acc) id Ke) (fun k fs=>ev P G lo ops i k (fs++(c.args.toList.map g++[])) σp acc id Kq Ke)
  | _=>False
 | _=>False
def GB (new:ak) (K:Prop):Prop:=new=[]∧K
def xS (σk σ:ak) (K:Prop):Prop:=match σk with
 | []=>K
 | σk=>ap σk σ∧K
theorem oh {σk σ:ak} {K:Prop} (h:xS σk σ K):ap σk σ∧K:=by
 unfold xS at h;split at h
 ·exact ⟨fun _ _ hh=>by simp [ak.get] at hh,h⟩
 ·exact h
def wR (lo:List Nat) (ops:Array Oper) (i:Nat):Bool:=lo.all fun j=>((kZ [] ops.toList).getD i 0).testBit j
def Js (lo:List Nat) (ops:Array Oper) (i:Nat) (σk:ak):ak:=if wR lo ops i=true then [] else σk
theorem vo {lo:List Nat} {ops:Array Oper} {i:Nat} {σk σ:ak} {K:Prop} (h:xS (Js lo ops i σk) σ K):(ap σk σ∨wR lo ops i=true)∧K:=by
 unfold Js at h;split at h
 ·rename_i ha;exact ⟨.inr ha,(oh h).2⟩
 ·exact ⟨.inl (oh h).1,(oh h).2⟩
def opsL (P:Program) (G:Gl) (lo:List Nat) (σk:ak) (ops:Array Oper) (base:Nat):Nat→List Oper→aN→ak→ak→(aN→ak→Prop)→Prop
 | _,[],e,σp,acc,K=>K e (σp++acc)
 | i,o::r,e,σp,acc,K=>cy ops o e
  (fun e=>if zJ o.op=true then aQ P G o.op (ep G e.get) (σp++acc) (base+4*i) fun v σ'=>xS (Js lo ops i σk) σ' (opsL P G lo σk ops base (i+1) r (e.putO o.dst v) σ' [] K)
   else if dj o.op=true then gk P G lo ops i o.op (ep G e.get) σp acc (base+4*i) (fun v new=>opsL P G lo σk ops base (i+1) r (e.putO o.dst v) σp (acc++new) K) (fun v σ'=>xS (Js lo ops i σk) σ' (opsL P G lo σk ops base (i+1) r (e.putO o.dst v) σ' [] K))
   else if lo.contains i=true then aV P G o.op (ep G e.get) σk (base+4*i) fun v new=>GB new (opsL P G lo σk ops base (i+1) r (e.putO o.dst v) σp acc K)
   else aV P G o.op (ep G e.get) σp (base+4*i) fun v new=>opsL P G lo σk ops base (i+1) r (e.putO o.dst v) σp (acc++new) K)
  (fun e=>opsL P G lo σk ops base (i+1) r (e.putO o.dst (.tup [])) σp acc K)
def rU (P:Program) (G:Gl) (ops:Array Oper):=opsL P G [] [] ops
inductive lW where
 | skip
 | p (v:V)
 | q (v:V) (new:ak)
 | e (v:V) (σ':ak)
def lW.val:lW→V
 | .skip=> .tup []
 | .p v=>v
 | .q v _=>v
 | .e v _=>v
def lW.app (r:lW) (σ:ak):ak:=match r with
 | .skip=>σ
 | .p _=>σ
 | .q _ new=>σ++new
 | .e _ σ'=>σ'
section
variable (ol:List Oper) (ρ:Nat→lW) (F0:Nat→V) (σ0:ak) (S:Nat→Bool)
def eS:Nat→Nat→V
 | 0,t=>F0 t
 | j+1,t=>if S j=true∧(ol[j]?).bind (·.dst)=some t then (ρ j).val else eS j t
def sS:Nat→ak
 | 0=>σ0
 | j+1=>if S j=true then (ρ j).app (sS j) else sS j
def bS:Nat→ak
 | 0=>σ0
 | j+1=>match ρ j with
  | .e _ σ'=>σ'
  | _=>bS j
end
abbrev cm:Nat→Bool:=fun _=>true
def BN (P:Program) (G:Gl) (lo:List Nat) (σk:ak) (ops:Array Oper) (base:Nat) (ρ:Nat→lW) (F0:Nat→V) (σ0:ak) (i:Nat):Prop:=
 ∀o,ops.toList[i]? = some o → ∃b,(∀w I β (a:Act),(∀t∈o.looksAt ops,aJ w I β (eS ops.toList ρ F0 cm i t) (a.tmps.getD t undef))→Region.wanted o (yielded ops a.tmps)=b) ∧
  match ρ i with
  | .skip=>b=false
  | .p v=>b=true∧vW lo i o.op=true ∧ ∀σ,(lo.contains i=true→ap σk σ)→bq P G o (ep G (eS ops.toList ρ F0 cm i)) σ (base+4*i) v σ
  | .q v new=>b=true∧vW lo i o.op=false∧oH (base+4*i) new∧fJ P G o (ep G (eS ops.toList ρ F0 cm i)) (bS ρ σ0 i) (base+4*i) v new
  | .e v σ'=>b=true∧(vW lo i o.op=false∧(zJ o.op=true∨f7 lo ops i=true)∧(ap σk σ'∨wR lo ops i=true))∧bq P G o (ep G (eS ops.toList ρ F0 cm i)) (sS ρ σ0 cm i) (base+4*i) v σ'
section
variable {ol:List Oper} {ρ ρ':Nat→lW} {F0:Nat→V} {σ0:ak} {S:Nat→Bool}
theorem dB : ∀ {i:Nat},(∀j,j<i→ρ j=ρ' j) → ∀t,eS ol ρ F0 S i t=eS ol ρ' F0 S i t
 | 0,_,_=>rfl
 | i+1,h,t=>by simp only [eS];rw [h i (by omega),dB (fun j hj=>h j (by omega))]
theorem im : ∀ {i:Nat},(∀j,j<i→ρ j=ρ' j)→sS ρ σ0 S i=sS ρ' σ0 S i
 | 0,_=>rfl
 | i+1,h=>by simp only [sS];rw [h i (by omega),im (fun j hj=>h j (by omega))]
theorem gR : ∀ {i:Nat},(∀j,j<i→ρ j=ρ' j)→bS ρ σ0 i=bS ρ' σ0 i
 | 0,_=>rfl
 | i+1,h=>by simp only [bS];rw [h i (by omega),gR (fun j hj=>h j (by omega))]
theorem BN.congr {P:Program} {G:Gl} {lo:List Nat} {σk:ak} {ops:Array Oper} {base i:Nat} (h : ∀j,j≤i→ρ j=ρ' j) (hl:BN P G lo σk ops base ρ F0 σ0 i):BN P G lo σk ops base ρ' F0 σ0 i:=by
 intro o ho;obtain ⟨b,h1,h2⟩:=hl o ho;have e1:eS ops.toList ρ F0 cm i=eS ops.toList ρ' F0 cm i:=funext fun t=>dB (fun j hj=>h j (by omega)) t
 have e2:sS ρ σ0 cm i=sS ρ' σ0 cm i:=im (fun j hj=>h j (by omega));have e3:bS ρ σ0 i=bS ρ' σ0 i:=gR (fun j hj=>h j (by omega));rw [e1,e2,e3,h i (Nat.le_refl _)] at h2;rw [e1] at h1;exact ⟨b,h1,h2⟩
end
section
variable {P:Program} {G:Gl} {C:tK} {ops:Array Oper} {Q:Exit→Act→World→Prop}
theorem xo {o:Oper} {e:aN} {yes no:aN→Prop} (h:cy ops o e yes no) : ∃e' b,(∀t,e'.get t=e.get t)∧(∀w I β (a:Act),(∀t∈o.looksAt ops,aJ w I β (e.get t) (a.tmps.getD t undef))→Region.wanted o (yielded ops a.tmps)=b)∧(b=true→yes e')∧(b=false→no e'):=by
 unfold cy at h;split at h
 ·rename_i hg;exact ⟨e,true,fun _=>rfl,fun w I β a _=>by simp [Region.wanted,hg],fun _=>h,fun h=>by cases h⟩
 ·rename_i j want hg;obtain ⟨d,hd,h⟩:=dc h;unfold pD at h;split at h
  ·rename_i b hb;have hlk:d∈o.looksAt ops:=by simp [Oper.looksAt,hg,hd]
   have hw : ∀w I β (a:Act),(∀t∈o.looksAt ops,aJ w I β (e.get t) (a.tmps.getD t undef))→Region.wanted o (yielded ops a.tmps)=(b==want):=fun w I β a he=>by
    have h1:=he d hlk;rw [hb] at h1;have h2:=aA h1;have h3:a.tmps[d]? = some (.bool b):=by
     cases h:a.tmps[d]? with
     | none=>simp [Array.getD_eq_getD_getElem?,h,undef] at h2
     | some x=>simp [Array.getD_eq_getD_getElem?,h] at h2;rw [h2]
    have:yielded ops a.tmps j=some b:=by
     unfold yielded;rw [hd];show (match (a.tmps[d]? : Option Value) with|some (.bool b)=>some b|_=>none)=some b;rw [h3]
    simp [Region.wanted,hg,this]
   have hsame : ∀(c:Bool),b=c → ∀t,(e.put d (.d (.lit (.bool c)))).get t=e.get t:=by
    rintro c rfl t;rw [aN.get_put];split
    ·rename_i hh;subst hh;exact hb.symm
    ·rfl
   refine nz h (fun e1 h9 =>?_) (fun e1 h9 =>?_)
   ·refine ⟨_,want,hsame true e1,fun w I β a he=>by rw [hw w I β a he,e1];cases want<;>rfl,fun hh =>?_,fun hh =>?_⟩
    ·subst hh;simpa using h9
    ·subst hh;simpa using h9
   ·refine ⟨_,!want,hsame false e1,fun w I β a he=>by rw [hw w I β a he,e1];cases want<;>rfl,fun hh =>?_,fun hh =>?_⟩
    ·have:want=false:=by simpa using hh
     subst this;simpa using h9
    ·have:want=true:=by simpa using hh
     subst this;simpa using h9
  ·rename_i hb;have hlk:d∈o.looksAt ops:=by simp [Oper.looksAt,hg,hd]
   refine ⟨e,false,fun _=>rfl,fun w I β a he =>?_,fun hh=>(by cases hh),fun _=>h⟩;have h1:=he d hlk;rw [hb] at h1;simp [Region.wanted,hg,kV hd (y9 h1)]
  ·exact h.elim
theorem Pq {op:Op} (h:zJ op=true):xy op=false:=by
 cases op<;>simp only [zJ,Bool.false_eq_true] at h<;>try rfl
 case call c=>
  unfold xy;simp only;split at h<;>first
   | (exfalso;revert h;simp;done)
   | (rename_i hc;simp only [hc])
theorem GR {o:Oper} {g:Operand→V} {σ:ak} {id:Nat} {K:V→ak→Prop} (hp:xy o.op=true) (h:aV P G o.op g σ id K) : ∃v,K v [] ∧ ∀σ id,bq P G o g σ id v σ:=by
 have key:eV o.op (a8 P o.op g σ id) K→aR P o.op g σ id=none → ∃v,K v [] ∧ ∀σ id,bq P G o g σ id v σ:=by
  intro h1 h2;obtain ⟨p,v,s,e1,e2,e3⟩:=gc h1;unfold a8 at e1;split at e1
  ·rename_i p' v' hq;injection e1 with e1;injection e1 with q1 e1;injection e1 with q2 q3;subst q1;subst q2;subst q3;exact ⟨_,e3,fun σ id=>AB hq e2 σ id⟩
  ·rw [h2] at e1;cases e1
 unfold aV at h;split at h;case h_1 c x y ho=>
  obtain ⟨v,h1,h2⟩:=rZ (G:=G) ho h;exact ⟨v,h1,h2⟩
 case h_2 t x ho=>rw [ho] at hp;cases hp
 case h_3 c ho=>
  have hp':=hp;rw [ho] at hp';unfold xy at hp';simp only at hp';split at h
  ·rename_i f hc;rw [hc] at hp';cases hp'
  ·refine key (by rw [ho] at h ⊢;exact h) ?_;rw [ho];split at hp'<;>first
    | (cases hp';done)
    | (rename_i hc;simp only [aR,hc];done)
  ·exact h.elim
 case h_4 _ _ n3=>
  refine key h ?_;generalize hop:o.op=op at hp;cases op<;>first
   | rfl
   | (cases hp;done)
   | exact (n3 _ hop).elim
theorem yz {lo:List Nat} {o:Oper} {g:Operand→V} {i:Nat} {σp acc:ak} {id:Nat} {Kq Ke:V→ak→Prop} (h:gk P G lo ops i o.op g σp acc id Kq Ke) :
 xy o.op=false∧((∃v new,Kq v new∧oH id new∧fJ P G o g σp id v new)∨(f7 lo ops i=true ∧ ∃v σ',Ke v σ'∧bq P G o g (σp++acc) id v σ')):=by
 unfold gk at h;split at h;case h_1 c ho=>
  split at h
  ·rename_i f hc;refine ⟨by rw [ho];simp only [xy,hc],?_⟩;have q1 : ∀ {K:V→ak→Prop},(bt (g f) (fun k caps=>dI P G k (c.args.toList.map g++caps) σp id K) (fun _=>False) (fun k fs=>dI P G k (fs++(c.args.toList.map g++[])) σp id K))→aV P G o.op g σp id K:=by
    intro K hh;rw [ho];simp only [aV,hc];exact hh
   have q2 : ∀ {K:V→ak→Prop},(bt (g f) (fun k caps=>au P G k (c.args.toList.map g++caps) (σp++acc) id K) (fun j=>gD P G j (c.args.toList.map g) (σp++acc) id K) (fun k fs=>au P G k (fs++(c.args.toList.map g++[])) (σp++acc) id K))→aQ P G o.op g (σp++acc) id K:=by
    intro K hh;rw [ho];simp only [aQ,hc];exact hh
   unfold bt at h q1 q2;split at h
   ·rename_i k caps hk;rw [hk] at q1 q2;rcases h with h|⟨hl,h⟩
    ·exact .inl (eg (q1 h))
    ·exact .inr ⟨hl,dY (q2 h)⟩
   ·rename_i k caps hk;rw [hk] at q1 q2;rcases h with h|⟨hl,h⟩
    ·exact .inl (eg (q1 h))
    ·exact .inr ⟨hl,dY (q2 h)⟩
   ·rename_i j hj;rw [hj] at q2;exact .inr ⟨h.1,dY (q2 h.2)⟩
   ·rename_i k caps hk;rw [hk] at q1 q2;rcases h with h|⟨hl,h⟩
    ·exact .inl (eg (q1 h))
    ·exact .inr ⟨hl,dY (q2 h)⟩
   ·exact h.elim
  ·exact h.elim
 ·exact h.elim
theorem trace {lo:List Nat} {σk:ak} (hlo : ∀(j:Nat) o,ops.toList[j]? = some o→lo.contains j=true→zJ o.op=false∧dj o.op=false) {base:Nat} {F0:Nat→V} {σ0:ak} {K:aN→ak→Prop} : ∀(r:List Oper) (i:Nat) (e:aN) (σp acc:ak) (ρ:Nat→lW),ops.toList.drop i=r→opsL P G lo σk ops base i r e σp acc K→i≤ops.size →
 (∀t,e.get t=eS ops.toList ρ F0 cm i t)→σp=bS ρ σ0 i→σp++acc=sS ρ σ0 cm i→(∀j,j<i→BN P G lo σk ops base ρ F0 σ0 j) →
 ∃ρ' e',(∀j,j<ops.size→BN P G lo σk ops base ρ' F0 σ0 j)∧K e' (sS ρ' σ0 cm ops.size) ∧ ∀t,e'.get t=eS ops.toList ρ' F0 cm ops.size t
 | [],i,e,σp,acc,ρ,hr,h,hi,he,hb,hs,hl=>by
  have:ops.size≤i:=by
   have:=congrArg List.length hr;simp at this;omega
  have:i=ops.size:=by omega
  subst this;refine ⟨ρ,e,hl,?_,he⟩;rw [←hs];exact h
 | o::r,i,e,σp,acc,ρ,hr,h,hi,he,hb,hs,hl=>by
  have hlt:i<ops.size:=by
   have:=congrArg List.length hr;simp at this;omega
  have ho:ops.toList[i]? = some o:=by
   have h1:(ops.toList.drop i)[0]? = some o:=by rw [hr];rfl
   rwa [List.getElem?_drop,Nat.add_zero] at h1
  have hr':ops.toList.drop (i+1)=r:=by
   rw [←List.drop_drop,hr];rfl
  obtain ⟨e',b,g1,g2,g3,g4⟩:=xo (show cy ops o e _ _ from h);have hee:e'.get=eS ops.toList ρ F0 cm i:=funext fun t=>(g1 t).trans (he t)
  have ext : ∀(rc:lW),∃ρ1:Nat→lW,ρ1 i=rc ∧ ∀j,j<i→ρ j=ρ1 j:=fun rc=>⟨fun j=>if j=i then rc else ρ j,by simp,fun j hj=>by simp [show j≠i by omega]⟩
  have putE : ∀(ρ1:Nat→lW) (v:V),(∀j,j<i→ρ j=ρ1 j)→(ρ1 i).val=v → ∀t,(e'.putO o.dst v).get t=eS ops.toList ρ1 F0 cm (i+1) t:=by
   intro ρ1 v h1 h2 t;simp only [eS,ho,Option.bind_some,h2];rw [←dB h1,←hee];cases hd:o.dst with
   | none=>simp [aN.putO]
   | some d=>simp [aN.putO,aN.get_put]
  cases b with
  | false=>
   obtain ⟨ρ1,q1,q2⟩:=ext .skip;refine trace hlo r (i+1) _ σp acc ρ1 hr' (g4 rfl) (by omega) (putE ρ1 (.tup []) q2 (by rw [q1];rfl)) (by simp only [bS,q1];rw [←gR q2];exact hb) (by simp only [sS,q1,lW.app,if_true];rw [←im q2];exact hs) (fun j hj =>?_);rcases Nat.lt_or_ge j i with hji|hji
   ·exact (hl j hji).congr (fun k hk=>q2 k (by omega))
   ·have:j=i:=by omega
    subst this;intro o' ho';rw [ho] at ho';injection ho' with ho';subst ho';refine ⟨false,fun w I β a hh=>g2 w I β a (fun t ht =>?_),by rw [q1]⟩;rw [he t,dB q2];exact hh t ht
  | true=>
   have h5:=g3 rfl;have goE : ∀(v:V) (σ':ak),opsL P G lo σk ops base (i+1) r (e'.putO o.dst v) σ' [] K→bq P G o (ep G e'.get) (σp++acc) (base+4*i) v σ'→vW lo i o.op=false→(zJ o.op=true∨f7 lo ops i=true)→(ap σk σ'∨wR lo ops i=true) →
    ∃ρ' e',(∀j,j<ops.size→BN P G lo σk ops base ρ' F0 σ0 j)∧K e' (sS ρ' σ0 cm ops.size) ∧ ∀t,e'.get t=eS ops.toList ρ' F0 cm ops.size t:=by
    intro v σ' hK hsem hE1 hE2 hE3;obtain ⟨ρ1,q1,q2⟩:=ext (.e v σ');refine trace hlo r (i+1) _ σ' [] ρ1 hr' hK (by omega) (putE ρ1 v q2 (by rw [q1];rfl)) (by simp only [bS,q1]) (by simp only [sS,q1,lW.app,if_true,List.append_nil]) (fun j hj =>?_);rcases Nat.lt_or_ge j i with hji|hji
    ·exact (hl j hji).congr (fun k hk=>q2 k (by omega))
    ·have:j=i:=by omega
     subst this;intro o' ho';rw [ho] at ho';injection ho' with ho';subst ho';refine ⟨true,fun w I β a hh=>g2 w I β a (fun t ht =>?_),?_⟩
     ·rw [he t,dB q2];exact hh t ht
     ·rw [q1];refine ⟨rfl,⟨hE1,hE2,hE3⟩,?_⟩;rw [hee,hs,im q2] at hsem;rwa [show eS ops.toList ρ F0 cm j=eS ops.toList ρ1 F0 cm j from funext fun t=>dB q2 t] at hsem
   have goQ : ∀(v:V) (new:ak),opsL P G lo σk ops base (i+1) r (e'.putO o.dst v) σp (acc++new) K→oH (base+4*i) new→fJ P G o (ep G e'.get) σp (base+4*i) v new→vW lo i o.op=false →
    ∃ρ' e',(∀j,j<ops.size→BN P G lo σk ops base ρ' F0 σ0 j)∧K e' (sS ρ' σ0 cm ops.size) ∧ ∀t,e'.get t=eS ops.toList ρ' F0 cm ops.size t:=by
    intro v new hK hnew hsem hpr;obtain ⟨ρ1,q1,q2⟩:=ext (.q v new);refine trace hlo r (i+1) _ σp (acc++new) ρ1 hr' hK (by omega) (putE ρ1 v q2 (by rw [q1];rfl)) (by simp only [bS,q1];rw [←gR q2];exact hb) (by simp only [sS,q1,lW.app,if_true];rw [←im q2,←hs,List.append_assoc]) (fun j hj =>?_);rcases Nat.lt_or_ge j i with hji|hji
    ·exact (hl j hji).congr (fun k hk=>q2 k (by omega))
    ·have:j=i:=by omega
     subst this;intro o' ho';rw [ho] at ho';injection ho' with ho';subst ho';refine ⟨true,fun w I β a hh=>g2 w I β a (fun t ht =>?_),?_⟩
     ·rw [he t,dB q2];exact hh t ht
     ·rw [q1];refine ⟨rfl,hpr,hnew,?_⟩;rw [hee,hb,gR q2] at hsem;rwa [show eS ops.toList ρ F0 cm j=eS ops.toList ρ1 F0 cm j from funext fun t=>dB q2 t] at hsem
   have goP : ∀(v:V),opsL P G lo σk ops base (i+1) r (e'.putO o.dst v) σp acc K→vW lo i o.op=true→(∀σ,(lo.contains i=true→ap σk σ)→bq P G o (ep G e'.get) σ (base+4*i) v σ) →
    ∃ρ' e',(∀j,j<ops.size→BN P G lo σk ops base ρ' F0 σ0 j)∧K e' (sS ρ' σ0 cm ops.size) ∧ ∀t,e'.get t=eS ops.toList ρ' F0 cm ops.size t:=by
    intro v hK hpr hsem;obtain ⟨ρ1,q1,q2⟩:=ext (.p v);refine trace hlo r (i+1) _ σp acc ρ1 hr' hK (by omega) (putE ρ1 v q2 (by rw [q1];rfl)) (by simp only [bS,q1];rw [←gR q2];exact hb) (by simp only [sS,q1,lW.app,if_true];rw [←im q2];exact hs) (fun j hj =>?_);rcases Nat.lt_or_ge j i with hji|hji
    ·exact (hl j hji).congr (fun k hk=>q2 k (by omega))
    ·have:j=i:=by omega
     subst this;intro o' ho';rw [ho] at ho';injection ho' with ho';subst ho';refine ⟨true,fun w I β a hh=>g2 w I β a (fun t ht =>?_),?_⟩
     ·rw [he t,dB q2];exact hh t ht
     ·rw [q1];refine ⟨rfl,hpr,fun σ hσ =>?_⟩;have hsem:=hsem σ hσ;rw [hee] at hsem;rwa [show eS ops.toList ρ F0 cm j=eS ops.toList ρ1 F0 cm j from funext fun t=>dB q2 t] at hsem
   have prN:lo.contains i=false→xy o.op=false→vW lo i o.op=false:=fun h1 h2=>by unfold vW;rw [h1,h2];rfl
   have loN : ∀b:Bool,(lo.contains i=true→b=false)→b=true→lo.contains i=false:=fun b h1 h2=>by
    cases hc:lo.contains i with
    | false=>rfl
    | true=>rw [h1 hc] at h2;cases h2
   split at h5
   ·rename_i hE;obtain ⟨v,σ',hsK,hsem⟩:=dY h5;obtain ⟨hsub,hK⟩:=vo hsK;exact goE v σ' hK hsem (prN (loN _ (fun hc=>(hlo i o ho hc).1) hE) (Pq hE)) (.inl hE) hsub
   ·rename_i hE;split at h5
    ·rename_i hV;have hN:=loN _ (fun hc=>(hlo i o ho hc).2) hV;obtain ⟨hpr,h6⟩:=yz h5;rcases h6 with ⟨v,new,hK,hnew,hsem⟩|⟨hlate,v,σ',hsK,hsem⟩
     ·exact goQ v new hK hnew hsem (prN hN hpr)
     ·obtain ⟨hsub,hK⟩:=vo hsK;exact goE v σ' hK hsem (prN hN hpr) (.inr hlate) hsub
    ·split at h5
     ·rename_i hL;obtain ⟨v,new,⟨hnil,hK⟩,hnew,hsem⟩:=eg h5;subst hnil;refine goP v hK (by unfold vW;rw [hL];simp) (fun σ hσ =>?_);have:=hsem σ (hσ hL);rwa [List.append_nil] at this
     ·rename_i hL;cases hpr:xy o.op with
      | true=>
       obtain ⟨v,hK,hsem⟩:=GR hpr h5;rw [List.append_nil] at hK;exact goP v hK (by unfold vW;rw [hpr];rfl) (fun σ _=>hsem σ _)
      | false=>
       obtain ⟨v,new,hK,hnew,hsem⟩:=eg h5;exact goQ v new hK hnew hsem (prN (by simpa using hL) hpr)
end
section
variable {P:Program} {G:Gl} {C:tK} {ops:Array Oper} {Q:Exit→Act→World→Prop} {ρ:Nat→lW} {F0:Nat→V} {σ0 σk:ak} {base nx:Nat} {lo:List Nat}
theorem mL (hd:ct lo ops=true) {i j:Nat} {x y:Oper} (hx:ops.toList[i]? = some x) (hy:ops.toList[j]? = some y) (hij:i<j) (hc:jw lo ops i x j y=true) {S:Nat→Bool} (hS:jq ops.toList S) (hj:S j=true):S i=true:=by
 have h1:=(qu ops.toList 0 hd j y hy).2;rw [Nat.zero_add] at h1;have h2:=Aq ops.toList 0 h1 i x hx (by omega) (by rw [Nat.zero_add];exact hc);rw [Nat.zero_add] at h2;have hl:=l4 ops.toList [];have hjl:j<(kZ [] ops.toList).length:=by
  have:=(List.getElem?_eq_some_iff.1 hy).1;rw [hl];simp at this ⊢;omega
 have h3:=gq hS ops.toList [] rfl (by simp) j _ (List.getElem?_eq_getElem hjl) hj i;apply h3;simpa [List.getD,List.getElem?_eq_getElem hjl] using h2
def XB (lo:List Nat) (ops:Array Oper) (i:Nat):Prop:= ∀(j:Nat) x,ops.toList[j]? = some x→vW lo j x.op=false → ∀S:Nat→Bool,jq ops.toList S→(j<i→S i=true→S j=true)∧(i<j→S j=true→S i=true)
theorem yx (hd:ct lo ops=true) {i:Nat} {o:Oper} (ho:ops.toList[i]? = some o) (h:zJ o.op=true∨f7 lo ops i=true):XB lo ops i:=by
 intro j x hx hpx S hS;rcases h with h|h
 ·exact ⟨fun hlt hi=>mL hd hx ho hlt (by simp [jw,h,hpx]) hS hi,fun hlt hj=>mL hd ho hx hlt (by simp [jw,h,hpx]) hS hj⟩
 ·have h2:=Cx ops.toList 0 h j x hx (by rw [Nat.zero_add];exact hpx);rw [Nat.zero_add] at h2;have hl:=l4 ops.toList [];have fin : ∀ {a b:Nat},a<ops.toList.length→((kZ [] ops.toList).getD a 0).testBit b=true→S a=true→S b=true:=by
   intro a b ha hb hSa;have hal:a<(kZ [] ops.toList).length:=by rw [hl];simpa using ha
   exact gq hS ops.toList [] rfl (by simp) a _ (List.getElem?_eq_getElem hal) hSa b (by simpa [List.getD,List.getElem?_eq_getElem hal] using hb)
  exact ⟨fun hlt hi=>fin (List.getElem?_eq_some_iff.1 ho).1 (h2.1 hlt) hi,fun hlt hj=>fin (List.getElem?_eq_some_iff.1 hx).1 (h2.2 hlt) hj⟩
theorem LS (hd:ct lo ops=true) {j:Nat} {y:Oper} (hy:ops.toList[j]? = some y) {e:Edge} (he:e∈y.after.toList) (hb:Region.binds .any e=true):e.on<j:=by
 have h1:=(qu ops.toList 0 hd j y hy).1;rw [Nat.zero_add] at h1;have:=List.all_eq_true.1 h1 e he;simpa [hb] using this
theorem yZ {i j:Nat} {x y:Oper} {t:Nat} (h:x.dst=some t) (h':t∈f9 ops y):jw lo ops i x j y=true:=by
 simp [jw,DS,h,h']
theorem FC {i j:Nat} {x y:Oper} {t:Nat} (h:y.dst=some t) (h':t∈f9 ops x):jw lo ops i x j y=true:=by
 simp [jw,DS,h,h']
theorem Gz {x:Oper} {t:Nat} (h:x.dst=some t):t∈f9 ops x:=by simp [f9,h]
theorem rN {x:Oper} {t:Nat} (h:t∈x.looksAt ops):t∈f9 ops x:=by simp [f9,h]
theorem BN.pr {S:Nat} {o:Oper} (h:BN P G lo σk ops base ρ F0 σ0 S) (ho:ops.toList[S]? = some o) (hp:vW lo S o.op=true) (σ:ak):(ρ S).app σ=σ:=by
 obtain ⟨b,_,hl⟩:=h o ho;cases hr:ρ S with
 | skip=>rfl
 | p v=>rfl
 | q v new=>rw [hr] at hl;rw [hl.2.1] at hp;cases hp
 | e v σ'=>rw [hr] at hl;rw [hl.2.1.1] at hp;cases hp
structure Nx (ops:Array Oper) (S S':Nat→Bool) (i:Nat) (o:Oper):Prop where
 ho:ops.toList[i]? = some o
 not:S i=false
 cl:jq ops.toList S
 cl':jq ops.toList S'
 same : ∀j,S' j=if j=i then true else S j
variable {S S':Nat→Bool} {i:Nat} {o:Oper}
theorem Nx.ahead (h:Nx ops S S' i o) (hd:ct lo ops=true) {j:Nat} {x:Oper} (hx:ops.toList[j]? = some x) (hji:j<i) (hc:jw lo ops j x i o=true):S j=true:=by
 have:=mL hd hx h.ho hji hc h.cl' (by rw [h.same];simp);rw [h.same] at this;simpa [show j≠i by omega] using this
theorem Nx.behind (h:Nx ops S S' i o) (hd:ct lo ops=true) {j:Nat} {x:Oper} (hx:ops.toList[j]? = some x) (hij:i<j) (hc:jw lo ops i o j x=true):S j=false:=by
 cases hj:S j with
 | false=>rfl
 | true=>
  have:=mL hd h.ho hx hij hc h.cl hj;rw [h.not] at this;cases this
theorem Nx.looks (h:Nx ops S S' i o) (hd:ct lo ops=true) {t:Nat} (ht:t∈f9 ops o) : ∀m,eS ops.toList ρ F0 S m t=if m≤i then eS ops.toList ρ F0 cm m t else eS ops.toList ρ F0 cm i t:=by
 intro m;induction m with
 | zero=>simp [eS]
 | succ m ih=>
  by_cases hm:m+1≤i
  ·rw [if_pos hm];rw [if_pos (by omega)] at ih;simp only [eS,ih];by_cases hdt:(ops.toList[m]?).bind (·.dst)=some t
   ·cases hx:ops.toList[m]? with
    | none=>simp [hx] at hdt
    | some x=>
     have hxd:x.dst=some t:=by simpa [hx] using hdt
     have:=h.ahead hd hx (by omega) (yZ hxd ht);simp [this]
   ·rw [if_neg (fun e=>hdt e.2),if_neg (fun e=>hdt e.2)]
  ·rw [if_neg hm];have hmi:eS ops.toList ρ F0 S m t=eS ops.toList ρ F0 cm i t:=by
    rw [ih];by_cases h1:m≤i
    ·have:m=i:=by omega
     subst this;simp
    ·rw [if_neg h1]
   simp only [eS];rw [if_neg ?_]
   ·exact hmi
   ·rintro ⟨e1,e2⟩;by_cases h1:m=i
    ·subst h1;rw [h.not] at e1;cases e1
    ·cases hx:ops.toList[m]? with
     | none=>simp [hx] at e2
     | some x=>
      have hxd:x.dst=some t:=by simpa [hx] using e2
      have:=h.behind hd hx (by omega) (FC hxd ht);rw [this] at e1;cases e1
theorem Nx.env (h:Nx ops S S' i o) (hd:ct lo ops=true) (t:Nat) : ∀m,eS ops.toList ρ F0 S' m t=if i<m∧o.dst=some t then (ρ i).val else eS ops.toList ρ F0 S m t:=by
 intro m;induction m with
 | zero=>simp [eS]
 | succ m ih=>
  have e1:eS ops.toList ρ F0 S' (m+1) t=if S' m=true∧(ops.toList[m]?).bind (·.dst)=some t then (ρ m).val else eS ops.toList ρ F0 S' m t:=rfl
  have e2:eS ops.toList ρ F0 S (m+1) t=if S m=true∧(ops.toList[m]?).bind (·.dst)=some t then (ρ m).val else eS ops.toList ρ F0 S m t:=rfl
  have e3:=h.same m;rw [e1,e2,ih];rcases Nat.lt_trichotomy m i with hlt|heq|hgt
  ·rw [if_neg (show ¬m=i by omega)] at e3;have n1 : ¬(i<m∧o.dst=some t):=by omega
   have n2 : ¬(i<m+1∧o.dst=some t):=by omega
   rw [e3,if_neg n1,if_neg n2]
  ·subst heq;have n1 : ¬(m<m∧o.dst=some t):=by omega
   rw [if_pos rfl] at e3;rw [e3,if_neg n1,h.ho,h.not];simp
  ·rw [if_neg (show ¬m=i by omega)] at e3;rw [e3];by_cases hdt:o.dst=some t
   ·have hno : ¬(S m=true∧(ops.toList[m]?).bind (·.dst)=some t):=by
     rintro ⟨q1,q2⟩;cases hx:ops.toList[m]? with
     | none=>simp [hx] at q2
     | some x=>
      have hxd:x.dst=some t:=by simpa [hx] using q2
      have:=h.behind hd hx (by omega) (yZ hdt (Gz hxd));rw [this] at q1;cases q1
    rw [if_neg hno,if_pos ⟨by omega,hdt⟩,if_pos ⟨by omega,hdt⟩]
   ·rw [if_neg (fun e:i<m∧o.dst=some t=>hdt e.2),if_neg (fun e:i<m+1∧o.dst=some t=>hdt e.2)]
theorem Nx.under (h:Nx ops S S' i o) (hd:ct lo ops=true) (hop:vW lo i o.op=false) (hloc : ∀j,j<ops.size→BN P G lo σk ops base ρ F0 σ0 j) : ∀m,m≤ops.size → ∃τ,sS ρ σ0 S m=(if m≤i then bS ρ σ0 m else bS ρ σ0 i)++τ:=by
 intro m;induction m with
 | zero=>intro _;exact ⟨[],by simp [sS,bS]⟩
 | succ m ih=>
  intro hm;obtain ⟨τ,hτ⟩:=ih (by omega);have hx : ∃x,ops.toList[m]? = some x:=⟨_,List.getElem?_eq_getElem (by simp;omega)⟩
  obtain ⟨x,hx⟩:=hx;obtain ⟨b,_,hl⟩:=hloc m (by omega) x hx;by_cases hmi:m+1≤i
  ·rw [if_pos hmi];rw [if_pos (by omega)] at hτ;simp only [sS,bS];cases hr:ρ m with
   | skip=>simp only [lW.app];split<;>exact ⟨τ,hτ⟩
   | p v=>simp only [lW.app];split<;>exact ⟨τ,hτ⟩
   | q v new=>
    simp only [lW.app];split
    ·exact ⟨τ++new,by rw [hτ,List.append_assoc]⟩
    ·exact ⟨τ,hτ⟩
   | e v σ'=>
    rw [hr] at hl;have hT:=yx hd hx hl.2.1.2.1;have h9:=(hT i o h.ho hop S' h.cl').2 (by omega) (by rw [h.same];simp);rw [h.same,if_neg (by omega)] at h9;rw [if_pos h9];exact ⟨[],by simp [lW.app]⟩
  ·rw [if_neg hmi];have hτ':sS ρ σ0 S m=bS ρ σ0 i++τ:=by
    rw [hτ];by_cases h1:m≤i
    ·have:m=i:=by omega
     subst this;simp
    ·rw [if_neg h1]
   simp only [sS];by_cases h1:m=i
   ·subst h1;rw [h.not,if_neg (by simp)];exact ⟨τ,hτ'⟩
   ·cases hr:ρ m with
    | skip=>simp only [lW.app];split<;>exact ⟨τ,hτ'⟩
    | p v=>simp only [lW.app];split<;>exact ⟨τ,hτ'⟩
    | q v new=>
     simp only [lW.app];split
     ·exact ⟨τ++new,by rw [hτ',List.append_assoc]⟩
     ·exact ⟨τ,hτ'⟩
    | e v σ'=>
     rw [hr] at hl;have hT:=yx hd hx hl.2.1.2.1;have this:S m=false:=by
      cases hs:S m with
      | false=>rfl
      | true=>
       have h9:=(hT i o h.ho hop S h.cl).1 (by omega) hs;rw [h.not] at h9;cases h9
     rw [this,if_neg (by simp)];exact ⟨τ,hτ'⟩
theorem Nx.early (h:Nx ops S S' i o) : ∀n,n≤i→sS ρ σ0 S' n=sS ρ σ0 S n:=by
 intro n;induction n with
 | zero=>intro _;rfl
 | succ n ihn=>
  intro hn;have e1:sS ρ σ0 S' (n+1)=if S' n=true then (ρ n).app (sS ρ σ0 S' n) else sS ρ σ0 S' n:=rfl
  have e3:=h.same n;rw [if_neg (show ¬n=i by omega)] at e3;rw [e1,e3,ihn (by omega)];rfl
theorem Nx.sig (h:Nx ops S S' i o) (hd:ct lo ops=true) {new:ak} (hop:vW lo i o.op=false∨new=[]) (hloc : ∀j,j<ops.size→BN P G lo σk ops base ρ F0 σ0 j) (hq : ∀σ,(ρ i).app σ=σ++new) (hnew:oH (base+4*i) new) : ∀m,m≤ops.size → ∀k,(sS ρ σ0 S' m).get k=if i<m then (sS ρ σ0 S m++new).get k else (sS ρ σ0 S m).get k:=by
 intro m;induction m with
 | zero=>intro _ k;simp [sS]
 | succ m ih=>
  intro hm k;have ih:=ih (by omega);obtain ⟨x,hx⟩ : ∃x,ops.toList[m]? = some x:=⟨_,List.getElem?_eq_getElem (by simp;omega)⟩
  obtain ⟨b,_,hl⟩:=hloc m (by omega) x hx;rcases Nat.lt_trichotomy m i with hlt|heq|hgt
  ·rw [if_neg (by omega)];rw [h.early (m+1) (by omega)]
  ·subst heq;rw [if_pos (by omega)];simp only [sS];rw [h.same,if_pos rfl,if_pos rfl,h.not,if_neg (by simp),hq,h.early m (Nat.le_refl _)]
  ·rw [if_pos (by omega)];have ih:=fun k=>(ih k).trans (if_pos hgt)
   have s1:sS ρ σ0 S' (m+1)=if S' m=true then (ρ m).app (sS ρ σ0 S' m) else sS ρ σ0 S' m:=rfl
   have s2:sS ρ σ0 S (m+1)=if S m=true then (ρ m).app (sS ρ σ0 S m) else sS ρ σ0 S m:=rfl
   have e3:=h.same m;rw [if_neg (show ¬m=i by omega)] at e3;rw [s1,s2,e3];cases hs:S m with
   | false=>simp only [Bool.false_eq_true,if_false];exact ih k
   | true=>
    simp only [if_true];cases hr:ρ m with
    | skip=>exact ih k
    | p v=>exact ih k
    | q v nw=>
     rw [hr] at hl;simp only [lW.app];have hdis : ∀b b',nw.get k=some b→new.get k=some b'→False:=by
      intro b b' h1 h2;have:=hl.2.2.1 k b h1;have:=hnew k b' h2;omega
     have g1:(sS ρ σ0 S' m++nw).get k=match (sS ρ σ0 S' m).get k with|some b=>some b|none=>nw.get k:=bV _ _ _
     have g2:(sS ρ σ0 S m++nw++new).get k=match (sS ρ σ0 S m++nw).get k with|some b=>some b|none=>new.get k:=bV _ _ _
     have g3:(sS ρ σ0 S m++nw).get k=match (sS ρ σ0 S m).get k with|some b=>some b|none=>nw.get k:=bV _ _ _
     have g4:(sS ρ σ0 S m++new).get k=match (sS ρ σ0 S m).get k with|some b=>some b|none=>new.get k:=bV _ _ _
     rw [g1,g2,g3,ih,g4];cases hg:(sS ρ σ0 S m).get k with
     | some b=>rfl
     | none=>
      simp only [];cases h1:nw.get k with
      | none=>cases new.get k<;>rfl
      | some b1=>
       cases h2:new.get k with
       | none=>rfl
       | some b2=>exact (hdis b1 b2 h1 h2).elim
    | e v σ'=>
     rw [hr] at hl;rcases hop with hop|rfl
     ·have hT:=yx hd hx hl.2.1.2.1;have h9:=(hT i o h.ho hop S h.cl).1 (by omega) hs;rw [h.not] at h9;cases h9
     ·simp [lW.app]
theorem Nx.eff (h:Nx ops S S' i o) (hloc : ∀j,j<ops.size→BN P G lo σk ops base ρ F0 σ0 j) (hE:vW lo i o.op=false) (hT:XB lo ops i) : ∀m,m≤ops.size→sS ρ σ0 S m=sS ρ σ0 cm (min m i)∧sS ρ σ0 S' m=if i<m then (ρ i).app (sS ρ σ0 cm i) else sS ρ σ0 cm m:=by
 intro m;induction m with
 | zero=>intro _;simp [sS]
 | succ m ih=>
  intro hm;obtain ⟨ih1,ih2⟩:=ih (by omega);obtain ⟨x,hx⟩ : ∃x,ops.toList[m]? = some x:=⟨_,List.getElem?_eq_getElem (by simp;omega)⟩
  have s1:sS ρ σ0 S' (m+1)=if S' m=true then (ρ m).app (sS ρ σ0 S' m) else sS ρ σ0 S' m:=rfl
  have s2:sS ρ σ0 S (m+1)=if S m=true then (ρ m).app (sS ρ σ0 S m) else sS ρ σ0 S m:=rfl
  have s3:sS ρ σ0 cm (m+1)=(ρ m).app (sS ρ σ0 cm m):=rfl;have e3:=h.same m;rw [s1,s2,e3];cases hpr:vW lo m x.op with
  | true=>
   have hno:m≠i:=by
    rintro rfl;rw [h.ho] at hx;injection hx with hx;subst hx;rw [hE] at hpr;cases hpr
   have ha:=fun σ=>(hloc m (by omega)).pr hx hpr σ
   rw [if_neg hno,ha,ha,s3,ha];have hS : ∀(b:Bool) (σ:ak),(if b=true then σ else σ)=σ:=fun b σ=>by cases b<;>rfl
   rw [hS,hS,ih1,ih2];rcases Nat.lt_or_gt_of_ne hno with hlt|hgt
   ·have e1:min (m+1) i=m+1:=by omega
    have e2:min m i=m:=by omega
    rw [e1,e2,s3,ha,if_neg (show ¬i<m by omega),if_neg (show ¬i<m+1 by omega)];exact ⟨rfl,rfl⟩
   ·have e1:min (m+1) i=min m i:=by omega
    rw [e1,if_pos (show i<m by omega),if_pos (show i<m+1 by omega)];exact ⟨rfl,rfl⟩
  | false=>
  rcases Nat.lt_trichotomy m i with hlt|heq|hgt
  ·have hs:=(hT m x hx hpr S' h.cl').1 hlt (by rw [h.same];simp);rw [h.same,if_neg (by omega)] at hs;have e1:min (m+1) i=m+1:=by omega
   have e2:min m i=m:=by omega
   rw [e2] at ih1;rw [if_neg (show ¬i<m by omega)] at ih2;rw [e1,if_neg (show ¬i<m+1 by omega),if_neg (show ¬m=i by omega),hs,s3,ih1,ih2];simp
  ·subst heq;have e1:min (m+1) m=m:=by omega
   have e2:min m m=m:=by omega
   rw [e2] at ih1;rw [if_neg (show ¬m<m by omega)] at ih2;rw [e1,if_pos (show m<m+1 by omega),if_pos rfl,h.not,ih1,ih2];simp
  ·have hs:S m=false:=by
    cases hs:S m with
    | false=>rfl
    | true=>
     have h9:=(hT m x hx hpr S h.cl).2 hgt hs;rw [h.not] at h9;cases h9
   have e1:min (m+1) i=min m i:=by omega
   rw [if_pos hgt] at ih2;rw [e1,if_pos (show i<m+1 by omega),if_neg (show ¬m=i by omega),hs,ih1,ih2];simp
end
section
variable {P:Program} {G:Gl} {C:tK} {ops:Array Oper} {Q:Exit→Act→World→Prop} {ρ:Nat→lW} {F0:Nat→V} {σ0 σk:ak} {base nx:Nat} {lo:List Nat} {fr:Option Nat}
abbrev dF (listed:Array Bool):Nat→Bool:=fun j=>listed.getD j true
def OB (C:tK) (G:Gl) (ops:Array Oper) (ρ:Nat→lW) (F0:Nat→V) (σ0:ak) (base nx:Nat) (S:Nat→Bool) (a:Act) (w:World):Prop:=
 ∃I β,ar C.w C.I C.β C.σ C.nx w I β (sS ρ σ0 S ops.size) nx∧(∀j,j<ops.size→S j=false → ∀k,base+4*j≤k→k<base+4*j+4→β k=none)∧(∀k,base+4*ops.size≤k→β k=none) ∧
  (∀t,aJ w I β (eS ops.toList ρ F0 S ops.size t) (a.tmps.getD t undef))∧a.tmps.size=C.n∧js C.w.heap.size C.hd w I β (sS ρ σ0 S ops.size) a.defers∧E1 G w I
theorem GY {listed:Array Bool} {i:Nat} (h:i∈Region.ready .any ops listed):i<ops.size∧listed.getD i true=false ∧ ∀o,ops[i]? = some o → ∀e∈o.after.toList,Region.binds .any e=true→listed.getD e.on false=true:=by
 unfold Region.ready at h;simp only [List.mem_filter,List.mem_range,Bool.and_eq_true,Bool.not_eq_true'] at h;refine ⟨h.1,h.2.1,fun o ho e he hb =>?_⟩;have h2:=h.2.2;rw [ho] at h2;simp only [Option.map_some,Option.getD_some,Array.all_eq_true'] at h2;have:=h2 e (by simpa using he);simpa [hb] using this
theorem OL {S:Nat→Bool} (hS:jq ops.toList S) {a b:Nat} (ha:a<ops.toList.length) (h:((kZ [] ops.toList).getD a 0).testBit b=true) (hSa:S a=true):S b=true:=by
 have hl:=l4 ops.toList [];have hal:a<(kZ [] ops.toList).length:=by rw [hl];simpa using ha
 exact gq hS ops.toList [] rfl (by simp) a _ (List.getElem?_eq_getElem hal) hSa b (by simpa [List.getD,List.getElem?_eq_getElem hal] using h)
theorem Qk (hk:ap σk σ0) (hloc : ∀j,j<ops.size→BN P G lo σk ops base ρ F0 σ0 j) (S:Nat→Bool) (hS : ∀j,j<ops.size→S j=true→wR lo ops j=true→False) : ∀m,m≤ops.size→ap σk (sS ρ σ0 S m):=by
 intro m;induction m with
 | zero=>intro _;exact hk
 | succ m ih=>
  intro hm;have ih:=ih (by omega);obtain ⟨x,hx⟩ : ∃x,ops.toList[m]? = some x:=⟨_,List.getElem?_eq_getElem (by simp;omega)⟩
  obtain ⟨b,_,hl⟩:=hloc m (by omega) x hx;simp only [sS];split
  ·rename_i hSm;cases hr:ρ m with
   | skip=>exact ih
   | p v=>exact ih
   | q v new=>
    intro j bl hj;show ak.get (sS ρ σ0 S m++new) j=_;rw [bV,ih j bl hj]
   | e v σ'=>
    rw [hr] at hl;rcases hl.2.1.2.2 with h|h
    ·exact h
    ·exact (hS m (by omega) hSm h).elim
  ·exact ih
theorem E8 (hk:ap σk σ0) (hd:ct lo ops=true) (hn:base+4*ops.size≤nx) (hdst : ∀(i:Nat) o x,ops[i]? = some o→o.dst=some x→x<C.n) (hloc : ∀j,j<ops.size→BN P G lo σk ops base ρ F0 σ0 j)
 (hQ : ∀a w,OB C G ops ρ F0 σ0 base nx cm a w→Q .normal a w) :
 ∀(fuel:Nat) (listed:Array Bool) (a:Act) (w:World),listed.size=ops.size→jq ops.toList (dF listed)→OB C G ops ρ F0 σ0 base nx (dF listed) a w→(List.range ops.size).countP (fun j=> !dF listed j)≤fuel→wpAnyIn (Fr fr) 0 P .any ops Q fuel listed a w:=by
 intro fuel;have fin : ∀(listed:Array Bool) (a:Act) (w:World),(∀j,j<ops.size→dF listed j=true)→OB C G ops ρ F0 σ0 base nx (dF listed) a w→Q .normal a w:=by
  intro listed a w hall hrel;apply hQ;obtain ⟨I,β,h1,h2,h3,h4,h5,h6,h7⟩:=hrel;have e1 : ∀m,m≤ops.size→sS ρ σ0 (dF listed) m=sS ρ σ0 cm m:=by
   intro m;induction m with
   | zero=>intro _;rfl
   | succ m ih=>
    intro hm;have q:sS ρ σ0 (dF listed) (m+1)=if dF listed m=true then (ρ m).app (sS ρ σ0 (dF listed) m) else sS ρ σ0 (dF listed) m:=rfl
    rw [q,hall m (by omega),ih (by omega)];rfl
  have e2 : ∀m,m≤ops.size → ∀t,eS ops.toList ρ F0 (dF listed) m t=eS ops.toList ρ F0 cm m t:=by
   intro m;induction m with
   | zero=>intro _ _;rfl
   | succ m ih=>
    intro hm t;have q:eS ops.toList ρ F0 (dF listed) (m+1) t=if dF listed m=true∧(ops.toList[m]?).bind (·.dst)=some t then (ρ m).val else eS ops.toList ρ F0 (dF listed) m t:=rfl
    rw [q,hall m (by omega),ih (by omega)];rfl
  refine ⟨I,β,by rw [←e1 _ (Nat.le_refl _)];exact h1,(fun j _ hj=>by cases hj),h3,(fun t=>by rw [←e2 _ (Nat.le_refl _)];exact h4 t),h5,(by rw [←e1 _ (Nat.le_refl _)];exact h6),h7⟩
 have done : ∀(listed:Array Bool),listed.size=ops.size→Region.ready .any ops listed=[] → ∀j,j<ops.size→dF listed j=true:=by
  intro listed hsz hr j;induction j using Nat.strongRecOn with
  | _ j ih=>
   intro hj;cases hl:dF listed j with
   | true=>rfl
   | false=>
    exfalso;have hoj:ops[j]? = some ops[j]:=by simp [hj]
    have:j∈Region.ready .any ops listed:=by
     unfold Region.ready;simp only [List.mem_filter,List.mem_range,Bool.and_eq_true,Bool.not_eq_true'];refine ⟨hj,hl,?_⟩;rw [hoj];simp only [Option.map_some,Option.getD_some,Array.all_eq_true'];intro e he;cases hb:Region.binds .any e with
     | false=>rfl
     | true=>
      have hlt:=LS hd (j:=j) (y:=ops[j]) (by simp [hj]) (by simpa using he) hb;have:=ih e.on hlt (by omega);simp only [Bool.not_true,Bool.false_or];unfold dF at this;simp only [Array.getD_eq_getD_getElem?] at this ⊢;cases hg:listed[e.on]? with
      | none=>rw [Array.getElem?_eq_none_iff] at hg;omega
      | some b=>rw [hg] at this;simpa using this
    rw [hr] at this;cases this
 induction fuel with
 | zero=>
  intro listed a w hsz hcl hrel hc;have hall : ∀j,j<ops.size→dF listed j=true:=by
   intro j hj;have h0:(List.range ops.size).countP (fun j=> !dF listed j)=0:=by omega
   have:=List.countP_eq_zero.1 h0 j (by simpa using hj);simpa using this
  refine ⟨?_,fin listed a w hall hrel⟩;unfold Region.ready;rw [List.filter_eq_nil_iff];intro j hj;have:=hall j (by simpa using hj);unfold dF at this;simp [this]
 | succ fuel ih=>
  intro listed a w hsz hcl hrel hc;refine ⟨fun hr=>fin listed a w (done listed hsz hr) hrel,fun i hi =>?_⟩;obtain ⟨hi1,hi2,hi3⟩:=GY hi;have hoi:ops[i]? = some ops[i]:=by simp [hi1]
  have hol:ops.toList[i]? = some ops[i]:=by simp [hi1]
  generalize hoo:ops[i]=o at hoi hol;have hS' : ∀j,dF (listed.setIfInBounds i true) j=if j=i then true else dF listed j:=by
   intro j;unfold dF;simp only [Array.getD_eq_getD_getElem?,Array.getElem?_setIfInBounds];by_cases e:i=j
   ·subst e;simp [show i<listed.size by omega]
   ·simp [e,Ne.symm e]
  have hon : ∀e∈o.after.toList,Region.binds .any e=true→dF listed e.on=true:=by
   intro e he hb;have h1:=hi3 o hoi e he hb;unfold dF;simp only [Array.getD_eq_getD_getElem?] at h1 ⊢;cases hg:listed[e.on]? with
   | none=>rfl
   | some b=>rw [hg] at h1;simpa using h1
  have hcl':jq ops.toList (dF (listed.setIfInBounds i true)):=by
   intro j x hx hj e he hb;rw [hS'];rw [hS'] at hj;split
   ·rfl
   ·by_cases hji:j=i
    ·subst hji;rw [hol] at hx;injection hx with hx;subst hx;exact hon e he hb
    ·rw [if_neg hji] at hj;exact hcl j x hx hj e he hb
  have hnx:Nx ops (dF listed) (dF (listed.setIfInBounds i true)) i o:=⟨hol,hi2,hcl,hcl',hS'⟩
  have hcnt:(List.range ops.size).countP (fun j=> !dF (listed.setIfInBounds i true) j)≤fuel:=by
   have h1:(List.range ops.size).countP (fun j=> !dF (listed.setIfInBounds i true) j)<(List.range ops.size).countP (fun j=> !dF listed j):=by
    have h2:(List.range ops.size).countP (fun j=> !dF listed j)=(List.range ops.size).countP (fun j=> !dF (listed.setIfInBounds i true) j)+(List.range ops.size).countP (fun j=>decide (j=i)):=by
     have key : ∀(l:List Nat),l.countP (fun j=> !dF listed j)=l.countP (fun j=> !dF (listed.setIfInBounds i true) j)+l.countP (fun j=>decide (j=i)):=by
      intro l;induction l with
      | nil=>rfl
      | cons x r ihl=>
       simp only [List.countP_cons,ihl,hS'];by_cases hx:x=i
       ·subst hx;rw [show dF listed x=false from hi2];simp;omega
       ·simp [hx];omega
     exact key _
    have h3:0<(List.range ops.size).countP (fun j=>decide (j=i)):=List.countP_pos_iff.2 ⟨i,by simpa using hi1,by simp⟩;omega
   omega
  obtain ⟨I,β,r1,r2,r3,r4,r5,r6,r7⟩:=hrel;obtain ⟨b,l1,l2⟩:=hloc i hi1 o hol;have hlook : ∀t∈f9 ops o,eS ops.toList ρ F0 (dF listed) ops.size t=eS ops.toList ρ F0 cm i t:=by
   intro t ht;rw [hnx.looks hd ht ops.size];by_cases h:ops.size≤i
   ·omega
   ·rw [if_neg h]
  have hwant:=l1 w I β a (fun t ht=>by rw [←hlook t (rN ht)];exact r4 t);have hfree : ∀j,base+4*i≤j→j<base+4*i+4→β j=none:=r2 i hi1 hi2;unfold wpOpIn;rw [hoi];simp only [];rw [hwant];have putOk : ∀ {w':World} {I':Nat→Prop} {β':b7} {u:Value} {σ':ak},ar w I β (sS ρ σ0 (dF listed) ops.size) nx w' I' β' σ' nx→aJ w' I' β' (ρ i).val u → ∀t,aJ w' I' β' (eS ops.toList ρ F0 (dF (listed.setIfInBounds i true)) ops.size t) ((a.put o.dst u).tmps.getD t undef):=by
   intro w' I' β' u σ' hst hu t;rw [hnx.env hd t ops.size];cases hdd:o.dst with
   | none=>
    rw [if_neg (by simp)];exact hst.den r1.mem (r4 t)
   | some d=>
    rw [zx (by rw [r5];exact hdst i o d hoi hdd)];by_cases hdt:d=t
    ·subst hdt;rw [if_pos ⟨hi1,rfl⟩,if_pos rfl];exact hu
    ·rw [if_neg (by simp [hdt]),if_neg hdt];exact hst.den r1.mem (r4 t)
  have hden : ∀x∈o.op.operands.toList,aJ w I β (ep G (eS ops.toList ρ F0 cm i) x) (a.eval x):=by
   intro x hx;cases x with
   | tmp t=>
    have ht:t∈f9 ops o:=rN (by simp only [Oper.looksAt,List.mem_append,List.mem_filterMap];left;exact ⟨_,hx,rfl⟩);show aJ w I β (eS ops.toList ρ F0 cm i t) _;rw [←hlook t ht];exact r4 t
   | const v=>exact aq.lit v
   | global g=>
    show aJ w I β (match G g with|some x=> .d x|none=> .unk) _;cases h:G g with
    | none=>trivial
    | some x=>exact r7 g x h
   | func f=>exact aq.fn f [] [] rfl (by simp)
  cases hr:ρ i with
  | skip=>
   rw [hr] at l2;rw [l2,if_neg (by simp)];have hsig : ∀k,(sS ρ σ0 (dF (listed.setIfInBounds i true)) ops.size).get k=(sS ρ σ0 (dF listed) ops.size).get k:=fun k=>by
    have h1:=hnx.sig hd (new:=[]) (.inr rfl) hloc (by rw [hr];intro σ;simp [lW.app]) (dl _) ops.size (Nat.le_refl _) k;rw [h1,if_pos hi1,List.append_nil]
   refine ⟨fun _ _=>trivial,?_⟩;refine ih _ _ _ (by simpa using hsz) hcl' ⟨I,β,?_,fun j hj hjs=>r2 j hj ?_,r3,?_,by rw [ic];exact r5,by rw [eK];exact r6.congr hsig,r7⟩ hcnt
   ·exact r1.congr hsig
   ·rw [hS'] at hjs;split at hjs
    ·cases hjs
    ·exact hjs
   ·exact putOk (ar.refl r1.mem) (by rw [hr];exact A4)
  | p v=>
   rw [hr] at l2;obtain ⟨e1,e2,e4⟩:=l2;rw [e1,if_pos rfl];have hdo:=e4 _ (fun hci=>Qk hk hloc (dF listed) (fun j hj hjs ha=>by
    have h1:=List.all_eq_true.1 ha i (by simpa using hci);have h2:=OL hcl (by simpa using hj) h1 hjs;rw [show dF listed i=false from hi2] at h2;cases h2) ops.size (Nat.le_refl _)) w I β nx a r1.mem r7 hfree (by omega) hden
   refine hdo.wpIn (fun u w' ⟨I',β',hu,hst,hfr⟩ =>?_);have hsig : ∀k,(sS ρ σ0 (dF (listed.setIfInBounds i true)) ops.size).get k=(sS ρ σ0 (dF listed) ops.size).get k:=fun k=>by
    have h1:=hnx.sig hd (new:=[]) (.inr rfl) hloc (by rw [hr];intro σ;simp [lW.app]) (dl _) ops.size (Nat.le_refl _) k;rw [h1,if_pos hi1,List.append_nil]
   refine ih _ _ _ (by simpa using hsz) hcl' ⟨I',β',?_,fun j hj hjs k hk1 hk2 =>?_,fun k hk =>?_,putOk hst (by rw [hr];exact hu),by rw [ic];exact r5,by rw [eK];exact (r6.step hst).congr hsig,r7.step r1.mem hst⟩ hcnt
   ·exact (r1.trans hst).congr hsig
   ·rw [hS'] at hjs;split at hjs
    ·cases hjs
    ·rw [hfr k (by omega)];exact r2 j hj hjs k hk1 hk2
   ·rw [hfr k (by omega)];exact r3 k hk
  | q v new=>
   rw [hr] at l2;obtain ⟨e1,e2,e3,e4⟩:=l2;rw [e1,if_pos rfl];obtain ⟨τ,hτ⟩:=hnx.under hd e2 hloc ops.size (Nat.le_refl _);have hsub:ap (bS ρ σ0 i) (sS ρ σ0 (dF listed) ops.size):=by
    intro k blk hk;rw [hτ,bV];rw [if_neg (by omega),hk]
   have hdo:=e4 _ hsub w I β nx a r1.mem r7 hfree (by omega) hden;refine hdo.wpIn (fun u w' ⟨I',β',hu,hst,hfr⟩ =>?_);have hsig : ∀k,(sS ρ σ0 (dF (listed.setIfInBounds i true)) ops.size).get k=(sS ρ σ0 (dF listed) ops.size++new).get k:=fun k=>by
    have h1:=hnx.sig hd (new:=new) (.inl e2) hloc (by rw [hr];intro σ;rfl) e3 ops.size (Nat.le_refl _) k;rw [h1,if_pos hi1]
   refine ih _ _ _ (by simpa using hsz) hcl' ⟨I',β',?_,fun j hj hjs k hk1 hk2 =>?_,fun k hk =>?_,putOk hst (by rw [hr];exact hu),by rw [ic];exact r5,by rw [eK];exact (r6.step hst).congr hsig,r7.step r1.mem hst⟩ hcnt
   ·exact (r1.trans hst).congr hsig
   ·rw [hS'] at hjs;split at hjs
    ·cases hjs
    ·rw [hfr k (by omega)];exact r2 j hj hjs k hk1 hk2
   ·rw [hfr k (by omega)];exact r3 k hk
  | e v σ'=>
   rw [hr] at l2;obtain ⟨e1,e2,e4⟩:=l2;rw [e1,if_pos rfl];obtain ⟨s1,s2⟩:=hnx.eff (ρ:=ρ) (σ0:=σ0) hloc e2.1 (yx hd hol e2.2.1) ops.size (Nat.le_refl _);rw [show min ops.size i=i from by omega] at s1;rw [if_pos hi1,hr] at s2;have hmem:cQ w I β (sS ρ σ0 cm i) nx:=by rw [←s1];exact r1.mem
   have hdo:=e4 w I β nx a hmem r7 hfree (by omega) hden;refine hdo.wpIn (fun u w' ⟨I',β',hu,hst,hfr⟩ =>?_);rw [←s1] at hst;refine ih _ _ _ (by simpa using hsz) hcl' ⟨I',β',?_,fun j hj hjs k hk1 hk2 =>?_,fun k hk =>?_,putOk hst (by rw [hr];exact hu),by rw [ic];exact r5,by rw [eK,s2];exact r6.step hst,r7.step r1.mem hst⟩ hcnt
   ·rw [s2];exact r1.trans hst
   ·rw [hS'] at hjs;split at hjs
    ·cases hjs
    ·rw [hfr k (by omega)];exact r2 j hj hjs k hk1 hk2
   ·rw [hfr k (by omega)];exact r3 k hk
theorem iV (hm:P.follows .mixedOrders=true) (hd:ct lo ops=true) (hlo:t5 lo 0 ops.toList=true) (hn:base+4*ops.size≤nx) (hdst : ∀(i:Nat) o x,ops[i]? = some o→o.dst=some x→x<C.n) {K:aN→ak→Prop} {e:aN} {σ:ak} {a:Act} {w:World} {id:Nat}
 (hQ : ∀e σ a w,K e σ→eM C G e σ nx (base+4*ops.size) a w→Q .normal a w) (hk:ap σk σ) (h:opsL P G lo σk ops base 0 ops.toList e σ [] K) (hrel:eM C G e σ nx base a w):(Code.region id ops true).wpIn (Fr fr) 0 P Q a w:=by
 obtain ⟨ρ,e',t1,t2,t3⟩:=trace (fun j o ho hc=>Gm ops.toList 0 hlo j o ho (by rw [Nat.zero_add];exact hc)) (F0:=e.get) (σ0:=σ) ops.toList 0 e σ [] (fun _=> .skip) rfl h (Nat.zero_le _) (fun _=>rfl) rfl (by simp [sS]) (fun j hj=>by omega);refine wpIn_region_any hm ?_;obtain ⟨I,β,r1,r2,r3,r4,r5,r6⟩:=hrel;have hS0 : ∀j,j<ops.size→dF (Array.replicate ops.size false) j=false:=by
  intro j hj;simp [dF,hj]
 have e1 : ∀m,m≤ops.size→sS ρ σ (dF (Array.replicate ops.size false)) m=σ:=by
  intro m;induction m with
  | zero=>intro _;rfl
  | succ m ih=>
   intro hm;have:sS ρ σ (dF (Array.replicate ops.size false)) (m+1)=if dF (Array.replicate ops.size false) m=true then (ρ m).app (sS ρ σ (dF (Array.replicate ops.size false)) m) else sS ρ σ (dF (Array.replicate ops.size false)) m:=rfl
   rw [this,hS0 m (by omega),if_neg (by simp),ih (by omega)]
 refine E8 (ρ:=ρ) (F0:=e.get) (σ0:=σ) (nx:=nx) hk hd hn hdst t1 (fun a' w' hr =>?_) ops.size _ a _ (by simp) (fun j o ho hj =>?_) ⟨I,β,?_,fun j hj _ k hk1 _=>r2 k (by omega),fun k hk=>r2 k (by omega),fun t =>?_,r4,?_,?_⟩ ?_
 ·obtain ⟨I',β',q1,q2,q3,q4,q5,q6,q7⟩:=hr;exact hQ e' _ a' w' t2 ⟨I',β',q1,q3,fun t=>by rw [t3];exact q4 t,q5,q6,q7⟩
 ·have hjs:j<ops.size:=by have:=(List.getElem?_eq_some_iff.1 ho).1;simpa using this
  rw [hS0 j hjs] at hj;cases hj
 ·rw [e1 _ (Nat.le_refl _)];exact r1.trans (ar.drew r1.mem)
 ·have e2 : ∀m,m≤ops.size→eS ops.toList ρ e.get (dF (Array.replicate ops.size false)) m t=e.get t:=by
   intro m;induction m with
   | zero=>intro _;rfl
   | succ m ih=>
    intro hm;have:eS ops.toList ρ e.get (dF (Array.replicate ops.size false)) (m+1) t=if dF (Array.replicate ops.size false) m=true∧(ops.toList[m]?).bind (·.dst)=some t then (ρ m).val else eS ops.toList ρ e.get (dF (Array.replicate ops.size false)) m t:=rfl
    rw [this,hS0 m (by omega),if_neg (by simp),ih (by omega)]
  rw [e2 _ (Nat.le_refl _)];exact (ar.drew r1.mem).den r1.mem (r3 t)
 ·rw [e1 _ (Nat.le_refl _)];exact r5.step (ar.drew r1.mem)
 ·exact r6.step r1.mem (ar.drew r1.mem)
 ·refine Nat.le_trans (List.countP_le_length) (by simp)
end
def DT (n:Nat):List Oper→Bool
 | []=>true
 | o::r=>(match o.dst with|some d=>decide (d<n)|none=>true)&&DT n r
def aP (n:Nat):Code→Bool
 | .skip=>true
 | .region _ ops _=>DT n ops.toList
 | .seq a b=>aP n a&&aP n b
 | .cond _ a b=>aP n a&&aP n b
 | .block _ c=>aP n c
 | .loop c=>aP n c
 | .exit _=>true
 | .ret=>true
 | .label _=>true
 | .refuse _=>true
 | .scope c=>aP n c
 | .rangeFunc _ ps a c=>ps.toList.all (fun p=>decide (p<n))&&aP n a&&aP n c
 | _=>false
def nV:Code→Bool
 | .seq a b=>nV a&&nV b
 | .cond _ a b=>nV a&&nV b
 | .block _ c=>nV c
 | .loop c=>nV c
 | .scope c=>nV c
 | .rangeFunc _ _ _ _=>false
 | _=>true
theorem qW {n:Nat} (l:List Oper) (h:DT n l=true) : ∀(i:Nat) o x,l[i]? = some o→o.dst=some x→x<n:=by
 induction l with
 | nil=>intro i o x hi;simp at hi
 | cons y r ih=>
  intro i o x hi hx;simp only [DT,Bool.and_eq_true] at h;cases i with
  | zero=>
   simp at hi;subst hi;have:=h.1;rw [hx] at this;simpa using this
  | succ i=>exact ih h.2 i o x (by simpa using hi) hx
def cq (G:Gl) (m:Nat) (st st':St):Prop:= ∀C a w,C.nx=m→pS C G st a w→pS C G st' a w
def aC (G:Gl) (m:Nat) (K:St→Prop) (st:St) (_u:Tag K:= .mk) (_h:True:=trivial):Prop:= ∃st',cq G m st st'∧K st'
theorem aC.now {G:Gl} {m:Nat} {K:St→Prop} {st:St} (h:K st):aC G m K st:=⟨st,fun _ _ _ _ h=>h,h⟩
theorem aC.via {G:Gl} {m:Nat} {K:St→Prop} {st st':St} (h:cq G m st st') (k:aC G m K st'):aC G m K st:=by
 obtain ⟨s,h1,h2⟩:=k;exact ⟨s,fun C a w hm hr=>h1 C a w hm (h C a w hm hr),h2⟩
def AR (P:Program) (G:Gl) (fr:Option Nat) (n m:Nat) (c:Code) (st:St) (Q:Exit→St→Prop):Prop:=
 ∀(C:tK) a w,C.n=n→C.nx=m→pS C G st a w→c.wpIn (Fr fr) 0 P (fun e a' w'=> ∃st',Q e st'∧pS C G st' a' w') a w
def AW (P:Program) (G:Gl) (n m:Nat) (c:Code) (st:St) (Q:Exit→St→Prop):Prop:= ∀fr,(fr=none∨nV c=true)→AR P G fr n m c st Q
theorem AR.mono {P:Program} {G:Gl} {fr:Option Nat} {n m:Nat} {c:Code} {st:St} {Q Q':Exit→St→Prop} (h:AR P G fr n m c st Q) (hq : ∀e st,Q e st→Q' e st):AR P G fr n m c st Q':=
 fun C a w hn hm hr=>wpIn_mono (h C a w hn hm hr) fun e _ _ ⟨st',h1,h2⟩=>⟨st',hq e st' h1,h2⟩
theorem AW.mono {P:Program} {G:Gl} {n m:Nat} {c:Code} {st:St} {Q Q':Exit→St→Prop} (h:AW P G n m c st Q) (hq : ∀e st,Q e st→Q' e st):AW P G n m c st Q':=fun fr hfr=>(h fr hfr).mono hq
theorem dX {P:Program} {b:Frame} {a:Act} {k:List Item} {cs:List Frame} {w:World} {c:Code} : step P (lone (b.atR a (.code (.scope c)::k)) cs w) = .next (lone (b.atR a (.code c :: .inScope c::k)) cs w):=
 step_lone_go (by simp [stepG,stepG.exec,Frame.atR])
theorem uE {P:Program} {b:Frame} {a:Act} {k:List Item} {cs:List Frame} {w:World} {c:Code} : step P (lone (b.atR a (.inScope c::k)) cs w) = .next (lone (b.atR a k) cs w):=
 step_lone_go (by simp [stepG,stepG.exec,Frame.atR])
theorem fh {F:Fence} {n:Nat} {P:Program} {Q:Exit→Act→World→Prop} {a:Act} {w:World} {c:Code} (h:c.wpIn F n P (Exit.noGoto Q) a w):(Code.scope c).wpIn F n P Q a w:=by
 intro b k cs hro hb hr;have h0:(lone (b.atR a (.code (.scope c)::k)) cs w).fenced P F:=fenced_calm hb hr rfl;obtain ⟨e,a₁,w₁,hq,harr⟩:=h b (.inScope c::k) cs hro hb hr;cases e with
 | normal=>exact ⟨.normal,a₁,w₁,hq,.head h0 dX (StepsIn.trans harr (.one (fenced_calm hb hr rfl) uE))⟩
 | exit id=>
  have hx:exitTo id (.inScope c::k)=exitTo id k:=by simp [exitTo]
  exact ⟨.exit id,a₁,w₁,hq,fun k' hk=> .head h0 dX (harr.1 k' (by rw [hx];exact hk)),fun hr' hk=>let ⟨k₁,h1,h2⟩:=harr.2 hr' (by rw [hx];exact hk);⟨k₁,h1,.head h0 dX h2⟩⟩
 | goto l=>exact hq.elim
 | ret=>exact ⟨_,a₁,w₁,hq,.of_steps (.one h0 dX) harr⟩
 | panic ch=>exact ⟨_,a₁,w₁,hq,.of_steps (.one h0 dX) harr⟩
 | outgrown=>exact ⟨_,a₁,w₁,hq,.of_steps (.one h0 dX) harr⟩
def kM (P:Program) (G:Gl) (n m:Nat) (c:Code) (st:St) (Q:Exit→St→Prop) (_u:Tag c:= .mk) (_v:Tag Q:= .mk) (_h:True:=trivial):Prop:=AW P G n m (.loop c) st Q
def np (P:Program) (G:Gl) (n m:Nat) (g:Operand) (ps:Array Nat) (asg body:Code) (st:St) (Q:Exit→St→Prop) (_u:Tag body:= .mk) (_v:Tag Q:= .mk) (_w:Tag asg:= .mk) (_h:True:=trivial):Prop:=AW P G n m (.rangeFunc g ps asg body) st Q
def md (v:V) (p q:Prop):Prop:=qB v fun b=>jj b p q
def fv (k:St→Prop) (Q:Exit→St→Prop):Exit→St→Prop
 | .normal,st=>k st
 | e,st=>Q e st
def dK (id:Nat) (Q:Exit→St→Prop):Exit→St→Prop
 | .exit i,st=>if i=id then Q .normal st else Q (.exit i) st
 | e,st=>Q e st
def jX (Q:Exit→St→Prop):Exit→St→Prop
 | .goto _,_=>False
 | e,st=>Q e st
def jR (P:Program) (G:Gl) (lv:List Nat) (ops:Array Oper) (draw:Bool) (K:St→Prop) (st:St):Prop:=if draw=true
 then ∃lo σk,ct lo ops=true∧t5 lo 0 ops.toList=true∧ap σk st.sg∧opsL P G lo σk ops st.nx 0 ops.toList st.env st.sg [] fun e σ=>K ⟨aN.keep lv e,σ,st.nx+4*ops.size⟩
 else mK P G ops st.nx 0 ops.toList st.env st.sg fun e σ=>K ⟨aN.keep lv e,σ,st.nx+4*ops.size⟩
def bC (P:Program) (G:Gl) (n m:Nat) (lv:List Nat):Code→St→(Exit→St→Prop)→Prop
 | .skip,st,Q=>Q .normal st
 | .region _ ops draw,st,Q=>aC G m (jR P G lv ops draw fun st'=>Q .normal st') st
 | .seq a b,st,Q=>bC P G n m lv a st (fv (fun st'=>bC P G n m lv b st' Q) Q)
 | .cond c a b,st,Q=>md (ep G st.env.get c) (bC P G n m lv a st Q) (bC P G n m lv b st Q)
 | .block id c,st,Q=>bC P G n m lv c st (dK id Q)
 | .loop c,st,Q=>kM P G n m c st Q
 | .exit id,st,Q=>Q (.exit id) st
 | .ret,st,Q=>Q .ret st
 | .label _,st,Q=>Q .normal st
 | .scope c,st,Q=>bC P G n m lv c st (jX Q)
 | .rangeFunc g ps a c,st,Q=>np P G n m g ps a c st Q
 | _,_,_=>False
section
variable {P:Program} {G:Gl} {n m:Nat} {lv:List Nat}
theorem eM.keep {C:tK} {e:aN} {σ:ak} {nx lim:Nat} {a:Act} {w:World} (h:eM C G e σ nx lim a w) (lv:List Nat):eM C G (aN.keep lv e) σ nx lim a w:=by
 obtain ⟨I,β,h1,h2,h3,h4⟩:=h;refine ⟨I,β,h1,h2,fun t =>?_,h4⟩;rcases aN.get_keep lv e t with h|h
 ·rw [h];exact h3 t
 ·rw [h];trivial
theorem eM.bump {C:tK} {e:aN} {σ:ak} {nx lim nx':Nat} {a:Act} {w:World} (h:eM C G e σ nx lim a w) (hn:nx≤nx'):eM C G e σ nx' lim a w:=by
 obtain ⟨I,β,h1,h2⟩:=h;exact ⟨I,β,h1.bump hn,h2⟩
theorem yY (ho:P.follows .mixedOrders=true) (fr:Option Nat) : ∀(c:Code) (st:St) (Q:Exit→St→Prop),(fr=none∨nV c=true)→aP n c=true→bC P G n m lv c st Q→AR P G fr n m c st Q:=by
 intro c;induction c with
 | skip=>intro st Q _ _ h C a w _ _ hr;exact wpIn_skip ⟨st,h,hr⟩
 | region id ops draw=>
  intro st Q _ hok h C a w hn hm hr0;obtain ⟨st,hle,h⟩:=h;have hr:=hle C a w hm hr0;simp only [aP] at hok;have hdst : ∀(i:Nat) o x,ops[i]? = some o→o.dst=some x→x<C.n:=fun i o x hi hx=>by rw [hn];exact qW _ hok i o x (by simpa using hi) hx
  have hr':eM C G st.env st.sg (st.nx+4*ops.size) st.nx a w:=eM.bump hr (by omega);cases draw with
  | false=>
   simp only [jR,Bool.false_eq_true,if_false] at h;refine wpIn_region ?_;have:=iW (P:=P) (G:=G) (C:=C) (fr:=fr) (ops:=ops) (base:=st.nx) (nx:=st.nx+4*ops.size) (Q:=fun e a' w'=> ∃st',Q e st'∧pS C G st' a' w') (Nat.le_refl _) hdst (K:=fun e σ=>Q .normal ⟨aN.keep lv e,σ,st.nx+4*ops.size⟩) (fun e σ a w hK hrel=>⟨_,hK,hrel.keep lv⟩) ops.toList 0 st.env st.sg a w rfl h (by simpa using hr') (Nat.zero_le _);rw [List.range_eq_range'];simpa using this
  | true=>
   simp only [jR,if_true] at h;obtain ⟨lo,σk,hd,hlo,hk,h⟩:=h;exact iV (C:=C) ho hd hlo (nx:=st.nx+4*ops.size) (Nat.le_refl _) hdst (K:=fun e σ=>Q .normal ⟨aN.keep lv e,σ,st.nx+4*ops.size⟩) (fun e σ a w hK hrel=>⟨_,hK,hrel.keep lv⟩) hk h hr'
 | seq x y ihx ihy=>
  intro st Q hfr hok h C a w hn hm hr;simp only [nV,Bool.and_eq_true] at hfr;simp only [aP,Bool.and_eq_true] at hok;refine wpIn_seq (wpIn_mono (ihx st _ (hfr.imp id (·.1)) hok.1 h C a w hn hm hr) ?_);rintro e a' w' ⟨st',hq,hr'⟩;cases e with
  | normal=>exact ihy st' Q (hfr.imp id (·.2)) hok.2 hq C a' w' hn hm hr'
  | _=>exact ⟨st',hq,hr'⟩
 | cond c x y ihx ihy=>
  intro st Q hfr hok h C a w hn hm hr;simp only [nV,Bool.and_eq_true] at hfr;simp only [aP,Bool.and_eq_true] at hok;simp only [bC,md] at h;unfold qB at h;split at h
  ·rename_i b hb;obtain ⟨I,β,h1,h2,h3,h4,h5,h6⟩:=id hr;have hd:=pX (e:=st.env) (a:=a) h3 h6 c;rw [hb] at hd;have hc:=aA hd;refine nz h (fun e1 h9 =>?_) (fun e1 h9 =>?_)
   ·subst e1;exact wpIn_cond_true hc (ihx st Q (hfr.imp id (·.1)) hok.1 h9 C a w hn hm hr)
   ·subst e1;exact wpIn_cond_false hc (ihy st Q (hfr.imp id (·.2)) hok.2 h9 C a w hn hm hr)
  ·exact h.elim
 | block id c ih=>
  intro st Q hfr hok h C a w hn hm hr;simp only [aP] at hok;refine wpIn_block (wpIn_mono (ih st _ hfr hok h C a w hn hm hr) ?_);rintro e a' w' ⟨st',hq,hr'⟩;cases e with
  | exit i=>
   simp only [dK] at hq;simp only [Exit.inBlock];split
   ·rename_i hi;rw [if_pos hi] at hq;exact ⟨st',hq,hr'⟩
   ·rename_i hi;rw [if_neg hi] at hq;exact ⟨st',hq,hr'⟩
  | _=>exact ⟨st',hq,hr'⟩
 | loop c _=>intro st Q hfr _ h;exact h fr hfr
 | exit id=>intro st Q _ _ h C a w _ _ hr;exact wpIn_exit ⟨st,h,hr⟩
 | ret=>intro st Q _ _ h C a w _ _ hr;exact wpIn_ret ⟨st,h,hr⟩
 | label l=>intro st Q _ _ h C a w _ _ hr;exact wpIn_label ⟨st,h,hr⟩
 | refuse r=>intro st Q _ _ h;exact h.elim
 | scope c ih=>
  intro st Q hfr hok h C a w hn hm hr;simp only [aP] at hok;refine fh (wpIn_mono (ih st _ hfr hok h C a w hn hm hr) ?_);rintro e a' w' ⟨st',hq,hr'⟩;cases e with
  | goto l=>exact hq.elim
  | _=>exact ⟨st',hq,hr'⟩
 | rangeFunc g ps x y _ _=>intro st Q hfr _ h;exact h fr hfr
 | _=>intro st Q _ hok;simp [aP] at hok
theorem dR (ho:P.follows .mixedOrders=true) (c:Code) (st:St) (Q:Exit→St→Prop) (hok:aP n c=true) (h:bC P G n m lv c st Q):AW P G n m c st Q:=fun fr hfr=>yY ho fr c st Q hfr hok h
theorem Gn (ho:P.follows .mixedOrders=true) {c:Code} (hok:aP n c=true) {st:St} {Q:Exit→St→Prop} (Inv:Nat→St→Prop) (k0:Nat) (h0:Inv k0 st)
 (hr : ∀k st,Inv k st→bC P G n m lv c st (fv (aC G m fun st'=> ∃j,j<k∧Inv j st') Q)):kM P G n m c st Q:=by
 intro fr hfr C a w hn hm hrel b kk cs hro hb hroom;have key : ∀k st a w,Inv k st→pS C G st a w → ∃e a' w',(∃st',Q e st'∧pS C G st' a' w')∧ArrivesIn (Machine.fenced P (Fr fr)) P (lone (b.atR a (.code c :: .inLoop c::kk)) cs w) b kk cs e a' w':=by
  intro k;induction k using Nat.strongRecOn with
  | _ k ih=>
   intro st a w hI hr';obtain ⟨e,a',w',⟨st',hq,hr2⟩,harr⟩:=dR ho c st _ hok (hr k st hI) fr hfr C a w hn hm hr' b (.inLoop c::kk) cs hro hb hroom;cases e with
   | normal=>
    obtain ⟨st',hle,j,hlt,hI'⟩:=hq;obtain ⟨e2,a2,w2,hq2,harr2⟩:=ih j hlt st' a' w' hI' (hle C a' w' hm hr2);exact ⟨e2,a2,w2,hq2,.of_steps (StepsIn.trans harr (.one (fenced_calm hb hroom rfl) stepR_inLoop)) harr2⟩
   | exit id=>exact ⟨_,a',w',⟨st',hq,hr2⟩,.pass (x:= .inLoop c) rfl (fun _ _=> .inl (by simp)) harr⟩
   | goto l=>exact ⟨_,a',w',⟨st',hq,hr2⟩,.pass (x:= .inLoop c) rfl (fun _ _=> .inl (by simp)) harr⟩
   | ret=>exact ⟨_,a',w',⟨st',hq,hr2⟩,.pass (x:= .inLoop c) rfl (fun _ _=> .inl (by simp)) harr⟩
   | panic ch=>exact ⟨_,a',w',⟨st',hq,hr2⟩,.pass (x:= .inLoop c) rfl (fun _ _=> .inl (by simp)) harr⟩
   | outgrown=>exact ⟨_,a',w',⟨st',hq,hr2⟩,.pass (x:= .inLoop c) rfl (fun _ _=> .inl (by simp)) harr⟩
 obtain ⟨e,a',w',hq,harr⟩:=key _ st a w h0 hrel;exact ⟨e,a',w',hq,.of_steps (.one (fenced_calm hb hroom rfl) stepR_loop) harr⟩
end
def V.selA (g:Nat→Option Nat):V→V
 | .d x=> .d x
 | .so id k lo n=>match g id with|some j=> .so j k lo n|none=> .unk
 | .po id o=>match g id with|some j=> .po j o|none=> .unk
 | .pe id k i j=>match g id with|some j'=> .pe j' k i j|none=> .unk
 | .mo id=>match g id with|some j=> .mo j|none=> .unk
 | .it id=>match g id with|some j=> .it j|none=> .unk
 | .yl id=>match g id with|some j=> .yl j|none=> .unk
 | v=>v
def V.sel (g:Nat→Option Nat):V→V
 | .agg cs=> .agg (cs.map (V.selA g))
 | .tup cs=> .tup (cs.map (V.selA g))
 | .fn f cs=> .fn f (cs.map (V.selA g))
 | .d x=> .d x
 | .so id k lo n=>V.selA g (.so id k lo n)
 | .po id o=>V.selA g (.po id o)
 | .pe id k i j=>V.selA g (.pe id k i j)
 | .mo id=>V.selA g (.mo id)
 | .it id=>V.selA g (.it id)
 | .yl id=>V.selA g (.yl id)
 | .unk=> .unk
def aN.sel (g:Nat→Option Nat):aN→aN
 | []=>[]
 | (k,v)::r=>(k,v.sel g)::aN.sel g r
def bF.sel (g:Nat→Option Nat):bF→bF
 | .cell cs ty=> .cell (cs.map (V.sel g)) ty
 | .row k es ty=> .row k es ty
 | .map es=> .map es
 | .iter s pos=> .iter s pos
 | .rc y j e=> .rc y j (e.sel g)
theorem aN.get_sel (g:Nat→Option Nat) (e:aN) (t:Nat):(e.sel g).get t=(e.get t).sel g:=by
 induction e with
 | nil=>rfl
 | cons x r ih=>
  obtain ⟨k,v⟩:=x;simp only [aN.sel,aN.get];split
  ·rfl
  ·exact ih
section
variable {w:World} {I:Nat→Prop} {β β':b7} {g:Nat→Option Nat}
theorem bY.sel (hg : ∀i j,g i=some j → ∀x,β i=some x→β' j=some x) {v:V} {x:Value} (h:bY w I β v x):bY w I β' (v.selA g) x:=by
 cases v with
 | so id k lo n=>
  simp only [V.selA];cases hi:g id with
  | none=>trivial
  | some j=>
   rcases h with ⟨h1,h2⟩|⟨b,cap,c,h1,h2⟩
   ·exact .inl ⟨hg id j hi _ h1,h2⟩
   ·exact .inr ⟨b,cap,c,hg id j hi _ h1,h2⟩
 | po id o=>
  simp only [V.selA];cases hi:g id with
  | none=>trivial
  | some j=>obtain ⟨b,cap,h1,h2⟩:=h;exact ⟨b,cap,hg id j hi _ h1,h2⟩
 | pe id k i j=>
  simp only [V.selA];cases hi:g id with
  | none=>trivial
  | some j=>obtain ⟨b,cap,h1,h2⟩:=h;exact ⟨b,cap,hg id j hi _ h1,h2⟩
 | mo id=>
  simp only [V.selA];cases hi:g id with
  | none=>trivial
  | some j=>obtain ⟨b,cap,h1,h2⟩:=h;exact ⟨b,cap,hg id j hi _ h1,h2⟩
 | it id=>
  simp only [V.selA];cases hi:g id with
  | none=>trivial
  | some j=>obtain ⟨b,cap,h1,h2⟩:=h;exact ⟨b,cap,hg id j hi _ h1,h2⟩
 | yl id=>
  simp only [V.selA];cases hi:g id with
  | none=>trivial
  | some j=>obtain ⟨b,cap,h1,h2⟩:=h;exact ⟨b,cap,hg id j hi _ h1,h2⟩
 | _=>exact h
theorem bR.sel (hg : ∀i j,g i=some j → ∀x,β i=some x→β' j=some x) {cs:List V} {vs:List Value} (h:bR w I β cs vs):bR w I β' (cs.map (V.selA g)) vs:=by
 refine ⟨by simpa using h.1,fun i c v hc hv =>?_⟩;simp only [List.getElem?_map,Option.map_eq_some_iff] at hc;obtain ⟨c',hc',rfl⟩:=hc;exact (h.2 i c' v hc' hv).sel hg
theorem aJ.sel (hg : ∀i j,g i=some j → ∀x,β i=some x→β' j=some x) {v:V} {x:Value} (h:aJ w I β v x):aJ w I β' (v.sel g) x:=by
 have atoms : ∀ {v:V},bY w I β v x→bY w I β' (v.selA g) x→aJ w I β' (v.selA g) x:=by
  intro v h1 h2;cases v<;>simp only [V.selA] at h2 ⊢ <;> first
   | exact h2
   | exact h2.elim
   | (split<;>first|trivial|(rename_i q;rw [q] at h2;exact h2))
 cases v with
 | agg cs=>obtain ⟨vs,e,ho,h⟩:=h;exact ⟨vs,e,ho,h.sel hg⟩
 | tup cs=>obtain ⟨vs,e,h⟩:=h;exact ⟨vs,e,h.sel hg⟩
 | fn f cs=>obtain ⟨vs,e,h⟩:=h;exact ⟨vs,e,h.sel hg⟩
 | unk=>trivial
 | d x=>exact h
 | so id k lo n=>exact atoms (v:= .so id k lo n) h (bY.sel hg (v:= .so id k lo n) h)
 | po id o=>exact atoms (v:= .po id o) h (bY.sel hg (v:= .po id o) h)
 | pe id k i j=>exact atoms (v:= .pe id k i j) h (bY.sel hg (v:= .pe id k i j) h)
 | mo id=>exact atoms (v:= .mo id) h (bY.sel hg (v:= .mo id) h)
 | it id=>exact atoms (v:= .it id) h (bY.sel hg (v:= .it id) h)
 | yl id=>exact atoms (v:= .yl id) h (bY.sel hg (v:= .yl id) h)
theorem ji.sel (hg : ∀i j,g i=some j → ∀x,β i=some x→β' j=some x) {i j:Nat} {blk:bF} (hij:g i=some j) (h:ji w I β i blk):ji w I β' j (blk.sel g):=by
 cases blk with
 | cell cs ty=>
  obtain ⟨b,cap,cur,t,h1,h2,h3,h4⟩:=h;refine ⟨b,cap,cur,t,hg i j hij _ h1,h2,h3,fun m c hm =>?_⟩;simp only [List.getElem?_map,Option.map_eq_some_iff] at hm;obtain ⟨c',hc',rfl⟩:=hm;obtain ⟨v,v1,v2,v3⟩:=h4 m c' hc';exact ⟨v,v1,v2,v3.sel hg⟩
 | row k es ty=>
  rcases h with ⟨h1,h2⟩|⟨b,cap,cur,t,h1,h2⟩
  ·exact .inl ⟨hg i j hij _ h1,h2⟩
  ·exact .inr ⟨b,cap,cur,t,hg i j hij _ h1,h2⟩
 | map es=>obtain ⟨b,cap,ents,clock,h1,h2⟩:=h;exact ⟨b,cap,ents,clock,hg i j hij _ h1,h2⟩
 | iter s pos=>obtain ⟨b,cap,h1,h2⟩:=h;exact ⟨b,cap,hg i j hij _ h1,h2⟩
 | rc y q e=>
  obtain ⟨b,cap,r,h1,h2,h3,h4,h5⟩:=h;refine ⟨b,cap,r,hg i j hij _ h1,h2,h3,h4,fun t =>?_⟩;rw [aN.get_sel];exact (h5 t).sel hg
end
def Jh:List Nat→Nat→Nat→Option Nat
 | [],_,_=>none
 | x::r,i,m=>if x=i then some m else Jh r i (m+1)
def jZ (m:Nat) (l:List Nat):Nat→Option Nat:=fun i=>if i<m then some i else Jh l i m
def ak.sel (g:Nat→Option Nat):ak→ak
 | []=>[]
 | (i,b)::r=>match g i with
  | some j=>(j,b.sel g)::ak.sel g r
  | none=>ak.sel g r
def St.sel (st:St) (m:Nat) (l:List Nat):St:=⟨st.env.sel (jZ m l),st.sg.sel (jZ m l),m+l.length⟩
theorem ee : ∀ {l:List Nat} {i m j:Nat},Jh l i m=some j→m≤j∧j<m+l.length∧l[j - m]? = some i
 | x::r,i,m,j,h=>by
  unfold Jh at h;split at h
  ·rename_i hx;injection h with h;subst h;subst hx;exact ⟨Nat.le_refl _,by simp,by simp⟩
  ·obtain ⟨h1,h2,h3⟩:=ee h;refine ⟨by omega,by simp;omega,?_⟩;rw [show j - m=(j - (m+1))+1 from by omega];simpa using h3
theorem ak.get_sel {g:Nat→Option Nat} (hinj : ∀i i' j,g i=some j→g i'=some j→i=i') : ∀(σ:ak) (j:Nat) b,(σ.sel g).get j=some b → ∃i b',g i=some j∧σ.get i=some b'∧b=b'.sel g
 | [],j,b,h=>by simp [ak.sel,ak.get] at h
 | (i,c)::r,j,b,h=>by
  simp only [ak.sel] at h;cases hi:g i with
  | none=>
   rw [hi] at h;obtain ⟨i',b',h1,h2,h3⟩:=ak.get_sel hinj r j b h;refine ⟨i',b',h1,?_,h3⟩;simp only [ak.get];rw [if_neg]
   ·exact h2
   ·rintro rfl;rw [hi] at h1;cases h1
  | some j'=>
   rw [hi] at h;simp only [ak.get] at h;split at h
   ·rename_i hj;subst hj;injection h with h;exact ⟨i,c,hi,by simp [ak.get],h.symm⟩
   ·rename_i hj;obtain ⟨i',b',h1,h2,h3⟩:=ak.get_sel hinj r j b h;refine ⟨i',b',h1,?_,h3⟩;simp only [ak.get];rw [if_neg]
    ·exact h2
    ·rintro rfl;rw [hi] at h1;injection h1 with h1;exact hj h1
theorem Kp (m:Nat) (l:List Nat) : ∀i i' j,jZ m l i=some j→jZ m l i'=some j→i=i':=by
 intro i i' j h h';unfold jZ at h h';split at h
 ·split at h'
  ·injection h with h;injection h' with h';omega
  ·injection h with h;obtain ⟨q1,_⟩:=ee h';omega
 ·split at h'
  ·injection h' with h';obtain ⟨q1,_⟩:=ee h;omega
  ·obtain ⟨_,_,q3⟩:=ee h;obtain ⟨_,_,q3'⟩:=ee h';rw [q3] at q3';injection q3'
theorem cq.sel (G:Gl) (m:Nat) (st:St) (l:List Nat):cq G m st (st.sel m l):=by
 intro C a w hm hr;obtain ⟨I,β,h1,h2,h3,h4,h5,h6⟩:=hr;have hinj:=Kp m l;let β':b7:=fun j=>if j<m then β j else match l[j - m]? with|some i=>β i|none=>none
 have hg : ∀i j,jZ m l i=some j → ∀x,β i=some x→β' j=some x:=by
  intro i j hij x hx;unfold jZ at hij;split at hij
  ·rename_i hlt;injection hij with hij;subst hij;simp [β',hlt,hx]
  ·obtain ⟨q1,q2,q3⟩:=ee hij;simp [β',show ¬j<m by omega,q3,hx]
 have hgb : ∀i j,jZ m l i=some j→β' j=β i:=by
  intro i j hij;unfold jZ at hij;split at hij
  ·rename_i hlt;injection hij with hij;subst hij;simp [β',hlt]
  ·obtain ⟨q1,q2,q3⟩:=ee hij;simp [β',show ¬j<m by omega,q3]
 refine ⟨I,β',⟨⟨fun j b hj =>?_,fun j j' b b' k c c' g1 g2 g3 g4 =>?_,fun j hj =>?_,h1.mem.lt⟩,h1.os,h1.tape,h1.output,h1.size,h1.block,h1.imm,h1.immn,fun i x hx =>?_,?_,fun k ⟨j,b,c,g1,g2⟩ =>?_⟩,fun j hj =>?_,fun t =>?_,h4,h5.sub (fun k ⟨j,b,c,g1,g2⟩ =>?_) (fun b h=> .inl h),h6⟩
 ·obtain ⟨i,b',q1,q2,q3⟩:=ak.get_sel hinj _ j b hj;subst q3;exact (h1.mem.own i b' q2).sel hg q1
 ·obtain ⟨i,x,q1,q2,q3⟩:=ak.get_sel hinj _ j b g1;obtain ⟨i',x',q1',q2',q3'⟩:=ak.get_sel hinj _ j' b' g2;rw [hgb i j q1] at g3;rw [hgb i' j' q1'] at g4;have:=h1.mem.inj i i' x x' k c c' q2 q2' g3 g4;subst this;rw [q1] at q1';injection q1'
 ·have hj':m+l.length≤j:=hj;show (if j<m then β j else match l[j - m]? with|some i=>β i|none=>none)=none;rw [if_neg (by omega),List.getElem?_eq_none (by omega)]
 ·have hi:i<m:=by
   rcases Nat.lt_or_ge i m with h|h
   ·exact h
   ·rw [C.free i (by omega)] at hx;cases hx
  show (if i<m then β i else _)=some x;rw [if_pos hi];exact h1.bet i x hx
 ·show C.nx≤m+l.length;omega
 ·obtain ⟨i,b',q1,q2,q3⟩:=ak.get_sel hinj _ j b g1;rw [hgb i j q1] at g2;exact h1.own' k ⟨i,b',c,q2,g2⟩
 ·have hj':m+l.length≤j:=hj;show (if j<m then β j else match l[j - m]? with|some i=>β i|none=>none)=none;rw [if_neg (by omega),List.getElem?_eq_none (by omega)]
 ·show aJ w I β' ((st.env.sel _).get t) _;rw [aN.get_sel];exact (h3 t).sel hg
 ·obtain ⟨i,b',q1,q2,q3⟩:=ak.get_sel hinj _ j b g1;rw [hgb i j q1] at g2;exact ⟨i,b',c,q2,g2⟩
def St.frz (st:St) (id:Nat):St:=match st.sg.get id with
 | some blk=>⟨st.env.frz id blk,st.sg.frz id blk,st.nx⟩
 | none=>st
theorem cq.refl (G:Gl) (m:Nat) (st:St):cq G m st st:=fun _ _ _ _ h=>h
theorem cq.trans {G:Gl} {m:Nat} {a b c:St} (h:cq G m a b) (k:cq G m b c):cq G m a c:=fun C x w hm hr=>k C x w hm (h C x w hm hr)
theorem cq.frz (G:Gl) (m:Nat) (st:St) (id:Nat):cq G m st (st.frz id):=by
 intro C a w _ hr;unfold St.frz;cases hg:st.sg.get id with
 | none=>exact hr
 | some blk=>
  obtain ⟨I,β,h1,h2,h3,h4,h5,h6⟩:=hr;have hown:=h1.mem.own id blk hg;let I':Nat→Prop:=fun b=>I b ∨ ∃c,β id=some (some (b,c))
  have hset:wO w I I' β id blk:=⟨fun b hb=> .inl hb,hown,fun b c hb=> .inr ⟨c,hb⟩⟩
  refine ⟨I',β,⟨⟨fun j b hj =>?_,fun j j' b b' k c c' g1 g2 g3 g4 =>?_,h1.mem.free,fun b hb =>?_⟩,h1.os,h1.tape,h1.output,h1.size,h1.block,fun b hb=> .inl (h1.imm b hb),fun b hb =>?_,h1.bet,h1.nx,fun b ⟨j,bl,c,g1,g2⟩ =>?_⟩,h2,fun t =>?_,h4,h5.sub (fun b ⟨j,bl,c,g1,g2⟩ =>?_) (fun b hb =>?_),fun g x hx=>(h6 g x hx).keep (fun _ _=>rfl) (fun b hb=> .inl hb)⟩
  ·have hj':(st.sg.frz id blk).get j=some b:=hj;rw [ak.get_frz] at hj';split at hj'
   ·cases hj'
   ·rename_i hne;simp only [Option.map_eq_some_iff] at hj';obtain ⟨b0,hb0,rfl⟩:=hj';have ho:=h1.mem.own j b0 hb0;have hni : ∀b c,β j=some (some (b,c)) → ¬I' b:=by
     intro b c hb hI;rcases hI with hI|⟨c',hc'⟩
     ·exact (ho.not_imm hb).1 hI
     ·exact hne (h1.mem.inj j id b0 blk b c c' hb0 hg hb hc')
    cases b0 with
    | cell cs ty=>
     obtain ⟨b,cap,cur,t,q1,q2,q3,q4⟩:=ho;refine ⟨b,cap,cur,t,q1,q2,hni b cap q1,fun i c hi =>?_⟩;simp only [List.getElem?_map,Option.map_eq_some_iff] at hi;obtain ⟨c',hc',rfl⟩:=hi;obtain ⟨v,v1,v2,v3⟩:=q4 i c' hc';exact ⟨v,v1,v2,hset.den v3⟩
    | row k es ty=>exact ho.keep (fun _ _=>rfl) (fun b hb=> .inl hb) hni (fun _ _ h=>h)
    | map es=>exact ho.keep (fun _ _=>rfl) (fun b hb=> .inl hb) hni (fun _ _ h=>h)
    | iter s pos=>exact ho.keep (fun _ _=>rfl) (fun b hb=> .inl hb) hni (fun _ _ h=>h)
    | rc y q e=>
     obtain ⟨b,cap,r,q1,q2,q3,q4,q5⟩:=ho;refine ⟨b,cap,r,q1,q2,hni b cap q1,q4,fun t =>?_⟩;rw [aN.get_frz];exact hset.den (q5 t)
  ·have e1:(st.sg.frz id blk).get j=some b:=g1;have e2:(st.sg.frz id blk).get j'=some b':=g2;rw [ak.get_frz] at e1 e2;split at e1
   ·cases e1
   ·split at e2
    ·cases e2
    ·simp only [Option.map_eq_some_iff] at e1 e2;obtain ⟨x,hx,_⟩:=e1;obtain ⟨y,hy,_⟩:=e2;exact h1.mem.inj j j' x y k c c' hx hy g3 g4
  ·rcases hb with hb|⟨c,hb⟩
   ·exact h1.mem.lt b hb
   ·exact (hown.not_imm hb).2
  ·rcases hb with hb|⟨c,hb⟩
   ·exact h1.immn b hb
   ·rcases h1.own' b ⟨id,blk,c,hg,hb⟩ with h|h
    ·exact .inr (.inl h)
    ·exact .inr (.inr h)
  ·have e1:(st.sg.frz id blk).get j=some bl:=g1;rw [ak.get_frz] at e1;split at e1
   ·cases e1
   ·simp only [Option.map_eq_some_iff] at e1;obtain ⟨x,hx,_⟩:=e1;exact h1.own' b ⟨j,x,c,hx,g2⟩
  ·show aJ w I' β ((st.env.frz id blk).get t) _;rw [aN.get_frz];exact hset.den (h3 t)
  ·have e1:(st.sg.frz id blk).get j=some bl:=g1;rw [ak.get_frz] at e1;split at e1
   ·cases e1
   ·simp only [Option.map_eq_some_iff] at e1;obtain ⟨x,hx,_⟩:=e1;exact ⟨j,x,c,hx,g2⟩
  ·rcases hb with hb|⟨c,hb⟩
   ·exact .inl hb
   ·exact .inr ⟨id,blk,c,hg,hb⟩
def St.pick (st:St) (ks is:List Nat):St:=⟨ks.map fun t=>(t,st.env.get t),is.filterMap fun i=>(st.sg.get i).map fun b=>(i,b),st.nx⟩
theorem aN.get_map (f:Nat→V) (t:Nat) : ∀(ks:List Nat),aN.get (ks.map fun t=>(t,f t)) t=f t∨aN.get (ks.map fun t=>(t,f t)) t = .unk
 | []=> .inr rfl
 | k::r=>by
  simp only [List.map_cons,aN.get];split
  ·rename_i h;subst h;exact .inl rfl
  ·exact aN.get_map f t r
theorem ak.get_pick (σ:ak) (j:Nat) (b:bF) : ∀(is:List Nat),ak.get (is.filterMap fun i=>(σ.get i).map fun b=>(i,b)) j=some b→σ.get j=some b
 | [],h=>by cases h
 | k::r,h=>by
  cases hk:σ.get k with
  | none=>
   simp only [List.filterMap_cons,hk,Option.map_none] at h;exact ak.get_pick σ j b r h
  | some c=>
   simp only [List.filterMap_cons,hk,Option.map_some,ak.get] at h;split at h
   ·rename_i e;subst e;rw [hk];exact h
   ·exact ak.get_pick σ j b r h
theorem ar.sub {w w':World} {I I':Nat→Prop} {β β':b7} {σ σ' σ'':ak} {nx nx' nx'':Nat} (h:ar w I β σ nx w' I' β' σ' nx') (he : ∀j b,σ''.get j=some b→σ'.get j=some b) (hn:nx'≤nx''):ar w I β σ nx w' I' β' σ'' nx'':=
 { h with
  mem:=⟨fun id b hb=>h.mem.own id b (he _ _ hb),fun i j b b' k c c' h1 h2=>h.mem.inj i j b b' k c c' (he _ _ h1) (he _ _ h2),fun j hj=>h.mem.free j (by omega),h.mem.lt⟩
  nx:=by have:=h.nx;omega
  own':=fun b ⟨id,blk,c,h1,h2⟩=>h.own' b ⟨id,blk,c,he _ _ h1,h2⟩ }
theorem cq.pick (G:Gl) (m:Nat) (st:St) (ks is:List Nat):cq G m st (st.pick ks is):=by
 intro C a w _ hr;obtain ⟨I,β,h1,h2,h3,h4,h5,h6⟩:=hr;refine ⟨I,β,h1.sub (fun j b hb=>ak.get_pick _ j b is hb) (Nat.le_refl _),h2,fun t =>?_,h4,h5.sub (fun b ⟨j,bl,c,g1,g2⟩=>⟨j,bl,c,ak.get_pick _ j bl is g1,g2⟩) (fun b h=> .inl h),h6⟩;rcases aN.get_map (fun t=>st.env.get t) t ks with h|h
 ·show aJ w I β (aN.get (ks.map fun t=>(t,st.env.get t)) t) _;rw [h];exact h3 t
 ·show aJ w I β (aN.get (ks.map fun t=>(t,st.env.get t)) t) _;rw [h];trivial
def V.atm (v:V):V:=match v with
 | .agg _=> .unk
 | .tup _=> .unk
 | .fn _ _=> .unk
 | v=>v
def pH:List V→V
 | [v]=>v
 | vs=> .tup (vs.map V.atm)
def n9 (P:Program):List ResultVar→St→(List V→Prop)→Prop
 | [],_,K=>K []
 | .tmp t::r,st,K=>n9 P r st fun vs=>K (st.env.get t::vs)
 | .cell a t::r,st,K=>eB P t (st.env.get a) st.sg fun v=>n9 P r st fun vs=>K (v::vs)
def ae (P:Program) (G:Gl) (m:Nat) (rs:List ResultVar) (r:V) (σ':ak) (st:St):Prop:=
 aC G m (fun st=>n9 P rs st fun vs=> ∃l:List Nat,(pH vs).sel (jZ m l)=r∧ap σ' (st.sg.sel (jZ m l))∧l.length≤4) st
def AN (K:St→Prop):Exit→St→Prop
 | .normal,st=>K st
 | .ret,st=>K st
 | _,_=>False
def an (P:Program) (G:Gl) (f:Nat) (args:List V) (σ:ak) (m:Nat) (r:V) (σ':ak):Prop:=
 ∀w I β vals,cQ w I β σ m→E1 G w I→cH w I β args vals→Calls P f vals.toArray w fun e w'=> ∃u I' β',e = .returned u∧aJ w' I' β' r u∧ar w I β σ m w' I' β' σ' (m+4)
def gn:Nat→List V→aN
 | _,[]=>[]
 | i,v::r=>(i,v)::gn (i+1) r
theorem zy (args:List V) : ∀(i t:Nat),(gn i args).get t=if i≤t then (args[t - i]?).getD .unk else .unk:=by
 induction args with
 | nil=>intro i t;simp [gn,aN.get]
 | cons v r ih=>
  intro i t;simp only [gn,aN.get];split
  ·rename_i h;subst h;simp
  ·rename_i h;rw [ih];by_cases h1:i+1≤t
   ·rw [if_pos h1,if_pos (by omega),show t - i=(t - (i+1))+1 from by omega];simp
   ·rw [if_neg h1,if_neg (by omega)]
section
variable {P:Program} {G:Gl}
theorem LO {w:World} {I:Nat→Prop} {β:b7} {v:V} {x:Value} (h:aJ w I β v x):bY w I β v.atm x:=by
 cases v<;>first|exact h|trivial
def lI (tmps:Array Value):ResultVar→Sem Value
 | .tmp t=>pure (tmps.getD t undef)
 | .cell a t=>do loadVar t (←asAddr (tmps.getD a undef))
theorem sw (fn:Func) (tmps:Array Value):results fn tmps=(do let vs ←fn.results.mapM (lI tmps);pure (if h:vs.size=1 then vs[0] else .tuple vs)):=by
 unfold results;congr 2
theorem Gs {P:Program} {w:World} {α:Type} (f:α→Sem Value) (rs:List α) (xs:List Value) (hl:rs.length=xs.length) (h : ∀(i:Nat) r x,rs[i]? = some r→xs[i]? = some x→(f r).run P w = .ok x w):(rs.mapM f).run P w = .ok xs w:=by
 induction rs generalizing xs with
 | nil=>
  cases xs with
  | nil=>simp
  | cons=>simp at hl
 | cons r rs ih=>
  cases xs with
  | nil=>simp at hl
  | cons x xs=>
   have h0:=h 0 r x rfl rfl;have h1:=ih xs (by simpa using hl) (fun i r x hr hx=>h (i+1) r x (by simpa using hr) (by simpa using hx));rw [List.mapM_cons];simp only [Sem.run_bind,Sem.run_pure,Result.andThen,h0,h1]
theorem Db {w:World} {I:Nat→Prop} {β:b7} {nx:Nat} {st:St} {tmps:Array Value} (hm:cQ w I β st.sg nx) (he : ∀t,aJ w I β (st.env.get t) (tmps.getD t undef)) :
 ∀(rs:List ResultVar) (K:List V→Prop),n9 P rs st K →
   ∃(vs:List V) (xs:List Value),K vs∧vs.length=xs.length∧(∀(i:Nat) c v,vs[i]? = some c→xs[i]? = some v→aJ w I β c v)∧rs.length=xs.length ∧ ∀(i:Nat) r x,rs[i]? = some r→xs[i]? = some x→(lI tmps r).run P w = .ok x w:=by
 intro rs;induction rs with
 | nil=>intro K h;exact ⟨[],[],h,rfl,by simp,rfl,by simp⟩
 | cons r rs ih=>
  intro K h;have key : ∀(v:V) (x:Value),aJ w I β v x→(lI tmps r).run P w = .ok x w→n9 P rs st (fun vs=>K (v::vs)) → ∃(vs:List V) (xs:List Value),K vs∧vs.length=xs.length∧(∀(i:Nat) c v,vs[i]? = some c→xs[i]? = some v→aJ w I β c v)∧(r::rs).length=xs.length ∧ ∀(i:Nat) r' x,(r::rs)[i]? = some r'→xs[i]? = some x→(lI tmps r').run P w = .ok x w:=by
   intro v x hv hx h;obtain ⟨vs,xs,h1,h2,h3,h4,h5⟩:=ih _ h;refine ⟨v::vs,x::xs,h1,by simp [h2],fun i c y hc hy =>?_,by simp [h4],fun i r' y hr hy =>?_⟩
   ·cases i with
    | zero=>simp at hc hy;subst hc;subst hy;exact hv
    | succ i=>exact h3 i c y (by simpa using hc) (by simpa using hy)
   ·cases i with
    | zero=>simp at hr hy;subst hr;subst hy;exact hx
    | succ i=>exact h5 i r' y (by simpa using hr) (by simpa using hy)
  cases r with
  | tmp t=>exact key _ _ (he t) (by simp [lI]) h
  | cell a t=>
   obtain ⟨v,q1,q2⟩:=oV h;obtain ⟨x,q3,q4⟩:=q2 w I β st.sg nx (tmps.getD a undef) hm (fun _ _ h=>h) (he a);refine key v x q4 ?_ q1;cases hv:tmps.getD a undef with
   | pointer o=>
    cases o with
    | some ad=>rw [hv] at q3;simp only [lI,hv,asAddr];exact q3
    | none=>rw [hv] at q3;simp [Instr.loadAt,Instr.sureAddr,stuck] at q3
   | _=>rw [hv] at q3;simp [Instr.loadAt,Instr.sureAddr,stuck] at q3
theorem LP {w:World} {I:Nat→Prop} {β:b7} : ∀ {vs:List V} {xs:List Value},vs.length=xs.length→(∀(i:Nat) c v,vs[i]? = some c→xs[i]? = some v→aJ w I β c v)→aJ w I β (pH vs) (if h:xs.toArray.size=1 then xs.toArray[0] else .tuple xs.toArray)
 | [v],[x],_,h=>by simpa [pH] using h 0 v x rfl rfl
 | [],[],_,_=>by simp only [pH];exact ⟨[],by simp,by simp [bR]⟩
 | v::v'::vs,x::x'::xs,hl,h=>by
  simp only [pH];refine ⟨x::x'::xs,by simp,by simpa using hl,fun i c u hc hu =>?_⟩;simp only [List.getElem?_map,Option.map_eq_some_iff] at hc;obtain ⟨c',hc',rfl⟩:=hc;exact LO (h i c' u hc' hu)
 | [],_::_,hl,_=>by simp at hl
 | [_],[],hl,_=>by simp at hl
 | [_],_::_::_,hl,_=>by simp at hl
 | _::_::_,[],hl,_=>by simp at hl
 | _::_::_,[_],hl,_=>by simp at hl
theorem yJ {fn:Func} {rs:List ResultVar} (hrs:fn.results=rs.toArray) {C:tK} {r:V} {σ':ak} {st:St} {a:Act} {w:World} (h:ae P G C.nx rs r σ' st) (hr:pS C G st a w) :
 ∃v,(results fn a.tmps).run P w = .ok v w ∧ ∃I' β',aJ w I' β' r v∧ar C.w C.I C.β C.σ C.nx w I' β' σ' (C.nx+4):=by
 obtain ⟨st',h1,h2⟩:=h;obtain ⟨I,β,g1,g2,g3,g4,g5,g6⟩:=h1 C a w rfl hr;obtain ⟨vs,xs,⟨l,k1,k2,k3⟩,k4,k5,k6,k7⟩:=Db g1.mem g3 rs _ h2;have hrun:=Gs (P:=P) (w:=w) (lI a.tmps) rs xs k6 k7;have hres:(results fn a.tmps).run P w = .ok (if h:xs.toArray.size=1 then xs.toArray[0] else .tuple xs.toArray) w:=by
  rw [sw,hrs,List.mapM_toArray];simp only [Sem.run_bind,Sem.run_map,hrun,Result.andThen,Sem.run_pure]
 have hden:=LP (w:=w) (I:=I) (β:=β) k4 k5;clear k6 k7 hrun;revert hres hden;generalize (if h:xs.toArray.size=1 then xs.toArray[0] else Value.tuple xs.toArray)=u;intro hres hden;have hrel:pS { C with n:=1,hd:=[] } G ⟨[(0,pH vs)],st'.sg,st'.nx⟩ { tmps :=#[u],defers:=[] } w:=by
  refine ⟨I,β,g1,g2,fun t =>?_,rfl,js.nil,g6⟩;show aJ w I β (if 0=t then pH vs else .unk) _;split
  ·rename_i e;subst e;exact hden
  ·trivial
 obtain ⟨I',β',q1,_,q3,_⟩:=cq.sel G C.nx ⟨[(0,pH vs)],st'.sg,st'.nx⟩ l { C with n:=1,hd:=[] } { tmps :=#[u],defers:=[] } w rfl hrel;refine ⟨_,hres,I',β',?_,q1.sub k2 (by show C.nx+l.length≤C.nx+4;omega)⟩;subst k1;exact q3 0
theorem eM.shut {C:tK} (hC:C.hd=[]) {e:aN} {σ:ak} {nx lim D:Nat} {ds:List Deferred} {tmps:Array Value} {w:World} (h:eM C G e σ nx lim { tmps:=tmps,defers :={ target:= .collected D,args :=#[] } :: ds } w) :
 w.heap[D]? = some (.deferred (some []))∧eM C G e σ nx lim { tmps:=tmps,defers:=ds } (w.putObj D (.deferred none)):=by
 obtain ⟨I,β,h1,h2,h3,h4,⟨⟨Ds,q1,q2,q3⟩,_⟩,h6⟩:=h;match Ds,q1,q2,q3 with
 | [],q1,_,_=>simp at q1
 | D'::r,q1,q2,q3=>
  simp only [List.map_cons,List.cons.injEq,Deferred.mk.injEq,Target.collected.injEq,and_true] at q1;obtain ⟨rfl,rfl⟩:=q1;obtain ⟨g1,g2,g3,g4⟩:=q3 D (by simp);have hI : ∀b,I b→(w.putObj D (.deferred none)).heap[b]? = w.heap[b]? :=fun b hb=>World.putObj_heap_other (fun e=>g3 (e▸hb))
  have hO : ∀b,bD σ β b→(w.putObj D (.deferred none)).heap[b]? = w.heap[b]? :=fun b hb=>World.putObj_heap_other (fun e=>g4 (e▸hb))
  refine ⟨g2,I,β,⟨⟨fun id blk hb =>?_,h1.mem.inj,h1.mem.free,fun b hb =>?_⟩,h1.os,h1.tape,h1.output,?_,fun b hb ho =>?_,h1.imm,h1.immn,h1.bet,h1.nx,h1.own'⟩,h2,fun t=>(h3 t).keep hI (fun _ h=>h) (fun _ _ h=>h),h4,⟨⟨r,rfl,(List.nodup_cons.1 q2).2,fun D' hD' =>?_⟩,fun p hp=>by rw [hC] at hp;cases hp⟩,fun g x hx=>(h6 g x hx).keep hI (fun _ h=>h)⟩
  ·have ho:=h1.mem.own id blk hb;refine ho.keep (fun b hb' =>?_) (fun _ h=>h) (fun b c hc=>(ho.not_imm hc).1) (fun _ _ h=>h);rcases hb' with hb'|⟨c,hc⟩
   ·exact hI b hb'
   ·exact hO b ⟨id,blk,c,hb,hc⟩
  ·rw [World.putObj_size];exact h1.mem.lt b hb
  ·rw [World.putObj_size];exact h1.size
  ·rw [World.putObj_heap_other (by omega)];exact h1.block b hb ho
  ·obtain ⟨k1,k2,k3,k4⟩:=q3 D' (by simp [hD']);refine ⟨k1,?_,k3,k4⟩;rw [World.putObj_heap_other (fun e=>(List.nodup_cons.1 q2).1 (by rw [←e];exact hD'))];exact k2
theorem xA {fn:Func} {C:tK} (hC:C.hd=[]) {st:St} {tmps:Array Value} {R:Ending→World→Prop} (hf : ∀w,pS C G st { tmps:=tmps,defers:=[] } w → ∃v,(results fn tmps).run P w = .ok v w∧R (.returned v) w) :
 ∀(ds:List Deferred) (w:World),pS C G st { tmps:=tmps,defers:=ds } w→LeavesInM (Fr none) 0 P fn tmps R ds .returning w
 | [],w,h=>hf w h
 | d::ds,w,h=>by
  obtain ⟨D,rfl⟩ : ∃D,d = { target:= .collected D,args :=#[] } :=by
   obtain ⟨I,β,h1,h2,h3,h4,⟨⟨Ds,q1,q2,q3⟩,_⟩,h6⟩:=id h;match Ds,q1 with
   | [],q1=>simp at q1
   | D::r,q1=>
    simp only [List.map_cons,List.cons.injEq] at q1;exact ⟨D,q1.1⟩
  obtain ⟨g1,g2⟩:=eM.shut hC h;exact ⟨(fun e=>by cases e),.inl ⟨D,_,rfl,run_takeDeferred g1,xA hC hf ds _ g2⟩⟩
theorem an.of_aw {f:Nat} {fn:Func} {c:Code} {rs:List ResultVar} {n:Nat} (hf:P.funcs[f]? = some fn) (hb:fn.body=some c) (hrs:fn.results=rs.toArray) (hn:fn.ntmps=n)
 {args:List V} (hlen:args.length≤n) {σ:ak} {m:Nat} {r:V} {σ':ak} (h:AW P G n m c ⟨gn 0 args,σ,m⟩ (AN (ae P G m rs r σ'))):an P G f args σ m r σ':=by
 intro w I β vals hm hG hd;subst hn;refine (callsIn_wide (n:=0)).1 (callsIn_of_wp_marks (F:=Fr none) hf hb trivial ?_);let C:tK:=⟨w,I,β,σ,m,fn.ntmps,hm.free,[]⟩
 have hrel:pS C G ⟨gn 0 args,σ,m⟩ { tmps:=vals.toArray++Array.replicate (fn.ntmps - vals.toArray.size) undef,defers:=[] } w:=by
  refine ⟨I,β,ar.refl hm,hm.free,fun t =>?_,?_,js.nil,hG⟩
  ·show aJ w I β ((gn 0 args).get t) _;rw [zy];simp only [Nat.zero_le,if_true,Nat.sub_zero];cases hv:args[t]? with
   | none=>trivial
   | some v=>
    have ht:t<vals.length:=by
     rw [←hd.1];rcases Nat.lt_or_ge t args.length with h|h
     ·exact h
     ·rw [List.getElem?_eq_none h] at hv;cases hv
    have:(vals.toArray++Array.replicate (fn.ntmps - vals.toArray.size) undef).getD t undef=vals[t]:=by
     simp [Array.getD_eq_getD_getElem?,Array.getElem?_append,ht]
    rw [this];exact hd.2 t v _ hv (List.getElem?_eq_getElem ht)
  ·show (vals.toArray++Array.replicate (fn.ntmps - vals.toArray.size) undef).size=fn.ntmps;have:=hd.1;simp;omega
 refine wpIn_mono (h none (.inl rfl) C _ w rfl rfl hrel) ?_;rintro e a w' ⟨st',hq,hr⟩;have key:ae P G m rs r σ' st'→LeavesInM (Fr none) 0 P fn a.tmps (fun e w'=> ∃u I' β',e = .returned u∧aJ w' I' β' r u∧ar w I β σ m w' I' β' σ' (m+4)) a.defers .returning w':=fun hq=>by
  refine xA (C:=C) rfl (G:=G) (st:=st') (fun w'' h =>?_) a.defers w' hr;obtain ⟨v,h2,I',β',h3,h4⟩:=yJ (C:=C) (fn:=fn) hrs hq h;exact ⟨v,h2,v,I',β',rfl,h3,h4⟩
 cases e with
 | normal=>exact key hq
 | ret=>exact key hq
 | _=>exact hq.elim
theorem an.of_code (ho:P.follows .mixedOrders=true) {f:Nat} {fn:Func} {c:Code} {rs:List ResultVar} {n:Nat} (lv:List Nat) (hf:P.funcs[f]? = some fn) (hb:fn.body=some c) (hrs:fn.results=rs.toArray) (hn:fn.ntmps=n) (hok:aP n c=true)
 {args:List V} (hlen:args.length≤n) {σ:ak} {m:Nat} {r:V} {σ':ak} (h:bC P G n m lv c ⟨gn 0 args,σ,m⟩ (AN (ae P G m rs r σ'))):an P G f args σ m r σ':=
 an.of_aw hf hb hrs hn hlen (dR ho c _ _ hok h)
end
def bk (l:List Nat) (id:Nat):Nat→Option Nat:=fun j=>if j<l.length then l[j]? else if j<l.length+4 then some (id+(j - l.length)) else none
def fw (l:List Nat):Nat→Option Nat:=fun i=>Jh l i 0
def ld (σ:ak):List Nat→ak
 | []=>σ
 | i::r=>ld (σ.del i) r
def HH (l:List Nat) (id:Nat) (σ:ak):Bool:=(l.all fun i=>decide (i<id)&&(σ.get i).isSome)&&decide l.Nodup
theorem ro (l:List Nat) : ∀(σ:ak) (j:Nat),(ld σ l).get j=if j∈l then none else σ.get j:=by
 induction l with
 | nil=>intro σ j;simp [ld]
 | cons i r ih=>
  intro σ j;simp only [ld,ih,ak.get_del,List.mem_cons];by_cases h:j∈r
  ·simp [h]
  ·by_cases h':j=i<;>simp [h,h']
theorem lr : ∀ {l:List Nat} (_:l.Nodup) {i j m:Nat},l[j]? = some i→Jh l i m=some (m+j)
 | x::r,hn,i,j,m,h=>by
  unfold Jh;cases j with
  | zero=>simp at h;subst h;simp
  | succ j=>
   simp at h;have hm:i∈r:=List.mem_of_getElem? h;have hx:x≠i:=by rintro rfl;exact (List.nodup_cons.1 hn).1 hm
   rw [if_neg hx,lr (List.nodup_cons.1 hn).2 h];congr 1;omega
theorem H5 {l:List Nat} {id:Nat} (hn:l.Nodup) (hlt : ∀i∈l,i<id) : ∀j j' i,bk l id j=some i→bk l id j'=some i→j=j':=by
 intro j j' i h h';unfold bk at h h';split at h
 ·have hi:=hlt i (List.mem_of_getElem? h);split at h'
  ·have e1:=lr hn (m:=0) h;have e2:=lr hn (m:=0) h';rw [e1] at e2;injection e2 with e2;omega
  ·split at h'
   ·injection h' with h';omega
   ·cases h'
 ·split at h
  ·injection h with h;split at h'
   ·have hi:=hlt i (List.mem_of_getElem? h');omega
   ·split at h'
    ·injection h' with h';omega
    ·cases h'
  ·cases h
theorem ak.get_sel' {g:Nat→Option Nat} (hinj : ∀i i' j,g i=some j→g i'=some j→i=i') {i j:Nat} (hg:g i=some j) : ∀(σ:ak) (b:bF),σ.get i=some b→(σ.sel g).get j=some (b.sel g)
 | [],b,h=>by simp [ak.get] at h
 | (i',c)::r,b,h=>by
  simp only [ak.get] at h;split at h
  ·rename_i e;subst e;injection h with h;subst h;simp [ak.sel,hg,ak.get]
  ·rename_i hne;have ih:=ak.get_sel' hinj hg r b h;simp only [ak.sel];cases hi:g i' with
   | none=>exact ih
   | some j'=>
    simp only [ak.get];rw [if_neg]
    ·exact ih
    ·rintro rfl;exact hne (hinj _ _ _ hi hg)
theorem ki {l:List Nat} {i j:Nat} (h:fw l i=some j):l[j]? = some i∧j<l.length:=by
 obtain ⟨h1,h2,h3⟩:=ee h;exact ⟨by simpa using h3,by omega⟩
theorem ji.named {w:World} {I:Nat→Prop} {β:b7} {id:Nat} {blk:bF} (h:ji w I β id blk) : ∃y,β id=some y:=by
 cases blk with
 | cell cs ty=>obtain ⟨b,cap,_,_,h1,_⟩:=h;exact ⟨_,h1⟩
 | row k es ty=>
  rcases h with ⟨h1,_⟩|⟨b,cap,_,_,h1,_⟩
  ·exact ⟨_,h1⟩
  ·exact ⟨_,h1⟩
 | map es=>obtain ⟨b,cap,_,_,h1,_⟩:=h;exact ⟨_,h1⟩
 | iter s pos=>obtain ⟨b,cap,h1,_⟩:=h;exact ⟨_,h1⟩
 | rc y j e=>obtain ⟨b,cap,r,h1,_⟩:=h;exact ⟨_,h1⟩
section
variable {P:Program} {G:Gl}
theorem xc {f:Nat} {args:List V} {σ:ak} {id:Nat} (l:List Nat) (hl:HH l id σ=true) {r:V} {σ1:ak} (h:an P G f (args.map (V.sel (fw l))) (σ.sel (fw l)) l.length r σ1) :
 tO P G f args σ id (r.sel (bk l id)) (ld σ l++σ1.sel (bk l id)):=by
 intro w I β nx vals hm hG hf hnx hd;simp only [HH,Bool.and_eq_true,List.all_eq_true,decide_eq_true_eq] at hl;obtain ⟨hl1,hnd⟩:=hl;have hlt : ∀i∈l,i<id:=fun i hi=>(hl1 i hi).1
 let β0:b7:=fun j=>match l[j]? with|some i=>β i|none=>none
 have hfw : ∀i j,fw l i=some j → ∀x,β i=some x→β0 j=some x:=by
  intro i j hij x hx;show (match l[j]? with|some i=>β i|none=>none)=some x;rw [(ki hij).1];exact hx
 have hfb : ∀i j,fw l i=some j→β0 j=β i:=by
  intro i j hij;show (match l[j]? with|some i=>β i|none=>none)=β i;rw [(ki hij).1]
 have hinj : ∀i i' j,fw l i=some j→fw l i'=some j→i=i':=by
  intro i i' j h h';have e1:=(ki h).1;have e2:=(ki h').1;rw [e1] at e2;injection e2
 have hm0:cQ w I β0 (σ.sel (fw l)) l.length:=by
  refine ⟨fun j b hj =>?_,fun j j' b b' k c c' g1 g2 g3 g4 =>?_,fun j hj =>?_,hm.lt⟩
  ·obtain ⟨i,b',q1,q2,q3⟩:=ak.get_sel hinj _ j b hj;subst q3;exact (hm.own i b' q2).sel hfw q1
  ·obtain ⟨i,x,q1,q2,q3⟩:=ak.get_sel hinj _ j b g1;obtain ⟨i',x',q1',q2',q3'⟩:=ak.get_sel hinj _ j' b' g2;rw [hfb i j q1] at g3;rw [hfb i' j' q1'] at g4;have:=hm.inj i i' x x' k c c' q2 q2' g3 g4;subst this;rw [q1] at q1';injection q1'
  ·show (match l[j]? with|some i=>β i|none=>none)=none;rw [List.getElem?_eq_none hj]
 have hd0:cH w I β0 (args.map (V.sel (fw l))) vals:=by
  refine ⟨by simpa using hd.1,fun i c x hc hx =>?_⟩;simp only [List.getElem?_map,Option.map_eq_some_iff] at hc;obtain ⟨c',hc',rfl⟩:=hc;exact (hd.2 i c' x hc' hx).sel hfw
 refine (h w I β0 vals hm0 hG hd0).mono ?_;rintro e w' ⟨u,I',β1,rfl,hu,hs⟩;let β':b7:=fun i=>if id≤i∧i<id+4 then β1 (l.length+(i - id)) else β i
 have hβ : ∀i,¬(id≤i∧i<id+4)→β' i=β i:=fun i hi=>by simp only [β',if_neg hi]
 have hown0 : ∀b,bD (σ.sel (fw l)) β0 b → ∃i blk c,i∈l∧σ.get i=some blk∧β i=some (some (b,c)):=by
  rintro b ⟨j,blk,c,h1,h2⟩;obtain ⟨i,b',q1,q2,q3⟩:=ak.get_sel hinj _ j blk h1;rw [hfb i j q1] at h2;exact ⟨i,b',c,List.mem_of_getElem? (ki q1).1,q2,h2⟩
 have hown0' : ∀b,bD (σ.sel (fw l)) β0 b→bD σ β b:=fun b hb=>by
  obtain ⟨i,blk,c,_,h2,h3⟩:=hown0 b hb;exact ⟨i,blk,c,h2,h3⟩
 have hbk : ∀j i,bk l id j=some i → ∀x,β1 j=some x→β' i=some x:=by
  intro j i hji x hx;unfold bk at hji;split at hji
  ·have hil:=List.mem_of_getElem? hji;rw [hβ i (by have:=hlt i hil;omega)];have hs1:=(hl1 i hil).2;cases hgi:σ.get i with
   | none=>rw [hgi] at hs1;cases hs1
   | some blk=>
    have hown:=hm.own i blk hgi;obtain ⟨y,hy⟩:=hown.named;have h0:β0 j=some y:=by
     show (match l[j]? with|some i=>β i|none=>none)=some y;rw [hji];exact hy
    rw [hs.bet j y h0] at hx;rw [hy,hx]
  ·split at hji
   ·injection hji with hji;show (if id≤i∧i<id+4 then β1 (l.length+(i - id)) else β i)=some x;rw [if_pos (by omega),show l.length+(i - id)=j from by omega];exact hx
   ·cases hji
 have hbk' : ∀j i,bk l id j=some i→β1 j≠none→β' i=β1 j:=by
  intro j i hji hne;cases hx:β1 j with
  | none=>exact absurd hx hne
  | some x=>exact hbk j i hji x hx
 have hbinj:=H5 (id:=id) hnd hlt;have hkeep : ∀i blk,i∉l→σ.get i=some blk → ∀b c,β i=some (some (b,c)) → ¬bD (σ.sel (fw l)) β0 b∧b<w.heap.size ∧ ¬I b:=by
  intro i blk hil hgi b c hb;refine ⟨fun ho =>?_,((hm.own i blk hgi).not_imm hb).2,((hm.own i blk hgi).not_imm hb).1⟩;obtain ⟨i',blk',c',h1,h2,h3⟩:=hown0 b ho;have:=hm.inj i i' blk blk' b c c' hgi h2 hb h3;subst this;exact hil h1
 have hget : ∀i b,(ld σ l++σ1.sel (bk l id)).get i=some b→(i∉l∧σ.get i=some b) ∨ ∃j b',bk l id j=some i∧σ1.get j=some b'∧b=b'.sel (bk l id):=by
  intro i b hi;rw [bV,ro] at hi;split at hi
  ·rename_i b' hb';split at hb'
   ·cases hb'
   ·rename_i hil;injection hi with hi;subst hi;exact .inl ⟨hil,hb'⟩
  ·exact .inr (ak.get_sel hbinj _ i b hi)
 have hnf : ∀i blk,σ.get i=some blk→β' i=β i:=by
  intro i blk hgi;obtain ⟨y,hy⟩:=(hm.own i blk hgi).named;apply hβ;rintro ⟨h1,h2⟩;rw [hf i h1 h2] at hy;cases hy
 have hdom : ∀j b',σ1.get j=some b'→β1 j≠none:=by
  intro j b' hj he;obtain ⟨y,hy⟩:=(hs.mem.own j b' hj).named;rw [he] at hy;cases hy
 have hother : ∀i blk b c,i∉l→σ.get i=some blk→β' i=some (some (b,c)) → ¬bD σ1 β1 b ∧ ¬I' b∧w'.heap[b]? = w.heap[b]? :=by
  intro i blk b c hil hgi hb;have hb0:β i=some (some (b,c)):=by rw [←hnf i blk hgi];exact hb
  obtain ⟨h1,h2,h3⟩:=hkeep i blk hil hgi b c hb0;refine ⟨fun ho =>?_,fun hi =>?_,hs.block b h2 h1⟩
  ·rcases hs.own' b ho with h|h
   ·exact h1 h
   ·omega
  ·rcases hs.immn b hi with h|h|h
   ·exact h3 h
   ·exact h1 h
   ·omega
 refine ⟨u,I',β',rfl,hu.sel hbk,⟨⟨fun i b hi =>?_,fun i i' b b' k c c' g1 g2 g3 g4 =>?_,fun j hj =>?_,hs.mem.lt⟩,hs.os,hs.tape,hs.output,hs.size,fun b hb ho=>hs.block b hb (fun h=>ho (hown0' b h)),hs.imm,fun b hb =>?_,fun i x hx =>?_,Nat.le_refl _,?_⟩,hβ⟩
 ·rcases hget i b hi with ⟨hil,hgi⟩|⟨j,b',h1,h2,rfl⟩
  ·have ho:=hm.own i b hgi;have hbet : ∀j x,β j=some x→β' j=some x:=by
    intro j x hx;rw [hβ j]
    ·exact hx
    ·rintro ⟨h1,h2⟩;rw [hf j h1 h2] at hx;cases hx
   refine ho.keep (fun k hk =>?_) hs.imm (fun k c hk=>(hother i b k c hil hgi (by rw [hnf i b hgi];exact hk)).2.1) hbet;rcases hk with hk|⟨c,hk⟩
   ·exact hs.block k (hm.lt k hk) (hm0.not_owned hk)
   ·exact (hother i b k c hil hgi (by rw [hnf i b hgi];exact hk)).2.2
  ·exact (hs.mem.own j b' h2).sel hbk h1
 ·rcases hget i b g1 with ⟨hil,hgi⟩|⟨j,x,q1,q2,_⟩
  ·rcases hget i' b' g2 with ⟨hil',hgi'⟩|⟨j',x',q1',q2',_⟩
   ·rw [hnf i b hgi] at g3;rw [hnf i' b' hgi'] at g4;exact hm.inj i i' b b' k c c' hgi hgi' g3 g4
   ·exfalso;rw [hbk' j' i' q1' (hdom j' x' q2')] at g4;exact (hother i b k c hil hgi g3).1 ⟨j',x',c',q2',g4⟩
  ·rcases hget i' b' g2 with ⟨hil',hgi'⟩|⟨j',x',q1',q2',_⟩
   ·exfalso;rw [hbk' j i q1 (hdom j x q2)] at g3;exact (hother i' b' k c' hil' hgi' g4).1 ⟨j,x,c,q2,g3⟩
   ·rw [hbk' j i q1 (hdom j x q2)] at g3;rw [hbk' j' i' q1' (hdom j' x' q2')] at g4;have:=hs.mem.inj j j' x x' k c c' q2 q2' g3 g4;subst this;rw [q1] at q1';injection q1'
 ·rw [hβ j (by omega)];exact hm.free j hj
 ·rcases hs.immn b hb with h|h|h
  ·exact .inl h
  ·exact .inr (.inl (hown0' b h))
  ·exact .inr (.inr h)
 ·show β' i=some x;rw [hβ i]
  ·exact hx
  ·rintro ⟨h1,h2⟩;rw [hf i h1 h2] at hx;cases hx
 ·rintro b ⟨i,blk,c,h1,h2⟩;rcases hget i blk h1 with ⟨hil,hgi⟩|⟨j,b',q1,q2,rfl⟩
  ·exact .inl ⟨i,blk,c,hgi,by rw [←hnf i blk hgi];exact h2⟩
  ·rw [hbk' j i q1 (hdom j b' q2)] at h2;rcases hs.own' b ⟨j,b',c,q2,h2⟩ with h|h
   ·exact .inl (hown0' b h)
   ·exact .inr h
theorem au.of {f:Nat} {args:List V} {σ:ak} {id:Nat} {K:V→ak→Prop} (l:List Nat) {r:V} {σ1:ak} (he:cx P f=true) (h:an P G f (args.map (V.sel (fw l))) (σ.sel (fw l)) l.length r σ1) (hl:HH l id σ=true)
 (hK:K (r.sel (bk l id)) (ld σ l++σ1.sel (bk l id))):au P G f args σ id K:=⟨_,_,hK,.inl ⟨he,xc l hl h⟩⟩
theorem sE (σ:ak):σ.sel (fw [])=[]:=by
 induction σ with
 | nil=>rfl
 | cons x r ih=>simp [ak.sel,fw,Jh] at ih ⊢;exact ih
theorem dI.of {f:Nat} {args:List V} {σ:ak} {id:Nat} {K:V→ak→Prop} {r:V} {σ1:ak} (he:cx P f=true) (h:an P G f (args.map (V.sel (fw []))) [] 0 r σ1)
 (hK:K (r.sel (bk [] id)) (σ1.sel (bk [] id))):dI P G f args σ id K:=by
 refine ⟨_,_,hK,.inl ⟨he,fun j b hj =>?_,fun σ' _=>xc (σ1:=σ1) [] rfl (by rw [sE];exact h)⟩⟩;obtain ⟨i,b',h1,_⟩:=ak.get_sel (H5 (l:=[]) (id:=id) (by simp) (by simp)) _ j b hj;unfold bk at h1;simp at h1;omega
end
def St.nil (st:St) (t k:Nat):St:=match st.env.get t with
 | .d (.lit (.slice none 0 0))=>⟨st.env.put t (.so st.nx k 0 0),(st.nx,.row k [])::st.sg,st.nx+1⟩
 | _=>st
theorem cq.nil (G:Gl) (m:Nat) (st:St) (t k:Nat):cq G m st (st.nil t k):=by
 intro C a w _ hr;unfold St.nil;split
 ·rename_i he;obtain ⟨I,β,h1,h2,h3,h4,h5,h6⟩:=hr;have hb:β st.nx=none:=h2 st.nx (Nat.le_refl _);have h1':ar C.w C.I C.β C.σ C.nx w I β st.sg (st.nx+1):=h1.bump (by omega);have hs:=ar.nilRow h1'.mem (id:=st.nx) hb (by omega) k (tq:=none);refine ⟨I,nm β st.nx none,h1'.trans hs,fun j hj =>?_,fun u =>?_,h4,h5.step hs,h6⟩
  ·have:j≠st.nx:=by have:st.nx+1≤j:=hj;omega
   rw [aO this];exact h2 j (by have:st.nx+1≤j:=hj;omega)
  ·show aJ w I (nm β st.nx none) ((st.env.put t (.so st.nx k 0 0)).get u) _;rw [aN.get_put];split
   ·rename_i e;subst e;have:=h3 t;rw [he] at this;have hv:=aA this;exact .inl ⟨aU _ _ _,rfl,rfl,none,hv⟩
   ·exact hs.den h1'.mem (h3 u)
 ·exact hr
section
variable {P:Program} {G:Gl}
@[congr] theorem PU {α:Type} {o o':Option α} {K:α→Prop} (h:o=o'):cp o K=cp o' K:=by rw [h]
@[congr] theorem N1 {k j j':Nat} {es es':List D} {i i':Nat} {x x':Nat × Bool} {K:V→Prop} (h:es=es') (hi:i=i') (hj:j=j') (hx:x=x'):gZ k es i j x K=gZ k es' i' j' x' K:=by rw [h,hi,hj,hx]
@[congr] theorem NT {b b':bF} {K:List V→Prop} (h:b=b'):qI b K=qI b' K:=by rw [h]
@[congr] theorem Qh {b b':bF} {K:Nat→List D→Prop} (h:b=b'):G3 b K=G3 b' K:=by rw [h]
@[congr] theorem N6 {b b':bF} {K:ByteArray→Nat→Prop} (h:b=b'):rD b K=rD b' K:=by rw [h]
@[congr] theorem NS {v v':V} {K:Bool→Prop} (h:v=v'):qB v K=qB v' K:=by rw [h]
@[congr] theorem NW {v v':V} {p q:Prop} (h:v=v'):md v p q=md v' p q:=by rw [h]
@[congr] theorem Ld {v v':V} {K:Nat→List V→Prop} {Y:Nat→Prop} {B:Nat→List V→Prop} (h:v=v'):bt v K Y B=bt v' K Y B:=by rw [h]
@[congr] theorem Ok {c c' a a' b b':V} {K:V→Prop} (h:c=c') (ha:a=a') (hb:b=b'):je c a b K=je c' a' b' K:=by rw [h,ha,hb]
@[congr] theorem N7 {t:Nat} {a a':V} {σ σ':ak} {K:V→Prop} (h:a=a') (hs:σ=σ'):eB P t a σ K=eB P t a' σ' K:=by rw [h,hs]
@[congr] theorem Od {x x':V} {σ σ':ak} {K:V→ak→Prop} (h:x=x') (hs:σ=σ'):kS x σ K=kS x' σ' K:=by rw [h,hs]
@[congr] theorem Ph {v v':V} {K:Bool→Prop} {q:Prop} (h:v=v'):pD v K q=pD v' K q:=by rw [h]
@[congr] theorem Mg {ops:Array Oper} {o:Oper} {e e':aN} {y n:aN→Prop} (h:e=e'):cy ops o e y n=cy ops o e' y n:=by rw [h]
@[congr] theorem Om {op:Op} {g:Operand→V} {σ σ':ak} {id id':Nat} {K:V→ak→Prop} (h:σ=σ') (hi:id=id'):aQ P G op g σ id K=aQ P G op g σ' id' K:=by rw [h,hi]
@[congr] theorem MN {op:Op} {g:Operand→V} {σ σ':ak} {id id':Nat} {K:V→ak→Prop} (h:σ=σ') (hi:id=id'):aV P G op g σ id K=aV P G op g σ' id' K:=by rw [h,hi]
@[congr] theorem PT {ops:Array Oper} {b b' i i':Nat} {l l':List Oper} {e e':aN} {σ σ':ak} {K:aN→ak→Prop} (hb:b=b') (hi:i=i') (hl:l=l') (he:e=e') (h:σ=σ'):mK P G ops b i l e σ K=mK P G ops b' i' l' e' σ' K:=by rw [hb,hi,hl,he,h]
@[congr] theorem PR {ops:Array Oper} {b b' i i':Nat} {l l':List Oper} {e e':aN} {σ σ' τ τ':ak} {K:aN→ak→Prop} (hb:b=b') (hi:i=i') (hl:l=l') (he:e=e') (h:σ=σ') (ht:τ=τ'):rU P G ops b i l e σ τ K=rU P G ops b' i' l' e' σ' τ' K:=by rw [hb,hi,hl,he,h,ht]
@[congr] theorem PS {lo:List Nat} {σk:ak} {ops:Array Oper} {b b' i i':Nat} {l l':List Oper} {e e':aN} {σ σ' τ τ':ak} {K:aN→ak→Prop} (hb:b=b') (hi:i=i') (hl:l=l') (he:e=e') (h:σ=σ') (ht:τ=τ'):opsL P G lo σk ops b i l e σ τ K=opsL P G lo σk ops b' i' l' e' σ' τ' K:=by rw [hb,hi,hl,he,h,ht]
@[congr] theorem QP {σk σ σ':ak} {p:Prop} (h:σ=σ'):xS σk σ p=xS σk σ' p:=by rw [h]
@[congr] theorem PE {σ σ':ak} {p:Prop} (h:σ=σ'):GB σ p=GB σ' p:=by rw [h]
@[congr] theorem Nw {lo:List Nat} {ops:Array Oper} {i i':Nat} {op:Op} {g:Operand→V} {σ σ' τ τ':ak} {id id':Nat} {K L:V→ak→Prop} (hi:i=i') (h:σ=σ') (ht:τ=τ') (hj:id=id'):gk P G lo ops i op g σ τ id K L=gk P G lo ops i' op g σ' τ' id' K L:=by rw [hi,h,ht,hj]
@[congr] theorem Qb {lv:List Nat} {ops:Array Oper} {draw:Bool} {K:St→Prop} {st st':St} (h:st=st'):jR P G lv ops draw K st=jR P G lv ops draw K st':=by rw [h]
@[congr] theorem NV {n m:Nat} {lv:List Nat} {c:Code} {st st':St} {Q:Exit→St→Prop} (h:st=st'):bC P G n m lv c st Q=bC P G n m lv c st' Q:=by rw [h]
@[congr] theorem NL {m:Nat} {rs:List ResultVar} {r:V} {σ:ak} {st st':St} (h:st=st'):ae P G m rs r σ st=ae P G m rs r σ st':=by rw [h]
@[congr] theorem Qd {rs:List ResultVar} {st st':St} {K:List V→Prop} (h:st=st'):n9 P rs st K=n9 P rs st' K:=by rw [h]
end
def iZ (r:PV) (K:V→Prop):Prop:=cp r fun x=>oX x.1 (K x.2)
def dd (r:jt) (K:V→ak→Prop):Prop:=cp r fun x=>oX x.1 (K x.2.1 x.2.2)
def lA:Op→Bool
 | .move _ | .assign _ | .nilCheck _ | .binOp _ _ _ _ _ | .unOp _ _ _ | .makeInterface _ _ | .makeFunc _ _ _ | .slice _ _ _ _ _ | .fieldAddr _ _ _ | .field _ _ _ | .indexAddr _ _ _ | .index _ _ _ | .typeAssert _ _ _ _ | .extract _ _ | .build _ _=>true
 | .call c=>match c.callee with
  | .builtin .len=>true
  | .builtin .max=>true
  | .builtin .min=>true
  | _=>false
 | _=>false
def jF:Op→Bool
 | .alloc _ | .box _ _ | .buildSlice _ _ _ | .range _ _ | .makeSlice _ _ _=>true
 | _=>false
section
variable {P:Program} {G:Gl} {g:Operand→V} {σ:ak} {id:Nat} {K:V→ak→Prop}
theorem J3 (p:Prop) (v:V) (K:V→Prop):iZ (some (p,v)) K=oX p (K v):=rfl
theorem GP (p:Prop) (v:V) (s:ak) (K:V→ak→Prop):dd (some (p,v,s)) K=oX p (K v s):=rfl
@[congr] theorem QL {r r':PV} {K:V→Prop} (h:r=r'):iZ r K=iZ r' K:=by rw [h]
@[congr] theorem P5 {r r':jt} {K:V→ak→Prop} (h:r=r'):dd r K=dd r' K:=by rw [h]
theorem AA {op:Op} (h:lA op=true) (g:Operand→V) (σ:ak) (id:Nat):aR P op g σ id=none∧eR P op g σ id=none:=by
 cases op<;>simp only [lA,Bool.false_eq_true] at h<;>try exact ⟨rfl,rfl⟩
 case call c=>
  split at h<;>first
   | (exfalso;revert h;simp;done)
   | (rename_i hc;simp only [aR,eR,hc,and_self])
theorem aZ {op:Op} (h:lA op=true):aQ P G op g σ id K=iZ (bX P op g) (fun v=>K v σ):=by
 have key:eV op (cX P op g σ id) K=iZ (bX P op g) (fun v=>K v σ):=by
  obtain ⟨h1,h2⟩:=AA (P:=P) h g σ id;simp only [cX,a8,h1,h2];cases bX P op g with
  | none=>rfl
  | some x=>obtain ⟨p,v⟩:=x;show oX p (K v (σ++[]))=oX p (K v σ);rw [List.append_nil]
 cases op<;>simp only [lA,Bool.false_eq_true] at h<;>try exact key
 case call c=>
  rw [←key];simp only [aQ];split at h<;>first
   | (exfalso;revert h;simp;done)
   | (rename_i hc;simp only [hc])
theorem a7 {op:Op} (h:lA op=true):aV P G op g σ id K=iZ (bX P op g) (fun v=>K v []):=by
 have key:eV op (a8 P op g σ id) K=iZ (bX P op g) (fun v=>K v []):=by
  obtain ⟨h1,h2⟩:=AA (P:=P) h g σ id;simp only [a8,h1];cases bX P op g with
  | none=>rfl
  | some x=>obtain ⟨p,v⟩:=x;simp [eV,iZ,cp]
 cases op<;>simp only [lA,Bool.false_eq_true] at h<;>try exact key
 case call c=>
  rw [←key];simp only [aV];split at h<;>first
   | (exfalso;revert h;simp;done)
   | (rename_i hc;simp only [hc])
theorem i7 {op:Op} (h:jF op=true) (hb : ∀t n ps,op ≠ .buildSlice t n ps):aQ P G op g σ id K=dd (aR P op g σ id) (fun v new=>K v (σ++new)):=by
 have key:eV op (cX P op g σ id) K=dd (aR P op g σ id) (fun v new=>K v (σ++new)):=by
  have h1:bX P op g=none:=by cases op<;>first|rfl|(simp only [jF,Bool.false_eq_true] at h)
  have h2:eR P op g σ id=none:=by cases op<;>first|rfl|(simp only [jF,Bool.false_eq_true] at h)
  simp only [cX,a8,h1,h2];cases aR P op g σ id with
  | none=>rfl
  | some x=>obtain ⟨p,v,s⟩:=x;simp [eV,dd,cp]
 cases op<;>simp only [jF,Bool.false_eq_true] at h<;>first|exact key|exact absurd rfl (hb _ _ _)
theorem Ie (p:Prop) (v:V) (new:ak) (r2:jt) (σ:ak) (K:V→ak→Prop):Ib (some (p,v,new)) r2 σ K=oX p (K v (σ++new)):=rfl
theorem Ic (r2:jt) (σ:ak) (K:V→ak→Prop):Ib none r2 σ K=dd r2 K:=by
 cases r2 with
 | none=>rfl
 | some x=>obtain ⟨p,v,s⟩:=x;rfl
@[congr] theorem QC {r r':jt} {r2:jt} {σ:ak} {K:V→ak→Prop} (h:r=r'):Ib r r2 σ K=Ib r' r2 σ K:=by rw [h]
theorem jQ {op:Op} (h:jF op=true):aV P G op g σ id K=dd (aR P op g σ id) K:=by
 have key:eV op (a8 P op g σ id) K=dd (aR P op g σ id) K:=by
  have h1:bX P op g=none:=by cases op<;>first|rfl|(simp only [jF,Bool.false_eq_true] at h)
  simp only [a8,h1];cases aR P op g σ id with
  | none=>rfl
  | some x=>obtain ⟨p,v,s⟩:=x;simp [eV,dd,cp]
 cases op<;>simp only [jF,Bool.false_eq_true] at h<;>exact key
def Rd (r:PV) (r2:jt) (σ:ak) (K:V→ak→Prop):Prop:=match r with
 | some (p,v)=>oX p (K v σ)
 | none=>dd r2 K
theorem Iu (p:Prop) (v:V) (r2:jt) (σ:ak) (K:V→ak→Prop):Rd (some (p,v)) r2 σ K=oX p (K v σ):=rfl
theorem Is (r2:jt) (σ:ak) (K:V→ak→Prop):Rd none r2 σ K=dd r2 K:=rfl
@[congr] theorem QE {r r':PV} {r2 r2':jt} {σ:ak} {K:V→ak→Prop} (h:r=r') (h2:r2=r2'):Rd r r2 σ K=Rd r' r2' σ K:=by rw [h,h2]
theorem uF (s d:Nat) (x:Operand):aQ P G (.convert s d x) g σ id K=Rd (OZ P s d (g x)) (QD P s d (g x) σ) σ K:=by
 simp only [aQ,cX,a8,bX,aR,eR,eV];cases OZ P s d (g x) with
 | some x=>obtain ⟨p,v⟩:=x;show oX p (K v (σ++[]))=_;rw [List.append_nil];rfl
 | none=>
  cases QD P s d (g x) σ with
  | none=>rfl
  | some x=>obtain ⟨p,v,s⟩:=x;rfl
theorem Be (t:Nat) (a x:Operand):aQ P G (.store t a x) g σ id K=dd (KG P t (g a) (g x) σ) K:=by
 simp only [aQ,cX,a8,bX,aR,eR,eV];cases KG P t (g a) (g x) σ with
 | none=>rfl
 | some x=>obtain ⟨p,v,s⟩:=x;simp [dd,cp]
theorem ta (t:Nat) (x:Operand):aQ P G (.load t x) g σ id K=eB P t (g x) σ (fun v=>K v σ):=rfl
theorem o6 (t:Nat) (x:Operand):aV P G (.load t x) g σ id K=eB P t (g x) σ (fun v=>K v []):=rfl
theorem tf (c x y:Operand):aQ P G (.pick c x y) g σ id K=je (g c) (g x) (g y) (fun v=>K v σ):=rfl
theorem o8 (c x y:Operand):aV P G (.pick c x y) g σ id K=je (g c) (g x) (g y) (fun v=>K v []):=rfl
theorem Do (x:Operand):aQ P G (.next x true) g σ id K=kS (g x) σ K:=rfl
theorem Dl (f:Operand) (xs:Array Operand) (ts:Array Nat):aQ P G (.call ⟨.value f,xs,ts⟩) g σ id K=bt (g f) (fun k caps=>au P G k (xs.toList.map g++caps) σ id K) (fun i=>gD P G i (xs.toList.map g) σ id K) (fun k fs=>au P G k (fs++(xs.toList.map g++[])) σ id K):=rfl
def HZ (P:Program) (t t':Nat) (s x:V) (σ:ak) (id:Nat) (K:V→ak→Prop):Prop:=match s with
 | .so i k lo n=>dd (tR P t t' (.so i k lo n) x σ id) K
 | s=>dd (qx P t t' s x σ id) (fun v new=>K v (σ++new))
@[congr] theorem OI {t t':Nat} {s s' x x':V} {σ σ':ak} {id id':Nat} {K:V→ak→Prop} (hs:s=s') (hx:x=x') (h:σ=σ') (hi:id=id'):HZ P t t' s x σ id K=HZ P t t' s' x' σ' id' K:=by rw [hs,hx,h,hi]
theorem E9 {t t':Nat} {s x:V} (hs : ∀i k lo n,s ≠ .so i k lo n):tR P t t' s x σ id=none:=by
 unfold tR;split
 ·exact absurd rfl (hs _ _ _ _)
 ·rfl
theorem ym (s x:Operand) (t t':Nat):aQ P G (.call ⟨.builtin .append,#[s,x],#[t,t']⟩) g σ id K=HZ P t t' (g s) (g x) σ id K:=by
 simp only [aQ,cX,a8,bX,gU,aR,eR,eV];unfold HZ;cases hs:g s;case so i k lo n=>
  have hA:qx P t t' (.so i k lo n) (g x) σ id=none:=by
   unfold qx;repeat' split
   all_goals first|rfl|contradiction|(exfalso;simp_all;done)
  rw [hA];simp only;cases tR P t t' (.so i k lo n) (g x) σ id with
  | none=>rfl
  | some x=>obtain ⟨p,v,s⟩:=x;simp [dd,cp]
 all_goals
  simp only;rw [E9 (by intros;simp)];generalize qx P t t' _ (g x) σ id=r;cases r with
  | none=>rfl
  | some x=>obtain ⟨p,v,s⟩:=x;simp [dd,cp]
theorem Dm (s x:Operand) (t t':Nat):aQ P G (.call ⟨.builtin .copy,#[s,x],#[t,t']⟩) g σ id K=dd (NX P t t' (g s) (g x) σ) K:=by
 simp only [aQ,cX,a8,bX,gU,aR,eR,eV];cases NX P t t' (g s) (g x) σ with
 | none=>rfl
 | some x=>obtain ⟨p,v,s⟩:=x;simp [dd,cp]
theorem Ba (x:Operand) (t:Nat):aQ P G (.call ⟨.builtin .clear,#[x],#[t]⟩) g σ id K=dd (OS P t (g x) σ) K:=by
 simp only [aQ,cX,a8,bX,gU,aR,eR,eV];cases OS P t (g x) σ with
 | none=>rfl
 | some x=>obtain ⟨p,v,s⟩:=x;simp [dd,cp]
end
def tZ (K:St→Prop) (st:St) (_u:Tag K:= .mk) (_h:True:=trivial):Prop:=K st
theorem tZ.now {K:St→Prop} {st:St} (h:K st):tZ K st:=h
def oK (b:Bool) (p q:Prop):Prop:=(b=true→p)∧(b=false→q)
theorem H7 (p q:Prop):oK true p q=p:=by simp [oK]
theorem Fg (p q:Prop):oK false p q=q:=by simp [oK]
theorem LB (b:Bool) (K:St→Prop) (s t:St):oK b (tZ K s) (tZ K t)=tZ K (cond b s t):=by cases b<;>simp [oK]
theorem LH (b:Bool) (e f:aN) (σ τ:ak) (n m:Nat):cond b (⟨e,σ,n⟩:St) ⟨f,τ,m⟩=⟨cond b e f,cond b σ τ,cond b n m⟩:=by cases b<;>rfl
theorem B1 (b:Bool) (k:Nat) (v v':V) (r r':aN):(cond b ((k,v)::r) ((k,v')::r'):aN)=(k,cond b v v')::cond b r r':=by cases b<;>rfl
theorem B2 (b:Bool) (k:Nat) (v v':bF) (r r':ak):(cond b ((k,v)::r) ((k,v')::r'):ak)=(k,cond b v v')::cond b r r':=by cases b<;>rfl
theorem B3 (b:Bool) (v v':V) (r r':List V):cond b (v::r) (v'::r')=cond b v v'::cond b r r':=by cases b<;>rfl
theorem FA (b:Bool) (cs cs':List V) (ty:Option Nat):cond b (bF.cell cs ty) (.cell cs' ty) = .cell (cond b cs cs') ty:=by cases b<;>rfl
theorem OT (b:Bool) (x y:D):cond b (V.d x) (.d y) = .d (cond b x y):=by cases b<;>rfl
theorem Ip (b:Bool) (x y:Value):cond b (D.lit x) (.lit y) = .lit (cond b x y):=by cases b<;>rfl
theorem Fz (b x y:Bool):cond b (Value.bool x) (.bool y) = .bool (cond b x y):=by cases b<;>rfl
theorem Io (b x:Bool):cond b x false=(b&&x):=by cases b<;>rfl
theorem LI (b x:Bool):cond b true x=(b||x):=by cases b<;>rfl
theorem OV {α:Type} (x y:α):cond true x y=x:=rfl
theorem OU {α:Type} (x y:α):cond false x y=y:=rfl
theorem FB {α:Type} (b:Bool) (x:α):cond b x x=x:=by cases b<;>rfl
attribute [push_cast] LB LH B1 B2 B3 FA OT Ip Fz Io LI OV OU FB
def dZ {α:Type} (a:α) (K:α→Prop) (_u:Tag K:= .mk) (_h:True:=trivial):Prop:=K a
theorem Mq {α:Type} (a:α) (K:α→Prop):dZ a K=K a:=rfl
attribute [push_cast] Mq
theorem JY (P:Program) (G:Gl) (ops:Array Oper) (base i:Nat) (e:aN) (σ:ak) (K:aN→ak→Prop):mK P G ops base i [] e σ K=K e σ:=rfl
theorem GH (P:Program) (G:Gl) (ops:Array Oper) (base i:Nat) (d:Option Nat) (op:Op) (t:Nat) (p:String) (af:Array Edge) (gd:Option (Nat × Bool)) (r:List Oper) (e:aN) (σ:ak) (K:aN→ak→Prop):mK P G ops base i (⟨d,op,t,p,af,gd⟩::r) e σ K=cy ops ⟨d,op,t,p,af,gd⟩ e
 (fun e=>aQ P G op (ep G e.get) σ (base+4*i) fun v σ'=>dZ (e.putO d v) fun e=>dZ σ' fun σ'=>mK P G ops base (i+1) r e σ' K)
 (fun e=>dZ (e.putO d (.tup [])) fun e=>mK P G ops base (i+1) r e σ K):=rfl
theorem JW (P:Program) (G:Gl) (ops:Array Oper) (base i:Nat) (e:aN) (σ acc:ak) (K:aN→ak→Prop):rU P G ops base i [] e σ acc K=K e (σ++acc):=rfl
theorem GF (P:Program) (G:Gl) (ops:Array Oper) (base i:Nat) (d:Option Nat) (op:Op) (t:Nat) (p:String) (af:Array Edge) (gd:Option (Nat × Bool)) (r:List Oper) (e:aN) (σp acc:ak) (K:aN→ak→Prop):rU P G ops base i (⟨d,op,t,p,af,gd⟩::r) e σp acc K=cy ops ⟨d,op,t,p,af,gd⟩ e
 (fun e=>if zJ op=true then aQ P G op (ep G e.get) (σp++acc) (base+4*i) fun v σ'=>dZ (e.putO d v) fun e=>dZ σ' fun σ'=>rU P G ops base (i+1) r e σ' [] K
  else if dj op=true then gk P G [] ops i op (ep G e.get) σp acc (base+4*i) (fun v new=>dZ (e.putO d v) fun e=>dZ new fun new=>rU P G ops base (i+1) r e σp (acc++new) K) (fun v σ'=>dZ (e.putO d v) fun e=>dZ σ' fun σ'=>rU P G ops base (i+1) r e σ' [] K)
  else aV P G op (ep G e.get) σp (base+4*i) fun v new=>dZ (e.putO d v) fun e=>dZ new fun new=>rU P G ops base (i+1) r e σp (acc++new) K)
 (fun e=>dZ (e.putO d (.tup [])) fun e=>rU P G ops base (i+1) r e σp acc K):=rfl
theorem Bw (P:Program) (G:Gl) (lo:List Nat) (ops:Array Oper) (i:Nat) (f:Operand) (xs:Array Operand) (ts:Array Nat) (g:Operand→V) (σp acc:ak) (id:Nat) (Kq Ke:V→ak→Prop):gk P G lo ops i (.call ⟨.value f,xs,ts⟩) g σp acc id Kq Ke=bt (g f) (fun k caps=>ev P G lo ops i k (xs.toList.map g++caps) σp acc id Kq Ke) (fun j=>f7 lo ops i=true∧gD P G j (xs.toList.map g) (σp++acc) id Ke) (fun k fs=>ev P G lo ops i k (fs++(xs.toList.map g++[])) σp acc id Kq Ke):=rfl
theorem JX (P:Program) (G:Gl) (lo:List Nat) (σk:ak) (ops:Array Oper) (base i:Nat) (e:aN) (σ acc:ak) (K:aN→ak→Prop):opsL P G lo σk ops base i [] e σ acc K=K e (σ++acc):=rfl
theorem GG (P:Program) (G:Gl) (lo:List Nat) (σk:ak) (ops:Array Oper) (base i:Nat) (d:Option Nat) (op:Op) (t:Nat) (p:String) (af:Array Edge) (gd:Option (Nat × Bool)) (r:List Oper) (e:aN) (σp acc:ak) (K:aN→ak→Prop):opsL P G lo σk ops base i (⟨d,op,t,p,af,gd⟩::r) e σp acc K=cy ops ⟨d,op,t,p,af,gd⟩ e
 (fun e=>if zJ op=true then aQ P G op (ep G e.get) (σp++acc) (base+4*i) fun v σ'=>xS (Js lo ops i σk) σ' (dZ (e.putO d v) fun e=>dZ σ' fun σ'=>opsL P G lo σk ops base (i+1) r e σ' [] K)
  else if dj op=true then gk P G lo ops i op (ep G e.get) σp acc (base+4*i) (fun v new=>dZ (e.putO d v) fun e=>dZ new fun new=>opsL P G lo σk ops base (i+1) r e σp (acc++new) K) (fun v σ'=>xS (Js lo ops i σk) σ' (dZ (e.putO d v) fun e=>dZ σ' fun σ'=>opsL P G lo σk ops base (i+1) r e σ' [] K))
  else if lo.contains i=true then aV P G op (ep G e.get) σk (base+4*i) fun v new=>GB new (dZ (e.putO d v) fun e=>opsL P G lo σk ops base (i+1) r e σp acc K)
  else aV P G op (ep G e.get) σp (base+4*i) fun v new=>dZ (e.putO d v) fun e=>dZ new fun new=>opsL P G lo σk ops base (i+1) r e σp (acc++new) K)
 (fun e=>dZ (e.putO d (.tup [])) fun e=>opsL P G lo σk ops base (i+1) r e σp acc K):=rfl
theorem JK (K:Prop):GB [] K=K:=by simp [GB]
attribute [push_cast] JX GG JK
theorem xS.of {lo:List Nat} {ops:Array Oper} {i:Nat} {r:ak} {σ:ak} {K:Prop} (h:ap r σ) (k:K):xS (Js lo ops i r) σ K:=by
 unfold Js xS;split
 ·exact k
 ·refine ⟨?_,k⟩;split
  ·exact fun _ _ h=>by cases h
  ·exact h
theorem xS.late {lo:List Nat} {ops:Array Oper} {i:Nat} {r:ak} {σ:ak} {K:Prop} (k:K) (h:wR lo ops i=true:=by decide +kernel):xS (Js lo ops i r) σ K:=by
 unfold Js;rw [if_pos h];exact k
theorem ap.nil {σ:ak} : ap [] σ:=fun _ _ h=>by cases h
theorem ap.cons {i:Nat} {b:bF} {r σ:ak} (h:σ.get i=some b) (k:ap r σ):ap ((i,b)::r) σ:=fun j bl hj=>by
 simp only [ak.get] at hj;split at hj
 ·rename_i e;subst e;injection hj with hj;subst hj;exact h
 ·exact k j bl hj
theorem rL : ∀(i:Nat) (l:List Oper),t5 [] i l=true
 | _,[]=>rfl
 | i,_::r=>by simp [t5,rL (i+1) r]
theorem aC.dr {P:Program} {G:Gl} {m:Nat} {lv:List Nat} {ops:Array Oper} {K:St→Prop} {st:St} (hd:ct [] ops=true) (h:rU P G ops st.nx 0 ops.toList st.env st.sg [] fun e σ=>tZ K ⟨aN.keep lv e,σ,st.nx+4*ops.size⟩):aC G m (jR P G lv ops true K) st:=
 .now ⟨[],[],hd,rL _ _,ap.nil,h⟩
theorem jR.lo {P:Program} {G:Gl} {lv:List Nat} {ops:Array Oper} {K:St→Prop} {st:St} (σk:ak) (hd:ct (xB ops) ops=true) (hl:t5 (xB ops) 0 ops.toList=true) (hk:ap σk st.sg) (h:opsL P G (xB ops) σk ops st.nx 0 ops.toList st.env st.sg [] fun e σ=>tZ K ⟨aN.keep lv e,σ,st.nx+4*ops.size⟩):jR P G lv ops true K st:=
 ⟨_,σk,hd,hl,hk,h⟩
theorem C9 (P:Program) (G:Gl) (lv:List Nat) (ops:Array Oper) (K:St→Prop) (st:St):jR P G lv ops false K st=mK P G ops st.nx 0 ops.toList st.env st.sg fun e σ=>tZ K ⟨aN.keep lv e,σ,st.nx+4*ops.size⟩:=rfl
def Pm (P:Program) (t:Nat) (x i:V):PV:=match kH i with|some n=>Cq P t x n|none=>none
def RB (P:Program) (t:Nat) (x i:V):PV:=match kH i with|some n=>ry P t x n|none=>none
section
variable {P:Program} {G:Gl} {g:Operand→V} {σ:ak} {id:Nat} {K:V→ak→Prop}
theorem qf (v:V) (K:V→Prop):iZ (some (True,v)) K=K v:=Ab _
theorem td (x:Operand):aQ P G (.move x) g σ id K=K (g x) σ:=(aZ rfl).trans (qf _ _)
theorem o7 (x:Operand):aV P G (.move x) g σ id K=K (g x) []:=(a7 rfl).trans (qf _ _)
theorem m9 (x:Operand):aQ P G (.assign x) g σ id K=K (g x) σ:=(aZ rfl).trans (qf _ _)
theorem kT (x:Operand):aV P G (.assign x) g σ id K=K (g x) []:=(a7 rfl).trans (qf _ _)
theorem te (x:Operand):aQ P G (.nilCheck x) g σ id K=iZ (lE (g x)) (fun v=>K v σ):=aZ rfl
theorem pG (x:Operand):aV P G (.nilCheck x) g σ id K=iZ (lE (g x)) (fun v=>K v []):=a7 rfl
theorem ph (o:BinOp) (t:Nat) (x y:Operand) (u:Nat):aQ P G (.binOp o t x y u) g σ id K=iZ (tT P o t (eA x||eA y) (g x) (g y)) (fun v=>K v σ):=aZ rfl
theorem mN (o:BinOp) (t:Nat) (x y:Operand) (u:Nat):aV P G (.binOp o t x y u) g σ id K=iZ (tT P o t (eA x||eA y) (g x) (g y)) (fun v=>K v []):=a7 rfl
theorem tg (o:UnOp) (t:Nat) (x:Operand):aQ P G (.unOp o t x) g σ id K=iZ (Qs o (g x)) (fun v=>K v σ):=aZ rfl
theorem o9 (o:UnOp) (t:Nat) (x:Operand):aV P G (.unOp o t x) g σ id K=iZ (Qs o (g x)) (fun v=>K v []):=a7 rfl
theorem Cc (F:Nat→V) (k:Nat):ep G F (.global k)=match G k with|some x=> .d x|none=> .unk:=rfl
theorem BX (k:IntKind) (n:Int):iA (.lit (.int k n))=UInt8.ofNat n.toNat:=rfl
theorem pM (t:Nat) (x:Operand):aQ P G (.makeInterface t x) g σ id K=iZ (Py P t (g x)) (fun v=>K v σ):=aZ rfl
theorem n5 (t:Nat) (x:Operand):aV P G (.makeInterface t x) g σ id K=iZ (Py P t (g x)) (fun v=>K v []):=a7 rfl
theorem tc (fn:Fn) (first caps:Array Operand):aQ P G (.makeFunc fn first caps) g σ id K=iZ (QJ fn (first.toList.map g) (caps.toList.map g)) (fun v=>K v σ):=aZ rfl
theorem Bd (t:Nat) (x:Operand) (lo hi mx:Option Operand):aQ P G (.slice t x lo hi mx) g σ id K=iZ (Ol P t (g x) (lo.map g) (hi.map g) (mx.map g)) (fun v=>K v σ):=aZ rfl
theorem xN (t:Nat) (x:Operand) (lo hi mx:Option Operand):aV P G (.slice t x lo hi mx) g σ id K=iZ (Ol P t (g x) (lo.map g) (hi.map g) (mx.map g)) (fun v=>K v []):=a7 rfl
theorem jf (t:Nat) (x:Operand) (f:Nat):aQ P G (.fieldAddr t x f) g σ id K=iZ (O8 P t f (g x)) (fun v=>K v σ):=aZ rfl
theorem ig (t:Nat) (x:Operand) (f:Nat):aV P G (.fieldAddr t x f) g σ id K=iZ (O8 P t f (g x)) (fun v=>K v []):=a7 rfl
theorem pi (t:Nat) (x:Operand) (f:Nat):aQ P G (.field t x f) g σ id K=iZ (O9 P t f (g x)) (fun v=>K v σ):=aZ rfl
theorem mP (t:Nat) (x:Operand) (f:Nat):aV P G (.field t x f) g σ id K=iZ (O9 P t f (g x)) (fun v=>K v []):=a7 rfl
theorem jg (t:Nat) (x i:Operand):aQ P G (.indexAddr t x i) g σ id K=iZ (Pm P t (g x) (g i)) (fun v=>K v σ):=aZ rfl
theorem ii (t:Nat) (x i:Operand):aV P G (.indexAddr t x i) g σ id K=iZ (Pm P t (g x) (g i)) (fun v=>K v []):=a7 rfl
theorem Bb (t:Nat) (x i:Operand):aQ P G (.index t x i) g σ id K=iZ (RB P t (g x) (g i)) (fun v=>K v σ):=aZ rfl
theorem oB (x:Operand) (a t:Nat) (ok:Bool):aQ P G (.typeAssert x a t ok) g σ id K=iZ (Qq P (g x) t ok) (fun v=>K v σ):=aZ rfl
theorem mQ (x:Operand) (a t:Nat) (ok:Bool):aV P G (.typeAssert x a t ok) g σ id K=iZ (Qq P (g x) t ok) (fun v=>K v []):=a7 rfl
theorem uG (x:Operand) (i:Nat):aQ P G (.extract x i) g σ id K=iZ (O5 i (g x)) (fun v=>K v σ):=aZ rfl
theorem sj (x:Operand) (i:Nat):aV P G (.extract x i) g σ id K=iZ (O5 i (g x)) (fun v=>K v []):=a7 rfl
theorem A9 (t:Nat) (parts:Array (Nat × Operand)):aQ P G (.build t parts) g σ id K=iZ (OK P t (parts.toList.map fun p=>(p.1,g p.2))) (fun v=>K v σ):=aZ rfl
theorem xM (t:Nat) (parts:Array (Nat × Operand)):aV P G (.build t parts) g σ id K=iZ (OK P t (parts.toList.map fun p=>(p.1,g p.2))) (fun v=>K v []):=a7 rfl
theorem ww (x:Operand) (t:Nat):aQ P G (.call ⟨.builtin .len,#[x],#[t]⟩) g σ id K=iZ (rI P t (g x)) (fun v=>K v σ):=aZ rfl
theorem sk (x:Operand) (t:Nat):aV P G (.call ⟨.builtin .len,#[x],#[t]⟩) g σ id K=iZ (rI P t (g x)) (fun v=>K v []):=a7 rfl
theorem Hm (x y:Operand) (ts:Array Nat):aQ P G (.call ⟨.builtin .max,#[x,y],ts⟩) g σ id K=iZ (Lf true (g x) (g y)) (fun v=>K v σ):=aZ rfl
theorem C5 (x y:Operand) (ts:Array Nat):aV P G (.call ⟨.builtin .max,#[x,y],ts⟩) g σ id K=iZ (Lf true (g x) (g y)) (fun v=>K v []):=a7 rfl
theorem Hn (x y:Operand) (ts:Array Nat):aQ P G (.call ⟨.builtin .min,#[x,y],ts⟩) g σ id K=iZ (Lf false (g x) (g y)) (fun v=>K v σ):=aZ rfl
theorem A8 (t:Nat):aQ P G (.alloc t) g σ id K=dd (aR P (.alloc t) g σ id) (fun v new=>K v (σ++new)):=i7 rfl (fun _ _ _ h=>by cases h)
theorem xL (t:Nat):aV P G (.alloc t) g σ id K=dd (aR P (.alloc t) g σ id) K:=jQ rfl
theorem Hl (t:Nat) (x:Operand):aQ P G (.box t x) g σ id K=dd (aR P (.box t x) g σ id) (fun v new=>K v (σ++new)):=i7 rfl (fun _ _ _ h=>by cases h)
theorem oA (t n:Nat) (parts:Array (Nat × Operand)):aQ P G (.buildSlice t n parts) g σ id K=Ib (aR P (.buildSlice t n parts) g σ id) (Vh P t n id (parts.toList.map fun p=>(p.1,g p.2)) σ) σ K:=rfl
theorem mO (t n:Nat) (parts:Array (Nat × Operand)):aV P G (.buildSlice t n parts) g σ id K=dd (aR P (.buildSlice t n parts) g σ id) K:=jQ rfl
theorem Bc (t:Nat) (x:Operand):aQ P G (.range t x) g σ id K=dd (aR P (.range t x) g σ id) (fun v new=>K v (σ++new)):=i7 rfl (fun _ _ _ h=>by cases h)
theorem pN (t:Nat) (l c:Operand):aQ P G (.makeSlice t l c) g σ id K=dd (aR P (.makeSlice t l c) g σ id) (fun v new=>K v (σ++new)):=i7 rfl (fun _ _ _ h=>by cases h)
theorem n6 (t:Nat) (l c:Operand):aV P G (.makeSlice t l c) g σ id K=dd (aR P (.makeSlice t l c) g σ id) K:=jQ rfl
end
theorem IF (x:D) (l:List D) (K:D→Prop):Le (x::l) 0 K=K x:=by simp [Le]
theorem IE (x:D) (l:List D) (n:Nat) (K:D→Prop):Le (x::l) (n+1) K=Le l n K:=by simp [Le]
theorem Fd (b:Bool) (K:Bool→Prop):qB (.d (.lit (.bool b))) K=K b:=rfl
theorem I8 (b:Bool) (K:Bool→Prop) (q:Prop):pD (.d (.lit (.bool b))) K q=K b:=rfl
theorem F1 (K:Bool→Prop) (q:Prop):pD (.tup []) K q=q:=rfl
theorem Fy (b:Bool) (p q:Prop):md (.d (.lit (.bool b))) p q=jj b p q:=rfl
theorem GN (b:Bool) (x y:V) (K:V→Prop):je (.d (.lit (.bool b))) x y K=K (cond b x y):=by
 show jj b (K x) (K y)=_;cases b
 ·exact ny _ _
 ·exact qE _ _
theorem BY (k:Nat) (cs:List V) (K:Nat→List V→Prop) (Y:Nat→Prop) (B:Nat→List V→Prop):bt (.fn k cs) K Y B=K k cs:=rfl
theorem Ft (k:Nat) (cs:List D) (K:Nat→List V→Prop) (Y:Nat→Prop) (B:Nat→List V→Prop):bt (.d (.fn k cs)) K Y B=K k (cs.map .d):=rfl
theorem BZ (i:Nat) (K:Nat→List V→Prop) (Y:Nat→Prop) (B:Nat→List V→Prop):bt (.yl i) K Y B=Y i:=rfl
theorem qG (k:Nat) (cs:List D) (K:Nat→List V→Prop) (Y:Nat→Prop) (B:Nat→List V→Prop):bt (.d (.bf k cs)) K Y B=B k (cs.map .d):=rfl
attribute [push_cast] BZ qG
theorem B0 (cs:List V) (ty:Option Nat) (K:List V→Prop):qI (.cell cs ty) K=K cs:=rfl
theorem Kg (k:Nat) (es:List D) (ty:Option Nat) (K:Nat→List D→Prop):G3 (.row k es ty) K=K k es:=rfl
theorem Cv (s:ByteArray) (pos:Nat) (K:ByteArray→Nat→Prop):rD (.iter s pos) K=K s pos:=rfl
theorem A0 (k:St→Prop) (Q:Exit→St→Prop) (st:St):fv k Q .normal st=k st:=rfl
theorem G8 (k:St→Prop) (Q:Exit→St→Prop) (i:Nat) (st:St):fv k Q (.exit i) st=Q (.exit i) st:=rfl
theorem Ku (k:St→Prop) (Q:Exit→St→Prop) (st:St):fv k Q .ret st=Q .ret st:=rfl
theorem t8 (Q:Exit→St→Prop) (st:St):jX Q .normal st=Q .normal st:=rfl
theorem Df (Q:Exit→St→Prop) (st:St):jX Q .ret st=Q .ret st:=rfl
theorem AY (j:Nat) (Q:Exit→St→Prop) (st:St):jX Q (.exit j) st=Q (.exit j) st:=rfl
theorem tU (i:Nat) (Q:Exit→St→Prop) (st:St):dK i Q .normal st=Q .normal st:=rfl
theorem BV (i:Nat) (Q:Exit→St→Prop) (st:St):dK i Q .ret st=Q .ret st:=rfl
theorem yS (i j:Nat) (Q:Exit→St→Prop) (st:St):dK i Q (.exit j) st=if j=i then Q .normal st else Q (.exit j) st:=rfl
theorem AO (K:St→Prop) (st:St):AN K .normal st=K st:=rfl
theorem J9 (K:St→Prop) (st:St):AN K .ret st=K st:=rfl
theorem zS (P:Program) (t k:Nat) (es:List D) (i j:Nat) (σ:ak) (K:V→Prop):eB P t (.d (.pd k es i j)) σ K=cp (cF P t) fun x=>gZ k es i j x K:=rfl
theorem zV (P:Program) (t id o:Nat) (σ:ak) (K:V→Prop):eB P t (.po id o) σ K=cp (cF P t) fun x=>cp (σ.get id) fun b=>qI b fun cs=>cp (jP x.2 o x.1 cs) K:=rfl
theorem zU (P:Program) (t id k i j:Nat) (σ:ak) (K:V→Prop):eB P t (.pe id k i j) σ K=cp (cF P t) fun x=>cp (σ.get id) fun b=>G3 b fun k' es=>oX (k=k') (gZ k es i j x K):=rfl
theorem Ch (ops:Array Oper) (d:Option Nat) (op:Op) (t:Nat) (p:String) (af:Array Edge) (e:aN) (y n:aN→Prop):cy ops ⟨d,op,t,p,af,none⟩ e y n=y e:=rfl
def tY:List Oper→Nat→Option Nat
 | [],_=>none
 | o::_,0=>o.dst
 | _::r,j+1=>tY r j
theorem FN (d:Option Nat) (op:Op) (t:Nat) (p:String) (af:Array Edge) (gd:Option (Nat × Bool)) (r:List Oper):tY (⟨d,op,t,p,af,gd⟩::r) 0=d:=rfl
theorem FM (o:Oper) (r:List Oper) (j:Nat):tY (o::r) (j+1)=tY r j:=rfl
theorem xf : ∀(l:List Oper) (j:Nat),tY l j=(l.toArray[j]?).bind (·.dst)
 | [],j=>by simp [tY]
 | o::r,0=>by simp [tY]
 | o::r,j+1=>by rw [tY,xf r j];simp
theorem Ci (l:List Oper) (d:Option Nat) (op:Op) (t:Nat) (p:String) (af:Array Edge) (e:aN) (y n:aN→Prop) (j:Nat):cy l.toArray ⟨d,op,t,p,af,some (j,true)⟩ e y n=cp (tY l j) fun d=>pD (e.get d) (fun b=>oK b (dZ (e.put d (.d (.lit (.bool true)))) y) (dZ (e.put d (.d (.lit (.bool false)))) n)) (n e):=by rw [xf];rfl
theorem zz (l:List Oper) (d:Option Nat) (op:Op) (t:Nat) (p:String) (af:Array Edge) (e:aN) (y n:aN→Prop) (j:Nat):cy l.toArray ⟨d,op,t,p,af,some (j,false)⟩ e y n=cp (tY l j) fun d=>pD (e.get d) (fun b=>oK b (dZ (e.put d (.d (.lit (.bool true)))) n) (dZ (e.put d (.d (.lit (.bool false)))) y)) (n e):=by rw [xf];rfl
theorem aN.get_nil (t:Nat):aN.get [] t = .unk:=rfl
theorem aN.get_cons (k t:Nat) (v:V) (r:aN):aN.get ((k,v)::r) t=if k=t then v else aN.get r t:=rfl
theorem L0 (G:Gl) (F:Nat→V) (t:Nat):ep G F (.tmp t)=F t:=rfl
theorem FR (G:Gl) (F:Nat→V) (v:Value):ep G F (.const v) = .d (.lit v):=rfl
theorem IL (G:Gl) (F:Nat→V) (f:Nat):ep G F (.func f) = .d (.fn f []):=rfl
attribute [push_cast] aN.get_nil aN.get_cons aN.put.eq_def aN.putO.eq_def aN.keep Lh ak.get ak.set ak.del
attribute [push_cast] lA.eq_def jF.eq_def zJ.eq_def dj.eq_def bX.eq_def tT.eq_def rB.eq_def j2.eq_def Eg.eq_def oC.eq_def O3.eq_def Es.eq_def eA.eq_def gQ cR Rb.eq_def zQ.eq_def LG.eq_def cz bB q8.eq_def O8.eq_def O9.eq_def Cq.eq_def ry.eq_def Qs.eq_def OZ.eq_def Py.eq_def O5.eq_def rI.eq_def Lf.eq_def CG.eq_def Dw.eq_def lE.eq_def gU.eq_def kH.eq_def t6.eq_def Pm.eq_def RB.eq_def Ol.eq_def Qq.eq_def OK.eq_def vb QJ.eq_def V.cellOk.eq_def V.cellsV.eq_def D.cells.eq_def V.atom.eq_def vw.eq_def pw vV.eq_def jP.eq_def D.asAgg.eq_def setAt.eq_def Fe.eq_def aR.eq_def KG.eq_def xU fb.eq_def lZ.eq_def qx.eq_def tR.eq_def NX.eq_def HZ.eq_def
attribute [push_cast] Option.map_some Option.map_none Option.bind_some Option.bind_none List.map_cons List.map_nil List.cons_append List.nil_append List.append_nil List.length_cons List.length_nil List.all_cons List.all_nil Bool.and_true Bool.and_self Bool.or_true Bool.or_false Bool.true_and Bool.false_and Bool.and_false Bool.true_or Bool.false_or and_self and_true true_and and_false false_and List.drop_zero List.drop_succ_cons List.take_zero List.take_succ_cons List.getElem?_cons_zero List.getElem?_cons_succ List.size_toArray List.getElem?_toArray Bool.false_eq_true if_true if_false
attribute [push_cast] List.toList_toArray V.d.injEq D.lit.injEq gn List.contains_cons List.contains_nil List.drop_nil List.take_nil Nat.zero_add Nat.add_zero beq_self_eq_true List.getElem?_nil
section
variable {P:Program} {G:Gl} {m:Nat} {rs:List ResultVar} {r:V} {σ':ak} {st:St}
theorem ae.sel (l:List Nat) (h:ae P G m rs r σ' (st.sel m l)):ae P G m rs r σ' st:=aC.via (cq.sel G m st l) h
theorem ae.frz (id:Nat) (h:ae P G m rs r σ' (st.frz id)):ae P G m rs r σ' st:=aC.via (cq.frz G m st id) h
theorem ae.pick (ks is:List Nat) (h:ae P G m rs r σ' (st.pick ks is)):ae P G m rs r σ' st:=aC.via (cq.pick G m st ks is) h
theorem Lp (σ:ak):ap [] σ:=fun _ _ h=>by cases h
theorem hZ {α:Type} {o:Option α} {f f':α→Prop} (hf : ∀x,f x→f' x) (h:cp o f):cp o f':=by
 cases o with
 | none=>exact h
 | some x=>exact hf x h
theorem qY {k:Nat} {es:List D} {i j:Nat} {x:Nat × Bool} {K K':V→Prop} (hk : ∀v,K v→K' v) (h:gZ k es i j x K):gZ k es i j x K':=
 ⟨h.1,fun e he=>hZ (fun _ hy=>hk _ hy) (h.2 e he)⟩
theorem CB {t:Nat} {a:V} {σ:ak} {K K':V→Prop} (hk : ∀v,K v→K' v) (h:eB P t a σ K):eB P t a σ K':=by
 unfold eB at h ⊢;refine hZ (fun x h =>?_) h;split at h
 ·exact qY hk h
 ·refine hZ (fun b hb =>?_) h;cases b<;>first|exact hb|exact hZ hk hb
 ·refine hZ (fun b hb =>?_) h;cases b<;>first|exact hb|exact ⟨hb.1,qY hk hb.2⟩
 ·exact h
theorem v8 : ∀ {rs:List ResultVar} {K K':List V→Prop},(∀vs,K vs→K' vs)→n9 P rs st K→n9 P rs st K':=by
 intro rs;induction rs with
 | nil=>intro K K' hk h;exact hk _ h
 | cons x rs ih=>
  intro K K' hk h;cases x with
  | tmp t=>exact ih (fun vs hv=>hk _ hv) h
  | cell a t=>
   exact CB (fun v hv=>ih (fun vs hv=>hk _ hv) hv) h
theorem ae.now (l:List Nat) (hl:l.length≤4) (h:n9 P rs st fun vs=>(pH vs).sel (jZ m l)=r∧ap σ' (st.sg.sel (jZ m l))):ae P G m rs r σ' st:=
 aC.now (v8 (fun _ h=>⟨l,h.1,h.2,hl⟩) h)
theorem ae.out (h:n9 P rs st fun vs=>(pH vs).sel (jZ m [])=r):ae P G m rs r [] st:=
 ae.now [] (Nat.zero_le _) (v8 (fun _ h=>⟨h,Lp _⟩) h)
end
attribute [push_cast] Value.oneCell'.eq_def n9 pH.eq_def V.atm.eq_def St.sel.eq_def aN.sel ak.sel bF.sel.eq_def V.sel.eq_def V.selA.eq_def jZ.eq_def Jh St.frz.eq_def aN.frz ak.frz iM.eq_def V.frz.eq_def bF.frz.eq_def St.pick.eq_def List.filterMap_cons List.filterMap_nil List.map_map
attribute [push_cast] td o7 m9 kT te pG ph mN tg o9 uF pM n5 tc Bd xN jf ig pi mP jg ii Bb oB mQ uG sj A9 xM ww sk Hm C5 Hn A8 xL Hl oA mO Bc pN n6 Be ta tf Do Dl ym Dm Ba OS.eq_def o6 o8
attribute [push_cast] Ie Ic Vh.eq_def QO.eq_def Uj.eq_def RQ.eq_def PY RS.eq_def PX I4 Iu Is Cc BX QB.eq_def QD.eq_def KX.eq_def QM.eq_def Pr.eq_def
section
variable {P:Program} {G:Gl} {n m:Nat} {lv:List Nat}
theorem kM.via {c:Code} {st:St} {Q:Exit→St→Prop} (h:aC G m (fun st'=>kM P G n m c st' Q) st):kM P G n m c st Q:=by
 obtain ⟨st',h1,h2⟩:=h;exact fun fr hfr C a w hn hm hr=>h2 fr hfr C a w hn hm (h1 C a w hm hr)
theorem np.via {g:Operand} {ps:Array Nat} {asg body:Code} {st:St} {Q:Exit→St→Prop} (h:aC G m (fun st'=>np P G n m g ps asg body st' Q) st):np P G n m g ps asg body st Q:=by
 obtain ⟨st',h1,h2⟩:=h;exact fun fr hfr C a w hn hm hr=>h2 fr hfr C a w hn hm (h1 C a w hm hr)
theorem aC.to {K:St→Prop} {st st':St} (ks is l:List Nat) (he:(st.pick ks is).sel m l=st') (hK:K st'):aC G m K st:=
 aC.via (cq.pick G m st ks is) (aC.via (cq.sel G m _ l) (aC.now (by rw [he];exact hK)))
theorem aC.frz {K:St→Prop} {st:St} (id:Nat) (h:aC G m K (st.frz id)):aC G m K st:=aC.via (cq.frz G m st id) h
theorem aC.nil {K:St→Prop} {st:St} (t k:Nat) (h:aC G m K (st.nil t k)):aC G m K st:=aC.via (cq.nil G m st t k) h
theorem JA (ho:P.follows .mixedOrders=true) {c:Code} (hok:aP n c=true) {st:St} {Q:Exit→St→Prop} {α:Type} (S:α→St) (pre:α→Prop) (mu:α→Nat) (x0:α) (h0:aC G m (fun st'=>st'=S x0) st) (hp:pre x0)
 (hr : ∀x,pre x→bC P G n m lv c (S x) (fv (aC G m fun st'=> ∃j,j<mu x ∧ ∃y,mu y=j∧st'=S y∧pre y) Q)):kM P G n m c st Q:=by
 refine kM.via ?_;obtain ⟨st',h1,rfl⟩:=h0;refine ⟨_,h1,?_⟩;refine Gn (lv:=lv) ho hok (fun k st=> ∃x,mu x=k∧st=S x∧pre x) (mu x0) ⟨x0,rfl,rfl,hp⟩ ?_;rintro k st ⟨x,rfl,rfl,hx⟩;exact hr x hx
theorem au.d {f:Nat} {args:List V} {σ:ak} {id:Nat} {K:V→ak→Prop} {r:V} (h:an P G f args [] 0 r []) (he:cx P f=true) (ha:args.map (V.sel (fw []))=args) (hr:r.sel (bk [] id)=r) (hK:K r σ):au P G f args σ id K:=
 au.of [] he (by rw [ha,sE];exact h) rfl (by rw [hr];show K r (σ++[]);rw [List.append_nil];exact hK)
theorem dI.d {f:Nat} {args:List V} {σ:ak} {id:Nat} {K:V→ak→Prop} {r:V} (h:an P G f args [] 0 r []) (he:cx P f=true) (ha:args.map (V.sel (fw []))=args) (hr:r.sel (bk [] id)=r) (hK:K r []):dI P G f args σ id K:=
 dI.of he (by rw [ha];exact h) (by rw [hr];exact hK)
end
theorem ev.q {P:Program} {G:Gl} {lo:List Nat} {ops:Array Oper} {i k:Nat} {args:List V} {σp acc:ak} {id:Nat} {Kq Ke:V→ak→Prop} (h:dI P G k args σp id Kq):ev P G lo ops i k args σp acc id Kq Ke:= .inl h
theorem ev.e {P:Program} {G:Gl} {lo:List Nat} {ops:Array Oper} {i k:Nat} {args:List V} {σp acc:ak} {id:Nat} {Kq Ke:V→ak→Prop} (hl:f7 lo ops i=true) (h:au P G k args (σp++acc) id Ke):ev P G lo ops i k args σp acc id Kq Ke:= .inr ⟨hl,h⟩
theorem ev.d {P:Program} {G:Gl} {lo:List Nat} {ops:Array Oper} {i f:Nat} {args:List V} {σ acc:ak} {id:Nat} {K L:V→ak→Prop} {r:V} (h:an P G f args [] 0 r []) (he:cx P f=true) (ha:args.map (V.sel (fw []))=args) (hr:r.sel (bk [] id)=r) (hK:K r []):ev P G lo ops i f args σ acc id K L:= .inl (dI.d h he ha hr hK)
def aI {α:Type} (xs:List α) (i:Nat) (K:α→Prop) (_u:Tag K:= .mk) (_h:True:=trivial):Prop:= ∀x,xs[i]? = some x→K x
theorem LU {α:Type} (f:α→D) (xs:List α) (i:Nat) (K:D→Prop):Le (xs.map f) i K=aI xs i fun x=>K (f x):=by
 unfold Le aI;apply propext;constructor
 ·intro h x hx;exact h (f x) (by simp [hx])
 ·intro h e he;simp only [List.getElem?_map,Option.map_eq_some_iff] at he;obtain ⟨x,hx,rfl⟩:=he;exact h x hx
attribute [push_cast] List.length_map Int.toNat_natCast
abbrev iv (a:Int):V:= .d (.lit (.int .i64 a))
abbrev bv (b:Bool):V:= .d (.lit (.bool b))
theorem jj.two {b:Bool} {p q:Prop} (h1:b=true→p) (h2:b=false→q):jj b p q:=⟨h1,h2⟩
theorem oK.two {b:Bool} {p q:Prop} (h1:b=true→p) (h2:b=false→q):oK b p q:=⟨h1,h2⟩
theorem jj.dec {p:Prop} [Decidable p] {q r:Prop} (h1:p→q) (h2 : ¬p→r):jj (decide p) q r:=⟨fun h=>h1 (of_decide_eq_true h),fun h=>h2 (of_decide_eq_false h)⟩
theorem oK.dec {p:Prop} [Decidable p] {q r:Prop} (h1:p→q) (h2 : ¬p→r):oK (decide p) q r:=⟨fun h=>h1 (of_decide_eq_true h),fun h=>h2 (of_decide_eq_false h)⟩
theorem oK.ndec {p:Prop} [Decidable p] {q r:Prop} (h1 : ¬p→q) (h2:p→r):oK (!decide p) q r:=⟨fun h=>h1 (by simpa using h),fun h=>h2 (by simpa using h)⟩
theorem jj.ndec {p:Prop} [Decidable p] {q r:Prop} (h1 : ¬p→q) (h2:p→r):jj (!decide p) q r:=⟨fun h=>h1 (by simpa using h),fun h=>h2 (by simpa using h)⟩
theorem oX.intro {p q:Prop} (h1:p) (h2:p→q):oX p q:=⟨h1,h2 h1⟩
theorem oX.intro' {p q:Prop} (h1:p) (h2:q):oX p q:=⟨h1,h2⟩
theorem aI.intro {α:Type} {xs:List α} {i:Nat} {K:α→Prop} (h : ∀x,xs[i]? = some x→K x):aI xs i K:=h
theorem Le.intro {xs:List D} {i:Nat} {K:D→Prop} (h : ∀x,xs[i]? = some x→K x):Le xs i K:=h
theorem aI.at {α:Type} {xs:List α} {i:Nat} {K:α→Prop} (n:Nat) (hn:i=n) (h : ∀x,xs[n]? = some x→K x):aI xs i K:=by subst hn;exact h
theorem aI.is {α:Type} {xs:List α} {i:Nat} {K:α→Prop} (n:Nat) (x:α) (hn:i=n) (hx:xs[n]? = some x) (h:K x):aI xs i K:=by
 subst hn;intro y hy;rw [hx] at hy;injection hy with hy;subst hy;exact h
theorem aj (σ:ak):ap σ σ:=fun _ _ h=>h
theorem QS (n:Int) (h1 : -9223372036854775808≤n) (h2:n≤9223372036854775807):IntKind.i64.wrap n=n:=IntWalk.i64_in n ⟨h1,h2⟩
attribute [push_cast] St.nil.eq_def Nat.le_refl List.take_length Int.sub_zero Int.add_zero Int.zero_add
theorem ax {α:Type} {xs:List α} {i:Nat} {x:α} (h:xs[i]? = some x):xs.take (i+1)=xs.take i++[x]:=by
 rw [List.take_add_one,h];simp
theorem Xx (n:Int) (h1:0≤n) (h2:n≤18446744073709551615):IntKind.u64.wrap n=n:=by rw [IntKind.wrap_u64];omega
theorem I9 (n:Int):n.fdiv (2 ^ min (Int.toNat 1) IntKind.u64.bits)=n / 2:=by
 rw [show (2:Int) ^ min (Int.toNat 1) IntKind.u64.bits=2 from rfl,Int.fdiv_eq_ediv_of_nonneg n (by omega)]
theorem Mh (n:Int):n.fdiv (2 ^ min 1 IntKind.u64.bits)=n / 2:=I9 n
def yM:List Nat→Nat→List Nat
 | [],i=>[i]
 | x::r,i=>if x=i then x::r else x::yM r i
def Pk (l:List Nat):V→List Nat
 | .so i _ _ _=>yM l i
 | .po i _=>yM l i
 | .pe i _ _ _=>yM l i
 | .mo i=>yM l i
 | .it i=>yM l i
 | .yl i=>yM l i
 | _=>l
def Jg (l:List Nat):List V→List Nat
 | []=>l
 | v::r=>Jg (Pk l v) r
def RA (l:List Nat):V→List Nat
 | .agg cs=>Jg l cs
 | .tup cs=>Jg l cs
 | .fn _ cs=>Jg l cs
 | v=>Pk l v
def rx (l:List Nat):List V→List Nat
 | []=>l
 | v::r=>rx (RA l v) r
def Pj (σ:ak):List Nat→List Nat→List Nat
 | [],l=>l
 | i::r,l=>Pj σ r (match σ.get i with|some (.cell cs _)=>rx l cs|_=>l)
def F7 (σ:ak) (l:List Nat):List Nat:=Pj σ l l
def Pg (e:aN):List Nat→List V
 | []=>[]
 | t::r=>e.get t::Pg e r
def St.ids (st:St) (ks:List Nat):List Nat:=F7 st.sg (F7 st.sg (rx [] (Pg st.env ks)))
def Me (m:Nat):List Nat→List Nat
 | []=>[]
 | x::r=>if x<m then Me m r else x::Me m r
def St.norm (st:St) (m:Nat) (ks:List Nat):St:=(st.pick ks (st.ids ks)).sel m (Me m (st.ids ks))
attribute [push_cast] yM Pk.eq_def Jg RA.eq_def rx Pj F7.eq_def Pg Me St.ids.eq_def St.norm.eq_def
theorem aC.go {G:Gl} {m:Nat} {K:St→Prop} {st st':St} (ks:List Nat) (he:st.norm m ks=st') (hK:K st'):aC G m K st:=aC.to ks (st.ids ks) (Me m (st.ids ks)) he hK
def aG {α:Type} (G:Gl) (m:Nat) (S:α→St) (pre:α→Prop) (mu:α→Nat) (x:α) (st:St) (_u:Tag S:= .mk) (_v:Tag pre:= .mk) (_w:Tag mu:= .mk) (_x:Tag x:= .mk) (_h:True:=trivial):Prop:=aC G m (fun st'=> ∃j,j<mu x ∧ ∃y,mu y=j∧st'=S y∧pre y) st
section
variable {P:Program} {G:Gl} {n m:Nat} {lv:List Nat} {α:Type} {S:α→St} {pre:α→Prop} {mu:α→Nat}
theorem aG.to {x:α} {st:St} (y:α) (ks is l:List Nat) (he:(st.pick ks is).sel m l=S y) (hm:mu y<mu x) (hp:pre y):aG G m S pre mu x st:=
 aC.to ks is l he ⟨_,hm,y,rfl,rfl,hp⟩
theorem aG.go {x:α} {st:St} (y:α) (ks:List Nat) (he:st.norm m ks=S y) (hm:mu y<mu x) (hp:pre y):aG G m S pre mu x st:=
 aC.go ks he ⟨_,hm,y,rfl,rfl,hp⟩
theorem aG.frz {x:α} {st:St} (id:Nat) (h:aG G m S pre mu x (st.frz id)):aG G m S pre mu x st:=aC.frz id h
theorem JB (ho:P.follows .mixedOrders=true) {c:Code} (hok:aP n c=true) {st:St} {Q:Exit→St→Prop} (S:α→St) (pre:α→Prop) (mu:α→Nat) (x0:α) (h0:aC G m (fun st'=>st'=S x0) st) (hp:pre x0)
 (hr : ∀x,pre x→bC P G n m lv c (S x) (fv (fun st=>aG G m S pre mu x st) Q)):kM P G n m c st Q:=
 JA (lv:=lv) ho hok S pre mu x0 h0 hp hr
end
section
variable {P:Program} {G:Gl}
theorem au.put {f:Nat} {args args':List V} {σ:ak} {id:Nat} {K:V→ak→Prop} {r:V} {b b':bF} (i:Nat) (h:an P G f args' [(0,b)] 1 r [(0,b')]) (he:cx P f=true) (ha:args.map (V.sel (fw [i]))=args') (hs:σ.sel (fw [i])=[(0,b)]) (hl:HH [i] id σ=true)
 (hK:K (r.sel (bk [i] id)) (ld σ [i]++ak.sel (bk [i] id) [(0,b')])):au P G f args σ id K:=
 au.of [i] he (by rw [ha,hs];exact h) hl hK
end
theorem jj.beq {a b:Int} {q r:Prop} (h1:a=b→q) (h2 : ¬a=b→r):jj (a==b) q r:=⟨fun h=>h1 (by simpa using h),fun h=>h2 (by simpa using h)⟩
theorem oK.beq {a b:Int} {q r:Prop} (h1:a=b→q) (h2 : ¬a=b→r):oK (a==b) q r:=⟨fun h=>h1 (by simpa using h),fun h=>h2 (by simpa using h)⟩
theorem jj.bne {a b:Int} {q r:Prop} (h1 : ¬a=b→q) (h2:a=b→r):jj (!(a==b)) q r:=⟨fun h=>h1 (by simpa using h),fun h=>h2 (by simpa using h)⟩
theorem oK.bne {a b:Int} {q r:Prop} (h1 : ¬a=b→q) (h2:a=b→r):oK (!(a==b)) q r:=⟨fun h=>h1 (by simpa using h),fun h=>h2 (by simpa using h)⟩
theorem jj.dand {p p':Prop} [Decidable p] [Decidable p'] {q r:Prop} (h1:p∧p'→q) (h2 : ¬(p∧p')→r):jj (decide p&&decide p') q r:=⟨fun h=>h1 (by simpa using h),fun h=>h2 (by simpa using h)⟩
theorem oK.dand {p p':Prop} [Decidable p] [Decidable p'] {q r:Prop} (h1:p∧p'→q) (h2 : ¬(p∧p')→r):oK (decide p&&decide p') q r:=⟨fun h=>h1 (by simpa using h),fun h=>h2 (by simpa using h)⟩
theorem jj.dor {p p':Prop} [Decidable p] [Decidable p'] {q r:Prop} (h1:p∨p'→q) (h2 : ¬(p∨p')→r):jj (decide p||decide p') q r:=⟨fun h=>h1 (by simpa using h),fun h=>h2 (by simpa using h)⟩
theorem oK.dor {p p':Prop} [Decidable p] [Decidable p'] {q r:Prop} (h1:p∨p'→q) (h2 : ¬(p∨p')→r):oK (decide p||decide p') q r:=⟨fun h=>h1 (by simpa using h),fun h=>h2 (by simpa using h)⟩
theorem jj.and {a b:Bool} {q r:Prop} (h:jj a (jj b q r) r):jj (a&&b) q r:=by
 cases a
 ·exact ⟨fun h=>by simp at h,fun _=>h.2 rfl⟩
 ·exact h.1 rfl
attribute [push_cast] Bool.not_true Bool.not_false bk.eq_def fw.eq_def ld HH.eq_def
end Go.Proofs.YtkkanlcjjpoklaaGreatDoor
set_option linter.unusedSimpArgs false
namespace Go.Proofs.YtkkanlcjjpoklaaGreatDoor
open Go
section
variable {P:Program}
def zc (P:Program) (g:Nat→Option (List CK)):List Field→Nat→Option (List CK)
 | [],_=>some []
 | f::r,o=>if (decide (f.name ≠ "_")&&decide (f.offset=o)&&(P.info? f.type).isSome)=true then (match g f.type with
  | some a=>if P.cellsOf f.type=a.length then (zc P g r (o+a.length)).map (a ++ ·) else none
  | none=>none) else none
def qZ (P:Program):Nat→Nat→Option (List CK)
 | 0,_=>none
 | d+1,t=>match P.underlying t with
  | some (.int k)=>some [.int k]
  | some .bool=>some [.bool]
  | some .string=>some [.str]
  | some (.struct fs)=>if P.stoodInHeld t=false then zc P (qZ P d) fs.toList 0 else none
  | _=>none
def dJ (P:Program) (t:Nat) (xs:List Value) (v:Value):Prop:=
 match P.underlying t with
 | some (.struct _)=>v = .agg xs.toArray
 | _=>xs=[v]
theorem eO : ∀ {ks:List CK} {xs:List Value},b9 ks xs→ks.length=xs.length
 | [],[],_=>rfl
 | _::_,_::_,h=>by simp [eO h.2]
 | [],_::_,h=>h.elim
 | _::_,[],h=>h.elim
theorem jD : ∀ {a b:List CK} {xs:List Value},b9 (a++b) xs→b9 a (xs.take a.length)∧b9 b (xs.drop a.length)
 | [],_,_,h=>⟨trivial,h⟩
 | _::_,_,[],h=>h.elim
 | c::a,b,x::xs,h=>by
  have:=jD (a:=a) (b:=b) h.2;exact ⟨⟨h.1,this.1⟩,this.2⟩
theorem q9 : ∀ {a b c d:List Value},a.length=b.length→bB (a++c) (b++d)=(bB a b&&bB c d)
 | [],[],_,_,_=>by simp [bB]
 | x::a,y::b,c,d,h=>by simp [bB,q9 (a:=a) (b:=b) (c:=c) (d:=d) (by simpa using h),Bool.and_assoc]
 | [],_::_,_,_,h=>by simp at h
 | _::_,[],_,_,h=>by simp at h
theorem zb {d t:Nat} {ks:List CK} (h:qZ P d t=some ks) (hs : ∀fs,P.underlying t≠some (.struct fs)):ks.length=1∧((∃k,P.underlying t=some (.int k))∨P.underlying t=some .bool∨P.underlying t=some .string):=by
 cases d with
 | zero=>simp [qZ] at h
 | succ d=>
  simp only [qZ] at h;split at h
  ·injection h with h;subst h;rename_i k hk;exact ⟨rfl,.inl ⟨k,hk⟩⟩
  ·injection h with h;subst h;rename_i hk;exact ⟨rfl,.inr (.inl hk)⟩
  ·injection h with h;subst h;rename_i hk;exact ⟨rfl,.inr (.inr hk)⟩
  ·rename_i fs hk;exact absurd hk (hs fs)
  ·cases h
theorem Ar {d e o:Nat} {ks:List CK} {xs:List Value} {w:World} (h:qZ P d e=some ks) (hi:(P.info? e).isSome=true) (hc:P.cellsOf e=ks.length) (hl:o+ks.length≤xs.length) :
 ∃v,(part e xs.toArray o).run P w = .ok v w∧dJ P e ((xs.drop o).take ks.length) v:=by
 by_cases hs : ∃fs,P.underlying e=some (.struct fs)
 ·obtain ⟨fs,hu⟩:=hs;obtain ⟨i,hi⟩:=Option.isSome_iff_exists.1 hi;refine ⟨.agg (xs.toArray.extract o (o+P.cellsOf e)),by simp [part,isAgg,run_underlying hu,run_sizeOf w hi],?_⟩;simp only [dJ,hu];congr 1;apply Array.ext';rw [Array.toList_extract,hc];simp [List.extract]
 ·have hs' : ∀fs,P.underlying e≠some (.struct fs):=fun fs hu=>hs ⟨fs,hu⟩
  obtain ⟨h1,hk⟩:=zb h hs';have hlt:o<xs.length:=by omega
  have hp:P.plainKey e=true:=by
   unfold Program.plainKey;rcases hk with ⟨k,hk⟩|hk|hk<;>rw [hk]
  refine ⟨xs[o],run_part_plain w hp (by simp [hlt]),?_⟩;have:(xs.drop o).take ks.length=[xs[o]]:=by rw [h1,List.drop_eq_getElem_cons hlt,List.take_succ_cons,List.take_zero]
  rcases hk with ⟨k,hk⟩|hk|hk<;>simp only [dJ,hk]<;>exact this
theorem iJ {d D:Nat} (ih : ∀t ks,qZ P d t=some ks → ∀(w:World) xs ys vx vy,b9 ks xs→b9 ks ys→dJ P t xs vx→dJ P t ys vy→(Op.equalIn D t vx vy).run P w = .ok (bB xs ys) w)
 (xs ys:List Value) (w:World) : ∀(fs:List Field) (o:Nat) (ks:List CK),zc P (qZ P d) fs o=some ks→b9 ks (xs.drop o)→b9 ks (ys.drop o) →
  (Op.eqFields D xs.toArray ys.toArray fs).run P w = .ok (bB (xs.drop o) (ys.drop o)) w
 | [],o,ks,h,hx,hy=>by
  simp only [zc,Option.some.injEq] at h;subst h;have h1:=eO hx;have h2:=eO hy;rw [List.eq_nil_of_length_eq_zero h1.symm,List.eq_nil_of_length_eq_zero h2.symm];simp [Op.eqFields,bB]
 | f::fs,o,ks,h,hx,hy=>by
  simp only [zc] at h;split at h;rotate_left
  ·cases h
  rename_i hc;simp only [Bool.and_eq_true,decide_eq_true_eq] at hc;obtain ⟨⟨hn,ho⟩,hi⟩:=hc;split at h;rotate_left
  ·cases h
  rename_i a ha;split at h;rotate_left
  ·cases h
  rename_i hcl;simp only [Option.map_eq_some_iff] at h;obtain ⟨b,hb,rfl⟩:=h;have lx:=eO hx;have ly:=eO hy;simp only [List.length_append,List.length_drop] at lx ly;obtain ⟨hx1,hx2⟩:=jD hx;obtain ⟨hy1,hy2⟩:=jD hy;rw [List.drop_drop] at hx2 hy2;have l1:o+a.length≤xs.length∨a.length=0:=by omega
  have l2:o+a.length≤ys.length∨a.length=0:=by omega
  rcases Nat.eq_zero_or_pos a.length with h0|h0
  ·-- a type without cells: a struct without fields
   have ha0:a=[]:=List.eq_nil_of_length_eq_zero h0;subst ha0;by_cases hs : ∃gs,P.underlying f.type=some (.struct gs)
   ·obtain ⟨gs,hu⟩:=hs;obtain ⟨i,hi⟩:=Option.isSome_iff_exists.1 hi;have p : ∀zs:List Value,(part f.type zs.toArray f.offset).run P w = .ok (.agg #[]) w:=by
     intro zs;simp [part,isAgg,run_underlying hu,run_sizeOf w hi,hcl]
    have e:=ih f.type [] ha w [] [] (.agg #[]) (.agg #[]) trivial trivial (by simp [dJ,hu]) (by simp [dJ,hu]);have r:=iJ ih xs ys w fs (o+0) b hb hx2 hy2;simp only [Op.eqFields,hn,ne_eq,not_false_eq_true,if_true,Sem.run_bind,p,e,Result.andThen_ok,bB,Bool.not_true,Bool.false_eq_true,if_false];exact r
   ·have:=(zb ha fun gs hu=>hs ⟨gs,hu⟩).1;simp at this
  ·have l1:o+a.length≤xs.length:=by omega
   have l2:o+a.length≤ys.length:=by omega
   obtain ⟨v,p1,q1⟩:=Ar (w:=w) ha hi hcl l1;obtain ⟨u,p2,q2⟩:=Ar (w:=w) ha hi hcl l2;have e:=ih f.type a ha w _ _ v u hx1 hy1 q1 q2;have r:=iJ ih xs ys w fs (o+a.length) b hb hx2 hy2;have key:bB (xs.drop o) (ys.drop o)=(bB ((xs.drop o).take a.length) ((ys.drop o).take a.length)&&bB (xs.drop (o+a.length)) (ys.drop (o+a.length))):=by
    rw [←q9 (by simp;omega),←List.drop_drop,←List.drop_drop,List.take_append_drop,List.take_append_drop]
   rw [key];simp only [Op.eqFields,hn,ho,ne_eq,not_false_eq_true,if_true,Sem.run_bind,p1,p2,e,Result.andThen_ok];cases bB ((xs.drop o).take a.length) ((ys.drop o).take a.length)
   ·simp
   ·simpa using r
theorem IG : ∀(d t:Nat) (ks:List CK),qZ P d t=some ks → ∀(D:Nat) (w:World) xs ys vx vy,d≤D→b9 ks xs→b9 ks ys→dJ P t xs vx→dJ P t ys vy→(Op.equalIn D t vx vy).run P w = .ok (bB xs ys) w:=by
 intro d;induction d with
 | zero=>intro t ks h;simp [qZ] at h
 | succ d ih=>
  intro t ks h D w xs ys vx vy hD hx hy hvx hvy;obtain ⟨D,rfl⟩ : ∃E,D=E+1:=⟨D - 1,by omega⟩
  simp only [qZ] at h;split at h
  ·rename_i k hu;injection h with h;subst h;simp only [dJ,hu] at hvx hvy;subst hvx hvy;obtain ⟨⟨a,rfl⟩,_⟩:=hx;obtain ⟨⟨b,rfl⟩,_⟩:=hy;rw [run_equalIn_int w D t k k a b hu];simp [bB,q8]
  ·rename_i hu;injection h with h;subst h;simp only [dJ,hu] at hvx hvy;subst hvx hvy;obtain ⟨⟨a,rfl⟩,_⟩:=hx;obtain ⟨⟨b,rfl⟩,_⟩:=hy;rw [run_equalIn_bool' w D t a b hu];simp [bB,q8]
  ·rename_i hu;injection h with h;subst h;simp only [dJ,hu] at hvx hvy;subst hvx hvy;obtain ⟨⟨a,rfl⟩,_⟩:=hx;obtain ⟨⟨b,rfl⟩,_⟩:=hy;rw [run_equalIn_string w D t a b hu,←beq_toListBytes];simp [bB,q8]
  ·rename_i fs hu;split at h;rotate_left
   ·cases h
   rename_i hst;simp only [dJ,hu] at hvx hvy;subst hvx hvy;have hf:P.fieldsOf t=fs:=by simp [Program.fieldsOf,hu]
   rw [run_equalIn_struct w D t _ _ (by rw [hf];exact hu) hst,hf];exact iJ (fun t ks h w xs ys vx vy a b c e=>ih t ks h D w xs ys vx vy (by omega) a b c e) xs ys w fs.toList 0 ks h hx hy
  ·cases h
def IH (P:Program) (t:Nat):Option (List CK):=
 match P.underlying t with
 | some (.struct _)=>if P.eqGuardType P.depth t=false then qZ P 20 t else none
 | _=>none
theorem lV.of {t:Nat} {ks:List CK} (h:IH P t=some ks):lV P t ks:=by
 unfold IH at h;split at h;rotate_left
 ·cases h
 rename_i fs hu;split at h;rotate_left
 ·cases h
 rename_i hg;refine ⟨hg,fun xs ys w hx hy =>?_⟩;exact IG 20 t ks h Op.maxDepth w xs ys _ _ (by decide) hx hy (by simp [dJ,hu]) (by simp [dJ,hu])
end
attribute [push_cast] bB q8
end Go.Proofs.YtkkanlcjjpoklaaGreatDoor
set_option linter.unusedSimpArgs false
namespace Go.Proofs.YtkkanlcjjpoklaaGreatDoor
open Go
section
variable {P:Program} {G:Gl} {w:World} {I:Nat→Prop} {β:b7} {σ:ak} {nx id:Nat} {blk:bF}
theorem tO.frz {f i:Nat} {args:List V} {v:V} {σ':ak} (hg:σ.get i=some blk) (h:tO P G f (args.map (V.frz i blk)) (σ.frz i blk) id v σ'):tO P G f args σ id v σ':=by
 intro w I β nx vals hm hG hf hnx hd;obtain ⟨s,hset⟩:=zu hm hg;refine (h w _ β nx vals s.mem (fun g x hx=>(hG g x hx).keep (fun _ _=>rfl) (fun b hb=> .inl hb)) hf hnx ⟨by simpa using hd.1,fun j c x hc hx =>?_⟩).mono ?_
 ·simp only [List.getElem?_map,Option.map_eq_some_iff] at hc;obtain ⟨c',hc',rfl⟩:=hc;exact hset.den (hd.2 j c' x hc' hx)
 ·rintro e w' ⟨u,I2,β2,e1,e2,e3,e4⟩;exact ⟨u,I2,β2,e1,e2,s.trans e3,e4⟩
theorem au.frz {f:Nat} {args:List V} {K:V→ak→Prop} (i:Nat) (hg:σ.get i=some blk) (h:au P G f (args.map (V.frz i blk)) (σ.frz i blk) id K) (hent:cx P f=true:=by kernel_rfl):au P G f args σ id K:=by
 obtain ⟨v,σ',hK,hd⟩:=h;rcases hd with ⟨he,hd⟩|⟨he,_⟩
 ·exact ⟨v,σ',hK,.inl ⟨he,hd.frz hg⟩⟩
 ·rw [L2 hent] at he;cases he
end
attribute [push_cast] bne_self_eq_false beq_self_eq_true Bool.true_beq Bool.false_beq Bool.false_or Bool.true_or Bool.or_false Bool.or_true Bool.and_true Bool.true_and Bool.false_and Bool.and_false
end Go.Proofs.YtkkanlcjjpoklaaGreatDoor
set_option linter.unusedVariables false
namespace Go.Proofs.YtkkanlcjjpoklaaGreatDoor
theorem UU (a b:Int):(a != b) = !(a==b):=rfl
attribute [push_cast] UU Bool.not_not
class kG (b:Bool) (p q:outParam Prop):Prop where
 says:b=true↔p
 nots:b=false↔q
theorem kG.mk' {b:Bool} {p:Prop} (h:b=true↔p):kG b p (¬p):=⟨h,by rw [←h];simp⟩
instance (priority:=100) kG.any (b:Bool):kG b (b=true) (b=false):=⟨Iff.rfl,Iff.rfl⟩
instance kG.dec {p:Prop} [Decidable p]:kG (decide p) p (¬p):=kG.mk' (by simp)
instance kG.beq {a b:Int} : kG (a==b) (a=b) (¬a=b):=kG.mk' (by simp)
instance kG.not {b:Bool} {p q:Prop} [h:kG b p q]:kG (!b) q p:=⟨by rw [←h.nots];simp,by rw [←h.says];simp⟩
instance kG.and {a b:Bool} {p q p' q':Prop} [h:kG a p p'] [k:kG b q q']:kG (a&&b) (p∧q) (¬(p∧q)):=kG.mk' (by rw [←h.says,←k.says];simp)
instance kG.or {a b:Bool} {p q p' q':Prop} [h:kG a p p'] [k:kG b q q']:kG (a||b) (p∨q) (¬(p∨q)):=kG.mk' (by rw [←h.says,←k.says];simp)
theorem jj.of {b:Bool} {p p':Prop} [h:kG b p p'] {q r:Prop} (h1:p→q) (h2:p'→r):jj b q r:=⟨fun e=>h1 (h.says.1 e),fun e=>h2 (h.nots.1 e)⟩
theorem oK.of {b:Bool} {p p':Prop} [h:kG b p p'] {q r:Prop} (h1:p→q) (h2:p'→r):oK b q r:=⟨fun e=>h1 (h.says.1 e),fun e=>h2 (h.nots.1 e)⟩
theorem Ae (id:Nat) (σ:ak) (K:V→ak→Prop):kS (.it id) σ K=cp (σ.get id) fun b=>rD b fun s pos=>
 jj (decide (pos<s.size)) (K (.tup [.d (.lit (.bool true)),.d (.lit (.int .i64 pos)),.d (.lit (.int .i32 (Utf8.decode s pos).1))]) (σ.set id (.iter s (pos+(Utf8.decode s pos).2)))) (K (.tup [.d (.lit (.bool false))]) σ):=rfl
theorem tG (a b:Nat):((a:Int)+(b:Int)).toNat=a+b:=by omega
attribute [push_cast] Ae Option.getD_some Option.getD_none tG
section
variable {P:Program} {G:Gl} {w:World} {I:Nat→Prop} {β:b7}
def jB:List Nat→List V→aN→aN
 | p::ps,v::vs,e=>jB ps vs (e.put p v)
 | _,_,e=>e
def mn (l:List (Nat × Value)) (tm:Array Value):Array Value:=l.foldl (fun tmps x=>tmps.setIfInBounds x.1 x.2) tm
theorem va : ∀(ps:List Nat) (args:List V) (vals:List Value) (e:aN) (tm:Array Value),cH w I β args vals→(∀p∈ps,p<tm.size)→(∀t,aJ w I β (e.get t) (tm.getD t undef)) →
 (mn (ps.zip vals) tm).size=tm.size ∧ ∀t,aJ w I β ((jB ps args e).get t) ((mn (ps.zip vals) tm).getD t undef)
 | [],args,vals,e,tm,_,_,h=>by simpa [mn,jB] using h
 | p::ps,[],vals,e,tm,hd,_,h=>by
  have:vals=[]:=List.eq_nil_of_length_eq_zero hd.1.symm;subst this;simpa [mn,jB] using h
 | p::ps,v::vs,[],e,tm,hd,_,h=>by have:=hd.1;simp at this
 | p::ps,v::vs,x::xs,e,tm,hd,hp,h=>by
  have h0 : ∀t,aJ w I β ((e.put p v).get t) ((tm.setIfInBounds p x).getD t undef):=
   xa (a :={ tmps:=tm,defers:=[] }) h (d:=some p) (fun y hy=>by injection hy with hy;subst hy;exact hp p (by simp)) (hd.2 0 v x rfl rfl)
  have:=va ps vs xs (e.put p v) (tm.setIfInBounds p x) ⟨by have:=hd.1;simpa using this,fun i c y hc hy=>hd.2 (i+1) c y (by simpa using hc) (by simpa using hy)⟩ (fun q hq=>by simpa using hp q (by simp [hq])) h0;refine ⟨by rw [show mn ((p::ps).zip (x::xs)) tm=mn (ps.zip xs) (tm.setIfInBounds p x) from rfl,this.1];simp,this.2⟩
theorem IR (ps:Array Nat) (vals:List Value) (tm:Array Value):(ps.zip vals.toArray).foldl (fun tmps (t,a)=>tmps.setIfInBounds t a) tm=mn (ps.toList.zip vals) tm:=by
 rw [←Array.foldl_toList];simp [mn]
def jn (id:Nat):Nat→Option Nat:=fun j=>if j<id then some j else none
def me (β:b7) (id:Nat):b7:=fun j=>if j<id then β j else none
theorem mF {id i j:Nat} (h:jn id i=some j):i=j∧j<id:=by
 unfold jn at h;split at h
 ·injection h with h;omega
 ·cases h
theorem xC (id:Nat) : ∀i i' j,jn id i=some j→jn id i'=some j→i=i':=fun i i' j h h'=>by
 have:=mF h;have:=mF h';omega
theorem qO {id:Nat} : ∀i j,jn id i=some j → ∀x,β i=some x→me β id j=some x:=fun i j h x hx=>by
 obtain ⟨rfl,hlt⟩:=mF h;simp [me,hlt,hx]
theorem kb {id j:Nat} {x:Option (Nat × Nat)} (h:me β id j=some x):j<id∧β j=some x:=by
 unfold me at h;split at h
 ·exact ⟨by assumption,h⟩
 ·cases h
theorem kj {σ:ak} {id j:Nat} {b:bF} (h:(σ.sel (jn id)).get j=some b):j<id ∧ ∃b',σ.get j=some b'∧b=b'.sel (jn id):=by
 obtain ⟨i,b',h1,h2,h3⟩:=ak.get_sel (xC id) σ j b h;obtain ⟨rfl,hlt⟩:=mF h1;exact ⟨hlt,b',h2,h3⟩
theorem cQ.cut {σ:ak} {nx:Nat} (hm:cQ w I β σ nx) (id:Nat):cQ w I (me β id) (σ.sel (jn id)) id where
 own:=fun j b hj=>by
  obtain ⟨hlt,b',h1,rfl⟩:=kj hj;exact (hm.own j b' h1).sel qO (by simp [jn,hlt])
 inj:=fun j j' b b' k c c' h1 h2 h3 h4=>by
  obtain ⟨_,x,q1,_⟩:=kj h1;obtain ⟨_,x',q1',_⟩:=kj h2;exact hm.inj j j' x x' k c c' q1 q1' (kb h3).2 (kb h4).2
 free:=fun j hj=>by simp [me,show ¬j<id by omega]
 lt:=hm.lt
theorem ky {σ:ak} {id b:Nat} (h:bD (σ.sel (jn id)) (me β id) b):bD σ β b:=by
 obtain ⟨j,blk,c,h1,h2⟩:=h;obtain ⟨_,b',q1,_⟩:=kj h1;exact ⟨j,b',c,q1,(kb h2).2⟩
def lN (σ:ak) (id:Nat) (l:List Nat):Nat→Option Nat:=fun j=>if j<id then (if (σ.get j).isSome=true then some j else none) else Jh l j id
def HT (G:Gl) (σ:ak) (id i:Nat) (y:Yd) (e:aN) (j:Option Code) (v:V) (σ':ak) (st:St):Prop:=
 v = .d (.lit (.bool j.isNone))∧aC G id (fun st=> ∃l:List Nat,l.length≤4∧ap σ' ((i,.rc y j e)::st.sg.sel (lN σ id l))) st
def MU (G:Gl) (σ:ak) (id i:Nat) (y:Yd) (e:aN) (v:V) (σ':ak):Exit→St→Prop
 | .normal,st=>HT G σ id i y e none v σ' st
 | .ret,st=>HT G σ id i y e (some .ret) v σ' st
 | .exit k,st=>HT G σ id i y e (some (.exit k)) v σ' st
 | _,_=>False
theorem eM.putHid {C:tK} {e:aN} {σ:ak} {nx lim b:Nat} {o o':Obj} {a:Act} {w:World} (hC:C.hd=[(b,o)]) (ho:o ≠ .deferred (some [])) (hown:bD C.σ C.β b) (h:eM C G e σ nx lim a w) :
 eM { C with hd:=[(b,o')] } G e σ nx lim a (w.putObj b o'):=by
 obtain ⟨I,β,h1,h2,h3,h4,⟨⟨Ds,q1,q2,q3⟩,q4⟩,h6⟩:=h;obtain ⟨k1,k2,k3⟩:=q4 (b,o) (by rw [hC];simp);simp only at k1 k2 k3;have hI : ∀b',I b'→(w.putObj b o').heap[b']? = w.heap[b']? :=fun b' hb=>World.putObj_heap_other (fun e=>k2 (e▸hb))
 have hO : ∀b',bD σ β b'→(w.putObj b o').heap[b']? = w.heap[b']? :=fun b' hb=>World.putObj_heap_other (fun e=>k3 (e▸hb))
 refine ⟨I,β,⟨⟨fun id blk hb =>?_,h1.mem.inj,h1.mem.free,fun b hb =>?_⟩,h1.os,h1.tape,h1.output,?_,fun b' hb hn =>?_,h1.imm,h1.immn,h1.bet,h1.nx,h1.own'⟩,h2,fun t=>(h3 t).keep hI (fun _ h=>h) (fun _ _ h=>h),h4,⟨⟨Ds,q1,q2,fun D hD =>?_⟩,fun p hp =>?_⟩,fun g x hx=>(h6 g x hx).keep hI (fun _ h=>h)⟩
 ·have ho:=h1.mem.own id blk hb;refine ho.keep (fun b hb' =>?_) (fun _ h=>h) (fun b c hc=>(ho.not_imm hc).1) (fun _ _ h=>h);rcases hb' with hb'|⟨c,hc⟩
  ·exact hI b hb'
  ·exact hO b ⟨id,blk,c,hb,hc⟩
 ·rw [World.putObj_size];exact h1.mem.lt b hb
 ·rw [World.putObj_size];exact h1.size
 ·rw [World.putObj_heap_other (fun e=>hn (by rw [e];exact hown))];exact h1.block b' hb hn
 ·obtain ⟨g1,g2,g3,g4⟩:=q3 D hD;refine ⟨g1,?_,g3,g4⟩;rw [World.putObj_heap_other]
  ·exact g2
  ·rintro rfl;rw [k1] at g2;injection g2 with g2;exact ho g2
 ·have hp':p=(b,o'):=by simpa using hp
  subst hp';exact ⟨World.putObj_heap_same (iR k1),k2,k3⟩
end
section
variable {P:Program} {G:Gl}
theorem kB {σ:ak} {id i j:Nat} {l:List Nat} (h:lN σ id l i=some j):(i=j∧j<id ∧ ∃b,σ.get j=some b)∨(id≤i∧id≤j∧j<id+l.length∧l[j - id]? = some i):=by
 unfold lN at h;split at h
 ·rename_i hlt;split at h
  ·rename_i hs;injection h with h;subst h;exact .inl ⟨rfl,hlt,Option.isSome_iff_exists.1 hs⟩
  ·cases h
 ·obtain ⟨h1,h2,h3⟩:=ee h;exact .inr ⟨by omega,h1,h2,h3⟩
theorem Kr (σ:ak) (id:Nat) (l:List Nat) : ∀i i' j,lN σ id l i=some j→lN σ id l i'=some j→i=i':=by
 intro i i' j h h';rcases kB h with ⟨rfl,h1,_⟩|⟨h0,h1,_,h2⟩
 ·rcases kB h' with ⟨rfl,_⟩|⟨_,h1',_⟩
  ·rfl
  ·omega
 ·rcases kB h' with ⟨rfl,h1',_⟩|⟨_,_,_,h2'⟩
  ·omega
  ·rw [h2] at h2';injection h2'
theorem Kc {w w3:World} {I I3:Nat→Prop} {β β3:b7} {σ σ3 σ':ak} {nx Vb id i b cap:Nat} {y:Yd} {e:aN} {j:Option Code} {r:Loop} {l:List Nat} {o:Obj}
 (hm:cQ w I β σ nx) (hi:i<id) (hfr : ∀k,id≤k→k<id+4→β k=none) (hnx:id+4≤nx) (hg:σ.get i=some (.rc y none e)) (hb:β i=some (some (b,cap))) (he : ∀t,aJ w I β (e.get t) (r.tmps.getD t undef)) (hr:NN y j r)
 (hs:ar w I (me β id) (σ.sel (jn id)) id w3 I3 β3 σ3 Vb) (h3:w3.heap[b]? = some o) (hI3 : ¬I3 b) (ho3 : ¬bD σ3 β3 b) (hl:l.length≤4) (hsub:ap σ' ((i,.rc y j e)::σ3.sel (lN σ id l))) :
 ∃β',ar w I β σ nx (w3.putObj b (.loop r)) I3 β' σ' nx ∧ ∀k,¬(id≤k∧k<id+4)→β' k=β k:=by
 have hlt:b<w.heap.size:=(((hm.own i _ hg).not_imm hb).2)
 have hIb : ¬I b:=((hm.own i _ hg).not_imm hb).1;let β':b7:=fun k=>if id≤k∧k<id+4 then (match l[k - id]? with|some q=>β3 q|none=>none) else β k
 have hβ : ∀k,¬(id≤k∧k<id+4)→β' k=β k:=fun k hk=>by simp only [β',if_neg hk]
 have hext : ∀k x,β k=some x→β' k=some x:=fun k x hx=>by
  rw [hβ k]
  ·exact hx
  ·rintro ⟨h1,h2⟩;rw [hfr k h1 h2] at hx;cases hx
 have hin : ∀k k',lN σ id l k=some k'→β' k'=β3 k:=by
  intro k k' h;rcases kB h with ⟨rfl,h1,blk,h2⟩|⟨h0,h1,h2,h3⟩
  ·rw [hβ k (by omega)];obtain ⟨x,hx⟩:=(hm.own k blk h2).named;rw [hx,hs.bet k x (by simp [me,h1,hx])]
  ·simp only [β',show id≤k'∧k'<id+4 from ⟨h1,by omega⟩,and_self,if_true,h3]
 have hing : ∀k k',lN σ id l k=some k' → ∀x,β3 k=some x→β' k'=some x:=fun k k' h x hx=>by rw [hin k k' h];exact hx
 have hinj:=Kr σ id l;have hIk : ∀k,I3 k→(w3.putObj b (.loop r)).heap[k]? = w3.heap[k]? :=fun k hk=>World.putObj_heap_other (fun e=>hI3 (e▸hk))
 have hOk : ∀k,bD σ3 β3 k→(w3.putObj b (.loop r)).heap[k]? = w3.heap[k]? :=fun k hk=>World.putObj_heap_other (fun e=>ho3 (e▸hk))
 have hI0 : ∀k,I k→w3.heap[k]? = w.heap[k]? :=fun k hk=>hs.block k (hm.lt k hk) (fun h=>hm.not_owned hk (ky h))
 have hget : ∀k blk,σ'.get k=some blk→(k=i∧blk = .rc y j e)∨(∃k0 blk0,lN σ id l k0=some k∧σ3.get k0=some blk0∧blk=blk0.sel (lN σ id l)):=by
  intro k blk hk;have:=hsub k blk hk;simp only [ak.get] at this;split at this
  ·rename_i e1;injection this with this;exact .inl ⟨e1.symm,this.symm⟩
  ·exact .inr (ak.get_sel hinj _ k blk this)
 have hbi:β' i=some (some (b,cap)):=hext i _ hb;have hoth : ∀k k0 blk0 c,lN σ id l k0=some k→σ3.get k0=some blk0→β' k=some (some (b,c))→False:=by
  intro k k0 blk0 c h1 h2 h4;rw [hin k0 k h1] at h4;exact ho3 ⟨k0,blk0,c,h2,h4⟩
 have howned : ∀k,bD σ' β' k→k=b∨bD σ3 β3 k:=by
  rintro k ⟨q,blk,c,h1,h2⟩;rcases hget q blk h1 with ⟨rfl,rfl⟩|⟨q0,blk0,g1,g2,_⟩
  ·rw [hbi] at h2;injection h2 with h2;injection h2 with h2;injection h2 with h2 _;exact .inl h2.symm
  ·rw [hin q0 q g1] at h2;exact .inr ⟨q0,blk0,c,g2,h2⟩
 have hob:bD σ β b:=⟨i,_,cap,hg,hb⟩
 refine ⟨β',⟨⟨fun k blk hk =>?_,fun k k' blk blk' q c c' g1 g2 g3 g4 =>?_,fun k hk =>?_,fun k hk =>?_⟩,hs.os,hs.tape,hs.output,?_,fun k hk hn =>?_,hs.imm,fun k hk =>?_,hext,Nat.le_refl _,fun k hk =>?_⟩,hβ⟩
 ·rcases hget k blk hk with ⟨rfl,rfl⟩|⟨k0,blk0,g1,g2,rfl⟩
  ·exact ⟨b,cap,r,hbi,World.putObj_heap_same (iR h3),hI3,hr,fun t=>(he t).keep (fun q hq=>(hIk q (hs.imm q hq)).trans (hI0 q hq)) hs.imm hext⟩
  ·have ho:=hs.mem.own k0 blk0 g2;have ho':ji (w3.putObj b (.loop r)) I3 β3 k0 blk0:=ho.keep (fun q hq=>by
    rcases hq with hq|⟨c,hc⟩
    ·exact hIk q hq
    ·exact hOk q ⟨k0,blk0,c,g2,hc⟩) (fun _ h=>h) (fun q c hc=>(ho.not_imm hc).1) (fun _ _ h=>h)
   exact ho'.sel hing g1
 ·rcases hget k blk g1 with ⟨rfl,rfl⟩|⟨k0,blk0,p1,p2,rfl⟩
  ·rw [hbi] at g3;injection g3 with g3;injection g3 with g3;injection g3 with g3 _;subst g3;rcases hget k' blk' g2 with ⟨rfl,rfl⟩|⟨k0',blk0',p1',p2',rfl⟩
   ·rfl
   ·exact (hoth k' k0' blk0' c' p1' p2' g4).elim
  ·rcases hget k' blk' g2 with ⟨rfl,rfl⟩|⟨k0',blk0',p1',p2',rfl⟩
   ·rw [hbi] at g4;injection g4 with g4;injection g4 with g4;injection g4 with g4 _;subst g4;exact (hoth k k0 blk0 c p1 p2 g3).elim
   ·rw [hin k0 k p1] at g3;rw [hin k0' k' p1'] at g4;have:=hs.mem.inj k0 k0' blk0 blk0' q c c' p2 p2' g3 g4;subst this;rw [p1] at p1';injection p1'
 ·rw [hβ k (by omega)];exact hm.free k hk
 ·rw [World.putObj_size];exact hs.mem.lt k hk
 ·rw [World.putObj_size];exact hs.size
 ·have hkb:k≠b:=fun e=>hn (e▸hob)
  rw [World.putObj_heap_other hkb];exact hs.block k hk (fun h=>hn (ky h))
 ·rcases hs.immn k hk with h|h|h
  ·exact .inl h
  ·exact .inr (.inl (ky h))
  ·exact .inr (.inr h)
 ·rcases howned k hk with rfl|h
  ·exact .inl hob
  ·rcases hs.own' k h with h|h
   ·exact .inl (ky h)
   ·exact .inr h
theorem oJ.of {i:Nat} {args:List V} {σ:ak} {id:Nat} {y:Yd} {e:aN} {v:V} {σ':ak} (hg:σ.get i=some (.rc y none e)) (hi:i<id) (hps:y.ps.toList.all (fun p=>decide (p<y.n))=true) (hl:args.length=y.ps.size) (hn1:nV y.asg=true) (hn2:nV y.body=true)
 (h:AW P G y.n id y.asg ⟨jB y.ps.toList (args.map (V.sel (jn id))) (e.sel (jn id)),(σ.del i).sel (jn id),id⟩ (fv (fun st=>AW P G y.n id y.body st (MU G σ id i y e v σ')) (fun _ _=>False))):oJ P G i args σ id v σ':=by
 intro w I β nx vals b cap hm hG hfr hnx hd hb;obtain ⟨b',cap',r,q1,q2,q3,q4,q5⟩:=hm.own i _ hg;rw [hb] at q1;injection q1 with q1;injection q1 with q1;injection q1 with q1 q1';subst q1;subst q1';refine ⟨r,q2,by rw [←hd.1,hl,q4.ps],?_⟩;rw [IR];have hC:=hm.cut id;let C:tK:=⟨w,I,me β id,σ.sel (jn id),id,y.n,hC.free,[(b,.loop r)]⟩
 have hown:bD C.σ C.β b:=⟨i,bF.sel (jn id) (.rc y none e),cap,ak.get_sel' (xC id) (by simp [jn,hi]) σ _ hg,by simp [C,me,hi,hb]⟩
 have hsub : ∀j bl,((σ.del i).sel (jn id)).get j=some bl→(σ.sel (jn id)).get j=some bl∧j≠i:=by
  intro j bl hj;obtain ⟨hlt,b',h1,rfl⟩:=kj hj;rw [ak.get_del] at h1;split at h1
  ·cases h1
  ·rename_i hne;exact ⟨ak.get_sel' (xC id) (by simp [jn,hlt]) σ _ h1,hne⟩
 have hargs:cH w I (me β id) (args.map (V.sel (jn id))) vals:=by
  refine ⟨by simpa using hd.1,fun k c x hc hx =>?_⟩;simp only [List.getElem?_map,Option.map_eq_some_iff] at hc;obtain ⟨c',hc',rfl⟩:=hc;exact (hd.2 k c' x hc' hx).sel qO
 have hfill:=va (w:=w) (I:=I) (β:=me β id) y.ps.toList (args.map (V.sel (jn id))) vals (e.sel (jn id)) r.tmps hargs (fun p hp=>by
  have:=List.all_eq_true.1 hps p hp;rw [q4.n];simpa using this) (fun t=>by rw [aN.get_sel];exact (q5 t).sel qO)
 have hrel:pS C G ⟨jB y.ps.toList (args.map (V.sel (jn id))) (e.sel (jn id)),(σ.del i).sel (jn id),id⟩ { tmps:=mn (y.ps.toList.zip vals) r.tmps,defers:=[] } w:=by
  refine ⟨I,me β id,(ar.refl hC).sub (fun j bl hj=>(hsub j bl hj).1) (Nat.le_refl _),hC.free,hfill.2,by rw [hfill.1];exact q4.n,⟨⟨[],rfl,List.nodup_nil,fun D hD=>by cases hD⟩,fun p hp =>?_⟩,hG⟩;have hp':p=(b,.loop r):=by simpa [C] using hp
  subst hp';refine ⟨q2,q3,?_⟩;rintro ⟨j,bl,c,g1,g2⟩;obtain ⟨hlt,b',h1,_⟩:=kj g1;rw [ak.get_del] at h1;split at h1
  ·cases h1
  ·rename_i hne;exact hne (hm.inj j i _ _ b c cap h1 hg (kb g2).2 hb)
 rw [show r.params.toList=y.ps.toList by rw [q4.ps]];refine roundIn_of_wpIn (F:=Fence.wide) trivial ?_;rw [q4.asg,q4.body];refine wpIn_mono (h (some b) (.inr hn1) C _ w rfl rfl hrel) ?_;rintro e1 a1 w1 ⟨st1,hq,hr1⟩;cases e1 with
 | normal=>
  have hhid:w1.heap[b]? = some (.loop r):=by
   obtain ⟨I1,β1,_,_,_,_,⟨_,k⟩,_⟩:=_root_.id hr1;exact (k (b,.loop r) (by simp [C])).1
  have hst:r.state = .ready:=by rw [q4.state];rfl
  refine ⟨_,run_beginRound hhid hst,?_⟩;have hr2:=eM.putHid (o':= .loop { r with state:= .busy }) (C:=C) rfl (fun e=>by cases e) hown hr1;let C2:tK :={ C with hd:=[(b,.loop { r with state:= .busy })] }
  refine wpIn_mono ((show AW P G y.n id y.body st1 (MU G σ id i y e v σ') from hq) (some b) (.inr hn2) C2 a1 _ rfl rfl hr2) ?_;have fin : ∀(j:Option Code) (st2:St) (a2:Act) (w3:World),HT G σ id i y e j v σ' st2→pS C2 G st2 a2 w3 →
   ∃u w',(Instr.endRound b j).run P w3 = .ok u w' ∧ ∃u0 I' β',Ending.returned u = .returned u0∧aJ w' I' β' v u0∧ar w I β σ nx w' I' β' σ' nx ∧ ∀k,¬(id≤k∧k<id+4)→β' k=β k:=by
   rintro j st2 a2 w3 ⟨rfl,st3,hle,l,hl4,hsb⟩ hr3;obtain ⟨I3,β3,k1,k2,k3,k4,⟨_,k5⟩,k6⟩:=hle C2 a2 w3 rfl hr3;obtain ⟨p1,p2,p3⟩:=k5 (b,.loop { r with state:= .busy }) (by simp [C2]);obtain ⟨β',g1,g2⟩:=Kc (r :={ r with state:=if j.isNone then .ready else .done,pending:=j }) hm hi hfr hnx hg hb q5 ⟨rfl,rfl,q4.n,q4.ps,q4.asg,q4.body⟩ k1 p1 p2 p3 hl4 hsb;exact ⟨_,_,run_endRound j p1,_,I3,β',rfl,aq.lit _,g1,g2⟩
  rintro e2 a2 w3 ⟨st2,hq2,hr3⟩;cases e2 with
  | normal=>exact fin none st2 a2 w3 hq2 hr3
  | ret=>exact fin (some .ret) st2 a2 w3 hq2 hr3
  | exit k=>exact fin (some (.exit k)) st2 a2 w3 hq2 hr3
  | _=>exact hq2.elim
 | _=>exact hq.elim
theorem gD.of (ho:P.follows .mixedOrders=true) (lv:List Nat) {i:Nat} {args:List V} {σ:ak} {id:Nat} {K:V→ak→Prop} {y:Yd} {e:aN} {v:V} {σ':ak} (hg:σ.get i=some (.rc y none e)) (hi:i<id) (hps:y.ps.toList.all (fun p=>decide (p<y.n))=true) (hl:args.length=y.ps.size)
 (hn1:nV y.asg=true) (hn2:nV y.body=true) (ho1:aP y.n y.asg=true) (ho2:aP y.n y.body=true)
 (h:bC P G y.n id lv y.asg ⟨jB y.ps.toList (args.map (V.sel (jn id))) (e.sel (jn id)),(σ.del i).sel (jn id),id⟩ (fv (fun st=>bC P G y.n id lv y.body st (MU G σ id i y e v σ')) (fun _ _=>False))) (hK:K v σ'):gD P G i args σ id K:=by
 refine ⟨v,σ',hK,oJ.of hg hi hps hl hn1 hn2 ((dR ho _ _ _ ho1 h).mono ?_)⟩;intro ex st hq;cases ex with
 | normal=>exact dR ho _ _ _ ho2 hq
 | _=>exact hq
end
end Go.Proofs.YtkkanlcjjpoklaaGreatDoor
set_option linter.unusedVariables false
namespace Go.Proofs.YtkkanlcjjpoklaaGreatDoor
open Go.RowKit
section
variable {P:Program} {G:Gl}
def Ll (G:Gl) (st:St) (Q:Exit→St→Prop) (st':St):Prop:=
 aC G (st.nx+1) (fun st'=> ∃y j e,st'.sg.get st.nx=some (.rc y j e)∧match j with
  | none=>Q .normal ⟨st.env,st'.sg.del st.nx,st'.nx⟩
  | some .ret=>Q .ret ⟨st.env,st'.sg.del st.nx,st'.nx⟩
  | some (.exit k)=>Q (.exit k) ⟨st.env,st'.sg.del st.nx,st'.nx⟩
  | _=>False) st'
def R3 (G:Gl) (st:St) (Q:Exit→St→Prop):Exit→St→Prop
 | .normal,st'=>Ll G st Q st'
 | .ret,st'=>Ll G st Q st'
 | _,_=>False
theorem ar.foreign {w:World} {I:Nat→Prop} {β:b7} {σ:ak} {nx:Nat} (hm:cQ w I β σ nx) (o:Obj):ar w I β σ nx (w.alloc o) I β σ nx:=by
 have hb : ∀b,b<w.heap.size→(w.alloc o).heap[b]? = w.heap[b]? :=fun b hb=>Below.heap_alloc w o b hb
 refine ⟨⟨fun id blk h =>?_,hm.inj,hm.free,fun b hI=>by have:=hm.lt b hI;simp;omega⟩,rfl,rfl,rfl,by simp,fun b hlt _=>hb b hlt,fun _ h=>h,fun _ h=> .inl h,fun _ _ h=>h,Nat.le_refl _,fun _ h=> .inl h⟩;have ho:=hm.own id blk h;refine ho.keep (fun b hb' =>?_) (fun _ h=>h) (fun b c hc=>(ho.not_imm hc).1) (fun _ _ h=>h);rcases hb' with hb'|⟨c,hc⟩
 ·exact hb b (hm.lt b hb')
 ·exact hb b (ho.not_imm hc).2
theorem su {n m:Nat} {g:Operand} {ps:Array Nat} {asg body:Code} {st:St} {Q:Exit→St→Prop} {k:Nat} {caps:List V} {fn:Func} {c:Code}
 (hg : ∀w I β x,aJ w I β (ep G st.env.get g) x → ∃cv:List Value,x = .func (.func k) #[] cv.toArray∧cH w I β caps cv) (he:cx P k=true) (hf:P.funcs[k]? = some fn) (hb:fn.body=some c) (hrs:fn.results = #[]) (hlen:caps.length+1≤fn.ntmps)
 (h:AW P G fn.ntmps (st.nx+1) c ⟨gn 0 (.yl st.nx::caps),(st.nx,.rc ⟨n,ps,asg,body⟩ none st.env)::st.sg,st.nx+1⟩ (R3 G st Q)):np P G n m g ps asg body st Q:=by
 intro fr hfr C a w hn hm hr;have hfr':fr=none:=hfr.resolve_right (by simp [nV]);subst hfr';refine wpIn_rangeFunc (F:=Fr none) fun fn' _ =>?_
 obtain ⟨I,β,h1,h2,h3,h4,h5,h6⟩:=hr;have hgd:=pX (G:=G) (e:=st.env) (a:=a) h3 h6 g;obtain ⟨cv,e1,e2⟩:=hg w I β _ hgd;let r:Loop :={ state:= .ready,pending:=none,fn:=fn',tmps:=a.tmps,params:=ps,assign:=asg,body:=body,defers:=w.heap.size }
 let w0:=w.alloc (.deferred (some []))
 let w1:=w0.alloc (.loop r)
 have hres:(resolve a.eval (rangeCall g (w.heap.size+1)) 0).run P w1 = .ok { target:= .fn (.func k) cv.toArray,args :=#[.func (.yield (w.heap.size+1)) #[] #[]] } w1:=by
  have ec : ∀v:Value,a.eval (.const v)=v:=fun _=>rfl
  simp [resolve,e1,ec,Deferred.ofValue]
 refine ⟨w.heap.size+1,[{ target:= .collected w.heap.size,args :=#[] }],w1,_,w1,k,(.func (.yield (w.heap.size+1)) #[] #[]::cv).toArray,w1,run_enterLoop_outer fn' a.tmps ps asg body,hres,fun _ _=>trivial,?_,(fun e=>by cases e),?_⟩
 ·simp only [invoke];rw [show (#[Value.func (Fn.yield (w.heap.size+1)) #[] #[]]++cv.toArray)=(Value.func (Fn.yield (w.heap.size+1)) #[] #[]::cv).toArray by simp];exact mS he _ w1
 have hb0:β st.nx=none:=h2 st.nx (Nat.le_refl _);have hm1:cQ w I β st.sg (st.nx+1):=h1.mem.bump (by omega);have s0:=ar.foreign hm1 (.deferred (some []));let blk:bF:= .rc ⟨n,ps,asg,body⟩ none st.env
 have hsz:w0.heap.size=w.heap.size+1:=by simp [w0]
 have hown:ji w1 I (nm β st.nx (some (w0.heap.size,0))) st.nx blk:=by
  refine ⟨w0.heap.size,0,r,aU _ _ _,World.alloc_heap_new w0 _,fun hI =>?_,⟨rfl,rfl,h4.trans hn,rfl,rfl,rfl⟩,fun t =>?_⟩
  ·have:=h1.mem.lt _ hI;omega
  ·refine (h3 t).keep (fun b hI =>?_) (fun _ h=>h) (gB hb0);have hlt:=h1.mem.lt b hI;exact (Below.heap_alloc w0 _ b (by omega)).trans (Below.heap_alloc w _ b hlt)
 have s1:=ar.alloc s0.mem (id:=st.nx) hb0 (by omega) (.loop r) 0 blk hown;have s01:=s0.trans s1;let β1:=nm β st.nx (some (w0.heap.size,0))
 have hβ1:β1 st.nx=some (some (w0.heap.size,0)):=aU _ _ _;let C':tK:=⟨w1,I,β1,(st.nx,blk)::st.sg,st.nx+1,fn.ntmps,s1.mem.free,[]⟩
 let vals:List Value:= .func (.yield (w.heap.size+1)) #[] #[]::cv
 have hvl:vals.length=caps.length+1:=by simp [vals,e2.1]
 have hrel:pS C' G ⟨gn 0 (.yl st.nx::caps),(st.nx,blk)::st.sg,st.nx+1⟩ { tmps:=vals.toArray++Array.replicate (fn.ntmps - vals.toArray.size) undef,defers:=[] } w1:=by
  refine ⟨I,β1,ar.refl s1.mem,s1.mem.free,fun t =>?_,?_,js.nil,fun q x hx=>s01.denD hm1 (h6 q x hx)⟩
  ·show aJ w1 I β1 ((gn 0 (.yl st.nx::caps)).get t) _;rw [zy];simp only [Nat.zero_le,if_true,Nat.sub_zero];cases hv:(V.yl st.nx::caps)[t]? with
   | none=>trivial
   | some v=>
    have ht:t<vals.length:=by
     have:=(List.getElem?_eq_some_iff.1 hv).1;simp at this;omega
    have e3:(vals.toArray++Array.replicate (fn.ntmps - vals.toArray.size) undef).getD t undef=vals[t]:=by
     simp [Array.getD_eq_getD_getElem?,Array.getElem?_append,ht]
    rw [e3];match t,hv,ht with
    | 0,hv,ht=>
     simp only [List.getElem?_cons_zero,Option.some.injEq] at hv;subst hv;exact ⟨w0.heap.size,0,hβ1,by show Value.func (.yield (w.heap.size+1)) #[] #[]=_;rw [hsz]⟩
    | t+1,hv,ht=>
     simp only [List.getElem?_cons_succ] at hv;exact s01.den hm1 (e2.2 t v _ hv (by simp [vals]))
  ·show (vals.toArray++Array.replicate (fn.ntmps - vals.toArray.size) undef).size=fn.ntmps;simp;omega
 refine callsIn_of_wp_marks (F:=Fr none) hf hb trivial ?_;refine wpIn_mono (h none (.inl rfl) C' _ w1 rfl rfl hrel) ?_;rintro ex aK w2 ⟨st2,hq,hr2⟩;have hD:js C.w.heap.size C.hd w1 I β1 ((st.nx,blk)::st.sg) ({ target:= .collected w.heap.size,args :=#[] } :: a.defers):=by
  obtain ⟨⟨Ds,d1,d2,d3⟩,d4⟩:=(h5.step s01)
  have hDlt : ∀D∈Ds,D<w.heap.size:=by
   obtain ⟨⟨Ds',d1',d2',d3'⟩,_⟩:=h5;have:Ds'=Ds:=by
    have e4:=d1'.symm.trans d1;have : ∀(x y:List Nat),x.map (fun D=>({ target:= .collected D,args :=#[] } : Deferred))=y.map (fun D =>{ target:= .collected D,args :=#[] })→x=y:=by
     intro x;induction x with
     | nil=>intro y h;cases y with|nil=>rfl|cons=>simp at h
     | cons q x ih=>
      intro y h;cases y with
      | nil=>simp at h
      | cons q' y=>simp only [List.map_cons,List.cons.injEq,Deferred.mk.injEq,Target.collected.injEq,and_true] at h;rw [h.1,ih y h.2]
    exact this _ _ e4
   subst this;exact fun D hD=>iR (d3' D hD).2.1
  refine ⟨⟨w.heap.size::Ds,by rw [List.map_cons,←d1],List.nodup_cons.2 ⟨fun hh=>by have:=hDlt _ hh;omega,d2⟩,fun D hD =>?_⟩,d4⟩;rcases List.mem_cons.1 hD with rfl|hD
  ·refine ⟨h1.size,?_,fun hI=>by have:=h1.mem.lt _ hI;omega,?_⟩
   ·have:w1.heap[w.heap.size]? = w0.heap[w.heap.size]? :=Below.heap_alloc w0 _ _ (by omega);rw [this];exact World.alloc_heap_new w _
   ·rintro ⟨q,bl,cc,g1,g2⟩;simp only [ak.get] at g1;by_cases hq:st.nx=q
    ·subst hq;rw [hβ1] at g2;injection g2 with g2;injection g2 with g2;injection g2 with g2 _;omega
    ·rw [if_neg hq] at g1;rw [show β1 q=β q from aO (fun e=>hq e.symm)] at g2;have:=((h1.mem.own q bl g1).not_imm g2).2;omega
  ·exact d3 D hD
 have key:Ll G st Q st2→LeavesInM (Fr none) 0 P fn aK.tmps (rangePost (Fr none) 0 P (w.heap.size+1) (fun e a' w'=> ∃st',Q e st'∧pS C G st' a' w') { a with defers:=[{ target:= .collected w.heap.size,args :=#[] }]++a.defers }) aK.defers .returning w2:=by
  rintro ⟨st3,hle,y,j,e,g1,g2⟩;refine xA (C:=C') rfl (G:=G) (st:=st3) (fun w3 hr3 =>?_) aK.defers w2 (hle C' aK w2 rfl hr2);refine ⟨.tuple #[],by simp [sw,hrs],?_⟩;obtain ⟨I3,β3,k1,k2,k3,k4,k5,k6⟩:=hr3;obtain ⟨b,cap,r3,p1,p2,p3,p4,p5⟩:=k1.mem.own _ _ g1;have hbl:b=w.heap.size+1∧cap=0:=by
   have:=k1.bet st.nx _ hβ1;rw [p1] at this;injection this with this;injection this with this;injection this with q1 q2;exact ⟨q1.trans hsz,q2⟩
  obtain ⟨rfl,rfl⟩:=hbl;have hnb:r3.state ≠ .busy:=by rw [p4.state];split<;>simp
  refine ⟨r3.pending,_,run_endLoop p2 hnb,?_⟩;have hst:=s01.trans k1;have back:pS C G ⟨st.env,st3.sg.del st.nx,st3.nx⟩ { a with defers:=[{ target:= .collected w.heap.size,args :=#[] }]++a.defers } (w3.putObj (w.heap.size+1) (.loop { r3 with state:= .exhausted })):=by
   have hIk : ∀q,I3 q→(w3.putObj (w.heap.size+1) (.loop { r3 with state:= .exhausted })).heap[q]? = w3.heap[q]? :=fun q hq=>World.putObj_heap_other (fun e=>p3 (e▸hq))
   have hno : ∀q,bD (st3.sg.del st.nx) β3 q→q≠w.heap.size+1∧bD st3.sg β3 q:=by
    rintro q ⟨id',bl,cc,x1,x2⟩;rw [ak.get_del] at x1;split at x1
    ·cases x1
    ·rename_i hne;refine ⟨?_,id',bl,cc,x1,x2⟩;rintro rfl;exact hne (k1.mem.inj id' st.nx _ _ _ cc 0 x1 g1 x2 p1)
   have hOk : ∀q,bD (st3.sg.del st.nx) β3 q→(w3.putObj (w.heap.size+1) (.loop { r3 with state:= .exhausted })).heap[q]? = w3.heap[q]? :=fun q hq=>World.putObj_heap_other (hno q hq).1
   have hall:=h1.bump (show st.nx≤st.nx+1 by omega) |>.trans hst
   have hdd:=hD.step k1;refine ⟨I3,β3,⟨⟨fun id' bl hb' =>?_,fun i j' b' b'' q cc cc' x1 x2 x3 x4 =>?_,k1.mem.free,fun q hq =>?_⟩,hall.os,hall.tape,hall.output,?_,fun q hq hnq =>?_,hall.imm,hall.immn,hall.bet,hall.nx,fun q hq=>hall.own' q (hno q hq).2⟩,k2,fun t =>?_,h4,?_,fun q x hx=>(k6 q x hx).keep hIk (fun _ h=>h)⟩
   ·have hx:st3.sg.get id'=some bl:=by
     have hb'':(st3.sg.del st.nx).get id'=some bl:=hb';rw [ak.get_del] at hb'';split at hb''
     ·cases hb''
     ·exact hb''
    have ho:=k1.mem.own id' bl hx;refine ho.keep (fun q hq =>?_) (fun _ h=>h) (fun q cc hc=>(ho.not_imm hc).1) (fun _ _ h=>h);rcases hq with hq|⟨cc,hc⟩
    ·exact hIk q hq
    ·exact hOk q ⟨id',bl,cc,hb',hc⟩
   ·have y1:(st3.sg.del st.nx).get i=some b':=x1;have y2:(st3.sg.del st.nx).get j'=some b'':=x2;rw [ak.get_del] at y1 y2;split at y1
    ·cases y1
    ·split at y2
     ·cases y2
     ·exact k1.mem.inj i j' b' b'' q cc cc' y1 y2 x3 x4
   ·rw [World.putObj_size];exact k1.mem.lt q hq
   ·rw [World.putObj_size];exact hall.size
   ·rw [World.putObj_heap_other (by have:=h1.size;omega)];exact hall.block q hq hnq
   ·exact (k1.den s1.mem (s01.den hm1 (h3 t))).keep hIk (fun _ h=>h) (fun _ _ h=>h)
   ·obtain ⟨⟨Ds,d1,d2,d3⟩,d4⟩:=hdd;have ne : ∀q (o:Obj),w3.heap[q]? = some o→(∀l,o ≠ .loop l)→q≠w.heap.size+1:=by
     rintro q o hq ho rfl;rw [p2] at hq;injection hq with hq;exact ho _ hq.symm
    refine ⟨⟨Ds,d1,d2,fun D hD =>?_⟩,fun p hp =>?_⟩
    ·obtain ⟨z1,z2,z3,z4⟩:=d3 D hD;refine ⟨z1,?_,z3,fun hh=>z4 (hno D hh).2⟩;rw [World.putObj_heap_other (ne D _ z2 (fun l e=>by cases e))];exact z2
    ·obtain ⟨z1,z2,z3⟩:=d4 p hp;refine ⟨?_,z2,fun hh=>z3 (hno _ hh).2⟩;rw [World.putObj_heap_other]
     ·exact z1
     ·intro e5;exact z3 ⟨st.nx,_,0,g1,by rw [e5];exact p1⟩
  generalize w3.putObj (w.heap.size+1) (.loop { r3 with state:= .exhausted })=w4 at back ⊢;rw [p4.pending];match j,g2 with
  | none,g2=>exact ⟨_,g2,back⟩
  | some .ret,g2=>exact wpIn_ret ⟨_,g2,back⟩
  | some (.exit q),g2=>exact wpIn_exit ⟨_,g2,back⟩
 cases ex with
 | normal=>exact key hq
 | ret=>exact key hq
 | _=>exact hq.elim
theorem uV {w:World} {I:Nat→Prop} {β:b7} {k:Nat} {caps:List V} {x:Value} (h:aJ w I β (.fn k caps) x) : ∃cv:List Value,x = .func (.func k) #[] cv.toArray∧cH w I β caps cv:=by
 obtain ⟨k',caps',⟨rfl,rfl⟩,e2⟩:=eC (w:=w) (I:=I) (β:=β) (x:=x) (v:= .fn k caps) (K:=fun a b=>a=k∧b=caps) ⟨rfl,rfl⟩;exact e2 h
theorem Ij {w:World} {I:Nat→Prop} {β:b7} {k:Nat} {caps:List D} {x:Value} (h:aJ w I β (.d (.fn k caps)) x) : ∃cv:List Value,x = .func (.func k) #[] cv.toArray∧cH w I β (caps.map .d) cv:=by
 obtain ⟨k',caps',⟨rfl,rfl⟩,e2⟩:=eC (w:=w) (I:=I) (β:=β) (x:=x) (v:= .d (.fn k caps)) (K:=fun a b=>a=k∧b=caps.map .d) ⟨rfl,rfl⟩;exact e2 h
end
end Go.Proofs.YtkkanlcjjpoklaaGreatDoor
set_option linter.defProp false
set_option linter.unusedSimpArgs false
set_option linter.unusedVariables false
set_option maxRecDepth 8000
namespace Go.Proofs.YtkkanlcjjpoklaaGreatDoor
def Pt {α:Type} (W:(α→Prop)→Prop):Prop:= ∀K,W K → ∃x,K x ∧ ∀K':α→Prop,K' x→W K'
def ba {α β:Type} (W:(α→β→Prop)→Prop):Prop:= ∀K,W K → ∃x y,K x y ∧ ∀K':α→β→Prop,K' x y→W K'
section
variable {α β γ δ:Type}
theorem Pt.at (x:α):Pt fun K:α→Prop=>K x:=fun _ h=>⟨x,h,fun _ h=>h⟩
theorem ba.at (x:α) (y:β):ba fun K:α→β→Prop=>K x y:=fun _ h=>⟨x,y,h,fun _ h=>h⟩
theorem Pt.no:Pt fun _:α→Prop=>False:=fun _ h=>h.elim
theorem ba.no:ba fun _:α→β→Prop=>False:=fun _ h=>h.elim
theorem Pt.bind {W:(α→Prop)→Prop} (h:Pt W) {V:α→(β→Prop)→Prop} (k : ∀x,Pt (V x)):Pt fun K=>W fun x=>V x K:=fun K hW=>by
 obtain ⟨x,hx,h1⟩:=h _ hW;obtain ⟨y,hy,h2⟩:=k x _ hx;exact ⟨y,hy,fun K' hK=>h1 _ (h2 _ hK)⟩
theorem Pt.bind2 {W:(α→Prop)→Prop} (h:Pt W) {V:α→(β→γ→Prop)→Prop} (k : ∀x,ba (V x)):ba fun K=>W fun x=>V x K:=fun K hW=>by
 obtain ⟨x,hx,h1⟩:=h _ hW;obtain ⟨y,z,hy,h2⟩:=k x _ hx;exact ⟨y,z,hy,fun K' hK=>h1 _ (h2 _ hK)⟩
theorem ba.bind {W:(α→β→Prop)→Prop} (h:ba W) {V:α→β→(γ→δ→Prop)→Prop} (k : ∀x y,ba (V x y)):ba fun K=>W fun x y=>V x y K:=fun K hW=>by
 obtain ⟨x,y,hx,h1⟩:=h _ hW;obtain ⟨z,t,hz,h2⟩:=k x y _ hx;exact ⟨z,t,hz,fun K' hK=>h1 _ (h2 _ hK)⟩
theorem Pt.and {W:(α→Prop)→Prop} (p:Prop) (h:Pt W):Pt fun K=>p∧W K:=fun K ⟨hp,hW⟩=>by
 obtain ⟨x,hx,h1⟩:=h _ hW;exact ⟨x,hx,fun K' hK=>⟨hp,h1 _ hK⟩⟩
theorem ba.and {W:(α→β→Prop)→Prop} (p:Prop) (h:ba W):ba fun K=>p∧W K:=fun K ⟨hp,hW⟩=>by
 obtain ⟨x,y,hx,h1⟩:=h _ hW;exact ⟨x,y,hx,fun K' hK=>⟨hp,h1 _ hK⟩⟩
theorem ba.or {W V:(α→β→Prop)→Prop} (h:ba W) (k:ba V):ba fun K=>W K∨V K:=fun K hW=>by
 rcases hW with hW|hW
 ·obtain ⟨x,y,hx,h1⟩:=h _ hW;exact ⟨x,y,hx,fun K' hK=> .inl (h1 _ hK)⟩
 ·obtain ⟨x,y,hx,h1⟩:=k _ hW;exact ⟨x,y,hx,fun K' hK=> .inr (h1 _ hK)⟩
theorem Pt.br (b:Bool) {W V:(α→Prop)→Prop} (h:Pt W) (k:Pt V):Pt fun K=>jj b (W K) (V K):=fun K hW=>by
 cases b with
 | true=>obtain ⟨x,hx,h1⟩:=h _ (hW.1 rfl);exact ⟨x,hx,fun K' hK=>⟨fun _=>h1 _ hK,fun h=>(by cases h)⟩⟩
 | false=>obtain ⟨x,hx,h1⟩:=k _ (hW.2 rfl);exact ⟨x,hx,fun K' hK=>⟨fun h=>(by cases h),fun _=>h1 _ hK⟩⟩
theorem ba.br (b:Bool) {W V:(α→β→Prop)→Prop} (h:ba W) (k:ba V):ba fun K=>jj b (W K) (V K):=fun K hW=>by
 cases b with
 | true=>obtain ⟨x,y,hx,h1⟩:=h _ (hW.1 rfl);exact ⟨x,y,hx,fun K' hK=>⟨fun _=>h1 _ hK,fun h=>(by cases h)⟩⟩
 | false=>obtain ⟨x,y,hx,h1⟩:=k _ (hW.2 rfl);exact ⟨x,y,hx,fun K' hK=>⟨fun h=>(by cases h),fun _=>h1 _ hK⟩⟩
theorem Pt.opt (o:Option α):Pt fun K:α→Prop=>cp o K:=by
 cases o with
 | none=>exact Pt.no
 | some x=>exact Pt.at x
theorem Pt.elem (k:Nat) (es:List D) (i j:Nat) (x:Nat × Bool):Pt fun K=>gZ k es i j x K:=fun K h=>by
 obtain ⟨e,y,h1,h2,h3⟩:=jA h;exact ⟨_,h3,fun K' hK=>⟨h.1,fun e' he=>by rw [h1] at he;cases he;rw [h2];exact hK⟩⟩
theorem Pt.cell (b:bF):Pt fun K:List V→Prop=>qI b K:=by
 cases b<;>first|exact Pt.at _|exact Pt.no
theorem Pt.load (P:Program) (t:Nat) (a:V) (σ:ak):Pt fun K=>eB P t a σ K:=by
 refine (Pt.opt (cF P t)).bind fun x =>?_
 split
 ·exact Pt.elem _ _ _ _ _
 ·exact (Pt.opt _).bind fun b=>(Pt.cell b).bind fun cs=>Pt.opt _
 ·refine (Pt.opt _).bind fun b =>?_
  cases b with
  | row k es ty=>exact Pt.and _ (Pt.elem _ _ _ _ _)
  | _=>exact Pt.no
 ·exact Pt.no
theorem Pt.pick (c a b:V):Pt fun K=>je c a b K:=by
 unfold je;split
 ·exact Pt.br _ (Pt.at _) (Pt.at _)
 ·exact Pt.no
theorem ba.next (x:V) (σ:ak):ba fun K=>kS x σ K:=by
 unfold kS;split
 ·refine (Pt.opt _).bind2 fun b =>?_
  cases b with
  | iter s pos=>exact ba.br _ (ba.at _ _) (ba.at _ _)
  | _=>exact ba.no
 ·exact ba.no
theorem ba.call (P:Program) (G:Gl) (f:Nat) (args:List V) (σ:ak) (id:Nat):ba fun K=>au P G f args σ id K:=fun K ⟨v,σ',h,k⟩=>⟨v,σ',h,fun K' hK=>⟨v,σ',hK,k⟩⟩
theorem ba.dcall (P:Program) (G:Gl) (f:Nat) (args:List V) (σ:ak) (id:Nat):ba fun K=>dI P G f args σ id K:=fun K ⟨v,σ',h,k⟩=>⟨v,σ',h,fun K' hK=>⟨v,σ',hK,k⟩⟩
theorem ba.yield (P:Program) (G:Gl) (f:Nat) (args:List V) (σ:ak) (id:Nat):ba fun K=>gD P G f args σ id K:=fun K ⟨v,σ',h,k⟩=>⟨v,σ',h,fun K' hK=>⟨v,σ',hK,k⟩⟩
theorem ba.res (op:Op) (r:jt):ba fun K=>eV op r K:=by
 cases r with
 | none=>exact ba.no
 | some x=>exact ba.and _ (ba.at _ _)
theorem ba.callee (v:V) {K:Nat→List V→(α→β→Prop)→Prop} {Y:Nat→(α→β→Prop)→Prop} {B:Nat→List V→(α→β→Prop)→Prop} (h : ∀k l,ba (K k l)) (hy : ∀i,ba (Y i)) (hb : ∀k l,ba (B k l)) :
 ba fun X=>bt v (fun k l=>K k l X) (fun i=>Y i X) fun k l=>B k l X:=by
 unfold bt;split
 ·exact h _ _
 ·exact h _ _
 ·exact hy _
 ·exact hb _ _
 ·exact ba.no
variable {P:Program} {G:Gl}
theorem ba.bs (r r2:jt) (σ:ak):ba fun K=>Ib r r2 σ K:=by
 unfold Ib;split
 ·exact ba.and _ (ba.at _ _)
 ·split
  ·exact ba.and _ (ba.at _ _)
  ·exact ba.no
theorem ba.step (op:Op) (g:Operand→V) (σ:ak) (id:Nat):ba fun K=>aQ P G op g σ id K:=by
 unfold aQ;split
 ·exact (Pt.pick _ _ _).bind2 fun v=>ba.at v σ
 ·exact (Pt.load _ _ _ _).bind2 fun v=>ba.at v σ
 ·split
  ·exact ba.next _ _
  ·exact ba.no
 ·split
  ·exact ba.callee _ (fun _ _=>ba.call _ _ _ _ _ _) (fun _=>ba.yield _ _ _ _ _ _) fun _ _=>ba.call _ _ _ _ _ _
  ·exact ba.res _ _
  ·exact ba.no
 ·exact ba.bs _ _ _
 ·exact ba.res _ _
theorem ba.quiet (op:Op) (g:Operand→V) (σ:ak) (id:Nat):ba fun K=>aV P G op g σ id K:=by
 unfold aV;split
 ·exact (Pt.pick _ _ _).bind2 fun v=>ba.at v []
 ·exact (Pt.load _ _ _ _).bind2 fun v=>ba.at v []
 ·split
  ·exact ba.callee _ (fun _ _=>ba.dcall _ _ _ _ _ _) (fun _=>ba.no) fun _ _=>ba.dcall _ _ _ _ _ _
  ·exact ba.res _ _
  ·exact ba.no
 ·exact ba.res _ _
theorem ba.guard (ops:Array Oper) (o:Oper) (e:aN) {Y N:aN→(α→β→Prop)→Prop} (h : ∀e,ba (Y e)) (k : ∀e,ba (N e)):ba fun K=>cy ops o e (fun e=>Y e K) fun e=>N e K:=by
 unfold cy;split
 ·exact h _
 ·refine (Pt.opt _).bind2 fun d =>?_
  unfold pD;split
  ·refine ba.br _ ?_ ?_<;>split<;>first|exact h _|exact k _
  ·exact k _
  ·exact ba.no
theorem ba.ops (ops:Array Oper) (base:Nat) : ∀(l:List Oper) (i:Nat) (e:aN) (σ:ak),ba fun K=>mK P G ops base i l e σ K
 | [],_,e,σ=>ba.at e σ
 | o::r,i,e,σ=>ba.guard _ _ _ (fun e=>(ba.step _ _ _ _).bind fun v σ'=>ba.ops ops base r _ _ _) fun e=>ba.ops ops base r _ _ _
theorem ba.sb (σk σ:ak) {W:(α→β→Prop)→Prop} (h:ba W):ba fun K=>xS σk σ (W K):=by
 cases σk with
 | nil=>exact h
 | cons x r=>exact ba.and _ h
theorem ba.opsL (lo:List Nat) (σk:ak) (ops:Array Oper) (base:Nat) : ∀(l:List Oper) (i:Nat) (e:aN) (σ acc:ak),ba fun K=>opsL P G lo σk ops base i l e σ acc K
 | [],_,e,σ,acc=>ba.at e (σ++acc)
 | o::r,i,e,σ,acc=>ba.guard _ _ _ (fun e=>by
  split
  ·exact (ba.step _ _ _ _).bind fun v σ'=>ba.sb _ _ (ba.opsL lo σk ops base r _ _ _ _)
  ·split
   ·unfold gk;split
    ·split
     ·exact ba.callee _ (fun _ _=>ba.or ((ba.dcall _ _ _ _ _ _).bind fun v new=>ba.opsL lo σk ops base r _ _ _ _) (ba.and _ ((ba.call _ _ _ _ _ _).bind fun v σ'=>ba.sb _ _ (ba.opsL lo σk ops base r _ _ _ _))))
       (fun _=>ba.and _ ((ba.yield _ _ _ _ _ _).bind fun v σ'=>ba.sb _ _ (ba.opsL lo σk ops base r _ _ _ _)))
       fun _ _=>ba.or ((ba.dcall _ _ _ _ _ _).bind fun v new=>ba.opsL lo σk ops base r _ _ _ _) (ba.and _ ((ba.call _ _ _ _ _ _).bind fun v σ'=>ba.sb _ _ (ba.opsL lo σk ops base r _ _ _ _)))
     ·exact ba.no
    ·exact ba.no
   ·split
    ·exact (ba.quiet _ _ _ _).bind fun v new=>ba.and _ (ba.opsL lo σk ops base r _ _ _ _)
    ·exact (ba.quiet _ _ _ _).bind fun v new=>ba.opsL lo σk ops base r _ _ _ _) fun e=>ba.opsL lo σk ops base r _ _ _ _
theorem Pt.reg (lv:List Nat) (ops:Array Oper) (draw:Bool) (st:St):Pt fun K=>jR P G lv ops draw K st:=by
 intro K h;cases draw with
 | true=>
  simp only [jR,if_true] at h;obtain ⟨lo,σk,h1,h2,h3,h4⟩:=h;obtain ⟨e,σ,hK,hall⟩:=ba.opsL lo σk ops st.nx ops.toList 0 st.env st.sg [] (fun e σ=>K ⟨aN.keep lv e,σ,st.nx+4*ops.size⟩) h4;exact ⟨_,hK,fun K' hK'=>by simp only [jR,if_true];exact ⟨lo,σk,h1,h2,h3,hall (fun e σ=>K' ⟨aN.keep lv e,σ,st.nx+4*ops.size⟩) hK'⟩⟩
 | false=>
  simp only [jR,Bool.false_eq_true,if_false] at h;obtain ⟨e,σ,hK,hall⟩:=ba.ops ops st.nx ops.toList 0 st.env st.sg (fun e σ=>K ⟨aN.keep lv e,σ,st.nx+4*ops.size⟩) h;exact ⟨_,hK,fun K' hK'=>by simp only [jR,Bool.false_eq_true,if_false];exact hall (fun e σ=>K' ⟨aN.keep lv e,σ,st.nx+4*ops.size⟩) hK'⟩
theorem Pt.gh (G:Gl) (m:Nat) {W:St→(α→Prop)→Prop} (h : ∀st,Pt (W st)) (st:St):Pt fun K=>aC G m (fun st=>W st K) st:=fun K ⟨s,h1,h2⟩=>by
 obtain ⟨x,hx,hall⟩:=h s K h2;exact ⟨x,hx,fun K' hK=>⟨s,h1,hall K' hK⟩⟩
end
def HP (G:Gl) (m:Nat) (B:List Nat→St→(Exit→St→Prop)→Prop) (st:St) (Q:Exit→St→Prop) (_u:Tag B:= .mk) (_v:Tag Q:= .mk) (_h:True:=trivial):Prop:=
 ∃(α:Type) (S:α→St) (pre:α→Prop) (mu:α→Nat) (x0:α) (lv:List Nat),aC G m (fun st'=>st'=S x0) st∧pre x0 ∧ ∀x,pre x→B lv (S x) (fv (fun st=>aG G m S pre mu x st) Q)
def bc (P:Program) (G:Gl) (n m:Nat):Code→List Nat→St→(Exit→St→Prop)→Prop
 | .skip,_,st,Q=>Q .normal st
 | .region _ ops draw,lv,st,Q=>aC G m (jR P G lv ops draw fun st'=>Q .normal st') st
 | .seq a b,lv,st,Q=>bc P G n m a lv st (fv (fun st'=>bc P G n m b lv st' Q) Q)
 | .cond c a b,lv,st,Q=>md (ep G st.env.get c) (bc P G n m a lv st Q) (bc P G n m b lv st Q)
 | .block id c,lv,st,Q=>bc P G n m c lv st (dK id Q)
 | .loop c,_,st,Q=>HP G m (fun lv st Q=>bc P G n m c lv st Q) st Q
 | .exit id,_,st,Q=>Q (.exit id) st
 | .ret,_,st,Q=>Q .ret st
 | .label _,_,st,Q=>Q .normal st
 | .scope c,lv,st,Q=>bc P G n m c lv st (jX Q)
 | _,_,_,_=>False
section
variable {P:Program} {G:Gl} {n m:Nat}
def gp (P:Program) (G:Gl) (n m:Nat) (c:Code) (st:St) (Q:Exit→St→Prop):Prop:= ∀fr,(fr=none∨nV c=true) → ∀(C:tK) a w,C.n=n→C.nx=m→pS C G st a w →
 ∀(b:Frame) (kk:List Item) (cs:List Frame),b.roundOf=(Fr fr).round→(Fr fr).fn b.fn→(Fr fr).room (cs.length+1+0) →
   ∃e a' w',(∃st',Q e st'∧pS C G st' a' w')∧ArrivesIn (Machine.fenced P (Fr fr)) P (lone (b.atR a (.code c :: .inLoop c::kk)) cs w) b kk cs e a' w'
theorem gp.loop {c:Code} {st:St} {Q:Exit→St→Prop} (h:gp P G n m c st Q):kM P G n m c st Q:=by
 intro fr hfr C a w hn hm hrel b kk cs hro hb hroom;obtain ⟨e,a',w',hq,harr⟩:=h fr hfr C a w hn hm hrel b kk cs hro hb hroom;exact ⟨e,a',w',hq,.of_steps (.one (fenced_calm hb hroom rfl) stepR_loop) harr⟩
theorem gp.via {c:Code} {st:St} {Q:Exit→St→Prop} (h:aC G m (fun s=>gp P G n m c s Q) st):gp P G n m c st Q:=by
 obtain ⟨s,h1,h2⟩:=h;exact fun fr hfr C a w hn hm hr=>h2 fr hfr C a w hn hm (h1 C a w hm hr)
theorem gp.round (ho:P.follows .mixedOrders=true) {c:Code} (hok:aP n c=true) {lv:List Nat} {st:St} {Q:Exit→St→Prop} (h:bC P G n m lv c st (fv (fun s=>gp P G n m c s Q) Q)):gp P G n m c st Q:=by
 intro fr hfr C a w hn hm hr b kk cs hro hb hroom;obtain ⟨e,a',w',⟨st',hq,hr2⟩,harr⟩:=dR ho c st _ hok h fr hfr C a w hn hm hr b (.inLoop c::kk) cs hro hb hroom;cases e with
 | normal=>
  obtain ⟨e2,a2,w2,hq2,harr2⟩:=hq fr hfr C a' w' hn hm hr2 b kk cs hro hb hroom;exact ⟨e2,a2,w2,hq2,.of_steps (StepsIn.trans harr (.one (fenced_calm hb hroom rfl) stepR_inLoop)) harr2⟩
 | exit id=>exact ⟨_,a',w',⟨st',hq,hr2⟩,.pass (x:= .inLoop c) rfl (fun _ _=> .inl (by simp)) harr⟩
 | goto l=>exact ⟨_,a',w',⟨st',hq,hr2⟩,.pass (x:= .inLoop c) rfl (fun _ _=> .inl (by simp)) harr⟩
 | ret=>exact ⟨_,a',w',⟨st',hq,hr2⟩,.pass (x:= .inLoop c) rfl (fun _ _=> .inl (by simp)) harr⟩
 | panic ch=>exact ⟨_,a',w',⟨st',hq,hr2⟩,.pass (x:= .inLoop c) rfl (fun _ _=> .inl (by simp)) harr⟩
 | outgrown=>exact ⟨_,a',w',⟨st',hq,hr2⟩,.pass (x:= .inLoop c) rfl (fun _ _=> .inl (by simp)) harr⟩
theorem oj {k k':St→Prop} {Q Q':Exit→St→Prop} (hk : ∀s,k s→k' s) (hq : ∀e s,Q e s→Q' e s) : ∀e s,fv k Q e s→fv k' Q' e s:=by
 intro e s h;cases e<;>first|exact hk _ h|exact hq _ _ h
theorem yT {id:Nat} {Q Q':Exit→St→Prop} (hq : ∀e s,Q e s→Q' e s) : ∀e s,dK id Q e s→dK id Q' e s:=by
 intro e s h;cases e with
 | exit i=>
  simp only [dK] at h ⊢;split
  ·rename_i hi;rw [if_pos hi] at h;exact hq _ _ h
  ·rename_i hi;rw [if_neg hi] at h;exact hq _ _ h
 | _=>exact hq _ _ h
theorem AZ {Q Q':Exit→St→Prop} (hq : ∀e s,Q e s→Q' e s) : ∀e s,jX Q e s→jX Q' e s:=by
 intro e s h;cases e<;>first|exact h.elim|exact hq _ _ h
theorem dL : ∀(c:Code) {lv:List Nat} {st:St} {Q Q':Exit→St→Prop},(∀e s,Q e s→Q' e s)→bc P G n m c lv st Q→bc P G n m c lv st Q':=by
 intro c;induction c with
 | skip=>intro lv st Q Q' hq h;exact hq _ _ h
 | exit id=>intro lv st Q Q' hq h;exact hq _ _ h
 | ret=>intro lv st Q Q' hq h;exact hq _ _ h
 | label l=>intro lv st Q Q' hq h;exact hq _ _ h
 | region id ops draw=>
  intro lv st Q Q' hq h;obtain ⟨x,hx,hall⟩:=Pt.gh G m (fun s=>Pt.reg (P:=P) (G:=G) lv ops draw s) st _ h;exact hall _ (hq _ _ hx)
 | seq a b iha ihb=>intro lv st Q Q' hq h;exact iha (oj (fun s hs=>ihb hq hs) hq) h
 | cond c a b iha ihb=>
  intro lv st Q Q' hq h;simp only [bc,md] at h ⊢;unfold qB at h ⊢;split
  ·rename_i t hb;rw [hb] at h;exact ⟨fun e=>iha hq (h.1 e),fun e=>ihb hq (h.2 e)⟩
  ·rename_i hb;split at h
   ·rename_i t hb';exact (hb t hb').elim
   ·exact h.elim
 | block id c ih=>intro lv st Q Q' hq h;exact ih (yT hq) h
 | scope c ih=>intro lv st Q Q' hq h;exact ih (AZ hq) h
 | loop c ih=>
  intro lv st Q Q' hq h;obtain ⟨α,S,pre,mu,x0,lv',h1,h2,h3⟩:=h;exact ⟨α,S,pre,mu,x0,lv',h1,h2,fun x hx=>ih (oj (fun _ h=>h) hq) (h3 x hx)⟩
 | _=>intro lv st Q Q' hq h;exact h.elim
theorem Im (ho:P.follows .mixedOrders=true) {ρ:Type} : ∀(c:Code) {lv:List Nat} {st:St} {Q:ρ→Exit→St→Prop},aP n c=true→bc P G n m c lv st (fun e s=> ∃r,Q r e s) → ∃r,bC P G n m lv c st (Q r):=by
 intro c;induction c with
 | skip=>intro lv st Q _ h;exact h
 | exit id=>intro lv st Q _ h;exact h
 | ret=>intro lv st Q _ h;exact h
 | label l=>intro lv st Q _ h;exact h
 | region id ops draw=>
  intro lv st Q _ h;obtain ⟨x,⟨r,hx⟩,hall⟩:=Pt.gh G m (fun s=>Pt.reg (P:=P) (G:=G) lv ops draw s) st (fun st'=> ∃r,Q r .normal st') h;exact ⟨r,hall (fun st'=>Q r .normal st') hx⟩
 | seq a b iha ihb=>
  intro lv st Q hok h;simp only [aP,Bool.and_eq_true] at hok;refine iha (Q:=fun r=>fv (fun st'=>bC P G n m lv b st' (Q r)) (Q r)) hok.1 (dL a ?_ h);intro e s hs;cases e<;>first|exact ihb hok.2 hs|exact hs
 | cond c a b iha ihb=>
  intro lv st Q hok h;simp only [aP,Bool.and_eq_true] at hok;simp only [bc,md] at h;simp only [bC,md];unfold qB at h;split at h
  ·rename_i t hb;rw [hb];cases t with
   | true=>obtain ⟨r,hr⟩:=iha hok.1 (h.1 rfl);exact ⟨r,⟨fun _=>hr,fun e=>by cases e⟩⟩
   | false=>obtain ⟨r,hr⟩:=ihb hok.2 (h.2 rfl);exact ⟨r,⟨fun e=>(by cases e),fun _=>hr⟩⟩
  ·exact h.elim
 | block id c ih=>
  intro lv st Q hok h;refine ih (Q:=fun r=>dK id (Q r)) hok (dL c ?_ h);intro e s hs;cases e with
  | exit i=>
   simp only [dK] at hs ⊢;split
   ·rename_i hi;rw [if_pos hi] at hs;exact hs
   ·rename_i hi;rw [if_neg hi] at hs;exact hs
  | _=>exact hs
 | scope c ih=>
  intro lv st Q hok h;refine ih (Q:=fun r=>jX (Q r)) hok (dL c ?_ h);intro e s hs;cases e<;>first|exact hs.elim|exact hs
 | loop c ih=>
  intro lv st Q hok h;have hok:aP n c=true:=hok;obtain ⟨α,S,pre,mu,x0,lv',h1,h2,h3⟩:=h;have key : ∀k x,mu x=k→pre x → ∃r,gp P G n m c (S x) (Q r):=by
   intro k;induction k using Nat.strongRecOn with
   | _ k ihk=>
    intro x hk hx;obtain ⟨r,hr⟩:=ih (Q:=fun r=>fv (fun s=>gp P G n m c s (Q r)) (Q r)) hok (dL c (fun e s hs=>by
     cases e with
     | normal=>
      obtain ⟨s',hle,j,hlt,y,hy,rfl,hpy⟩:=hs;obtain ⟨r,hr⟩:=ihk j (by omega) y hy hpy;exact ⟨r,gp.via ⟨_,hle,hr⟩⟩
     | _=>exact hs) (h3 x hx))
    exact ⟨r,gp.round ho hok hr⟩
  obtain ⟨r,hr⟩:=key _ x0 rfl h2;obtain ⟨s,hle,rfl⟩:=h1;exact ⟨r,gp.loop (gp.via ⟨_,hle,hr⟩)⟩
 | _=>intro lv st Q _ h;exact h.elim
def aY (P:Program) (G:Gl) (m:Nat) (rs:List ResultVar) {ρ:Type} (R:ρ→Prop) (r:ρ→V) (σ':ρ→ak) (st:St) (_u:Tag R:= .mk) (_v:Tag r:= .mk) (_w:Tag σ':= .mk) (_h:True:=trivial):Prop:= ∃x,R x∧ae P G m rs (r x) (σ' x) st
theorem aY.is {rs:List ResultVar} {ρ:Type} {R:ρ→Prop} {r:ρ→V} {σ':ρ→ak} {st:St} (x:ρ) (hx:R x) (h:ae P G m rs (r x) (σ' x) st):aY P G m rs R r σ' st:=⟨x,hx,h⟩
theorem an.ex (ho:P.follows .mixedOrders=true) {f:Nat} {fn:Func} {c:Code} {rs:List ResultVar} (lv:List Nat) (hf:P.funcs[f]? = some fn) (hb:fn.body=some c) (hrs:fn.results=rs.toArray) (hn:fn.ntmps=n)
 {args:List V} {σ:ak} {ρ:Type} {R:ρ→Prop} {r:ρ→V} {σ':ρ→ak} (h:bc P G n m c lv ⟨gn 0 args,σ,m⟩ (AN (aY P G m rs R r σ'))) (hok:aP n c=true) (hlen:args.length≤n) : ∃x,R x∧an P G f args σ m (r x) (σ' x):=by
 obtain ⟨⟨x,hx⟩,hr⟩:=Im ho (ρ :={ x // R x }) (Q:=fun x=>AN (ae P G m rs (r x.1) (σ' x.1))) c hok (dL c (fun e s hs=>by
  cases e<;>first|exact hs.elim|exact (match hs with|⟨x,h1,h2⟩=>⟨⟨x,h1⟩,h2⟩)) h)
 exact ⟨x,hx,an.of_code ho lv hf hb hrs hn hok hlen hr⟩
def lq:Code→Bool
 | .region _ _ _=>true
 | .seq a _=>lq a
 | .block _ c=>lq c
 | .loop _=>true
 | .scope c=>lq c
 | _=>false
theorem Fx {st st':St} (hle:cq G m st st') : ∀(c:Code) {lv:List Nat} {Q:Exit→St→Prop},lq c=true→bc P G n m c lv st' Q→bc P G n m c lv st Q:=by
 intro c;induction c with
 | region id ops draw=>intro lv Q _ h;exact aC.via hle h
 | seq a b iha _=>intro lv Q hc h;exact iha hc h
 | block id c ih=>intro lv Q hc h;exact ih hc h
 | scope c ih=>intro lv Q hc h;exact ih hc h
 | loop c _=>
  intro lv Q _ h;obtain ⟨α,S,pre,mu,x0,lv',h1,h2,h3⟩:=h;exact ⟨α,S,pre,mu,x0,lv',aC.via hle h1,h2,h3⟩
 | _=>intro lv Q hc h;cases hc
def dp (G:Gl) (m:Nat) {β:Type} (T:β→St) (post:β→Prop) (st:St) (_u:Tag T:= .mk) (_v:Tag post:= .mk) (_h:True:=trivial):Prop:=aC G m (fun st'=> ∃y,st'=T y∧post y) st
theorem dp.go {β:Type} {T:β→St} {post:β→Prop} {st:St} (y:β) (ks:List Nat) (he:st.norm m ks=T y) (hp:post y):dp G m T post st:=aC.go ks he ⟨y,rfl,hp⟩
theorem dp.frz {β:Type} {T:β→St} {post:β→Prop} {st:St} (id:Nat) (h:dp G m T post (st.frz id)):dp G m T post st:=aC.frz id h
theorem dp.use {β:Type} {T:β→St} {post:β→Prop} {st:St} {c:Code} {lv:List Nat} {Q:Exit→St→Prop} (hc:lq c=true) (h:dp G m T post st) (hq : ∀y,post y→bc P G n m c lv (T y) Q):bc P G n m c lv st Q:=by
 obtain ⟨st',hle,y,rfl,hy⟩:=h;exact Fx hle c hc (hq y hy)
theorem wG {c rest:Code} {st:St} {Q Q':Exit→St→Prop} {α β:Type} {lv':List Nat} (lv:List Nat) (ex:Nat) (S:α→St) (pre:α→Prop) (mu:α→Nat) (x0:α) (T:β→St) (post:β→Prop) (h0:aC G m (fun st'=>st'=S x0) st) (hp:pre x0)
 (hr : ∀x,pre x→bc P G n m c lv (S x) (fv (fun st=>aG G m S pre mu x st) (dK ex (fv (fun st=>dp G m T post st) Q)))) (hq : ∀y,post y→bc P G n m rest lv' (T y) Q')
 (hQ : ∀st,bc P G n m rest lv' st Q'→Q (.exit ex) st) (hd:lq rest=true):HP G m (fun lv st Q=>bc P G n m c lv st Q) st Q:=by
 refine ⟨α,S,pre,mu,x0,lv,h0,hp,fun x hx=>dL c ?_ (hr x hx)⟩;intro e s h;cases e with
 | normal=>exact h
 | exit i=>
  have h2:dK ex (fv (fun st=>dp G m T post st) Q) (.exit i) s:=h;show Q (.exit i) s;clear h;simp only [dK] at h2;split at h2
  ·rename_i hi;subst hi;exact hQ s (dp.use hd h2 hq)
  ·exact h2
 | _=>exact h
def NM (K:St→Prop) (st:St) (_u:Tag K:= .mk) (_h:True:=trivial):Prop:=K st
theorem vH {K:St→Prop} {st:St} (h:K st):NM K st:=h
theorem On {a b:Code} {lv:List Nat} {st:St} {Q:Exit→St→Prop} (h:bc P G n m a lv st (fv (fun st'=>NM (fun st'=>bc P G n m b lv st' Q) st') Q)):bc P G n m (.seq a b) lv st Q:=h
theorem Zy {id:Nat} {c:Code} {lv:List Nat} {st:St} {Q:Exit→St→Prop} (h:bc P G n m c lv st (dK id Q)):bc P G n m (.block id c) lv st Q:=h
theorem Oo {a b:Code} {lv:List Nat} {st:St} {Q:Exit→St→Prop} {β:Type} (T:β→St) (post:β→Prop) (h:bc P G n m a lv st (fv (fun st=>dp G m T post st) Q)) (hq : ∀y,post y→bc P G n m b lv (T y) Q) (hd:lq b=true:=by rfl):bc P G n m (.seq a b) lv st Q:=
 dL a (oj (fun _ h=>dp.use hd h hq) fun _ _ h=>h) h
end
def RR :=@And.intro _ _ @Ab <| @And.intro _ _ @H7 <| @And.intro _ _ @Fg <| @And.intro _ _ @FN <| @And.intro _ _ @FM <| @And.intro _ _ @qE <| @And.intro _ _ @ny <| @And.intro _ _ @GJ <| @And.intro _ _ @IF <| @And.intro _ _ @IE <| @And.intro _ _ @LU <| @And.intro _ _ @Fd <| @And.intro _ _ @I8 <| @And.intro _ _ @F1 <| @And.intro _ _ @Fy <| @And.intro _ _ @GN <| @And.intro _ _ @BY <| @And.intro _ _ @Ft <| @And.intro _ _ @qG <| @And.intro _ _ @B0 <| @And.intro _ _ @Kg <| @And.intro _ _ @Cv <| @And.intro _ _ @A0 <| @And.intro _ _ @G8 <| @And.intro _ _ @Ku <| @And.intro _ _ @tU <| @And.intro _ _ @BV <| @And.intro _ _ @yS <| @And.intro _ _ @t8 <| @And.intro _ _ @AY <| @And.intro _ _ @Df <| @And.intro _ _ @AO <| @And.intro _ _ @J9 <| @And.intro _ _ @zS <| @And.intro _ _ @zV <| @And.intro _ _ @zU <| @And.intro _ _ @gZ.eq_1 <| @And.intro _ _ @L0 <| @And.intro _ _ @FR <| @And.intro _ _ @IL <| @And.intro _ _ @Ch <| @And.intro _ _ @Ci <| @And.intro _ _ @zz <| @And.intro _ _ @bC.eq_1 <| @And.intro _ _ @bC.eq_2 <| @And.intro _ _ @bC.eq_3 <| @And.intro _ _ @bC.eq_4 <| @And.intro _ _ @bC.eq_5 <| @And.intro _ _ @bC.eq_6 <| @And.intro _ _ @bC.eq_7 <| @And.intro _ _ @bC.eq_8 <| @And.intro _ _ @bC.eq_9 <| @And.intro _ _ @bC.eq_10 <| @And.intro _ _ @bc.eq_1 <| @And.intro _ _ @bc.eq_2 <| @And.intro _ _ @bc.eq_3 <| @And.intro _ _ @bc.eq_4 <| @And.intro _ _ @bc.eq_5 <| @And.intro _ _ @bc.eq_6 <| @And.intro _ _ @bc.eq_7 <| @And.intro _ _ @bc.eq_8 <| @And.intro _ _ @bc.eq_9 <| @And.intro _ _ @bc.eq_10 <| @And.intro _ _ @C9 <| @And.intro _ _ @JY <| @And.intro _ _ @GH <| @And.intro _ _ @JW <| @And.intro _ _ @GF <| @And.intro _ _ @J3 <| @And.intro _ _ @GP @Bw
def SS :=@And.intro _ _ @td <| @And.intro _ _ @m9 <| @And.intro _ _ @ph <| @And.intro _ _ @tg <| @And.intro _ _ @jf <| @And.intro _ _ @pi <| @And.intro _ _ @ta <| @And.intro _ _ @tf <| @And.intro _ _ @ww <| @And.intro _ _ @jg <| @And.intro _ _ @o7 <| @And.intro _ _ @kT <| @And.intro _ _ @mN <| @And.intro _ _ @o9 <| @And.intro _ _ @ig <| @And.intro _ _ @mP <| @And.intro _ _ @o6 <| @And.intro _ _ @o8 <| @And.intro _ _ @sk <| @ii
theorem oo (k t:Nat) (b:bF) (r:ak):ak.get ((k,b)::r) t=if k=t then some b else ak.get r t:=by rw [ak.get]
def W6 :=@And.intro _ _ @QS <| @And.intro _ _ @Xx <| @And.intro _ _ @I9 @Mh
theorem w32 (n:Int) (h1 : -2147483648≤n) (h2:n≤2147483647):IntKind.i32.wrap n=n:=by
 rw [IntKind.wrap_i32];omega
theorem wu8 (n:Int) (h1:0≤n) (h2:n≤255):IntKind.u8.wrap n=n:=by
 rw [IntKind.wrap_u8];omega
theorem KL (a b:Int) (h:0≤a):a.tdiv b=a / b:=Int.tdiv_eq_ediv_of_nonneg h
theorem TS (a b:Int) (h:0≤a):a.tmod b=a % b:=Int.tmod_eq_emod_of_nonneg h
def W3 :=@And.intro _ _ @W6 <| @And.intro _ _ @w32 <| @And.intro _ _ @wu8 <| @And.intro _ _ @KL @TS
instance kG.cond {a b c:Bool} {p q r p' q' r':Prop} [h:kG a p p'] [k:kG b q q'] [l:kG c r r']:kG (cond a b c) ((p∧q)∨(p'∧r)) (¬((p∧q)∨(p'∧r))):=kG.mk' (by rw [←h.says,←h.nots,←k.says,←l.says];cases a<;>simp)
theorem vR {p q:Prop} (h:q) (e:p=q:=by simp -implicitDefEqProofs -dsimp only [push_cast,↓RR,↓SS,↓oo,↓reduceIte,Nat.reduceMul,Nat.reduceAdd,Nat.reduceSub,Nat.reduceEqDiff,Nat.reduceBeqDiff,Nat.reduceLeDiff,Nat.reduceLT,reduceCtorEq,Int.reduceToNat];exact rfl):p:=e▸h
theorem v6 {p q:Prop} (h:q) (e:p=q:=by simp -implicitDefEqProofs -dsimp (disch:=omega) only [W6];exact rfl):p:=e▸h
theorem v3 {p q:Prop} (h:q) (e:p=q:=by simp -implicitDefEqProofs -dsimp (disch:=omega) only [W3];exact rfl):p:=e▸h
theorem vD {P:Program} {G:Gl} {m:Nat} {lv:List Nat} {ops:Array Oper} {K:St→Prop} {st:St} (h:rU P G ops st.nx 0 ops.toList st.env st.sg [] fun e σ=>tZ K ⟨aN.keep lv e,σ,st.nx+4*ops.size⟩) (hd:ct [] ops=true:=by decide +kernel):aC G m (jR P G lv ops true K) st:=aC.dr hd h
theorem vG {G:Gl} {m:Nat} {K:St→Prop} {st:St} (h:K st):aC G m K st:=aC.now h
theorem vE {K:St→Prop} {st:St} (h:K st):tZ K st:=h
theorem vN {p q:Prop} (h2:q) (h1:p:=by first|omega|(simp [iz,HO,fk,V.cellOk,Value.oneCell',D.cells,nQ];done)|(simp [iz,HO,fk,V.cellOk,Value.oneCell',D.cells,nQ];omega)):oX p q:=⟨h1,h2⟩
theorem vB {b:Bool} {p p':Prop} [h:kG b p p'] {q r:Prop} (h1:p→q) (h2:p'→r):jj b q r:=jj.of h1 h2
theorem vM {b:Bool} {p p':Prop} [h:kG b p p'] {q r:Prop} (h1:p→q) (h2:p'→r):oK b q r:=oK.of h1 h2
section
variable {P:Program} {G:Gl}
theorem vC {f:Nat} {args:List V} {σ:ak} {id:Nat} {K:V→ak→Prop} {r:V} (h:an P G f args [] 0 r []) (hK:K r σ) (he:cx P f=true:=by kernel_rfl) (ha:args.map (V.sel (fw []))=args:=by with_unfolding_all rfl) (hr:r.sel (bk [] id)=r:=by with_unfolding_all rfl):au P G f args σ id K:=au.d h he ha hr hK
theorem vQ {lo:List Nat} {ops:Array Oper} {i f:Nat} {args:List V} {σ acc:ak} {id:Nat} {K L:V→ak→Prop} {r:V} (h:an P G f args [] 0 r []) (hK:K r []) (he:cx P f=true:=by kernel_rfl) (ha:args.map (V.sel (fw []))=args:=by with_unfolding_all rfl) (hr:r.sel (bk [] id)=r:=by with_unfolding_all rfl):ev P G lo ops i f args σ acc id K L:=ev.d h he ha hr hK
class NJ (p:Prop) (P:outParam Program) (G:outParam Gl) (f:outParam Nat) (args:outParam (List V)) (id:outParam Nat) (K:outParam (V→Prop)):Prop where
 of : ∀r,an P G f args [] 0 r []→cx P f=true→args.map (V.sel (fw []))=args→r.sel (bk [] id)=r→K r→p
instance {f:Nat} {args:List V} {σ:ak} {id:Nat} {K:V→ak→Prop} : NJ (au P G f args σ id K) P G f args id (fun r=>K r σ):=⟨fun _ h he ha hr hK=>au.d h he ha hr hK⟩
instance {lo:List Nat} {ops:Array Oper} {i f:Nat} {args:List V} {σ acc:ak} {id:Nat} {K L:V→ak→Prop} : NJ (ev P G lo ops i f args σ acc id K L) P G f args id (fun r=>K r []):=⟨fun _ h he ha hr hK=>ev.d h he ha hr hK⟩
theorem vY (ho:P.follows .mixedOrders=true) (lv:List Nat) {i:Nat} {args:List V} {σ:ak} {id:Nat} {K:V→ak→Prop} {y:Yd} {e:aN} (v:V) (σ':ak)
 (h:bC P G y.n id lv y.asg ⟨jB y.ps.toList (args.map (V.sel (jn id))) (e.sel (jn id)),(σ.del i).sel (jn id),id⟩ (fv (fun st=>bC P G y.n id lv y.body st (MU G σ id i y e v σ')) (fun _ _=>False))) (hK:K v σ') (hg:σ.get i=some (.rc y none e):=by rfl) (hi:i<id:=by decide) (hps:y.ps.toList.all (fun p=>decide (p<y.n))=true:=by kernel_rfl) (hl:args.length=y.ps.size:=by rfl)
 (hn1:nV y.asg=true:=by kernel_rfl) (hn2:nV y.body=true:=by kernel_rfl) (ho1:aP y.n y.asg=true:=by kernel_rfl) (ho2:aP y.n y.body=true:=by kernel_rfl):gD P G i args σ id K:=
 gD.of ho lv hg hi hps hl hn1 hn2 ho1 ho2 h hK
theorem ZA (ho:P.follows .mixedOrders=true) {n m:Nat} {g:Operand} {ps:Array Nat} {asg body:Code} {st:St} {Q:Exit→St→Prop} {k:Nat} {caps:List V} {fn:Func} {c:Code} (lv:List Nat) (hf:P.funcs[k]? = some fn) (hb:fn.body=some c)
 (h:bC P G fn.ntmps (st.nx+1) lv c ⟨gn 0 (.yl st.nx::caps),(st.nx,.rc ⟨n,ps,asg,body⟩ none st.env)::st.sg,st.nx+1⟩ (R3 G st Q)) (hg:ep G st.env.get g = .fn k caps:=by rfl) (he:cx P k=true:=by kernel_rfl) (hrs:fn.results = #[]:=by rfl) (hlen:caps.length+1≤fn.ntmps:=by decide) (hok:aP fn.ntmps c=true:=by kernel_rfl):np P G n m g ps asg body st Q:=
 su (fun _ _ _ _ hd=>uV (hg▸hd)) he hf hb hrs hlen (dR ho c _ _ hok h)
theorem vF (ho:P.follows .mixedOrders=true) {f:Nat} {fn:Func} {c:Code} {rs:List ResultVar} {n:Nat} (lv:List Nat) (hf:P.funcs[f]? = some fn) (hb:fn.body=some c) (hrs:fn.results=rs.toArray) (hn:fn.ntmps=n)
 {args:List V} {σ:ak} {m:Nat} {r:V} {σ':ak} (h:bC P G n m lv c ⟨gn 0 args,σ,m⟩ (AN (ae P G m rs r σ'))) (hok:aP n c=true:=by kernel_rfl) (hlen:args.length≤n:=by simp):an P G f args σ m r σ':=an.of_code ho lv hf hb hrs hn hok hlen h
theorem vL {n m:Nat} {lv:List Nat} (ho:P.follows .mixedOrders=true) {c:Code} {st:St} {Q:Exit→St→Prop} {α:Type} (S:α→St) (pre:α→Prop) (mu:α→Nat) (x0:α) (h0:aC G m (fun st'=>st'=S x0) st) (hp:pre x0)
 (hr : ∀x,pre x→bC P G n m lv c (S x) (fv (fun st=>aG G m S pre mu x st) Q)) (hok:aP n c=true:=by kernel_rfl):kM P G n m c st Q:=JB ho hok S pre mu x0 h0 hp hr
theorem tI (ho:P.follows .mixedOrders=true) {f:Nat} {fn:Func} {c:Code} {rs:List ResultVar} {n:Nat} (lv:List Nat) (hf:P.funcs[f]? = some fn) (hb:fn.body=some c) (hrs:fn.results=rs.toArray) (hn:fn.ntmps=n)
 {args:List V} {σ:ak} {m:Nat} {ρ:Type} {R:ρ→Prop} {r:ρ→V} {σ':ρ→ak} (h:bc P G n m c lv ⟨gn 0 args,σ,m⟩ (AN (aY P G m rs R r σ'))) (hok:aP n c=true:=by kernel_rfl) (hlen:args.length≤n:=by simp) : ∃x,R x∧an P G f args σ m (r x) (σ' x):=an.ex ho lv hf hb hrs hn h hok hlen
theorem tM {n m:Nat} {c:Code} {st:St} {Q:Exit→St→Prop} {α:Type} (lv:List Nat) (S:α→St) (pre:α→Prop) (mu:α→Nat) (x0:α) (h0:aC G m (fun st'=>st'=S x0) st) (hp:pre x0)
 (hr : ∀x,pre x→bc P G n m c lv (S x) (fv (fun st=>aG G m S pre mu x st) Q)):HP G m (fun lv st Q=>bc P G n m c lv st Q) st Q:=⟨α,S,pre,mu,x0,lv,h0,hp,hr⟩
end
theorem vS {α:Sort _} {a b:α} (h:a=b:=by first|rfl|(refine vR ?_;first|done|exact True.intro|rfl|(refine v6 ?_;first|exact True.intro|(refine vR ?_;exact True.intro))|((try refine v6 ?_);simp only [St.mk.injEq,List.cons.injEq,Prod.mk.injEq,V.d.injEq,D.lit.injEq,Value.int.injEq,true_and,and_true];omega))):a=b:=h
theorem vT {α:Sort _} {a b:α} (h:a=b:=by (refine vR ?_;first|done|exact True.intro|rfl|(refine v6 ?_;first|exact True.intro|(refine vR ?_;exact True.intro))|((try refine v6 ?_);simp only [St.mk.injEq,List.cons.injEq,Prod.mk.injEq,V.d.injEq,D.lit.injEq,Value.int.injEq,true_and,and_true];omega))):a=b:=h
inductive iw {G:Prop} : G→Prop|i (h:G):iw h
structure ja (G:Prop):Prop where g:G
theorem jk {G:Prop} (h:G) (_:iw h):ja G:=⟨h⟩
theorem zq {p:Prop} (h:p:=by (first|(with_reducible first|exact True.intro|refine vD ?_|refine vG ?_|refine vE ?_)|refine vR ?_|refine v6 ?_|with_reducible refine vN ?_|((with_reducible first|refine vB (fun h =>?_) (fun h =>?_)|refine vM (fun h =>?_) (fun h =>?_))<;>(first|(exfalso;omega)|skip)));all_goals (repeat' (first|(with_reducible first|exact True.intro|refine vD ?_|refine vG ?_|refine vE ?_)|refine vR ?_|refine v6 ?_|with_reducible refine vN ?_|((with_reducible first|refine vB (fun h =>?_) (fun h =>?_)|refine vM (fun h =>?_) (fun h =>?_))<;>(first|(exfalso;omega)|skip))));all_goals (refine ja.g ?_;apply_rules (newGoals:= .nonDependentOnly) only [jk,iw.i])):p:=h
theorem cD {p:Prop} (h:p:=by (first|(with_reducible first|exact True.intro|refine vD ?_|refine vG ?_|refine vE ?_)|refine vR ?_|refine v3 ?_|with_reducible refine vN ?_|((with_reducible first|refine vB (fun h =>?_) (fun h =>?_)|refine vM (fun h =>?_) (fun h =>?_))<;>(first|(exfalso;omega)|skip)));all_goals (repeat' (first|(with_reducible first|exact True.intro|refine vD ?_|refine vG ?_|refine vE ?_)|refine vR ?_|refine v3 ?_|with_reducible refine vN ?_|((with_reducible first|refine vB (fun h =>?_) (fun h =>?_)|refine vM (fun h =>?_) (fun h =>?_))<;>(first|(exfalso;omega)|skip))));all_goals (refine ja.g ?_;apply_rules (newGoals:= .nonDependentOnly) only [jk,iw.i])):p:=h
end Go.Proofs.YtkkanlcjjpoklaaGreatDoor
