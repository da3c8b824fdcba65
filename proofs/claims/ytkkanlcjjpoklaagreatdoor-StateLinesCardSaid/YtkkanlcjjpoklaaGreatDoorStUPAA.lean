/- What the theorem leans on, part 1. -/
import Derived.WalkKit
import Derived.Below
import Derived.Laws.Tables
import Derived.Laws.Cells
import Derived.Laws.Small
import Derived.LaidEql
import Derived.Laws.AppendOwn
import Derived.Lib.Builder
import Derived.Lib.UnsafeStr
import Derived.Laws.BytesArg
import Derived.Calls
namespace Go.Proofs.YtkkanlcjjpoklaaGreatDoor
inductive D where
 | lit (v:Value)
 | agg (cs:List D)
 | sd (k:Nat) (full:Bool) (es:List D)
 | pd (k:Nat) (es:List D) (i j:Nat)
 | fn (f:Nat) (caps:List D)
 | ifc (t:Nat) (x:D)
 | bf (f:Nat) (fs:List D)
 | ne (k:Nat)
def D.cells:D→List D
 | .agg cs=>cs
 | x=>[x]
inductive aq (w:World) (I:Nat→Prop):D→Value→Prop
 | lit (v:Value):aq w I (.lit v) v
 | agg (cs:List D) (vs:List Value) (hl:cs.length=vs.length) (ho : ∀v∈vs,v.oneCell'=true) (h : ∀(i:Nat) c v,cs[i]? = some c→vs[i]? = some v→aq w I c v):aq w I (.agg cs) (.agg vs.toArray)
 | sd (k:Nat) (full:Bool) (es:List D) (b o cap:Nat) (val:Nat→Nat→Value) (hI:I b) (hk : ∀(i:Nat) e,es[i]? = some e→e.cells.length=k)
  (hc : ∀(i:Nat) e (j:Nat) c,es[i]? = some e→e.cells[j]? = some c→w.cell? ⟨b,o+i*k+j,none⟩=some (val i j))
  (ho : ∀(i:Nat) e (j:Nat) c,es[i]? = some e→e.cells[j]? = some c→(val i j).oneCell'=true)
  (hd : ∀(i:Nat) e (j:Nat) c,es[i]? = some e→e.cells[j]? = some c→aq w I c (val i j))
  (hcap:es.length≤cap) (hfull:full=true→cap=es.length):aq w I (.sd k full es) (.slice (some ⟨b,o,none⟩) es.length cap)
 | sd0 (k:Nat) (full:Bool) (a:Option Addr):aq w I (.sd k full []) (.slice a 0 0)
 | pd (k:Nat) (es:List D) (i j:Nat) (b o:Nat) (val:Nat→Nat→Value) (hI:I b) (hk : ∀(i:Nat) e,es[i]? = some e→e.cells.length=k)
  (hc : ∀(i:Nat) e (j:Nat) c,es[i]? = some e→e.cells[j]? = some c→w.cell? ⟨b,o+i*k+j,none⟩=some (val i j))
  (ho : ∀(i:Nat) e (j:Nat) c,es[i]? = some e→e.cells[j]? = some c→(val i j).oneCell'=true)
  (hd : ∀(i:Nat) e (j:Nat) c,es[i]? = some e→e.cells[j]? = some c→aq w I c (val i j)):aq w I (.pd k es i j) (.pointer (some ⟨b,o+i*k+j,none⟩))
 | fn (f:Nat) (caps:List D) (vs:List Value) (hl:caps.length=vs.length) (h : ∀(i:Nat) c v,caps[i]? = some c→vs[i]? = some v→aq w I c v):aq w I (.fn f caps) (.func (.func f) #[] vs.toArray)
 | ifc (t:Nat) (x:D) (v:Value) (h:aq w I x v):aq w I (.ifc t x) (.iface t v)
 | bf (f:Nat) (fs:List D) (vs:List Value) (hl:fs.length=vs.length) (h : ∀(i:Nat) c v,fs[i]? = some c→vs[i]? = some v→aq w I c v):aq w I (.bf f fs) (.func (.func f) vs.toArray #[])
 | ne (k:Nat) (a:Addr) (c:Nat):aq w I (.ne k) (.slice (some a) 0 c)
theorem ma {w w':World} {b:Nat} (h:w'.heap[b]? = w.heap[b]?) (o:Nat):w'.cell? ⟨b,o,none⟩=w.cell? ⟨b,o,none⟩:=by
 simp only [World.cell?,h]
theorem aq.keep {w w':World} {I I':Nat→Prop} (hb : ∀b,I b→w'.heap[b]? = w.heap[b]?) (hI : ∀b,I b→I' b) {x:D} {v:Value} (h:aq w I x v):aq w' I' x v:=by
 induction h with
 | lit v=>exact .lit v
 | agg cs vs hl ho _ ih=>exact .agg cs vs hl ho ih
 | sd k full es b o cap val hi hk hc ho _ hcap hfull ih=>
  exact .sd k full es b o cap val (hI b hi) hk (fun i e j c he hj=>(ma (hb b hi) _).trans (hc i e j c he hj)) ho ih hcap hfull
 | sd0 k full a=>exact .sd0 k full a
 | pd k es i j b o val hi hk hc ho _ ih=>exact .pd k es i j b o val (hI b hi) hk (fun i e j c he hj=>(ma (hb b hi) _).trans (hc i e j c he hj)) ho ih
 | fn f caps vs hl _ ih=>exact .fn f caps vs hl ih
 | ifc t x v _ ih=>exact .ifc t x v ih
 | bf f fs vs hl _ ih=>exact .bf f fs vs hl ih
 | ne k a c=>exact .ne k a c
inductive V where
 | d (x:D)
 | so (id k lo n:Nat)
 | po (id o:Nat)
 | pe (id k i j:Nat)
 | mo (id:Nat)
 | it (id:Nat)
 | yl (id:Nat)
 | unk
 | agg (cs:List V)
 | tup (vs:List V)
 | fn (f:Nat) (caps:List V)
abbrev b7:=Nat→Option (Option (Nat × Nat))
def bY (w:World) (I:Nat→Prop) (β:b7):V→Value→Prop
 | .d x,v=>aq w I x v
 | .so id k lo n,v=>(β id=some none∧lo=0∧n=0 ∧ ∃a,v = .slice a 0 0) ∨ ∃b cap c,β id=some (some (b,cap))∧lo+c≤cap∧n≤c∧v = .slice (some ⟨b,lo*k,none⟩) n c
 | .po id o,v=> ∃b cap,β id=some (some (b,cap))∧v = .pointer (some ⟨b,o,none⟩)
 | .pe id k i j,v=> ∃b cap,β id=some (some (b,cap))∧v = .pointer (some ⟨b,i*k+j,none⟩)
 | .mo id,v=> ∃b cap,β id=some (some (b,cap))∧v = .map (some b)
 | .it id,v=> ∃b cap,β id=some (some (b,cap))∧v = .pointer (some ⟨b,0,none⟩)
 | .yl id,v=> ∃b cap,β id=some (some (b,cap))∧v = .func (.yield b) #[] #[]
 | .unk,_=>True
 | _,_=>False
def bR (w:World) (I:Nat→Prop) (β:b7) (cs:List V) (vs:List Value):Prop:=cs.length=vs.length ∧ ∀(i:Nat) c v,cs[i]? = some c→vs[i]? = some v→bY w I β c v
def aJ (w:World) (I:Nat→Prop) (β:b7):V→Value→Prop
 | .agg cs,v=> ∃vs:List Value,v = .agg vs.toArray∧(∀x∈vs,x.oneCell'=true)∧bR w I β cs vs
 | .tup cs,v=> ∃vs:List Value,v = .tuple vs.toArray∧bR w I β cs vs
 | .fn f cs,v=> ∃vs:List Value,v = .func (.func f) #[] vs.toArray∧bR w I β cs vs
 | .d x,v=>bY w I β (.d x) v
 | .so id k lo n,v=>bY w I β (.so id k lo n) v
 | .po id o,v=>bY w I β (.po id o) v
 | .pe id k i j,v=>bY w I β (.pe id k i j) v
 | .mo id,v=>bY w I β (.mo id) v
 | .it id,v=>bY w I β (.it id) v
 | .yl id,v=>bY w I β (.yl id) v
 | .unk,_=>True
section
variable {w w':World} {I I':Nat→Prop} {β β':b7}
theorem bY.keep (hb : ∀b,I b→w'.heap[b]? = w.heap[b]?) (hI : ∀b,I b→I' b) (hβ : ∀id x,β id=some x→β' id=some x) {x:V} {v:Value} (h:bY w I β x v):bY w' I' β' x v:=by
 cases x with
 | d x=>exact aq.keep hb hI h
 | so id k lo n=>
  rcases h with ⟨h1,h2⟩|⟨b,cap,c,h1,h2⟩
  ·exact .inl ⟨hβ _ _ h1,h2⟩
  ·exact .inr ⟨b,cap,c,hβ _ _ h1,h2⟩
 | po id o=>obtain ⟨b,cap,h1,h2⟩:=h;exact ⟨b,cap,hβ _ _ h1,h2⟩
 | pe id k i j=>obtain ⟨b,cap,h1,h2⟩:=h;exact ⟨b,cap,hβ _ _ h1,h2⟩
 | mo id=>obtain ⟨b,cap,h1,h2⟩:=h;exact ⟨b,cap,hβ _ _ h1,h2⟩
 | it id=>obtain ⟨b,cap,h1,h2⟩:=h;exact ⟨b,cap,hβ _ _ h1,h2⟩
 | yl id=>obtain ⟨b,cap,h1,h2⟩:=h;exact ⟨b,cap,hβ _ _ h1,h2⟩
 | unk=>trivial
 | agg=>exact h
 | tup=>exact h
 | fn=>exact h
theorem bR.keep (hb : ∀b,I b→w'.heap[b]? = w.heap[b]?) (hI : ∀b,I b→I' b) (hβ : ∀id x,β id=some x→β' id=some x) {cs:List V} {vs:List Value} (h:bR w I β cs vs):bR w' I' β' cs vs:=
 ⟨h.1,fun i c v h1 h2=>bY.keep hb hI hβ (h.2 i c v h1 h2)⟩
theorem aJ.keep (hb : ∀b,I b→w'.heap[b]? = w.heap[b]?) (hI : ∀b,I b→I' b) (hβ : ∀id x,β id=some x→β' id=some x) {x:V} {v:Value} (h:aJ w I β x v):aJ w' I' β' x v:=by
 cases x with
 | agg cs=>obtain ⟨vs,e,ho,h⟩:=h;exact ⟨vs,e,ho,h.keep hb hI hβ⟩
 | tup cs=>obtain ⟨vs,e,h⟩:=h;exact ⟨vs,e,h.keep hb hI hβ⟩
 | fn f cs=>obtain ⟨vs,e,h⟩:=h;exact ⟨vs,e,h.keep hb hI hβ⟩
 | unk=>trivial
 | d x=>exact bY.keep (x:= .d x) hb hI hβ h
 | so id k lo n=>exact bY.keep (x:= .so id k lo n) hb hI hβ h
 | po id o=>exact bY.keep (x:= .po id o) hb hI hβ h
 | pe id k i j=>exact bY.keep (x:= .pe id k i j) hb hI hβ h
 | mo id=>exact bY.keep (x:= .mo id) hb hI hβ h
 | it id=>exact bY.keep (x:= .it id) hb hI hβ h
 | yl id=>exact bY.keep (x:= .yl id) hb hI hβ h
end
abbrev aN:=List (Nat × V)
def aN.get:aN→Nat→V
 | [],_=> .unk
 | (k,v)::r,t=>if k=t then v else aN.get r t
structure Yd where
 n:Nat
 ps:Array Nat
 asg:Code
 body:Code
structure NN (y:Yd) (j:Option Code) (r:Loop):Prop where
 state:r.state=if j.isNone then .ready else .done
 pending:r.pending=j
 n:r.tmps.size=y.n
 ps:r.params=y.ps
 asg:r.assign=y.asg
 body:r.body=y.body
inductive bF where
 | cell (cs:List V) (ty:Option Nat:=none)
 | row (k:Nat) (es:List D) (ty:Option Nat:=none)
 | map (es:List (Value × D))
 | iter (s:ByteArray) (pos:Nat)
 | rc (y:Yd) (j:Option Code) (e:aN)
abbrev ak:=List (Nat × bF)
def ak.get:ak→Nat→Option bF
 | [],_=>none
 | (i,b)::r,id=>if i=id then some b else ak.get r id
def ak.set:ak→Nat→bF→ak
 | [],_,_=>[]
 | (i,b)::r,id,c=>if i=id then (i,c)::r else (i,b)::ak.set r id c
def ak.del:ak→Nat→ak
 | [],_=>[]
 | (i,b)::r,id=>if i=id then ak.del r id else (i,b)::ak.del r id
theorem ak.get_set {σ:ak} {id:Nat} {c:bF} (h:(σ.get id).isSome=true) (j:Nat):(σ.set id c).get j=if j=id then some c else σ.get j:=by
 induction σ with
 | nil=>simp [ak.get] at h
 | cons x r ih=>
  obtain ⟨i,b⟩:=x;by_cases hi:i=id
  ·subst hi;simp only [ak.set,if_true,ak.get];by_cases hj:i=j
   ·simp [hj]
   ·simp [hj,Ne.symm hj]
  ·simp only [ak.set,hi,if_false,ak.get] at h ⊢;rw [ih h];by_cases hj:i=j
   ·subst hj;simp [hi]
   ·simp [hj]
theorem ak.get_del (σ:ak) (id j:Nat):(σ.del id).get j=if j=id then none else σ.get j:=by
 induction σ with
 | nil=>simp [ak.del,ak.get]
 | cons x r ih=>
  obtain ⟨i,b⟩:=x;by_cases hi:i=id
  ·subst hi;simp only [ak.del,if_true,ak.get];rw [ih];by_cases hj:i=j
   ·simp [hj]
   ·simp [hj,Ne.symm hj]
  ·simp only [ak.del,hi,if_false,ak.get];rw [ih];by_cases hj:i=j
   ·subst hj;simp [hi]
   ·simp [hj]
def ji (w:World) (I:Nat→Prop) (β:b7) (id:Nat):bF→Prop
 | .cell cs ty=> ∃b cap cur t,β id=some (some (b,cap))∧w.heap[b]? = some (.cells cur (ty.getD t) (0,0)) ∧ ¬I b ∧ ∀(i:Nat) c,cs[i]? = some c → ∃v,cur[i]? = some v∧v.oneCell'=true∧aJ w I β c v
 | .row k es ty=>(β id=some none∧es=[]) ∨ ∃b cap cur t,β id=some (some (b,cap))∧w.heap[b]? = some (.cells cur (ty.getD t) (0,0)) ∧ ¬I b∧es.length≤cap∧cap*k≤cur.size ∧
  ∀(i:Nat) e,es[i]? = some e→e.cells.length=k ∧ ∀(j:Nat) c,e.cells[j]? = some c → ∃v,cur[i*k+j]? = some v∧v.oneCell'=true∧aq w I c v
 | .map es=> ∃b cap ents clock,β id=some (some (b,cap))∧w.heap[b]? = some (.map ents clock) ∧ ¬I b∧ents.size=es.length ∧ ∀(i:Nat) k x,es[i]? = some (k,x) → ∃m,ents[i]? = some m∧m.key=k∧aq w I x m.val
 | .iter s pos=> ∃b cap,β id=some (some (b,cap))∧w.heap[b]? = some (.stringIter s pos) ∧ ¬I b
 | .rc y j e=> ∃b cap r,β id=some (some (b,cap))∧w.heap[b]? = some (.loop r) ∧ ¬I b∧NN y j r ∧ ∀t,aJ w I β (e.get t) (r.tmps.getD t undef)
def bD (σ:ak) (β:b7) (b:Nat):Prop:= ∃id blk c,σ.get id=some blk∧β id=some (some (b,c))
structure cQ (w:World) (I:Nat→Prop) (β:b7) (σ:ak) (nx:Nat):Prop where
 own : ∀id blk,σ.get id=some blk→ji w I β id blk
 inj : ∀id id' blk blk' b c c',σ.get id=some blk→σ.get id'=some blk'→β id=some (some (b,c))→β id'=some (some (b,c'))→id=id'
 free : ∀id,nx≤id→β id=none
 lt : ∀b,I b→b<w.heap.size
theorem ji.not_imm {w:World} {I:Nat→Prop} {β:b7} {id:Nat} {blk:bF} (h:ji w I β id blk) {b c:Nat} (hb:β id=some (some (b,c))) : ¬I b∧b<w.heap.size:=by
 have key : ∀o,w.heap[b]? = some o→b<w.heap.size:=fun o h=>by
  rcases Nat.lt_or_ge b w.heap.size with hlt|hge
  ·exact hlt
  ·rw [Array.getElem?_eq_none hge] at h;cases h
 cases blk with
 | cell cs ty=>obtain ⟨b',cap,cur,t,h1,h2,h3,_⟩:=h;rw [hb] at h1;injection h1 with h1;injection h1 with h1;injection h1 with h1 _;subst h1;exact ⟨h3,key _ h2⟩
 | row k es ty=>
  rcases h with ⟨h1,_⟩|⟨b',cap,cur,t,h1,h2,h3,_⟩
  ·rw [hb] at h1;cases h1
  ·rw [hb] at h1;injection h1 with h1;injection h1 with h1;injection h1 with h1 _;subst h1;exact ⟨h3,key _ h2⟩
 | map es=>obtain ⟨b',cap,ents,clock,h1,h2,h3,_⟩:=h;rw [hb] at h1;injection h1 with h1;injection h1 with h1;injection h1 with h1 _;subst h1;exact ⟨h3,key _ h2⟩
 | iter s pos=>obtain ⟨b',cap,h1,h2,h3⟩:=h;rw [hb] at h1;injection h1 with h1;injection h1 with h1;injection h1 with h1 _;subst h1;exact ⟨h3,key _ h2⟩
 | rc y j e=>obtain ⟨b',cap,r,h1,h2,h3,_⟩:=h;rw [hb] at h1;injection h1 with h1;injection h1 with h1;injection h1 with h1 _;subst h1;exact ⟨h3,key _ h2⟩
theorem cQ.not_owned {w:World} {I:Nat→Prop} {β:b7} {σ:ak} {nx:Nat} (h:cQ w I β σ nx) {b:Nat} (hb:I b) : ¬bD σ β b:=by
 rintro ⟨id,blk,c,h1,h2⟩;exact ((h.own id blk h1).not_imm h2).1 hb
theorem cQ.owned_lt {w:World} {I:Nat→Prop} {β:b7} {σ:ak} {nx:Nat} (h:cQ w I β σ nx) {b:Nat} (hb:bD σ β b):b<w.heap.size:=by
 obtain ⟨id,blk,c,h1,h2⟩:=hb;exact ((h.own id blk h1).not_imm h2).2
structure ar (w:World) (I:Nat→Prop) (β:b7) (σ:ak) (nx:Nat) (w':World) (I':Nat→Prop) (β':b7) (σ':ak) (nx':Nat):Prop where
 mem:cQ w' I' β' σ' nx'
 os:w'.os=w.os
 tape:w'.tape=w.tape
 output:w'.output=w.output
 size:w.heap.size≤w'.heap.size
 block : ∀b,b<w.heap.size → ¬bD σ β b→w'.heap[b]? = w.heap[b]?
 imm : ∀b,I b→I' b
 immn : ∀b,I' b→I b∨bD σ β b∨w.heap.size≤b
 bet : ∀id x,β id=some x→β' id=some x
 nx:nx≤nx'
 own' : ∀b,bD σ' β' b→bD σ β b∨w.heap.size≤b
section
variable {w w' w'':World} {I I' I'':Nat→Prop} {β β' β'':b7} {σ σ' σ'':ak} {nx nx' nx'':Nat}
theorem ar.refl (h:cQ w I β σ nx):ar w I β σ nx w I β σ nx:=
 ⟨h,rfl,rfl,rfl,Nat.le_refl _,fun _ _ _=>rfl,fun _ h=>h,fun _ h=> .inl h,fun _ _ h=>h,Nat.le_refl _,fun _ h=> .inl h⟩
theorem ar.trans (h:ar w I β σ nx w' I' β' σ' nx') (k:ar w' I' β' σ' nx' w'' I'' β'' σ'' nx''):ar w I β σ nx w'' I'' β'' σ'' nx'' where
 mem:=k.mem
 os:=k.os.trans h.os
 tape:=k.tape.trans h.tape
 output:=k.output.trans h.output
 size:=Nat.le_trans h.size k.size
 block:=fun b hb ho=>(k.block b (Nat.lt_of_lt_of_le hb h.size) (fun ho'=>by rcases h.own' b ho' with h1|h1;exact ho h1;omega)).trans (h.block b hb ho)
 imm:=fun b hb=>k.imm b (h.imm b hb)
 immn:=fun b hb=>by
  rcases k.immn b hb with h1|h1|h1
  ·exact h.immn b h1
  ·rcases h.own' b h1 with h2|h2
   ·exact .inr (.inl h2)
   ·exact .inr (.inr h2)
  ·exact .inr (.inr (Nat.le_trans h.size h1))
 bet:=fun id x hx=>k.bet id x (h.bet id x hx)
 nx:=Nat.le_trans h.nx k.nx
 own':=fun b hb=>by
  rcases k.own' b hb with h1|h1
  ·exact h.own' b h1
  ·exact .inr (Nat.le_trans h.size h1)
theorem ar.imm_heap (hm:cQ w I β σ nx) (h:ar w I β σ nx w' I' β' σ' nx') : ∀b,I b→w'.heap[b]? = w.heap[b]? :=fun b hb=>h.block b (hm.lt b hb) (hm.not_owned hb)
theorem ar.denD (hm:cQ w I β σ nx) (h:ar w I β σ nx w' I' β' σ' nx') {x:D} {v:Value} (hd:aq w I x v):aq w' I' x v:=hd.keep (h.imm_heap hm) h.imm
theorem ar.denA (hm:cQ w I β σ nx) (h:ar w I β σ nx w' I' β' σ' nx') {x:V} {v:Value} (hd:bY w I β x v):bY w' I' β' x v:=hd.keep (h.imm_heap hm) h.imm h.bet
theorem ar.den (hm:cQ w I β σ nx) (h:ar w I β σ nx w' I' β' σ' nx') {x:V} {v:Value} (hd:aJ w I β x v):aJ w' I' β' x v:=hd.keep (h.imm_heap hm) h.imm h.bet
theorem ji.drew {id:Nat} {blk:bF} (h:ji w I β id blk):ji w.drew I β id blk:=by
 cases blk with
 | cell cs ty=>
  obtain ⟨b,cap,cur,t,h1,h2,h3,h4⟩:=h;refine ⟨b,cap,cur,t,h1,h2,h3,fun i c hi =>?_⟩;obtain ⟨v,hv,ho,hd⟩:=h4 i c hi;exact ⟨v,hv,ho,hd.keep (w:=w) (w':=w.drew) (fun _ _=>rfl) (fun _ h=>h) (fun _ _ h=>h)⟩
 | row k es ty=>
  rcases h with h|⟨b,cap,cur,t,h1,h2,h3,h4,h5,h6⟩
  ·exact .inl h
  ·refine .inr ⟨b,cap,cur,t,h1,h2,h3,h4,h5,fun i e hi=>⟨(h6 i e hi).1,fun j c hj =>?_⟩⟩;obtain ⟨v,hv,ho,hd⟩:=(h6 i e hi).2 j c hj;exact ⟨v,hv,ho,hd.keep (w:=w) (w':=w.drew) (fun _ _=>rfl) (fun _ h=>h)⟩
 | map es=>
  obtain ⟨b,cap,ents,clock,h1,h2,h3,h4,h5⟩:=h;refine ⟨b,cap,ents,clock,h1,h2,h3,h4,fun i k x hi =>?_⟩;obtain ⟨m,hm,he,hd⟩:=h5 i k x hi;exact ⟨m,hm,he,hd.keep (w:=w) (w':=w.drew) (fun _ _=>rfl) (fun _ h=>h)⟩
 | iter s pos=>exact h
 | rc y j e=>
  obtain ⟨b,cap,r,h1,h2,h3,h4,h5⟩:=h;exact ⟨b,cap,r,h1,h2,h3,h4,fun t=>(h5 t).keep (w:=w) (w':=w.drew) (fun _ _=>rfl) (fun _ h=>h) (fun _ _ h=>h)⟩
theorem cQ.drew (h:cQ w I β σ nx):cQ w.drew I β σ nx:=⟨fun id blk hi=>(h.own id blk hi).drew,h.inj,h.free,h.lt⟩
theorem ar.drew (h:cQ w I β σ nx):ar w I β σ nx w.drew I β σ nx:=
 ⟨h.drew,rfl,rfl,rfl,Nat.le_refl _,fun _ _ _=>rfl,fun _ h=>h,fun _ h=> .inl h,fun _ _ h=>h,Nat.le_refl _,fun _ h=> .inl h⟩
end
def OG:TypeDesc→Bool
 | .struct _=>true
 | .array _ _=>true
 | _=>false
def cF (P:Program) (t:TypeId):Option (Nat × Bool):=
 match P.info? t,P.underlying t with
 | some i,some d=>some (i.size,OG d)
 | _,_=>none
def sG (P:Program) (t:TypeId):Option (Nat × Bool):=
 match P.underlying t with
 | some (.slice e)=>cF P e
 | _=>none
def Lb (P:Program) (t:TypeId):Option (Nat × Nat × Bool):=
 match P.underlying t with
 | some (.array n e)=>(cF P e).map fun x=>(n,x.1,x.2)
 | _=>none
def bp (P:Program) (t:TypeId) (f:Nat):Option (Nat × Nat × Bool):=
 match P.underlying t with
 | some (.struct fs)=>match fs[f]? with
  | some fd=>(cF P fd.type).map fun x=>(fd.offset,x.1,x.2)
  | none=>none
 | _=>none
def UO (P:Program) (t:TypeId):Option (List Value):=((P.info? t).bind (·.zero)).map (·.cells.toList)
inductive Kd where
 | bool|int (k:IntKind)|string|pointer|slice|iface|func|map|other
 deriving DecidableEq
def cY (P:Program) (t:TypeId):Option Kd:=
 match P.underlying t with
 | some .bool=>some .bool
 | some (.int k)=>some (.int k)
 | some .string=>some .string
 | some (.pointer _)=>some .pointer
 | some (.slice _)=>some .slice
 | some (.interface _)=>some .iface
 | some (.func _ _ _)=>some .func
 | some (.map _ _)=>some .map
 | some _=>some .other
 | none=>none
inductive Tag.{u} {α:Sort u} (a:α):Type
 | mk
def oX (p q:Prop) (_u:Tag q:= .mk) (_h:True:=trivial):Prop:=p∧q
def jj (b:Bool) (p q:Prop) (_u:Tag p:= .mk) (_v:Tag q:= .mk) (_h:True:=trivial):Prop:=(b=true→p)∧(b=false→q)
def cp {α:Type} (o:Option α) (K:α→Prop):Prop:=match o with|some a=>K a|none=>False
def Le (es:List D) (i:Nat) (K:D→Prop) (_u:Tag K:= .mk) (_h:True:=trivial):Prop:= ∀e,es[i]? = some e→K e
theorem Ab (q:Prop):oX True q=q:=by simp [oX]
theorem qE (p q:Prop):jj true p q=p:=by simp [jj]
theorem ny (p q:Prop):jj false p q=q:=by simp [jj]
theorem GJ {α:Type} (a:α) (K:α→Prop):cp (some a) K=K a:=rfl
theorem dc {α:Type} {o:Option α} {K:α→Prop} (h:cp o K) : ∃a,o=some a∧K a:=by
 cases o with
 | none=>exact h.elim
 | some a=>exact ⟨a,rfl,h⟩
def V.cellsV:V→List V
 | .d x=>x.cells.map .d
 | .agg cs=>cs
 | v=>[v]
def pw:List V→Option (List D)
 | []=>some []
 | .d x::r=>(pw r).map (x :: ·)
 | _::_=>none
def vw (cs:List V):V:=match pw cs with
 | some ds=> .d (.agg ds)
 | none=> .agg cs
def V.atom:V→Bool
 | .agg _ | .tup _ | .fn _ _=>false
 | _=>true
def D.asAgg (e:D):D:= .agg e.cells
def vV (ag:Bool) (off s k:Nat) (e:D):Option D:=
 if ag=true then (if off=0∧s=k then some e.asAgg else if off+s≤k then some (.agg ((e.cells.drop off).take s)) else none)
 else e.cells[off]?
def jP (ag:Bool) (off s:Nat) (cs:List V):Option V:=
 if ag=true then (if off+s≤cs.length∧cs.all V.atom=true then some (vw ((cs.drop off).take s)) else none) else cs[off]?
section
variable {w:World} {I:Nat→Prop} {β:b7}
theorem fy : ∀ {cs:List V} {ds:List D},pw cs=some ds→cs=ds.map V.d
 | [],ds,h=>by simp [pw] at h;subst h;rfl
 | c::r,ds,h=>by
  cases c with
  | d x=>
   simp only [pw,Option.map_eq_some_iff] at h;obtain ⟨l,hl,rfl⟩:=h;simp [fy hl]
  | _=>simp [pw] at h
theorem gV {cs:List V} {vs:List Value} (h:bR w I β cs vs) (ho : ∀x∈vs,x.oneCell'=true):aJ w I β (vw cs) (.agg vs.toArray):=by
 unfold vw;cases he:pw cs with
 | none=>exact ⟨vs,rfl,ho,h⟩
 | some ds=>
  have:=fy he;subst this;refine aq.agg ds vs (by simpa using h.1) ho fun i c v hi hv =>?_
  have:=h.2 i (.d c) v (by simp [hi]) hv;exact this
theorem bR.sub {cs:List V} {vs:List Value} (h:bR w I β cs vs) (off s:Nat):bR w I β ((cs.drop off).take s) ((vs.drop off).take s):=by
 refine ⟨by simp [h.1],fun i c v hi hv =>?_⟩;simp only [List.getElem?_take,List.getElem?_drop] at hi hv;split at hi
 ·rename_i hlt;rw [if_pos hlt] at hv;exact h.2 _ _ _ hi hv
 ·cases hi
end
theorem zP {P:Program} {t s:Nat} {ag:Bool} (h:cF P t=some (s,ag)) : ∃i d,P.info? t=some i∧P.underlying t=some d∧i.size=s∧OG d=ag:=by
 unfold cF at h;split at h
 ·rename_i i d h1 h2;simp at h;exact ⟨i,d,h1,h2,h.1,h.2⟩
 ·cases h
theorem od {P:Program} {t s:Nat} {ag:Bool} (h:cF P t=some (s,ag)) (w:World):(isAgg t).run P w = .ok ag w:=by
 obtain ⟨i,d,h1,h2,h3,h4⟩:=zP h;subst h4;unfold isAgg;simp only [underlying,Sem.run_bind,run_program,Result.andThen,h2];cases d<;>simp [OG]
theorem cb {P:Program} {t s:Nat} {ag:Bool} (h:cF P t=some (s,ag)) (w:World):(sizeOf t).run P w = .ok s w:=by
 obtain ⟨i,d,h1,h2,h3,h4⟩:=zP h;simp [sizeOf,typeInfo,h1,h3]
section
variable {P:Program} {w:World}
theorem dA (b o n:Nat):(⟨b,o,none⟩:Addr).add n=⟨b,o+n,none⟩:=by
 unfold Addr.add;split
 ·rename_i h;subst h;rfl
 ·rfl
theorem gi {t s:Nat} (h:cF P t=some (s,true)) (b q:Nat) (vs:List Value) (hl:vs.length=s) (hc : ∀(m:Nat) v,vs[m]? = some v→w.cell? ⟨b,q+m,none⟩=some v) :
 (Instr.loadAt t (.pointer (some ⟨b,q,none⟩))).run P w = .ok (.agg vs.toArray) w:=by
 have hl2:=run_loadCells_list (P:=P) w ⟨b,q,none⟩ vs (fun j v hj=>by rw [dA];exact hc j v hj);simp only [Instr.loadAt,Instr.sureAddr,loadVar,Sem.run_bind,Sem.run_pure,Result.andThen,od h,if_true,cb h];rw [←hl,hl2]
theorem jV {t s:Nat} (h:cF P t=some (s,false)) (b q:Nat) (v:Value) (hc:w.cell? ⟨b,q,none⟩=some v) :
 (Instr.loadAt t (.pointer (some ⟨b,q,none⟩))).run P w = .ok v w:=by
 simp only [Instr.loadAt,Instr.sureAddr,loadVar,Sem.run_bind,Sem.run_pure,Result.andThen,od h,Bool.false_eq_true,if_false,run_load,hc]
end
section
variable {P:Program} {w:World} {I:Nat→Prop} {β:b7}
def kL (w:World) (I:Nat→Prop) (b q:Nat) (cs:List D):Prop:= ∀(m:Nat) c,cs[m]? = some c → ∃v,w.cell? ⟨b,q+m,none⟩=some v∧v.oneCell'=true∧aq w I c v
theorem kL.list : ∀ {cs:List D} {b q:Nat},kL w I b q cs → ∃vs:List Value,vs.length=cs.length∧(∀(m:Nat) v,vs[m]? = some v→w.cell? ⟨b,q+m,none⟩=some v)∧(∀x∈vs,x.oneCell'=true) ∧ ∀(m:Nat) c v,cs[m]? = some c→vs[m]? = some v→aq w I c v
 | [],b,q,_=>⟨[],rfl,by simp,by simp,by simp⟩
 | c::r,b,q,h=>by
  obtain ⟨v,hv,ho,hd⟩:=h 0 c rfl;obtain ⟨vs,h1,h2,h3,h4⟩:=kL.list (cs:=r) (b:=b) (q:=q+1) (fun m c hm=>by
   obtain ⟨v,hv,ho,hd⟩:=h (m+1) c (by simpa using hm);exact ⟨v,by rw [show q+1+m=q+(m+1) from by omega];exact hv,ho,hd⟩)
  refine ⟨v::vs,by simp [h1],?_,?_,?_⟩
  ·intro m x hm;cases m with
   | zero=>simp at hm;subst hm;simpa using hv
   | succ m=>rw [show q+(m+1)=q+1+m from by omega];exact h2 m x (by simpa using hm)
  ·intro x hx;rcases List.mem_cons.1 hx with rfl|hx
   ·exact ho
   ·exact h3 x hx
  ·intro m c' x hc hx;cases m with
   | zero=>simp at hc hx;subst hc;subst hx;exact hd
   | succ m=>exact h4 m c' x (by simpa using hc) (by simpa using hx)
theorem kL.part {cs:List D} {b q:Nat} (h:kL w I b q cs) (off s:Nat):kL w I b (q+off) ((cs.drop off).take s):=by
 intro m c hm;rw [List.getElem?_take] at hm;split at hm
 ·rw [List.getElem?_drop] at hm;obtain ⟨v,h1,h2,h3⟩:=h _ c hm;exact ⟨v,by rw [Nat.add_assoc];exact h1,h2,h3⟩
 ·cases hm
theorem vr {t s k:Nat} {ag:Bool} {e:D} {b q j:Nat} {y:D} (hl:cF P t=some (s,ag)) (hk:e.cells.length=k) (hc:kL w I b q e.cells) (hp:vV ag j s k e=some y) :
 ∃x,(Instr.loadAt t (.pointer (some ⟨b,q+j,none⟩))).run P w = .ok x w∧aq w I y x:=by
 unfold vV at hp;cases ag with
 | true=>
  simp only [if_true] at hp;split at hp
  ·rename_i h;obtain ⟨rfl,rfl⟩:=h;injection hp with hp;subst hp;obtain ⟨vs,h1,h2,h3,h4⟩:=hc.list;exact ⟨_,gi hl b (q+0) vs (by omega) h2,.agg _ _ h1.symm h3 h4⟩
  ·split at hp
   ·rename_i h;injection hp with hp;subst hp;obtain ⟨vs,h1,h2,h3,h4⟩:=(hc.part j s).list;exact ⟨_,gi hl b (q+j) vs (by rw [h1];simp;omega) h2,.agg _ _ h1.symm h3 h4⟩
   ·cases hp
 | false=>
  simp only [Bool.false_eq_true,if_false] at hp;obtain ⟨v,h1,h2,h3⟩:=hc j y hp;exact ⟨v,jV hl b (q+j) v h1,h3⟩
end
def qI (b:bF) (K:List V→Prop):Prop:=match b with | .cell cs _=>K cs|_=>False
def G3 (b:bF) (K:Nat→List D→Prop):Prop:=match b with | .row k es _=>K k es|_=>False
def gZ (k:Nat) (es:List D) (i j:Nat) (x:Nat × Bool) (K:V→Prop):Prop:=oX (i<es.length) (Le es i fun e=>cp (vV x.2 j x.1 k e) fun y=>K (.d y))
def eB (P:Program) (t:Nat) (a:V) (σ:ak) (K:V→Prop):Prop:=cp (cF P t) fun x=>
 match a with
 | .d (.pd k es i j)=>gZ k es i j x K
 | .po id o=>cp (σ.get id) fun b=>qI b fun cs=>cp (jP x.2 o x.1 cs) K
 | .pe id k i j=>cp (σ.get id) fun b=>G3 b fun k' es=>oX (k=k') (gZ k es i j x K)
 | _=>False
theorem jA {k:Nat} {es:List D} {i j:Nat} {x:Nat × Bool} {K:V→Prop} (h:gZ k es i j x K) : ∃e y,es[i]? = some e∧vV x.2 j x.1 k e=some y∧K (.d y):=by
 obtain ⟨h1,h2⟩:=h;have he:es[i]? = some es[i]:=List.getElem?_eq_getElem h1;obtain ⟨y,hy,hK⟩:=dc (h2 _ he);exact ⟨_,y,he,hy,hK⟩
section
variable {w:World} {I:Nat→Prop} {β:b7} {σ:ak} {nx:Nat}
theorem aq.pd_inv {k:Nat} {es:List D} {i j:Nat} {val:Value} (h:aq w I (.pd k es i j) val) : ∃b o,val = .pointer (some ⟨b,o+i*k+j,none⟩)∧I b∧(∀(i:Nat) e,es[i]? = some e→e.cells.length=k∧kL w I b (o+i*k) e.cells):=by
 cases h with
 | pd k es i j b o val hI hk hc ho hd=>
  exact ⟨b,o,rfl,hI,fun i e he=>⟨hk i e he,fun m c hm=>⟨_,hc i e m c he hm,ho i e m c he hm,hd i e m c he hm⟩⟩⟩
theorem cQ.row_cells (hm:cQ w I β σ nx) {id k:Nat} {es:List D} {tq:Option Nat} (h:σ.get id=some (.row k es tq)) {b cap:Nat} (hb:β id=some (some (b,cap))) :
 ∃cur t,w.heap[b]? = some (.cells cur (tq.getD t) (0,0)) ∧ ¬I b∧es.length≤cap∧cap*k≤cur.size ∧ ∀(i:Nat) e,es[i]? = some e→e.cells.length=k∧kL w I b (i*k) e.cells:=by
 rcases hm.own id _ h with ⟨h1,_⟩|⟨b',cap',cur,t,h1,h2,h3,h4,h5,h6⟩
 ·rw [hb] at h1;cases h1
 ·rw [hb] at h1;injection h1 with h1;injection h1 with h1;injection h1 with h1 h1';subst h1;subst h1';refine ⟨cur,t,h2,h3,h4,h5,fun i e he=>⟨(h6 i e he).1,fun m c hc =>?_⟩⟩;obtain ⟨v,hv,ho,hd⟩:=(h6 i e he).2 m c hc;exact ⟨v,by simp [World.cell?,h2,hv],ho,hd⟩
theorem cQ.cell_cells (hm:cQ w I β σ nx) {id:Nat} {cs:List V} {tq:Option Nat} (h:σ.get id=some (.cell cs tq)) {b cap:Nat} (hb:β id=some (some (b,cap))) :
 ∃cur t,w.heap[b]? = some (.cells cur (tq.getD t) (0,0)) ∧ ¬I b ∧ ∀(i:Nat) c,cs[i]? = some c → ∃v,cur[i]? = some v∧v.oneCell'=true∧aJ w I β c v:=by
 obtain ⟨b',cap',cur,t,h1,h2,h3,h4⟩:=hm.own id _ h;rw [hb] at h1;injection h1 with h1;injection h1 with h1;injection h1 with h1 h1';subst h1;exact ⟨cur,t,h2,h3,h4⟩
theorem aJ.atomA {c:V} {v:Value} (ha:c.atom=true) (h:aJ w I β c v):bY w I β c v:=by
 cases c<;>first|exact h|(simp [V.atom] at ha)
end
theorem qM {w:World} {I:Nat→Prop} {β:b7} {cur:Array Value} : ∀ {cs:List V} (q:Nat),(∀(i:Nat) c,cs[i]? = some c → ∃v,cur[q+i]? = some v∧v.oneCell'=true∧aJ w I β c v) →
 ∃vs:List Value,vs.length=cs.length∧(∀(m:Nat) v,vs[m]? = some v→cur[q+m]? = some v)∧(∀x∈vs,x.oneCell'=true) ∧ ∀(m:Nat) c v,cs[m]? = some c→vs[m]? = some v→aJ w I β c v
 | [],q,_=>⟨[],rfl,by simp,by simp,by simp⟩
 | c::r,q,h=>by
  obtain ⟨v,hv,ho,hd⟩:=h 0 c rfl;obtain ⟨vs,h1,h2,h3,h4⟩:=qM (cs:=r) (q+1) (fun m c hm=>by
   obtain ⟨v,hv,ho,hd⟩:=h (m+1) c (by simpa using hm);exact ⟨v,by rw [show q+1+m=q+(m+1) from by omega];exact hv,ho,hd⟩)
  refine ⟨v::vs,by simp [h1],?_,?_,?_⟩
  ·intro m x hm;cases m with
   | zero=>simp at hm;subst hm;simpa using hv
   | succ m=>rw [show q+(m+1)=q+1+m from by omega];exact h2 m x (by simpa using hm)
  ·intro x hx;rcases List.mem_cons.1 hx with rfl|hx
   ·exact ho
   ·exact h3 x hx
  ·intro m c' x hc hx;cases m with
   | zero=>simp at hc hx;subst hc;subst hx;exact hd
   | succ m=>exact h4 m c' x (by simpa using hc) (by simpa using hx)
theorem oV {P:Program} {t:Nat} {a:V} {σ0:ak} {K:V→Prop} (h:eB P t a σ0 K) :
 ∃v,K v ∧ ∀w I β σ nx val,cQ w I β σ nx→(∀i b,σ0.get i=some b→σ.get i=some b)→aJ w I β a val → ∃x,(Instr.loadAt t val).run P w = .ok x w∧aJ w I β v x:=by
 unfold eB at h;obtain ⟨⟨s,ag⟩,hl,h⟩:=dc h;match a,h with
 | .d (.pd k es i j),h=>
  obtain ⟨e,y,he,hy,hK⟩:=jA h;refine ⟨_,hK,fun w I β σ nx val _ _ hd =>?_⟩;obtain ⟨b,o,rfl,hI,hcs⟩:=aq.pd_inv hd;obtain ⟨hk,hc⟩:=hcs i e he;exact vr hl hk hc hy
 | .po id o,h=>
  obtain ⟨blk,hb,h⟩:=dc h;cases blk with
  | cell cs tq=>
   obtain ⟨v,hp,hK⟩:=dc (show cp (jP ag o s cs) K from h);refine ⟨_,hK,fun w I β σ nx val hm hs hd =>?_⟩;obtain ⟨b,cap,hβ,rfl⟩:=hd;obtain ⟨cur,ty,hh,_,hcs⟩:=hm.cell_cells (hs _ _ hb) hβ;unfold jP at hp;cases ag with
   | false=>
    simp only [Bool.false_eq_true,if_false] at hp;obtain ⟨x,hx,_,hxd⟩:=hcs o v hp;exact ⟨x,jV hl b o x (by simp [World.cell?,hh,hx]),hxd⟩
   | true=>
    simp only [if_true] at hp;split at hp
    ·rename_i hcond;injection hp with hp;subst hp;obtain ⟨vs,h1,h2,h3,h4⟩:=qM (w:=w) (I:=I) (β:=β) (cur:=cur) (cs:=(cs.drop o).take s) o (fun i c hi=>by
      rw [List.getElem?_take] at hi;split at hi
      ·rw [List.getElem?_drop] at hi;exact hcs _ c hi
      ·cases hi)
     refine ⟨_,gi hl b o vs (by rw [h1];simp;omega) (fun m x hm=>by simp [World.cell?,hh,h2 m x hm]),?_⟩;refine gV ⟨h1.symm,fun i c x hc hx =>?_⟩ h3;refine aJ.atomA ?_ (h4 i c x hc hx);have hall:=List.all_eq_true.1 hcond.2;exact hall c (List.mem_of_mem_drop (List.mem_of_mem_take (List.mem_of_getElem? hc)))
    ·cases hp
  | row=>exact h.elim
  | map=>exact h.elim
  | iter=>exact h.elim
  | rc=>exact h.elim
 | .pe id k i j,h=>
  obtain ⟨blk,hb,h⟩:=dc h;cases blk with
  | row k' es tq=>
   obtain ⟨hkk,h'⟩:=(show oX (k=k') (gZ k es i j (s,ag) K) from h)
   subst hkk;obtain ⟨e,y,he,hy,hK⟩:=jA h';refine ⟨_,hK,fun w I β σ nx val hm hs hd =>?_⟩;obtain ⟨b,cap,hβ,rfl⟩:=hd;obtain ⟨cur,ty,hh,_,_,_,hcs⟩:=hm.row_cells (hs _ _ hb) hβ;obtain ⟨hk,hc⟩:=hcs i e he;exact vr hl hk hc hy
  | cell=>exact h.elim
  | map=>exact h.elim
  | iter=>exact h.elim
  | rc=>exact h.elim
abbrev PV:=Option (Prop × V)
inductive CK where
 | int (k:IntKind)|bool|str
def CK.fits:CK→Value→Prop
 | .int k,v=> ∃n,v = .int k n
 | .bool,v=> ∃b,v = .bool b
 | .str,v=> ∃s,v = .string s
def q8:Value→Value→Bool
 | .int _ a,.int _ b=>a==b
 | .bool a,.bool b=>a==b
 | .string a,.string b=>a==b
 | _,_=>false
def bB:List Value→List Value→Bool
 | [],[]=>true
 | x::xs,y::ys=>q8 x y&&bB xs ys
 | _,_=>false
def b9:List CK→List Value→Prop
 | [],[]=>True
 | c::cs,v::vs=>c.fits v∧b9 cs vs
 | _,_=>False
def lV (P:Program) (t:Nat) (ks:List CK):Prop:=P.eqGuardType P.depth t=false ∧ ∀(xs ys:List Value) (w:World),b9 ks xs→b9 ks ys→(Op.equal t (.agg xs.toArray) (.agg ys.toArray)).run P w = .ok (bB xs ys) w
def LG:Value→Option CK
 | .int k _=>some (.int k)
 | .bool _=>some .bool
 | .string _=>some .str
 | _=>none
def Rb:D→Option CK
 | .lit v=>LG v
 | _=>none
def zQ:D→Option Value
 | .lit v=>some v
 | _=>none
def gQ:List D→Option (List CK)
 | []=>some []
 | x::r=>match Rb x,gQ r with
  | some c,some cs=>some (c::cs)
  | _,_=>none
def cR:List D→Option (List Value)
 | []=>some []
 | x::r=>match zQ x,cR r with
  | some c,some cs=>some (c::cs)
  | _,_=>none
def cz:List CK→List CK→Bool
 | [],[]=>true
 | .int k::r,.int k'::r'=>(k==k')&&cz r r'
 | .bool::r,.bool::r'=>cz r r'
 | .str::r,.str::r'=>cz r r'
 | _,_=>false
theorem io : ∀ {a b:List CK},cz a b=true→a=b
 | [],[],_=>rfl
 | .int k::r,.int k'::r',h=>by simp [cz] at h;rw [h.1,io h.2]
 | .bool::r,.bool::r',h=>by simp [cz] at h;rw [io h]
 | .str::r,.str::r',h=>by simp [cz] at h;rw [io h]
 | [],_::_,h=>by simp [cz] at h
 | .int _::_,[],h=>by simp [cz] at h
 | .int _::_,.bool::_,h=>by simp [cz] at h
 | .int _::_,.str::_,h=>by simp [cz] at h
 | .bool::_,[],h=>by simp [cz] at h
 | .bool::_,.int _::_,h=>by simp [cz] at h
 | .bool::_,.str::_,h=>by simp [cz] at h
 | .str::_,[],h=>by simp [cz] at h
 | .str::_,.int _::_,h=>by simp [cz] at h
 | .str::_,.bool::_,h=>by simp [cz] at h
def wS (k:IntKind) (a b:Int):Int:=k.wrap ((BitVec.ofInt k.bits a &&& BitVec.ofInt k.bits b).toNat)
def K5 (k:IntKind) (a b:Int):Int:=k.wrap ((BitVec.ofInt k.bits a ^^^ BitVec.ofInt k.bits b).toNat)
def rB (op:BinOp) (k:IntKind) (a b:Int):PV:=
 match op with
 | .and=>some (True,.d (.lit (.int k (wS k a b))))
 | .xor=>some (True,.d (.lit (.int k (K5 k a b))))
 | .add=>some (True,.d (.lit (.int k (k.wrap (a+b)))))
 | .sub=>some (True,.d (.lit (.int k (k.wrap (a - b)))))
 | .mul=>some (True,.d (.lit (.int k (k.wrap (a*b)))))
 | .quo=>some (b≠0,.d (.lit (.int k (k.wrap (a.tdiv b)))))
 | .rem=>some (b≠0,.d (.lit (.int k (a.tmod b))))
 | .eql=>some (True,.d (.lit (.bool (a==b))))
 | .neq=>some (True,.d (.lit (.bool (a != b))))
 | .lss=>some (True,.d (.lit (.bool (decide (a<b)))))
 | .leq=>some (True,.d (.lit (.bool (decide (a≤b)))))
 | .gtr=>some (True,.d (.lit (.bool (decide (b<a)))))
 | .geq=>some (True,.d (.lit (.bool (decide (b≤a)))))
 | _=>none
def j2 (op:BinOp) (k:IntKind) (a b:Int):PV:=
 match op with
 | .shl=>some (0≤b,.d (.lit (.int k (k.wrap (a*2 ^ (min b.toNat k.bits))))))
 | .shr=>some (0≤b,.d (.lit (.int k (a.fdiv (2 ^ (min b.toNat k.bits))))))
 | _=>none
def Eg:BinOp→Bool
 | .shl=>true
 | .shr=>true
 | _=>false
def oC (op:BinOp) (a b:ByteArray):PV:=
 match op with
 | .add=>some (((a.size+b.size:Nat):Int)≤9223372036854775807,.d (.lit (.string (a++b))))
 | .eql=>some (True,.d (.lit (.bool (a.toList==b.toList))))
 | .neq=>some (True,.d (.lit (.bool (!(a.toList==b.toList)))))
 | _=>none
def eA:Operand→Bool
 | .const _=>true
 | _=>false
def Es (kd:Kd) (cst:Bool) (x y:V):Option Bool:=
 match kd,x,y with
 | .pointer,.d (.lit (.pointer none)),.d (.lit (.pointer none))=>some true
 | .pointer,.d (.lit (.pointer none)),.d (.pd _ _ _ _)=>some false
 | .pointer,.d (.lit (.pointer none)),.po _ _=>some false
 | .pointer,.d (.lit (.pointer none)),.pe _ _ _ _=>some false
 | .pointer,.d (.pd _ _ _ _),.d (.lit (.pointer none))=>some false
 | .pointer,.po _ _,.d (.lit (.pointer none))=>some false
 | .pointer,.pe _ _ _ _,.d (.lit (.pointer none))=>some false
 | .iface,.d (.lit .nilIface),.d (.lit .nilIface)=>if cst=true then some true else none
 | .iface,.d (.lit .nilIface),.d (.ifc _ _)=>some false
 | .iface,.d (.ifc _ _),.d (.lit .nilIface)=>some false
 | .func,.d (.lit .nilFunc),.d (.lit .nilFunc)=>some true
 | .func,.d (.lit .nilFunc),.d (.fn _ _)=>some false
 | .func,.d (.fn _ _),.d (.lit .nilFunc)=>some false
 | .func,.fn _ _,.d (.lit .nilFunc)=>some false
 | .slice,.d (.lit (.slice none _ _)),.d (.lit (.slice none _ _))=>some true
 | .slice,.d (.sd _ _ (_::_)),.d (.lit (.slice none _ _))=>some false
 | .slice,.so _ _ _ (_+1),.d (.lit (.slice none _ _))=>some false
 | .slice,.d (.ne _),.d (.lit (.slice none _ _))=>some false
 | _,_,_=>none
def Vf (P:Program) (t:Nat):Bool:=match P.underlying t with
 | some (.pointer u)=>(P.info? u).isSome
 | _=>false
def O3 (P:Program) (t:Nat) (cst:Bool) (x y:V):Option (Prop × Bool):=
 match x,y with
 | .d (.agg xs),.d (.agg ys)=>match gQ xs,gQ ys,cR xs,cR ys with
  | some ks,some ks',some vs,some us=>if cz ks ks'=true then some (lV P t ks,bB vs us) else none
  | _,_,_,_=>none
 | .d (.lit (.bool a)),.d (.lit (.bool b))=>if cY P t=some .bool then some (True,a==b) else none
 | .po i o,.po i' o'=>if (i=i'∧o=o')∧Vf P t=true then some (True,true) else none
 | x,y=>match cY P t with
  | some kd=>(Es kd cst x y).map fun b=>(True,b)
  | none=>none
def tT (P:Program) (op:BinOp) (t:Nat) (cst:Bool) (x y:V):PV:=
 match x,y with
 | .d (.lit (.int k a)),.d (.lit (.int k' b))=>if Eg op=true then j2 op k a b else if k=k' then rB op k a b else none
 | .d (.lit (.string a)),.d (.lit (.string b))=>oC op a b
 | x,y=>match op with
  | .eql=>(O3 P t cst x y).map fun r=>(r.1,.d (.lit (.bool r.2)))
  | .neq=>(O3 P t cst x y).map fun r=>(r.1,.d (.lit (.bool (!r.2))))
  | _=>none
section
variable {P:Program} {w:World} {I:Nat→Prop} {β:b7}
theorem aA {v:Value} {x:Value} (h:aJ w I β (.d (.lit v)) x):x=v:=by
 have h':aq w I (.lit v) x:=h;cases h';rfl
theorem Ct {op:BinOp} {k:IntKind} {a b:Int} {p:Prop} {v:V} {t:Nat} (h:rB op k a b=some (p,v)) (hp:p) :
 ∃x,(binOp op t (.int k a) (.int k b)).run P w = .ok x w∧aJ w I β v x:=by
 cases op<;>simp only [rB,Option.some.injEq,Prod.mk.injEq,reduceCtorEq] at h <;>
  (obtain ⟨rfl,rfl⟩:=h;refine ⟨_,?_,aq.lit _⟩;simp [binOp,Op.intArith,Op.intCmp,Op.intDiv,Op.intBits,wS,K5]<;>simp_all)
theorem xV {op:BinOp} {k k':IntKind} {a b:Int} {p:Prop} {v:V} {t:Nat} (h:j2 op k a b=some (p,v)) (hp:p) :
 ∃x,(binOp op t (.int k a) (.int k' b)).run P w = .ok x w∧aJ w I β v x:=by
 cases op<;>simp only [j2,Option.some.injEq,Prod.mk.injEq,reduceCtorEq] at h <;>
  (obtain ⟨rfl,rfl⟩:=h;refine ⟨_,?_,aq.lit _⟩;simp only [binOp,Op.shift];rw [if_neg (by omega)];rfl)
theorem Dp {op:BinOp} {a b:ByteArray} {p:Prop} {v:V} {t:Nat} (h:oC op a b=some (p,v)) (hp:p) :
 ∃x,(binOp op t (.string a) (.string b)).run P w = .ok x w∧aJ w I β v x:=by
 cases op<;>simp only [oC,Option.some.injEq,Prod.mk.injEq,reduceCtorEq] at h
 case add=>
  obtain ⟨rfl,rfl⟩:=h;refine ⟨_,?_,aq.lit _⟩;have : ¬((a.size+b.size:Nat):Int) > IntKind.i64.max:=by
   have:IntKind.i64.max=9223372036854775807:=by decide
   omega
  simp only [binOp,Op.stringOp];rw [if_neg this];rfl
 case eql=>obtain ⟨rfl,rfl⟩:=h;exact ⟨_,by simp [binOp,Op.stringOp],aq.lit _⟩
 case neq=>obtain ⟨rfl,rfl⟩:=h;exact ⟨_,by simp [binOp,Op.stringOp],aq.lit _⟩
theorem jH : ∀ {xs:List D} {us vs:List Value},cR xs=some us→xs.length=vs.length→(∀(i:Nat) c v,xs[i]? = some c→vs[i]? = some v→aq w I c v)→vs=us
 | [],us,vs,h,hl,_=>by simp [cR] at h;subst h;exact List.eq_nil_of_length_eq_zero (by simpa using hl.symm)
 | x::r,us,[],h,hl,_=>by simp at hl
 | x::r,us,v::vs,h,hl,hd=>by
  cases x with
  | lit u=>
   cases hr:cR r with
   | none=>simp [cR,zQ,hr] at h
   | some us'=>
    simp [cR,zQ,hr] at h;subst h;have h0:=hd 0 _ v rfl rfl;cases h0;rw [jH (us:=us') (vs:=vs) hr (by simpa using hl) (fun i c v hc hv=>hd (i+1) c v (by simpa using hc) (by simpa using hv))]
  | _=>simp [cR,zQ] at h
theorem mc : ∀ {xs:List D} {us:List Value} {ks:List CK},cR xs=some us→gQ xs=some ks→b9 ks us
 | [],us,ks,h,hk=>by simp [cR] at h;simp [gQ] at hk;subst h;subst hk;trivial
 | x::r,us,ks,h,hk=>by
  cases x with
  | lit u=>
   cases hr:cR r with
   | none=>simp [cR,zQ,hr] at h
   | some us'=>
    simp [cR,zQ,hr] at h;subst h;cases hc:LG u with
    | none=>simp [gQ,Rb,hc] at hk
    | some c=>
     cases hcr:gQ r with
     | none=>simp [gQ,Rb,hc,hcr] at hk
     | some cs=>
      simp [gQ,Rb,hc,hcr] at hk;subst hk;refine ⟨?_,mc hr hcr⟩;cases u<;>simp [LG] at hc<;>subst hc<;>exact ⟨_,rfl⟩
  | _=>simp [cR,zQ] at h
theorem rF {t:Nat} {kd:Kd} (h:cY P t=some kd) : ∃d,P.underlying t=some d:=by
 unfold cY at h;cases hd:P.underlying t with
 | none=>simp [hd] at h
 | some d=>exact ⟨d,rfl⟩
theorem dM {t:Nat} (h:cY P t=some .pointer) : ∃e,P.underlying t=some (.pointer e):=by
 unfold cY at h;split at h<;>simp at h;rename_i e hd;exact ⟨e,hd⟩
theorem Mo {t:Nat} (h:cY P t=some .bool):P.underlying t=some .bool:=by
 unfold cY at h;split at h<;>simp at h;rename_i hd;exact hd
theorem rG {t:Nat} (h:cY P t=some .iface) : ∃e,P.underlying t=some (.interface e):=by
 unfold cY at h;split at h<;>simp at h;rename_i e hd;exact ⟨e,hd⟩
theorem qb {t:Nat} (h:cY P t=some .func) : ∃a b c,P.underlying t=some (.func a b c):=by
 unfold cY at h;split at h<;>simp at h;rename_i a b c hd;exact ⟨a,b,c,hd⟩
theorem eU {t:Nat} (h:cY P t=some .slice) : ∃e,P.underlying t=some (.slice e):=by
 unfold cY at h;split at h<;>simp at h;rename_i e hd;exact ⟨e,hd⟩
theorem iG {k:Nat} {es:List D} {i j:Nat} {v:Value} (h:aJ w I β (.d (.pd k es i j)) v) : ∃a,v = .pointer (some a):=by
 obtain ⟨b,o,rfl,_⟩:=aq.pd_inv (show aq w I _ v from h);exact ⟨_,rfl⟩
theorem iI {id o:Nat} {v:Value} (h:aJ w I β (.po id o) v) : ∃a,v = .pointer (some a):=by
 obtain ⟨b,cap,_,rfl⟩:=h;exact ⟨_,rfl⟩
theorem iH {id k i j:Nat} {v:Value} (h:aJ w I β (.pe id k i j) v) : ∃a,v = .pointer (some a):=by
 obtain ⟨b,cap,_,rfl⟩:=h;exact ⟨_,rfl⟩
theorem mg {t:Nat} {x:D} {v:Value} (h:aJ w I β (.d (.ifc t x)) v) : ∃u,v = .iface t u∧aq w I x u:=by
 have h':aq w I (.ifc t x) v:=h;cases h' with
 | ifc _ _ u h2=>exact ⟨u,rfl,h2⟩
theorem mf {f:Nat} {x:List D} {v:Value} (h:aJ w I β (.d (.fn f x)) v) : ∃vs:List Value,v = .func (.func f) #[] vs.toArray∧x.length=vs.length ∧ ∀(i:Nat) c v,x[i]? = some c→vs[i]? = some v→aq w I c v:=by
 have h':aq w I (.fn f x) v:=h;cases h' with
 | fn _ _ vs hl h2=>exact ⟨vs,rfl,hl,h2⟩
theorem B7 {f:Nat} {x:List D} {v:Value} (h:aJ w I β (.d (.bf f x)) v) : ∃vs:List Value,v = .func (.func f) vs.toArray #[]∧x.length=vs.length ∧ ∀(i:Nat) c v,x[i]? = some c→vs[i]? = some v→aq w I c v:=by
 have h':aq w I (.bf f x) v:=h;cases h' with
 | bf _ _ vs hl h2=>exact ⟨vs,rfl,hl,h2⟩
theorem w9 {k:Nat} {v:Value} (h:aJ w I β (.d (.ne k)) v) : ∃a c,v = .slice (some a) 0 c:=by
 have h':aq w I (.ne k) v:=h;cases h' with
 | ne _ a c=>exact ⟨a,c,rfl⟩
theorem iF {x:List D} {v:Value} (h:aJ w I β (.d (.agg x)) v) : ∃vs:List Value,v = .agg vs.toArray∧x.length=vs.length∧(∀v∈vs,v.oneCell'=true) ∧ ∀(i:Nat) c v,x[i]? = some c→vs[i]? = some v→aq w I c v:=by
 have h':aq w I (.agg x) v:=h;cases h' with
 | agg _ vs hl ho h2=>exact ⟨vs,rfl,hl,ho,h2⟩
theorem B8 {k:Nat} {f:Bool} {es:List D} {v:Value} (h:aJ w I β (.d (.sd k f es)) v) : ∃a n c,v = .slice a n c∧n=es.length∧n≤c∧(f=true→c=n)∧(es≠[]→a≠none):=by
 have h':aq w I (.sd k f es) v:=h;cases h' with
 | sd k f es b o cap val hI hk hc ho hd hcap hfull=>exact ⟨_,_,_,rfl,rfl,hcap,hfull,fun _=>by simp⟩
 | sd0 k f a=>exact ⟨_,_,_,rfl,rfl,Nat.le_refl _,fun _=>rfl,fun h=>absurd rfl h⟩
theorem lh {t d e:Nat} {a b:Option Addr} (h:P.underlying t=some (.pointer e)) (hn:a=none∨b=none):(Op.equalIn (d+1) t (.pointer a) (.pointer b)).run P w = .ok (a.isNone&&b.isNone) w:=by
 cases a<;>cases b<;>simp_all [Op.equalIn,underlying]
theorem II {t d:Nat} {e:Array (String × TypeId)} (h:P.underlying t=some (.interface e)):(Op.equalIn (d+1) t .nilIface .nilIface).run P w = .ok true w:=by simp [Op.equalIn,underlying,h]
theorem IJ {t d u:Nat} {e:Array (String × TypeId)} {v:Value} (h:P.underlying t=some (.interface e)):(Op.equalIn (d+1) t .nilIface (.iface u v)).run P w = .ok false w:=by simp [Op.equalIn,underlying,h]
theorem IK {t d u:Nat} {e:Array (String × TypeId)} {v:Value} (h:P.underlying t=some (.interface e)):(Op.equalIn (d+1) t (.iface u v) .nilIface).run P w = .ok false w:=by simp [Op.equalIn,underlying,h]
theorem LX {t d:Nat} {e e':Array TypeId} {q:Bool} (h:P.underlying t=some (.func e e' q)):(Op.equalIn (d+1) t .nilFunc .nilFunc).run P w = .ok true w:=by simp [Op.equalIn,underlying,h]
theorem LY {t d:Nat} {e e':Array TypeId} {q:Bool} {f:Fn} {x y:Array Value} (h:P.underlying t=some (.func e e' q)):(Op.equalIn (d+1) t .nilFunc (.func f x y)).run P w = .ok false w:=by simp [Op.equalIn,underlying,h]
theorem D3 {t d:Nat} {e e':Array TypeId} {q:Bool} {f:Fn} {x y:Array Value} (h:P.underlying t=some (.func e e' q)):(Op.equalIn (d+1) t (.func f x y) .nilFunc).run P w = .ok false w:=by simp [Op.equalIn,underlying,h]
theorem LZ {t d e n c n' c':Nat} (h:P.underlying t=some (.slice e)):(Op.equalIn (d+1) t (.slice none n c) (.slice none n' c')).run P w = .ok true w:=by simp [Op.equalIn,underlying,h]
theorem xj {t d e n c n' c':Nat} {a:Addr} (h:P.underlying t=some (.slice e)):(Op.equalIn (d+1) t (.slice (some a) n c) (.slice none n' c')).run P w = .ok false w:=by simp [Op.equalIn,underlying,h]
def kh:Value→Value→Bool
 | .nilIface,.nilIface=>false
 | .agg _,.agg _=>false
 | _,_=>true
theorem gx {op:BinOp} {t:Nat} {ox oy:Operand} {vx vy:Value} (h:kh vx vy=true):(eqGuard op t ox oy vx vy).run P w = .ok () w:=by
 unfold eqGuard;split<;>simp only [Bool.not_true,Bool.not_false,Bool.false_eq_true,if_false,if_true]
 ·split
  ·simp [kh] at h
  ·simp [kh] at h
  ·rfl
 ·split
  ·simp [kh] at h
  ·simp [kh] at h
  ·rfl
 ·rfl
def D2:Value→Value→Bool
 | .int _ _,.int _ _=>false
 | .float _ _,.float _ _=>false
 | .complex _ _ _,.complex _ _ _=>false
 | .string _,.string _=>false
 | _,_=>true
theorem pW {t:Nat} {vx vy:Value} {b:Bool} (h:D2 vx vy=true) (he:(Op.equalIn (9999+1) t vx vy).run P w = .ok b w) :
 (binOp .eql t vx vy).run P w = .ok (.bool b) w∧(binOp .neq t vx vy).run P w = .ok (.bool (!b)) w:=by
 have e:(Op.equal t vx vy).run P w = .ok b w:=he;constructor
 ·have:binOp .eql t vx vy=(do pure (.bool (←Op.equal t vx vy))):=by
   cases vx<;>cases vy<;>first|rfl|(simp [D2] at h)
  rw [this,Sem.run_bind,e];rfl
 ·have:binOp .neq t vx vy=(do pure (.bool (!(←Op.equal t vx vy)))):=by
   cases vx<;>cases vy<;>first|rfl|(simp [D2] at h)
  rw [this,Sem.run_bind,e];rfl
theorem bw {t:Nat} {ox oy:Operand} {vx vy:Value} {b:Bool} (h1:kh vx vy=true) (h2:D2 vx vy=true) (he:(Op.equalIn (9999+1) t vx vy).run P w = .ok b w) :
 (∀op,(eqGuard op t ox oy vx vy).run P w = .ok () w)∧(binOp .eql t vx vy).run P w = .ok (.bool b) w∧(binOp .neq t vx vy).run P w = .ok (.bool (!b)) w:=
 ⟨fun _=>gx h1,pW h2 he⟩
theorem GA {t:Nat} {kd:Kd} {ox oy:Operand} {x y:V} {vx vy:Value} {b:Bool} (hk:cY P t=some kd) (h:Es kd (eA ox||eA oy) x y=some b) (hx:aJ w I β x vx) (hy:aJ w I β y vy) :
 (∀op,(eqGuard op t ox oy vx vy).run P w = .ok () w)∧(binOp .eql t vx vy).run P w = .ok (.bool b) w∧(binOp .neq t vx vy).run P w = .ok (.bool (!b)) w:=by
 unfold Es at h;split at h;case h_1=>obtain ⟨e,he⟩:=dM hk;injection h with h;subst h;have:=aA hx;subst this;have:=aA hy;subst this;exact bw rfl rfl (lh he (.inl rfl))
 case h_2=>obtain ⟨e,he⟩:=dM hk;injection h with h;subst h;have:=aA hx;subst this;obtain ⟨a,rfl⟩:=iG hy;exact bw rfl rfl (lh he (.inl rfl))
 case h_3=>obtain ⟨e,he⟩:=dM hk;injection h with h;subst h;have:=aA hx;subst this;obtain ⟨a,rfl⟩:=iI hy;exact bw rfl rfl (lh he (.inl rfl))
 case h_4=>obtain ⟨e,he⟩:=dM hk;injection h with h;subst h;have:=aA hx;subst this;obtain ⟨a,rfl⟩:=iH hy;exact bw rfl rfl (lh he (.inl rfl))
 case h_5=>obtain ⟨e,he⟩:=dM hk;injection h with h;subst h;have:=aA hy;subst this;obtain ⟨a,rfl⟩:=iG hx;exact bw rfl rfl (lh he (.inr rfl))
 case h_6=>obtain ⟨e,he⟩:=dM hk;injection h with h;subst h;have:=aA hy;subst this;obtain ⟨a,rfl⟩:=iI hx;exact bw rfl rfl (lh he (.inr rfl))
 case h_7=>obtain ⟨e,he⟩:=dM hk;injection h with h;subst h;have:=aA hy;subst this;obtain ⟨a,rfl⟩:=iH hx;exact bw rfl rfl (lh he (.inr rfl))
 case h_8=>
  obtain ⟨e,he⟩:=rG hk;split at h
  ·rename_i hc;injection h with h;subst h;have:=aA hx;subst this;have:=aA hy;subst this;refine ⟨fun op =>?_,pW rfl (II he)⟩;cases ox<;>cases oy<;>simp_all [eA]<;>cases op<;>simp [eqGuard]
  ·cases h
 case h_9=>obtain ⟨e,he⟩:=rG hk;injection h with h;subst h;have:=aA hx;subst this;obtain ⟨a,rfl,_⟩:=mg hy;exact bw rfl rfl (IJ he)
 case h_10=>obtain ⟨e,he⟩:=rG hk;injection h with h;subst h;have:=aA hy;subst this;obtain ⟨a,rfl,_⟩:=mg hx;exact bw rfl rfl (IK he)
 case h_11=>obtain ⟨e,e',e'',he⟩:=qb hk;injection h with h;subst h;have:=aA hx;subst this;have:=aA hy;subst this;exact bw rfl rfl (LX he)
 case h_12=>obtain ⟨e,e',e'',he⟩:=qb hk;injection h with h;subst h;have:=aA hx;subst this;obtain ⟨a,rfl,_⟩:=mf hy;exact bw rfl rfl (LY he)
 case h_13=>obtain ⟨e,e',e'',he⟩:=qb hk;injection h with h;subst h;have:=aA hy;subst this;obtain ⟨a,rfl,_⟩:=mf hx;exact bw rfl rfl (D3 he)
 case h_14=>obtain ⟨e,e',e'',he⟩:=qb hk;injection h with h;subst h;have:=aA hy;subst this;obtain ⟨a,rfl,_⟩:=(show ∃vs:List Value,vx = .func (.func _) #[] vs.toArray∧bR w I β _ vs from hx);exact bw rfl rfl (D3 he)
 case h_15=>obtain ⟨e,he⟩:=eU hk;injection h with h;subst h;have:=aA hx;subst this;have:=aA hy;subst this;exact bw rfl rfl (LZ he)
 case h_16=>
  obtain ⟨e,he⟩:=eU hk;injection h with h;subst h;have:=aA hy;subst this;obtain ⟨a,n,c,rfl,_,_,_,ha⟩:=B8 hx;cases a with
  | none=>exact absurd rfl (ha (by simp))
  | some a=>exact bw rfl rfl (xj he)
 case h_17=>
  obtain ⟨e,he⟩:=eU hk;injection h with h;subst h;have:=aA hy;subst this;rcases hx with ⟨_,_,h0,_⟩|⟨b,cap,c,_,_,_,rfl⟩
  ·omega
  ·exact bw rfl rfl (xj he)
 case h_18=>obtain ⟨e,he⟩:=eU hk;injection h with h;subst h;have:=aA hy;subst this;obtain ⟨a,c,rfl⟩:=w9 hx;exact bw rfl rfl (xj he)
 case h_19=>cases h
theorem D1 {t:Nat} {ox oy:Operand} {x y:V} {vx vy:Value} {p:Prop} {b:Bool} (h:O3 P t (eA ox||eA oy) x y=some (p,b)) (hp:p) (hx:aJ w I β x vx) (hy:aJ w I β y vy) :
 (∀op,(eqGuard op t ox oy vx vy).run P w = .ok () w)∧(binOp .eql t vx vy).run P w = .ok (.bool b) w∧(binOp .neq t vx vy).run P w = .ok (.bool (!b)) w:=by
 unfold O3 at h;split at h
 ·split at h
  ·rename_i xs ys _ _ _ _ ks ks' vs us h1 h2 h3 h4;split at h
   ·rename_i hs;have hkk:=io hs;subst hkk;injection h with h;injection h with ha hb;subst ha;subst hb;obtain ⟨xv,rfl,hxl,_,hxd⟩:=iF hx;obtain ⟨yv,rfl,hyl,_,hyd⟩:=iF hy;have e1:=jH h3 hxl hxd;have e2:=jH h4 hyl hyd;subst e1;subst e2;obtain ⟨g1,g2⟩:=hp;have g3:=g2 _ _ w (mc h3 h1) (mc h4 h2);refine ⟨fun op =>?_,?_,?_⟩
    ·unfold eqGuard;split<;>simp only [Bool.not_true,Bool.not_false,Bool.false_eq_true,if_false,if_true]<;>simp [g1]
    ·exact (pW rfl g3).1
    ·exact (pW rfl g3).2
   ·cases h
  ·cases h
 ·split at h
  ·rename_i hk;injection h with h;injection h with ha hb;subst ha;subst hb;have:=aA hx;subst this;have:=aA hy;subst this;have hu:=Mo hk;exact bw rfl rfl (run_equalIn_bool w 9999 t _ _ hu)
  ·cases h
 ·rename_i i o i' o';split at h
  ·rename_i hc;obtain ⟨⟨h1,h2⟩,hk⟩:=hc;subst h1;subst h2;injection h with h;injection h with ha hb;subst ha;subst hb;obtain ⟨b,cap,hb,rfl⟩:=hx;obtain ⟨b',cap',hb',rfl⟩:=hy;rw [hb] at hb';injection hb' with hb';injection hb' with hb';injection hb' with hb' _;subst hb';unfold Vf at hk;split at hk
   ·rename_i u hu;obtain ⟨j,hj⟩:=Option.isSome_iff_exists.1 hk;have key : ∀d:Nat,(Op.equalIn (d+1) t (.pointer (some ⟨b,o,none⟩)) (.pointer (some ⟨b,o,none⟩))).run P w = .ok true w:=fun d=>by
     simp [Op.equalIn,run_underlying hu,sizeOf,typeInfo,hj,run_sameAddr_same]
    exact bw rfl rfl (key 9999)
   ·cases hk
  ·cases h
 ·split at h
  ·rename_i kd hk;simp only [Option.map_eq_some_iff] at h;obtain ⟨b',hb',hh⟩:=h;injection hh with _ hh;subst hh;exact GA hk hb' hx hy
  ·cases h
theorem H3 {op:BinOp} {t:Nat} {ox oy:Operand} {x y:V} {vx vy:Value} {p:Prop} {v:V} (h:tT P op t (eA ox||eA oy) x y=some (p,v)) (hp:p) (hx:aJ w I β x vx) (hy:aJ w I β y vy) :
 ∃u,((do eqGuard op t ox oy vx vy;binOp op t vx vy):Sem Value).run P w = .ok u w∧aJ w I β v u:=by
 unfold tT at h;split at h
 ·split at h
  ·have:=aA hx;subst this;have:=aA hy;subst this;obtain ⟨u,h1,h2⟩:=xV (w:=w) (I:=I) (β:=β) (t:=t) (P:=P) h hp;refine ⟨u,?_,h2⟩;rw [Sem.run_bind,gx rfl];exact h1
  split at h
  ·rename_i hk;subst hk;have:=aA hx;subst this;have:=aA hy;subst this;obtain ⟨u,h1,h2⟩:=Ct (w:=w) (I:=I) (β:=β) (t:=t) (P:=P) h hp;refine ⟨u,?_,h2⟩;rw [Sem.run_bind,gx rfl];exact h1
  ·cases h
 ·have:=aA hx;subst this;have:=aA hy;subst this;obtain ⟨u,h1,h2⟩:=Dp (w:=w) (I:=I) (β:=β) (t:=t) (P:=P) h hp;refine ⟨u,?_,h2⟩;rw [Sem.run_bind,gx rfl];exact h1
 ·split at h
  ·simp only [Option.map_eq_some_iff] at h;obtain ⟨⟨q,b⟩,hb,hh⟩:=h;injection hh with h1 h2;subst h1;subst h2;obtain ⟨g1,g2,g3⟩:=D1 hb hp hx hy;exact ⟨_,by rw [Sem.run_bind,g1];exact g2,aq.lit _⟩
  ·simp only [Option.map_eq_some_iff] at h;obtain ⟨⟨q,b⟩,hb,hh⟩:=h;injection hh with h1 h2;subst h1;subst h2;obtain ⟨g1,g2,g3⟩:=D1 hb hp hx hy;exact ⟨_,by rw [Sem.run_bind,g1];exact g3,aq.lit _⟩
  ·cases h
end
def O8 (P:Program) (s f:Nat) (a:V):PV:=
 match bp P s f with
 | some (off,sz,_)=>if sz=0 then none else match a with
  | .d (.pd k es i j)=>some (True,.d (.pd k es i (j+off)))
  | .po id o=>some (True,.po id (o+off))
  | .pe id k i j=>some (True,.pe id k i (j+off))
  | _=>none
 | none=>none
def O9 (P:Program) (t f:Nat) (a:V):PV:=
 match bp P t f with
 | some (off,sz,ag)=>match a with
  | .d (.agg cs)=>(jP ag off sz (cs.map .d)).map fun v=>(True,v)
  | .agg cs=>(jP ag off sz cs).map fun v=>(True,v)
  | _=>none
 | none=>none
def Cq (P:Program) (t:Nat) (a:V) (n:Int):PV:=
 match a,sG P t with
 | .d (.sd k _ es),some (k',_)=>if k=k' then some (0≤n∧n<es.length,.d (.pd k es n.toNat 0)) else none
 | .so id k lo m,some (k',_)=>if k=k' then some (0≤n∧n<m,.pe id k (lo+n.toNat) 0) else none
 | a,_=>match Lb P t with
  | some (len,s,_)=>match a with
   | .d (.pd k es i j)=>some (0≤n∧n<len,.d (.pd k es i (j+n.toNat*s)))
   | .po id o=>some (0≤n∧n<len,.po id (o+n.toNat*s))
   | .pe id k i j=>some (0≤n∧n<len,.pe id k i (j+n.toNat*s))
   | _=>none
  | none=>none
def ry (P:Program) (t:Nat) (a:V) (n:Int):PV:=
 match a with
 | .d (.lit (.string s))=>if cY P t=some .string then some (0≤n∧n<s.size,.d (.lit (.int .u8 (s.data.getD n.toNat 0).toNat))) else none
 | .d (.agg cs)=>match Lb P t with
  | some (len,s,ag)=>(jP ag (n.toNat*s) s (cs.map .d)).map fun v=>(0≤n∧n<len,v)
  | none=>none
 | _=>none
def Qs (op:UnOp) (x:V):PV:=
 match op,x with
 | .not,.d (.lit (.bool b))=>some (True,.d (.lit (.bool (!b))))
 | .neg,.d (.lit (.int k n))=>some (True,.d (.lit (.int k (k.wrap (0 - n)))))
 | _,_=>none
def OZ (P:Program) (src dst:Nat) (x:V):PV:=
 match cY P src with
 | none=>none
 | some _=>match cY P dst,x with
  | some (.int k),.d (.lit (.int _ n))=>some (True,.d (.lit (.int k (k.wrap n))))
  | some .string,.d (.lit (.int _ n))=>some (True,.d (.lit (.string (Utf8.encode n))))
  | some .string,.d (.lit (.string s))=>some (True,.d (.lit (.string s)))
  | _,_=>none
def Py (P:Program) (t:Nat) (x:V):PV:=
 match cY P t,x with
 | some .iface,_=>none
 | some _,.d y=>some (True,.d (.ifc t y))
 | _,_=>none
def O5 (i:Nat) (x:V):PV:=
 match x with
 | .tup vs=>(vs[i]?).map fun v=>(True,v)
 | _=>none
def Dw (x:V):PV:=
 match x with
 | .d (.lit (.slice none _ _))=>some (True,.d (.lit (.pointer none)))
 | .so id k lo n=>if 0<n then some (True,.pe id k lo 0) else none
 | _=>none
def Gh (x:V):PV:=
 match x with
 | .d (.lit (.string s))=>some (True,.d (.lit (.int .i64 s.size)))
 | .d (.lit (.slice none 0 _))=>some (True,.d (.lit (.int .i64 0)))
 | .d (.sd _ _ es)=>some (True,.d (.lit (.int .i64 es.length)))
 | .so _ _ _ n=>some (True,.d (.lit (.int .i64 n)))
 | _=>none
def Lf (mx:Bool) (x y:V):PV:=
 match x,y with
 | .d (.lit (.int k a)),.d (.lit (.int _ b))=>some (True,.d (.lit (.int k (if mx=true then max a b else min a b))))
 | _,_=>none
def lE (x:V):PV:=
 match x with
 | .d (.pd k es i j)=>some (True,.d (.pd k es i j))
 | .po id o=>some (True,.po id o)
 | .pe id k i j=>some (True,.pe id k i j)
 | .d (.ifc t y)=>some (True,.d (.ifc t y))
 | .d (.fn f cs)=>some (True,.d (.fn f cs))
 | .fn f cs=>some (True,.fn f cs)
 | .d (.bf f cs)=>some (True,.d (.bf f cs))
 | _=>none
section
variable {P:Program} {w:World} {I:Nat→Prop} {β:b7}
theorem zm {t f off sz:Nat} {ag:Bool} (h:bp P t f=some (off,sz,ag)) : ∃fs fd,P.underlying t=some (.struct fs)∧fs[f]? = some fd∧fd.offset=off∧cF P fd.type=some (sz,ag):=by
 unfold bp at h;split at h
 ·rename_i fs hu;split at h
  ·rename_i fd hf;simp only [Option.map_eq_some_iff] at h;obtain ⟨⟨a,b⟩,h1,h2⟩:=h;injection h2 with h3 h4;injection h4 with h4 h5;subst h3;subst h4;subst h5;exact ⟨fs,fd,hu,hf,rfl,h1⟩
  ·cases h
 ·cases h
theorem m0 {t k:Nat} {ag:Bool} (h:sG P t=some (k,ag)) : ∃e,P.underlying t=some (.slice e)∧cF P e=some (k,ag):=by
 unfold sG at h;split at h
 ·rename_i e hu;exact ⟨e,hu,h⟩
 ·cases h
theorem yQ {t n k:Nat} {ag:Bool} (h:Lb P t=some (n,k,ag)) : ∃e,P.underlying t=some (.array n e)∧cF P e=some (k,ag):=by
 unfold Lb at h;split at h
 ·rename_i m e hu;simp only [Option.map_eq_some_iff] at h;obtain ⟨⟨a,b⟩,h1,h2⟩:=h;injection h2 with h3 h4;injection h4 with h4 h5;subst h3;subst h4;subst h5;exact ⟨e,hu,h1⟩
 ·cases h
theorem jT {s f off sz:Nat} {ag:Bool} (h:bp P s f=some (off,sz,ag)) (hz:sz≠0) (b q:Nat) :
 (Instr.fieldAt s (.pointer (some ⟨b,q,none⟩)) f).run P w = .ok (.pointer (some ⟨b,q+off,none⟩)) w:=by
 obtain ⟨fs,fd,h1,h2,h3,h4⟩:=zm h;subst h3;simp [Instr.fieldAt,underlying,h1,h2,Instr.sureAddr,fieldPlace,cb h4,hz,dA]
theorem L7 {s f:Nat} {a:V} {p:Prop} {v:V} {val:Value} (h:O8 P s f a=some (p,v)) (hd:aJ w I β a val) :
 ∃x,(Instr.fieldAt s val f).run P w = .ok x w∧aJ w I β v x:=by
 unfold O8 at h;split at h
 ·rename_i off sz ag hf;split at h
  ·cases h
  ·rename_i hz;split at h
   ·injection h with h;injection h with h1 h2;subst h2;have hd':aq w I _ val:=hd;cases hd' with
    | pd _ _ _ _ b o val hI hk hc ho hd2=>
     exact ⟨_,jT hf hz b _,by rw [Nat.add_assoc];exact aq.pd _ _ _ _ b o val hI hk hc ho hd2⟩
   ·injection h with h;injection h with h1 h2;subst h2;obtain ⟨b,cap,hb,rfl⟩:=hd;exact ⟨_,jT hf hz b _,b,cap,hb,rfl⟩
   ·injection h with h;injection h with h1 h2;subst h2;obtain ⟨b,cap,hb,rfl⟩:=hd;exact ⟨_,jT hf hz b _,b,cap,hb,by rw [Nat.add_assoc]⟩
   ·cases h
 ·cases h
theorem sB {t s:Nat} {ag:Bool} (h:cF P t=some (s,ag)) (cs:Array Value) (off:Nat) :
 (part t cs off).run P w=if ag=true then .ok (.agg (cs.extract off (off+s))) w else match cs[off]? with|some v=> .ok v w|none=> .halt (.stuck "part: no such cell") w:=by
 unfold part;simp only [Sem.run_bind,od h,Result.andThen_ok];cases ag with
 | true=>simp [cb h]
 | false=>
  simp only [Bool.false_eq_true,if_false];cases cs[off]? <;> rfl
theorem rX {t s:Nat} {ag:Bool} {off:Nat} {cs:List V} {vs:List Value} {v:V} (h:cF P t=some (s,ag)) (hp:jP ag off s cs=some v) (hd:bR w I β cs vs) (ho : ∀x∈vs,x.oneCell'=true) :
 ∃x,(part t vs.toArray off).run P w = .ok x w∧aJ w I β v x:=by
 rw [sB h];unfold jP at hp;cases ag with
 | true=>
  simp only [if_true] at hp ⊢;split at hp
  ·rename_i hc;injection hp with hp;subst hp;refine ⟨_,rfl,?_⟩;have e:vs.toArray.extract off (off+s)=((vs.drop off).take s).toArray:=by
    simp [List.take_drop]
   rw [e];exact gV (hd.sub off s) (fun x hx=>ho x (List.mem_of_mem_drop (List.mem_of_mem_take hx)))
  ·cases hp
 | false=>
  simp only [Bool.false_eq_true,if_false] at hp ⊢;have hl:off<vs.length:=by
   have:=(List.getElem?_eq_some_iff.1 hp).1;rw [hd.1] at this;exact this
  refine ⟨vs[off],by simp [hl],?_⟩;have:=hd.2 off v vs[off] hp (List.getElem?_eq_getElem hl);cases v<;>first|exact this|exact this.elim
theorem iE {cs:List D} {vs:List Value} (hl:cs.length=vs.length) (h : ∀(i:Nat) c v,cs[i]? = some c→vs[i]? = some v→aq w I c v):bR w I β (cs.map V.d) vs:=by
 refine ⟨by simpa using hl,fun i c v hi hv =>?_⟩;simp only [List.getElem?_map,Option.map_eq_some_iff] at hi;obtain ⟨x,hx,rfl⟩:=hi;exact h i x v hx hv
theorem L9 {t f:Nat} {a:V} {p:Prop} {v:V} {val:Value} (h:O9 P t f a=some (p,v)) (hd:aJ w I β a val) :
 ∃x,(Instr.field t val f).run P w = .ok x w∧aJ w I β v x:=by
 unfold O9 at h;split at h
 ·rename_i off sz ag hf;obtain ⟨fs,fd,h1,h2,h3,h4⟩:=zm hf;subst h3;split at h
  ·simp only [Option.map_eq_some_iff] at h;obtain ⟨u,hu,hh⟩:=h;injection hh with _ hh;subst hh;obtain ⟨vs,rfl,hl,ho,hds⟩:=iF hd;obtain ⟨x,hx,hxd⟩:=rX (P:=P) (w:=w) h4 hu (iE hl hds) ho;exact ⟨x,by simp [Instr.field,underlying,h1,h2,asAgg,hx],hxd⟩
  ·simp only [Option.map_eq_some_iff] at h;obtain ⟨u,hu,hh⟩:=h;injection hh with _ hh;subst hh;obtain ⟨vs,rfl,ho,hds⟩:=hd;obtain ⟨x,hx,hxd⟩:=rX (P:=P) (w:=w) h4 hu hds ho;exact ⟨x,by simp [Instr.field,underlying,h1,h2,asAgg,hx],hxd⟩
  ·cases h
 ·cases h
theorem jU {t k:Nat} {ag:Bool} (h:sG P t=some (k,ag)) (b q len cap:Nat) (kk:IntKind) (n:Int) (h0:0≤n) (h1:n<len) :
 (Instr.indexAt t (.slice (some ⟨b,q,none⟩) len cap) (.int kk n)).run P w = .ok (.pointer (some ⟨b,q+n.toNat*k,none⟩)) w:=by
 obtain ⟨e,h2,h3⟩:=m0 h;simp [Instr.indexAt,asIntOf,underlying,h2,cb h3,h0,h1,dA]
theorem gg {t k len:Nat} {ag:Bool} (h:Lb P t=some (len,k,ag)) (b q:Nat) (kk:IntKind) (n:Int) (h0:0≤n) (h1:n<len) :
 (Instr.indexAt t (.pointer (some ⟨b,q,none⟩)) (.int kk n)).run P w = .ok (.pointer (some ⟨b,q+n.toNat*k,none⟩)) w:=by
 obtain ⟨e,h2,h3⟩:=yQ h;simp [Instr.indexAt,asIntOf,underlying,h2,cb h3,h0,h1,dA,Instr.sureAddr]
theorem Ji {t:Nat} {a:V} {n:Int} {p:Prop} {v:V} {val:Value} {kk:IntKind} (h:Cq P t a n=some (p,v)) (hp:p) (hd:aJ w I β a val) :
 ∃x,(Instr.indexAt t val (.int kk n)).run P w = .ok x w∧aJ w I β v x:=by
 unfold Cq at h;split at h
 ·rename_i k f es k' ag hs;split at h
  ·rename_i hk;subst hk;injection h with h;injection h with h1 h2;subst h1;subst h2;have hd':aq w I _ val:=hd;cases hd' with
   | sd _ _ _ b o cap val hI hk hc ho hd2 hcap hfull=>
    exact ⟨_,jU hs b o _ _ kk n hp.1 hp.2,aq.pd _ _ n.toNat 0 b o val hI hk hc ho hd2⟩
   | sd0=>simp at hp;omega
  ·cases h
 ·rename_i id k lo m k' ag hs;split at h
  ·rename_i hk;subst hk;injection h with h;injection h with h1 h2;subst h1;subst h2;rcases hd with ⟨_,_,h3,_⟩|⟨b,cap,c,hb,h3,h4,rfl⟩
   ·subst h3;simp at hp;omega
   ·exact ⟨_,jU hs b _ _ _ kk n hp.1 (by omega),b,cap,hb,by rw [Nat.add_mul];rfl⟩
  ·cases h
 ·split at h
  ·rename_i len s ag hs;split at h
   ·injection h with h;injection h with h1 h2;subst h1;subst h2;have hd':aq w I _ val:=hd;cases hd' with
    | pd _ _ _ _ b o val hI hk hc ho hd2=>
     exact ⟨_,gg hs b _ kk n hp.1 hp.2,by rw [Nat.add_assoc];exact aq.pd _ _ _ _ b o val hI hk hc ho hd2⟩
   ·injection h with h;injection h with h1 h2;subst h1;subst h2;obtain ⟨b,cap,hb,rfl⟩:=hd;exact ⟨_,gg hs b _ kk n hp.1 hp.2,b,cap,hb,rfl⟩
   ·injection h with h;injection h with h1 h2;subst h1;subst h2;obtain ⟨b,cap,hb,rfl⟩:=hd;exact ⟨_,gg hs b _ kk n hp.1 hp.2,b,cap,hb,by rw [Nat.add_assoc]⟩
   ·cases h
  ·cases h
theorem dk {t:Nat} (h:cY P t=some .string):P.underlying t=some .string:=by
 unfold cY at h;split at h<;>simp at h;rename_i hd;exact hd
theorem Pu {t:Nat} {k:IntKind} (h:cY P t=some (.int k)):P.underlying t=some (.int k):=by
 unfold cY at h;split at h<;>simp at h;rename_i hd;subst h;exact hd
theorem F8 {t:Nat} {a:V} {n:Int} {p:Prop} {v:V} {val:Value} {kk:IntKind} (h:ry P t a n=some (p,v)) (hp:p) (hd:aJ w I β a val) :
 ∃x,(Instr.index t val (.int kk n)).run P w = .ok x w∧aJ w I β v x:=by
 unfold ry at h;split at h
 ·rename_i s;split at h
  ·rename_i hk;injection h with h;injection h with h1 h2;subst h1;subst h2;have:=aA hd;subst this;refine ⟨_,?_,aq.lit _⟩;have hu:=dk hk;have hlt:n.toNat<s.size:=by omega
   have hg:s[n.toNat]? = some (s.data.getD n.toNat 0):=by
    rw [getElem?_pos s n.toNat hlt];congr 1;show s.data[n.toNat]=_;show s.data[n.toNat]=if h:n.toNat<s.data.size then s.data[n.toNat] else 0
    exact (dif_pos (show n.toNat<s.data.size from hlt)).symm
   simp [Instr.index,asIntOf,underlying,hu,hp.1,hg]
  ·cases h
 ·rename_i cs;split at h
  ·rename_i len s ag hs;simp only [Option.map_eq_some_iff] at h;obtain ⟨u,hu,hh⟩:=h;injection hh with h1 h2;subst h1;subst h2;obtain ⟨vs,rfl,hl,ho,hds⟩:=iF hd;obtain ⟨e,h3,h4⟩:=yQ hs;obtain ⟨x,hx,hxd⟩:=rX (P:=P) (w:=w) h4 hu (iE hl hds) ho;exact ⟨x,by simp [Instr.index,asIntOf,underlying,h3,cb h4,hp.1,hp.2,hx],hxd⟩
  ·cases h
 ·cases h
theorem Nu {op:UnOp} {x:V} {p:Prop} {v:V} {val:Value} (h:Qs op x=some (p,v)) (hd:aJ w I β x val) : ∃u,(Op.unary op val).run P w = .ok u w∧aJ w I β v u:=by
 unfold Qs at h;split at h
 ·injection h with h;injection h with h1 h2;subst h2;have:=aA hd;subst this;exact ⟨_,rfl,aq.lit _⟩
 ·injection h with h;injection h with h1 h2;subst h2;have:=aA hd;subst this;exact ⟨_,rfl,aq.lit _⟩
 ·cases h
theorem LL {src dst:Nat} {x:V} {p:Prop} {v:V} {val:Value} (h:OZ P src dst x=some (p,v)) (hd:aJ w I β x val) : ∃u,(convert src dst val).run P w = .ok u w∧aJ w I β v u:=by
 unfold OZ at h;split at h
 ·cases h
 ·rename_i kd hk;obtain ⟨d0,h0⟩:=rF hk;split at h
  ·rename_i k _ n hk2;injection h with h;injection h with h1 h2;subst h2;have:=aA hd;subst this;have hu:=Pu hk2;exact ⟨_,by simp [convert,underlying,h0,hu,Conv.intToInt],aq.lit _⟩
  ·rename_i _ n hk2;injection h with h;injection h with h1 h2;subst h2;have:=aA hd;subst this;have hu:=dk hk2;exact ⟨_,by simp [convert,underlying,h0,hu,Conv.intToString],aq.lit _⟩
  ·rename_i s hk2;injection h with h;injection h with h1 h2;subst h2;have:=aA hd;subst this;have hu:=dk hk2;exact ⟨_,by simp [convert,underlying,h0,hu],aq.lit _⟩
  ·cases h
theorem MC {t:Nat} {x:V} {p:Prop} {v:V} {val:Value} (h:Py P t x=some (p,v)) (hd:aJ w I β x val) : ∃u,(Instr.makeInterface t val).run P w = .ok u w∧aJ w I β v u:=by
 unfold Py at h;split at h
 ·cases h
 ·rename_i kd y hn hk;injection h with h;injection h with h1 h2;subst h2;obtain ⟨d0,h0⟩:=rF hk;refine ⟨.iface t val,?_,aq.ifc t y val hd⟩;simp only [Instr.makeInterface,underlying,Sem.run_bind,run_program,Result.andThen,h0];cases d0<;>first|rfl|(exfalso;exact hn (by simp [cY,h0] at hk;exact hk.symm))
 ·cases h
theorem L1 {i:Nat} {x:V} {p:Prop} {v:V} {val:Value} (h:O5 i x=some (p,v)) (hd:aJ w I β x val) : ∃u,(Instr.extract val i).run P w = .ok u w∧aJ w I β v u:=by
 unfold O5 at h;split at h
 ·simp only [Option.map_eq_some_iff] at h;obtain ⟨u,hu,hh⟩:=h;injection hh with _ hh;subst hh;obtain ⟨vs,rfl,hl,hds⟩:=hd;have hlt:i<vs.length:=by
   have:=(List.getElem?_eq_some_iff.1 hu).1;omega
  refine ⟨vs[i],by simp [Instr.extract,hlt],?_⟩;have:=hds i u vs[i] hu (List.getElem?_eq_getElem hlt);cases u<;>first|exact this|exact this.elim
 ·cases h
theorem CI {x:V} {p:Prop} {v:V} {val:Value} (h:lE x=some (p,v)) (hd:aJ w I β x val) {o:Oper} {ox:Operand} {a:Act} (ho:o.op = .nilCheck ox) (hx:a.eval ox=val) :
 (execOp a.eval o).run P w = .ok (.value val) w∧aJ w I β v val:=by
 unfold lE at h;split at h
 ·injection h with h;injection h with h1 h2;subst h2;obtain ⟨q,rfl⟩:=iG hd;exact ⟨by simp [execOp,ho,hx],hd⟩
 ·injection h with h;injection h with h1 h2;subst h2;obtain ⟨q,rfl⟩:=iI hd;exact ⟨by simp [execOp,ho,hx],hd⟩
 ·injection h with h;injection h with h1 h2;subst h2;obtain ⟨q,rfl⟩:=iH hd;exact ⟨by simp [execOp,ho,hx],hd⟩
 ·injection h with h;injection h with h1 h2;subst h2;obtain ⟨q,rfl,_⟩:=mg hd;exact ⟨by simp [execOp,ho,hx],hd⟩
 ·injection h with h;injection h with h1 h2;subst h2;obtain ⟨q,rfl,_⟩:=mf hd;exact ⟨by simp [execOp,ho,hx],hd⟩
 ·injection h with h;injection h with h1 h2;subst h2;obtain ⟨q,rfl,_⟩:=(show ∃vs:List Value,val = .func (.func _) #[] vs.toArray∧bR w I β _ vs from hd)
  exact ⟨by simp [execOp,ho,hx],hd⟩
 ·injection h with h;injection h with h1 h2;subst h2;obtain ⟨q,rfl,_⟩:=B7 hd;exact ⟨by simp [execOp,ho,hx],hd⟩
 ·cases h
theorem KZ {x:V} {p:Prop} {v:V} {vx:Value} {ts:Array Nat} {t:Nat} (h:Dw x=some (p,v)) (hx:aJ w I β x vx) : ∃u,(Builtin.unsafeSliceData_ ts t #[vx]).run P w = .ok u w∧aJ w I β v u:=by
 unfold Dw at h;split at h
 ·injection h with h;injection h with h1 h2;subst h2;have:=aA hx;subst this;exact ⟨_,rfl,aq.lit _⟩
 ·rename_i id k lo n;split at h
  ·rename_i hn;injection h with h;injection h with h1 h2;subst h2;rcases hx with ⟨_,_,h0,_⟩|⟨b,cap,c,hb,g1,g2,rfl⟩
   ·omega
   ·refine ⟨.pointer (some ⟨b,lo*k,none⟩),?_,b,cap,hb,by simp⟩;obtain ⟨m,rfl⟩ : ∃m,c=m+1:=⟨c - 1,by omega⟩
    rfl
  ·cases h
 ·cases h
theorem Em {mx:Bool} {x y:V} {p:Prop} {v:V} {vx vy:Value} {ts:Array Nat} {t:Nat} (h:Lf mx x y=some (p,v)) (hx:aJ w I β x vx) (hy:aJ w I β y vy) :
 ∃u,(if mx=true then Builtin.max_ ts t #[vx,vy] else Builtin.min_ ts t #[vx,vy]).run P w = .ok u w∧aJ w I β v u:=by
 unfold Lf at h;split at h
 ·injection h with h;injection h with h1 h2;subst h2;have:=aA hx;subst this;have:=aA hy;subst this;cases mx with
  | true=>
   refine ⟨_,run_max_int2 w ts t _ _ _ _,?_⟩;rw [if_pos rfl];rename_i k a _ b;have:(if b > a then b else a)=max a b:=by omega
   rw [this];exact aq.lit _
  | false=>
   refine ⟨_,run_min_int2 w ts t _ _ _ _,?_⟩;rw [if_neg (by simp)];rename_i k a _ b;have:(if b<a then b else a)=min a b:=by omega
   rw [this];exact aq.lit _
 ·cases h
theorem mE {x:V} {p:Prop} {v:V} {val:Value} {ts:Array Nat} {t t0:Nat} {kd:Kd} (h:Gh x=some (p,v)) (hk:cY P t0=some kd) (hkd:kd = .string∨kd = .slice) (hts:ts[0]? = some t0) (hd:aJ w I β x val)
 (hfit:kd = .string ↔ ∃s,x = .d (.lit (.string s))) : ∃u,(Builtin.len_ ts t #[val]).run P w = .ok u w∧aJ w I β v u:=by
 unfold Gh at h;split at h
 ·injection h with h;injection h with h1 h2;subst h2;have:=aA hd;subst this;have:kd = .string:=hfit.2 ⟨_,rfl⟩;subst this;exact ⟨_,by simp [Builtin.len_,hts,underlying,dk hk];rfl,aq.lit _⟩
 ·injection h with h;injection h with h1 h2;subst h2;have:=aA hd;subst this;rcases hkd with rfl|rfl
  ·obtain ⟨s,hs⟩:=hfit.1 rfl;cases hs
  ·obtain ⟨e,he⟩:=eU hk;exact ⟨_,by simp [Builtin.len_,hts,underlying,he];rfl,aq.lit _⟩
 ·injection h with h;injection h with h1 h2;subst h2;obtain ⟨a,n,c,rfl,rfl,_⟩:=B8 hd;rcases hkd with rfl|rfl
  ·obtain ⟨s,hs⟩:=hfit.1 rfl;cases hs
  ·obtain ⟨e,he⟩:=eU hk;exact ⟨_,by simp [Builtin.len_,hts,underlying,he];rfl,aq.lit _⟩
 ·injection h with h;injection h with h1 h2;subst h2;rcases hkd with rfl|rfl
  ·obtain ⟨s,hs⟩:=hfit.1 rfl;cases hs
  ·obtain ⟨e,he⟩:=eU hk;rcases hd with ⟨_,_,rfl,a,rfl⟩|⟨b,cap,c,_,_,_,rfl⟩
   ·exact ⟨_,by simp [Builtin.len_,hts,underlying,he];rfl,aq.lit _⟩
   ·exact ⟨_,by simp [Builtin.len_,hts,underlying,he];rfl,aq.lit _⟩
 ·cases h
end
def kH:V→Option Int
 | .d (.lit (.int _ n))=>some n
 | _=>none
def t6:Option V→Option (Option Int)
 | none=>some none
 | some v=>(kH v).map some
def Ol (P:Program) (t:Nat) (x:V) (lo hi mx:Option V):PV:=
 match t6 lo,t6 hi,t6 mx with
 | some lo,some hi,some mx=>match x with
  | .d (.lit (.string s))=>if cY P t=some .string∧mx=none then
   some (0≤lo.getD 0∧lo.getD 0≤hi.getD s.size∧hi.getD s.size≤s.size,.d (.lit (.string (s.extract (lo.getD 0).toNat (hi.getD s.size).toNat)))) else none
  | .d (.sd k f es)=>match sG P t with
   | some (k',_)=>if k=k' then (match lo,hi,mx with
    | none,none,none=>some (True,.d (.sd k f es))
    | some l,none,none=>some (0≤l∧l≤es.length,.d (.sd k f (es.drop l.toNat)))
    | none,some h,none=>some (0≤h∧h≤es.length,.d (.sd k (f&&decide (h=es.length)) (es.take h.toNat)))
    | some l,some h,none=>some (0≤l∧l≤h∧h≤es.length,.d (.sd k (f&&decide (h=es.length)) ((es.take h.toNat).drop l.toNat)))
    | none,some h,some m=>some (0≤h∧h≤m∧m≤es.length,.d (.sd k false (es.take h.toNat)))
    | some l,some h,some m=>some (0≤l∧l≤h∧h≤m∧m≤es.length,.d (.sd k false ((es.take h.toNat).drop l.toNat)))
    | _,none,some _=>none) else none
   | none=>none
  | .so id k l0 n=>match sG P t with
   | some (k',_)=>if k=k'∧mx=none then some (0≤lo.getD 0∧lo.getD 0≤hi.getD n∧hi.getD n≤n∧(lo.getD 0<n∨lo.getD 0=0),.so id k (l0+(lo.getD 0).toNat) ((hi.getD n).toNat - (lo.getD 0).toNat)) else none
   | none=>none
  | _=>none
 | _,_,_=>none
def NI (P:Program) (t:Nat):Option D:=
 match (P.info? t).bind (·.zero) with
 | some (.agg cs)=>if cs.toList.all (·.oneCell')=true then some (.agg (cs.toList.map .lit)) else none
 | some v=>some (.lit v)
 | none=>none
def Qq (P:Program) (x:V) (asserted:Nat) (ok:Bool):PV:=
 match cY P asserted with
 | none=>none
 | some .iface=>none
 | some _=>match x with
  | .d (.ifc t y)=>if t=asserted then some (True,if ok=true then .tup [.d y,.d (.lit (.bool true))] else .d y)
   else if ok=true then (NI P asserted).map fun z=>(True,.tup [.d z,.d (.lit (.bool false))]) else none
  | .d (.lit .nilIface)=>if ok=true then (NI P asserted).map fun z=>(True,.tup [.d z,.d (.lit (.bool false))]) else none
  | _=>none
def gT (P:Program) (t:Nat):Option (List Value × List (Nat × Nat)):=
 match P.info? t,P.underlying t with
 | some it,some (.struct fields)=>
  match it.zero,fields.toList.mapM (fun f=>(P.info? f.type).map fun i=>(f.offset,i.size)) with
  | some z,some places=>if z.cells.toList.all (·.oneCell')=true then some (z.cells.toList,places) else none
  | _,_=>none
 | some it,some (.array n e)=>
  match it.zero,P.info? e with
  | some z,some ie=>if z.cells.toList.all (·.oneCell')=true then some (z.cells.toList,(List.range n).map fun i=>(i*ie.size,ie.size)) else none
  | _,_=>none
 | _,_=>none
def V.cellOk:V→Bool
 | .d (.lit u)=>u.oneCell'
 | .d _=>true
 | .agg _=>true
 | .tup _=>false
 | .fn _ _=>false
 | .unk=>false
 | _=>true
def setAt {α:Type} (cs:List α) (off:Nat) (xs:List α):List α:=cs.take off++xs++cs.drop (off+xs.length)
def vb (places:List (Nat × Nat)):List V→List (Nat × V)→Option (List V)
 | cs,[]=>some cs
 | cs,(i,v)::r=>match places[i]? with
  | some (off,sz)=>if v.cellsV.length=sz∧off+sz≤cs.length∧v.cellOk=true then vb places (setAt cs off v.cellsV) r else none
  | none=>none
def OK (P:Program) (t:Nat) (parts:List (Nat × V)):PV:=
 match gT P t with
 | some (z,places)=>(vb places (z.map fun v=> .d (.lit v)) parts).map fun cs=>(True,vw cs)
 | none=>none
def QJ (fn:Fn) (first caps:List V):PV:=
 match fn with
 | .func f=>match first with
  | []=>if caps.all V.atom=true then (match pw caps with
   | some ds=>some (True,.d (.fn f ds))
   | none=>some (True,.fn f caps)) else none
  | fs=>(match caps with
   | []=>(pw fs).map fun ds=>(True,.d (.bf f ds))
   | _=>none)
 | _=>none
section
variable {P:Program} {w:World} {I:Nat→Prop} {β:b7}
theorem jK {v:V} {n:Int} {x:Value} (h:kH v=some n) (hd:aJ w I β v x) : ∃k,x = .int k n:=by
 unfold kH at h;split at h
 ·injection h with h;subst h;exact ⟨_,aA hd⟩
 ·cases h
def DD (o:Option Int) (x:Option Value):Prop:=match o,x with
 | none,none=>True
 | some n,some v=> ∃k,v = .int k n
 | _,_=>False
def QX (w:World) (I:Nat→Prop) (β:b7) (o:Option V) (x:Option Value):Prop:=match o,x with
 | none,none=>True
 | some v,some x=>aJ w I β v x
 | _,_=>False
theorem rQ {v:Option V} {o:Option Int} {x:Option Value} (h:t6 v=some o) (hx:QX w I β v x):DD o x:=by
 cases v with
 | none=>simp [t6] at h;subst h;cases x<;>first|trivial|exact hx.elim
 | some v=>
  simp only [t6,Option.map_eq_some_iff] at h;obtain ⟨n,hn,rfl⟩:=h;cases x with
  | none=>exact hx.elim
  | some x=>exact jK hn hx
theorem gf (sl:Bool) (len cap:Nat) {lo hi mx:Option Int} {vl vh vm:Option Value} (h1:DD lo vl) (h2:DD hi vh) (h3:DD mx vm) (hm:mx=none∨hi≠none)
 (l0:0≤lo.getD 0) (l1:lo.getD 0≤hi.getD len) (l2:hi.getD len≤mx.getD cap) (l3:mx.getD cap≤cap) :
 (Instr.sliceBounds sl len cap vl vh vm).run P w = .ok ((lo.getD 0).toNat,(hi.getD len).toNat,(mx.getD cap).toNat) w:=by
 unfold Instr.sliceBounds;cases mx with
 | none=>
  cases vm with
  | some _=>exact h3.elim
  | none=>
   cases hi with
   | none=>
    cases vh with
    | some _=>exact h2.elim
    | none=>
     cases lo with
     | none=>cases vl<;>first|exact h1.elim|simp
     | some l=>
      cases vl with
      | none=>exact h1.elim
      | some v=>
       obtain ⟨k,rfl⟩:=h1;simp at l0 l1;have hl:l≤(len:Int):=l1;simp [Instr.sliceBound,asIntOf,l0,hl]
   | some h=>
    cases vh with
    | none=>exact h2.elim
    | some v2=>
     obtain ⟨k2,rfl⟩:=h2;simp at l0 l1 l2;have hh0:0≤h:=by omega
     cases lo with
     | none=>cases vl<;>first|exact h1.elim|simp [Instr.sliceBound,asIntOf,hh0,l2]
     | some l=>
      cases vl with
      | none=>exact h1.elim
      | some v=>
       obtain ⟨k,rfl⟩:=h1;simp at l0 l1;have:l≤max h 0:=by omega
       simp [Instr.sliceBound,asIntOf,hh0,l2,l0,this]
 | some m=>
  cases vm with
  | none=>exact h3.elim
  | some v3=>
   obtain ⟨k3,rfl⟩:=h3;cases hi with
   | none=>rcases hm with hm|hm;cases hm;exact absurd rfl hm
   | some h=>
    cases vh with
    | none=>exact h2.elim
    | some v2=>
     obtain ⟨k2,rfl⟩:=h2;simp at l0 l1 l2 l3;have hh0:0≤h:=by omega
     have hm0:0≤m:=by omega
     have hhm:h≤max m 0:=by omega
     cases lo with
     | none=>cases vl<;>first|exact h1.elim|simp [Instr.sliceBound,asIntOf,hh0,l3,hm0,hhm]
     | some l=>
      cases vl with
      | none=>exact h1.elim
      | some v=>
       obtain ⟨k,rfl⟩:=h1;simp at l0 l1;have:l≤max h 0:=by omega
       simp [Instr.sliceBound,asIntOf,hh0,l3,hm0,hhm,l0,this]
theorem aq.piece {k:Nat} {f f':Bool} {es:List D} {b o cap:Nat} (h:aq w I (.sd k f es) (.slice (some ⟨b,o,none⟩) es.length cap)) (hIb:I b) (l hh m:Nat) (h1:l≤hh) (h2:hh≤es.length) (h3:hh≤m) (hf:f'=true→m=hh) :
 aq w I (.sd k f' ((es.take hh).drop l)) (.slice (if m=l then some ⟨b,o,none⟩ else some ⟨b,o+l*k,none⟩) (hh - l) (m - l)):=by
 generalize hv:Value.slice (some ⟨b,o,none⟩) es.length cap=v at h;cases h with
 | sd _ _ _ b' o' cap' val hI hk hc ho hd hcap hfull=>
  injection hv with e1 e2 e3;injection e1 with e1;injection e1 with e1 e4;subst e1;subst e4;have hlen:((es.take hh).drop l).length=hh - l:=by simp;omega
  have key : ∀(i:Nat) e,((es.take hh).drop l)[i]? = some e→es[i+l]? = some e:=by
   intro i e hi;simp only [List.getElem?_drop,List.getElem?_take] at hi;split at hi
   ·rw [Nat.add_comm];exact hi
   ·cases hi
  by_cases hml:m=l
  ·rw [if_pos hml];have hz:(es.take hh).drop l=[]:=List.eq_nil_of_length_eq_zero (by omega);rw [hz];have e0:hh - l=([]:List D).length:=by simp;omega
   rw [e0];exact aq.sd k f' [] b o (m - l) val hI (by simp) (by simp) (by simp) (by simp) (by simp) (by simp;omega)
  ·rw [if_neg hml,←hlen];refine aq.sd k f' _ b (o+l*k) (m - l) (fun i j=>val (i+l) j) hI (fun i e hi=>hk _ e (key i e hi)) (fun i e j c hi hj =>?_) (fun i e j c hi hj=>ho _ e j c (key i e hi) hj) (fun i e j c hi hj=>hd _ e j c (key i e hi) hj) (by omega) (fun hft=>by have:=hf hft;omega);have:=hc _ e j c (key i e hi) hj;rw [Nat.add_mul] at this;rw [show o+l*k+i*k+j=o+(i*k+l*k)+j from by omega];exact this
 | sd0=>
  have hh0:hh=0:=by simpa using h2
  have hl0:l=0:=by omega
  subst hh0;subst hl0;have mk : ∀o',aq w I (.sd k f' []) (.slice (some ⟨b,o',none⟩) 0 m):=fun o'=>
   aq.sd k f' [] b o' m (fun _ _=>undef) hIb (by simp) (by simp) (by simp) (by simp) (by simp) (fun hft=>by simpa using hf hft)
  simp only [List.take_nil,List.drop_nil,Nat.sub_zero];split
  ·exact mk _
  ·exact mk _
theorem M5 {t:Nat} {x:V} {lo hi mx:Option V} {p:Prop} {v:V} {val:Value} {vl vh vm:Option Value} (h:Ol P t x lo hi mx=some (p,v)) (hp:p) (hd:aJ w I β x val)
 (hl:QX w I β lo vl) (hh:QX w I β hi vh) (hm:QX w I β mx vm) :
 ∃u,(Instr.sliceAt t val vl vh vm).run P w = .ok u w∧aJ w I β v u:=by
 unfold Ol at h;split at h
 ·rename_i lo' hi' mx' e1 e2 e3;have b1:=rQ e1 hl;have b2:=rQ e2 hh;have b3:=rQ e3 hm;split at h
  ·rename_i s;split at h
   ·rename_i hc;obtain ⟨hk,rfl⟩:=hc;injection h with h;injection h with h1 h2;subst h1;subst h2;have:=aA hd;subst this;have hu:=dk hk;have hvm:vm=none:=by cases vm with|none=>rfl|some _=>exact b3.elim
    subst hvm;have:=gf (P:=P) (w:=w) false s.size s.size b1 b2 (mx:=none) (vm:=none) trivial (.inl rfl) hp.1 hp.2.1 hp.2.2 (Int.le_refl _);exact ⟨_,by simp [Instr.sliceAt,Instr.slice,underlying,hu,this],aq.lit _⟩
   ·cases h
  ·rename_i k f es;split at h
   ·rename_i k' ag hs;split at h
    ·rename_i hk;subst hk;obtain ⟨e,hu,hle⟩:=m0 hs;have hd':aq w I _ val:=hd;have main : ∀(f':Bool) (hmx:mx'=none∨hi'≠none) (l0:0≤lo'.getD 0) (l1:lo'.getD 0≤hi'.getD es.length) (l2:hi'.getD es.length≤es.length) (l3 : ∀m,mx'=some m→hi'.getD es.length≤m∧m≤es.length)
      (hf:f'=true→(mx'=none→f=true∧hi'.getD es.length=es.length)∧(∀m,mx'=some m→m=hi'.getD es.length)),
      ∃u,(Instr.sliceAt t val vl vh vm).run P w = .ok u w∧aq w I (.sd k f' ((es.take (hi'.getD es.length).toNat).drop (lo'.getD 0).toNat)) u:=by
      intro f' hmx l0 l1 l2 l3 hf;cases hd' with
      | sd0 _ _ a0=>
       have hh0:hi'.getD 0=0:=by simp at l1 l2;omega
       have hl0:lo'.getD 0=0:=by simp at l1 l2;omega
       have hm0:mx'.getD 0=0:=by
        cases mx' with
        | none=>rfl
        | some m=>have:=l3 m rfl;simp at this hh0 ⊢;omega
       have:=gf (P:=P) (w:=w) true 0 0 b1 b2 b3 hmx (by omega) (by simp [hh0,hl0]) (by simp [hh0,hm0]) (by simp [hm0]);refine ⟨.slice a0 0 0,?_,by simpa using aq.sd0 k f' a0⟩;simp [Instr.sliceAt,Instr.slice,underlying,hu,this,cb hle,hh0,hm0,hl0]
      | sd _ _ _ b o cap val' hI hk hc ho hdd hcap hfull=>
       have hmm:(mx'.getD cap)≤cap∧hi'.getD es.length≤mx'.getD cap:=by
        cases mx' with
        | none=>simp;omega
        | some m=>have:=l3 m rfl;simp;omega
       have:=gf (P:=P) (w:=w) true es.length cap b1 b2 b3 hmx l0 l1 hmm.2 hmm.1;refine ⟨.slice (if (mx'.getD cap).toNat=(lo'.getD 0).toNat then some ⟨b,o,none⟩ else some ⟨b,o+(lo'.getD 0).toNat*k,none⟩) ((hi'.getD es.length).toNat - (lo'.getD 0).toNat) ((mx'.getD cap).toNat - (lo'.getD 0).toNat),?_,?_⟩
       ·simp only [Instr.sliceAt,Instr.slice,underlying,Sem.run_bind,run_program,Result.andThen,hu,this,cb hle,Sem.run_pure];split<;>simp [dA]
       ·refine aq.piece (aq.sd k f es b o cap val' hI hk hc ho hdd hcap hfull) hI _ _ _ (by omega) (by omega) (by omega) (fun hft =>?_);obtain ⟨g1,g2⟩:=hf hft;cases mx' with
        | none=>
         obtain ⟨g3,g4⟩:=g1 rfl;have:=hfull g3;simp;omega
        | some m=>have:=g2 m rfl;simp at this ⊢;omega
     match lo',hi',mx',h with
     | none,none,none,h=>
      injection h with h;injection h with h1 h2;subst h2;obtain ⟨u,g1,g2⟩:=main f (.inl rfl) (by simp) (by simp) (by simp) (by simp) (fun hf=>⟨fun _=>⟨hf,rfl⟩,by simp⟩);exact ⟨u,g1,by show aq w I _ u;simpa using g2⟩
     | some l,none,none,h=>
      injection h with h;injection h with h1 h2;subst h1;subst h2;obtain ⟨u,g1,g2⟩:=main f (.inl rfl) hp.1 (by simpa using hp.2) (by simp) (by simp) (fun hf=>⟨fun _=>⟨hf,rfl⟩,by simp⟩);exact ⟨u,g1,by show aq w I _ u;simpa using g2⟩
     | none,some hh,none,h=>
      injection h with h;injection h with h1 h2;subst h1;subst h2;obtain ⟨u,g1,g2⟩:=main _ (.inl rfl) (by simp) (by simpa using hp.1) (by simpa using hp.2) (by simp) (fun hf=>⟨fun _=>⟨(Bool.and_eq_true_iff.1 hf).1,of_decide_eq_true (Bool.and_eq_true_iff.1 hf).2⟩,by simp⟩);exact ⟨u,g1,by show aq w I _ u;simpa using g2⟩
     | some l,some hh,none,h=>
      injection h with h;injection h with h1 h2;subst h1;subst h2;obtain ⟨u,g1,g2⟩:=main _ (.inl rfl) hp.1 (by simpa using hp.2.1) (by simpa using hp.2.2) (by simp) (fun hf=>⟨fun _=>⟨(Bool.and_eq_true_iff.1 hf).1,of_decide_eq_true (Bool.and_eq_true_iff.1 hf).2⟩,by simp⟩);exact ⟨u,g1,g2⟩
     | none,some hh,some m,h=>
      injection h with h;injection h with h1 h2;subst h1;subst h2;obtain ⟨u,g1,g2⟩:=main false (.inr (by simp)) (by simp) (by simpa using hp.1) (by simp;omega) (fun m' hm'=>by injection hm' with hm';subst hm';simp;omega) (fun hf=>by cases hf);exact ⟨u,g1,by show aq w I _ u;simpa using g2⟩
     | some l,some hh,some m,h=>
      injection h with h;injection h with h1 h2;subst h1;subst h2;obtain ⟨u,g1,g2⟩:=main false (.inr (by simp)) hp.1 (by simpa using hp.2.1) (by simp;omega) (fun m' hm'=>by injection hm' with hm';subst hm';simp;omega) (fun hf=>by cases hf);exact ⟨u,g1,g2⟩
     | none,none,some m,h=>cases h
     | some l,none,some m,h=>cases h
    ·cases h
   ·cases h
  ·rename_i id k l0 n;split at h
   ·rename_i k' ag hs;split at h
    ·rename_i hk;obtain ⟨rfl,rfl⟩:=hk;injection h with h;injection h with h1 h2;subst h1;subst h2;obtain ⟨e,hu,hle⟩:=m0 hs;obtain ⟨q1,q2,q3,q4⟩:=hp;rcases hd with ⟨hb,g1,g2,a0,rfl⟩|⟨b,cap,c,hb,g1,g2,rfl⟩
     ·subst g1;subst g2;have hh0:hi'.getD 0=0:=by simp at q2 q3 q1 ⊢;omega
      have hl0:lo'.getD 0=0:=by simp at q2 q3 q1 ⊢;omega
      have:=gf (P:=P) (w:=w) true 0 0 b1 b2 b3 (.inl rfl) (by omega) (by simp [hh0,hl0]) (by simp [hh0]) (by simp);refine ⟨.slice a0 0 0,?_,.inl ⟨hb,by simp [hl0],by simp [hh0,hl0],a0,rfl⟩⟩;simp [Instr.sliceAt,Instr.slice,underlying,hu,this,cb hle,hh0,hl0]
     ·have:=gf (P:=P) (w:=w) true n c b1 b2 b3 (.inl rfl) q1 q2 (by simp;omega) (by simp);refine ⟨.slice (some ⟨b,(l0+(lo'.getD 0).toNat)*k,none⟩) ((hi'.getD n).toNat - (lo'.getD 0).toNat) (c - (lo'.getD 0).toNat),?_,.inr ⟨b,cap,_,hb,?_,?_,rfl⟩⟩
      ·simp only [Instr.sliceAt,Instr.slice,underlying,Sem.run_bind,run_program,Result.andThen,hu,this,cb hle,Sem.run_pure,Option.getD_none];rw [Nat.add_mul];split
       ·rename_i hcl;have h0:(lo'.getD 0).toNat=0:=by
         have:((c:Int).toNat)=c:=by simp
         omega
        simp [h0]
       ·simp [dA]
      ·omega
      ·omega
    ·cases h
   ·cases h
  ·cases h
 ·cases h
theorem qm {t:Nat} {z:D} (h:NI P t=some z) : ∃v,(zeroValue t).run P w = .ok v w∧aq w I z v:=by
 unfold NI at h;cases hi:P.info? t with
 | none=>simp [hi] at h
 | some i=>
  simp only [hi,Option.bind_some] at h;split at h
  ·rename_i cs hz;split at h
   ·rename_i hall;injection h with h;subst h;refine ⟨.agg cs,by simp [zeroValue,typeInfo,hi,hz],?_⟩;have e:(Value.agg cs)=Value.agg cs.toList.toArray:=by simp
    rw [e];refine aq.agg _ _ (by simp) (fun v hv=>List.all_eq_true.1 hall v hv) (fun i c v hc hv =>?_);simp only [List.getElem?_map,Option.map_eq_some_iff] at hc;obtain ⟨x,hx,rfl⟩:=hc;rw [hx] at hv;injection hv with hv;subst hv;exact aq.lit _
   ·cases h
  ·rename_i v hz hn;injection h with h;subst h;exact ⟨v,by simp [zeroValue,typeInfo,hi,hn],aq.lit _⟩
  ·cases h
theorem Du {x y:V} {a b:Value} (hx:bY w I β x a) (hy:bY w I β y b):aJ w I β (.tup [x,y]) (.tuple #[a,b]):=by
 refine ⟨[a,b],rfl,rfl,fun i c v hc hv =>?_⟩;match i,hc,hv with
 | 0,hc,hv=>simp at hc hv;subst hc;subst hv;exact hx
 | 1,hc,hv=>simp at hc hv;subst hc;subst hv;exact hy
theorem Ng {x:V} {asserted xT:Nat} {ok:Bool} {p:Prop} {v:V} {val:Value} (h:Qq P x asserted ok=some (p,v)) (hd:aJ w I β x val) :
 ∃u,(Instr.typeAssert val xT asserted ok).run P w = .ok u w∧aJ w I β v u:=by
 unfold Qq at h;split at h
 ·cases h
 ·cases h
 ·rename_i kd hn hk;obtain ⟨d0,h0⟩:=rF hk;have hni : ∀ms,d0 ≠ .interface ms:=by
   intro ms e;subst e;simp [cY,h0] at hk;exact hn hk.symm
  split at h
  ·rename_i t y;obtain ⟨u,rfl,hu⟩:=mg hd;split at h
   ·rename_i ht;subst ht;injection h with h;injection h with h1 h2;subst h2;cases ok with
    | true=>
     refine ⟨.tuple #[u,.bool true],?_,by rw [if_pos rfl];exact Du hu (aq.lit _)⟩;simp only [Instr.typeAssert,underlying,Sem.run_bind,run_program,Result.andThen,h0];cases d0<;>first|rfl|(exact absurd rfl (hni _))|simp
    | false=>
     refine ⟨u,?_,by rw [if_neg (by simp)];exact hu⟩;simp only [Instr.typeAssert,underlying,Sem.run_bind,run_program,Result.andThen,h0];cases d0<;>first|rfl|(exact absurd rfl (hni _))|simp
   ·rename_i ht;split at h
    ·rename_i hok;subst hok;simp only [Option.map_eq_some_iff] at h;obtain ⟨z,hz,hh⟩:=h;injection hh with _ hh;subst hh;obtain ⟨zv,hzv,hzd⟩:=qm (w:=w) (I:=I) hz;refine ⟨.tuple #[zv,.bool false],?_,Du hzd (aq.lit _)⟩;simp only [Instr.typeAssert,underlying,Sem.run_bind,run_program,Result.andThen,h0];cases d0<;>first|(exact absurd rfl (hni _))|simp [ht,hzv]
    ·cases h
  ·have:=aA hd;subst this;split at h
   ·rename_i hok;subst hok;simp only [Option.map_eq_some_iff] at h;obtain ⟨z,hz,hh⟩:=h;injection hh with _ hh;subst hh;obtain ⟨zv,hzv,hzd⟩:=qm (w:=w) (I:=I) hz;refine ⟨.tuple #[zv,.bool false],?_,Du hzd (aq.lit _)⟩;simp only [Instr.typeAssert,underlying,Sem.run_bind,run_program,Result.andThen,h0];cases d0<;>first|(exact absurd rfl (hni _))|simp [hzv]
   ·cases h
  ·cases h
theorem cU {x:V} {a:Value} (h:bY w I β x a):bR w I β [x] [a]:=by
 refine ⟨rfl,fun i c v hc hv =>?_⟩;match i,hc,hv with
 | 0,hc,hv=>simp at hc hv;subst hc;subst hv;exact h
theorem lf {v:V} {x:Value} (hd:aJ w I β v x) (ha:v.cellOk=true):bR w I β v.cellsV x.cells.toList ∧ ∀y∈x.cells.toList,y.oneCell'=true:=by
 cases v with
 | d y=>
  cases y with
  | agg cs=>
   obtain ⟨vs,rfl,hl,ho,h⟩:=iF hd;exact ⟨by simpa [V.cellsV,D.cells,Value.cells] using iE hl h,by simpa [Value.cells] using ho⟩
  | lit u=>
   have:=aA hd;subst this;have ho:x.oneCell'=true:=ha;have e:x.cells = #[x]:=by cases x<;>first|rfl|(simp [Value.oneCell'] at ho)
   rw [e];exact ⟨cU (aq.lit _),by simpa using ho⟩
  | sd k f es=>
   obtain ⟨a,n,c,rfl,_⟩:=B8 hd;exact ⟨cU hd,by simp [Value.cells,Value.oneCell']⟩
  | pd k es i j=>
   obtain ⟨a,rfl⟩:=iG hd;exact ⟨cU hd,by simp [Value.cells,Value.oneCell']⟩
  | fn f cs=>
   obtain ⟨a,rfl,_⟩:=mf hd;exact ⟨cU hd,by simp [Value.cells,Value.oneCell']⟩
  | ifc t y=>
   obtain ⟨a,rfl,_⟩:=mg hd;exact ⟨cU hd,by simp [Value.cells,Value.oneCell']⟩
  | bf f cs=>
   obtain ⟨a,rfl,_⟩:=B7 hd;exact ⟨cU hd,by simp [Value.cells,Value.oneCell']⟩
  | ne k=>
   obtain ⟨a,c,rfl⟩:=w9 hd;exact ⟨cU hd,by simp [Value.cells,Value.oneCell']⟩
 | so id k lo n=>
  have h':bY w I β (.so id k lo n) x:=hd;rcases hd with ⟨_,_,_,a,rfl⟩|⟨b,cap,c,_,_,_,rfl⟩
  ·exact ⟨cU h',by simp [Value.cells,Value.oneCell']⟩
  ·exact ⟨cU h',by simp [Value.cells,Value.oneCell']⟩
 | po id o=>
  obtain ⟨a,rfl⟩:=iI hd;exact ⟨cU hd,by simp [Value.cells,Value.oneCell']⟩
 | pe id k i j=>
  obtain ⟨a,rfl⟩:=iH hd;exact ⟨cU hd,by simp [Value.cells,Value.oneCell']⟩
 | mo id=>
  have h':bY w I β (.mo id) x:=hd;obtain ⟨b,c,_,rfl⟩:=hd;exact ⟨cU h',by simp [Value.cells,Value.oneCell']⟩
 | it id=>
  have h':bY w I β (.it id) x:=hd;obtain ⟨b,c,_,rfl⟩:=hd;exact ⟨cU h',by simp [Value.cells,Value.oneCell']⟩
 | yl id=>
  have h':bY w I β (.yl id) x:=hd;obtain ⟨b,c,_,rfl⟩:=hd;exact ⟨cU h',by simp [Value.cells,Value.oneCell']⟩
 | agg cs=>
  obtain ⟨vs,rfl,ho,h⟩:=hd;exact ⟨by simpa [V.cellsV,Value.cells] using h,by simpa [Value.cells] using ho⟩
 | unk=>simp [V.cellOk] at ha
 | tup=>simp [V.cellOk] at ha
 | fn=>simp [V.cellOk] at ha
theorem dm {α:Type} {cs xs:List α} {off:Nat} (h:off+xs.length≤cs.length):(setAt cs off xs).length=cs.length:=by
 unfold setAt;simp;omega
theorem bj {α:Type} {cs xs:List α} {off:Nat} (h:off+xs.length≤cs.length) (i:Nat):(setAt cs off xs)[i]? = if i<off then cs[i]? else if i<off+xs.length then xs[i - off]? else cs[i]? :=by
 unfold setAt;by_cases h1:i<off
 ·rw [if_pos h1,List.append_assoc,List.getElem?_append_left (by simp;omega),List.getElem?_take,if_pos h1]
 ·rw [if_neg h1,List.append_assoc,List.getElem?_append_right (by simp;omega)];have hl:(cs.take off).length=off:=by simp;omega
  rw [hl];by_cases h2:i<off+xs.length
  ·rw [if_pos h2,List.getElem?_append_left (by omega)]
  ·rw [if_neg h2,List.getElem?_append_right (by omega),List.getElem?_drop];congr 1;omega
theorem bR.setAt {cs xs:List V} {vs us:List Value} {off:Nat} (h:bR w I β cs vs) (k:bR w I β xs us) (hl:off+xs.length≤cs.length):bR w I β (setAt cs off xs) (setAt vs off us):=by
 have hl2:off+us.length≤vs.length:=by rw [←k.1,←h.1];exact hl
 refine ⟨by rw [dm hl,dm hl2,h.1],fun i c v hc hv =>?_⟩;rw [bj hl] at hc;rw [bj hl2] at hv;split at hc
 ·rename_i h1;rw [if_pos h1] at hv;exact h.2 i c v hc hv
 ·rename_i h1;rw [if_neg h1] at hv;split at hc
  ·rename_i h2;rw [if_pos (by rw [←k.1];exact h2)] at hv;exact k.2 _ c v hc hv
  ·rename_i h2;rw [if_neg (by rw [←k.1];exact h2)] at hv;exact h.2 i c v hc hv
theorem Gw {α:Type} {cs xs:List α} {off:Nat} {x:α} (h:x∈setAt cs off xs):x∈cs∨x∈xs:=by
 unfold setAt at h;rcases List.mem_append.1 h with h|h
 ·rcases List.mem_append.1 h with h|h
  ·exact .inl (List.mem_of_mem_take h)
  ·exact .inr h
 ·exact .inl (List.mem_of_mem_drop h)
theorem rl {α:Type} : ∀(xs:List α) (off i:Nat) (cs:Array α),off+i+xs.length≤cs.size→((xs.zipIdx i).foldl (fun cs (p:α × Nat)=>cs.setIfInBounds (off+p.2) p.1) cs).toList=Go.Proofs.YtkkanlcjjpoklaaGreatDoor.setAt cs.toList (off+i) xs
 | [],off,i,cs,h=>by simp [Go.Proofs.YtkkanlcjjpoklaaGreatDoor.setAt]
 | x::xs,off,i,cs,h=>by
  have hh:off+i+(xs.length+1)≤cs.size:=by simpa using h
  rw [List.zipIdx_cons,List.foldl_cons,rl xs off (i+1) _ (by simp;omega)];apply List.ext_getElem?;intro j;rw [bj (cs:=cs.toList) (xs:=x::xs) (off:=off+i) (by simpa using hh),bj (by simp;omega)];simp only [Array.toList_setIfInBounds,List.getElem?_set,List.length_cons];by_cases h1:j<off+i
  ·rw [if_pos (by omega),if_pos h1,if_neg (by omega)]
  ·rw [if_neg h1];by_cases h2:j=off+i
   ·subst h2;have h4:off+i<off+(i+1):=by omega
    have h5:off+i<cs.size:=by omega
    have h6:off+i<off+i+(xs.length+1):=by omega
    rw [if_pos h4,if_pos h6];simp [h5]
   ·rw [if_neg (by omega)];by_cases h3:j<off+i+(xs.length+1)
    ·rw [if_pos (by omega),if_pos h3];have:j - (off+i)=(j - (off+(i+1)))+1:=by omega
     rw [this];rfl
    ·rw [if_neg (by omega),if_neg h3,if_neg (by omega)]
theorem rf {places:List (Nat × Nat)} {place:Nat→Option (Nat × Nat)} (hpl : ∀i x,places[i]? = some x→place i=some x) : ∀(parts:List (Nat × V)) (vals:List (Nat × Value)) (cs:List V) (cells:Array Value) (out:List V),
 vb places cs parts=some out→parts.length=vals.length→(∀(j:Nat) i v i' x,parts[j]? = some (i,v)→vals[j]? = some (i',x)→i=i'∧aJ w I β v x)→bR w I β cs cells.toList→(∀y∈cells.toList,y.oneCell'=true) →
 ∃res:Array Value,Instr.fill place cells vals=some res∧bR w I β out res.toList ∧ ∀y∈res.toList,y.oneCell'=true
 | [],[],cs,cells,out,h,_,_,hd,ho=>by
  simp [vb] at h;subst h;exact ⟨cells,rfl,hd,ho⟩
 | [],_::_,_,_,_,_,hl,_,_,_=>by simp at hl
 | _::_,[],_,_,_,_,hl,_,_,_=>by simp at hl
 | (i,v)::parts,(i',x)::vals,cs,cells,out,h,hl,hds,hd,ho=>by
  obtain ⟨rfl,hv⟩:=hds 0 i v i' x rfl rfl;unfold vb at h;split at h
  ·rename_i off sz hp;split at h
   ·rename_i hc;obtain ⟨c1,c2,c3⟩:=hc;obtain ⟨g1,g2⟩:=lf hv c3;have hsz:x.cells.size=sz:=by have:=g1.1;simp at this;omega
    have hcs:cs.length=cells.size:=by have:=hd.1;simpa using this
    have hle:off+0+x.cells.toList.length≤cells.size:=by simp;omega
    have hf:=rl x.cells.toList off 0 cells hle;obtain ⟨res,r1,r2,r3⟩:=rf hpl parts vals (Go.Proofs.YtkkanlcjjpoklaaGreatDoor.setAt cs off v.cellsV) (Go.Proofs.YtkkanlcjjpoklaaGreatDoor.setAt cells.toList off x.cells.toList).toArray out h (by simpa using hl)
     (fun j a b a' b' e1 e2=>hds (j+1) a b a' b' (by simpa using e1) (by simpa using e2)) (by simpa using bR.setAt hd g1 (by omega)) (by
      intro y hy;rcases Gw (by simpa using hy) with hy|hy
      ·exact ho y (by simpa using hy)
      ·exact g2 y (by simpa using hy))
    refine ⟨res,?_,r2,r3⟩;unfold Instr.fill;rw [hpl i _ hp];simp only [];rw [if_neg (by simp;omega)];have e:Array.foldl (fun cs (p:Value × Nat)=>cs.setIfInBounds (off+p.2) p.1) cells x.cells.zipIdx=(Go.Proofs.YtkkanlcjjpoklaaGreatDoor.setAt cells.toList off x.cells.toList).toArray:=by
     apply Array.toList_inj.1;rw [←Array.foldl_toList,Array.toList_zipIdx];simpa using hf
    rw [e];exact r1
   ·cases h
  ·cases h
theorem qR : ∀(vs:List Value),bR w I β (vs.map fun v=> .d (.lit v)) vs:=fun vs=>by
 refine ⟨by simp,fun i c v hc hv =>?_⟩;simp only [List.getElem?_map,Option.map_eq_some_iff] at hc;obtain ⟨x,hx,rfl⟩:=hc;rw [hx] at hv;injection hv with hv;subst hv;exact aq.lit _
theorem Ly {t:Nat} {parts:List (Nat × V)} {vals:List (Nat × Value)} {p:Prop} {v:V} (h:OK P t parts=some (p,v)) (hl:parts.length=vals.length)
 (hd : ∀(j:Nat) i v i' x,parts[j]? = some (i,v)→vals[j]? = some (i',x)→i=i'∧aJ w I β v x) : ∃u,(Instr.build t vals.toArray).run P w = .ok u w∧aJ w I β v u:=by
 unfold OK at h;split at h
 ·rename_i z places hb;simp only [Option.map_eq_some_iff] at h;obtain ⟨cs,hf,hh⟩:=h;injection hh with _ hh;subst hh;unfold gT at hb;split at hb
  ·rename_i it fields h1 h2;split at hb
   ·rename_i z0 pl h3 h4;split at hb
    ·rename_i hone;injection hb with hb;injection hb with e1 e2;subst e1;subst e2;obtain ⟨res,r1,r2,r3⟩:=rf (place:=fun i=>pl.toArray[i]?) (fun i x hx=>by simpa using hx) parts vals _ z0.cells cs hf hl hd (qR _) (fun y hy=>List.all_eq_true.1 hone y hy);refine ⟨.agg res,run_build w t _ res ?_,by have:=gV r2 r3;simpa using this⟩;simp only [Program.built,h1,h2,h3,h4];exact r1
    ·cases hb
   ·cases hb
  ·rename_i it n e h1 h2;split at hb
   ·rename_i z0 ie h3 h4;split at hb
    ·rename_i hone;injection hb with hb;injection hb with e1 e2;subst e1;subst e2;obtain ⟨res,r1,r2,r3⟩:=rf (place:=fun i=>some (i*ie.size,ie.size)) (fun i x hx=>by
      simp only [List.getElem?_map,Option.map_eq_some_iff] at hx;obtain ⟨y,hy,rfl⟩:=hx;have:=List.getElem?_eq_some_iff.1 hy;obtain ⟨_,rfl⟩:=this;simp) parts vals _ z0.cells cs hf hl hd (qR _) (fun y hy=>List.all_eq_true.1 hone y hy)
     refine ⟨.agg res,run_build w t _ res ?_,by have:=gV r2 r3;simpa using this⟩;simp only [Program.built,h1,h2,h3,h4];exact r1
    ·cases hb
   ·cases hb
  ·cases hb
 ·cases h
theorem MA {fn:Fn} {first caps:List V} {p:Prop} {v:V} {fvals vals:List Value} (h:QJ fn first caps=some (p,v)) (hl:caps.length=vals.length)
 (hd : ∀(i:Nat) c x,caps[i]? = some c→vals[i]? = some x→aJ w I β c x) (hfl:first.length=fvals.length) (hfd : ∀(i:Nat) c x,first[i]? = some c→fvals[i]? = some x→aJ w I β c x) :
 ∃u,(Instr.makeFunc fn fvals.toArray vals.toArray).run P w = .ok u w∧aJ w I β v u:=by
 unfold QJ at h;split at h
 ·rename_i f;split at h
  ·have hf:fvals=[]:=by cases fvals with
    | nil=>rfl
    | cons=>simp at hfl
   subst hf;split at h
   ·rename_i hc;have hda:bR w I β caps vals:=⟨hl,fun i c x hci hx=>aJ.atomA (List.all_eq_true.1 hc c (List.mem_of_getElem? hci)) (hd i c x hci hx)⟩
    split at h
    ·rename_i ds hds;injection h with h;injection h with h1 h2;subst h2;have:=fy hds;subst this;refine ⟨.func (.func f) #[] vals.toArray,rfl,aq.fn f ds vals (by simpa using hl) (fun i c x hci hx =>?_)⟩;exact hda.2 i (.d c) x (by simp [hci]) hx
    ·injection h with h;injection h with h1 h2;subst h2;exact ⟨.func (.func f) #[] vals.toArray,rfl,vals,rfl,hda⟩
   ·cases h
  ·split at h
   ·have hf:vals=[]:=by cases vals with
     | nil=>rfl
     | cons=>simp at hl
    subst hf;simp only [Option.map_eq_some_iff] at h;obtain ⟨ds,hds,e⟩:=h;injection e with h1 h2;subst h2;have:=fy hds;subst this;exact ⟨.func (.func f) fvals.toArray #[],rfl,aq.bf f ds fvals (by simpa using hfl) (fun i c x hci hx=>hfd i (.d c) x (by simp [hci]) hx)⟩
   ·cases h
 ·cases h
end
def nm (β:b7) (id:Nat) (x:Option (Nat × Nat)):b7:=fun j=>if j=id then some x else β j
theorem aU (β:b7) (id:Nat) (x:Option (Nat × Nat)):nm β id x id=some x:=by simp [nm]
theorem aO {β:b7} {id j:Nat} {x:Option (Nat × Nat)} (h:j≠id):nm β id x j=β j:=by simp [nm,h]
theorem gB {β:b7} {id:Nat} {x:Option (Nat × Nat)} (h:β id=none) : ∀j y,β j=some y→nm β id x j=some y:=by
 intro j y hj;by_cases e:j=id
 ·subst e;rw [h] at hj;cases hj
 ·rw [aO e];exact hj
section
variable {w w':World} {I I':Nat→Prop} {β β':b7} {σ σ':ak} {nx:Nat}
theorem ji.keep {id:Nat} {blk:bF} (h:ji w I β id blk) (hb : ∀b,(I b ∨ ∃c,β id=some (some (b,c)))→w'.heap[b]? = w.heap[b]?) (hI : ∀b,I b→I' b) (hn : ∀b c,β id=some (some (b,c)) → ¬I' b)
 (hβ : ∀j y,β j=some y→β' j=some y):ji w' I' β' id blk:=by
 have hbI : ∀b,I b→w'.heap[b]? = w.heap[b]? :=fun b hi=>hb b (.inl hi)
 cases blk with
 | cell cs ty=>
  obtain ⟨b,cap,cur,t,h1,h2,h3,h4⟩:=h;refine ⟨b,cap,cur,t,hβ _ _ h1,(hb b (.inr ⟨cap,h1⟩)).trans h2,hn b cap h1,fun i c hi =>?_⟩;obtain ⟨v,hv,ho,hd⟩:=h4 i c hi;exact ⟨v,hv,ho,hd.keep hbI hI hβ⟩
 | row k es ty=>
  rcases h with ⟨h1,h2⟩|⟨b,cap,cur,t,h1,h2,h3,h4,h5,h6⟩
  ·exact .inl ⟨hβ _ _ h1,h2⟩
  ·refine .inr ⟨b,cap,cur,t,hβ _ _ h1,(hb b (.inr ⟨cap,h1⟩)).trans h2,hn b cap h1,h4,h5,fun i e hi=>⟨(h6 i e hi).1,fun j c hj =>?_⟩⟩;obtain ⟨v,hv,ho,hd⟩:=(h6 i e hi).2 j c hj;exact ⟨v,hv,ho,hd.keep hbI hI⟩
 | map es=>
  obtain ⟨b,cap,ents,clock,h1,h2,h3,h4,h5⟩:=h;refine ⟨b,cap,ents,clock,hβ _ _ h1,(hb b (.inr ⟨cap,h1⟩)).trans h2,hn b cap h1,h4,fun i k x hi =>?_⟩;obtain ⟨m,hm,he,hd⟩:=h5 i k x hi;exact ⟨m,hm,he,hd.keep hbI hI⟩
 | iter s pos=>
  obtain ⟨b,cap,h1,h2,h3⟩:=h;exact ⟨b,cap,hβ _ _ h1,(hb b (.inr ⟨cap,h1⟩)).trans h2,hn b cap h1⟩
 | rc y j e=>
  obtain ⟨b,cap,r,h1,h2,h3,h4,h5⟩:=h;exact ⟨b,cap,r,hβ _ _ h1,(hb b (.inr ⟨cap,h1⟩)).trans h2,hn b cap h1,h4,fun t=>(h5 t).keep hbI hI hβ⟩
theorem ji.bound {id:Nat} {blk:bF} (h:ji w I β id blk) : ∃x,β id=some x:=by
 cases blk with
 | cell cs ty=>obtain ⟨b,cap,cur,t,h1,_⟩:=h;exact ⟨_,h1⟩
 | row k es ty=>
  rcases h with ⟨h1,h2⟩|⟨b,cap,cur,t,h1,_⟩
  ·exact ⟨_,h1⟩
  ·exact ⟨_,h1⟩
 | map es=>obtain ⟨b,cap,ents,clock,h1,_⟩:=h;exact ⟨_,h1⟩
 | iter s pos=>obtain ⟨b,cap,h1,_⟩:=h;exact ⟨_,h1⟩
 | rc y j e=>obtain ⟨b,cap,r,h1,_⟩:=h;exact ⟨_,h1⟩
theorem cQ.get_none (hm:cQ w I β σ nx) {id:Nat} (h:β id=none):σ.get id=none:=by
 cases hg:σ.get id with
 | none=>rfl
 | some blk=>
  obtain ⟨x,hx⟩:=(hm.own id blk hg).bound;rw [h] at hx;cases hx
theorem get_cons (id:Nat) (blk:bF) (σ:ak) (j:Nat):ak.get ((id,blk)::σ) j=if id=j then some blk else σ.get j:=rfl
theorem ar.alloc (hm:cQ w I β σ nx) {id:Nat} (hid:β id=none) (hlt:id<nx) (o:Obj) (cap:Nat) (blk:bF) (hown:ji (w.alloc o) I (nm β id (some (w.heap.size,cap))) id blk) :
 ar w I β σ nx (w.alloc o) I (nm β id (some (w.heap.size,cap))) ((id,blk)::σ) nx where
 mem:=by
  have hx:=gB (x:=some (w.heap.size,cap)) hid;have hg:=hm.get_none hid;refine ⟨fun j b hj =>?_,fun j j' b b' k c c' h1 h2 h3 h4 =>?_,fun j hj =>?_,fun b hb =>?_⟩
  ·rw [get_cons] at hj;split at hj
   ·rename_i e;subst e;injection hj with hj;subst hj;exact hown
   ·refine (hm.own j b hj).keep (fun k hk =>?_) (fun _ h=>h) (fun k c hk=>((hm.own j b hj).not_imm hk).1) hx;have hk':k<w.heap.size:=by
     rcases hk with hk|⟨c,hk⟩
     ·exact hm.lt k hk
     ·exact ((hm.own j b hj).not_imm hk).2
    exact RowKit.Below.heap_alloc w o k hk'
  ·rw [get_cons] at h1 h2;by_cases e1:id=j
   ·by_cases e2:id=j'
    ·omega
    ·exfalso;rw [if_neg e2] at h2;subst e1;rw [aU] at h3;injection h3 with h3;injection h3 with h3;injection h3 with h3 _;rw [aO (Ne.symm e2)] at h4;have:=((hm.own j' b' h2).not_imm h4).2;omega
   ·rw [if_neg e1] at h1;rw [aO (Ne.symm e1)] at h3;by_cases e2:id=j'
    ·exfalso;subst e2;rw [aU] at h4;injection h4 with h4;injection h4 with h4;injection h4 with h4 _;have:=((hm.own j b h1).not_imm h3).2;omega
    ·rw [if_neg e2] at h2;rw [aO (Ne.symm e2)] at h4;exact hm.inj j j' b b' k c c' h1 h2 h3 h4
  ·rw [aO (by omega)];exact hm.free j hj
  ·have:=hm.lt b hb;simp;omega
 os:=rfl
 tape:=rfl
 output:=rfl
 size:=by simp
 block:=fun b hb _=>RowKit.Below.heap_alloc w o b hb
 imm:=fun _ h=>h
 immn:=fun _ h=> .inl h
 bet:=gB hid
 nx:=Nat.le_refl _
 own':=fun b ⟨j,blk',c,h1,h2⟩=>by
  rw [get_cons] at h1;split at h1
  ·rename_i e;subst e;rw [aU] at h2;injection h2 with h2;injection h2 with h2;injection h2 with h2 _;right;omega
  ·rename_i e;rw [aO (Ne.symm e)] at h2;exact .inl ⟨j,blk',c,h1,h2⟩
theorem ar.nilRow (hm:cQ w I β σ nx) {id:Nat} (hid:β id=none) (hlt:id<nx) (k:Nat) {tq:Option Nat} : ar w I β σ nx w I (nm β id none) ((id,.row k [] tq)::σ) nx where
 mem:=by
  have hx:=gB (x:=(none:Option (Nat × Nat))) hid;refine ⟨fun j b hj =>?_,fun j j' b b' k c c' h1 h2 h3 h4 =>?_,fun j hj =>?_,hm.lt⟩
  ·rw [get_cons] at hj;split at hj
   ·rename_i e;subst e;injection hj with hj;subst hj;exact .inl ⟨aU _ _ _,rfl⟩
   ·exact (hm.own j b hj).keep (fun k hk=>rfl) (fun _ h=>h) (fun k c hk=>((hm.own j b hj).not_imm hk).1) hx
  ·rw [get_cons] at h1 h2;by_cases e1:id=j
   ·subst e1;rw [aU] at h3;cases h3
   ·by_cases e2:id=j'
    ·subst e2;rw [aU] at h4;cases h4
    ·rw [if_neg e1] at h1;rw [if_neg e2] at h2;rw [aO (Ne.symm e1)] at h3;rw [aO (Ne.symm e2)] at h4;exact hm.inj j j' b b' _ c c' h1 h2 h3 h4
  ·rw [aO (by omega)];exact hm.free j hj
 os:=rfl
 tape:=rfl
 output:=rfl
 size:=Nat.le_refl _
 block:=fun _ _ _=>rfl
 imm:=fun _ h=>h
 immn:=fun _ h=> .inl h
 bet:=gB hid
 nx:=Nat.le_refl _
 own':=fun b ⟨j,blk',c,h1,h2⟩=>by
  rw [get_cons] at h1;split at h1
  ·rename_i e;subst e;rw [aU] at h2;cases h2
  ·rename_i e;rw [aO (Ne.symm e)] at h2;exact .inl ⟨j,blk',c,h1,h2⟩
theorem A1 {w:World} {b:Nat} {cur:Array Value} {t:TypeId} {fr:Nat × Nat} (hg:w.heap[b]? = some (.cells cur t fr)):w.setRow b cur=w:=by
 have hlt:b<w.heap.size:=(Array.getElem?_eq_some_iff.1 hg).1;have hv:w.heap[b] = .cells cur t fr:=(Array.getElem?_eq_some_iff.1 hg).2;unfold World.setRow;cases w with
 | mk heap tape drawn os output=>
  congr 1;apply Array.ext
  ·simp
  ·intro k h1 h2;simp only [Array.getElem_modify];split
   ·rename_i e;subst e;simp only at hv;rw [hv]
   ·rfl
theorem dE {P:Program} (b:Nat) (t:TypeId) : ∀(vs:List Value) (q i:Nat) (cur:Array Value) (w:World),w.heap[b]? = some (.cells cur t (0,0))→q+i+vs.length≤cur.size→(∀v∈vs,v.oneCell'=true) →
 (storeCells ⟨b,q,none⟩ vs i).run P w = .ok () (w.setRow b (Go.Proofs.YtkkanlcjjpoklaaGreatDoor.setAt cur.toList (q+i) vs).toArray)
 | [],q,i,cur,w,hg,hl,_=>by
  have e:(Go.Proofs.YtkkanlcjjpoklaaGreatDoor.setAt cur.toList (q+i) ([]:List Value)).toArray=cur:=by simp [Go.Proofs.YtkkanlcjjpoklaaGreatDoor.setAt]
  rw [e];have:=A1 hg;rw [this];rfl
 | v::vs,q,i,cur,w,hg,hl,ho=>by
  have hl':q+i+(vs.length+1)≤cur.size:=by simpa using hl
  have hc:w.cell? ⟨b,q+i,none⟩=some cur[q+i]:=by simp [World.cell?,hg,show q+i<cur.size by omega]
  have hf:w.frozen? ⟨b,q+i,none⟩=false:=by simp [World.frozen?,hg]
  have hs:=setCell_eq_setRow w b (q+i) cur t (0,0) v hg;simp only [storeCells,Sem.run_bind,dA];rw [run_store P w _ v _ (ho v (by simp)),hc];simp only [hf,Bool.false_eq_true,if_false,Result.andThen_ok,hs];rw [dE b t vs q (i+1) (cur.setIfInBounds (q+i) v) _ (setRow_heap w b cur _ t (0,0) hg) (by simp;omega) (fun x hx=>ho x (by simp [hx])),setRow_setRow];congr 3;apply List.ext_getElem?;intro j;rw [bj (by simp;omega),bj (by simpa using hl')];simp only [Array.toList_setIfInBounds,List.getElem?_set,List.length_cons,Array.length_toList];by_cases h1:j<q+i
  ·rw [if_pos (by omega),if_pos h1,if_neg (by omega)]
  ·rw [if_neg h1];by_cases h2:j=q+i
   ·subst h2;have h4:q+i<q+(i+1):=by omega
    have h5:q+i<cur.size:=by omega
    have h6:q+i<q+i+(vs.length+1):=by omega
    rw [if_pos h4,if_pos h6];simp [h5]
   ·rw [if_neg (by omega)];by_cases h3:j<q+i+(vs.length+1)
    ·rw [if_pos (by omega),if_pos h3];have:j - (q+i)=(j - (q+(i+1)))+1:=by omega
     rw [this];rfl
    ·rw [if_neg (by omega),if_neg h3,if_neg (by omega)]
theorem ar.setRow (hm:cQ w I β σ nx) {id b cap:Nat} {blk blk':bF} {cur cur':Array Value} {t:TypeId} (hg:σ.get id=some blk) (hb:β id=some (some (b,cap))) (hh:w.heap[b]? = some (.cells cur t (0,0)))
 (hown:ji (w.setRow b cur') I β id blk'):ar w I β σ nx (w.setRow b cur') I β (σ.set id blk') nx where
 mem:=by
  have hs:(σ.get id).isSome=true:=by rw [hg];rfl
  have hnb : ∀k,k≠b→(w.setRow b cur').heap[k]? = w.heap[k]? :=fun k hk=>setRow_other w b k cur' hk
  refine ⟨fun j bl hj =>?_,fun j j' bl bl' k c c' h1 h2 h3 h4 =>?_,hm.free,fun k hk =>?_⟩
  ·rw [ak.get_set hs] at hj;split at hj
   ·rename_i e;subst e;injection hj with hj;subst hj;exact hown
   ·rename_i hne;refine (hm.own j bl hj).keep (fun k hk=>hnb k ?_) (fun _ h=>h) (fun k c hk=>((hm.own j bl hj).not_imm hk).1) (fun _ _ h=>h);rintro rfl;rcases hk with hk|⟨c,hk⟩
    ·exact ((hm.own id blk hg).not_imm hb).1 hk
    ·exact hne (hm.inj j id bl blk k c cap hj hg hk hb)
  ·rw [ak.get_set hs] at h1 h2;have g1 : ∃x,σ.get j=some x:=by
    split at h1
    ·rename_i e;subst e;exact ⟨_,hg⟩
    ·exact ⟨_,h1⟩
   have g2 : ∃x,σ.get j'=some x:=by
    split at h2
    ·rename_i e;subst e;exact ⟨_,hg⟩
    ·exact ⟨_,h2⟩
   obtain ⟨x,g1⟩:=g1;obtain ⟨y,g2⟩:=g2;exact hm.inj j j' x y k c c' g1 g2 h3 h4
  ·simpa using hm.lt k hk
 os:=rfl
 tape:=rfl
 output:=rfl
 size:=by simp
 block:=fun k _ ho=>setRow_other w b k cur' (fun e=>ho ⟨id,blk,cap,hg,by rw [e];exact hb⟩)
 imm:=fun _ h=>h
 immn:=fun _ h=> .inl h
 bet:=fun _ _ h=>h
 nx:=Nat.le_refl _
 own':=fun k ⟨j,bl,c,h1,h2⟩=>by
  rw [ak.get_set (by rw [hg];rfl)] at h1;split at h1
  ·rename_i e;subst e;exact .inl ⟨j,blk,c,hg,h2⟩
  ·exact .inl ⟨j,bl,c,h1,h2⟩
end
def rI (P:Program) (t:Nat) (x:V):PV:=
 match cY P t with
 | some .string=>match x with
  | .d (.lit (.string s))=>some (True,.d (.lit (.int .i64 s.size)))
  | _=>none
 | some .slice=>match x with
  | .d (.lit (.slice none 0 _))=>some (True,.d (.lit (.int .i64 0)))
  | .d (.sd _ _ es)=>some (True,.d (.lit (.int .i64 es.length)))
  | .so _ _ _ n=>some (True,.d (.lit (.int .i64 n)))
  | _=>none
 | _=>none
def CG (mx:Bool) (x y z:V):PV:=
 match x,y,z with
 | .d (.lit (.int k a)),.d (.lit (.int _ b)),.d (.lit (.int _ c))=>some (True,.d (.lit (.int k (if mx=true then max (max a b) c else min (min a b) c))))
 | _,_,_=>none
theorem z9 {w:World} {I:Nat→Prop} {β:b7} {P:Program} {mx:Bool} {x y z:V} {p:Prop} {v:V} {vx vy vz:Value} {ts:Array Nat} {t:Nat} (h:CG mx x y z=some (p,v)) (hx:aJ w I β x vx) (hy:aJ w I β y vy) (hz:aJ w I β z vz) :
 ∃u,(if mx=true then Builtin.max_ ts t #[vx,vy,vz] else Builtin.min_ ts t #[vx,vy,vz]).run P w = .ok u w∧aJ w I β v u:=by
 unfold CG at h;split at h
 ·injection h with h;injection h with h1 h2;subst h2;have:=aA hx;subst this;have:=aA hy;subst this;have:=aA hz;subst this;rename_i k a _ b _ c;cases mx with
  | true=>
   refine ⟨.int k (if c > (if b > a then b else a) then c else (if b > a then b else a)),by simp [Builtin.max_,Builtin.max2],?_⟩;rw [if_pos rfl];have:(if c > (if b > a then b else a) then c else (if b > a then b else a))=max (max a b) c:=by repeat' split<;>omega
   rw [this];exact aq.lit _
  | false=>
   refine ⟨.int k (if c<(if b<a then b else a) then c else (if b<a then b else a)),by simp [Builtin.min_,Builtin.min2],?_⟩;rw [if_neg (by simp)];have:(if c<(if b<a then b else a) then c else (if b<a then b else a))=min (min a b) c:=by repeat' split<;>omega
   rw [this];exact aq.lit _
 ·cases h
def gU (P:Program) (c:Call) (g:Operand→V):PV:=
 match c.callee,c.args.toList,c.argTypes.toList with
 | .builtin .len,[x],[t]=>rI P t (g x)
 | .builtin .max,[x,y],_=>Lf true (g x) (g y)
 | .builtin .min,[x,y],_=>Lf false (g x) (g y)
 | .builtin .unsafeSliceData,[x],_=>Dw (g x)
 | .builtin .max,[x,y,z],_=>CG true (g x) (g y) (g z)
 | .builtin .min,[x,y,z],_=>CG false (g x) (g y) (g z)
 | _,_,_=>none
def bX (P:Program) (op:Op) (g:Operand→V):PV:=
 match op with
 | .move x=>some (True,g x)
 | .assign x=>some (True,g x)
 | .nilCheck x=>lE (g x)
 | .binOp op t x y _=>tT P op t (eA x||eA y) (g x) (g y)
 | .unOp op _ x=>Qs op (g x)
 | .convert s d x=>OZ P s d (g x)
 | .makeInterface t x=>Py P t (g x)
 | .makeFunc fn first caps=>QJ fn (first.toList.map g) (caps.toList.map g)
 | .slice t x lo hi mx=>Ol P t (g x) (lo.map g) (hi.map g) (mx.map g)
 | .fieldAddr t x f=>O8 P t f (g x)
 | .field t x f=>O9 P t f (g x)
 | .indexAddr t x i=>match kH (g i) with|some n=>Cq P t (g x) n|none=>none
 | .index t x i=>match kH (g i) with|some n=>ry P t (g x) n|none=>none
 | .typeAssert x _ t ok=>Qq P (g x) t ok
 | .extract x i=>O5 i (g x)
 | .build t parts=>OK P t (parts.toList.map fun p=>(p.1,g p.2))
 | .call c=>gU P c g
 | _=>none
section
variable {P:Program} {w:World} {I:Nat→Prop} {β:b7}
theorem Gi {t:Nat} {x:V} {p:Prop} {v:V} {val:Value} {ts:Array Nat} {ty:Nat} (h:rI P t x=some (p,v)) (hts:ts[0]? = some t) (hd:aJ w I β x val) :
 ∃u,(Builtin.len_ ts ty #[val]).run P w = .ok u w∧aJ w I β v u:=by
 unfold rI at h;split at h
 ·rename_i hk;split at h
  ·rename_i s;exact mE (kd:= .string) (p:=p) (v:=v) (by simpa [Gh] using h) hk (.inl rfl) hts hd ⟨fun _=>⟨s,rfl⟩,fun _=>rfl⟩
  ·cases h
 ·rename_i hk;split at h
  ·exact mE (kd:= .slice) (p:=p) (v:=v) (by simpa [Gh] using h) hk (.inr rfl) hts hd ⟨fun e=>by simp at e,fun ⟨s,hs⟩=>by simp at hs⟩
  ·exact mE (kd:= .slice) (p:=p) (v:=v) (by simpa [Gh] using h) hk (.inr rfl) hts hd ⟨fun e=>by simp at e,fun ⟨s,hs⟩=>by simp at hs⟩
  ·exact mE (kd:= .slice) (p:=p) (v:=v) (by simpa [Gh] using h) hk (.inr rfl) hts hd ⟨fun e=>by simp at e,fun ⟨s,hs⟩=>by simp at hs⟩
  ·cases h
 ·cases h
theorem xI {g:Operand→V} {ρ:Operand→Value} (hg : ∀x,aJ w I β (g x) (ρ x)) (o:Option Operand):QX w I β (o.map g) (o.map ρ):=by
 cases o with
 | none=>trivial
 | some x=>exact hg x
theorem Az {o:Oper} {g:Operand→V} {a:Act} {p:Prop} {v:V} (h:bX P o.op g=some (p,v)) (hp:p) (hg : ∀x,aJ w I β (g x) (a.eval x)) :
 ∃u,(execOp a.eval o).run P w = .ok (.value u) w∧aJ w I β v u:=by
 unfold bX at h;split at h;case h_1 x ho=>injection h with h;injection h with _ h;subst h;exact ⟨_,by simp [execOp,ho],hg x⟩
 case h_2 x ho=>injection h with h;injection h with _ h;subst h;exact ⟨_,by simp [execOp,ho],hg x⟩
 case h_3 x ho=>exact ⟨_,CI (P:=P) (w:=w) h (hg x) ho rfl⟩
 case h_4 op t x y _ ho=>
  obtain ⟨u,h1,h2⟩:=H3 h hp (hg x) (hg y);exact ⟨u,by simp only [execOp,ho,Sem.run_bind] at h1 ⊢;rw [h1];rfl,h2⟩
 case h_5 op t x ho=>
  obtain ⟨u,h1,h2⟩:=Nu (w:=w) (P:=P) h (hg x);exact ⟨u,by simp [execOp,ho,h1],h2⟩
 case h_6 s d x ho=>
  obtain ⟨u,h1,h2⟩:=LL h (hg x);exact ⟨u,by simp [execOp,ho,h1],h2⟩
 case h_7 t x ho=>
  obtain ⟨u,h1,h2⟩:=MC h (hg x);exact ⟨u,by simp [execOp,ho,h1],h2⟩
 case h_8 fn first caps ho=>
  have hh : ∀(l:Array Operand) (i:Nat) (c:V) (x:Value),(l.toList.map g)[i]? = some c→(l.toList.map a.eval)[i]? = some x→aJ w I β c x:=fun l i c x hc hx=>by
   simp only [List.getElem?_map,Option.map_eq_some_iff] at hc hx;obtain ⟨y,hy,rfl⟩:=hc;obtain ⟨z,hz,rfl⟩:=hx;rw [hy] at hz;injection hz with hz;subst hz;exact hg y
  obtain ⟨u,h1,h2⟩:=MA (P:=P) (w:=w) (I:=I) (β:=β) (fvals:=first.toList.map a.eval) (vals:=caps.toList.map a.eval) h (by simp) (hh caps) (by simp) (hh first);have e0:(first.toList.map a.eval).toArray=first.map a.eval:=by apply Array.toList_inj.1;simp
  rw [e0] at h1;have e:(caps.toList.map a.eval).toArray=caps.map a.eval:=by apply Array.toList_inj.1;simp
  rw [e] at h1;exact ⟨u,by simp [execOp,ho,h1],h2⟩
 case h_9 t x lo hi mx ho=>
  obtain ⟨u,h1,h2⟩:=M5 h hp (hg x) (xI hg lo) (xI hg hi) (xI hg mx);exact ⟨u,by simp [execOp,ho,h1],h2⟩
 case h_10 t x f ho=>
  obtain ⟨u,h1,h2⟩:=L7 h (hg x);exact ⟨u,by simp [execOp,ho,h1],h2⟩
 case h_11 t x f ho=>
  obtain ⟨u,h1,h2⟩:=L9 h (hg x);exact ⟨u,by simp [execOp,ho,h1],h2⟩
 case h_12 t x i ho=>
  split at h
  ·rename_i n hn;obtain ⟨kk,hk⟩:=jK hn (hg i);obtain ⟨u,h1,h2⟩:=Ji (kk:=kk) h hp (hg x);exact ⟨u,by simp [execOp,ho,hk,h1],h2⟩
  ·cases h
 case h_13 t x i ho=>
  split at h
  ·rename_i n hn;obtain ⟨kk,hk⟩:=jK hn (hg i);obtain ⟨u,h1,h2⟩:=F8 (kk:=kk) h hp (hg x);exact ⟨u,by simp [execOp,ho,hk,h1],h2⟩
  ·cases h
 case h_14 x xT t ok ho=>
  obtain ⟨u,h1,h2⟩:=Ng (xT:=xT) h (hg x);exact ⟨u,by simp [execOp,ho,h1],h2⟩
 case h_15 x i ho=>
  obtain ⟨u,h1,h2⟩:=L1 (P:=P) (w:=w) h (hg x);exact ⟨u,by simp [execOp,ho,h1],h2⟩
 case h_16 t parts ho=>
  obtain ⟨u,h1,h2⟩:=Ly (w:=w) (I:=I) (β:=β) (vals:=parts.toList.map fun q=>(q.1,a.eval q.2)) h (by simp) (fun j i c i' x hc hx=>by
   simp only [List.getElem?_map,Option.map_eq_some_iff] at hc hx;obtain ⟨y,hy,hyy⟩:=hc;obtain ⟨z,hz,hzz⟩:=hx;rw [hy] at hz;injection hz with hz;subst hz;injection hyy with e1 e2;injection hzz with e3 e4;subst e1;subst e2;subst e4;exact ⟨e3,hg _⟩)
  have e:(parts.toList.map fun q=>(q.1,a.eval q.2)).toArray=parts.map fun (i,x)=>(i,a.eval x):=by apply Array.toList_inj.1;simp
  rw [e] at h1;exact ⟨u,by simp [execOp,ho,h1],h2⟩
 case h_17 c ho=>
  unfold gU at h;split at h
  ·rename_i x t e1 e2 e3;have e2':c.args = #[x]:=by apply Array.toList_inj.1;simpa using e2
   have e3':c.argTypes = #[t]:=by apply Array.toList_inj.1;simpa using e3
   obtain ⟨u,h1,h2⟩:=Gi (ts:=c.argTypes) (ty:=o.type) h (by simp [e3']) (hg x);refine ⟨u,?_,h2⟩;simp only [execOp,ho,resolve,e1,e2'];simp [invoke,builtin,h1]
  ·rename_i x y e1 e2;have e2':c.args = #[x,y]:=by apply Array.toList_inj.1;simpa using e2
   obtain ⟨u,h1,h2⟩:=Em (P:=P) (w:=w) (ts:=c.argTypes) (t:=o.type) h (hg x) (hg y);refine ⟨u,?_,h2⟩;simp only [execOp,ho,resolve,e1,e2'];simp at h1;simp [invoke,builtin,h1]
  ·rename_i x y e1 e2;have e2':c.args = #[x,y]:=by apply Array.toList_inj.1;simpa using e2
   obtain ⟨u,h1,h2⟩:=Em (P:=P) (w:=w) (ts:=c.argTypes) (t:=o.type) h (hg x) (hg y);refine ⟨u,?_,h2⟩;simp only [execOp,ho,resolve,e1,e2'];simp at h1;simp [invoke,builtin,h1]
  ·rename_i x e1 e2;have e2':c.args = #[x]:=by apply Array.toList_inj.1;simpa using e2
   obtain ⟨u,h1,h2⟩:=KZ (P:=P) (w:=w) (ts:=c.argTypes) (t:=o.type) h (hg x);refine ⟨u,?_,h2⟩;simp only [execOp,ho,resolve,e1,e2'];simp [invoke,builtin,h1]
  ·rename_i x y z e1 e2;have e2':c.args = #[x,y,z]:=by apply Array.toList_inj.1;simpa using e2
   obtain ⟨u,h1,h2⟩:=z9 (P:=P) (w:=w) (ts:=c.argTypes) (t:=o.type) h (hg x) (hg y) (hg z);refine ⟨u,?_,h2⟩;simp only [execOp,ho,resolve,e1,e2'];simp at h1;simp [invoke,builtin,h1]
  ·rename_i x y z e1 e2;have e2':c.args = #[x,y,z]:=by apply Array.toList_inj.1;simpa using e2
   obtain ⟨u,h1,h2⟩:=z9 (P:=P) (w:=w) (ts:=c.argTypes) (t:=o.type) h (hg x) (hg y) (hg z);refine ⟨u,?_,h2⟩;simp only [execOp,ho,resolve,e1,e2'];simp at h1;simp [invoke,builtin,h1]
  ·cases h
 case h_18=>cases h
end
def aH (w:World) (I:Nat→Prop) (k:Nat) (es:List D) (vs:List Value):Prop:=
 vs.length=es.length*k∧(∀x∈vs,x.oneCell'=true) ∧ ∀(i:Nat) e,es[i]? = some e→e.cells.length=k ∧ ∀(j:Nat) c,e.cells[j]? = some c → ∃v,vs[i*k+j]? = some v∧aq w I c v
section
variable {w w':World} {I I':Nat→Prop} {k:Nat}
theorem aH.nil:aH w I k [] []:=⟨by simp,by simp,by simp⟩
theorem aH.keep {es:List D} {vs:List Value} (h:aH w I k es vs) (hb : ∀b,I b→w'.heap[b]? = w.heap[b]?) (hI : ∀b,I b→I' b):aH w' I' k es vs:=
 ⟨h.1,h.2.1,fun i e hi=>⟨(h.2.2 i e hi).1,fun j c hj=>by
  obtain ⟨v,h1,h2⟩:=(h.2.2 i e hi).2 j c hj;exact ⟨v,h1,h2.keep hb hI⟩⟩⟩
theorem aH.append {es fs:List D} {vs us:List Value} (h:aH w I k es vs) (h':aH w I k fs us):aH w I k (es++fs) (vs++us):=by
 obtain ⟨h1,h2,h3⟩:=h;obtain ⟨g1,g2,g3⟩:=h';refine ⟨by simp [h1,g1,Nat.add_mul],fun x hx =>?_,fun i e hi =>?_⟩
 ·rcases List.mem_append.1 hx with hx|hx
  ·exact h2 x hx
  ·exact g2 x hx
 ·rw [List.getElem?_append] at hi;split at hi
  ·rename_i hlt;obtain ⟨q1,q2⟩:=h3 i e hi;refine ⟨q1,fun j c hj =>?_⟩;obtain ⟨v,r1,r2⟩:=q2 j c hj;have hb:=(List.getElem?_eq_some_iff.1 r1).1;exact ⟨v,by rw [List.getElem?_append_left hb];exact r1,r2⟩
  ·rename_i hlt;obtain ⟨q1,q2⟩:=g3 _ e hi;refine ⟨q1,fun j c hj =>?_⟩;obtain ⟨v,r1,r2⟩:=q2 j c hj;have hle:es.length*k≤i*k:=Nat.mul_le_mul_right k (by omega);refine ⟨v,?_,r2⟩;rw [List.getElem?_append_right (by omega),h1];have:(i - es.length)*k=i*k - es.length*k:=Nat.sub_mul _ _ _;rw [this] at r1;rw [show i*k+j - es.length*k=i*k - es.length*k+j from by omega];exact r1
theorem aH.one {e:D} {cs:List Value} (hl:e.cells.length=k) (h1:cs.length=k) (ho : ∀x∈cs,x.oneCell'=true) (hd : ∀(j:Nat) c v,e.cells[j]? = some c→cs[j]? = some v→aq w I c v):aH w I k [e] cs:=by
 refine ⟨by simp [h1],ho,fun i e' hi =>?_⟩;match i,hi with
 | 0,hi=>
  simp at hi;subst hi;refine ⟨hl,fun j c hj =>?_⟩;have hlt:j<cs.length:=by
   have:=(List.getElem?_eq_some_iff.1 hj).1;omega
  exact ⟨cs[j],by simp [hlt],hd j c _ hj (List.getElem?_eq_getElem hlt)⟩
theorem aH.of_cells {b q:Nat} : ∀ {es:List D},(∀(i:Nat) e,es[i]? = some e→e.cells.length=k∧kL w I b (q+i*k) e.cells) → ∃vs,aH w I k es vs ∧ ∀(m:Nat) v,vs[m]? = some v→w.cell? ⟨b,q+m,none⟩=some v
 | [],_=>⟨[],aH.nil,by simp⟩
 | e::es,h=>by
  obtain ⟨h1,h2⟩:=h 0 e rfl;obtain ⟨cs,c1,c2,c3,c4⟩:=h2.list;obtain ⟨vs,v1,v2⟩:=aH.of_cells (b:=b) (q:=q+k) (es:=es) (fun i x hi=>by
   obtain ⟨g1,g2⟩:=h (i+1) x (by simpa using hi);exact ⟨g1,by rw [show q+k+i*k=q+(i+1)*k from by rw [Nat.add_mul];omega];exact g2⟩)
  have r:=aH.append (aH.one h1 (by omega) c3 c4) v1;refine ⟨cs++vs,r,fun m v hm =>?_⟩;rw [List.getElem?_append] at hm;split at hm
  ·have:=c2 m v hm;simpa using this
  ·rename_i hlt;have:=v2 _ v hm;rw [show q+k+(m - cs.length)=q+m from by omega] at this;exact this
theorem aH.own {β:b7} {id b cap:Nat} {t:TypeId} {tq:Option Nat} {es:List D} {vs:List Value} {cur:Array Value} (h:aH w I k es vs) (hb:β id=some (some (b,cap))) (hh:w.heap[b]? = some (.cells cur t (0,0))) (hty:tq.getD t=t) (hI : ¬I b)
 (hcap:es.length≤cap) (hsz:cap*k≤cur.size) (hpre : ∀(m:Nat) v,vs[m]? = some v→cur[m]? = some v):ji w I β id (.row k es tq):=by
 refine .inr ⟨b,cap,cur,t,hb,by rw [hty];exact hh,hI,hcap,hsz,fun i e hi=>⟨(h.2.2 i e hi).1,fun j c hj =>?_⟩⟩;obtain ⟨v,h1,h2⟩:=(h.2.2 i e hi).2 j c hj;exact ⟨v,hpre _ _ h1,h.2.1 v (List.mem_of_getElem? h1),h2⟩
theorem cQ.row_vals {β:b7} {σ:ak} {nx id:Nat} {es:List D} {tq:Option Nat} (hm:cQ w I β σ nx) (h:σ.get id=some (.row k es tq)) {b cap:Nat} (hb:β id=some (some (b,cap))) :
 ∃cur t vs,w.heap[b]? = some (.cells cur (tq.getD t) (0,0)) ∧ ¬I b∧es.length≤cap∧cap*k≤cur.size∧aH w I k es vs ∧ ∀(m:Nat) v,vs[m]? = some v→cur[m]? = some v:=by
 obtain ⟨cur,t,h1,h2,h3,h4,h5⟩:=hm.row_cells h hb;obtain ⟨vs,v1,v2⟩:=aH.of_cells (w:=w) (I:=I) (k:=k) (b:=b) (q:=0) (es:=es) (fun i e hi=>by simpa using h5 i e hi);refine ⟨cur,t,vs,h1,h2,h3,h4,v1,fun m v hm =>?_⟩;have:=v2 m v hm;simpa [World.cell?,h1] using this
end
def eN (kk:IntKind) (n:Int):List (Value × D)→Option (Option D)
 | []=>some none
 | (.int kk' n',x)::r=>if kk=kk' then (if n=n' then some (some x) else eN kk n r) else none
 | _::_=>none
def Gt (P:Program) (t:Nat):Option (Nat × IntKind):=match P.underlying t with
 | some (.map k e)=>match P.underlying k with
  | some (.int kk)=>some (e,kk)
  | _=>none
 | _=>none
def gO (P:Program) (k:Nat) (ks:List CK):Prop:=lV P k ks ∧ ∀(b:Bool) (vs:List Value) (w:World),b9 ks vs→(Instr.checkKey b 10000 k (.agg vs.toArray)).run P w = .ok () w
def CD (P:Program) (t:Nat):Option (Nat × Nat):=match P.underlying t with
 | some (.map k e)=>match P.underlying k with
  | some (.struct _)=>some (e,k)
  | _=>none
 | _=>none
def ey:List CK→List Value→Bool
 | [],[]=>true
 | .int k::r,.int k' _::s=>(k==k')&&ey r s
 | .bool::r,.bool _::s=>ey r s
 | .str::r,.string _::s=>ey r s
 | _,_=>false
def d8 (ks:List CK) (vs:List Value):List (Value × D)→Option (Option D)
 | []=>some none
 | (.agg cs,x)::r=>if ey ks cs.toList=true then (if bB vs cs.toList=true then some (some x) else d8 ks vs r) else none
 | _::_=>none
def RJ (P:Program) (t:Nat) (m k:V) (ok:Bool) (σ:ak):Option (Prop × V × ak):=match CD P t,m,k with
 | some (e,kt),.mo id,.d (.agg ds)=>match gQ ds,cR ds,σ.get id with
  | some ks,some vs,some (.map es)=>match d8 ks vs es with
   | some (some x)=>if ok=true then some (gO P kt ks,.tup [.d x,.d (.lit (.bool true))],σ) else some (gO P kt ks,.d x,σ)
   | some none=>match NI P e with
    | some z=>if ok=true then some (gO P kt ks,.tup [.d z,.d (.lit (.bool false))],σ) else some (gO P kt ks,.d z,σ)
    | none=>none
   | none=>none
  | _,_,_=>none
 | _,_,_=>none
def RK (P:Program) (t:Nat) (m k x:V) (σ:ak):Option (Prop × V × ak):=match CD P t,m,k,x with
 | some (_,kt),.mo id,.d (.agg ds),.d y=>match gQ ds,cR ds,σ.get id with
  | some ks,some vs,some (.map es)=>match d8 ks vs es with
   | some none=>some (gO P kt ks,.unk,σ.set id (.map (es++[(.agg vs.toArray,y)])))
   | _=>none
  | _,_,_=>none
 | _,_,_,_=>none
def Px (P:Program) (t:Nat) (m k:V) (ok:Bool) (σ:ak):Option (Prop × V × ak):=match Gt P t,m,k with
 | some (e,_),.mo id,.d (.lit (.int kk n))=>match σ.get id with
  | some (.map es)=>match eN kk n es with
   | some (some x)=>if ok=true then some (True,.tup [.d x,.d (.lit (.bool true))],σ) else some (True,.d x,σ)
   | some none=>match NI P e with
    | some z=>if ok=true then some (True,.tup [.d z,.d (.lit (.bool false))],σ) else some (True,.d z,σ)
    | none=>none
   | none=>none
  | _=>none
 | _,_,_=>RJ P t m k ok σ
def PC (P:Program) (t:Nat) (m k x:V) (σ:ak):Option (Prop × V × ak):=match Gt P t,m,k,x with
 | some _,.mo id,.d (.lit (.int kk n)),.d y=>match σ.get id with
  | some (.map es)=>match eN kk n es with
   | some none=>some (True,.unk,σ.set id (.map (es++[(.int kk n,y)])))
   | _=>none
  | _=>none
 | _,_,_,_=>RK P t m k x σ
section
variable {P:Program} {w:World} {I:Nat→Prop} {β:b7} {σ:ak} {nx:Nat}
theorem vu {t e:Nat} {kk:IntKind} (h:Gt P t=some (e,kk)) : ∃k,P.underlying t=some (.map k e)∧P.underlying k=some (.int kk):=by
 unfold Gt at h;split at h
 ·rename_i k e' hu;split at h
  ·rename_i kk' hk;injection h with h;injection h with h1 h2;subst h1;subst h2;exact ⟨k,hu,hk⟩
  ·cases h
 ·cases h
theorem mT {k:Nat} {kk q:IntKind} {n:Int} (h:P.underlying k=some (.int kk)) (b:Bool) (w:World) : ∀m,(Instr.checkKey b (m+1) k (.int q n)).run P w = .ok () w:=fun m=>by
 simp [Instr.checkKey,run_underlying h]
theorem li {kk q:IntKind} {n:Int} : ∀(es:List (Value × D)) (ents:List MapEntry) (i:Nat),ents.length=es.length→(∀(j:Nat) k x,es[j]? = some (k,x) → ∃m,ents[j]? = some m∧m.key=k∧aq w I x m.val) →
 (eN kk n es=some none→Instr.findNow (.int q) (.int kk n) ents i=some none) ∧ ∀x,eN kk n es=some (some x) → ∃j v,Instr.findNow (.int q) (.int kk n) ents i=some (some (j,v))∧aq w I x v
 | [],[],i,_,_=>⟨fun _=>rfl,fun x h=>by cases h⟩
 | [],_::_,_,h,_=>by simp at h
 | _::_,[],_,h,_=>by simp at h
 | (k,y)::es,m::ents,i,hl,hd=>by
  obtain ⟨m',h1,h2,h3⟩:=hd 0 k y rfl;simp only [List.getElem?_cons_zero,Option.some.injEq] at h1;subst h1;have ih:=li (kk:=kk) (q:=q) (n:=n) es ents (i+1) (by simpa using hl) (fun j k x hj=>hd (j+1) k x (by simpa using hj));cases k with
  | int kk' n'=>
   by_cases hk:kk=kk'
   ·subst hk;by_cases hn:n=n'
    ·subst hn;refine ⟨fun h=>by simp [eN] at h,fun x h =>?_⟩;simp only [eN,if_true,Option.some.injEq] at h;subst h;exact ⟨i,m.val,by simp [Instr.findNow,Instr.sameNow,h2],h3⟩
    ·refine ⟨fun h =>?_,fun x h =>?_⟩
     ·simp only [eN,if_true,hn,if_false] at h;simp only [Instr.findNow,Instr.sameNow,h2,if_true];rw [show (n==n')=false by simpa using hn];exact ih.1 h
     ·simp only [eN,if_true,hn,if_false] at h;obtain ⟨j,v,g1,g2⟩:=ih.2 x h;refine ⟨j,v,?_,g2⟩;simp only [Instr.findNow,Instr.sameNow,h2,if_true];rw [show (n==n')=false by simpa using hn];exact g1
   ·exact ⟨fun h=>by simp [eN,hk] at h,fun x h=>by simp [eN,hk] at h⟩
  | _=>exact ⟨fun h=>by simp [eN] at h,fun x h=>by simp [eN] at h⟩
theorem ar.setObj (hm:cQ w I β σ nx) {i b cap:Nat} {blk blk':bF} (hg:σ.get i=some blk) (hb:β i=some (some (b,cap))) (o:Obj) (hown:ji { w with heap:=w.heap.setIfInBounds b o } I β i blk') :
 ar w I β σ nx { w with heap:=w.heap.setIfInBounds b o } I β (σ.set i blk') nx:=by
 have hs:(σ.get i).isSome=true:=by rw [hg];rfl
 have hbl:=((hm.own i _ hg).not_imm hb)
 have hnb : ∀k,k≠b→({ w with heap:=w.heap.setIfInBounds b o } : World).heap[k]? = w.heap[k]? :=fun k hk=>by simp [Array.getElem?_setIfInBounds_ne (Ne.symm hk)]
 refine ⟨⟨fun j bl hj =>?_,fun j j' bl bl' k c c' h1 h2 h3 h4 =>?_,hm.free,fun k hk=>by simpa using hm.lt k hk⟩,rfl,rfl,rfl,by simp,fun k _ ho=>hnb k (fun e=>ho ⟨i,_,cap,hg,by rw [e];exact hb⟩),fun _ h=>h,fun _ h=> .inl h,fun _ _ h=>h,Nat.le_refl _,fun k ⟨j,bl,c,h1,h2⟩ =>?_⟩
 ·rw [ak.get_set hs] at hj;split at hj
  ·rename_i e;subst e;injection hj with hj;subst hj;exact hown
  ·rename_i hne;refine (hm.own j bl hj).keep (fun k hk=>hnb k ?_) (fun _ h=>h) (fun k c hk=>((hm.own j bl hj).not_imm hk).1) (fun _ _ h=>h);rintro rfl;rcases hk with hk|⟨c,hk⟩
   ·exact hbl.1 hk
   ·exact hne (hm.inj j i bl _ k c cap hj hg hk hb)
 ·rw [ak.get_set hs] at h1 h2;have g1 : ∃x,σ.get j=some x:=by
   split at h1
   ·rename_i e;subst e;exact ⟨_,hg⟩
   ·exact ⟨_,h1⟩
  have g2 : ∃x,σ.get j'=some x:=by
   split at h2
   ·rename_i e;subst e;exact ⟨_,hg⟩
   ·exact ⟨_,h2⟩
  obtain ⟨x,g1⟩:=g1;obtain ⟨y,g2⟩:=g2;exact hm.inj j j' x y k c c' g1 g2 h3 h4
 ·rw [ak.get_set hs] at h1;split at h1
  ·rename_i e;subst e;exact .inl ⟨j,_,c,hg,h2⟩
  ·exact .inl ⟨j,bl,c,h1,h2⟩
theorem vt {t e k:Nat} (h:CD P t=some (e,k)):P.underlying t=some (.map k e) ∧ ∃fs,P.underlying k=some (.struct fs):=by
 unfold CD at h;split at h
 ·rename_i k' e' hu;split at h
  ·rename_i fs hk;injection h with h;injection h with h1 h2;subst h1;subst h2;exact ⟨hu,fs,hk⟩
  ·cases h
 ·cases h
theorem mw : ∀ {ks:List CK} {vs:List Value},ey ks vs=true→b9 ks vs
 | [],[],_=>trivial
 | .int k::r,.int k' n::s,h=>by
  simp only [ey,Bool.and_eq_true,beq_iff_eq] at h;exact ⟨⟨n,by rw [h.1]⟩,mw h.2⟩
 | .bool::r,.bool b::s,h=>⟨⟨b,rfl⟩,mw (by simpa only [ey] using h)⟩
 | .str::r,.string b::s,h=>⟨⟨b,rfl⟩,mw (by simpa only [ey] using h)⟩
 | [],_::_,h=>by simp [ey] at h
 | _::_,[],h=>by simp [ey] at h
 | .int k::r,.bool _::s,h=>by simp [ey] at h
 | .int k::r,.string _::s,h=>by simp [ey] at h
 | .bool::r,.int _ _::s,h=>by simp [ey] at h
 | .bool::r,.string _::s,h=>by simp [ey] at h
 | .str::r,.int _ _::s,h=>by simp [ey] at h
 | .str::r,.bool _::s,h=>by simp [ey] at h
theorem rh {kt:Nat} {ks:List CK} {vs:List Value} (hk:lV P kt ks) (hv:b9 ks vs) : ∀(es:List (Value × D)) (ents:List MapEntry) (i:Nat),ents.length=es.length→(∀(j:Nat) k x,es[j]? = some (k,x) → ∃m,ents[j]? = some m∧m.key=k∧aq w I x m.val) →
 (d8 ks vs es=some none→(Instr.findAsking kt (.agg vs.toArray) ents i).run P w = .ok none w) ∧ ∀x,d8 ks vs es=some (some x) → ∃j v,(Instr.findAsking kt (.agg vs.toArray) ents i).run P w = .ok (some (j,v)) w∧aq w I x v
 | [],[],i,_,_=>⟨fun _=>rfl,fun x h=>by cases h⟩
 | [],_::_,_,h,_=>by simp at h
 | _::_,[],_,h,_=>by simp at h
 | (k,y)::es,m::ents,i,hl,hd=>by
  obtain ⟨m',h1,h2,h3⟩:=hd 0 k y rfl;simp only [List.getElem?_cons_zero,Option.some.injEq] at h1;subst h1;have ih:=rh hk hv es ents (i+1) (by simpa using hl) (fun j k x hj=>hd (j+1) k x (by simpa using hj));cases k with
  | agg cs=>
   by_cases hf:ey ks cs.toList=true
   ·have he:=hk.2 vs cs.toList w hv (mw hf);rw [Array.toArray_toList] at he;by_cases hq:bB vs cs.toList=true
    ·refine ⟨fun h=>by simp [d8,hf,hq] at h,fun x h =>?_⟩;simp only [d8,hf,hq,if_true,Option.some.injEq] at h;subst h;rw [hq] at he;exact ⟨i,m.val,by simp [Instr.findAsking,h2,he],h3⟩
    ·have hq':bB vs cs.toList=false:=by simpa using hq
     rw [hq'] at he;refine ⟨fun h =>?_,fun x h =>?_⟩
     ·simp only [d8,hf,hq',if_true,Bool.false_eq_true,if_false] at h;simpa [Instr.findAsking,h2,he] using ih.1 h
     ·simp only [d8,hf,hq',if_true,Bool.false_eq_true,if_false] at h;obtain ⟨j,v,g1,g2⟩:=ih.2 x h;exact ⟨j,v,by simpa [Instr.findAsking,h2,he] using g1,g2⟩
   ·exact ⟨fun h=>by simp [d8,hf] at h,fun x h=>by simp [d8,hf] at h⟩
  | _=>exact ⟨fun h=>by simp [d8] at h,fun x h=>by simp [d8] at h⟩
theorem vc {kt:Nat} {fs:Array Field} {k:Value} (hu:P.underlying kt=some (.struct fs)) (ents:List MapEntry):(Instr.findKey kt k ents).run P w=(Instr.findAsking kt k ents).run P w:=by
 cases ents with
 | nil=>simp [Instr.findKey,run_underlying hu,Instr.findNow,Instr.findAsking]
 | cons e r=>
  have:Instr.findNow (.struct fs) k (e::r) 0=none:=by simp [Instr.findNow,Instr.sameNow]
  simp [Instr.findKey,run_underlying hu,this]
theorem Gq {t:Nat} {m k:V} {ok:Bool} {p:Prop} {v:V} {new:ak} {mv kv:Value} (h:RJ P t m k ok σ=some (p,v,new)) (hp:p) (hm:cQ w I β σ nx) (hdm:aJ w I β m mv) (hdk:aJ w I β k kv) :
 new=σ ∧ ∃u,(Instr.lookup t mv kv ok).run P w = .ok u w∧aJ w I β v u:=by
 unfold RJ at h;split at h;rotate_left
 ·cases h
 rename_i e kt id ds ht;obtain ⟨hu,fs,hk⟩:=vt ht;obtain ⟨b,cap,hb,rfl⟩:=hdm;split at h;rotate_left
 ·cases h
 rename_i ks vs es hck hlt hg;have hfit:=mc hlt hck;obtain ⟨cs,rfl,hl,_,hcs⟩:=iF hdk;have hvs:=jH hlt hl hcs;subst hvs;obtain ⟨b',cap',ents,clock,q1,q2,q3,q4,q5⟩:=hm.own id _ hg;rw [hb] at q1;injection q1 with q1;injection q1 with q1;injection q1 with q1 _;subst q1;have hgo:(getObj b).run P w = .ok (.map ents clock) w:=by simp [getObj,Sem.run,q2]
 have key:gO P kt ks → ∃r,(d8 ks cs es=some none→r=none)∧(∀x,d8 ks cs es=some (some x) → ∃j v,r=some (j,v)∧aq w I x v)∧(d8 ks cs es≠none→(Instr.findKey kt (.agg cs.toArray) ents.toList).run P w = .ok r w):=by
  intro hko;have F:=rh (w:=w) (I:=I) hko.1 hfit es ents.toList 0 (by simpa using q4) (fun j k x hj=>by
   obtain ⟨m,m1,m2,m3⟩:=q5 j k x hj;exact ⟨m,by simpa using m1,m2,m3⟩)
  rw [vc hk];cases hf:d8 ks cs es with
  | none=>exact ⟨none,fun h=>(nomatch h),fun x h=>(nomatch h),fun h=>(h rfl).elim⟩
  | some o=>
   cases o with
   | none=>exact ⟨none,fun _=>rfl,fun x h=>(nomatch h),fun _=>F.1 hf⟩
   | some x=>
    obtain ⟨j,v,g1,g2⟩:=F.2 x hf;exact ⟨some (j,v),fun h=>(nomatch h),fun y h=>(by injection h with h;injection h with h;subst h;exact ⟨j,v,rfl,g2⟩),fun _=>g1⟩
 split at h
 ·rename_i x hx;cases ok with
  | true=>
   simp only [if_true,Option.some.injEq,Prod.mk.injEq] at h;obtain ⟨rfl,rfl,rfl⟩:=h;obtain ⟨r,k1,k2,k3⟩:=key hp;obtain ⟨j,u,rfl,g2⟩:=k2 x hx;have h3:=k3 (by rw [hx];simp);exact ⟨rfl,_,by simp [Instr.lookup,run_underlying hu,hgo,hp.2 _ _ w hfit,h3],Du g2 (aq.lit _)⟩
  | false=>
   simp only [Bool.false_eq_true,if_false,Option.some.injEq,Prod.mk.injEq] at h;obtain ⟨rfl,rfl,rfl⟩:=h;obtain ⟨r,k1,k2,k3⟩:=key hp;obtain ⟨j,u,rfl,g2⟩:=k2 x hx;have h3:=k3 (by rw [hx];simp);exact ⟨rfl,u,by simp [Instr.lookup,run_underlying hu,hgo,hp.2 _ _ w hfit,h3],g2⟩
 ·rename_i hx;split at h
  ·rename_i z hz;obtain ⟨zv,hzv,hzd⟩:=qm (w:=w) (I:=I) hz;cases ok with
   | true=>
    simp only [if_true,Option.some.injEq,Prod.mk.injEq] at h;obtain ⟨rfl,rfl,rfl⟩:=h;obtain ⟨r,k1,k2,k3⟩:=key hp;have h3:=k3 (by rw [hx];simp);rw [k1 hx] at h3;exact ⟨rfl,_,by simp [Instr.lookup,run_underlying hu,hgo,hp.2 _ _ w hfit,h3,hzv],Du hzd (aq.lit _)⟩
   | false=>
    simp only [Bool.false_eq_true,if_false,Option.some.injEq,Prod.mk.injEq] at h;obtain ⟨rfl,rfl,rfl⟩:=h;obtain ⟨r,k1,k2,k3⟩:=key hp;have h3:=k3 (by rw [hx];simp);rw [k1 hx] at h3;exact ⟨rfl,zv,by simp [Instr.lookup,run_underlying hu,hgo,hp.2 _ _ w hfit,h3,hzv],hzd⟩
  ·cases h
 ·cases h
theorem Gy {t:Nat} {m k x:V} {p:Prop} {v:V} {σ':ak} {mv kv xv:Value} (h:RK P t m k x σ=some (p,v,σ')) (hp:p) (hm:cQ w I β σ nx) (hdm:aJ w I β m mv) (hdk:aJ w I β k kv) (hdx:aJ w I β x xv) :
 ∃w',(Instr.mapUpdate t mv kv xv).run P w = .ok () w'∧v = .unk∧ar w I β σ nx w' I β σ' nx:=by
 unfold RK at h;split at h;rotate_left
 ·cases h
 rename_i e kt id ds y ht;obtain ⟨hu,fs,hk⟩:=vt ht;obtain ⟨b,cap,hb,rfl⟩:=hdm;have hdy:aq w I y xv:=hdx;split at h;rotate_left
 ·cases h
 rename_i ks vs es hck hlt hg;have hfit:=mc hlt hck;obtain ⟨cs,rfl,hl,_,hcs⟩:=iF hdk;have hvs:=jH hlt hl hcs;subst hvs;obtain ⟨b',cap',ents,clock,q1,q2,q3,q4,q5⟩:=hm.own id _ hg;rw [hb] at q1;injection q1 with q1;injection q1 with q1;injection q1 with q1 _;subst q1;have hgo:(getObj b).run P w = .ok (.map ents clock) w:=by simp [getObj,Sem.run,q2]
 split at h;rotate_left
 ·cases h
 rename_i hx;simp only [Option.some.injEq,Prod.mk.injEq] at h;obtain ⟨rfl,rfl,rfl⟩:=h;have F:=rh (w:=w) (I:=I) hp.1 hfit es ents.toList 0 (by simpa using q4) (fun j k x hj=>by
  obtain ⟨m,m1,m2,m3⟩:=q5 j k x hj;exact ⟨m,by simpa using m1,m2,m3⟩)
 have h3:(Instr.findKey kt (.agg cs.toArray) ents.toList).run P w = .ok none w:=by rw [vc hk];exact F.1 hx
 have hck':=hp.2 false cs w hfit;have hlt':b<w.heap.size:=((hm.own id _ hg).not_imm hb).2;have hnb : ∀o:Obj,∀k,k≠b→({ w with heap:=w.heap.setIfInBounds b o } : World).heap[k]? = w.heap[k]? :=fun o k hk=>by simp [Array.getElem?_setIfInBounds_ne (Ne.symm hk)]
 have kp : ∀ {o:Obj} {z:D} {u:Value},aq w I z u→aq { w with heap:=w.heap.setIfInBounds b o } I z u:=fun {o} {z} {u} hd=>aq.keep (w:=w) (fun k hk=>hnb o k (fun e=>q3 (e▸hk))) (fun _ h=>h) hd
 refine ⟨{ w with heap:=w.heap.setIfInBounds b (.map (ents.push { key:= .agg cs.toArray,val:=xv,born:=clock }) (clock+1)) },?_,rfl,ar.setObj hm hg hb _ ⟨b,cap,ents.push { key:= .agg cs.toArray,val:=xv,born:=clock },clock+1,hb,by simp [hlt'],q3,by simp [q4],fun j k z hj =>?_⟩⟩
 ·simp only [Instr.mapUpdate,Sem.run_bind,run_underlying hu,Result.andThen_ok,hgo,hck',h3];simp only [setObj,Sem.run,q2]
 ·rcases Nat.lt_trichotomy j es.length with hj'|hj'|hj'
  ·rw [List.getElem?_append_left hj'] at hj;obtain ⟨m,m1,m2,m3⟩:=q5 j k z hj;refine ⟨m,?_,m2,kp m3⟩;rw [Array.getElem?_push,if_neg (by omega)];exact m1
  ·subst hj';rw [List.getElem?_append_right (Nat.le_refl _)] at hj;simp only [Nat.sub_self,List.getElem?_cons_zero,Option.some.injEq,Prod.mk.injEq] at hj;obtain ⟨rfl,rfl⟩:=hj;exact ⟨{ key:= .agg cs.toArray,val:=xv,born:=clock },by rw [←q4];exact Array.getElem?_push_size,rfl,kp hdy⟩
  ·rw [List.getElem?_eq_none (by simp;omega)] at hj;cases hj
theorem Gp {t:Nat} {m k:V} {ok:Bool} {p:Prop} {v:V} {new:ak} {mv kv:Value} (h:Px P t m k ok σ=some (p,v,new)) (hp:p) (hm:cQ w I β σ nx) (hdm:aJ w I β m mv) (hdk:aJ w I β k kv) :
 new=σ ∧ ∃u,(Instr.lookup t mv kv ok).run P w = .ok u w∧aJ w I β v u:=by
 unfold Px at h;split at h;rotate_left
 ·exact Gq h hp hm hdm hdk
 rename_i e kq id kk n ht;obtain ⟨kt,hu,hk⟩:=vu ht;obtain ⟨b,cap,hb,rfl⟩:=hdm;have hkv:=aA hdk;subst hkv;split at h;rotate_left
 ·cases h
 rename_i es hg;obtain ⟨b',cap',ents,clock,q1,q2,q3,q4,q5⟩:=hm.own id _ hg;rw [hb] at q1;injection q1 with q1;injection q1 with q1;injection q1 with q1 _;subst q1;have F:=li (w:=w) (I:=I) (kk:=kk) (q:=kq) (n:=n) es ents.toList 0 (by simpa using q4) (fun j k x hj=>by
  obtain ⟨m,m1,m2,m3⟩:=q5 j k x hj;exact ⟨m,by simpa using m1,m2,m3⟩)
 have hck:=mT (P:=P) (q:=kk) (n:=n) hk ents.isEmpty w 9999;have hfk : ∀r,Instr.findNow (.int kq) (.int kk n) ents.toList 0=some r→(Instr.findKey kt (.int kk n) ents.toList).run P w = .ok r w:=fun r hr=>by
  simp [Instr.findKey,run_underlying hk,hr]
 have hgo:(getObj b).run P w = .ok (.map ents clock) w:=by simp [getObj,Sem.run,q2]
 split at h
 ·rename_i x hx;obtain ⟨j,u,g1,g2⟩:=F.2 x hx;have h3:=hfk _ g1;cases ok with
  | true=>
   simp only [if_true,Option.some.injEq,Prod.mk.injEq] at h;obtain ⟨_,rfl,rfl⟩:=h;exact ⟨rfl,_,by simp [Instr.lookup,run_underlying hu,hgo,hck,h3],Du g2 (aq.lit _)⟩
  | false=>
   simp only [Bool.false_eq_true,if_false,Option.some.injEq,Prod.mk.injEq] at h;obtain ⟨_,rfl,rfl⟩:=h;exact ⟨rfl,u,by simp [Instr.lookup,run_underlying hu,hgo,hck,h3],g2⟩
 ·rename_i hx;have h3:=hfk _ (F.1 hx);split at h
  ·rename_i z hz;obtain ⟨zv,hzv,hzd⟩:=qm (w:=w) (I:=I) hz;cases ok with
   | true=>
    simp only [if_true,Option.some.injEq,Prod.mk.injEq] at h;obtain ⟨_,rfl,rfl⟩:=h;exact ⟨rfl,_,by simp [Instr.lookup,run_underlying hu,hgo,hck,h3,hzv],Du hzd (aq.lit _)⟩
   | false=>
    simp only [Bool.false_eq_true,if_false,Option.some.injEq,Prod.mk.injEq] at h;obtain ⟨_,rfl,rfl⟩:=h;exact ⟨rfl,zv,by simp [Instr.lookup,run_underlying hu,hgo,hck,h3,hzv],hzd⟩
  ·cases h
 ·cases h
theorem Gx {t:Nat} {m k x:V} {p:Prop} {v:V} {σ':ak} {mv kv xv:Value} (h:PC P t m k x σ=some (p,v,σ')) (hp:p) (hm:cQ w I β σ nx) (hdm:aJ w I β m mv) (hdk:aJ w I β k kv) (hdx:aJ w I β x xv) :
 ∃w',(Instr.mapUpdate t mv kv xv).run P w = .ok () w'∧v = .unk∧ar w I β σ nx w' I β σ' nx:=by
 unfold PC at h;split at h;rotate_left
 ·exact Gy h hp hm hdm hdk hdx
 rename_i e id kk n y ht;obtain ⟨e,kq⟩:=e;obtain ⟨kt,hu,hk⟩:=vu ht;obtain ⟨b,cap,hb,rfl⟩:=hdm;have hkv:=aA hdk;subst hkv;have hdy:aq w I y xv:=hdx;split at h;rotate_left
 ·cases h
 rename_i es hg;obtain ⟨b',cap',ents,clock,q1,q2,q3,q4,q5⟩:=hm.own id _ hg;rw [hb] at q1;injection q1 with q1;injection q1 with q1;injection q1 with q1 _;subst q1;have F:=li (w:=w) (I:=I) (kk:=kk) (q:=kq) (n:=n) es ents.toList 0 (by simpa using q4) (fun j k x hj=>by
  obtain ⟨m,m1,m2,m3⟩:=q5 j k x hj;exact ⟨m,by simpa using m1,m2,m3⟩)
 have hck:=mT (P:=P) (q:=kk) (n:=n) hk false w 9999;have hgo:(getObj b).run P w = .ok (.map ents clock) w:=by simp [getObj,Sem.run,q2]
 split at h;rotate_left
 ·cases h
 rename_i hx;have h3:(Instr.findKey kt (.int kk n) ents.toList).run P w = .ok none w:=by simp [Instr.findKey,run_underlying hk,F.1 hx]
 simp only [Option.some.injEq,Prod.mk.injEq] at h;obtain ⟨_,rfl,rfl⟩:=h;have hlt:b<w.heap.size:=((hm.own id _ hg).not_imm hb).2;have hnb : ∀o:Obj,∀k,k≠b→({ w with heap:=w.heap.setIfInBounds b o } : World).heap[k]? = w.heap[k]? :=fun o k hk=>by simp [Array.getElem?_setIfInBounds_ne (Ne.symm hk)]
 have kp : ∀ {o:Obj} {z:D} {u:Value},aq w I z u→aq { w with heap:=w.heap.setIfInBounds b o } I z u:=fun {o} {z} {u} hd=>aq.keep (w:=w) (fun k hk=>hnb o k (fun e=>q3 (e▸hk))) (fun _ h=>h) hd
 refine ⟨{ w with heap:=w.heap.setIfInBounds b (.map (ents.push { key:= .int kk n,val:=xv,born:=clock }) (clock+1)) },?_,rfl,ar.setObj hm hg hb _ ⟨b,cap,ents.push { key:= .int kk n,val:=xv,born:=clock },clock+1,hb,by simp [hlt],q3,by simp [q4],fun j k z hj =>?_⟩⟩
 ·simp only [Instr.mapUpdate,Sem.run_bind,run_underlying hu,Result.andThen_ok,hgo,hck,h3];simp only [setObj,Sem.run,q2]
 ·rcases Nat.lt_trichotomy j es.length with hj'|hj'|hj'
  ·rw [List.getElem?_append_left hj'] at hj;obtain ⟨m,m1,m2,m3⟩:=q5 j k z hj;refine ⟨m,?_,m2,kp m3⟩;rw [Array.getElem?_push,if_neg (by omega)];exact m1
  ·subst hj';rw [List.getElem?_append_right (Nat.le_refl _)] at hj;simp only [Nat.sub_self,List.getElem?_cons_zero,Option.some.injEq,Prod.mk.injEq] at hj;obtain ⟨rfl,rfl⟩:=hj;exact ⟨{ key:= .int kk n,val:=xv,born:=clock },by rw [←q4];exact Array.getElem?_push_size,rfl,kp hdy⟩
  ·rw [List.getElem?_eq_none (by simp;omega)] at hj;cases hj
end
def HO (k:Nat) (x:D):Prop:=x.cells.length=k∧(V.d x).cellOk=true
def iz (k:Nat):List D→Prop
 | []=>True
 | x::r=>HO k x∧iz k r
def xU:Nat→List (Nat × V)→Option (List D)
 | _,[]=>some []
 | n,(i,.d x)::r=>if i=n then (xU (n+1) r).map (x :: ·) else none
 | _,_::_=>none
abbrev jt:=Option (Prop × V × ak)
def Fe (v:V):Option (List V):=if v.cellOk=true then some v.cellsV else match v with
 | .fn f cs=>some [.fn f cs]
 | _=>none
def qv (P:Program) (t:Nat):Option (Nat × Nat):=
 match P.underlying t with
 | some (.slice e)=>match P.info? e with
  | some i=>match i.zero with
   | some z=>if z.cells.size=i.size then some (i.size,i.bytes) else none
   | none=>none
  | none=>none
 | _=>none
def Oa (P:Program) (t:Nat):Option (Nat × Nat × D):=
 match P.underlying t with
 | some (.slice e)=>match P.info? e with
  | some i=>match i.zero with
   | some z=>if z.cells.size=i.size∧z.cells.toList.all (·.oneCell')=true then some (i.size,i.bytes,match z with | .agg cs=> .agg (cs.toList.map .lit)|v=> .lit v) else none
   | none=>none
  | none=>none
 | _=>none
def fb (k:Nat) (σ:ak) (x:V):Option (Prop × List D):=
 match x with
 | .d (.sd k' _ es)=>if k'=k then some (True,es) else none
 | .d (.lit (.slice none 0 _))=>some (True,[])
 | .d (.ne _)=>some (True,[])
 | .so id k' lo n=>match σ.get id with
  | some (.row k'' es _)=>if k'=k∧k''=k then some (lo+n≤es.length,(es.drop lo).take n) else none
  | _=>none
 | .d (.lit (.string s))=>if k=1 then some (True,s.data.toList.map fun b=> .lit (.int .u8 b.toNat)) else none
 | _=>none
def lZ (P:Program) (t:Nat) (x:V):Bool:=
 match cY P t,x with
 | some .string,.d (.lit (.string _))=>true
 | some .string,_=>false
 | some .slice,.d (.lit (.string _))=>false
 | some .slice,_=>true
 | _,_=>false
def fk (n bytes:Nat):Prop:=n≤140737488355328∧n*bytes≤140737488355328
def Rj (P:Program) (t:Nat):Option Nat:=match P.underlying t with
 | some (.slice e)=>some e
 | _=>none
def QM (P:Program) (t:Nat) (x:V):Option Nat:=match x with
 | .d (.lit (.string _))=>Rj P t
 | _=>none
def Pr (P:Program) (t:Nat) (tq:Option Nat):Option Nat:=match tq with
 | none=>none
 | some e=>if Rj P t=some e then some e else none
def Lg (P:Program) (t:Nat):Option Nat:=match P.underlying t with
 | some (.pointer u)=>some u
 | _=>none
def Ks (P:Program) (t:Nat):Option Nat:=match P.underlying t with
 | some (.struct fs)=>match fs.toList with
  | f::_=>if Lg P f.type=some t then some t else none
  | []=>none
 | _=>none
def kK (P:Program) (t:Nat):Option (List Value × Option Nat):=(UO P t).map fun zs=>(zs,Ks P t)
theorem Kt {P:Program} {t:Nat} : (Ks P t).getD t=t:=by
 unfold Ks;split
 ·split
  ·split<;>rfl
  ·rfl
 ·rfl
theorem K6 {P:Program} {t:Nat} {zs:List Value} {tq:Option Nat} (h:kK P t=some (zs,tq)):UO P t=some zs∧tq.getD t=t:=by
 unfold kK at h;simp only [Option.map_eq_some_iff,Prod.mk.injEq] at h;obtain ⟨a,h1,rfl,rfl⟩:=h;exact ⟨h1,Kt⟩
theorem Qa {P:Program} {t e:Nat} (h:P.underlying t=some (.slice e)) (x:V):(QM P t x).getD e=e:=by
 unfold QM;split
 ·simp [Rj,h]
 ·rfl
theorem Ps {P:Program} {t e:Nat} (h:P.underlying t=some (.slice e)) (tq:Option Nat):(Pr P t tq).getD e=e:=by
 unfold Pr;split
 ·rfl
 ·split
  ·rename_i h1;simp only [Rj,h,Option.some.injEq] at h1;simp [h1]
  ·rfl
theorem Jq {P:Program} {t u:Nat} (tq:Option Nat):(Pr P t tq).getD (tq.getD u)=tq.getD u:=by
 unfold Pr;split
 ·rfl
 ·split<;>rfl
def qx (P:Program) (t t':Nat) (s x:V) (σ:ak) (id:Nat):jt:=
 match qv P t with
 | some (k,bytes)=>if lZ P t' x=true then (match fb k σ x with
  | some (p,new)=>match s with
   | .d (.lit (.slice none 0 0))=>some (p∧fk new.length bytes,.so id k 0 new.length,[(id,.row k new (QM P t x))])
   | .d (.sd k' true es)=>if k'=k then some (p∧fk (es++new).length bytes∧(es=[]∨new≠[]),.so id k 0 (es++new).length,[(id,.row k (es++new) (QM P t x))]) else none
   | _=>none
  | none=>none) else none
 | none=>none
def aR (P:Program) (op:Op) (g:Operand→V) (σ:ak) (id:Nat):jt:=
 match op with
 | .alloc t=>match kK P t with
  | some (zs,tq)=>if zs.all (·.oneCell')=true then some (True,.po id 0,[(id,.cell (zs.map fun v=> .d (.lit v)) tq)]) else none
  | none=>none
 | .box _ x=>match Fe (g x) with
  | some cs=>some (True,.po id 0,[(id,.cell cs)])
  | none=>none
 | .buildSlice t n parts=>match qv P t,xU 0 (parts.toList.map fun p=>(p.1,g p.2)) with
  | some (k,_),some es=>if es.length=n∧n*k≤16777216 then some (iz k es,.so id k 0 n,[(id,.row k es)]) else none
  | _,_=>none
 | .range t x=>match cY P t,g x with
  | some .string,.d (.lit (.string s))=>some (True,.it id,[(id,.iter s 0)])
  | _,_=>none
 | .makeSlice t l c=>match kH (g l),kH (g c),Oa P t with
  | some l,some c,some (k,bytes,z)=>some (0≤l∧l≤c∧c≤1099511627776∧c*bytes≤140737488355328,.so id k 0 l.toNat,[(id,.row k (List.replicate l.toNat z))])
  | _,_,_=>none
 | .call c=>match c.callee,c.args.toList,c.argTypes.toList with
  | .builtin .append,[s,x],[t,t']=>qx P t t' (g s) (g x) σ id
  | _,_,_=>none
 | .makeMap _ none=>some (True,.mo id,[(id,.map [])])
 | _=>none
section
variable {P:Program} {w:World} {I:Nat→Prop} {β:b7} {σ:ak} {nx:Nat}
theorem mV {t:Nat} {i:TypeInfo} {z:Value} (hi:P.info? t=some i) (hz:i.zero=some z) (w:World):(zeroValue t).run P w = .ok z w:=by simp [zeroValue,typeInfo,hi,hz]
theorem K9 {t:Nat} {zs:List Value} (h:UO P t=some zs) : ∃i z,P.info? t=some i∧i.zero=some z∧z.cells.toList=zs:=by
 unfold UO at h;cases hi:P.info? t with
 | none=>simp [hi] at h
 | some i=>
  cases hz:i.zero with
  | none=>simp [hi,hz] at h
  | some z=>simp [hi,hz] at h;exact ⟨i,z,rfl,hz,h⟩
theorem qD {v:V} {cs:List V} {x:Value} (h:Fe v=some cs) (hd:aJ w I β v x):cs.length=x.cells.size ∧ ∀(i:Nat) c,cs[i]? = some c → ∃u,x.cells[i]? = some u∧u.oneCell'=true∧aJ w I β c u:=by
 unfold Fe at h;split at h
 ·rename_i hc;injection h with h;subst h;obtain ⟨h1,h2⟩:=lf hd hc;have hl:v.cellsV.length=x.cells.size:=by have:=h1.1;simpa using this
  refine ⟨hl,fun i c hi =>?_⟩;have hlt:i<x.cells.size:=by have:=(List.getElem?_eq_some_iff.1 hi).1;omega
  refine ⟨x.cells[i],by simp [hlt],h2 _ (by simp),?_⟩;have:=h1.2 i c x.cells[i] hi (by simp [hlt]);cases c<;>first|exact this|exact this.elim
 ·split at h
  ·rename_i f cs' hn;injection h with h;subst h;obtain ⟨vs,rfl,hv⟩:=(show ∃vs:List Value,x = .func (.func f) #[] vs.toArray∧bR w I β cs' vs from hd)
   refine ⟨rfl,fun i c hi =>?_⟩;match i,hi with
   | 0,hi=>simp at hi;subst hi;exact ⟨_,rfl,rfl,vs,rfl,hv⟩
  ·cases h
theorem LQ {id:Nat} {x:Option (Nat × Nat)} (h:β id=none) {o:Obj} (hI : ∀b,I b→b<w.heap.size) {v:V} {u:Value} (hd:aJ w I β v u):aJ (w.alloc o) I (nm β id x) v u:=
 hd.keep (fun b hb=>RowKit.Below.heap_alloc w o b (hI b hb)) (fun _ h=>h) (gB h)
theorem mA (w:World) (o:Obj):(w.alloc o).heap[w.heap.size]? = some o:=by
 show (w.heap.push o)[w.heap.size]? = _;simp
theorem vJ (hm:cQ w I β σ nx) {id:Nat} (hid:β id=none) (hlt:id<nx) (t:Nat) {tq:Option Nat} (hty:tq.getD t=t) {cs:List V} {cur:Array Value} (hcs : ∀(i:Nat) c,cs[i]? = some c → ∃u,cur[i]? = some u∧u.oneCell'=true∧aJ w I β c u) :
 ar w I β σ nx (w.alloc (.cells cur t)) I (nm β id (some (w.heap.size,0))) ((id,.cell cs tq)::σ) nx:=by
 refine ar.alloc hm hid hlt _ 0 _ ⟨w.heap.size,0,cur,t,aU _ _ _,by rw [hty];exact mA _ _,fun h =>?_,fun i c hi =>?_⟩
 ·have:=hm.lt _ h;omega
 ·obtain ⟨u,h1,h2,h3⟩:=hcs i c hi;exact ⟨u,h1,h2,LQ hid hm.lt h3⟩
theorem xD (hm:cQ w I β σ nx) {id:Nat} (hid:β id=none) (hlt:id<nx) (t:Nat) {tq:Option Nat} (hty:tq.getD t=t) {k cap:Nat} {es:List D} {vs:List Value} {cur:Array Value} (hr:aH w I k es vs) (hcap:es.length≤cap) (hsz:cap*k≤cur.size)
 (hpre : ∀(m:Nat) v,vs[m]? = some v→cur[m]? = some v) :
 ar w I β σ nx (w.alloc (.cells cur t)) I (nm β id (some (w.heap.size,cap))) ((id,.row k es tq)::σ) nx:=by
 refine ar.alloc hm hid hlt _ cap _ ?_;have hr':aH (w.alloc (.cells cur t)) I k es vs:=hr.keep (fun b hb=>RowKit.Below.heap_alloc w _ b (hm.lt b hb)) (fun _ h=>h);exact hr'.own (aU _ _ _) (mA _ _) hty (by intro h;have:=hm.lt _ h;omega) hcap hsz hpre
theorem qw {t k bytes:Nat} (h:qv P t=some (k,bytes)) : ∃e i z,P.underlying t=some (.slice e)∧P.info? e=some i∧i.zero=some z∧z.cells.size=k∧i.size=k∧i.bytes=bytes:=by
 unfold qv at h;split at h
 ·rename_i e he;split at h
  ·rename_i i hi;split at h
   ·rename_i z hz;split at h
    ·rename_i hs;injection h with h;injection h with h1 h2;exact ⟨e,i,z,he,hi,hz,by omega,h1,h2⟩
    ·cases h
   ·cases h
  ·cases h
 ·cases h
structure OE (P:Program) (w:World) (I:Nat→Prop) (k:Nat) (t':Nat) (x:Value) (new:List D) (vs:List Value):Prop where
 vals:aH w I k new vs
 ty : ∃d,P.underlying t'=some d ∧ ∀k,d ≠ .int k
 len : ∀w',(Builtin.lenOf x).run P w' = .ok new.length w'
 cells' : ∀(m:Nat) w',m≤new.length→(∀b o,w'.cell? ⟨b,o,none⟩=w.cell? ⟨b,o,none⟩)→(Builtin.firstCells k m x).run P w' = .ok (vs.take (m*k)).toArray w'
theorem OE.cells {k t':Nat} {x:Value} {new:List D} {vs:List Value} (h:OE P w I k t' x new vs) (w':World) (hw : ∀b o,w'.cell? ⟨b,o,none⟩=w.cell? ⟨b,o,none⟩):(Builtin.firstCells k new.length x).run P w' = .ok vs.toArray w':=by
 have:=h.cells' new.length w' (Nat.le_refl _) hw;rwa [List.take_of_length_le (by rw [h.vals.1];exact Nat.le_refl _)] at this
theorem gG {k n b q len cap:Nat} {vs:List Value} (hl:vs.length=n*k) (h : ∀(m:Nat) v,vs[m]? = some v→w.cell? ⟨b,q+m,none⟩=some v) :
 (Builtin.firstCells k n (.slice (some ⟨b,q,none⟩) len cap)).run P w = .ok vs.toArray w:=
 run_firstCells_some w k n ⟨b,q,none⟩ len cap vs hl (fun j v hj=>by rw [dA];exact h j v hj)
theorem jC {k n m b q len cap:Nat} {vs:List Value} (hl:vs.length=n*k) (hmn:m≤n) (h : ∀(m:Nat) v,vs[m]? = some v→w.cell? ⟨b,q+m,none⟩=some v) :
 (Builtin.firstCells k m (.slice (some ⟨b,q,none⟩) len cap)).run P w = .ok (vs.take (m*k)).toArray w:=by
 refine gG (n:=m) ?_ (fun j v hj =>?_)
 ·have:m*k≤n*k:=Nat.mul_le_mul_right k hmn;simp;omega
 ·rw [List.getElem?_take] at hj;split at hj
  ·exact h j v hj
  ·cases hj
theorem rE {t:Nat} {kd:Kd} (h:cY P t=some kd) (hk:kd = .string∨kd = .slice) : ∃d,P.underlying t=some d ∧ ∀k,d ≠ .int k:=by
 rcases hk with rfl|rfl
 ·exact ⟨_,dk h,fun k e=>by cases e⟩
 ·obtain ⟨e,he⟩:=eU h;exact ⟨_,he,fun k e=>by cases e⟩
theorem BS {t:Nat} {x:V} (h:lZ P t x=true) : ∃d,P.underlying t=some d ∧ ∀k,d ≠ .int k:=by
 unfold lZ at h;split at h
 ·rename_i hk;exact rE hk (.inl rfl)
 ·cases h
 ·cases h
 ·rename_i hk _;exact rE hk (.inr rfl)
 ·cases h
theorem aH.piece {k:Nat} {es:List D} {vs:List Value} (h:aH w I k es vs) (lo n:Nat):aH w I k ((es.drop lo).take n) ((vs.drop (lo*k)).take (min n (es.length - lo)*k)):=by
 obtain ⟨h1,h2,h3⟩:=h;refine ⟨?_,fun x hx=>h2 x (List.mem_of_mem_drop (List.mem_of_mem_take hx)),fun i e hi =>?_⟩
 ·simp only [List.length_take,List.length_drop,h1];rw [←Nat.sub_mul];have:min n (es.length - lo)*k≤(es.length - lo)*k:=Nat.mul_le_mul_right k (by omega);omega
 ·simp only [List.getElem?_take,List.getElem?_drop] at hi;split at hi
  ·rename_i hlt;obtain ⟨g1,g2⟩:=h3 _ e hi;refine ⟨g1,fun j c hj =>?_⟩;obtain ⟨v,hv,hd⟩:=g2 j c hj;refine ⟨v,?_,hd⟩;have hlo:lo+i<es.length:=(List.getElem?_eq_some_iff.1 hi).1;have hjk:j<k:=by rw [←g1];exact (List.getElem?_eq_some_iff.1 hj).1
   have hb:i*k+j<min n (es.length - lo)*k:=by
    have:(i+1)*k≤min n (es.length - lo)*k:=Nat.mul_le_mul_right k (by omega);rw [Nat.add_mul] at this;omega
   rw [List.getElem?_take,if_pos hb,List.getElem?_drop,←Nat.add_assoc,←Nat.add_mul];exact hv
  ·cases hi
theorem x9 {k:Nat} {σ0:ak} {x:V} {xv:Value} {new:List D} {t':Nat} (hm:cQ w I β σ nx) (hs : ∀i b,σ0.get i=some b→σ.get i=some b) {p:Prop} (h:fb k σ0 x=some (p,new)) (hp:p) (hk:lZ P t' x=true) (hd:aJ w I β x xv) : ∃vs,OE P w I k t' xv new vs:=by
 have hty:=BS hk;unfold fb at h;split at h
 ·split at h
  ·rename_i hkk;subst hkk;injection h with h;injection h with _ h;subst h;have hd':aq w I _ xv:=hd;cases hd' with
   | sd _ _ _ b o cap val hI hk2 hc ho hdd hcap hfull=>
    obtain ⟨vs,v1,v2⟩:=aH.of_cells (w:=w) (I:=I) (k:=_) (b:=b) (q:=o) (fun i e hi=>⟨hk2 i e hi,fun m c hmm=>⟨_,hc i e m c hi hmm,ho i e m c hi hmm,hdd i e m c hi hmm⟩⟩);exact ⟨vs,v1,hty,fun w'=>rfl,fun m w' hmn hw=>jC v1.1 hmn (fun m v hv=>(hw _ _).trans (v2 m v hv))⟩
   | sd0 _ _ a=>
    refine ⟨[],aH.nil,hty,fun w'=>rfl,fun m w' hmn _ =>?_⟩;have:m=0:=by simpa using hmn
    subst this;cases a with
    | none=>simp [Builtin.firstCells]
    | some a=>simp [Builtin.firstCells,loadCells,loadCellsFrom]
  ·cases h
 ·injection h with h;injection h with _ h;subst h;have:=aA hd;subst this;exact ⟨[],aH.nil,hty,fun w'=>rfl,fun m w' hmn _=>by simp [Builtin.firstCells]⟩
 ·injection h with h;injection h with _ h;subst h;obtain ⟨a,c,rfl⟩:=w9 hd;refine ⟨[],aH.nil,hty,fun w'=>rfl,fun m w' hmn _ =>?_⟩;have:m=0:=by simpa using hmn
  subst this;simp [Builtin.firstCells,loadCells,loadCellsFrom]
 ·rename_i id k' lo n;split at h
  ·rename_i k'' es tq hg;split at h
   ·rename_i hkk;obtain ⟨rfl,rfl⟩:=hkk;injection h with h;injection h with hp' h;subst h;subst hp';rcases hd with ⟨hb,rfl,rfl,a,rfl⟩|⟨b,cap,c,hb,g1,g2,rfl⟩
    ·refine ⟨[],by simpa using aH.nil,hty,fun w'=>by simp [Builtin.lenOf],fun m w' hmn _ =>?_⟩;have:m=0:=by simpa using hmn
     subst this;cases a with
     | none=>simp [Builtin.firstCells]
     | some a=>simp [Builtin.firstCells,loadCells,loadCellsFrom]
    ·obtain ⟨cur,t,vs,h1,h2,h3,h4,h5,h6⟩:=hm.row_vals (hs _ _ hg) hb;have hpc:=h5.piece lo n;refine ⟨_,hpc,hty,fun w'=>by simp [Builtin.lenOf];omega,fun m w' hmn hw =>?_⟩;have hl:((es.drop lo).take n).length=n:=by simp;omega
     refine jC hpc.1 hmn (fun m v hv =>?_);rw [hw];simp only [List.getElem?_take,List.getElem?_drop] at hv;split at hv
     ·simp [World.cell?,h1,h6 _ v hv]
     ·cases hv
   ·cases h
  ·cases h
 ·rename_i s;split at h
  ·rename_i hk1;subst hk1;injection h with h;injection h with _ h;subst h;have:=aA hd;subst this;refine ⟨s.data.toList.map fun b=> .int .u8 b.toNat,⟨by simp,by simp [Value.oneCell'],fun i e hi =>?_⟩,hty,fun w'=>by simp [Builtin.lenOf],fun m w' hmn _ =>?_⟩
   ·simp only [List.getElem?_map,Option.map_eq_some_iff] at hi;obtain ⟨y,hy,rfl⟩:=hi;refine ⟨rfl,fun j c hj =>?_⟩;match j,hj with
    | 0,hj=>
     simp [D.cells] at hj;subst hj;exact ⟨_,by simp [hy],aq.lit _⟩
   ·simp only [Builtin.firstCells];refine congrArg (fun z=>Result.ok z w') ?_;apply Array.toList_inj.1;simp
  ·cases h
 ·cases h
theorem yP {t t' ty:Nat} {k bytes:Nat} {e:Nat} {i:TypeInfo} {z:Value} (ht:P.underlying t=some (.slice e)) (hi:P.info? e=some i) (hz:i.zero=some z) (hk:i.size=k) (hby:i.bytes=bytes)
 {x:Value} {new:List D} {vs:List Value} (hs:OE P w I k t' x new vs) {base:Option Addr} {sLen sCap:Nat} {olds:List Value}
 (ho : ∀w',(∀b o,w'.cell? ⟨b,o,none⟩=w.cell? ⟨b,o,none⟩)→(Builtin.firstCells k sLen (.slice base sLen sCap)).run P w' = .ok olds.toArray w')
 (hn:sCap<sLen+new.length) (hf:fk (sLen+new.length) bytes) :
 (Builtin.append_ #[t,t'] ty #[.slice base sLen sCap,x]).run P w = .ok (.slice (some ⟨w.heap.size,0,none⟩) (sLen+new.length) (grownCap w (sLen+new.length) sCap e))
  (w.drew.alloc (.cells (olds.toArray++vs.toArray++Builtin.zeroCells z.cells (grownCap w (sLen+new.length) sCap e - (sLen+new.length))) e)):=by
 subst hk;subst hby;obtain ⟨d,hd,hnd⟩:=hs.ty;have h1 : ¬(sLen+new.length≤sCap):=by omega
 have h63' : ¬(9223372036854775807<((sLen:Int)+(new.length:Int))):=by have:=hf.1;omega
 have h48:=growslice_fits hn hf.2;have h48' : ¬(281474976710656<Builtin.nextslicecap (sLen+new.length) sCap*i.bytes):=by omega
 have hf1:=hs.cells w.drew (fun b o=>rfl);have hf2:=ho w.drew (fun b o=>rfl);have hl:=hs.len;simp [Builtin.append_,run_underlying ht,run_underlying hd,sizeOf,typeInfo,zeroValue,hi,hz,hl,h1,h63',h48',Question.forced,hf1,hf2,newRow,grownCap];congr 2;apply Array.ext';simp [List.append_assoc]
theorem qy {t t' ty:Nat} {k:Nat} {e:Nat} {i:TypeInfo} (ht:P.underlying t=some (.slice e)) (hi:P.info? e=some i) (hk:i.size=k)
 {x:Value} {new:List D} {vs:List Value} (hs:OE P w I k t' x new vs) {base:Option Addr} {sLen sCap:Nat} {w1:World} (hn:sLen+new.length≤sCap)
 (hst:(match base with|some a=>storeCells (a.add (sLen*k)) vs|none=>pure ()).run P w = .ok () w1) :
 (Builtin.append_ #[t,t'] ty #[.slice base sLen sCap,x]).run P w = .ok (.slice base (sLen+new.length) sCap) w1:=by
 subst hk;obtain ⟨d,hd,hnd⟩:=hs.ty;have hf1:=hs.cells w (fun b o=>rfl);have hl:=hs.len;cases base with
 | none=>
  simp at hst;subst hst;simp [Builtin.append_,run_underlying ht,run_underlying hd,sizeOf,typeInfo,hi,hl,hn,hf1]
 | some a=>
  simp only at hst;simp [Builtin.append_,run_underlying ht,run_underlying hd,sizeOf,typeInfo,hi,hl,hn,hf1,hst]
theorem F2 {k:Nat} {e need sCap:Nat} {z:Value} {vs:List Value} (hz:z.cells.size=k) (hl:vs.length=need*k) :
 grownCap w need sCap e*k≤(vs.toArray++Builtin.zeroCells z.cells (grownCap w need sCap e - need)).size ∧ ∀(m:Nat) v,vs[m]? = some v→(vs.toArray++Builtin.zeroCells z.cells (grownCap w need sCap e - need))[m]? = some v:=by
 have hge:=grownCap_ge w need sCap e;constructor
 ·rw [Array.size_append,size_zeroCells,hz];simp only [List.size_toArray,hl];rw [←Nat.add_mul];exact Nat.mul_le_mul_right k (by omega)
 ·intro m v hm;have hlt:=(List.getElem?_eq_some_iff.1 hm).1;rw [Array.getElem?_append_left (by simpa using hlt)];simpa using hm
theorem OE.drew {k t':Nat} {x:Value} {new:List D} {vs:List Value} (h:OE P w I k t' x new vs):aH w.drew I k new vs:=h.vals.keep (fun _ _=>rfl) (fun _ h=>h)
theorem DH (hm:cQ w I β σ nx) {id:Nat} (hid:β id=none) (hlt:id<nx) {k e need sCap:Nat} {tq:Option Nat} (hty:tq.getD e=e) {z:Value} {es:List D} {vs:List Value} (hz:z.cells.size=k) (hr:aH w I k es vs) (hn:es.length=need) :
 ar w I β σ nx (w.drew.alloc (.cells (vs.toArray++Builtin.zeroCells z.cells (grownCap w need sCap e - need)) e)) I (nm β id (some (w.heap.size,grownCap w need sCap e))) ((id,.row k es tq)::σ) nx:=by
 subst hn;obtain ⟨g1,g2⟩:=F2 (w:=w) (e:=e) (sCap:=sCap) (vs:=vs) hz hr.1;refine (ar.drew hm).trans ?_;exact xD hm.drew hid hlt e hty (hr.keep (fun _ _=>rfl) (fun _ h=>h)) (grownCap_ge w _ sCap e) g1 g2
theorem BQ {t t' ty:Nat} {s x:V} {σ0:ak} {id:Nat} {p:Prop} {v:V} {new':ak} {sv xv:Value} (h:qx P t t' s x σ0 id=some (p,v,new')) (hp:p) (hm:cQ w I β σ nx) (hss : ∀i b,σ0.get i=some b→σ.get i=some b)
 (hid:β id=none) (hlt:id<nx) (hds:aJ w I β s sv) (hdx:aJ w I β x xv) :
 ∃u w' β',(Builtin.append_ #[t,t'] ty #[sv,xv]).run P w = .ok u w'∧aJ w' I β' v u∧ar w I β σ nx w' I β' (new'++σ) nx ∧ ∀j,j≠id→β' j=β j:=by
 unfold qx at h;split at h
 ·rename_i k bytes hap;obtain ⟨e,i,z,ht,hi,hz,hzk,hik,hib⟩:=qw hap;split at h
  ·rename_i hkd;split at h
   ·rename_i p' new he;have fin : ∀(base:Option Addr) (es:List D) (olds:List Value),sv = .slice base es.length es.length→aH w I k es olds →
     (∀w',(∀b o,w'.cell? ⟨b,o,none⟩=w.cell? ⟨b,o,none⟩)→(Builtin.firstCells k es.length (.slice base es.length es.length)).run P w' = .ok olds.toArray w') →
     p'→fk (es++new).length bytes→(es=[]∨new≠[]) →
     ∃u w' β',(Builtin.append_ #[t,t'] ty #[sv,xv]).run P w = .ok u w'∧aJ w' I β' (.so id k 0 (es++new).length) u∧ar w I β σ nx w' I β' ([(id,.row k (es++new) (QM P t x))]++σ) nx ∧ ∀j,j≠id→β' j=β j:=by
     intro base es olds hsv hr hfo hp' hfit hne;subst hsv;obtain ⟨vs,hsrc⟩:=x9 (P:=P) (w:=w) (t':=t') hm hss he hp' hkd hdx;by_cases hnil:new=[]
     ·subst hnil;have hes:es=[]:=by rcases hne with h|h;exact h;exact absurd rfl h
      subst hes;have hvs:vs=[]:=List.eq_nil_of_length_eq_zero (by have:=hsrc.vals.1;simpa using this);subst hvs;refine ⟨.slice base 0 0,w,nm β id none,?_,.inl ⟨aU _ _ _,rfl,rfl,base,rfl⟩,ar.nilRow hm hid hlt k,fun j hj=>aO hj⟩;have:=qy (w:=w) (ty:=ty) ht hi hik hsrc (base:=base) (sLen:=0) (sCap:=0) (w1:=w) (by simp) (by cases base<;>rfl);simpa using this
     ·have hpos:0<new.length:=List.length_pos_iff.2 hnil;have hg:=yP (w:=w) (ty:=ty) ht hi hz hik hib hsrc (base:=base) (sLen:=es.length) (sCap:=es.length) (olds:=olds) hfo (by omega) (by simpa using hfit);have hr2:=hr.append hsrc.vals;have hst:=DH (e:=e) (sCap:=es.length) (z:=z) hm hid hlt (Qa ht x) hzk hr2 (need:=es.length+new.length) (by simp);refine ⟨_,_,_,hg,.inr ⟨w.heap.size,grownCap w (es.length+new.length) es.length e,grownCap w (es.length+new.length) es.length e,aU _ _ _,by omega,by simp;exact grownCap_ge w _ _ e,by simp⟩,?_,fun j hj=>aO hj⟩;have e1:olds.toArray++vs.toArray=(olds++vs).toArray:=by simp
      rw [e1];exact hst
    split at h
    ·injection h with h;injection h with h1 h2;injection h2 with h2 h3;subst h1;subst h2;subst h3;have:=aA hds;subst this;have:=fin none [] [] rfl aH.nil (fun w' _=>by simp [Builtin.firstCells]) hp.1 (by simpa using hp.2) (.inl rfl);simpa using this
    ·rename_i k' es;split at h
     ·rename_i hkk;subst hkk;injection h with h;injection h with h1 h2;injection h2 with h2 h3;subst h1;subst h2;subst h3;have hd':aq w I _ sv:=hds;cases hd' with
      | sd0 _ _ a=>exact fin a [] [] rfl aH.nil (fun w' _=>by cases a<;>simp [Builtin.firstCells,loadCells,loadCellsFrom]) hp.1 hp.2.1 hp.2.2
      | sd _ _ _ b o cap val hI hk2 hc ho hdd hcap hfull=>
       have hcl:=hfull rfl;subst hcl;obtain ⟨vs,v1,v2⟩:=aH.of_cells (w:=w) (I:=I) (k:=k') (b:=b) (q:=o) (es:=es) (fun i e hi=>⟨hk2 i e hi,fun m c hmm=>⟨_,hc i e m c hi hmm,ho i e m c hi hmm,hdd i e m c hi hmm⟩⟩);exact fin _ es vs rfl v1 (fun w' hw=>gG v1.1 (fun m v hv=>(hw _ _).trans (v2 m v hv))) hp.1 hp.2.1 hp.2.2
     ·cases h
    ·cases h
   ·cases h
  ·cases h
 ·cases h
end
def KG (P:Program) (t:Nat) (a x:V) (σ:ak):jt:=
 match cF P t,a with
 | some (s,_),.po i o=>match σ.get i,Fe x with
  | some (.cell cs tq),some xs=>if xs.length=s∧o+s≤cs.length then some (True,.unk,σ.set i (.cell (setAt cs o xs) tq)) else none
  | _,_=>none
 | some (s,_),.pe i k ix j=>match σ.get i,x with
  | some (.row k' es tq),.d y=>if k'=k then (if j=0∧s=k then some (ix<es.length∧HO k y,.unk,σ.set i (.row k (es.set ix y) tq))
   else if j+s≤k then some (ix<es.length∧HO s y,.unk,σ.set i (.row k (es.modify ix fun e=> .agg (setAt e.cells j y.cells)) tq)) else none) else none
  | _,_=>none
 | _,_=>none
def tR (P:Program) (t t':Nat) (s x:V) (σ:ak) (id:Nat):jt:=
 match qv P t,s with
 | some (k,bytes),.so i0 k0 lo n=>if lZ P t' x=true∧k0=k then (match σ.get i0,fb k σ x with
  | some (.row k' es tq),some (p,new)=>if k'=k then some (p∧lo=0∧n=es.length∧fk (es++new).length bytes,.so id k 0 (es++new).length,(id,.row k (es++new) (Pr P t tq))::σ.del i0) else none
  | _,_=>none) else none
 | _,_=>none
def NX (P:Program) (t t':Nat) (d x:V) (σ:ak):jt:=
 match sG P t,d with
 | some (k,_),.so i0 k0 lo n=>if lZ P t' x=true∧k0=k then (match σ.get i0,fb k σ x with
  | some (.row k' es tq),some (p,new)=>if k'=k then some (p∧lo+n≤es.length,(.d (.lit (.int .i64 ((min new.length n:Nat):Int))):V),σ.set i0 (.row k (setAt es lo (new.take n)) tq)) else none
  | _,_=>none) else none
 | _,_=>none
def LC (P:Program) (t:Nat):Bool:=match P.underlying t with
 | some (.slice e)=>(match P.underlying e with
  | some (.int .u8)=>true
  | _=>false)
 | _=>false
theorem If {P:Program} {t:Nat} (h:LC P t=true) : ∃e,P.underlying t=some (.slice e)∧P.underlying e=some (.int .u8):=by
 unfold LC at h;split at h
 ·rename_i e hu;split at h
  ·rename_i he;exact ⟨e,hu,he⟩
  ·cases h
 ·cases h
def nQ (y:D):Prop:= ∃n,y = .lit (.int .u8 n)
def jd:D→Int
 | .lit (.int _ n)=>n
 | _=>0
def iA (y:D):UInt8:=UInt8.ofNat (jd y).toNat
def QB (P:Program) (s d:Nat) (x:V) (σ:ak):jt:=
 if (LC P s&&lZ P s x)=true∧cY P d=some .string then (match fb 1 σ x with
  | some (p,es)=>some (p ∧ ∀y∈es,nQ y,.d (.lit (.string ⟨(es.map iA).toArray⟩)),σ)
  | none=>none) else none
section
variable {P:Program} {w:World} {I:Nat→Prop} {β:b7} {σ:ak} {nx:Nat}
theorem pb {t s:Nat} {ag:Bool} (h:cF P t=some (s,ag)) {b q:Nat} {x:Value} {cur:Array Value} {ty:TypeId} (hs:x.cells.size=s) (hh:w.heap[b]? = some (.cells cur ty (0,0))) (hq:q+s≤cur.size) (ho : ∀y∈x.cells.toList,y.oneCell'=true) :
 (Instr.storeAt t (.pointer (some ⟨b,q,none⟩)) x).run P w = .ok () (w.setRow b (Go.Proofs.YtkkanlcjjpoklaaGreatDoor.setAt cur.toList q x.cells.toList).toArray):=by
 have:=dE (P:=P) b ty x.cells.toList q 0 cur w hh (by simp;omega) ho;simp only [Instr.storeAt,Instr.sureAddr,storeVar,Sem.run_bind,Sem.run_pure,Result.andThen_ok,cb h,hs];simpa using this
theorem fU (hm:cQ w I β σ nx) {id b cap:Nat} {blk:bF} (hg:σ.get id=some blk) (hb:β id=some (some (b,cap))) (cur':Array Value) : ∀k,I k→(w.setRow b cur').heap[k]? = w.heap[k]? :=fun k hk=>
 setRow_other w b k cur' (fun e=>((hm.own id blk hg).not_imm hb).1 (e▸hk))
theorem Ff {v:V} {cs:List V} {x:Value} (h:Fe v=some cs) (hd:aJ w I β v x):(∀y∈x.cells.toList,y.oneCell'=true)∧cs.length=x.cells.toList.length:=by
 obtain ⟨h1,h2⟩:=qD h hd;refine ⟨fun y hy =>?_,by simpa using h1⟩;obtain ⟨i,hi,rfl⟩:=List.mem_iff_getElem.1 hy;have hi':i<x.cells.size:=by simpa using hi
 obtain ⟨u,hu,ho,_⟩:=h2 i cs[i] (List.getElem?_eq_getElem (by omega));have:x.cells[i]? = some x.cells[i]:=by simp [hi']
 rw [this] at hu;injection hu with hu;simp [hu,ho]
theorem mr {k:Nat} {y:D} {x:Value} (h:HO k y) (hd:aq w I y x):x.cells.size=k∧(∀u∈x.cells.toList,u.oneCell'=true) ∧ ∀(j:Nat) c,y.cells[j]? = some c → ∃v,x.cells.toList[j]? = some v∧v.oneCell'=true∧aq w I c v:=by
 obtain ⟨g1,g2⟩:=lf (β:=fun _=>none) (show aJ w I (fun _=>none) (.d y) x from hd) h.2;have hl:y.cells.length=x.cells.toList.length:=by have:=g1.1;simpa [V.cellsV] using this
 refine ⟨by have:=h.1;simp at hl;omega,g2,fun j c hj =>?_⟩;have hlt:j<x.cells.toList.length:=by have:=(List.getElem?_eq_some_iff.1 hj).1;omega
 refine ⟨x.cells.toList[j],List.getElem?_eq_getElem hlt,g2 _ (List.getElem_mem hlt),?_⟩;exact g1.2 j (.d c) _ (by simp [V.cellsV,hj]) (List.getElem?_eq_getElem hlt)
theorem kx {i ix k n:Nat} (h:i<ix) (hk:n≤k):i*k+n≤ix*k:=by
 have:(i+1)*k≤ix*k:=Nat.mul_le_mul_right k h;rw [Nat.add_mul] at this;omega
theorem Hi {t:Nat} {a x:V} {p:Prop} {v:V} {σ':ak} {av xv:Value} (h:KG P t a x σ=some (p,v,σ')) (hp:p) (hm:cQ w I β σ nx) (hda:aJ w I β a av) (hdx:aJ w I β x xv) :
 ∃w',(Instr.storeAt t av xv).run P w = .ok () w'∧v = .unk∧ar w I β σ nx w' I β σ' nx:=by
 unfold KG at h;split at h
 ·rename_i s ag i o hld;split at h
  ·rename_i cs tq xs hg hbx;split at h
   ·rename_i hc;obtain ⟨hc1,hc2⟩:=hc;injection h with h;injection h with h1 h2;injection h2 with h2 h3;subst h1;subst h2;subst h3;obtain ⟨b,cap,hb,rfl⟩:=hda;obtain ⟨cur,ty,hh,hnI,hcs⟩:=hm.cell_cells hg hb;obtain ⟨l1,l2⟩:=Ff hbx hdx;obtain ⟨_,l3⟩:=qD hbx hdx;have hcur:cs.length≤cur.size:=by
     rcases Nat.lt_or_ge cur.size cs.length with hlt|hge
     ·obtain ⟨u,hu,_⟩:=hcs cur.size cs[cur.size] (List.getElem?_eq_getElem hlt);simp at hu
     ·exact hge
    have hx:xv.cells.size=s:=by simp at l2;omega
    refine ⟨_,pb hld hx hh (by omega) l1,rfl,?_⟩;refine ar.setRow hm hg hb hh ⟨b,cap,_,ty,hb,setRow_heap w b cur _ _ (0,0) hh,hnI,fun j c hj =>?_⟩;have kp : ∀ {c:V} {u:Value},aJ w I β c u→aJ (w.setRow b (Go.Proofs.YtkkanlcjjpoklaaGreatDoor.setAt cur.toList o xv.cells.toList).toArray) I β c u:=fun hd=>hd.keep (fU hm hg hb _) (fun _ h=>h) (fun _ _ h=>h)
    rw [bj (by omega)] at hj;have e:(Go.Proofs.YtkkanlcjjpoklaaGreatDoor.setAt cur.toList o xv.cells.toList).toArray[j]? = (Go.Proofs.YtkkanlcjjpoklaaGreatDoor.setAt cur.toList o xv.cells.toList)[j]? :=by simp
    rw [e,bj (by simp;omega)];split at hj
    ·rename_i h1;obtain ⟨u,u1,u2,u3⟩:=hcs j c hj;exact ⟨u,by rw [if_pos h1];simpa using u1,u2,kp u3⟩
    ·rename_i h1;rw [if_neg h1];split at hj
     ·rename_i h2;obtain ⟨u,u1,u2,u3⟩:=l3 _ c hj;exact ⟨u,by rw [if_pos (by omega)];simpa using u1,u2,kp u3⟩
     ·rename_i h2;obtain ⟨u,u1,u2,u3⟩:=hcs j c hj;exact ⟨u,by rw [if_neg (by omega)];simpa using u1,u2,kp u3⟩
   ·cases h
  ·cases h
 ·rename_i s ag i k ix j hld;split at h
  ·rename_i k' es tq y hg;split at h
   ·rename_i hk;subst hk;have main : ∀(off:Nat),off+s≤k'→(es':List D)→ix<es.length→HO s y→es'.length=es.length →
     (∀(i:Nat) e,es'[i]? = some e→(i≠ix∧es[i]? = some e)∨(i=ix∧e.cells.length=k' ∧ ∃e0,es[ix]? = some e0 ∧ ∀(m:Nat) c,e.cells[m]? = some c→(off≤m∧m<off+s∧y.cells[m - off]? = some c)∨(¬(off≤m∧m<off+s)∧e0.cells[m]? = some c))) →
     j=off → ∃w',(Instr.storeAt t av xv).run P w = .ok () w'∧ar w I β σ nx w' I β (σ.set i (.row k' es' tq)) nx:=by
     intro off hoff es' hix hfit hlen hes hj;subst hj;obtain ⟨b,cap,hb,rfl⟩:=hda;obtain ⟨cur,ty,hh,hnI,hcap,hsz,hcs⟩:=hm.row_cells hg hb;obtain ⟨l1,l2,l3⟩:=mr hfit (show aq w I y xv from hdx);have hbnd:ix*k'+k'≤cur.size:=by
      have:(ix+1)*k'≤cap*k':=Nat.mul_le_mul_right k' (by omega);rw [Nat.add_mul] at this;omega
     refine ⟨_,pb hld l1 hh (by omega) l2,?_⟩;refine ar.setRow hm hg hb hh (.inr ⟨b,cap,_,ty,hb,setRow_heap w b cur _ _ (0,0) hh,hnI,by omega,?_,fun i e hi =>?_⟩)
     ·simp only [List.size_toArray];rw [dm (by simp;omega)];simpa using hsz
     ·have kp : ∀ {c:D} {u:Value},aq w I c u→aq (w.setRow b (Go.Proofs.YtkkanlcjjpoklaaGreatDoor.setAt cur.toList (ix*k'+j) xv.cells.toList).toArray) I c u:=fun hd=>hd.keep (fU hm hg hb _) (fun _ h=>h)
      have old : ∀(i:Nat) e0 (m:Nat) c,es[i]? = some e0→e0.cells[m]? = some c→m<k' ∧ ∃v,cur[i*k'+m]? = some v∧v.oneCell'=true∧aq w I c v:=by
       intro i e0 m c h1 h2;obtain ⟨g1,g2⟩:=hcs i e0 h1;obtain ⟨v,v1,v2,v3⟩:=g2 m c h2;refine ⟨by rw [←g1];exact (List.getElem?_eq_some_iff.1 h2).1,v,?_,v2,v3⟩;simpa [World.cell?,hh] using v1
      have getc : ∀(n:Nat),(Go.Proofs.YtkkanlcjjpoklaaGreatDoor.setAt cur.toList (ix*k'+j) xv.cells.toList).toArray[n]? = if n<ix*k'+j then cur[n]? else if n<ix*k'+j+s then xv.cells.toList[n - (ix*k'+j)]? else cur[n]? :=by
       intro n;have:(Go.Proofs.YtkkanlcjjpoklaaGreatDoor.setAt cur.toList (ix*k'+j) xv.cells.toList).toArray[n]? = (Go.Proofs.YtkkanlcjjpoklaaGreatDoor.setAt cur.toList (ix*k'+j) xv.cells.toList)[n]? :=by simp
       rw [this,bj (by simp;omega)];have hl:xv.cells.toList.length=s:=by simpa using l1
       rw [hl];simp
      rcases hes i e hi with ⟨hne,h0⟩|⟨rfl,hlk,e0,h0,hcell⟩
      ·refine ⟨(hcs i e h0).1,fun m c hm' =>?_⟩;obtain ⟨hmk,v,v1,v2,v3⟩:=old i e m c h0 hm';refine ⟨v,?_,v2,kp v3⟩;rw [getc];rcases Nat.lt_or_gt_of_ne hne with hlt|hgt
       ·have:=kx (n:=k') hlt (Nat.le_refl _);rw [if_pos (by omega)];exact v1
       ·have:=kx (n:=k') hgt (Nat.le_refl _);rw [if_neg (by omega),if_neg (by omega)];exact v1
      ·refine ⟨hlk,fun m c hm' =>?_⟩;rcases hcell m c hm' with ⟨q1,q2,q3⟩|⟨q1,q3⟩
       ·obtain ⟨v,v1,v2,v3⟩:=l3 _ c q3;refine ⟨v,?_,v2,kp v3⟩;rw [getc,if_neg (by omega),if_pos (by omega),show i*k'+m - (i*k'+j)=m - j from by omega];exact v1
       ·obtain ⟨hmk,v,v1,v2,v3⟩:=old _ e0 m c h0 q3;refine ⟨v,?_,v2,kp v3⟩;rw [getc];by_cases hlt:i*k'+m<i*k'+j
        ·rw [if_pos hlt];exact v1
        ·rw [if_neg hlt,if_neg (by omega)];exact v1
    split at h
    ·rename_i hj;obtain ⟨rfl,rfl⟩:=hj;injection h with h;injection h with h1 h2;injection h2 with h2 h3;subst h1;subst h2;subst h3;obtain ⟨w',g1,g2⟩:=main 0 (by omega) (es.set ix y) hp.1 hp.2 (by simp) (fun i e hi=>by
      rw [List.getElem?_set] at hi;split at hi
      ·rename_i hii;subst hii;split at hi
       ·injection hi with hi;subst hi;right;refine ⟨rfl,hp.2.1,es[ix],List.getElem?_eq_getElem hp.1,fun m c hm'=> .inl ⟨Nat.zero_le _,?_,by simpa using hm'⟩⟩;have:=(List.getElem?_eq_some_iff.1 hm').1;have:=hp.2.1;omega
       ·cases hi
      ·rename_i hne;exact .inl ⟨Ne.symm hne,hi⟩) rfl
     exact ⟨w',g1,rfl,g2⟩
    ·split at h
     ·rename_i hjs;injection h with h;injection h with h1 h2;injection h2 with h2 h3;subst h1;subst h2;subst h3;have hix:=hp.1;obtain ⟨b,cap,hb,_⟩:=id hda;obtain ⟨cur,ty,hh,hnI,hcap,hsz,hcs⟩:=hm.row_cells hg hb;have hk0:=(hcs ix es[ix] (List.getElem?_eq_getElem hix)).1;obtain ⟨w',g1,g2⟩:=main j hjs (es.modify ix fun e=> .agg (Go.Proofs.YtkkanlcjjpoklaaGreatDoor.setAt e.cells j y.cells)) hix hp.2 (by simp) (fun i e hi=>by
       rw [List.getElem?_modify] at hi;by_cases hii:ix=i
       ·subst hii;rw [List.getElem?_eq_getElem hix] at hi;simp at hi;subst hi;right;have hyl:=hp.2.1;refine ⟨rfl,?_,es[ix],List.getElem?_eq_getElem hix,fun m c hm' =>?_⟩
        ·show (Go.Proofs.YtkkanlcjjpoklaaGreatDoor.setAt es[ix].cells j y.cells).length=k';rw [dm (by omega),hk0]
        ·have hm2:(Go.Proofs.YtkkanlcjjpoklaaGreatDoor.setAt es[ix].cells j y.cells)[m]? = some c:=hm';rw [bj (by omega)] at hm2;split at hm2
         ·exact .inr ⟨by omega,hm2⟩
         ·split at hm2
          ·exact .inl ⟨by omega,by omega,hm2⟩
          ·exact .inr ⟨by omega,hm2⟩
       ·simp [hii] at hi;exact .inl ⟨Ne.symm hii,hi⟩) rfl
      exact ⟨w',g1,rfl,g2⟩
     ·cases h
   ·cases h
  ·cases h
 ·cases h
end
section
variable {P:Program} {w:World} {I:Nat→Prop} {β:b7} {σ:ak} {nx:Nat}
theorem cQ.del (hm:cQ w I β σ nx) (i0:Nat):cQ w I β (σ.del i0) nx:=by
 have hg : ∀j b,(σ.del i0).get j=some b→σ.get j=some b:=by
  intro j b hj;rw [ak.get_del] at hj;split at hj
  ·cases hj
  ·exact hj
 exact ⟨fun j b hj=>hm.own j b (hg j b hj),fun j j' b b' k c c' h1 h2 h3 h4=>hm.inj j j' b b' k c c' (hg j b h1) (hg j' b' h2) h3 h4,hm.free,hm.lt⟩
theorem ar.del (hm:cQ w I β σ nx) (i0:Nat):ar w I β σ nx w I β (σ.del i0) nx where
 mem:=hm.del i0
 os:=rfl
 tape:=rfl
 output:=rfl
 size:=Nat.le_refl _
 block:=fun _ _ _=>rfl
 imm:=fun _ h=>h
 immn:=fun _ h=> .inl h
 bet:=fun _ _ h=>h
 nx:=Nat.le_refl _
 own':=fun b ⟨j,bl,c,h1,h2⟩=>by
  rw [ak.get_del] at h1;split at h1
  ·cases h1
  ·exact .inl ⟨j,bl,c,h1,h2⟩
theorem ar.take (hm:cQ w I β σ nx) {i0 id b cap:Nat} {blk blk':bF} {cur cur':Array Value} {t:TypeId} (hg:σ.get i0=some blk) (hb:β i0=some (some (b,cap))) (hid:β id=none) (hlt:id<nx) (hh:w.heap[b]? = some (.cells cur t (0,0)))
 (hown:ji (w.setRow b cur') I (nm β id (some (b,cap))) id blk'):ar w I β σ nx (w.setRow b cur') I (nm β id (some (b,cap))) ((id,blk')::σ.del i0) nx where
 mem:=by
  have hx:=gB (x:=some (b,cap)) hid;have hne:id≠i0:=by rintro rfl;rw [hid] at hb;cases hb
  have hdel : ∀j bl,(σ.del i0).get j=some bl→j≠i0∧σ.get j=some bl:=by
   intro j bl hj;rw [ak.get_del] at hj;split at hj
   ·cases hj
   ·rename_i h;exact ⟨h,hj⟩
  have hnb : ∀k,k≠b→(w.setRow b cur').heap[k]? = w.heap[k]? :=fun k hk=>setRow_other w b k cur' hk
  refine ⟨fun j bl hj =>?_,fun j j' bl bl' k c c' h1 h2 h3 h4 =>?_,fun j hj =>?_,fun k hk=>by simpa using hm.lt k hk⟩
  ·rw [get_cons] at hj;split at hj
   ·rename_i e;subst e;injection hj with hj;subst hj;exact hown
   ·obtain ⟨hj0,hj⟩:=hdel j bl hj;refine (hm.own j bl hj).keep (fun k hk=>hnb k ?_) (fun _ h=>h) (fun k c hk=>((hm.own j bl hj).not_imm hk).1) hx;rintro rfl;rcases hk with hk|⟨c,hk⟩
    ·exact ((hm.own i0 blk hg).not_imm hb).1 hk
    ·exact hj0 (hm.inj j i0 bl blk k c cap hj hg hk hb)
  ·rw [get_cons] at h1 h2;by_cases e1:id=j
   ·by_cases e2:id=j'
    ·omega
    ·exfalso;rw [if_neg e2] at h2;obtain ⟨q1,q2⟩:=hdel j' bl' h2;subst e1;rw [aU] at h3;injection h3 with h3;injection h3 with h3;injection h3 with h3 _;rw [aO (Ne.symm e2)] at h4;subst h3;exact q1 (hm.inj j' i0 bl' blk b c' cap q2 hg h4 hb)
   ·rw [if_neg e1] at h1;obtain ⟨q1,q2⟩:=hdel j bl h1;rw [aO (Ne.symm e1)] at h3;by_cases e2:id=j'
    ·exfalso;subst e2;rw [aU] at h4;injection h4 with h4;injection h4 with h4;injection h4 with h4 _;subst h4;exact q1 (hm.inj j i0 bl blk b c cap q2 hg h3 hb)
    ·rw [if_neg e2] at h2;obtain ⟨q3,q4⟩:=hdel j' bl' h2;rw [aO (Ne.symm e2)] at h4;exact hm.inj j j' bl bl' k c c' q2 q4 h3 h4
  ·rw [aO (by omega)];exact hm.free j hj
 os:=rfl
 tape:=rfl
 output:=rfl
 size:=by simp
 block:=fun k _ ho=>setRow_other w b k cur' (fun e=>ho ⟨i0,blk,cap,hg,by rw [e];exact hb⟩)
 imm:=fun _ h=>h
 immn:=fun _ h=> .inl h
 bet:=gB hid
 nx:=Nat.le_refl _
 own':=fun k ⟨j,bl,c,h1,h2⟩=>by
  rw [get_cons] at h1;split at h1
  ·rename_i e;subst e;rw [aU] at h2;injection h2 with h2;injection h2 with h2;injection h2 with h2 _;subst h2;exact .inl ⟨i0,blk,cap,hg,hb⟩
  ·rename_i e;rw [aO (Ne.symm e)] at h2;rw [ak.get_del] at h1;split at h1
   ·cases h1
   ·exact .inl ⟨j,bl,c,h1,h2⟩
set_option maxHeartbeats 400000 in
theorem BR {t t' ty:Nat} {s x:V} {id:Nat} {p:Prop} {v:V} {σ':ak} {sv xv:Value} (h:tR P t t' s x σ id=some (p,v,σ')) (hp:p) (hm:cQ w I β σ nx) (hid:β id=none) (hlt:id<nx) (hds:aJ w I β s sv) (hdx:aJ w I β x xv) :
 ∃u w' β',(Builtin.append_ #[t,t'] ty #[sv,xv]).run P w = .ok u w'∧aJ w' I β' v u∧ar w I β σ nx w' I β' σ' nx ∧ ∀j,j≠id→β' j=β j:=by
 unfold tR at h;split at h
 ·rename_i k bytes i0 k0 lo n hap;obtain ⟨e,i,z,ht,hi,hz,hzk,hik,hib⟩:=qw hap;split at h
  ·rename_i hc;obtain ⟨hkd,rfl⟩:=hc;split at h
   ·rename_i k' es tq p' new hg he;split at h
    ·rename_i hkk;subst hkk;injection h with h;injection h with h1 h2;injection h2 with h2 h3;subst h1;subst h2;subst h3;obtain ⟨hp',rfl,rfl,hfit⟩:=hp;obtain ⟨vs,hsrc⟩:=x9 (P:=P) (w:=w) (t':=t') hm (fun _ _ h=>h) he hp' hkd hdx;have grow : ∀(base:Option Addr) (c:Nat) (olds:List Value),sv = .slice base es.length c→aH w I k' es olds →
      (∀w',(∀b o,w'.cell? ⟨b,o,none⟩=w.cell? ⟨b,o,none⟩)→(Builtin.firstCells k' es.length (.slice base es.length c)).run P w' = .ok olds.toArray w')→c<es.length+new.length →
      ∃u w' β',(Builtin.append_ #[t,t'] ty #[sv,xv]).run P w = .ok u w'∧aJ w' I β' (.so id k' 0 (es++new).length) u∧ar w I β σ nx w' I β' ((id,.row k' (es++new) (Pr P t tq))::σ.del i0) nx ∧ ∀j,j≠id→β' j=β j:=by
      intro base c olds hsv hr hfo hgt;subst hsv;have hgr:=yP (w:=w) (ty:=ty) ht hi hz hik hib hsrc (base:=base) (sLen:=es.length) (sCap:=c) (olds:=olds) hfo hgt (by simpa using hfit);have hr2:=hr.append hsrc.vals;have hst:=DH (e:=e) (sCap:=c) (z:=z) (hm.del i0) hid hlt (Ps ht tq) hzk hr2 (need:=es.length+new.length) (by simp);refine ⟨_,_,_,hgr,.inr ⟨w.heap.size,grownCap w (es.length+new.length) c e,grownCap w (es.length+new.length) c e,aU _ _ _,by omega,by simp;exact grownCap_ge w _ _ e,by simp⟩,?_,fun j hj=>aO hj⟩;have e1:olds.toArray++vs.toArray=(olds++vs).toArray:=by simp
      rw [e1];exact (ar.del hm i0).trans hst
     rcases hds with ⟨hb,_,hn0,a,rfl⟩|⟨b,cap,c,hb,g1,g2,rfl⟩
     ·have hes:es=[]:=List.eq_nil_of_length_eq_zero hn0;subst hes;by_cases hnil:new=[]
      ·subst hnil;have hvs:vs=[]:=List.eq_nil_of_length_eq_zero (by have:=hsrc.vals.1;simpa using this);subst hvs;refine ⟨.slice a 0 0,w,nm β id none,?_,.inl ⟨aU _ _ _,rfl,rfl,a,rfl⟩,(ar.del hm i0).trans (ar.nilRow (hm.del i0) hid hlt k'),fun j hj=>aO hj⟩;have:=qy (w:=w) (ty:=ty) ht hi hik hsrc (base:=a) (sLen:=0) (sCap:=0) (w1:=w) (by simp) (by cases a<;>rfl);simpa using this
      ·have hpos:0<new.length:=List.length_pos_iff.2 hnil;exact grow a 0 [] rfl aH.nil (fun w' _=>by cases a<;>simp [Builtin.firstCells,loadCells,loadCellsFrom]) (by omega)
     ·obtain ⟨cur,ty0,olds,r1,r2,r3,r4,r5,r6⟩:=hm.row_vals hg hb;have hz0:(⟨b,0*k',none⟩:Addr)=⟨b,0,none⟩:=by simp
      rw [hz0] at grow ⊢;by_cases hroom:es.length+new.length≤c
      ·have hmul:(es.length+new.length)*k'≤cap*k':=Nat.mul_le_mul_right k' (by omega);rw [Nat.add_mul] at hmul;have hvl:=hsrc.vals.1;have hst:=dE (P:=P) b _ vs (es.length*k') 0 cur w r1 (by omega) hsrc.vals.2.1;have hap2:=qy (w:=w) (ty:=ty) ht hi hik hsrc (base:=some ⟨b,0,none⟩) (sLen:=es.length) (sCap:=c) hroom (by simp only [dA];simpa using hst);refine ⟨_,_,nm β id (some (b,cap)),hap2,.inr ⟨b,cap,c,aU _ _ _,by omega,by simpa using hroom,by simp⟩,?_,fun j hj=>aO hj⟩;refine ar.take hm hg hb hid hlt r1 ?_;have hr2:=(r5.append hsrc.vals).keep (w':=w.setRow b (Go.Proofs.YtkkanlcjjpoklaaGreatDoor.setAt cur.toList (es.length*k'+0) vs).toArray) (fU hm hg hb _) (fun _ h=>h);refine hr2.own (aU _ _ _) (setRow_heap w b cur _ _ (0,0) r1) (Jq tq) r2 (by simp;omega) ?_ (fun m u hu =>?_)
       ·simp only [List.size_toArray];rw [dm (by simp;omega)];simpa using r4
       ·have hol:=r5.1;have e2:(Go.Proofs.YtkkanlcjjpoklaaGreatDoor.setAt cur.toList (es.length*k'+0) vs).toArray[m]? = (Go.Proofs.YtkkanlcjjpoklaaGreatDoor.setAt cur.toList (es.length*k'+0) vs)[m]? :=by simp
        rw [e2,bj (by simp;omega)];rw [List.getElem?_append] at hu;split at hu
        ·rename_i hlt2;rw [if_pos (by omega)];simpa using r6 m u hu
        ·rename_i hlt2;have:=(List.getElem?_eq_some_iff.1 hu).1;rw [if_neg (by omega),if_pos (by omega)];rw [hol] at hu;simpa using hu
      ·refine grow _ c olds rfl r5 (fun w' hw =>?_) (by omega);exact gG r5.1 (fun m v hv=>by rw [hw];simp [World.cell?,r1,r6 m v hv])
    ·cases h
   ·cases h
  ·cases h
 ·cases h
end
section
variable {P:Program} {w:World} {I:Nat→Prop} {β:b7} {σ:ak} {nx:Nat}
theorem FD {t t' ty:Nat} {d x:V} {p:Prop} {v:V} {σ':ak} {dv xv:Value} (h:NX P t t' d x σ=some (p,v,σ')) (hp:p) (hm:cQ w I β σ nx) (hdd:aJ w I β d dv) (hdx:aJ w I β x xv) :
 ∃u w',(Builtin.copy_ #[t,t'] ty #[dv,xv]).run P w = .ok u w'∧aJ w' I β v u∧ar w I β σ nx w' I β σ' nx:=by
 unfold NX at h;split at h
 ·rename_i k ag i0 k0 lo n hsl;obtain ⟨e,ht,hle⟩:=m0 hsl;split at h
  ·rename_i hc;obtain ⟨hkd,rfl⟩:=hc;split at h
   ·rename_i k' es tq p' new hg he;split at h
    ·rename_i hkk;subst hkk;injection h with h;injection h with h1 h2;injection h2 with h2 h3;subst h1;subst h2;subst h3;obtain ⟨hp',hln⟩:=hp;obtain ⟨vs,hsrc⟩:=x9 (P:=P) (w:=w) (t':=t') hm (fun _ _ h=>h) he hp' hkd hdx;have hmin:Nat.min new.length n=min new.length n:=rfl;have hf:=hsrc.cells' (min new.length n) w (by omega) (fun _ _=>rfl);have hl:=hsrc.len w;rcases hdd with ⟨hb,hl0,hn0,a,rfl⟩|⟨b,cap,c,hb,g1,g2,rfl⟩
     ·subst hl0;subst hn0;have h0:min new.length 0=0:=by omega
      rw [h0] at hf;have hes:es=[]:=by
       rcases hm.own i0 _ hg with ⟨_,h⟩|⟨b,cap,_,_,h,_⟩
       ·exact h
       ·rw [hb] at h;cases h
      subst hes;refine ⟨.int .i64 0,w,?_,by rw [h0];exact aq.lit _,?_⟩
      ·cases a with
       | none=>simp [Builtin.copy_,run_underlying ht,hl,cb hle,hf,goInt]
       | some a=>simp [Builtin.copy_,run_underlying ht,hl,cb hle,hf,goInt,storeCells]
      ·have e1:Go.Proofs.YtkkanlcjjpoklaaGreatDoor.setAt ([]:List D) 0 (new.take 0)=[]:=by simp [Go.Proofs.YtkkanlcjjpoklaaGreatDoor.setAt]
       rw [e1];have e2:σ.set i0 (.row k' [] tq)=σ:=by
        have : ∀(σ:ak),σ.get i0=some (.row k' [] tq)→σ.set i0 (.row k' [] tq)=σ:=by
         intro σ;induction σ with
         | nil=>intro h;simp [ak.get] at h
         | cons q r ih=>
          obtain ⟨i,bl⟩:=q;intro h;simp only [ak.get,ak.set] at h ⊢;split at h
          ·rename_i hi;injection h with h;subst h;rw [if_pos hi]
          ·rename_i hi;rw [if_neg hi,ih h]
        exact this σ hg
       rw [e2];exact ar.refl hm
     ·obtain ⟨cur,ty0,olds,r1,r2,r3,r4,r5,r6⟩:=hm.row_vals hg hb;have hvl:=hsrc.vals.1;have hol:=r5.1;have hmk:min new.length n*k'≤new.length*k':=Nat.mul_le_mul_right k' (by omega);have hlen:(vs.take (min new.length n*k')).length=min new.length n*k':=by simp;omega
      have hfit:lo*k'+min new.length n*k'≤es.length*k':=by
       rw [←Nat.add_mul];exact Nat.mul_le_mul_right k' (by omega)
      have hcur:es.length*k'≤cur.size:=Nat.le_trans (Nat.mul_le_mul_right k' r3) r4;have hst:=dE (P:=P) b _ (vs.take (min new.length n*k')) (lo*k') 0 cur w r1 (by omega) (fun x hx=>hsrc.vals.2.1 x (List.mem_of_mem_take hx));refine ⟨.int .i64 ((min new.length n:Nat):Int),w.setRow b (Go.Proofs.YtkkanlcjjpoklaaGreatDoor.setAt cur.toList (lo*k'+0) (vs.take (min new.length n*k'))).toArray,?_,aq.lit _,?_⟩
      ·simp only [Builtin.copy_,List.getElem?_toArray,List.getElem?_cons_zero,List.getElem?_cons_succ,Sem.run_bind,run_underlying ht,hl,cb hle,hmin,hf,Result.andThen_ok,hst];rfl
      ·refine ar.setRow hm hg hb r1 ?_;have hnew:aH w I k' (new.take (min new.length n)) (vs.take (min new.length n*k')):=by
        have:=hsrc.vals.piece 0 (min new.length n);simpa [show min (min new.length n) new.length=min new.length n from by omega] using this
       have e1:new.take n=new.take (min new.length n):=by
        rw [List.take_eq_take_iff];omega
       rw [e1];generalize hnn:new.take (min new.length n)=ns at hnew;generalize hvn:vs.take (min new.length n*k')=us at hnew hst hlen;have hnl:ns.length=min new.length n:=by rw [←hnn];simp
       have kp:=fU hm hg hb (Go.Proofs.YtkkanlcjjpoklaaGreatDoor.setAt cur.toList (lo*k'+0) us).toArray;have hnew':=hnew.keep (w':=w.setRow b (Go.Proofs.YtkkanlcjjpoklaaGreatDoor.setAt cur.toList (lo*k'+0) us).toArray) kp (fun _ h=>h);have r5':=r5.keep (w':=w.setRow b (Go.Proofs.YtkkanlcjjpoklaaGreatDoor.setAt cur.toList (lo*k'+0) us).toArray) kp (fun _ h=>h);refine .inr ⟨b,cap,_,ty0,hb,setRow_heap w b cur _ _ (0,0) r1,r2,by rw [dm (by omega)];exact r3,?_,fun i x hi =>?_⟩
       ·simp only [List.size_toArray];rw [dm (by simp;omega)];simpa using r4
       ·have getc : ∀(q:Nat),(Go.Proofs.YtkkanlcjjpoklaaGreatDoor.setAt cur.toList (lo*k'+0) us).toArray[q]? = if q<lo*k' then cur[q]? else if q<lo*k'+min new.length n*k' then us[q - lo*k']? else cur[q]? :=by
         intro q;have:(Go.Proofs.YtkkanlcjjpoklaaGreatDoor.setAt cur.toList (lo*k'+0) us).toArray[q]? = (Go.Proofs.YtkkanlcjjpoklaaGreatDoor.setAt cur.toList (lo*k'+0) us)[q]? :=by simp
         rw [this,bj (by simp;omega),hlen];simp
        rw [bj (by omega),hnl] at hi;split at hi
        ·rename_i h1;obtain ⟨q1,q2⟩:=r5'.2.2 i x hi;refine ⟨q1,fun j c hj =>?_⟩;obtain ⟨v,v1,v2⟩:=q2 j c hj;have hjk:j<k':=by rw [←q1];exact (List.getElem?_eq_some_iff.1 hj).1
         have:=kx (n:=k') h1 (Nat.le_refl _);refine ⟨v,?_,r5'.2.1 v (List.mem_of_getElem? v1),v2⟩;rw [getc,if_pos (by omega)];exact r6 _ v v1
        ·rename_i h1;split at hi
         ·rename_i h2;obtain ⟨q1,q2⟩:=hnew'.2.2 _ x hi;refine ⟨q1,fun j c hj =>?_⟩;obtain ⟨v,v1,v2⟩:=q2 j c hj;have hb2:=(List.getElem?_eq_some_iff.1 v1).1;have e3:(i - lo)*k'=i*k' - lo*k':=Nat.sub_mul _ _ _;have e4:lo*k'≤i*k':=Nat.mul_le_mul_right k' (by omega);refine ⟨v,?_,hnew'.2.1 v (List.mem_of_getElem? v1),v2⟩;rw [getc,if_neg (by omega),if_pos (by omega),show i*k'+j - lo*k'=(i - lo)*k'+j from by omega];exact v1
         ·rename_i h2;obtain ⟨q1,q2⟩:=r5'.2.2 i x hi;refine ⟨q1,fun j c hj =>?_⟩;obtain ⟨v,v1,v2⟩:=q2 j c hj;have e4:(lo+min new.length n)*k'≤i*k':=Nat.mul_le_mul_right k' (by omega);rw [Nat.add_mul] at e4;refine ⟨v,?_,r5'.2.1 v (List.mem_of_getElem? v1),v2⟩;rw [getc,if_neg (by omega),if_neg (by omega)];exact r6 _ v v1
    ·cases h
   ·cases h
  ·cases h
 ·cases h
theorem wt : ∀ {n:Nat} {ps:List (Nat × V)} {es:List D},xU n ps=some es→es.length=ps.length ∧ ∀(j:Nat) i v,ps[j]? = some (i,v)→i=n+j ∧ ∃x,v = .d x∧es[j]? = some x
 | n,[],es,h=>by simp [xU] at h;subst h;simp
 | n,(i,v)::r,es,h=>by
  cases v with
  | d x=>
   simp only [xU] at h;split at h
   ·rename_i hi;subst hi;simp only [Option.map_eq_some_iff] at h;obtain ⟨fs,hf,rfl⟩:=h;obtain ⟨h1,h2⟩:=wt hf;refine ⟨by simp [h1],fun j i' v' hj =>?_⟩;cases j with
    | zero=>simp at hj;obtain ⟨rfl,rfl⟩:=hj;exact ⟨rfl,x,rfl,rfl⟩
    | succ j=>
     obtain ⟨q1,y,q2,q3⟩:=h2 j i' v' (by simpa using hj);exact ⟨by omega,y,q2,by simpa using q3⟩
   ·cases h
  | _=>simp [xU] at h
theorem qt {k:Nat} : ∀ {es:List D},iz k es → ∀(i:Nat) e,es[i]? = some e→HO k e
 | x::r,h,0,e,hi=>by simp at hi;subst hi;exact h.1
 | x::r,h,i+1,e,hi=>qt h.2 i e (by simpa using hi)
theorem zf {k:Nat} : ∀(vals:List (Nat × Value)) (n:Nat) (cells:Array Value),(∀(j:Nat) i x,vals[j]? = some (i,x)→i=n+j∧x.cells.size=k)→(n+vals.length)*k≤cells.size →
 Instr.fill (fun i=>some (i*k,k)) cells vals=some (Go.Proofs.YtkkanlcjjpoklaaGreatDoor.setAt cells.toList (n*k) (vals.flatMap fun p=>p.2.cells.toList)).toArray
 | [],n,cells,_,_=>by simp [Instr.fill,Go.Proofs.YtkkanlcjjpoklaaGreatDoor.setAt]
 | (i,x)::vals,n,cells,h,hl=>by
  obtain ⟨h1,h2⟩:=h 0 i x rfl;have h1':i=n:=by omega
  subst h1';have hl':(i+(vals.length+1))*k≤cells.size:=by simpa using hl
  have hl2:i*k+k+vals.length*k≤cells.size:=by
   rw [Nat.add_mul,Nat.add_mul] at hl';omega
  have hfl:(vals.flatMap fun p=>p.2.cells.toList).length=vals.length*k:=by
   have : ∀(l:List (Nat × Value)),(∀p∈l,p.2.cells.size=k)→(l.flatMap fun p=>p.2.cells.toList).length=l.length*k:=by
    intro l;induction l with
    | nil=>simp
    | cons p r ih=>
     intro hp;have:=hp p (by simp);rw [List.flatMap_cons,List.length_append,ih (fun q hq=>hp q (by simp [hq]))];simp [this,Nat.add_mul];omega
   refine this vals (fun p hp =>?_);obtain ⟨j,hj,rfl⟩:=List.mem_iff_getElem.1 hp;exact (h (j+1) vals[j].1 vals[j].2 (by simp [hj])).2
  unfold Instr.fill;simp only [];rw [if_neg (by simp;omega)];have hf:=rl x.cells.toList (i*k) 0 cells (by simp;omega);have e:Array.foldl (fun cs (p:Value × Nat)=>cs.setIfInBounds (i*k+p.2) p.1) cells x.cells.zipIdx=(Go.Proofs.YtkkanlcjjpoklaaGreatDoor.setAt cells.toList (i*k) x.cells.toList).toArray:=by
   apply Array.toList_inj.1;rw [←Array.foldl_toList,Array.toList_zipIdx];simpa using hf
  have hA:(Go.Proofs.YtkkanlcjjpoklaaGreatDoor.setAt cells.toList (i*k) x.cells.toList).toArray.toList=Go.Proofs.YtkkanlcjjpoklaaGreatDoor.setAt cells.toList (i*k) x.cells.toList:=by simp
  have hAl:(Go.Proofs.YtkkanlcjjpoklaaGreatDoor.setAt cells.toList (i*k) x.cells.toList).length=cells.size:=by rw [dm (by simp;omega)];simp
  have e1:(i+1)*k=i*k+k:=by rw [Nat.add_mul];omega
  rw [e,zf vals (i+1) _ (fun j a b hj=>by
   obtain ⟨q1,q2⟩:=h (j+1) a b (by simpa using hj);exact ⟨by omega,q2⟩) (by
   have:(i+1+vals.length)*k=i*k+k+vals.length*k:=by rw [Nat.add_mul,Nat.add_mul];omega
   simp only [List.size_toArray];omega),hA,e1]
  congr 2;apply List.ext_getElem?;intro j;simp only [List.flatMap_cons];rw [bj (by omega),bj (cs:=cells.toList) (xs:=x.cells.toList++_) (by simp [hfl];omega),bj (by simp;omega),hfl];simp only [List.length_append,hfl,Array.length_toList,h2];by_cases q1:j<i*k
  ·rw [if_pos (by omega),if_pos q1,if_pos q1]
  ·rw [if_neg q1,if_neg q1];by_cases q2:j<i*k+k
   ·rw [if_pos q2,if_pos q2,if_pos (by omega),List.getElem?_append_left (by simp;omega)]
   ·rw [if_neg q2,if_neg q2];by_cases q3:j<i*k+k+vals.length*k
    ·rw [if_pos q3,if_pos (by omega),List.getElem?_append_right (by simp;omega)];simp only [Array.length_toList,h2];congr 1;omega
    ·rw [if_neg q3,if_neg (by omega)]
end
def QR (P:Program) (t:Nat):Bool:=match P.underlying t with
 | some .unsafePointer=>true
 | _=>false
def So (P:Program) (t:Nat):Bool:=match P.info? t with
 | some i=> !(i.size==0)
 | none=>false
def KX (P:Program) (s d:Nat) (x:V) (σ:ak):jt:=match x with
 | .po id 0=>match σ.get id with
  | some (.cell cs (some t))=>if Lg P s=some t∧QR P d=true∧So P t=true∧cs.isEmpty=false then some (True,.po id 0,σ)
   else if QR P s=true∧Lg P d=some t∧So P t=true∧decide (0<P.cellsOf t)=true∧decide (P.cellsOf t≤cs.length)=true then some (True,.po id 0,σ) else none
  | _=>none
 | _=>none
def Nv (P:Program) (pt:Nat) (p n:V) (σ:ak):jt:=match p,n with
 | .d (.lit (.pointer none)),.d (.lit (.int .i64 0))=>some (True,.d (.lit (.string .empty)),σ)
 | .pe id k 0 0,.d (.lit (.int .i64 m))=>match σ.get id with
  | some (.row k' es (some e))=>if (k'=1∧k=1)∧Lg P pt=some e∧P.cellsOf e=1∧decide (0<m)=true∧decide (m.toNat≤es.length)=true∧decide (m≤9223372036854775807)=true
   then some (∀y∈es.take m.toNat,nQ y,.d (.lit (.string ⟨((es.take m.toNat).map iA).toArray⟩)),σ.del id) else none
  | _=>none
 | _,_=>none
section
variable {P:Program} {w:World} {I:Nat→Prop} {β:b7} {σ:ak} {nx:Nat}
theorem si {t u:Nat} (h:Lg P t=some u):P.underlying t=some (.pointer u):=by
 unfold Lg at h;split at h
 ·rename_i hu;injection h with h;subst h;exact hu
 ·cases h
theorem Bt {t:Nat} (h:QR P t=true):P.underlying t=some .unsafePointer:=by
 unfold QR at h;split at h
 ·assumption
 ·cases h
theorem Bh {t:Nat} (h:So P t=true) : ∃i,P.info? t=some i∧i.size≠0:=by
 unfold So at h;split at h
 ·rename_i i hi;exact ⟨i,hi,by simpa using h⟩
 ·cases h
theorem Gj {t:Nat} (hc:0<P.cellsOf t) {count:Nat} (h1:1≤count):liesAt P P.depth t count 0 t 1=true:=by
 have hd:P.depth=(2*(P.types.size+Made.depth)+1)+1:=rfl;rw [hd];simp only [liesAt,Bool.or_eq_true];left;rw [hd];have hne : ¬P.cellsOf t=0:=by omega
 simp [rowAt,hne,h1,sameLayout]
theorem Dv {s d:Nat} {x:V} {p:Prop} {v:V} {σ':ak} {xv:Value} (h:KX P s d x σ=some (p,v,σ')) (hm:cQ w I β σ nx) (hd:aJ w I β x xv) :
 (convert s d xv).run P w = .ok xv w∧v=x∧σ'=σ:=by
 unfold KX at h;split at h;rotate_left
 ·cases h
 split at h;rotate_left
 ·cases h
 rename_i id cs t hg;obtain ⟨b,cap,hb,rfl⟩:=hd;obtain ⟨cur,t0,hh,hnI,hcs⟩:=hm.cell_cells hg hb;simp only [Option.getD_some] at hh;have hsh:w.shape? b=some (t,cur.size):=by simp [World.shape?,hh]
 have hle:cs.length≤cur.size:=by
  rcases Nat.lt_or_ge cur.size cs.length with hlt|hge
  ·obtain ⟨u,hu,_⟩:=hcs cur.size cs[cur.size] (List.getElem?_eq_getElem hlt);simp at hu
  ·exact hge
 split at h
 ·rename_i hc;obtain ⟨h1,h2,h3,h4⟩:=hc;injection h with h;injection h with _ h;injection h with e1 e2;obtain ⟨i,hi,hs⟩:=Bh h3;refine ⟨Lib.run_to_unsafe w ⟨b,0,none⟩ (si h1) (Bt h2) hi hs hsh ?_,e1.symm,e2.symm⟩;have:cs≠[]:=fun e=>by subst e;simp at h4
  have:=List.length_pos_iff.2 this;show 0<cur.size;omega
 ·split at h
  ·rename_i hc;obtain ⟨h1,h2,h3,h4,h5⟩:=hc;simp only [decide_eq_true_eq] at h4 h5;injection h with h;injection h with _ h;injection h with e1 e2;obtain ⟨i,hi,hs⟩:=Bh h3;refine ⟨Lib.run_from_unsafe w ⟨b,0,none⟩ (Bt h1) (si h2) hi hsh (Gj h4 ?_),e1.symm,e2.symm⟩;exact (Nat.one_le_div_iff h4).2 (by omega)
  ·cases h
theorem mz (w:World) (b:Nat) (n k:Nat) (h:k≠b):(w.freeze ⟨b,0,none⟩ n).heap[k]? = w.heap[k]? :=by
 unfold World.freeze;split
 ·rfl
 ·simp [Array.getElem?_modify,Ne.symm h]
theorem oQ (w:World) (a:Addr) (n:Nat):(w.freeze a n).heap.size=w.heap.size:=by
 unfold World.freeze;split
 ·rfl
 ·simp
theorem ar.freeze (hm:cQ w I β σ nx) {i b cap:Nat} {blk:bF} (hg:σ.get i=some blk) (hb:β i=some (some (b,cap))) (n:Nat) :
 ar w I β σ nx (w.freeze ⟨b,0,none⟩ n) I β (σ.del i) nx:=by
 have hbl:=((hm.own i _ hg).not_imm hb)
 have hdel : ∀j bl,(σ.del i).get j=some bl→j≠i∧σ.get j=some bl:=by
  intro j bl hj;rw [ak.get_del] at hj;split at hj
  ·cases hj
  ·rename_i h;exact ⟨h,hj⟩
 refine ⟨⟨fun j bl hj =>?_,fun j j' bl bl' k c c' h1 h2 h3 h4 =>?_,hm.free,fun k hk=>by rw [oQ];exact hm.lt k hk⟩,?_,?_,?_,by rw [oQ];exact Nat.le_refl _,fun k _ ho=>mz w b n k (fun e=>ho ⟨i,_,cap,hg,by rw [e];exact hb⟩),fun _ h=>h,fun _ h=> .inl h,fun _ _ h=>h,Nat.le_refl _,fun k ⟨j,bl,c,h1,h2⟩=> .inl ⟨j,bl,c,(hdel j bl h1).2,h2⟩⟩
 ·obtain ⟨hne,hj⟩:=hdel j bl hj;refine (hm.own j bl hj).keep (fun k hk=>mz w b n k ?_) (fun _ h=>h) (fun k c hk=>((hm.own j bl hj).not_imm hk).1) (fun _ _ h=>h);rintro rfl;rcases hk with hk|⟨c,hk⟩
  ·exact hbl.1 hk
  ·exact hne (hm.inj j i bl _ k c cap hj hg hk hb)
 ·exact hm.inj j j' bl bl' k c c' (hdel j bl h1).2 (hdel j' bl' h2).2 h3 h4
 all_goals (unfold World.freeze;split<;>rfl)
theorem mU (w:World) : ∀(l:List Int) (a:Addr) (acc:ByteArray),(∀j x,l[j]? = some x→w.cell? (a.add j)=some (.int .u8 x)) →
 (loadBytes a acc l.length).run P w = .ok ⟨acc.data++(l.map fun x=>UInt8.ofNat x.toNat).toArray⟩ w
 | [],a,acc,_=>by simp [loadBytes]
 | x::l,a,acc,h=>by
  have h0:w.cell? a=some (.int .u8 x):=by
   have:=h 0 x rfl;simpa [Addr.add] using this
  have ih:=mU w l (a.add 1) (acc.push (UInt8.ofNat x.toNat)) (fun j y hy=>by
   have:=h (j+1) y (by simpa using hy);have e:(a.add 1).add j=a.add (j+1):=by
    unfold Addr.add;by_cases hj:j=0
    ·subst hj;simp
    ·simp [hj];omega
   rw [e];exact this)
  simp only [List.length_cons,loadBytes,Sem.run_bind,run_load,h0,Result.andThen];refine Eq.trans ih ?_;congr 1;apply ByteArray.ext;simp [ByteArray.push]
theorem sC (w:World) (pt it ty e:TypeId) (hp:P.underlying pt=some (.pointer e)) (hc:P.cellsOf e=1) (g cells:Nat) (hsh:w.shape? g=some (e,cells)) (l:List Int) (h0:l≠[]) (hn:l.length≤cells) (h63:l.length≤9223372036854775807)
 (hcell : ∀j x,l[j]? = some x→w.cell? ((⟨g,0,none⟩:Addr).add j)=some (.int .u8 x)) :
 (Builtin.unsafeString_ #[pt,it] ty #[.pointer (some ⟨g,0,none⟩),.int .i64 l.length]).run P w = .ok (.string ⟨(l.map fun x=>UInt8.ofNat x.toNat).toArray⟩) (w.freeze ⟨g,0,none⟩ l.length):=by
 have hl:l.length≠0:=by simpa using h0
 have hlb:=mU (P:=P) w l ⟨g,0,none⟩ .empty hcell;have hlies:=Lib.liesAt_bytes (P:=P) hc (cells / P.cellsOf e) l.length (by rw [hc];simpa using hn);have h63' : ¬(9223372036854775807:Int)<(l.length:Int):=by omega
 have hdef:Builtin.unsafeString_ #[pt,it] ty #[.pointer (some ⟨g,0,none⟩),.int .i64 l.length] =
  (do
   let n ←asInt (.int .i64 l.length)
   if n<0 then runtimePanic (.error "unsafe.String: len out of range")
   if n > IntKind.i64.max then unsupported (.unsafePointer "String: a length above the largest int")
   if n=0 then pure (.string .empty)
   else if ←variablesAt ⟨g,0,none⟩ (←elemOf pt) n.toNat then do
    let s ←loadBytes ⟨g,0,none⟩ .empty n.toNat
    freeze ⟨g,0,none⟩ n.toNat
    pure (.string s)
   else unsupported (.unsafePointer "String: not so many bytes at ptr")):=rfl
 rw [hdef];have hmax:IntKind.i64.max=9223372036854775807:=rfl;have hneg : ¬(l.length:Int)<0:=by omega
 simp [asInt,asIntOf,hmax,h63',hneg,hl,variablesAt,hsh,elemOf,run_underlying hp,hlies,hlb]
theorem Hv {pt it ty:Nat} {x n:V} {p:Prop} {v:V} {σ':ak} {xv nv:Value} (h:Nv P pt x n σ=some (p,v,σ')) (hp:p) (hm:cQ w I β σ nx) (hdx:aJ w I β x xv) (hdn:aJ w I β n nv) :
 ∃u w',(Builtin.unsafeString_ #[pt,it] ty #[xv,nv]).run P w = .ok u w'∧aJ w' I β v u∧ar w I β σ nx w' I β σ' nx:=by
 unfold Nv at h;split at h
 ·injection h with h;injection h with _ h;injection h with e1 e2;subst e1;subst e2;have:=aA hdx;subst this;have:=aA hdn;subst this;exact ⟨_,w,Lib.run_unsafeString_none w pt it ty none,aq.lit _,ar.refl hm⟩
 ·rename_i id k m;split at h;rotate_left
  ·cases h
  rename_i k' es e hg;split at h;rotate_left
  ·cases h
  rename_i hc;obtain ⟨⟨rfl,rfl⟩,h2,h3,h4,h5,h6⟩:=hc;simp only [decide_eq_true_eq] at h4 h5 h6;injection h with h;injection h with e0 h;injection h with e1 e2;subst e0;subst e1;subst e2;have:=aA hdn;subst this;obtain ⟨b,cap,hb,rfl⟩:=hdx;obtain ⟨cur,t0,hh,hnI,hcap,hsz,hcs⟩:=hm.row_cells hg hb;simp only [Option.getD_some] at hh;have hsh:w.shape? b=some (e,cur.size):=by simp [World.shape?,hh]
  have hl:((es.take m.toNat).map jd).length=m.toNat:=by simp;omega
  have hcell : ∀j x,((es.take m.toNat).map jd)[j]? = some x→w.cell? ((⟨b,0,none⟩:Addr).add j)=some (.int .u8 x):=by
   intro j x hj;simp only [List.getElem?_map,Option.map_eq_some_iff] at hj;obtain ⟨y,hy,rfl⟩:=hj;obtain ⟨q,rfl⟩:=hp y (List.mem_of_getElem? hy);have hy2:es[j]? = some (.lit (.int .u8 q)):=by
    rw [List.getElem?_take] at hy;split at hy
    ·exact hy
    ·cases hy
   obtain ⟨v,v1,v2,v3⟩:=(hcs j _ hy2).2 0 _ rfl;have:=aA (β:=β) (show aJ w I β (.d (.lit (.int .u8 q))) v from v3);subst this;rw [dA];show _=some (Value.int .u8 q);simpa using v1
  have hm2:(.int .i64 m:Value) = .int .i64 (((es.take m.toNat).map jd).length:Int):=by rw [hl];congr 1;omega
  refine ⟨_,_,?_,aq.lit _,ar.freeze hm hg hb ((es.take m.toNat).map jd).length⟩;rw [hm2];have:=sC (P:=P) w pt it ty e (si h2) h3 b cur.size hsh ((es.take m.toNat).map jd) (by intro e;have:=congrArg List.length e;rw [hl] at this;simp at this;omega) (by rw [hl];omega) (by rw [hl];omega) hcell;have e3:(((es.take m.toNat).map jd).map fun x=>UInt8.ofNat x.toNat)=(es.take m.toNat).map iA:=by rw [List.map_map];rfl
  rw [e3] at this;exact this
 ·cases h
end
def QD (P:Program) (s d:Nat) (x:V) (σ:ak):jt:=match KX P s d x σ with
 | some r=>some r
 | none=>QB P s d x σ
def OS (P:Program) (t:Nat) (x:V) (σ:ak):jt:=
 match Oa P t,x with
 | some (k,_,_),.so i0 k0 lo n=>if k0=k then (match σ.get i0 with
  | some (.row k' es tq)=>if k'=k then some (lo+n=es.length,.tup [],σ.set i0 (.row k (es.take lo) tq)) else none
  | _=>none) else none
 | some _,.d (.lit (.slice none 0 0))=>some (True,.tup [],σ)
 | some _,.d (.sd _ _ [])=>some (True,.tup [],σ)
 | _,_=>none
def eR (P:Program) (op:Op) (g:Operand→V) (σ:ak) (id:Nat):jt:=
 match op with
 | .store t a x=>KG P t (g a) (g x) σ
 | .convert s d x=>QD P s d (g x) σ
 | .call c=>match c.callee,c.args.toList,c.argTypes.toList with
  | .builtin .append,[s,x],[t,t']=>tR P t t' (g s) (g x) σ id
  | .builtin .copy,[d,x],[t,t']=>NX P t t' (g d) (g x) σ
  | .builtin .unsafeString,[x,n],[t,_]=>Nv P t (g x) (g n) σ
  | .builtin .clear,[x],[t]=>OS P t (g x) σ
  | _,_,_=>none
 | .mapUpdate t m k x=>PC P t (g m) (g k) (g x) σ
 | .lookup t m k ok=>Px P t (g m) (g k) ok σ
 | _=>none
section
variable {P:Program} {w:World} {I:Nat→Prop} {β:b7} {σ:ak} {nx:Nat}
theorem lM : ∀ {k:Nat} {es:List D} {vals:List Value},es.length=vals.length→iz k es→(∀(j:Nat) e x,es[j]? = some e→vals[j]? = some x→aq w I e x)→aH w I k es (vals.flatMap fun x=>x.cells.toList)
 | k,[],[],_,_,_=>aH.nil
 | k,[],_::_,h,_,_=>by simp at h
 | k,_::_,[],h,_,_=>by simp at h
 | k,e::es,x::vals,hl,hf,hd=>by
  obtain ⟨g1,g2,g3⟩:=mr hf.1 (hd 0 e x rfl rfl);have ih:=lM (es:=es) (vals:=vals) (by simpa using hl) hf.2 (fun j a b ha hb=>hd (j+1) a b (by simpa using ha) (by simpa using hb));rw [List.flatMap_cons];have:e::es=[e]++es:=rfl;rw [this];refine aH.append (aH.one hf.1.1 (by simpa using g1) g2 (fun j c v hj hv =>?_)) ih;obtain ⟨u,u1,_,u3⟩:=g3 j c hj;rw [u1] at hv;injection hv with hv;subst hv;exact u3
theorem mH {t k bytes:Nat} {z:D} (h:Oa P t=some (k,bytes,z)) : ∃e i zv,P.underlying t=some (.slice e)∧P.info? e=some i∧i.zero=some zv∧zv.cells.size=k∧i.size=k∧i.bytes=bytes∧HO k z ∧ ∀w I,aq w I z zv:=by
 unfold Oa at h;split at h
 ·rename_i e he;split at h
  ·rename_i i hi;split at h
   ·rename_i zv hz;split at h
    ·rename_i hs;obtain ⟨hs1,hs2⟩:=hs;injection h with h;injection h with h1 h2;injection h2 with h2 h3;refine ⟨e,i,zv,he,hi,hz,by omega,h1,h2,?_,?_⟩
     ·subst h3;split
      ·rename_i cs;refine ⟨?_,rfl⟩;simp only [D.cells,List.length_map,Array.length_toList];simp only [Value.cells] at hs1;omega
      ·rename_i hn;have hc:zv.cells = #[zv]:=by cases zv<;>first|rfl|exact absurd rfl (hn _)
       refine ⟨?_,?_⟩
       ·rw [hc] at hs1;simp [D.cells] at hs1 ⊢;omega
       ·rw [hc] at hs2;simpa [V.cellOk] using hs2
     ·intro w I;subst h3;split
      ·rename_i cs;have e1:(Value.agg cs)=Value.agg cs.toList.toArray:=by simp
       rw [e1];refine aq.agg _ _ (by simp) (fun v hv=>List.all_eq_true.1 hs2 v (by simpa [Value.cells] using hv)) (fun i c v hc hv =>?_);simp only [List.getElem?_map,Option.map_eq_some_iff] at hc;obtain ⟨x,hx,rfl⟩:=hc;rw [hx] at hv;injection hv with hv;subst hv;exact aq.lit _
      ·exact aq.lit _
    ·cases h
   ·cases h
  ·cases h
 ·cases h
theorem my {α β:Type} (f:α→List β) (n:Nat) (x:α):((List.replicate n x).flatMap f).length=n*(f x).length:=by
 induction n with
 | zero=>simp
 | succ n ih=>rw [List.replicate_succ,List.flatMap_cons,List.length_append,ih,Nat.add_mul];omega
theorem wJ (zs:List Value) : ∀(n m:Nat) v,((List.replicate n zs).flatten)[m]? = some v→zs[m % zs.length]? = some v
 | 0,m,v,h=>by simp at h
 | n+1,m,v,h=>by
  rw [List.replicate_succ,List.flatten_cons,List.getElem?_append] at h;split at h
  ·rename_i hlt;rw [Nat.mod_eq_of_lt hlt];exact h
  ·rename_i hge;have:=wJ zs n _ v h;rw [Nat.mod_eq_sub_mod (by omega)];exact this
set_option maxHeartbeats 400000 in
theorem HX {o:Oper} {g:Operand→V} {σ0:ak} {id:Nat} {p:Prop} {v:V} {new:ak} (h:aR P o.op g σ0 id=some (p,v,new)) (hp:p) (hm:cQ w I β σ nx) (hs : ∀i b,σ0.get i=some b→σ.get i=some b)
 (hid:β id=none) (hlt:id<nx) {a:Act} (hg : ∀x,aJ w I β (g x) (a.eval x)) :
 ∃u w' β',(execOp a.eval o).run P w = .ok (.value u) w'∧aJ w' I β' v u∧ar w I β σ nx w' I β' (new++σ) nx ∧ ∀j,j≠id→β' j=β j:=by
 unfold aR at h;split at h;case h_1 t ho=>
  split at h
  ·rename_i zs tq hz0;obtain ⟨hz,hty⟩:=K6 hz0;split at h
   ·rename_i hone;injection h with h;injection h with h1 h2;injection h2 with h2 h3;subst h1;subst h2;subst h3;obtain ⟨i,z,hi,hzz,hzc⟩:=K9 hz;refine ⟨.pointer (some ⟨w.heap.size,0,none⟩),w.alloc (.cells z.cells t),nm β id (some (w.heap.size,0)),?_,⟨w.heap.size,0,aU _ _ _,rfl⟩,vJ hm hid hlt t hty (fun i c hi =>?_),fun j hj=>aO hj⟩
    ·simp [execOp,ho,Instr.alloc,mV hi hzz,newVar,newRow]
    ·subst hzc;simp only [List.getElem?_map,Option.map_eq_some_iff] at hi;obtain ⟨x,hx,rfl⟩:=hi;exact ⟨x,by simpa using hx,List.all_eq_true.1 hone x (List.mem_of_getElem? hx),aq.lit _⟩
   ·cases h
  ·cases h
 case h_2 t x ho=>
  split at h
  ·rename_i cs hb;injection h with h;injection h with h1 h2;injection h2 with h2 h3;subst h1;subst h2;subst h3;obtain ⟨b1,b2⟩:=qD hb (hg x);refine ⟨.pointer (some ⟨w.heap.size,0,none⟩),w.alloc (.cells (a.eval x).cells t),nm β id (some (w.heap.size,0)),?_,⟨w.heap.size,0,aU _ _ _,rfl⟩,vJ hm hid hlt t rfl b2,fun j hj=>aO hj⟩;simp [execOp,ho,Instr.box,newVar,newRow]
  ·cases h
 case h_3 t n parts ho=>
  split at h
  ·rename_i k bytes es hap hsq;split at h
   ·rename_i hc;obtain ⟨hn,h24⟩:=hc;injection h with h;injection h with h1 h2;injection h2 with h2 h3;subst h1;subst h2;subst h3;obtain ⟨e,i,z,ht,hi,hz,hzk,hik,hib⟩:=qw hap;obtain ⟨q1,q2⟩:=wt hsq;have hpl:parts.size=n:=by simp at q1;omega
    have hvals : ∀(j:Nat) i x,(parts.toList.map fun q=>(q.1,a.eval q.2))[j]? = some (i,x)→i=j ∧ ∃e,es[j]? = some e∧aq w I e x:=by
     intro j i x hj;simp only [List.getElem?_map,Option.map_eq_some_iff] at hj;obtain ⟨y,hy,hyy⟩:=hj;injection hyy with e1 e2;subst e1;subst e2;obtain ⟨r1,y',r2,r3⟩:=q2 j y.1 (g y.2) (by simp [hy]);refine ⟨by omega,y',r3,?_⟩;have:=hg y.2;rw [r2] at this;exact this
    have hfitv : ∀(j:Nat) i x,(parts.toList.map fun q=>(q.1,a.eval q.2))[j]? = some (i,x)→i=0+j∧x.cells.size=k:=by
     intro j i x hj;obtain ⟨r1,e',r2,r3⟩:=hvals j i x hj;exact ⟨by omega,(mr (qt hp j e' r2) r3).1⟩
    have hrv:=lM (w:=w) (I:=I) (k:=k) (es:=es) (vals:=(parts.toList.map fun q=>(q.1,a.eval q.2)).map (·.2)) (by simp;omega) hp (fun j e' x he hx=>by
     simp only [List.getElem?_map,Option.map_eq_some_iff] at hx;obtain ⟨y,hy,rfl⟩:=hx;obtain ⟨y',hy',rfl⟩:=hy;obtain ⟨_,e2,r2,r3⟩:=hvals j y'.1 (a.eval y'.2) (by simp [hy']);rw [he] at r2;injection r2 with r2;subst r2;exact r3)
    have hfl:(((parts.toList.map fun q=>(q.1,a.eval q.2)).map (·.2)).flatMap fun x=>x.cells.toList)=((parts.toList.map fun q=>(q.1,a.eval q.2)).flatMap fun p=>p.2.cells.toList):=by
     rw [List.flatMap_map]
    rw [hfl] at hrv;have hflen:=hrv.1;have hfill:=zf (k:=k) (parts.toList.map fun q=>(q.1,a.eval q.2)) 0 ((Array.range (n*k)).map ((if n*k=0 then #[] else z.cells)[· % (if n*k=0 then (#[]:Array Value) else z.cells).size]!)) hfitv (by simp [hpl]);have hcur:Go.Proofs.YtkkanlcjjpoklaaGreatDoor.setAt ((Array.range (n*k)).map ((if n*k=0 then #[] else z.cells)[· % (if n*k=0 then (#[]:Array Value) else z.cells).size]!)).toList (0*k) ((parts.toList.map fun q=>(q.1,a.eval q.2)).flatMap fun p=>p.2.cells.toList)=((parts.toList.map fun q=>(q.1,a.eval q.2)).flatMap fun p=>p.2.cells.toList):=by
     unfold Go.Proofs.YtkkanlcjjpoklaaGreatDoor.setAt;rw [Nat.zero_mul,List.take_zero,List.nil_append,List.drop_of_length_le (by rw [hflen,hn];simp),List.append_nil]
    rw [hcur] at hfill;refine ⟨.slice (some ⟨w.heap.size,0,none⟩) n n,w.alloc (.cells ((parts.toList.map fun q=>(q.1,a.eval q.2)).flatMap fun p=>p.2.cells.toList).toArray e),nm β id (some (w.heap.size,n)),?_,.inr ⟨w.heap.size,n,n,aU _ _ _,by omega,by omega,by simp⟩,?_,fun j hj=>aO hj⟩
    ·have h24' : ¬(n*k > 2 ^ 24):=by
      have:(2:Nat) ^ 24=16777216:=by decide
      omega
     have e1:(parts.map fun x=>(x.fst,a.eval x.snd)).toList=parts.toList.map fun q=>(q.1,a.eval q.2):=by simp
     have hsz:(sizeOf e).run P w = .ok k w:=by simp [sizeOf,typeInfo,hi,hik]
     simp only [execOp,ho,Instr.buildSlice,Sem.run_bind,run_underlying ht,Result.andThen_ok,hsz];rw [if_neg h24',e1];by_cases h0:n*k=0
     ·simp only [h0,if_true,Sem.run_bind,Sem.run_pure,Result.andThen_ok] at hfill ⊢;rw [hfill];simp [newRow]
     ·simp only [h0,if_false] at hfill ⊢;simp only [Sem.run_bind,mV hi hz,Result.andThen_ok,Sem.run_pure];rw [hfill];simp [newRow]
    ·exact xD hm hid hlt e rfl hrv (by omega) (by simp only [List.size_toArray];rw [hflen,hn];exact Nat.le_refl _) (fun m u hu=>by simpa using hu)
   ·cases h
  ·cases h
 case h_4 t x ho=>
  split at h
  ·rename_i s hk hx;injection h with h;injection h with h1 h2;injection h2 with h2 h3;subst h1;subst h2;subst h3;have hgx:=hg x;rw [hx] at hgx;have hv:=aA hgx;refine ⟨.pointer (some ⟨w.heap.size,0,none⟩),w.alloc (.stringIter s 0),nm β id (some (w.heap.size,0)),?_,⟨w.heap.size,0,aU _ _ _,rfl⟩,ar.alloc hm hid hlt _ 0 _ ⟨w.heap.size,0,aU _ _ _,mA _ _,fun h =>?_⟩,fun j hj=>aO hj⟩
   ·simp [execOp,ho,Instr.range,underlying,dk hk,hv]
   ·have:=hm.lt _ h;omega
  ·cases h
 case h_5 t l c ho=>
  split at h
  ·rename_i ln cn k bytes z hl hc hmk;injection h with h;injection h with h1 h2;injection h2 with h2 h3;subst h1;subst h2;subst h3;obtain ⟨e,i,zv,ht,hi,hz,hzk,hik,hib,hfit,hzd⟩:=mH hmk;obtain ⟨kl,hl2⟩:=jK hl (hg l);obtain ⟨kc,hc2⟩:=jK hc (hg c);obtain ⟨p1,p2,p3,p4⟩:=hp;have hw1:IntKind.i64.wrap ln=ln:=IntWalk.i64_in _ (by omega);have hw2:IntKind.i64.wrap cn=cn:=IntWalk.i64_in _ (by omega);have hcells:((Array.range (cn.toNat*k)).map ((if cn.toNat*k=0 then #[] else zv.cells)[· % (if cn.toNat*k=0 then (#[]:Array Value) else zv.cells).size]!)).size=cn.toNat*k:=by simp
   have hrv:=lM (w:=w) (I:=I) (k:=k) (es:=List.replicate ln.toNat z) (vals:=List.replicate ln.toNat zv) (by simp) (by
    generalize ln.toNat=q;induction q with
    | zero=>exact trivial
    | succ q ih=>exact ⟨hfit,ih⟩) (fun j e' x he hx=>by
     have h1:=(List.getElem?_eq_some_iff.1 he).2;have h2:=(List.getElem?_eq_some_iff.1 hx).2;simp at h1 h2;subst h1;subst h2;exact hzd w I)
   refine ⟨.slice (some ⟨w.heap.size,0,none⟩) ln.toNat cn.toNat,w.alloc (.cells ((Array.range (cn.toNat*k)).map ((if cn.toNat*k=0 then #[] else zv.cells)[· % (if cn.toNat*k=0 then (#[]:Array Value) else zv.cells).size]!)) e),nm β id (some (w.heap.size,cn.toNat)),?_,.inr ⟨w.heap.size,cn.toNat,cn.toNat,aU _ _ _,by omega,by omega,by simp⟩,?_,fun j hj=>aO hj⟩
   ·have hbig : ¬(281474976710656<(i.bytes:Int)*cn):=by
     rw [Int.mul_comm,hib];omega
    have hsz:(sizeOf e).run P w = .ok k w:=by simp [sizeOf,typeInfo,hi,hik]
    have hti:(typeInfo e).run P w = .ok i w:=by simp [typeInfo,hi]
    have hg1 : ¬(cn<0):=by omega
    have hg2 : ¬(ln<0):=by omega
    have hg3 : ¬(ln > cn):=by omega
    simp only [execOp,ho,Instr.makeSlice,Sem.run_bind,run_underlying ht,Result.andThen_ok,hl2,hc2,asInt,asIntOf,Sem.run_pure,hti,hw1,hw2];by_cases h0:cn.toNat*k=0
    ·simp [h0,hbig,hg1,hg2,hg3,newRow,hsz]
    ·simp [h0,hbig,hg1,hg2,hg3,newRow,mV hi hz,hsz]
   ·refine xD hm hid hlt e rfl hrv (by simp;omega) (by rw [hcells];exact Nat.le_refl _) (fun m u hu =>?_);have hml:=(List.getElem?_eq_some_iff.1 hu).1;rw [my] at hml;have hmk2:m<cn.toNat*k:=by
     have:ln.toNat*k≤cn.toNat*k:=Nat.mul_le_mul_right k (by omega);have e3:zv.cells.toList.length=k:=by simpa using hzk
     rw [e3] at hml;omega
    have hne : ¬(cn.toNat*k=0):=by omega
    have hg0:=wJ zv.cells.toList ln.toNat m u (by
     have:(List.replicate ln.toNat zv).flatMap (fun x=>x.cells.toList)=(List.replicate ln.toNat zv.cells.toList).flatten:=by
      rw [List.flatMap_def,List.map_replicate]
     rw [←this];exact hu)
    simp only [hne,if_false];simp [hmk2];simp at hg0;simp [getElem!_def,hg0]
  ·cases h
 case h_6 c ho=>
  split at h
  ·rename_i s x t t' e1 e2 e3;have e2':c.args = #[s,x]:=by apply Array.toList_inj.1;simpa using e2
   have e3':c.argTypes = #[t,t']:=by apply Array.toList_inj.1;simpa using e3
   obtain ⟨u,w',β',h1,h2,h3,h4⟩:=BQ (ty:=o.type) h hp hm hs hid hlt (hg s) (hg x);refine ⟨u,w',β',?_,h2,h3,h4⟩;simp only [execOp,ho,resolve,e1,e2',e3'];simp [invoke,builtin,h1]
  ·cases h
 case h_7 t ho=>
  injection h with h;injection h with h1 h2;injection h2 with h2 h3;subst h1;subst h2;subst h3;refine ⟨.map (some w.heap.size),w.alloc (.map #[] 0),nm β id (some (w.heap.size,0)),?_,⟨w.heap.size,0,aU _ _ _,rfl⟩,ar.alloc hm hid hlt _ 0 _ ⟨w.heap.size,0,#[],0,aU _ _ _,mA _ _,fun h =>?_,rfl,fun i k x hi=>by cases hi⟩,fun j hj=>aO hj⟩
  ·simp [execOp,ho,Instr.makeMap]
  ·have:=hm.lt _ h;omega
 case h_8=>cases h
theorem Fj {s d:Nat} {x:V} {p:Prop} {v:V} {σ':ak} {xv:Value} (h:QB P s d x σ=some (p,v,σ')) (hp:p) (hm:cQ w I β σ nx) (hd:aJ w I β x xv) :
 (convert s d xv).run P w = .ok (match v with | .d (.lit u)=>u|_=>undef) w∧(∃u,v = .d (.lit u))∧σ'=σ:=by
 unfold QB at h;split at h;rotate_left
 ·cases h
 rename_i hc;simp only [Bool.and_eq_true] at hc;obtain ⟨⟨hb,hk⟩,hs⟩:=hc;obtain ⟨e,hu,he⟩:=If hb;split at h;rotate_left
 ·cases h
 rename_i p0 es hes;injection h with h;injection h with h1 h2;injection h2 with h2 h3;subst h1 h2 h3;obtain ⟨hp0,hby⟩:=hp;obtain ⟨vs,S⟩:=x9 hm (fun _ _ h=>h) hes hp0 hk hd;refine ⟨?_,⟨_,rfl⟩,rfl⟩;have hsl : ∃a l c,xv = .slice a l c:=by
  unfold fb at hes;split at hes
  ·have hd':aq w I _ xv:=hd;cases hd' with
   | sd=>exact ⟨_,_,_,rfl⟩
   | sd0=>exact ⟨_,_,_,rfl⟩
  ·have:=aA hd;subst this;exact ⟨_,_,_,rfl⟩
  ·obtain ⟨a,c,rfl⟩:=w9 hd;exact ⟨_,_,_,rfl⟩
  ·rcases hd with ⟨_,_,_,a,rfl⟩|⟨b,cap,c,_,_,_,rfl⟩
   ·exact ⟨_,_,_,rfl⟩
   ·exact ⟨_,_,_,rfl⟩
  ·unfold lZ at hk;have hks : ∃kd,cY P s=some kd:=by
    cases hkd:cY P s with
    | none=>rw [hkd] at hk;simp at hk
    | some kd=>exact ⟨kd,rfl⟩
   obtain ⟨kd,hkd⟩:=hks;exfalso;have:=dk (P:=P) (t:=s);rw [hkd] at hk;cases kd<;>simp at hk
   have:=this hkd;rw [hu] at this;cases this
  ·cases hes
 obtain ⟨a,l,c,rfl⟩:=hsl;have hvs:vs=(es.map jd).map (Value.int .u8):=by
  apply List.ext_getElem?;intro i;have hl:vs.length=es.length:=by have:=S.vals.1;simpa using this
  rcases Nat.lt_or_ge i es.length with hi|hi
  ·obtain ⟨n,hn⟩:=hby es[i] (List.getElem_mem hi);obtain ⟨_,g⟩:=S.vals.2.2 i es[i] (List.getElem?_eq_getElem hi);obtain ⟨v,hv,hdv⟩:=g 0 (.lit (.int .u8 n)) (by rw [hn];rfl);have:v = .int .u8 n:=aA (β:=fun _=>none) (show aJ w I _ (.d (.lit (.int .u8 n))) v from hdv);subst this;simp only [Nat.mul_one,Nat.add_zero] at hv;rw [hv];simp [List.getElem?_eq_getElem hi,hn,jd]
  ·rw [List.getElem?_eq_none (by omega),List.getElem?_eq_none (by simpa using hi)]
 have hd2:P.underlying d=some .string:=dk hs;rw [run_convert_bytes_string w s d e a l c hu he hd2];have hln:=S.len w;simp only [Builtin.lenOf,Sem.run_pure,Result.ok.injEq,and_true] at hln;have hcl:=S.cells w (fun _ _=>rfl);have hmm:(es.map jd).map (fun n=>UInt8.ofNat n.toNat)=es.map iA:=by rw [List.map_map];rfl
 cases a with
 | none=>
  simp only [Builtin.firstCells,Sem.run_pure,Result.ok.injEq,and_true] at hcl;have hv0:vs=[]:=by
   have:vs.toArray = #[]:=hcl.symm;simpa using this
  have he0:es=[]:=by
   have:=S.vals.1;rw [hv0] at this;exact List.eq_nil_of_length_eq_zero (by simpa using this.symm)
  subst he0;first
   | (simp [Conv.bytesToString];done)
   | (simp [Conv.bytesToString];rfl)
 | some a=>
  simp only [Builtin.firstCells,Nat.mul_one] at hcl;rw [←hln,hvs] at hcl;rw [run_bytesToString w a l c (es.map jd) hcl,foldl_push_bytes,hmm];first
   | (simp;done)
   | (simp;rfl)
theorem Kv {σ:ak} {i:Nat} {b:bF} (hg:σ.get i=some b):σ.set i b=σ:=by
 have : ∀(σ:ak),σ.get i=some b→σ.set i b=σ:=by
  intro σ;induction σ with
  | nil=>intro h;simp [ak.get] at h
  | cons q r ih=>
   obtain ⟨j,bl⟩:=q;intro h;simp only [ak.get,ak.set] at h ⊢;split at h
   ·rename_i hi;injection h with h;subst h;rw [if_pos hi]
   ·rename_i hi;rw [if_neg hi,ih h]
 exact this σ hg
theorem uI {zs:Array Value} {n:Nat} (h : ∀u∈zs.toList,u.oneCell'=true) : ∀u∈(Builtin.zeroCells zs n).toList,u.oneCell'=true:=by
 intro u hu;simp only [Builtin.zeroCells,Array.toList_map,List.mem_map] at hu;obtain ⟨i,hi,rfl⟩:=hu;have hi':i<n*zs.size:=by simpa using hi
 have hs:0<zs.size:=by
  rcases Nat.eq_zero_or_pos zs.size with h0|h0
  ·rw [h0,Nat.mul_zero] at hi';omega
  ·exact h0
 have hlt:i % zs.size<zs.size:=Nat.mod_lt _ hs;have e:zs[i % zs.size]! = zs[i % zs.size]:=by simp [getElem!_def,Array.getElem?_eq_getElem hlt]
 rw [e];exact h _ (by simp)
theorem Fw {t ty:Nat} {x:V} {p:Prop} {v:V} {σ':ak} {xv:Value} (h:OS P t x σ=some (p,v,σ')) (hp:p) (hm:cQ w I β σ nx) (hd:aJ w I β x xv) :
 ∃u w',(Builtin.clear_ #[t] ty #[xv]).run P w = .ok u w'∧aJ w' I β v u∧ar w I β σ nx w' I β σ' nx:=by
 have tupd : ∀w':World,aJ w' I β (.tup []) (.tuple #[]):=fun _=>⟨[],rfl,rfl,fun i c v h=>by simp at h⟩
 unfold OS at h;split at h
 ·rename_i k bytes z i0 k0 lo n hmk;obtain ⟨e,i,zv,ht,hi,hz,hzk,hik,hib,hfit,hzd⟩:=mH hmk;obtain ⟨f1,f2,f3⟩:=mr hfit (hzd w I);split at h
  ·rename_i hk0;split at h
   ·rename_i k' es tq hg;split at h
    ·rename_i hkk;subst hk0;subst hkk;injection h with h;injection h with h1 h2;injection h2 with h2 h3;subst h1;subst h2;subst h3;have stay:lo=es.length→σ.set i0 (.row k' (es.take lo) tq)=σ:=fun e0=>by
      rw [e0,List.take_of_length_le (Nat.le_refl _)];exact Kv hg
     rcases hd with ⟨hb,hl0,hn0,a,rfl⟩|⟨b,cap,c,hb,g1,g2,rfl⟩
     ·subst hl0;subst hn0;refine ⟨.tuple #[],w,?_,tupd w,?_⟩
      ·cases a<;>simp [Builtin.clear_,run_underlying ht]
      ·rw [stay (by omega)];exact ar.refl hm
     ·rcases Nat.eq_zero_or_pos n with hn|hn
      ·subst hn;refine ⟨.tuple #[],w,by simp [Builtin.clear_,run_underlying ht],tupd w,?_⟩;rw [stay (by omega)];exact ar.refl hm
      ·obtain ⟨cur,ty0,olds,r1,r2,r3,r4,r5,r6⟩:=hm.row_vals hg hb;have hzl:(Builtin.zeroCells zv.cells n).toList.length=n*k':=by
        rw [Array.length_toList,size_zeroCells,f1]
       have hfit2:lo*k'+n*k'≤cur.size:=by
        rw [←Nat.add_mul];exact Nat.le_trans (Nat.mul_le_mul_right k' (by omega)) r4
       have hst:=dE (P:=P) b _ (Builtin.zeroCells zv.cells n).toList (lo*k') 0 cur w r1 (by omega) (uI f2);refine ⟨.tuple #[],w.setRow b (Go.Proofs.YtkkanlcjjpoklaaGreatDoor.setAt cur.toList (lo*k'+0) (Builtin.zeroCells zv.cells n).toList).toArray,?_,tupd _,?_⟩
       ·obtain ⟨m,rfl⟩ : ∃m,n=m+1:=⟨n - 1,by omega⟩
        simp only [Builtin.clear_,List.getElem?_toArray,List.getElem?_cons_zero,Sem.run_bind,run_underlying ht,Result.andThen_ok,mV hi hz,hst,Sem.run_pure]
       ·refine ar.setRow hm hg hb r1 ?_;have kp:=fU hm hg hb (Go.Proofs.YtkkanlcjjpoklaaGreatDoor.setAt cur.toList (lo*k'+0) (Builtin.zeroCells zv.cells n).toList).toArray;have r5':=r5.keep (w':=w.setRow b (Go.Proofs.YtkkanlcjjpoklaaGreatDoor.setAt cur.toList (lo*k'+0) (Builtin.zeroCells zv.cells n).toList).toArray) kp (fun _ h=>h);refine .inr ⟨b,cap,_,ty0,hb,setRow_heap w b cur _ _ (0,0) r1,r2,by rw [List.length_take];omega,?_,fun i x hi =>?_⟩
        ·simp only [List.size_toArray];rw [dm (by rw [hzl,Array.length_toList];omega)];simpa using r4
        ·rw [List.getElem?_take] at hi;split at hi
         ·rename_i hlt;obtain ⟨q1,q2⟩:=r5'.2.2 i x hi;refine ⟨q1,fun j c hj =>?_⟩;obtain ⟨v,v1,v2⟩:=q2 j c hj;have hjk:j<k':=by rw [←q1];exact (List.getElem?_eq_some_iff.1 hj).1
          have:=kx (n:=k') hlt (Nat.le_refl _);refine ⟨v,?_,r5'.2.1 v (List.mem_of_getElem? v1),v2⟩;have e9:(Go.Proofs.YtkkanlcjjpoklaaGreatDoor.setAt cur.toList (lo*k'+0) (Builtin.zeroCells zv.cells n).toList).toArray[i*k'+j]? = (Go.Proofs.YtkkanlcjjpoklaaGreatDoor.setAt cur.toList (lo*k'+0) (Builtin.zeroCells zv.cells n).toList)[i*k'+j]? :=by simp
          rw [e9,bj (by rw [hzl,Array.length_toList];omega),if_pos (by omega)];have:=r6 _ v v1;simpa using this
         ·cases hi
    ·cases h
   ·cases h
  ·cases h
 ·rename_i r hmk;obtain ⟨k,bytes,z⟩:=r;obtain ⟨e,i,zv,ht,_⟩:=mH hmk;injection h with h;injection h with h1 h2;injection h2 with h2 h3;subst h1;subst h2;subst h3;have:=aA hd;subst this;exact ⟨.tuple #[],w,by simp [Builtin.clear_,run_underlying ht],tupd w,ar.refl hm⟩
 ·rename_i r _ _ hmk;obtain ⟨k,bytes,z⟩:=r;obtain ⟨e,i,zv,ht,_⟩:=mH hmk;injection h with h;injection h with h1 h2;injection h2 with h2 h3;subst h1;subst h2;subst h3;have key:(∃a c,xv = .slice (some a) 0 c) ∨ ∃a,xv = .slice a 0 0:=by
   cases (show aq w I _ xv from hd) with
   | sd k full es b o cap val=>exact .inl ⟨_,_,rfl⟩
   | sd0 k full a=>exact .inr ⟨_,rfl⟩
  rcases key with ⟨a,c,rfl⟩|⟨a,rfl⟩
  ·exact ⟨.tuple #[],w,by simp [Builtin.clear_,run_underlying ht],tupd w,ar.refl hm⟩
  ·refine ⟨.tuple #[],w,?_,tupd w,ar.refl hm⟩;cases a<;>simp [Builtin.clear_,run_underlying ht]
 ·cases h
theorem ID {o:Oper} {g:Operand→V} {id:Nat} {p:Prop} {v:V} {σ':ak} (h:eR P o.op g σ id=some (p,v,σ')) (hp:p) (hm:cQ w I β σ nx) (hid:β id=none) (hlt:id<nx) {a:Act} (hg : ∀x,aJ w I β (g x) (a.eval x)) :
 ∃u w' β',((execOp a.eval o).run P w = .ok (.value u) w'∨((execOp a.eval o).run P w = .ok .skip w'∧u=undef))∧aJ w' I β' v u∧ar w I β σ nx w' I β' σ' nx ∧ ∀j,j≠id→β' j=β j:=by
 unfold eR at h;split at h;case h_1 t x y ho=>
  obtain ⟨w',h1,h2,h3⟩:=Hi h hp hm (hg x) (hg y);subst h2;exact ⟨undef,w',β,.inr ⟨by simp [execOp,ho,h1],rfl⟩,trivial,h3,fun _ _=>rfl⟩
 case h_2 s d x ho=>
  unfold QD at h;split at h
  ·rename_i r hu;injection h with h;subst h;obtain ⟨h1,rfl,rfl⟩:=Dv hu hm (hg x);exact ⟨a.eval x,w,β,.inl (by simp [execOp,ho,h1]),hg x,ar.refl hm,fun _ _=>rfl⟩
  obtain ⟨h1,⟨u,h2⟩,h3⟩:=Fj h hp hm (hg x);subst h2 h3;exact ⟨u,w,β,.inl (by simp only at h1;simp [execOp,ho,h1]),aq.lit u,ar.refl hm,fun _ _=>rfl⟩
 case h_3 c ho=>
  split at h
  ·rename_i s x t t' e1 e2 e3;have e2':c.args = #[s,x]:=by apply Array.toList_inj.1;simpa using e2
   have e3':c.argTypes = #[t,t']:=by apply Array.toList_inj.1;simpa using e3
   obtain ⟨u,w',β',h1,h2,h3,h4⟩:=BR (ty:=o.type) h hp hm hid hlt (hg s) (hg x);refine ⟨u,w',β',.inl ?_,h2,h3,h4⟩;simp only [execOp,ho,resolve,e1,e2',e3'];simp [invoke,builtin,h1]
  ·rename_i s x t t' e1 e2 e3;have e2':c.args = #[s,x]:=by apply Array.toList_inj.1;simpa using e2
   have e3':c.argTypes = #[t,t']:=by apply Array.toList_inj.1;simpa using e3
   obtain ⟨u,w',h1,h2,h3⟩:=FD (ty:=o.type) h hp hm (hg s) (hg x);refine ⟨u,w',β,.inl ?_,h2,h3,fun _ _=>rfl⟩;simp only [execOp,ho,resolve,e1,e2',e3'];simp [invoke,builtin,h1]
  ·rename_i x n t t' e1 e2 e3;have e2':c.args = #[x,n]:=by apply Array.toList_inj.1;simpa using e2
   have e3':c.argTypes = #[t,t']:=by apply Array.toList_inj.1;simpa using e3
   obtain ⟨u,w',h1,h2,h3⟩:=Hv (it:=t') (ty:=o.type) h hp hm (hg x) (hg n);refine ⟨u,w',β,.inl ?_,h2,h3,fun _ _=>rfl⟩;simp only [execOp,ho,resolve,e1,e2',e3'];simp [invoke,builtin,h1]
  ·rename_i x t e1 e2 e3;have e2':c.args = #[x]:=by apply Array.toList_inj.1;simpa using e2
   have e3':c.argTypes = #[t]:=by apply Array.toList_inj.1;simpa using e3
   obtain ⟨u,w',h1,h2,h3⟩:=Fw (ty:=o.type) h hp hm (hg x);refine ⟨u,w',β,.inl ?_,h2,h3,fun _ _=>rfl⟩;simp only [execOp,ho,resolve,e1,e2',e3'];simp [invoke,builtin,h1]
  ·cases h
 case h_4 t m k x ho=>
  obtain ⟨w',h1,h2,h3⟩:=Gx h hp hm (hg m) (hg k) (hg x);subst h2;exact ⟨undef,w',β,.inr ⟨by simp [execOp,ho,h1],rfl⟩,trivial,h3,fun _ _=>rfl⟩
 case h_5 t m k ok ho=>
  obtain ⟨rfl,u,h1,h2⟩:=Gp h hp hm (hg m) (hg k);exact ⟨u,w,β,.inl (by simp [execOp,ho,h1]),h2,ar.refl hm,fun _ _=>rfl⟩
 case h_6=>cases h
end
section
variable {P:Program} {g g':Operand→V}
theorem vv {α:Type} {l:List α} {f f':α→V} (h : ∀x∈l,f x=f' x):l.map f=l.map f':=List.map_congr_left h
theorem Ay {op:Op} (h : ∀x∈op.operands.toList,g x=g' x):bX P op g=bX P op g':=by
 unfold bX;cases op with
 | move x=>simp only [h x (by simp [Op.operands])]
 | assign x=>simp only [h x (by simp [Op.operands])]
 | nilCheck x=>simp only [h x (by simp [Op.operands])]
 | binOp op t x y u=>simp only [h x (by simp [Op.operands]),h y (by simp [Op.operands])]
 | unOp op t x=>simp only [h x (by simp [Op.operands])]
 | convert s d x=>simp only [h x (by simp [Op.operands])]
 | makeInterface t x=>simp only [h x (by simp [Op.operands])]
 | makeFunc fn first caps=>
  have:caps.toList.map g=caps.toList.map g':=vv (fun x hx=>h x (by simp [Op.operands];right;simpa using hx));have this2:first.toList.map g=first.toList.map g':=vv (fun x hx=>h x (by simp [Op.operands];left;simpa using hx))
  simp only [this,this2]
 | slice t x lo hi mx=>
  have h1:lo.map g=lo.map g':=by cases lo with|none=>rfl|some y=>simp only [Option.map_some];rw [h y (by simp [Op.operands])]
  have h2:hi.map g=hi.map g':=by cases hi with|none=>rfl|some y=>simp only [Option.map_some];rw [h y (by simp [Op.operands])]
  have h3:mx.map g=mx.map g':=by cases mx with|none=>rfl|some y=>simp only [Option.map_some];rw [h y (by simp [Op.operands])]
  simp only [h x (by simp [Op.operands]),h1,h2,h3]
 | fieldAddr t x f=>simp only [h x (by simp [Op.operands])]
 | field t x f=>simp only [h x (by simp [Op.operands])]
 | indexAddr t x i=>simp only [h x (by simp [Op.operands]),h i (by simp [Op.operands])]
 | index t x i=>simp only [h x (by simp [Op.operands]),h i (by simp [Op.operands])]
 | typeAssert x xT t ok=>simp only [h x (by simp [Op.operands])]
 | extract x i=>simp only [h x (by simp [Op.operands])]
 | build t parts=>
  have:(parts.toList.map fun p=>(p.1,g p.2))=(parts.toList.map fun p=>(p.1,g' p.2)):=List.map_congr_left (fun p hp=>by rw [h p.2 (by simp [Op.operands];exact ⟨p.1,by simpa using hp⟩)]);simp only [this]
 | call c=>
  simp only [gU];split
  ·rename_i x t e1 e2 e3;rw [h x (by simp [Op.operands,Call.operands,e2])]
  ·rename_i x y e1 e2;rw [h x (by simp [Op.operands,Call.operands,e2]),h y (by simp [Op.operands,Call.operands,e2])]
  ·rename_i x y e1 e2;rw [h x (by simp [Op.operands,Call.operands,e2]),h y (by simp [Op.operands,Call.operands,e2])]
  ·rename_i x e1 e2;rw [h x (by simp [Op.operands,Call.operands,e2])]
  ·rename_i x y z e1 e2;rw [h x (by simp [Op.operands,Call.operands,e2]),h y (by simp [Op.operands,Call.operands,e2]),h z (by simp [Op.operands,Call.operands,e2])]
  ·rename_i x y z e1 e2;rw [h x (by simp [Op.operands,Call.operands,e2]),h y (by simp [Op.operands,Call.operands,e2]),h z (by simp [Op.operands,Call.operands,e2])]
  ·rfl
 | _=>rfl
theorem HV {op:Op} {σ:ak} {id:Nat} (h : ∀x∈op.operands.toList,g x=g' x):aR P op g σ id=aR P op g' σ id:=by
 unfold aR;cases op with
 | box t x=>simp only [h x (by simp [Op.operands])]
 | buildSlice t n parts=>
  have:(parts.toList.map fun p=>(p.1,g p.2))=(parts.toList.map fun p=>(p.1,g' p.2)):=List.map_congr_left (fun p hp=>by rw [h p.2 (by simp [Op.operands];exact ⟨p.1,by simpa using hp⟩)]);simp only [this]
 | range t x=>simp only [h x (by simp [Op.operands])]
 | makeSlice t l c=>simp only [h l (by simp [Op.operands]),h c (by simp [Op.operands])]
 | call c=>
  simp only [];split
  ·rename_i s x t t' e1 e2 e3;rw [h s (by simp [Op.operands,Call.operands,e2]),h x (by simp [Op.operands,Call.operands,e2])]
  ·rfl
 | makeMap t r=>cases r<;>rfl
 | _=>rfl
theorem IC {op:Op} {σ:ak} {id:Nat} (h : ∀x∈op.operands.toList,g x=g' x):eR P op g σ id=eR P op g' σ id:=by
 unfold eR;cases op with
 | store t a x=>simp only [h a (by simp [Op.operands]),h x (by simp [Op.operands])]
 | convert s d x=>simp only [h x (by simp [Op.operands])]
 | call c=>
  simp only [];split
  ·rename_i s x t t' e1 e2 e3;rw [h s (by simp [Op.operands,Call.operands,e2]),h x (by simp [Op.operands,Call.operands,e2])]
  ·rename_i s x t t' e1 e2 e3;rw [h s (by simp [Op.operands,Call.operands,e2]),h x (by simp [Op.operands,Call.operands,e2])]
  ·rename_i s x t t' e1 e2 e3;rw [h s (by simp [Op.operands,Call.operands,e2]),h x (by simp [Op.operands,Call.operands,e2])]
  ·rename_i x t e1 e2 e3;rw [h x (by simp [Op.operands,Call.operands,e2])]
  ·rfl
 | mapUpdate t m k x=>simp only [h m (by simp [Op.operands]),h k (by simp [Op.operands]),h x (by simp [Op.operands])]
 | lookup t m k ok=>simp only [h m (by simp [Op.operands]),h k (by simp [Op.operands])]
 | _=>rfl
end
def iM (id:Nat) (blk:bF):V→V
 | .so i k lo n=>if i=id then (match blk with
  | .row k' es _=>if k'=k∧lo+n≤es.length then .d (.sd k false ((es.drop lo).take n)) else .unk
  | _=> .unk) else .so i k lo n
 | .po i o=>if i=id then (match blk with
  | .cell cs _=>(match pw cs with
   | some ds=> .d (.pd ds.length [.agg ds] 0 o)
   | none=> .unk)
  | _=> .unk) else .po i o
 | .pe i k ix j=>if i=id then (match blk with
  | .row k' es _=>if k'=k then .d (.pd k es ix j) else .unk
  | _=> .unk) else .pe i k ix j
 | .mo i=>if i=id then .unk else .mo i
 | .it i=>if i=id then .unk else .it i
 | .yl i=>if i=id then .unk else .yl i
 | v=>v
def V.frz (id:Nat) (blk:bF):V→V
 | .agg cs=>vw (cs.map (iM id blk))
 | .tup cs=> .tup (cs.map (iM id blk))
 | .fn f cs=>match pw (cs.map (iM id blk)) with
  | some ds=> .d (.fn f ds)
  | none=> .fn f (cs.map (iM id blk))
 | .d x=> .d x
 | .so i k lo n=>iM id blk (.so i k lo n)
 | .po i o=>iM id blk (.po i o)
 | .pe i k ix j=>iM id blk (.pe i k ix j)
 | .mo i=>iM id blk (.mo i)
 | .it i=>iM id blk (.it i)
 | .yl i=>iM id blk (.yl i)
 | .unk=> .unk
def aN.frz (id:Nat) (blk:bF):aN→aN
 | []=>[]
 | (k,v)::r=>(k,v.frz id blk)::aN.frz id blk r
def bF.frz (id:Nat) (blk:bF):bF→bF
 | .cell cs ty=> .cell (cs.map (V.frz id blk)) ty
 | .rc y j e=> .rc y j (e.frz id blk)
 | b=>b
def ak.frz (id:Nat) (blk:bF):ak→ak
 | []=>[]
 | (i,b)::r=>if i=id then ak.frz id blk r else (i,bF.frz id blk b)::ak.frz id blk r
theorem aN.get_frz (id:Nat) (blk:bF) (e:aN) (t:Nat):(e.frz id blk).get t=(e.get t).frz id blk:=by
 induction e with
 | nil=>rfl
 | cons x r ih=>
  obtain ⟨k,v⟩:=x;simp only [aN.frz,aN.get];split
  ·rfl
  ·exact ih
theorem ak.get_frz (id:Nat) (blk:bF) (σ:ak) (j:Nat):(σ.frz id blk).get j=if j=id then none else (σ.get j).map (bF.frz id blk):=by
 induction σ with
 | nil=>simp [ak.frz,ak.get]
 | cons x r ih=>
  obtain ⟨i,b⟩:=x;simp only [ak.frz];by_cases hi:i=id
  ·subst hi;rw [if_pos rfl,ih];by_cases hj:j=i
   ·simp [hj]
   ·rw [if_neg hj,if_neg hj];simp [ak.get,Ne.symm hj]
  ·rw [if_neg hi];simp only [ak.get];by_cases hj:i=j
   ·subst hj;simp [hi]
   ·rw [if_neg hj,if_neg hj,ih]
section
variable {w:World} {I I':Nat→Prop} {β:b7} {id:Nat} {blk:bF}
structure wO (w:World) (I I':Nat→Prop) (β:b7) (id:Nat) (blk:bF):Prop where
 imm : ∀b,I b→I' b
 own:ji w I β id blk
 now : ∀b c,β id=some (some (b,c))→I' b
theorem wO.atom (h:wO w I I' β id blk) {v:V} {x:Value} (hd:bY w I β v x):bY w I' β (iM id blk v) x:=by
 have keep : ∀ {v:V},bY w I β v x→bY w I' β v x:=fun hd=>hd.keep (fun _ _=>rfl) h.imm (fun _ _ h=>h)
 cases v with
 | so i k lo n=>
  simp only [iM];split
  ·rename_i hi;subst hi;split
   ·rename_i k' es tq;split
    ·rename_i hk;obtain ⟨rfl,hln⟩:=hk;rcases hd with ⟨hb,rfl,rfl,a,rfl⟩|⟨b,cap,c,hb,g1,g2,rfl⟩
     ·have:(es.drop 0).take 0=[]:=by simp
      rw [this];exact aq.sd0 k' false a
     ·rcases h.own with ⟨h1,h2⟩|⟨b',cap',cur,t,h1,h2,h3,h4,h5,h6⟩
      ·rw [hb] at h1;cases h1
      ·rw [hb] at h1;injection h1 with h1;injection h1 with h1;injection h1 with h1 h1';subst h1;subst h1';have hl:((es.drop lo).take n).length=n:=by simp;omega
       have hget : ∀(i:Nat) e,((es.drop lo).take n)[i]? = some e→es[lo+i]? = some e:=by
        intro i e he;simp only [List.getElem?_take,List.getElem?_drop] at he;split at he
        ·exact he
        ·cases he
       show aq w I' _ _;have key:=aq.sd (w:=w) (I:=I') k' false ((es.drop lo).take n) b (lo*k') c (fun i j=>(cur[lo*k'+i*k'+j]?).getD undef) (h.now b cap hb) (fun i e he=>(h6 _ e (hget i e he)).1)
        (fun i e j c he hj=>by
         obtain ⟨v,v1,_,_⟩:=(h6 _ e (hget i e he)).2 j c hj;rw [Nat.add_mul] at v1;simp [World.cell?,h2,v1])
        (fun i e j c he hj=>by
         obtain ⟨v,v1,v2,_⟩:=(h6 _ e (hget i e he)).2 j c hj;rw [Nat.add_mul] at v1;simp [v1,v2])
        (fun i e j c he hj=>by
         obtain ⟨v,v1,_,v3⟩:=(h6 _ e (hget i e he)).2 j c hj;rw [Nat.add_mul] at v1;simp only [v1,Option.getD_some];exact v3.keep (fun _ _=>rfl) h.imm) (by omega) (by simp)
       rw [hl] at key;exact key
    ·trivial
   ·trivial
  ·exact keep hd
 | po i o=>
  simp only [iM];split
  ·rename_i hi;subst hi;split
   ·rename_i cs tq;split
    ·rename_i ds hds;have:=fy hds;subst this;obtain ⟨b,cap,hb,rfl⟩:=hd;obtain ⟨b',cap',cur,t,h1,h2,h3,h4⟩:=h.own;rw [hb] at h1;injection h1 with h1;injection h1 with h1;injection h1 with h1 h1';subst h1;have hc : ∀(j:Nat) c,ds[j]? = some c → ∃v,cur[j]? = some v∧v.oneCell'=true∧aq w I c v:=by
      intro j c hj;obtain ⟨v,v1,v2,v3⟩:=h4 j (.d c) (by simp [hj]);exact ⟨v,v1,v2,v3⟩
     show aq w I' _ _;have key:=aq.pd (w:=w) (I:=I') ds.length [.agg ds] 0 o b 0 (fun _ j=>(cur[j]?).getD undef) (h.now b cap hb) (fun i e he=>by
      match i,he with
      | 0,he=>simp at he;subst he;rfl)
      (fun i e j c he hj=>by
       match i,he with
       | 0,he=>
        simp at he;subst he;obtain ⟨v,v1,_,_⟩:=hc j c hj;simp [World.cell?,h2,v1])
      (fun i e j c he hj=>by
       match i,he with
       | 0,he=>
        simp at he;subst he;obtain ⟨v,v1,v2,_⟩:=hc j c hj;simp [v1,v2])
      (fun i e j c he hj=>by
       match i,he with
       | 0,he=>
        simp at he;subst he;obtain ⟨v,v1,_,v3⟩:=hc j c hj;simp only [v1,Option.getD_some];exact v3.keep (fun _ _=>rfl) h.imm)
     simpa using key
    ·trivial
   ·trivial
  ·exact keep hd
 | pe i k ix j=>
  simp only [iM];split
  ·rename_i hi;subst hi;split
   ·rename_i k' es tq;split
    ·rename_i hk;subst hk;obtain ⟨b,cap,hb,rfl⟩:=hd;rcases h.own with ⟨h1,h2⟩|⟨b',cap',cur,t,h1,h2,h3,h4,h5,h6⟩
     ·rw [hb] at h1;cases h1
     ·rw [hb] at h1;injection h1 with h1;injection h1 with h1;injection h1 with h1 h1';subst h1;subst h1';show aq w I' _ _;have key:=aq.pd (w:=w) (I:=I') k' es ix j b 0 (fun i j=>(cur[i*k'+j]?).getD undef) (h.now b cap hb) (fun i e he=>(h6 _ e he).1)
       (fun i e j c he hj=>by
        obtain ⟨v,v1,_,_⟩:=(h6 _ e he).2 j c hj;simp [World.cell?,h2,v1])
       (fun i e j c he hj=>by
        obtain ⟨v,v1,v2,_⟩:=(h6 _ e he).2 j c hj;simp [v1,v2])
       (fun i e j c he hj=>by
        obtain ⟨v,v1,_,v3⟩:=(h6 _ e he).2 j c hj;simp only [v1,Option.getD_some];exact v3.keep (fun _ _=>rfl) h.imm)
      simpa using key
    ·trivial
   ·trivial
  ·exact keep hd
 | mo i=>
  simp only [iM];split
  ·trivial
  ·exact keep hd
 | it i=>
  simp only [iM];split
  ·trivial
  ·exact keep hd
 | yl i=>
  simp only [iM];split
  ·trivial
  ·exact keep hd
 | _=>exact keep hd
theorem wO.atoms (h:wO w I I' β id blk) {cs:List V} {vs:List Value} (hd:bR w I β cs vs):bR w I' β (cs.map (iM id blk)) vs:=by
 refine ⟨by simpa using hd.1,fun i c v hc hv =>?_⟩;simp only [List.getElem?_map,Option.map_eq_some_iff] at hc;obtain ⟨c',hc',rfl⟩:=hc;exact h.atom (hd.2 i c' v hc' hv)
theorem dT {v:V} {x:Value} (hd:bY w I β v x):aJ w I β v x:=by
 cases v<;>first|exact hd|exact hd.elim
theorem wO.den (h:wO w I I' β id blk) {v:V} {x:Value} (hd:aJ w I β v x):aJ w I' β (v.frz id blk) x:=by
 cases v with
 | agg cs=>obtain ⟨vs,rfl,ho,hd⟩:=hd;exact gV (h.atoms hd) ho
 | tup cs=>obtain ⟨vs,e,hd⟩:=hd;exact ⟨vs,e,h.atoms hd⟩
 | fn f cs=>
  obtain ⟨vs,rfl,hd⟩:=hd;have hs:=h.atoms hd;simp only [V.frz];split
  ·rename_i ds hds;have:=fy hds;rw [this] at hs;exact aq.fn f ds vs (by simpa using hs.1) (fun i c v hc hv=>hs.2 i (.d c) v (by simp [hc]) hv)
  ·exact ⟨vs,rfl,hs⟩
 | unk=>trivial
 | d y=>exact aq.keep (x:=y) (fun _ _=>rfl) h.imm hd
 | so i k lo n=>exact dT (h.atom (v:= .so i k lo n) hd)
 | po i o=>exact dT (h.atom (v:= .po i o) hd)
 | pe i k ix j=>exact dT (h.atom (v:= .pe i k ix j) hd)
 | mo i=>exact dT (h.atom (v:= .mo i) hd)
 | it i=>exact dT (h.atom (v:= .it i) hd)
 | yl i=>exact dT (h.atom (v:= .yl i) hd)
end
section
variable {P:Program} {w:World} {I:Nat→Prop} {β:b7} {σ:ak} {nx id:Nat} {blk:bF}
theorem zu (h:cQ w I β σ nx) (hg:σ.get id=some blk):ar w I β σ nx w (fun b=>I b ∨ ∃c,β id=some (some (b,c))) β (σ.frz id blk) nx∧wO w I (fun b=>I b ∨ ∃c,β id=some (some (b,c))) β id blk:=by
 have h1:=ar.refl h;have hown:=h1.mem.own id blk hg;let I':Nat→Prop:=fun b=>I b ∨ ∃c,β id=some (some (b,c))
 have hset:wO w I I' β id blk:=⟨fun b hb=> .inl hb,hown,fun b c hb=> .inr ⟨c,hb⟩⟩
 refine ⟨⟨⟨fun j b hj =>?_,fun j j' b b' k c c' g1 g2 g3 g4 =>?_,h1.mem.free,fun b hb =>?_⟩,h1.os,h1.tape,h1.output,h1.size,h1.block,fun b hb=> .inl (h1.imm b hb),fun b hb =>?_,h1.bet,h1.nx,fun b ⟨j,bl,c,g1,g2⟩ =>?_⟩,hset⟩
 ·rw [ak.get_frz] at hj;split at hj
  ·cases hj
  ·rename_i hne;simp only [Option.map_eq_some_iff] at hj;obtain ⟨b0,hb0,rfl⟩:=hj;have ho:=h1.mem.own j b0 hb0;have hni : ∀b c,β j=some (some (b,c)) → ¬I' b:=by
    intro b c hb hI;rcases hI with hI|⟨c',hc'⟩
    ·exact (ho.not_imm hb).1 hI
    ·exact hne (h1.mem.inj j id b0 blk b c c' hb0 hg hb hc')
   cases b0 with
   | cell cs ty=>
    obtain ⟨b,cap,cur,t,q1,q2,q3,q4⟩:=ho;refine ⟨b,cap,cur,t,q1,q2,hni b cap q1,fun i c hi =>?_⟩;simp only [List.getElem?_map,Option.map_eq_some_iff] at hi;obtain ⟨c',hc',rfl⟩:=hi;obtain ⟨v,v1,v2,v3⟩:=q4 i c' hc';exact ⟨v,v1,v2,hset.den v3⟩
   | row k es ty=>exact ho.keep (fun _ _=>rfl) (fun b hb=> .inl hb) hni (fun _ _ h=>h)
   | map es=>exact ho.keep (fun _ _=>rfl) (fun b hb=> .inl hb) hni (fun _ _ h=>h)
   | iter s pos=>exact ho.keep (fun _ _=>rfl) (fun b hb=> .inl hb) hni (fun _ _ h=>h)
   | rc y q e=>
    obtain ⟨b,cap,r,q1,q2,q3,q4,q5⟩:=ho;refine ⟨b,cap,r,q1,q2,hni b cap q1,q4,fun t =>?_⟩;rw [aN.get_frz];exact hset.den (q5 t)
 ·rw [ak.get_frz] at g1 g2;split at g1
  ·cases g1
  ·split at g2
   ·cases g2
   ·simp only [Option.map_eq_some_iff] at g1 g2;obtain ⟨x,hx,_⟩:=g1;obtain ⟨y,hy,_⟩:=g2;exact h1.mem.inj j j' x y k c c' hx hy g3 g4
 ·rcases hb with hb|⟨c,hb⟩
  ·exact h1.mem.lt b hb
  ·exact (hown.not_imm hb).2
 ·rcases hb with hb|⟨c,hb⟩
  ·exact h1.immn b hb
  ·rcases h1.own' b ⟨id,blk,c,hg,hb⟩ with h|h
   ·exact .inr (.inl h)
   ·exact .inr (.inr h)
 ·rw [ak.get_frz] at g1;split at g1
  ·cases g1
  ·simp only [Option.map_eq_some_iff] at g1;obtain ⟨x,hx,_⟩:=g1;exact h1.own' b ⟨j,x,c,hx,g2⟩
end
def RQ:V→Option Nat
 | .so i _ _ _=>some i
 | _=>none
def PY:List V→Option Nat
 | []=>none
 | v::r=>match RQ v with
  | some i=>some i
  | none=>PY r
def RS (v:V):Option Nat:=match v with
 | .agg cs=>PY cs
 | .so i _ _ _=>some i
 | _=>none
def PX:List (Nat × V)→Option Nat
 | []=>none
 | (_,v)::r=>match RS v with
  | some i=>some i
  | none=>PX r
def Uj (P:Program) (t n id:Nat) (ps:List (Nat × V)) (σ:ak):jt:=match qv P t,xU 0 ps with
 | some (k,_),some es=>if es.length=n∧n*k≤16777216 then some (iz k es,.so id k 0 n,σ++[(id,.row k es)]) else none
 | _,_=>none
def I4 (i:Nat) (blk:bF):List (Nat × V)→List (Nat × V)
 | []=>[]
 | (j,v)::r=>(j,v.frz i blk)::I4 i blk r
def QO (F:List (Nat × V)→ak→jt) (ps:List (Nat × V)) (σ:ak):jt:=match PX ps with
 | some i=>(match σ.get i with
  | some blk=>F (I4 i blk ps) (σ.frz i blk)
  | none=>none)
 | none=>F ps σ
def Vh (P:Program) (t n id:Nat) (ps:List (Nat × V)) (σ:ak):jt:=QO (QO (QO (Uj P t n id))) ps σ
theorem zt (i:Nat) (blk:bF) (g:Operand→V) : ∀ps:List (Nat × Operand),I4 i blk (ps.map fun p=>(p.1,g p.2))=ps.map fun p=>(p.1,(g p.2).frz i blk)
 | []=>rfl
 | p::r=>by rw [List.map_cons,I4,zt i blk g r];rfl
end Go.Proofs.YtkkanlcjjpoklaaGreatDoor
