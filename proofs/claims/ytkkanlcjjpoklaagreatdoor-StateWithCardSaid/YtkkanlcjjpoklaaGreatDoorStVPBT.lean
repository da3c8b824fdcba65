/- What the theorem leans on, part 46. -/
import Derived.WalkKit
import Derived.WalkSpells
import Derived.Carry
import Derived.Lib.Hide
import Derived.ProofKit
import Derived.Lib.SmallJoins
import Derived.OpenShut
import Derived.Deep.Slices
import Derived.Deep.Fields
import Derived.WideShapes
import Derived.Lib.LaidTab
import Derived.Stop.LaidErr
import Derived.MakeChecks
import Derived.Test.YtkkanlcjjpoklaaGreatDoorRows
import Derived.SevenTiedAt
import Derived.Test.YtkkanlcjjpoklaaGreatDoorStVPAN
import Derived.Test.YtkkanlcjjpoklaaGreatDoorStVPAP
set_option linter.unusedSimpArgs false
namespace Go.Proofs.YtkkanlcjjpoklaaGreatDoor
open Go.RowKit
def Q0 (v:Value) (w:World) (e:Ending) (w':World):Prop:=e = .returned v∧Below w.heap.size w w'
def mK (w:World) (g:Nat) (t:TypeId) (cs:Array Value):Prop:=w.heap[g]? = some (.cells cs t (0,0))
section
variable {w w':World} {g:Nat} {t:TypeId} {cs:Array Value}
theorem mK.lt (h:mK w g t cs):g<w.heap.size:=by
 rcases aa2 g w.heap.size with hlt|hge
 ·exact hlt
 ·unfold mK at h;rw [ac1 hge] at h;cases h
theorem mK.cell (h:mK w g t cs) (i:Nat):w.cell? ⟨g,i,none⟩=cs[i]? :=by
 unfold mK at h;simp [World.cell?,h]
theorem mK.free (h:mK w g t cs) (i:Nat):w.frozen? ⟨g,i,none⟩=false:=by
 unfold mK at h;simp [World.frozen?,h]
theorem mK.drew (h:mK w g t cs):mK w.drew g t cs:=h
theorem mK.new (w:World) (t:TypeId) (cs:Array Value):mK (w.alloc (.cells cs t)) w.heap.size t cs:=by
 show (w.heap.push _)[w.heap.size]? = _;simp
theorem mK.alloc (h:mK w g t cs) (o:Obj):mK (w.alloc o) g t cs:=(Below.heap_alloc w o g h.lt).trans h
theorem mK.set_ (h:mK w g t cs) (i:Nat) (u:Value):mK (w.setCell ⟨g,i,none⟩ u) g t (cs.setIfInBounds i u):=by
 unfold mK at h ⊢;simp [World.setCell,Array.getElem?_modify,h]
theorem mK.far (h:mK w g t cs) {p:Addr} (hp:g≠p.block) (u:Value):mK (w.setCell p u) g t cs:=(Below.heap_setCell w p u g hp).trans h
theorem mK.below {B:Nat} (h:mK w g t cs) (hb:Below B w w') (hg:g<B):mK w' g t cs:=(hb.block g hg).trans h
theorem mK.to (h:mK w g t cs) {cs':Array Value} (e:cs=cs'):mK w g t cs':=e▸h
end
def lN (w:World) (B:Nat) (A:Option Addr) (n:Nat) (l:List (Int × Int)):Prop:=
 l.length=n∧(0<n → ∃b off,A=some ⟨b,off,none⟩∧b<B ∧ ∀i x y,l[i]? = some (x,y) →
  w.cell? ⟨b,off+i*2,none⟩=some (.int .i64 x)∧w.cell? ⟨b,off+i*2+1,none⟩=some (.int .i64 y))
theorem lN.below {w w':World} {B:Nat} {A:Option Addr} {n:Nat} {l:List (Int × Int)} (h:lN w B A n l) (hb:Below B w w'):lN w' B A n l:=
 ⟨h.1,fun hn=>by
  obtain ⟨b,off,e,hlt,hc⟩:=h.2 hn;exact ⟨b,off,e,hlt,fun i x y hi=>⟨(hb.cell hlt).trans (hc i x y hi).1,(hb.cell hlt).trans (hc i x y hi).2⟩⟩⟩
theorem lN.fwd {w W:World} {A:Option Addr} {n:Nat} {l:List (Int × Int)} (h:lN w w.heap.size A n l) (hW:Below w.heap.size w W):lN W W.heap.size A n l:=
 ⟨h.1,fun hn=>by
  obtain ⟨b,off,e,hlt,hc⟩:=h.2 hn;have:=hW.size;exact ⟨b,off,e,by omega,fun i x y hi=>⟨(hW.cell hlt).trans (hc i x y hi).1,(hW.cell hlt).trans (hc i x y hi).2⟩⟩⟩
theorem lN.nil (w:World) (B:Nat) (A:Option Addr):lN w B A 0 []:=⟨rfl,fun h=>absurd h (by omega)⟩
theorem lN.at_ {w:World} {B:Nat} {A:Option Addr} {n k:Nat} {l:List (Int × Int)} (h:lN w B A n l) (hk:k<n) :
 ∃b off x y,A=some ⟨b,off,none⟩∧b<B∧l[k]? = some (x,y)∧w.cell? ⟨b,off+k*2,none⟩=some (.int .i64 x)∧w.cell? ⟨b,off+k*2+1,none⟩=some (.int .i64 y):=by
 obtain ⟨b,off,e,hlt,hc⟩:=h.2 (by omega);have hl:k<l.length:=by have:=h.1;omega
 have hg:l[k]? = some (l[k].1,l[k].2):=IO hl;exact ⟨b,off,_,_,e,hlt,hg,hc k _ _ hg⟩
end Go.Proofs.YtkkanlcjjpoklaaGreatDoor
namespace Go.Proofs.YtkkanlcjjpoklaaGreatDoor
open Go.RowKit
end Go.Proofs.YtkkanlcjjpoklaaGreatDoor
namespace Go.Proofs.YtkkanlcjjpoklaaGreatDoor
open Go.ChangeShapes Go.WideShapes Go.ChangeAt Go.RowKit Go.WideElems
section
variable {H:Type} {enc:TypeId × Value→H} {P:Program}
theorem n8 (hl:laidOutB P=true) {W W':World} {sp':Nat→Bool} (hb:Below W.heap.size W W') :
 ∀(ts:List TypeId) (vs:List Value) (ds:List (DataW H)) (ps:List MemPlace),(∀t∈ts,P.readableRec t=true∧t<P.types.size) →
   DataW.TrodAll enc P W 0 (fun _=>true) true ts vs ds ps→(∀p∈ps,p.block<W.heap.size)→(∀p∈ps,sp' p.block=true)→DataW.TrodAll enc P W' 0 sp' true ts vs ds ps
 | [],[],[],_,_,h,_,_=>h
 | t::ts,v::vs,d::ds,ps,hr,⟨p,q,h1,h2,e⟩,hlt,hs=>by
  subst e;refine ⟨p,q,Trod_stays hl (hr t (by simp)).1 (hr t (by simp)).2 h1 (fun x hx=>hb.same (hlt x (by simp [hx]))) (fun x hx=>hs x (by simp [hx])),?_,rfl⟩;exact n8 hl hb ts vs ds q (fun t ht=>hr t (by simp [ht])) h2 (fun x hx=>hlt x (by simp [hx])) (fun x hx=>hs x (by simp [hx]))
 | [],[],_::_,_,_,h,_,_=>h.elim
 | [],_::_,_,_,_,h,_,_=>h.elim
 | _::_,[],_,_,_,h,_,_=>h.elim
 | _::_,_::_,[],_,_,h,_,_=>h.elim
theorem Lr {fn:Func} {s:ChangeSpec} {apart fresh handsOn again:Bool} {tb:TypeId} {W W':World} {args:Array Value} {ds gs:List (DataW H)} {before:List MemPlace}
 (hl:laidOutB P=true) (hread:(fn.params.toList.all fun t=>P.readableRec t&&decide (t<P.types.size))=true) (hv:s.vars=[]) (hrt:fn.resultTypes = #[tb]) (ub:P.underlying tb=some .bool)
 (hW:DataW.Whole enc P fn.params.toList s.vars apart W args.toList ds gs before) (hsp:s.fn H (ds++gs) = { results:=[.lit (.bool true)],args:=ds }) (hb:Below W.heap.size W W') :
 s.post enc P fn apart fresh handsOn again W args (.bool true) W':=by
 have hlt : ∀p∈before,p.block<W.heap.size:=fun p hp=>hW.lt p hp
 obtain ⟨p,q,hA,hV,rfl,hz,hn⟩:=id hW;have hrd : ∀t∈fn.params.toList,P.readableRec t=true∧t<P.types.size:=fun t ht=>by
  have:=abF.1 hread t ht;simpa using this
 have hq:gs=[]∧q=[]:=by
  rw [hv] at hV;obtain ⟨h1,h2⟩:=trodVars_none hV;exact ⟨h1,h2⟩
 obtain ⟨rfl,rfl⟩:=hq;have hargs : ∀sp:Nat→Bool,(∀x∈p++[],sp x.block=true)→DataW.TrodAll enc P W' 0 sp true fn.params.toList args.toList ds p:=fun sp hs=>
  n8 hl hb _ _ _ _ hrd hA (fun x hx=>hlt x (by simp [hx])) (fun x hx=>hs x (by simp [hx]))
 have hres : ∀(b:Nat) (sp:Nat→Bool) (hd:Bool),DataW.TrodAll enc P W' b sp hd fn.resultTypes.toList ((Value.bool true).resultList fn.resultTypes.size) [.lit (.bool true)] []:=fun b sp hd=>by
  rw [hrt];exact trodAll_mk1 (shut_bool ub true)
 have hvars : ∀sp:Nat→Bool,DataW.TrodVars enc P W' sp s.vars [] []:=fun sp=>by rw [hv];rfl
 have hold : ∀x∈p++[],(fun b=>decide (b<W.heap.size)) x.block=true:=fun x hx=>by simpa using hlt x hx
 have hok : ∀(j:Nat) (t:TypeId) (r:Value),fn.resultTypes[j]? = some t→((Value.bool true).resultList fn.resultTypes.size)[j]? = some r→Value.okWide P W' .any 0 t r:=
  ok_one hrt rfl (okWide_bool_mk ub true)
 refine ⟨ds,[],p++[],[],p,[],hW,?_,?_,?_,World.keptBut_mono (fun x hx=>⟨hx,?_⟩) (hb.frame (· ∈ p++[])),fun _ =>?_⟩
 ·rw [hsp];exact hres _ _ _
 ·rw [hsp];exact hargs _ hold
 ·rw [hsp];exact hvars _
 ·exact .inr (.inl (by simpa using hx))
 ·refine ⟨hok,[.lit (.bool true)]++ds,[],p,⟨[]++p,[],?_,hvars _,by simp,?_,?_⟩,?_⟩
  ·exact trodAll_append (hargs (fun _=>true) (fun _ _=>rfl)) (hres 0 (fun _=>true) true)
  ·intro b off hp;have hin:MemPlace.cell b off∈p++[]:=by simpa using hp
   rw [hb.frozen (p:=⟨b,off,none⟩) (hlt _ hin)];exact hz b off hin
  ·intro ha;simpa using hn ha
  ·intro x hx _;simpa using hx
theorem oP {f:FuncId} {fn:Func} {s:ChangeSpec} {apart fresh handsOn again:Bool} {tb:TypeId} {W:World} {args:Array Value} {ds gs:List (DataW H)} {before:List MemPlace}
 (hl:laidOutB P=true) (hread:(fn.params.toList.all fun t=>P.readableRec t&&decide (t<P.types.size))=true) (hv:s.vars=[]) (hrt:fn.resultTypes = #[tb]) (ub:P.underlying tb=some .bool)
 (hW:DataW.Whole enc P fn.params.toList s.vars apart W args.toList ds gs before) (hsp:s.fn H (ds++gs) = { results:=[.lit (.bool true)],args:=ds })
 (h:Calls P f args W (Q0 (.bool true) W)):Calls P f args W fun e W'=> ∃v,e = .returned v∧s.post enc P fn apart fresh handsOn again W args v W':=
 h.mono fun _ _ ⟨he,hb⟩=>⟨_,he,Lr hl hread hv hrt ub hW hsp hb⟩
end
end Go.Proofs.YtkkanlcjjpoklaaGreatDoor
namespace Go.Proofs.YtkkanlcjjpoklaaGreatDoor
open Go Go.ChangeShapes Go.WideShapes Go.ChangeAt Go.RowKit Go.WideElems Go.Deep
inductive Cs where
 | int (k:IntKind)|bool|str
 | sl (k:Nat) (ag:Bool) (e:List Cs)
def nz (ag:Bool) (ds:List D):D:=match ag,ds with
 | false,[d]=>d
 | _,ds=> .agg ds
mutual
def qk:Cs→D→Prop
 | .int k,x=> ∃n,x = .lit (.int k n)∧(Lit.int k n).wf=true
 | .bool,x=> ∃b,x = .lit (.bool b)
 | .str,x=> ∃s:ByteArray,x = .lit (.string s)∧s.size≤maxLen
 | .sl k ag e,x=> ∃es,x = .sd k false es∧es.length≤maxLen ∧ ∀y∈es,∃ds,y=nz ag ds∧bO e ds
def bO:List Cs→List D→Prop
 | [],[]=>True
 | c::r,d::s=>qk c d∧bO r s
 | _,_=>False
end
theorem qk.cells {c:Cs} {d:D} (h:qk c d):d.cells=[d]:=by
 cases c with
 | int k=>simp only [qk] at h;obtain ⟨n,rfl,_⟩:=h;rfl
 | bool=>simp only [qk] at h;obtain ⟨n,rfl⟩:=h;rfl
 | str=>simp only [qk] at h;obtain ⟨n,rfl,_⟩:=h;rfl
 | sl k ag e=>simp only [qk] at h;obtain ⟨n,rfl,_⟩:=h;rfl
theorem bO.len : ∀ {l:List Cs} {ds:List D},bO l ds→ds.length=l.length
 | [],[],_=>rfl
 | c::r,d::s,h=>by simp only [bO] at h;simp [bO.len h.2]
 | [],_::_,h=>by simp [bO] at h
 | _::_,[],h=>by simp [bO] at h
theorem bO.app : ∀ {a b:List Cs} {x y:List D},bO a x→bO b y→bO (a++b) (x++y)
 | [],_,[],_,_,h=>h
 | c::r,_,d::s,_,h,k=>by
  simp only [bO,abG] at h ⊢;exact ⟨h.1,bO.app h.2 k⟩
 | [],_,_::_,_,h,_=>by simp [bO] at h
 | _::_,_,[],_,h,_=>by simp [bO] at h
theorem jz {ag:Bool} {l:List Cs} {ds:List D} (h:bO l ds):(nz ag ds).cells=ds:=by
 unfold nz;split
 ·match l,h with
  | c::[],h=>
   simp only [bO] at h;exact h.1.cells
  | [],h=>simp [bO] at h
  | _::_::_,h=>simp [bO] at h
 ·rfl
def fP (P:Program) (t:Nat):Bool:=match P.underlying t with
 | some (.struct _)=>true
 | some (.array _ _)=>true
 | _=>false
def na (P:Program) (g:Nat→Option (List Cs)):List Field→Nat→Option (List Cs)
 | [],_=>some []
 | f::r,o=>if f.offset=o then (match g f.type with
  | some a=>if P.cellsOf f.type=a.length then (na P g r (o+a.length)).map (a ++ ·) else none
  | none=>none) else none
def JK (P:Program):Nat→Nat→Option (List Cs)
 | 0,_=>none
 | d+1,t=>match P.underlying t with
  | some (.int k)=>some [.int k]
  | some .bool=>some [.bool]
  | some .string=>some [.str]
  | some (.struct fs)=>(match na P (JK P d) fs.toList 0 with
   | some l=>if P.cellsOf t=l.length then some l else none
   | none=>none)
  | some (.slice e)=>(match JK P d e with
   | some l=>if P.cellsOf e=l.length∧0<l.length then some [.sl l.length (fP P e) l] else none
   | none=>none)
  | some (.array n e)=>(match JK P d e with
   | some l=>if P.cellsOf e=l.length∧P.cellsOf t=n*l.length then some (List.replicate n l).flatten else none
   | none=>none)
  | _=>none
section
variable {H:Type} {enc:TypeId × Value→H} {P:Program} {w:World} {held:Bool}
def wx (w:World):Nat→Prop:=fun b=>b<w.heap.size
def dN (w:World) (ds:List D) (cs:List Value):Prop:=ds.length=cs.length∧(∀v∈cs,v.oneCell'=true) ∧ ∀(i:Nat) c v,ds[i]? = some c→cs[i]? = some v→ax w (wx w) c v
theorem dN.nil:dN w [] []:=⟨rfl,(fun v hv=>by cases hv),(fun i c v h=>by simp at h)⟩
theorem dN.one {d:D} {v:Value} (ho:v.oneCell'=true) (h:ax w (wx w) d v):dN w [d] [v]:=
 ⟨rfl,fun x hx=>by simp at hx;subst hx;exact ho,fun i c x hc hx=>by
  match i,hc,hx with
  | 0,hc,hx=>simp at hc hx;subst hc hx;exact h⟩
theorem dN.app {a b:List D} {x y:List Value} (h:dN w a x) (k:dN w b y):dN w (a++b) (x++y):=by
 refine ⟨by simp [h.1,k.1],fun v hv =>?_,fun i c v hc hv =>?_⟩
 ·rcases abe.1 hv with hv|hv
  ·exact h.2.1 v hv
  ·exact k.2.1 v hv
 ·rw [acz] at hc hv;rw [h.1] at hc;split at hc
  ·rename_i hlt;rw [aa3 hlt] at hv;exact h.2.2 i c v hc hv
  ·rename_i hlt;rw [aaY hlt] at hv;exact k.2.2 _ c v hc hv
theorem pV {d n:Nat} (ih : ∀t l,JK P d t=some l → ∀(fuel:Nat) cs x,DataW.trod enc P w 0 (fun _=>true) held fuel t cs=some x → ∃ds,bO l ds∧dN w ds cs) {cs:List Value} :
 ∀(fs:List Field) (o:Nat) (l:List Cs),na P (JK P d) fs o=some l→(∀f∈fs,∃x,DataW.trod enc P w 0 (fun _=>true) held n f.type ((cs.drop f.offset).take (P.cellsOf f.type))=some x) →
   ∃ds,bO l ds∧dN w ds ((cs.drop o).take l.length)
 | [],o,l,h,_=>by
  simp only [na,aa5] at h;subst h;exact ⟨[],by simp [bO],by simpa using dN.nil⟩
 | f::fs,o,l,h,hx=>by
  simp only [na] at h;split at h;rotate_left
  ·cases h
  rename_i ho;split at h;rotate_left
  ·cases h
  rename_i a ha;split at h;rotate_left
  ·cases h
  rename_i hc;simp only [aaZ] at h;obtain ⟨b,hb,rfl⟩:=h;obtain ⟨x,h1⟩:=hx f abj;obtain ⟨d1,p1,q1⟩:=ih f.type a ha n _ _ h1;obtain ⟨d2,p2,q2⟩:=pV ih fs (o+a.length) b hb (fun g hg=>hx g (abd _ hg));refine ⟨d1++d2,p1.app p2,?_⟩;have e:(cs.drop o).take (a++b).length=(cs.drop f.offset).take (P.cellsOf f.type)++(cs.drop (o+a.length)).take b.length:=by
   rw [ho,hc,Or,adA,acm]
  rw [e];exact q1.app q2
theorem ER {a:Addr} {v:Value} (h:w.cell? a=some v):a=⟨a.block,a.off,none⟩∧a.block<w.heap.size:=by
 refine ⟨?_,World.block_lt_of_cell? w _ h⟩;rcases a with ⟨b,o,s⟩
 cases s with
 | none=>rfl
 | some s=>simp [World.cell?] at h;split at h<;>simp at h
theorem G4 (b o n:Nat):(Addr.mk b o none).add n=⟨b,o+n,none⟩:=by
 unfold Addr.add;split<;>simp_all
theorem B9 {e n:Nat} {l:List Cs} {cs:List Value} (ih : ∀(i:Nat),i<n → ∃ds,bO l ds∧dN w ds ((cs.drop (i*l.length)).take l.length)) :
 ∀k,k≤n → ∃ds,bO (List.replicate k l).flatten ds∧dN w ds (cs.take (k*l.length))
 | 0,_=>⟨[],by simp [bO],by rw [Nat.zero_mul,abO];exact dN.nil⟩
 | k+1,hk=>by
  obtain ⟨d1,p1,q1⟩:=B9 (e:=e) ih k (by omega);obtain ⟨d2,p2,q2⟩:=ih k (by omega);refine ⟨d1++d2,?_,?_⟩
  ·have e:(List.replicate (k+1) l).flatten=(List.replicate k l).flatten++l:=by
    rw [acr,acQ];simp
   rw [e];exact p1.app p2
  ·rw [ad6,adA];exact q1.app q2
theorem EL : ∀(d t:Nat) (l:List Cs),JK P d t=some l → ∀(fuel:Nat) cs x,DataW.trod enc P w 0 (fun _=>true) held fuel t cs=some x → ∃ds,bO l ds∧dN w ds cs:=by
 intro d;induction d with
 | zero=>intro t l h;simp [JK] at h
 | succ d ih=>
  intro t l h fuel cs x ht;simp only [JK] at h;split at h
  ·rename_i k hu;injection h with h;subst h;obtain ⟨n,rfl,_,hw⟩:=DataW.trod_int hu ht;exact ⟨[.lit (.int k n)],by simp only [bO,qk];exact ⟨⟨n,rfl,hw⟩,trivial⟩,dN.one rfl (ax.lit _)⟩
  ·rename_i hu;injection h with h;subst h;obtain ⟨n,rfl,_⟩:=DataW.trod_bool hu ht;exact ⟨[.lit (.bool n)],by simp only [bO,qk];exact ⟨⟨n,rfl⟩,trivial⟩,dN.one rfl (ax.lit _)⟩
  ·rename_i hu;injection h with h;subst h;obtain ⟨n,rfl,_,hw⟩:=DataW.trod_string hu ht;exact ⟨[.lit (.string n)],by simp only [bO,qk];exact ⟨⟨n,rfl,hw⟩,trivial⟩,dN.one rfl (ax.lit _)⟩
  ·rename_i fs hu;split at h;rotate_left
   ·cases h
   rename_i l' hl';split at h;rotate_left
   ·cases h
   rename_i hcl;injection h with h;subst h;obtain ⟨xs,n,_,_,hlen,hxs,hg⟩:=DataW.trod_struct hu ht;obtain ⟨ds,h1,h2⟩:=pV (n:=n) (cs:=cs) ih fs.toList 0 l' hl' (fun f hf=>by
    obtain ⟨i,hi,rfl⟩:=List.getElem_of_mem hf;have hi':i<fs.size:=by simpa using hi
    have:=hg i fs[i] (by simp [hi']);refine ⟨xs[i]'(by omega),?_⟩;have e:fs.toList[i]=fs[i]:=by simp
    rw [e,this];exact IO (by omega))
   refine ⟨ds,h1,?_⟩;rw [ac9,aaW (by omega)] at h2;exact h2
  ·rename_i e hu;split at h;rotate_left
   ·cases h
   rename_i l' hl';split at h;rotate_left
   ·cases h
   rename_i hcl;obtain ⟨hcl,hpos⟩:=hcl;injection h with h;subst h;rcases open_slice hu ht with ⟨rfl,_⟩|⟨a,len,cap,m,n,D',Pl,rfl,_,hle,hm,hmm,_,hall⟩
   ·refine ⟨[.sd l'.length false []],?_,dN.one rfl (ax.sd0 _ _ _)⟩;simp only [bO,qk];exact ⟨⟨[],rfl,aa1 _,fun y hy=>by cases hy⟩,trivial⟩
   ·rw [aa3 rfl] at hmm;subst hmm;rw [hcl] at hall;rcases abH m with h0|h0
    ·have hl0:len=0:=by omega
     subst hl0 h0;refine ⟨[.sd l'.length false []],?_,dN.one rfl (ax.sd0 _ _ _)⟩;simp only [bO,qk];exact ⟨⟨[],rfl,aa1 _,fun y hy=>by cases hy⟩,trivial⟩
    ·have hpl:a=⟨a.block,a.off,none⟩∧a.block<w.heap.size:=by
      obtain ⟨cs',hc',_⟩:=hall 0 h0;obtain ⟨_,hcl',hat⟩:=World.cells?_some hc';have h1:=hat 0 hpos;rw [IO (by omega)] at h1;rw [Go.Deep.add_add] at h1;simpa [Addr.add] using ER h1
     obtain ⟨ha,hbl⟩:=hpl;have hel : ∀i,i<m → ∃ds,bO l' ds ∧ ∀(j:Nat) c,ds[j]? = some c → ∃v,w.cell? ⟨a.block,a.off+i*l'.length+j,none⟩=some v∧v.oneCell'=true∧ax w (wx w) c v:=by
      intro i hi;obtain ⟨cs',hc',ht'⟩:=hall i hi;obtain ⟨_,hcl',hat⟩:=World.cells?_some hc';obtain ⟨ds,h1,h2⟩:=ih e l' hl' n cs' _ ht';refine ⟨ds,h1,fun j c hj =>?_⟩;have hjl:j<cs'.length:=by rw [←h2.1];exact (aaX.1 hj).1
      have h3:=hat j (by omega);rw [Go.Deep.add_add,ha,G4,IO hjl] at h3;refine ⟨cs'[j],?_,h2.2.1 _ (ad0 hjl),h2.2.2 j c _ hj (IO hjl)⟩;rw [←h3,acI]
     let F:Nat→List D:=fun i=>if hi:i<m then (hel i hi).choose else []
     have hF : ∀i,i<m→bO l' (F i) ∧ ∀(j:Nat) c,(F i)[j]? = some c → ∃v,w.cell? ⟨a.block,a.off+i*l'.length+j,none⟩=some v∧v.oneCell'=true∧ax w (wx w) c v:=by
      intro i hi;have e:F i=(hel i hi).choose:=by simp only [F,hi,acB]
      rw [e];exact (hel i hi).choose_spec
     have hes : ∀(i:Nat) y,((List.range len).map fun i=>nz (fP P e) (F i))[i]? = some y→i<m∧y=nz (fP P e) (F i):=by
      intro i y hy;simp only [abp,aaZ] at hy;obtain ⟨k,hk,rfl⟩:=hy;obtain ⟨hk1,hk2⟩:=aaX.1 hk;simp at hk1 hk2;subst hk2;exact ⟨by omega,rfl⟩
     refine ⟨[.sd l'.length false ((List.range len).map fun i=>nz (fP P e) (F i))],?_,dN.one rfl ?_⟩
     ·simp only [bO,qk];refine ⟨⟨_,rfl,by simp;omega,fun y hy =>?_⟩,trivial⟩;obtain ⟨i,hi⟩:=List.mem_iff_getElem?.1 hy;obtain ⟨h1,h2⟩:=hes i y hi;exact ⟨F i,h2,(hF i h1).1⟩
     ·rw [ha];have key:=ax.sd (w:=w) (I:=wx w) l'.length false ((List.range len).map fun i=>nz (fP P e) (F i)) a.block a.off m (fun i j=>(w.cell? ⟨a.block,a.off+i*l'.length+j,none⟩).getD undef) hbl
       (fun i y hy=>by
        obtain ⟨h1,rfl⟩:=hes i y hy;rw [jz (hF i h1).1,(hF i h1).1.len])
       (fun i y j c hy hj=>by
        obtain ⟨h1,rfl⟩:=hes i y hy;rw [jz (hF i h1).1] at hj;obtain ⟨v,v1,_,_⟩:=(hF i h1).2 j c hj;rw [v1];rfl)
       (fun i y j c hy hj=>by
        obtain ⟨h1,rfl⟩:=hes i y hy;rw [jz (hF i h1).1] at hj;obtain ⟨v,v1,v2,_⟩:=(hF i h1).2 j c hj;simp only [v1,acA];exact v2)
       (fun i y j c hy hj=>by
        obtain ⟨h1,rfl⟩:=hes i y hy;rw [jz (hF i h1).1] at hj;obtain ⟨v,v1,_,v3⟩:=(hF i h1).2 j c hj;simp only [v1,acA];exact v3)
       (by simp;omega) (by simp)
      simpa using key
  ·rename_i n e hu;split at h;rotate_left
   ·cases h
   rename_i l' hl';split at h;rotate_left
   ·cases h
   rename_i hcl;obtain ⟨hcl,hct⟩:=hcl;injection h with h;subst h;obtain ⟨xs,m,_,_,hlen,hxs,hg⟩:=DataW.trod_array hu ht;obtain ⟨ds,h1,h2⟩:=B9 (w:=w) (e:=e) (n:=n) (l:=l') (cs:=cs) (fun i hi=>by
    have:=hg i hi;rw [hcl,IO (by omega)] at this;exact ih e l' hl' m _ _ this) n (aaV _)
   refine ⟨ds,h1,?_⟩;rw [aaW (by omega)] at h2;exact h2
  ·cases h
def ru (P:Program) (t:Nat) (ds:List D):D:=nz (fP P t) ds
theorem LS {d t b0:Nat} {l:List Cs} {v:Value} {x:DataW H} {p:List MemPlace} (hs:JK P d t=some l) (hv:Value.okWide P w .any b0 t v) (h:DataW.Trod enc P w 0 (fun _=>true) held t v x p) :
 ∃ds,bO l ds∧ax w (wx w) (ru P t ds) v:=by
 obtain ⟨fuel,hf⟩:=h;obtain ⟨ds,h1,h2⟩:=EL d t l hs fuel _ _ hf;refine ⟨ds,h1,?_⟩;have one : ∀c,l=[c]→fP P t=false→v.cells = #[v]→ax w (wx w) (ru P t ds) v:=by
  intro c hl hst hc;subst hl;match ds,h1 with
  | [d],h1=>
   unfold ru;rw [hst];exact h2.2.2 0 d v rfl (by rw [hc];rfl)
  | [],h1=>simp [bO] at h1
  | _::_::_,h1=>simp [bO] at h1
 cases d with
 | zero=>simp [JK] at hs
 | succ d=>
  simp only [JK] at hs;split at hs
  ·rename_i k hu;injection hs with hs;obtain ⟨n,rfl⟩:=okWide_int hu hv;exact one _ hs.symm (by simp [fP,hu]) rfl
  ·rename_i hu;injection hs with hs;obtain ⟨n,rfl⟩:=okWide_bool hu hv;exact one _ hs.symm (by simp [fP,hu]) rfl
  ·rename_i hu;injection hs with hs;obtain ⟨n,rfl⟩:=okWide_string hu hv;exact one _ hs.symm (by simp [fP,hu]) rfl
  ·rename_i fs hu;obtain ⟨cs,rfl,hsz⟩:=okWide_struct hu hv;have e:ru P t ds = .agg ds:=by
    have hst:fP P t=true:=by simp [fP,hu]
    unfold ru nz;rw [hst]
   rw [e];have hcs:cs=cs.toList.toArray:=by simp
   rw [hcs];exact ax.agg ds cs.toList h2.1 h2.2.1 h2.2.2
  ·rename_i e hu;split at hs;rotate_left
   ·cases hs
   split at hs;rotate_left
   ·cases hs
   injection hs with hs;obtain ⟨a,n,c,rfl⟩:=okWide_slice hu hv;exact one _ hs.symm (by simp [fP,hu]) rfl
  ·rename_i n e hu;have hv2:=hv;simp only [Value.okWide,hu] at hv2;obtain ⟨cs,rfl,hsz,_⟩:=hv2;have e:ru P t ds = .agg ds:=by
    have hst:fP P t=true:=by simp [fP,hu]
    unfold ru nz;rw [hst]
   rw [e];have hcs:cs=cs.toList.toArray:=by simp
   rw [hcs];exact ax.agg ds cs.toList h2.1 h2.2.1 h2.2.2
  ·cases hs
end
end Go.Proofs.YtkkanlcjjpoklaaGreatDoor
namespace Go.Proofs.YtkkanlcjjpoklaaGreatDoor
open Go Go.ChangeShapes Go.WideShapes Go.ChangeAt Go.RowKit Go.WideElems Go.Deep
section
variable {H:Type} {enc:TypeId × Value→H} {P:Program} {w:World} {held:Bool}
theorem Pi {G:Gl} {f:Nat} {args:List V} {vals:List Value} {b:Bool} (hG:GY G w (wx w)) (h:ap P G f args [] 0 (bv b) []) (hd:cU w (wx w) (fun _=>none) args vals):Calls P f vals.toArray w (Q0 (.bool b) w):=by
 have hm:de w (wx w) (fun _=>none) [] 0:=⟨(fun id blk h=>by cases h),(fun id id' blk blk' b c c' h=>by cases h),fun _ _=>rfl,fun b h=>h⟩
 refine (h w (wx w) (fun _=>none) vals hm hG hd).mono ?_;rintro e w' ⟨u,I',β',rfl,h1,h2⟩;have hu:u = .bool b:=aA h1;subst hu;exact ⟨rfl,h2.os,h2.tape,h2.output,h2.size,fun k hk=>h2.block k hk (fun ⟨j,bl,c,g1,_⟩=>by cases g1)⟩
def Mv (P:Program) (d:Nat):List Nat→Option (List (List Cs))
 | []=>some []
 | t::ts=>match JK P d t,Mv P d ts with
  | some a,some b=>some (a::b)
  | _,_=>none
def jM:List (List Cs)→List (List D)→Prop
 | [],[]=>True
 | a::r,d::s=>bO a d∧jM r s
 | _,_=>False
def pH (P:Program):List Nat→List (List D)→List V
 | t::ts,d::ds=> .d (ru P t d)::pH P ts ds
 | _,_=>[]
theorem xl {d b0:Nat} : ∀(ts:List Nat) (ls:List (List Cs)) (vs:List Value) (xs:List (DataW H)) (ps:List MemPlace),Mv P d ts=some ls →
 (∀(j:Nat) t v,ts[j]? = some t→vs[j]? = some v→Value.okWide P w .any b0 t v)→DataW.TrodAll enc P w 0 (fun _=>true) held ts vs xs ps → ∃dss,jM ls dss∧cU w (wx w) (fun _=>none) (pH P ts dss) vs
 | [],ls,[],[],_,hs,_,_=>by
  simp only [Mv,aa5] at hs;subst hs;exact ⟨[],by simp [jM],⟨rfl,fun i c x h=>by cases h⟩⟩
 | t::ts,ls,v::vs,x::xs,ps,hs,hv,⟨p,q,h1,h2,_⟩=>by
  simp only [Mv] at hs;split at hs;rotate_left
  ·cases hs
  rename_i a b ha hb;injection hs with hs;subst hs;obtain ⟨ds,g1,g2⟩:=LS ha (hv 0 t v rfl rfl) h1;obtain ⟨dss,g3,g4⟩:=xl ts b vs xs q hb (fun j t v h k=>hv (j+1) t v h k) h2;refine ⟨ds::dss,⟨g1,g3⟩,⟨by simp [pH,g4.1],fun i c x hc hx =>?_⟩⟩;match i,hc,hx with
  | 0,hc,hx=>
   simp only [pH,abq,aa5] at hc hx;subst hc hx;exact g2
  | i+1,hc,hx=>exact g4.2 i c x hc hx
 | [],_,[],_::_,_,_,_,h=>h.elim
 | [],_,_::_,_,_,_,_,h=>h.elim
 | _::_,_,[],_,_,_,_,h=>h.elim
 | _::_,_,_::_,[],_,_,_,h=>h.elim
theorem sM {G:Gl} {d b0:Nat} {f:Nat} {ts:List Nat} {ls:List (List Cs)} {args:Array Value} {xs:List (DataW H)} {ps:List MemPlace} (hG:GY G w (wx w)) (hs:Mv P d ts=some ls)
 (hv : ∀(j:Nat) t v,ts[j]? = some t→args.toList[j]? = some v→Value.okWide P w .any b0 t v) (hA:DataW.TrodAll enc P w 0 (fun _=>true) held ts args.toList xs ps)
 (h : ∀dss,jM ls dss→ap P G f (pH P ts dss) [] 0 (bv true) []):Calls P f args w (Q0 (.bool true) w):=by
 obtain ⟨dss,h1,h2⟩:=xl ts ls args.toList xs ps hs hv hA;have:=Pi hG (h dss h1) h2;simpa using this
theorem Gi {α:Type} {es:List D} (f:α→D) (h : ∀y∈es,∃x,y=f x) : ∃l:List α,es=l.map f:=by
 induction es with
 | nil=>exact ⟨[],rfl⟩
 | cons e r ih=>
  obtain ⟨x,rfl⟩:=h e abj;obtain ⟨l,rfl⟩:=ih fun y hy=>h y (abd _ hy)
  exact ⟨x::l,rfl⟩
theorem n9 : ∀ {ts:List Nat} {vs:List Value} {xs:List (DataW H)} {ps:List MemPlace},DataW.TrodAll enc P w 0 (fun _=>true) held ts vs xs ps→xs.length=ts.length
 | [],[],[],_,_=>rfl
 | t::ts,v::vs,x::xs,ps,⟨p,q,h1,h2,_⟩=>by simp [n9 h2]
 | [],[],_::_,_,h=>h.elim
 | [],_::_,_,_,h=>h.elim
 | _::_,[],_,_,h=>h.elim
 | _::_,_::_,[],_,h=>h.elim
end
end Go.Proofs.YtkkanlcjjpoklaaGreatDoor
namespace Go.Proofs.YtkkanlcjjpoklaaGreatDoor
theorem B8 {w:World} {b o:Nat} {v:Value} (h:w.cell? ⟨b,o,none⟩=some v):wx w b:=by
 unfold wx;rcases aa2 b w.heap.size with hb|hb
 ·exact hb
 ·rw [World.cell?] at h;have:w.heap[b]? = none:=ac1 (by omega);simp [this] at h
theorem Ap {P:Program} {W:World} {name:String} {k:IntKind} {zs:List Int} {g:Nat} (h:Lib.TabIs P W name k zs) (hg:P.globalNamed name=some g) (hz:0<zs.length) :
 ax W (wx W) (.pd zs.length [.agg (zs.map fun z=> .lit (.int k z))] 0 0) (.pointer (some ⟨g,0,none⟩)):=by
 have hlen:(D.agg (zs.map fun z=> .lit (.int k z))).cells.length=zs.length:=by simp [D.cells]
 have key : ∀(i:Nat) e (j:Nat) c,[D.agg (zs.map fun z=> .lit (.int k z))][i]? = some e→e.cells[j]? = some c→i=0 ∧ ∃z,zs[j]? = some z∧c = .lit (.int k z):=by
  intro i e j c he hj;match i,he with
  | 0,he=>
   simp only [abq,aa5] at he;subst he;simp only [D.cells,abp,aaZ] at hj;obtain ⟨z,hz,rfl⟩:=hj;exact ⟨rfl,z,hz,rfl⟩
  | i+1,he=>simp at he
 have:=ax.pd (w:=W) (I:=wx W) zs.length [.agg (zs.map fun z=> .lit (.int k z))] 0 0 g 0 (fun i j=> .int k (zs.getD j 0)) (B8 (h.cell hg 0 hz))
  (fun i e he=>by
   match i,he with
   | 0,he=>
    simp only [abq,aa5] at he;subst he;exact hlen
   | i+1,he=>simp at he)
  (fun i e j c he hj=>by
   obtain ⟨rfl,z,hz,rfl⟩:=key i e j c he hj;have hj':j<zs.length:=by
    rcases aa2 j zs.length with q|q
    ·exact q
    ·rw [abz q] at hz;cases hz
   simpa using h.cell hg j hj')
  (fun i e j c he hj=>rfl)
  (fun i e j c he hj=>by
   obtain ⟨rfl,z,hz,rfl⟩:=key i e j c he hj;have:zs.getD j 0=z:=by simp [List.getD,hz]
   rw [this];exact .lit _)
 simpa using this
theorem F7 (F:Int→Value) {m:Nat} : ∀(zss:List (List Int)) (cs:List Value),cs.length=zss.length*m→(∀(i:Nat) zs,zss[i]? = some zs→(cs.drop (i*m)).take m=zs.map F)→cs=zss.flatten.map F
 | [],cs,h,_=>by simpa using h
 | z::r,cs,h,hi=>by
  have h0:=hi 0 z rfl;simp only [Nat.zero_mul,ac9] at h0;have ih:=F7 F (m:=m) r (cs.drop m) (by simp only [abg,h,aa6,abV];omega) (fun i zs hz=>by
   have:=hi (i+1) zs (by simpa using hz);rw [acm];rw [abV,Nat.one_mul,Nat.add_comm] at this;exact this)
  rw [acf,abc,←h0,←ih,abf]
theorem ym {H:Type} {enc:TypeId × Value→H} {P:Program} {w:World} {base:Nat} {sp:Nat→Bool} {held:Bool} {fuel:Nat} {e f:TypeId} {k:IntKind} {cs:List Value} {zs:List Int} {p:List MemPlace} {f0 f1:Field}
 (he:P.underlying e=some (.struct #[f0,f1])) (h0:f0.type=f) (h1:f1.type=f) (o0:f0.offset=0) (o1:f1.offset=1) (hf:P.underlying f=some (.int k)) (hcf:P.cellsOf f=1) (hce:P.cellsOf e=2)
 (h:DataW.trod enc P w base sp held fuel e cs=some (Lib.tabData k zs,p)):cs=zs.map fun z=>Value.int k z:=by
 obtain ⟨y0,y1,n,hx,hl,ha,hb⟩:=ChangeShapes.trod_struct2 he h;rw [h0,o0,hcf] at ha;rw [h1,o1,hcf] at hb;rw [hce] at hl;obtain ⟨a,a1,a2,_⟩:=DataW.trod_int hf ha;obtain ⟨b,b1,b2,_⟩:=DataW.trod_int hf hb;injection hx with hx _;rw [a2,b2] at hx;simp only [Lib.tabData,DataW.agg.injEq] at hx;match cs,hl with
 | [c0,c1],_=>
  simp at a1 b1;subst a1;subst b1;match zs,hx with
  | [z0,z1],hx=>simp at hx;simp [hx]
  | [],hx=>simp at hx
  | [_],hx=>simp at hx
  | _::_::_::_,hx=>simp at hx
theorem uZ {H:Type} {enc:TypeId × Value→H} {P:Program} {w:World} {base:Nat} {sp:Nat→Bool} {held:Bool} {fuel:Nat} {t e f:TypeId} {n:Nat} {k:IntKind} {cs:List Value} {zss:List (List Int)} {p:List MemPlace} {f0 f1:Field}
 (ht:P.underlying t=some (.array n e)) (he:P.underlying e=some (.struct #[f0,f1])) (h0:f0.type=f) (h1:f1.type=f) (o0:f0.offset=0) (o1:f1.offset=1) (hf:P.underlying f=some (.int k)) (hcf:P.cellsOf f=1) (hce:P.cellsOf e=2) (hct:P.cellsOf t=n*2)
 (h:DataW.trod enc P w base sp held fuel t cs=some (.agg (zss.map (Lib.tabData k)),p)):cs=zss.flatten.map fun z=>Value.int k z:=by
 cases fuel with
 | zero=>simp [DataW.trod] at h
 | succ fuel=>
  simp only [DataW.trod,ht,hce,hct] at h;split at h
  ·rename_i hl;obtain ⟨xs,hm,hx⟩:=aaZ.1 h;have hxs:xs.map (·.1)=zss.map (Lib.tabData (H:=H) k):=by
    have:=congrArg Prod.fst hx;simpa using this
   have hxl:xs.length=n:=by simpa using Lib.mapM_length hm
   have hzl:zss.length=n:=by
    have:=congrArg List.length hxs;simp at this;omega
   refine F7 (m:=2) (fun z=>Value.int k z) zss cs (by rw [hzl];exact hl) (fun i zs hz =>?_);have hi:i<n:=by
    rcases aa2 i n with q|q
    ·exact q
    ·rw [abz (by omega)] at hz;cases hz
   obtain ⟨b,hb,hfb⟩:=Lib.mapM_at hm i i (by simp [hi]);have h2:(xs.map (·.1))[i]? = some b.1:=by simp [hb]
   rw [hxs] at h2;simp only [abp,hz,acT,aa5] at h2;obtain ⟨b1,b2⟩:=b;simp only at h2;subst h2;exact ym he h0 h1 o0 o1 hf hcf hce hfb
  ·cases h
theorem kN {P:Program} {W:World} {name:String} {k:IntKind} {zss:List (List Int)} {rest:List (String × DataW Unit)} {g:Nat} {t e f:TypeId} {n:Nat} {f0 f1:Field}
 (hg:P.globalNamed name=some g) (hty:(P.globals[g]?).map (·.type)=some t) (ht:P.underlying t=some (.array n e)) (he:P.underlying e=some (.struct #[f0,f1])) (h0:f0.type=f) (h1:f1.type=f) (o0:f0.offset=0) (o1:f1.offset=1) (hf:P.underlying f=some (.int k)) (hcf:P.cellsOf f=1) (hce:P.cellsOf e=2) (hct:P.cellsOf t=n*2)
 (h:laidMet P ((name,.agg (zss.map (Lib.tabData k)))::rest) W):Lib.TabIs P W name k zss.flatten:=by
 obtain ⟨ps,⟨g',t',cs,fuel,p,q,hg',ht',hvar,hd,_,_⟩,_⟩:=h;obtain rfl:=acP (hg.symm.trans hg');obtain rfl:=acP (hty.symm.trans ht');unfold Lib.TabIs;rw [hvar,←uZ ht he h0 h1 o0 o1 hf hcf hce hct hd]
theorem Tryz.own:ownKnob Tryz.prog.godebug=none:=by kernel_rfl
theorem Tryz.laidOut:laidOutB Tryz.prog=true:=by kernel_rfl
theorem K4 {W:World} {x:D} {r:List (String × DataW Unit)} (h:laidMet Tryz.prog (("bodkin/width.plainZero",Rows.laid_bodkin_width_plainZero)::r) W) (hg:G0 0=some x):ax W (wx W) x (.pointer (some ⟨0,0,none⟩)):=by
 have t:=kN (k:= .i32) (zss:=[[768,879],[8203,8207],[65024,65039]]) (g:=0) (t:=347) (e:=346) (f:=21) (n:=3) (by kernel_rfl) (by kernel_rfl) Tryz.underlying347 Tryz.underlying346 rfl rfl rfl rfl Tryz.underlying21 (by kernel_rfl) (by kernel_rfl) (by kernel_rfl) h;have:=Ap (g:=0) t (by kernel_rfl) (by decide);rw [show G0 0=some _ from rfl] at hg;injection hg with hg;subst hg;exact this
theorem K3 {W:World} {x:D} {r:List (String × DataW Unit)} (h:laidMet Tryz.prog (("bodkin/width.plainWide",Rows.laid_bodkin_width_plainWide)::r) W) (hg:G0 1=some x):ax W (wx W) x (.pointer (some ⟨1,0,none⟩)):=by
 have t:=kN (k:= .i32) (zss:=[[4352,4447],[11904,12350],[12353,19903],[19968,40959],[44032,55203],[63744,64255],[65280,65376],[127744,128591]]) (g:=1) (t:=348) (e:=346) (f:=21) (n:=8) (by kernel_rfl) (by kernel_rfl) Tryz.underlying348 Tryz.underlying346 rfl rfl rfl rfl Tryz.underlying21 (by kernel_rfl) (by kernel_rfl) (by kernel_rfl) h;have:=Ap (g:=1) t (by kernel_rfl) (by decide);rw [show G0 1=some _ from rfl] at hg;injection hg with hg;subst hg;exact this
theorem RP {W:World} (hL:laidMetH Tryz.prog [("bodkin/utf.most",Rows.laid_bodkin_utf_most),("bodkin/width.plainZero",Rows.laid_bodkin_width_plainZero),("bodkin/width.plainWide",Rows.laid_bodkin_width_plainWide)] W):GY G0 W (wx W):=by
 rw [MakeChecks.laidMetH_plain _ _ _ (by kernel_rfl)] at hL;have h2:=hL.tail;have h3:=h2.tail;intro g x hg;by_cases e0:g=0
 ·subst e0;exact K4 h2 hg
 by_cases e1:g=1
 ·subst e1;exact K3 h3 hg
 by_cases e2:g=2
 ·subst e2;have t:=Lib.tabIs_of_head (k:= .i32) (zs:=[127,2047,65535,1114111]) (g:=2) (t:=380) (e:=21) (n:=4) (by kernel_rfl) (by kernel_rfl) Tryz.underlying380 Tryz.underlying21 (by kernel_rfl) (by kernel_rfl) hL;have:=Ap (g:=2) t (by kernel_rfl) (by decide);rw [show G0 2=some _ from rfl] at hg;injection hg with hg;subst hg;exact this
 ·exfalso;unfold G0 at hg;simp only [e0,e1,e2,ab1] at hg;cases hg
theorem eh {c:Cs} {r:List Cs} {ds:List D} (h:bO (c::r) ds) : ∃d s,ds=d::s∧qk c d∧bO r s:=by
 match ds,h with
 | d::s,h=>exact ⟨d,s,rfl,(by simpa only [bO] using h)⟩
 | [],h=>simp [bO] at h
theorem LL {ds:List D} (h:bO [] ds):ds=[]:=by
 match ds,h with
 | [],_=>rfl
 | _::_,h=>simp [bO] at h
theorem sX {c:List Cs} {r:List (List Cs)} {ds:List (List D)} (h:jM (c::r) ds) : ∃d s,ds=d::s∧bO c d∧jM r s:=by
 match ds,h with
 | d::s,h=>exact ⟨d,s,rfl,(by simpa only [jM] using h)⟩
 | [],h=>simp [jM] at h
theorem IB {ds:List (List D)} (h:jM [] ds):ds=[]:=by
 match ds,h with
 | [],_=>rfl
 | _::_,h=>simp [jM] at h
theorem Ul {c:Cs} {ds:List D} (h:bO [c] ds) : ∃d,ds=[d]∧qk c d:=by
 obtain ⟨d,s,rfl,h1,h2⟩:=eh h;obtain rfl:=LL h2;exact ⟨d,rfl,h1⟩
theorem LK {c e:Cs} {ds:List D} (h:bO [c,e] ds) : ∃d x,ds=[d,x]∧qk c d∧qk e x:=by
 obtain ⟨d,s,rfl,h1,h2⟩:=eh h;obtain ⟨x,rfl,h3⟩:=Ul h2;exact ⟨d,x,rfl,h1,h3⟩
theorem EA {c:List Cs} {ds:List (List D)} (h:jM [c] ds) : ∃d,ds=[d]∧bO c d:=by
 obtain ⟨d,s,rfl,h1,h2⟩:=sX h;obtain rfl:=IB h2;exact ⟨d,rfl,h1⟩
theorem Sd {c e:List Cs} {ds:List (List D)} (h:jM [c,e] ds) : ∃d x,ds=[d,x]∧bO c d∧bO e x:=by
 obtain ⟨d,s,rfl,h1,h2⟩:=sX h;obtain ⟨x,rfl,h3⟩:=EA h2;exact ⟨d,x,rfl,h1,h3⟩
theorem hY {k:IntKind} {d:D} (h:qk (.int k) d) : ∃n,d = .lit (.int k n):=by
 simp only [qk] at h;obtain ⟨n,rfl,_⟩:=h;exact ⟨n,rfl⟩
theorem Gq {d:D} (h:qk .str d) : ∃s:ByteArray,d = .lit (.string s)∧s.size≤maxLen:=by simpa only [qk] using h
theorem LJ {k:Nat} {ag:Bool} {e:List Cs} {d:D} (h:qk (.sl k ag e) d) : ∃es,d = .sd k false es∧es.length≤maxLen ∧ ∀y∈es,∃ds,y=nz ag ds∧bO e ds:=by simpa only [qk] using h
end Go.Proofs.YtkkanlcjjpoklaaGreatDoor
namespace Go.Proofs.YtkkanlcjjpoklaaGreatDoor
open Go
theorem IC {x:D} (hx:qk (.sl 2 true [.int .i64,.int .i64]) x) : ∃l:List Sn,x = .sd 2 false (l.map bA):=by
 obtain ⟨es,rfl,hle,hes⟩:=LJ hx;obtain ⟨l,rfl⟩ : ∃l:List Sn,es=l.map bA:=Gi bA fun y hy=>by
  obtain ⟨ds,rfl,hd⟩:=hes y hy;obtain ⟨p,q,rfl,hp,hq⟩:=LK hd;obtain ⟨n,rfl⟩:=hY hp;obtain ⟨m,rfl⟩:=hY hq;exact ⟨(n,m),rfl⟩
 exact ⟨l,rfl⟩
end Go.Proofs.YtkkanlcjjpoklaaGreatDoor
set_option maxRecDepth 100000
namespace Go.Proofs.YtkkanlcjjpoklaaGreatDoor
open Go
theorem aV {a b:Bool} (ha:a=true) (hb:b=true):(a&&b)=true:=by rw [ha,hb];rfl
theorem zk:(laidOutB Tryz.pinned.checked.prog)=true:=Tryz.laidOut
theorem zl:(mapsRowed Tryz.pinned.checked.prog)=true:=by kernel_rfl
theorem zm:((Tryz.pinned.checked.prog.stops==[]))=true:=by kernel_rfl
theorem zn:((Tryz.pinned.checked.prog.stopKnobs==[]))=true:=by kernel_rfl
theorem th:(Tryz.pinned.checked.prog.stopsHeard)=true:=by kernel_rfl
theorem ti:(Tryz.pinned.checked.prog.mayEnter)=true:=by kernel_rfl
theorem oY:Tryz.pinned.checked.prog.mainIs=some (true, "38f1c5b772000730f811cc55395145d5b5ed6c6db77504d5e394fd30e1cb5661".toList):=by kernel_rfl
theorem my:true=Tryz.pinned.checked.prog.looks []:=by kernel_rfl
end Go.Proofs.YtkkanlcjjpoklaaGreatDoor
