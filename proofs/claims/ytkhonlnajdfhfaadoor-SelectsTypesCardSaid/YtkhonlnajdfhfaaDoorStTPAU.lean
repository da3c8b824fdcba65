/- What the theorem leans on, part 21. -/
import Derived.WalkKit
import Derived.WalkSpells
import Derived.Carry
import Derived.Lib.Hide
import Derived.ProofKit
import Derived.Lib.SmallJoins
import Derived.OpenShut
import Derived.Deep.Slices
import Derived.Deep.Fields
import Derived.WideShapes
import Derived.Lib.LaidTab
import Derived.Stop.LaidErr
import Derived.MakeChecks
import Derived.Test.YtkhonlnajdfhfaaDoorRows
import Derived.SevenTiedAt
import Derived.Test.YtkhonlnajdfhfaaDoorStTPAE
namespace Go.Proofs.YtkhonlnajdfhfaaDoor
open Go.RowKit
def At (v:Value) (w:World) (e:Ending) (w':World):Prop:=e = .returned v∧Below w.heap.size w w'
def gO (w:World) (g:Nat) (t:TypeId) (cs:Array Value):Prop:=w.heap[g]? = some (.cells cs t (0,0))
section
variable {w w':World} {g:Nat} {t:TypeId} {cs:Array Value}
theorem gO.lt (h:gO w g t cs):g<w.heap.size:=by
 rcases Nat.lt_or_ge g w.heap.size with hlt|hge
 ·exact hlt
 ·unfold gO at h;rw [Array.getElem?_eq_none hge] at h;cases h
theorem gO.cell (h:gO w g t cs) (i:Nat):w.cell? ⟨g,i,none⟩=cs[i]? :=by
 unfold gO at h;simp [World.cell?,h]
theorem gO.free (h:gO w g t cs) (i:Nat):w.frozen? ⟨g,i,none⟩=false:=by
 unfold gO at h;simp [World.frozen?,h]
theorem gO.drew (h:gO w g t cs):gO w.drew g t cs:=h
theorem gO.new (w:World) (t:TypeId) (cs:Array Value):gO (w.alloc (.cells cs t)) w.heap.size t cs:=by
 show (w.heap.push _)[w.heap.size]? = _;simp
theorem gO.alloc (h:gO w g t cs) (o:Obj):gO (w.alloc o) g t cs:=(Below.heap_alloc w o g h.lt).trans h
theorem gO.set_ (h:gO w g t cs) (i:Nat) (u:Value):gO (w.setCell ⟨g,i,none⟩ u) g t (cs.setIfInBounds i u):=by
 unfold gO at h ⊢;simp [World.setCell,Array.getElem?_modify,h]
theorem gO.far (h:gO w g t cs) {p:Addr} (hp:g≠p.block) (u:Value):gO (w.setCell p u) g t cs:=(Below.heap_setCell w p u g hp).trans h
theorem gO.below {B:Nat} (h:gO w g t cs) (hb:Below B w w') (hg:g<B):gO w' g t cs:=(hb.block g hg).trans h
theorem gO.to (h:gO w g t cs) {cs':Array Value} (e:cs=cs'):gO w g t cs':=e▸h
end
def gq (w:World) (B:Nat) (A:Option Addr) (n:Nat) (l:List (Int × Int)):Prop:=
 l.length=n∧(0<n → ∃b off,A=some ⟨b,off,none⟩∧b<B ∧ ∀i x y,l[i]? = some (x,y) →
  w.cell? ⟨b,off+i*2,none⟩=some (.int .i64 x)∧w.cell? ⟨b,off+i*2+1,none⟩=some (.int .i64 y))
theorem gq.below {w w':World} {B:Nat} {A:Option Addr} {n:Nat} {l:List (Int × Int)} (h:gq w B A n l) (hb:Below B w w'):gq w' B A n l:=
 ⟨h.1,fun hn=>by
  obtain ⟨b,off,e,hlt,hc⟩:=h.2 hn;exact ⟨b,off,e,hlt,fun i x y hi=>⟨(hb.cell hlt).trans (hc i x y hi).1,(hb.cell hlt).trans (hc i x y hi).2⟩⟩⟩
theorem gq.fwd {w W:World} {A:Option Addr} {n:Nat} {l:List (Int × Int)} (h:gq w w.heap.size A n l) (hW:Below w.heap.size w W):gq W W.heap.size A n l:=
 ⟨h.1,fun hn=>by
  obtain ⟨b,off,e,hlt,hc⟩:=h.2 hn;have:=hW.size;exact ⟨b,off,e,by omega,fun i x y hi=>⟨(hW.cell hlt).trans (hc i x y hi).1,(hW.cell hlt).trans (hc i x y hi).2⟩⟩⟩
theorem gq.nil (w:World) (B:Nat) (A:Option Addr):gq w B A 0 []:=⟨rfl,fun h=>absurd h (by omega)⟩
theorem gq.at_ {w:World} {B:Nat} {A:Option Addr} {n k:Nat} {l:List (Int × Int)} (h:gq w B A n l) (hk:k<n) :
 ∃b off x y,A=some ⟨b,off,none⟩∧b<B∧l[k]? = some (x,y)∧w.cell? ⟨b,off+k*2,none⟩=some (.int .i64 x)∧w.cell? ⟨b,off+k*2+1,none⟩=some (.int .i64 y):=by
 obtain ⟨b,off,e,hlt,hc⟩:=h.2 (by omega);have hl:k<l.length:=by have:=h.1;omega
 have hg:l[k]? = some (l[k].1,l[k].2):=List.getElem?_eq_getElem hl;exact ⟨b,off,_,_,e,hlt,hg,hc k _ _ hg⟩
end Go.Proofs.YtkhonlnajdfhfaaDoor
namespace Go.Proofs.YtkhonlnajdfhfaaDoor
open Go.RowKit
end Go.Proofs.YtkhonlnajdfhfaaDoor
namespace Go.Proofs.YtkhonlnajdfhfaaDoor
open Go.ChangeShapes Go.WideShapes Go.ChangeAt Go.RowKit Go.WideElems
section
variable {H:Type} {enc:TypeId × Value→H} {P:Program}
theorem iS (hl:laidOutB P=true) {W W':World} {sp':Nat→Bool} (hb:Below W.heap.size W W') :
 ∀(ts:List TypeId) (vs:List Value) (ds:List (DataW H)) (ps:List MemPlace),(∀t∈ts,P.readableRec t=true∧t<P.types.size) →
   DataW.TrodAll enc P W 0 (fun _=>true) true ts vs ds ps→(∀p∈ps,p.block<W.heap.size)→(∀p∈ps,sp' p.block=true)→DataW.TrodAll enc P W' 0 sp' true ts vs ds ps
 | [],[],[],_,_,h,_,_=>h
 | t::ts,v::vs,d::ds,ps,hr,⟨p,q,h1,h2,e⟩,hlt,hs=>by
  subst e;refine ⟨p,q,Trod_stays hl (hr t (by simp)).1 (hr t (by simp)).2 h1 (fun x hx=>hb.same (hlt x (by simp [hx]))) (fun x hx=>hs x (by simp [hx])),?_,rfl⟩;exact iS hl hb ts vs ds q (fun t ht=>hr t (by simp [ht])) h2 (fun x hx=>hlt x (by simp [hx])) (fun x hx=>hs x (by simp [hx]))
 | [],[],_::_,_,_,h,_,_=>h.elim
 | [],_::_,_,_,_,h,_,_=>h.elim
 | _::_,[],_,_,_,h,_,_=>h.elim
 | _::_,_::_,[],_,_,h,_,_=>h.elim
theorem wK {fn:Func} {s:ChangeSpec} {apart fresh handsOn again:Bool} {tb:TypeId} {W W':World} {args:Array Value} {ds gs:List (DataW H)} {before:List MemPlace}
 (hl:laidOutB P=true) (hread:(fn.params.toList.all fun t=>P.readableRec t&&decide (t<P.types.size))=true) (hv:s.vars=[]) (hrt:fn.resultTypes = #[tb]) (ub:P.underlying tb=some .bool)
 (hW:DataW.Whole enc P fn.params.toList s.vars apart W args.toList ds gs before) (hsp:s.fn H (ds++gs) = { results:=[.lit (.bool true)],args:=ds }) (hb:Below W.heap.size W W') :
 s.post enc P fn apart fresh handsOn again W args (.bool true) W':=by
 have hlt : ∀p∈before,p.block<W.heap.size:=fun p hp=>hW.lt p hp
 obtain ⟨p,q,hA,hV,rfl,hz,hn⟩:=id hW;have hrd : ∀t∈fn.params.toList,P.readableRec t=true∧t<P.types.size:=fun t ht=>by
  have:=List.all_eq_true.1 hread t ht;simpa using this
 have hq:gs=[]∧q=[]:=by
  rw [hv] at hV;obtain ⟨h1,h2⟩:=trodVars_none hV;exact ⟨h1,h2⟩
 obtain ⟨rfl,rfl⟩:=hq;have hargs : ∀sp:Nat→Bool,(∀x∈p++[],sp x.block=true)→DataW.TrodAll enc P W' 0 sp true fn.params.toList args.toList ds p:=fun sp hs=>
  iS hl hb _ _ _ _ hrd hA (fun x hx=>hlt x (by simp [hx])) (fun x hx=>hs x (by simp [hx]))
 have hres : ∀(b:Nat) (sp:Nat→Bool) (hd:Bool),DataW.TrodAll enc P W' b sp hd fn.resultTypes.toList ((Value.bool true).resultList fn.resultTypes.size) [.lit (.bool true)] []:=fun b sp hd=>by
  rw [hrt];exact trodAll_mk1 (shut_bool ub true)
 have hvars : ∀sp:Nat→Bool,DataW.TrodVars enc P W' sp s.vars [] []:=fun sp=>by rw [hv];rfl
 have hold : ∀x∈p++[],(fun b=>decide (b<W.heap.size)) x.block=true:=fun x hx=>by simpa using hlt x hx
 have hok : ∀(j:Nat) (t:TypeId) (r:Value),fn.resultTypes[j]? = some t→((Value.bool true).resultList fn.resultTypes.size)[j]? = some r→Value.okWide P W' .any 0 t r:=
  ok_one hrt rfl (okWide_bool_mk ub true)
 refine ⟨ds,[],p++[],[],p,[],hW,?_,?_,?_,World.keptBut_mono (fun x hx=>⟨hx,?_⟩) (hb.frame (· ∈ p++[])),fun _ =>?_⟩
 ·rw [hsp];exact hres _ _ _
 ·rw [hsp];exact hargs _ hold
 ·rw [hsp];exact hvars _
 ·exact .inr (.inl (by simpa using hx))
 ·refine ⟨hok,[.lit (.bool true)]++ds,[],p,⟨[]++p,[],?_,hvars _,by simp,?_,?_⟩,?_⟩
  ·exact trodAll_append (hargs (fun _=>true) (fun _ _=>rfl)) (hres 0 (fun _=>true) true)
  ·intro b off hp;have hin:MemPlace.cell b off∈p++[]:=by simpa using hp
   rw [hb.frozen (p:=⟨b,off,none⟩) (hlt _ hin)];exact hz b off hin
  ·intro ha;simpa using hn ha
  ·intro x hx _;simpa using hx
theorem ua {f:FuncId} {fn:Func} {s:ChangeSpec} {apart fresh handsOn again:Bool} {tb:TypeId} {W:World} {args:Array Value} {ds gs:List (DataW H)} {before:List MemPlace}
 (hl:laidOutB P=true) (hread:(fn.params.toList.all fun t=>P.readableRec t&&decide (t<P.types.size))=true) (hv:s.vars=[]) (hrt:fn.resultTypes = #[tb]) (ub:P.underlying tb=some .bool)
 (hW:DataW.Whole enc P fn.params.toList s.vars apart W args.toList ds gs before) (hsp:s.fn H (ds++gs) = { results:=[.lit (.bool true)],args:=ds })
 (h:Calls P f args W (At (.bool true) W)):Calls P f args W fun e W'=> ∃v,e = .returned v∧s.post enc P fn apart fresh handsOn again W args v W':=
 h.mono fun _ _ ⟨he,hb⟩=>⟨_,he,wK hl hread hv hrt ub hW hsp hb⟩
end
end Go.Proofs.YtkhonlnajdfhfaaDoor
namespace Go.Proofs.YtkhonlnajdfhfaaDoor
open Go Go.ChangeShapes Go.WideShapes Go.ChangeAt Go.RowKit Go.WideElems Go.Deep
inductive Cs where
 | int (k:IntKind)|bool|str
 | sl (k:Nat) (ag:Bool) (e:List Cs)
def lB (ag:Bool) (ds:List D):D:=match ag,ds with
 | false,[d]=>d
 | _,ds=> .agg ds
mutual
def ku:Cs→D→Prop
 | .int k,x=> ∃n,x = .lit (.int k n)∧(Lit.int k n).wf=true
 | .bool,x=> ∃b,x = .lit (.bool b)
 | .str,x=> ∃s:ByteArray,x = .lit (.string s)∧s.size≤maxLen
 | .sl k ag e,x=> ∃es,x = .sd k false es∧es.length≤maxLen ∧ ∀y∈es,∃ds,y=lB ag ds∧bm e ds
def bm:List Cs→List D→Prop
 | [],[]=>True
 | c::r,d::s=>ku c d∧bm r s
 | _,_=>False
end
theorem ku.cells {c:Cs} {d:D} (h:ku c d):d.cells=[d]:=by
 cases c with
 | int k=>simp only [ku] at h;obtain ⟨n,rfl,_⟩:=h;rfl
 | bool=>simp only [ku] at h;obtain ⟨n,rfl⟩:=h;rfl
 | str=>simp only [ku] at h;obtain ⟨n,rfl,_⟩:=h;rfl
 | sl k ag e=>simp only [ku] at h;obtain ⟨n,rfl,_⟩:=h;rfl
theorem bm.len : ∀ {l:List Cs} {ds:List D},bm l ds→ds.length=l.length
 | [],[],_=>rfl
 | c::r,d::s,h=>by simp only [bm] at h;simp [bm.len h.2]
 | [],_::_,h=>by simp [bm] at h
 | _::_,[],h=>by simp [bm] at h
theorem bm.app : ∀ {a b:List Cs} {x y:List D},bm a x→bm b y→bm (a++b) (x++y)
 | [],_,[],_,_,h=>h
 | c::r,_,d::s,_,h,k=>by
  simp only [bm,List.cons_append] at h ⊢;exact ⟨h.1,bm.app h.2 k⟩
 | [],_,_::_,_,h,_=>by simp [bm] at h
 | _::_,_,[],_,h,_=>by simp [bm] at h
theorem eQ {ag:Bool} {l:List Cs} {ds:List D} (h:bm l ds):(lB ag ds).cells=ds:=by
 unfold lB;split
 ·match l,h with
  | c::[],h=>
   simp only [bm] at h;exact h.1.cells
  | [],h=>simp [bm] at h
  | _::_::_,h=>simp [bm] at h
 ·rfl
def dB (P:Program) (t:Nat):Bool:=match P.underlying t with
 | some (.struct _)=>true
 | _=>false
def hP (P:Program) (g:Nat→Option (List Cs)):List Field→Nat→Option (List Cs)
 | [],_=>some []
 | f::r,o=>if f.offset=o then (match g f.type with
  | some a=>if P.cellsOf f.type=a.length then (hP P g r (o+a.length)).map (a ++ ·) else none
  | none=>none) else none
def xt (P:Program):Nat→Nat→Option (List Cs)
 | 0,_=>none
 | d+1,t=>match P.underlying t with
  | some (.int k)=>some [.int k]
  | some .bool=>some [.bool]
  | some .string=>some [.str]
  | some (.struct fs)=>(match hP P (xt P d) fs.toList 0 with
   | some l=>if P.cellsOf t=l.length then some l else none
   | none=>none)
  | some (.slice e)=>(match xt P d e with
   | some l=>if P.cellsOf e=l.length∧0<l.length then some [.sl l.length (dB P e) l] else none
   | none=>none)
  | _=>none
section
variable {H:Type} {enc:TypeId × Value→H} {P:Program} {w:World} {held:Bool}
def nr (w:World):Nat→Prop:=fun b=>b<w.heap.size
def cL (w:World) (ds:List D) (cs:List Value):Prop:=ds.length=cs.length∧(∀v∈cs,v.oneCell'=true) ∧ ∀(i:Nat) c v,ds[i]? = some c→cs[i]? = some v→aj w (nr w) c v
theorem cL.nil:cL w [] []:=⟨rfl,(fun v hv=>by cases hv),(fun i c v h=>by simp at h)⟩
theorem cL.one {d:D} {v:Value} (ho:v.oneCell'=true) (h:aj w (nr w) d v):cL w [d] [v]:=
 ⟨rfl,fun x hx=>by simp at hx;subst hx;exact ho,fun i c x hc hx=>by
  match i,hc,hx with
  | 0,hc,hx=>simp at hc hx;subst hc hx;exact h⟩
theorem cL.app {a b:List D} {x y:List Value} (h:cL w a x) (k:cL w b y):cL w (a++b) (x++y):=by
 refine ⟨by simp [h.1,k.1],fun v hv =>?_,fun i c v hc hv =>?_⟩
 ·rcases List.mem_append.1 hv with hv|hv
  ·exact h.2.1 v hv
  ·exact k.2.1 v hv
 ·rw [List.getElem?_append] at hc hv;rw [h.1] at hc;split at hc
  ·rename_i hlt;rw [if_pos hlt] at hv;exact h.2.2 i c v hc hv
  ·rename_i hlt;rw [if_neg hlt] at hv;exact k.2.2 _ c v hc hv
theorem jV {d n:Nat} (ih : ∀t l,xt P d t=some l → ∀(fuel:Nat) cs x,DataW.trod enc P w 0 (fun _=>true) held fuel t cs=some x → ∃ds,bm l ds∧cL w ds cs) {cs:List Value} :
 ∀(fs:List Field) (o:Nat) (l:List Cs),hP P (xt P d) fs o=some l→(∀f∈fs,∃x,DataW.trod enc P w 0 (fun _=>true) held n f.type ((cs.drop f.offset).take (P.cellsOf f.type))=some x) →
   ∃ds,bm l ds∧cL w ds ((cs.drop o).take l.length)
 | [],o,l,h,_=>by
  simp only [hP,Option.some.injEq] at h;subst h;exact ⟨[],by simp [bm],by simpa using cL.nil⟩
 | f::fs,o,l,h,hx=>by
  simp only [hP] at h;split at h;rotate_left
  ·cases h
  rename_i ho;split at h;rotate_left
  ·cases h
  rename_i a ha;split at h;rotate_left
  ·cases h
  rename_i hc;simp only [Option.map_eq_some_iff] at h;obtain ⟨b,hb,rfl⟩:=h;obtain ⟨x,h1⟩:=hx f List.mem_cons_self;obtain ⟨d1,p1,q1⟩:=ih f.type a ha n _ _ h1;obtain ⟨d2,p2,q2⟩:=jV ih fs (o+a.length) b hb (fun g hg=>hx g (List.mem_cons_of_mem _ hg));refine ⟨d1++d2,p1.app p2,?_⟩;have e:(cs.drop o).take (a++b).length=(cs.drop f.offset).take (P.cellsOf f.type)++(cs.drop (o+a.length)).take b.length:=by
   rw [ho,hc,List.length_append,List.take_add,List.drop_drop]
  rw [e];exact q1.app q2
theorem ry {a:Addr} {v:Value} (h:w.cell? a=some v):a=⟨a.block,a.off,none⟩∧a.block<w.heap.size:=by
 refine ⟨?_,World.block_lt_of_cell? w _ h⟩;rcases a with ⟨b,o,s⟩
 cases s with
 | none=>rfl
 | some s=>simp [World.cell?] at h;split at h<;>simp at h
theorem ti (b o n:Nat):(Addr.mk b o none).add n=⟨b,o+n,none⟩:=by
 unfold Addr.add;split<;>simp_all
theorem ro : ∀(d t:Nat) (l:List Cs),xt P d t=some l → ∀(fuel:Nat) cs x,DataW.trod enc P w 0 (fun _=>true) held fuel t cs=some x → ∃ds,bm l ds∧cL w ds cs:=by
 intro d;induction d with
 | zero=>intro t l h;simp [xt] at h
 | succ d ih=>
  intro t l h fuel cs x ht;simp only [xt] at h;split at h
  ·rename_i k hu;injection h with h;subst h;obtain ⟨n,rfl,_,hw⟩:=DataW.trod_int hu ht;exact ⟨[.lit (.int k n)],by simp only [bm,ku];exact ⟨⟨n,rfl,hw⟩,trivial⟩,cL.one rfl (aj.lit _)⟩
  ·rename_i hu;injection h with h;subst h;obtain ⟨n,rfl,_⟩:=DataW.trod_bool hu ht;exact ⟨[.lit (.bool n)],by simp only [bm,ku];exact ⟨⟨n,rfl⟩,trivial⟩,cL.one rfl (aj.lit _)⟩
  ·rename_i hu;injection h with h;subst h;obtain ⟨n,rfl,_,hw⟩:=DataW.trod_string hu ht;exact ⟨[.lit (.string n)],by simp only [bm,ku];exact ⟨⟨n,rfl,hw⟩,trivial⟩,cL.one rfl (aj.lit _)⟩
  ·rename_i fs hu;split at h;rotate_left
   ·cases h
   rename_i l' hl';split at h;rotate_left
   ·cases h
   rename_i hcl;injection h with h;subst h;obtain ⟨xs,n,_,_,hlen,hxs,hg⟩:=DataW.trod_struct hu ht;obtain ⟨ds,h1,h2⟩:=jV (n:=n) (cs:=cs) ih fs.toList 0 l' hl' (fun f hf=>by
    obtain ⟨i,hi,rfl⟩:=List.getElem_of_mem hf;have hi':i<fs.size:=by simpa using hi
    have:=hg i fs[i] (by simp [hi']);refine ⟨xs[i]'(by omega),?_⟩;have e:fs.toList[i]=fs[i]:=by simp
    rw [e,this];exact List.getElem?_eq_getElem (by omega))
   refine ⟨ds,h1,?_⟩;rw [List.drop_zero,List.take_of_length_le (by omega)] at h2;exact h2
  ·rename_i e hu;split at h;rotate_left
   ·cases h
   rename_i l' hl';split at h;rotate_left
   ·cases h
   rename_i hcl;obtain ⟨hcl,hpos⟩:=hcl;injection h with h;subst h;rcases open_slice hu ht with ⟨rfl,_⟩|⟨a,len,cap,m,n,D',Pl,rfl,_,hle,hm,hmm,_,hall⟩
   ·refine ⟨[.sd l'.length false []],?_,cL.one rfl (aj.sd0 _ _ _)⟩;simp only [bm,ku];exact ⟨⟨[],rfl,Nat.zero_le _,fun y hy=>by cases hy⟩,trivial⟩
   ·rw [if_pos rfl] at hmm;subst hmm;rw [hcl] at hall;rcases Nat.eq_zero_or_pos m with h0|h0
    ·have hl0:len=0:=by omega
     subst hl0 h0;refine ⟨[.sd l'.length false []],?_,cL.one rfl (aj.sd0 _ _ _)⟩;simp only [bm,ku];exact ⟨⟨[],rfl,Nat.zero_le _,fun y hy=>by cases hy⟩,trivial⟩
    ·have hpl:a=⟨a.block,a.off,none⟩∧a.block<w.heap.size:=by
      obtain ⟨cs',hc',_⟩:=hall 0 h0;obtain ⟨_,hcl',hat⟩:=World.cells?_some hc';have h1:=hat 0 hpos;rw [List.getElem?_eq_getElem (by omega)] at h1;rw [Go.Deep.add_add] at h1;simpa [Addr.add] using ry h1
     obtain ⟨ha,hbl⟩:=hpl;have hel : ∀i,i<m → ∃ds,bm l' ds ∧ ∀(j:Nat) c,ds[j]? = some c → ∃v,w.cell? ⟨a.block,a.off+i*l'.length+j,none⟩=some v∧v.oneCell'=true∧aj w (nr w) c v:=by
      intro i hi;obtain ⟨cs',hc',ht'⟩:=hall i hi;obtain ⟨_,hcl',hat⟩:=World.cells?_some hc';obtain ⟨ds,h1,h2⟩:=ih e l' hl' n cs' _ ht';refine ⟨ds,h1,fun j c hj =>?_⟩;have hjl:j<cs'.length:=by rw [←h2.1];exact (List.getElem?_eq_some_iff.1 hj).1
      have h3:=hat j (by omega);rw [Go.Deep.add_add,ha,ti,List.getElem?_eq_getElem hjl] at h3;refine ⟨cs'[j],?_,h2.2.1 _ (List.getElem_mem hjl),h2.2.2 j c _ hj (List.getElem?_eq_getElem hjl)⟩;rw [←h3,Nat.add_assoc]
     let F:Nat→List D:=fun i=>if hi:i<m then (hel i hi).choose else []
     have hF : ∀i,i<m→bm l' (F i) ∧ ∀(j:Nat) c,(F i)[j]? = some c → ∃v,w.cell? ⟨a.block,a.off+i*l'.length+j,none⟩=some v∧v.oneCell'=true∧aj w (nr w) c v:=by
      intro i hi;have e:F i=(hel i hi).choose:=by simp only [F,hi,dif_pos]
      rw [e];exact (hel i hi).choose_spec
     have hes : ∀(i:Nat) y,((List.range len).map fun i=>lB (dB P e) (F i))[i]? = some y→i<m∧y=lB (dB P e) (F i):=by
      intro i y hy;simp only [List.getElem?_map,Option.map_eq_some_iff] at hy;obtain ⟨k,hk,rfl⟩:=hy;obtain ⟨hk1,hk2⟩:=List.getElem?_eq_some_iff.1 hk;simp at hk1 hk2;subst hk2;exact ⟨by omega,rfl⟩
     refine ⟨[.sd l'.length false ((List.range len).map fun i=>lB (dB P e) (F i))],?_,cL.one rfl ?_⟩
     ·simp only [bm,ku];refine ⟨⟨_,rfl,by simp;omega,fun y hy =>?_⟩,trivial⟩;obtain ⟨i,hi⟩:=List.mem_iff_getElem?.1 hy;obtain ⟨h1,h2⟩:=hes i y hi;exact ⟨F i,h2,(hF i h1).1⟩
     ·rw [ha];have key:=aj.sd (w:=w) (I:=nr w) l'.length false ((List.range len).map fun i=>lB (dB P e) (F i)) a.block a.off m (fun i j=>(w.cell? ⟨a.block,a.off+i*l'.length+j,none⟩).getD undef) hbl
       (fun i y hy=>by
        obtain ⟨h1,rfl⟩:=hes i y hy;rw [eQ (hF i h1).1,(hF i h1).1.len])
       (fun i y j c hy hj=>by
        obtain ⟨h1,rfl⟩:=hes i y hy;rw [eQ (hF i h1).1] at hj;obtain ⟨v,v1,_,_⟩:=(hF i h1).2 j c hj;rw [v1];rfl)
       (fun i y j c hy hj=>by
        obtain ⟨h1,rfl⟩:=hes i y hy;rw [eQ (hF i h1).1] at hj;obtain ⟨v,v1,v2,_⟩:=(hF i h1).2 j c hj;simp only [v1,Option.getD_some];exact v2)
       (fun i y j c hy hj=>by
        obtain ⟨h1,rfl⟩:=hes i y hy;rw [eQ (hF i h1).1] at hj;obtain ⟨v,v1,_,v3⟩:=(hF i h1).2 j c hj;simp only [v1,Option.getD_some];exact v3)
       (by simp;omega) (by simp)
      simpa using key
  ·cases h
def qx (P:Program) (t:Nat) (ds:List D):D:=lB (dB P t) ds
theorem w5 {d t b0:Nat} {l:List Cs} {v:Value} {x:DataW H} {p:List MemPlace} (hs:xt P d t=some l) (hv:Value.okWide P w .any b0 t v) (h:DataW.Trod enc P w 0 (fun _=>true) held t v x p) :
 ∃ds,bm l ds∧aj w (nr w) (qx P t ds) v:=by
 obtain ⟨fuel,hf⟩:=h;obtain ⟨ds,h1,h2⟩:=ro d t l hs fuel _ _ hf;refine ⟨ds,h1,?_⟩;have one : ∀c,l=[c]→dB P t=false→v.cells = #[v]→aj w (nr w) (qx P t ds) v:=by
  intro c hl hst hc;subst hl;match ds,h1 with
  | [d],h1=>
   unfold qx;rw [hst];exact h2.2.2 0 d v rfl (by rw [hc];rfl)
  | [],h1=>simp [bm] at h1
  | _::_::_,h1=>simp [bm] at h1
 cases d with
 | zero=>simp [xt] at hs
 | succ d=>
  simp only [xt] at hs;split at hs
  ·rename_i k hu;injection hs with hs;obtain ⟨n,rfl⟩:=okWide_int hu hv;exact one _ hs.symm (by simp [dB,hu]) rfl
  ·rename_i hu;injection hs with hs;obtain ⟨n,rfl⟩:=okWide_bool hu hv;exact one _ hs.symm (by simp [dB,hu]) rfl
  ·rename_i hu;injection hs with hs;obtain ⟨n,rfl⟩:=okWide_string hu hv;exact one _ hs.symm (by simp [dB,hu]) rfl
  ·rename_i fs hu;obtain ⟨cs,rfl,hsz⟩:=okWide_struct hu hv;have e:qx P t ds = .agg ds:=by
    have hst:dB P t=true:=by simp [dB,hu]
    unfold qx lB;rw [hst]
   rw [e];have hcs:cs=cs.toList.toArray:=by simp
   rw [hcs];exact aj.agg ds cs.toList h2.1 h2.2.1 h2.2.2
  ·rename_i e hu;split at hs;rotate_left
   ·cases hs
   split at hs;rotate_left
   ·cases hs
   injection hs with hs;obtain ⟨a,n,c,rfl⟩:=okWide_slice hu hv;exact one _ hs.symm (by simp [dB,hu]) rfl
  ·cases hs
end
end Go.Proofs.YtkhonlnajdfhfaaDoor
namespace Go.Proofs.YtkhonlnajdfhfaaDoor
open Go Go.ChangeShapes Go.WideShapes Go.ChangeAt Go.RowKit Go.WideElems Go.Deep
section
variable {H:Type} {enc:TypeId × Value→H} {P:Program} {w:World} {held:Bool}
theorem zf {G:Gl} {f:Nat} {args:List V} {vals:List Value} {b:Bool} (hG:ta G w (nr w)) (h:aG P G f args [] 0 (bv b) []) (hd:ca w (nr w) (fun _=>none) args vals):Calls P f vals.toArray w (At (.bool b) w):=by
 have hm:bW w (nr w) (fun _=>none) [] 0:=⟨(fun id blk h=>by cases h),(fun id id' blk blk' b c c' h=>by cases h),fun _ _=>rfl,fun b h=>h⟩
 refine (h w (nr w) (fun _=>none) vals hm hG hd).mono ?_;rintro e w' ⟨u,I',β',rfl,h1,h2⟩;have hu:u = .bool b:=an h1;subst hu;exact ⟨rfl,h2.os,h2.tape,h2.output,h2.size,fun k hk=>h2.block k hk (fun ⟨j,bl,c,g1,_⟩=>by cases g1)⟩
def xu (P:Program) (d:Nat):List Nat→Option (List (List Cs))
 | []=>some []
 | t::ts=>match xt P d t,xu P d ts with
  | some a,some b=>some (a::b)
  | _,_=>none
def fa:List (List Cs)→List (List D)→Prop
 | [],[]=>True
 | a::r,d::s=>bm a d∧fa r s
 | _,_=>False
def mC (P:Program):List Nat→List (List D)→List V
 | t::ts,d::ds=> .d (qx P t d)::mC P ts ds
 | _,_=>[]
theorem m5 {d b0:Nat} : ∀(ts:List Nat) (ls:List (List Cs)) (vs:List Value) (xs:List (DataW H)) (ps:List MemPlace),xu P d ts=some ls →
 (∀(j:Nat) t v,ts[j]? = some t→vs[j]? = some v→Value.okWide P w .any b0 t v)→DataW.TrodAll enc P w 0 (fun _=>true) held ts vs xs ps → ∃dss,fa ls dss∧ca w (nr w) (fun _=>none) (mC P ts dss) vs
 | [],ls,[],[],_,hs,_,_=>by
  simp only [xu,Option.some.injEq] at hs;subst hs;exact ⟨[],by simp [fa],⟨rfl,fun i c x h=>by cases h⟩⟩
 | t::ts,ls,v::vs,x::xs,ps,hs,hv,⟨p,q,h1,h2,_⟩=>by
  simp only [xu] at hs;split at hs;rotate_left
  ·cases hs
  rename_i a b ha hb;injection hs with hs;subst hs;obtain ⟨ds,g1,g2⟩:=w5 ha (hv 0 t v rfl rfl) h1;obtain ⟨dss,g3,g4⟩:=m5 ts b vs xs q hb (fun j t v h k=>hv (j+1) t v h k) h2;refine ⟨ds::dss,⟨g1,g3⟩,⟨by simp [mC,g4.1],fun i c x hc hx =>?_⟩⟩;match i,hc,hx with
  | 0,hc,hx=>
   simp only [mC,List.getElem?_cons_zero,Option.some.injEq] at hc hx;subst hc hx;exact g2
  | i+1,hc,hx=>exact g4.2 i c x hc hx
 | [],_,[],_::_,_,_,_,h=>h.elim
 | [],_,_::_,_,_,_,_,h=>h.elim
 | _::_,_,[],_,_,_,_,h=>h.elim
 | _::_,_,_::_,[],_,_,_,h=>h.elim
theorem wJ {G:Gl} {d b0:Nat} {f:Nat} {ts:List Nat} {ls:List (List Cs)} {args:Array Value} {xs:List (DataW H)} {ps:List MemPlace} (hG:ta G w (nr w)) (hs:xu P d ts=some ls)
 (hv : ∀(j:Nat) t v,ts[j]? = some t→args.toList[j]? = some v→Value.okWide P w .any b0 t v) (hA:DataW.TrodAll enc P w 0 (fun _=>true) held ts args.toList xs ps)
 (h : ∀dss,fa ls dss→aG P G f (mC P ts dss) [] 0 (bv true) []):Calls P f args w (At (.bool true) w):=by
 obtain ⟨dss,h1,h2⟩:=m5 ts ls args.toList xs ps hs hv hA;have:=zf hG (h dss h1) h2;simpa using this
theorem yX {α:Type} {es:List D} (f:α→D) (h : ∀y∈es,∃x,y=f x) : ∃l:List α,es=l.map f:=by
 induction es with
 | nil=>exact ⟨[],rfl⟩
 | cons e r ih=>
  obtain ⟨x,rfl⟩:=h e List.mem_cons_self;obtain ⟨l,rfl⟩:=ih fun y hy=>h y (List.mem_cons_of_mem _ hy)
  exact ⟨x::l,rfl⟩
theorem qb : ∀ {ts:List Nat} {vs:List Value} {xs:List (DataW H)} {ps:List MemPlace},DataW.TrodAll enc P w 0 (fun _=>true) held ts vs xs ps→xs.length=ts.length
 | [],[],[],_,_=>rfl
 | t::ts,v::vs,x::xs,ps,⟨p,q,h1,h2,_⟩=>by simp [qb h2]
 | [],[],_::_,_,h=>h.elim
 | [],_::_,_,_,h=>h.elim
 | _::_,[],_,_,h=>h.elim
 | _::_,_::_,[],_,h=>h.elim
end
end Go.Proofs.YtkhonlnajdfhfaaDoor
namespace Go.Proofs.YtkhonlnajdfhfaaDoor
theorem py {w:World} {b o:Nat} {v:Value} (h:w.cell? ⟨b,o,none⟩=some v):nr w b:=by
 unfold nr;rcases Nat.lt_or_ge b w.heap.size with hb|hb
 ·exact hb
 ·rw [World.cell?] at h;have:w.heap[b]? = none:=Array.getElem?_eq_none (by omega);simp [this] at h
theorem zC {P:Program} {W:World} {name:String} {k:IntKind} {zs:List Int} {g:Nat} (h:Lib.TabIs P W name k zs) (hg:P.globalNamed name=some g) (hz:0<zs.length) :
 aj W (nr W) (.pd zs.length [.agg (zs.map fun z=> .lit (.int k z))] 0 0) (.pointer (some ⟨g,0,none⟩)):=by
 have hlen:(D.agg (zs.map fun z=> .lit (.int k z))).cells.length=zs.length:=by simp [D.cells]
 have key : ∀(i:Nat) e (j:Nat) c,[D.agg (zs.map fun z=> .lit (.int k z))][i]? = some e→e.cells[j]? = some c→i=0 ∧ ∃z,zs[j]? = some z∧c = .lit (.int k z):=by
  intro i e j c he hj;match i,he with
  | 0,he=>
   simp only [List.getElem?_cons_zero,Option.some.injEq] at he;subst he;simp only [D.cells,List.getElem?_map,Option.map_eq_some_iff] at hj;obtain ⟨z,hz,rfl⟩:=hj;exact ⟨rfl,z,hz,rfl⟩
  | i+1,he=>simp at he
 have:=aj.pd (w:=W) (I:=nr W) zs.length [.agg (zs.map fun z=> .lit (.int k z))] 0 0 g 0 (fun i j=> .int k (zs.getD j 0)) (py (h.cell hg 0 hz))
  (fun i e he=>by
   match i,he with
   | 0,he=>
    simp only [List.getElem?_cons_zero,Option.some.injEq] at he;subst he;exact hlen
   | i+1,he=>simp at he)
  (fun i e j c he hj=>by
   obtain ⟨rfl,z,hz,rfl⟩:=key i e j c he hj;have hj':j<zs.length:=by
    rcases Nat.lt_or_ge j zs.length with q|q
    ·exact q
    ·rw [List.getElem?_eq_none q] at hz;cases hz
   simpa using h.cell hg j hj')
  (fun i e j c he hj=>rfl)
  (fun i e j c he hj=>by
   obtain ⟨rfl,z,hz,rfl⟩:=key i e j c he hj;have:zs.getD j 0=z:=by simp [List.getD,hz]
   rw [this];exact .lit _)
 simpa using this
theorem Tryd.own:ownKnob Tryd.prog.godebug=none:=by kernel_rfl
theorem Tryd.laidOut:laidOutB Tryd.prog=true:=by kernel_rfl
theorem wu {W:World} {x:D} (h:laidMet Tryd.prog [("bodkin/utf.most",Rows.laid_bodkin_utf_most)] W) (hg:G0 0=some x):aj W (nr W) x (.pointer (some ⟨0,0,none⟩)):=by
 have t:=Lib.tabIs_of_head (k:= .i32) (zs:=[127,2047,65535,1114111]) (g:=0) (t:=168) (e:=21) (n:=4) (by kernel_rfl) (by kernel_rfl) Tryd.underlying168 Tryd.underlying21 (by kernel_rfl) (by kernel_rfl) h;have:=zC (g:=0) t (by kernel_rfl) (by decide);rw [show G0 0=some _ from rfl] at hg;injection hg with hg;subst hg;exact this
theorem DD {W:World} (hL:laidMetH Tryd.prog [("bodkin/utf.most",Rows.laid_bodkin_utf_most)] W):ta G0 W (nr W):=by
 rw [MakeChecks.laidMetH_plain _ _ _ (by kernel_rfl)] at hL;intro g x hg;by_cases e:g=0
 ·subst e;exact wu hL hg
 ·exfalso;unfold G0 at hg;simp only [e,if_false] at hg;cases hg
theorem m4 {c:Cs} {r:List Cs} {ds:List D} (h:bm (c::r) ds) : ∃d s,ds=d::s∧ku c d∧bm r s:=by
 match ds,h with
 | d::s,h=>exact ⟨d,s,rfl,(by simpa only [bm] using h)⟩
 | [],h=>simp [bm] at h
theorem wY {ds:List D} (h:bm [] ds):ds=[]:=by
 match ds,h with
 | [],_=>rfl
 | _::_,h=>simp [bm] at h
theorem gH {c:List Cs} {r:List (List Cs)} {ds:List (List D)} (h:fa (c::r) ds) : ∃d s,ds=d::s∧bm c d∧fa r s:=by
 match ds,h with
 | d::s,h=>exact ⟨d,s,rfl,(by simpa only [fa] using h)⟩
 | [],h=>simp [fa] at h
theorem uy {ds:List (List D)} (h:fa [] ds):ds=[]:=by
 match ds,h with
 | [],_=>rfl
 | _::_,h=>simp [fa] at h
theorem sL {c:Cs} {ds:List D} (h:bm [c] ds) : ∃d,ds=[d]∧ku c d:=by
 obtain ⟨d,s,rfl,h1,h2⟩:=m4 h;obtain rfl:=wY h2;exact ⟨d,rfl,h1⟩
theorem Cb {c e:Cs} {ds:List D} (h:bm [c,e] ds) : ∃d x,ds=[d,x]∧ku c d∧ku e x:=by
 obtain ⟨d,s,rfl,h1,h2⟩:=m4 h;obtain ⟨x,rfl,h3⟩:=sL h2;exact ⟨d,x,rfl,h1,h3⟩
theorem A0 {c:List Cs} {ds:List (List D)} (h:fa [c] ds) : ∃d,ds=[d]∧bm c d:=by
 obtain ⟨d,s,rfl,h1,h2⟩:=gH h;obtain rfl:=uy h2;exact ⟨d,rfl,h1⟩
theorem A1 {c e:List Cs} {ds:List (List D)} (h:fa [c,e] ds) : ∃d x,ds=[d,x]∧bm c d∧bm e x:=by
 obtain ⟨d,s,rfl,h1,h2⟩:=gH h;obtain ⟨x,rfl,h3⟩:=A0 h2;exact ⟨d,x,rfl,h1,h3⟩
theorem sJ {k:IntKind} {d:D} (h:ku (.int k) d) : ∃n,d = .lit (.int k n):=by
 simp only [ku] at h;obtain ⟨n,rfl,_⟩:=h;exact ⟨n,rfl⟩
theorem sK {d:D} (h:ku .str d) : ∃s:ByteArray,d = .lit (.string s)∧s.size≤maxLen:=by simpa only [ku] using h
theorem A2 {k:Nat} {ag:Bool} {e:List Cs} {d:D} (h:ku (.sl k ag e) d) : ∃es,d = .sd k false es∧es.length≤maxLen ∧ ∀y∈es,∃ds,y=lB ag ds∧bm e ds:=by simpa only [ku] using h
end Go.Proofs.YtkhonlnajdfhfaaDoor
set_option maxRecDepth 100000
namespace Go.Proofs.YtkhonlnajdfhfaaDoor
open Go
theorem ct {a b:Bool} (ha:a=true) (hb:b=true):(a&&b)=true:=by rw [ha,hb];rfl
theorem y8:(laidOutB Tryd.pinned.checked.prog)=true:=Tryd.laidOut
theorem y9:(mapsRowed Tryd.pinned.checked.prog)=true:=by kernel_rfl
theorem za:((Tryd.pinned.checked.prog.stops==[]))=true:=by kernel_rfl
theorem zb:((Tryd.pinned.checked.prog.stopKnobs==[]))=true:=by kernel_rfl
theorem xb:(Tryd.pinned.checked.prog.stopsHeard)=true:=by kernel_rfl
theorem xc:(Tryd.pinned.checked.prog.mayEnter)=true:=by kernel_rfl
theorem uE:Tryd.pinned.checked.prog.mainIs=some (true, "25caf9d165ea45525b4c813e9c7aa42e2cc86a2c090100479e98cdca257359bd".toList):=by kernel_rfl
theorem rz:true=Tryd.pinned.checked.prog.looks []:=by kernel_rfl
end Go.Proofs.YtkhonlnajdfhfaaDoor
