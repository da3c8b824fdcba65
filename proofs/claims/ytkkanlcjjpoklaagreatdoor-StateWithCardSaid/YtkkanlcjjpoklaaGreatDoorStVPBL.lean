/- What the theorem leans on, part 38. -/
import Derived.Test.YtkkanlcjjpoklaaGreatDoorStVPAX
import Derived.Test.YtkkanlcjjpoklaaGreatDoorStVPBA
set_option linter.unusedSimpArgs false
set_option linter.unusedVariables false
set_option maxRecDepth 8000
namespace Go.Proofs.YtkkanlcjjpoklaaGreatDoor
def gc (n:Int):It:=⟨0,0,n,n,0,0,⟨#[]⟩⟩
def kQ (x:Iy):It:=⟨0,x.1,0,(aa x.2.2.2.2 0).length,0,0,⟨#[]⟩⟩
def ev (to:Int):Int→List Iy→List It
 | f,[]=>if f<to then [gc (to - f)] else []
 | f,x::l=>if f<x.2.1 then gc (x.2.1 - f)::kQ x::ev to x.2.1 l else kQ x::ev to f l
def md (n:Int):It:=⟨1,0,n,1,0,0,⟨#[]⟩⟩
def gv (to:Int):Int→List Sn→List It
 | f,[]=>if f<to then [gc (to - f)] else []
 | f,x::l=>if f<x.1 then gc (x.1 - f)::md (x.2 - x.1)::gv to x.2 l else md (x.2 - x.1)::gv to x.2 l
theorem jL (to:Int) : ∀(l:List Iy) (f:Int),(ev to f l).length≤2*l.length+1
 | [],f=>by unfold ev;split<;>simp
 | x::l,f=>by
  unfold ev;split
  ·have:=jL to l x.2.1;simp only [aa6];omega
  ·have:=jL to l f;simp only [aa6];omega
theorem m0 (to:Int) : ∀(l:List Sn) (f:Int),(gv to f l).length≤2*l.length+1
 | [],f=>by unfold gv;split<;>simp
 | x::l,f=>by
  have:=m0 to l x.2;unfold gv;split<;>(simp only [aa6];omega)
theorem zj {n:Int} (h:0≤n∧n≤1099511627776):cd (gc n):=by unfold cd gc;simp only;omega
theorem RM {n:Int} (h:0≤n∧n≤1099511627776):cd (md n):=by unfold cd md;simp only;omega
theorem Av {to:Int} (ht:to≤1000000000) : ∀(l:List Iy) (f:Int),0≤f→(∀x∈l,x.2.1≤1000000000∧(aa x.2.2.2.2 0).length≤1000000000) → ∀i∈ev to f l,cd i
 | [],f,h0,_,i,hi=>by
  unfold ev at hi;split at hi
  ·rw [abK.1 hi];exact zj (by omega)
  ·cases hi
 | x::l,f,h0,h,i,hi=>by
  have hx:=h x abj;have hl:=fun y hy=>h y (abd x hy)
  have hv:cd (kQ x):=by unfold cd kQ;simp only;omega
  unfold ev at hi;split at hi
  ·rcases abi.1 hi with rfl|hi
   ·exact zj (by omega)
   rcases abi.1 hi with rfl|hi
   ·exact hv
   ·exact Av ht l _ (by omega) hl i hi
  ·rcases abi.1 hi with rfl|hi
   ·exact hv
   ·exact Av ht l _ h0 hl i hi
theorem bH (i:It) (l:List It):(aq (i::l)).d0=i.d0+(aq l).d0∧(aq (i::l)).d1=i.d1+(aq l).d1∧(aq (i::l)).d2=i.d2+(aq l).d2:=by
 have e:aq (i::l)=bd (aq [i]) (aq l):=kM [i] l;rw [e];simp [bd,aq,jW,Sm.zero]
def aY (L:List Iy):Int:=(L.map fun x=>((aa x.2.2.2.2 0).length:Int)).sum
theorem lD {to:Int} : ∀(l:List Iy) (f:Int),f≤to→(∀x∈l,x.2.1≤to)→(aq (ev to f l)).d0=to - f∧(aq (ev to f l)).d1=to - f+aY l
 | [],f,hf,_=>by
  unfold ev aY;split
  ·have:=bH (gc (to - f)) [];simp only [aq,acJ,Sm.zero,gc,acl,acV] at this ⊢;omega
  ·simp only [aq,acJ,Sm.zero,acl,acV];omega
 | x::l,f,hf,h=>by
  have hx:=h x abj;have hl:=fun y hy=>h y (abd x hy)
  have e:aY (x::l)=(aa x.2.2.2.2 0).length+aY l:=by simp [aY]
  unfold ev;split
  ·obtain ⟨a,b⟩:=lD l x.2.1 hx hl;have h1:=bH (gc (x.2.1 - f)) (kQ x::ev to x.2.1 l);have h2:=bH (kQ x) (ev to x.2.1 l);simp only [gc,kQ] at h1 h2;simp only [gc,kQ];omega
  ·obtain ⟨a,b⟩:=lD l f hf hl;have h2:=bH (kQ x) (ev to f l);simp only [kQ] at h2;simp only [kQ];omega
abbrev Fl:=Int × Int × Int × Int
def fY (x:Fl):It:=⟨0,0,x.1,x.2.1,x.2.2.1,x.2.2.2,⟨#[]⟩⟩
def D4 (x:Fl):Prop:=(0≤x.1∧x.1≤1099511627776)∧(0≤x.2.1∧x.2.1≤1099511627776)∧(0<x.2.2.1∧x.2.2.1≤1099511627776)∧(0≤x.2.2.2∧x.2.2.2≤1099511627776)
theorem KY {x:Fl} (h:D4 x):cd (fY x):=by unfold D4 at h;unfold cd fY;simp only;omega
def km (rs:List (List Cl)):Nat:=rs.foldl (fun m r=>max m (dH r)) 0
theorem oQ (rs:List (List Cl)) (r:List Cl):km (rs++[r])=max (km rs) (dH r):=by simp [km]
theorem qP {B:Nat} : ∀(R rs:List (List Cl)),rs=R.reverse→(∀r∈rs,dH r≤B)→km rs≤B
 | [],rs,e,h=>by subst e;exact aa1 _
 | r::R,rs,e,h=>by
  rw [acq] at e;subst e;rw [oQ];have h1:=qP R R.reverse rfl fun x hx=>h x (adb _ hx)
  have h2:=h r (by simp);omega
def fJ (at_ b:Int) (x:Iy):Bool:=decide (x.2.1<at_)||(b==1&&decide (x.2.1=at_))
def a8 (L:List Iy) (at_ b:Int):Int:=at_+aY (L.filter (fJ at_ b))
theorem eH (x:Iy) (l:List Iy):aY (x::l)=(aa x.2.2.2.2 0).length+aY l:=by simp [aY]
theorem wZ {L:List Iy} {a b:Int} (h : ∀x∈L,fJ a b x=false):aY (L.filter (fJ a b))=0:=by
 rw [acd.2 fun x hx=>by rw [h x hx];simp];rfl
structure NC (v b:Int) (I:List It) (j:Nat):Prop where
 le:j≤I.length
 below : ∀i,0<i→i≤j → ¬(v<(aq (I.take i)).d0∨(b=0∧(aq (I.take i)).d0=v))
 here:j<I.length→(v<(aq (I.take (j+1))).d0∨(b=0∧(aq (I.take (j+1))).d0=v))
theorem NC.of {v b:Int} {I:List It} {j:Nat} (h:AG 0 v b I j):NC v b I j:=by
 have e : ∀s:Sm,bj 0 v b s=true↔(v<s.d0∨(b=0∧s.d0=v)):=fun s=>by simp [bj,mL]
 refine ⟨h.le,fun i h1 h2 =>?_,fun h1=>(e _).1 (h.here h1)⟩;have:=h.below i h1 h2;rw [←e,this];simp
theorem NC.tail {v b:Int} {i:It} {I:List It} {j:Nat} (h:NC v b (i::I) (j+1)):NC (v - i.d0) b I j:=by
 have e : ∀k,(aq ((i::I).take (k+1))).d0=i.d0+(aq (I.take k)).d0:=fun k=>by rw [abn];exact (bH i _).1
 refine ⟨by have:=h.le;simp only [aa6] at this;omega,fun k h1 h2 =>?_,fun h1 =>?_⟩
 ·have:=h.below (k+1) (by omega) (by omega);rw [e] at this;omega
 ·have:=h.here (by simp only [aa6];omega);rw [e] at this;omega
theorem s7 {to:Int} : ∀(L:List Iy) (f v b:Int) (j:Nat),(L.Pairwise fun x y=>x.2.1≤y.2.1)→(∀x∈L,f≤x.2.1∧x.2.1≤to)→f≤to→0≤v→v≤to - f→(b=0∨b=1)→NC v b (ev to f L) j →
 (aq ((ev to f L).take j)).d1+v - (aq ((ev to f L).take j)).d0=v+aY (L.filter (fJ (f+v) b))
 | [],f,v,b,j,_,_,hf,h0,hv,hb,h=>by
  have e:aY (([]:List Iy).filter (fJ (f+v) b))=0:=rfl;rw [e];unfold ev;split
  ·cases j with
   | zero=>simp [aq,Sm.zero]
   | succ j=>
    have:=bH (gc (to - f)) [];simp only [abn,adY];simp only [aq,acJ,Sm.zero,gc] at this ⊢;omega
  ·simp [aq,Sm.zero]
 | x::L,f,v,b,j,hp,h,hf,h0,hv,hb,hs=>by
  have hx:=h x abj;have hl:=fun y hy=>h y (abd x hy)
  rw [abR] at hp;have hxy : ∀y∈x::L,x.2.1≤y.2.1:=fun y hy=>by
   rcases abi.1 hy with rfl|hy
   ·exact abN _
   ·exact hp.1 y hy
  unfold ev at hs ⊢;by_cases hfx:f<x.2.1
  ·rw [aa3 hfx] at hs ⊢;have e1:=bH (gc (x.2.1 - f)) [];have e2:=bH (gc (x.2.1 - f)) [kQ x];have e3:=bH (kQ x) [];have z:aq []=Sm.zero:=rfl;simp only [z,Sm.zero,gc,kQ] at e1 e2 e3;match j,hs with
   | 0,hs=>
    have h1:=hs.here (by simp);simp only [abn,abO,gc] at h1;have hn:aY ((x::L).filter (fJ (f+v) b))=0:=wZ fun y hy=>by
     have:=hxy y hy;simp only [fJ,acy,Bool.and_eq_false_iff,ab9,acD];omega
    rw [hn];simp [aq,Sm.zero]
   | 1,hs=>
    have h1:=hs.below 1 (by omega) (by omega);have h2:=hs.here (by simp);simp only [abn,abO,gc,kQ] at h1 h2;omega
   | j+2,hs=>
    have h1:=hs.below 1 (by omega) (by omega);simp only [abn,abO,gc] at h1;have t1:=hs.tail.tail;simp only [gc,kQ,ac2] at t1;have ih:=s7 (to:=to) L x.2.1 (v - (x.2.1 - f)) b j hp.2 (fun y hy=>⟨hp.1 y hy,(hl y hy).2⟩) hx.2 (by omega) (by omega) hb t1;rw [show x.2.1+(v - (x.2.1 - f))=f+v by omega] at ih;have ha:fJ (f+v) b x=true:=by
     simp only [fJ,abP,aa8,abs,aca];omega
    rw [abA ha,eH];have q1:=bH (gc (x.2.1 - f)) (kQ x::(ev to x.2.1 L).take j);have q2:=bH (kQ x) ((ev to x.2.1 L).take j);simp only [abn];simp only [gc,kQ] at q1 q2 ⊢;omega
  ·rw [aaY hfx] at hs ⊢;have hfe:x.2.1=f:=by omega
   match j,hs with
   | 0,hs=>
    have h1:=hs.here (by simp);have e3:=bH (kQ x) [];have z:aq []=Sm.zero:=rfl;simp only [z,Sm.zero,kQ] at e3;simp only [abn,abO,kQ] at h1;have hn:aY ((x::L).filter (fJ (f+v) b))=0:=wZ fun y hy=>by
     have:=hxy y hy;simp only [fJ,acy,Bool.and_eq_false_iff,ab9,acD];omega
    rw [hn];simp [aq,Sm.zero]
   | j+1,hs=>
    have h1:=hs.below 1 (by omega) (by omega);have e3:=bH (kQ x) [];have z:aq []=Sm.zero:=rfl;simp only [z,Sm.zero,kQ] at e3;simp only [abn,abO,kQ] at h1;have t1:=hs.tail;simp only [kQ,ac2] at t1;have ih:=s7 (to:=to) L f v b j hp.2 (fun y hy=>⟨by have:=hp.1 y hy;omega,(hl y hy).2⟩) hf h0 hv hb t1;have ha:fJ (f+v) b x=true:=by
     simp only [fJ,abP,aa8,abs,aca];omega
    rw [abA ha,eH];have q2:=bH (kQ x) ((ev to f L).take j);simp only [abn];simp only [kQ] at q2 ⊢;omega
def US (ps:List Pz) (i n:Nat):St:=⟨[(3,iv n),(7,.d (.sd 3 false (ps.map iA))),(8,iv ps.length),(9,iv i)],[],0⟩
attribute [push_cast] US.eq_def
theorem lB : ∀a b:List Pz,gq (a++b)=gq a+gq b
 | [],b=>by rw [abL,gq,acC]
 | .tx _ _ rs::t,b=>by rw [abG,gq,gq,lB t b,acI]
 | .fo _::t,b=>by rw [abG,gq,gq,lB t b,acI]
theorem C6 {ps:List Pz} {i:Nat} {z:Pz} (h:ps[i]? = some z):gq (ps.take (i+1))=gq (ps.take i)+gq [z]:=by rw [ao h,lB]
theorem pw {B:Nat} : ∀ps:List Pz,(∀z∈ps,gq [z]≤B)→gq ps≤B*ps.length
 | [],_=>aaV _
 | z::t,h=>by
  have h1:=h z (by simp);have h2:=pw t fun y hy=>h y (by simp [hy])
  have e:gq (z::t)=gq [z]+gq t:=by rw [←lB];rfl
  rw [e,aa6,acR];omega
theorem ur {ps:List Pz} (h : ∀z∈ps,Nw z) : ∀z∈ps,gq [z]≤1000000:=fun z hz=>by
 have:=h z hz;cases z with
 | tx k p rs=>have:=this.2.2;simp only [gq];omega
 | fo p=>simp only [gq];omega
set_option maxHeartbeats 3200000 in
theorem NB (ps:List Pz) (f t:Int) (hl:ps.length≤100000000) (hq : ∀z∈ps,Qz z):ap Tryz.prog G0 200 [.d (Tl ps f t)] [] 0 (iv (gq ps)) []:=by
 have hsz:=ur fun z hz=>(hq z hz).1
 refine vF ab [0,1,2,3,5,7,8,9,10,15] Tryz.func200 rfl Tryz.results200 Tryz.ntmps200 ?_;(refine' zg)
 refine vL (lv:=[0,1,2,3,5,7,8,9,10,15]) ab (fun i=>US ps i (gq (ps.take i))) (fun i=>i≤ps.length) (fun i=>ps.length - i) (0) ((aC.go [3,7,8,9] (by exact vT) rfl)) ?_ ?_
 ·exact aa1 _
 intro i hi;have hb:=pw (B:=1000000) (ps.take i) fun z hz=>hsz z (abm hz)
 rw [aa7] at hb;have hb2:gq (ps.take i)≤1000000*100000000:=ab5 hb (abX _ (by omega));rcases aa2 i ps.length with hlt|hge
 ·obtain ⟨z,hz⟩ : ∃z,ps[i]? = some z:=⟨_,IO hlt⟩
  have hzq:=hq z (aa0 hz);have hst:=C6 hz;cases z with
  | tx kd a rs=>
   have hk:kd≠3:=by have:=hzq.2.1;omega
   have hrl:=hzq.1.2.2;simp only [gq,abD] at hst;(refine' jY hz)
   refine aG.go (i+1) [3,7,8,9] (by rw [hst];exact vT) ?_ ?_
   ·show ps.length - (i+1)<ps.length - i;omega
   ·show i+1≤ps.length;omega
  | fo a=>
   simp only [gq,abD] at hst;(refine' jY hz)
   refine aG.go (i+1) [3,7,8,9] (by rw [hst];exact vT) ?_ ?_
   ·show ps.length - (i+1)<ps.length - i;omega
   ·show i+1≤ps.length;omega
 ·rw [aaW hge];(refine' zo)
theorem hP : ∀L:List Iy,0≤aY L
 | []=>abN _
 | x::l=>by rw [eH];have:=hP l;omega
theorem gC {p q:Iy→Bool} : ∀(L:List Iy),(∀x∈L,p x=true→q x=true)→aY (L.filter p)≤aY (L.filter q)
 | [],_=>abN _
 | x::l,h=>by
  have ih:=gC l fun y hy=>h y (abd _ hy)
  cases hp:p x with
  | true=>
   rw [abA hp,abA (h x abj hp),eH,eH];omega
  | false=>
   rw [abv (by simp [hp])];cases hq:q x with
   | true=>rw [abA hq,eH];omega
   | false=>rw [abv (by simp [hq])];exact ih
theorem Bz (L:List Iy) (p:Iy→Bool):aY (L.filter p)≤aY L:=by
 have:=gC (p:=p) (q:=fun _=>true) L fun _ _ _=>rfl
 rwa [adg.2 fun _ _=>rfl] at this
theorem nE (L:List Iy) {n a b:Int} (ha:0≤a∧a≤n):0≤a8 L a b∧a8 L a b≤n+aY L:=by
 have h1:=Bz L (fJ a b);have h2:=hP (L.filter (fJ a b));unfold a8;omega
theorem zi (L:List Iy) {a c:Int} (h:a<c):a8 L a 1<a8 L c 0:=by
 have:=gC (p:=fJ a 1) (q:=fJ c 0) L fun x _ hx=>by
  simp only [fJ,abP,aa8,abs,aca] at hx ⊢;omega
 unfold a8;omega
theorem yn {to:Int} (ht:to≤1000000000) : ∀(l:List Sn) (f:Int),0≤f→(∀x∈l,0≤x.1∧x.1≤x.2∧x.2≤1000000000) → ∀i∈gv to f l,cd i
 | [],f,h0,_,i,hi=>by
  unfold gv at hi;split at hi
  ·rw [abK.1 hi];exact zj (by omega)
  ·cases hi
 | x::l,f,h0,h,i,hi=>by
  have hx:=h x abj;have hl:=fun y hy=>h y (abd x hy)
  have hv:cd (md (x.2 - x.1)):=RM (by omega);unfold gv at hi;split at hi
  ·rcases abi.1 hi with rfl|hi
   ·exact zj (by omega)
   rcases abi.1 hi with rfl|hi
   ·exact hv
   ·exact yn ht l _ (by omega) hl i hi
  ·rcases abi.1 hi with rfl|hi
   ·exact hv
   ·exact yn ht l _ (by omega) hl i hi
end Go.Proofs.YtkkanlcjjpoklaaGreatDoor
