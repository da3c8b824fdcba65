/- What the theorem leans on, part 40. -/
import Derived.Test.YtkkanlcjjpoklaaGreatDoorStUPAX
import Derived.Test.YtkkanlcjjpoklaaGreatDoorStUPBA
set_option linter.unusedSimpArgs false
set_option linter.unusedVariables false
set_option maxRecDepth 8000
namespace Go.Proofs.YtkkanlcjjpoklaaGreatDoor
def o5 (n:Int):It:=⟨0,0,n,n,0,0,⟨#[]⟩⟩
def kU (x:Iy):It:=⟨0,x.1,0,(aa x.2.2.2.2 0).length,0,0,⟨#[]⟩⟩
def gC (to:Int):Int→List Iy→List It
 | f,[]=>if f<to then [o5 (to - f)] else []
 | f,x::l=>if f<x.2.1 then o5 (x.2.1 - f)::kU x::gC to x.2.1 l else kU x::gC to f l
def N3 (n:Int):It:=⟨1,0,n,1,0,0,⟨#[]⟩⟩
def yD (to:Int):Int→List Sn→List It
 | f,[]=>if f<to then [o5 (to - f)] else []
 | f,x::l=>if f<x.1 then o5 (x.1 - f)::N3 (x.2 - x.1)::yD to x.2 l else N3 (x.2 - x.1)::yD to x.2 l
theorem kF (to:Int) : ∀(l:List Iy) (f:Int),(gC to f l).length≤2*l.length+1
 | [],f=>by unfold gC;split<;>simp
 | x::l,f=>by
  unfold gC;split
  ·have:=kF to l x.2.1;simp only [List.length_cons];omega
  ·have:=kF to l f;simp only [List.length_cons];omega
theorem wZ (to:Int) : ∀(l:List Sn) (f:Int),(yD to f l).length≤2*l.length+1
 | [],f=>by unfold yD;split<;>simp
 | x::l,f=>by
  have:=wZ to l x.2;unfold yD;split<;>(simp only [List.length_cons];omega)
theorem xJ {n:Int} (h:0≤n∧n≤1099511627776):bZ (o5 n):=by unfold bZ o5;simp only;omega
theorem Pf {n:Int} (h:0≤n∧n≤1099511627776):bZ (N3 n):=by unfold bZ N3;simp only;omega
theorem yB {to:Int} (ht:to≤1000000000) : ∀(l:List Iy) (f:Int),0≤f→(∀x∈l,x.2.1≤1000000000∧(aa x.2.2.2.2 0).length≤1000000000) → ∀i∈gC to f l,bZ i
 | [],f,h0,_,i,hi=>by
  unfold gC at hi;split at hi
  ·rw [List.mem_singleton.1 hi];exact xJ (by omega)
  ·cases hi
 | x::l,f,h0,h,i,hi=>by
  have hx:=h x List.mem_cons_self;have hl:=fun y hy=>h y (List.mem_cons_of_mem x hy)
  have hv:bZ (kU x):=by unfold bZ kU;simp only;omega
  unfold gC at hi;split at hi
  ·rcases List.mem_cons.1 hi with rfl|hi
   ·exact xJ (by omega)
   rcases List.mem_cons.1 hi with rfl|hi
   ·exact hv
   ·exact yB ht l _ (by omega) hl i hi
  ·rcases List.mem_cons.1 hi with rfl|hi
   ·exact hv
   ·exact yB ht l _ h0 hl i hi
theorem dO (i:It) (l:List It):(ay (i::l)).d0=i.d0+(ay l).d0∧(ay (i::l)).d1=i.d1+(ay l).d1∧(ay (i::l)).d2=i.d2+(ay l).d2:=by
 have e:ay (i::l)=a6 (ay [i]) (ay l):=j4 [i] l;rw [e];simp [a6,ay,jo,Sm.zero]
def dw (L:List Iy):Int:=(L.map fun x=>((aa x.2.2.2.2 0).length:Int)).sum
theorem ql {to:Int} : ∀(l:List Iy) (f:Int),f≤to→(∀x∈l,x.2.1≤to)→(ay (gC to f l)).d0=to - f∧(ay (gC to f l)).d1=to - f+dw l
 | [],f,hf,_=>by
  unfold gC dw;split
  ·have:=dO (o5 (to - f)) [];simp only [ay,List.foldl_nil,Sm.zero,o5,List.map_nil,List.sum_nil] at this ⊢;omega
  ·simp only [ay,List.foldl_nil,Sm.zero,List.map_nil,List.sum_nil];omega
 | x::l,f,hf,h=>by
  have hx:=h x List.mem_cons_self;have hl:=fun y hy=>h y (List.mem_cons_of_mem x hy)
  have e:dw (x::l)=(aa x.2.2.2.2 0).length+dw l:=by simp [dw]
  unfold gC;split
  ·obtain ⟨a,b⟩:=ql l x.2.1 hx hl;have h1:=dO (o5 (x.2.1 - f)) (kU x::gC to x.2.1 l);have h2:=dO (kU x) (gC to x.2.1 l);simp only [o5,kU] at h1 h2;simp only [o5,kU];omega
  ·obtain ⟨a,b⟩:=ql l f hf hl;have h2:=dO (kU x) (gC to f l);simp only [kU] at h2;simp only [kU];omega
abbrev Fl:=Int × Int × Int × Int
def nj (x:Fl):It:=⟨0,0,x.1,x.2.1,x.2.2.1,x.2.2.2,⟨#[]⟩⟩
def Cf (x:Fl):Prop:=(0≤x.1∧x.1≤1099511627776)∧(0≤x.2.1∧x.2.1≤1099511627776)∧(0<x.2.2.1∧x.2.2.1≤1099511627776)∧(0≤x.2.2.2∧x.2.2.2≤1099511627776)
theorem IV {x:Fl} (h:Cf x):bZ (nj x):=by unfold Cf at h;unfold bZ nj;simp only;omega
def jJ (rs:List (List Cl)):Nat:=rs.foldl (fun m r=>max m (cZ r)) 0
theorem nT (rs:List (List Cl)) (r:List Cl):jJ (rs++[r])=max (jJ rs) (cZ r):=by simp [jJ]
theorem qd {B:Nat} : ∀(R rs:List (List Cl)),rs=R.reverse→(∀r∈rs,cZ r≤B)→jJ rs≤B
 | [],rs,e,h=>by subst e;exact Nat.zero_le _
 | r::R,rs,e,h=>by
  rw [List.reverse_cons] at e;subst e;rw [nT];have h1:=qd R R.reverse rfl fun x hx=>h x (List.mem_append_left _ hx)
  have h2:=h r (by simp);omega
def yC (at_ b:Int) (x:Iy):Bool:=decide (x.2.1<at_)||(b==1&&decide (x.2.1=at_))
def iX (L:List Iy) (at_ b:Int):Int:=at_+dw (L.filter (yC at_ b))
theorem lu (x:Iy) (l:List Iy):dw (x::l)=(aa x.2.2.2.2 0).length+dw l:=by simp [dw]
theorem vn {L:List Iy} {a b:Int} (h : ∀x∈L,yC a b x=false):dw (L.filter (yC a b))=0:=by
 rw [List.filter_eq_nil_iff.2 fun x hx=>by rw [h x hx];simp];rfl
structure OD (v b:Int) (I:List It) (j:Nat):Prop where
 le:j≤I.length
 below : ∀i,0<i→i≤j → ¬(v<(ay (I.take i)).d0∨(b=0∧(ay (I.take i)).d0=v))
 here:j<I.length→(v<(ay (I.take (j+1))).d0∨(b=0∧(ay (I.take (j+1))).d0=v))
theorem OD.of {v b:Int} {I:List It} {j:Nat} (h:BP 0 v b I j):OD v b I j:=by
 have e : ∀s:Sm,bm 0 v b s=true↔(v<s.d0∨(b=0∧s.d0=v)):=fun s=>by simp [bm,nd]
 refine ⟨h.le,fun i h1 h2 =>?_,fun h1=>(e _).1 (h.here h1)⟩;have:=h.below i h1 h2;rw [←e,this];simp
theorem OD.tail {v b:Int} {i:It} {I:List It} {j:Nat} (h:OD v b (i::I) (j+1)):OD (v - i.d0) b I j:=by
 have e : ∀k,(ay ((i::I).take (k+1))).d0=i.d0+(ay (I.take k)).d0:=fun k=>by rw [List.take_succ_cons];exact (dO i _).1
 refine ⟨by have:=h.le;simp only [List.length_cons] at this;omega,fun k h1 h2 =>?_,fun h1 =>?_⟩
 ·have:=h.below (k+1) (by omega) (by omega);rw [e] at this;omega
 ·have:=h.here (by simp only [List.length_cons];omega);rw [e] at this;omega
theorem rV {to:Int} : ∀(L:List Iy) (f v b:Int) (j:Nat),(L.Pairwise fun x y=>x.2.1≤y.2.1)→(∀x∈L,f≤x.2.1∧x.2.1≤to)→f≤to→0≤v→v≤to - f→(b=0∨b=1)→OD v b (gC to f L) j →
 (ay ((gC to f L).take j)).d1+v - (ay ((gC to f L).take j)).d0=v+dw (L.filter (yC (f+v) b))
 | [],f,v,b,j,_,_,hf,h0,hv,hb,h=>by
  have e:dw (([]:List Iy).filter (yC (f+v) b))=0:=rfl;rw [e];unfold gC;split
  ·cases j with
   | zero=>simp [ay,Sm.zero]
   | succ j=>
    have:=dO (o5 (to - f)) [];simp only [List.take_succ_cons,List.take_nil];simp only [ay,List.foldl_nil,Sm.zero,o5] at this ⊢;omega
  ·simp [ay,Sm.zero]
 | x::L,f,v,b,j,hp,h,hf,h0,hv,hb,hs=>by
  have hx:=h x List.mem_cons_self;have hl:=fun y hy=>h y (List.mem_cons_of_mem x hy)
  rw [List.pairwise_cons] at hp;have hxy : ∀y∈x::L,x.2.1≤y.2.1:=fun y hy=>by
   rcases List.mem_cons.1 hy with rfl|hy
   ·exact Int.le_refl _
   ·exact hp.1 y hy
  unfold gC at hs ⊢;by_cases hfx:f<x.2.1
  ·rw [if_pos hfx] at hs ⊢;have e1:=dO (o5 (x.2.1 - f)) [];have e2:=dO (o5 (x.2.1 - f)) [kU x];have e3:=dO (kU x) [];have z:ay []=Sm.zero:=rfl;simp only [z,Sm.zero,o5,kU] at e1 e2 e3;match j,hs with
   | 0,hs=>
    have h1:=hs.here (by simp);simp only [List.take_succ_cons,List.take_zero,o5] at h1;have hn:dw ((x::L).filter (yC (f+v) b))=0:=vn fun y hy=>by
     have:=hxy y hy;simp only [yC,Bool.or_eq_false_iff,Bool.and_eq_false_iff,decide_eq_false_iff_not,beq_eq_false_iff_ne];omega
    rw [hn];simp [ay,Sm.zero]
   | 1,hs=>
    have h1:=hs.below 1 (by omega) (by omega);have h2:=hs.here (by simp);simp only [List.take_succ_cons,List.take_zero,o5,kU] at h1 h2;omega
   | j+2,hs=>
    have h1:=hs.below 1 (by omega) (by omega);simp only [List.take_succ_cons,List.take_zero,o5] at h1;have t1:=hs.tail.tail;simp only [o5,kU,Int.sub_zero] at t1;have ih:=rV (to:=to) L x.2.1 (v - (x.2.1 - f)) b j hp.2 (fun y hy=>⟨hp.1 y hy,(hl y hy).2⟩) hx.2 (by omega) (by omega) hb t1;rw [show x.2.1+(v - (x.2.1 - f))=f+v by omega] at ih;have ha:yC (f+v) b x=true:=by
     simp only [yC,Bool.or_eq_true,Bool.and_eq_true,decide_eq_true_eq,beq_iff_eq];omega
    rw [List.filter_cons_of_pos ha,lu];have q1:=dO (o5 (x.2.1 - f)) (kU x::(gC to x.2.1 L).take j);have q2:=dO (kU x) ((gC to x.2.1 L).take j);simp only [List.take_succ_cons];simp only [o5,kU] at q1 q2 ⊢;omega
  ·rw [if_neg hfx] at hs ⊢;have hfe:x.2.1=f:=by omega
   match j,hs with
   | 0,hs=>
    have h1:=hs.here (by simp);have e3:=dO (kU x) [];have z:ay []=Sm.zero:=rfl;simp only [z,Sm.zero,kU] at e3;simp only [List.take_succ_cons,List.take_zero,kU] at h1;have hn:dw ((x::L).filter (yC (f+v) b))=0:=vn fun y hy=>by
     have:=hxy y hy;simp only [yC,Bool.or_eq_false_iff,Bool.and_eq_false_iff,decide_eq_false_iff_not,beq_eq_false_iff_ne];omega
    rw [hn];simp [ay,Sm.zero]
   | j+1,hs=>
    have h1:=hs.below 1 (by omega) (by omega);have e3:=dO (kU x) [];have z:ay []=Sm.zero:=rfl;simp only [z,Sm.zero,kU] at e3;simp only [List.take_succ_cons,List.take_zero,kU] at h1;have t1:=hs.tail;simp only [kU,Int.sub_zero] at t1;have ih:=rV (to:=to) L f v b j hp.2 (fun y hy=>⟨by have:=hp.1 y hy;omega,(hl y hy).2⟩) hf h0 hv hb t1;have ha:yC (f+v) b x=true:=by
     simp only [yC,Bool.or_eq_true,Bool.and_eq_true,decide_eq_true_eq,beq_iff_eq];omega
    rw [List.filter_cons_of_pos ha,lu];have q2:=dO (kU x) ((gC to f L).take j);simp only [List.take_succ_cons];simp only [kU] at q2 ⊢;omega
def Sd (ps:List Pz) (i n:Nat):St:=⟨[(3,iv n),(7,.d (.sd 3 false (ps.map fF))),(8,iv ps.length),(9,iv i)],[],0⟩
attribute [push_cast] Sd.eq_def
theorem qk : ∀a b:List Pz,i8 (a++b)=i8 a+i8 b
 | [],b=>by rw [List.nil_append,i8,Nat.zero_add]
 | .tx _ _ rs::t,b=>by rw [List.cons_append,i8,i8,qk t b,Nat.add_assoc]
 | .fo _::t,b=>by rw [List.cons_append,i8,i8,qk t b,Nat.add_assoc]
theorem Bf {ps:List Pz} {i:Nat} {z:Pz} (h:ps[i]? = some z):i8 (ps.take (i+1))=i8 (ps.take i)+i8 [z]:=by rw [ax h,qk]
theorem oD {B:Nat} : ∀ps:List Pz,(∀z∈ps,i8 [z]≤B)→i8 ps≤B*ps.length
 | [],_=>Nat.le_refl _
 | z::t,h=>by
  have h1:=h z (by simp);have h2:=oD t fun y hy=>h y (by simp [hy])
  have e:i8 (z::t)=i8 [z]+i8 t:=by rw [←qk];rfl
  rw [e,List.length_cons,Nat.mul_succ];omega
theorem tl {ps:List Pz} (h : ∀z∈ps,Lk z) : ∀z∈ps,i8 [z]≤1000000:=fun z hz=>by
 have:=h z hz;cases z with
 | tx k p rs=>have:=this.2.2;simp only [i8];omega
 | fo p=>simp only [i8];omega
set_option maxHeartbeats 3200000 in
theorem Ln (ps:List Pz) (f t:Int) (hl:ps.length≤100000000) (hq : ∀z∈ps,Qz z):an Tryz.prog G0 200 [.d (QH ps f t)] [] 0 (iv (i8 ps)) []:=by
 have hsz:=tl fun z hz=>(hq z hz).1
 refine vF ab [0,1,2,3,5,7,8,9,10,15] Tryz.func200 rfl Tryz.results200 Tryz.ntmps200 ?_;(refine' zg)
 refine vL (lv:=[0,1,2,3,5,7,8,9,10,15]) ab (fun i=>Sd ps i (i8 (ps.take i))) (fun i=>i≤ps.length) (fun i=>ps.length - i) (0) ((aC.go [3,7,8,9] (by exact vT) rfl)) ?_ ?_
 ·exact Nat.zero_le _
 intro i hi;have hb:=oD (B:=1000000) (ps.take i) fun z hz=>hsz z (List.mem_of_mem_take hz)
 rw [List.length_take] at hb;have hb2:i8 (ps.take i)≤1000000*100000000:=Nat.le_trans hb (Nat.mul_le_mul_left _ (by omega));rcases Nat.lt_or_ge i ps.length with hlt|hge
 ·obtain ⟨z,hz⟩ : ∃z,ps[i]? = some z:=⟨_,List.getElem?_eq_getElem hlt⟩
  have hzq:=hq z (List.mem_of_getElem? hz);have hst:=Bf hz;cases z with
  | tx kd a rs=>
   have hk:kd≠3:=by have:=hzq.2.1;omega
   have hrl:=hzq.1.2.2;simp only [i8,Nat.add_zero] at hst;(refine' pp hz)
   refine aG.go (i+1) [3,7,8,9] (by rw [hst];exact vT) ?_ ?_
   ·show ps.length - (i+1)<ps.length - i;omega
   ·show i+1≤ps.length;omega
  | fo a=>
   simp only [i8,Nat.add_zero] at hst;(refine' pp hz)
   refine aG.go (i+1) [3,7,8,9] (by rw [hst];exact vT) ?_ ?_
   ·show ps.length - (i+1)<ps.length - i;omega
   ·show i+1≤ps.length;omega
 ·rw [List.take_of_length_le hge];(refine' zo)
theorem xu : ∀L:List Iy,0≤dw L
 | []=>Int.le_refl _
 | x::l=>by rw [lu];have:=xu l;omega
theorem rz {p q:Iy→Bool} : ∀(L:List Iy),(∀x∈L,p x=true→q x=true)→dw (L.filter p)≤dw (L.filter q)
 | [],_=>Int.le_refl _
 | x::l,h=>by
  have ih:=rz l fun y hy=>h y (List.mem_cons_of_mem _ hy)
  cases hp:p x with
  | true=>
   rw [List.filter_cons_of_pos hp,List.filter_cons_of_pos (h x List.mem_cons_self hp),lu,lu];omega
  | false=>
   rw [List.filter_cons_of_neg (by simp [hp])];cases hq:q x with
   | true=>rw [List.filter_cons_of_pos hq,lu];omega
   | false=>rw [List.filter_cons_of_neg (by simp [hq])];exact ih
theorem Jl (L:List Iy) (p:Iy→Bool):dw (L.filter p)≤dw L:=by
 have:=rz (p:=p) (q:=fun _=>true) L fun _ _ _=>rfl
 rwa [List.filter_eq_self.2 fun _ _=>rfl] at this
theorem Ey (L:List Iy) {n a b:Int} (ha:0≤a∧a≤n):0≤iX L a b∧iX L a b≤n+dw L:=by
 have h1:=Jl L (yC a b);have h2:=xu (L.filter (yC a b));unfold iX;omega
theorem MG (L:List Iy) {a c:Int} (h:a<c):iX L a 1<iX L c 0:=by
 have:=rz (p:=yC a 1) (q:=yC c 0) L fun x _ hx=>by
  simp only [yC,Bool.or_eq_true,Bool.and_eq_true,decide_eq_true_eq,beq_iff_eq] at hx ⊢;omega
 unfold iX;omega
theorem B4 {to:Int} (ht:to≤1000000000) : ∀(l:List Sn) (f:Int),0≤f→(∀x∈l,0≤x.1∧x.1≤x.2∧x.2≤1000000000) → ∀i∈yD to f l,bZ i
 | [],f,h0,_,i,hi=>by
  unfold yD at hi;split at hi
  ·rw [List.mem_singleton.1 hi];exact xJ (by omega)
  ·cases hi
 | x::l,f,h0,h,i,hi=>by
  have hx:=h x List.mem_cons_self;have hl:=fun y hy=>h y (List.mem_cons_of_mem x hy)
  have hv:bZ (N3 (x.2 - x.1)):=Pf (by omega);unfold yD at hi;split at hi
  ·rcases List.mem_cons.1 hi with rfl|hi
   ·exact xJ (by omega)
   rcases List.mem_cons.1 hi with rfl|hi
   ·exact hv
   ·exact B4 ht l _ (by omega) hl i hi
  ·rcases List.mem_cons.1 hi with rfl|hi
   ·exact hv
   ·exact B4 ht l _ (by omega) hl i hi
end Go.Proofs.YtkkanlcjjpoklaaGreatDoor
