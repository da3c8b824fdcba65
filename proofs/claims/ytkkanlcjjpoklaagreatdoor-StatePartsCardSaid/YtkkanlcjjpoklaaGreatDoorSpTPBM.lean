/- What the theorem leans on, part 39. -/
import Derived.Test.YtkkanlcjjpoklaaGreatDoorSpTPAZ
import Derived.Test.YtkkanlcjjpoklaaGreatDoorSpTPBD
set_option linter.unusedSimpArgs false
set_option linter.unusedVariables false
set_option maxRecDepth 8000
namespace Go.Proofs.YtkkanlcjjpoklaaGreatDoor
def mB (n:Int):It:=⟨0,0,n,n,0,0,⟨#[]⟩⟩
def jl (x:Iy):It:=⟨0,x.1,0,(aa x.2.2.2.2 0).length,0,0,⟨#[]⟩⟩
def fe (to:Int):Int→List Iy→List It
 | f,[]=>if f<to then [mB (to - f)] else []
 | f,x::l=>if f<x.2.1 then mB (x.2.1 - f)::jl x::fe to x.2.1 l else jl x::fe to f l
def HZ (n:Int):It:=⟨1,0,n,1,0,0,⟨#[]⟩⟩
def t9 (to:Int):Int→List Sn→List It
 | f,[]=>if f<to then [mB (to - f)] else []
 | f,x::l=>if f<x.1 then mB (x.1 - f)::HZ (x.2 - x.1)::t9 to x.2 l else HZ (x.2 - x.1)::t9 to x.2 l
theorem i6 (to:Int) : ∀(l:List Iy) (f:Int),(fe to f l).length≤2*l.length+1
 | [],f=>by unfold fe;split<;>simp
 | x::l,f=>by
  unfold fe;split
  ·have:=i6 to l x.2.1;simp only [List.length_cons];omega
  ·have:=i6 to l f;simp only [List.length_cons];omega
theorem sG (to:Int) : ∀(l:List Sn) (f:Int),(t9 to f l).length≤2*l.length+1
 | [],f=>by unfold t9;split<;>simp
 | x::l,f=>by
  have:=sG to l x.2;unfold t9;split<;>(simp only [List.length_cons];omega)
theorem tw {n:Int} (h:0≤n∧n≤1099511627776):bx (mB n):=by unfold bx mB;simp only;omega
theorem I9 {n:Int} (h:0≤n∧n≤1099511627776):bx (HZ n):=by unfold bx HZ;simp only;omega
theorem t7 {to:Int} (ht:to≤1000000000) : ∀(l:List Iy) (f:Int),0≤f→(∀x∈l,x.2.1≤1000000000∧(aa x.2.2.2.2 0).length≤1000000000) → ∀i∈fe to f l,bx i
 | [],f,h0,_,i,hi=>by
  unfold fe at hi;split at hi
  ·rw [List.mem_singleton.1 hi];exact tw (by omega)
  ·cases hi
 | x::l,f,h0,h,i,hi=>by
  have hx:=h x List.mem_cons_self;have hl:=fun y hy=>h y (List.mem_cons_of_mem x hy)
  have hv:bx (jl x):=by unfold bx jl;simp only;omega
  unfold fe at hi;split at hi
  ·rcases List.mem_cons.1 hi with rfl|hi
   ·exact tw (by omega)
   rcases List.mem_cons.1 hi with rfl|hi
   ·exact hv
   ·exact t7 ht l _ (by omega) hl i hi
  ·rcases List.mem_cons.1 hi with rfl|hi
   ·exact hv
   ·exact t7 ht l _ h0 hl i hi
theorem dh (i:It) (l:List It):(ao (i::l)).d0=i.d0+(ao l).d0∧(ao (i::l)).d1=i.d1+(ao l).d1∧(ao (i::l)).d2=i.d2+(ao l).d2:=by
 have e:ao (i::l)=aS (ao [i]) (ao l):=iJ [i] l;rw [e];simp [aS,ao,gM,Sm.zero]
def cG (L:List Iy):Int:=(L.map fun x=>((aa x.2.2.2.2 0).length:Int)).sum
theorem nA {to:Int} : ∀(l:List Iy) (f:Int),f≤to→(∀x∈l,x.2.1≤to)→(ao (fe to f l)).d0=to - f∧(ao (fe to f l)).d1=to - f+cG l
 | [],f,hf,_=>by
  unfold fe cG;split
  ·have:=dh (mB (to - f)) [];simp only [ao,List.foldl_nil,Sm.zero,mB,List.map_nil,List.sum_nil] at this ⊢;omega
  ·simp only [ao,List.foldl_nil,Sm.zero,List.map_nil,List.sum_nil];omega
 | x::l,f,hf,h=>by
  have hx:=h x List.mem_cons_self;have hl:=fun y hy=>h y (List.mem_cons_of_mem x hy)
  have e:cG (x::l)=(aa x.2.2.2.2 0).length+cG l:=by simp [cG]
  unfold fe;split
  ·obtain ⟨a,b⟩:=nA l x.2.1 hx hl;have h1:=dh (mB (x.2.1 - f)) (jl x::fe to x.2.1 l);have h2:=dh (jl x) (fe to x.2.1 l);simp only [mB,jl] at h1 h2;simp only [mB,jl];omega
  ·obtain ⟨a,b⟩:=nA l f hf hl;have h2:=dh (jl x) (fe to f l);simp only [jl] at h2;simp only [jl];omega
abbrev Fl:=Int × Int × Int × Int
def A6 (x:Fl):It:=⟨0,0,x.1,x.2.1,x.2.2.1,x.2.2.2,⟨#[]⟩⟩
def xI (x:Fl):Prop:=(0≤x.1∧x.1≤1099511627776)∧(0≤x.2.1∧x.2.1≤1099511627776)∧(0<x.2.2.1∧x.2.2.1≤1099511627776)∧(0≤x.2.2.2∧x.2.2.2≤1099511627776)
theorem I6 {x:Fl} (h:xI x):bx (A6 x):=by unfold xI at h;unfold bx A6;simp only;omega
def tj (rs:List (List Cl)):Nat:=rs.foldl (fun m r=>max m (dK r)) 0
theorem rz (rs:List (List Cl)) (r:List Cl):tj (rs++[r])=max (tj rs) (dK r):=by simp [tj]
theorem tl {B:Nat} : ∀(R rs:List (List Cl)),rs=R.reverse→(∀r∈rs,dK r≤B)→tj rs≤B
 | [],rs,e,h=>by subst e;exact Nat.zero_le _
 | r::R,rs,e,h=>by
  rw [List.reverse_cons] at e;subst e;rw [rz];have h1:=tl R R.reverse rfl fun x hx=>h x (List.mem_append_left _ hx)
  have h2:=h r (by simp);omega
def t8 (at_ b:Int) (x:Iy):Bool:=decide (x.2.1<at_)||(b==1&&decide (x.2.1=at_))
def gr (L:List Iy) (at_ b:Int):Int:=at_+cG (L.filter (t8 at_ b))
theorem lu (x:Iy) (l:List Iy):cG (x::l)=(aa x.2.2.2.2 0).length+cG l:=by simp [cG]
theorem rl {L:List Iy} {a b:Int} (h : ∀x∈L,t8 a b x=false):cG (L.filter (t8 a b))=0:=by
 rw [List.filter_eq_nil_iff.2 fun x hx=>by rw [h x hx];simp];rfl
structure Iv (v b:Int) (I:List It) (j:Nat):Prop where
 le:j≤I.length
 below : ∀i,0<i→i≤j → ¬(v<(ao (I.take i)).d0∨(b=0∧(ao (I.take i)).d0=v))
 here:j<I.length→(v<(ao (I.take (j+1))).d0∨(b=0∧(ao (I.take (j+1))).d0=v))
theorem Iv.of {v b:Int} {I:List It} {j:Nat} (h:CA 0 v b I j):Iv v b I j:=by
 have e : ∀s:Sm,ba 0 v b s=true↔(v<s.d0∨(b=0∧s.d0=v)):=fun s=>by simp [ba,lY]
 refine ⟨h.le,fun i h1 h2 =>?_,fun h1=>(e _).1 (h.here h1)⟩;have:=h.below i h1 h2;rw [←e,this];simp
theorem Iv.tail {v b:Int} {i:It} {I:List It} {j:Nat} (h:Iv v b (i::I) (j+1)):Iv (v - i.d0) b I j:=by
 have e : ∀k,(ao ((i::I).take (k+1))).d0=i.d0+(ao (I.take k)).d0:=fun k=>by rw [List.take_succ_cons];exact (dh i _).1
 refine ⟨by have:=h.le;simp only [List.length_cons] at this;omega,fun k h1 h2 =>?_,fun h1 =>?_⟩
 ·have:=h.below (k+1) (by omega) (by omega);rw [e] at this;omega
 ·have:=h.here (by simp only [List.length_cons];omega);rw [e] at this;omega
theorem oW {to:Int} : ∀(L:List Iy) (f v b:Int) (j:Nat),(L.Pairwise fun x y=>x.2.1≤y.2.1)→(∀x∈L,f≤x.2.1∧x.2.1≤to)→f≤to→0≤v→v≤to - f→(b=0∨b=1)→Iv v b (fe to f L) j →
 (ao ((fe to f L).take j)).d1+v - (ao ((fe to f L).take j)).d0=v+cG (L.filter (t8 (f+v) b))
 | [],f,v,b,j,_,_,hf,h0,hv,hb,h=>by
  have e:cG (([]:List Iy).filter (t8 (f+v) b))=0:=rfl;rw [e];unfold fe;split
  ·cases j with
   | zero=>simp [ao,Sm.zero]
   | succ j=>
    have:=dh (mB (to - f)) [];simp only [List.take_succ_cons,List.take_nil];simp only [ao,List.foldl_nil,Sm.zero,mB] at this ⊢;omega
  ·simp [ao,Sm.zero]
 | x::L,f,v,b,j,hp,h,hf,h0,hv,hb,hs=>by
  have hx:=h x List.mem_cons_self;have hl:=fun y hy=>h y (List.mem_cons_of_mem x hy)
  rw [List.pairwise_cons] at hp;have hxy : ∀y∈x::L,x.2.1≤y.2.1:=fun y hy=>by
   rcases List.mem_cons.1 hy with rfl|hy
   ·exact Int.le_refl _
   ·exact hp.1 y hy
  unfold fe at hs ⊢;by_cases hfx:f<x.2.1
  ·rw [if_pos hfx] at hs ⊢;have e1:=dh (mB (x.2.1 - f)) [];have e2:=dh (mB (x.2.1 - f)) [jl x];have e3:=dh (jl x) [];have z:ao []=Sm.zero:=rfl;simp only [z,Sm.zero,mB,jl] at e1 e2 e3;match j,hs with
   | 0,hs=>
    have h1:=hs.here (by simp);simp only [List.take_succ_cons,List.take_zero,mB] at h1;have hn:cG ((x::L).filter (t8 (f+v) b))=0:=rl fun y hy=>by
     have:=hxy y hy;simp only [t8,Bool.or_eq_false_iff,Bool.and_eq_false_iff,decide_eq_false_iff_not,beq_eq_false_iff_ne];omega
    rw [hn];simp [ao,Sm.zero]
   | 1,hs=>
    have h1:=hs.below 1 (by omega) (by omega);have h2:=hs.here (by simp);simp only [List.take_succ_cons,List.take_zero,mB,jl] at h1 h2;omega
   | j+2,hs=>
    have h1:=hs.below 1 (by omega) (by omega);simp only [List.take_succ_cons,List.take_zero,mB] at h1;have t1:=hs.tail.tail;simp only [mB,jl,Int.sub_zero] at t1;have ih:=oW (to:=to) L x.2.1 (v - (x.2.1 - f)) b j hp.2 (fun y hy=>⟨hp.1 y hy,(hl y hy).2⟩) hx.2 (by omega) (by omega) hb t1;rw [show x.2.1+(v - (x.2.1 - f))=f+v by omega] at ih;have ha:t8 (f+v) b x=true:=by
     simp only [t8,Bool.or_eq_true,Bool.and_eq_true,decide_eq_true_eq,beq_iff_eq];omega
    rw [List.filter_cons_of_pos ha,lu];have q1:=dh (mB (x.2.1 - f)) (jl x::(fe to x.2.1 L).take j);have q2:=dh (jl x) ((fe to x.2.1 L).take j);simp only [List.take_succ_cons];simp only [mB,jl] at q1 q2 ⊢;omega
  ·rw [if_neg hfx] at hs ⊢;have hfe:x.2.1=f:=by omega
   match j,hs with
   | 0,hs=>
    have h1:=hs.here (by simp);have e3:=dh (jl x) [];have z:ao []=Sm.zero:=rfl;simp only [z,Sm.zero,jl] at e3;simp only [List.take_succ_cons,List.take_zero,jl] at h1;have hn:cG ((x::L).filter (t8 (f+v) b))=0:=rl fun y hy=>by
     have:=hxy y hy;simp only [t8,Bool.or_eq_false_iff,Bool.and_eq_false_iff,decide_eq_false_iff_not,beq_eq_false_iff_ne];omega
    rw [hn];simp [ao,Sm.zero]
   | j+1,hs=>
    have h1:=hs.below 1 (by omega) (by omega);have e3:=dh (jl x) [];have z:ao []=Sm.zero:=rfl;simp only [z,Sm.zero,jl] at e3;simp only [List.take_succ_cons,List.take_zero,jl] at h1;have t1:=hs.tail;simp only [jl,Int.sub_zero] at t1;have ih:=oW (to:=to) L f v b j hp.2 (fun y hy=>⟨by have:=hp.1 y hy;omega,(hl y hy).2⟩) hf h0 hv hb t1;have ha:t8 (f+v) b x=true:=by
     simp only [t8,Bool.or_eq_true,Bool.and_eq_true,decide_eq_true_eq,beq_iff_eq];omega
    rw [List.filter_cons_of_pos ha,lu];have q2:=dh (jl x) ((fe to f L).take j);simp only [List.take_succ_cons];simp only [jl] at q2 ⊢;omega
def Lj (ps:List Pz) (i n:Nat):St:=⟨[(3,iv n),(7,.d (.sd 3 false (ps.map nq))),(8,iv ps.length),(9,iv i)],[],0⟩
attribute [push_cast] Lj.eq_def
theorem ny : ∀a b:List Pz,jM (a++b)=jM a+jM b
 | [],b=>by rw [List.nil_append,jM,Nat.zero_add]
 | .tx _ _ rs::t,b=>by rw [List.cons_append,jM,jM,ny t b,Nat.add_assoc]
 | .fo _::t,b=>by rw [List.cons_append,jM,jM,ny t b,Nat.add_assoc]
theorem EI {ps:List Pz} {i:Nat} {z:Pz} (h:ps[i]? = some z):jM (ps.take (i+1))=jM (ps.take i)+jM [z]:=by rw [aJ h,ny]
theorem tS {B:Nat} : ∀ps:List Pz,(∀z∈ps,jM [z]≤B)→jM ps≤B*ps.length
 | [],_=>Nat.le_refl _
 | z::t,h=>by
  have h1:=h z (by simp);have h2:=tS t fun y hy=>h y (by simp [hy])
  have e:jM (z::t)=jM [z]+jM t:=by rw [←ny];rfl
  rw [e,List.length_cons,Nat.mul_succ];omega
theorem yP {ps:List Pz} (h : ∀z∈ps,Ka z) : ∀z∈ps,jM [z]≤1000000:=fun z hz=>by
 have:=h z hz;cases z with
 | tx k p rs=>have:=this.2.2;simp only [jM];omega
 | fo p=>simp only [jM];omega
set_option maxHeartbeats 3200000 in
theorem Fu (ps:List Pz) (f t:Int) (hl:ps.length≤100000000) (hq : ∀z∈ps,Qz z):aq Tryz.prog G0 200 [.d (PH ps f t)] [] 0 (iv (jM ps)) []:=by
 have hsz:=yP fun z hz=>(hq z hz).1
 refine vF ab [0,1,2,3,5,7,8,9,10,15] Tryz.func200 rfl Tryz.results200 Tryz.ntmps200 ?_;(refine' zg)
 refine vL (lv:=[0,1,2,3,5,7,8,9,10,15]) ab (fun i=>Lj ps i (jM (ps.take i))) (fun i=>i≤ps.length) (fun i=>ps.length - i) (0) ((aN.go [3,7,8,9] (by exact vT) rfl)) ?_ ?_
 ·exact Nat.zero_le _
 intro i hi;have hb:=tS (B:=1000000) (ps.take i) fun z hz=>hsz z (List.mem_of_mem_take hz)
 rw [List.length_take] at hb;have hb2:jM (ps.take i)≤1000000*100000000:=Nat.le_trans hb (Nat.mul_le_mul_left _ (by omega));rcases Nat.lt_or_ge i ps.length with hlt|hge
 ·obtain ⟨z,hz⟩ : ∃z,ps[i]? = some z:=⟨_,List.getElem?_eq_getElem hlt⟩
  have hzq:=hq z (List.mem_of_getElem? hz);have hst:=EI hz;cases z with
  | tx kd a rs=>
   have hk:kd≠3:=by have:=hzq.2.1;omega
   have hrl:=hzq.1.2.2;simp only [jM,Nat.add_zero] at hst;(refine' Cq hz)
   refine bH.go (i+1) [3,7,8,9] (by rw [hst];exact vT) ?_ ?_
   ·show ps.length - (i+1)<ps.length - i;omega
   ·show i+1≤ps.length;omega
  | fo a=>
   simp only [jM,Nat.add_zero] at hst;(refine' Cq hz)
   refine bH.go (i+1) [3,7,8,9] (by rw [hst];exact vT) ?_ ?_
   ·show ps.length - (i+1)<ps.length - i;omega
   ·show i+1≤ps.length;omega
 ·rw [List.take_of_length_le hge];(refine' zo)
theorem s6 : ∀L:List Iy,0≤cG L
 | []=>Int.le_refl _
 | x::l=>by rw [lu];have:=s6 l;omega
theorem oC {p q:Iy→Bool} : ∀(L:List Iy),(∀x∈L,p x=true→q x=true)→cG (L.filter p)≤cG (L.filter q)
 | [],_=>Int.le_refl _
 | x::l,h=>by
  have ih:=oC l fun y hy=>h y (List.mem_cons_of_mem _ hy)
  cases hp:p x with
  | true=>
   rw [List.filter_cons_of_pos hp,List.filter_cons_of_pos (h x List.mem_cons_self hp),lu,lu];omega
  | false=>
   rw [List.filter_cons_of_neg (by simp [hp])];cases hq:q x with
   | true=>rw [List.filter_cons_of_pos hq,lu];omega
   | false=>rw [List.filter_cons_of_neg (by simp [hq])];exact ih
theorem DC (L:List Iy) (p:Iy→Bool):cG (L.filter p)≤cG L:=by
 have:=oC (p:=p) (q:=fun _=>true) L fun _ _ _=>rfl
 rwa [List.filter_eq_self.2 fun _ _=>rfl] at this
theorem zO (L:List Iy) {n a b:Int} (ha:0≤a∧a≤n):0≤gr L a b∧gr L a b≤n+cG L:=by
 have h1:=DC L (t8 a b);have h2:=s6 (L.filter (t8 a b));unfold gr;omega
theorem GN (L:List Iy) {a c:Int} (h:a<c):gr L a 1<gr L c 0:=by
 have:=oC (p:=t8 a 1) (q:=t8 c 0) L fun x _ hx=>by
  simp only [t8,Bool.or_eq_true,Bool.and_eq_true,decide_eq_true_eq,beq_iff_eq] at hx ⊢;omega
 unfold gr;omega
theorem xB {to:Int} (ht:to≤1000000000) : ∀(l:List Sn) (f:Int),0≤f→(∀x∈l,0≤x.1∧x.1≤x.2∧x.2≤1000000000) → ∀i∈t9 to f l,bx i
 | [],f,h0,_,i,hi=>by
  unfold t9 at hi;split at hi
  ·rw [List.mem_singleton.1 hi];exact tw (by omega)
  ·cases hi
 | x::l,f,h0,h,i,hi=>by
  have hx:=h x List.mem_cons_self;have hl:=fun y hy=>h y (List.mem_cons_of_mem x hy)
  have hv:bx (HZ (x.2 - x.1)):=I9 (by omega);unfold t9 at hi;split at hi
  ·rcases List.mem_cons.1 hi with rfl|hi
   ·exact tw (by omega)
   rcases List.mem_cons.1 hi with rfl|hi
   ·exact hv
   ·exact xB ht l _ (by omega) hl i hi
  ·rcases List.mem_cons.1 hi with rfl|hi
   ·exact hv
   ·exact xB ht l _ (by omega) hl i hi
end Go.Proofs.YtkkanlcjjpoklaaGreatDoor
