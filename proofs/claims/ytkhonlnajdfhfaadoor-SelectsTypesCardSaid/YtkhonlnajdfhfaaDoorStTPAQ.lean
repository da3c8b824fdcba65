/- What the theorem leans on, part 17. -/
import Derived.Test.YtkhonlnajdfhfaaDoorStTPAN
set_option linter.unusedSimpArgs false
set_option linter.unusedVariables false
namespace Go.Proofs.YtkhonlnajdfhfaaDoor
theorem ll (y x:Se):ak (df y x)=ak y∧ai (df y x)=max (ai y) (ai x):=by
 have h:=aQ y;unfold df;generalize e1:ak y=F at *
 generalize e2:ai y=T at *
 generalize ai x=U at *
 have hm:(if T<U then U else T)=max T U:=by split<;>omega
 rw [hm];split<;>rw [nk,nl]<;>simp only<;>omega
def Ap (a b:Se):Prop:=bY a b=false∧ai a≤ak b
def db:List Se→Prop
 | []=>True
 | [_]=>True
 | a::b::r=>Ap a b∧db (b::r)
theorem dN (o:List Se) (y:Se):db (o++[y])↔db o ∧ ∀p,o.getLast? = some p→Ap p y:=by
 induction o with
 | nil=>simp [db]
 | cons a r ih=>
  cases r with
  | nil=>simp [db]
  | cons b r=>
   simp only [List.cons_append,db] at ih ⊢;rw [ih];simp [List.getLast?_cons_cons,and_assoc]
def xP (y z:Se):Prop:=ak y≤ak z∧ai z≤ai y
theorem xP.refl (x:Se):xP x x:=⟨Int.le_refl _,Int.le_refl _⟩
theorem qp {out:List Se} {x:Se} (hA:db out) (hF : ∀y,out.getLast? = some y→ak y≤ak x) :
 db (bX out x)∧(∀y,(bX out x).getLast? = some y→ak y≤ak x)∧(∃y∈bX out x,xP y x) ∧ ∀z,(∃y∈out,xP y z) → ∃y∈bX out x,xP y z:=by
 rcases List.eq_nil_or_concat out with rfl|⟨o,y,rfl⟩
 ·rw [dt];exact ⟨trivial,by simp,⟨x,by simp,xP.refl x⟩,by simp⟩
 ·simp only [List.concat_eq_append] at *
  have hy:ak y≤ak x:=hF y (by simp);have h1:=aQ y;have h2:=aQ x;rw [dN] at hA;obtain ⟨hA,hp⟩:=hA;cases hm:bY y x
  ·rw [fR hm];refine ⟨?_,by simp,⟨x,by simp,xP.refl x⟩,fun z ⟨u,hu,hz⟩=>⟨u,by simp at hu ⊢;rcases hu with h|h<;>simp [h],hz⟩⟩;rw [dN,dN];refine ⟨⟨hA,hp⟩,fun p hp' =>?_⟩;have:p=y:=by simpa using hp'.symm
   subst this;refine ⟨hm,?_⟩;simp [bY,jU] at hm;omega
  ·rw [d7 hm];obtain ⟨s1,s2⟩:=ll y x;refine ⟨?_,?_,⟨df y x,by simp,?_,?_⟩,fun z ⟨u,hu,hz⟩ =>?_⟩
   ·rw [dN];refine ⟨hA,fun p hp' =>?_⟩;obtain ⟨g1,g2⟩:=hp p hp';have h3:=aQ p;refine ⟨?_,by rw [s1];exact g2⟩;simp only [bY,s1,s2] at g1 ⊢;simp [jU] at g1 ⊢;omega
   ·intro u hu;have:u=df y x:=by simpa using hu.symm
    subst this;rw [s1];exact hy
   ·rw [s1];exact hy
   ·rw [s2];omega
   ·simp at hu;rcases hu with hu|rfl
    ·exact ⟨u,by simp [hu],hz⟩
    ·refine ⟨df u x,by simp,?_⟩;obtain ⟨z1,z2⟩:=hz;exact ⟨by rw [s1];exact z1,by rw [s2];omega⟩
theorem qK (l:List Se) : ∀out:List Se,db out→aO l→(∀y,out.getLast? = some y → ∀x∈l,ak y≤ak x) →
 db (l.foldl bX out) ∧ ∀z,(z∈l ∨ ∃y∈out,xP y z) → ∃y∈l.foldl bX out,xP y z:=by
 induction l with
 | nil=>
  intro out hA _ _;exact ⟨hA,fun z hz=>by simpa using hz⟩
 | cons x l ih=>
  intro out hA hO hF;obtain ⟨a1,a2,a3,a4⟩:=qp (x:=x) hA fun y hy=>hF y hy x (by simp)
  have hO':=List.pairwise_cons.1 hO;have hxl : ∀y∈l,ak x≤ak y:=fun y hy=>by
   have:=hO'.1 y hy;rw [bp] at this;omega
  obtain ⟨b1,b2⟩:=ih (bX out x) a1 hO'.2 fun y hy z hz=>Int.le_trans (a2 y hy) (hxl z hz)
  refine ⟨b1,fun z hz=>b2 z ?_⟩;rcases hz with hz|hz
  ·rcases List.mem_cons.1 hz with rfl|hz
   ·exact .inr a3
   ·exact .inl hz
  ·exact .inr (a4 z hz)
theorem mm (l:List Se):db (aK l) ∧ ∀z∈l,∃y∈aK l,xP y z:=by
 obtain ⟨h1,h2⟩:=qK (au l) [] trivial (cB l) (by simp);exact ⟨h1,fun z hz=>h2 z (.inl ((jF l z).2 hz))⟩
theorem yb {n:Int} {out:List Se} {x:Se} (hA : ∀y∈out,0≤ak y∧ai y≤n) (hx:0≤ak x∧ai x≤n) : ∀y∈bX out x,0≤ak y∧ai y≤n:=by
 rcases List.eq_nil_or_concat out with rfl|⟨o,y,rfl⟩
 ·rw [dt];intro u hu;simp at hu;subst hu;exact hx
 ·simp only [List.concat_eq_append] at *
  have hy:=hA y (by simp);intro u hu;cases hm:bY y x
  ·rw [fR hm] at hu;rcases List.mem_append.1 hu with hu|hu
   ·exact hA u hu
   ·simp at hu;subst hu;exact hx
  ·rw [d7 hm] at hu;rcases List.mem_append.1 hu with hu|hu
   ·exact hA u (by simp [hu])
   ·simp at hu;subst hu;obtain ⟨s1,s2⟩:=ll y x;rw [s1,s2];omega
theorem qS {n:Int} {l:List Se} (h : ∀x∈l,0≤ak x∧ai x≤n) : ∀y∈aK l,0≤ak y∧ai y≤n:=by
 have key : ∀(l out:List Se),(∀x∈l,0≤ak x∧ai x≤n)→(∀y∈out,0≤ak y∧ai y≤n) → ∀y∈l.foldl bX out,0≤ak y∧ai y≤n:=by
  intro l;induction l with
  | nil=>intro out _ h;exact h
  | cons x l ih=>intro out hl ho;exact ih _ (fun y hy=>hl y (by simp [hy])) (yb ho (hl x (by simp)))
 exact key (au l) [] (fun x hx=>h x ((jF l x).1 hx)) (by simp)
def de (m:Int):Int→List Se→List Se
 | _,[]=>[]
 | s,x::r=>(ak x+s+m,ak x+s+m)::de m (s+m - (ai x - ak x)) r
def cJ (m:Int):Int→List Se→Int
 | s,[]=>s
 | s,x::r=>cJ m (s+m - (ai x - ak x)) r
def dY (n:Int):Int→List Se→Prop
 | b,[]=>b≤n
 | b,x::r=>b≤ak x∧ai x≤n∧dY n (ai x) r
theorem sM {n:Int} (hn:0≤n) : ∀ {l:List Se} {b:Int},db l→(∀x∈l,0≤ak x∧ai x≤n)→(∀x,l.head? = some x→b≤ak x)→b≤n→dY n b l
 | [],b,_,_,_,hb=>hb
 | [x],b,_,h,h0,_=>⟨h0 x rfl,(h x (by simp)).2,(h x (by simp)).2⟩
 | x::y::r,b,ha,h,h0,_=>⟨h0 x rfl,(h x (by simp)).2,sM hn ha.2 (fun z hz=>h z (List.mem_cons_of_mem _ hz)) (fun z hz=>by
  simp only [List.head?_cons,Option.some.injEq] at hz;subst hz;exact ha.1.2) (h x (by simp)).2⟩
theorem y6 {n:Int} : ∀ {l:List Se} {b:Int},dY n b l→b≤n
 | [],_,h=>h
 | x::r,b,h=>by have:=aQ x;have:=h.1;have:=h.2.1;omega
def bN (r t:List Int):Nat→List Se→List Int
 | b,[]=>r.drop b
 | b,x::l=>(r.take (ak x).toNat).drop b++(t++bN r t (ai x).toNat l)
theorem oo (r t:List Int) : ∀(l:List Se) (b:Nat) (s:Int) (pre:List Int),dY r.length b l→(pre.length:Int)=b+s → ∀y∈de t.length s l,
 y.1=y.2∧(t.length:Int)≤y.2∧y.2≤(pre++bN r t b l).length∧((pre++bN r t b l).take y.2.toNat).drop (y.2 - t.length).toNat=t
 | [],b,s,pre,_,_,y,hy=>by cases hy
 | x::l,b,s,pre,ho,hp,y,hy=>by
  obtain ⟨h1,h2,h3⟩:=ho;have h4:=aQ x;have hle:=y6 h3;obtain ⟨F,hF⟩ : ∃F:Nat,ak x=F:=⟨(ak x).toNat,by omega⟩
  obtain ⟨T,hT⟩ : ∃T:Nat,ai x=T:=⟨(ai x).toNat,by omega⟩
  rw [de] at hy;rw [bN,hF,hT,Int.toNat_natCast,Int.toNat_natCast];rw [hF,hT] at hy;rw [hF] at h1;rw [hT] at h2 h3;have hcut:((r.take F).drop b).length=F - b:=by rw [List.length_drop,List.length_take];omega
  have e:pre++((r.take F).drop b++(t++bN r t T l))=(pre++(r.take F).drop b++t)++bN r t T l:=by simp
  rcases List.mem_cons.1 hy with rfl|hy
  ·refine ⟨rfl,?_,?_,?_⟩
   ·show (t.length:Int)≤F+s+t.length;omega
   ·simp only [List.length_append,hcut];show (F:Int)+s+t.length≤_;push_cast;omega
   ·rw [e];show List.drop ((F:Int)+s+t.length - t.length).toNat (List.take ((F:Int)+s+t.length).toNat _)=t;have e1:((F:Int)+s+t.length).toNat=(pre++(r.take F).drop b++t).length:=by simp only [List.length_append,hcut];omega
    have e2:((F:Int)+s+t.length - t.length).toNat=(pre++(r.take F).drop b).length:=by simp only [List.length_append,hcut];omega
    rw [e1,e2,List.take_left,List.drop_left]
  ·have ih:=oo r t l T (s+t.length - (T - F)) (pre++(r.take F).drop b++t) h3 (by simp only [List.length_append,hcut];omega) y hy;rw [e];exact ih
theorem vu (r t:List Int) (x:Se) (l:List Se) (b:Nat) (ho:dY r.length b (x::l)) :
 (r.take (ai x).toNat++bN r t (ai x).toNat l).take (ak x).toNat++(t++(r.take (ai x).toNat++bN r t (ai x).toNat l).drop (ai x).toNat)=r.take b++bN r t b (x::l):=by
 obtain ⟨h1,h2,h3⟩:=ho;have h4:=aQ x;obtain ⟨F,hF⟩ : ∃F:Nat,ak x=F:=⟨(ak x).toNat,by omega⟩
 obtain ⟨T,hT⟩ : ∃T:Nat,ai x=T:=⟨(ai x).toNat,by omega⟩
 have hl:(r.take T).length=T:=by rw [List.length_take];omega
 have e2:(r.take T++bN r t T l).drop T=bN r t T l:=by
  have:=List.drop_left (l₁:=r.take T) (l₂:=bN r t T l);rwa [hl] at this
 rw [bN,hF,hT,Int.toNat_natCast,Int.toNat_natCast,e2,List.take_append_of_le_length (by omega),List.take_take,Nat.min_eq_left (by omega),←List.append_assoc (r.take b)];congr 1;have:=List.take_append_drop b (r.take F);rw [List.take_take,Nat.min_eq_left (by omega)] at this;exact this.symm
theorem qT {l:List Se} (h : ∀x∈l,x.1=x.2) : ∀y∈aK l,y∈l:=by
 have key : ∀(k out:List Se),(∀x∈k,x∈l)→(∀x∈out,x∈l) → ∀y∈k.foldl bX out,y∈l:=by
  intro k;induction k with
  | nil=>intro out _ ho y hy;exact ho y hy
  | cons x k ih=>
   intro out hk ho y hy;rw [List.foldl_cons] at hy;refine ih (bX out x) (fun z hz=>hk z (List.mem_cons_of_mem _ hz)) (fun z hz =>?_) y hy;have hxl:=hk x List.mem_cons_self;rcases List.eq_nil_or_concat out with rfl|⟨o,p,rfl⟩
   ·rw [dt,List.mem_singleton] at hz;subst hz;exact hxl
   ·rw [List.concat_eq_append] at hz ho;have hpl:=ho p (by simp);cases hm:bY p x with
    | false=>
     rw [fR hm] at hz;rcases List.mem_append.1 hz with hz|hz
     ·exact ho z hz
     ·rw [List.mem_singleton.1 hz];exact hxl
    | true=>
     rw [d7 hm] at hz;rcases List.mem_append.1 hz with hz|hz
     ·exact ho z (by simp [hz])
     ·have e:df p x=p:=by
       have a:=h p hpl;have b:=h x hxl;obtain ⟨p1,p2⟩:=p;obtain ⟨x1,x2⟩:=x;simp only at a b;subst a b;simp [bY,jU,ak,ai] at hm;have:p1=x1:=by omega
       subst this;simp [df,ak,ai]
      rw [List.mem_singleton.1 hz,e];exact hpl
 exact key (au l) [] (fun x hx=>(jF l x).1 hx) (fun x hx=>by cases hx)
theorem jJ (m:Int) (x:Se) : ∀(l:List Se) (s:Int),cJ m s (l++[x])=cJ m s l+m - (ai x - ak x)
 | [],s=>rfl
 | y::l,s=>jJ m x l _
theorem jI (m:Int) (x:Se) : ∀(l:List Se) (s:Int),de m s (l++[x])=de m s l++[(ak x+cJ m s l+m,ak x+cJ m s l+m)]
 | [],s=>rfl
 | y::l,s=>by
  show _::de m _ (l++[x])=_;rw [jI m x l];rfl
theorem b9 (m:Int) : ∀(l:List Se) (s:Int),(de m s l).length=l.length
 | [],s=>rfl
 | y::l,s=>by
  show (de m _ l).length+1=l.length+1;rw [b9 m l]
theorem kF {m:Int} (h0:0≤m) (hm:m≤100000) : ∀(l:List Se) (s:Int),(∀x∈l,0≤ak x∧ai x≤100000)→s - l.length*100000≤cJ m s l∧cJ m s l≤s+l.length*100000
 | [],s,_=>by show s - (0:Nat)*100000≤s∧s≤s+(0:Nat)*100000;omega
 | y::l,s,h=>by
  have h1:=h y List.mem_cons_self;have h2:=aQ y;have h3:=kF h0 hm l (s+m - (ai y - ak y)) (fun x hx=>h x (List.mem_cons_of_mem _ hx));show _≤cJ m (s+m - (ai y - ak y)) l∧cJ m (s+m - (ai y - ak y)) l≤_;rw [List.length_cons];omega
theorem np (m:Int) : ∀(l:List Se) (s:Int),∀y∈de m s l,y.1=y.2
 | [],s,y,h=>by cases h
 | x::l,s,y,h=>by
  rcases List.mem_cons.1 h with rfl|h
  ·rfl
  ·exact np m l _ y h
theorem oJ (r t:List Int) : ∀(l:List Se) (b:Nat),dY r.length b l→((bN r t b l).length:Int)=r.length - b+cJ t.length 0 l:=by
 have sh : ∀(m:Int) (l:List Se) (s d:Int),cJ m (s+d) l=cJ m s l+d:=by
  intro m l;induction l with
  | nil=>intro s d;rfl
  | cons x l ih=>
   intro s d;show cJ m (s+d+m - (ai x - ak x)) l=cJ m (s+m - (ai x - ak x)) l+d;rw [←ih];congr 1;omega
 intro l;induction l with
 | nil=>
  intro b h;have h:(b:Int)≤r.length:=h;show ((r.drop b).length:Int)=r.length - b+0;rw [List.length_drop];omega
 | cons x l ih=>
  intro b h;obtain ⟨h1,h2,h3⟩:=h;have h4:=aQ x;obtain ⟨F,hF⟩ : ∃F:Nat,ak x=F:=⟨(ak x).toNat,by omega⟩
  obtain ⟨T,hT⟩ : ∃T:Nat,ai x=T:=⟨(ai x).toNat,by omega⟩
  rw [hT] at h3;have:=ih T h3;show _=(r.length:Int) - b+cJ t.length (0+t.length - (ai x - ak x)) l;rw [show (0:Int)+t.length - (ai x - ak x)=0+(t.length - (ai x - ak x)) by omega,sh,bN,hF,hT,Int.toNat_natCast,Int.toNat_natCast,List.length_append,List.length_append,List.length_drop,List.length_take];push_cast;omega
theorem oI (r t:List Int) : ∀(l:List Se) (b:Nat),dY r.length b l→r.take b++bN r t b l=bN r t 0 l
 | [],b,_=>by rw [bN,bN,List.drop_zero,List.take_append_drop]
 | x::l,b,h=>by
  obtain ⟨h1,h2,h3⟩:=h;have h4:=aQ x;rw [bN,bN,List.drop_zero,←List.append_assoc];congr 1;have:=List.take_append_drop b (r.take (ak x).toNat);rwa [List.take_take,Nat.min_eq_left (by omega)] at this
theorem m6 {n b:Int} (hb:0≤b) : ∀ {l:List Se},dY n b l→dY n 0 l
 | [],h=>Int.le_trans hb h
 | x::l,h=>⟨Int.le_trans hb h.1,h.2⟩
theorem f9 {n:Int} : ∀(l:List Se) (k:Nat),dY n 0 l→dY n 0 (l.drop k)
 | [],k,h=>by simpa using h
 | x::l,0,h=>h
 | x::l,k+1,h=>f9 l k (m6 (by have:=h.1;have:=aQ x;omega) h.2.2)
theorem f8 {n:Int} : ∀(l:List Se) (k:Nat) (x:Se),dY n 0 l→l[k]? = some x→0≤ak x∧ak x≤ai x∧ai x≤n∧(∀y,0<k→l[k - 1]? = some y→ai y≤ak x)
 | [],k,x,_,hx=>by simp at hx
 | y::l,0,x,h,hx=>by
  simp at hx;subst hx;exact ⟨h.1,aQ _,h.2.1,fun _ h0 _=>absurd h0 (by omega)⟩
 | y::l,k+1,x,h,hx=>by
  have hx':l[k]? = some x:=by simpa using hx
  have h0:dY n 0 l:=m6 (by have:=h.1;have:=aQ y;omega) h.2.2;obtain ⟨a,b,c,d⟩:=f8 l k x h0 hx';refine ⟨a,b,c,fun z _ hz =>?_⟩;cases k with
  | zero=>
   simp at hz;subst hz;cases l with
   | nil=>simp at hx'
   | cons w l=>
    simp at hx';subst hx';exact h.2.2.1
  | succ k=>
   refine d z (by omega) ?_;simpa using hz
theorem tr (r t:List Int) (l:List Se) (k:Nat) (x:Se) (ho:dY r.length 0 l) (hx:l[k]? = some x) :
 (bN r t 0 (l.drop (k+1))).take (ak x).toNat++t++(bN r t 0 (l.drop (k+1))).drop (ai x).toNat=bN r t 0 (l.drop k):=by
 have hd:l.drop k=x::l.drop (k+1):=by
  obtain ⟨hk,e⟩:=List.getElem?_eq_some_iff.1 hx;rw [List.drop_eq_getElem_cons hk,e]
 have h1:=f9 l k ho;rw [hd] at h1;have h2:=vu r t x (l.drop (k+1)) 0 h1;have h4:=aQ x;have h3:dY r.length (ai x).toNat (l.drop (k+1)):=by
  have:=h1.2.2;rwa [←Int.toNat_of_nonneg (show 0≤ai x by have:=h1.1;omega)] at this
 rw [oI r t _ _ h3,List.take_zero,List.nil_append] at h2;rw [hd,←h2,List.append_assoc]
theorem yc (r t:List Int) (l:List Se) (k:Nat) (hk:k≤l.length) (ho:dY r.length 0 l) (ht:t.length≤100000) (hr:r.length≤100000):(bN r t 0 (l.drop k)).length≤100000+l.length*100000:=by
 have h1:=f9 l k ho;have h2:=oJ r t (l.drop k) 0 h1;have h3:=(kF (m:=t.length) (by omega) (by omega) (l.drop k) 0 (fun x hx=>by
  obtain ⟨j,hj⟩:=List.getElem?_of_mem hx;have:=f8 _ j x h1 hj;omega)).2
 rw [List.length_drop] at h3;omega
theorem Bm {r t:List Int} {l:List Se} (ho:dY r.length 0 l) : ∀y∈de t.length 0 l,0≤ak y∧ai y≤(bN r t 0 l).length:=by
 intro y hy;obtain ⟨a,b,c,_⟩:=oo r t l 0 0 [] ho rfl y hy;rw [List.nil_append] at c;have e1:ak y=y.2:=by unfold ak;split<;>omega
 have e2:ai y=y.2:=by unfold ai;split<;>omega
 rw [e1,e2];omega
end Go.Proofs.YtkhonlnajdfhfaaDoor
