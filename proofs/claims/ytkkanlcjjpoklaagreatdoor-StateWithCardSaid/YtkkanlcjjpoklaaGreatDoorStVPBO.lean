/- What the theorem leans on, part 41. -/
import Derived.Test.YtkkanlcjjpoklaaGreatDoorStVPBN
set_option linter.unusedSimpArgs false
set_option linter.unusedVariables false
set_option maxRecDepth 8000
namespace Go.Proofs.YtkkanlcjjpoklaaGreatDoor
abbrev Pc:=Int × Int
def fG (out:List Pc) (i:Int):List Pc:=match out.getLast? with
 | some p=>if p.1=i then out.dropLast++[(i,p.2+1)] else out++[(i,1)]
 | none=>out++[(i,1)]
theorem mP {out:List Pc} {i:Int} (h : ∀p,out.getLast? = some p→p.1≠i):fG out i=out++[(i,1)]:=by
 unfold fG;cases hl:out.getLast? with
 | none=>rfl
 | some p=>simp only;rw [aaY (h p hl)]
theorem kT (out:List Pc) (i n:Int):fG (out++[(i,n)]) i=out++[(i,n+1)]:=by simp [fG]
theorem F8 {out:List Pc} {i:Int} (h : ∀p,out.getLast? = some p→p.1≠i) : ∀k:Nat,(List.replicate (k+1) i).foldl fG out=out++[(i,(k:Int)+1)]
 | 0=>by rw [List.replicate_one,acE,acJ,mP h];simp
 | k+1=>by
  rw [acr,acL,F8 h k,acE,acJ,kT];congr 3
def JG (P:List Pc):List Int:=P.flatMap fun p=>List.replicate p.2.toNat p.1
theorem A9 (p:Pc) (r:List Pc):JG (p::r)=List.replicate p.2.toNat p.1++JG r:=by rw [JG,ace];rfl
def WY:List Pc→Prop
 | []=>True
 | p::r=>0<p.2∧(∀q,r.head? = some q→p.1≠q.1)∧WY r
theorem K6 : ∀(P out:List Pc),WY P→(∀p q,out.getLast? = some p→P.head? = some q→p.1≠q.1)→(JG P).foldl fG out=out++P
 | [],out,_,_=>by simp [JG]
 | p::r,out,h,ho=>by
  obtain ⟨h1,h2,h3⟩:=h;obtain ⟨k,hk⟩ : ∃k:Nat,p.2.toNat=k+1:=⟨p.2.toNat - 1,by omega⟩
  have e:JG (p::r)=List.replicate (k+1) p.1++JG r:=by rw [JG,ace,hk];rfl
  rw [e,acL,F8 (fun q hq=>ho q p hq rfl) k,K6 r _ h3 (fun a b ha hb=>by
   rw [acU] at ha;injection ha with ha;subst ha;exact h2 b hb),aba,adw,show (k:Int)+1=p.2 by omega]
def Cd (i:It):Pc:=(i.id,i.d1)
theorem Nb {to:Int} : ∀ {f:Int} {l:List Iy} {q:It},(ev to f l).head? = some q→q.id=0 ∨ ∃y∈l,q.id=y.1
 | f,[],q,h=>by
  unfold ev at h;split at h
  ·simp only [adF,aa5] at h;subst h;exact .inl rfl
  ·cases h
 | f,x::l,q,h=>by
  unfold ev at h;split at h
  ·simp only [adF,aa5] at h;subst h;exact .inl rfl
  ·simp only [adF,aa5] at h;subst h;exact .inr ⟨x,abj,rfl⟩
theorem GO {to:Int} : ∀(l:List Iy) (f:Int),(l.map (·.1)).Nodup→(∀x∈l,1≤x.1∧0<(aa x.2.2.2.2 0).length)→WY ((ev to f l).map Cd)
 | [],f,_,_=>by
  unfold ev;split
  ·exact ⟨by simp only [Cd,gc];omega,(fun q hq=>by cases hq),trivial⟩
  ·trivial
 | x::l,f,hn,h=>by
  rw [abh,acF] at hn;have hx:=h x abj;have hl:=fun y hy=>h y (abd x hy)
  have key : ∀g:Int,WY ((kQ x::ev to g l).map Cd):=fun g=>by
   refine ⟨by simp only [Cd,kQ];omega,fun q hq =>?_,GO l g hn.2 hl⟩;rw [List.head?_map] at hq;obtain ⟨i,hi,rfl⟩:=aaZ.1 hq;show x.1≠i.id;rcases Nb hi with h0|⟨y,hy,h0⟩
   ·omega
   ·rw [h0];exact fun e=>hn.1 (by rw [e];exact abY.2 ⟨y,hy,rfl⟩)
  unfold ev;split
  ·exact ⟨by simp only [Cd,gc];omega,fun q hq=>by
    simp only [abh,adF,aa5] at hq;subst hq;show (0:Int)≠x.1;omega,key _⟩
  ·exact key f
def eN (n:Nat) (L:List Iy) (a:Nat):List Pc:=
 ((L.filter fun x=>x.2.1==(a:Int)).flatMap fun x=>List.replicate (aa x.2.2.2.2 0).length ((a:Int),x.1))++(if a<n then ((a:Int),0)::eN n L (a+1) else [])
termination_by n - a
theorem xJ (n:Nat) (x:Iy) (L:List Iy) : ∀(d a:Nat),n - a≤d→x.2.1<a→eN n (x::L) a=eN n L a
 | d,a,hd,hx=>by
  have e:(x.2.1==(a:Int))=false:=by simp;omega
  conv=>lhs;rw [eN,abv (by rw [e];simp)]
  conv=>rhs;rw [eN]
  by_cases ha:a<n
  ·rw [aa3 ha,aa3 ha,xJ n x L (d - 1) (a+1) (by omega) (by omega)]
  ·rw [aaY ha,aaY ha]
 termination_by d=>d
 decreasing_by omega
theorem CL (n:Nat) : ∀(d a:Nat),n - a=d→(eN n [] a).map (·.2)=List.replicate d 0
 | 0,a,hd=>by rw [eN,aaY (by omega)];simp
 | d+1,a,hd=>by
  rw [eN,aa3 (by omega),ad7,List.flatMap_nil,abL,abh,CL n d (a+1) (by omega)];rfl
theorem qX (n:Nat) : ∀(L:List Iy) (a:Nat),a≤n→(L.Pairwise fun x y=>x.2.1≤y.2.1)→(∀x∈L,(a:Int)≤x.2.1∧x.2.1≤n)→(eN n L a).map (·.2)=JG ((ev n a L).map Cd)
 | [],a,ha,hp,h=>by
  rw [CL n (n - a) a rfl,ev];by_cases hn:a<n
  ·rw [aa3 (by omega),abh,A9];show _=List.replicate ((n:Int) - a).toNat 0++[]
   rw [abb,show ((n:Int) - a).toNat=n - a by omega]
  ·rw [aaY (by omega),show n - a=0 by omega];rfl
 | x::L,a,ha,hp,h=>by
  have hx:=h x abj;have hl:=fun y hy=>h y (abd x hy)
  have hp0:=hp;rw [abR] at hp;by_cases hxa:x.2.1=a
  ·have ih:=qX n L a ha hp.2 hl;have e:eN n (x::L) a=List.replicate (aa x.2.2.2.2 0).length ((a:Int),x.1)++eN n L a:=by
    conv=>lhs;rw [eN,abA (by simp [hxa]),ace,aba]
    conv=>rhs;rw [eN]
    congr 2;by_cases hn:a<n
    ·rw [aa3 hn,aa3 hn,xJ n x L _ (a+1) (aaV _) (by omega)]
    ·rw [aaY hn,aaY hn]
   rw [e,abc,List.map_replicate,ih,ev,aaY (by omega),abh,A9];show _=List.replicate ((aa x.2.2.2.2 0).length:Int).toNat x.1++_;rw [ack]
  ·have hn:a<n:=by omega
   have ih:=qX n (x::L) (a+1) hn hp0 (fun y hy=>by
    rcases abi.1 hy with rfl|hy
    ·omega
    ·have:=hp.1 y hy;have:=hl y hy;omega)
   have e:eN n (x::L) a=((a:Int),0)::eN n (x::L) (a+1):=by
    conv=>lhs;rw [eN,aa3 hn]
    rw [acd.2 (fun y hy=>by
     have:x.2.1≤y.2.1:=by
      rcases abi.1 hy with rfl|hy
      ·exact abN _
      ·exact hp.1 y hy
     simp;omega)]
    rfl
   rw [e,abh,ih,ev,ev,aa3 (show (a:Int)<x.2.1 by omega)];obtain ⟨k,hk⟩ : ∃k:Nat,x.2.1=(a:Int)+1+k:=⟨(x.2.1 - a - 1).toNat,by omega⟩
   by_cases h1:((a+1:Nat):Int)<x.2.1
   ·rw [aa3 h1];simp only [abh,A9,Cd,gc,kQ];rw [show (x.2.1 - (a:Int)).toNat=(x.2.1 - ((a+1:Nat):Int)).toNat+1 by omega,acW];rfl
   ·rw [aaY h1];simp only [abh,A9];show 0::(_++JG _)=List.replicate (x.2.1 - (a:Int)).toNat 0++(_++JG _)
    rw [show (x.2.1 - (a:Int)).toNat=1 by omega,show ((a+1:Nat):Int)=x.2.1 by omega];rfl
 termination_by L a=>(n - a)+L.length
 decreasing_by all_goals (simp only [aa6];omega)
theorem M8 {n:Nat} {L:List Iy} (hp:L.Pairwise fun x y=>x.2.1≤y.2.1) (h : ∀x∈L,0≤x.2.1∧x.2.1≤n) (hn:(L.map (·.1)).Nodup) (h1 : ∀x∈L,1≤x.1∧0<(aa x.2.2.2.2 0).length):((eN n L 0).map (·.2)).foldl fG []=(ev n 0 L).map Cd:=by
 have:=qX n L 0 (aa1 _) hp (fun x hx=>by have:=h x hx;omega);rw [this,show (((0:Nat):Int))=0 from rfl,K6 _ [] (GO L 0 hn h1) (fun p q hp=>by cases hp),abL]
def gP (m:Nat) (H:List Sn) (a:Nat):List Nat:=if a<m then (match bb H a with|some x=>if x.1=a then [a] else []|none=>[a])++gP m H (a+1) else []
termination_by m - a
def io (H:List Sn) (out:List Pc) (a:Nat):List Pc:=match bb H a with
 | some x=>out++[(x.2 - x.1,1)]
 | none=>fG out 0
def Nr (i:It):Pc:=(if i.tag=1 then i.d0 else 0,i.d1)
theorem uo (m:Nat) (H:List Sn) {out:List Pc} (ho : ∀p,out.getLast? = some p→p.1≠0) : ∀(k a:Nat),a+k+1≤m→(∀j,a≤j→j<a+k+1→bb H j=none)→(gP m H a).foldl (io H) out=(gP m H (a+k+1)).foldl (io H) (out++[(0,(k:Int)+1)]):=by
 have st : ∀(a:Nat),a<m→bb H a=none → ∀o,(gP m H a).foldl (io H) o=(gP m H (a+1)).foldl (io H) (fG o 0):=fun a ha hn o=>by
  conv=>lhs;rw [gP,aa3 ha,hn]
  rw [acL,acE,acJ,io,hn]
 intro k;induction k with
 | zero=>
  intro a ha hn;rw [st a (by omega) (hn a (aaV _) (by omega)),mP ho];rfl
 | succ k ih=>
  intro a ha hn;rw [ih a (by omega) (fun j h1 h2=>hn j h1 (by omega)),st (a+k+1) (by omega) (hn _ (by omega) (by omega)),kT];congr 1
theorem C5 (m:Nat) (H:List Sn) {x:Sn} : ∀(k a:Nat),a+k≤m→x.1<a→(∀j,a≤j→j<a+k→bb H j=some x)→gP m H a=gP m H (a+k)
 | 0,a,_,_,_=>rfl
 | k+1,a,ha,hx,h=>by
  conv=>lhs;rw [gP,aa3 (by omega),h a (aaV _) (by omega)]
  simp only;rw [aaY (by omega),abL,C5 m H k (a+1) (by omega) (by omega) (fun j h1 h2=>h j (by omega) (by omega)),show a+1+k=a+(k+1) by omega]
theorem wH {m:Nat} {H0:List Sn} (h0:fS m 0 H0=true) : ∀(H pre:List Sn) (f:Nat) (out:List Pc),H0=pre++H→fS m f H=true→(∀x∈pre,x.2≤f)→f≤m→(∀p,out.getLast? = some p→p.1≠0)→(gP m H0 f).foldl (io H0) out=out++(gv m f H).map Nr
 | [],pre,f,out,e,hr,hp,hf,ho=>by
  have hno : ∀j:Nat,f≤j→bb H0 j=none:=fun j hj=>by
   cases hh:bb H0 j with
   | none=>rfl
   | some x=>
    obtain ⟨q1,q2,q3⟩:=bV hh;rw [e,abb] at q1;have:=hp x q1;omega
  unfold gv;rcases Nat.eq_or_lt_of_le hf with hfm|hfm
  ·rw [gP,aaY (by omega),aaY (by omega)];simp
  ·rw [aa3 (by omega),uo m H0 ho (m - f - 1) f (by omega) (fun j h1 _=>hno j h1),show f+(m - f - 1)+1=m by omega,gP,aaY (by omega)];show out++_=out++[(0,(m:Int) - f)]
   rw [show ((m - f - 1:Nat):Int)+1=(m:Int) - f by omega]
 | x::H,pre,f,out,e,hr,hp,hf,ho=>by
  obtain ⟨⟨h1,h2,h3⟩,h4⟩:=bZ.1 hr;obtain ⟨a,ha⟩ : ∃a:Nat,x.1=a:=⟨x.1.toNat,by omega⟩
  obtain ⟨b,hb⟩ : ∃b:Nat,x.2=b:=⟨x.2.toNat,by omega⟩
  have hxm:x∈H0:=by rw [e];simp
  have hin : ∀j:Nat,a≤j→j<b→bb H0 j=some x:=fun j q1 q2=>nn h0 x hxm j (by omega) (by omega)
  have hno : ∀j:Nat,f≤j→j<a→bb H0 j=none:=fun j q1 q2=>by
   cases hh:bb H0 j with
   | none=>rfl
   | some y=>
    obtain ⟨p1,p2,p3⟩:=bV hh;rw [e] at p1;rcases abe.1 p1 with p1|p1
    ·have:=hp y p1;omega
    ·rcases abi.1 p1 with rfl|p1
     ·omega
     ·have:=bE h4 y p1;omega
  have fold : ∀o:List Pc,(gP m H0 a).foldl (io H0) o=(o++[(x.2 - x.1,1)])++(gv m x.2 H).map Nr:=fun o=>by
   rw [gP,aa3 (by omega),hin a (aaV _) (by omega)];simp only;rw [aa3 ha,acL,acE,acJ,io,hin a (aaV _) (by omega),C5 m H0 (b - (a+1)) (a+1) (by omega) (by omega) (fun j q1 q2=>hin j (by omega) (by omega)),show a+1+(b - (a+1))=b by omega];have:=wH h0 H (pre++[x]) b (o++[(x.2 - x.1,1)]) (by rw [e];simp) (by rw [←hb];exact h4) (fun y hy=>by
    rcases abe.1 hy with hy|hy
    ·have:=hp y hy;omega
    ·rw [abK.1 hy];omega) (by omega) (fun p hq=>by
     rw [acU] at hq;injection hq with hq;subst hq;simp only;omega)
   rw [this,←hb]
  unfold gv;rcases Nat.eq_or_lt_of_le (show f≤a by omega) with hfa|hfa
  ·rw [aaY (by omega)];subst hfa;rw [fold out,aba];rfl
  ·rw [aa3 (by omega),uo m H0 ho (a - f - 1) f (by omega) (fun j q1 q2=>hno j q1 (by omega)),show f+(a - f - 1)+1=a by omega,fold,aba,aba];show out++([(0,((a - f - 1:Nat):Int)+1)]++_)=out++((0,x.1 - f)::_)
   rw [show ((a - f - 1:Nat):Int)+1=x.1 - f by omega];rfl
theorem HD {m:Nat} {H:List Sn} (h:fS m 0 H=true):(gP m H 0).foldl (io H) []=(gv m 0 H).map Nr:=by
 have:=wH h H [] 0 [] rfl h (fun _ h=>by cases h) (aa1 _) (fun _ h=>by cases h);rwa [abL] at this
abbrev jX (p:Pc):D:= .agg [iD p.1,iD p.2]
abbrev iE (P:List Pc):V:= .d (.sd 2 false (P.map jX))
theorem qU (es:List Pc) (a b:Int):es.map jX++[D.agg [iD a,iD b]]=(es++[(a,b)]).map jX:=by rw [abc];rfl
abbrev Jc (n:Int) (L:List Iy):D:= .agg [iD n,.sd 5 false (L.map cT),iD 0]
abbrev Pw (n:Int) (L:List Iy):bN:= .cell [iv n,.d (.sd 5 false (L.map cT)),iv 0]
def Uk (L:List Iy) (a b:Int) (x:Nat × Int):St:=⟨[(1,iv a),(2,iv b),(7,iv x.2),(12,.d (.sd 5 false (L.map cT))),(13,iv L.length),(14,iv x.1)],[],0⟩
def UX (n:Nat) (L:List Iy) (x:Nat × List Pc):St:=⟨[(1,.po 0 0),(3,.so 1 2 0 x.2.length),(4,iv x.1)],[(0,Pw n L),(1,.row 2 (x.2.map jX))],2⟩
def UY (n:Nat) (L:List Iy) (a:Nat) (x:Nat × List Pc):St:=⟨[(1,.po 0 0),(3,.so 1 2 0 x.2.length),(4,iv a),(14,.d (.sd 5 false (L.map cT))),(15,iv L.length),(16,iv x.1)],[(0,Pw n L),(1,.row 2 (x.2.map jX))],2⟩
def UZ (n:Nat) (L:List Iy) (a i:Nat) (y:Iy) (m:Nat) (x:Nat × List Pc):St:=⟨[(1,.po 0 0),(3,.so 1 2 0 x.2.length),(4,iv a),(6,.po 2 0),(14,.d (.sd 5 false (L.map cT))),(15,iv L.length),(16,iv i),(27,iv m),(28,iv x.1)],[(0,Pw n L),(1,.row 2 (x.2.map jX)),(2,.cell [iv y.1,iv y.2.1,iv y.2.2.1,iv y.2.2.2.1,sv y.2.2.2.2])],3⟩
def Ut (S:List Pc) (i:Nat) (out:List Pc):St:=⟨[(3,.so 0 2 0 out.length),(8,.d (.sd 2 false (S.map jX))),(9,iv S.length),(10,iv i)],[(0,.row 2 (out.map jX))],1⟩
attribute [push_cast] Uk.eq_def UX.eq_def UY.eq_def UZ.eq_def Ut.eq_def
theorem BA (A B:List Iy):aY (A++B)=aY A+aY B:=by unfold aY;rw [abc,List.sum_append]
set_option maxHeartbeats 3200000 in
theorem IR (n:Int) (L:List Iy) (hl:L.length≤1000) (hs : ∀x∈L,x.2.2.2.2.size≤1000000) (hS:aY L≤1000000000) (a b:Int) (ha:0≤a∧a≤1000000000):ap Tryz.prog G0 205 [.d (Jc n L),iv a,iv b] [] 0 (iv (a8 L a b)) []:=by
 refine vF ab [0,1,2,3,6,7,9,12,13,14,15,31] Tryz.func205 rfl Tryz.results205 Tryz.ntmps205 ?_;(refine' zg)
 refine vL (lv:=[0,1,2,3,6,7,9,12,13,14,15,31]) ab (Uk L a b) (fun x=>x.1≤L.length∧x.2=a+aY ((L.take x.1).filter (fJ a b))) (fun x=>L.length - x.1) ((0,a)) ((aC.go [1,2,7,12,13,14] (by exact vT) rfl)) ?_ ?_
 ·refine ⟨aa1 _,?_⟩;show a=a+0;omega
 rintro ⟨i,q⟩ ⟨hi,he⟩;simp only at hi he;have hb1:=hP ((L.take i).filter (fJ a b));have hb2:=Bz (L.take i) (fJ a b);have hb3:aY (L.take i)≤aY L:=by
  conv=>rhs;rw [←abf i L,BA]
  have:=hP (L.drop i);omega
 rcases aa2 i L.length with hlt|hge
 ·obtain ⟨x,hx⟩ : ∃x,L[i]? = some x:=⟨_,IO hlt⟩
  have hsz:=hs x (aa0 hx);have hrl:=bh x.2.2.2.2 _ 0 (aaV _);have r1:=dX x.2.2.2.2 (by omega);have e:=ao hx;have hst:aY ((L.take (i+1)).filter (fJ a b))=aY ((L.take i).filter (fJ a b))+(if fJ a b x=true then ((aa x.2.2.2.2 0).length:Int) else 0):=by
   rw [e,acg,BA,acZ,ad7];split
   ·rw [eH];show _=_+_;simp only [aY,acl,acV];omega
   ·rfl
  have hah:fJ a b x=true↔(x.2.1<a∨(x.2.1=a∧b=1)):=by
   simp only [fJ,abP,aa8,abs,aca];omega
  by_cases hc:x.2.1<a∨(x.2.1=a∧b=1)
  ·rw [aa3 (hah.2 hc)] at hst;obtain ⟨x1,x2,x3,x4,x5⟩:=x;simp only at hc hst r1 hrl hsz;(repeat' (first|(with_reducible first|exact True.intro|refine vD ?_|refine vG ?_|refine vE ?_)|(with_reducible refine aF.is i _ (by omega) hx ?_)|with_reducible refine vC (r1) ?_|with_reducible refine vQ (r1) ?_|(refine eP ?_)|refine vR ?_|refine v6 ?_|with_reducible refine vN ?_|((with_reducible first|refine vB (fun h =>?_) (fun h =>?_)|refine vM (fun h =>?_) (fun h =>?_))<;>(first|(exfalso;omega)|skip))))
   all_goals
    refine aG.go ((i+1,q+(aa x5 0).length)) [1,2,7,12,13,14] (by exact vT) ?_ ?_
    ·show L.length - (i+1)<L.length - i;omega
    ·exact ⟨hlt,by simp only;omega⟩
  ·rw [aaY (fun h=>hc (hah.1 h))] at hst;obtain ⟨x1,x2,x3,x4,x5⟩:=x;simp only at hc hst r1 hrl hsz;(repeat' (first|(with_reducible first|exact True.intro|refine vD ?_|refine vG ?_|refine vE ?_)|(with_reducible refine aF.is i _ (by omega) hx ?_)|with_reducible refine vC (r1) ?_|with_reducible refine vQ (r1) ?_|(refine eP ?_)|refine vR ?_|refine v6 ?_|with_reducible refine vN ?_|((with_reducible first|refine vB (fun h =>?_) (fun h =>?_)|refine vM (fun h =>?_) (fun h =>?_))<;>(first|(exfalso;omega)|skip))))
   all_goals
    refine aG.go ((i+1,q)) [1,2,7,12,13,14] (by exact vT) ?_ ?_
    ·show L.length - (i+1)<L.length - i;omega
    ·exact ⟨hlt,by simp only;omega⟩
 ·rw [aaW hge] at he;subst he;(refine' zo)
  all_goals rfl
abbrev qW (a:Nat) (L:List Iy):List Pc:=(L.filter fun x=>x.2.1==(a:Int)).flatMap fun x=>List.replicate (aa x.2.2.2.2 0).length ((a:Int),x.1)
theorem zJ (a:Nat) : ∀L:List Iy,((qW a L).length:Int)≤aY L
 | []=>abN _
 | x::l=>by
  have:=zJ a l;rw [eH,qW,acZ];split
  ·rw [ace,Or,abS];have:((qW a l).length:Int)≤aY l:=this;simp only [qW] at this;omega
  ·have:((qW a l).length:Int)≤aY l:=this;simp only [qW] at this;omega
theorem MG (a:Nat) (L:List Iy) (x:Iy):qW a (L++[x])=qW a L++(if x.2.1=a then List.replicate (aa x.2.2.2.2 0).length ((a:Int),x.1) else []):=by
 rw [qW,acg,adH,acZ,ad7];by_cases h:x.2.1=(a:Int)
 ·rw [aa3 (by simpa using h),aa3 h];simp
 ·rw [aaY (by simpa using h),aaY h];simp
theorem MH {n:Nat} {L:List Iy} (d:Nat) : ∀a:Nat,n - a≤d→((eN n L a).length:Int)≤(n - a:Nat)*(aY L+1)+aY L:=by
 induction d with
 | zero=>
  intro a h;rw [eN,aaY (by omega),abb,show n - a=0 by omega];have:=zJ a L;simp only [qW] at this;omega
 | succ d ih=>
  intro a h;rw [eN];have h1:=zJ a L;have h2:=hP L;simp only [qW] at h1;by_cases ha:a<n
  ·rw [aa3 ha,Or,aa6];have:=ih (a+1) (by omega);rw [show n - a=(n - (a+1))+1 by omega];rw [show (((n - (a+1)+1:Nat):Int))*(aY L+1)=((n - (a+1):Nat):Int)*(aY L+1)+(aY L+1) by rw [adE,Int.add_mul];simp];omega
  ·rw [aaY ha,abb,show n - a=0 by omega];omega
set_option maxHeartbeats 6400000 in
theorem IX (n:Nat) (hn:n≤1000) (L:List Iy) (hl:L.length≤1000) (hs : ∀x∈L,x.2.2.2.2.size≤1000000) (hS:aY L≤100000):ap Tryz.prog G0 202 [.d (Jc n L)] [] 0 (iE (eN n L 0)) []:=by
 have hT:=MH (n:=n) (L:=L) n 0 (by omega);have hT2:((n - 0:Nat):Int)*(aY L+1)≤1000*100001:=by
  have:=hP L;exact Int.mul_le_mul (by omega) (by omega) (by omega) (by omega)
 generalize hTT:eN n L 0=T at *
 have hTl:T.length≤1000000000:=by omega
 clear hT hT2;refine vF ab [0,1,2,3,4,6,10,14,15,16,17,23,27,28,29,42] Tryz.func202 rfl Tryz.results202 Tryz.ntmps202 ?_;(refine' zg)
 refine vL (lv:=[0,1,2,3,4,6,10,14,15,16,17,23,27,28,29,42]) ab (UX n L) (fun x=>(x.1≤n∧x.2++eN n L x.1=T)∨(x.1=n+1∧x.2=T)) (fun x=>n+1 - x.1) ((0,[])) (aC.nil 3 2<|(aC.go [1,3,4] (by exact vT) rfl)) ?_ ?_
 ·exact .inl ⟨aa1 _,hTT⟩
 rintro ⟨a,out⟩ (⟨ha,he⟩|⟨ha,he⟩)
 ·simp only at ha he;(refine' zg)
  refine vL (lv:=[0,1,2,3,4,6,10,14,15,16,17,23,27,28,29,42]) ab (UY n L a) (fun x=>x.1≤L.length∧x.2=out++qW a (L.take x.1)) (fun x=>L.length - x.1) ((0,out)) ((aC.go [1,3,4,14,15,16] (by exact vT) rfl)) ?_ ?_
  ·exact ⟨aa1 _,by simp [qW]⟩
  rintro ⟨i,o1⟩ ⟨hi,h1⟩;simp only at hi h1;rw [eN] at he;rcases aa2 i L.length with hlt|hge
  ·obtain ⟨y,hy⟩ : ∃y,L[i]? = some y:=⟨_,IO hlt⟩
   have hsz:=hs y (aa0 hy);have hrl:=bh y.2.2.2.2 _ 0 (aaV _);have r1:=dX y.2.2.2.2 (by omega);have hst:qW a (L.take (i+1))=qW a (L.take i)++(if y.2.1=a then List.replicate (aa y.2.2.2.2 0).length ((a:Int),y.1) else []):=by rw [ao hy];exact MG a _ y
   have hpre:qW a (L.take (i+1)) <+: qW a L:=by
    conv=>rhs;rw [←abf (i+1) L]
    rw [qW,qW,acg,adH];exact List.prefix_append _ _
   have hle:=hpre.length_le;have hTl2:=congrArg List.length he;simp only [Or] at hTl2;have hspl:(qW a L).length≤T.length:=by simp only [qW];omega
   by_cases hc:y.2.1=a
   ·rw [aa3 hc] at hst;have hlen:=congrArg List.length hst;rw [Or,abS] at hlen;obtain ⟨y1,y2,y3,y4,y5⟩:=y;simp only at hc hst r1 hlen;generalize hrs:(aa y5 0).length=m at *
    (repeat' (first|(with_reducible first|exact True.intro|refine vD ?_|refine vG ?_|refine vE ?_)|(with_reducible refine aF.is i _ (by omega) hy ?_)|with_reducible refine vC (r1) ?_|with_reducible refine vQ (r1) ?_|refine vR ?_|refine v6 ?_|with_reducible refine vN ?_|((with_reducible first|refine vB (fun h =>?_) (fun h =>?_)|refine vM (fun h =>?_) (fun h =>?_))<;>(first|(exfalso;omega)|skip))))
    all_goals try rw [hrs]
    refine vL (lv:=[0,1,2,3,4,6,10,14,15,16,17,23,27,28,29,42]) ab (UZ n L a i (y1,y2,y3,y4,y5) m) (fun x=>x.1≤m∧x.2=o1++List.replicate x.1 ((a:Int),y1)) (fun x=>m - x.1) ((0,o1)) ((aC.go [1,3,4,6,14,15,16,27,28] (by exact vT) rfl)) ?_ ?_
    ·exact ⟨aa1 _,by simp⟩
    rintro ⟨k,o2⟩ ⟨hk,h2⟩;simp only at hk h2;have ho2:o2.length≤3000000000:=by
     rw [h2,h1,Or,Or,abS];have:(qW a (L.take i)).length+k≤T.length:=by omega
     have:out.length≤T.length:=by omega
     omega
    rcases aa2 k m with hkm|hkm
    ·(refine' zg)
     rw [qU];refine aG.go ((k+1,o2++[((a:Int),y1)])) [1,3,4,6,14,15,16,27,28] (by exact vT) ?_ ?_
     ·show m - (k+1)<m - k;omega
     ·exact ⟨hkm,by rw [h2,aba,←acr]⟩
    ·obtain rfl:k=m:=by omega
     (refine' zg)
     refine aG.go ((i+1,o2)) [1,3,4,14,15,16] (by exact vT) ?_ ?_
     ·show L.length - (i+1)<L.length - i;omega
     ·exact ⟨hlt,by rw [h2,h1,hst,aba]⟩
   ·rw [aaY hc,abb] at hst;obtain ⟨y1,y2,y3,y4,y5⟩:=y;simp only at hc;(refine' jY hy)
    refine aG.go ((i+1,o1)) [1,3,4,14,15,16] (by exact vT) ?_ ?_
    ·show L.length - (i+1)<L.length - i;omega
    ·exact ⟨hlt,by rw [h1,hst]⟩
  ·rw [aaW hge] at h1;have hol:o1.length≤T.length:=by rw [←he,h1,Or,Or,Or];simp only [qW];omega
   by_cases hlt:a<n
   ·rw [aa3 hlt] at he;(refine' zg)
    rw [qU];refine aG.go ((a+1,o1++[((a:Int),0)])) [1,3,4] (by exact vT) ?_ ?_
    ·show n+1 - (a+1)<n+1 - a;omega
    ·exact .inl ⟨hlt,by rw [←he,h1];simp [qW]⟩
   ·rw [aaY hlt,abb] at he;(refine' zg)
    refine aG.go ((a+1,o1)) [1,3,4] (by exact vT) ?_ ?_
    ·show n+1 - (a+1)<n+1 - a;omega
    ·exact .inr ⟨by simp only;omega,by rw [←he,h1]⟩
 ·simp only at ha he;subst he;(refine' zg)
  refine ae.frz 1 (ae.out ?_);(refine' zg)
  all_goals (try rw [aaW (by simp)])
theorem NF (S:List Pc) (i:Nat) : ∀(R T:List Int),T=R.reverse→T≠[]→T.foldl fG []≠[]:=by
 intro R T e h;cases R with
 | nil=>exact absurd e h
 | cons c R=>
  rw [acq] at e;subst e;rw [acL,acE,acJ];unfold fG;split
  ·split<;>simp
  ·simp
theorem oR (G:D→D) (x y:Pc) (h:G (jX x)=jX y) : ∀q:List Pc,((q++[x]).map jX).modify q.length G=(q++[y]).map jX
 | []=>by simp [h]
 | z::r=>by rw [abG,abh,aa6,List.modify_succ_cons,oR G x y h r];rfl
theorem J0 (out:List Pc) (i:Int):(fG out i).length≤out.length+1:=by
 unfold fG;split
 ·split
  ·rw [Or,List.length_dropLast,abk];omega
  ·rw [Or,abk];exact aaV _
 ·rw [Or,abk];exact aaV _
theorem Fy {out:List Pc} {i:Int} {k:Nat} (h : ∀p∈out,0≤p.2∧p.2≤(k:Int)) : ∀p∈fG out i,0≤p.2∧p.2≤((k+1:Nat):Int):=by
 intro p hp;unfold fG at hp;split at hp
 ·rename_i q hq;split at hp
  ·rcases abe.1 hp with hp|hp
   ·have:=h p (List.dropLast_subset _ hp);omega
   ·rw [abK.1 hp];have:=h q (List.mem_of_getLast? hq);simp only;omega
  ·rcases abe.1 hp with hp|hp
   ·have:=h p hp;omega
   ·rw [abK.1 hp];simp only;omega
 ·rcases abe.1 hp with hp|hp
  ·have:=h p hp;omega
  ·rw [abK.1 hp];simp only;omega
set_option maxHeartbeats 6400000 in
theorem zw (n:Int) (L:List Iy) (S:List Pc) (hS:S.length≤1000000000) (r1:ap Tryz.prog G0 202 [.d (Jc n L)] [] 0 (iE S) []):ap Tryz.prog G0 136 [.d (Jc n L)] [] 0 (iE ((S.map (·.2)).foldl fG [])) []:=by
 refine vF ab [0,1,2,3,4,5,6,8,9,10,11,29] Tryz.func136 rfl Tryz.results136 Tryz.ntmps136 ?_;(refine' fq r1)
 refine vL (lv:=[0,1,2,3,4,5,6,8,9,10,11,29]) ab (fun x:Nat × List Pc=>Ut S x.1 x.2) (fun x=>x.1≤S.length∧x.2=((S.take x.1).map (·.2)).foldl fG []∧x.2.length≤x.1 ∧ ∀p∈x.2,0≤p.2∧p.2≤(x.1:Int)) (fun x=>S.length - x.1) ((0,[])) (aC.nil 3 2<|(aC.go [3,8,9,10] (by exact vT) rfl)) ?_ ?_
 ·exact ⟨aa1 _,rfl,aaV _,fun p hp=>by cases hp⟩
 rintro ⟨i,out⟩ ⟨hi,he,ho,hbd⟩;simp only at hi he ho hbd;rcases aa2 i S.length with hlt|hge
 ·obtain ⟨x,hx⟩ : ∃x,S[i]? = some x:=⟨_,IO hlt⟩
  have hst:((S.take (i+1)).map (·.2)).foldl fG []=fG out x.2:=by rw [ao hx,abc,acL,←he];rfl
  have hbn:=Fy (i:=x.2) hbd;obtain ⟨x1,x2⟩:=x;simp only at hst hbn;rcases ab8 out with h0|⟨D0,c,h0⟩
  ·have hi0:i=0:=by
    rcases abH i with h|h
    ·exact h
    ·exfalso;refine NF S i ((S.take i).map (·.2)).reverse _ (by simp) (fun e =>?_) (he.symm.trans h0);have:=congrArg List.length e;rw [aa4,aa7,abt] at this;omega
   subst hi0 h0;have e1:[D.agg [iD x2,iD 1]]=([(x2,1)]:List Pc).map jX:=rfl;have e2:fG [] x2=[(x2,1)]:=rfl;(repeat' (first|(with_reducible first|exact True.intro|refine vD ?_|refine vG ?_|refine vE ?_)|(with_reducible refine aF.is 0 _ (by omega) hx ?_)|(refine eP ?_)|refine vR ?_|refine v6 ?_|with_reducible refine vN ?_|((with_reducible first|refine vB (fun h =>?_) (fun h =>?_)|refine vM (fun h =>?_) (fun h =>?_))<;>(first|(exfalso;omega)|skip))))
   rw [e1];refine aG.go ((1,[(x2,1)])) [3,8,9,10] (by exact vT) ?_ ?_
   ·show S.length - 1<S.length - 0;omega
   ·exact ⟨hlt,(hst.trans e2).symm,aaV _,hbn⟩
  ·rw [ab2] at h0;subst h0;have hi0:0<i:=by rw [Or,abk] at ho;omega
   obtain ⟨c1,c2⟩:=c;have hcl:(D0++[(c1,c2)])[D0.length]? = some (c1,c2):=by simp
   have hql:(D0++[(c1,c2)]).length=D0.length+1:=by rw [Or,abk]
   by_cases hc:c1=x2
   ·subst hc;rw [kT] at hst hbn;have hb:=hbd (c1,c2) (by simp);simp only at hb;generalize hq:D0++[(c1,c2)]=q at *
    (repeat' (first|(with_reducible first|exact True.intro|refine vD ?_|refine vG ?_|refine vE ?_)|(with_reducible refine aF.is i _ (by omega) hx ?_)|(with_reducible refine aF.is D0.length _ (by omega) hcl ?_)|(refine eP ?_)|refine vR ?_|refine v6 ?_|with_reducible refine vN ?_|((with_reducible first|refine vB (fun h =>?_) (fun h =>?_)|refine vM (fun h =>?_) (fun h =>?_))<;>(first|(exfalso;omega)|skip))))
    first|rw [show ((q.length:Int) - 1).toNat=D0.length by omega]|rw [show q.length - 1=D0.length by omega]
    rw [←hq,oR _ (c1,c2) (c1,c2+1) rfl,show (D0++[(c1,c2)]).length=(D0++[(c1,c2+1)]).length by simp];refine aG.go ((i+1,D0++[(c1,c2+1)])) [3,8,9,10] (by exact vT) ?_ ?_
    ·show S.length - (i+1)<S.length - i;omega
    ·exact ⟨hlt,hst.symm,by simp only [Or,abk] at hql ⊢;omega,hbn⟩
   ·have hn:fG (D0++[(c1,c2)]) x2=D0++[(c1,c2)]++[(x2,1)]:=mP (fun p hp=>by
     rw [acU] at hp;injection hp with hp;subst hp;exact hc)
    rw [hn] at hst hbn;have e3:(D0++[(c1,c2)]).map jX++[D.agg [iD x2,iD 1]]=(D0++[(c1,c2)]++[(x2,1)]).map jX:=qU _ _ _;generalize hq:D0++[(c1,c2)]=q at *
    (repeat' (first|(with_reducible first|exact True.intro|refine vD ?_|refine vG ?_|refine vE ?_)|(with_reducible refine aF.is i _ (by omega) hx ?_)|(with_reducible refine aF.is D0.length _ (by omega) hcl ?_)|(refine eP ?_)|refine vR ?_|refine v6 ?_|with_reducible refine vN ?_|((with_reducible first|refine vB (fun h =>?_) (fun h =>?_)|refine vM (fun h =>?_) (fun h =>?_))<;>(first|(exfalso;omega)|skip))))
    rw [e3,aa4];refine aG.go ((i+1,q++[(x2,1)])) [3,8,9,10] (by exact vT) ?_ ?_
    ·show S.length - (i+1)<S.length - i;omega
    ·exact ⟨hlt,hst.symm,by rw [Or,abk];omega,hbn⟩
 ·rw [aaW hge] at he;subst he;(refine' zg)
  refine ae.frz 0 (ae.out ?_);(refine' zg)
  all_goals (try rw [aaW (by simp)])
def T5 (H:List Sn) (a:Int) (i:Nat):St:=⟨[(1,iv a),(7,.d (.sd 2 false (H.map bA))),(8,iv H.length),(9,iv i)],[],0⟩
def Uw (n:Int) (L:List Iy) (H:List Sn) (x:Nat × List Sn):St:=⟨[(2,.po 0 0),(5,.so 1 2 0 x.2.length),(8,.d (.sd 2 false (H.map bA))),(9,iv H.length),(10,iv x.1)],[(0,Pw n L),(1,.row 2 (x.2.map bA))],2⟩
def U0 (m:Nat) (H:List Sn) (x:Nat × List Nat):St:=⟨[(0,iv m),(1,.d (.sd 2 false (H.map bA))),(5,.so 0 1 0 x.2.length),(6,iv x.1)],[(0,.row 1 (x.2.map fun k=>iD (k:Nat)))],1⟩
def Uu (H:List Sn) (S:List Nat) (i:Nat) (out:List Pc):St:=⟨[(1,.d (.sd 2 false (H.map bA))),(5,.so 0 2 0 out.length),(12,.d (.sd 1 false (S.map fun k=>iD (k:Nat)))),(13,iv S.length),(14,iv i)],[(0,.row 2 (out.map jX))],1⟩
attribute [push_cast] T5.eq_def Uw.eq_def U0.eq_def Uu.eq_def
def yS (H:List Sn) (a:Int):Int:=if (bb H a).isSome=true then (H.findIdx (f9 a):Int) else -1
theorem OE {H:List Sn} {a:Int} {i:Nat} {x:Sn} (hx:H[i]? = some x) (h:x.1≤a∧a<x.2) (hn : ∀(j:Nat) y,j<i→H[j]? = some y → ¬(y.1≤a∧a<y.2)):yS H a=i:=by
 have hlt:=(aaX.1 hx).1;have e:H.findIdx (f9 a)=i:=by
  rw [List.findIdx_eq hlt];refine ⟨by rw [(aaX.1 hx).2];exact da.2 h,fun j hj =>?_⟩;cases hb:f9 a (H[j]'(by omega)) with
  | false=>rfl
  | true=>exact (hn j _ hj (IO (by omega)) (da.1 hb)).elim
 have h2:(bb H a).isSome=true:=by
  unfold bb;rw [List.find?_isSome];exact ⟨x,aa0 hx,da.2 h⟩
 unfold yS;rw [aa3 h2,e]
theorem OF {H:List Sn} {a:Int} (hn : ∀y∈H,¬(y.1≤a∧a<y.2)):yS H a = -1:=by
 have h2:bb H a=none:=by
  cases hh:bb H a with
  | none=>rfl
  | some y=>obtain ⟨q1,q2,q3⟩:=bV hh;exact (hn y q1 ⟨q2,q3⟩).elim
 unfold yS;rw [h2];rfl
theorem Ga (H:List Sn) (a:Int):(bb H a=none∧yS H a = -1)∨(∃(k:Nat) (x:Sn),bb H a=some x∧yS H a=k∧H[k]? = some x):=by
 cases hh:bb H a with
 | none=>exact .inl ⟨rfl,by unfold yS;rw [hh];rfl⟩
 | some x=>
  refine .inr ⟨H.findIdx (f9 a),x,rfl,by unfold yS;rw [hh];rfl,?_⟩;unfold bb at hh;rw [List.find?_eq_getElem?_findIdx] at hh;exact hh
theorem xp (H:List Sn) (hl:H.length≤1000000) (a:Int):ap Tryz.prog G0 204 [.d (.sd 2 false (H.map bA)),iv a] [] 0 (iv (yS H a)) []:=by
 refine vF ab [0,1,4,5,6,7,8,9,10,23] Tryz.func204 rfl Tryz.results204 Tryz.ntmps204 ?_;(refine' zg)
 refine vL (lv:=[0,1,4,5,6,7,8,9,10,23]) ab (T5 H a) (fun i=>i≤H.length ∧ ∀(j:Nat) y,j<i→H[j]? = some y → ¬(y.1≤a∧a<y.2)) (fun i=>H.length - i) (0) ((aC.go [1,7,8,9] (by exact vT) rfl)) ?_ ?_
 ·exact ⟨aa1 _,fun j y h=>absurd h (aea _)⟩
 rintro i ⟨hi,hn⟩;rcases aa2 i H.length with hlt|hge
 ·obtain ⟨x,hx⟩ : ∃x,H[i]? = some x:=⟨_,IO hlt⟩
  by_cases hc:x.1≤a∧a<x.2
  ·rw [OE hx hc hn];obtain ⟨x1,x2⟩:=x;simp only at hc;(repeat' (first|(with_reducible first|exact True.intro|refine vD ?_|refine vG ?_|refine vE ?_)|(with_reducible refine aF.is i _ (by omega) hx ?_)|(refine eP ?_)|with_reducible refine ae.out ?_|refine vR ?_|refine v6 ?_|with_reducible refine vN ?_|((with_reducible first|refine vB (fun h =>?_) (fun h =>?_)|refine vM (fun h =>?_) (fun h =>?_))<;>(first|(exfalso;omega)|skip))))
  ·have hn2 : ∀(j:Nat) y,j<i+1→H[j]? = some y → ¬(y.1≤a∧a<y.2):=fun j y hj hy=>by
    rcases aa2 j i with h|h
    ·exact hn j y h hy
    ·obtain rfl:j=i:=by omega
     rw [hx] at hy;injection hy with hy;subst hy;exact hc
   obtain ⟨x1,x2⟩:=x;simp only at hc;(repeat' (first|(with_reducible first|exact True.intro|refine vD ?_|refine vG ?_|refine vE ?_)|(with_reducible refine aF.is i _ (by omega) hx ?_)|(refine eP ?_)|refine vR ?_|refine v6 ?_|with_reducible refine vN ?_|((with_reducible first|refine vB (fun h =>?_) (fun h =>?_)|refine vM (fun h =>?_) (fun h =>?_))<;>(first|(exfalso;omega)|skip))))
   all_goals
    refine aG.go (i+1) [1,7,8,9] (by exact vT) ?_ ?_
    ·show H.length - (i+1)<H.length - i;omega
    ·exact ⟨hlt,hn2⟩
 ·rw [OF (fun y hy=>by
   obtain ⟨j,hj⟩:=ab6 hy;exact hn j y (by have:=(aaX.1 hj).1;omega) hj)]
  (refine' zo)
theorem PD (es:List Sn) (a b:Int):es.map bA++[D.agg [iD a,iD b]]=(es++[(a,b)]).map bA:=by rw [abc];rfl
theorem EX (n:Int) (L:List Iy) (hl:L.length≤1000) (hs : ∀x∈L,x.2.2.2.2.size≤1000000) (hS:aY L≤1000000000) (H:List Sn) (hH:H.length≤100000) (h : ∀x∈H,(0≤x.1∧x.1≤1000000000)∧0≤x.2∧x.2≤1000000000) :
 ap Tryz.prog G0 139 [.d (Jc n L),.d (.sd 2 false (H.map bA))] [] 0 (.d (.sd 2 false ((H.map (lp L)).map bA))) []:=by
 have r1:=fun a b ha=>IR n L hl hs hS a b ha
 refine vF ab [0,1,2,4,5,7,8,9,10,11] Tryz.func139 rfl Tryz.results139 Tryz.ntmps139 ?_;(refine' zg)
 refine vL (lv:=[0,1,2,4,5,7,8,9,10,11]) ab (Uw n L H) (fun x=>x.1≤H.length∧x.2=(H.take x.1).map (lp L)) (fun x=>H.length - x.1) ((0,[])) (aC.nil 5 2<|(aC.go [2,5,8,9,10] (by exact vT) rfl)) ?_ ?_
 ·exact ⟨aa1 _,rfl⟩
 rintro ⟨i,out⟩ ⟨hi,he⟩;simp only at hi he;have hol:out.length=i:=by rw [he,aa4,aa7];omega
 rcases aa2 i H.length with hlt|hge
 ·obtain ⟨x,hx⟩ : ∃x,H[i]? = some x:=⟨_,IO hlt⟩
  obtain ⟨h1,h2⟩:=h x (aa0 hx);have r2:=r1 x.1 1 h1;have r3:=r1 x.2 0 h2;have e:(H.take (i+1)).map (lp L)=out++[lp L x]:=by rw [ao hx,abc,←he];rfl
  have e2:lp L x=(a8 L x.1 1,a8 L x.2 0):=rfl;rw [e2] at e;obtain ⟨x1,x2⟩:=x;simp only at r2 r3 e;generalize a8 L x1 1=u at *
  generalize a8 L x2 0=v at *
  (repeat' (first|(with_reducible first|exact True.intro|refine vD ?_|refine vG ?_|refine vE ?_)|(with_reducible refine aF.is i _ (by omega) hx ?_)|with_reducible refine vC (r2) ?_|with_reducible refine vC (r3) ?_|with_reducible refine vQ (r2) ?_|with_reducible refine vQ (r3) ?_|(refine eP ?_)|refine vR ?_|refine v6 ?_|with_reducible refine vN ?_|((with_reducible first|refine vB (fun h =>?_) (fun h =>?_)|refine vM (fun h =>?_) (fun h =>?_))<;>(first|(exfalso;omega)|skip))))
  rw [PD];refine aG.go ((i+1,out++[(u,v)])) [2,5,8,9,10] (by exact vT) ?_ ?_
  ·show H.length - (i+1)<H.length - i;omega
  ·exact ⟨hlt,e.symm⟩
 ·rw [aaW hge] at he;subst he;(refine' zg)
  refine ae.frz 1 (ae.out ?_);(refine' zg)
  all_goals (try rw [aaW (by simp)])
abbrev ntL (S:List Nat):V:= .d (.sd 1 false (S.map fun k=>iD (k:Nat)))
theorem GE (es:List Nat) (a:Nat):(es.map fun k=>iD (k:Nat))++[iD (a:Nat)]=(es++[a]).map fun k=>iD (k:Nat):=by rw [abc];rfl
theorem un (m:Nat) (H:List Sn) : ∀(d a:Nat),m - a≤d→(gP m H a).length≤m - a
 | d,a,hd=>by
  rw [gP];by_cases ha:a<m
  ·rw [aa3 ha,Or];have:=un m H (d - 1) (a+1) (by omega);split
   ·split<;>simp<;>omega
   ·simp;omega
  ·rw [aaY ha];simp
 termination_by d=>d
 decreasing_by omega
set_option maxHeartbeats 3200000 in
theorem EY (m:Nat) (hm:m≤1000000) (H:List Sn) (hl:H.length≤1000000):ap Tryz.prog G0 203 [iv m,.d (.sd 2 false (H.map bA))] [] 0 (ntL (gP m H 0)) []:=by
 have r1:=fun a=>xp H hl a
 have hTl:=un m H m 0 (by omega);generalize hT:gP m H 0=T at *
 refine vF ab [0,1,4,5,6,7,10,26] Tryz.func203 rfl Tryz.results203 Tryz.ntmps203 ?_;(refine' zg)
 refine vL (lv:=[0,1,4,5,6,7,10,26]) ab (U0 m H) (fun x=>x.1≤m∧x.2++gP m H x.1=T) (fun x=>m - x.1) ((0,[])) (aC.nil 5 1<|(aC.go [0,1,5,6] (by exact vT) rfl)) ?_ ?_
 ·exact ⟨aa1 _,hT⟩
 rintro ⟨a,out⟩ ⟨ha,he⟩;simp only at ha he;have hol:out.length≤T.length:=by rw [←he,Or];omega
 rw [gP] at he;rcases aa2 a m with hlt|hge
 ·rw [aa3 hlt] at he;have r2:=r1 a;rcases Ga H a with ⟨h1,h2⟩|⟨k,x,h1,h2,hx⟩
  ·rw [h1] at he;rw [h2] at r2;(repeat' (first|(with_reducible first|exact True.intro|refine vD ?_|refine vG ?_|refine vE ?_)|with_reducible refine vC (r2) ?_|with_reducible refine vQ (r2) ?_|(refine eP ?_)|refine vR ?_|refine v6 ?_|with_reducible refine vN ?_|((with_reducible first|refine vB (fun h =>?_) (fun h =>?_)|refine vM (fun h =>?_) (fun h =>?_))<;>(first|(exfalso;omega)|skip))))
   rw [GE];refine aG.go ((a+1,out++[a])) [0,1,5,6] (by exact vT) ?_ ?_
   ·show m - (a+1)<m - a;omega
   ·exact ⟨hlt,by rw [←he];simp⟩
  ·rw [h1] at he;rw [h2] at r2;have hkl:=(aaX.1 hx).1;obtain ⟨x1,x2⟩:=x;simp only at he;by_cases hc:x1=a
   ·rw [aa3 hc] at he;(repeat' (first|(with_reducible first|exact True.intro|refine vD ?_|refine vG ?_|refine vE ?_)|with_reducible refine vC (r2) ?_|with_reducible refine vQ (r2) ?_|(with_reducible refine aF.is k _ (by omega) hx ?_)|(refine eP ?_)|refine vR ?_|refine v6 ?_|with_reducible refine vN ?_|((with_reducible first|refine vB (fun h =>?_) (fun h =>?_)|refine vM (fun h =>?_) (fun h =>?_))<;>(first|(exfalso;omega)|skip))))
    rw [GE];refine aG.go ((a+1,out++[a])) [0,1,5,6] (by exact vT) ?_ ?_
    ·show m - (a+1)<m - a;omega
    ·exact ⟨hlt,by rw [←he];simp⟩
   ·rw [aaY hc] at he;(repeat' (first|(with_reducible first|exact True.intro|refine vD ?_|refine vG ?_|refine vE ?_)|with_reducible refine vC (r2) ?_|with_reducible refine vQ (r2) ?_|(with_reducible refine aF.is k _ (by omega) hx ?_)|(refine eP ?_)|refine vR ?_|refine v6 ?_|with_reducible refine vN ?_|((with_reducible first|refine vB (fun h =>?_) (fun h =>?_)|refine vM (fun h =>?_) (fun h =>?_))<;>(first|(exfalso;omega)|skip))))
    refine aG.go ((a+1,out)) [0,1,5,6] (by exact vT) ?_ ?_
    ·show m - (a+1)<m - a;omega
    ·exact ⟨hlt,by rw [←he];simp⟩
 ·rw [aaY (by omega),abb] at he;subst he;(refine' zg)
  refine ae.frz 0 (ae.out ?_);(refine' zg)
  all_goals (try rw [aaW (by simp)])
theorem JZ (H:List Sn) (out:List Pc) (a:Nat):(io H out a).length≤out.length+1:=by
 unfold io;split
 ·simp
 ·exact J0 _ _
set_option maxHeartbeats 6400000 in
theorem zx (m:Nat) (H:List Sn) (hl:H.length≤1000000) (hH : ∀x∈H,(0≤x.1∧x.1≤1000000000)∧x.1<x.2∧x.2≤1000000000) (S:List Nat) (hS:S.length≤1000000) (r1:ap Tryz.prog G0 203 [iv m,.d (.sd 2 false (H.map bA))] [] 0 (ntL S) []) :
 ap Tryz.prog G0 137 [iv m,.d (.sd 2 false (H.map bA))] [] 0 (iE (S.foldl (io H) [])) []:=by
 have r0:=fun a=>xp H hl a
 refine vF ab [0,1,4,5,7,8,9,12,13,14,15,25,50] Tryz.func137 rfl Tryz.results137 Tryz.ntmps137 ?_;(refine' fq r1)
 refine vL (lv:=[0,1,4,5,7,8,9,12,13,14,15,25,50]) ab (fun x:Nat × List Pc=>Uu H S x.1 x.2) (fun x=>x.1≤S.length∧x.2=(S.take x.1).foldl (io H) []∧x.2.length≤x.1 ∧ ∀p∈x.2,0≤p.2∧p.2≤(x.1:Int)) (fun x=>S.length - x.1) ((0,[])) (aC.nil 5 2<|(aC.go [1,5,12,13,14] (by exact vT) rfl)) ?_ ?_
 ·exact ⟨aa1 _,rfl,aaV _,fun p hp=>by cases hp⟩
 rintro ⟨i,out⟩ ⟨hi,he,ho,hbd⟩;simp only at hi he ho hbd;rcases aa2 i S.length with hlt|hge
 ·obtain ⟨a,ha⟩ : ∃a,S[i]? = some a:=⟨_,IO hlt⟩
  have hst:(S.take (i+1)).foldl (io H) []=io H out a:=by rw [ao ha,acL,←he];rfl
  have hlen:=JZ H out a;have r2:=r0 a;have e3 : ∀u v:Int,out.map jX++[D.agg [iD u,iD v]]=(out++[(u,v)]).map jX:=fun u v=>qU _ _ _
  rcases Ga H a with ⟨h1,h2⟩|⟨k,x,h1,h2,hx⟩
  ·rw [h2] at r2;have hst2:io H out a=fG out 0:=by unfold io;rw [h1]
   have hbn:=Fy (i:=0) hbd;rw [hst2] at hst hlen;rcases ab8 out with h0|⟨D0,c,h0⟩
   ·subst h0;have e2:fG [] 0=[((0:Int),(1:Int))]:=rfl;rw [e2] at hst hbn hlen;(repeat' (first|(with_reducible first|exact True.intro|refine vD ?_|refine vG ?_|refine vE ?_)|(with_reducible refine aF.is i _ (by omega) ha ?_)|with_reducible refine vC (r2) ?_|with_reducible refine vQ (r2) ?_|(refine eP ?_)|refine vR ?_|refine v6 ?_|with_reducible refine vN ?_|((with_reducible first|refine vB (fun h =>?_) (fun h =>?_)|refine vM (fun h =>?_) (fun h =>?_))<;>(first|(exfalso;omega)|skip))))
    rw [show [D.agg [iD 0,iD 1]]=([((0:Int),(1:Int))]:List Pc).map jX from rfl];refine aG.go ((i+1,[((0:Int),(1:Int))])) [1,5,12,13,14] (by exact vT) ?_ ?_
    ·show S.length - (i+1)<S.length - i;omega
    ·exact ⟨hlt,hst.symm,by simp,hbn⟩
   ·rw [ab2] at h0;subst h0;obtain ⟨c1,c2⟩:=c;have hcl:(D0++[(c1,c2)])[D0.length]? = some (c1,c2):=by simp
    have hql:(D0++[(c1,c2)]).length=D0.length+1:=by rw [Or,abk]
    by_cases hc:c1=0
    ·subst hc;rw [kT] at hst hbn hlen;have hb:=hbd (0,c2) (by simp);simp only at hb;generalize hq:D0++[((0:Int),c2)]=q at *
     (repeat' (first|(with_reducible first|exact True.intro|refine vD ?_|refine vG ?_|refine vE ?_)|(with_reducible refine aF.is i _ (by omega) ha ?_)|(with_reducible refine aF.is D0.length _ (by omega) hcl ?_)|with_reducible refine vC (r2) ?_|with_reducible refine vQ (r2) ?_|(refine eP ?_)|refine vR ?_|refine v6 ?_|with_reducible refine vN ?_|((with_reducible first|refine vB (fun h =>?_) (fun h =>?_)|refine vM (fun h =>?_) (fun h =>?_))<;>(first|(exfalso;omega)|skip))))
     first|rw [show ((q.length:Int) - 1).toNat=D0.length by omega]|rw [show q.length - 1=D0.length by omega]
     rw [←hq,oR _ (0,c2) (0,c2+1) rfl,show (D0++[((0:Int),c2)]).length=(D0++[((0:Int),c2+1)]).length by simp];refine aG.go ((i+1,D0++[((0:Int),c2+1)])) [1,5,12,13,14] (by exact vT) ?_ ?_
     ·show S.length - (i+1)<S.length - i;omega
     ·exact ⟨hlt,hst.symm,by simp only [Or,abk] at hql ⊢;omega,hbn⟩
    ·have hn:fG (D0++[(c1,c2)]) 0=D0++[(c1,c2)]++[(0,1)]:=mP (fun p hp=>by
      rw [acU] at hp;injection hp with hp;subst hp;exact hc)
     rw [hn] at hst hbn hlen;generalize hq:D0++[(c1,c2)]=q at *
     (repeat' (first|(with_reducible first|exact True.intro|refine vD ?_|refine vG ?_|refine vE ?_)|(with_reducible refine aF.is i _ (by omega) ha ?_)|(with_reducible refine aF.is D0.length _ (by omega) hcl ?_)|with_reducible refine vC (r2) ?_|with_reducible refine vQ (r2) ?_|(refine eP ?_)|refine vR ?_|refine v6 ?_|with_reducible refine vN ?_|((with_reducible first|refine vB (fun h =>?_) (fun h =>?_)|refine vM (fun h =>?_) (fun h =>?_))<;>(first|(exfalso;omega)|skip))))
     rw [e3,aa4];refine aG.go ((i+1,q++[((0:Int),(1:Int))])) [1,5,12,13,14] (by exact vT) ?_ ?_
     ·show S.length - (i+1)<S.length - i;omega
     ·exact ⟨hlt,hst.symm,by rw [Or,abk];omega,hbn⟩
  ·rw [h2] at r2;have hkl:=(aaX.1 hx).1;have hst2:io H out a=out++[(x.2 - x.1,1)]:=by unfold io;rw [h1]
   have hxH:=hH x (aa0 hx);have hbn : ∀p∈io H out a,0≤p.2∧p.2≤((i+1:Nat):Int):=fun p hp=>by
    rw [hst2] at hp;rcases abe.1 hp with hp|hp
    ·have:=hbd p hp;omega
    ·rw [abK.1 hp];simp only;omega
   rw [hst2] at hst hlen hbn;obtain ⟨x1,x2⟩:=x;simp only at hst hxH hbn;(repeat' (first|(with_reducible first|exact True.intro|refine vD ?_|refine vG ?_|refine vE ?_)|(with_reducible refine aF.is i _ (by omega) ha ?_)|(with_reducible refine aF.is k _ (by omega) hx ?_)|with_reducible refine vC (r2) ?_|with_reducible refine vQ (r2) ?_|(refine eP ?_)|refine vR ?_|refine v6 ?_|with_reducible refine vN ?_|((with_reducible first|refine vB (fun h =>?_) (fun h =>?_)|refine vM (fun h =>?_) (fun h =>?_))<;>(first|(exfalso;omega)|skip))))
   rw [e3,aa4];refine aG.go ((i+1,out++[(x2 - x1,1)])) [1,5,12,13,14] (by exact vT) ?_ ?_
   ·show S.length - (i+1)<S.length - i;omega
   ·exact ⟨hlt,hst.symm,by rw [Or,abk];omega,hbn⟩
 ·rw [aaW hge] at he;subst he;(refine' zg)
  refine ae.frz 0 (ae.out ?_);(refine' zg)
  all_goals (try rw [aaW (by simp)])
theorem ut (l:List Int) (b:Nat) (hb:b≤l.length) : ∀(M:List Iy) (a:Nat),a≤b→(M.Pairwise fun x y=>x.2.1≤y.2.1)→(∀y∈M,(a:Int)≤y.2.1∧y.2.1≤b)→(gq (dc l b a M):Int)=(b:Int) - a+aY M
 | [],a,hab,_,_=>by
  rw [dc];split
  ·rw [gq,rR l hb];simp only [gq,aY,acl,acV];omega
  ·simp only [gq,aY,acl,acV];omega
 | y::M,a,hab,hp,h=>by
  have hy:=h y abj;rw [abR] at hp;obtain ⟨c,hc⟩ : ∃c:Nat,y.2.1=c:=⟨y.2.1.toNat,by omega⟩
  have ih:=ut l b hb M c (by omega) hp.2 (fun z hz=>by
   have:=hp.1 z hz;have:=h z (abd _ hz);omega)
  rw [dc,hc,ack,show max a c=c by omega,lB,eH];split
  ·simp only [gq];rw [rR l (by omega)];omega
  ·simp only [gq];omega
theorem OJ {L:List Iy} {a b:Int} (h:a≤b):aY (b9 L a b)=aY (L.filter (fJ b 1)) - aY (L.filter (fJ a 0)):=by
 unfold b9;induction L with
 | nil=>rfl
 | cons x r ih=>
  have e1:fJ b 1 x=true↔x.2.1≤b:=by
   simp only [fJ,abP,aa8,abs,aca,true_and];omega
  have e2:fJ a 0 x=true↔x.2.1<a:=by
   simp [fJ]
  have e3:(!(decide (x.2.1<a)||decide (b<x.2.1)))=true↔a≤x.2.1∧x.2.1≤b:=by
   simp only [acb,acy,ab9];omega
  by_cases q1:x.2.1≤b
  ·by_cases q2:x.2.1<a
   ·rw [abv (p:=fun x:Iy=> !(decide (x.2.1<a)||decide (b<x.2.1))) (fun h=>by have:=e3.1 h;omega),abA (e1.2 q1),abA (e2.2 q2),eH,eH];omega
   ·rw [abA (p:=fun x:Iy=> !(decide (x.2.1<a)||decide (b<x.2.1))) (e3.2 ⟨by omega,q1⟩),abA (e1.2 q1),abv (fun h=>q2 (e2.1 h)),eH,eH];omega
  ·rw [abv (p:=fun x:Iy=> !(decide (x.2.1<a)||decide (b<x.2.1))) (fun h=>q1 (e3.1 h).2),abv (fun h=>q1 (e1.1 h)),abv (fun h=>by have:=e2.1 h;omega)];exact ih
theorem LW {L:List Iy} {a b:Int} (h:a≤b):a8 L b 1 - a8 L a 0=b - a+aY (b9 L a b):=by
 rw [OJ h];unfold a8;omega
abbrev OQ (L:List Iy) (x:Sn):Int:=a8 L x.2 0 - a8 L x.1 1 - 1
def fy (L:List Iy) (H:List Sn) (a e:Int):Int:=((H.filter fun x=> !(decide (x.1<a)||decide (e<x.2))).map (OQ L)).sum
theorem jx (L:List Iy) (x:Sn) (H:List Sn) (a e:Int):fy L (x::H) a e=(if x.1<a∨e<x.2 then 0 else OQ L x)+fy L H a e:=by
 unfold fy;have e3:(!(decide (x.1<a)||decide (e<x.2)))=true ↔ ¬(x.1<a∨e<x.2):=by
  simp only [acb,acy,ab9,not_or]
 by_cases h:x.1<a∨e<x.2
 ·rw [aa3 h,abv (p:=fun x:Sn=> !(decide (x.1<a)||decide (e<x.2))) (fun q=>e3.1 q h)];omega
 ·rw [aaY h,abA (p:=fun x:Sn=> !(decide (x.1<a)||decide (e<x.2))) (e3.2 h),abh,acu]
theorem LA {L:List Iy} {H:List Sn} {a b e:Int} (h : ∀x∈H,a≤x.1∧b≤x.1):fy L H a e=fy L H b e:=by
 unfold fy;congr 2;refine List.filter_congr fun x hx =>?_
 have:=h x hx;rw [abM (show ¬x.1<a by omega),abM (show ¬x.1<b by omega)]
theorem qY {l:List Int} {L:List Iy} (hp:L.Pairwise fun x y=>x.2.1≤y.2.1) {e:Nat} (he:e≤l.length) : ∀(H:List Sn) (a:Nat) (last:Int),0≤last→a≤e→fS l.length last H=true→(gq (ci l L e a H):Int)=a8 L e 1 - a8 L a 0 - fy L H a e
 | [],a,last,h0,hae,hr=>by
  have hs:=ut l e he (b9 L a e) a hae (hp.filter _) (fun y hy=>by
   have:=(acj.1 hy).2;simp at this;omega)
  have hd:=LW (L:=L) (a:=a) (b:=e) (by omega);rw [ci,hs,hd];show _=_ - (0:Int)
  omega
 | x::H,a,last,h0,hae,hr=>by
  obtain ⟨⟨h1,h2,h3⟩,h4⟩:=bZ.1 hr;rw [ci,jx];by_cases hc:x.1<a∨(e:Int)<x.2
  ·rw [aa3 hc,aa3 hc,qY hp he H a x.2 (by omega) hae h4];omega
  ·rw [aaY hc,aaY hc,lB,gq];obtain ⟨p,hx1⟩ : ∃p:Nat,x.1=p:=⟨x.1.toNat,by omega⟩
   obtain ⟨q,hx2⟩ : ∃q:Nat,x.2=q:=⟨x.2.toNat,by omega⟩
   have hs:=ut l p (by omega) (b9 L a p) a (by omega) (hp.filter _) (fun y hy=>by
    have:=(acj.1 hy).2;simp at this;omega)
   have hd:=LW (L:=L) (a:=a) (b:=p) (by omega);have ih:=qY hp he H q x.2 (by omega) (by omega) h4;rw [LA (b:=a) (fun y hy=>by have:=bE h4 y hy;omega)] at ih;rw [hx1,hx2,ack,ack];rw [OQ,hx1,hx2];omega
def Ku (H:List Sn) (v:Int):Int:=(match bb H v with|some y=>y.1|none=>v) - ((H.filter fun y=>decide (y.2≤v)).map fun y=>y.2 - y.1 - 1).sum
theorem FI {H:List Sn} {v:Int} (h : ∀y∈H,v<y.1∧v<y.2):Ku H v=v:=by
 have h1:bb H v=none:=by
  cases hh:bb H v with
  | none=>rfl
  | some y=>
   obtain ⟨q1,q2,q3⟩:=bV hh;have:=h y q1;omega
 have h2:(H.filter fun y=>decide (y.2≤v))=[]:=acd.2 fun y hy=>by have:=h y hy;simp;omega
 unfold Ku;rw [h1,h2];show v - 0=v;omega
theorem Kv {x:Sn} {H:List Sn} {v:Int} (hx:x.1≤v∧v<x.2) (h : ∀y∈H,x.2≤y.1∧y.1<y.2):Ku (x::H) v=x.1:=by
 have h1:bb (x::H) v=some x:=by unfold bb;rw [ac6,da.2 hx]
 have h2:((x::H).filter fun y=>decide (y.2≤v))=[]:=acd.2 fun y hy=>by
  rcases abi.1 hy with rfl|hy
  ·simp;omega
  ·have:=h y hy;simp;omega
 unfold Ku;rw [h1,h2];show x.1 - 0=x.1;omega
theorem Kx {x:Sn} {H:List Sn} {v:Int} (hx:x.2≤v):Ku (x::H) v=Ku H v - (x.2 - x.1 - 1):=by
 have h1:bb (x::H) v=bb H v:=by
  unfold bb;rw [ac6];cases hb:f9 v x with
  | false=>rfl
  | true=>have:=da.1 hb;omega
 unfold Ku;rw [h1,abA (by simpa using hx),abh,acu];generalize (match bb H v with|some y=>y.1|none=>v)=q;omega
theorem yp {m:Int} : ∀(H:List Sn) (f v:Int) (j:Nat),fS m f H=true→f≤m→0≤v→v≤m - f→NC v 1 (gv m f H) j →
 (if ((gv m f H).getD j Ia).tag=1 then (aq ((gv m f H).take j)).d1 else (aq ((gv m f H).take j)).d1+v - (aq ((gv m f H).take j)).d0)=Ku H (f+v) - f
 | [],f,v,j,hr,hf,h0,hv,h=>by
  rw [FI (fun y hy=>by cases hy)];have z:aq []=Sm.zero:=rfl;have e1:=bH (gc (m - f)) [];simp only [z,Sm.zero,gc] at e1;have hle:=h.le;unfold gv at hle ⊢;by_cases hfm:f<m
  ·simp only [aa3 hfm,aa6,abt] at hle ⊢;match j,hle with
   | 0,_=>simp only [ab4,gc,abO,z,Sm.zero];rw [aaY (by decide)];omega
   | 1,_=>simp only [ach,List.getD_nil,abn,adY,Ia];rw [aaY (by decide)];simp only [gc];omega
  ·simp only [aaY hfm,abt] at hle ⊢;match j,hle with
   | 0,_=>simp only [List.getD_nil,adY,z,Sm.zero,Ia];rw [aaY (by decide)];omega
 | x::H,f,v,j,hr,hf,h0,hv,h=>by
  obtain ⟨⟨h1,h2,h3⟩,h4⟩:=bZ.1 hr;have hm : ∀y∈H,x.2≤y.1∧y.1<y.2:=fun y hy=>by have:=bE h4 y hy;omega
  have z:aq []=Sm.zero:=rfl;unfold gv at h ⊢;by_cases hfx:f<x.1
  ·simp only [aa3 hfx] at h ⊢;have e1:=bH (gc (x.1 - f)) [];have e2:=bH (gc (x.1 - f)) [md (x.2 - x.1)];have e3:=bH (md (x.2 - x.1)) [];simp only [z,Sm.zero,gc,md] at e1 e2 e3;match j,h with
   | 0,h=>
    have q1:=h.here (by simp);simp only [abn,abO,gc] at q1;rw [FI (fun y hy=>by
     rcases abi.1 hy with rfl|hy
     ·omega
     ·have:=hm y hy;omega)]
    simp only [ab4,gc,abO,z,Sm.zero];rw [aaY (by decide)];omega
   | 1,h=>
    have q1:=h.below 1 (by omega) (by omega);have q2:=h.here (by simp);simp only [abn,abO,gc,md] at q1 q2;rw [Kv ⟨by omega,by omega⟩ hm];simp only [ach,ab4,abn,abO,gc,md];rw [aa3 trivial];omega
   | j+2,h=>
    have q1:=h.below 2 (by omega) (by omega);simp only [abn,abO,gc,md] at q1;have t1:=h.tail.tail;simp only [gc,md] at t1;have ih:=yp (m:=m) H x.2 (v - (x.1 - f) - (x.2 - x.1)) j h4 (by omega) (by omega) (by omega) t1;rw [show x.2+(v - (x.1 - f) - (x.2 - x.1))=f+v by omega] at ih;rw [Kx (by omega)];have p1:=bH (gc (x.1 - f)) (md (x.2 - x.1)::(gv m x.2 H).take j);have p2:=bH (md (x.2 - x.1)) ((gv m x.2 H).take j);simp only [ach,abn];simp only [gc,md] at p1 p2 ⊢;split at ih
    ·rename_i g;rw [aa3 g];omega
    ·rename_i g;rw [aaY g];omega
  ·simp only [aaY hfx] at h ⊢;have e3:=bH (md (x.2 - x.1)) [];simp only [z,Sm.zero,md] at e3;match j,h with
   | 0,h=>
    have q2:=h.here (by simp);simp only [abn,abO,md] at q2;rw [Kv ⟨by omega,by omega⟩ hm];simp only [ab4,abO,md,z,Sm.zero];rw [aa3 trivial];omega
   | j+1,h=>
    have q1:=h.below 1 (by omega) (by omega);simp only [abn,abO,md] at q1;have t1:=h.tail;simp only [md] at t1;have ih:=yp (m:=m) H x.2 (v - (x.2 - x.1)) j h4 (by omega) (by omega) (by omega) t1;rw [show x.2+(v - (x.2 - x.1))=f+v by omega] at ih;rw [Kx (by omega)];have p2:=bH (md (x.2 - x.1)) ((gv m x.2 H).take j);simp only [ach,abn];simp only [md] at p2 ⊢;split at ih
    ·rename_i g;rw [aa3 g];omega
    ·rename_i g;rw [aaY g];omega
theorem xm (L:List Iy) (e:Int):a8 L (e+1) 0=a8 L e 1+1:=by
 have:L.filter (fJ (e+1) 0)=L.filter (fJ e 1):=List.filter_congr fun x _=>by
  rw [act];simp only [fJ,abP,aa8,abs,aca,true_and];omega
 unfold a8;rw [this];omega
theorem Gw (L:List Iy) {a c:Int} (h:a≤c):a8 L a 0≤a8 L c 0:=by
 have:=gC (p:=fJ a 0) (q:=fJ c 0) L fun x _ hx=>by
  simp only [fJ,abP,aa8,abs,aca,true_and] at hx ⊢;omega
 unfold a8;omega
theorem Gv (L:List Iy) {a c:Int} (h:a≤c):a8 L a 0≤a8 L c 1:=by
 have:=gC (p:=fJ a 0) (q:=fJ c 1) L fun x _ hx=>by
  simp only [fJ,abP,aa8,abs,aca,true_and] at hx ⊢;omega
 unfold a8;omega
theorem kj {L:List Iy} {a e b:Int} (ha:a≤e+1) (hb:e+1≤b) : ∀ {H:List Sn},(∀x∈H,x.1<x.2)→(∀x∈H,¬(x.1≤e∧e<x.2))→fy L H a e+fy L H (e+1) b=fy L H a b
 | [],_,_=>rfl
 | x::H,h1,h2=>by
  have ih:=kj (L:=L) ha hb (fun y hy=>h1 y (abd _ hy)) (fun y hy=>h2 y (abd _ hy));have q1:=h1 x abj;have q2:=h2 x abj;rw [jx,jx,jx];generalize OQ L x=q at *
  split<;>split<;>split<;>omega
theorem sQ {L:List Iy} {a:Int} : ∀ {H:List Sn},(∀x∈H,x.1<x.2)→fy L H a a=0
 | [],_=>rfl
 | x::H,h1=>by
  have q1:=h1 x abj;rw [jx,aa3 (by omega),sQ fun y hy=>h1 y (abd _ hy)];rfl
theorem xc {L:List Iy} {n:Int} : ∀ {H:List Sn} {last:Int},0≤last→fS n last H=true→fy L H 0 n=(H.map (OQ L)).sum
 | [],_,_,_=>rfl
 | x::H,last,h0,hr=>by
  obtain ⟨⟨h1,h2,h3⟩,h4⟩:=bZ.1 hr;rw [jx,aaY (by omega),xc (by omega) h4,abh,acu]
abbrev Px (l:List Int) (L:List Iy) (H:List Sn) (y:Nat × Nat):Int:=(gq (ci l L y.2 y.1 H):Int)+if y.2<l.length then 1 else 0
section
variable {l:List Int} {L:List Iy} {H:List Sn} (hp:L.Pairwise fun x y=>x.2.1≤y.2.1) (hr:fS l.length 0 H=true)
include hp hr
theorem w8 : ∀(d a:Nat),l.length - a≤d→a≤l.length → ∀(j:Nat) x,(aQ l H a)[j]? = some x→(((aQ l H a).take j).map (Px l L H)).sum=a8 L x.1 0 - a8 L a 0 - fy L H a x.1
 | d,a,hd,ha,j,x,hx=>by
  have hne : ∀x∈H,x.1<x.2:=fun x hx=>(bE hr x hx).2.1
  have he:=bM l H ha;rw [aQ] at hx ⊢;cases j with
  | zero=>
   simp only [abq,aa5] at hx;subst hx;rw [sQ hne];simp
  | succ j=>
   rw [abB] at hx;split at hx
   ·rename_i hlt;have ih:=w8 (d - 1) (aE l H a+1) (by omega) (by omega) j x hx;have hge:=w6 l H _ (aE l H a+1) (aaV _) (by omega) x (aa0 hx);have hno:=(fp.1 (eC l H ha hlt.1)).2;have hs:=kj (L:=L) (a:=a) (e:=aE l H a) (b:=x.1) (by omega) (by omega) hne (ld hno);have hz:=qY (L:=L) hp he.2 H a 0 (abN _) he.1 hr;have hsu:=xm L (aE l H a);rw [acB hlt,abn,abh,acu,ih,Px,aa3 hlt.1];simp only;rw [hz,show (((aE l H a+1:Nat)):Int)=(aE l H a:Int)+1 by omega];omega
   ·simp at hx
 termination_by d=>d
 decreasing_by omega
theorem w7 : ∀(d a:Nat),l.length - a≤d→a≤l.length→((aQ l H a).map (Px l L H)).sum=a8 L l.length 1 - a8 L a 0 - fy L H a l.length
 | d,a,hd,ha=>by
  have hne : ∀x∈H,x.1<x.2:=fun x hx=>(bE hr x hx).2.1
  have he:=bM l H ha;have hz:=qY (L:=L) hp he.2 H a 0 (abN _) he.1 hr;rw [aQ,abh,acu,Px];simp only;by_cases hlt:aE l H a<l.length
  ·have ih:=w7 (d - 1) (aE l H a+1) (by omega) (by omega);have hno:=(fp.1 (eC l H ha hlt)).2;have hs:=kj (L:=L) (a:=a) (e:=aE l H a) (b:=l.length) (by omega) (by omega) hne (ld hno);have hsu:=xm L (aE l H a);rw [acB ⟨hlt,he.1⟩,ih,aa3 hlt,hz,show (((aE l H a+1:Nat)):Int)=(aE l H a:Int)+1 by omega];omega
  ·rw [acX (by omega),aaY hlt,hz,show aE l H a=l.length by omega];simp only [acl,acV];omega
 termination_by d=>d
 decreasing_by omega
end
theorem yo {m:Int} : ∀(H:List Sn) (f:Int),fS m f H=true→f≤m→(aq (gv m f H)).d0=m - f∧(aq (gv m f H)).d1=m - f - (H.map fun y=>y.2 - y.1 - 1).sum
 | [],f,_,hf=>by
  have e1:=bH (gc (m - f)) [];have z:aq []=Sm.zero:=rfl;unfold gv;split
  ·simp only [z,Sm.zero,gc] at e1;simp only [gc,acl,acV];omega
  ·rw [z];simp only [Sm.zero,acl,acV];omega
 | x::H,f,hr,hf=>by
  obtain ⟨⟨h1,h2,h3⟩,h4⟩:=bZ.1 hr;obtain ⟨i1,i2⟩:=yo H x.2 h4 h3;have p2:=bH (md (x.2 - x.1)) (gv m x.2 H);simp only [md] at p2;rw [abh,acu];unfold gv;split
  ·have p1:=bH (gc (x.1 - f)) (md (x.2 - x.1)::gv m x.2 H);simp only [gc,md] at p1 ⊢;omega
  ·simp only [md];omega
theorem Kw {L:List Iy} {H:List Sn} {n a:Int} (hr:fS n 0 H=true) (hb : ∀x∈H,x.1<a→x.2≤a):Ku (H.map (lp L)) (a8 L a 0)=a8 L a 0 - fy L H 0 a:=by
 have hm:=bE hr;have h1:(match bb (H.map (lp L)) (a8 L a 0) with|some y=>y.1|none=>a8 L a 0)=a8 L a 0:=by
  cases hh:bb (H.map (lp L)) (a8 L a 0) with
  | none=>rfl
  | some y=>
   obtain ⟨q1,q2,q3⟩:=bV hh;obtain ⟨x,hx,rfl⟩:=abY.1 q1;have q2':a8 L x.1 1≤a8 L a 0:=q2;have q3':a8 L a 0<a8 L x.2 0:=q3;show a8 L x.1 1=a8 L a 0;by_cases hxa:x.1<a
   ·have:=Gw L (hb x hx hxa);omega
   ·have:=Gv L (show a≤x.1 by omega);omega
 have h2 : ∀K:List Sn,(∀x∈K,x∈H)→(((K.map (lp L)).filter fun y=>decide (y.2≤a8 L a 0)).map fun y=>y.2 - y.1 - 1).sum=fy L K 0 a:=by
  intro K;induction K with
  | nil=>intro _;rfl
  | cons x K ih=>
   intro hK;have ih':=ih fun y hy=>hK y (abd _ hy)
   have hx:=hm x (hK x abj);rw [jx,abh];by_cases hxa:x.2≤a
   ·have e:(lp L x).2≤a8 L a 0:=Gw L hxa;rw [abA (by simpa using e),abh,acu,ih',aaY (by omega)];rfl
   ·have e : ¬(lp L x).2≤a8 L a 0:=by
     have h3:=zi L (show a<x.2 by omega);have h4:=Gv L (abN a);show ¬a8 L x.2 0≤a8 L a 0;omega
    rw [abv (by simpa using e),ih',aa3 (by omega)];omega
 unfold Ku;rw [h1,h2 H fun _ h=>h]
end Go.Proofs.YtkkanlcjjpoklaaGreatDoor
