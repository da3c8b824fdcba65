/- What the theorem leans on, part 36. -/
import Derived.Test.YtkkanlcjjpoklaaGreatDoorStVPBE
import Derived.Test.YtkkanlcjjpoklaaGreatDoorStVPBI
set_option linter.unusedSimpArgs false
set_option linter.unusedVariables false
set_option maxRecDepth 8000
namespace Go.Proofs.YtkkanlcjjpoklaaGreatDoor
def jU:Pz→Int
 | .tx k _ _=>k
 | .fo _=>3
def gk:Pz→Int
 | .tx _ a _=>a
 | .fo a=>a
def UL:Pz→D
 | .tx _ _ rs=> .sd 1 false (rs.map dm)
 | .fo _=>aB
def bq:Pz→List Int
 | .tx _ _ rs=>rs
 | .fo _=>[8230]
abbrev O7 (z:Pz):D:= .agg [iD (jU z),iD (gk z),UL z]
theorem SH:(iA:Pz→D)=O7:=funext fun z=>by cases z<;>rfl
theorem wV (k st:Int) : ∀(x:List Int) (a:Int),(dR k st a x).map (·.1)=x
 | [],_=>rfl
 | y::t,a=>by rw [dR,abh,wV k st t]
theorem wU (z:Pz):(dp z).map (·.1)=bq z:=by
 cases z with
 | tx k a rs=>exact wV _ _ _ _
 | fo a=>rfl
theorem Bj (k st:Int) : ∀(x:List Int) (a:Int) (i:Nat) (r:Int),x[i]? = some r→(dR k st a x)[i]? = some (r,k,a+st*i)
 | [],_,_,_,h=>by simp at h
 | y::t,a,0,r,h=>by
  simp only [abq,aa5] at h;subst h;simp [dR]
 | y::t,a,i+1,r,h=>by
  rw [abB] at h;rw [dR,abB,Bj k st t _ i r h];congr 3;rw [adE,Int.mul_add,Int.natCast_one,Int.mul_one];omega
theorem KZ {z:Pz} {i:Nat} {r:Int} (h:(bq z)[i]? = some r):(dp z)[i]? = some (r,jU z,if jU z=1 then gk z+i else gk z):=by
 cases z with
 | tx k a rs=>
  rw [dp,Bj k _ rs a i r h];simp only [jU,gk];congr 3;split<;>omega
 | fo a=>
  cases i with
  | zero=>simp only [bq,abq,aa5] at h;subst h;rfl
  | succ i=>simp [bq] at h
theorem iV (z:Pz):(dp z).length=(bq z).length:=by rw [←wU,aa4]
theorem mc {ps:List Pz} {j:Nat} {z:Pz} (h:ps[j]? = some z):aI (ps.take (j+1))=aI (ps.take j)++dp z:=by
 rw [ao h,bc,eg]
theorem K0 {ps:List Pz} {j k:Nat} {z:Pz} {e:Int × Int × Int} (h:ps[j]? = some z) (he:(dp z)[k]? = some e):(aI ps)[(aI (ps.take j)).length+k]? = some e:=by
 have e1:ps=ps.take (j+1)++ps.drop (j+1):=(abf _ _).symm;rw [e1,bc,mc h];have hk:=(aaX.1 he).1;rw [show (ps.take (j+1)++ps.drop (j+1)).take j=ps.take j by rw [←e1]];rw [aba,abZ (by omega),ab3 (by omega)];rw [show (aI (ps.take j)).length+k - (aI (ps.take j)).length=k by omega];exact he
theorem xA (z:Pz) (hz : ∀k a rs,z = .tx k a rs→k≠3):ap Tryz.prog G0 155 [.d (O7 z)] [] 0 (.d (.sd 1 false ((bq z).map dm))) []:=by
 cases z with
 | tx k a rs=>
  have:=hz k a rs rfl;simp only [O7,jU,gk,UL,bq];refine vF ab [0,1,2,5] Tryz.func155 rfl Tryz.results155 Tryz.ntmps155 ?_;(refine' zo)
 | fo a=>
  simp only [O7,jU,gk,UL,bq];refine vF ab [0,1,2,5] Tryz.func155 rfl Tryz.results155 Tryz.ntmps155 ?_;(refine' zg)
  refine ae.frz 20 (ae.out ?_);(refine' zg)
def f8A (z w:List (Int × Int)) (tab:Nat) (ps:List Pz) (x:Nat × List Int):St:=
 ⟨[(0,.d (wo z w)),(1,.d (.sd 3 false (ps.map O7))),(2,iv tab),(7,.so 0 1 0 x.2.length),(19,.d (.sd 3 false (ps.map O7))),(20,iv ps.length),(21,iv x.1)],[(0,.row 1 (x.2.map dm))],1⟩
def f8B (ss:List Nat) (ps:List Pz) (x:Nat × Nat × List Cl):St:=
 ⟨[(10,.d (.sd 1 false (ss.map od))),(11,.so 0 4 0 x.2.2.length),(12,iv x.2.1),(34,.d (.sd 3 false (ps.map O7))),(35,iv ps.length),(36,iv x.1)],[(0,Qp x.2.2)],1⟩
def f8C (ss:List Nat) (ps:List Pz) (j:Nat) (z:Pz) (x:Nat × Nat × List Cl):St:=
 ⟨[(10,.d (.sd 1 false (ss.map od))),(11,.so 0 4 0 x.2.2.length),(12,iv x.2.1),(14,.po 1 0),(34,.d (.sd 3 false (ps.map O7))),(35,iv ps.length),(36,iv j),(41,.d (.sd 1 false ((bq z).map dm))),(42,iv (bq z).length),(43,iv x.1)],
  [(0,Qp x.2.2),(1,.cell [iv (jU z),iv (gk z),.d (UL z)])],2⟩
def TV (ss:List Nat) (ps:List Pz) (j:Nat) (z:Pz) (k m:Nat) (c:Cl) (x:Nat × List Cl):St:=
 ⟨[(10,.d (.sd 1 false (ss.map od))),(11,.so 0 4 0 x.2.length),(12,iv m),(14,.po 1 0),(17,.po 2 0),(18,iv x.1),(34,.d (.sd 3 false (ps.map O7))),(35,iv ps.length),(36,iv j),(41,.d (.sd 1 false ((bq z).map dm))),(42,iv (bq z).length),(43,iv k)],
  [(0,Qp x.2),(1,.cell [iv (jU z),iv (gk z),.d (UL z)]),(2,.cell [.d (dm c.1),iv c.2.1,iv c.2.2.1,iv c.2.2.2])],3⟩
attribute [push_cast] f8A.eq_def f8B.eq_def f8C.eq_def TV.eq_def
theorem rK : ∀(l:List (Int × Int × Int)) (ss:List Nat),(∀s∈ss,s≤16)→(dK l ss).length≤16*l.length
 | [],_,_=>aa1 _
 | _::_,[],_=>aa1 _
 | x::t,s::r,h=>by
  have h1:=rK t r fun y hy=>h y (abd _ hy)
  have h2:=h s abj;rw [dK,List.zipWith_cons_cons,acf,Or,aa6];rw [dK] at h1;have h3:(fO x s).length≤16:=by
   rw [fO,aa6,abS];split<;>omega
  omega
theorem Js {ss:List Nat} (h : ∀s∈ss,s≤16) (m:Nat) : ∀s∈ss.take m,s≤16:=fun s hs=>h s (abm hs)
set_option maxHeartbeats 6400000 in
theorem L4 (z w:List (Int × Int)) (hz:z.length≤1000000) (hw:w.length≤1000000) (tab:Nat) (ht:1≤tab∧tab≤16) (ps:List Pz) (h:Ny ps) (hl:(aI ps).length≤4000000) :
 ap Tryz.prog G0 100 [.d (wo z w),.d (.sd 3 false (ps.map iA)),iv tab] [] 0 (dM (b7 z w tab 0 (aI ps))) []:=by
 have hpl:=h.len;have hkd:=h.kd;have hcl:=lZ (z:=z) (w:=w) ht.1 ht.2;rw [SH,←rJ];have r1:=IV z w hz hw tab ht ((aI ps).map (·.1)) (by rw [aa4];exact hl);have hsa:=fun (i:Nat) (x:Int × Int × Int) (s:Nat)=>Ff (z:=z) (w:=w) ht (aI ps) 0 i x s
 have hsl:(qC z w tab 0 ((aI ps).map (·.1))).length=(aI ps).length:=by rw [lC,aa4]
 have hrz : ∀y∈ps,∀k a rs,y = .tx k a rs→k≠3:=fun y hy k a rs e=>by
  have:=(h.kd k a rs (e▸hy)).1;omega
 have hcut:=wS ps;have hs16 : ∀s∈qC z w tab 0 ((aI ps).map (·.1)),s≤16:=fun s hs=>by
  obtain ⟨i,hi⟩:=ab6 hs;have hil:=(aaX.1 hi).1;obtain ⟨x,hx⟩ : ∃x,(aI ps)[i]? = some x:=⟨_,IO (by omega)⟩
  exact (hsa i x s hx hi).2
 generalize hss:qC z w tab 0 ((aI ps).map (·.1))=ss at *
 refine vF ab [0,1,2,6,7,9,10,11,12,14,15,16,17,18,19,20,21,22,34,35,36,37,41,42,43,44,60,67,80] Tryz.func100 rfl Tryz.results100 Tryz.ntmps100 ?_;(refine' zg)
 refine vL (lv:=[0,1,2,6,7,9,10,11,12,14,15,16,17,18,19,20,21,22,34,35,36,37,41,42,43,44,60,67,80]) ab (f8A z w tab ps) (fun x=>x.1≤ps.length∧x.2=(aI (ps.take x.1)).map (·.1)) (fun x=>ps.length - x.1) ((0,[])) (aC.nil 7 1<|(aC.go [0,1,2,7,19,20,21] (by exact vT) rfl)) ?_ ?_
 ·exact ⟨aa1 _,rfl⟩
 rintro ⟨j,all⟩ ⟨g1,g2⟩;simp only at g1 g2;have hal:all.length≤4000000:=by rw [g2,aa4];have:=hcut j;omega
 rcases aa2 j ps.length with hk|hk
 ·obtain ⟨y,hy⟩ : ∃y,ps[j]? = some y:=⟨_,IO hk⟩
  have r2:=xA y (hrz y (aa0 hy));have e1:(aI (ps.take (j+1))).map (·.1)=all++bq y:=by rw [mc hy,abc,wU,g2]
  have hyl:(bq y).length≤4000000:=by
   have e:=congrArg List.length e1;have:=hcut (j+1);rw [aa4,Or] at e;omega
  (refine' pD r2 hy)
  try rw [←abc]
  try rw [aa4]
  refine aG.go ((j+1,all++bq y)) [0,1,2,7,19,20,21] (by exact vT) ?_ ?_
  ·show ps.length - (j+1)<ps.length - j;omega
  ·exact ⟨hk,e1.symm⟩
 ·rw [aaW hk] at g2;rw [←g2] at r1;(refine' zg)
  refine au.frz 0 rfl ?_;(refine' fq r1)
  clear r1 g2 hal;refine vL (lv:=[0,1,2,6,7,9,10,11,12,14,15,16,17,18,19,20,21,22,34,35,36,37,41,42,43,44,60,67,80]) ab (f8B ss ps) (fun x=>x.1≤ps.length∧x.2.1=(aI (ps.take x.1)).length∧x.2.2=dK (aI (ps.take x.1)) (ss.take x.2.1)) (fun x=>ps.length - x.1) ((0,0,[])) (aC.nil 11 4<|(aC.go [10,11,12,34,35,36] (by exact vT) rfl)) ?_ ?_
  ·exact ⟨aa1 _,rfl,rfl⟩
  rintro ⟨j,m,out⟩ ⟨q1,q2,q3⟩;simp only at q1 q2 q3;rcases aa2 j ps.length with hk|hk
  ·obtain ⟨y,hy⟩ : ∃y,ps[j]? = some y:=⟨_,IO hk⟩
   have r2:=xA y (hrz y (aa0 hy));have e1:=mc hy;have hyl:(aI (ps.take j)).length+(bq y).length≤(aI ps).length:=by
    have e:=congrArg List.length e1;have:=hcut (j+1);rw [Or,iV] at e;omega
   (refine' pD r2 hy)
   refine vL (lv:=[0,1,2,6,7,9,10,11,12,14,15,16,17,18,19,20,21,22,34,35,36,37,41,42,43,44,60,67,80]) ab (f8C ss ps j y) (fun x=>x.1≤(bq y).length∧x.2.1=m+x.1∧x.2.2=dK (aI (ps.take j)++(dp y).take x.1) (ss.take x.2.1)) (fun x=>(bq y).length - x.1) ((0,m,out)) ((aC.go [10,11,12,14,34,35,36,41,42,43] (by exact vT) rfl)) ?_ ?_
   ·exact ⟨aa1 _,rfl,by simp only [abO,abb];exact q3⟩
   rintro ⟨k,m',ot⟩ ⟨q6,q4,q5⟩;simp only at q6 q4 q5;subst q4;have hol:ot.length≤64000000:=by
    have:=rK (aI (ps.take j)++(dp y).take k) (ss.take (m+k)) (Js hs16 _);rw [←q5,Or,aa7,iV] at this;omega
   rcases aa2 k (bq y).length with hkk|hkk
   ·obtain ⟨r,hr⟩ : ∃r,(bq y)[k]? = some r:=⟨_,IO hkk⟩
    have hpa:=KZ hr;have hfa:=K0 hy hpa;rw [←q2] at hfa;obtain ⟨s,hs⟩ : ∃s,ss[m+k]? = some s:=⟨_,IO (by omega)⟩
    obtain ⟨hs1,hs2⟩:=hsa _ _ _ hfa hs;have hml:m+k<ss.length:=(aaX.1 hs).1;have e2:dK (aI (ps.take j)++(dp y).take (k+1)) (ss.take (m+k+1))=ot++fO (r,jU y,if jU y=1 then gk y+k else gk y) s:=by
     rw [ao hpa,ao hs,←aba,pK,←q5];rw [Or,aa7,aa7,iV];omega
    have hy0:jU y=1→gk y≤100000000∧0≤gk y:=fun e=>by
     cases y with
     | tx kd a rs=>have:=hkd kd a rs (aa0 hy);exact ⟨this.2.2.1,this.2.1⟩
     | fo a=>cases e
    simp only at hs1;rw [fO] at e2;simp only at e2;have hssl:ss.length≤4000000:=by omega
    clear hcl hrz hcut hkd hsa hsl hs16 hpl hz hw ht hfa hpa r2 e1;skip;by_cases h9:r=9
    ·rw [aa3 h9] at hs1 e2;by_cases hk1:jU y=1
     ·rw [aa3 hk1] at e2;have hyb:=hy0 hk1;(refine' wt hr hs)
      rw [show ot.map iL++[D.agg [D.lit (Value.int IntKind.i32 r),D.lit (Value.int IntKind.i64 (jU y)),D.lit (Value.int IntKind.i64 1),D.lit (Value.int IntKind.i64 (gk y+(k:Int)))]]=(ot++[(r,jU y,1,gk y+(k:Int))]).map iL from eM ot (r,jU y,1,gk y+(k:Int)),aa4];refine vL (lv:=[0,1,2,6,7,9,10,11,12,14,15,16,17,18,19,20,21,22,34,35,36,37,41,42,43,44,60,67,80]) ab (TV ss ps j y k (m+k) (r,jU y,1,gk y+(k:Int))) (fun x=>1≤x.1∧x.1≤s∧x.2=ot++[(r,jU y,1,gk y+(k:Int))]++List.replicate (x.1 - 1) (32,4,1,gk y+(k:Int))) (fun x=>s - x.1) ((1,ot++[(r,jU y,1,gk y+(k:Int))])) ((aC.go [10,11,12,14,17,18,34,35,36,41,42,43] (by exact vT) rfl)) ?_ ?_
      ·exact ⟨aaV _,hs1,by rw [ac4];simp⟩
      rintro ⟨n,o2⟩ ⟨p1,p2,p3⟩;simp only at p1 p2 p3;have hol2:o2.length≤64000100:=by
       have:=congrArg List.length p3;simp only [Or,abS,abk] at this;omega
      rcases aa2 n s with hns|hns
      ·(refine' uN hs)
       rw [show o2.map iL++[D.agg [D.lit (Value.int IntKind.i32 32),D.lit (Value.int IntKind.i64 4),D.lit (Value.int IntKind.i64 1),D.lit (Value.int IntKind.i64 (gk y+(k:Int)))]]=(o2++[(32,4,1,gk y+(k:Int))]).map iL from eM o2 (32,4,1,gk y+(k:Int)),aa4];refine aG.go ((n+1,o2++[(32,4,1,gk y+(k:Int))])) [10,11,12,14,17,18,34,35,36,41,42,43] (by exact vT) ?_ ?_
       ·show s - (n+1)<s - n;omega
       ·exact ⟨by show 1≤n+1;omega,hns,by rw [p3,show n+1 - 1=(n - 1)+1 by omega,acr,aba]⟩
      ·have hne:n=s:=by omega
       rw [hne] at p3;(refine' uN hs)
       refine aG.go ((k+1,m+k+1,o2)) [10,11,12,14,34,35,36,41,42,43] (by exact vT) ?_ ?_
       ·show (bq y).length - (k+1)<(bq y).length - k;omega
       ·refine ⟨hkk,by show m+k+1=m+(k+1);omega,?_⟩;show o2=_;rw [p3,e2];try simp
     ·rw [aaY hk1] at e2;(refine' wt hr hs)
      rw [show ot.map iL++[D.agg [D.lit (Value.int IntKind.i32 r),D.lit (Value.int IntKind.i64 (jU y)),D.lit (Value.int IntKind.i64 1),D.lit (Value.int IntKind.i64 (gk y))]]=(ot++[(r,jU y,1,gk y)]).map iL from eM ot (r,jU y,1,gk y),aa4];refine vL (lv:=[0,1,2,6,7,9,10,11,12,14,15,16,17,18,19,20,21,22,34,35,36,37,41,42,43,44,60,67,80]) ab (TV ss ps j y k (m+k) (r,jU y,1,gk y)) (fun x=>1≤x.1∧x.1≤s∧x.2=ot++[(r,jU y,1,gk y)]++List.replicate (x.1 - 1) (32,4,1,gk y)) (fun x=>s - x.1) ((1,ot++[(r,jU y,1,gk y)])) ((aC.go [10,11,12,14,17,18,34,35,36,41,42,43] (by exact vT) rfl)) ?_ ?_
      ·exact ⟨aaV _,hs1,by rw [ac4];simp⟩
      rintro ⟨n,o2⟩ ⟨p1,p2,p3⟩;simp only at p1 p2 p3;have hol2:o2.length≤64000100:=by
       have:=congrArg List.length p3;simp only [Or,abS,abk] at this;omega
      rcases aa2 n s with hns|hns
      ·(refine' uN hs)
       rw [show o2.map iL++[D.agg [D.lit (Value.int IntKind.i32 32),D.lit (Value.int IntKind.i64 4),D.lit (Value.int IntKind.i64 1),D.lit (Value.int IntKind.i64 (gk y))]]=(o2++[(32,4,1,gk y)]).map iL from eM o2 (32,4,1,gk y),aa4];refine aG.go ((n+1,o2++[(32,4,1,gk y)])) [10,11,12,14,17,18,34,35,36,41,42,43] (by exact vT) ?_ ?_
       ·show s - (n+1)<s - n;omega
       ·exact ⟨by show 1≤n+1;omega,hns,by rw [p3,show n+1 - 1=(n - 1)+1 by omega,acr,aba]⟩
      ·have hne:n=s:=by omega
       rw [hne] at p3;(refine' uN hs)
       refine aG.go ((k+1,m+k+1,o2)) [10,11,12,14,34,35,36,41,42,43] (by exact vT) ?_ ?_
       ·show (bq y).length - (k+1)<(bq y).length - k;omega
       ·refine ⟨hkk,by show m+k+1=m+(k+1);omega,?_⟩;show o2=_;rw [p3,e2];try simp
    ·rw [aaY h9] at hs1 e2;by_cases hk1:jU y=1
     ·rw [aa3 hk1] at e2;have hyb:=hy0 hk1;(refine' wt hr hs)
      rw [show ot.map iL++[D.agg [D.lit (Value.int IntKind.i32 r),D.lit (Value.int IntKind.i64 (jU y)),D.lit (Value.int IntKind.i64 (s:Int)),D.lit (Value.int IntKind.i64 (gk y+(k:Int)))]]=(ot++[(r,jU y,s,gk y+(k:Int))]).map iL from eM ot (r,jU y,s,gk y+(k:Int)),aa4];refine vL (lv:=[0,1,2,6,7,9,10,11,12,14,15,16,17,18,19,20,21,22,34,35,36,37,41,42,43,44,60,67,80]) ab (TV ss ps j y k (m+k) (r,jU y,s,gk y+(k:Int))) (fun x=>s≤x.1∧x.1≤s∧x.2=ot++[(r,jU y,s,gk y+(k:Int))]++List.replicate (x.1 - s) (32,4,1,gk y+(k:Int))) (fun x=>s - x.1) ((s,ot++[(r,jU y,s,gk y+(k:Int))])) ((aC.go [10,11,12,14,17,18,34,35,36,41,42,43] (by exact vT) rfl)) ?_ ?_
      ·exact ⟨aaV _,hs1,by rw [ac4];simp⟩
      rintro ⟨n,o2⟩ ⟨p1,p2,p3⟩;simp only at p1 p2 p3;have hol2:o2.length≤64000100:=by
       have:=congrArg List.length p3;simp only [Or,abS,abk] at this;omega
      rcases aa2 n s with hns|hns
      ·omega
      ·have hne:n=s:=by omega
       rw [hne] at p3;(refine' uN hs)
       refine aG.go ((k+1,m+k+1,o2)) [10,11,12,14,34,35,36,41,42,43] (by exact vT) ?_ ?_
       ·show (bq y).length - (k+1)<(bq y).length - k;omega
       ·refine ⟨hkk,by show m+k+1=m+(k+1);omega,?_⟩;show o2=_;rw [p3,e2];try simp
     ·rw [aaY hk1] at e2;(refine' wt hr hs)
      rw [show ot.map iL++[D.agg [D.lit (Value.int IntKind.i32 r),D.lit (Value.int IntKind.i64 (jU y)),D.lit (Value.int IntKind.i64 (s:Int)),D.lit (Value.int IntKind.i64 (gk y))]]=(ot++[(r,jU y,s,gk y)]).map iL from eM ot (r,jU y,s,gk y),aa4];refine vL (lv:=[0,1,2,6,7,9,10,11,12,14,15,16,17,18,19,20,21,22,34,35,36,37,41,42,43,44,60,67,80]) ab (TV ss ps j y k (m+k) (r,jU y,s,gk y)) (fun x=>s≤x.1∧x.1≤s∧x.2=ot++[(r,jU y,s,gk y)]++List.replicate (x.1 - s) (32,4,1,gk y)) (fun x=>s - x.1) ((s,ot++[(r,jU y,s,gk y)])) ((aC.go [10,11,12,14,17,18,34,35,36,41,42,43] (by exact vT) rfl)) ?_ ?_
      ·exact ⟨aaV _,hs1,by rw [ac4];simp⟩
      rintro ⟨n,o2⟩ ⟨p1,p2,p3⟩;simp only at p1 p2 p3;have hol2:o2.length≤64000100:=by
       have:=congrArg List.length p3;simp only [Or,abS,abk] at this;omega
      rcases aa2 n s with hns|hns
      ·omega
      ·have hne:n=s:=by omega
       rw [hne] at p3;(refine' uN hs)
       refine aG.go ((k+1,m+k+1,o2)) [10,11,12,14,34,35,36,41,42,43] (by exact vT) ?_ ?_
       ·show (bq y).length - (k+1)<(bq y).length - k;omega
       ·refine ⟨hkk,by show m+k+1=m+(k+1);omega,?_⟩;show o2=_;rw [p3,e2];try simp
   ·have hke:k=(bq y).length:=by omega
    subst hke;rw [show (dp y).take (bq y).length=dp y from aaW (by rw [iV];exact aaV _),←e1] at q5;(refine' zg)
    refine aG.go ((j+1,m+(bq y).length,ot)) [10,11,12,34,35,36] (by exact vT) ?_ ?_
    ·show ps.length - (j+1)<ps.length - j;omega
    ·exact ⟨hk,by rw [e1,Or,iV,←q2],q5⟩
  ·rw [aaW hk] at q2 q3;rw [q2,aaW (by omega)] at q3;subst q3;(refine' zg)
   refine ae.frz 0 (ae.out ?_);(refine' zg)
   all_goals (try rw [aaW (by simp)])
end Go.Proofs.YtkkanlcjjpoklaaGreatDoor
