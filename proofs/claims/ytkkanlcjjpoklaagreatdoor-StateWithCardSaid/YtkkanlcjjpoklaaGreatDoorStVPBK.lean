/- What the theorem leans on, part 37. -/
import Derived.Test.YtkkanlcjjpoklaaGreatDoorStVPBH
import Derived.Test.YtkkanlcjjpoklaaGreatDoorStVPBJ
set_option linter.unusedSimpArgs false
set_option linter.unusedVariables false
set_option maxRecDepth 8000
namespace Go.Proofs.YtkkanlcjjpoklaaGreatDoor
def Uz (l:List Int) (a i:Nat):St:=⟨[(5,iv (aW (l.take i))),(10,Az (l.take a)),(11,iv a),(12,iv i)],[],0⟩
attribute [push_cast] Uz.eq_def
theorem Hg {l:List Int} {i:Nat} {r:Int} (h:l[i]? = some r):aW (l.take (i+1))=aW (l.take i)+if r=10 then 1 else 0:=by
 rw [ao h];unfold aW;rw [acg,Or];by_cases h:r=10<;>simp [h]
theorem Ka (l:List Int):aW l≤l.length:=acp _ _
theorem EZ (l:List Int) (hl:l.length≤100000000) (a:Nat) (ha:a≤l.length):ap Tryz.prog G0 102 [Az l,iv a] [] 0 (iv (aW (l.take a))) []:=by
 refine vF ab [0,1,4,5,7,10,11,12,13,17] Tryz.func102 rfl Tryz.results102 Tryz.ntmps102 ?_;(refine' zg)
 try rw [←acn]
 try rw [show ((l.take a).map dm).length=a by rw [aa4,aa7];omega]
 try rw [show (l.take a).length=a by rw [aa7];omega]
 refine vL (lv:=[0,1,4,5,7,10,11,12,13,17]) ab (Uz l a) (fun i=>i≤a) (fun i=>a - i) (0) ((aC.go [5,10,11,12] (by exact vT) rfl)) ?_ ?_
 ·exact aa1 _
 intro i hi;have hb:=Ka (l.take i);rw [aa7] at hb;rcases aa2 i a with hk|hk
 ·obtain ⟨r,hr⟩ : ∃r,l[i]? = some r:=⟨_,IO (by omega)⟩
  have hr':(l.take a)[i]? = some r:=by rw [adi hk];exact hr
  have e:=Hg hr;by_cases h10:r=10
  ·rw [aa3 h10] at e;(refine' jY hr')
   rw [show ((aW (l.take i):Nat):Int)+1=(aW (l.take (i+1)):Nat) by omega];refine aG.go (i+1) [5,10,11,12] (by exact vT) ?_ ?_
   ·show a - (i+1)<a - i;omega
   ·exact hk
  ·simp only [aaY h10,abD] at e;(refine' jY hr')
   rw [←e];refine aG.go (i+1) [5,10,11,12] (by exact vT) ?_ ?_
   ·show a - (i+1)<a - i;omega
   ·exact hk
 ·obtain rfl:i=a:=by omega
  (refine' zo)
abbrev S8 (l:List Int) (d1 d2 d3 d4 tb:D) (v5 v6:Int):bN:= .cell [Az l,.d d1,.d d2,.d d3,.d d4,.d tb,iv v5,iv v6]
abbrev Uf (P:D) (fr to:Int):bN:= .cell [.d P,iv fr,iv to]
def vlS (V:bN) (P:D) (fr to:Int) (q:List (List Cl)) (x:Int × List Rw):St:=
 ⟨[(2,.po 0 0),(3,.po 1 0),(5,.so 2 7 0 x.2.length),(6,tF q),(7,iv x.1)],[(0,V),(1,Uf P fr to),(2,.row 7 (x.2.map UQ))],3⟩
def vlI (V:bN) (P:D) (fr to:Int) (q:List (List Cl)) (d:Nat) (out:List Rw) (x:List Cl) (wr:Bool) (y:Int × Int × Bool):St:=
 ⟨[(2,.po 0 0),(3,.po 1 0),(5,.so 2 7 0 out.length),(6,tF q),(7,iv d),(8,.po 3 0),(9,iv y.1)],[(0,V),(1,Uf P fr to),(2,.row 7 (out.map UQ)),(3,.cell [dM x,iv y.2.1,iv to,iv 0,bv wr,bv y.2.2,iv (dH x)])],4⟩
attribute [push_cast] vlS.eq_def vlI.eq_def
theorem FO {α:Type} {l:List α} {k:Nat} {x:α} (h:l[k]? = some x):l.drop k=x::l.drop (k+1):=by
 obtain ⟨h1,rfl⟩:=aaX.1 h;exact abI h1
theorem Pk (fr:Int) (c:Cl) (r:List Cl):dk fr (c::r)=if c.2.1=5 then dk fr r else c.2.2.2:=by
 by_cases h:c.2.1=5
 ·rw [aa3 h,dk,List.find?_cons_of_neg (by simpa using h)];rfl
 ·rw [aaY h,mD h]
theorem Ox (c:Cl) (r:List Cl):wX (c::r)=(wX r||(c.2.1==3)):=by
 unfold wX;rw [List.any_cons,Bool.or_comm]
set_option maxHeartbeats 6400000 in
theorem M2 (l:List Int) (hll:l.length≤100000000) (d1 d2 d3 d4 tb:D) (tab wd:Int) (P:D) (fr to:Int) (C:D) (q:List (List Cl)) (hq:q.length≤100000000)
 (r1:ap Tryz.prog G0 100 [.d tb,.d P,iv tab] [] 0 (.d C) []) (r2:ap Tryz.prog G0 99 [.d C,iv wd] [] 0 (tF q) [])
 (hS : ∀r∈q,0≤dk fr r∧dk fr r≤l.length∧r.length≤100000000 ∧ ∀c∈r,cw c≤2) :
 ap Tryz.prog G0 48 [.d (.agg [.sd 1 false (l.map dm),d1,d2,d3,d4,tb,iD tab,iD wd]),.d (.agg [P,iD fr,iD to])] [] 0 (.d (.sd 7 false ((dg l fr to false q).map UQ))) []:=by
 refine vF ab [0,1,2,3,4,5,6,7,8,9,10,11,26,52,64,85] Tryz.func48 rfl Tryz.results48 Tryz.ntmps48 ?_;(refine' Ax r1 r2)
 refine vL (lv:=[0,1,2,3,4,5,6,7,8,9,10,11,26,52,64,85]) ab (vlS (S8 l d1 d2 d3 d4 tb tab wd) P fr to q) (fun x=> ∃c:Nat,x.1=(c:Int) - 1∧c≤q.length∧x.2=dg l fr to (decide (0<c)) (q.drop c)) (fun x=>(x.1+1).toNat) (((q.length:Int) - 1,[])) (aC.nil 5 7<|(aC.go [2,3,5,6,7] (by exact vT) rfl)) ?_ ?_
 ·exact ⟨q.length,rfl,aaV _,by rw [acY];rfl⟩
 rintro ⟨i,out⟩ ⟨c,g1,g2,g3⟩;simp only at g1 g2 g3;have hol:out.length≤q.length:=by rw [g3,jw,abg];omega
 rcases abH c with hc|hc
 ·subst hc;have:i = -1:=by omega
  subst this;rw [ac9,abM (Nat.lt_irrefl 0)] at g3;subst g3;(refine' zg)
  refine ae.frz 2 (ae.out ?_);(refine' zg)
  all_goals (try rw [aaW (by simp)])
 ·obtain ⟨d,rfl⟩ : ∃d,c=d+1:=⟨c - 1,by omega⟩
  have:i=d:=by omega
  subst this;rw [abw (ade d)] at g3;obtain ⟨x,hx⟩ : ∃x,q[d]? = some x:=⟨_,IO (by omega)⟩
  obtain ⟨k1,k2,k3,k4⟩:=hS x (aa0 hx);have r3:=o5 x k3 k4;have e1:dg l fr to (decide (0<d)) (q.drop d)=(x,dk fr x,B4 fr to (q.drop (d+1)),rF l (dk fr x),decide (0<d),wX x,dH x)::out:=by
   rw [abI (by omega),(aaX.1 hx).2,dg,←g3]
  have hwr:decide ((0:Int)<(d:Int))=decide (0<d):=by
   rw [act];simp
  obtain ⟨a,ha⟩ : ∃a:Nat,dk fr x=a:=⟨(dk fr x).toNat,by omega⟩
  have r4:=EZ l hll a (by omega);have hnx:(out=[]∧B4 fr to (q.drop (d+1))=to)∨(∃r0,out[0]? = some r0∧B4 fr to (q.drop (d+1))=r0.2.1):=by
   rw [g3];cases q.drop (d+1) with
   | nil=>exact .inl ⟨rfl,rfl⟩
   | cons z t=>exact .inr ⟨_,rfl,rfl⟩
  rw [←hwr] at e1;(refine' pD r3 hx)
  generalize decide ((0:Int)<(d:Int))=wr at *
  refine vL (lv:=[0,1,2,3,4,5,6,7,8,9,10,11,26,52,64,85]) ab (vlI (S8 l d1 d2 d3 d4 tb tab wd) P fr to q d out x wr) (fun y=> ∃c:Nat,y.1=(c:Int) - 1∧c≤x.length∧y.2.1=dk fr (x.drop c)∧y.2.2=wX (x.drop c)) (fun y=>(y.1+1).toNat) (((x.length:Int) - 1,fr,false)) ((aC.go [2,3,5,6,7,8,9] (by exact vT) rfl)) ?_ ?_
  ·exact ⟨x.length,rfl,aaV _,by rw [acY];rfl,by rw [acY];rfl⟩
  rintro ⟨k,st,fo⟩ ⟨c,c1,c2,c3,c4⟩;simp only at c1 c2 c3 c4;rcases abH c with hc0|hc0
  ·subst hc0;have:k = -1:=by omega
   subst this;rw [ac9] at c3 c4;rw [ha] at c3 e1;have e2:rF l (a:Int)=aW (l.take a):=rfl;rw [←c4,e2] at e1;subst c3;generalize aW (l.take a)=bk at *
   rcases hnx with ⟨h1,h2⟩|⟨r0,h1,h2⟩
   ·subst h1;rw [h2] at e1;(refine' Ng r4)
    refine aG.go (((d:Int) - 1,[(x,(a:Int),to,bk,wr,fo,dH x)])) [2,3,5,6,7] (by exact vT) ?_ ?_
    ·show ((d:Int) - 1+1).toNat<((d:Int)+1).toNat;omega
    ·exact ⟨d,rfl,by omega,by rw [←hwr];exact e1.symm⟩
   ·rw [h2] at e1;have hol0:=(aaX.1 h1).1;obtain ⟨p1,p2,p3,p4,p5,p6,p7⟩:=r0;(refine' pD r4 h1)
    refine aG.go (((d:Int) - 1,(x,(a:Int),p2,bk,wr,fo,dH x)::out)) [2,3,5,6,7] (by exact vT) ?_ ?_
    ·show ((d:Int) - 1+1).toNat<((d:Int)+1).toNat;omega
    ·exact ⟨d,rfl,by omega,by rw [←hwr];exact e1.symm⟩
  ·obtain ⟨e,rfl⟩ : ∃e,c=e+1:=⟨c - 1,by omega⟩
   have:k=e:=by omega
   subst this;obtain ⟨y,hy⟩ : ∃y,x[e]? = some y:=⟨_,IO (by omega)⟩
   have e3:=Pk fr y (x.drop (e+1));have e4:=Ox y (x.drop (e+1));rw [←FO hy,←c3] at e3;rw [←FO hy,←c4] at e4;obtain ⟨yr,yk,yw,ya⟩:=y;simp only at e3 e4;by_cases h5:yk=5
   ·rw [aa3 h5] at e3;(refine' wt hx hy)
    refine aG.go (((e:Int) - 1,st,fo||yk==3)) [2,3,5,6,7,8,9] (by exact vT) ?_ ?_
    ·show ((e:Int) - 1+1).toNat<((e:Int)+1).toNat;omega
    ·exact ⟨e,rfl,by omega,e3.symm,e4.symm⟩
   ·rw [aaY h5] at e3;(refine' wt hx hy)
    refine aG.go (((e:Int) - 1,ya,fo||yk==3)) [2,3,5,6,7,8,9] (by exact vT) ?_ ?_
    ·show ((e:Int) - 1+1).toNat<((e:Int)+1).toNat;omega
    ·exact ⟨e,rfl,by omega,e3.symm,e4.symm⟩

end Go.Proofs.YtkkanlcjjpoklaaGreatDoor
