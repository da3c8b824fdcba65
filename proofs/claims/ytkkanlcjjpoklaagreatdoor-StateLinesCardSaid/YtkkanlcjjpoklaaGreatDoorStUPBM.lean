/- What the theorem leans on, part 39. -/
import Derived.Test.YtkkanlcjjpoklaaGreatDoorStUPBH
import Derived.Test.YtkkanlcjjpoklaaGreatDoorStUPBJ
import Derived.Test.YtkkanlcjjpoklaaGreatDoorStUPBL
set_option linter.unusedSimpArgs false
set_option linter.unusedVariables false
set_option maxRecDepth 8000
namespace Go.Proofs.YtkkanlcjjpoklaaGreatDoor
def RX (l:List Int) (a i:Nat):St:=⟨[(5,iv (aT (l.take i))),(10,yE (l.take a)),(11,iv a),(12,iv i)],[],0⟩
attribute [push_cast] RX.eq_def
theorem Fh {l:List Int} {i:Nat} {r:Int} (h:l[i]? = some r):aT (l.take (i+1))=aT (l.take i)+if r=10 then 1 else 0:=by
 rw [ax h];unfold aT;rw [List.filter_append,List.length_append];by_cases h:r=10<;>simp [h]
theorem H8 (l:List Int):aT l≤l.length:=List.length_filter_le _ _
theorem C8 (l:List Int) (hl:l.length≤100000000) (a:Nat) (ha:a≤l.length):an Tryz.prog G0 102 [yE l,iv a] [] 0 (iv (aT (l.take a))) []:=by
 refine vF ab [0,1,4,5,7,10,11,12,13,17] Tryz.func102 rfl Tryz.results102 Tryz.ntmps102 ?_;(refine' zg)
 try rw [←List.map_take]
 try rw [show ((l.take a).map dy).length=a by rw [List.length_map,List.length_take];omega]
 try rw [show (l.take a).length=a by rw [List.length_take];omega]
 refine vL (lv:=[0,1,4,5,7,10,11,12,13,17]) ab (RX l a) (fun i=>i≤a) (fun i=>a - i) (0) ((aC.go [5,10,11,12] (by exact vT) rfl)) ?_ ?_
 ·exact Nat.zero_le _
 intro i hi;have hb:=H8 (l.take i);rw [List.length_take] at hb;rcases Nat.lt_or_ge i a with hk|hk
 ·obtain ⟨r,hr⟩ : ∃r,l[i]? = some r:=⟨_,List.getElem?_eq_getElem (by omega)⟩
  have hr':(l.take a)[i]? = some r:=by rw [List.getElem?_take_of_lt hk];exact hr
  have e:=Fh hr;by_cases h10:r=10
  ·rw [if_pos h10] at e;(refine' pp hr')
   rw [show ((aT (l.take i):Nat):Int)+1=(aT (l.take (i+1)):Nat) by omega];refine aG.go (i+1) [5,10,11,12] (by exact vT) ?_ ?_
   ·show a - (i+1)<a - i;omega
   ·exact hk
  ·simp only [if_neg h10,Nat.add_zero] at e;(refine' pp hr')
   rw [←e];refine aG.go (i+1) [5,10,11,12] (by exact vT) ?_ ?_
   ·show a - (i+1)<a - i;omega
   ·exact hk
 ·obtain rfl:i=a:=by omega
  (refine' zo)
abbrev Ny (l:List Int) (d1 d2 d3 d4 tb:D) (v5 v6:Int):bF:= .cell [yE l,.d d1,.d d2,.d d3,.d d4,.d tb,iv v5,iv v6]
abbrev RH (P:D) (fr to:Int):bF:= .cell [.d P,iv fr,iv to]
def ZC (V:bF) (P:D) (fr to:Int) (q:List (List Cl)) (x:Int × List Rw):St:=
 ⟨[(2,.po 0 0),(3,.po 1 0),(5,.so 2 7 0 x.2.length),(6,pI q),(7,iv x.1)],[(0,V),(1,RH P fr to),(2,.row 7 (x.2.map kA))],3⟩
def ZB (V:bF) (P:D) (fr to:Int) (q:List (List Cl)) (d:Nat) (out:List Rw) (x:List Cl) (wr:Bool) (y:Int × Int × Bool):St:=
 ⟨[(2,.po 0 0),(3,.po 1 0),(5,.so 2 7 0 out.length),(6,pI q),(7,iv d),(8,.po 3 0),(9,iv y.1)],[(0,V),(1,RH P fr to),(2,.row 7 (out.map kA)),(3,.cell [cM x,iv y.2.1,iv to,iv 0,bv wr,bv y.2.2,iv (cZ x)])],4⟩
attribute [push_cast] ZC.eq_def ZB.eq_def
theorem mh {α:Type} {l:List α} {k:Nat} {x:α} (h:l[k]? = some x):l.drop k=x::l.drop (k+1):=by
 obtain ⟨h1,rfl⟩:=List.getElem?_eq_some_iff.1 h;exact List.drop_eq_getElem_cons h1
theorem MV (fr:Int) (c:Cl) (r:List Cl):bo fr (c::r)=if c.2.1=5 then bo fr r else c.2.2.2:=by
 by_cases h:c.2.1=5
 ·rw [if_pos h,bo,List.find?_cons_of_neg (by simpa using h)];rfl
 ·rw [if_neg h,lL h]
theorem Mc (c:Cl) (r:List Cl):eQ (c::r)=(eQ r||(c.2.1==3)):=by
 unfold eQ;rw [List.any_cons,Bool.or_comm]
set_option maxHeartbeats 6400000 in
theorem Bu (l:List Int) (hll:l.length≤100000000) (d1 d2 d3 d4 tb:D) (tab wd:Int) (P:D) (fr to:Int) (C:D) (q:List (List Cl)) (hq:q.length≤100000000)
 (r1:an Tryz.prog G0 100 [.d tb,.d P,iv tab] [] 0 (.d C) []) (r2:an Tryz.prog G0 99 [.d C,iv wd] [] 0 (pI q) [])
 (hS : ∀r∈q,0≤bo fr r∧bo fr r≤l.length∧r.length≤100000000 ∧ ∀c∈r,cw c≤2) :
 an Tryz.prog G0 48 [.d (.agg [.sd 1 false (l.map dy),d1,d2,d3,d4,tb,iD tab,iD wd]),.d (.agg [P,iD fr,iD to])] [] 0 (.d (.sd 7 false ((bP l fr to false q).map kA))) []:=by
 refine vF ab [0,1,2,3,4,5,6,7,8,9,10,11,26,52,64,85] Tryz.func48 rfl Tryz.results48 Tryz.ntmps48 ?_;(refine' BC r1 r2)
 refine vL (lv:=[0,1,2,3,4,5,6,7,8,9,10,11,26,52,64,85]) ab (ZC (Ny l d1 d2 d3 d4 tb tab wd) P fr to q) (fun x=> ∃c:Nat,x.1=(c:Int) - 1∧c≤q.length∧x.2=bP l fr to (decide (0<c)) (q.drop c)) (fun x=>(x.1+1).toNat) (((q.length:Int) - 1,[])) (aC.nil 5 7<|(aC.go [2,3,5,6,7] (by exact vT) rfl)) ?_ ?_
 ·exact ⟨q.length,rfl,Nat.le_refl _,by rw [List.drop_length];rfl⟩
 rintro ⟨i,out⟩ ⟨c,g1,g2,g3⟩;simp only at g1 g2 g3;have hol:out.length≤q.length:=by rw [g3,eG,List.length_drop];omega
 rcases Nat.eq_zero_or_pos c with hc|hc
 ·subst hc;have:i = -1:=by omega
  subst this;rw [List.drop_zero,decide_eq_false (Nat.lt_irrefl 0)] at g3;subst g3;(refine' zg)
  refine ae.frz 2 (ae.out ?_);(refine' zg)
  all_goals (try rw [List.take_of_length_le (by simp)])
 ·obtain ⟨d,rfl⟩ : ∃d,c=d+1:=⟨c - 1,by omega⟩
  have:i=d:=by omega
  subst this;rw [decide_eq_true (Nat.succ_pos d)] at g3;obtain ⟨x,hx⟩ : ∃x,q[d]? = some x:=⟨_,List.getElem?_eq_getElem (by omega)⟩
  obtain ⟨k1,k2,k3,k4⟩:=hS x (List.mem_of_getElem? hx);have r3:=n7 x k3 k4;have e1:bP l fr to (decide (0<d)) (q.drop d)=(x,bo fr x,xF fr to (q.drop (d+1)),lb l (bo fr x),decide (0<d),eQ x,cZ x)::out:=by
   rw [List.drop_eq_getElem_cons (by omega),(List.getElem?_eq_some_iff.1 hx).2,bP,←g3]
  have hwr:decide ((0:Int)<(d:Int))=decide (0<d):=by
   rw [Bool.eq_iff_iff];simp
  obtain ⟨a,ha⟩ : ∃a:Nat,bo fr x=a:=⟨(bo fr x).toNat,by omega⟩
  have r4:=C8 l hll a (by omega);have hnx:(out=[]∧xF fr to (q.drop (d+1))=to)∨(∃r0,out[0]? = some r0∧xF fr to (q.drop (d+1))=r0.2.1):=by
   rw [g3];cases q.drop (d+1) with
   | nil=>exact .inl ⟨rfl,rfl⟩
   | cons z t=>exact .inr ⟨_,rfl,rfl⟩
  rw [←hwr] at e1;(refine' lS r3 hx)
  generalize decide ((0:Int)<(d:Int))=wr at *
  refine vL (lv:=[0,1,2,3,4,5,6,7,8,9,10,11,26,52,64,85]) ab (ZB (Ny l d1 d2 d3 d4 tb tab wd) P fr to q d out x wr) (fun y=> ∃c:Nat,y.1=(c:Int) - 1∧c≤x.length∧y.2.1=bo fr (x.drop c)∧y.2.2=eQ (x.drop c)) (fun y=>(y.1+1).toNat) (((x.length:Int) - 1,fr,false)) ((aC.go [2,3,5,6,7,8,9] (by exact vT) rfl)) ?_ ?_
  ·exact ⟨x.length,rfl,Nat.le_refl _,by rw [List.drop_length];rfl,by rw [List.drop_length];rfl⟩
  rintro ⟨k,st,fo⟩ ⟨c,c1,c2,c3,c4⟩;simp only at c1 c2 c3 c4;rcases Nat.eq_zero_or_pos c with hc0|hc0
  ·subst hc0;have:k = -1:=by omega
   subst this;rw [List.drop_zero] at c3 c4;rw [ha] at c3 e1;have e2:lb l (a:Int)=aT (l.take a):=rfl;rw [←c4,e2] at e1;subst c3;generalize aT (l.take a)=bk at *
   rcases hnx with ⟨h1,h2⟩|⟨r0,h1,h2⟩
   ·subst h1;rw [h2] at e1;(refine' K8 r4)
    refine aG.go (((d:Int) - 1,[(x,(a:Int),to,bk,wr,fo,cZ x)])) [2,3,5,6,7] (by exact vT) ?_ ?_
    ·show ((d:Int) - 1+1).toNat<((d:Int)+1).toNat;omega
    ·exact ⟨d,rfl,by omega,by rw [←hwr];exact e1.symm⟩
   ·rw [h2] at e1;have hol0:=(List.getElem?_eq_some_iff.1 h1).1;obtain ⟨p1,p2,p3,p4,p5,p6,p7⟩:=r0;(refine' lS r4 h1)
    refine aG.go (((d:Int) - 1,(x,(a:Int),p2,bk,wr,fo,cZ x)::out)) [2,3,5,6,7] (by exact vT) ?_ ?_
    ·show ((d:Int) - 1+1).toNat<((d:Int)+1).toNat;omega
    ·exact ⟨d,rfl,by omega,by rw [←hwr];exact e1.symm⟩
  ·obtain ⟨e,rfl⟩ : ∃e,c=e+1:=⟨c - 1,by omega⟩
   have:k=e:=by omega
   subst this;obtain ⟨y,hy⟩ : ∃y,x[e]? = some y:=⟨_,List.getElem?_eq_getElem (by omega)⟩
   have e3:=MV fr y (x.drop (e+1));have e4:=Mc y (x.drop (e+1));rw [←mh hy,←c3] at e3;rw [←mh hy,←c4] at e4;obtain ⟨yr,yk,yw,ya⟩:=y;simp only at e3 e4;by_cases h5:yk=5
   ·rw [if_pos h5] at e3;(refine' uJ hx hy)
    refine aG.go (((e:Int) - 1,st,fo||yk==3)) [2,3,5,6,7,8,9] (by exact vT) ?_ ?_
    ·show ((e:Int) - 1+1).toNat<((e:Int)+1).toNat;omega
    ·exact ⟨e,rfl,by omega,e3.symm,e4.symm⟩
   ·rw [if_neg h5] at e3;(refine' uJ hx hy)
    refine aG.go (((e:Int) - 1,ya,fo||yk==3)) [2,3,5,6,7,8,9] (by exact vT) ?_ ?_
    ·show ((e:Int) - 1+1).toNat<((e:Int)+1).toNat;omega
    ·exact ⟨e,rfl,by omega,e3.symm,e4.symm⟩
def ZD (V:bF) (l:List Int) (L:List Iy) (H:List Sn) (Ls:List (Nat × Nat)) (x:Nat × List Rw):St:=
 ⟨[(1,.po 0 0),(3,.so 1 7 0 x.2.length),(8,.d (.sd 3 false (Ls.map (nS l L H)))),(9,iv Ls.length),(10,iv x.1)],[(0,V),(1,.row 7 (x.2.map kA))],2⟩
attribute [push_cast] ZD.eq_def
set_option maxHeartbeats 3200000 in
theorem K1 (l:List Int) (L:List Iy) (H:List Sn) (Ls:List (Nat × Nat)) (hl:Ls.length≤100000) (d1 d2 d3 d4 tb:D) (tab wd:Int) (F:Nat × Nat→List Rw) (hF:(Ls.flatMap F).length≤1000000000000)
 (rA:an Tryz.prog G0 17 [.d (.agg [.sd 1 false (l.map dy),d1,d2,d3,d4])] [] 0 (.d (.sd 3 false (Ls.map (nS l L H)))) [])
 (h : ∀x∈Ls,an Tryz.prog G0 48 [.d (.agg [.sd 1 false (l.map dy),d1,d2,d3,d4,tb,iD tab,iD wd]),.d (nS l L H x)] [] 0 (.d (.sd 7 false ((F x).map kA))) []) :
 an Tryz.prog G0 13 [.d (.agg [.sd 1 false (l.map dy),d1,d2,d3,d4,tb,iD tab,iD wd])] [] 0 (.d (.sd 7 false ((Ls.flatMap F).map kA))) []:=by
 refine vF ab [0,1,2,3,5,8,9,10,11] Tryz.func13 rfl Tryz.results13 Tryz.ntmps13 ?_;(refine' fj rA)
 refine vL (lv:=[0,1,2,3,5,8,9,10,11]) ab (ZD (Ny l d1 d2 d3 d4 tb tab wd) l L H Ls) (fun x=>x.1≤Ls.length∧x.2++(Ls.drop x.1).flatMap F=Ls.flatMap F) (fun x=>Ls.length - x.1) ((0,[])) (aC.nil 3 7<|(aC.go [1,3,8,9,10] (by exact vT) rfl)) ?_ ?_
 ·exact ⟨Nat.zero_le _,rfl⟩
 rintro ⟨i,out⟩ ⟨g1,g2⟩;simp only at g1 g2;have ho:out.length≤1000000000000:=by have:=congrArg List.length g2;rw [List.length_append] at this;omega
 rcases Nat.lt_or_ge i Ls.length with hk|hk
 ·obtain ⟨x,hx⟩ : ∃x,Ls[i]? = some x:=⟨_,List.getElem?_eq_getElem hk⟩
  have r1:=h x (List.mem_of_getElem? hx);have hxl:(F x).length≤1000000000000:=by
   have e:=congrArg List.length g2;rw [mh hx,List.flatMap_cons,List.length_append,List.length_append] at e;omega
  rw [mh hx,List.flatMap_cons] at g2;have hD:nS l L H x = .agg [.sd 3 false ((b4 l L x.2 x.1 H).map fF),iD x.1,iD x.2]:=rfl;rw [hD] at r1;generalize F x=q at *
  (refine' lS r1 hx)
  try rw [←List.map_append]
  try rw [List.length_map]
  refine aG.go ((i+1,out++q)) [1,3,8,9,10] (by exact vT) ?_ ?_
  ·show Ls.length - (i+1)<Ls.length - i;omega
  ·exact ⟨hk,by rw [←g2];simp⟩
 ·rw [List.drop_of_length_le hk,List.flatMap_nil,List.append_nil] at g2;subst g2;(refine' zg)
  refine ae.frz 1 (ae.out ?_);(refine' zg)
  all_goals (try rw [List.take_of_length_le (by simp)])
theorem Iz {s:ByteArray} {L:List Iy} {F:List Sn} {tab:Nat} {wd:Int} (h:gM s L F tab wd):an Tryz.prog G0 13 [Ue s L F tab wd] [] 0 (.d (.sd 7 false ((ik s L F tab wd).map kA))) []:=by
 have hr:=(gy h.okT).1;have hrs:=h.rs;have hl:=h.hl;have hgl:=h.gd.len;have ht:=h.tab0;have hw:=h.wd0;have hlen:=h.lay.len;rw [ik,mD] at hlen ⊢;have rA:=DO (aa s 0) (aa s 0).length (aS L) (aD F) (by omega) (by omega) (by omega) h.gd.sz h.gd.so hr;refine K1 (aa s 0) (aS L) (aD F) _ (by have:=h.ll;omega) _ _ _ _ _ _ _ _ (Nat.le_trans hlen (by omega)) rA fun x hx =>?_
 have g:=h.lines x hx;exact Bu (aa s 0) (by omega) _ _ _ _ _ tab wd _ x.1 x.2 _ _ g.q (AD zT wT (by decide) (by decide) tab (by omega) _ g.pz g.fl) (AF _ g.ok wd hw) g.s
end Go.Proofs.YtkkanlcjjpoklaaGreatDoor
