/- What the theorem leans on, part 44. -/
import Derived.Test.YtkhonlnajdfhfaaGreatDoorLtYPBK
import Derived.Test.YtkhonlnajdfhfaaGreatDoorLtYPBQ
set_option linter.unusedSimpArgs false
set_option linter.unusedVariables false
set_option maxRecDepth 8000
namespace Go.Proofs.YtkhonlnajdfhfaaGreatDoor
def rbkS (l:List Int) (a i:Nat):St:=⟨[(5,iv (brkN (l.take i))),(10,ruL (l.take a)),(11,iv a),(12,iv i)],[],0⟩
attribute [push_cast] rbkS.eq_def
theorem brkN_take {l:List Int} {i:Nat} {r:Int} (h:l[i]? = some r):brkN (l.take (i+1))=brkN (l.take i)+if r=10 then 1 else 0:=by
 rw [take_snoc' h]
 unfold brkN
 rw [List.filter_append,List.length_append]
 by_cases h:r=10<;>simp [h]
theorem brkN_leF (l:List Int):brkN l≤l.length:=List.length_filter_le _ _
theorem rbreaks_fn (l:List Int) (hl:l.length≤100000000) (a:Nat) (ha:a≤l.length):OFn Tryz.prog G0 61 [ruL l,iv a] [] 0 (iv (brkN (l.take a))) []:=by
 refine vF mixed [0,1,4,5,7,10,11,12,13,17] Tryz.func61 rfl Tryz.results61 Tryz.ntmps61 ?_
 (refine' zg)
 try rw [←List.map_take]
 try rw [show ((l.take a).map ruD).length=a by rw [List.length_map,List.length_take];omega]
 try rw [show (l.take a).length=a by rw [List.length_take];omega]
 refine vL (lv:=[0,1,4,5,7,10,11,12,13,17]) mixed (rbkS l a) (fun i=>i≤a) (fun i=>a - i) (0) ((GhW.go [5,10,11,12] (by exact vT) rfl)) ?_ ?_
 ·exact Nat.zero_le _
 intro i hi
 have hb:=brkN_leF (l.take i)
 rw [List.length_take] at hb
 rcases Nat.lt_or_ge i a with hk|hk
 ·obtain ⟨r,hr⟩ : ∃r,l[i]? = some r:=⟨_,List.getElem?_eq_getElem (by omega)⟩
  have hr':(l.take a)[i]? = some r:=by rw [List.getElem?_take_of_lt hk];exact hr
  have e:=brkN_take hr
  by_cases h10:r=10
  ·rw [if_pos h10] at e
   (refine' zgE hr')
   rw [show ((brkN (l.take i):Nat):Int)+1=(brkN (l.take (i+1)):Nat) by omega]
   refine AgW.go (i+1) [5,10,11,12] (by exact vT) ?_ ?_
   ·show a - (i+1)<a - i
    omega
   ·exact hk
  ·simp only [if_neg h10,Nat.add_zero] at e
   (refine' zgE hr')
   rw [←e]
   refine AgW.go (i+1) [5,10,11,12] (by exact vT) ?_ ?_
   ·show a - (i+1)<a - i
    omega
   ·exact hk
 ·obtain rfl:i=a:=by omega
  (refine' zo)
abbrev vwC8 (l:List Int) (d1 d2 d3 d4 tb:D) (v5 v6:Int):Blk:= .cell [ruL l,.d d1,.d d2,.d d3,.d d4,.d tb,iv v5,iv v6]
abbrev liC3 (P:D) (fr to:Int):Blk:= .cell [.d P,iv fr,iv to]
def vlS (V:Blk) (P:D) (fr to:Int) (q:List (List Cl)) (x:Int × List Rw):St:=
 ⟨[(2,.po 0 0),(3,.po 1 0),(5,.so 2 7 0 x.2.length),(6,rwsL q),(7,iv x.1)],[(0,V),(1,liC3 P fr to),(2,.row 7 (x.2.map rwD))],3⟩
def vlI (V:Blk) (P:D) (fr to:Int) (q:List (List Cl)) (d:Nat) (out:List Rw) (x:List Cl) (wr:Bool) (y:Int × Int × Bool):St:=
 ⟨[(2,.po 0 0),(3,.po 1 0),(5,.so 2 7 0 out.length),(6,rwsL q),(7,iv d),(8,.po 3 0),(9,iv y.1)],[(0,V),(1,liC3 P fr to),(2,.row 7 (out.map rwD)),(3,.cell [clL x,iv y.2.1,iv to,iv 0,bv wr,bv y.2.2,iv (wid x)])],4⟩
attribute [push_cast] vlS.eq_def vlI.eq_def
theorem drop_a5 {α:Type} {l:List α} {k:Nat} {x:α} (h:l[k]? = some x):l.drop k=x::l.drop (k+1):=by
 obtain ⟨h1,rfl⟩:=List.getElem?_eq_some_iff.1 h
 exact List.drop_eq_getElem_cons h1
theorem rowSt_c (fr:Int) (c:Cl) (r:List Cl):rowSt fr (c::r)=if c.2.1=5 then rowSt fr r else c.2.2.2:=by
 by_cases h:c.2.1=5
 ·rw [if_pos h,rowSt,List.find?_cons_of_neg (by simpa using h)];rfl
 ·rw [if_neg h,rowSt_cons h]
theorem fold3_c (c:Cl) (r:List Cl):fold3 (c::r)=(fold3 r||(c.2.1==3)):=by
 unfold fold3;rw [List.any_cons,Bool.or_comm]
set_option maxHeartbeats 6400000 in
theorem vLine_fn (l:List Int) (hll:l.length≤100000000) (d1 d2 d3 d4 tb:D) (tab wd:Int) (P:D) (fr to:Int) (C:D) (q:List (List Cl)) (hq:q.length≤100000000)
 (r1:OFn Tryz.prog G0 59 [.d tb,.d P,iv tab] [] 0 (.d C) []) (r2:OFn Tryz.prog G0 58 [.d C,iv wd] [] 0 (rwsL q) [])
 (hS : ∀r∈q,0≤rowSt fr r∧rowSt fr r≤l.length∧r.length≤100000000 ∧ ∀c∈r,cw c≤2) :
 OFn Tryz.prog G0 30 [.d (.agg [.sd 1 false (l.map ruD),d1,d2,d3,d4,tb,iD tab,iD wd]),.d (.agg [P,iD fr,iD to])] [] 0 (.d (.sd 7 false ((lineRs l fr to false q).map rwD))) []:=by
 refine vF mixed [0,1,2,3,4,5,6,7,8,9,10,11,26,52,64,85] Tryz.func30 rfl Tryz.results30 Tryz.ntmps30 ?_
 (refine' zg2 r1 r2)
 refine vL (lv:=[0,1,2,3,4,5,6,7,8,9,10,11,26,52,64,85]) mixed (vlS (vwC8 l d1 d2 d3 d4 tb tab wd) P fr to q) (fun x=> ∃c:Nat,x.1=(c:Int) - 1∧c≤q.length∧x.2=lineRs l fr to (decide (0<c)) (q.drop c)) (fun x=>(x.1+1).toNat) (((q.length:Int) - 1,[])) (GhW.nil 5 7<|(GhW.go [2,3,5,6,7] (by exact vT) rfl)) ?_ ?_
 ·exact ⟨q.length,rfl,Nat.le_refl _,by rw [List.drop_length];rfl⟩
 rintro ⟨i,out⟩ ⟨c,g1,g2,g3⟩
 simp only at g1 g2 g3
 have hol:out.length≤q.length:=by rw [g3,lineRs_len,List.length_drop];omega
 rcases Nat.eq_zero_or_pos c with hc|hc
 ·subst hc
  have:i = -1:=by omega
  subst this
  rw [List.drop_zero,decide_eq_false (Nat.lt_irrefl 0)] at g3
  subst g3
  (refine' zg)
  refine DoneW.frz 2 (DoneW.out ?_)
  (refine' zg)
  all_goals (try rw [List.take_of_length_le (by simp)])
 ·obtain ⟨d,rfl⟩ : ∃d,c=d+1:=⟨c - 1,by omega⟩
  have:i=d:=by omega
  subst this
  rw [decide_eq_true (Nat.succ_pos d)] at g3
  obtain ⟨x,hx⟩ : ∃x,q[d]? = some x:=⟨_,List.getElem?_eq_getElem (by omega)⟩
  obtain ⟨k1,k2,k3,k4⟩:=hS x (List.mem_of_getElem? hx)
  have r3:=rWidth_fn x k3 k4
  have e1:lineRs l fr to (decide (0<d)) (q.drop d)=(x,rowSt fr x,nxtS fr to (q.drop (d+1)),brkA l (rowSt fr x),decide (0<d),fold3 x,wid x)::out:=by
   rw [List.drop_eq_getElem_cons (by omega),(List.getElem?_eq_some_iff.1 hx).2,lineRs,←g3]
  have hwr:decide ((0:Int)<(d:Int))=decide (0<d):=by
   rw [Bool.eq_iff_iff];simp
  obtain ⟨a,ha⟩ : ∃a:Nat,rowSt fr x=a:=⟨(rowSt fr x).toNat,by omega⟩
  have r4:=rbreaks_fn l hll a (by omega)
  have hnx:(out=[]∧nxtS fr to (q.drop (d+1))=to)∨(∃r0,out[0]? = some r0∧nxtS fr to (q.drop (d+1))=r0.2.1):=by
   rw [g3]
   cases q.drop (d+1) with
   | nil=>exact .inl ⟨rfl,rfl⟩
   | cons z t=>exact .inr ⟨_,rfl,rfl⟩
  rw [←hwr] at e1
  (refine' zm11 r3 hx)
  generalize decide ((0:Int)<(d:Int))=wr at *
  refine vL (lv:=[0,1,2,3,4,5,6,7,8,9,10,11,26,52,64,85]) mixed (vlI (vwC8 l d1 d2 d3 d4 tb tab wd) P fr to q d out x wr) (fun y=> ∃c:Nat,y.1=(c:Int) - 1∧c≤x.length∧y.2.1=rowSt fr (x.drop c)∧y.2.2=fold3 (x.drop c)) (fun y=>(y.1+1).toNat) (((x.length:Int) - 1,fr,false)) ((GhW.go [2,3,5,6,7,8,9] (by exact vT) rfl)) ?_ ?_
  ·exact ⟨x.length,rfl,Nat.le_refl _,by rw [List.drop_length];rfl,by rw [List.drop_length];rfl⟩
  rintro ⟨k,st,fo⟩ ⟨c,c1,c2,c3,c4⟩
  simp only at c1 c2 c3 c4
  rcases Nat.eq_zero_or_pos c with hc0|hc0
  ·subst hc0
   have:k = -1:=by omega
   subst this
   rw [List.drop_zero] at c3 c4
   rw [ha] at c3 e1
   have e2:brkA l (a:Int)=brkN (l.take a):=rfl
   rw [←c4,e2] at e1
   subst c3
   generalize brkN (l.take a)=bk at *
   rcases hnx with ⟨h1,h2⟩|⟨r0,h1,h2⟩
   ·subst h1
    rw [h2] at e1
    (refine' zm10 r4)
    refine AgW.go (((d:Int) - 1,[(x,(a:Int),to,bk,wr,fo,wid x)])) [2,3,5,6,7] (by exact vT) ?_ ?_
    ·show ((d:Int) - 1+1).toNat<((d:Int)+1).toNat
     omega
    ·exact ⟨d,rfl,by omega,by rw [←hwr];exact e1.symm⟩
   ·rw [h2] at e1
    have hol0:=(List.getElem?_eq_some_iff.1 h1).1
    obtain ⟨p1,p2,p3,p4,p5,p6,p7⟩:=r0
    (refine' zm11 r4 h1)
    refine AgW.go (((d:Int) - 1,(x,(a:Int),p2,bk,wr,fo,wid x)::out)) [2,3,5,6,7] (by exact vT) ?_ ?_
    ·show ((d:Int) - 1+1).toNat<((d:Int)+1).toNat
     omega
    ·exact ⟨d,rfl,by omega,by rw [←hwr];exact e1.symm⟩
  ·obtain ⟨e,rfl⟩ : ∃e,c=e+1:=⟨c - 1,by omega⟩
   have:k=e:=by omega
   subst this
   obtain ⟨y,hy⟩ : ∃y,x[e]? = some y:=⟨_,List.getElem?_eq_getElem (by omega)⟩
   have e3:=rowSt_c fr y (x.drop (e+1))
   have e4:=fold3_c y (x.drop (e+1))
   rw [←drop_a5 hy,←c3] at e3
   rw [←drop_a5 hy,←c4] at e4
   obtain ⟨yr,yk,yw,ya⟩:=y
   simp only at e3 e4
   by_cases h5:yk=5
   ·rw [if_pos h5] at e3
    (refine' zm02 hx hy)
    refine AgW.go (((e:Int) - 1,st,fo||yk==3)) [2,3,5,6,7,8,9] (by exact vT) ?_ ?_
    ·show ((e:Int) - 1+1).toNat<((e:Int)+1).toNat
     omega
    ·exact ⟨e,rfl,by omega,e3.symm,e4.symm⟩
   ·rw [if_neg h5] at e3
    (refine' zm02 hx hy)
    refine AgW.go (((e:Int) - 1,ya,fo||yk==3)) [2,3,5,6,7,8,9] (by exact vT) ?_ ?_
    ·show ((e:Int) - 1+1).toNat<((e:Int)+1).toNat
     omega
    ·exact ⟨e,rfl,by omega,e3.symm,e4.symm⟩
def vrS (V:Blk) (l:List Int) (L:List Iy) (H:List Sn) (Ls:List (Nat × Nat)) (x:Nat × List Rw):St:=
 ⟨[(1,.po 0 0),(3,.so 1 7 0 x.2.length),(8,.d (.sd 3 false (Ls.map (lnD l L H)))),(9,iv Ls.length),(10,iv x.1)],[(0,V),(1,.row 7 (x.2.map rwD))],2⟩
attribute [push_cast] vrS.eq_def
set_option maxHeartbeats 3200000 in
theorem vRows_fn (l:List Int) (L:List Iy) (H:List Sn) (Ls:List (Nat × Nat)) (hl:Ls.length≤100000) (d1 d2 d3 d4 tb:D) (tab wd:Int) (F:Nat × Nat→List Rw) (hF:(Ls.flatMap F).length≤1000000000000)
 (rA:OFn Tryz.prog G0 29 [.d (.agg [.sd 1 false (l.map ruD),d1,d2,d3,d4])] [] 0 (.d (.sd 3 false (Ls.map (lnD l L H)))) [])
 (h : ∀x∈Ls,OFn Tryz.prog G0 30 [.d (.agg [.sd 1 false (l.map ruD),d1,d2,d3,d4,tb,iD tab,iD wd]),.d (lnD l L H x)] [] 0 (.d (.sd 7 false ((F x).map rwD))) []) :
 OFn Tryz.prog G0 11 [.d (.agg [.sd 1 false (l.map ruD),d1,d2,d3,d4,tb,iD tab,iD wd])] [] 0 (.d (.sd 7 false ((Ls.flatMap F).map rwD))) []:=by
 refine vF mixed [0,1,2,3,5,8,9,10,11] Tryz.func11 rfl Tryz.results11 Tryz.ntmps11 ?_
 (refine' zg1 rA)
 refine vL (lv:=[0,1,2,3,5,8,9,10,11]) mixed (vrS (vwC8 l d1 d2 d3 d4 tb tab wd) l L H Ls) (fun x=>x.1≤Ls.length∧x.2++(Ls.drop x.1).flatMap F=Ls.flatMap F) (fun x=>Ls.length - x.1) ((0,[])) (GhW.nil 3 7<|(GhW.go [1,3,8,9,10] (by exact vT) rfl)) ?_ ?_
 ·exact ⟨Nat.zero_le _,rfl⟩
 rintro ⟨i,out⟩ ⟨g1,g2⟩
 simp only at g1 g2
 have ho:out.length≤1000000000000:=by have:=congrArg List.length g2;rw [List.length_append] at this;omega
 rcases Nat.lt_or_ge i Ls.length with hk|hk
 ·obtain ⟨x,hx⟩ : ∃x,Ls[i]? = some x:=⟨_,List.getElem?_eq_getElem hk⟩
  have r1:=h x (List.mem_of_getElem? hx)
  have hxl:(F x).length≤1000000000000:=by
   have e:=congrArg List.length g2
   rw [drop_a5 hx,List.flatMap_cons,List.length_append,List.length_append] at e;omega
  rw [drop_a5 hx,List.flatMap_cons] at g2
  have hD:lnD l L H x = .agg [.sd 3 false ((runP l L x.2 x.1 H).map pzD),iD x.1,iD x.2]:=rfl
  rw [hD] at r1
  generalize F x=q at *
  (refine' zm11 r1 hx)
  try rw [←List.map_append]
  try rw [List.length_map]
  refine AgW.go ((i+1,out++q)) [1,3,8,9,10] (by exact vT) ?_ ?_
  ·show Ls.length - (i+1)<Ls.length - i
   omega
  ·exact ⟨hk,by rw [←g2];simp⟩
 ·rw [List.drop_of_length_le hk,List.flatMap_nil,List.append_nil] at g2
  subst g2
  (refine' zg)
  refine DoneW.frz 1 (DoneW.out ?_)
  (refine' zg)
  all_goals (try rw [List.take_of_length_le (by simp)])
end Go.Proofs.YtkhonlnajdfhfaaGreatDoor
