/- What the theorem leans on, part 43. -/
import Derived.Test.YtkkanlcjjpoklaaGreatDoorStVPBO
import Derived.Test.YtkkanlcjjpoklaaGreatDoorStVPBP
set_option linter.unusedSimpArgs false
set_option linter.unusedVariables false
set_option maxRecDepth 8000
namespace Go.Proofs.YtkkanlcjjpoklaaGreatDoor
abbrev iU (A:List Fl):V:= .d (.sd 4 false (A.map eZ))
def XV (A B:List Pc) (i:Nat):St:=⟨[(0,iE A),(1,iE B),(12,iv A.length),(13,iv i)],[],0⟩
def TS (A B:List Fl) (i:Nat):St:=⟨[(0,.d (.sd 4 false (A.map eZ))),(1,.d (.sd 4 false (B.map eZ))),(12,iv A.length),(13,iv i)],[],0⟩
attribute [push_cast] XV.eq_def TS.eq_def
theorem RD (A B:List Pc) (hl:A.length≤1000000∧B.length≤1000000):ap Tryz.prog G0 85 [iE A,iE B] [] 0 (bv (decide (A=B))) []:=by
 by_cases hab:A.length=B.length
 ·refine vF ab [0,1,4,5,10,12,13,14,24] Tryz.func85 rfl Tryz.results85 Tryz.ntmps85 ?_;(refine' zg)
  refine vL (lv:=[0,1,4,5,10,12,13,14,24]) ab (XV A B) (fun i=>i≤A.length∧A.take i=B.take i) (fun i=>A.length - i) (0) ((aC.go [0,1,12,13] (by exact vT) rfl)) ?_ ?_
  ·exact ⟨aa1 _,rfl⟩
  rintro i ⟨hi,he⟩;rcases aa2 i A.length with hlt|hge
  ·obtain ⟨x,hx⟩ : ∃x,A[i]? = some x:=⟨_,IO hlt⟩
   obtain ⟨y,hy⟩ : ∃y,B[i]? = some y:=⟨_,IO (by omega)⟩
   by_cases hxy:x=y
   ·subst hxy;have e2:A.take (i+1)=B.take (i+1):=by rw [ao hx,ao hy,he]
    obtain ⟨a,b⟩:=x;(repeat' (first|(with_reducible first|exact True.intro|refine vD ?_|refine vG ?_|refine vE ?_)|(with_reducible refine aF.is i _ (by omega) hx ?_)|(with_reducible refine aF.is i _ (by omega) hy ?_)|(refine eP ?_)|refine vR ?_|refine v6 ?_|with_reducible refine vN ?_|((with_reducible first|refine vB (fun h =>?_) (fun h =>?_)|refine vM (fun h =>?_) (fun h =>?_))<;>(first|(exfalso;omega)|skip))))
    refine aG.go (i+1) [0,1,12,13] (by exact vT) ?_ ?_
    ·show A.length - (i+1)<A.length - i;omega
    ·exact ⟨hlt,e2⟩
   ·rw [abM (show ¬A=B from fun e=>hxy (by subst e;rw [hx] at hy;injection hy))];obtain ⟨a,b⟩:=x;obtain ⟨a',b'⟩:=y;(repeat' (first|(with_reducible first|exact True.intro|refine vD ?_|refine vG ?_|refine vE ?_)|(with_reducible refine aF.is i _ (by omega) hx ?_)|(with_reducible refine aF.is i _ (by omega) hy ?_)|(refine eP ?_)|with_reducible refine ae.out ?_|refine vR ?_|refine v6 ?_|with_reducible refine vN ?_|((with_reducible first|refine vB (fun h =>?_) (fun h =>?_)|refine vM (fun h =>?_) (fun h =>?_))<;>(first|(exfalso;omega)|skip))))
    all_goals (exfalso;exact hxy (by rw [h.1,h.2]))
  ·have e:A=B:=by
    rw [aaW hge,aaW (by omega)] at he;exact he
   rw [abw e];(refine' zo)
 ·rw [abM (show ¬A=B from fun e=>hab (by rw [e]))];refine vF ab [0,1,4,5,10,12,13,14,24] Tryz.func85 rfl Tryz.results85 Tryz.ntmps85 ?_;(refine' zo)
theorem Rz (A B:List Pc) (hl:A.length≤1000000∧B.length≤1000000):ap Tryz.prog G0 86 [iE A,iE B] [] 0 (bv (decide (A=B))) []:=by
 by_cases hab:A.length=B.length
 ·refine vF ab [0,1,4,5,10,12,13,14,24] Tryz.func86 rfl Tryz.results86 Tryz.ntmps86 ?_;(refine' zg)
  refine vL (lv:=[0,1,4,5,10,12,13,14,24]) ab (XV A B) (fun i=>i≤A.length∧A.take i=B.take i) (fun i=>A.length - i) (0) ((aC.go [0,1,12,13] (by exact vT) rfl)) ?_ ?_
  ·exact ⟨aa1 _,rfl⟩
  rintro i ⟨hi,he⟩;rcases aa2 i A.length with hlt|hge
  ·obtain ⟨x,hx⟩ : ∃x,A[i]? = some x:=⟨_,IO hlt⟩
   obtain ⟨y,hy⟩ : ∃y,B[i]? = some y:=⟨_,IO (by omega)⟩
   by_cases hxy:x=y
   ·subst hxy;have e2:A.take (i+1)=B.take (i+1):=by rw [ao hx,ao hy,he]
    obtain ⟨a,b⟩:=x;(repeat' (first|(with_reducible first|exact True.intro|refine vD ?_|refine vG ?_|refine vE ?_)|(with_reducible refine aF.is i _ (by omega) hx ?_)|(with_reducible refine aF.is i _ (by omega) hy ?_)|(refine eP ?_)|refine vR ?_|refine v6 ?_|with_reducible refine vN ?_|((with_reducible first|refine vB (fun h =>?_) (fun h =>?_)|refine vM (fun h =>?_) (fun h =>?_))<;>(first|(exfalso;omega)|skip))))
    refine aG.go (i+1) [0,1,12,13] (by exact vT) ?_ ?_
    ·show A.length - (i+1)<A.length - i;omega
    ·exact ⟨hlt,e2⟩
   ·rw [abM (show ¬A=B from fun e=>hxy (by subst e;rw [hx] at hy;injection hy))];obtain ⟨a,b⟩:=x;obtain ⟨a',b'⟩:=y;(repeat' (first|(with_reducible first|exact True.intro|refine vD ?_|refine vG ?_|refine vE ?_)|(with_reducible refine aF.is i _ (by omega) hx ?_)|(with_reducible refine aF.is i _ (by omega) hy ?_)|(refine eP ?_)|with_reducible refine ae.out ?_|refine vR ?_|refine v6 ?_|with_reducible refine vN ?_|((with_reducible first|refine vB (fun h =>?_) (fun h =>?_)|refine vM (fun h =>?_) (fun h =>?_))<;>(first|(exfalso;omega)|skip))))
    all_goals (exfalso;exact hxy (by rw [h.1,h.2]))
  ·have e:A=B:=by
    rw [aaW hge,aaW (by omega)] at he;exact he
   rw [abw e];(refine' zo)
 ·rw [abM (show ¬A=B from fun e=>hab (by rw [e]))];refine vF ab [0,1,4,5,10,12,13,14,24] Tryz.func86 rfl Tryz.results86 Tryz.ntmps86 ?_;(refine' zo)
theorem RA (A B:List Fl) (hl:A.length≤1000000∧B.length≤1000000):ap Tryz.prog G0 87 [iU A,iU B] [] 0 (bv (decide (A=B))) []:=by
 by_cases hab:A.length=B.length
 ·refine vF ab [0,1,4,5,10,12,13,14,24] Tryz.func87 rfl Tryz.results87 Tryz.ntmps87 ?_;(refine' zg)
  refine vL (lv:=[0,1,4,5,10,12,13,14,24]) ab (TS A B) (fun i=>i≤A.length∧A.take i=B.take i) (fun i=>A.length - i) (0) ((aC.go [0,1,12,13] (by exact vT) rfl)) ?_ ?_
  ·exact ⟨aa1 _,rfl⟩
  rintro i ⟨hi,he⟩;rcases aa2 i A.length with hlt|hge
  ·obtain ⟨x,hx⟩ : ∃x,A[i]? = some x:=⟨_,IO hlt⟩
   obtain ⟨y,hy⟩ : ∃y,B[i]? = some y:=⟨_,IO (by omega)⟩
   by_cases hxy:x=y
   ·subst hxy;have e2:A.take (i+1)=B.take (i+1):=by rw [ao hx,ao hy,he]
    obtain ⟨a,b,c,d⟩:=x;(repeat' (first|(with_reducible first|exact True.intro|refine vD ?_|refine vG ?_|refine vE ?_)|(with_reducible refine aF.is i _ (by omega) hx ?_)|(with_reducible refine aF.is i _ (by omega) hy ?_)|(refine eP ?_)|refine vR ?_|refine v6 ?_|with_reducible refine vN ?_|((with_reducible first|refine vB (fun h =>?_) (fun h =>?_)|refine vM (fun h =>?_) (fun h =>?_))<;>(first|(exfalso;omega)|skip))))
    refine aG.go (i+1) [0,1,12,13] (by exact vT) ?_ ?_
    ·show A.length - (i+1)<A.length - i;omega
    ·exact ⟨hlt,e2⟩
   ·rw [abM (show ¬A=B from fun e=>hxy (by subst e;rw [hx] at hy;injection hy))];obtain ⟨a,b,c,d⟩:=x;obtain ⟨a',b',c',d'⟩:=y;(repeat' (first|(with_reducible first|exact True.intro|refine vD ?_|refine vG ?_|refine vE ?_)|(with_reducible refine aF.is i _ (by omega) hx ?_)|(with_reducible refine aF.is i _ (by omega) hy ?_)|(refine eP ?_)|with_reducible refine ae.out ?_|refine vR ?_|refine v6 ?_|with_reducible refine vN ?_|((with_reducible first|refine vB (fun h =>?_) (fun h =>?_)|refine vM (fun h =>?_) (fun h =>?_))<;>(first|(exfalso;omega)|skip))))
    all_goals (exfalso;exact hxy (by rw [h.1,h.2.1,h.2.2.1,h.2.2.2]))
  ·have e:A=B:=by
    rw [aaW hge,aaW (by omega)] at he;exact he
   rw [abw e];(refine' zo)
 ·rw [abM (show ¬A=B from fun e=>hab (by rw [e]))];refine vF ab [0,1,4,5,10,12,13,14,24] Tryz.func87 rfl Tryz.results87 Tryz.ntmps87 ?_;(refine' zo)
def UV (A B X Y:List Pc) (i:Nat):St:=⟨[(1,iE B),(7,iE X),(8,iE Y),(29,iE A),(30,iv A.length),(31,iv i)],[],0⟩
def UW (B Y:List Pc) (i:Nat):St:=⟨[(8,iE Y),(47,iE B),(48,iv B.length),(49,iv i)],[],0⟩
attribute [push_cast] UV.eq_def UW.eq_def
set_option maxHeartbeats 6400000 in
theorem CB (A B X Y:List Pc) (hl:(A.length≤1000000∧B.length≤1000000)∧X.length≤1000000∧Y.length≤1000000) (a1 a2 a3 a4 a5 a6:D) (y5 y6:Int)
 (r1:ap Tryz.prog G0 80 [.d (.agg [a1,a2,a3,a4,a5,a6,iD y5,iD y6])] [] 0 (iE X) []) (r2:ap Tryz.prog G0 81 [.d (.agg [a1,a2,a3,a4,a5,a6,iD y5,iD y6])] [] 0 (iE Y) []) :
 ap Tryz.prog G0 34 [iE A,iE B,.d (.agg [a1,a2,a3,a4,a5,a6,iD y5,iD y6])] [] 0 (bv (decide (A=X∧B=Y))) []:=by
 by_cases hab:A.length=X.length∧B.length=Y.length
 ·refine vF ab [0,1,2,5,6,7,8,9,10,11,12,28,29,30,31,32,45,47,48,49,50,63] Tryz.func34 rfl Tryz.results34 Tryz.ntmps34 ?_;(repeat' (first|(with_reducible first|exact True.intro|refine vD ?_|refine vG ?_|refine vE ?_)|with_reducible refine vC (r1) ?_|with_reducible refine vC (r2) ?_|(refine eP ?_)|refine vR ?_|refine v6 ?_|with_reducible refine vN ?_|((with_reducible first|refine vB (fun h =>?_) (fun h =>?_)|refine vM (fun h =>?_) (fun h =>?_))<;>(first|(exfalso;omega)|skip))))
  refine vL (lv:=[0,1,2,5,6,7,8,9,10,11,12,28,29,30,31,32,45,47,48,49,50,63]) ab (UV A B X Y) (fun i=>i≤A.length∧A.take i=X.take i) (fun i=>A.length - i) (0) ((aC.go [1,7,8,29,30,31] (by exact vT) rfl)) ?_ ?_
  ·exact ⟨aa1 _,rfl⟩
  rintro i ⟨hi,he⟩;rcases aa2 i A.length with hlt|hge
  ·obtain ⟨x,hx⟩ : ∃x,A[i]? = some x:=⟨_,IO hlt⟩
   obtain ⟨y,hy⟩ : ∃y,X[i]? = some y:=⟨_,IO (by omega)⟩
   by_cases hxy:y=x
   ·subst hxy;have e2:A.take (i+1)=X.take (i+1):=by rw [ao hx,ao hy,he]
    obtain ⟨a,b⟩:=y;(repeat' (first|(with_reducible first|exact True.intro|refine vD ?_|refine vG ?_|refine vE ?_)|(with_reducible refine aF.is i _ (by omega) hx ?_)|(with_reducible refine aF.is i _ (by omega) hy ?_)|(refine eP ?_)|refine vR ?_|refine v6 ?_|with_reducible refine vN ?_|((with_reducible first|refine vB (fun h =>?_) (fun h =>?_)|refine vM (fun h =>?_) (fun h =>?_))<;>(first|(exfalso;omega)|skip))))
    refine aG.go (i+1) [1,7,8,29,30,31] (by exact vT) ?_ ?_
    ·show A.length - (i+1)<A.length - i;omega
    ·exact ⟨hlt,e2⟩
   ·rw [abM (show ¬(A=X∧B=Y) from fun e=>hxy (by rw [e.1,hy] at hx;injection hx))];obtain ⟨a,b⟩:=x;obtain ⟨a',b'⟩:=y;(repeat' (first|(with_reducible first|exact True.intro|refine vD ?_|refine vG ?_|refine vE ?_)|(with_reducible refine aF.is i _ (by omega) hx ?_)|(with_reducible refine aF.is i _ (by omega) hy ?_)|(refine eP ?_)|with_reducible refine ae.out ?_|refine vR ?_|refine v6 ?_|with_reducible refine vN ?_|((with_reducible first|refine vB (fun h =>?_) (fun h =>?_)|refine vM (fun h =>?_) (fun h =>?_))<;>(first|(exfalso;omega)|skip))))
    all_goals (exfalso;exact hxy (by rw [h.1,h.2]))
  ·have e1:A=X:=by
    rw [aaW hge,aaW (by omega)] at he;exact he
   rw [show decide (A=X∧B=Y)=decide (B=Y) by simp [e1]];(refine' zg)
   refine vL (lv:=[0,1,2,5,6,7,8,9,10,11,12,28,29,30,31,32,45,47,48,49,50,63]) ab (UW B Y) (fun i=>i≤B.length∧B.take i=Y.take i) (fun i=>B.length - i) (0) ((aC.go [8,47,48,49] (by exact vT) rfl)) ?_ ?_
   ·exact ⟨aa1 _,rfl⟩
   rintro j ⟨hj,hf⟩;rcases aa2 j B.length with hjl|hjg
   ·obtain ⟨x,hx⟩ : ∃x,B[j]? = some x:=⟨_,IO hjl⟩
    obtain ⟨y,hy⟩ : ∃y,Y[j]? = some y:=⟨_,IO (by omega)⟩
    by_cases hxy:y=x
    ·subst hxy;have e2:B.take (j+1)=Y.take (j+1):=by rw [ao hx,ao hy,hf]
     obtain ⟨a,b⟩:=y;(repeat' (first|(with_reducible first|exact True.intro|refine vD ?_|refine vG ?_|refine vE ?_)|(with_reducible refine aF.is j _ (by omega) hx ?_)|(with_reducible refine aF.is j _ (by omega) hy ?_)|(refine eP ?_)|refine vR ?_|refine v6 ?_|with_reducible refine vN ?_|((with_reducible first|refine vB (fun h =>?_) (fun h =>?_)|refine vM (fun h =>?_) (fun h =>?_))<;>(first|(exfalso;omega)|skip))))
     refine aG.go (j+1) [8,47,48,49] (by exact vT) ?_ ?_
     ·show B.length - (j+1)<B.length - j;omega
     ·exact ⟨hjl,e2⟩
    ·rw [abM (show ¬B=Y from fun e=>hxy (by rw [e,hy] at hx;injection hx))];obtain ⟨a,b⟩:=x;obtain ⟨a',b'⟩:=y;(repeat' (first|(with_reducible first|exact True.intro|refine vD ?_|refine vG ?_|refine vE ?_)|(with_reducible refine aF.is j _ (by omega) hx ?_)|(with_reducible refine aF.is j _ (by omega) hy ?_)|(refine eP ?_)|with_reducible refine ae.out ?_|refine vR ?_|refine v6 ?_|with_reducible refine vN ?_|((with_reducible first|refine vB (fun h =>?_) (fun h =>?_)|refine vM (fun h =>?_) (fun h =>?_))<;>(first|(exfalso;omega)|skip))))
     all_goals (exfalso;exact hxy (by rw [h.1,h.2]))
   ·have e:B=Y:=by
     rw [aaW hjg,aaW (by omega)] at hf;exact hf
    rw [abw e];(refine' zo)
 ·rw [abM (show ¬(A=X∧B=Y) from fun e=>hab (by rw [e.1,e.2];exact ⟨rfl,rfl⟩))];refine vF ab [0,1,2,5,6,7,8,9,10,11,12,28,29,30,31,32,45,47,48,49,50,63] Tryz.func34 rfl Tryz.results34 Tryz.ntmps34 ?_;(repeat' (first|(with_reducible first|exact True.intro|refine vD ?_|refine vG ?_|refine vE ?_)|with_reducible refine vC (r1) ?_|with_reducible refine vC (r2) ?_|(refine eP ?_)|with_reducible refine ae.out ?_|refine vR ?_|refine v6 ?_|with_reducible refine vN ?_|((with_reducible first|refine vB (fun h =>?_) (fun h =>?_)|refine vM (fun h =>?_) (fun h =>?_))<;>(first|(exfalso;omega)|skip))))
  all_goals (exfalso;omega)
def S9 (l:List It) (i:Nat):St:=⟨[(3,.so 0 2 0 i),(8,.d (.sd 7 false (l.map fQ))),(9,iv l.length),(10,iv i)],[(0,.row 2 ((l.take i).map (jX ∘ Cd)))],1⟩
def Rr (l:List It) (i:Nat):St:=⟨[(3,.so 0 2 0 i),(9,.d (.sd 7 false (l.map fQ))),(10,iv l.length),(11,iv i)],[(0,.row 2 ((l.take i).map (jX ∘ Nr)))],1⟩
def RJ (I:List It) (l:List Fl) (i:Nat):St:=⟨[(3,.so 0 4 0 i),(8,.d (.sd 7 false (I.map fQ))),(9,iv I.length),(10,iv i)],[(0,.row 4 ((l.take i).map eZ))],1⟩
attribute [push_cast] S9.eq_def Rr.eq_def RJ.eq_def
theorem Ft (t:Option T) (k:Tk t):ap Tryz.prog G0 35 [.d (bI t)] [] 0 (iE ((an t).map Cd)) []:=by
 have r1:=uM t;have r2:=rh t k;have hl:=k.len;generalize bI t=TT at *
 generalize aU t=A at *
 generalize an t=l at *
 refine vF ab [0,2,3,5,8,9,10,11] Tryz.func35 rfl Tryz.results35 Tryz.ntmps35 ?_;(refine' Ax r1 r2)
 refine vL (lv:=[0,2,3,5,8,9,10,11]) ab (S9 l) (fun i=>i≤l.length) (fun i=>l.length - i) (0) (aC.nil 3 2<|(aC.go [3,8,9,10] (by exact vT) rfl)) ?_ ?_
 ·exact aa1 _
 intro i hi;rcases aa2 i l.length with hlt|hge
 ·obtain ⟨x,hx⟩ : ∃x,l[i]? = some x:=⟨_,IO hlt⟩
  have e:(l.take (i+1)).map (jX ∘ Cd)=(l.take i).map (jX ∘ Cd)++[D.agg [iD x.id,iD x.d1]]:=by rw [ao hx,abc];rfl
  (refine' jY hx)
  rw [←e,show ((l.take (i+1)).map (jX ∘ Cd)).length=i+1 by simp;omega];refine aG.go (i+1) [3,8,9,10] (by exact vT) ?_ ?_
  ·show l.length - (i+1)<l.length - i;omega
  ·show i+1≤l.length;omega
 ·obtain rfl:i=l.length:=by omega
  rw [S9,abC];(refine' zg)
  refine ae.frz 0 (ae.out ?_);(refine' zg)
  all_goals (try rw [aaW (by simp)])
  all_goals (try rw [aci])
theorem DK (t:Option T) (k:Tk t):ap Tryz.prog G0 36 [.d (bI t)] [] 0 (iE ((an t).map Nr)) []:=by
 have r1:=rO t;have r2:=rh t k;have hl:=k.len;generalize bI t=TT at *
 generalize aU t=A at *
 generalize an t=l at *
 refine vF ab [0,2,3,5,6,9,10,11,12,21] Tryz.func36 rfl Tryz.results36 Tryz.ntmps36 ?_;(refine' Ax r1 r2)
 refine vL (lv:=[0,2,3,5,6,9,10,11,12,21]) ab (Rr l) (fun i=>i≤l.length) (fun i=>l.length - i) (0) (aC.nil 3 2<|(aC.go [3,9,10,11] (by exact vT) rfl)) ?_ ?_
 ·exact aa1 _
 intro i hi;rcases aa2 i l.length with hlt|hge
 ·obtain ⟨x,hx⟩ : ∃x,l[i]? = some x:=⟨_,IO hlt⟩
  have e:(l.take (i+1)).map (jX ∘ Nr)=(l.take i).map (jX ∘ Nr)++[D.agg [iD (if x.tag=1 then x.d0 else 0),iD x.d1]]:=by rw [ao hx,abc];rfl
  by_cases ht:x.tag=1
  ·rw [aa3 ht] at e;(refine' jY hx)
   rw [←e,show ((l.take (i+1)).map (jX ∘ Nr)).length=i+1 by simp;omega];refine aG.go (i+1) [3,9,10,11] (by exact vT) ?_ ?_
   ·show l.length - (i+1)<l.length - i;omega
   ·show i+1≤l.length;omega
  ·rw [aaY ht] at e;(refine' jY hx)
   rw [←e,show ((l.take (i+1)).map (jX ∘ Nr)).length=i+1 by simp;omega];refine aG.go (i+1) [3,9,10,11] (by exact vT) ?_ ?_
   ·show l.length - (i+1)<l.length - i;omega
   ·show i+1≤l.length;omega
 ·obtain rfl:i=l.length:=by omega
  rw [Rr,abC];(refine' zg)
  refine ae.frz 0 (ae.out ?_);(refine' zg)
  all_goals (try rw [aaW (by simp)])
  all_goals (try rw [aci])
theorem Ii (x:Fl):ap Tryz.prog G0 134 [.d (fQ (fY x))] [] 0 (.d (eZ x)) []:=by
 obtain ⟨a,b,c,d⟩:=x;simp only [eZ,fY];refine vF ab [0,1,2] Tryz.func134 rfl Tryz.results134 Tryz.ntmps134 ?_;(refine' zo)
theorem HT (fs:List Fl) (t:Option T) (k:Tk t) (hi:an t=fs.map fY):ap Tryz.prog G0 76 [.d (bI t)] [] 0 (.d (.sd 4 false (fs.map eZ))) []:=by
 have r1:=iX t;have r2:=rh t k;have hl:=k.len;rw [hi] at r2 hl;have hIl:(fs.map fY).length=fs.length:=aa4 _;have hIx : ∀(i:Nat) x,fs[i]? = some x→(fs.map fY)[i]? = some (fY x):=fun i x h=>by rw [abp,h];rfl
 generalize fs.map fY=I at *
 generalize bI t=TT at *
 generalize aU t=A at *
 refine vF ab [0,2,3,5,8,9,10,11] Tryz.func76 rfl Tryz.results76 Tryz.ntmps76 ?_;(refine' Ax r1 r2)
 refine vL (lv:=[0,2,3,5,8,9,10,11]) ab (RJ I fs) (fun i=>i≤fs.length) (fun i=>fs.length - i) (0) (aC.nil 3 4<|(aC.go [3,8,9,10] (by exact vT) rfl)) ?_ ?_
 ·exact aa1 _
 intro i hi;rcases aa2 i fs.length with hlt|hge
 ·obtain ⟨x,hx⟩ : ∃x,fs[i]? = some x:=⟨_,IO hlt⟩
  have hx2:=hIx i x hx;have e:(fs.take (i+1)).map eZ=(fs.take i).map eZ++[eZ x]:=by rw [ao hx,abc];rfl
  have r3:=Ii x;have hfd:eZ x = .agg [iD x.1,iD x.2.1,iD x.2.2.1,iD x.2.2.2]:=rfl;rw [hfd] at r3 e;(repeat' (first|(with_reducible first|exact True.intro|refine vD ?_|refine vG ?_|refine vE ?_)|(with_reducible refine aF.is i _ (by omega) hx2 ?_)|with_reducible refine vC (r3) ?_|refine vR ?_|refine v6 ?_|with_reducible refine vN ?_|((with_reducible first|refine vB (fun h =>?_) (fun h =>?_)|refine vM (fun h =>?_) (fun h =>?_))<;>(first|(exfalso;omega)|skip))))
  rw [←e,show ((fs.take (i+1)).map eZ).length=i+1 by simp;omega];refine aG.go (i+1) [3,8,9,10] (by exact vT) ?_ ?_
  ·show fs.length - (i+1)<fs.length - i;omega
  ·show i+1≤fs.length;omega
 ·obtain rfl:i=fs.length:=by omega
  rw [RJ,abC];(refine' zg)
  refine ae.frz 0 (ae.out ?_);(refine' zg)
  all_goals (try rw [aaW (by simp)])
theorem F1 : ∀I:List It,(∀i∈I,0≤i.d1)→((JG (I.map Cd)).length:Int)=(aq I).d1
 | [],_=>rfl
 | i::r,h=>by
  have h1:=h i abj;have ih:=F1 r fun j hj=>h j (abd _ hj)
  have hs:=(bH i r).2.1;rw [abh,A9,Or,abS];show (((Cd i).2.toNat+_:Nat):Int)=_;have e:(Cd i).2=i.d1:=rfl;rw [e];omega
theorem II (L:List Iy) {a c:Int} (h:a≤c):a8 L a 1≤a8 L c 1:=by
 have:=gC (p:=fJ a 1) (q:=fJ c 1) L fun x _ hx=>by
  simp only [fJ,abP,aa8,abs,aca,true_and] at hx ⊢;omega
 unfold a8;omega
theorem O2 (L:List Iy) (a:Int):a8 L a 0≤a8 L a 1:=by
 have:=gC (p:=fJ a 0) (q:=fJ a 1) L fun x _ hx=>by
  simp only [fJ,abP,aa8,abs,aca,true_and] at hx ⊢;omega
 unfold a8;omega
theorem Gy (L:List Iy) {n:Int} : ∀(H:List Sn) (last lw:Int),0≤last→lw≤a8 L last 1→fS n last H=true→fS (n+aY L) lw (H.map (lp L))=true
 | [],_,_,_,_,_=>rfl
 | x::H,last,lw,h0,hl,hr=>by
  obtain ⟨⟨h1,h2,h3⟩,h4⟩:=bZ.1 hr;rw [abh,bZ];have a1:=II L h1;have a2:=zi L h2;have a3:=nE L (n:=n) (a:=x.2) (b:=0) (by omega);refine ⟨⟨?_,?_,?_⟩,Gy L H x.2 _ (by omega) (O2 L x.2) h4⟩
  ·show lw≤a8 L x.1 1;omega
  ·show a8 L x.1 1<a8 L x.2 0;omega
  ·show a8 L x.2 0≤n+aY L;omega
section
variable {s:ByteArray} {L:List Iy} {F:List Sn} {tab:Nat} {wd:Int}
abbrev AB (s:ByteArray) (L:List Iy):List Pc:=(ev (aa s 0).length 0 (aD L)).map Cd
abbrev A1 (s:ByteArray) (L:List Iy) (F:List Sn):List Pc:=(gv ((aa s 0).length+aY (aD L)) 0 ((aH F).map (lp (aD L)))).map Nr
theorem dz.nd (h:dz s L F tab wd):((aD L).map (·.1)).Nodup:=by
 have h1:=(eG _ L [] h.i0).2;have h2:((aD L).map (·.1)).Perm (L.map (·.1)):=by
  have:=(iZ L.reverse L (by simp)).map (·.1);rw [aci] at this;exact this
 exact h2.nodup_iff.2 h1
theorem dz.wpc (h:dz s L F tab wd):((eN (aa s 0).length (aD L) 0).map (·.2)).foldl fG []=AB s L∧((eN (aa s 0).length (aD L) 0).length:Int)=(aa s 0).length+aY (aD L):=by
 have hi:=h.inl;have hat : ∀x∈aD L,0≤x.2.1∧x.2.1≤((aa s 0).length:Int):=fun x hx=>by have:=(hi x hx).1;omega
 refine ⟨M8 h.gd.so hat h.nd (fun x hx=>⟨(hi x hx).1.1,(hi x hx).2.2.1⟩),?_⟩;have e:=qX (aa s 0).length (aD L) 0 (aa1 _) h.gd.so (fun x hx=>by have:=hat x hx;omega);have h2:=congrArg List.length e;rw [aa4] at h2;rw [h2];have h3:=F1 (ev (aa s 0).length ((0:Nat):Int) (aD L)) (fun i hi=>by have:=h.wv.it i hi;unfold cd at this;omega);rw [h3];have:=(lD (to:=(aa s 0).length) (aD L) 0 (by omega) fun x hx=>(hat x hx).2).2;show (aq (ev _ 0 _)).d1=_;omega
theorem dz.iS (h:dz s L F tab wd):0≤aY (aD L)∧aY (aD L)≤12000:=by
 refine ⟨hP _,?_⟩;rw [Eh];have:=h.gd.rs;omega
theorem tv (h:dz s L F tab wd):ap Tryz.prog G0 202 [.d (Jc (aa s 0).length (aD L))] [] 0 (iE (eN (aa s 0).length (aD L) 0)) []:=
 IX (aa s 0).length (by have:=h.rs;omega) (aD L) (by have:=h.gd.len;omega) h.gd.sz (by have:=h.iS;omega)
theorem xt (h:dz s L F tab wd):ap Tryz.prog G0 80 [LM s L F tab wd] [] 0 (iE (AB s L)) []:=by
 have hl:=h.wpc.2;have r1:=zw (aa s 0).length (aD L) (eN (aa s 0).length (aD L) 0) (by have:=h.iS;have:=h.rs;omega) (tv h);rw [h.wpc.1] at r1;rw [LM];generalize AB s L=W at *
 refine vF ab [0,1,2] Tryz.func80 rfl Tryz.results80 Tryz.ntmps80 ?_;(refine' lK r1)
theorem IZ (h:dz s L F tab wd):ap Tryz.prog G0 138 [LM s L F tab wd] [] 0 (iv ((aa s 0).length+aY (aD L))) []:=by
 have hl:=h.wpc.2;have r1:=tv h;rw [←hl];rw [LM];generalize eN (aa s 0).length (aD L) 0=S at *
 refine vF ab [0,1,2] Tryz.func138 rfl Tryz.results138 Tryz.ntmps138 ?_;(refine' lK r1)
theorem dz.hrg (h:dz s L F tab wd):fS ((aa s 0).length+aY (aD L)) 0 ((aH F).map (lp (aD L)))=true:=by
 refine Gy (aD L) (aH F) 0 0 (abN _) ?_ (fZ h.o0);have:=(nE (aD L) (n:=(aa s 0).length) (a:=0) (b:=1) (by omega)).1;exact this
theorem tu (h:dz s L F tab wd):ap Tryz.prog G0 81 [LM s L F tab wd] [] 0 (iE (A1 s L F)) []:=by
 have hS:=h.iS;have hrs:=h.rs;have hhl:=h.hl;obtain ⟨m,hm⟩ : ∃m:Nat,((aa s 0).length:Int)+aY (aD L)=m:=⟨(((aa s 0).length:Int)+aY (aD L)).toNat,by omega⟩
 have hrg:=h.hrg;have r1:=IZ h;have hmem:=bE (fZ h.o0);have r2:=EX (aa s 0).length (aD L) (by have:=h.gd.len;omega) h.gd.sz (by omega) (aH F) (by omega) (fun x hx=>by have:=hmem x hx;omega);rw [A1];rw [hm] at hrg r1 ⊢;have hmem2:=bE hrg;rw [←HD hrg];have hPl:((aH F).map (lp (aD L))).length≤1000000:=by rw [aa4];omega
 generalize (aH F).map (lp (aD L))=P at *
 have hsl:=un m P m 0 (by omega);have r3:=zx m P hPl (fun x hx=>by have:=hmem2 x hx;omega) (gP m P 0) (by omega) (EY m (by omega) P hPl);rw [LM] at r1 ⊢;generalize (gP m P 0).foldl (io P) []=W at *
 refine vF ab [0,1,2] Tryz.func81 rfl Tryz.results81 Tryz.ntmps81 ?_;(refine' Td r1 r2 r3)
end
end Go.Proofs.YtkkanlcjjpoklaaGreatDoor
