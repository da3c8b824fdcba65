/- What the theorem leans on, part 44. -/
import Derived.Test.YtkkanlcjjpoklaaGreatDoorStVPBQ
set_option linter.unusedSimpArgs false
set_option linter.unusedVariables false
set_option maxRecDepth 8000
namespace Go.Proofs.YtkkanlcjjpoklaaGreatDoor
def UA (V:bN) (l:List Int) (M:List Iy) (H:List Sn) (Ls:List (Nat × Nat)) (x:Nat × List Fl):St:=
 ⟨[(1,.po 0 0),(3,.so 1 4 0 x.2.length),(8,.d (.sd 3 false (Ls.map (va l M H)))),(9,iv Ls.length),(10,iv x.1)],[(0,V),(1,.row 4 (x.2.map eZ))],2⟩
attribute [push_cast] UA.eq_def
theorem L3 {d1 d2 d3 d4 tb:D} {y5 y6:Int} {l:List Int} {M:List Iy} {H:List Sn} {Ls:List (Nat × Nat)} (W:Nat × Nat→Fl) (hL:Ls.length≤1000)
 (r3:ap Tryz.prog G0 17 [.d (.agg [.sd 1 false (l.map dm),d1,d2,d3,d4])] [] 0 (.d (.sd 3 false (Ls.map (va l M H)))) [])
 (r5 : ∀x∈Ls,ap Tryz.prog G0 18 [.d (.agg [.sd 1 false (l.map dm),d1,d2,d3,d4,tb,iD y5,iD y6]),.d (va l M H x)] [] 0 (.d (eZ (W x))) []) :
 ap Tryz.prog G0 37 [.d (.agg [.sd 1 false (l.map dm),d1,d2,d3,d4,tb,iD y5,iD y6])] [] 0 (iU (Ls.map W)) []:=by
 refine vF ab [0,1,2,3,5,8,9,10,11] Tryz.func37 rfl Tryz.results37 Tryz.ntmps37 ?_;(refine' fq r3)
 refine vL (lv:=[0,1,2,3,5,8,9,10,11]) ab (UA (S8 l d1 d2 d3 d4 tb y5 y6) l M H Ls) (fun x=>x.1≤Ls.length∧x.2=(Ls.take x.1).map W) (fun x=>Ls.length - x.1) ((0,[])) (aC.nil 3 4<|(aC.go [1,3,8,9,10] (by exact vT) rfl)) ?_ ?_
 ·exact ⟨aa1 _,rfl⟩
 rintro ⟨i,out⟩ ⟨hi,he⟩;simp only at hi he;have hol:out.length=i:=by rw [he,aa4,aa7];omega
 rcases aa2 i Ls.length with hlt|hge
 ·obtain ⟨x,hx⟩ : ∃x,Ls[i]? = some x:=⟨_,IO hlt⟩
  have r6:=r5 x (aa0 hx);have e:(Ls.take (i+1)).map W=out++[W x]:=by rw [ao hx,abc,←he];rfl
  have hD:va l M H x = .agg [.sd 3 false ((ci l M x.2 x.1 H).map iA),iD x.1,iD x.2]:=rfl;rw [hD] at r6;generalize W x=q at *
  have hfd:eZ q = .agg [iD q.1,iD q.2.1,iD q.2.2.1,iD q.2.2.2]:=rfl;rw [hfd] at r6;(repeat' (first|(with_reducible first|exact True.intro|refine vD ?_|refine vG ?_|refine vE ?_)|(with_reducible refine aF.is i _ (by omega) hx ?_)|with_reducible refine vC (r6) ?_|refine vR ?_|refine v6 ?_|with_reducible refine vN ?_|((with_reducible first|refine vB (fun h =>?_) (fun h =>?_)|refine vM (fun h =>?_) (fun h =>?_))<;>(first|(exfalso;omega)|skip))))
  rw [zH];refine aG.go ((i+1,out++[q])) [1,3,8,9,10] (by exact vT) ?_ ?_
  ·show Ls.length - (i+1)<Ls.length - i;omega
  ·exact ⟨hlt,e.symm⟩
 ·rw [aaW hge] at he;subst he;(refine' zg)
  refine ae.frz 1 (ae.out ?_);(refine' zg)
  all_goals (try rw [aaW (by simp)])
section
variable (rp il fd:D) (tab wd:Int) (w c f w2 c2 f2:Option T)
set_option maxHeartbeats 6400000 in
theorem CJ (A A2 B B2:List Pc) (C C2:List Fl) (hl:(A.length≤1000000∧A2.length≤1000000)∧(B.length≤1000000∧B2.length≤1000000)∧C.length≤1000000∧C2.length≤1000000)
 (r0:ap Tryz.prog G0 25 [.d (Ay rp il fd tab wd)] [] 0 (.tup [.d (CO rp il fd tab wd w2 c2 f2),iv 0]) [])
 (r1:ap Tryz.prog G0 35 [.d (bI w)] [] 0 (iE A) []) (r2:ap Tryz.prog G0 35 [.d (bI w2)] [] 0 (iE A2) [])
 (r3:ap Tryz.prog G0 36 [.d (bI c)] [] 0 (iE B) []) (r4:ap Tryz.prog G0 36 [.d (bI c2)] [] 0 (iE B2) [])
 (r5:ap Tryz.prog G0 76 [.d (bI f)] [] 0 (iU C) []) (r6:ap Tryz.prog G0 76 [.d (bI f2)] [] 0 (iU C2) []) :
 ap Tryz.prog G0 38 [.d (CO rp il fd tab wd w c f)] [] 0 (bv (decide (A=A2∧B=B2∧C=C2))) []:=by
 have r7:=RD A A2 hl.1;have r8:=Rz B B2 hl.2.1;have r9:=RA C C2 hl.2.2;have q1:=tK rp il fd tab wd w c f;rw [adk,adk];generalize decide (A=A2)=b1 at *
 generalize decide (B=B2)=b2 at *
 generalize decide (C=C2)=b3 at *
 simp only [CO,Ay,iE,iU] at *
 generalize bI w=wA at *
 generalize bI c=cA at *
 generalize bI f=fA at *
 generalize bI w2=wB at *
 generalize bI c2=cB at *
 generalize bI f2=fB at *
 generalize A.map jX=A at *
 generalize A2.map jX=A2 at *
 generalize B.map jX=B at *
 generalize B2.map jX=B2 at *
 generalize C.map eZ=C at *
 generalize C2.map eZ=C2 at *
 cases b1;all_goals cases b2
 all_goals cases b3
 all_goals
  refine vF ab [0,2,3,4,16] Tryz.func38 rfl Tryz.results38 Tryz.ntmps38 ?_;(repeat' (first|(with_reducible first|exact True.intro|refine vD ?_|refine vG ?_|refine vE ?_)|with_reducible refine vC (q1) ?_|with_reducible refine vC (r0) ?_|with_reducible refine vQ (q1) ?_|with_reducible refine vQ (r0) ?_|with_reducible refine vQ (r1) ?_|with_reducible refine vQ (r2) ?_|with_reducible refine vQ (r3) ?_|with_reducible refine vQ (r4) ?_|with_reducible refine vQ (r5) ?_|with_reducible refine vQ (r6) ?_|with_reducible refine vQ (r7) ?_|with_reducible refine vQ (r8) ?_|with_reducible refine vQ (r9) ?_|(refine eP ?_)|with_reducible refine ae.out ?_|refine vR ?_|refine v6 ?_|with_reducible refine vN ?_|((with_reducible first|refine vB (fun h =>?_) (fun h =>?_)|refine vM (fun h =>?_) (fun h =>?_))<;>(first|(exfalso;omega)|skip))))
end
section
variable (rp il fd:D) (tab wd:Int) (w c f:Option T)
set_option maxHeartbeats 6400000 in
theorem Uc (A B:List Pc) (C:List Fl) (a1 a2 a3 a4 a5 a6:D) (y5 y6:Int)
 (r1:ap Tryz.prog G0 35 [.d (bI w)] [] 0 (iE A) []) (r2:ap Tryz.prog G0 36 [.d (bI c)] [] 0 (iE B) [])
 (r3:ap Tryz.prog G0 34 [iE A,iE B,.d (.agg [a1,a2,a3,a4,a5,a6,iD y5,iD y6])] [] 0 (bv true) [])
 (r4:ap Tryz.prog G0 76 [.d (bI f)] [] 0 (iU C) []) (r5:ap Tryz.prog G0 20 [iU C] [] 0 (iU C) [])
 (r6:ap Tryz.prog G0 37 [.d (.agg [a1,a2,a3,a4,a5,a6,iD y5,iD y6])] [] 0 (iU C) []) (r7:ap Tryz.prog G0 19 [iU C,iU C] [] 0 (bv true) [])
 (r8:ap Tryz.prog G0 38 [.d (CO rp il fd tab wd w c f)] [] 0 (bv true) []) :
 ap Tryz.prog G0 29 [.d (CO rp il fd tab wd w c f),.d (.agg [a1,a2,a3,a4,a5,a6,iD y5,iD y6])] [] 0 (bv true) []:=by
 have r0:=lz rp il fd tab wd w c f;simp only [CO,iE,iU] at *
 generalize bI w=wA at *
 generalize bI c=cA at *
 generalize bI f=fA at *
 generalize A.map jX=A at *
 generalize B.map jX=B at *
 generalize C.map eZ=C at *
 refine vF ab [0,1,3,4,5] Tryz.func29 rfl Tryz.results29 Tryz.ntmps29 ?_;(refine' QT r0 r1 r2 r3 r4 r5 r6 r7 r8)
end
section
variable {s:ByteArray} {L:List Iy} {F:List Sn} {tab:Int} {wd:Int}
theorem Ie (hn:ap Tryz.prog G0 9 [jk s L F tab wd,iv 200] [] 0 (bv false) []) (h3:ap Tryz.prog G0 10 [] [] 0 (bv true) []):ap Tryz.prog G0 6 [jk s L F tab wd] [] 0 (bv true) []:=by
 refine vF ab [0,1,2,3,4,5,8] Tryz.func6 rfl Tryz.results6 Tryz.ntmps6 ?_;(refine' uR hn h3)
set_option maxHeartbeats 6400000 in
theorem Lq {st rp il fd a2 a3 a4 a5 a6:D} {l:List Int} (hl:l.length≤1000000)
 (hs:ap Tryz.prog G0 9 [jk s L F tab wd,iv 200] [] 0 (bv true) []) (h3:ap Tryz.prog G0 10 [] [] 0 (bv true) [])
 (r1:ap Tryz.prog G0 11 [jk s L F tab wd] [] 0 (.d st) []) (r2:ap Tryz.prog G0 12 [jk s L F tab wd] [] 0 (.d (.agg [.sd 1 false (l.map dm),a2,a3,a4,a5,a6,iD tab,iD wd])) [])
 (r3:ap Tryz.prog G0 28 [.d st] [] 0 (.d (Ay rp il fd tab wd)) [])
 (r4:ap Tryz.prog G0 29 [.d st,.d (.agg [.sd 1 false (l.map dm),a2,a3,a4,a5,a6,iD tab,iD wd])] [] 0 (bv true) [])
 (r5:ap Tryz.prog G0 30 [.d rp] [] 0 (iv l.length) []) :
 ap Tryz.prog G0 6 [jk s L F tab wd] [] 0 (bv true) []:=by
 refine vF ab [0,1,2,3,4,5,8] Tryz.func6 rfl Tryz.results6 Tryz.ntmps6 ?_;(refine' WV hs r1 r2 r3 r4 r5 h3)
end
section
variable {s:ByteArray} {L:List Iy} {F:List Sn} {tab:Nat} {wd:Int} {ps:List (List Int)} {t:Option T}
abbrev GN (s:ByteArray) (L:List Iy):Option T:=Aw (aa s 0).length (aD L)
abbrev AT (s:ByteArray) (L:List Iy) (F:List Sn):Option T:=DR (aa s 0).length (aD L) (aH F)
abbrev HU (s:ByteArray) (L:List Iy) (F:List Sn) (tab:Nat) (wd:Int):Option T:=lR (bW s L F tab wd 0)
theorem dz.ctk (h:dz s L F tab wd):Tk (AT s L F):=by
 have hS:=h.iS;have hrs:=h.rs;have hl:=h.hl;have hm:=bE h.hrg;refine zb ?_ (yn (by omega) _ 0 (abN _) fun x hx=>by have:=hm x hx;omega);have:=m0 ((aa s 0).length+aY (aD L)) ((aH F).map (lp (aD L))) 0;rw [aa4] at this;omega
theorem pC (h:dz s L F tab wd):ap Tryz.prog G0 35 [.d (bI (GN s L))] [] 0 (iE (AB s L)) []:=by
 have r:=Ft (GN s L) h.wv.tk;rwa [show an (GN s L)=ev (aa s 0).length 0 (aD L) from (eI _).2] at r
theorem oz (h:dz s L F tab wd):ap Tryz.prog G0 36 [.d (bI (AT s L F))] [] 0 (iE (A1 s L F)) []:=by
 have r:=DK (AT s L F) h.ctk;rwa [show an (AT s L F)=gv ((aa s 0).length+aY (aD L)) 0 ((aH F).map (lp (aD L))) from (eI _).2] at r
theorem sq (h:dz s L F tab wd):ap Tryz.prog G0 76 [.d (bI (HU s L F tab wd))] [] 0 (iU (bW s L F tab wd 0)) []:=
 HT _ _ (qL h).1 (qL h).2
theorem dz.len3 (h:dz s L F tab wd):(AB s L).length≤1000∧(A1 s L F).length≤1000∧(bW s L F tab wd 0).length≤1000:=by
 have h1:=jL (aa s 0).length (aD L) 0;have h2:=m0 ((aa s 0).length+aY (aD L)) ((aH F).map (lp (aD L))) 0;rw [aa4] at h2;have:=h.gd.len;have:=h.hl;have:=h.ll;rw [AB,A1,bW,aa4,aa4,aa4];omega
theorem o4 (h:dz s L F tab wd):ap Tryz.prog G0 37 [LM s L F tab wd] [] 0 (iU (bW s L F tab wd 0)) []:=by
 have hrs:=h.rs;have hgl:=h.gd.len;have hl:=h.hl;exact L3 (X8 s L F tab wd) (by have:=h.ll;omega) (FK (aa s 0) (aa s 0).length (aD L) (aH F) (by omega) (by omega) (by omega) h.gd.sz h.gd.so (hZ h.okT).1) (fun x hx=>KE h x hx)
theorem RZ (h:dz s L F tab wd) (R:Rp (aa s 0) ps t):ap Tryz.prog G0 29 [.d (Yj s L F tab wd t),LM s L F tab wd] [] 0 (bv true) []:=by
 obtain ⟨l1,l2,l3⟩:=h.len3;have q1:=CB (AB s L) (A1 s L F) (AB s L) (A1 s L F) (by omega) _ _ _ _ _ _ _ _ (xt h) (tu h);rw [abw ⟨rfl,rfl⟩] at q1;have q2:=CA (bW s L F tab wd 0) (bW s L F tab wd 0) (by omega);rw [abw rfl] at q2;have q3:=CJ (bF t) (cW (aa s 0).length (ct (aD L))) (JH (aa s 0).length F) tab wd (GN s L) (AT s L F) (HU s L F tab wd) _ _ _ (AB s L) (AB s L) (A1 s L F) (A1 s L F) (bW s L F tab wd 0) (bW s L F tab wd 0) (by omega) (tJ h R h.wv (by have:=h.sm;omega)) (pC h) (pC h) (oz h) (oz h) (sq h) (sq h);rw [abw ⟨rfl,rfl,rfl⟩] at q3;exact Uc _ _ _ _ _ _ _ _ _ _ _ _ _ _ _ _ _ _ _ (pC h) (oz h) q1 (sq h) (Er _ (by omega)) (o4 h) q2 q3
end
theorem NT {m:Int} {H:List Sn} {t:Option T} (k:Tk t) (hi:an t=gv m 0 H) (hr:fS m 0 H=true) (hm:0≤m∧m≤1000000000) (v:Int) (hv:0≤v∧v≤m):ap Tryz.prog G0 40 [.d (bI t),iv v] [] 0 (.tup [iv (Ku H v),iv 0]) []:=by
 have hs:=(yo H 0 hr hm.1).1;obtain ⟨j,vis,sp,-,r1⟩:=iT t k 0 (by omega) v 1 hv.1 (by rw [hi];show v≤(aq (gv m 0 H)).d0;omega) (.inr rfl);have hlen:=k.len;have r3:=Qc t k j (by have:=sp.le;omega);have hok:=gg ((an t).take j) (fun i h=>k.ok i (abm h)) (by rw [aa7];omega);have hn:(aq ((an t).take j)).n=j:=by rw [cC,aa7];have:=sp.le;omega
 rw [hi] at sp r1 r3 hok hn;have ho:=yp H 0 v j hr hm.1 hv.1 (by omega) (NC.of sp);rw [Int.zero_add,ac2] at ho;have r2:=rO t;simp only [fk] at r1;rw [hn] at r1;generalize bI t=TT at *
 generalize aU t=A at *
 generalize aq ((gv m 0 H).take j)=S at *
 generalize (gv m 0 H).getD j Ia=I at *
 generalize (if j<(gv m 0 H).length then (0:Int) else 1)=e at *
 unfold eU at hok;by_cases ht:I.tag=1
 ·rw [aa3 ht] at ho;rw [←ho];refine vF ab [0,1,4,5,6,7,8,18,30] Tryz.func40 rfl Tryz.results40 Tryz.ntmps40 ?_;(refine' Td r2 r1 r3)
 ·rw [aaY ht] at ho;rw [←ho];refine vF ab [0,1,4,5,6,7,8,18,30] Tryz.func40 rfl Tryz.results40 Tryz.ntmps40 ?_;(refine' Td r2 r1 r3)
theorem Ko {I:List It} {v j:Nat} (hv:v<I.length) (sp:AG 3 v 1 I j):j=v:=by
 have hr : ∀s:Sm,bj 3 v 1 s=true↔(v:Int)<s.n:=fun s=>by simp [bj,mL]
 have e : ∀i,i≤I.length→(aq (I.take i)).n=i:=fun i hi=>by rw [cC,aa7];omega
 have hle:=sp.le;have h1:j≤v:=by
  rcases abH j with h|h
  ·omega
  ·have:=sp.below j h (aaV _);have h2 : ¬_:=fun q=>by rw [(hr _).2 q] at this;cases this
   rw [e j hle] at h2;omega
 have h2:=(hr _).1 (sp.here (by omega));rw [e (j+1) (by omega)] at h2;omega
section
variable (t:Option T) (k:Tk t)
include k
theorem AY (v:Nat) (hv:v<(an t).length) : ∃vis:Nat,ap Tryz.prog G0 88 [.d (aU t),iv 3,iv v,iv 1] [] 0 (.tup [.d (fk (aq ((an t).take v)) vis),iv 0]) []:=by
 obtain ⟨j,vis,sp,-,r1⟩:=iT t k 3 (by omega) v 1 (by omega) (by show (v:Int)≤(aq (an t)).n;rw [cC];omega) (.inr rfl);obtain rfl:=Ko hv sp;exact ⟨vis,r1⟩
theorem MQ (j:Nat):eU (aq ((an t).take j)):=gg _ (fun i h=>k.ok i (abm h)) (by rw [aa7];have:=k.len;omega)
theorem D1 (i:Nat) (hi:i<(an t).length):ap Tryz.prog G0 41 [.d (bI t),iv i] [] 0 (.tup [.d (JL (aq ((an t).take i)) 0),iv 0]) []:=by
 obtain ⟨vis,r1⟩:=AY t k i hi;have hlen:=k.len;have r2:=Qn t 3 3 (by omega) i (by omega) _ (MQ t k i) vis r1;have e : ∀S:Sm,nq S 3 i=0:=fun _=>rfl
 rw [e] at r2;have r3:=iX t;have r4:=k9 t;rw [cC] at r4;generalize bI t=TT at *
 generalize aU t=A at *
 generalize aq ((an t).take i)=S at *
 refine vF ab [0,1,4,5,9] Tryz.func41 rfl Tryz.results41 Tryz.ntmps41 ?_;(refine' Td r4 r3 r2)
omit k in
theorem OM (S:Sm) (v x:Int) (hn:S.n≠(an t).length):ap Tryz.prog G0 149 [.d (bI t),.d (JL S x),iv 1,iv v,iv 0] [] 0 (.tup [.d (JL S x),iv 0]) []:=by
 have r4:=k9 t;rw [cC] at r4;generalize bI t=TT at *
 refine vF ab [0,1,2,3,4,6,10,11,12,13,14,24,34] Tryz.func149 rfl Tryz.results149 Tryz.ntmps149 ?_;(refine' Nh r4)
theorem Lp (S:Sm) (v x:Int) (hv:0≤v∧v≤1000000000000000000) (hn:S.n=(an t).length) (h0:0<(an t).length):ap Tryz.prog G0 149 [.d (bI t),.d (JL S x),iv 1,iv v,iv 0] [] 0 (.tup [.d (JL (aq ((an t).take ((an t).length - 1))) (v - (aq ((an t).take ((an t).length - 1))).d1)),iv 0]) []:=by
 have r4:=k9 t;rw [cC] at r4;obtain ⟨vis,r1⟩:=AY t k ((an t).length - 1) (by omega);have hlen:=k.len;have hok:=MQ t k ((an t).length - 1);have r3:=iX t;have r5:=xI (aq ((an t).take ((an t).length - 1))) vis (v - (aq ((an t).take ((an t).length - 1))).d1);rw [show ((((an t).length - 1:Nat)):Int)=((an t).length:Int) - 1 by omega] at r1;generalize bI t=TT at *
 generalize aU t=A at *
 generalize aq ((an t).take ((an t).length - 1))=S2 at *
 simp only [fk] at r1 r5;unfold eU at hok;have r6:=r4;refine vF ab [0,1,2,3,4,6,10,11,12,13,14,24,34] Tryz.func149 rfl Tryz.results149 Tryz.ntmps149 ?_;(refine' QS r4 r3 r1 r5 r6)
def uY (t:Option T) (j:Nat):Nat:=if j=(an t).length then (an t).length - 1 else j
theorem yK (v:Int) (hv:0≤v∧v≤(aq (an t)).d1) (h0:0<(an t).length) : ∃j,AG 1 v 1 (an t) j∧ap Tryz.prog G0 42 [.d (bI t),iv v] [] 0 (.tup [.d (JL (aq ((an t).take (uY t j))) (v - (aq ((an t).take (uY t j))).d1)),iv 0]) []:=by
 have ho:=gg (an t) k.ok (by have:=k.len;omega);unfold eU at ho;have hnn:(aq (an t)).n≤30000:=by rw [cC];have:=k.len;omega
 obtain ⟨j,vis,sp,-,r1⟩:=iT t k 1 (by omega) v 1 hv.1 hv.2 (.inr rfl);refine ⟨j,sp,?_⟩;have hjn:(aq ((an t).take j)).n=j:=by rw [cC,aa7];have:=sp.le;omega
 have r2:=Qn t 1 1 (by omega) v (by omega) _ (MQ t k j) vis r1;have e : ∀S:Sm,nq S 1 v=v - S.d1:=fun _=>rfl
 rw [e] at r2;have r3:=iX t;have r4:=k9 t;rw [cC] at r4;have key:ap Tryz.prog G0 149 [.d (bI t),.d (JL (aq ((an t).take j)) (v - (aq ((an t).take j)).d1)),iv 1,iv v,iv 0] [] 0 (.tup [.d (JL (aq ((an t).take (uY t j))) (v - (aq ((an t).take (uY t j))).d1)),iv 0]) []:=by
  unfold uY;by_cases hj:j=(an t).length
  ·rw [aa3 hj];exact Lp t k _ v _ (by omega) (by rw [hjn,hj]) h0
  ·rw [aaY hj];exact OM t _ v _ (by rw [hjn];omega)
 have r5:ap Tryz.prog G0 93 [.d (bI t),iv 1,iv v] [] 0 (.tup [.d (JL (aq ((an t).take (uY t j))) (v - (aq ((an t).take (uY t j))).d1)),iv 0]) []:=by
  generalize uY t j=q at *
  generalize bI t=TT at *
  generalize aU t=A at *
  generalize aq ((an t).take j)=S at *
  generalize aq ((an t).take q)=S2 at *
  refine vF ab [0,1,2,6,7,8,9,12] Tryz.func93 rfl Tryz.results93 Tryz.ntmps93 ?_;(refine' Tw r4 r3 r2 key)
 generalize uY t j=q at *
 generalize bI t=TT at *
 generalize aq ((an t).take q)=S2 at *
 clear key r2 r3 r4;refine vF ab [0,1,4,5] Tryz.func42 rfl Tryz.results42 Tryz.ntmps42 ?_;(refine' lK r5)
end
section
variable {s:ByteArray} {L:List Iy} {F:List Sn} {tab:Nat} {wd:Int} {ps:List (List Int)} {t:Option T}
theorem LX {L:List Iy} {n:Int} (h : ∀x∈L,0≤x.2.1∧x.2.1≤n):a8 L 0 0=0∧a8 L n 1=n+aY L:=by
 refine ⟨?_,?_⟩
 ·have e:L.filter (fJ 0 0)=[]:=acd.2 fun x hx=>by
   have:=h x hx;simp [fJ];omega
  unfold a8;rw [e];rfl
 ·have e:L.filter (fJ n 1)=L:=adg.2 fun x hx=>by
   have:=h x hx;simp only [fJ,abP,aa8,abs,aca,true_and];omega
  unfold a8;rw [e]
theorem dz.at0 (h:dz s L F tab wd):a8 (aD L) 0 0=0∧a8 (aD L) (aa s 0).length 1=(aa s 0).length+aY (aD L):=LX fun x hx=>by have:=(h.inl x hx).1;omega
theorem T1 (h:dz s L F tab wd) {j:Nat} {x:Nat × Nat} (hx:(lG s F)[j]? = some x):(aq (((bW s L F tab wd 0).map fY).take j)).d0=a8 (aD L) x.1 0 - fy (aD L) (aH F) 0 x.1:=by
 rw [bW,F6,(n4 _).1,aci];have e:=w8 (l:=aa s 0) h.gd.so (fZ h.o0) _ 0 (aaV _) (aa1 _) j x hx;have h0:=h.at0.1;rw [show (((0:Nat):Int))=0 from rfl] at e;rw [h0,ac2] at e;exact e
theorem yN (h:dz s L F tab wd):(aq ((bW s L F tab wd 0).map fY)).d0=(aa s 0).length+aY (aD L) - ((aH F).map (OQ (aD L))).sum∧(aq ((bW s L F tab wd 0).map fY)).d1=(aa s 0).length:=by
 rw [bW,(n4 _).1,(n4 _).2.1,aci,aci];refine ⟨?_,?_⟩
 ·have e:=w7 (l:=aa s 0) h.gd.so (fZ h.o0) _ 0 (aaV _) (aa1 _);have h0:=h.at0;rw [show (((0:Nat):Int))=0 from rfl] at e;rw [h0.1,h0.2,xc (abN _) (fZ h.o0),ac2] at e;exact e
 ·have e:=xa (aa s 0) (aH F) _ 0 (aaV _) (aa1 _);rw [show (((0:Nat):Int))=0 from rfl,ac2] at e;exact e
theorem Ky (h:dz s L F tab wd):(aq (an (AT s L F))).d0=(aa s 0).length+aY (aD L)∧(aq (an (AT s L F))).d1=(aa s 0).length+aY (aD L) - ((aH F).map (OQ (aD L))).sum:=by
 rw [show an (AT s L F)=gv ((aa s 0).length+aY (aD L)) 0 ((aH F).map (lp (aD L))) from (eI _).2];obtain ⟨h1,h2⟩:=yo _ 0 h.hrg (by have:=h.iS;omega);rw [aci] at h2;refine ⟨by rw [h1];omega,?_⟩;rw [h2,ac2];rfl
theorem Rf (h:dz s L F tab wd) {i:Nat} {x:Nat × Nat} (hx:(lG s F)[i]? = some x) {j:Nat} (sp:AG 1 x.1 1 ((bW s L F tab wd 0).map fY) j):(if j=((bW s L F tab wd 0).map fY).length then ((bW s L F tab wd 0).map fY).length - 1 else j)=i:=by
 have hlt:=(aaX.1 hx).1;have hlen:((bW s L F tab wd 0).map fY).length=(lG s F).length:=by rw [aa4,bW,aa4]
 have hr : ∀q:Sm,bj 1 x.1 1 q=true↔(x.1:Int)<q.d1:=fun q=>by simp [bj,mL]
 have hD:=fun {k:Nat} {y:Nat × Nat} (hy:(lG s F)[k]? = some y)=>Bm h hy
 have hT:(aq (((bW s L F tab wd 0).map fY).take (lG s F).length)).d1=(aa s 0).length:=by
  rw [←hlen,abC];exact (yN h).2
 have hst : ∀(k:Nat) y,(lG s F)[k]? = some y→(aq (((bW s L F tab wd 0).map fY).take (k+1))).d1=(y.1:Int)+Ch (aa s 0) y:=fun k y hy=>by
  have e:((bW s L F tab wd 0).map fY)[k]? = some (fY (X8 s L F tab wd y)):=by rw [bW,abp,abp,hy];rfl
  rw [ao e,gp];show (aq _).d1+_=_;rw [hD hy];rfl
 have hin : ∀y∈lG s F,y.1≤y.2∧y.2≤(aa s 0).length:=fun y hy=>by
  obtain ⟨h1,h2,h3⟩:=gm (aa s 0) (aH F) _ 0 (aaV _) (aa1 _) (.inl rfl) y hy;have:=bM (aa s 0) (aH F) h1;omega
 have mono : ∀b a:Nat,a≤b→b≤(lG s F).length→(aq (((bW s L F tab wd 0).map fY).take a)).d1≤(aq (((bW s L F tab wd 0).map fY).take b)).d1:=by
  intro b;induction b with
  | zero=>intro a ha _;rw [show a=0 by omega];exact abN _
  | succ b ih=>
   intro a ha hb;by_cases e:a=b+1
   ·subst e;exact abN _
   ·have h1:=ih a (by omega) (by omega);obtain ⟨y,hy⟩ : ∃y,(lG s F)[b]? = some y:=⟨_,IO (by omega)⟩
    have h2:=hst b y hy;rw [hD hy] at h1;have h3:=hin y (aa0 hy);rw [h2];unfold Ch;split<;>omega
 have hle:=sp.le;rw [hlen] at hle ⊢;have h1:(aq (((bW s L F tab wd 0).map fY).take j)).d1≤x.1:=by
  rcases abH j with e|e
  ·subst e;show (0:Int)≤_;omega
  ·have:=sp.below j e (aaV _);have h2 : ¬(x.1:Int)<_:=fun q=>by rw [(hr _).2 q] at this;cases this
   omega
 have h2:j<(lG s F).length→(x.1:Int)<(aq (((bW s L F tab wd 0).map fY).take (j+1))).d1:=fun hj=>(hr _).1 (sp.here (by rw [hlen];exact hj))
 have hDi:=hD hx;rcases acN j i with hji|hji|hji
 ·exfalso;have:=mono i (j+1) hji (by omega);have:=h2 (by omega);omega
 ·rw [aaY (by omega)];exact hji
 ·have h3:=mono j (i+1) hji hle;rw [hst i x hx] at h3;have h4:=hin x (aa0 hx);have h5:x.2=(aa s 0).length∧x.1=x.2:=by
   unfold Ch at h3;split at h3<;>omega
  have hjl:j=(lG s F).length:=by
   refine Nat.le_antisymm hle (ad4 fun q =>?_);have a1:=h2 q;have a2:=mono (lG s F).length (j+1) q (aaV _);rw [hT] at a2;omega
  rw [aa3 hjl];refine Nat.le_antisymm (ad4 fun q =>?_) (by omega);have a3:=(BM (aa s 0) (aH F) _ 0 (aaV _) (aa1 _) i x hx).2.2.1 (show i+1<(lG s F).length by omega);omega
theorem Mw (h:dz s L F tab wd) (i:Nat) (x:Nat × Nat) (hx:(lG s F)[i]? = some x) : ∃a b n2 d2 z2 n3 z3 d3 e3 f3:Int,
 ap Tryz.prog G0 39 [.d (bI (GN s L)),iv x.1,iv 0] [] 0 (.tup [iv a,iv 0]) []∧ap Tryz.prog G0 40 [.d (bI (AT s L F)),iv a] [] 0 (.tup [iv b,iv 0]) [] ∧
 ap Tryz.prog G0 41 [.d (bI (HU s L F tab wd)),iv i] [] 0 (.tup [.d (.agg [iD n2,iD z2,iD d2,iD b,iD x.1]),iv 0]) [] ∧
 ap Tryz.prog G0 42 [.d (bI (HU s L F tab wd)),iv x.1] [] 0 (.tup [.d (.agg [iD i,iD z3,iD d3,iD e3,iD f3]),iv 0]) []:=by
 have hlt:=(aaX.1 hx).1;obtain ⟨h1,h2,h3⟩:=gm (aa s 0) (aH F) _ 0 (aaV _) (aa1 _) (.inl rfl) x (aa0 hx);obtain ⟨hTk,hIt⟩:=qL h;have hlen:((bW s L F tab wd 0).map fY).length=(lG s F).length:=by rw [aa4,bW,aa4]
 have hS:=h.iS;have hrs:=h.rs;have hin:=nE (aD L) (n:=(aa s 0).length) (a:=x.1) (b:=0) (by omega);have r1:=GL h.wv x.1 0 (by omega) (.inl rfl);have r2:=NT h.ctk (eI _).2 h.hrg (by omega) (a8 (aD L) x.1 0) (by omega);have hb:=rx h3 (fZ h.o0);rw [Kw (fZ h.o0) (fun y hy hlt=>hb y hy hlt)] at r2;have r3:=D1 _ hTk i (by rw [hIt,hlen];exact hlt);obtain ⟨j,sp,r4⟩:=yK _ hTk x.1 (by rw [hIt,(yN h).2];omega) (by rw [hIt,hlen];omega);rw [hIt] at sp r3;have hj:=Rf h hx sp;unfold uY at r4;rw [hIt,hj] at r4;have hn:(aq (((bW s L F tab wd 0).map fY).take i)).n=i:=by rw [cC,aa7];omega
 simp only [JL] at r3 r4;rw [T1 h hx,Bm h hx] at r3;rw [hn] at r4;exact ⟨_,_,_,_,_,0,_,_,_,_,r1,r2,r3,r4⟩
end
section
variable {s:ByteArray} {L:List Iy} {F:List Sn} {tab:Int} {wd:Int}
theorem BI (hn:ap Tryz.prog G0 9 [jk s L F tab wd,iv 200] [] 0 (bv false) []) (h3:ap Tryz.prog G0 10 [] [] 0 (bv true) []):ap Tryz.prog G0 8 [jk s L F tab wd] [] 0 (bv true) []:=by
 refine vF ab [0,1,2,3,4,5,6,7,8,9,10,11,12,13,16,24,25,26,27,100] Tryz.func8 rfl Tryz.results8 Tryz.ntmps8 ?_;(refine' uR hn h3)
def UR (w c f:D) (l:List Int) (M:List Iy) (H:List Sn) (Ls:List (Nat × Nat)) (i:Nat):St:=⟨[(3,.po 0 0),(24,.d (.sd 3 false (Ls.map (va l M H)))),(25,iv Ls.length),(26,iv i)],[(0,.cell [.d w,.d c,.d f])],1⟩
attribute [push_cast] UR.eq_def
set_option maxHeartbeats 6400000 in
theorem En {st w c f d1 d2 d3 d4 tb:D} {y5 y6:Int} {l:List Int} {M:List Iy} {H:List Sn} {Ls:List (Nat × Nat)} (hL:Ls.length≤1000)
 (hs:ap Tryz.prog G0 9 [jk s L F tab wd,iv 200] [] 0 (bv true) []) (h3:ap Tryz.prog G0 10 [] [] 0 (bv true) [])
 (r1:ap Tryz.prog G0 11 [jk s L F tab wd] [] 0 (.d st) []) (r2:ap Tryz.prog G0 12 [jk s L F tab wd] [] 0 (.d (.agg [.sd 1 false (l.map dm),d1,d2,d3,d4,tb,iD y5,iD y6])) [])
 (r3:ap Tryz.prog G0 17 [.d (.agg [.sd 1 false (l.map dm),d1,d2,d3,d4])] [] 0 (.d (.sd 3 false (Ls.map (va l M H)))) [])
 (r4:ap Tryz.prog G0 33 [.d st] [] 0 (.d (.agg [w,c,f])) [])
 (r5 : ∀(i:Nat) x,Ls[i]? = some x → ∃a b n2 d2 z2 n3 z3 d3 e3 f3:Int,ap Tryz.prog G0 39 [.d w,iv x.1,iv 0] [] 0 (.tup [iv a,iv 0]) []∧ap Tryz.prog G0 40 [.d c,iv a] [] 0 (.tup [iv b,iv 0]) [] ∧
  ap Tryz.prog G0 41 [.d f,iv i] [] 0 (.tup [.d (.agg [iD n2,iD z2,iD d2,iD b,iD x.1]),iv 0]) []∧ap Tryz.prog G0 42 [.d f,iv x.1] [] 0 (.tup [.d (.agg [iD i,iD z3,iD d3,iD e3,iD f3]),iv 0]) []) :
 ap Tryz.prog G0 8 [jk s L F tab wd] [] 0 (bv true) []:=by
 refine vF ab [0,1,2,3,4,5,6,7,8,9,10,11,12,13,16,24,25,26,27,100] Tryz.func8 rfl Tryz.results8 Tryz.ntmps8 ?_;(refine' zg5 hs r1 r2 r4 r3)
 refine vL (lv:=[0,1,2,3,4,5,6,7,8,9,10,11,12,13,16,24,25,26,27,100]) ab (UR w c f l M H Ls) (fun i=>i≤Ls.length) (fun i=>Ls.length - i) (0) ((aC.go [3,24,25,26] (by exact vT) rfl)) ?_ ?_
 ·exact aa1 _
 intro i hi;rcases aa2 i Ls.length with hlt|hge
 ·obtain ⟨x,hx⟩ : ∃x,Ls[i]? = some x:=⟨_,IO hlt⟩
  obtain ⟨a,b,n2,d2,z2,n3,z3,d3,e3,f3,q1,q2,q3,q4⟩:=r5 i x hx;(refine' zm41 q1 q2 q3 q4 hx)
  refine aG.go (i+1) [3,24,25,26] (by exact vT) ?_ ?_
  ·show Ls.length - (i+1)<Ls.length - i;omega
  ·show i+1≤Ls.length;omega
 ·(refine' lK h3)
end
section
variable (rp il fd:D) (tab wd:Int) (w c f:Option T)
theorem P8 (n m q z1 z2:Int) (r1:ap Tryz.prog G0 27 [.d (Ay rp il fd tab wd)] [] 0 (iv 0) []) (r2:ap Tryz.prog G0 78 [.d (bI w)] [] 0 (.tup [iv n,iv m]) [])
 (r3:ap Tryz.prog G0 79 [.d (bI c)] [] 0 (.tup [iv m,iv q]) []) (r4:ap Tryz.prog G0 49 [.d (bI f)] [] 0 (.d (.agg [iD q,iD n,iD z1,iD z2])) [])
 (r5:ap Tryz.prog G0 30 [.d rp] [] 0 (iv n) []):ap Tryz.prog G0 31 [.d (Ay rp il fd tab wd),.d (.agg [bI w,bI c,bI f])] [] 0 (.tup [.d (CO rp il fd tab wd w c f),iv 0]) []:=by
 simp only [CO,Ay] at *
 generalize bI w=wA at *
 generalize bI c=cA at *
 generalize bI f=fA at *
 refine vF ab [0,1,2,3,4,5,6,7,8,9,10,11,15,53] Tryz.func31 rfl Tryz.results31 Tryz.ntmps31 ?_;(repeat' (first|fail|with_reducible refine vC (r1) ?_|with_reducible refine vC (r2) ?_|with_reducible refine vC (r3) ?_|with_reducible refine vC (r4) ?_|with_reducible refine vC (r5) ?_|with_reducible refine vQ (r5) ?_|(refine eP ?_)|(refine' zq)|fail))
 refine ae.frz 228 (ae.out ?_);(refine' zg)
theorem P7 (n m k a b z1 z2 z3 z4:Int) (hk:n≠k) (r1:ap Tryz.prog G0 27 [.d (Ay rp il fd tab wd)] [] 0 (iv 0) []) (r2:ap Tryz.prog G0 78 [.d (bI w)] [] 0 (.tup [iv n,iv m]) [])
 (r3:ap Tryz.prog G0 79 [.d (bI c)] [] 0 (.tup [iv a,iv b]) []) (r4:ap Tryz.prog G0 49 [.d (bI f)] [] 0 (.d (.agg [iD z3,iD z4,iD z1,iD z2])) [])
 (r5:ap Tryz.prog G0 30 [.d rp] [] 0 (iv k) []):ap Tryz.prog G0 31 [.d (Ay rp il fd tab wd),.d (.agg [bI w,bI c,bI f])] [] 0 (.tup [.d (.lit (.pointer none)),iv 4]) []:=by
 simp only [Ay] at *
 generalize bI w=wA at *
 generalize bI c=cA at *
 generalize bI f=fA at *
 refine vF ab [0,1,2,3,4,5,6,7,8,9,10,11,15,53] Tryz.func31 rfl Tryz.results31 Tryz.ntmps31 ?_;(refine' QS r1 r2 r3 r4 r5)
end
section
variable {s s':ByteArray} {L L':List Iy} {F F':List Sn} {tab wd tab' wd':Int}
theorem BJ (hn:ap Tryz.prog G0 9 [jk s L F tab wd,iv 150] [] 0 (bv false) []) (h3:ap Tryz.prog G0 10 [] [] 0 (bv true) []):ap Tryz.prog G0 7 [jk s L F tab wd,jk s' L' F' tab' wd'] [] 0 (bv true) []:=by
 refine vF ab [0,1,2,3,4,5,6,7,8,9,10,18,42,57] Tryz.func7 rfl Tryz.results7 Tryz.ntmps7 ?_;(refine' xW hn h3)
theorem BK (hs:ap Tryz.prog G0 9 [jk s L F tab wd,iv 150] [] 0 (bv true) []) (hn:ap Tryz.prog G0 9 [jk s' L' F' tab' wd',iv 150] [] 0 (bv false) []) (h3:ap Tryz.prog G0 10 [] [] 0 (bv true) []):ap Tryz.prog G0 7 [jk s L F tab wd,jk s' L' F' tab' wd'] [] 0 (bv true) []:=by
 refine vF ab [0,1,2,3,4,5,6,7,8,9,10,18,42,57] Tryz.func7 rfl Tryz.results7 Tryz.ntmps7 ?_;(refine' Ni hs hn h3)
variable {st mp pr:D} {l l':List Int} {a1 a2 a3 a4 a5 b1 b2 b3 b4 b5:D} {y5 y6 x5 x6:Int}
variable (hs:ap Tryz.prog G0 9 [jk s L F tab wd,iv 150] [] 0 (bv true) []) (hs2:ap Tryz.prog G0 9 [jk s' L' F' tab' wd',iv 150] [] 0 (bv true) []) (h3:ap Tryz.prog G0 10 [] [] 0 (bv true) [])
 (r1:ap Tryz.prog G0 11 [jk s' L' F' tab' wd'] [] 0 (.d st) []) (r2:ap Tryz.prog G0 32 [jk s L F tab wd] [] 0 (.d pr) [])
 (r3:ap Tryz.prog G0 33 [.d st] [] 0 (.d mp) [])
 (r5:ap Tryz.prog G0 12 [jk s L F tab wd] [] 0 (.d (.agg [.sd 1 false (l.map dm),a1,a2,a3,a4,a5,iD y5,iD y6])) []) (r6:ap Tryz.prog G0 12 [jk s' L' F' tab' wd'] [] 0 (.d (.agg [.sd 1 false (l'.map dm),b1,b2,b3,b4,b5,iD x5,iD x6])) [])
include hs hs2 h3 r1 r2 r3 r5 r6
set_option maxHeartbeats 6400000 in
theorem Ep (hne:l.length≠l'.length) (r4:ap Tryz.prog G0 31 [.d pr,.d mp] [] 0 (.tup [.d (.lit (.pointer none)),iv 4]) []) :
 ap Tryz.prog G0 7 [jk s L F tab wd,jk s' L' F' tab' wd'] [] 0 (bv true) []:=by
 refine vF ab [0,1,2,3,4,5,6,7,8,9,10,18,42,57] Tryz.func7 rfl Tryz.results7 Tryz.ntmps7 ?_;(refine' QT hs hs2 r1 r2 r3 r4 r5 r6 h3)
set_option maxHeartbeats 6400000 in
theorem Eo (heq:l.length=l'.length) {w c f:D} {rp il fd:D} {t5 t6:Int} (hmp:mp = .agg [w,c,f]) (r4:ap Tryz.prog G0 31 [.d pr,.d mp] [] 0 (.tup [.d (.pd 8 [.agg [rp,il,fd,iD t5,iD t6,w,c,f]] 0 0),iv 0]) [])
 (r7:ap Tryz.prog G0 33 [.d (.pd 8 [.agg [rp,il,fd,iD t5,iD t6,w,c,f]] 0 0)] [] 0 (.d (.agg [w,c,f])) []) (A B:List Pc) (C C2:List Fl)
 (r8:ap Tryz.prog G0 35 [.d w] [] 0 (iE A) []) (r9:ap Tryz.prog G0 36 [.d c] [] 0 (iE B) [])
 (e1 e2:Bool) (r10:ap Tryz.prog G0 34 [iE A,iE B,.d (.agg [.sd 1 false (l.map dm),a1,a2,a3,a4,a5,iD y5,iD y6])] [] 0 (bv e1) [])
 (r11:ap Tryz.prog G0 37 [.d (.agg [.sd 1 false (l'.map dm),b1,b2,b3,b4,b5,iD x5,iD x6])] [] 0 (iU C) []) (r12:ap Tryz.prog G0 37 [.d (.agg [.sd 1 false (l.map dm),a1,a2,a3,a4,a5,iD y5,iD y6])] [] 0 (iU C2) [])
 (r13:ap Tryz.prog G0 19 [iU C,iU C2] [] 0 (bv e2) []) (r14:ap Tryz.prog G0 38 [.d (.pd 8 [.agg [rp,il,fd,iD t5,iD t6,w,c,f]] 0 0)] [] 0 (bv (e1&&e2)) []) :
 ap Tryz.prog G0 7 [jk s L F tab wd,jk s' L' F' tab' wd'] [] 0 (bv true) []:=by
 subst hmp;simp only [iE,iU] at *
 generalize A.map jX=A at *
 generalize B.map jX=B at *
 generalize C.map eZ=C at *
 generalize C2.map eZ=C2 at *
 cases e1;all_goals cases e2
 all_goals
  refine vF ab [0,1,2,3,4,5,6,7,8,9,10,18,42,57] Tryz.func7 rfl Tryz.results7 Tryz.ntmps7 ?_;(repeat' (first|fail|with_reducible refine vC (hs) ?_|with_reducible refine vC (hs2) ?_|with_reducible refine vQ (hs) ?_|with_reducible refine vQ (hs2) ?_|with_reducible refine vC (r1) ?_|with_reducible refine vC (r2) ?_|with_reducible refine vC (r3) ?_|with_reducible refine vC (r4) ?_|with_reducible refine vC (r5) ?_|with_reducible refine vC (r6) ?_|with_reducible refine vC (r7) ?_|with_reducible refine vQ (r7) ?_|with_reducible refine vQ (r8) ?_|with_reducible refine vQ (r9) ?_|with_reducible refine vQ (r10) ?_|with_reducible refine vQ (r11) ?_|with_reducible refine vQ (r12) ?_|with_reducible refine vQ (r13) ?_|with_reducible refine vQ (r14) ?_|with_reducible refine vC (r14) ?_|with_reducible refine vC (h3) ?_|with_reducible refine vQ (h3) ?_|(refine eP ?_)|with_reducible refine ae.out ?_|(refine' zq)|fail))
end
section
variable {s s':ByteArray} {L L':List Iy} {F F':List Sn} {tab tab':Nat} {wd wd':Int} {ps:List (List Int)} {t:Option T}
theorem FG (h:dz s L F tab wd) (R:Rp (aa s 0) ps t):ap Tryz.prog G0 27 [.d (N7 s L F tab wd t)] [] 0 (iv 0) []:=by
 have ht:=h.tab0;have hwd:=h.wd0;have r1:=tI R (aa s 0).length (aa s 0).length (ct (aD L)) (.sd 2 false ((eV F).map bA)) (aH F) tab wd;rw [show IJ (aa s 0).length (aa s 0).length (aa s 0).length tab wd=0 by unfold IJ;rw [aaY (by simp),aaY (by omega)]] at r1;exact r1
theorem GM (h:dz s L F tab wd):ap Tryz.prog G0 78 [.d (bI (GN s L))] [] 0 (.tup [iv (aa s 0).length,iv ((aa s 0).length+aY (aD L))]) []:=by
 have r:=pB (GN s L);have hs:=lD (to:=(aa s 0).length) (aD L) 0 (by omega) fun x hx=>by have:=(h.inl x hx).1;omega
 rw [show an (GN s L)=ev (aa s 0).length 0 (aD L) from (eI _).2,hs.1,hs.2,ac2] at r;exact r
theorem FF (h:dz s L F tab wd):ap Tryz.prog G0 79 [.d (bI (AT s L F))] [] 0 (.tup [iv ((aa s 0).length+aY (aD L)),iv ((aa s 0).length+aY (aD L) - ((aH F).map (OQ (aD L))).sum)]) []:=by
 have r:=Hn (AT s L F);rw [(Ky h).1,(Ky h).2] at r;exact r
theorem F4 (h:dz s L F tab wd) : ∃z1 z2,ap Tryz.prog G0 49 [.d (bI (HU s L F tab wd))] [] 0 (.d (.agg [iD ((aa s 0).length+aY (aD L) - ((aH F).map (OQ (aD L))).sum),iD (aa s 0).length,iD z1,iD z2])) []:=by
 have r:=On (HU s L F tab wd);have hi:an (HU s L F tab wd)=(bW s L F tab wd 0).map fY:=(qL h).2;rw [hi,(yN h).1,(yN h).2] at r;exact ⟨_,_,r⟩
theorem M9 (h:dz s L F tab wd) (h':dz s' L' F' tab' wd') (R:Rp (aa s 0) ps t) (he:(aa s 0).length=(aa s' 0).length) :
 ap Tryz.prog G0 31 [.d (N7 s L F tab wd t),.d (.agg [bI (GN s' L'),bI (AT s' L' F'),bI (HU s' L' F' tab' wd')])] [] 0 (.tup [.d (CO (bF t) (cW (aa s 0).length (ct (aD L))) (JH (aa s 0).length F) tab wd (GN s' L') (AT s' L' F') (HU s' L' F' tab' wd')),iv 0]) []:=by
 obtain ⟨z1,z2,r4⟩:=F4 h';have r5:=dO (t:=t) R;rw [he] at r5;exact P8 _ _ _ _ _ _ _ _ _ _ _ _ _ (FG h R) (GM h') (FF h') r4 r5
theorem Na (h:dz s L F tab wd) (h':dz s' L' F' tab' wd') (R:Rp (aa s 0) ps t) (he:(aa s 0).length≠(aa s' 0).length) :
 ap Tryz.prog G0 31 [.d (N7 s L F tab wd t),.d (.agg [bI (GN s' L'),bI (AT s' L' F'),bI (HU s' L' F' tab' wd')])] [] 0 (.tup [.d (.lit (.pointer none)),iv 4]) []:=by
 obtain ⟨z1,z2,r4⟩:=F4 h';exact P7 _ _ _ _ _ _ _ _ _ _ _ _ _ _ _ _ _ (by omega) (FG h R) (GM h') (FF h') r4 (dO (t:=t) R)
end
end Go.Proofs.YtkkanlcjjpoklaaGreatDoor
