/- What the theorem leans on, part 47. -/
import Derived.Test.YtkkanlcjjpoklaaGreatDoorStUPBM
import Derived.Test.YtkkanlcjjpoklaaGreatDoorStUPBR
import Derived.Test.YtkkanlcjjpoklaaGreatDoorStUPBS
set_option linter.unusedSimpArgs false
set_option linter.unusedVariables false
set_option maxRecDepth 8000
namespace Go.Proofs.YtkkanlcjjpoklaaGreatDoor
section
variable {s:ByteArray} {L:List Iy} {F:List Sn} {tab:Nat} {wd:Int} {ps:List (List Int)} {t:Option T}
abbrev Gr (s:ByteArray) (L:List Iy) (F:List Sn) (tab:Nat) (wd:Int) (x:Nat × Nat):List Rw:=rH zT wT tab wd (aa s 0) (b4 (aa s 0) (aS L) x.2 x.1 (aD F)) x.1 x.2
abbrev zR (s:ByteArray) (F:List Sn):List (Nat × Nat):=aW (aa s 0) (aD F) 0
theorem oa (s:ByteArray) (L:List Iy) (F:List Sn) (tab:Nat) (wd:Int):ik s L F tab wd=(zR s F).flatMap (Gr s L F tab wd):=mD _ _ _ _ _ _ _ _
theorem D9 (h:gM s L F tab wd):Tk (eP (iL s L F tab wd 0))∧ao (eP (iL s L F tab wd 0))=(iL s L F tab wd 0).map nj:=by
 refine ⟨Ep (by rw [List.length_map,iL,List.length_map];have:=h.ll;omega) fun i hi =>?_,(mI _).2⟩;obtain ⟨x,hx,rfl⟩:=List.mem_map.1 hi;exact IV (Oc h x hx)
theorem En (s:ByteArray) (L:List Iy) (F:List Sn) (tab:Nat) (wd:Int) (x:Nat × Nat):(MD zT wT tab wd (aa s 0) (aS L) (aD F) x).2.2.1=((Gr s L F tab wd x).length:Int):=by
 show _=((bP _ _ _ _ _).length:Int)
 rw [eG];rfl
theorem nI (h:gM s L F tab wd):(ay (ao (eP (iL s L F tab wd 0)))).d2=((ik s L F tab wd).length:Int):=by
 rw [(D9 h).2,(qj _).2.2,oa,←rk,List.map_map];congr 1;exact List.map_congr_left fun x _=>En s L F tab wd x
theorem Hk (h:gM s L F tab wd) (a b:Int) (hb:a<0∨b<a∨((ik s L F tab wd).length:Int)<b):an Tryz.prog G0 14 [.d (QQ s L F tab wd t),iv a,iv b] [] 0 (.tup [.d aB,iv 1]) []:=by
 have r1:=xl (eP (iL s L F tab wd 0));rw [nI h] at r1;simp only [QQ,HK,gm] at r1 ⊢;generalize iq (eP _)=fA at *
 generalize iq (tN _ _)=wA at *
 generalize iq (tW _ _ _)=cA at *
 generalize bd t=rp at *
 generalize cg _ _=il at *
 generalize HG _ _=fd at *
 refine vF ab [0,1,2,6,7,8,9,10,11,13,14,15,17,18,21,46,67,85] Tryz.func14 rfl Tryz.results14 Tryz.ntmps14 ?_;(repeat' (first|(with_reducible first|exact True.intro|refine vD ?_|refine vG ?_|refine vE ?_)|with_reducible refine vC (r1) ?_|with_reducible refine vQ (r1) ?_|(refine jh ?_)|with_reducible refine ae.out ?_|refine vR ?_|refine v6 ?_|with_reducible refine vN ?_|((with_reducible first|refine vB (fun h =>?_) (fun h =>?_)|refine vM (fun h =>?_) (fun h =>?_))<;>(first|(exfalso;omega)|skip))))
theorem IY (h:gM s L F tab wd) {j:Nat} {x:Nat × Nat} (hx:(zR s F)[j]? = some x):(ay (((iL s L F tab wd 0).map nj).take j)).d1=x.1:=by
 rw [iL,D7,(qj _).2.1,List.map_map];have:=vq (aa s 0) (aD F) _ 0 (Nat.le_refl _) (Nat.zero_le _) j x hx;rw [show ((x.1:Int) - ((0:Nat):Int))=x.1 by omega] at this;exact this
def Yj (sD:D) (V:bF) (to:Int) (x:Nat × List Rw):St:=⟨[(0,.d sD),(2,iv to),(8,.so 0 7 0 x.2.length),(9,.po 1 0),(10,iv x.1)],[(0,.row 7 (x.2.map kA)),(1,V)],2⟩
attribute [push_cast] Yj.eq_def
set_option maxHeartbeats 3200000 in
theorem Hj (h:gM s L F tab wd) (R:Rp (aa s 0) ps t) (a b:Nat) (hab:a≤b) (hb:b≤(ik s L F tab wd).length):an Tryz.prog G0 14 [.d (QQ s L F tab wd t),iv a,iv b] [] 0 (.tup [.d (.sd 7 false ((((ik s L F tab wd).take b).drop a).map kA)),iv 0]) []:=by
 have r1:=xl (eP (iL s L F tab wd 0));rw [nI h] at r1;have hlay:=h.lay.len;have hf:=h.hl;have ht:=h.tab0;have r2:=Nb (bd t) (cg (aa s 0).length (bO (aS L))) (HG (aa s 0).length F) tab wd (tN (aa s 0).length (aS L)) (tW (aa s 0).length (aS L) (aD F)) (eP (iL s L F tab wd 0)) _ _ _ _ _ _ (oq t (aa s 0).length (bO (aS L)) (aa s 0).length (.sd 2 false ((d6 F).map bA)) (aD F) (by omega) tab wd);obtain ⟨hTk,hIt⟩:=D9 h;have key : ∀row:Nat,row<(ik s L F tab wd).length → ∃(x:Nat × Nat) (pre post:List Rw) (n0 d0:Int),ik s L F tab wd=pre++(Gr s L F tab wd x++post)∧pre.length≤row∧row<pre.length+(Gr s L F tab wd x).length∧(x∈zR s F) ∧
  an Tryz.prog G0 51 [.d (iq (eP (iL s L F tab wd 0))),iv row] [] 0 (.tup [.d (.agg [iD n0,iD ((row:Int) - pre.length),iD pre.length,iD d0,iD x.1]),iv 0]) []:=by
  intro row hrow;obtain ⟨j,sp,r3⟩:=FS _ hTk row (by omega) (by rw [nI h];omega);rw [hIt] at sp r3;obtain ⟨x,hx,e1,h1,h2⟩:=G6 (G:=Gr s L F tab wd) (fun x _=>En s L F tab wd x) (v:=row) (by omega) (by rw [←oa];omega) sp;simp only [Uk] at r3;rw [IY h hx] at r3;have e2:(ay (((iL s L F tab wd 0).map nj).take j)).d2=_:=e1;rw [e2] at r3;have hlt:=(List.getElem?_eq_some_iff.1 hx).1;have h3:(row:Int)<((((zR s F).take j).flatMap (Gr s L F tab wd)).length:Int)+((Gr s L F tab wd x).length:Int):=h2;have h4:((((zR s F).take j).flatMap (Gr s L F tab wd)).length:Int)≤row:=h1;refine ⟨x,((zR s F).take j).flatMap (Gr s L F tab wd),((zR s F).drop (j+1)).flatMap (Gr s L F tab wd),_,_,?_,by omega,by omega,List.mem_of_getElem? hx,r3⟩;rw [oa];conv=>lhs;rw [←List.take_append_drop j (zR s F),List.flatMap_append]
  rw [List.drop_eq_getElem_cons hlt,(List.getElem?_eq_some_iff.1 hx).2,List.flatMap_cons]
 have hAt:=fun a ha hb=>EJ h R a ha hb
 have hLn:=fun x hx=>Gd h R x hx
 have hLs:=fE (aa s 0) (aD F) _ 0 (Nat.le_refl _) (Nat.zero_le _) (.inl rfl);simp only [QQ,HK,gm,Dx,Qv,wF,nS] at r1 r2 hAt hLn ⊢;generalize ik s L F tab wd=A at *
 generalize iq (eP _)=fA at *
 generalize iq (tN _ _)=wA at *
 generalize iq (tW _ _ _)=cA at *
 generalize bd t=rp at *
 generalize cg _ _=il at *
 generalize HG _ _=fd at *
 generalize List.map bA (aD F)=hd at *
 generalize pQ zT wT=tb at *
 refine vF ab [0,1,2,6,7,8,9,10,11,13,14,15,17,18,21,46,67,85] Tryz.func14 rfl Tryz.results14 Tryz.ntmps14 ?_;(repeat' (first|(with_reducible first|exact True.intro|refine vD ?_|refine vG ?_|refine vE ?_)|with_reducible refine vC (r1) ?_|with_reducible refine vQ (r1) ?_|with_reducible refine vC (r2) ?_|(refine jh ?_)|refine vR ?_|refine v6 ?_|with_reducible refine vN ?_|((with_reducible first|refine vB (fun h =>?_) (fun h =>?_)|refine vM (fun h =>?_) (fun h =>?_))<;>(first|(exfalso;omega)|skip))))
 refine vL (lv:=[0,1,2,6,7,8,9,10,11,13,14,15,17,18,21,46,67,85]) ab (Yj (.pd 8 [.agg [rp,il,fd,iD tab,iD wd,wA,cA,fA]] 0 0) (.cell [.d rp,.d il,.d (.sd 2 false hd),.d tb,iv tab,iv wd]) b) (fun x=>a≤x.1∧x.1≤b∧x.2=(A.take x.1).drop a) (fun x=>b - x.1) ((a,[])) (aC.nil 8 7<|(aC.go [0,2,8,9,10] (by exact vT) rfl)) ?_ ?_
 ·exact ⟨Nat.le_refl _,hab,by rw [List.drop_of_length_le];rw [List.length_take];exact Nat.min_le_left _ _⟩
 rintro ⟨row,out⟩ ⟨g1,g2,g3⟩;simp only at g1 g2 g3;have hol:out.length≤row:=by rw [g3,List.length_drop,List.length_take];omega
 rcases Nat.lt_or_ge row b with hlt|hge
 ·obtain ⟨x,pre,post,n0,d0,e1,p1,p2,hx,r3⟩:=key row (by omega);obtain ⟨q1,q2,q3⟩:=hLs x hx;have r4:=hAt x.1 q1 q3;have r5:=hLn x hx;rw [←q2] at r4;have hcs:=Ir (f:=a) (r:=row) (n:=min (Gr s L F tab wd x).length (b - pre.length)) e1 g1 p1 (by omega) (by omega);have hql:pre.length+(Gr s L F tab wd x).length≤A.length:=by rw [e1,List.length_append,List.length_append];omega
  simp only [Gr] at r5 hcs p2 hql;generalize rH zT wT tab wd _ _ _ _=Q at *
  generalize List.map fF _=P at *
  (repeat' (first|(with_reducible first|exact True.intro|refine vD ?_|refine vG ?_|refine vE ?_)|with_reducible refine vC (r3) ?_|with_reducible refine vC (r4) ?_|with_reducible refine vC (r5) ?_|(refine jh ?_)|refine vR ?_|refine v6 ?_|with_reducible refine vN ?_|((with_reducible first|refine vB (fun h =>?_) (fun h =>?_)|refine vM (fun h =>?_) (fun h =>?_))<;>(first|(exfalso;omega)|skip))))
  obtain ⟨n,hn⟩ : ∃n:Nat,n=min Q.length (b - pre.length):=⟨_,rfl⟩
  rw [←hn] at hcs;rw [show min (Q.length:Int) ((b:Int) - pre.length)=(n:Int) by omega,show ((row:Int) - pre.length).toNat=row - pre.length by omega,Int.toNat_natCast,g3,hcs];refine aG.go ((pre.length+n,(A.take (pre.length+n)).drop a)) [0,2,8,9,10] (by exact vT) ?_ ?_
  ·show b - (pre.length+n)<b - row;omega
  ·exact ⟨by simp only;omega,by simp only;omega,rfl⟩
 ·obtain rfl:row=b:=by omega
  subst g3;(refine' zg)
  refine ae.frz 0 (ae.out ?_);(refine' zg)
  all_goals (try rw [List.take_of_length_le (by simp)])
end
section
variable {s:ByteArray} {L:List Iy} {F:List Sn} {tab:Int} {wd:Int}
theorem Cz (a b:Int) (hn:an Tryz.prog G0 9 [tL s L F tab wd,iv 200] [] 0 (bv false) []) (h3:an Tryz.prog G0 10 [] [] 0 (bv true) []):an Tryz.prog G0 3 [tL s L F tab wd,iv a,iv b] [] 0 (bv true) []:=by
 refine vF ab [0,1,2,3,6,7,8,9,10,13,39] Tryz.func3 rfl Tryz.results3 Tryz.ntmps3 ?_;(refine' tJ hn h3)
set_option maxHeartbeats 6400000 in
theorem Gg {st w:D} {A:List Rw} (hA:A.length≤1000000000000) (a b:Int) (hs:an Tryz.prog G0 9 [tL s L F tab wd,iv 200] [] 0 (bv true) []) (h3:an Tryz.prog G0 10 [] [] 0 (bv true) [])
 (r1:an Tryz.prog G0 11 [tL s L F tab wd] [] 0 (.d st) []) (r2:an Tryz.prog G0 12 [tL s L F tab wd] [] 0 (.d w) []) (r3:an Tryz.prog G0 13 [.d w] [] 0 (.d (.sd 7 false (A.map kA))) [])
 (r4:a<0∨b<a∨(A.length:Int)<b→an Tryz.prog G0 14 [.d st,iv a,iv b] [] 0 (.tup [.d aB,iv 1]) [])
 (r5 : ∀x y:Nat,a=x→b=y→x≤y→y≤A.length→an Tryz.prog G0 14 [.d st,iv x,iv y] [] 0 (.tup [.d (.sd 7 false (((A.take y).drop x).map kA)),iv 0]) [])
 (r6 : ∀B:List Rw,B.length≤A.length→(∀r∈B,r∈A)→an Tryz.prog G0 15 [.d (.sd 7 false (B.map kA)),.d (.sd 7 false (B.map kA))] [] 0 (bv true) []) :
 an Tryz.prog G0 3 [tL s L F tab wd,iv a,iv b] [] 0 (bv true) []:=by
 by_cases hb:a<0∨b<a∨(A.length:Int)<b
 ·have r7:=r4 hb;clear r4 r5 r6;refine vF ab [0,1,2,3,6,7,8,9,10,13,39] Tryz.func3 rfl Tryz.results3 Tryz.ntmps3 ?_;(repeat' (first|(with_reducible first|exact True.intro|refine vD ?_|refine vG ?_|refine vE ?_)|with_reducible refine vC (hs) ?_|with_reducible refine vC (r1) ?_|with_reducible refine vC (r2) ?_|with_reducible refine vC (r3) ?_|with_reducible refine vC (r7) ?_|with_reducible refine vC (h3) ?_|with_reducible refine vQ (h3) ?_|(refine jh ?_)|with_reducible refine ae.out ?_|refine vR ?_|refine v6 ?_|with_reducible refine vN ?_|((with_reducible first|refine vB (fun h =>?_) (fun h =>?_)|refine vM (fun h =>?_) (fun h =>?_))<;>(first|(exfalso;omega)|skip))))
 ·obtain ⟨x,rfl⟩ : ∃x:Nat,a=x:=⟨a.toNat,by omega⟩
  obtain ⟨y,rfl⟩ : ∃y:Nat,b=y:=⟨b.toNat,by omega⟩
  have r7:=r5 x y rfl rfl (by omega) (by omega);have r8:=r6 ((A.take y).drop x) (by rw [List.length_drop,List.length_take];omega) fun r hr=>List.mem_of_mem_take (List.mem_of_mem_drop hr)
  clear r4 r5 r6;refine vF ab [0,1,2,3,6,7,8,9,10,13,39] Tryz.func3 rfl Tryz.results3 Tryz.ntmps3 ?_;(repeat' (first|(with_reducible first|exact True.intro|refine vD ?_|refine vG ?_|refine vE ?_)|with_reducible refine vC (hs) ?_|with_reducible refine vC (r1) ?_|with_reducible refine vC (r2) ?_|with_reducible refine vC (r3) ?_|with_reducible refine vC (r7) ?_|with_reducible refine vC (r8) ?_|with_reducible refine vQ (r8) ?_|with_reducible refine vC (h3) ?_|with_reducible refine vQ (h3) ?_|(refine jh ?_)|with_reducible refine ae.out ?_|refine vR ?_|refine v6 ?_|with_reducible refine vN ?_|((with_reducible first|refine vB (fun h =>?_) (fun h =>?_)|refine vM (fun h =>?_) (fun h =>?_))<;>(first|(exfalso;omega)|skip))))
end
end Go.Proofs.YtkkanlcjjpoklaaGreatDoor
