/- What the theorem leans on, part 44. -/
import Derived.Test.YtkkanlcjjpoklaaGreatDoorSpTPBL
import Derived.Test.YtkkanlcjjpoklaaGreatDoorSpTPBO
import Derived.Test.YtkkanlcjjpoklaaGreatDoorSpTPBQ
set_option linter.unusedSimpArgs false
set_option linter.unusedVariables false
set_option maxRecDepth 8000
namespace Go.Proofs.YtkkanlcjjpoklaaGreatDoor
theorem FI {n:Int} {L:List Iy} (hw:su n L) (hS:n+cG L≤1000000000) (H:List Sn) (hl:H.length≤1000) (h:iZ n 0 H=true) :
 aq Tryz.prog G0 69 [.d (l5 (xk n L)),.d (.sd 2 false (H.map dk))] [] 0 (.tup [.d (l5 (FO n L H)),iv 0]) []:=by
 have hm:=ct h;have e:=(oO (fe n 0 L)).2;have hs:=nA L 0 hw.n0 fun x hx=>(hw.at' x hx).2
 have hn1:=hw.n1;have hin:=s6 L;have r1:=AF (xk n L) H (by omega) (by rw [e];rw [show (ao (fe n 0 L)).d0=n by omega];exact h) (by rw [e];omega);have r2:=se (xk n L);rw [e,show (ao (fe n 0 L)).d0=n by omega,show (ao (fe n 0 L)).d1=n+cG L by omega] at r2;have r3:=BK hw H (by omega) fun x hx=>by have:=hm x hx;omega
 have hp : ∀x∈H.map (zQ L),0≤x.1∧x.1≤x.2∧x.2≤1000000000:=fun y hy=>by
  obtain ⟨x,hx,rfl⟩:=List.mem_map.1 hy;have:=hm x hx;have a1:=zO L (n:=n) (a:=x.1) (b:=1) (by omega);have a2:=zO L (n:=n) (a:=x.2) (b:=0) (by omega);have a3:=GN L (a:=x.1) (c:=x.2) (by omega);show 0≤gr L x.1 1∧gr L x.1 1≤gr L x.2 0∧gr L x.2 0≤1000000000;omega
 have r4:=FJ 0 (n+cG L) (H.map (zQ L)) (by rw [List.length_map];omega) (by have:=hw.n0;omega) fun x hx=>by have:=hp x hx;omega
 have hcl:=sG (n+cG L) (H.map (zQ L)) 0;rw [List.length_map] at hcl;have r5:=sm (t9 (n+cG L) 0 (H.map (zQ L))) (by omega) (xB hS _ 0 (Int.le_refl _) hp);have hw0:=hw.n0;simp only [FO,l5,aU,xk] at *
 generalize hX:bZ (c9 (t9 (n+cG L) 0 (H.map (zQ L))) (t9 (n+cG L) 0 (H.map (zQ L))).length)=X at *
 generalize hW:bZ (c9 (fe n 0 L) (fe n 0 L).length)=W at *
 generalize n+cG L=q at *
 generalize (H.map (zQ L)).map dk=P at *
 generalize List.map dk H=Q at *
 refine vF ab [0,1,4,5,7,8,9,13,29] Tryz.func69 rfl Tryz.results69 Tryz.ntmps69 ?_;(refine' Q8 r1 r2 r3 r4 r5)
 refine ah.frz 112 (ah.out ?_);(refine' zg)
abbrev D7 (rp il fd:D) (tab wd:Int):D:= .agg [rp,il,fd,iD tab,iD wd]
abbrev zw (n:Int) (x:D) (H:List Sn):D:= .pd 3 [.agg [iD n,x,.sd 2 false (H.map dk)]] 0 0
theorem Gc (n:Int) (x:D) (H:List Sn):aq Tryz.prog G0 75 [.d (zw n x H)] [] 0 (iv n) []:=by
 simp only [zw];generalize List.map dk H=Q;refine vF ab [0,2,4] Tryz.func75 rfl Tryz.results75 Tryz.ntmps75 ?_;(refine' zo)
def kA (n a b tab wd:Int):Int:=if a≠n∨b≠n then 4 else if tab<1∨16<tab∨wd<0∨200<wd then 1 else 0
section
variable {l:List Int} {ps:List (List Int)} {t:Option T}
theorem dA (R:Rp l ps t) (a b:Int) (X x:D) (H:List Sn) (tab wd:Int):aq Tryz.prog G0 27 [.d (D7 (a5 t) (bY a X) (zw b x H) tab wd)] [] 0 (iv (kA l.length a b tab wd)) []:=by
 have r1:=eh R;have r2:=s5 a X;have r3:=Gc b x H;have hlen:=R.len;generalize a5 t=rp at *
 generalize bY a X=il at *
 generalize zw b x H=fd at *
 refine vF ab [0,1,2,3,7,20] Tryz.func27 rfl Tryz.results27 Tryz.ntmps27 ?_;(refine' MD r1 r2 r3)
 all_goals (unfold kA;first|rw [if_pos (by omega)]|rw [if_neg (by omega),if_pos (by omega)]|rw [if_neg (by omega),if_neg (by omega)])
theorem rT (t:Option T) (m:Int) (X:D) (n:Int) (x:D) (H:List Sn) (hl:H.length≤100000) (tab wd:Int):aq Tryz.prog G0 72 [.d (D7 (a5 t) (bY m X) (zw n x H) tab wd)] [] 0 (.d (.agg [a5 t,bY m X,.sd 2 false (H.map dk),z6 zT wT,iD tab,iD wd])) []:=by
 have r1:=zp n x H hl;have r2:=Cf;simp only [zw,D7,a5,bY] at *
 generalize aU t=A at *
 generalize List.map dk H=Q at *
 simp only [z6] at *
 refine vF ab [0,1,2,3] Tryz.func72 rfl Tryz.results72 Tryz.ntmps72 ?_;(refine' MA r1 r2)
end
section
variable {s:ByteArray} {L:List Iy} {F:List Sn} {tab:Nat} {wd:Int} {ps:List (List Int)} {t:Option T}
theorem K7 (h:sn s L F tab wd) : ∀x∈mV s L F tab wd 0,xI x:=by
 have hrs:=h.rs;have hg:=h.gd;have hr:=(kx h.okT).1;have hLs:=lE (aa s 0) (aL F) _ 0 (Nat.le_refl _) (Nat.zero_le _) (.inl rfl);intro y hy;obtain ⟨x,hx,rfl⟩:=List.mem_map.1 hy;obtain ⟨ha,e,hb⟩:=hLs x hx;obtain ⟨c1,c2⟩:=ph hg (by omega) hr ha hb;have he:=dc (aa s 0) (aL F) ha;have hc2:((bp L).length+1)*((aa s 0).length+1)≤61*301:=Nat.mul_le_mul (by have:=hg.len;omega) (by omega);have ht:1≤tab∧tab≤16:=by have:=h.tab0;omega
 have g:=DL hg hrs hr zT wT ht wd ha e hb;rw [←e] at c1 c2 he;have hsz:=tS (B:=1000000) _ (yP fun z hz=>(c1 z hz).1);have hsz2:jM (bQ (aa s 0) (bp L) x.2 x.1 (aL F))≤1000000*20000:=Nat.le_trans hsz (Nat.mul_le_mul_left _ (by omega));have hw:=tl (B:=200000000) _ _ (List.reverse_reverse _).symm fun r hr'=>by
  obtain ⟨-,-,q1,q2⟩:=g.s r hr';have:=l8 q2;omega
 have hp:=BV (bq zT wT tab 0 (aI (bQ (aa s 0) (bp L) x.2 x.1 (aL F)))) wd;have hq:=g.q;unfold xI Km;simp only;split<;>omega
abbrev MR (rp il fd:D) (tab wd:Int) (w c f:Option T):D:= .pd 8 [.agg [rp,il,fd,iD tab,iD wd,l5 w,l5 c,l5 f]] 0 0
abbrev KL (s:ByteArray) (L:List Iy) (F:List Sn) (tab wd:Int) (t:Option T):D:=D7 (a5 t) (bY (aa s 0).length (ca (bp L))) (KR (aa s 0).length F) tab wd
theorem EE (h:sn s L F tab wd) (R:Rp (aa s 0) ps t) (hw:su (aa s 0).length (bp L)) (hS:(aa s 0).length+cG (bp L)≤1000000000) :
 aq Tryz.prog G0 25 [.d (KL s L F tab wd t)] [] 0 (.tup [.d (MR (a5 t) (bY (aa s 0).length (ca (bp L))) (KR (aa s 0).length F) tab wd (xk (aa s 0).length (bp L)) (FO (aa s 0).length (bp L) (aL F)) (uM (mV s L F tab wd 0))),iv 0]) []:=by
 have hf:=h.hl;have ht:=h.tab0;have hwd:=h.wd0;have hrs:=h.rs;have hLl:(bG (aa s 0) (aL F) 0).length≤301:=by have:=eB (aa s 0) (aL F) 0 (Nat.zero_le _);omega
 have r1:=dA R (aa s 0).length (aa s 0).length (ca (bp L)) (.sd 2 false ((jI F).map dk)) (aL F) tab wd;rw [show kA (aa s 0).length (aa s 0).length (aa s 0).length tab wd=0 by unfold kA;rw [if_neg (by simp),if_neg (by omega)]] at r1;have r2:=HC (aa s 0).length (bp L) hw.len ⟨hw.n0,hw.n1⟩ (fun x hx=>⟨(hw.at' x hx).2,(hw.sz x hx).1⟩) fun x hx=>by have:=(hw.sz x hx).2;omega
 have r3:=zp (aa s 0).length (.sd 2 false ((jI F).map dk)) (aL F) (by omega);have r4:=FI hw hS (aL F) (by omega) (zx h.o0);have r5:=rT t (aa s 0).length (ca (bp L)) (aa s 0).length (.sd 2 false ((jI F).map dk)) (aL F) (by omega) tab wd;have r6:=rS h R;have r7:=eh R;have r8:=Gd (mV s L F tab wd 0) (by rw [mV,List.length_map];omega) (K7 h);simp only [Ms,M1,KL,MR,KR,zw,D7,a5,bY,l5] at *
 generalize aU t=A at *
 generalize aU (xk _ _)=wA at *
 generalize aU (FO _ _ _)=cA at *
 generalize aU (uM _)=fA at *
 generalize ca (bp L)=X at *
 generalize (aa s 0).length=n at *
 generalize List.map dk _=Q at *
 generalize List.map dk _=Q2 at *
 generalize List.map sX _=Q3 at *
 generalize z6 zT wT=tb at *
 refine vF ab [0,1,2,3,4,5,6,7,8,10,14,28,45] Tryz.func25 rfl Tryz.results25 Tryz.ntmps25 ?_;(refine' Q9 r1 r2 r3 r4 r5 r6 r7 r8)
 refine ah.frz 208 (ah.out ?_);(refine' zg)
theorem B2 (h:sn s L F tab wd) (R:Rp (aa s 0) ps t) :
 aq Tryz.prog G0 26 [.d (KL s L F tab wd t),iv 0,iv (aa s 0).length] [] 0 (.tup [.d (.sd 4 false ((mV s L F tab wd 0).map sX)),iv 0]) []:=by
 have hf:=h.hl;have ht:=h.tab0;have hwd:=h.wd0;have r1:=dA R (aa s 0).length (aa s 0).length (ca (bp L)) (.sd 2 false ((jI F).map dk)) (aL F) tab wd;rw [show kA (aa s 0).length (aa s 0).length (aa s 0).length tab wd=0 by unfold kA;rw [if_neg (by simp),if_neg (by omega)]] at r1;have r5:=rT t (aa s 0).length (ca (bp L)) (aa s 0).length (.sd 2 false ((jI F).map dk)) (aL F) (by omega) tab wd;have r6:=rS h R;simp only [Ms,M1,KL,MR,KR,zw,D7,a5,bY] at *
 generalize aU t=A at *
 generalize ca (bp L)=X at *
 generalize (aa s 0).length=n at *
 generalize List.map dk _=Q at *
 generalize List.map dk _=Q2 at *
 generalize List.map sX _=Q3 at *
 generalize z6 zT wT=tb at *
 refine vF ab [0,1,2,3,6,7,8,9,10,14,25] Tryz.func26 rfl Tryz.results26 Tryz.ntmps26 ?_;(refine' M5 r1 r5 r6)
end
theorem EF {l:List Int} {ps:List (List Int)} {t:Option T} (R:Rp l ps t) (a b:Int) (X x:D) (H:List Sn) (tab wd e:Int) (he:kA l.length a b tab wd=e) (h0:e≠0) :
 aq Tryz.prog G0 25 [.d (D7 (a5 t) (bY a X) (zw b x H) tab wd)] [] 0 (.tup [.d (.lit (.pointer none)),iv e]) []:=by
 have r1:=dA R a b X x H tab wd;rw [he] at r1;simp only [zw] at *
 generalize a5 t=rp at *
 generalize bY _ _=il at *
 generalize List.map dk _=Q at *
 refine vF ab [0,1,2,3,4,5,6,7,8,10,14,28,45] Tryz.func25 rfl Tryz.results25 Tryz.ntmps25 ?_;(refine' qe r1)
theorem B3 {l:List Int} {ps:List (List Int)} {t:Option T} (R:Rp l ps t) (a b:Int) (X x:D) (H:List Sn) (tab wd e p q:Int) (he:kA l.length a b tab wd=e) (h0:e≠0) :
 aq Tryz.prog G0 26 [.d (D7 (a5 t) (bY a X) (zw b x H) tab wd),iv p,iv q] [] 0 (.tup [.d ap,iv e]) []:=by
 have r1:=dA R a b X x H tab wd;rw [he] at r1;simp only [zw] at *
 generalize a5 t=rp at *
 generalize bY _ _=il at *
 generalize List.map dk _=Q at *
 refine vF ab [0,1,2,3,6,7,8,9,10,14,25] Tryz.func26 rfl Tryz.results26 Tryz.ntmps26 ?_;(refine' qe r1)
end Go.Proofs.YtkkanlcjjpoklaaGreatDoor
