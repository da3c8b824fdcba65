/- What the theorem leans on, part 43. -/
import Derived.Test.YtkkanlcjjpoklaaGreatDoorStUPBI
import Derived.Test.YtkkanlcjjpoklaaGreatDoorStUPBO
import Derived.Test.YtkkanlcjjpoklaaGreatDoorStUPBP
set_option linter.unusedSimpArgs false
set_option linter.unusedVariables false
set_option maxRecDepth 8000
namespace Go.Proofs.YtkkanlcjjpoklaaGreatDoor
theorem IN (x:Fl):an Tryz.prog G0 201 [.d (gm x)] [] 0 (.d (jl (nj x))) []:=by
 obtain ⟨a,b,c,d⟩:=x;simp only [gm,nj];refine vF ab [0,1,2] Tryz.func201 rfl Tryz.results201 Tryz.ntmps201 ?_;(refine' zo)
def Pb (fs:List Fl) (i:Nat):St:=⟨[(4,.so 0 7 0 i),(5,bv true),(8,.d (.sd 4 false (fs.map gm))),(9,iv fs.length),(10,iv i)],[(0,.row 7 ((fs.take i).map (jl ∘ nj)))],1⟩
attribute [push_cast] Pb.eq_def gm.eq_def
theorem FT (fs:List Fl) (hl:fs.length≤100000) (h : ∀x∈fs,Cf x):an Tryz.prog G0 132 [.d (.sd 4 false (fs.map gm))] [] 0 (.tup [Ub (fs.map nj),bv true]) []:=by
 refine vF ab [0,2,3,4,5,7,8,9,10,11] Tryz.func132 rfl Tryz.results132 Tryz.ntmps132 ?_;(refine' zg)
 refine vL (lv:=[0,2,3,4,5,7,8,9,10,11]) ab (Pb fs) (fun i=>i≤fs.length) (fun i=>fs.length - i) (0) (aC.nil 4 7<|(aC.go [4,5,8,9,10] (by exact vT) rfl)) ?_ ?_
 ·exact Nat.zero_le _
 intro i hi;rcases Nat.lt_or_ge i fs.length with hlt|hge
 ·obtain ⟨x,hx⟩ : ∃x,fs[i]? = some x:=⟨_,List.getElem?_eq_getElem hlt⟩
  have hk:=h x (List.mem_of_getElem? hx);unfold Cf at hk;have r1:=IN x;have e:(fs.take (i+1)).map (jl ∘ nj)=(fs.take i).map (jl ∘ nj)++[jl (nj x)]:=by rw [ax hx,List.map_append];rfl
  obtain ⟨a,b,c,d⟩:=x;simp only [gm] at r1 hk;(refine' lS r1 hx)
  rw [←e,show ((fs.take (i+1)).map (jl ∘ nj)).length=i+1 by simp;omega];rw [show decide (0<c)=true from decide_eq_true hk.2.2.1.1];refine aG.go (i+1) [4,5,8,9,10] (by exact vT) ?_ ?_
  ·show fs.length - (i+1)<fs.length - i;omega
  ·show i+1≤fs.length;omega
 ·obtain rfl:i=fs.length:=by omega
  rw [Pb,List.take_length];(refine' zg)
  refine ae.frz 0 (ae.out ?_);(refine' zg)
  all_goals (try rw [List.take_of_length_le (by simp)])
  all_goals (try rw [Ub,List.map_map])
theorem ze (t:Option T):an Tryz.prog G0 133 [.d (aX t),iv 0,bv true] [] 0 (.tup [.d (iq t),iv 0]) []:=by
 simp only [iq,aX];generalize cN t=TT at *
 refine vF ab [0,1,2,6,7,8,12] Tryz.func133 rfl Tryz.results133 Tryz.ntmps133 ?_;(refine' zg)
 refine ae.frz 40 (ae.out ?_);(refine' zg)
abbrev eP (fs:List Fl):Option T:=d5 (fs.map nj) (fs.map nj).length
theorem L5 (fs:List Fl) (hl:fs.length≤20000) (h : ∀x∈fs,Cf x):an Tryz.prog G0 73 [.d (.sd 4 false (fs.map gm))] [] 0 (.tup [.d (iq (eP fs)),iv 0]) []:=by
 have r1:=FT fs (by omega) h;have r2:=wL (fs.map nj) (by rw [List.length_map];omega) fun i hi=>by
  obtain ⟨x,hx,rfl⟩:=List.mem_map.1 hi;exact IV (h x hx)
 have r3:=ze (eP fs);simp only [eP] at *
 generalize iq _=TT at *
 generalize aX _=E at *
 refine vF ab [0,2,3,4,5,6,7] Tryz.func73 rfl Tryz.results73 Tryz.ntmps73 ?_;(refine' QT r1 r2 r3)
abbrev tW (n:Int) (L:List Iy) (H:List Sn):Option T:=d5 (yD (n+dw L) 0 (H.map (EA L))) (yD (n+dw L) 0 (H.map (EA L))).length
theorem LD {n:Int} {L:List Iy} (hw:wP n L) (hS:n+dw L≤1000000000) (H:List Sn) (hl:H.length≤1000) (h:jp n 0 H=true) :
 an Tryz.prog G0 69 [.d (iq (tN n L)),.d (.sd 2 false (H.map bA))] [] 0 (.tup [.d (iq (tW n L H)),iv 0]) []:=by
 have hm:=cW h;have e:=(mI (gC n 0 L)).2;have hs:=ql L 0 hw.n0 fun x hx=>(hw.at' x hx).2
 have hn1:=hw.n1;have hin:=xu L;have r1:=Fq (tN n L) H (by omega) (by rw [e];rw [show (ay (gC n 0 L)).d0=n by omega];exact h) (by rw [e];omega);have r2:=wH (tN n L);rw [e,show (ay (gC n 0 L)).d0=n by omega,show (ay (gC n 0 L)).d1=n+dw L by omega] at r2;have r3:=GO hw H (by omega) fun x hx=>by have:=hm x hx;omega
 have hp : ∀x∈H.map (EA L),0≤x.1∧x.1≤x.2∧x.2≤1000000000:=fun y hy=>by
  obtain ⟨x,hx,rfl⟩:=List.mem_map.1 hy;have:=hm x hx;have a1:=Ey L (n:=n) (a:=x.1) (b:=1) (by omega);have a2:=Ey L (n:=n) (a:=x.2) (b:=0) (by omega);have a3:=MG L (a:=x.1) (c:=x.2) (by omega);show 0≤iX L x.1 1∧iX L x.1 1≤iX L x.2 0∧iX L x.2 0≤1000000000;omega
 have r4:=LE 0 (n+dw L) (H.map (EA L)) (by rw [List.length_map];omega) (by have:=hw.n0;omega) fun x hx=>by have:=hp x hx;omega
 have hcl:=wZ (n+dw L) (H.map (EA L)) 0;rw [List.length_map] at hcl;have r5:=wL (yD (n+dw L) 0 (H.map (EA L))) (by omega) (B4 hS _ 0 (Int.le_refl _) hp);have hw0:=hw.n0;simp only [tW,iq,aX,tN] at *
 generalize hX:cN (d5 (yD (n+dw L) 0 (H.map (EA L))) (yD (n+dw L) 0 (H.map (EA L))).length)=X at *
 generalize hW:cN (d5 (gC n 0 L) (gC n 0 L).length)=W at *
 generalize n+dw L=q at *
 generalize (H.map (EA L)).map bA=P at *
 generalize List.map bA H=Q at *
 refine vF ab [0,1,4,5,7,8,9,13,29] Tryz.func69 rfl Tryz.results69 Tryz.ntmps69 ?_;(refine' zg5 r1 r2 r3 r4 r5)
 refine ae.frz 112 (ae.out ?_);(refine' zg)
abbrev EB (rp il fd:D) (tab wd:Int):D:= .agg [rp,il,fd,iD tab,iD wd]
abbrev N4 (n:Int) (x:D) (H:List Sn):D:= .pd 3 [.agg [iD n,x,.sd 2 false (H.map bA)]] 0 0
theorem L4 (n:Int) (x:D) (H:List Sn):an Tryz.prog G0 75 [.d (N4 n x H)] [] 0 (iv n) []:=by
 simp only [N4];generalize List.map bA H=Q;refine vF ab [0,2,4] Tryz.func75 rfl Tryz.results75 Tryz.ntmps75 ?_;(refine' zo)
def GL (n a b tab wd:Int):Int:=if a≠n∨b≠n then 4 else if tab<1∨16<tab∨wd<0∨200<wd then 1 else 0
section
variable {l:List Int} {ps:List (List Int)} {t:Option T}
theorem sI (R:Rp l ps t) (a b:Int) (X x:D) (H:List Sn) (tab wd:Int):an Tryz.prog G0 27 [.d (EB (bd t) (cg a X) (N4 b x H) tab wd)] [] 0 (iv (GL l.length a b tab wd)) []:=by
 have r1:=fM R;have r2:=xr a X;have r3:=L4 b x H;have hlen:=R.len;generalize bd t=rp at *
 generalize cg a X=il at *
 generalize N4 b x H=fd at *
 refine vF ab [0,1,2,3,7,20] Tryz.func27 rfl Tryz.results27 Tryz.ntmps27 ?_;(refine' Ov r1 r2 r3)
 all_goals (unfold GL;first|rw [if_pos (by omega)]|rw [if_neg (by omega),if_pos (by omega)]|rw [if_neg (by omega),if_neg (by omega)])
theorem oq (t:Option T) (m:Int) (X:D) (n:Int) (x:D) (H:List Sn) (hl:H.length≤100000) (tab wd:Int):an Tryz.prog G0 72 [.d (EB (bd t) (cg m X) (N4 n x H) tab wd)] [] 0 (.d (.agg [bd t,cg m X,.sd 2 false (H.map bA),pQ zT wT,iD tab,iD wd])) []:=by
 have r1:=D4 n x H hl;have r2:=Hx;simp only [N4,EB,bd,cg] at *
 generalize aX t=A at *
 generalize List.map bA H=Q at *
 simp only [pQ] at *
 refine vF ab [0,1,2,3] Tryz.func72 rfl Tryz.results72 Tryz.ntmps72 ?_;(refine' BF r1 r2)
end
section
variable {s:ByteArray} {L:List Iy} {F:List Sn} {tab:Nat} {wd:Int} {ps:List (List Int)} {t:Option T}
theorem Oc (h:gM s L F tab wd) : ∀x∈iL s L F tab wd 0,Cf x:=by
 have hrs:=h.rs;have hg:=h.gd;have hr:=(gy h.okT).1;have hLs:=fE (aa s 0) (aD F) _ 0 (Nat.le_refl _) (Nat.zero_le _) (.inl rfl);intro y hy;obtain ⟨x,hx,rfl⟩:=List.mem_map.1 hy;obtain ⟨ha,e,hb⟩:=hLs x hx;obtain ⟨c1,c2⟩:=mR hg (by omega) hr ha hb;have he:=bU (aa s 0) (aD F) ha;have hc2:((aS L).length+1)*((aa s 0).length+1)≤61*301:=Nat.mul_le_mul (by have:=hg.len;omega) (by omega);have ht:1≤tab∧tab≤16:=by have:=h.tab0;omega
 have g:=Jy hg hrs hr zT wT ht wd ha e hb;rw [←e] at c1 c2 he;have hsz:=oD (B:=1000000) _ (tl fun z hz=>(c1 z hz).1);have hsz2:i8 (b4 (aa s 0) (aS L) x.2 x.1 (aD F))≤1000000*20000:=Nat.le_trans hsz (Nat.mul_le_mul_left _ (by omega));have hw:=qd (B:=200000000) _ _ (List.reverse_reverse _).symm fun r hr'=>by
  obtain ⟨-,-,q1,q2⟩:=g.s r hr';have:=gL q2;omega
 have hp:=G5 (bz zT wT tab 0 (aE (b4 (aa s 0) (aS L) x.2 x.1 (aD F)))) wd;have hq:=g.q;unfold Cf MD;simp only;split<;>omega
abbrev HK (rp il fd:D) (tab wd:Int) (w c f:Option T):D:= .pd 8 [.agg [rp,il,fd,iD tab,iD wd,iq w,iq c,iq f]] 0 0
abbrev NY (s:ByteArray) (L:List Iy) (F:List Sn) (tab wd:Int) (t:Option T):D:=EB (bd t) (cg (aa s 0).length (bO (aS L))) (HG (aa s 0).length F) tab wd
theorem KF (h:gM s L F tab wd) (R:Rp (aa s 0) ps t) (hw:wP (aa s 0).length (aS L)) (hS:(aa s 0).length+dw (aS L)≤1000000000) :
 an Tryz.prog G0 25 [.d (NY s L F tab wd t)] [] 0 (.tup [.d (HK (bd t) (cg (aa s 0).length (bO (aS L))) (HG (aa s 0).length F) tab wd (tN (aa s 0).length (aS L)) (tW (aa s 0).length (aS L) (aD F)) (eP (iL s L F tab wd 0))),iv 0]) []:=by
 have hf:=h.hl;have ht:=h.tab0;have hwd:=h.wd0;have hrs:=h.rs;have hLl:(aW (aa s 0) (aD F) 0).length≤301:=by have:=lC (aa s 0) (aD F) 0 (Nat.zero_le _);omega
 have r1:=sI R (aa s 0).length (aa s 0).length (bO (aS L)) (.sd 2 false ((d6 F).map bA)) (aD F) tab wd;rw [show GL (aa s 0).length (aa s 0).length (aa s 0).length tab wd=0 by unfold GL;rw [if_neg (by simp),if_neg (by omega)]] at r1;have r2:=Nz (aa s 0).length (aS L) hw.len ⟨hw.n0,hw.n1⟩ (fun x hx=>⟨(hw.at' x hx).2,(hw.sz x hx).1⟩) fun x hx=>by have:=(hw.sz x hx).2;omega
 have r3:=D4 (aa s 0).length (.sd 2 false ((d6 F).map bA)) (aD F) (by omega);have r4:=LD hw hS (aD F) (by omega) (Eb h.o0);have r5:=oq t (aa s 0).length (bO (aS L)) (aa s 0).length (.sd 2 false ((d6 F).map bA)) (aD F) (by omega) tab wd;have r6:=Ha h R;have r7:=fM R;have r8:=L5 (iL s L F tab wd 0) (by rw [iL,List.length_map];omega) (Oc h);simp only [Dx,Qv,NY,HK,HG,N4,EB,bd,cg,iq] at *
 generalize aX t=A at *
 generalize aX (tN _ _)=wA at *
 generalize aX (tW _ _ _)=cA at *
 generalize aX (eP _)=fA at *
 generalize bO (aS L)=X at *
 generalize (aa s 0).length=n at *
 generalize List.map bA _=Q at *
 generalize List.map bA _=Q2 at *
 generalize List.map gm _=Q3 at *
 generalize pQ zT wT=tb at *
 refine vF ab [0,1,2,3,4,5,6,7,8,10,14,28,45] Tryz.func25 rfl Tryz.results25 Tryz.ntmps25 ?_;(refine' zg8 r1 r2 r3 r4 r5 r6 r7 r8)
 refine ae.frz 208 (ae.out ?_);(refine' zg)
end
end Go.Proofs.YtkkanlcjjpoklaaGreatDoor
