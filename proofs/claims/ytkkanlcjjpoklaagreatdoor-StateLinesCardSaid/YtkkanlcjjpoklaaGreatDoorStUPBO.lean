/- What the theorem leans on, part 41. -/
import Derived.Test.YtkkanlcjjpoklaaGreatDoorStUPBH
import Derived.Test.YtkkanlcjjpoklaaGreatDoorStUPBN
set_option linter.unusedSimpArgs false
set_option linter.unusedVariables false
set_option maxRecDepth 8000
namespace Go.Proofs.YtkkanlcjjpoklaaGreatDoor
def MD (z w:List (Int × Int)) (tab:Nat) (wd:Int) (l:List Int) (L:List Iy) (H:List Sn) (x:Nat × Nat):Fl:=
 (i8 (b4 l L x.2 x.1 H)+(if x.2<l.length then 1 else 0),(x.2:Int) - x.1+(if x.2<l.length then 1 else 0),(bN (bz z w tab 0 (aE (b4 l L x.2 x.1 H))) wd).length,jJ (bN (bz z w tab 0 (aE (b4 l L x.2 x.1 H))) wd))
def gm (x:Fl):D:= .agg [iD x.1,iD x.2.1,iD x.2.2.1,iD x.2.2.2]
theorem G5 (C:List Cl) (wd:Int):0<(bN C wd).length:=by
 have h:0<(bn C wd).length:=by unfold bn;split<;>simp [px]
 have h2:=qP (bn C wd) C;rw [bN];rcases hpq:dg C (bn C wd) with _|⟨p,q⟩
 ·rw [hpq] at h2;simp only [List.length_nil] at h2;omega
 ·simp
def UN (rs:List (List Cl)) (i:Nat):St:=⟨[(7,pI rs),(8,iv 0),(9,iv (jJ (rs.take i))),(18,pI rs),(19,iv rs.length),(20,iv i)],[],0⟩
attribute [push_cast] UN.eq_def
theorem Dy (C:List Cl) (h:dH C) (wd:Int) (hw:0≤wd∧wd≤200) (hq:(bN C wd).length≤100000000) (hr : ∀r∈bN C wd,r.length≤100000000 ∧ ∀c∈r,cw c≤2) :
 an Tryz.prog G0 199 [cM C,iv wd] [] 0 (.tup [iv (bN C wd).length,iv (jJ (bN C wd)),iv 0]) []:=by
 have r1:=Bz C h wd hw;generalize bN C wd=rs at *
 refine vF ab [0,1,4,5,6,7,8,9,11,18,19,20,21] Tryz.func199 rfl Tryz.results199 Tryz.ntmps199 ?_;(refine' fj r1)
 refine vL (lv:=[0,1,4,5,6,7,8,9,11,18,19,20,21]) ab (UN rs) (fun i=>i≤rs.length) (fun i=>rs.length - i) (0) ((aC.go [7,8,9,18,19,20] (by exact vT) rfl)) ?_ ?_
 ·exact Nat.zero_le _
 intro i hi;have hb:=qd (B:=200000000) (rs.take i).reverse (rs.take i) (by simp) fun r hr'=>by
  obtain ⟨q1,q2⟩:=hr r (List.mem_of_mem_take hr');have:=gL q2;omega
 rcases Nat.lt_or_ge i rs.length with hlt|hge
 ·obtain ⟨r,hx⟩ : ∃r,rs[i]? = some r:=⟨_,List.getElem?_eq_getElem hlt⟩
  obtain ⟨q1,q2⟩:=hr r (List.mem_of_getElem? hx);have hwl:=gL q2;have r2:=uS r q1 q2;have e:jJ (rs.take (i+1))=max (jJ (rs.take i)) (cZ r):=by rw [ax hx,nT]
  (refine' lS r2 hx)
  all_goals
   refine aG.go (i+1) [7,8,9,18,19,20] (by rw [UN,e];exact vT) ?_ ?_
   ·show rs.length - (i+1)<rs.length - i;omega
   ·show i+1≤rs.length;omega
 ·obtain rfl:i=rs.length:=by omega
  rw [UN,List.take_length];(refine' zo)
section
variable {l:List Int} {ps:List (List Int)} {t:Option T}
theorem My (R:Rp l ps t) (hl:l.length≤300) (X:D) (n:Int) {L:List Iy} {H:List Sn} {z w:List (Int × Int)} (hz:gP z) (hw:gP w) {tab:Nat} (ht:1≤tab∧tab≤16) {wd:Int} (hwd:0≤wd∧wd≤200) {x:Nat × Nat} (g:T5 z w tab wd l L H x)
 (hx:x.1≤x.2∧x.2≤l.length) (hq : ∀y∈b4 l L x.2 x.1 H,Qz y) (hc:(b4 l L x.2 x.1 H).length≤1000000) :
 an Tryz.prog G0 130 [.d (Qv (bd t) (cg n X) (.sd 2 false (H.map bA)) z w tab wd),.d (nS l L H x)] [] 0 (.d (gm (MD z w tab wd l L H x))) []:=by
 have r1:=Ig z w hz hw tab ht _ g.pz g.fl;have r2:=Dy _ g.ok wd hwd g.q fun r hr=>(g.s r hr).2.2
 have r3:=Ln (b4 l L x.2 x.1 H) x.1 x.2 (by omega) hq;have r4:=fM R;have hsz:=oD (B:=1000000) (b4 l L x.2 x.1 H) (tl fun z hz=>(hq z hz).1);have hsz2:i8 (b4 l L x.2 x.1 H)≤1000000*1000000:=Nat.le_trans hsz (Nat.mul_le_mul_left _ hc);unfold MD;simp only [nS,QH] at r3 ⊢;generalize i8 (b4 l L x.2 x.1 H)=q at *
 generalize bd t=rp at *
 generalize cg n X=il at *
 generalize bN _ wd=rs at *
 generalize bz z w tab 0 _=C at *
 generalize (b4 l L x.2 x.1 H).map fF=Q at *
 obtain ⟨a,b⟩:=x;simp only at *
 by_cases hb:b<l.length
 ·rw [if_pos hb];simp only [gm];refine vF ab [0,1,2,3,4,5,7,8,10,45] Tryz.func130 rfl Tryz.results130 Tryz.ntmps130 ?_;(refine' T3 r1 r2 r3 r4)
 ·rw [if_neg hb];simp only [gm,Int.add_zero];refine vF ab [0,1,2,3,4,5,7,8,10,45] Tryz.func130 rfl Tryz.results130 Tryz.ntmps130 ?_;(refine' T3 r1 r2 r3 r4)
end
def X1 (rp il hd:D) (z w:List (Int × Int)) (tab:Nat) (wd to:Int) (x:Nat × List Fl):St:=
 ⟨[(1,iv x.1),(2,iv to),(3,.po 0 0),(8,.so 1 4 0 x.2.length)],[(0,.cell [.d rp,.d il,.d hd,.d (pQ z w),iv tab,iv wd]),(1,.row 4 (x.2.map gm))],2⟩
def X2 (rp il hd:D) (z w:List (Int × Int)) (tab:Nat) (wd a to:Int) (_:Unit):St:=
 ⟨[(1,iv a),(2,iv to),(3,.po 0 0),(8,.so 1 4 0 0)],[(0,.cell [.d rp,.d il,.d hd,.d (pQ z w),iv tab,iv wd]),(1,.row 4 [])],2⟩
attribute [push_cast] X1.eq_def X2.eq_def
theorem xZ (es:List Fl) (x:Fl):es.map gm++[D.agg [iD x.1,iD x.2.1,iD x.2.2.1,iD x.2.2.2]]=(es++[x]).map gm:=by rw [List.map_append];rfl
section
variable {s:ByteArray} {L:List Iy} {F:List Sn} {tab:Nat} {wd:Int} {ps:List (List Int)} {t:Option T}
abbrev iL (s:ByteArray) (L:List Iy) (F:List Sn) (tab:Nat) (wd:Int) (a:Nat):List Fl:=(aW (aa s 0) (aD F) a).map (MD zT wT tab wd (aa s 0) (aS L) (aD F))
def pC (l:List Int) (H:List Sn) (M:Nat × Nat→Fl) (to:Int) (a:Nat):Option (List Fl):=
 if to<aF l H a then none
 else if (aF l H a:Int)=to then some [M (a,aF l H a)]
 else if hlt:aF l H a<l.length∧a≤aF l H a then (pC l H M to (aF l H a+1)).map (M (a,aF l H a) :: ·) else none
termination_by l.length - a
decreasing_by omega
theorem zr (l:List Int) (H:List Sn) (M:Nat × Nat→Fl) : ∀(d a:Nat),l.length - a≤d→a≤l.length→pC l H M l.length a=some ((aW l H a).map M)
 | d,a,hd,ha=>by
  have he:=bU l H ha;rw [pC,aW,if_neg (by omega)];by_cases hlt:aF l H a<l.length
  ·rw [if_neg (by omega),dif_pos ⟨hlt,he.1⟩,dif_pos ⟨hlt,he.1⟩,zr l H M (d - 1) (aF l H a+1) (by omega) (by omega)];rfl
  ·rw [if_pos (by omega),dif_neg (by omega)];rfl
 termination_by d=>d
 decreasing_by omega
def Jz:Option (List Fl)→V
 | some fs=> .tup [.d (.sd 4 false (fs.map gm)),bv true]
 | none=> .tup [.d aB,bv false]
theorem EJ (h:gM s L F tab wd) (R:Rp (aa s 0) ps t) (a:Nat) (ha:a≤(aa s 0).length) (hb:a=0∨eY (aa s 0) (aD F) (a - 1)=true):an Tryz.prog G0 52 [wF t (aa s 0).length (bO (aS L)) (aD F),iv a] [] 0 (.tup [.d (nS (aa s 0) (aS L) (aD F) (a,aF (aa s 0) (aD F) a)),iv 0]) []:=by
 have hg:=h.gd;have hf:=h.hl;refine Qj R (aa s 0).length (aS L) (by have:=hg.len;omega) (fun y hy=>⟨hg.at' y hy,hg.sz y hy⟩) (aD F) (by omega) h.okT a ha ?_;rcases Nat.eq_zero_or_pos a with h0|h0
 ·subst h0;exact k9 R _ _ _ 0 (.inl (Int.le_refl _))
 ·have:=uO R (aa s 0).length (bO (aS L)) (aD F) (by omega) a h0 ha;rcases hb with hb|hb
  ·omega
  ·rwa [hb] at this
theorem JH (h:gM s L F tab wd) (R:Rp (aa s 0) ps t) (a:Nat) (ha:a≤(aa s 0).length) (hb:a=0∨eY (aa s 0) (aD F) (a - 1)=true):an Tryz.prog G0 130 [Dx s L F tab wd t,.d (nS (aa s 0) (aS L) (aD F) (a,aF (aa s 0) (aD F) a))] [] 0 (.d (gm (MD zT wT tab wd (aa s 0) (aS L) (aD F) (a,aF (aa s 0) (aD F) a)))) []:=by
 have ht:1≤tab∧tab≤16:=by have:=h.tab0;omega
 have hrs:=h.rs;have hg:=h.gd;have hr:=(gy h.okT).1;obtain ⟨c1,c2⟩:=mR hg (by omega) hr ha hb;have he:=bU (aa s 0) (aD F) ha;have hc2:((aS L).length+1)*((aa s 0).length+1)≤61*301:=Nat.mul_le_mul (by have:=hg.len;omega) (by omega);exact My R hrs _ _ Ot Oq ht h.wd0 (Jy hg hrs hr zT wT ht wd ha rfl hb) he c1 (by show (b4 _ _ (aF _ _ a) a _).length≤1000000;omega)
set_option maxHeartbeats 3200000 in
theorem sH (h:gM s L F tab wd) (R:Rp (aa s 0) ps t) (to:Int) (a0:Nat) (ha0:a0≤(aa s 0).length) (hb0:a0=0∨eY (aa s 0) (aD F) (a0 - 1)=true) :
 an Tryz.prog G0 71 [Dx s L F tab wd t,iv a0,iv to] [] 0 (Jz (pC (aa s 0) (aD F) (MD zT wT tab wd (aa s 0) (aS L) (aD F)) to a0)) []:=by
 have hf:=h.hl;have hrs:=h.rs;have hbg:=fun a ha hb=>EJ h R a ha hb
 have hms:=fun a ha hb=>JH h R a ha hb
 have hno:=AV R (aa s 0).length (bO (aS L)) (aD F) (by omega) h.okT ((aa s 0).length+1) (by have:=k9 R (aa s 0).length (bO (aS L)) (aD F) ((aa s 0).length+1) (.inr (by omega));rwa [show (((aa s 0).length:Int)+1==0)=false by simp;omega] at this);simp only [Dx,wF,nS] at hbg hms hno ⊢;generalize bd t=rp at *
 generalize cg _ _=il at *
 generalize (aD F).map bA=hd at *
 have htb:=h.tab0;have hfd : ∀x:Fl,gm x = .agg [iD x.1,iD x.2.1,iD x.2.2.1,iD x.2.2.2]:=fun _=>rfl
 generalize hM:MD zT wT tab wd (aa s 0) (aS L) (aD F)=M at *
 generalize hO:pC (aa s 0) (aD F) M to a0=O at *
 refine vF ab [0,1,2,3,6,7,8,9,10,25,35] Tryz.func71 rfl Tryz.results71 Tryz.ntmps71 ?_;(refine' zg)
 refine vL (lv:=[0,1,2,3,6,7,8,9,10,25,35]) ab (X1 rp il (.sd 2 false hd) zT wT tab wd to) (fun x=>x.2.length≤x.1∧(x.1≤(aa s 0).length∧(x.1=0∨eY (aa s 0) (aD F) (x.1 - 1)=true)∧(pC (aa s 0) (aD F) M to x.1).map (x.2 ++ ·)=O∨x.1=(aa s 0).length+1∧O=none)) (fun x=>(aa s 0).length+1 - x.1) ((a0,[])) (aC.nil 8 4<|(aC.go [1,2,3,8] (by exact vT) rfl)) ?_ ?_
 ·exact ⟨Nat.zero_le _,.inl ⟨ha0,hb0,by rw [hO];cases O<;>rfl⟩⟩
 rintro ⟨a,out⟩ ⟨hol,⟨ha,hb,he⟩|⟨ha,he⟩⟩
 ·simp only at ha hb he hol;have r1:=hbg a ha hb;have r2:=hms a ha hb;rw [hfd] at r2;have hen:=bU (aa s 0) (aD F) ha;rw [pC] at he;have hsh:=fun hlt=>gu (aa s 0) (aD F) ha hlt
  generalize aF (aa s 0) (aD F) a=b at *
  by_cases h1:to<b
  ·rw [if_pos h1] at he;subst he;(refine' BF r1 r2)
   all_goals rfl
  rw [if_neg h1] at he;by_cases h2:(b:Int)=to
  ·rw [if_pos h2] at he;subst he;(refine' Qy r1 r2)
   rw [xZ];refine ae.frz 94 (ae.out ?_);(refine' zg)
   all_goals (try rw [List.take_of_length_le (by simp)])
   all_goals rfl
  ·rw [if_neg h2] at he;(refine' Qy r1 r2)
   rw [xZ];refine aG.go ((b+1,out++[M (a,b)])) [1,2,3,8] (by exact vT) ?_ ?_
   ·show (aa s 0).length+1 - (b+1)<(aa s 0).length+1 - a;omega
   ·refine ⟨by simp only [List.length_append,List.length_cons,List.length_nil];omega,?_⟩;by_cases hlt:b<(aa s 0).length
    ·rw [dif_pos ⟨hlt,hen.1⟩] at he;exact .inl ⟨hlt,.inr (hsh hlt),by rw [←he,Option.map_map];congr 1;funext q;simp⟩
    ·rw [dif_neg (by omega)] at he;exact .inr ⟨by simp only;omega,he.symm⟩
 ·simp only at ha he hol;subst he ha;(refine' BE hno)
  all_goals rfl
theorem Ha (h:gM s L F tab wd) (R:Rp (aa s 0) ps t):an Tryz.prog G0 71 [Dx s L F tab wd t,iv 0,iv (aa s 0).length] [] 0 (.tup [.d (.sd 4 false ((iL s L F tab wd 0).map gm)),bv true]) []:=by
 have:=sH h R (aa s 0).length 0 (Nat.zero_le _) (.inl rfl);rwa [zr _ _ _ _ 0 (Nat.le_refl _) (Nat.zero_le _)] at this
theorem Hb (h:gM s L F tab wd) (R:Rp (aa s 0) ps t) (a to:Int) (hb:an Tryz.prog G0 105 [wF t (aa s 0).length (bO (aS L)) (aD F),iv a] [] 0 (bv false) []) :
 an Tryz.prog G0 71 [Dx s L F tab wd t,iv a,iv to] [] 0 (.tup [.d aB,bv false]) []:=by
 have hf:=h.hl;have hno:=AV R (aa s 0).length (bO (aS L)) (aD F) (by omega) h.okT a hb;simp only [Dx,wF] at hno ⊢;generalize bd t=rp at *
 generalize cg _ _=il at *
 generalize (aD F).map bA=hd at *
 refine vF ab [0,1,2,3,6,7,8,9,10,25,35] Tryz.func71 rfl Tryz.results71 Tryz.ntmps71 ?_;(refine' zg)
 refine vL (lv:=[0,1,2,3,6,7,8,9,10,25,35]) ab (X2 rp il (.sd 2 false hd) zT wT tab wd a to) (fun _=>True) (fun _=>0) (()) (aC.nil 8 4<|(aC.go [1,2,3,8] (by exact vT) rfl)) ?_ ?_
 ·trivial
 rintro ⟨⟩ -
 (refine' BE hno)
end
end Go.Proofs.YtkkanlcjjpoklaaGreatDoor
