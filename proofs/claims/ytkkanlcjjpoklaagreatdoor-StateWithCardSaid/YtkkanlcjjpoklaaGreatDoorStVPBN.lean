/- What the theorem leans on, part 40. -/
import Derived.Test.YtkkanlcjjpoklaaGreatDoorStVPBK
import Derived.Test.YtkkanlcjjpoklaaGreatDoorStVPBM
set_option linter.unusedSimpArgs false
set_option linter.unusedVariables false
set_option maxRecDepth 8000
namespace Go.Proofs.YtkkanlcjjpoklaaGreatDoor
theorem E5 {s:ByteArray} (h:aa s 0=[]):s=⟨#[]⟩:=by
 have hz : ¬0<s.size:=fun hp=>by
  rw [cY hp] at h;cases h
 exact adh (adx (by show s.size=0;omega))
theorem Eh : ∀L:List Iy,aY L=(iw L:Int)
 | []=>rfl
 | x::l=>by rw [eH,Eh l];simp [iw]
section
variable {s:ByteArray} {L:List Iy} {F:List Sn} {tab:Nat} {wd:Int} {ps:List (List Int)} {t:Option T}
theorem dz.inl (h:dz s L F tab wd) : ∀y∈aD L,(1≤y.1∧0≤y.2.1∧y.2.1≤(aa s 0).length)∧y.2.2.2.2.size≤1000000∧0<(aa y.2.2.2.2 0).length∧(aa y.2.2.2.2 0).length≤200:=fun y hy=>by
 obtain ⟨x,hx,e⟩:=abY.1 ((iZ L.reverse L (by simp)).mem_iff.1 hy);subst e;have h0:=((eG _ L [] h.i0).1 x hx).1;have h1:=h.x0 x hx;have h2:=bh x.2.2.2.2 _ 0 (aaV _);have hsz:=h.gd.sz _ hy;refine ⟨?_,hsz,?_⟩
 ·unfold cm at h0;split at h0
  ·cases h0
  ·rename_i h3;show 1≤x.1∧0≤x.2.1∧x.2.1≤_;omega
 ·show 0<(aa (c9 (aa x.2.2.2.2 0)) 0).length∧(aa (c9 (aa x.2.2.2.2 0)) 0).length≤200;rw [jj];refine ⟨?_,by omega⟩;unfold cm at h0;split at h0
  ·cases h0
  ·split at h0
   ·cases h0
   ·split at h0
    ·cases h0
    ·rename_i h3;rcases abH (aa x.2.2.2.2 0).length with hz|hz
     ·exact (h3 (.inl (E5 (abu hz)))).elim
     ·exact hz
theorem dz.wv (h:dz s L F tab wd):yc (aa s 0).length (aD L):=by
 have g:=h.gd;refine ⟨by have:=g.len;omega,by omega,by have:=h.rs;omega,g.so,fun x hx =>?_,fun x hx =>?_⟩
 ·have:=(h.inl x hx).1;omega
 ·have:=(h.inl x hx).2;omega
theorem dz.sm (h:dz s L F tab wd):(aa s 0).length+aY (aD L)≤1000000:=by
 rw [Eh];have:=h.gd.rs;have:=h.rs;omega
set_option maxHeartbeats 6400000 in
theorem nF (h:dz s L F tab wd) : ∃ps t,Rp (aa s 0) ps t∧ap Tryz.prog G0 32 [jk s L F tab wd] [] 0 (.d (N7 s L F tab wd t)) []:=by
 obtain ⟨k1,k2,k3,k4,k5,k6,k7,k8⟩:=h;have hl:=bh s s.size 0 (by omega);obtain ⟨ps,t,R,r2⟩:=Pb s (by omega) (by omega);have r1:=re s (by omega);refine ⟨ps,t,R,?_⟩;rw [N7];generalize aa s 0=l at *
 have r3:=Ld l.length L (by omega) k2 (fun x h=>by have:=k6 x h;omega) k7;have r4:=KU l.length F (by omega) k3 k8;simp only [Ay,bF,cW,JH] at r2 r3 r4 ⊢;generalize ct (aD L)=X at *
 generalize (eV F).map bA=Q at *
 generalize (iY (eV F)).map bA=Q2 at *
 refine vF ab [0,1,2,3,4,6,8] Tryz.func32 rfl Tryz.results32 Tryz.ntmps32 ?_;(repeat' (first|(with_reducible first|exact True.intro|refine vD ?_|refine vG ?_|refine vE ?_)|with_reducible refine vC (r1) ?_|with_reducible refine vC (r2) ?_|with_reducible refine vC (r3) ?_|with_reducible refine vC (r4) ?_|(refine eP ?_)|with_reducible refine ae.out ?_|refine vR ?_|refine v6 ?_|with_reducible refine vN ?_|((with_reducible first|refine vB (fun h =>?_) (fun h =>?_)|refine vM (fun h =>?_) (fun h =>?_))<;>(first|(exfalso;omega)|skip))))
abbrev Yj (s:ByteArray) (L:List Iy) (F:List Sn) (tab:Nat) (wd:Int) (t:Option T):D:=CO (bF t) (cW (aa s 0).length (ct (aD L))) (JH (aa s 0).length F) tab wd (Aw (aa s 0).length (aD L)) (DR (aa s 0).length (aD L) (aH F)) (lR (bW s L F tab wd 0))
theorem za (h:dz s L F tab wd) (R:Rp (aa s 0) ps t) (r1:ap Tryz.prog G0 32 [jk s L F tab wd] [] 0 (.d (N7 s L F tab wd t)) []):ap Tryz.prog G0 11 [jk s L F tab wd] [] 0 (.d (Yj s L F tab wd t)) []:=by
 have r2:=tJ h R h.wv (by have:=h.sm;omega);simp only [Yj,CO,N7,Ay,bF,cW,JH,bI] at r1 r2 ⊢;generalize aU t=A at *
 generalize aU (Aw _ _)=wA at *
 generalize aU (DR _ _ _)=cA at *
 generalize aU (lR _)=fA at *
 generalize ct (aD L)=X at *
 generalize (aa s 0).length=n at *
 generalize List.map bA _=Q at *
 generalize List.map bA _=Q2 at *
 generalize List.map cT _=Q3 at *
 generalize List.map bA _=Q4 at *
 refine vF ab [0,1,2,3,4,12] Tryz.func11 rfl Tryz.results11 Tryz.ntmps11 ?_;(refine' uR r1 r2)
end
section
variable (rp il fd:D) (tab wd:Int) (w c f:Option T)
theorem tK:ap Tryz.prog G0 28 [.d (CO rp il fd tab wd w c f)] [] 0 (.d (Ay rp il fd tab wd)) []:=by
 simp only [CO,Ay,bI];refine vF ab [0,2,4] Tryz.func28 rfl Tryz.results28 Tryz.ntmps28 ?_;(refine' zo)
theorem lz:ap Tryz.prog G0 33 [.d (CO rp il fd tab wd w c f)] [] 0 (.d (.agg [bI w,bI c,bI f])) []:=by
 simp only [CO,bI];refine vF ab [0,2,4] Tryz.func33 rfl Tryz.results33 Tryz.ntmps33 ?_;(refine' zo)
end
def UT (ps:List Pz) (i n:Nat):St:=⟨[(3,iv n),(7,.d (.sd 3 false (ps.map iA))),(8,iv ps.length),(9,iv i)],[],0⟩
attribute [push_cast] UT.eq_def
set_option maxHeartbeats 3200000 in
theorem L7 (ps:List Pz) (f t:Int) (hl:ps.length≤100000000) (hq : ∀z∈ps,Qz z):ap Tryz.prog G0 56 [.d (Tl ps f t)] [] 0 (iv (gq ps)) []:=by
 have hsz:=ur fun z hz=>(hq z hz).1
 refine vF ab [0,1,2,3,5,7,8,9,10,15] Tryz.func56 rfl Tryz.results56 Tryz.ntmps56 ?_;(refine' zg)
 refine vL (lv:=[0,1,2,3,5,7,8,9,10,15]) ab (fun i=>UT ps i (gq (ps.take i))) (fun i=>i≤ps.length) (fun i=>ps.length - i) (0) ((aC.go [3,7,8,9] (by exact vT) rfl)) ?_ ?_
 ·exact aa1 _
 intro i hi;have hb:=pw (B:=1000000) (ps.take i) fun z hz=>hsz z (abm hz)
 rw [aa7] at hb;have hb2:gq (ps.take i)≤1000000*100000000:=ab5 hb (abX _ (by omega));rcases aa2 i ps.length with hlt|hge
 ·obtain ⟨z,hz⟩ : ∃z,ps[i]? = some z:=⟨_,IO hlt⟩
  have hzq:=hq z (aa0 hz);have hst:=C6 hz;cases z with
  | tx kd a rs=>
   have hk:kd≠3:=by have:=hzq.2.1;omega
   have hrl:=hzq.1.2.2;simp only [gq,abD] at hst;(refine' jY hz)
   refine aG.go (i+1) [3,7,8,9] (by rw [hst];exact vT) ?_ ?_
   ·show ps.length - (i+1)<ps.length - i;omega
   ·show i+1≤ps.length;omega
  | fo a=>
   simp only [gq,abD] at hst;(refine' jY hz)
   refine aG.go (i+1) [3,7,8,9] (by rw [hst];exact vT) ?_ ?_
   ·show ps.length - (i+1)<ps.length - i;omega
   ·show i+1≤ps.length;omega
 ·rw [aaW hge];(refine' zo)
theorem sO (l:List Int) (fr to:Int) : ∀(b:Bool) (q:List (List Cl)),(dg l fr to b q).map (·.2.2.2.2.2.2)=q.map dH
 | _,[]=>rfl
 | _,r::t=>by rw [dg,abh,abh,sO l fr to true t]
def UF (A:List Rw) (sh bu:Int) (rs:List (List Cl)) (i:Nat):St:=
 ⟨[(4,.po 0 0),(5,.po 1 0),(33,.d (.sd 7 false (A.map UQ))),(34,iv A.length),(35,iv i)],[(0,.cell [iv 0,iv 0,iv 0,iv 0]),(1,.cell [iv sh,iv bu,iv i,iv (km (rs.take i))])],2⟩
attribute [push_cast] UF.eq_def
set_option maxHeartbeats 3200000 in
theorem EW (l:List Int) (hll:l.length≤1000000) (d1 d2 d3 d4 tb:D) (tab wd:Int) (ps:List Pz) (hl:ps.length≤1000000) (hq : ∀z∈ps,Qz z) (a b:Nat) (hab:a≤b∧b≤l.length) (rs:List (List Cl)) (hrs:rs.length≤100000000) (hr : ∀r∈rs,r.length≤100000000 ∧ ∀c∈r,cw c≤2)
 (r2:ap Tryz.prog G0 48 [.d (.agg [.sd 1 false (l.map dm),d1,d2,d3,d4,tb,iD tab,iD wd]),.d (Tl ps a b)] [] 0 (.d (.sd 7 false ((dg l a b false rs).map UQ))) []) :
 ap Tryz.prog G0 18 [.d (.agg [.sd 1 false (l.map dm),d1,d2,d3,d4,tb,iD tab,iD wd]),.d (Tl ps a b)] [] 0 (.d (eZ ((gq ps:Int)+(if b<l.length then 1 else 0),(b:Int) - a+(if b<l.length then 1 else 0),rs.length,km rs))) []:=by
 have r1:=L7 ps a b (by omega) hq;have hsz:=pw (B:=1000000) ps (ur fun z hz=>(hq z hz).1);have hsz2:gq ps≤1000000*1000000:=ab5 hsz (abX _ hl);have hAl:=jw l a b false rs;have hAw:=sO l a b false rs;generalize dg l a b false rs=A at *
 obtain ⟨sh,hsh⟩ : ∃sh:Int,sh=(gq ps:Int)+(if b<l.length then 1 else 0):=⟨_,rfl⟩
 obtain ⟨bu,hbu⟩ : ∃bu:Int,bu=(b:Int) - a+(if b<l.length then 1 else 0):=⟨_,rfl⟩
 rw [←hsh,←hbu];simp only [Tl,eZ] at r1 r2 ⊢;generalize gq ps=q at *
 refine vF ab [0,1,2,3,4,5,7,22,33,34,35,36,47] Tryz.func18 rfl Tryz.results18 Tryz.ntmps18 ?_;by_cases hb:b<l.length;all_goals simp only [hb,ab0,ab1,Int.add_zero] at hsh hbu
 all_goals
  (refine' Ax r1 r2)
  rw [←hsh,←hbu];refine vL (lv:=[0,1,2,3,4,5,7,22,33,34,35,36,47]) ab (UF A sh bu rs) (fun i=>i≤A.length) (fun i=>A.length - i) (0) ((aC.go [4,5,33,34,35] (by exact vT) rfl)) ?_ ?_
  ·exact aa1 _
  intro i hi;have hb2:=qP (B:=200000000) (rs.take i).reverse (rs.take i) (by simp) fun r hr'=>by
   obtain ⟨q1,q2⟩:=hr r (abm hr');have:=iB q2;omega
  rcases aa2 i A.length with hlt|hge
  ·obtain ⟨x,hx⟩ : ∃x,A[i]? = some x:=⟨_,IO hlt⟩
   obtain ⟨y,hy⟩ : ∃y,rs[i]? = some y:=⟨_,IO (by omega)⟩
   have e1:x.2.2.2.2.2.2=dH y:=by
    have:=congrArg (fun q=>q[i]?) hAw;simpa [hx,hy] using this
   have e:km (rs.take (i+1))=max (km (rs.take i)) (dH y):=by rw [ao hy,oQ]
   obtain ⟨q1,q2⟩:=hr y (aa0 hy);have hwl:=iB q2;rw [←e1] at e hwl;obtain ⟨x1,x2,x3,x4,x5,x6,x7⟩:=x;simp only at e hwl;rcases aa2 (km (rs.take i)) x7 with hm|hm
   ·have e5:km (rs.take (i+1))=x7:=by omega
    (refine' jY hx)
    refine aG.go (i+1) [4,5,33,34,35] (by rw [UF,e5];exact vT) ?_ ?_
    ·show A.length - (i+1)<A.length - i;omega
    ·show i+1≤A.length;omega
   ·have e5:km (rs.take (i+1))=km (rs.take i):=by omega
    (refine' jY hx)
    refine aG.go (i+1) [4,5,33,34,35] (by rw [UF,e5];exact vT) ?_ ?_
    ·show A.length - (i+1)<A.length - i;omega
    ·show i+1≤A.length;omega
  ·obtain rfl:i=A.length:=by omega
   rw [UF,hAl,abC];(refine' zo)
theorem n4 : ∀l:List Fl,(aq (l.map fY)).d0=(l.map (·.1)).sum∧(aq (l.map fY)).d1=(l.map (·.2.1)).sum∧(aq (l.map fY)).d2=(l.map (·.2.2.1)).sum
 | []=>⟨rfl,rfl,rfl⟩
 | x::l=>by
  obtain ⟨a,b,c⟩:=n4 l;have h:=bH (fY x) (l.map fY);simp only [fY] at h;simp only [abh,acu,fY];omega
section
variable (l:List Int) (H:List Sn)
abbrev Ch (l:List Int) (x:Nat × Nat):Int:=(x.2:Int) - x.1+if x.2<l.length then 1 else 0
theorem w9 : ∀(d a:Nat),l.length - a≤d→a≤l.length → ∀(j:Nat) x,(aQ l H a)[j]? = some x→(((aQ l H a).take j).map (Ch l)).sum=(x.1:Int) - a
 | d,a,hd,ha,j,x,hx=>by
  have he:=bM l H ha;rw [aQ] at hx ⊢;cases j with
  | zero=>
   simp only [abq,aa5] at hx;subst hx;simp
  | succ j=>
   rw [abB] at hx;split at hx
   ·rename_i hlt;have:=w9 (d - 1) (aE l H a+1) (by omega) (by omega) j x hx;rw [acB hlt,abn,abh,acu,this,Ch,aa3 hlt.1];simp only;omega
   ·simp at hx
 termination_by d=>d
 decreasing_by omega
theorem xa : ∀(d a:Nat),l.length - a≤d→a≤l.length→((aQ l H a).map (Ch l)).sum=(l.length:Int) - a
 | d,a,hd,ha=>by
  have he:=bM l H ha;rw [aQ,abh,acu];by_cases hlt:aE l H a<l.length
  ·have:=xa (d - 1) (aE l H a+1) (by omega) (by omega);rw [acB ⟨hlt,he.1⟩,this,Ch,aa3 hlt];simp only;omega
  ·rw [acX (by omega),Ch,aaY hlt];simp only [acl,acV];omega
 termination_by d=>d
 decreasing_by omega
variable (M:Nat × Nat→Fl)
end
theorem F6 {Ls:List (Nat × Nat)} {M:Nat × Nat→Fl} (j:Nat):((Ls.map M).map fY).take j=((Ls.take j).map M).map fY:=by rw [acn,acn]
theorem take_drop {α:Type} (B:List α) {f r:Nat} (h1:f≤r) (h2:r≤B.length):(B.take r).drop f++B.drop r=B.drop f:=by
 conv=>rhs;rw [←abf r B]
 rw [List.drop_append,show f - (B.take r).length=0 by rw [aa7];omega,ac9]
def X5 (fs:List Fl) (i:Nat):St:=⟨[(3,.so 0 4 0 i),(6,.d (.sd 4 false (fs.map eZ))),(7,iv fs.length),(8,iv i)],[(0,.row 4 ((fs.take i).map eZ))],1⟩
def eqF (fs gs:List Fl) (i:Nat):St:=⟨[(0,.d (.sd 4 false (fs.map eZ))),(1,.d (.sd 4 false (gs.map eZ))),(7,iv fs.length),(8,iv i)],[],0⟩
attribute [push_cast] X5.eq_def eqF.eq_def
theorem Er (fs:List Fl) (hl:fs.length≤100000):ap Tryz.prog G0 20 [.d (.sd 4 false (fs.map eZ))] [] 0 (.d (.sd 4 false (fs.map eZ))) []:=by
 refine vF ab [0,2,3,5,6,7,8,9] Tryz.func20 rfl Tryz.results20 Tryz.ntmps20 ?_;(refine' zg)
 refine vL (lv:=[0,2,3,5,6,7,8,9]) ab (X5 fs) (fun i=>i≤fs.length) (fun i=>fs.length - i) (0) (aC.nil 3 4<|(aC.go [3,6,7,8] (by exact vT) rfl)) ?_ ?_
 ·exact aa1 _
 intro i hi;rcases aa2 i fs.length with hlt|hge
 ·obtain ⟨x,hx⟩ : ∃x,fs[i]? = some x:=⟨_,IO hlt⟩
  have e:(fs.take (i+1)).map eZ=(fs.take i).map eZ++[eZ x]:=by rw [ao hx,abc];rfl
  obtain ⟨a,b,c,d⟩:=x;simp only [eZ] at e;(refine' jY hx)
  rw [←e,show ((fs.take (i+1)).map eZ).length=i+1 by simp;omega];refine aG.go (i+1) [3,6,7,8] (by exact vT) ?_ ?_
  ·show fs.length - (i+1)<fs.length - i;omega
  ·show i+1≤fs.length;omega
 ·obtain rfl:i=fs.length:=by omega
  rw [X5,abC];(refine' zg)
  refine ae.frz 0 (ae.out ?_);(refine' zg)
  all_goals (try rw [aaW (by simp)])
theorem CA (fs gs:List Fl) (hl:fs.length≤100000∧gs.length≤100000):ap Tryz.prog G0 19 [.d (.sd 4 false (fs.map eZ)),.d (.sd 4 false (gs.map eZ))] [] 0 (bv (decide (fs=gs))) []:=by
 refine vF ab [0,1,4,5,7,8,9,25] Tryz.func19 rfl Tryz.results19 Tryz.ntmps19 ?_;(refine' zg)
 refine vL (lv:=[0,1,4,5,7,8,9,25]) ab (eqF fs gs) (fun i=>i≤fs.length∧i≤gs.length∧fs.take i=gs.take i) (fun i=>fs.length - i) (0) ((aC.go [0,1,7,8] (by exact vT) rfl)) ?_ ?_
 ·exact ⟨aa1 _,aa1 _,rfl⟩
 rintro i ⟨hi,hj,he⟩;rcases aa2 i fs.length with hlt|hge
 ·obtain ⟨x,hx⟩ : ∃x,fs[i]? = some x:=⟨_,IO hlt⟩
  rcases aa2 i gs.length with hlt2|hge2
  ·obtain ⟨y,hy⟩ : ∃y,gs[i]? = some y:=⟨_,IO hlt2⟩
   by_cases hxy:x=y
   ·subst hxy;have e2:fs.take (i+1)=gs.take (i+1):=by rw [ao hx,ao hy,he]
    obtain ⟨a,b,c,d⟩:=x;(repeat' (first|(with_reducible first|exact True.intro|refine vD ?_|refine vG ?_|refine vE ?_)|(with_reducible refine aF.is i _ (by omega) hx ?_)|(with_reducible refine aF.is i _ (by omega) hy ?_)|(refine eP ?_)|refine vR ?_|refine v6 ?_|with_reducible refine vN ?_|((with_reducible first|refine vB (fun h =>?_) (fun h =>?_)|refine vM (fun h =>?_) (fun h =>?_))<;>(first|(exfalso;omega)|skip))))
    refine aG.go (i+1) [0,1,7,8] (by exact vT) ?_ ?_
    ·show fs.length - (i+1)<fs.length - i;omega
    ·exact ⟨hlt,hlt2,e2⟩
   ·rw [abM (show ¬fs=gs from fun e=>hxy (by subst e;rw [hx] at hy;injection hy))];obtain ⟨a,b,c,d⟩:=x;obtain ⟨a',b',c',d'⟩:=y;(repeat' (first|(with_reducible first|exact True.intro|refine vD ?_|refine vG ?_|refine vE ?_)|(with_reducible refine aF.is i _ (by omega) hx ?_)|(with_reducible refine aF.is i _ (by omega) hy ?_)|(refine eP ?_)|with_reducible refine ae.out ?_|refine vR ?_|refine v6 ?_|with_reducible refine vN ?_|((with_reducible first|refine vB (fun h =>?_) (fun h =>?_)|refine vM (fun h =>?_) (fun h =>?_))<;>(first|(exfalso;omega)|skip))))
    all_goals (exfalso;exact hxy (by rw [h.1,h.2.1,h.2.2.1,h.2.2.2]))
  ·rw [abM (show ¬fs=gs from fun e=>by subst e;omega)];(repeat' (first|(with_reducible first|exact True.intro|refine vD ?_|refine vG ?_|refine vE ?_)|(with_reducible refine aF.is i _ (by omega) hx ?_)|(refine eP ?_)|with_reducible refine ae.out ?_|refine vR ?_|refine v6 ?_|with_reducible refine vN ?_|((with_reducible first|refine vB (fun h =>?_) (fun h =>?_)|refine vM (fun h =>?_) (fun h =>?_))<;>(first|(exfalso;omega)|skip))))
 ·obtain rfl:i=fs.length:=by omega
  rw [abC] at he;by_cases hg:fs.length=gs.length
  ·rw [hg,abC] at he;rw [abw he];(refine' zo)
   all_goals rw [show ((fs.length:Int)==gs.length)=true by rw [aca];omega]
  ·rw [abM (show ¬fs=gs from fun e=>hg (by rw [e]))];(refine' zo)
   all_goals rw [show ((fs.length:Int)==gs.length)=false by rw [acD];omega]
section
variable {s:ByteArray} {L:List Iy} {F:List Sn} {tab:Int} {wd:Int}
end
theorem iX (t:Option T):ap Tryz.prog G0 92 [.d (bI t)] [] 0 (.d (aU t)) []:=by
 unfold bI;refine vF ab [0,2,4] Tryz.func92 rfl Tryz.results92 Tryz.ntmps92 ?_;(refine' zo)
theorem rO (t:Option T):ap Tryz.prog G0 84 [.d (bI t)] [] 0 (.d (aU t)) []:=by
 unfold bI;refine vF ab [0,2,4] Tryz.func84 rfl Tryz.results84 Tryz.ntmps84 ?_;(refine' zo)
theorem k9 (t:Option T):ap Tryz.prog G0 90 [.d (bI t)] [] 0 (iv (aq (an t)).n) []:=by
 have r1:=iX t;have r2:=ik t;generalize bI t=TT at *
 generalize aU t=A at *
 simp only [xH] at r2;refine vF ab [0,2] Tryz.func90 rfl Tryz.results90 Tryz.ntmps90 ?_;(refine' uR r1 r2)
theorem Hn (t:Option T):ap Tryz.prog G0 79 [.d (bI t)] [] 0 (.tup [iv (aq (an t)).d0,iv (aq (an t)).d1]) []:=by
 have r1:=rO t;have r2:=ik t;generalize bI t=TT at *
 refine vF ab [0,2,3,4] Tryz.func79 rfl Tryz.results79 Tryz.ntmps79 ?_;(refine' uR r1 r2)
theorem On (t:Option T):ap Tryz.prog G0 49 [.d (bI t)] [] 0 (.d (eZ ((aq (an t)).d0,(aq (an t)).d1,(aq (an t)).d2,(aq (an t)).mx))) []:=by
 have r1:=iX t;have r2:=ik t;generalize bI t=TT at *
 simp only [eZ];refine vF ab [0,2,3] Tryz.func49 rfl Tryz.results49 Tryz.ntmps49 ?_;(refine' uR r1 r2)
abbrev JL (S:Sm) (i:Int):D:= .agg [iD S.n,iD i,iD S.d2,iD S.d0,iD S.d1]
theorem xI (S:Sm) (vis i:Int):ap Tryz.prog G0 148 [.d (fk S vis),iv i] [] 0 (.d (JL S i)) []:=by
 simp only [fk];refine vF ab [0,1,2,4] Tryz.func148 rfl Tryz.results148 Tryz.ntmps148 ?_;(refine' zo)
def nq (S:Sm) (d:Nat) (v:Int):Int:=if d=3 then 0 else v - mL S d
theorem Qn (t:Option T) (d:Nat) (c:Int) (hd:(d=0∧c=0)∨(d=1∧c=1)∨(d=2∧c=2)∨(d=3∧c=3)) (v:Int) (hv:0≤v∧v≤1000000000000000000) (S:Sm) (hS:eU S) (vis:Int) (r1:ap Tryz.prog G0 88 [.d (aU t),iv c,iv v,iv 1] [] 0 (.tup [.d (fk S vis),iv 0]) []) :
 ap Tryz.prog G0 91 [.d (.bf 88 [aU t]),iv c,iv v] [] 0 (.tup [.d (JL S (nq S d v)),iv 0]) []:=by
 have r2:=xI S vis (nq S d v);unfold eU at hS;simp only [fk] at r1 r2;generalize aU t=A at *
 obtain ⟨rfl,rfl⟩|⟨rfl,rfl⟩|⟨rfl,rfl⟩|⟨rfl,rfl⟩:=hd
 ·have e:nq S 0 v=v - S.d0:=rfl;rw [e] at r2 ⊢;refine vF ab [0,1,2,6,7,8,9,10,19,24] Tryz.func91 rfl Tryz.results91 Tryz.ntmps91 ?_;(repeat' (first|(with_reducible first|exact True.intro|refine vD ?_|refine vG ?_|refine vE ?_)|with_reducible refine vC (r1) ?_|with_reducible refine vC (r2) ?_|(refine eP ?_)|with_reducible refine ae.out ?_|refine vR ?_|refine v6 ?_|with_reducible refine vN ?_|((with_reducible first|refine vB (fun h =>?_) (fun h =>?_)|refine vM (fun h =>?_) (fun h =>?_))<;>(first|(exfalso;omega)|skip))))
 ·have e:nq S 1 v=v - S.d1:=rfl;rw [e] at r2 ⊢;refine vF ab [0,1,2,6,7,8,9,10,19,24] Tryz.func91 rfl Tryz.results91 Tryz.ntmps91 ?_;(repeat' (first|(with_reducible first|exact True.intro|refine vD ?_|refine vG ?_|refine vE ?_)|with_reducible refine vC (r1) ?_|with_reducible refine vC (r2) ?_|(refine eP ?_)|with_reducible refine ae.out ?_|refine vR ?_|refine v6 ?_|with_reducible refine vN ?_|((with_reducible first|refine vB (fun h =>?_) (fun h =>?_)|refine vM (fun h =>?_) (fun h =>?_))<;>(first|(exfalso;omega)|skip))))
 ·have e:nq S 2 v=v - S.d2:=rfl;rw [e] at r2 ⊢;refine vF ab [0,1,2,6,7,8,9,10,19,24] Tryz.func91 rfl Tryz.results91 Tryz.ntmps91 ?_;(repeat' (first|(with_reducible first|exact True.intro|refine vD ?_|refine vG ?_|refine vE ?_)|with_reducible refine vC (r1) ?_|with_reducible refine vC (r2) ?_|(refine eP ?_)|with_reducible refine ae.out ?_|refine vR ?_|refine v6 ?_|with_reducible refine vN ?_|((with_reducible first|refine vB (fun h =>?_) (fun h =>?_)|refine vM (fun h =>?_) (fun h =>?_))<;>(first|(exfalso;omega)|skip))))
 ·have e:nq S 3 v=0:=rfl;rw [e] at r2 ⊢;refine vF ab [0,1,2,6,7,8,9,10,19,24] Tryz.func91 rfl Tryz.results91 Tryz.ntmps91 ?_;(repeat' (first|(with_reducible first|exact True.intro|refine vD ?_|refine vG ?_|refine vE ?_)|with_reducible refine vC (r1) ?_|with_reducible refine vC (r2) ?_|(refine eP ?_)|with_reducible refine ae.out ?_|refine vR ?_|refine v6 ?_|with_reducible refine vN ?_|((with_reducible first|refine vB (fun h =>?_) (fun h =>?_)|refine vM (fun h =>?_) (fun h =>?_))<;>(first|(exfalso;omega)|skip))))
section
variable {s:ByteArray} {L:List Iy} {F:List Sn} {tab:Nat} {wd:Int} {ps:List (List Int)} {t:Option T}
abbrev lG (s:ByteArray) (F:List Sn):List (Nat × Nat):=aQ (aa s 0) (aH F) 0
theorem qL (h:dz s L F tab wd):Tk (lR (bW s L F tab wd 0))∧an (lR (bW s L F tab wd 0))=(bW s L F tab wd 0).map fY:=by
 refine ⟨zb (by rw [aa4,bW,aa4];have:=h.ll;omega) fun i hi =>?_,(eI _).2⟩;obtain ⟨x,hx,rfl⟩:=abY.1 hi;exact KY (QF h x hx)
theorem Bm (h:dz s L F tab wd) {j:Nat} {x:Nat × Nat} (hx:(lG s F)[j]? = some x):(aq (((bW s L F tab wd 0).map fY).take j)).d1=x.1:=by
 rw [bW,F6,(n4 _).2.1,aci];have:=w9 (aa s 0) (aH F) _ 0 (aaV _) (aa1 _) j x hx;rw [show ((x.1:Int) - ((0:Nat):Int))=x.1 by omega] at this;exact this
end
section
variable {s:ByteArray} {L:List Iy} {F:List Sn} {tab:Nat} {wd:Int} {ps:List (List Int)} {t:Option T}
abbrev X8 (s:ByteArray) (L:List Iy) (F:List Sn) (tab:Nat) (wd:Int):Nat × Nat→Fl:=QE zT wT tab wd (aa s 0) (aD L) (aH F)
theorem KE (h:dz s L F tab wd) (x:Nat × Nat) (hx:x∈aQ (aa s 0) (aH F) 0):ap Tryz.prog G0 18 [LM s L F tab wd,.d (va (aa s 0) (aD L) (aH F) x)] [] 0 (.d (eZ (X8 s L F tab wd x))) []:=by
 have hr:=(hZ h.okT).1;have hrs:=h.rs;have ht:=h.tab0;have hg:=h.gd;obtain ⟨h1,h2,h3⟩:=gm (aa s 0) (aH F) _ 0 (aaV _) (aa1 _) (.inl rfl) x hx;obtain ⟨c1,c2⟩:=nL hg (by omega) hr h1 h3;rw [←h2] at c1 c2;have he:=bM (aa s 0) (aH F) h1;rw [←h2] at he;have hc2:((aD L).length+1)*((aa s 0).length+1)≤61*301:=adt (by have:=hg.len;omega) (by omega);have g:=h.lines x hx;exact EW (aa s 0) (by omega) _ _ _ _ _ tab wd _ (by omega) c1 x.1 x.2 he _ g.q (fun r hr=>(g.s r hr).2.2) (M2 (aa s 0) (by omega) _ _ _ _ _ tab wd _ x.1 x.2 _ _ g.q (L4 zT wT (by decide) (by decide) tab (by omega) _ g.pz g.fl) (L5 _ g.ok wd h.wd0) g.s)
end
end Go.Proofs.YtkkanlcjjpoklaaGreatDoor
