/- What the theorem leans on, part 45. -/
import Derived.Test.YtkkanlcjjpoklaaGreatDoorStUPBQ
set_option linter.unusedSimpArgs false
set_option linter.unusedVariables false
set_option maxRecDepth 8000
namespace Go.Proofs.YtkkanlcjjpoklaaGreatDoor
theorem De {s:ByteArray} (h:aa s 0=[]):s=⟨#[]⟩:=by
 have hz : ¬0<s.size:=fun hp=>by
  rw [cJ hp] at h;cases h
 exact ByteArray.ext (Array.eq_empty_of_size_eq_zero (by show s.size=0;omega))
theorem Jk : ∀L:List Iy,dw L=(gH L:Int)
 | []=>rfl
 | x::l=>by rw [lu,Jk l];simp [gH]
section
variable {s:ByteArray} {L:List Iy} {F:List Sn} {tab:Nat} {wd:Int} {ps:List (List Int)} {t:Option T}
theorem gM.inl (h:gM s L F tab wd) : ∀y∈aS L,(1≤y.1∧0≤y.2.1∧y.2.1≤(aa s 0).length)∧y.2.2.2.2.size≤1000000∧0<(aa y.2.2.2.2 0).length∧(aa y.2.2.2.2 0).length≤200:=fun y hy=>by
 obtain ⟨x,hx,e⟩:=List.mem_map.1 ((ko L.reverse L (by simp)).mem_iff.1 hy);subst e;have h0:=((fq _ L [] h.i0).1 x hx).1;have h1:=h.x0 x hx;have h2:=bx x.2.2.2.2 _ 0 (Nat.le_refl _);have hsz:=h.gd.sz _ hy;refine ⟨?_,hsz,?_⟩
 ·unfold b6 at h0;split at h0
  ·cases h0
  ·rename_i h3;show 1≤x.1∧0≤x.2.1∧x.2.1≤_;omega
 ·show 0<(aa (cL (aa x.2.2.2.2 0)) 0).length∧(aa (cL (aa x.2.2.2.2 0)) 0).length≤200;rw [iC];refine ⟨?_,by omega⟩;unfold b6 at h0;split at h0
  ·cases h0
  ·split at h0
   ·cases h0
   ·split at h0
    ·cases h0
    ·rename_i h3;rcases Nat.eq_zero_or_pos (aa x.2.2.2.2 0).length with hz|hz
     ·exact (h3 (.inl (De (List.eq_nil_of_length_eq_zero hz)))).elim
     ·exact hz
theorem gM.wv (h:gM s L F tab wd):wP (aa s 0).length (aS L):=by
 have g:=h.gd;refine ⟨by have:=g.len;omega,by omega,by have:=h.rs;omega,g.so,fun x hx =>?_,fun x hx =>?_⟩
 ·have:=(h.inl x hx).1;omega
 ·have:=(h.inl x hx).2;omega
theorem gM.sm (h:gM s L F tab wd):(aa s 0).length+dw (aS L)≤1000000:=by
 rw [Jk];have:=h.gd.rs;have:=h.rs;omega
set_option maxHeartbeats 6400000 in
theorem As (h:gM s L F tab wd) : ∃ps t,Rp (aa s 0) ps t∧an Tryz.prog G0 32 [tL s L F tab wd] [] 0 (.d (NY s L F tab wd t)) []:=by
 obtain ⟨k1,k2,k3,k4,k5,k6,k7,k8⟩:=h;have hl:=bx s s.size 0 (by omega);obtain ⟨ps,t,R,r2⟩:=MP s (by omega) (by omega);have r1:=qp s (by omega);refine ⟨ps,t,R,?_⟩;rw [NY];generalize aa s 0=l at *
 have r3:=Jf l.length L (by omega) k2 (fun x h=>by have:=k6 x h;omega) k7;have r4:=IQ l.length F (by omega) k3 k8;simp only [EB,bd,cg,HG] at r2 r3 r4 ⊢;generalize bO (aS L)=X at *
 generalize (d6 F).map bA=Q at *
 generalize (hP (d6 F)).map bA=Q2 at *
 refine vF ab [0,1,2,3,4,6,8] Tryz.func32 rfl Tryz.results32 Tryz.ntmps32 ?_;(repeat' (first|(with_reducible first|exact True.intro|refine vD ?_|refine vG ?_|refine vE ?_)|with_reducible refine vC (r1) ?_|with_reducible refine vC (r2) ?_|with_reducible refine vC (r3) ?_|with_reducible refine vC (r4) ?_|(refine jh ?_)|with_reducible refine ae.out ?_|refine vR ?_|refine v6 ?_|with_reducible refine vN ?_|((with_reducible first|refine vB (fun h =>?_) (fun h =>?_)|refine vM (fun h =>?_) (fun h =>?_))<;>(first|(exfalso;omega)|skip))))
abbrev QQ (s:ByteArray) (L:List Iy) (F:List Sn) (tab:Nat) (wd:Int) (t:Option T):D:=HK (bd t) (cg (aa s 0).length (bO (aS L))) (HG (aa s 0).length F) tab wd (tN (aa s 0).length (aS L)) (tW (aa s 0).length (aS L) (aD F)) (eP (iL s L F tab wd 0))
theorem El (h:gM s L F tab wd) (R:Rp (aa s 0) ps t) (r1:an Tryz.prog G0 32 [tL s L F tab wd] [] 0 (.d (NY s L F tab wd t)) []):an Tryz.prog G0 11 [tL s L F tab wd] [] 0 (.d (QQ s L F tab wd t)) []:=by
 have r2:=KF h R h.wv (by have:=h.sm;omega);simp only [QQ,HK,NY,EB,bd,cg,HG,iq] at r1 r2 ⊢;generalize aX t=A at *
 generalize aX (tN _ _)=wA at *
 generalize aX (tW _ _ _)=cA at *
 generalize aX (eP _)=fA at *
 generalize bO (aS L)=X at *
 generalize (aa s 0).length=n at *
 generalize List.map bA _=Q at *
 generalize List.map bA _=Q2 at *
 generalize List.map cS _=Q3 at *
 generalize List.map bA _=Q4 at *
 refine vF ab [0,1,2,3,4,12] Tryz.func11 rfl Tryz.results11 Tryz.ntmps11 ?_;(refine' tJ r1 r2)
def z6:Option (List Fl)→V
 | some fs=> .tup [.d (.sd 4 false (fs.map gm)),iv 0]
 | none=> .tup [.d aB,iv 1]
theorem Dj (h:gM s L F tab wd) (R:Rp (aa s 0) ps t) (a b:Int) (o:Option (List Fl)) (r6:an Tryz.prog G0 71 [Dx s L F tab wd t,iv a,iv b] [] 0 (Jz o) []) :
 an Tryz.prog G0 26 [.d (NY s L F tab wd t),iv a,iv b] [] 0 (z6 o) []:=by
 have hf:=h.hl;have ht:=h.tab0;have hwd:=h.wd0;have r1:=sI R (aa s 0).length (aa s 0).length (bO (aS L)) (.sd 2 false ((d6 F).map bA)) (aD F) tab wd;rw [show GL (aa s 0).length (aa s 0).length (aa s 0).length tab wd=0 by unfold GL;rw [if_neg (by simp),if_neg (by omega)]] at r1;have r5:=oq t (aa s 0).length (bO (aS L)) (aa s 0).length (.sd 2 false ((d6 F).map bA)) (aD F) (by omega) tab wd;simp only [Dx,Qv,NY,HG,N4,EB,bd,cg] at *
 generalize aX t=A at *
 generalize bO (aS L)=X at *
 generalize (aa s 0).length=n at *
 generalize List.map bA _=Q at *
 generalize List.map bA _=Q2 at *
 generalize pQ zT wT=tb at *
 cases o with
 | none=>
  simp only [Jz,z6] at *
  refine vF ab [0,1,2,3,6,7,8,9,10,14,25] Tryz.func26 rfl Tryz.results26 Tryz.ntmps26 ?_;(refine' QT r1 r5 r6)
 | some fs=>
  simp only [Jz,z6] at *
  generalize List.map gm _=Q3 at *
  refine vF ab [0,1,2,3,6,7,8,9,10,14,25] Tryz.func26 rfl Tryz.results26 Tryz.ntmps26 ?_;(refine' QT r1 r5 r6)
end
section
variable (rp il fd:D) (tab wd:Int) (w c f:Option T)
theorem Dk:an Tryz.prog G0 28 [.d (HK rp il fd tab wd w c f)] [] 0 (.d (EB rp il fd tab wd)) []:=by
 simp only [HK,EB,iq];refine vF ab [0,2,4] Tryz.func28 rfl Tryz.results28 Tryz.ntmps28 ?_;(refine' zo)
theorem Nb (y1 y2 y3 y4:D) (y5 y6:Int) (r1:an Tryz.prog G0 72 [.d (EB rp il fd tab wd)] [] 0 (.d (.agg [y1,y2,y3,y4,iD y5,iD y6])) []):an Tryz.prog G0 50 [.d (HK rp il fd tab wd w c f)] [] 0 (.d (.agg [y1,y2,y3,y4,iD y5,iD y6])) []:=by
 simp only [HK,EB,iq] at *
 refine vF ab [0,2,4] Tryz.func50 rfl Tryz.results50 Tryz.ntmps50 ?_;(refine' kW r1)
theorem Di (a b:Int) (o:Option (List Fl)) (r2:an Tryz.prog G0 26 [.d (EB rp il fd tab wd),iv a,iv b] [] 0 (z6 o) []):an Tryz.prog G0 16 [.d (HK rp il fd tab wd w c f),iv a,iv b] [] 0 (z6 o) []:=by
 have r1:=Dk rp il fd tab wd w c f;simp only [HK,EB,iq] at *
 generalize aX w=wA at *
 generalize aX c=cA at *
 generalize aX f=fA at *
 cases o with
 | none=>
  simp only [z6] at *
  refine vF ab [0,1,2,6,7,9] Tryz.func16 rfl Tryz.results16 Tryz.ntmps16 ?_;(refine' tJ r1 r2)
 | some fs=>
  simp only [z6] at *
  generalize List.map gm _=Q3 at *
  refine vF ab [0,1,2,6,7,9] Tryz.func16 rfl Tryz.results16 Tryz.ntmps16 ?_;(refine' tJ r1 r2)
end
end Go.Proofs.YtkkanlcjjpoklaaGreatDoor
