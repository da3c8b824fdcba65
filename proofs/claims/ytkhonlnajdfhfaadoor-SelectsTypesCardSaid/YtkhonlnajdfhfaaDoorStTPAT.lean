/- What the theorem leans on, part 20. -/
import Derived.Test.YtkhonlnajdfhfaaDoorStTPAS
set_option linter.unusedSimpArgs false
set_option linter.unusedVariables false
set_option maxRecDepth 8000
namespace Go.Proofs.YtkhonlnajdfhfaaDoor
theorem Bp {p q0 q1 q2 q3 q4 q5 q6 q7 q8 q9 q10 q11 q12:Prop} (c0:q0) (c1:q1) (c2:q2) (c3:q3) (c4:q4) (c5:q5) (c6:q6) (c7:q7) (c8:q8) (c9:q9) (c10:q10) (c11:q11) (c12:q12) (h:q0→q1→q2→q3→q4→q5→q6→q7→q8→q9→q10→q11→q12→p:=by intro zc0 zc1 zc2 zc3 zc4 zc5 zc6 zc7 zc8 zc9 zc10 zc11 zc12;(repeat' (first|(with_reducible first|exact True.intro|refine vD ?_|refine vG ?_|refine vE ?_)|with_reducible refine ah.out ?_|with_reducible refine vC zc0 ?_|with_reducible refine vQ zc0 ?_|with_reducible refine vC zc1 ?_|with_reducible refine vQ zc1 ?_|with_reducible refine vC zc2 ?_|with_reducible refine vQ zc2 ?_|with_reducible refine vC zc3 ?_|with_reducible refine vQ zc3 ?_|with_reducible refine vC zc4 ?_|with_reducible refine vQ zc4 ?_|with_reducible refine vC zc5 ?_|with_reducible refine vQ zc5 ?_|with_reducible refine vC zc6 ?_|with_reducible refine vQ zc6 ?_|with_reducible refine vC zc7 ?_|with_reducible refine vQ zc7 ?_|with_reducible refine vC zc8 ?_|with_reducible refine vQ zc8 ?_|with_reducible refine vC zc9 ?_|with_reducible refine vQ zc9 ?_|with_reducible refine vC zc10 ?_|with_reducible refine vQ zc10 ?_|with_reducible refine vC zc11 ?_|with_reducible refine vQ zc11 ?_|with_reducible refine vC zc12 ?_|with_reducible refine vQ zc12 ?_|refine F9 ?_|refine v6 ?_|with_reducible refine vN ?_|((with_reducible first|refine vB (fun h =>?_) (fun h =>?_)|refine vM (fun h =>?_) (fun h =>?_))<;>(first|(exfalso;omega)|skip))));all_goals (clear zc0;clear zc1;clear zc2;clear zc3;clear zc4;clear zc5;clear zc6;clear zc7;clear zc8;clear zc9;clear zc10;clear zc11;clear zc12;refine rU.g ?_;apply_rules (newGoals:= .nonDependentOnly) only [t5,qo.i])):p:=h c0 c1 c2 c3 c4 c5 c6 c7 c8 c9 c10 c11 c12
def FQ (m:ByteArray) (l:List Int) (L J:List Se) (n:Int) (now:List Int) (i:Nat):St:=⟨[(2,sv m),(7,md l),(11,Bv m L),(14,FG l L),(16,jD n J),(18,md now),(124,eU L),(125,iv L.length),(126,iv i)],[],0⟩
def FR (M:List Int) (J:List Se) (now:List Int) (i:Nat):St:=⟨[(18,md now),(23,md M),(162,eU J),(163,iv J.length),(164,iv i)],[],0⟩
attribute [push_cast] FQ.eq_def FR.eq_def CQ.eq_def
theorem Az (m:ByteArray):(m==m)=true:=by
 show ByteArray.beq m m=true;unfold ByteArray.beq;simp
theorem zE (s:ByteArray) : ∀(k i:Nat),s.size - i≤k→(ae s i).length≤s.size - i
 | 0,i,hk=>by rw [b7 (by omega)];exact Nat.zero_le _
 | k+1,i,hk=>by
  by_cases hlt:i<s.size
  ·have h1:=fU s i;have h2:=zE s k (i+(Utf8.decode s i).2) (by omega);rw [dJ hlt,List.length_cons];omega
  ·rw [b7 hlt];exact Nat.zero_le _
theorem Ek {n:Int} {l:List Se} (h:aM n l=0):(0≤n∧n≤1099511627776) ∧ ∀x∈l,0≤ak x∧ai x≤n:=by
 unfold aM at h;split at h
 ·cases h
 split at h
 ·cases h
 split at h
 ·cases h
 split at h
 ·cases h
 rename_i g1 _ _ g4;refine ⟨by omega,fun x hx =>?_⟩;have:=fun hb=>g4 (List.any_eq_true.2 ⟨x,hx,hb⟩)
 simp [ep] at this;omega
theorem uu {n:Int} {l:List Se} (h1:0≤n) (h2:n≤1099511627776) (h3:0<l.length) (h4:l.length≤64) (h5 : ∀x∈l,0≤ak x∧ai x≤n):aM n l=0:=by
 unfold aM;rw [if_neg (by omega),if_neg (by omega),if_neg (by omega),if_neg];intro h;obtain ⟨x,hx,hb⟩:=List.any_eq_true.1 h;have:=h5 x hx;simp [ep] at hb;omega
theorem sU {m:Int} (hm:m≤100) : ∀(l:List Se) (s:Int),cJ m s l≤s+l.length*100
 | [],s=>by show s≤s+(0:Nat)*100;omega
 | y::l,s=>by
  have h2:=aQ y;have h3:=sU hm l (s+m - (ai y - ak y));show cJ m (s+m - (ai y - ak y)) l≤_;rw [List.length_cons];omega
theorem nR (s m:ByteArray) (l:List Se) (h:200<s.size∨64<l.length∨100<m.size) (hs:s.size≤9223372036854775807) (hl:l.length≤9223372036854775807) (hm:m.size≤9223372036854775807) :
 aG Tryd.prog G0 3 [sv s,eU l,sv m] [] 0 (bv true) []:=by
 have r1:=lp;refine vF ab [0,1,2,6,7,8,9,10,11,12,13,14,15,16,17,18,19,20,21,22,23,25,38,58,60,122,124,125,126,127,157,162,163,164,165,201] Tryd.func3 rfl Tryd.results3 Tryd.ntmps3 ?_;(refine' xZ r1)
theorem pc (s m:ByteArray) (l:List Se) (h:s.size≤200∧l.length≤64∧m.size≤100) (hn:aM (ae s 0).length l≠0) :
 aG Tryd.prog G0 3 [sv s,eU l,sv m] [] 0 (bv true) []:=by
 have r1:=lp;have r2:=dq s (by omega);have r3:=n7 l (by omega);have r4:=qn (ae s 0).length _ l (by omega) rfl hn;have r5:=td (ae s 0).length _ l (by omega) rfl hn;have r6:=wE _ hn;have hrl:=zE s _ 0 (Nat.le_refl _);refine vF ab [0,1,2,6,7,8,9,10,11,12,13,14,15,16,17,18,19,20,21,22,23,25,38,58,60,122,124,125,126,127,157,162,163,164,165,201] Tryd.func3 rfl Tryd.results3 Tryd.ntmps3 ?_;(refine' GA r1 r2 r3 r4 r5 r6)
set_option maxHeartbeats 4000000 in
theorem qV (s m:ByteArray) (l:List Se) (h:s.size≤200∧l.length≤64∧m.size≤100) (hn:aM (ae s 0).length l=0) :
 aG Tryd.prog G0 3 [sv s,eU l,sv m] [] 0 (bv true) []:=by
 have r1:=lp;have r2:=dq s (by omega);have r2':=dq m (by omega);have r3:=n7 l (by omega);have r4:=kL (ae s 0).length l (by omega) hn;have r5:=iV (ae s 0).length l (by omega) hn;have hrl:=zE s _ 0 (Nat.le_refl _);have hml:=zE m _ 0 (Nat.le_refl _);rw [Nat.sub_zero] at hrl hml;have g1:=rg hn;have g2:=jQ g1.1;have g3:=jP l;have gin:=qS (Ek hn).2;have gap:=(mm l).1;have go:dY (ae s 0).length 0 (aK l):=sM (by omega) gap gin (fun x hx=>(gin x (List.mem_of_mem_head? hx)).1) (by omega);generalize aK l=L at *
 have r6:=o9 (ae s 0).length L g2 (by omega);obtain ⟨ps,t,R,r7⟩:=zd s (by omega) (by omega);have r8:=vd (ae s 0).length m L g2 (by omega);have r9:=vk R L g2 (by omega) gin;have gal:=oJ (ae s 0) (ae m 0) L 0 go;have gae:((ae s 0).length:Int)+cJ (ae m 0).length 0 L=(bN (ae s 0) (ae m 0) 0 L).length:=by rw [gal];omega
 have gbd:=sU (m:=(ae m 0).length) (by omega) L 0;have gty:aM ((ae s 0).length+cJ (ae m 0).length 0 L) (de (ae m 0).length 0 L)=0:=by
  rw [gae];refine uu (by omega) (by omega) (by rw [b9];exact g2) (by rw [b9];omega) (Bm go)
 have r10:=vn (ae s 0).length m L g2 (by omega) (by omega) ⟨by omega,by omega⟩ (fun x hx=>⟨(gin x hx).1,by have:=(gin x hx).2;omega⟩) (by omega) gty;have r11:=tf (ae s 0).length m L g2 (by omega) (by omega) ⟨by omega,by omega⟩ (fun x hx=>⟨(gin x hx).1,by have:=(gin x hx).2;omega⟩) (by omega) gty;have r12:=u7 (ae s 0) m L (by omega) (by omega) (by omega) go (by omega) (by omega);rw [gae] at r10 r11;have hJ0:=jQ (l:=de (ae m 0).length 0 L) (by rw [b9];exact g2);have hJ1:=jP (de (ae m 0).length 0 L);rw [b9] at hJ1;have r13:=o9 (bN (ae s 0) (ae m 0) 0 L).length (aK (de (ae m 0).length 0 L)) hJ0 (by omega);have r14:=ez (bN (ae s 0) (ae m 0) 0 L).length (aK (de (ae m 0).length 0 L)) hJ0 (by omega);have hJm : ∀y∈aK (de (ae m 0).length 0 L),y.1=y.2∧((ae m 0).length:Int)≤y.2∧y.2≤(bN (ae s 0) (ae m 0) 0 L).length∧((bN (ae s 0) (ae m 0) 0 L).take y.2.toNat).drop (y.2 - (ae m 0).length).toNat=ae m 0:=by
  intro y hy;have:=oo (ae s 0) (ae m 0) L 0 0 [] go rfl y (qT (np _ _ _) y hy);rwa [List.nil_append] at this
 have hnow:(bN (ae s 0) (ae m 0) 0 L).length≤20000:=by omega
 have r15:=kK (ae m 0) (by omega);generalize aK (de (ae m 0).length 0 L)=J at *
 generalize bN (ae s 0) (ae m 0) 0 L=now at *
 generalize ae m 0=M at *
 generalize ae s 0=rs at *
 obtain ⟨q1,q2,q3⟩:=h;refine vF ab [0,1,2,6,7,8,9,10,11,12,13,14,15,16,17,18,19,20,21,22,23,25,38,58,60,122,124,125,126,127,157,162,163,164,165,201] Tryd.func3 rfl Tryd.results3 Tryd.ntmps3 ?_;(refine' Bp r1 r2 r3 r4 r5 r6 r7 r8 r9 r10 r11 r12 r13)
 refine vL (lv:=[0,1,2,6,7,8,9,10,11,12,13,14,15,16,17,18,19,20,21,22,23,25,38,58,60,122,124,125,126,127,157,162,163,164,165,201]) ab (FQ m rs L J now.length now) (fun i=>i≤L.length) (fun i=>L.length - i) (0) ((a7.go [2,7,11,14,16,18,124,125,126] (by exact vT) rfl)) ?_ ?_
 ·exact Nat.zero_le _
 intro i hi;rcases Nat.lt_or_ge i L.length with hlt|hge
 ·obtain ⟨x,hx⟩ : ∃x,L[i]? = some x:=⟨_,List.getElem?_eq_getElem hlt⟩
  have gx:=gin x (List.mem_of_getElem? hx);have gle:=aQ x;have r16:=kK ((rs.take (ai x).toNat).drop (ak x).toNat) (by rw [List.length_drop,List.length_take];omega);have r17:=bM x;(refine' qj r17)
  refine cj.is i x (by omega) hx ?_;(refine' qj r17)
  refine cj.is i x (by omega) hx ?_;refine F9 ?_;rw [show (!m==m)=false by rw [Az];rfl];(refine' qj r16)
  refine cj.is i x (by omega) hx ?_;(refine' qj r16)
  ·exact absurd h (by simp [fQ])
  ·refine bA.go (i+1) [2,7,11,14,16,18,124,125,126] (by exact vT) ?_ ?_
   ·show L.length - (i+1)<L.length - i;omega
   ·show i+1≤L.length;omega
 ·(refine' BL r2' r14)
  refine vL (lv:=[0,1,2,6,7,8,9,10,11,12,13,14,15,16,17,18,19,20,21,22,23,25,38,58,60,122,124,125,126,127,157,162,163,164,165,201]) ab (FR M J now) (fun i=>i≤J.length) (fun i=>J.length - i) (0) ((a7.go [18,23,162,163,164] (by exact vT) rfl)) ?_ ?_
  ·exact Nat.zero_le _
  intro j hj;rcases Nat.lt_or_ge j J.length with hjl|hjg
  ·obtain ⟨y,hy⟩ : ∃y,J[j]? = some y:=⟨_,List.getElem?_eq_getElem hjl⟩
   obtain ⟨e1,e2,e3,e4⟩:=hJm y (List.mem_of_getElem? hy);have r18:aG Tryd.prog G0 17 [md ((now.take y.2.toNat).drop (y.2 - M.length).toNat)] [] 0 (sv ⟨(aD M).toArray⟩) []:=by rw [e4];exact r15
   (refine' BL r18 r15)
   refine cj.is j y (by omega) hy ?_;(refine' BL r18 r15)
   refine bA.go (j+1) [18,23,162,163,164] (by exact vT) ?_ ?_
   ·show J.length - (j+1)<J.length - j;omega
   ·show j+1≤J.length;omega
  ·(refine' xZ r1)
theorem pb (s m:ByteArray) (l:List Se) (hs:s.size≤9223372036854775807) (hl:l.length≤9223372036854775807) (hm:m.size≤9223372036854775807) :
 aG Tryd.prog G0 3 [sv s,eU l,sv m] [] 0 (bv true) []:=by
 by_cases h:200<s.size∨64<l.length∨100<m.size
 ·exact nR s m l h hs hl hm
 ·by_cases hn:aM (ae s 0).length l=0
  ·exact qV s m l (by omega) hn
  ·exact pc s m l (by omega) hn
end Go.Proofs.YtkhonlnajdfhfaaDoor
