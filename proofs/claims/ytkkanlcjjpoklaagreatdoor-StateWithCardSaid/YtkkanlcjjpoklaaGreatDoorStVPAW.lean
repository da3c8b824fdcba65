/- What the theorem leans on, part 23. -/
import Derived.Test.YtkkanlcjjpoklaaGreatDoorStVPAV
set_option linter.unusedSimpArgs false
set_option linter.unusedVariables false
set_option maxRecDepth 8000
namespace Go.Proofs.YtkkanlcjjpoklaaGreatDoor
theorem yg {l:List Int} : 0<aW l↔10∈l:=by
 unfold aW;rw [List.length_pos_iff_exists_mem];constructor
 ·rintro ⟨a,ha⟩;rw [acj] at ha;have:a=10:=by simpa using ha.2
  exact this▸ha.1
 ·intro h;exact ⟨10,acj.2 ⟨h,by simp⟩⟩
theorem G5 (x y:Iy):ap Tryz.prog G0 97 [.d (cT x),.d (cT y)] [] 0 (bv (decide (SrtIy.ltB x y))) []:=by
 obtain ⟨x1,x2,x3,x4,x5⟩:=x;obtain ⟨y1,y2,y3,y4,y5⟩:=y;have h:=SrtIy.cB_lt (x1,x2,x3,x4,x5) (y1,y2,y3,y4,y5);by_cases h2:x2=y2
 ·by_cases h4:x4=y4
  ·have e:decide (SrtIy.ltB (x1,x2,x3,x4,x5) (y1,y2,y3,y4,y5))=decide (x1<y1):=adz.2 (h.trans (by simp only;omega));rw [e];refine vF ab [0,1,2,3,4,9,19] Tryz.func97 rfl Tryz.results97 Tryz.ntmps97 ?_;(refine' zo)
  ·have e:decide (SrtIy.ltB (x1,x2,x3,x4,x5) (y1,y2,y3,y4,y5))=decide (x4<y4):=adz.2 (h.trans (by simp only;omega));rw [e];refine vF ab [0,1,2,3,4,9,19] Tryz.func97 rfl Tryz.results97 Tryz.ntmps97 ?_;(refine' zo)
 ·have e:decide (SrtIy.ltB (x1,x2,x3,x4,x5) (y1,y2,y3,y4,y5))=decide (x2<y2):=adz.2 (h.trans (by simp only;omega));rw [e];refine vF ab [0,1,2,3,4,9,19] Tryz.func97 rfl Tryz.results97 Tryz.ntmps97 ?_;(refine' zo)
def dL (n:Int) (ids:List Int) (x:Iy):Int:=if cm n x≠0 then cm n x else if x.1∈ids then 8 else 0
def TP (n:Int) (L:List Iy) (x:Iy) (rs:List Int) (i:Nat):St:=⟨[(1,.d (.sd 5 false (L.map cT))),(5,.po 0 0),(45,Az rs),(46,iv rs.length),(47,iv i)],[(0,.cell [iv x.1,iv x.2.1,iv x.2.2.1,iv x.2.2.2.1,sv x.2.2.2.2])],1⟩
def TQ (n:Int) (L:List Iy) (x:Iy) (i:Nat):St:=⟨[(5,.po 0 0),(54,.d (.sd 5 false (L.map cT))),(55,iv L.length),(56,iv i)],[(0,.cell [iv x.1,iv x.2.1,iv x.2.2.1,iv x.2.2.2.1,sv x.2.2.2.2])],1⟩
attribute [push_cast] TP.eq_def TQ.eq_def
set_option maxHeartbeats 6400000 in
theorem HK (n:Int) (L:List Iy) (hl:L.length≤100000) (x:Iy) (hs:x.2.2.2.2.size≤1000000):ap Tryz.prog G0 95 [iv n,.d (.sd 5 false (L.map cT)),.d (cT x)] [] 0 (iv (dL n (L.map (·.1)) x)) []:=by
 obtain ⟨a,b,c,d,s⟩:=x;simp only at hs;have r1:=dX s (by omega);have hrl:=bh s s.size 0 (by omega);refine vF ab [0,1,2,5,6,7,9,11,35,41,44,45,46,47,48,52,54,55,56,57,64] Tryz.func95 rfl Tryz.results95 Tryz.ntmps95 ?_;(refine' Ng r1)
 ·have e:cm n (a,b,c,d,s)=1:=aa3 (by simp only;omega);rw [show dL n (L.map (·.1)) (a,b,c,d,s)=1 by rw [dL,e];rfl];refine ae.now [] (by decide) ?_;(refine' zg);first|exact aj _|exact ar.cons rfl ar.nil|exact ar.cons rfl (ar.cons rfl ar.nil)|exact ar.nil
 ·rename_i h1;have e:cm n (a,b,c,d,s)=2:=(aaY (by simp only;omega)).trans (aa3 (show 40<(aa s 0).length by omega));rw [show dL n (L.map (·.1)) (a,b,c,d,s)=2 by rw [dL,e];rfl];refine ae.now [] (by decide) ?_;(refine' zg);first|exact aj _|exact ar.cons rfl ar.nil|exact ar.cons rfl (ar.cons rfl ar.nil)|exact ar.nil
 ·rename_i h1 h2;have hemp:s=⟨#[]⟩:=by
   have hz : ¬0<s.size:=fun hp=>by
    have h3:=cY (s:=s) (i:=0) hp;rw [h3,aa6] at h;omega
   exact adh (by
    have:s.data.size=0:=by show s.size=0;omega
    exact adx this)
  have e:cm n (a,b,c,d,s)=4:=(aaY (by simp only;omega)).trans ((aaY (show ¬40<(aa s 0).length by omega)).trans (aa3 (.inl hemp)));rw [show dL n (L.map (·.1)) (a,b,c,d,s)=4 by rw [dL,e];rfl];refine ae.now [] (by decide) ?_;(refine' zg);first|exact aj _|exact ar.cons rfl ar.nil|exact ar.cons rfl (ar.cons rfl ar.nil)|exact ar.nil
 rename_i h1 h2;have h3:=h;have hne : ¬s=⟨#[]⟩:=fun e=>by
  subst e;rw [bQ (by decide)] at h3;exact h3 (by simp)
 generalize hrs:aa s 0=rs at *
 refine vL (lv:=[0,1,2,5,6,7,9,11,35,41,44,45,46,47,48,52,54,55,56,57,64]) ab (TP n L (a,b,c,d,s) rs) (fun i=>i≤rs.length ∧ ∀k,k<i→rs[k]? ≠ some 10) (fun i=>rs.length - i) (0) ((aC.go [1,5,45,46,47] (by exact vT) rfl)) ?_ ?_
 ·exact ⟨aa1 _,fun k h=>by omega⟩
 rintro i ⟨g1,g2⟩;(refine' zg)
 ·refine aF.intro fun r hr =>?_
  (refine' zg)
  ·have h10:=h;have hin:0<aW (aa s 0):=by rw [hrs];exact yg.2 (aa0 (h10▸hr))
   have e:cm n (a,b,c,d,s)=4:=(aaY (by simp only;omega)).trans ((aaY (show ¬40<(aa s 0).length by rw [hrs];omega)).trans (aa3 (.inr hin)));rw [show dL n (L.map (·.1)) (a,b,c,d,s)=4 by rw [dL,e];rfl];refine ae.now [] (by decide) ?_;(refine' zg);first|exact aj _|exact ar.cons rfl ar.nil|exact ar.cons rfl (ar.cons rfl ar.nil)|exact ar.nil
  ·have h10:=h;refine aG.go (i+1) [1,5,45,46,47] (by exact vT) ?_ ?_
   ·show rs.length - (i+1)<rs.length - i;omega
   ·refine ⟨by omega,fun k hk e =>?_⟩;by_cases hki:k=i
    ·subst hki;rw [hr] at e;injection e with e;exact h10 e
    ·exact g2 k (by omega) e
 ·have hnb : ¬0<aW (aa s 0):=by
   rw [hrs,yg];intro hm;obtain ⟨k,hk⟩:=ab6 hm;exact g2 k (by have:=(aaX.1 hk).1;omega) hk
  have e:cm n (a,b,c,d,s)=0:=(aaY (by simp only;omega)).trans ((aaY (show ¬40<(aa s 0).length by rw [hrs];omega)).trans (aaY (fun h=>h.elim hne hnb)));have ew:dL n (L.map (·.1)) (a,b,c,d,s)=if a∈L.map (·.1) then 8 else 0:=by rw [dL,e];rfl
  rw [ew];refine vL (lv:=[0,1,2,5,6,7,9,11,35,41,44,45,46,47,48,52,54,55,56,57,64]) ab (TQ n L (a,b,c,d,s)) (fun i=>i≤L.length ∧ ∀(k:Nat) y,k<i→L[k]? = some y→y.1≠a) (fun i=>L.length - i) (0) ((aC.go [5,54,55,56] (by exact vT) rfl)) ?_ ?_
  ·exact ⟨aa1 _,fun k y h=>by omega⟩
  rintro j ⟨q1,q2⟩;(refine' zg)
  ·refine aF.intro fun y hy =>?_
   (refine' zg)
   ·have hya:=h;rw [aa3 (abY.2 ⟨y,aa0 hy,hya⟩)];refine ae.now [] (by decide) ?_;(refine' zg);first|exact aj _|exact ar.cons rfl ar.nil|exact ar.cons rfl (ar.cons rfl ar.nil)|exact ar.nil
   ·have hya:=h;refine aG.go (j+1) [5,54,55,56] (by exact vT) ?_ ?_
    ·show L.length - (j+1)<L.length - j;omega
    ·refine ⟨by omega,fun k z hk hz =>?_⟩;by_cases hkj:k=j
     ·subst hkj;rw [hy] at hz;injection hz with hz;subst hz;exact hya
     ·exact q2 k z (by omega) hz
  ·rw [aaY (fun hm=>by
    obtain ⟨y,hy,hya⟩:=abY.1 hm;obtain ⟨k,hk⟩:=ab6 hy;exact q2 k y (by have:=(aaX.1 hk).1;omega) hk hya)]
   refine ae.now [] (by decide) ?_;(refine' zg);first|exact aj _|exact ar.cons rfl ar.nil|exact ar.cons rfl (ar.cons rfl ar.nil)|exact ar.nil
end Go.Proofs.YtkkanlcjjpoklaaGreatDoor
set_option linter.unusedSimpArgs false
set_option linter.unusedVariables false
set_option maxRecDepth 8000
namespace Go.Proofs.YtkkanlcjjpoklaaGreatDoor
open SrtIy (ltB cB cB_lt fE)
def mi (x:Iy):List Iy→List Iy
 | []=>[x]
 | y::r=>if ltB x y then x::y::r else y::mi x r
def aD (l:List Iy):List Iy:=l.foldl (fun out x=>mi (fK x) out) []
theorem lh (l:List Iy) (x:Iy):aD (l++[x])=mi (fK x) (aD l):=by simp [aD]
theorem BD (x:Iy) : ∀l:List Iy,(mi x l).length=l.length+1
 | []=>rfl
 | y::r=>by
  rw [mi];split
  ·rfl
  ·rw [aa6,BD x r,aa6]
theorem kf : ∀R l:List Iy,l=R.reverse→(aD l).length=l.length
 | [],l,e=>by subst e;rfl
 | x::R,l,e=>by
  subst e;rw [acq,lh,BD,kf R _ rfl,Or];rfl
theorem oL (x:Iy) : ∀l:List Iy,(mi x l).Perm (x::l)
 | []=>acS _
 | y::r=>by
  rw [mi];split
  ·exact acS _
  ·exact ((oL x r).cons y).trans (List.Perm.swap x y r)
theorem iZ : ∀R l:List Iy,l=R.reverse→(aD l).Perm (l.map fK)
 | [],l,e=>by subst e;exact acS _
 | x::R,l,e=>by
  subst e;rw [acq,lh,abc];refine (oL _ _).trans ?_;refine ((iZ R _ rfl).cons _).trans ?_;exact (adR _ _).symm
def TD (l:List Iy):Prop:=l.Pairwise fun x y=> ¬ltB y x
theorem Ge (x:Iy) : ∀l:List Iy,TD l→TD (mi x l)
 | [],_=>ad1 _ _
 | y::r,h=>by
  obtain ⟨h1,h2⟩:=abR.1 h;rw [mi];split
  ·rename_i hlt;refine abR.2 ⟨fun z hz =>?_,h⟩;rcases abi.1 hz with rfl|hz
   ·exact fun k=>fE.sy _ _ hlt k
   ·intro k;have h3:=h1 z hz;have a:=(cB_lt _ _).1 hlt;have b:=(cB_lt _ _).1 k;exact h3 ((cB_lt _ _).2 (by omega))
  ·rename_i hlt;refine abR.2 ⟨fun z hz =>?_,Ge x r h2⟩;rcases abi.1 ((oL x r).mem_iff.1 hz) with rfl|hz
   ·exact hlt
   ·exact h1 z hz
theorem yV : ∀R l:List Iy,l=R.reverse→TD (aD l)
 | [],l,e=>by subst e;exact List.Pairwise.nil
 | x::R,l,e=>by subst e;rw [acq,lh];exact Ge _ _ (yV R _ rfl)
theorem Jg {l:List Iy} (h:TD l):JD l:=h.imp fun {x y} hxy=>by
 have:=mt (cB_lt y x).2 hxy;omega
theorem SZ {l:List Iy} (h:TD l):cV ltB 0 l.length l:=fun p q x y h1 h2 h3 hx hy=>by
 have:=acH.1 h p q (by omega) h3 h2;rw [(aaX.1 hx).2,(aaX.1 hy).2] at this;exact this
theorem eG (n:Int) : ∀(l:List Iy) (seen:List Int),cb n seen l=0→(∀x∈l,cm n x=0∧x.1∉seen)∧(l.map (·.1)).Nodup
 | [],seen,_=>⟨(fun x hx=>by cases hx),adQ⟩
 | x::r,seen,h=>by
  rw [cb] at h;split at h
  ·rename_i hw;exact (hw h).elim
  ·rename_i hw;split at h
   ·cases h
   ·rename_i hm;obtain ⟨h1,h2⟩:=eG n r _ h;refine ⟨fun y hy =>?_,?_⟩
    ·rcases abi.1 hy with rfl|hy
     ·exact ⟨by omega,hm⟩
     ·have:=h1 y hy;exact ⟨this.1,fun hs=>this.2 (by simp [hs])⟩
    ·rw [abh,acF];refine ⟨fun hx =>?_,h2⟩;obtain ⟨y,hy,e⟩:=abY.1 hx;exact (h1 y hy).2 (by rw [e];simp)
theorem B3 : ∀ {l:List Iy},(l.map (·.1)).Nodup → ∀ {x y:Iy},x∈l→y∈l→x.1=y.1→x=y
 | [],_,x,y,hx,_,_=>by cases hx
 | z::r,h,x,y,hx,hy,e=>by
  rw [abh,acF] at h;rcases abi.1 hx with hx1|hx1
  ·rcases abi.1 hy with hy1|hy1
   ·rw [hx1,hy1]
   ·exact (h.1 (abY.2 ⟨y,hy1,by rw [←e,hx1]⟩)).elim
  ·rcases abi.1 hy with hy1|hy1
   ·exact (h.1 (abY.2 ⟨x,hx1,by rw [e,hy1]⟩)).elim
   ·exact B3 h.2 hx1 hy1 e
theorem Lj {n:Int} {l ys:List Iy} (he:cb n [] l=0) (hp:ys.Perm (l.map fK)) (hs:cV ltB 0 l.length ys):ys=aD l:=by
 have h1:=iZ l.reverse l (by simp);have h2:=yV l.reverse l (by simp);have hl:=kf l.reverse l (by simp);have hd:(l.map (·.1)).Nodup:=(eG n l [] he).2;have hd2:((aD l).map (·.1)).Nodup:=by
  have:((aD l).map (·.1)).Perm (l.map (·.1)):=by
   refine (h1.map _).trans ?_;rw [aci];exact acS _
  exact this.nodup_iff.2 hd
 refine cV.uniq fE (hp.trans h1.symm) (SZ h2) (by rw [(hp.trans h1.symm).length_eq,hl];exact hs) fun x y hx hy n1 n2 =>?_
 have a:=mt (cB_lt x y).2 n1;have b:=mt (cB_lt y x).2 n2;have hid:x.1=y.1:=by omega
 exact B3 hd2 hx hy hid
def xi (n:Int) (l:List Iy):V:=if cb n [] l=0 then .d (.agg [iD n,.sd 5 false ((aD l).map cT),iD 0]) else .d (.agg [iD 0,aB,iD (cb n [] l)])
def Yh (n:Int) (l:List Iy) (k:Nat):St:=
 ⟨[(0,iv n),(1,.d (.sd 5 false (l.map cT))),(4,.po 0 0),(5,.so 1 5 0 (aD (l.take k)).length),(24,.d (.sd 5 false (l.map cT))),(25,iv l.length),(26,iv k)],[(0,.cell [iv 0,.d aB,iv 0]),(1,El (aD (l.take k)))],2⟩
def rnI (n:Int) (l:List Iy) (k:Nat) (x:Iy) (out:List Iy) (z:Nat × Bool × List Iy):St:=
 ⟨[(0,iv n),(1,.d (.sd 5 false (l.map cT))),(4,.po 0 0),(7,.po 1 0),(9,.so 2 5 0 z.2.2.length),(10,bv z.2.1),(24,.d (.sd 5 false (l.map cT))),(25,iv l.length),(26,iv k),(46,.so 3 5 0 out.length),(47,iv out.length),(48,iv z.1)],
  [(0,.cell [iv 0,.d aB,iv 0]),(1,.cell [iv x.1,iv x.2.1,iv x.2.2.1,iv x.2.2.2.1,sv x.2.2.2.2]),(2,El z.2.2),(3,El out)],4⟩
attribute [push_cast] Yh.eq_def rnI.eq_def
structure RnP (x:Iy) (out:List Iy) (z:Nat × Bool × List Iy):Prop where
 le:z.1≤out.length
 len:z.2.2.length≤2*z.1
 fin:z.2.2++(if z.2.1=true then out.drop z.1 else mi x (out.drop z.1))=mi x out
set_option maxHeartbeats 6400000 in
theorem xq (n:Int) (hn:0≤n∧n≤1099511627776) (l:List Iy) (hl2:l.length≤60) (hs : ∀x∈l,x.2.2.2.2.size≤1000000):ap Tryz.prog G0 44 [iv n,.d (.sd 5 false (l.map cT))] [] 0 (xi n l) []:=by
 refine vF ab [0,1,4,5,6,7,8,9,10,12,18,22,24,25,26,27,38,46,47,48,49,58,69] Tryz.func44 rfl Tryz.results44 Tryz.ntmps44 ?_;(refine' zg)
 refine vL (lv:=[0,1,4,5,6,7,8,9,10,12,18,22,24,25,26,27,38,46,47,48,49,58,69]) ab (Yh n l) (fun k=>k≤l.length∧cb n ((l.take k).map (·.1)) (l.drop k)=cb n [] l) (fun k=>l.length - k) (0) (aC.nil 5 5<|(aC.go [0,1,4,5,24,25,26] (by exact vT) rfl)) ?_ ?_
 ·exact ⟨aa1 _,rfl⟩
 rintro k ⟨h1,h2⟩;have hal:(aD (l.take k)).length=k:=by rw [kf (l.take k).reverse _ (by simp),aa7];omega
 rcases aa2 k l.length with hk|hk
 ·obtain ⟨x,hx⟩ : ∃x,l[k]? = some x:=⟨_,IO hk⟩
  have hsx:=hs x (aa0 hx);have r1:=HK n (l.take k) (by rw [aa7];omega) x hsx;rw [yD hx,cb] at h2;have hins:aD (l.take (k+1))=mi (fK x) (aD (l.take k)):=by rw [ao hx,lh]
  have hids:(l.take (k+1)).map (·.1)=(l.take k).map (·.1)++[x.1]:=by rw [ao hx,abc];rfl
  by_cases hw:dL n ((l.take k).map (·.1)) x=0
  ·rw [hw] at r1;have hw2 : ¬cm n x≠0∧x.1∉(l.take k).map (·.1):=by
    unfold dL at hw;split at hw
    ·rename_i h;exact (h hw).elim
    ·rename_i h;split at hw
     ·cases hw
     ·rename_i h3;exact ⟨h,h3⟩
   rw [aaY hw2.1,aaY hw2.2,←hids] at h2;obtain ⟨a,b,c,d,s⟩:=x;simp only at hsx;have r2:=dX s (by omega);have hrl:=bh s s.size 0 (by omega);have r3:ap Tryz.prog G0 96 [Az (aa s 0)] [] 0 (sv (c9 (aa s 0))) []:=DB (aa s 0) (by omega);(refine' zg)
   refine aF.is k _ (by omega) hx ?_;(refine' WR r1 r2 r3)
   generalize hout:aD (l.take k)=out at *
   refine vL (lv:=[0,1,4,5,6,7,8,9,10,12,18,22,24,25,26,27,38,46,47,48,49,58,69]) ab (rnI n l k (a,b,c,d,c9 (aa s 0)) out) (RnP (a,b,c,d,c9 (aa s 0)) out) (fun z=>out.length - z.1) ((0,false,[])) (aC.nil 9 5<|(aC.go [0,1,4,7,9,10,24,25,26,46,47,48] (by exact vT) rfl)) ?_ ?_
   ·exact ⟨aa1 _,aa1 _,rfl⟩
   rintro ⟨i,p,es⟩ ⟨g1,g2,g3⟩;simp only at g1 g2 g3;rcases aa2 i out.length with hi|hi
   ·obtain ⟨y,hy⟩ : ∃y,out[i]? = some y:=⟨_,IO hi⟩
    have r4:=G5 (a,b,c,d,c9 (aa s 0)) y;obtain ⟨y1,y2,y3,y4,y5⟩:=y;rw [yD hy] at g3;cases p with
    | true=>
     (refine' zg)
     refine aF.is i _ (by omega) hy ?_;(refine' fq r4)
     rw [show es.map cT++[D.agg [iD y1,iD y2,iD y3,iD y4,D.lit (Value.string y5)]]=(es++[(y1,y2,y3,y4,y5)]).map cT from qT es (y1,y2,y3,y4,y5),aa4];refine aG.go ((i+1,true,es++[(y1,y2,y3,y4,y5)])) [0,1,4,7,9,10,24,25,26,46,47,48] (by exact vT) ?_ ?_
     ·show out.length - (i+1)<out.length - i;omega
     ·exact ⟨hi,by simp only [Or,aa6,abt];omega,by rw [←g3];simp⟩
    | false=>
     by_cases hlt:ltB (a,b,c,d,c9 (aa s 0)) (y1,y2,y3,y4,y5)
     ·rw [abw hlt] at r4;(refine' zg)
      refine aF.is i _ (by omega) hy ?_;(refine' fq r4)
      rw [show es.map cT++[D.agg [D.lit (Value.int IntKind.i64 a),D.lit (Value.int IntKind.i64 b),D.lit (Value.int IntKind.i64 c),D.lit (Value.int IntKind.i64 d),D.lit (Value.string (c9 (aa s 0)))]]++[D.agg [iD y1,iD y2,iD y3,iD y4,D.lit (Value.string y5)]]=(es++[(a,b,c,d,c9 (aa s 0))]++[(y1,y2,y3,y4,y5)]).map cT by rw [abc,abc];rfl,aa4];refine aG.go ((i+1,true,es++[(a,b,c,d,c9 (aa s 0))]++[(y1,y2,y3,y4,y5)])) [0,1,4,7,9,10,24,25,26,46,47,48] (by exact vT) ?_ ?_
      ·show out.length - (i+1)<out.length - i;omega
      ·refine ⟨hi,by simp only [Or,aa6,abt];omega,?_⟩;rw [←g3];simp only [aa9,ab1,ab0];rw [mi,aa3 hlt];simp
     ·rw [abM hlt] at r4;(refine' zg)
      refine aF.is i _ (by omega) hy ?_;(refine' fq r4)
      rw [show es.map cT++[D.agg [iD y1,iD y2,iD y3,iD y4,D.lit (Value.string y5)]]=(es++[(y1,y2,y3,y4,y5)]).map cT from qT es (y1,y2,y3,y4,y5),aa4];refine aG.go ((i+1,false,es++[(y1,y2,y3,y4,y5)])) [0,1,4,7,9,10,24,25,26,46,47,48] (by exact vT) ?_ ?_
      ·show out.length - (i+1)<out.length - i;omega
      ·refine ⟨hi,by simp only [Or,aa6,abt];omega,?_⟩;rw [←g3];simp only [aa9,ab1];rw [mi,aaY hlt];simp
   ·rw [abo hi] at g3;cases p with
    | true=>
     (refine' zg)
     have hfin:es=aD (l.take (k+1)):=by
      rw [hins];simp only [ab0,abb] at g3;exact g3
     rw [hfin];refine aG.go (k+1) [0,1,4,5,24,25,26] (by exact vT) ?_ ?_
     ·show l.length - (k+1)<l.length - k;omega
     ·exact ⟨hk,h2⟩
    | false=>
     (refine' zg)
     have hfin:es++[(a,b,c,d,c9 (aa s 0))]=aD (l.take (k+1)):=by
      rw [hins];simp only [aa9,ab1,mi] at g3;exact g3
     rw [show es.map cT++[D.agg [D.lit (Value.int IntKind.i64 a),D.lit (Value.int IntKind.i64 b),D.lit (Value.int IntKind.i64 c),D.lit (Value.int IntKind.i64 d),D.lit (Value.string (c9 (aa s 0)))]]=(es++[(a,b,c,d,c9 (aa s 0))]).map cT from qT es (a,b,c,d,c9 (aa s 0)),aa4,hfin];refine aG.go (k+1) [0,1,4,5,24,25,26] (by exact vT) ?_ ?_
     ·show l.length - (k+1)<l.length - k;omega
     ·exact ⟨hk,h2⟩
  ·have h2e:cb n [] l=dL n ((l.take k).map (·.1)) x:=by
    rw [←h2];unfold dL at hw ⊢;by_cases hq:cm n x≠0
    ·rw [aa3 hq,aa3 hq]
    ·rw [aaY hq] at hw ⊢;rw [aaY hq];by_cases hm:x.1∈(l.take k).map (·.1)
     ·rw [aa3 hm,aa3 hm]
     ·rw [aaY hm] at hw;exact (hw rfl).elim
   rw [xi,h2e,aaY hw];generalize dL n ((l.take k).map (·.1)) x=e at r1 hw;obtain ⟨a,b,c,d,s⟩:=x;(refine' zg)
   refine aF.is k _ (by omega) hx ?_;(refine' lK r1)
 ·obtain rfl:k=l.length:=by omega
  rw [acY,cb] at h2;rw [Yh,abC];(refine' zg)
  rw [xi,←h2,aa3 rfl];refine ae.frz 1 (ae.out ?_);(refine' zg)
end Go.Proofs.YtkkanlcjjpoklaaGreatDoor
