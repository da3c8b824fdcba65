/- What the theorem leans on, part 23. -/
import Derived.Test.YtkkanlcjjpoklaaGreatDoorStUPAV
set_option linter.unusedSimpArgs false
set_option linter.unusedVariables false
set_option maxRecDepth 8000
namespace Go.Proofs.YtkkanlcjjpoklaaGreatDoor
theorem wV {l:List Int} : 0<aT l↔10∈l:=by
 unfold aT;rw [List.length_pos_iff_exists_mem];constructor
 ·rintro ⟨a,ha⟩;rw [List.mem_filter] at ha;have:a=10:=by simpa using ha.2
  exact this▸ha.1
 ·intro h;exact ⟨10,List.mem_filter.2 ⟨h,by simp⟩⟩
theorem E7 (x y:Iy):an Tryz.prog G0 97 [.d (cS x),.d (cS y)] [] 0 (bv (decide (SrtIy.ltB x y))) []:=by
 obtain ⟨x1,x2,x3,x4,x5⟩:=x;obtain ⟨y1,y2,y3,y4,y5⟩:=y;have h:=SrtIy.cB_lt (x1,x2,x3,x4,x5) (y1,y2,y3,y4,y5);by_cases h2:x2=y2
 ·by_cases h4:x4=y4
  ·have e:decide (SrtIy.ltB (x1,x2,x3,x4,x5) (y1,y2,y3,y4,y5))=decide (x1<y1):=decide_eq_decide.2 (h.trans (by simp only;omega));rw [e];refine vF ab [0,1,2,3,4,9,19] Tryz.func97 rfl Tryz.results97 Tryz.ntmps97 ?_;(refine' zo)
  ·have e:decide (SrtIy.ltB (x1,x2,x3,x4,x5) (y1,y2,y3,y4,y5))=decide (x4<y4):=decide_eq_decide.2 (h.trans (by simp only;omega));rw [e];refine vF ab [0,1,2,3,4,9,19] Tryz.func97 rfl Tryz.results97 Tryz.ntmps97 ?_;(refine' zo)
 ·have e:decide (SrtIy.ltB (x1,x2,x3,x4,x5) (y1,y2,y3,y4,y5))=decide (x2<y2):=decide_eq_decide.2 (h.trans (by simp only;omega));rw [e];refine vF ab [0,1,2,3,4,9,19] Tryz.func97 rfl Tryz.results97 Tryz.ntmps97 ?_;(refine' zo)
def dx (n:Int) (ids:List Int) (x:Iy):Int:=if b6 n x≠0 then b6 n x else if x.1∈ids then 8 else 0
def Rh (n:Int) (L:List Iy) (x:Iy) (rs:List Int) (i:Nat):St:=⟨[(1,.d (.sd 5 false (L.map cS))),(5,.po 0 0),(45,yE rs),(46,iv rs.length),(47,iv i)],[(0,.cell [iv x.1,iv x.2.1,iv x.2.2.1,iv x.2.2.2.1,sv x.2.2.2.2])],1⟩
def Ri (n:Int) (L:List Iy) (x:Iy) (i:Nat):St:=⟨[(5,.po 0 0),(54,.d (.sd 5 false (L.map cS))),(55,iv L.length),(56,iv i)],[(0,.cell [iv x.1,iv x.2.1,iv x.2.2.1,iv x.2.2.2.1,sv x.2.2.2.2])],1⟩
attribute [push_cast] Rh.eq_def Ri.eq_def
set_option maxHeartbeats 6400000 in
theorem FK (n:Int) (L:List Iy) (hl:L.length≤100000) (x:Iy) (hs:x.2.2.2.2.size≤1000000):an Tryz.prog G0 95 [iv n,.d (.sd 5 false (L.map cS)),.d (cS x)] [] 0 (iv (dx n (L.map (·.1)) x)) []:=by
 obtain ⟨a,b,c,d,s⟩:=x;simp only at hs;have r1:=fK s (by omega);have hrl:=bx s s.size 0 (by omega);refine vF ab [0,1,2,5,6,7,9,11,35,41,44,45,46,47,48,52,54,55,56,57,64] Tryz.func95 rfl Tryz.results95 Tryz.ntmps95 ?_;(refine' K8 r1)
 ·have e:b6 n (a,b,c,d,s)=1:=if_pos (by simp only;omega);rw [show dx n (L.map (·.1)) (a,b,c,d,s)=1 by rw [dx,e];rfl];refine ae.now [] (by decide) ?_;(refine' zg);first|exact aj _|exact ap.cons rfl ap.nil|exact ap.cons rfl (ap.cons rfl ap.nil)|exact ap.nil
 ·rename_i h1;have e:b6 n (a,b,c,d,s)=2:=(if_neg (by simp only;omega)).trans (if_pos (show 40<(aa s 0).length by omega));rw [show dx n (L.map (·.1)) (a,b,c,d,s)=2 by rw [dx,e];rfl];refine ae.now [] (by decide) ?_;(refine' zg);first|exact aj _|exact ap.cons rfl ap.nil|exact ap.cons rfl (ap.cons rfl ap.nil)|exact ap.nil
 ·rename_i h1 h2;have hemp:s=⟨#[]⟩:=by
   have hz : ¬0<s.size:=fun hp=>by
    have h3:=cJ (s:=s) (i:=0) hp;rw [h3,List.length_cons] at h;omega
   exact ByteArray.ext (by
    have:s.data.size=0:=by show s.size=0;omega
    exact Array.eq_empty_of_size_eq_zero this)
  have e:b6 n (a,b,c,d,s)=4:=(if_neg (by simp only;omega)).trans ((if_neg (show ¬40<(aa s 0).length by omega)).trans (if_pos (.inl hemp)));rw [show dx n (L.map (·.1)) (a,b,c,d,s)=4 by rw [dx,e];rfl];refine ae.now [] (by decide) ?_;(refine' zg);first|exact aj _|exact ap.cons rfl ap.nil|exact ap.cons rfl (ap.cons rfl ap.nil)|exact ap.nil
 rename_i h1 h2;have h3:=h;have hne : ¬s=⟨#[]⟩:=fun e=>by
  subst e;rw [bI (by decide)] at h3;exact h3 (by simp)
 generalize hrs:aa s 0=rs at *
 refine vL (lv:=[0,1,2,5,6,7,9,11,35,41,44,45,46,47,48,52,54,55,56,57,64]) ab (Rh n L (a,b,c,d,s) rs) (fun i=>i≤rs.length ∧ ∀k,k<i→rs[k]? ≠ some 10) (fun i=>rs.length - i) (0) ((aC.go [1,5,45,46,47] (by exact vT) rfl)) ?_ ?_
 ·exact ⟨Nat.zero_le _,fun k h=>by omega⟩
 rintro i ⟨g1,g2⟩;(refine' zg)
 ·refine aI.intro fun r hr =>?_
  (refine' zg)
  ·have h10:=h;have hin:0<aT (aa s 0):=by rw [hrs];exact wV.2 (List.mem_of_getElem? (h10▸hr))
   have e:b6 n (a,b,c,d,s)=4:=(if_neg (by simp only;omega)).trans ((if_neg (show ¬40<(aa s 0).length by rw [hrs];omega)).trans (if_pos (.inr hin)));rw [show dx n (L.map (·.1)) (a,b,c,d,s)=4 by rw [dx,e];rfl];refine ae.now [] (by decide) ?_;(refine' zg);first|exact aj _|exact ap.cons rfl ap.nil|exact ap.cons rfl (ap.cons rfl ap.nil)|exact ap.nil
  ·have h10:=h;refine aG.go (i+1) [1,5,45,46,47] (by exact vT) ?_ ?_
   ·show rs.length - (i+1)<rs.length - i;omega
   ·refine ⟨by omega,fun k hk e =>?_⟩;by_cases hki:k=i
    ·subst hki;rw [hr] at e;injection e with e;exact h10 e
    ·exact g2 k (by omega) e
 ·have hnb : ¬0<aT (aa s 0):=by
   rw [hrs,wV];intro hm;obtain ⟨k,hk⟩:=List.getElem?_of_mem hm;exact g2 k (by have:=(List.getElem?_eq_some_iff.1 hk).1;omega) hk
  have e:b6 n (a,b,c,d,s)=0:=(if_neg (by simp only;omega)).trans ((if_neg (show ¬40<(aa s 0).length by rw [hrs];omega)).trans (if_neg (fun h=>h.elim hne hnb)));have ew:dx n (L.map (·.1)) (a,b,c,d,s)=if a∈L.map (·.1) then 8 else 0:=by rw [dx,e];rfl
  rw [ew];refine vL (lv:=[0,1,2,5,6,7,9,11,35,41,44,45,46,47,48,52,54,55,56,57,64]) ab (Ri n L (a,b,c,d,s)) (fun i=>i≤L.length ∧ ∀(k:Nat) y,k<i→L[k]? = some y→y.1≠a) (fun i=>L.length - i) (0) ((aC.go [5,54,55,56] (by exact vT) rfl)) ?_ ?_
  ·exact ⟨Nat.zero_le _,fun k y h=>by omega⟩
  rintro j ⟨q1,q2⟩;(refine' zg)
  ·refine aI.intro fun y hy =>?_
   (refine' zg)
   ·have hya:=h;rw [if_pos (List.mem_map.2 ⟨y,List.mem_of_getElem? hy,hya⟩)];refine ae.now [] (by decide) ?_;(refine' zg);first|exact aj _|exact ap.cons rfl ap.nil|exact ap.cons rfl (ap.cons rfl ap.nil)|exact ap.nil
   ·have hya:=h;refine aG.go (j+1) [5,54,55,56] (by exact vT) ?_ ?_
    ·show L.length - (j+1)<L.length - j;omega
    ·refine ⟨by omega,fun k z hk hz =>?_⟩;by_cases hkj:k=j
     ·subst hkj;rw [hy] at hz;injection hz with hz;subst hz;exact hya
     ·exact q2 k z (by omega) hz
  ·rw [if_neg (fun hm=>by
    obtain ⟨y,hy,hya⟩:=List.mem_map.1 hm;obtain ⟨k,hk⟩:=List.getElem?_of_mem hy;exact q2 k y (by have:=(List.getElem?_eq_some_iff.1 hk).1;omega) hk hya)]
   refine ae.now [] (by decide) ?_;(refine' zg);first|exact aj _|exact ap.cons rfl ap.nil|exact ap.cons rfl (ap.cons rfl ap.nil)|exact ap.nil
end Go.Proofs.YtkkanlcjjpoklaaGreatDoor
set_option linter.unusedSimpArgs false
set_option linter.unusedVariables false
set_option maxRecDepth 8000
namespace Go.Proofs.YtkkanlcjjpoklaaGreatDoor
open SrtIy (ltB cB cB_lt eZ)
def lz (x:Iy):List Iy→List Iy
 | []=>[x]
 | y::r=>if ltB x y then x::y::r else y::lz x r
def aS (l:List Iy):List Iy:=l.foldl (fun out x=>lz (fa x) out) []
theorem kr (l:List Iy) (x:Iy):aS (l++[x])=lz (fa x) (aS l):=by simp [aS]
theorem zI (x:Iy) : ∀l:List Iy,(lz x l).length=l.length+1
 | []=>rfl
 | y::r=>by
  rw [lz];split
  ·rfl
  ·rw [List.length_cons,zI x r,List.length_cons]
theorem jE : ∀R l:List Iy,l=R.reverse→(aS l).length=l.length
 | [],l,e=>by subst e;rfl
 | x::R,l,e=>by
  subst e;rw [List.reverse_cons,kr,zI,jE R _ rfl,List.length_append];rfl
theorem nO (x:Iy) : ∀l:List Iy,(lz x l).Perm (x::l)
 | []=>List.Perm.refl _
 | y::r=>by
  rw [lz];split
  ·exact List.Perm.refl _
  ·exact ((nO x r).cons y).trans (List.Perm.swap x y r)
theorem ko : ∀R l:List Iy,l=R.reverse→(aS l).Perm (l.map fa)
 | [],l,e=>by subst e;exact List.Perm.refl _
 | x::R,l,e=>by
  subst e;rw [List.reverse_cons,kr,List.map_append];refine (nO _ _).trans ?_;refine ((ko R _ rfl).cons _).trans ?_;exact (List.perm_append_singleton _ _).symm
def Q0 (l:List Iy):Prop:=l.Pairwise fun x y=> ¬ltB y x
theorem Ef (x:Iy) : ∀l:List Iy,Q0 l→Q0 (lz x l)
 | [],_=>List.pairwise_singleton _ _
 | y::r,h=>by
  obtain ⟨h1,h2⟩:=List.pairwise_cons.1 h;rw [lz];split
  ·rename_i hlt;refine List.pairwise_cons.2 ⟨fun z hz =>?_,h⟩;rcases List.mem_cons.1 hz with rfl|hz
   ·exact fun k=>eZ.sy _ _ hlt k
   ·intro k;have h3:=h1 z hz;have a:=(cB_lt _ _).1 hlt;have b:=(cB_lt _ _).1 k;exact h3 ((cB_lt _ _).2 (by omega))
  ·rename_i hlt;refine List.pairwise_cons.2 ⟨fun z hz =>?_,Ef x r h2⟩;rcases List.mem_cons.1 ((nO x r).mem_iff.1 hz) with rfl|hz
   ·exact hlt
   ·exact h1 z hz
theorem xw : ∀R l:List Iy,l=R.reverse→Q0 (aS l)
 | [],l,e=>by subst e;exact List.Pairwise.nil
 | x::R,l,e=>by subst e;rw [List.reverse_cons,kr];exact Ef _ _ (xw R _ rfl)
theorem Hd {l:List Iy} (h:Q0 l):HD l:=h.imp fun {x y} hxy=>by
 have:=mt (cB_lt y x).2 hxy;omega
theorem Qn {l:List Iy} (h:Q0 l):cI ltB 0 l.length l:=fun p q x y h1 h2 h3 hx hy=>by
 have:=List.pairwise_iff_getElem.1 h p q (by omega) h3 h2;rw [(List.getElem?_eq_some_iff.1 hx).2,(List.getElem?_eq_some_iff.1 hy).2] at this;exact this
theorem fq (n:Int) : ∀(l:List Iy) (seen:List Int),bW n seen l=0→(∀x∈l,b6 n x=0∧x.1∉seen)∧(l.map (·.1)).Nodup
 | [],seen,_=>⟨(fun x hx=>by cases hx),List.nodup_nil⟩
 | x::r,seen,h=>by
  rw [bW] at h;split at h
  ·rename_i hw;exact (hw h).elim
  ·rename_i hw;split at h
   ·cases h
   ·rename_i hm;obtain ⟨h1,h2⟩:=fq n r _ h;refine ⟨fun y hy =>?_,?_⟩
    ·rcases List.mem_cons.1 hy with rfl|hy
     ·exact ⟨by omega,hm⟩
     ·have:=h1 y hy;exact ⟨this.1,fun hs=>this.2 (by simp [hs])⟩
    ·rw [List.map_cons,List.nodup_cons];refine ⟨fun hx =>?_,h2⟩;obtain ⟨y,hy,e⟩:=List.mem_map.1 hx;exact (h1 y hy).2 (by rw [e];simp)
theorem Ai : ∀ {l:List Iy},(l.map (·.1)).Nodup → ∀ {x y:Iy},x∈l→y∈l→x.1=y.1→x=y
 | [],_,x,y,hx,_,_=>by cases hx
 | z::r,h,x,y,hx,hy,e=>by
  rw [List.map_cons,List.nodup_cons] at h;rcases List.mem_cons.1 hx with hx1|hx1
  ·rcases List.mem_cons.1 hy with hy1|hy1
   ·rw [hx1,hy1]
   ·exact (h.1 (List.mem_map.2 ⟨y,hy1,by rw [←e,hx1]⟩)).elim
  ·rcases List.mem_cons.1 hy with hy1|hy1
   ·exact (h.1 (List.mem_map.2 ⟨x,hx1,by rw [e,hy1]⟩)).elim
   ·exact Ai h.2 hx1 hy1 e
theorem Jn {n:Int} {l ys:List Iy} (he:bW n [] l=0) (hp:ys.Perm (l.map fa)) (hs:cI ltB 0 l.length ys):ys=aS l:=by
 have h1:=ko l.reverse l (by simp);have h2:=xw l.reverse l (by simp);have hl:=jE l.reverse l (by simp);have hd:(l.map (·.1)).Nodup:=(fq n l [] he).2;have hd2:((aS l).map (·.1)).Nodup:=by
  have:((aS l).map (·.1)).Perm (l.map (·.1)):=by
   refine (h1.map _).trans ?_;rw [List.map_map];exact List.Perm.refl _
  exact this.nodup_iff.2 hd
 refine cI.uniq eZ (hp.trans h1.symm) (Qn h2) (by rw [(hp.trans h1.symm).length_eq,hl];exact hs) fun x y hx hy n1 n2 =>?_
 have a:=mt (cB_lt x y).2 n1;have b:=mt (cB_lt y x).2 n2;have hid:x.1=y.1:=by omega
 exact Ai hd2 hx hy hid
def vI (n:Int) (l:List Iy):V:=if bW n [] l=0 then .d (.agg [iD n,.sd 5 false ((aS l).map cS),iD 0]) else .d (.agg [iD 0,aB,iD (bW n [] l)])
def Vg (n:Int) (l:List Iy) (k:Nat):St:=
 ⟨[(0,iv n),(1,.d (.sd 5 false (l.map cS))),(4,.po 0 0),(5,.so 1 5 0 (aS (l.take k)).length),(24,.d (.sd 5 false (l.map cS))),(25,iv l.length),(26,iv k)],[(0,.cell [iv 0,.d aB,iv 0]),(1,Cw (aS (l.take k)))],2⟩
def Yi (n:Int) (l:List Iy) (k:Nat) (x:Iy) (out:List Iy) (z:Nat × Bool × List Iy):St:=
 ⟨[(0,iv n),(1,.d (.sd 5 false (l.map cS))),(4,.po 0 0),(7,.po 1 0),(9,.so 2 5 0 z.2.2.length),(10,bv z.2.1),(24,.d (.sd 5 false (l.map cS))),(25,iv l.length),(26,iv k),(46,.so 3 5 0 out.length),(47,iv out.length),(48,iv z.1)],
  [(0,.cell [iv 0,.d aB,iv 0]),(1,.cell [iv x.1,iv x.2.1,iv x.2.2.1,iv x.2.2.2.1,sv x.2.2.2.2]),(2,Cw z.2.2),(3,Cw out)],4⟩
attribute [push_cast] Vg.eq_def Yi.eq_def
structure ZR (x:Iy) (out:List Iy) (z:Nat × Bool × List Iy):Prop where
 le:z.1≤out.length
 len:z.2.2.length≤2*z.1
 fin:z.2.2++(if z.2.1=true then out.drop z.1 else lz x (out.drop z.1))=lz x out
set_option maxHeartbeats 6400000 in
theorem v0 (n:Int) (hn:0≤n∧n≤1099511627776) (l:List Iy) (hl2:l.length≤60) (hs : ∀x∈l,x.2.2.2.2.size≤1000000):an Tryz.prog G0 44 [iv n,.d (.sd 5 false (l.map cS))] [] 0 (vI n l) []:=by
 refine vF ab [0,1,4,5,6,7,8,9,10,12,18,22,24,25,26,27,38,46,47,48,49,58,69] Tryz.func44 rfl Tryz.results44 Tryz.ntmps44 ?_;(refine' zg)
 refine vL (lv:=[0,1,4,5,6,7,8,9,10,12,18,22,24,25,26,27,38,46,47,48,49,58,69]) ab (Vg n l) (fun k=>k≤l.length∧bW n ((l.take k).map (·.1)) (l.drop k)=bW n [] l) (fun k=>l.length - k) (0) (aC.nil 5 5<|(aC.go [0,1,4,5,24,25,26] (by exact vT) rfl)) ?_ ?_
 ·exact ⟨Nat.zero_le _,rfl⟩
 rintro k ⟨h1,h2⟩;have hal:(aS (l.take k)).length=k:=by rw [jE (l.take k).reverse _ (by simp),List.length_take];omega
 rcases Nat.lt_or_ge k l.length with hk|hk
 ·obtain ⟨x,hx⟩ : ∃x,l[k]? = some x:=⟨_,List.getElem?_eq_getElem hk⟩
  have hsx:=hs x (List.mem_of_getElem? hx);have r1:=FK n (l.take k) (by rw [List.length_take];omega) x hsx;rw [xe hx,bW] at h2;have hins:aS (l.take (k+1))=lz (fa x) (aS (l.take k)):=by rw [ax hx,kr]
  have hids:(l.take (k+1)).map (·.1)=(l.take k).map (·.1)++[x.1]:=by rw [ax hx,List.map_append];rfl
  by_cases hw:dx n ((l.take k).map (·.1)) x=0
  ·rw [hw] at r1;have hw2 : ¬b6 n x≠0∧x.1∉(l.take k).map (·.1):=by
    unfold dx at hw;split at hw
    ·rename_i h;exact (h hw).elim
    ·rename_i h;split at hw
     ·cases hw
     ·rename_i h3;exact ⟨h,h3⟩
   rw [if_neg hw2.1,if_neg hw2.2,←hids] at h2;obtain ⟨a,b,c,d,s⟩:=x;simp only at hsx;have r2:=fK s (by omega);have hrl:=bx s s.size 0 (by omega);have r3:an Tryz.prog G0 96 [yE (aa s 0)] [] 0 (sv (cL (aa s 0))) []:=BO (aa s 0) (by omega);(refine' zg)
   refine aI.is k _ (by omega) hx ?_;(refine' TZ r1 r2 r3)
   generalize hout:aS (l.take k)=out at *
   refine vL (lv:=[0,1,4,5,6,7,8,9,10,12,18,22,24,25,26,27,38,46,47,48,49,58,69]) ab (Yi n l k (a,b,c,d,cL (aa s 0)) out) (ZR (a,b,c,d,cL (aa s 0)) out) (fun z=>out.length - z.1) ((0,false,[])) (aC.nil 9 5<|(aC.go [0,1,4,7,9,10,24,25,26,46,47,48] (by exact vT) rfl)) ?_ ?_
   ·exact ⟨Nat.zero_le _,Nat.zero_le _,rfl⟩
   rintro ⟨i,p,es⟩ ⟨g1,g2,g3⟩;simp only at g1 g2 g3;rcases Nat.lt_or_ge i out.length with hi|hi
   ·obtain ⟨y,hy⟩ : ∃y,out[i]? = some y:=⟨_,List.getElem?_eq_getElem hi⟩
    have r4:=E7 (a,b,c,d,cL (aa s 0)) y;obtain ⟨y1,y2,y3,y4,y5⟩:=y;rw [xe hy] at g3;cases p with
    | true=>
     (refine' zg)
     refine aI.is i _ (by omega) hy ?_;(refine' fj r4)
     rw [show es.map cS++[D.agg [iD y1,iD y2,iD y3,iD y4,D.lit (Value.string y5)]]=(es++[(y1,y2,y3,y4,y5)]).map cS from qh es (y1,y2,y3,y4,y5),List.length_map];refine aG.go ((i+1,true,es++[(y1,y2,y3,y4,y5)])) [0,1,4,7,9,10,24,25,26,46,47,48] (by exact vT) ?_ ?_
     ·show out.length - (i+1)<out.length - i;omega
     ·exact ⟨hi,by simp only [List.length_append,List.length_cons,List.length_nil];omega,by rw [←g3];simp⟩
    | false=>
     by_cases hlt:ltB (a,b,c,d,cL (aa s 0)) (y1,y2,y3,y4,y5)
     ·rw [decide_eq_true hlt] at r4;(refine' zg)
      refine aI.is i _ (by omega) hy ?_;(refine' fj r4)
      rw [show es.map cS++[D.agg [D.lit (Value.int IntKind.i64 a),D.lit (Value.int IntKind.i64 b),D.lit (Value.int IntKind.i64 c),D.lit (Value.int IntKind.i64 d),D.lit (Value.string (cL (aa s 0)))]]++[D.agg [iD y1,iD y2,iD y3,iD y4,D.lit (Value.string y5)]]=(es++[(a,b,c,d,cL (aa s 0))]++[(y1,y2,y3,y4,y5)]).map cS by rw [List.map_append,List.map_append];rfl,List.length_map];refine aG.go ((i+1,true,es++[(a,b,c,d,cL (aa s 0))]++[(y1,y2,y3,y4,y5)])) [0,1,4,7,9,10,24,25,26,46,47,48] (by exact vT) ?_ ?_
      ·show out.length - (i+1)<out.length - i;omega
      ·refine ⟨hi,by simp only [List.length_append,List.length_cons,List.length_nil];omega,?_⟩;rw [←g3];simp only [Bool.false_eq_true,if_false,if_true];rw [lz,if_pos hlt];simp
     ·rw [decide_eq_false hlt] at r4;(refine' zg)
      refine aI.is i _ (by omega) hy ?_;(refine' fj r4)
      rw [show es.map cS++[D.agg [iD y1,iD y2,iD y3,iD y4,D.lit (Value.string y5)]]=(es++[(y1,y2,y3,y4,y5)]).map cS from qh es (y1,y2,y3,y4,y5),List.length_map];refine aG.go ((i+1,false,es++[(y1,y2,y3,y4,y5)])) [0,1,4,7,9,10,24,25,26,46,47,48] (by exact vT) ?_ ?_
      ·show out.length - (i+1)<out.length - i;omega
      ·refine ⟨hi,by simp only [List.length_append,List.length_cons,List.length_nil];omega,?_⟩;rw [←g3];simp only [Bool.false_eq_true,if_false];rw [lz,if_neg hlt];simp
   ·rw [List.drop_of_length_le hi] at g3;cases p with
    | true=>
     (refine' zg)
     have hfin:es=aS (l.take (k+1)):=by
      rw [hins];simp only [if_true,List.append_nil] at g3;exact g3
     rw [hfin];refine aG.go (k+1) [0,1,4,5,24,25,26] (by exact vT) ?_ ?_
     ·show l.length - (k+1)<l.length - k;omega
     ·exact ⟨hk,h2⟩
    | false=>
     (refine' zg)
     have hfin:es++[(a,b,c,d,cL (aa s 0))]=aS (l.take (k+1)):=by
      rw [hins];simp only [Bool.false_eq_true,if_false,lz] at g3;exact g3
     rw [show es.map cS++[D.agg [D.lit (Value.int IntKind.i64 a),D.lit (Value.int IntKind.i64 b),D.lit (Value.int IntKind.i64 c),D.lit (Value.int IntKind.i64 d),D.lit (Value.string (cL (aa s 0)))]]=(es++[(a,b,c,d,cL (aa s 0))]).map cS from qh es (a,b,c,d,cL (aa s 0)),List.length_map,hfin];refine aG.go (k+1) [0,1,4,5,24,25,26] (by exact vT) ?_ ?_
     ·show l.length - (k+1)<l.length - k;omega
     ·exact ⟨hk,h2⟩
  ·have h2e:bW n [] l=dx n ((l.take k).map (·.1)) x:=by
    rw [←h2];unfold dx at hw ⊢;by_cases hq:b6 n x≠0
    ·rw [if_pos hq,if_pos hq]
    ·rw [if_neg hq] at hw ⊢;rw [if_neg hq];by_cases hm:x.1∈(l.take k).map (·.1)
     ·rw [if_pos hm,if_pos hm]
     ·rw [if_neg hm] at hw;exact (hw rfl).elim
   rw [vI,h2e,if_neg hw];generalize dx n ((l.take k).map (·.1)) x=e at r1 hw;obtain ⟨a,b,c,d,s⟩:=x;(refine' zg)
   refine aI.is k _ (by omega) hx ?_;(refine' kW r1)
 ·obtain rfl:k=l.length:=by omega
  rw [List.drop_length,bW] at h2;rw [Vg,List.take_length];(refine' zg)
  rw [vI,←h2,if_pos rfl];refine ae.frz 1 (ae.out ?_);(refine' zg)
end Go.Proofs.YtkkanlcjjpoklaaGreatDoor
