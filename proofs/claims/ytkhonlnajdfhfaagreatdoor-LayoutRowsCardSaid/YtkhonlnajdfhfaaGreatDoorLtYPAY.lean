/- What the theorem leans on, part 25. -/
import Derived.Test.YtkhonlnajdfhfaaGreatDoorLtYPAX
set_option linter.unusedSimpArgs false
set_option linter.unusedVariables false
set_option maxRecDepth 8000
namespace Go.Proofs.YtkhonlnajdfhfaaGreatDoor
theorem brk_mem {l:List Int} : 0<brkN l↔10∈l:=by
 unfold brkN
 rw [List.length_pos_iff_exists_mem]
 constructor
 ·rintro ⟨a,ha⟩
  rw [List.mem_filter] at ha
  have:a=10:=by simpa using ha.2
  exact this▸ha.1
 ·intro h;exact ⟨10,List.mem_filter.2 ⟨h,by simp⟩⟩
theorem aheadB_fn (x y:Iy):OFn Tryz.prog G0 34 [.d (iyD x),.d (iyD y)] [] 0 (bv (decide (SrtIy.ltB x y))) []:=by
 obtain ⟨x1,x2,x3,x4,x5⟩:=x
 obtain ⟨y1,y2,y3,y4,y5⟩:=y
 have h:=SrtIy.cB_lt (x1,x2,x3,x4,x5) (y1,y2,y3,y4,y5)
 by_cases h2:x2=y2
 ·by_cases h4:x4=y4
  ·have e:decide (SrtIy.ltB (x1,x2,x3,x4,x5) (y1,y2,y3,y4,y5))=decide (x1<y1):=decide_eq_decide.2 (h.trans (by simp only;omega))
   rw [e]
   refine vF mixed [0,1,2,3,4,9,19] Tryz.func34 rfl Tryz.results34 Tryz.ntmps34 ?_
   (refine' zo)
  ·have e:decide (SrtIy.ltB (x1,x2,x3,x4,x5) (y1,y2,y3,y4,y5))=decide (x4<y4):=decide_eq_decide.2 (h.trans (by simp only;omega))
   rw [e]
   refine vF mixed [0,1,2,3,4,9,19] Tryz.func34 rfl Tryz.results34 Tryz.ntmps34 ?_
   (refine' zo)
 ·have e:decide (SrtIy.ltB (x1,x2,x3,x4,x5) (y1,y2,y3,y4,y5))=decide (x2<y2):=decide_eq_decide.2 (h.trans (by simp only;omega))
  rw [e]
  refine vF mixed [0,1,2,3,4,9,19] Tryz.func34 rfl Tryz.results34 Tryz.ntmps34 ?_
  (refine' zo)
def wrongD (n:Int) (ids:List Int) (x:Iy):Int:=if wrongI n x≠0 then wrongI n x else if x.1∈ids then 8 else 0
def dw1S (n:Int) (L:List Iy) (x:Iy) (rs:List Int) (i:Nat):St:=⟨[(1,.d (.sd 5 false (L.map iyD))),(5,.po 0 0),(45,ruL rs),(46,iv rs.length),(47,iv i)],[(0,.cell [iv x.1,iv x.2.1,iv x.2.2.1,iv x.2.2.2.1,sv x.2.2.2.2])],1⟩
def dw2S (n:Int) (L:List Iy) (x:Iy) (i:Nat):St:=⟨[(5,.po 0 0),(54,.d (.sd 5 false (L.map iyD))),(55,iv L.length),(56,iv i)],[(0,.cell [iv x.1,iv x.2.1,iv x.2.2.1,iv x.2.2.2.1,sv x.2.2.2.2])],1⟩
attribute [push_cast] dw1S.eq_def dw2S.eq_def
set_option maxHeartbeats 6400000 in
theorem dWrong_fn (n:Int) (L:List Iy) (hl:L.length≤100000) (x:Iy) (hs:x.2.2.2.2.size≤1000000):OFn Tryz.prog G0 32 [iv n,.d (.sd 5 false (L.map iyD)),.d (iyD x)] [] 0 (iv (wrongD n (L.map (·.1)) x)) []:=by
 obtain ⟨a,b,c,d,s⟩:=x
 simp only at hs
 have r1:=RDecode_fn s (by omega)
 have hrl:=runesAt_len s s.size 0 (by omega)
 refine vF mixed [0,1,2,5,6,7,9,11,35,41,44,45,46,47,48,52,54,55,56,57,64] Tryz.func32 rfl Tryz.results32 Tryz.ntmps32 ?_
 (refine' zm10 r1)
 ·have e:wrongI n (a,b,c,d,s)=1:=if_pos (by simp only;omega)
  rw [show wrongD n (L.map (·.1)) (a,b,c,d,s)=1 by rw [wrongD,e];rfl]
  refine DoneW.now [] (by decide) ?_;(refine' zg);first|exact Sub_refl _|exact Sub.cons rfl Sub.nil|exact Sub.cons rfl (Sub.cons rfl Sub.nil)|exact Sub.nil
 ·rename_i h1
  have e:wrongI n (a,b,c,d,s)=2:=(if_neg (by simp only;omega)).trans (if_pos (show 40<(runesAt s 0).length by omega))
  rw [show wrongD n (L.map (·.1)) (a,b,c,d,s)=2 by rw [wrongD,e];rfl]
  refine DoneW.now [] (by decide) ?_;(refine' zg);first|exact Sub_refl _|exact Sub.cons rfl Sub.nil|exact Sub.cons rfl (Sub.cons rfl Sub.nil)|exact Sub.nil
 ·rename_i h1 h2
  have hemp:s=⟨#[]⟩:=by
   have hz : ¬0<s.size:=fun hp=>by
    have h3:=runesAt_in (s:=s) (i:=0) hp
    rw [h3,List.length_cons] at h
    omega
   exact ByteArray.ext (by
    have:s.data.size=0:=by show s.size=0;omega
    exact Array.eq_empty_of_size_eq_zero this)
  have e:wrongI n (a,b,c,d,s)=4:=(if_neg (by simp only;omega)).trans ((if_neg (show ¬40<(runesAt s 0).length by omega)).trans (if_pos (.inl hemp)))
  rw [show wrongD n (L.map (·.1)) (a,b,c,d,s)=4 by rw [wrongD,e];rfl]
  refine DoneW.now [] (by decide) ?_;(refine' zg);first|exact Sub_refl _|exact Sub.cons rfl Sub.nil|exact Sub.cons rfl (Sub.cons rfl Sub.nil)|exact Sub.nil
 rename_i h1 h2
 have h3:=h
 have hne : ¬s=⟨#[]⟩:=fun e=>by
  subst e
  rw [runesAt_out (by decide)] at h3
  exact h3 (by simp)
 generalize hrs:runesAt s 0=rs at *
 refine vL (lv:=[0,1,2,5,6,7,9,11,35,41,44,45,46,47,48,52,54,55,56,57,64]) mixed (dw1S n L (a,b,c,d,s) rs) (fun i=>i≤rs.length ∧ ∀k,k<i→rs[k]? ≠ some 10) (fun i=>rs.length - i) (0) ((GhW.go [1,5,45,46,47] (by exact vT) rfl)) ?_ ?_
 ·exact ⟨Nat.zero_le _,fun k h=>by omega⟩
 rintro i ⟨g1,g2⟩
 (refine' zg)
 ·refine elX.intro fun r hr =>?_
  (refine' zg)
  ·have h10:=h
   have hin:0<brkN (runesAt s 0):=by rw [hrs];exact brk_mem.2 (List.mem_of_getElem? (h10▸hr))
   have e:wrongI n (a,b,c,d,s)=4:=(if_neg (by simp only;omega)).trans ((if_neg (show ¬40<(runesAt s 0).length by rw [hrs];omega)).trans (if_pos (.inr hin)))
   rw [show wrongD n (L.map (·.1)) (a,b,c,d,s)=4 by rw [wrongD,e];rfl]
   refine DoneW.now [] (by decide) ?_;(refine' zg);first|exact Sub_refl _|exact Sub.cons rfl Sub.nil|exact Sub.cons rfl (Sub.cons rfl Sub.nil)|exact Sub.nil
  ·have h10:=h
   refine AgW.go (i+1) [1,5,45,46,47] (by exact vT) ?_ ?_
   ·show rs.length - (i+1)<rs.length - i
    omega
   ·refine ⟨by omega,fun k hk e =>?_⟩
    by_cases hki:k=i
    ·subst hki;rw [hr] at e;injection e with e;exact h10 e
    ·exact g2 k (by omega) e
 ·have hnb : ¬0<brkN (runesAt s 0):=by
   rw [hrs,brk_mem]
   intro hm
   obtain ⟨k,hk⟩:=List.getElem?_of_mem hm
   exact g2 k (by have:=(List.getElem?_eq_some_iff.1 hk).1;omega) hk
  have e:wrongI n (a,b,c,d,s)=0:=(if_neg (by simp only;omega)).trans ((if_neg (show ¬40<(runesAt s 0).length by rw [hrs];omega)).trans (if_neg (fun h=>h.elim hne hnb)))
  have ew:wrongD n (L.map (·.1)) (a,b,c,d,s)=if a∈L.map (·.1) then 8 else 0:=by rw [wrongD,e];rfl
  rw [ew]
  refine vL (lv:=[0,1,2,5,6,7,9,11,35,41,44,45,46,47,48,52,54,55,56,57,64]) mixed (dw2S n L (a,b,c,d,s)) (fun i=>i≤L.length ∧ ∀(k:Nat) y,k<i→L[k]? = some y→y.1≠a) (fun i=>L.length - i) (0) ((GhW.go [5,54,55,56] (by exact vT) rfl)) ?_ ?_
  ·exact ⟨Nat.zero_le _,fun k y h=>by omega⟩
  rintro j ⟨q1,q2⟩
  (refine' zg)
  ·refine elX.intro fun y hy =>?_
   (refine' zg)
   ·have hya:=h
    rw [if_pos (List.mem_map.2 ⟨y,List.mem_of_getElem? hy,hya⟩)]
    refine DoneW.now [] (by decide) ?_;(refine' zg);first|exact Sub_refl _|exact Sub.cons rfl Sub.nil|exact Sub.cons rfl (Sub.cons rfl Sub.nil)|exact Sub.nil
   ·have hya:=h
    refine AgW.go (j+1) [5,54,55,56] (by exact vT) ?_ ?_
    ·show L.length - (j+1)<L.length - j
     omega
    ·refine ⟨by omega,fun k z hk hz =>?_⟩
     by_cases hkj:k=j
     ·subst hkj;rw [hy] at hz;injection hz with hz;subst hz;exact hya
     ·exact q2 k z (by omega) hz
  ·rw [if_neg (fun hm=>by
    obtain ⟨y,hy,hya⟩:=List.mem_map.1 hm
    obtain ⟨k,hk⟩:=List.getElem?_of_mem hy
    exact q2 k y (by have:=(List.getElem?_eq_some_iff.1 hk).1;omega) hk hya)]
   refine DoneW.now [] (by decide) ?_;(refine' zg);first|exact Sub_refl _|exact Sub.cons rfl Sub.nil|exact Sub.cons rfl (Sub.cons rfl Sub.nil)|exact Sub.nil
end Go.Proofs.YtkhonlnajdfhfaaGreatDoor
set_option linter.unusedSimpArgs false
set_option linter.unusedVariables false
set_option maxRecDepth 8000
namespace Go.Proofs.YtkhonlnajdfhfaaGreatDoor
open SrtIy (ltB cB cB_lt wkB)
def insI (x:Iy):List Iy→List Iy
 | []=>[x]
 | y::r=>if ltB x y then x::y::r else y::insI x r
def insA (l:List Iy):List Iy:=l.foldl (fun out x=>insI (cleanI x) out) []
theorem insA_snoc (l:List Iy) (x:Iy):insA (l++[x])=insI (cleanI x) (insA l):=by simp [insA]
theorem insI_len (x:Iy) : ∀l:List Iy,(insI x l).length=l.length+1
 | []=>rfl
 | y::r=>by
  rw [insI]
  split
  ·rfl
  ·rw [List.length_cons,insI_len x r,List.length_cons]
theorem insA_len : ∀R l:List Iy,l=R.reverse→(insA l).length=l.length
 | [],l,e=>by subst e;rfl
 | x::R,l,e=>by
  subst e
  rw [List.reverse_cons,insA_snoc,insI_len,insA_len R _ rfl,List.length_append];rfl
theorem insI_perm (x:Iy) : ∀l:List Iy,(insI x l).Perm (x::l)
 | []=>List.Perm.refl _
 | y::r=>by
  rw [insI]
  split
  ·exact List.Perm.refl _
  ·exact ((insI_perm x r).cons y).trans (List.Perm.swap x y r)
theorem insA_perm : ∀R l:List Iy,l=R.reverse→(insA l).Perm (l.map cleanI)
 | [],l,e=>by subst e;exact List.Perm.refl _
 | x::R,l,e=>by
  subst e
  rw [List.reverse_cons,insA_snoc,List.map_append]
  refine (insI_perm _ _).trans ?_
  refine ((insA_perm R _ rfl).cons _).trans ?_
  exact (List.perm_append_singleton _ _).symm
def SoB (l:List Iy):Prop:=l.Pairwise fun x y=> ¬ltB y x
theorem insI_so (x:Iy) : ∀l:List Iy,SoB l→SoB (insI x l)
 | [],_=>List.pairwise_singleton _ _
 | y::r,h=>by
  obtain ⟨h1,h2⟩:=List.pairwise_cons.1 h
  rw [insI]
  split
  ·rename_i hlt
   refine List.pairwise_cons.2 ⟨fun z hz =>?_,h⟩
   rcases List.mem_cons.1 hz with rfl|hz
   ·exact fun k=>wkB.sy _ _ hlt k
   ·intro k
    have h3:=h1 z hz
    have a:=(cB_lt _ _).1 hlt
    have b:=(cB_lt _ _).1 k
    exact h3 ((cB_lt _ _).2 (by omega))
  ·rename_i hlt
   refine List.pairwise_cons.2 ⟨fun z hz =>?_,insI_so x r h2⟩
   rcases List.mem_cons.1 ((insI_perm x r).mem_iff.1 hz) with rfl|hz
   ·exact hlt
   ·exact h1 z hz
theorem insA_so : ∀R l:List Iy,l=R.reverse→SoB (insA l)
 | [],l,e=>by subst e;exact List.Pairwise.nil
 | x::R,l,e=>by subst e;rw [List.reverse_cons,insA_snoc];exact insI_so _ _ (insA_so R _ rfl)
theorem so_places {l:List Iy} (h:SoB l):SoI l:=h.imp fun {x y} hxy=>by
 have:=mt (cB_lt y x).2 hxy
 omega
theorem so_srt {l:List Iy} (h:SoB l):Srt ltB 0 l.length l:=fun p q x y h1 h2 h3 hx hy=>by
 have:=List.pairwise_iff_getElem.1 h p q (by omega) h3 h2
 rw [(List.getElem?_eq_some_iff.1 hx).2,(List.getElem?_eq_some_iff.1 hy).2] at this
 exact this
theorem inlErr_nodup (n:Int) : ∀(l:List Iy) (seen:List Int),inlErr n seen l=0→(∀x∈l,wrongI n x=0∧x.1∉seen)∧(l.map (·.1)).Nodup
 | [],seen,_=>⟨(fun x hx=>by cases hx),List.nodup_nil⟩
 | x::r,seen,h=>by
  rw [inlErr] at h
  split at h
  ·rename_i hw;exact (hw h).elim
  ·rename_i hw
   split at h
   ·cases h
   ·rename_i hm
    obtain ⟨h1,h2⟩:=inlErr_nodup n r _ h
    refine ⟨fun y hy =>?_,?_⟩
    ·rcases List.mem_cons.1 hy with rfl|hy
     ·exact ⟨by omega,hm⟩
     ·have:=h1 y hy
      exact ⟨this.1,fun hs=>this.2 (by simp [hs])⟩
    ·rw [List.map_cons,List.nodup_cons]
     refine ⟨fun hx =>?_,h2⟩
     obtain ⟨y,hy,e⟩:=List.mem_map.1 hx
     exact (h1 y hy).2 (by rw [e];simp)
theorem nodup_eq : ∀ {l:List Iy},(l.map (·.1)).Nodup → ∀ {x y:Iy},x∈l→y∈l→x.1=y.1→x=y
 | [],_,x,y,hx,_,_=>by cases hx
 | z::r,h,x,y,hx,hy,e=>by
  rw [List.map_cons,List.nodup_cons] at h
  rcases List.mem_cons.1 hx with hx1|hx1
  ·rcases List.mem_cons.1 hy with hy1|hy1
   ·rw [hx1,hy1]
   ·exact (h.1 (List.mem_map.2 ⟨y,hy1,by rw [←e,hx1]⟩)).elim
  ·rcases List.mem_cons.1 hy with hy1|hy1
   ·exact (h.1 (List.mem_map.2 ⟨x,hx1,by rw [e,hy1]⟩)).elim
   ·exact nodup_eq h.2 hx1 hy1 e
theorem ins_uniq {n:Int} {l ys:List Iy} (he:inlErr n [] l=0) (hp:ys.Perm (l.map cleanI)) (hs:Srt ltB 0 l.length ys):ys=insA l:=by
 have h1:=insA_perm l.reverse l (by simp)
 have h2:=insA_so l.reverse l (by simp)
 have hl:=insA_len l.reverse l (by simp)
 have hd:(l.map (·.1)).Nodup:=(inlErr_nodup n l [] he).2
 have hd2:((insA l).map (·.1)).Nodup:=by
  have:((insA l).map (·.1)).Perm (l.map (·.1)):=by
   refine (h1.map _).trans ?_
   rw [List.map_map]
   exact List.Perm.refl _
  exact this.nodup_iff.2 hd
 refine Srt.uniq wkB (hp.trans h1.symm) (so_srt h2) (by rw [(hp.trans h1.symm).length_eq,hl];exact hs) fun x y hx hy n1 n2 =>?_
 have a:=mt (cB_lt x y).2 n1
 have b:=mt (cB_lt y x).2 n2
 have hid:x.1=y.1:=by omega
 exact nodup_eq hd2 hx hy hid
def newDV (n:Int) (l:List Iy):V:=if inlErr n [] l=0 then .d (.agg [iD n,.sd 5 false ((insA l).map iyD),iD 0]) else .d (.agg [iD 0,nilSD,iD (inlErr n [] l)])
def rnS (n:Int) (l:List Iy) (k:Nat):St:=
 ⟨[(0,iv n),(1,.d (.sd 5 false (l.map iyD))),(4,.po 0 0),(5,.so 1 5 0 (insA (l.take k)).length),(24,.d (.sd 5 false (l.map iyD))),(25,iv l.length),(26,iv k)],[(0,.cell [iv 0,.d nilSD,iv 0]),(1,iyR (insA (l.take k)))],2⟩
def rnI (n:Int) (l:List Iy) (k:Nat) (x:Iy) (out:List Iy) (z:Nat × Bool × List Iy):St:=
 ⟨[(0,iv n),(1,.d (.sd 5 false (l.map iyD))),(4,.po 0 0),(7,.po 1 0),(9,.so 2 5 0 z.2.2.length),(10,bv z.2.1),(24,.d (.sd 5 false (l.map iyD))),(25,iv l.length),(26,iv k),(46,.so 3 5 0 out.length),(47,iv out.length),(48,iv z.1)],
  [(0,.cell [iv 0,.d nilSD,iv 0]),(1,.cell [iv x.1,iv x.2.1,iv x.2.2.1,iv x.2.2.2.1,sv x.2.2.2.2]),(2,iyR z.2.2),(3,iyR out)],4⟩
attribute [push_cast] rnS.eq_def rnI.eq_def
structure RnP (x:Iy) (out:List Iy) (z:Nat × Bool × List Iy):Prop where
 le:z.1≤out.length
 len:z.2.2.length≤2*z.1
 fin:z.2.2++(if z.2.1=true then out.drop z.1 else insI x (out.drop z.1))=insI x out
set_option maxHeartbeats 6400000 in
theorem rNew13_fn (n:Int) (hn:0≤n∧n≤1099511627776) (l:List Iy) (hl2:l.length≤60) (hs : ∀x∈l,x.2.2.2.2.size≤1000000):OFn Tryz.prog G0 13 [iv n,.d (.sd 5 false (l.map iyD))] [] 0 (newDV n l) []:=by
 refine vF mixed [0,1,4,5,6,7,8,9,10,12,18,22,24,25,26,27,38,46,47,48,49,58,69] Tryz.func13 rfl Tryz.results13 Tryz.ntmps13 ?_
 (refine' zg)
 refine vL (lv:=[0,1,4,5,6,7,8,9,10,12,18,22,24,25,26,27,38,46,47,48,49,58,69]) mixed (rnS n l) (fun k=>k≤l.length∧inlErr n ((l.take k).map (·.1)) (l.drop k)=inlErr n [] l) (fun k=>l.length - k) (0) (GhW.nil 5 5<|(GhW.go [0,1,4,5,24,25,26] (by exact vT) rfl)) ?_ ?_
 ·exact ⟨Nat.zero_le _,rfl⟩
 rintro k ⟨h1,h2⟩
 have hal:(insA (l.take k)).length=k:=by rw [insA_len (l.take k).reverse _ (by simp),List.length_take];omega
 rcases Nat.lt_or_ge k l.length with hk|hk
 ·obtain ⟨x,hx⟩ : ∃x,l[k]? = some x:=⟨_,List.getElem?_eq_getElem hk⟩
  have hsx:=hs x (List.mem_of_getElem? hx)
  have r1:=dWrong_fn n (l.take k) (by rw [List.length_take];omega) x hsx
  rw [drop_at hx,inlErr] at h2
  have hins:insA (l.take (k+1))=insI (cleanI x) (insA (l.take k)):=by rw [take_snoc' hx,insA_snoc]
  have hids:(l.take (k+1)).map (·.1)=(l.take k).map (·.1)++[x.1]:=by rw [take_snoc' hx,List.map_append];rfl
  by_cases hw:wrongD n ((l.take k).map (·.1)) x=0
  ·rw [hw] at r1
   have hw2 : ¬wrongI n x≠0∧x.1∉(l.take k).map (·.1):=by
    unfold wrongD at hw
    split at hw
    ·rename_i h;exact (h hw).elim
    ·rename_i h
     split at hw
     ·cases hw
     ·rename_i h3;exact ⟨h,h3⟩
   rw [if_neg hw2.1,if_neg hw2.2,←hids] at h2
   obtain ⟨a,b,c,d,s⟩:=x
   simp only at hsx
   have r2:=RDecode_fn s (by omega)
   have hrl:=runesAt_len s s.size 0 (by omega)
   have r3:OFn Tryz.prog G0 33 [ruL (runesAt s 0)] [] 0 (sv (txt (runesAt s 0))) []:=REncode_fn (runesAt s 0) (by omega)
   (refine' zg)
   refine elX.is k _ (by omega) hx ?_
   (refine' zg3 r1 r2 r3)
   generalize hout:insA (l.take k)=out at *
   refine vL (lv:=[0,1,4,5,6,7,8,9,10,12,18,22,24,25,26,27,38,46,47,48,49,58,69]) mixed (rnI n l k (a,b,c,d,txt (runesAt s 0)) out) (RnP (a,b,c,d,txt (runesAt s 0)) out) (fun z=>out.length - z.1) ((0,false,[])) (GhW.nil 9 5<|(GhW.go [0,1,4,7,9,10,24,25,26,46,47,48] (by exact vT) rfl)) ?_ ?_
   ·exact ⟨Nat.zero_le _,Nat.zero_le _,rfl⟩
   rintro ⟨i,p,es⟩ ⟨g1,g2,g3⟩
   simp only at g1 g2 g3
   rcases Nat.lt_or_ge i out.length with hi|hi
   ·obtain ⟨y,hy⟩ : ∃y,out[i]? = some y:=⟨_,List.getElem?_eq_getElem hi⟩
    have r4:=aheadB_fn (a,b,c,d,txt (runesAt s 0)) y
    obtain ⟨y1,y2,y3,y4,y5⟩:=y
    rw [drop_at hy] at g3
    cases p with
    | true=>
     (refine' zg)
     refine elX.is i _ (by omega) hy ?_
     (refine' zg1 r4)
     rw [show es.map iyD++[D.agg [iD y1,iD y2,iD y3,iD y4,D.lit (Value.string y5)]]=(es++[(y1,y2,y3,y4,y5)]).map iyD from snoc_iy es (y1,y2,y3,y4,y5),List.length_map]
     refine AgW.go ((i+1,true,es++[(y1,y2,y3,y4,y5)])) [0,1,4,7,9,10,24,25,26,46,47,48] (by exact vT) ?_ ?_
     ·show out.length - (i+1)<out.length - i
      omega
     ·exact ⟨hi,by simp only [List.length_append,List.length_cons,List.length_nil];omega,by rw [←g3];simp⟩
    | false=>
     by_cases hlt:ltB (a,b,c,d,txt (runesAt s 0)) (y1,y2,y3,y4,y5)
     ·rw [decide_eq_true hlt] at r4
      (refine' zg)
      refine elX.is i _ (by omega) hy ?_
      (refine' zg1 r4)
      rw [show es.map iyD++[D.agg [D.lit (Value.int IntKind.i64 a),D.lit (Value.int IntKind.i64 b),D.lit (Value.int IntKind.i64 c),D.lit (Value.int IntKind.i64 d),D.lit (Value.string (txt (runesAt s 0)))]]++[D.agg [iD y1,iD y2,iD y3,iD y4,D.lit (Value.string y5)]]=(es++[(a,b,c,d,txt (runesAt s 0))]++[(y1,y2,y3,y4,y5)]).map iyD by rw [List.map_append,List.map_append];rfl,List.length_map]
      refine AgW.go ((i+1,true,es++[(a,b,c,d,txt (runesAt s 0))]++[(y1,y2,y3,y4,y5)])) [0,1,4,7,9,10,24,25,26,46,47,48] (by exact vT) ?_ ?_
      ·show out.length - (i+1)<out.length - i
       omega
      ·refine ⟨hi,by simp only [List.length_append,List.length_cons,List.length_nil];omega,?_⟩
       rw [←g3]
       simp only [Bool.false_eq_true,if_false,if_true]
       rw [insI,if_pos hlt]
       simp
     ·rw [decide_eq_false hlt] at r4
      (refine' zg)
      refine elX.is i _ (by omega) hy ?_
      (refine' zg1 r4)
      rw [show es.map iyD++[D.agg [iD y1,iD y2,iD y3,iD y4,D.lit (Value.string y5)]]=(es++[(y1,y2,y3,y4,y5)]).map iyD from snoc_iy es (y1,y2,y3,y4,y5),List.length_map]
      refine AgW.go ((i+1,false,es++[(y1,y2,y3,y4,y5)])) [0,1,4,7,9,10,24,25,26,46,47,48] (by exact vT) ?_ ?_
      ·show out.length - (i+1)<out.length - i
       omega
      ·refine ⟨hi,by simp only [List.length_append,List.length_cons,List.length_nil];omega,?_⟩
       rw [←g3]
       simp only [Bool.false_eq_true,if_false]
       rw [insI,if_neg hlt]
       simp
   ·rw [List.drop_of_length_le hi] at g3
    cases p with
    | true=>
     (refine' zg)
     have hfin:es=insA (l.take (k+1)):=by
      rw [hins]
      simp only [if_true,List.append_nil] at g3
      exact g3
     rw [hfin]
     refine AgW.go (k+1) [0,1,4,5,24,25,26] (by exact vT) ?_ ?_
     ·show l.length - (k+1)<l.length - k
      omega
     ·exact ⟨hk,h2⟩
    | false=>
     (refine' zg)
     have hfin:es++[(a,b,c,d,txt (runesAt s 0))]=insA (l.take (k+1)):=by
      rw [hins]
      simp only [Bool.false_eq_true,if_false,insI] at g3
      exact g3
     rw [show es.map iyD++[D.agg [D.lit (Value.int IntKind.i64 a),D.lit (Value.int IntKind.i64 b),D.lit (Value.int IntKind.i64 c),D.lit (Value.int IntKind.i64 d),D.lit (Value.string (txt (runesAt s 0)))]]=(es++[(a,b,c,d,txt (runesAt s 0))]).map iyD from snoc_iy es (a,b,c,d,txt (runesAt s 0)),List.length_map,hfin]
     refine AgW.go (k+1) [0,1,4,5,24,25,26] (by exact vT) ?_ ?_
     ·show l.length - (k+1)<l.length - k
      omega
     ·exact ⟨hk,h2⟩
  ·have h2e:inlErr n [] l=wrongD n ((l.take k).map (·.1)) x:=by
    rw [←h2]
    unfold wrongD at hw ⊢
    by_cases hq:wrongI n x≠0
    ·rw [if_pos hq,if_pos hq]
    ·rw [if_neg hq] at hw ⊢
     rw [if_neg hq]
     by_cases hm:x.1∈(l.take k).map (·.1)
     ·rw [if_pos hm,if_pos hm]
     ·rw [if_neg hm] at hw;exact (hw rfl).elim
   rw [newDV,h2e,if_neg hw]
   generalize wrongD n ((l.take k).map (·.1)) x=e at r1 hw
   obtain ⟨a,b,c,d,s⟩:=x
   (refine' zg)
   refine elX.is k _ (by omega) hx ?_
   (refine' zo1 r1)
 ·obtain rfl:k=l.length:=by omega
  rw [List.drop_length,inlErr] at h2
  rw [rnS,List.take_length]
  (refine' zg)
  rw [newDV,←h2,if_pos rfl]
  refine DoneW.frz 1 (DoneW.out ?_)
  (refine' zg)
end Go.Proofs.YtkhonlnajdfhfaaGreatDoor
