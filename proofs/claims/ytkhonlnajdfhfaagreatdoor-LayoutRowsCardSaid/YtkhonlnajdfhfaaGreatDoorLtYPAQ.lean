/- What the theorem leans on, part 17. -/
import Derived.Test.YtkhonlnajdfhfaaGreatDoorLtYPAO
import Derived.Test.YtkhonlnajdfhfaaGreatDoorLtYPAP
set_option linter.unusedSimpArgs false
set_option linter.unusedVariables false
set_option maxRecDepth 8000
namespace Go.Proofs.YtkhonlnajdfhfaaGreatDoor
def inlD (n:Int) (x:D):D:= .pd 2 [.agg [iD n,x]] 0 0
abbrev txD (t:Option T) (n:Int) (x:D) (h:List Sn):V:= .d (.agg [ropeD t,inlD n x,.sd 2 false (h.map snD)])
theorem iLen_fn (n:Int) (x:D):OFn Tryz.prog G0 54 [.d (inlD n x)] [] 0 (iv n) []:=by
 rw [inlD]
 refine vF mixed [0,2,4] Tryz.func54 rfl Tryz.results54 Tryz.ntmps54 ?_
 (refine' zo)
theorem hidN {h:List Sn} {a:Int} (ha:hidO h a=none) : ∀y∈h,inSp a y=false:=fun y hy=>by
 have:=hidO_none ha y hy
 cases hb:inSp a y with
 | false=>rfl
 | true=>exact (this (inSp_iff.1 hb)).elim
abbrev txC (t:Option T) (n:Int) (x:D) (H:List Sn):Blk:= .cell [.d (ropeD t),.d (inlD n x),.d (.sd 2 false (H.map snD))]
def scS (t:Option T) (n:Int) (x:D) (H:List Sn) (m:Int) (y:Nat × Int):St:=⟨[(1,.po 0 0),(3,iv m),(4,iv y.2),(11,snL H),(12,iv H.length),(13,iv y.1)],[(0,txC t n x H)],1⟩
attribute [push_cast] scS.eq_def
def okT' (m n:Int) (H:List Sn):Bool:=rgt m 0 H&&decide (n=m)
section
variable {l:List Int} {ps:List (List Int)} {t:Option T}
set_option maxHeartbeats 1600000 in
theorem sCheck_fn (R:Rp l ps t) (n:Int) (x:D) (H:List Sn) (hl:H.length≤1000000):OFn Tryz.prog G0 25 [txD t n x H] [] 0 (iv (if okT' l.length n H=true then 0 else 4)) []:=by
 have r1:=Runes_fn R
 have r2:=iLen_fn n x
 refine vF mixed [0,1,2,3,4,6,11,12,13,14,33,41] Tryz.func25 rfl Tryz.results25 Tryz.ntmps25 ?_
 (refine' zg1 r1)
 refine vL (lv:=[0,1,2,3,4,6,11,12,13,14,33,41]) mixed (scS t n x H l.length) (fun y=>y.1≤H.length∧rgt l.length y.2 (H.drop y.1)=rgt l.length 0 H) (fun y=>H.length - y.1) ((0,0)) ((GhW.go [1,3,4,11,12,13] (by exact vT) rfl)) ?_ ?_
 ·exact ⟨Nat.zero_le _,rfl⟩
 rintro ⟨i,last⟩ ⟨h1,h2⟩
 simp only at h1 h2
 (refine' zg1 r2)
 ·refine elX.intro fun y hy =>?_
  have hd:=drop_is hy
  rw [hd] at h2
  (refine' zg)
  ·have:okT' l.length n H=false:=by
    rw [okT',←h2]
    cases hr:rgt l.length last (y::H.drop (i+1)) with
    | false=>rfl
    | true=>have:=(rgt_cons.1 hr).1;omega
   rw [if_neg (by simp [this])]
   refine DoneW.now [] (by decide) ?_;(refine' zg);first|exact Sub_refl _|exact Sub.cons rfl Sub.nil|exact Sub.cons rfl (Sub.cons rfl Sub.nil)|exact Sub.nil
  ·refine AgW.go ((i+1,y.2)) [1,3,4,11,12,13] (by exact vT) ?_ ?_
   ·show H.length - (i+1)<H.length - i
    omega
   ·refine ⟨by simp only;omega,?_⟩
    rw [←h2]
    simp only
    rw [Bool.eq_iff_iff,rgt_cons]
    constructor
    ·intro h3;exact ⟨by omega,h3⟩
    ·intro h3;exact h3.2
 ·rw [List.drop_of_length_le (by omega)] at h2
  have e:okT' l.length n H=false:=by
   rw [okT',decide_eq_false (by omega),Bool.and_false]
  rw [if_neg (by simp [e])]
  refine DoneW.now [] (by decide) ?_;(refine' zg);first|exact Sub_refl _|exact Sub.cons rfl Sub.nil|exact Sub.cons rfl (Sub.cons rfl Sub.nil)|exact Sub.nil
 ·rw [List.drop_of_length_le (by omega)] at h2
  have e:okT' l.length n H=true:=by
   rw [okT',decide_eq_true (by omega),Bool.and_true,←h2];rfl
  rw [if_pos e]
  refine DoneW.now [] (by decide) ?_;(refine' zg);first|exact Sub_refl _|exact Sub.cons rfl Sub.nil|exact Sub.cons rfl (Sub.cons rfl Sub.nil)|exact Sub.nil
def wnS (t:Option T) (n:Int) (x:D) (H:List Sn) (a:Nat):St:=⟨[(1,iv a),(2,.po 0 0)],[(0,txC t n x H)],1⟩
attribute [push_cast] wnS.eq_def
theorem okT_rgt {m n:Int} {H:List Sn} (h:okT' m n H=true):rgt m 0 H=true∧n=m:=by simpa [okT'] using h
end
def iyS (H:List (Int × Int)) (f:Nat) (a:Int) (i:Nat):St:=⟨[(0,snL H),(1,.fn f [.po 0 0]),(7,iv H.length),(8,iv i)],[(0,.cell [iv a])],1⟩
attribute [push_cast] iyS.eq_def
section
variable {G:Gl} {H:List (Int × Int)} {f:Nat} {a:Int} {p:Int × Int→Bool}
theorem IndexFunc_yesO (hl:H.length≤1000000) (he:entT Tryz.prog f=true) (hc : ∀x∈H,OFn Tryz.prog G f [.d (snD x),.po 0 0] [(0,.cell [iv a])] 1 (bv (p x)) [(0,.cell [iv a])]) (i:Nat) (x:Int × Int) (hx:H[i]? = some x) (hp:p x=true) (hn : ∀(k:Nat) y,k<i→H[k]? = some y→p y=false) :
 OFn Tryz.prog G 124 [snL H,.fn f [.po 0 0]] [(0,.cell [iv a])] 1 (iv i) [(0,.cell [iv a])]:=by
 have hi:=(List.getElem?_eq_some_iff.1 hx).1
 refine vF mixed [0,1,4,5,7,8,9,16] Tryz.func124 rfl Tryz.results124 Tryz.ntmps124 ?_
 (refine' zg)
 refine vL (lv:=[0,1,4,5,7,8,9,16]) mixed (iyS H f a) (fun k=>k≤i) (fun k=>i - k) (0) ((GhW.go [0,1,7,8] (by exact vT) rfl)) ?_ ?_
 ·exact Nat.zero_le _
 intro k hk
 obtain ⟨y,hy⟩ : ∃y,H[k]? = some y:=⟨_,List.getElem?_eq_getElem (by omega)⟩
 have hcy:=hc y (List.mem_of_getElem? hy)
 rcases Nat.lt_or_ge k i with hlt|hge
 ·rw [hn k y hlt hy] at hcy
  (refine' zg)
  refine elX.is k y (by omega) hy ?_
  (repeat' (first|(with_reducible first|exact True.intro|refine vD ?_|refine vG ?_|refine vE ?_)|(with_reducible refine vOd 0 hcy ?_ (he:=he))|refine vR ?_|refine v6 ?_|with_reducible refine vN ?_|((with_reducible first|refine vB (fun h =>?_) (fun h =>?_)|refine vM (fun h =>?_) (fun h =>?_))<;>(first|(exfalso;omega)|skip))))
  refine AgW.go (k+1) [0,1,7,8] (by exact vT) ?_ ?_
  ·show i - (k+1)<i - k
   omega
  ·exact hlt
 ·obtain rfl:k=i:=by omega
  rw [hx] at hy
  injection hy with hy
  subst hy
  rw [hp] at hcy
  (refine' zg)
  refine elX.is k x (by omega) hx ?_
  (repeat' (first|(with_reducible first|exact True.intro|refine vD ?_|refine vG ?_|refine vE ?_)|(with_reducible refine vOd 0 hcy ?_ (he:=he))|refine vR ?_|refine v6 ?_|with_reducible refine vN ?_|((with_reducible first|refine vB (fun h =>?_) (fun h =>?_)|refine vM (fun h =>?_) (fun h =>?_))<;>(first|(exfalso;omega)|skip))))
  refine DoneW.now [] (by decide) ?_;(refine' zg);first|exact Sub_refl _|exact Sub.cons rfl Sub.nil|exact Sub.cons rfl (Sub.cons rfl Sub.nil)|exact Sub.nil
theorem IndexFunc_noO (hl:H.length≤1000000) (he:entT Tryz.prog f=true) (hc : ∀x∈H,OFn Tryz.prog G f [.d (snD x),.po 0 0] [(0,.cell [iv a])] 1 (bv (p x)) [(0,.cell [iv a])]) (hn : ∀x∈H,p x=false) :
 OFn Tryz.prog G 124 [snL H,.fn f [.po 0 0]] [(0,.cell [iv a])] 1 (iv (-1)) [(0,.cell [iv a])]:=by
 refine vF mixed [0,1,4,5,7,8,9,16] Tryz.func124 rfl Tryz.results124 Tryz.ntmps124 ?_
 (refine' zg)
 refine vL (lv:=[0,1,4,5,7,8,9,16]) mixed (iyS H f a) (fun k=>k≤H.length) (fun k=>H.length - k) (0) ((GhW.go [0,1,7,8] (by exact vT) rfl)) ?_ ?_
 ·exact Nat.zero_le _
 intro k hk
 (refine' zg)
 ·refine elX.intro fun y hy =>?_
  have hcy:=hc y (List.mem_of_getElem? hy)
  rw [hn y (List.mem_of_getElem? hy)] at hcy
  (repeat' (first|(with_reducible first|exact True.intro|refine vD ?_|refine vG ?_|refine vE ?_)|(with_reducible refine vOd 0 hcy ?_ (he:=he))|refine vR ?_|refine v6 ?_|with_reducible refine vN ?_|((with_reducible first|refine vB (fun h =>?_) (fun h =>?_)|refine vM (fun h =>?_) (fun h =>?_))<;>(first|(exfalso;omega)|skip))))
  refine AgW.go (k+1) [0,1,7,8] (by exact vT) ?_ ?_
  ·show H.length - (k+1)<H.length - k
   omega
  ·show k+1≤H.length
   omega
 ·refine DoneW.now [] (by decide) ?_;(refine' zg);first|exact Sub_refl _|exact Sub.cons rfl Sub.nil|exact Sub.cons rfl (Sub.cons rfl Sub.nil)|exact Sub.nil
end
theorem end1_fn (x:Sn) (a:Int):OFn Tryz.prog G0 125 [.d (snD x),.po 0 0] [(0,.cell [iv a])] 1 (bv (inSp (a - 1) x)) [(0,.cell [iv a])]:=by
 have e:(decide (x.1<a)&&decide (a≤x.2))=inSp (a - 1) x:=by
  unfold inSp
  rw [Bool.eq_iff_iff]
  simp only [Bool.and_eq_true,decide_eq_true_eq]
  omega
 rw [←e]
 refine vF mixed [0,1,2,3] Tryz.func125 rfl Tryz.results125 Tryz.ntmps125 ?_
 (refine' zg)
 all_goals (refine DoneW.now [] (by decide) ?_;(refine' zg);first|exact Sub_refl _|exact Sub.cons rfl Sub.nil|exact Sub.cons rfl (Sub.cons rfl Sub.nil)|exact Sub.nil)
section
variable {l:List Int} {ps:List (List Int)} {t:Option T}
set_option maxHeartbeats 1600000 in
theorem end_fn (R:Rp l ps t) (n:Int) (x:D) (H:List Sn) (hl:H.length≤1000000) (hr:rgt l.length 0 H=true) (a:Nat) (ha:a≤l.length):OFn Tryz.prog G0 76 [txD t n x H,iv a] [] 0 (iv (endP l H a)) []:=by
 have hlen:=R.len
 have r0:=Runes_fn R
 refine vF mixed [0,1,2,4,5,7,8,9,26,35] Tryz.func76 rfl Tryz.results76 Tryz.ntmps76 ?_
 (refine' zg)
 refine vL (lv:=[0,1,2,4,5,7,8,9,26,35]) mixed (wnS t n x H) (fun i=>i≤l.length∧endP l H i=endP l H a) (fun i=>l.length - i) (a) ((GhW.go [1,2] (by exact vT) rfl)) ?_ ?_
 ·exact ⟨ha,rfl⟩
 rintro i ⟨h1,h2⟩
 have r2:=Ahead_fn R i h1
 have hk:=brkN_take_le l i
 have hkl:=brkN_le l
 by_cases hb:brkN (l.take i)<brkN l
 ·have r3:=Behind_fn R (brkN (l.take i)+1) hb
  obtain ⟨g1,g2⟩:=beh_next l i h1 hb
  have g3:=(List.getElem?_eq_some_iff.1 g2).1
  rw [g1] at r3
  have ec:(i:Int)+(toB (l.drop i):Int)+1 - 1=((i+toB (l.drop i):Nat):Int):=by omega
  have ec2:((i+toB (l.drop i)+1:Nat):Int)=(i:Int)+(toB (l.drop i):Int)+1:=by omega
  have ec1:((brkN (l.take i)+1:Nat):Int)=(brkN (l.take i):Int)+1:=by omega
  rw [ec1,ec2] at r3
  cases ho:hidO H ((i+toB (l.drop i):Nat):Int) with
  | none=>
   have r4:=IndexFunc_noO (G:=G0) (H:=H) (f:=125) (a:=(i:Int)+(toB (l.drop i):Int)+1) (p:=inSp ((i:Int)+(toB (l.drop i):Int)+1 - 1)) hl (by kernel_rfl) (fun y _=>end1_fn y _) (hidN (by rw [ec];exact ho))
   rw [←h2,endP_here h1 hb ho]
   (refine' zg2 r2 r3)
   refine vOd 69 r4 ?_
   (repeat' (first|(with_reducible first|exact True.intro|refine vD ?_|refine vG ?_|refine vE ?_)|(simp -implicitDefEqProofs -dsimp only [ec])|refine vR ?_|refine v6 ?_|with_reducible refine vN ?_|((with_reducible first|refine vB (fun h =>?_) (fun h =>?_)|refine vM (fun h =>?_) (fun h =>?_))<;>(first|(exfalso;omega)|skip))))
   refine DoneW.now [] (by decide) ?_;(refine' zg);first|exact Sub_refl _|exact Sub.cons rfl Sub.nil|exact Sub.cons rfl (Sub.cons rfl Sub.nil)|exact Sub.nil
  | some y=>
   obtain ⟨j',q1,q2,q3⟩:=find_idx ho
   have r4:=IndexFunc_yesO (G:=G0) (H:=H) (f:=125) (a:=(i:Int)+(toB (l.drop i):Int)+1) (p:=inSp ((i:Int)+(toB (l.drop i):Int)+1 - 1)) hl (by kernel_rfl) (fun y _=>end1_fn y _) j' y q1 (by rw [ec];exact q2) (by rw [ec];exact q3)
   have hm:=hidO_some ho
   have hy:=rgt_mem hr y hm.1
   obtain ⟨j,hj⟩ : ∃j:Nat,y.2=j:=⟨y.2.toNat,by omega⟩
   have ho':=endP_over hr h1 ho hj
   have hj':=(List.getElem?_eq_some_iff.1 q1).1
   (refine' zg2 r2 r3)
   refine vOd 69 r4 ?_
   (refine' zg)
   refine elX.is j' y (by omega) q1 ?_
   (refine' zg)
   rw [hj]
   refine AgW.go (j) [1,2] (by exact vT) ?_ ?_
   ·show l.length - j<l.length - i
    omega
   ·exact ⟨by omega,by rw [←ho',h2]⟩
 ·have r3:=Behind_bad R ((brkN (l.take i):Int)+1) (by omega)
  rw [←h2,endP_last h1 hb]
  (refine' zo3 r0 r2 r3)
end
abbrev Iy:=Int × Int × Int × Int × ByteArray
abbrev iyD (x:Iy):D:= .agg [iD x.1,iD x.2.1,iD x.2.2.1,iD x.2.2.2.1,.lit (.string x.2.2.2.2)]
abbrev iyR (l:List Iy):Blk:= .row 5 (l.map iyD)
def inlL (L:List Iy):D:=match L with
 | []=>nilSD
 | _=> .sd 5 false (L.map iyD)
section
variable {G:Gl}
theorem iClone_nil:OFn Tryz.prog G 192 [.d nilSD] [] 0 (.d nilSD) []:=by
 refine vF mixed [0,2,4] Tryz.func192 rfl Tryz.results192 Tryz.ntmps192 ?_
 (refine' zo)
theorem iClone_fn (l:List Iy) (hl:0<l.length) (hl2:l.length≤100000):OFn Tryz.prog G 192 [.d (.sd 5 false (l.map iyD))] [] 0 (.so 0 5 0 l.length) [(0,iyR l)]:=by
 rcases l with _|⟨x,r⟩
 ·simp at hl
 simp only [List.map_cons]
 have hr:r.length≤100000:=by simp at hl2;omega
 refine vF mixed [0,2,4] Tryz.func192 rfl Tryz.results192 Tryz.ntmps192 ?_
 (refine' zg)
 refine DoneW.now [20] (by decide) ?_
 (refine' zg)
 exact Sub_refl _
theorem iAll_nil (n:Int):OFn Tryz.prog G 170 [.d (inlD n nilSD)] [] 0 (.d nilSD) []:=by
 rw [inlD]
 refine vF mixed [0,2,4] Tryz.func170 rfl Tryz.results170 Tryz.ntmps170 ?_
 (refine' zo1 iClone_nil)
theorem iAll_fn (n:Int) (l:List Iy) (hl:0<l.length) (hl2:l.length≤100000):OFn Tryz.prog G 170 [.d (inlD n (.sd 5 false (l.map iyD)))] [] 0 (.so 0 5 0 l.length) [(0,iyR l)]:=by
 rw [inlD]
 have r1:=iClone_fn (G:=G) l hl hl2
 refine vF mixed [0,2,4] Tryz.func170 rfl Tryz.results170 Tryz.ntmps170 ?_
 (refine' zgK r1)
 refine DoneW.now [28] (by decide) ?_;(refine' zg);first|exact Sub_refl _|exact Sub.cons rfl Sub.nil|exact Sub.cons rfl (Sub.cons rfl Sub.nil)|exact Sub.nil
def ibS (L:List Iy) (F:D) (i:Nat):St:=⟨[(0,.so 0 5 0 L.length),(1,.d F),(7,iv L.length),(8,iv i)],[(0,iyR L)],1⟩
attribute [push_cast] ibS.eq_def
variable {L:List Iy} {f:Nat} {caps:List D} {p:Iy→Bool}
theorem iIndex_yes (hl:L.length≤1000000) (he:entT Tryz.prog f=true) (hc : ∀x∈L,OFn Tryz.prog G f (.d (iyD x)::caps.map .d) [] 0 (bv (p x)) []) (i:Nat) (x:Iy) (hx:L[i]? = some x) (hp:p x=true) (hn : ∀(k:Nat) y,k<i→L[k]? = some y→p y=false) :
 OFn Tryz.prog G 191 [.so 0 5 0 L.length,.d (.fn f caps)] [(0,iyR L)] 1 (iv i) [(0,iyR L)]:=by
 have hi:=(List.getElem?_eq_some_iff.1 hx).1
 refine vF mixed [0,1,4,5,7,8,9,16] Tryz.func191 rfl Tryz.results191 Tryz.ntmps191 ?_
 (refine' zg)
 refine vL (lv:=[0,1,4,5,7,8,9,16]) mixed (ibS L (.fn f caps)) (fun k=>k≤i) (fun k=>i - k) (0) ((GhW.go [0,1,7,8] (by exact vT) rfl)) ?_ ?_
 ·exact Nat.zero_le _
 intro k hk
 obtain ⟨y,hy⟩ : ∃y,L[k]? = some y:=⟨_,List.getElem?_eq_getElem (by omega)⟩
 have hcy:=hc y (List.mem_of_getElem? hy)
 rcases Nat.lt_or_ge k i with hlt|hge
 ·rw [hn k y hlt hy] at hcy
  (refine' zg)
  refine elX.is k y (by omega) hy ?_
  (repeat' (first|(with_reducible first|exact True.intro|refine vD ?_|refine vG ?_|refine vE ?_)|(with_reducible refine vC hcy ?_ he (sel_ds (iyD y::caps)) rfl)|refine vR ?_|refine v6 ?_|with_reducible refine vN ?_|((with_reducible first|refine vB (fun h =>?_) (fun h =>?_)|refine vM (fun h =>?_) (fun h =>?_))<;>(first|(exfalso;omega)|skip))))
  refine AgW.go (k+1) [0,1,7,8] (by exact vT) ?_ ?_
  ·show i - (k+1)<i - k
   omega
  ·exact hlt
 ·obtain rfl:k=i:=by omega
  rw [hx] at hy
  injection hy with hy
  subst hy
  rw [hp] at hcy
  (refine' zg)
  refine elX.is k x (by omega) hx ?_
  (repeat' (first|(with_reducible first|exact True.intro|refine vD ?_|refine vG ?_|refine vE ?_)|(with_reducible refine vC hcy ?_ he (sel_ds (iyD x::caps)) rfl)|refine vR ?_|refine v6 ?_|with_reducible refine vN ?_|((with_reducible first|refine vB (fun h =>?_) (fun h =>?_)|refine vM (fun h =>?_) (fun h =>?_))<;>(first|(exfalso;omega)|skip))))
  refine DoneW.now [] (by decide) ?_;(refine' zg);first|exact Sub_refl _|exact Sub.cons rfl Sub.nil|exact Sub.cons rfl (Sub.cons rfl Sub.nil)|exact Sub.nil
theorem iIndex_no (hl:L.length≤1000000) (he:entT Tryz.prog f=true) (hc : ∀x∈L,OFn Tryz.prog G f (.d (iyD x)::caps.map .d) [] 0 (bv (p x)) []) (hn : ∀x∈L,p x=false) :
 OFn Tryz.prog G 191 [.so 0 5 0 L.length,.d (.fn f caps)] [(0,iyR L)] 1 (iv (-1)) [(0,iyR L)]:=by
 refine vF mixed [0,1,4,5,7,8,9,16] Tryz.func191 rfl Tryz.results191 Tryz.ntmps191 ?_
 (refine' zg)
 refine vL (lv:=[0,1,4,5,7,8,9,16]) mixed (ibS L (.fn f caps)) (fun k=>k≤L.length) (fun k=>L.length - k) (0) ((GhW.go [0,1,7,8] (by exact vT) rfl)) ?_ ?_
 ·exact Nat.zero_le _
 intro k hk
 (refine' zg)
 ·refine elX.intro fun y hy =>?_
  have hcy:=hc y (List.mem_of_getElem? hy)
  rw [hn y (List.mem_of_getElem? hy)] at hcy
  (repeat' (first|(with_reducible first|exact True.intro|refine vD ?_|refine vG ?_|refine vE ?_)|(with_reducible refine vC hcy ?_ he (sel_ds (iyD y::caps)) rfl)|refine vR ?_|refine v6 ?_|with_reducible refine vN ?_|((with_reducible first|refine vB (fun h =>?_) (fun h =>?_)|refine vM (fun h =>?_) (fun h =>?_))<;>(first|(exfalso;omega)|skip))))
  refine AgW.go (k+1) [0,1,7,8] (by exact vT) ?_ ?_
  ·show L.length - (k+1)<L.length - k
   omega
  ·show k+1≤L.length
   omega
 ·refine DoneW.now [] (by decide) ?_;(refine' zg);first|exact Sub_refl _|exact Sub.cons rfl Sub.nil|exact Sub.cons rfl (Sub.cons rfl Sub.nil)|exact Sub.nil
end
theorem within1_fn (x:Iy) (a b:Int):OFn Tryz.prog G0 171 [.d (iyD x),.d (boxD a),.d (boxD b)] [] 0 (bv (decide (x.2.1<a)||decide (b<x.2.1))) []:=by
 refine vF mixed [0,1,2,3,4] Tryz.func171 rfl Tryz.results171 Tryz.ntmps171 ?_
 (refine' zo)
def deS (N:Nat) (F:D) (x:Nat × Nat × List Iy):St:=⟨[(0,.so 0 5 0 N),(1,.d F),(5,iv x.1),(6,iv x.2.1)],[(0,iyR x.2.2)],1⟩
attribute [push_cast] deS.eq_def
section
variable {G:Gl} {L:List Iy} {f:Nat} {caps:List D} {p:Iy→Bool}
abbrev keepP (p:Iy→Bool) (l:List Iy):List Iy:=l.filter fun x=> !p x
theorem filter_head {L:List Iy} {i:Nat} {x:Iy} (hx:L[i]? = some x) (hp:p x=true) (hn : ∀(k:Nat) y,k<i→L[k]? = some y→p y=false):keepP p (L.take (i+1))=L.take i:=by
 rw [keepP,take_snoc' hx,List.filter_append]
 have e1:(L.take i).filter (fun x=> !p x)=L.take i:=by
  rw [List.filter_eq_self]
  intro y hy
  obtain ⟨k,hk⟩:=List.getElem?_of_mem hy
  rw [List.getElem?_take] at hk
  split at hk
  ·rename_i hki
   simp [hn k y hki hk]
  ·cases hk
 rw [e1];simp [hp]
set_option maxHeartbeats 1600000 in
theorem iDelete_fn (hl:L.length≤1000000) (he:entT Tryz.prog f=true) (hc : ∀x∈L,OFn Tryz.prog G f (.d (iyD x)::caps.map .d) [] 0 (bv (p x)) []) :
 OFn Tryz.prog G 169 [.so 0 5 0 L.length,.d (.fn f caps)] [(0,iyR L)] 1 (.so 0 5 0 (keepP p L).length) [(0,iyR (keepP p L))]:=by
 cases hf:L.find? p with
 | none=>
  have hno : ∀x∈L,p x=false:=fun x hx=>by simpa using List.find?_eq_none.1 hf x hx
  have r1:=iIndex_no (G:=G) hl he hc hno
  have e:keepP p L=L:=List.filter_eq_self.2 fun x hx=>by simp [hno x hx]
  rw [e]
  refine vF mixed [0,1,4,5,6,7,12,19,29] Tryz.func169 rfl Tryz.results169 Tryz.ntmps169 ?_
  (refine' zg)
  refine vOd 0 r1 ?_
  (refine' zg)
  refine DoneW.now [] (by decide) ?_;(refine' zg);first|exact Sub_refl _|exact Sub.cons rfl Sub.nil|exact Sub.cons rfl (Sub.cons rfl Sub.nil)|exact Sub.nil
 | some x=>
  obtain ⟨i,hx,hp,hn⟩:=find_idx hf
  have r1:=iIndex_yes (G:=G) hl he hc i x hx hp hn
  have hi:=(List.getElem?_eq_some_iff.1 hx).1
  have hfh:=filter_head hx hp hn
  refine vF mixed [0,1,4,5,6,7,12,19,29] Tryz.func169 rfl Tryz.results169 Tryz.ntmps169 ?_
  (refine' zg)
  refine vOd 0 r1 ?_
  (refine' zg)
  refine vL (lv:=[0,1,4,5,6,7,12,19,29]) mixed (deS L.length (.fn f caps)) (fun x=>x.2.2.length=L.length∧x.1<x.2.1∧x.2.1≤L.length∧x.1=(keepP p (L.take x.2.1)).length∧x.2.2.take x.1=keepP p (L.take x.2.1)∧x.2.2.drop x.2.1=L.drop x.2.1) (fun x=>L.length - x.2.1) ((i,i+1,L)) ((GhW.go [0,1,5,6] (by exact vT) rfl)) ?_ ?_
  ·exact ⟨rfl,Nat.lt_succ_self _,hi,by rw [hfh,List.length_take];omega,hfh.symm,rfl⟩
  rintro ⟨a,b,es⟩ ⟨h1,h2,h3,h4,h5,h6⟩
  simp only at h1 h2 h3 h4 h5 h6
  rcases Nat.lt_or_ge b L.length with hb|hb
  ·obtain ⟨y,hy⟩ : ∃y,L[b]? = some y:=⟨_,List.getElem?_eq_getElem hb⟩
   have hcy:=hc y (List.mem_of_getElem? hy)
   have hye:es[b]? = some y:=by
    have g1:(es.drop b)[0]? = es[b]? :=by rw [List.getElem?_drop];rfl
    have g2:(L.drop b)[0]? = L[b]? :=by rw [List.getElem?_drop];rfl
    rw [←g1,h6,g2,hy]
   have hd:es.drop (b+1)=L.drop (b+1):=by rw [←List.drop_drop,h6,List.drop_drop]
   cases hpy:p y with
   | true=>
    rw [hpy] at hcy
    have hk:keepP p (L.take (b+1))=keepP p (L.take b):=by rw [keepP,take_snoc' hy,List.filter_append];simp [hpy]
    (refine' zg)
    refine elX.is b y (by omega) hye ?_
    (repeat' (first|(with_reducible first|exact True.intro|refine vD ?_|refine vG ?_|refine vE ?_)|(with_reducible refine vC hcy ?_ he (sel_ds (iyD y::caps)) rfl)|refine vR ?_|refine v6 ?_|with_reducible refine vN ?_|((with_reducible first|refine vB (fun h =>?_) (fun h =>?_)|refine vM (fun h =>?_) (fun h =>?_))<;>(first|(exfalso;omega)|skip))))
    refine AgW.go ((a,b+1,es)) [0,1,5,6] (by exact vT) ?_ ?_
    ·show L.length - (b+1)<L.length - b
     omega
    ·exact ⟨h1,by simp only;omega,hb,by simp only;rw [hk];exact h4,by simp only;rw [hk];exact h5,hd⟩
   | false=>
    rw [hpy] at hcy
    have hk:keepP p (L.take (b+1))=keepP p (L.take b)++[y]:=by rw [keepP,take_snoc' hy,List.filter_append];simp [hpy]
    (refine' zg)
    refine elX.is b y (by omega) hye ?_
    (repeat' (first|(with_reducible first|exact True.intro|refine vD ?_|refine vG ?_|refine vE ?_)|(with_reducible refine vC hcy ?_ he (sel_ds (iyD y::caps)) rfl)|refine vR ?_|refine v6 ?_|with_reducible refine vN ?_|((with_reducible first|refine vB (fun h =>?_) (fun h =>?_)|refine vM (fun h =>?_) (fun h =>?_))<;>(first|(exfalso;omega)|skip))))
    rw [show (es.map iyD).set a (iyD y)=(es.set a y).map iyD from List.map_set.symm]
    refine AgW.go ((a+1,b+1,es.set a y)) [0,1,5,6] (by exact vT) ?_ ?_
    ·show L.length - (b+1)<L.length - b
     omega
    ·refine ⟨by simp only [List.length_set];exact h1,by simp only;omega,hb,by simp only;rw [hk,List.length_append,←h4];rfl,?_,?_⟩
     ·simp only
      rw [hk,←h5]
      have ha:(es.set a y)[a]? = some y:=by rw [List.getElem?_set_self (by omega)]
      rw [take_snoc' ha,List.take_set_of_le (Nat.le_refl _)]
     ·simp only
      rw [List.drop_set_of_lt (by omega),hd]
  ·have hbe:b=L.length:=by omega
   rw [hbe,List.take_of_length_le (Nat.le_refl _)] at h4 h5
   (refine' zg)
   rw [Nat.sub_zero,h4] at *
   rw [h5]
   refine DoneW.now [] (by decide) ?_;(refine' zg);first|exact Sub_refl _|exact Sub.cons rfl Sub.nil|exact Sub.cons rfl (Sub.cons rfl Sub.nil)|exact Sub.nil
def ibN (F:D):St:=⟨[(0,.d nilSD),(1,.d F),(7,iv 0),(8,iv 0)],[],0⟩
attribute [push_cast] ibN.eq_def
theorem iIndex_nil (F:D):OFn Tryz.prog G 191 [.d nilSD,.d F] [] 0 (iv (-1)) []:=by
 refine vF mixed [0,1,4,5,7,8,9,16] Tryz.func191 rfl Tryz.results191 Tryz.ntmps191 ?_
 (refine' zg)
 refine vL (lv:=[0,1,4,5,7,8,9,16]) mixed (fun _:Unit=>ibN F) (fun _=>True) (fun _=>0) (()) ((GhW.go [0,1,7,8] (by exact vT) rfl)) ?_ ?_
 ·trivial
 rintro ⟨⟩ -
 (refine' zo)
theorem iDelete_nil (F:D):OFn Tryz.prog G 169 [.d nilSD,.d F] [] 0 (.d nilSD) []:=by
 refine vF mixed [0,1,4,5,6,7,12,19,29] Tryz.func169 rfl Tryz.results169 Tryz.ntmps169 ?_
 (refine' zo1 (iIndex_nil F))
theorem iWithin_nil (n a b:Int):OFn Tryz.prog G0 129 [.d (inlD n nilSD),iv a,iv b] [] 0 (.d nilSD) []:=by
 have r1:=iAll_nil (G:=G0) n
 refine vF mixed [0,1,2,4,5,6] Tryz.func129 rfl Tryz.results129 Tryz.ntmps129 ?_
 (refine' zg1 r1)
 refine CallW.frz 0 rfl ?_
 (refine' zg)
 refine CallW.frz 4 rfl ?_
 (repeat' (first|(with_reducible first|exact True.intro|refine vD ?_|refine vG ?_|refine vE ?_)|with_reducible refine vC (iDelete_nil _) ?_|with_reducible refine DoneW.out ?_|refine vR ?_|refine v6 ?_|with_reducible refine vN ?_|((with_reducible first|refine vB (fun h =>?_) (fun h =>?_)|refine vM (fun h =>?_) (fun h =>?_))<;>(first|(exfalso;omega)|skip))))
theorem iWithin_fn (n a b:Int) (L:List Iy) (h0:0<L.length) (hl:L.length≤100000):OFn Tryz.prog G0 129 [.d (inlD n (.sd 5 false (L.map iyD))),iv a,iv b] [] 0 (.d (.sd 5 false ((L.filter fun x=> !(decide (x.2.1<a)||decide (b<x.2.1))).map iyD))) []:=by
 have r1:=iAll_fn (G:=G0) n L h0 hl
 have r2:=iDelete_fn (G:=G0) (L:=L) (f:=171) (caps:=[boxD a,boxD b]) (p:=fun x=>decide (x.2.1<a)||decide (b<x.2.1)) (by omega) (by kernel_rfl) (fun x _=>within1_fn x a b)
 refine vF mixed [0,1,2,4,5,6] Tryz.func129 rfl Tryz.results129 Tryz.ntmps129 ?_
 (refine' zgK r1)
 refine CallW.frz 0 rfl ?_
 (refine' zg)
 refine CallW.frz 4 rfl ?_
 (refine' zg)
 refine CallW.put 16 r2 (by kernel_rfl) rfl rfl rfl ?_
 (refine' zg)
 refine DoneW.frz 16 (DoneW.out ?_)
 (refine' zg)
end
end Go.Proofs.YtkhonlnajdfhfaaGreatDoor
