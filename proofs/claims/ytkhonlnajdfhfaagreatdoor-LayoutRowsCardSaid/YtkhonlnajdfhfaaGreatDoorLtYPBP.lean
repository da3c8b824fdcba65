/- What the theorem leans on, part 42. -/
import Derived.Test.YtkhonlnajdfhfaaGreatDoorLtYPBF
set_option linter.unusedSimpArgs false
set_option linter.unusedVariables false
set_option maxRecDepth 8000
namespace Go.Proofs.YtkhonlnajdfhfaaGreatDoor
theorem rBlank_fn (c:Cl):OFn Tryz.prog G0 178 [.d (clD c)] [] 0 (bv (blank c)) []:=by
 obtain ⟨r,k,w,a⟩:=c
 unfold blank
 refine vF mixed [0,1,2] Tryz.func178 rfl Tryz.results178 Tryz.ntmps178 ?_
 (refine' zm00o)
def rwdS (l:List Cl) (i:Nat):St:=⟨[(3,iv (wid (l.take i))),(6,clL l),(7,iv l.length),(8,iv i)],[],0⟩
attribute [push_cast] rwdS.eq_def
theorem rWidth_fn (l:List Cl) (hl:l.length≤100000000) (hw : ∀c∈l,cw c≤2):OFn Tryz.prog G0 60 [clL l] [] 0 (iv (wid l)) []:=by
 refine vF mixed [0,2,3,5,6,7,8,9] Tryz.func60 rfl Tryz.results60 Tryz.ntmps60 ?_
 (refine' zg)
 refine vL (lv:=[0,2,3,5,6,7,8,9]) mixed (rwdS l) (fun i=>i≤l.length) (fun i=>l.length - i) (0) ((GhW.go [3,6,7,8] (by exact vT) rfl)) ?_ ?_
 ·exact Nat.zero_le _
 intro i hi
 rcases Nat.lt_or_ge i l.length with hk|hk
 ·obtain ⟨c,hc⟩ : ∃c,l[i]? = some c:=⟨_,List.getElem?_eq_getElem hk⟩
  have e:=wid_take l hc
  have h2:=hw c (List.mem_of_getElem? hc)
  have h3:=wid_le (l:=l.take i) (fun x hx=>hw x (List.mem_of_mem_take hx))
  rw [List.length_take] at h3
  obtain ⟨r,k,w,a⟩:=c
  simp only [cw] at e h2
  (refine' zgE hc)
  rw [show ((wid (l.take i):Nat):Int)+(w:Int)=(wid (l.take (i+1)):Nat) by omega]
  refine AgW.go (i+1) [3,6,7,8] (by exact vT) ?_ ?_
  ·show l.length - (i+1)<l.length - i
   omega
  ·show i+1≤l.length
   omega
 ·obtain rfl:i=l.length:=by omega
  rw [rwdS,List.take_length]
  (refine' zo)
def rinD (l:List Cl) (i:Nat):St:=⟨[(0,clL l),(3,iv i)],[],0⟩
attribute [push_cast] rinD.eq_def
set_option maxHeartbeats 1600000 in
theorem rIndent_fn (l:List Cl) (h:ClOk l):OFn Tryz.prog G0 141 [clL l] [] 0 (iv (indent l)) []:=by
 have hll:=h.len
 unfold indent
 refine vF mixed [0,2,3,4,15,23] Tryz.func141 rfl Tryz.results141 Tryz.ntmps141 ?_
 (refine' zg)
 refine vL (lv:=[0,2,3,4,15,23]) mixed (rinD l) (fun i=>i≤l.length ∧ ∀(j:Nat) x,j<i→l[j]? = some x→blank x=true) (fun i=>l.length - i) (0) ((GhW.go [0,3] (by exact vT) rfl)) ?_ ?_
 ·exact ⟨Nat.zero_le _,fun j x hj=>by omega⟩
 rintro i ⟨h1,h2⟩
 have fin:(∀x,l[i]? = some x→blank x=false)→l.takeWhile blank=l.take i:=fun hx=>tw_at h1 h2 hx
 have r2:=rWidth_fn (l.take i) (by rw [List.length_take];omega) (fun x hx=>h.wd x (List.mem_of_mem_take hx))
 have r2':OFn Tryz.prog G0 60 [.d (.sd 4 false ((l.map clD).take i))] [] 0 (iv (wid (l.take i))) []:=by rw [←List.map_take];exact r2
 rcases Nat.lt_or_ge i l.length with hk|hk
 ·obtain ⟨c,hc⟩ : ∃c,l[i]? = some c:=⟨_,List.getElem?_eq_getElem hk⟩
  have r1:=rBlank_fn c
  have g3:=fun hb=>snoc_lt h2 hc hb
  have g4:blank c=false→l.takeWhile blank=l.take i:=fun hb=>fin (fun x hx=>by rw [hc] at hx;injection hx with hx;subst hx;exact hb)
  obtain ⟨r,k,w,a⟩:=c
  cases hbl:blank (r,k,w,a) with
  | false=>
   rw [hbl] at r1
   rw [g4 hbl]
   (refine' zm21o r1 r2' hc)
   all_goals (congr 1;omega)
  | true=>
   rw [hbl] at r1
   (refine' zm11 r1 hc)
   refine AgW.go (i+1) [0,3] (by exact vT) ?_ ?_
   ·show l.length - (i+1)<l.length - i
    omega
   ·exact ⟨hk,g3 hbl⟩
 ·rw [fin (fun x hx=>by rw [List.getElem?_eq_none hk] at hx;cases hx)]
  (refine' zo1 r2')
  all_goals (congr 1;omega)
theorem rbndy_fn (l:List Cl) (h:ClOk l) (n:Nat) (hn:n≤l.length):OFn Tryz.prog G0 180 [clL l,iv n] [] 0 (bv (bndy l n)) []:=by
 have hll:=h.len
 unfold bndy
 by_cases h0:0<n∧n<l.length
 ·obtain ⟨c,hc⟩ : ∃c,l[n - 1]? = some c:=⟨_,List.getElem?_eq_getElem (by omega)⟩
  obtain ⟨d,hd⟩ : ∃d,l[n]? = some d:=⟨_,List.getElem?_eq_getElem (by omega)⟩
  have r1:=rBlank_fn c
  have r2:=rBlank_fn d
  rw [hc,hd,decide_eq_true h0.1]
  simp only [Bool.true_and]
  obtain ⟨r,k,w,a⟩:=c
  obtain ⟨r',k',w',a'⟩:=d
  generalize blank (r,k,w,a)=b1 at *
  generalize blank (r',k',w',a')=b2 at *
  refine vF mixed [0,1,4] Tryz.func180 rfl Tryz.results180 Tryz.ntmps180 ?_
  cases b1
  all_goals cases b2
  all_goals
   (refine' zm22o r1 r2 hc hd)
  all_goals (congr 1;rw [Bool.eq_iff_iff];simp [cw])
 ·refine vF mixed [0,1,4] Tryz.func180 rfl Tryz.results180 Tryz.ntmps180 ?_
  (refine' zo)
  ·rw [List.getElem?_eq_none (show l.length≤n by omega)]
   cases l[n - 1]? <;> simp
  ·rw [decide_eq_false (by omega)]
   rfl
def rfi1 (l:List Cl) (room:Int) (n:Nat):St:=⟨[(0,clL l),(1,iv room),(5,iv n)],[],0⟩
def rfi2 (l:List Cl) (n:Nat):St:=⟨[(0,clL l),(5,iv n)],[],0⟩
attribute [push_cast] rfi1.eq_def rfi2.eq_def
set_option maxHeartbeats 1600000 in
theorem rfit_fn (l:List Cl) (h:ClOk l) (h0:l≠[]) (room:Int) (hr : -1000≤room∧room≤1000):OFn Tryz.prog G0 179 [clL l,iv room] [] 0 (iv (fitN l room)) []:=by
 have hll:=h.len
 have hl0:=List.length_pos_iff.2 h0
 have hwd:=wid_le h.wd
 refine vF mixed [0,1,4,5,18,22,34] Tryz.func179 rfl Tryz.results179 Tryz.ntmps179 ?_
 (refine' zg)
 refine vL (lv:=[0,1,4,5,18,22,34]) mixed (rfi1 l room) (fun n=>n≤l.length ∧ ∀j,j<n→(wid (l.take (j+1)):Int)≤room) (fun n=>l.length - n) (0) ((GhW.go [0,1,5] (by exact vT) rfl)) ?_ ?_
 ·exact ⟨Nat.zero_le _,fun j hj=>by omega⟩
 rintro n ⟨h1,h2⟩
 have hmo:=wid_mono l h1
 rw [List.take_length] at hmo
 have fin:(∀c,l[n]? = some c→room<wid (l.take n)+cw c)→fitG room l 0=n:=fun hx=>fitG_at room l 0 n h1 (fun j hj=>by have:=h2 j hj;omega) (fun c hc=>by have:=hx c hc;omega)
 rcases Nat.lt_or_ge n l.length with hk|hk
 ·obtain ⟨c,hc⟩ : ∃c,l[n]? = some c:=⟨_,List.getElem?_eq_getElem hk⟩
  have e:=wid_take l hc
  have h3:=h.wd c (List.mem_of_getElem? hc)
  have hcw : ∀x,l[n]? = some x→cw x=cw c:=fun x hx=>by rw [hc] at hx;injection hx with hx;rw [hx]
  have r1:=rWidth_fn (l.take (n+1)) (by rw [List.length_take];omega) (fun x hx=>h.wd x (List.mem_of_mem_take hx))
  have r2:OFn Tryz.prog G0 60 [.d (.sd 4 false ((l.map clD).take ((n:Int)+1).toNat))] [] 0 (iv (wid (l.take (n+1)))) []:=by rw [show ((n:Int)+1).toNat=n+1 by omega,←List.map_take];exact r1
  have r2z:n=0→OFn Tryz.prog G0 60 [.d (.sd 4 false ((l.map clD).take 1))] [] 0 (iv (wid (l.take 1))) []:=fun e=>by rw [←List.map_take];rw [e] at r1;exact r1
  by_cases hf:(wid (l.take (n+1)):Int)≤room
  ·(refine' zm10 r2)
   refine AgW.go (n+1) [0,1,5] (by exact vT) ?_ ?_
   ·show l.length - (n+1)<l.length - n
    omega
   ·refine ⟨hk,fun j hj =>?_⟩
    by_cases ej:j=n
    ·subst ej;exact hf
    ·exact h2 j (by omega)
  ·rcases Nat.eq_zero_or_pos n with hn|hn
   ·have e3:fitN l room=1+zer (l.drop 1):=by rw [fitN,fin (fun x hx=>by have:=hcw x hx;omega),if_pos hn]
    rw [e3]
    have r5:=r2z hn
    clear r2z r1 r2
    subst hn
    simp only [Nat.zero_add] at hf
    (refine' zm10 r5)
    clear fin hcw
    refine vL (lv:=[0,1,4,5,18,22,34]) mixed (rfi2 l) (fun m=>1≤m∧m≤l.length ∧ ∀(j:Nat) x,j<m - 1→(l.drop 1)[j]? = some x→(cw x==0)=true) (fun m=>l.length - m) (1) ((GhW.go [0,5] (by exact vT) rfl)) ?_ ?_
    ·exact ⟨Nat.le_refl _,hl0,fun j x hj=>by omega⟩
    rintro m ⟨q1,q2,q3⟩
    rcases Nat.lt_or_ge m l.length with hm|hm
    ·obtain ⟨c',hc'⟩ : ∃c',l[m]? = some c':=⟨_,List.getElem?_eq_getElem hm⟩
     have hd:(l.drop 1)[m - 1]? = some c':=by rw [List.getElem?_drop,show 1+(m - 1)=m by omega];exact hc'
     have e4:cw c'≠0→zer (l.drop 1)=m - 1:=fun hne=>by
      rw [zer,tw_at (i:=m - 1) (by rw [List.length_drop];omega) q3 (fun x hx=>by rw [hd] at hx;injection hx with hx;subst hx;simpa using hne),List.length_take,List.length_drop]
      omega
     have q4:=fun hz=>snoc_lt q3 hd hz
     obtain ⟨r',k',w',a'⟩:=c'
     simp only [cw] at e4 q4
     (refine' zm01o hc')
     ·refine AgW.go (m+1) [0,5] (by exact vT) ?_ ?_
      ·show l.length - (m+1)<l.length - m
       omega
      ·refine ⟨by show 1≤m+1;omega,hm,?_⟩
       have:=q4 (by simp;omega)
       rwa [show m - 1+1=m+1 - 1 by omega] at this
     ·rw [e4 (by omega)]
      congr 1;omega
    ·have e4:zer (l.drop 1)=m - 1:=by
      rw [zer,tw_at (i:=m - 1) (by rw [List.length_drop];omega) q3 (fun x hx=>by rw [List.getElem?_eq_none (by rw [List.length_drop];omega)] at hx;cases hx),List.length_take,List.length_drop]
      omega
     rw [e4]
     (refine' zo)
     congr 1;omega
   ·rw [fitN,fin (fun x hx=>by have:=hcw x hx;omega),if_neg (by omega)]
    (refine' zm10o r2)
 ·rw [fitN,fin (fun c hc=>by rw [List.getElem?_eq_none hk] at hc;cases hc),if_neg (by omega)]
  (refine' zo)
def rtkS (l:List Cl) (n:Nat) (a:Nat):St:=⟨[(0,clL l),(5,iv n),(6,iv (lstB l a)),(7,iv (a+1))],[],0⟩
attribute [push_cast] rtkS.eq_def
set_option maxHeartbeats 1600000 in
theorem rTakes_fn (l:List Cl) (h:ClOk l) (room:Int) (hr : -1000≤room∧room≤1000):OFn Tryz.prog G0 144 [clL l,iv room] [] 0 (iv (takesN l room)) []:=by
 have hll:=h.len
 by_cases h0:l=[]
 ·subst h0
  show OFn Tryz.prog G0 144 [.d (.sd 4 false []),iv room] [] 0 (iv 0) []
  refine vF mixed [0,1,4,5,6,7,10,17,21,26,29] Tryz.func144 rfl Tryz.results144 Tryz.ntmps144 ?_
  (refine' zo)
 have hl0:=List.length_pos_iff.2 h0
 have r1:=rfit_fn l h h0 room hr
 have hf:=fitN_le (room:=room) h0
 have hp:=fitN_pos l room
 have hb : ∀k,k≤l.length→OFn Tryz.prog G0 180 [clL l,iv k] [] 0 (bv (bndy l k)) []:=fun k hk=>rbndy_fn l h k hk
 unfold takesN
 rw [if_neg h0]
 generalize fitN l room=n at *
 by_cases hn:n=l.length
 ·rw [if_pos hn]
  refine vF mixed [0,1,4,5,6,7,10,17,21,26,29] Tryz.func144 rfl Tryz.results144 Tryz.ntmps144 ?_
  (refine' zo1 r1)
  all_goals (try rw [hn])
 ·rw [if_neg hn]
  refine vF mixed [0,1,4,5,6,7,10,17,21,26,29] Tryz.func144 rfl Tryz.results144 Tryz.ntmps144 ?_
  (refine' zg1 r1)
  refine vL (lv:=[0,1,4,5,6,7,10,17,21,26,29]) mixed (rtkS l n) (fun a=>a≤n) (fun a=>n - a) (0) ((GhW.go [0,5,6,7] (by exact vT) rfl)) ?_ ?_
  ·exact Nat.zero_le _
  intro a g1
  have hba:=lstB_le l a
  rcases Nat.lt_or_ge a n with ha|ha
  ·have r2:=hb (a+1) (by omega)
   have e5:lstB l (a+1)=if bndy l (a+1)=true then a+1 else lstB l a:=by rw [lstB]
   have e6:((a+1:Nat):Int)=(a:Int)+1:=by omega
   rw [e6] at r2
   cases hbk:bndy l (a+1) with
   | true=>
    rw [hbk] at r2 e5
    rw [if_pos rfl] at e5
    (refine' zg1 r2)
    refine AgW.go (a+1) [0,5,6,7] (by rw [rtkS,e5,e6];exact vT) ?_ ?_
    ·show n - (a+1)<n - a
     omega
    ·exact ha
   | false=>
    rw [hbk] at r2 e5
    rw [if_neg (by simp)] at e5
    (refine' zg1 r2)
    refine AgW.go (a+1) [0,5,6,7] (by rw [rtkS,e5,e6];exact vT) ?_ ?_
    ·show n - (a+1)<n - a
     omega
    ·exact ha
  ·obtain rfl:a=n:=by omega
   (refine' zo)
   ·rw [if_pos (by omega)]
   ·rw [if_neg (by omega)]
def rstS (l:List Cl) (room:Int) (n i:Nat):St:=⟨[(0,clL l),(1,iv room),(5,iv n),(15,clL (l.take n)),(16,iv n),(17,iv i)],[],0⟩
attribute [push_cast] rstS.eq_def
set_option maxHeartbeats 1600000 in
theorem rStart_fn (l:List Cl) (h:ClOk l) (room:Int) (hr : -1000≤room∧room≤1000):OFn Tryz.prog G0 143 [clL l,iv room] [] 0 (iv (startN l room)) []:=by
 have hll:=h.len
 have r1:=rTakes_fn l h room hr
 have hf:=takesN_le l room
 have r2:l≠[]→OFn Tryz.prog G0 179 [clL l,iv room] [] 0 (iv (fitN l room)) []:=fun h0=>rfit_fn l h h0 room hr
 have hp:l=[]→takesN l room=0:=fun e=>by rw [takesN,if_pos e]
 have hall : ∀n,(∀(j:Nat) x,j<n→(l.take n)[j]? = some x→blank x=true)→(l.take n).all blank=true:=fun n hx=>by
  rw [List.all_eq_true]
  intro c hc
  obtain ⟨j,hj⟩:=List.getElem?_of_mem hc
  exact hx j c (by have:=(List.getElem?_eq_some_iff.1 hj).1;rw [List.length_take] at this;omega) hj
 unfold startN
 generalize takesN l room=n at *
 rcases Nat.eq_zero_or_pos n with hn0|hn0
 ·subst hn0
  rw [if_neg (fun h=>h.2 rfl)]
  refine vF mixed [0,1,4,5,7,12,15,16,17,18,23] Tryz.func143 rfl Tryz.results143 Tryz.ntmps143 ?_
  (refine' zo1 r1)
 have hne:l≠[]:=fun e=>by have:=hp e;omega
 have r4:=r2 hne
 refine vF mixed [0,1,4,5,7,12,15,16,17,18,23] Tryz.func143 rfl Tryz.results143 Tryz.ntmps143 ?_
 (refine' zg1 r1)
 have hln:(l.take n).length=n:=by rw [List.length_take];omega
 rw [←List.map_take,show ((l.take n).map clD).length=n by rw [List.length_map,hln]]
 refine vL (lv:=[0,1,4,5,7,12,15,16,17,18,23]) mixed (rstS l room n) (fun i=>i≤n ∧ ∀(j:Nat) x,j<i→(l.take n)[j]? = some x→blank x=true) (fun i=>n - i) (0) ((GhW.go [0,1,5,15,16,17] (by exact vT) rfl)) ?_ ?_
 ·exact ⟨Nat.zero_le _,fun j x hj=>by omega⟩
 rintro i ⟨g1,g2⟩
 rcases Nat.lt_or_ge i n with hi|hi
 ·obtain ⟨c,hc⟩ : ∃c,(l.take n)[i]? = some c:=⟨_,List.getElem?_eq_getElem (by omega)⟩
  have r3:=rBlank_fn c
  have hna:blank c=false → ¬((l.take n).all blank=true∧n≠0):=fun hb hx=>by
   have:=List.all_eq_true.1 hx.1 c (List.mem_of_getElem? hc)
   rw [hb] at this;cases this
  have g3:=fun hb=>snoc_lt g2 hc hb
  obtain ⟨r,k,w,a⟩:=c
  cases hb:blank (r,k,w,a) with
  | false=>
   rw [hb] at r3
   rw [if_neg (hna hb)]
   (refine' zm11o r3 hc)
  | true=>
   rw [hb] at r3
   (refine' zm11 r3 hc)
   refine AgW.go (i+1) [0,1,5,15,16,17] (by exact vT) ?_ ?_
   ·show n - (i+1)<n - i
    omega
   ·exact ⟨hi,g3 hb⟩
 ·obtain rfl:i=n:=by omega
  rw [if_pos ⟨hall _ g2,by omega⟩]
  (refine' zo1 r4)
def ralS (l:List Cl) (a b:Int) (x:Nat × List Nat):St:=⟨[(0,clL l),(3,.po 0 0),(5,.so 1 1 0 x.2.length),(6,iv x.1)],[(0,.cell [iv a,iv b]),(1,siR x.2)],2⟩
attribute [push_cast] ralS.eq_def
set_option maxHeartbeats 1600000 in
theorem rAll_fn (l:List Cl) (h:ClOk l) (a b:Int) (ha : -1000≤a∧a≤1000) (hb : -1000≤b∧b≤1000):OFn Tryz.prog G0 95 [clL l,.d (.agg [iD a,iD b])] [] 0 (.d (.sd 1 false ((allN l a b).map siD))) []:=by
 have hll:=h.len
 have r1:=rStart_fn l h a ha
 have hs:=startN_le l a
 refine vF mixed [0,1,3,4,5,6,7,19] Tryz.func95 rfl Tryz.results95 Tryz.ntmps95 ?_
 (refine' zg1 r1)
 refine vL (lv:=[0,1,3,4,5,6,7,19]) mixed (ralS l a b) (fun x=>x.1≤l.length∧x.2.length≤x.1+1∧x.2++restN b (l.drop x.1)=allN l a b) (fun x=>l.length - x.1) ((startN l a,[startN l a])) ((GhW.go [0,3,5,6] (by exact vT) rfl)) ?_ ?_
 ·exact ⟨hs,by show 1≤startN l a+1;omega,rfl⟩
 rintro ⟨p,q⟩ ⟨g1,g2,g3⟩
 simp only at g1 g2 g3
 rcases Nat.lt_or_ge p l.length with hk|hk
 ·have hne:l.drop p≠[]:=fun e=>by have:=congrArg List.length e;rw [List.length_drop,List.length_nil] at this;omega
  have r2:=rTakes_fn (l.drop p) (h.drop p) b hb
  have r2':OFn Tryz.prog G0 144 [.d (.sd 4 false ((l.map clD).drop p)),iv b] [] 0 (iv (takesN (l.drop p) b)) []:=by rw [←List.map_drop];exact r2
  have h5:=takesN_pos b hne
  have h6:=takesN_le (l.drop p) b
  rw [List.length_drop] at h6
  rw [restN,dif_neg hne,List.drop_drop] at g3
  generalize takesN (l.drop p) b=n at *
  (refine' zg1 r2')
  rw [snoc_si q n,List.length_map]
  refine AgW.go ((p+n,q++[n])) [0,3,5,6] (by exact vT) ?_ ?_
  ·show l.length - (p+n)<l.length - p
   omega
  ·exact ⟨by show p+n≤l.length;omega,by simp only [List.length_append,List.length_singleton];omega,by rw [←g3];simp⟩
 ·rw [List.drop_of_length_le hk,restN,dif_pos rfl,List.append_nil] at g3
  subst g3
  (refine' zg)
  refine DoneW.frz 1 (DoneW.out ?_)
  (refine' zg)
  all_goals (try rw [List.take_of_length_le (by simp)])
theorem rRight_fn (w:Int):OFn Tryz.prog G0 142 [iv w] [] 0 (bv (decide (0≤w)&&decide (w≤200))) []:=by
 refine vF mixed [0,2] Tryz.func142 rfl Tryz.results142 Tryz.ntmps142 ?_
 (refine' zo)
theorem rHang_fn (l:List Cl) (h:ClOk l) (w:Int) (hw:0≤w∧w≤200):OFn Tryz.prog G0 94 [clL l,iv w] [] 0 (iv (hang l w)) []:=by
 have r1:=rIndent_fn l h
 have r2:=rRight_fn w
 rw [decide_eq_true hw.1,decide_eq_true hw.2] at r2
 have hi:=indent_le l
 unfold hang
 generalize indent l=n at *
 by_cases hlt:w<n+2
 ·rw [if_pos hlt]
  refine vF mixed [0,1,4,5,16] Tryz.func94 rfl Tryz.results94 Tryz.ntmps94 ?_
  (refine' zm20o r1 r2)
 ·rw [if_neg hlt]
  refine vF mixed [0,1,4,5,16] Tryz.func94 rfl Tryz.results94 Tryz.ntmps94 ?_
  (refine' zm20o r1 r2)
def rrwS (l:List Cl) (h:Nat) (ns:List Nat) (x:Nat × Nat × List (List Cl)):St:=
 ⟨[(0,clL l),(6,iv h),(7,.so 0 1 0 x.2.2.length),(8,iv x.2.1),(28,.d (.sd 1 false (ns.map siD))),(29,iv ns.length),(30,iv x.1)],[(0,.row 1 (x.2.2.map rwS))],1⟩
def rrwI (l:List Cl) (h:Nat) (ns:List Nat) (i at':Nat) (q:List (List Cl)) (n:Nat) (a:Int) (k:Nat):St:=
 ⟨[(0,clL l),(6,iv h),(7,.so 0 1 0 q.length),(8,iv at'),(9,iv i),(10,iv n),(11,.so 1 4 0 k),(12,iv k),(28,.d (.sd 1 false (ns.map siD))),(29,iv ns.length),(30,iv i)],[(0,.row 1 (q.map rwS)),(1,clW (List.replicate k (indC a)))],2⟩
attribute [push_cast] rrwS.eq_def rrwI.eq_def
set_option maxHeartbeats 6400000 in
theorem rRows_of (l:List Cl) (h:ClOk l) (w:Int) (hw:0<w∧w≤200) (ns:List Nat) (hns:ns.length≤100000001) (hok:okNs 0 l ns) (rt : ∀b:Int,b=w - hang l w→OFn Tryz.prog G0 95 [clL l,.d (.agg [iD w,iD b])] [] 0 (.d (.sd 1 false (ns.map siD))) []) :
 OFn Tryz.prog G0 58 [clL l,iv w] [] 0 (rwsL (rowsQ (hang l w) 0 l ns)) []:=by
 have r2:=rHang_fn l h w (by omega)
 have hh:hang l w≤8:=by have:=indent_le l;unfold hang;split<;>omega
 have hll:=h.len
 generalize hang l w=hg at *
 have r1:=rt _ rfl
 refine vF mixed [0,1,4,5,6,7,8,9,10,11,12,20,28,29,30,31,41] Tryz.func58 rfl Tryz.results58 Tryz.ntmps58 ?_
 (refine' zg2 r2 r1)
 refine vL (lv:=[0,1,4,5,6,7,8,9,10,11,12,20,28,29,30,31,41]) mixed (rrwS l hg ns) (fun x=>x.1≤ns.length∧x.2.2.length=x.1∧x.2.1≤l.length∧okNs x.1 (l.drop x.2.1) (ns.drop x.1)∧x.2.2++rowsQ hg x.1 (l.drop x.2.1) (ns.drop x.1)=rowsQ hg 0 l ns) (fun x=>ns.length - x.1) ((0,0,[])) (GhW.nil 7 1<|(GhW.go [0,6,7,8,28,29,30] (by exact vT) rfl)) ?_ ?_
 ·exact ⟨Nat.zero_le _,rfl,Nat.zero_le _,hok,rfl⟩
 rintro ⟨i,p,q⟩ ⟨g1,g2,g3,g4,g5⟩
 simp only at g1 g2 g3 g4 g5
 rcases Nat.lt_or_ge i ns.length with hi|hi
 ·obtain ⟨n,hn⟩ : ∃n,ns[i]? = some n:=⟨_,List.getElem?_eq_getElem hi⟩
  have hdr:ns.drop i=n::ns.drop (i+1):=by rw [List.drop_eq_getElem_cons hi,(List.getElem?_eq_some_iff.1 hn).2]
  rw [hdr] at g4 g5
  obtain ⟨k1,k2,k3⟩:=g4
  rw [List.length_drop] at k1
  rw [rowsQ] at g5
  obtain ⟨a,ha⟩ : ∃a:Int,∀c,l[p]? = some c→c.2.2.2=a:=by
   cases hc:l[p]? with
   | none=>exact ⟨0,fun c e=>by cases e⟩
   | some c=>exact ⟨c.2.2.2,fun d e=>by injection e with e;rw [e]⟩
  have hbe:i≠0→behN hg ((l.drop p).take n)=List.replicate hg (indC a)++(l.drop p).take n:=fun h0=>by
   have hn0:0<n:=k2.resolve_left h0
   have hp:p<l.length:=by omega
   rw [List.drop_eq_getElem_cons hp]
   obtain ⟨m,rfl⟩ : ∃m,n=m+1:=⟨n - 1,by omega⟩
   rw [List.take_succ_cons,behN,ha l[p] (List.getElem?_eq_getElem hp)]
  have ec:List.drop p (List.take (p+n) (l.map clD))=((l.drop p).take n).map clD:=by rw [←List.map_take,←List.map_drop,List.drop_take,Nat.add_sub_cancel_left]
  have ed:List.drop n (List.drop p l)=l.drop (p+n):=List.drop_drop
  rw [ed] at k3 g5
  (refine' zgE hn)
  refine vL (lv:=[0,1,4,5,6,7,8,9,10,11,12,20,28,29,30,31,41]) mixed (rrwI l hg ns i p q n a) (fun k=>k≤hg∧(i=0→k=0)) (fun k=>hg - k) (0) (GhW.nil 11 4<|(GhW.go [0,6,7,8,9,10,11,12,28,29,30] (by exact vT) rfl)) ?_ ?_
  ·exact ⟨Nat.zero_le _,fun _=>rfl⟩
  rintro k ⟨q1,q2⟩
  rcases Nat.eq_zero_or_pos i with hi0|hi0
  ·have hk0:k=0:=q2 hi0
   subst hk0
   rw [if_pos hi0] at g5
   (refine' zm00)
   rw [ec,←List.map_append,List.replicate_zero,List.nil_append]
   rw [show q.map rwS++[D.sd 4 false (((l.drop p).take n).map clD)]=(q++[(l.drop p).take n]).map rwS from snoc_rws q _,List.length_map]
   refine AgW.go ((i+1,p+n,q++[(l.drop p).take n])) [0,6,7,8,28,29,30] (by exact vT) ?_ ?_
   ·show ns.length - (i+1)<ns.length - i
    omega
   ·refine ⟨hi,by simp only [List.length_append,List.length_singleton];omega,by show p+n≤l.length;omega,k3,?_⟩
    rw [List.append_assoc];exact g5
  ·have hn0:0<n:=k2.resolve_left (by omega)
   rw [if_neg (by omega),hbe (by omega)] at g5
   obtain ⟨c,hc⟩ : ∃c,l[p]? = some c:=⟨_,List.getElem?_eq_getElem (by omega)⟩
   have hca:=ha c hc
   obtain ⟨cr,ck,cw',ca⟩:=c
   simp only at hca
   subst hca
   rcases Nat.lt_or_ge k hg with hlt|hge
   ·(refine' zm01 hc)
    rw [show (List.replicate k (indC ca)).map clD++[D.agg [D.lit (Value.int IntKind.i32 32),D.lit (Value.int IntKind.i64 5),D.lit (Value.int IntKind.i64 1),iD ca]]=(List.replicate (k+1) (indC ca)).map clD by rw [List.replicate_succ'];exact snoc_cl _ (indC ca),List.length_map,List.length_replicate]
    refine AgW.go (k+1) [0,6,7,8,9,10,11,12,28,29,30] (by exact vT) ?_ ?_
    ·show hg - (k+1)<hg - k
     omega
    ·exact ⟨hlt,fun h=>by omega⟩
   ·obtain rfl:k=hg:=by omega
    (refine' zm00)
    rw [ec,←List.map_append]
    rw [show q.map rwS++[D.sd 4 false ((List.replicate k (indC ca)++(l.drop p).take n).map clD)]=(q++[List.replicate k (indC ca)++(l.drop p).take n]).map rwS from snoc_rws q _,List.length_map]
    refine AgW.go ((i+1,p+n,q++[List.replicate k (indC ca)++(l.drop p).take n])) [0,6,7,8,28,29,30] (by exact vT) ?_ ?_
    ·show ns.length - (i+1)<ns.length - i
     omega
    ·refine ⟨hi,by simp only [List.length_append,List.length_singleton];omega,by show p+n≤l.length;omega,k3,?_⟩
     rw [List.append_assoc];exact g5
 ·rw [List.drop_of_length_le hi,rowsQ,List.append_nil] at g5
  subst g5
  (refine' zg)
  refine DoneW.frz 0 (DoneW.out ?_)
  (refine' zg)
  all_goals (try rw [List.take_of_length_le (by simp)])
theorem rRows_pos (l:List Cl) (h:ClOk l) (w:Int) (hw:0<w∧w≤200):OFn Tryz.prog G0 58 [clL l,iv w] [] 0 (rwsL (rowsN l w)) []:=by
 have hh:hang l w≤8:=by have:=indent_le l;unfold hang;split<;>omega
 have:=rRows_of l h w hw (takesL l w) (by have:=takesL_len l w;have:=h.len;omega) (okNs_takes l w) (fun b hb=>by
  have:=rAll_fn l h w b (by omega) (by omega)
  rw [takesL,if_neg (by omega),←hb];exact this)
 rwa [rowsQ_is] at this
def rr0S (l:List Cl) (h:Nat) (x:Nat × Nat × List (List Cl)):St:=
 ⟨[(0,clL l),(6,iv h),(7,.so 0 1 0 x.2.2.length),(8,iv x.2.1),(28,.so 1 1 0 1),(29,iv 1),(30,iv x.1)],[(0,.row 1 (x.2.2.map rwS)),(1,siR [l.length])],2⟩
def rr0I (l:List Cl) (h:Nat):St:=
 ⟨[(0,clL l),(6,iv h),(7,.so 0 1 0 0),(8,iv 0),(9,iv 0),(10,iv l.length),(11,.so 1 4 0 0),(12,iv 0),(28,.so 2 1 0 1),(29,iv 1),(30,iv 0)],[(0,.row 1 []),(1,clW []),(2,siR [l.length])],3⟩
attribute [push_cast] rr0S.eq_def rr0I.eq_def
set_option maxHeartbeats 6400000 in
theorem rRows_0 (l:List Cl) (h:ClOk l):OFn Tryz.prog G0 58 [clL l,iv 0] [] 0 (rwsL [l]) []:=by
 have r2:=rHang_fn l h 0 (by omega)
 have hll:=h.len
 have h0:[l.length][0]? = some l.length:=rfl
 generalize hang l 0=hg at *
 refine vF mixed [0,1,4,5,6,7,8,9,10,11,12,20,28,29,30,31,41] Tryz.func58 rfl Tryz.results58 Tryz.ntmps58 ?_
 (refine' zg1 r2)
 refine vL (lv:=[0,1,4,5,6,7,8,9,10,11,12,20,28,29,30,31,41]) mixed (rr0S l hg) (fun x=>x=(0,0,[])∨x=(1,l.length,[l])) (fun x=>1 - x.1) ((0,0,[])) (GhW.nil 7 1<|(GhW.go [0,6,7,8,28,29,30] (by exact vT) rfl)) ?_ ?_
 ·exact .inl rfl
 rintro x (rfl|rfl)
 ·(refine' zgE h0)
  refine vL (lv:=[0,1,4,5,6,7,8,9,10,11,12,20,28,29,30,31,41]) mixed (fun _:Unit=>rr0I l hg) (fun _=>True) (fun _=>0) (()) (GhW.nil 11 4<|(GhW.go [0,6,7,8,9,10,11,12,28,29,30] (by exact vT) rfl)) ?_ ?_
  ·trivial
  rintro ⟨⟩ -
  (refine' zm00)
  (try rw [List.take_of_length_le (by simp)])
  refine AgW.go ((1,l.length,[l])) [0,6,7,8,28,29,30] (by exact vT) ?_ ?_
  ·exact Nat.succ_pos _
  ·exact .inr rfl
 ·(refine' zg)
  refine DoneW.frz 0 (DoneW.out ?_)
  (refine' zg)
theorem rRows_fn (l:List Cl) (h:ClOk l) (w:Int) (hw:0≤w∧w≤200):OFn Tryz.prog G0 58 [clL l,iv w] [] 0 (rwsL (rowsN l w)) []:=by
 by_cases h0:w=0
 ·subst h0
  have e:rowsN l 0=[l]:=by
   rw [rowsN,takesL,if_pos rfl,cutN,cutN,List.take_length];rfl
  rw [e];exact rRows_0 l h
 ·exact rRows_pos l h w (by omega)
def rinS (l:List (Int × Int)) (r:Int) (i:Nat):St:=⟨[(1,.d (ruD r)),(7,.d (rgL l)),(8,iv l.length),(9,iv i)],[],0⟩
attribute [push_cast] rinS.eq_def
theorem rin_fn (l:List (Int × Int)) (hl:l.length≤1000000) (r:Int):OFn Tryz.prog G0 181 [.d (rgL l),.d (ruD r)] [] 0 (bv (inR l r)) []:=by
 refine vF mixed [0,1,4,6,7,8,9,10,22] Tryz.func181 rfl Tryz.results181 Tryz.ntmps181 ?_
 (refine' zg)
 refine vL (lv:=[0,1,4,6,7,8,9,10,22]) mixed (rinS l r) (fun i=>i≤l.length ∧ ∀(j:Nat) x,j<i→l[j]? = some x→x.2<r∨r<x.1) (fun i=>l.length - i) (0) ((GhW.go [1,7,8,9] (by exact vT) rfl)) ?_ ?_
 ·exact ⟨Nat.zero_le _,fun j x h=>absurd h (Nat.not_lt_zero _)⟩
 rintro i ⟨h1,h2⟩
 rcases Nat.lt_or_ge i l.length with hk|hk
 ·obtain ⟨x,hx⟩ : ∃x,l[i]? = some x:=⟨_,List.getElem?_eq_getElem hk⟩
  have hm:=List.mem_of_getElem? hx
  by_cases hr:x.1≤r∧r≤x.2
  ·rw [inR_yes hm hr.1 hr.2]
   obtain ⟨a,b⟩:=x
   simp only at hr
   (refine' zoE hx)
  ·obtain ⟨a,b⟩:=x
   simp only at hr
   (refine' zgE hx)
   all_goals
    refine AgW.go (i+1) [1,7,8,9] (by exact vT) ?_ ?_
    ·show l.length - (i+1)<l.length - i
     omega
    ·refine ⟨hk,fun j y hj hy =>?_⟩
     by_cases e:j=i
     ·subst e;rw [hx] at hy;injection hy with hy;subst hy;simp only;omega
     ·exact h2 j y (by omega) hy
 ·rw [inR_no (fun j x hx=>h2 j x (by have:=(List.getElem?_eq_some_iff.1 hx).1;omega) hx)]
  (refine' zo)
theorem rOf_fn (z w:List (Int × Int)) (hz:z.length≤1000000) (hw:w.length≤1000000) (r:Int):OFn Tryz.prog G0 145 [.d (tbD z w),.d (ruD r)] [] 0 (iv (wOf z w r)) []:=by
 have r1:=rin_fn z hz r
 have r2:=rin_fn w hw r
 unfold wOf
 generalize inR z r=a at *
 generalize inR w r=b at *
 cases a
 all_goals cases b
 all_goals
  refine vF mixed [0,1,4,10,16] Tryz.func145 rfl Tryz.results145 Tryz.ntmps145 ?_
  (refine' zo2 r1 r2)
  all_goals rfl
theorem mod_ne {a n tab:Nat} (h0:1≤n) (h:n<tab - a % tab):(a+n) % tab≠0:=by
 have e:=Nat.div_add_mod a tab
 have:(a+n) % tab=a % tab+n:=by
  rw [show a+n=tab*(a / tab)+(a % tab+n) by omega,Nat.mul_add_mod,Nat.mod_eq_of_lt (by omega)]
 omega
theorem mod_eq {a tab:Nat} (ht:1≤tab):(a+(tab - a % tab)) % tab=0:=by
 have e:=Nat.div_add_mod a tab
 have hm:=Nat.mod_lt a (show tab > 0 by omega)
 rw [show a+(tab - a % tab)=tab*(a / tab)+tab by omega,Nat.mul_add_mod,Nat.mod_self]
def rszS (z w:List (Int × Int)) (tab:Nat) (l:List Int) (x:Nat × List Nat × Nat):St:=
 ⟨[(0,.d (tbD z w)),(2,iv tab),(7,.so 0 1 0 x.2.1.length),(8,iv x.2.2),(12,.d (.sd 1 false (l.map ruD))),(13,iv l.length),(14,iv x.1)],[(0,siR x.2.1)],1⟩
def rszI (z w:List (Int × Int)) (tab:Nat) (l:List Int) (i:Nat) (ss:List Nat) (at':Nat) (n:Nat):St:=
 ⟨[(0,.d (tbD z w)),(2,iv tab),(7,.so 0 1 0 ss.length),(8,iv at'),(11,iv n),(12,.d (.sd 1 false (l.map ruD))),(13,iv l.length),(14,iv i)],[(0,siR ss)],1⟩
attribute [push_cast] rszS.eq_def rszI.eq_def
set_option maxHeartbeats 6400000 in
theorem rSizes_fn (z w:List (Int × Int)) (hz:z.length≤1000000) (hw:w.length≤1000000) (tab:Nat) (ht:1≤tab∧tab≤16) (l:List Int) (hl:l.length≤4000000) :
 OFn Tryz.prog G0 97 [.d (tbD z w),.d (.sd 1 false (l.map ruD)),iv tab] [] 0 (.d (.sd 1 false ((szs z w tab 0 l).map siD))) []:=by
 refine vF mixed [0,1,2,6,7,8,10,11,12,13,14,15,22,32] Tryz.func97 rfl Tryz.results97 Tryz.ntmps97 ?_
 (refine' zg)
 refine vL (lv:=[0,1,2,6,7,8,10,11,12,13,14,15,22,32]) mixed (rszS z w tab l) (fun x=>x.1≤l.length∧x.2.1=szs z w tab 0 (l.take x.1)∧x.2.2=endA z w tab 0 (l.take x.1)) (fun x=>l.length - x.1) ((0,[],0)) (GhW.nil 7 1<|(GhW.go [0,2,7,8,12,13,14] (by exact vT) rfl)) ?_ ?_
 ·exact ⟨Nat.zero_le _,rfl,rfl⟩
 rintro ⟨i,ss,a⟩ ⟨g1,g2,g3⟩
 simp only at g1 g2 g3
 have hsl:ss.length=i:=by rw [g2,szs_len,List.length_take];omega
 have hal:a≤16*i:=by
  have:=endA_le (z:=z) (w:=w) ht.1 ht.2 (l.take i) 0
  rw [←g3,List.length_take] at this;omega
 rcases Nat.lt_or_ge i l.length with hk|hk
 ·obtain ⟨r,hr⟩ : ∃r,l[i]? = some r:=⟨_,List.getElem?_eq_getElem hk⟩
  have r1:=rOf_fn z w hz hw r
  have e1:szs z w tab 0 (l.take (i+1))=ss++[tbT z w tab a r]:=by rw [take_snoc' hr,szs_snoc,←g2,←g3]
  have e2:endA z w tab 0 (l.take (i+1))=a+tbT z w tab a r:=by rw [take_snoc' hr,endA_snoc,←g3]
  have hw2:=wOf_le z w r
  by_cases h9:r=9
  ·have htb:tbT z w tab a r=if 64≤a then 1 else tab - a % tab:=by rw [tbT,if_pos h9]
   have hm:=Nat.mod_lt a (show tab > 0 by omega)
   have hs16:=tbT_le (z:=z) (w:=w) (a:=a) (r:=r) ht.1 ht.2
   have hal2:a≤64000000:=by omega
   generalize tbT z w tab a r=s at *
   (refine' zm11 r1 hr)
   refine vL (lv:=[0,1,2,6,7,8,10,11,12,13,14,15,22,32]) mixed (rszI z w tab l i ss a) (fun n=>1≤n∧n≤s) (fun n=>s - n) (1) ((GhW.go [0,2,7,8,11,12,13,14] (by exact vT) rfl)) ?_ ?_
   ·refine ⟨Nat.le_refl _,?_⟩
    rw [htb];split<;>omega
   rintro n ⟨k1,k2⟩
   have e:(((a+n) % tab:Nat):Int)=((a:Int)+(n:Int)) % (tab:Int):=by rw [←Int.natCast_add];rfl
   rcases Nat.lt_or_ge n s with hn|hn
   ·have h64 : ¬64≤a:=fun h=>by rw [if_pos h] at htb;omega
    rw [if_neg h64] at htb
    have hne:=mod_ne (a:=a) k1 (by omega:n<tab - a % tab)
    have hne':((a:Int)+(n:Int)) % (tab:Int)≠0:=by omega
    (repeat' (first|(with_reducible first|exact True.intro|refine vD ?_|refine vG ?_|refine vE ?_)|(refine vRS ?_)|refine vR ?_|refine v3 ?_|with_reducible refine vN ?_|((with_reducible first|refine vB (fun h =>?_) (fun h =>?_)|refine vM (fun h =>?_) (fun h =>?_))<;>(first|(exfalso;omega)|skip))))
    refine AgW.go (n+1) [0,2,7,8,11,12,13,14] (by exact vT) ?_ ?_
    ·show s - (n+1)<s - n
     omega
    ·exact ⟨by show 1≤n+1;omega,hn⟩
   ·have hns:n=s:=by omega
    have hst:64≤a∨(a+n) % tab=0:=by
     by_cases h64:64≤a
     ·exact .inl h64
     ·rw [if_neg h64] at htb
      rw [hns,htb];exact .inr (mod_eq ht.1)
    (repeat' (first|(with_reducible first|exact True.intro|refine vD ?_|refine vG ?_|refine vE ?_)|(refine vRS ?_)|refine vR ?_|refine v3 ?_|with_reducible refine vN ?_|((with_reducible first|refine vB (fun h =>?_) (fun h =>?_)|refine vM (fun h =>?_) (fun h =>?_))<;>(first|(exfalso;omega)|skip))))
    all_goals rw [show ss.map siD++[D.lit (Value.int IntKind.i64 (n:Int))]=(ss++[n]).map siD from snoc_si ss n,List.length_map,show ((a:Int)+(n:Int))=((a+n:Nat):Int) by omega]
    all_goals refine AgW.go ((i+1,ss++[n],a+n)) [0,2,7,8,12,13,14] (by exact vT) ?_ ?_
    all_goals first|(show l.length - (i+1)<l.length - i;omega)|exact ⟨hk,by rw [hns];exact e1.symm,by rw [hns];exact e2.symm⟩
  ·have htb:tbT z w tab a r=wOf z w r:=by rw [tbT,if_neg h9]
   rw [htb] at e1 e2
   generalize wOf z w r=s at *
   (refine' zm11 r1 hr)
   rw [show ss.map siD++[D.lit (Value.int IntKind.i64 (s:Int))]=(ss++[s]).map siD from snoc_si ss s,List.length_map,show ((a:Int)+(s:Int))=((a+s:Nat):Int) by omega]
   refine AgW.go ((i+1,ss++[s],a+s)) [0,2,7,8,12,13,14] (by exact vT) ?_ ?_
   ·show l.length - (i+1)<l.length - i
    omega
   ·exact ⟨hk,e1.symm,e2.symm⟩
 ·rw [List.take_of_length_le hk] at g2
  (refine' zg)
  refine DoneW.frz 0 (DoneW.out ?_)
  (refine' zg)
  all_goals (try rw [g2])
  all_goals (try rw [List.take_of_length_le (by simp)])
end Go.Proofs.YtkhonlnajdfhfaaGreatDoor
