/- What the theorem leans on, part 32. -/
import Derived.Test.YtkhonlnajdfhfaaGreatDoorLtYPBE
set_option linter.unusedSimpArgs false
set_option linter.unusedVariables false
set_option maxRecDepth 8000
namespace Go.Proofs.YtkhonlnajdfhfaaGreatDoor
structure ClOk (l:List Cl):Prop where
 len:l.length≤100000000
 wd : ∀c∈l,cw c≤2
theorem ClOk.drop {l:List Cl} (h:ClOk l) (n:Nat):ClOk (l.drop n):=⟨by rw [List.length_drop];have:=h.len;omega,fun c hc=>h.wd c (List.mem_of_mem_drop hc)⟩
theorem ClOk.take {l:List Cl} (h:ClOk l) (n:Nat):ClOk (l.take n):=⟨by rw [List.length_take];have:=h.len;omega,fun c hc=>h.wd c (List.mem_of_mem_take hc)⟩
def indS (l:List Cl) (i:Nat):St:=⟨[(3,iv (wid (l.take i))),(6,clL l),(7,iv l.length),(8,iv i)],[],0⟩
attribute [push_cast] indS.eq_def
theorem tw_at {α:Type} {p:α→Bool} : ∀ {l:List α} {i:Nat},i≤l.length→(∀(j:Nat) x,j<i→l[j]? = some x→p x=true)→(∀x,l[i]? = some x→p x=false)→l.takeWhile p=l.take i
 | [],i,h,_,_=>by simp
 | y::t,0,_,_,h=>by rw [List.takeWhile_cons,h y rfl];rfl
 | y::t,i+1,h1,h2,h3=>by
  rw [List.takeWhile_cons,h2 0 y (Nat.succ_pos _) rfl,List.take_succ_cons]
  rw [tw_at (by simpa using h1) (fun j x hj hx=>h2 (j+1) x (by omega) (by rwa [List.getElem?_cons_succ])) (fun x hx=>h3 x (by rwa [List.getElem?_cons_succ]))]
  rfl
theorem tw_take {α:Type} {p:α→Bool} : ∀ {l:List α} {i:Nat},i≤l.length→(∀(j:Nat) x,j<i→l[j]? = some x→p x=true) → ∃k,i≤k∧l.takeWhile p=l.take k
 | [],i,h,_=>⟨i,Nat.le_refl _,by simp⟩
 | y::t,0,_,_=>⟨((y::t).takeWhile p).length,Nat.zero_le _,by
  have:=List.takeWhile_prefix (l:=y::t) p
  exact (List.prefix_iff_eq_take.1 this)⟩
 | y::t,i+1,h1,h2=>by
  obtain ⟨k,hk,e⟩:=tw_take (l:=t) (i:=i) (by simpa using h1) (fun j x hj hx=>h2 (j+1) x (by omega) (by rwa [List.getElem?_cons_succ]))
  refine ⟨k+1,by omega,?_⟩
  rw [List.takeWhile_cons,h2 0 y (Nat.succ_pos _) rfl,List.take_succ_cons,e];rfl
theorem snoc_lt {α:Type} {l:List α} {p:α→Prop} {i:Nat} (h : ∀(j:Nat) x,j<i→l[j]? = some x→p x) {y:α} (hy:l[i]? = some y) (hp:p y) : ∀(j:Nat) x,j<i+1→l[j]? = some x→p x:=by
 intro j x hj hx
 by_cases e:j=i
 ·subst e;rw [hy] at hx;injection hx with hx;subst hx;exact hp
 ·exact h j x (by omega) hx
theorem Indent_fn (l:List Cl) (h:ClOk l):OFn Tryz.prog G0 135 [clL l] [] 0 (iv (indent l)) []:=by
 have hll:=h.len
 have hwd:=wid_le h.wd
 unfold indent
 refine vF mixed [0,2,3,5,6,7,8,9,18] Tryz.func135 rfl Tryz.results135 Tryz.ntmps135 ?_
 (refine' zg)
 refine vL (lv:=[0,2,3,5,6,7,8,9,18]) mixed (indS l) (fun i=>i≤l.length ∧ ∀(j:Nat) x,j<i→l[j]? = some x→blank x=true) (fun i=>l.length - i) (0) ((GhW.go [3,6,7,8] (by exact vT) rfl)) ?_ ?_
 ·exact ⟨Nat.zero_le _,fun j x hj=>by omega⟩
 rintro i ⟨h1,h2⟩
 have hmo:=wid_mono l h1
 rw [List.take_length] at hmo
 rcases Nat.lt_or_ge i l.length with hk|hk
 ·obtain ⟨c,hc⟩ : ∃c,l[i]? = some c:=⟨_,List.getElem?_eq_getElem hk⟩
  have r1:=Blank_fn c
  have e:=wid_take l hc
  have h3:=h.wd c (List.mem_of_getElem? hc)
  have hb : ∀b,blank c=b→blank c=b:=fun _ h=>h
  obtain ⟨r,k,w,a⟩:=c
  simp only [cw] at e h3
  cases hbl:blank (r,k,w,a) with
  | false=>
   rw [hbl] at r1
   have e2:=tw_at h1 h2 (fun x hx=>by rw [hc] at hx;injection hx with hx;subst hx;exact hbl)
   rw [e2]
   (refine' zm11o r1 hc)
   congr 1;omega
  | true=>
   rw [hbl] at r1
   (refine' zm11o r1 hc)
   ·obtain ⟨k',hk',e2⟩:=tw_take h1 h2
    have:=wid_mono l hk'
    rw [e2]
    congr 1;omega
   ·rw [show ((wid (l.take i):Nat):Int)+(w:Int)=(wid (l.take (i+1)):Nat) by omega]
    refine AgW.go (i+1) [3,6,7,8] (by exact vT) ?_ ?_
    ·show l.length - (i+1)<l.length - i
     omega
    ·exact ⟨hk,snoc_lt h2 hc hbl⟩
 ·obtain rfl:i=l.length:=by omega
  have e2:=tw_at h1 h2 (fun x hx=>by rw [List.getElem?_eq_none (Nat.le_refl _)] at hx;cases hx)
  rw [e2,List.take_length,indS,List.take_length]
  (refine' zo)
  congr 1;omega
theorem bndy_fn (l:List Cl) (h:ClOk l) (n:Nat) (hn:n≤l.length):OFn Tryz.prog G0 203 [clL l,iv n] [] 0 (bv (bndy l n)) []:=by
 have hll:=h.len
 unfold bndy
 by_cases h0:0<n∧n<l.length
 ·obtain ⟨c,hc⟩ : ∃c,l[n - 1]? = some c:=⟨_,List.getElem?_eq_getElem (by omega)⟩
  obtain ⟨d,hd⟩ : ∃d,l[n]? = some d:=⟨_,List.getElem?_eq_getElem (by omega)⟩
  have r1:=Blank_fn c
  have r2:=Blank_fn d
  rw [hc,hd,decide_eq_true h0.1]
  simp only [Bool.true_and]
  obtain ⟨r,k,w,a⟩:=c
  obtain ⟨r',k',w',a'⟩:=d
  generalize blank (r,k,w,a)=b1 at *
  generalize blank (r',k',w',a')=b2 at *
  refine vF mixed [0,1,4] Tryz.func203 rfl Tryz.results203 Tryz.ntmps203 ?_
  cases b1
  all_goals cases b2
  all_goals
   (refine' zm22o r1 r2 hc hd)
  all_goals (congr 1;rw [Bool.eq_iff_iff];simp [cw])
 ·refine vF mixed [0,1,4] Tryz.func203 rfl Tryz.results203 Tryz.ntmps203 ?_
  (refine' zo)
  ·rw [List.getElem?_eq_none (show l.length≤n by omega)]
   cases l[n - 1]? <;> simp
  ·rw [decide_eq_false (by omega)]
   rfl
def fit1 (l:List Cl) (room:Int) (n:Nat):St:=⟨[(0,clL l),(1,iv room),(5,iv n),(6,iv (wid (l.take n)))],[],0⟩
def fit2 (l:List Cl) (n:Nat):St:=⟨[(0,clL l),(5,iv n)],[],0⟩
attribute [push_cast] fit1.eq_def fit2.eq_def
set_option maxHeartbeats 1600000 in
theorem fit_fn (l:List Cl) (h:ClOk l) (h0:l≠[]) (room:Int) (hr : -1000≤room∧room≤1000):OFn Tryz.prog G0 202 [clL l,iv room] [] 0 (iv (fitN l room)) []:=by
 have hll:=h.len
 have hl0:=List.length_pos_iff.2 h0
 have hwd:=wid_le h.wd
 refine vF mixed [0,1,4,5,6,21,32,45] Tryz.func202 rfl Tryz.results202 Tryz.ntmps202 ?_
 (refine' zg)
 refine vL (lv:=[0,1,4,5,6,21,32,45]) mixed (fit1 l room) (fun n=>n≤l.length ∧ ∀j,j<n→(wid (l.take (j+1)):Int)≤room) (fun n=>l.length - n) (0) ((GhW.go [0,1,5,6] (by exact vT) rfl)) ?_ ?_
 ·exact ⟨Nat.zero_le _,fun j hj=>by omega⟩
 rintro n ⟨h1,h2⟩
 have hmo:=wid_mono l h1
 rw [List.take_length] at hmo
 have fin:(∀c,l[n]? = some c→room<wid (l.take n)+cw c)→fitG room l 0=n:=fun hx=>fitG_at room l 0 n h1 (fun j hj=>by have:=h2 j hj;omega) (fun c hc=>by have:=hx c hc;omega)
 rcases Nat.lt_or_ge n l.length with hk|hk
 ·obtain ⟨c,hc⟩ : ∃c,l[n]? = some c:=⟨_,List.getElem?_eq_getElem hk⟩
  have e:=wid_take l hc
  have h3:=h.wd c (List.mem_of_getElem? hc)
  have hcw : ∀x,l[n]? = some x→cw x=cw c:=fun x hx=>by rw [hc] at hx;injection hx with hx;rw [hx]
  obtain ⟨r,k,w,a⟩:=c
  simp only [cw] at e h3 hcw
  (refine' zoE hc)
  ·rw [show ((wid (l.take n):Nat):Int)+(w:Int)=(wid (l.take (n+1)):Nat) by omega]
   refine AgW.go (n+1) [0,1,5,6] (by exact vT) ?_ ?_
   ·show l.length - (n+1)<l.length - n
    omega
   ·refine ⟨hk,fun j hj =>?_⟩
    by_cases ej:j=n
    ·subst ej;omega
    ·exact h2 j (by omega)
  ·rw [fitN,fin (fun x hx=>by have:=hcw x hx;simp only [cw];omega),if_neg (by omega)]
  ·have e3:fitN l room=1+zer (l.drop 1):=by rw [fitN,fin (fun x hx=>by have:=hcw x hx;simp only [cw];omega),if_pos (by omega)]
   rw [e3]
   clear fin hcw
   refine vL (lv:=[0,1,4,5,6,21,32,45]) mixed (fit2 l) (fun m=>1≤m∧m≤l.length ∧ ∀(j:Nat) x,j<m - 1→(l.drop 1)[j]? = some x→(cw x==0)=true) (fun m=>l.length - m) (1) ((GhW.go [0,5] (by exact vT) rfl)) ?_ ?_
   ·exact ⟨Nat.le_refl _,hl0,fun j x hj=>by omega⟩
   rintro m ⟨q1,q2,q3⟩
   rcases Nat.lt_or_ge m l.length with hm|hm
   ·obtain ⟨c',hc'⟩ : ∃c',l[m]? = some c':=⟨_,List.getElem?_eq_getElem hm⟩
    have hd:(l.drop 1)[m - 1]? = some c':=by rw [List.getElem?_drop,show 1+(m - 1)=m by omega];exact hc'
    have e4:cw c'≠0→zer (l.drop 1)=m - 1:=fun hne=>by
     rw [zer,tw_at (i:=m - 1) (by rw [List.length_drop];omega) q3 (fun x hx=>by rw [hd] at hx;injection hx with hx;subst hx;simpa using hne),List.length_take,List.length_drop]
     omega
    have q4:=fun hz=>snoc_lt q3 hd hz
    obtain ⟨r',k',w',a'⟩:=c'
    simp only [cw] at e4 q4
    (refine' zoE hc')
    ·refine AgW.go (m+1) [0,5] (by exact vT) ?_ ?_
     ·show l.length - (m+1)<l.length - m
      omega
     ·refine ⟨by show 1≤m+1;omega,hm,?_⟩
      have:=q4 (by simp;omega)
      rwa [show m - 1+1=m+1 - 1 by omega] at this
    ·rw [e4 (by omega)]
     congr 1;omega
   ·have e4:zer (l.drop 1)=m - 1:=by
     rw [zer,tw_at (i:=m - 1) (by rw [List.length_drop];omega) q3 (fun x hx=>by rw [List.getElem?_eq_none (by rw [List.length_drop];omega)] at hx;cases hx),List.length_take,List.length_drop]
     omega
    rw [e4]
    (refine' zo)
    congr 1;omega
 ·(refine' zo)
  rw [fitN,fin (fun c hc=>by rw [List.getElem?_eq_none hk] at hc;cases hc),if_neg (by omega)]
def tkS (l:List Cl) (n k:Nat):St:=⟨[(0,clL l),(5,iv n),(6,iv k)],[],0⟩
attribute [push_cast] tkS.eq_def
theorem lstB_up {l:List Cl} {n:Nat} : ∀k,(∀j,k<j→j≤n→bndy l j=false)→k≤n→lstB l n=lstB l k:=by
 induction n with
 | zero=>intro k _ hk;rw [show k=0 by omega]
 | succ n ih=>
  intro k h hk
  rcases Nat.lt_or_ge n k with hlt|hge
  ·rw [show k=n+1 by omega]
  ·rw [lstB,h (n+1) (by omega) (Nat.le_refl _),if_neg (by simp)]
   exact ih k (fun j h1 h2=>h j h1 (by omega)) hge
theorem lstB_at {l:List Cl} {k:Nat} (hk:0<k) (h:bndy l k=true):lstB l k=k:=by
 cases k with
 | zero=>omega
 | succ k=>rw [lstB,h,if_pos rfl]
theorem Takes_fn (l:List Cl) (h:ClOk l) (room:Int) (hr : -1000≤room∧room≤1000):OFn Tryz.prog G0 196 [clL l,iv room] [] 0 (iv (takesN l room)) []:=by
 have hll:=h.len
 by_cases h0:l=[]
 ·subst h0
  show OFn Tryz.prog G0 196 [.d (.sd 4 false []),iv room] [] 0 (iv 0) []
  refine vF mixed [0,1,4,5,6,9,16,20,25] Tryz.func196 rfl Tryz.results196 Tryz.ntmps196 ?_
  (refine' zo)
 have hl0:=List.length_pos_iff.2 h0
 have r1:=fit_fn l h h0 room hr
 have hf:=fitN_le (room:=room) h0
 have hp:=fitN_pos l room
 have hb : ∀k,k≤l.length→OFn Tryz.prog G0 203 [clL l,iv k] [] 0 (bv (bndy l k)) []:=fun k hk=>bndy_fn l h k hk
 unfold takesN
 rw [if_neg h0]
 generalize fitN l room=n at *
 by_cases hn:n=l.length
 ·rw [if_pos hn]
  refine vF mixed [0,1,4,5,6,9,16,20,25] Tryz.func196 rfl Tryz.results196 Tryz.ntmps196 ?_
  (refine' zo1 r1)
  all_goals (try rw [hn])
 ·rw [if_neg hn]
  refine vF mixed [0,1,4,5,6,9,16,20,25] Tryz.func196 rfl Tryz.results196 Tryz.ntmps196 ?_
  (refine' zg1 r1)
  refine vL (lv:=[0,1,4,5,6,9,16,20,25]) mixed (tkS l n) (fun k=>k≤n ∧ ∀j,k<j→j≤n→bndy l j=false) (fun k=>k) (n) ((GhW.go [0,5,6] (by exact vT) rfl)) ?_ ?_
  ·exact ⟨Nat.le_refl _,fun j h1 h2=>by omega⟩
  rintro k ⟨g1,g2⟩
  rw [lstB_up k g2 g1]
  rcases Nat.eq_zero_or_pos k with hk|hk
  ·subst hk
   rw [lstB,if_pos rfl]
   (refine' zo)
  ·have r2:=hb k (by omega)
   cases hbk:bndy l k with
   | true=>
    rw [hbk] at r2
    rw [lstB_at hk hbk,if_neg (by omega)]
    (refine' zo1 r2)
   | false=>
    rw [hbk] at r2
    (refine' zg1 r2)
    refine AgW.go (k - 1) [0,5,6] (by exact vT) ?_ ?_
    ·show k - 1<k
     omega
    ·refine ⟨by show k - 1≤n;omega,fun j h1 h2 =>?_⟩
     by_cases ej:j=k
     ·subst ej;exact hbk
     ·exact g2 j (by omega) h2
def stS (l:List Cl) (room:Int) (n i:Nat):St:=⟨[(0,clL l),(1,iv room),(5,iv n),(13,clL (l.take n)),(14,iv n),(15,iv i)],[],0⟩
attribute [push_cast] stS.eq_def
theorem bStart_fn (l:List Cl) (h:ClOk l) (room:Int) (hr : -1000≤room∧room≤1000):OFn Tryz.prog G0 195 [clL l,iv room] [] 0 (iv (startN l room)) []:=by
 have hll:=h.len
 have r1:=Takes_fn l h room hr
 have hf:=takesN_le l room
 have r2:l≠[]→OFn Tryz.prog G0 202 [clL l,iv room] [] 0 (iv (fitN l room)) []:=fun h0=>fit_fn l h h0 room hr
 have hp:l=[]→takesN l room=0:=fun e=>by rw [takesN,if_pos e]
 have hall : ∀n,(∀(j:Nat) x,j<n→(l.take n)[j]? = some x→blank x=true)→(l.take n).all blank=true:=fun n hx=>by
  rw [List.all_eq_true]
  intro c hc
  obtain ⟨j,hj⟩:=List.getElem?_of_mem hc
  exact hx j c (by have:=(List.getElem?_eq_some_iff.1 hj).1;rw [List.length_take] at this;omega) hj
 unfold startN
 generalize takesN l room=n at *
 refine vF mixed [0,1,4,5,7,13,14,15,16,21,25] Tryz.func195 rfl Tryz.results195 Tryz.ntmps195 ?_
 (refine' zg1 r1)
 have hln:(l.take n).length=n:=by rw [List.length_take];omega
 rw [←List.map_take,show ((l.take n).map clD).length=n by rw [List.length_map,hln]]
 refine vL (lv:=[0,1,4,5,7,13,14,15,16,21,25]) mixed (stS l room n) (fun i=>i≤n ∧ ∀(j:Nat) x,j<i→(l.take n)[j]? = some x→blank x=true) (fun i=>n - i) (0) ((GhW.go [0,1,5,13,14,15] (by exact vT) rfl)) ?_ ?_
 ·exact ⟨Nat.zero_le _,fun j x hj=>by omega⟩
 rintro i ⟨g1,g2⟩
 rcases Nat.lt_or_ge i n with hi|hi
 ·obtain ⟨c,hc⟩ : ∃c,(l.take n)[i]? = some c:=⟨_,List.getElem?_eq_getElem (by omega)⟩
  have r3:=Blank_fn c
  have hna:blank c=false → ¬((l.take n).all blank=true∧n≠0):=fun hb hx=>by
   have:=List.all_eq_true.1 hx.1 c (List.mem_of_getElem? hc)
   rw [hb] at this;cases this
  have g3:=fun hb=>snoc_lt g2 hc hb
  obtain ⟨r,k,w,a⟩:=c
  cases hb:blank (r,k,w,a) with
  | false=>
   rw [hb] at r3
   rw [if_neg (hna hb)]
   (refine' zm11o r3 hc)
  | true=>
   rw [hb] at r3
   (refine' zm11o r3 hc)
   refine AgW.go (i+1) [0,1,5,13,14,15] (by exact vT) ?_ ?_
   ·show n - (i+1)<n - i
    omega
   ·exact ⟨hi,g3 hb⟩
 ·obtain rfl:i=n:=by omega
  have ha:=hall i g2
  rcases Nat.eq_zero_or_pos i with hz|hz
  ·subst hz
   rw [if_neg (fun h=>h.2 rfl)]
   (refine' zo)
  ·have r4:=r2 (fun e=>by have:=hp e;omega)
   rw [if_pos ⟨ha,by omega⟩]
   (refine' zo1 r4)
theorem wright_fn (w:Int):OFn Tryz.prog G0 82 [iv w] [] 0 (bv (decide (0≤w)&&decide (w≤200))) []:=by
 refine vF mixed [0,2] Tryz.func82 rfl Tryz.results82 Tryz.ntmps82 ?_
 (refine' zo)
theorem Hang_fn (l:List Cl) (h:ClOk l) (w:Int) (hw:0≤w∧w≤200):OFn Tryz.prog G0 83 [clL l,iv w] [] 0 (iv (hang l w)) []:=by
 have r1:=Indent_fn l h
 have r2:=wright_fn w
 rw [decide_eq_true hw.1,decide_eq_true hw.2] at r2
 have hi:=indent_le l
 unfold hang
 generalize indent l=n at *
 by_cases hlt:w<n+2
 ·rw [if_pos hlt]
  refine vF mixed [0,1,4,5,16] Tryz.func83 rfl Tryz.results83 Tryz.ntmps83 ?_
  (refine' zo2 r1 r2)
 ·rw [if_neg hlt]
  refine vF mixed [0,1,4,5,16] Tryz.func83 rfl Tryz.results83 Tryz.ntmps83 ?_
  (refine' zo2 r1 r2)
abbrev indC (a:Int):Cl:=(32,5,1,a)
def bhnS (l:List Cl) (a:Int) (n j:Nat):St:=⟨[(1,clL l),(5,.so 0 4 0 j),(6,iv n),(7,iv j)],[(0,clW (List.replicate j (indC a)))],1⟩
attribute [push_cast] bhnS.eq_def
theorem behind_fn (l:List Cl) (hl:l.length≤100000000) (n:Nat) (hn:n≤100) (c:Cl) (t:List Cl) (e:l=c::t):OFn Tryz.prog G0 85 [iv n,clL l] [] 0 (clL (behN n l)) []:=by
 have hc:l[0]? = some c:=by rw [e];rfl
 have hl0:0<l.length:=by rw [e];exact Nat.succ_pos _
 have eb:behN n l=List.replicate n (indC c.2.2.2)++l:=by rw [e];rfl
 rw [eb]
 obtain ⟨r,k,w,a⟩:=c
 simp only
 refine vF mixed [0,1,4,5,6,7,8] Tryz.func85 rfl Tryz.results85 Tryz.ntmps85 ?_
 (refine' zg)
 refine vL (lv:=[0,1,4,5,6,7,8]) mixed (bhnS l a n) (fun j=>j≤n) (fun j=>n - j) (0) (GhW.nil 5 4<|(GhW.go [1,5,6,7] (by exact vT) rfl)) ?_ ?_
 ·exact Nat.zero_le _
 intro j hj
 rcases Nat.lt_or_ge j n with hlt|hge
 ·(refine' zgE hc)
  rw [show (List.replicate j (indC a)).map clD++[D.agg [D.lit (Value.int IntKind.i32 32),D.lit (Value.int IntKind.i64 5),D.lit (Value.int IntKind.i64 1),iD a]]=(List.replicate (j+1) (indC a)).map clD by rw [List.replicate_succ'];exact snoc_cl _ (indC a),List.length_map,List.length_replicate]
  refine AgW.go (j+1) [1,5,6,7] (by exact vT) ?_ ?_
  ·show n - (j+1)<n - j
   omega
  ·show j+1≤n
   omega
 ·obtain rfl:j=n:=by omega
  (refine' zg)
  rw [←List.map_append]
  refine DoneW.frz 13 (DoneW.out ?_)
  (refine' zg)
  all_goals (try rw [List.take_of_length_le (by simp)])
theorem behind_0:OFn Tryz.prog G0 85 [iv 0,clL []] [] 0 (clL []) []:=by
 show OFn Tryz.prog G0 85 [iv 0,.d (.sd 4 false [])] [] 0 (.d (.sd 4 false [])) []
 refine vF mixed [0,1,4,5,6,7,8] Tryz.func85 rfl Tryz.results85 Tryz.ntmps85 ?_
 (refine' zg)
 refine vL (lv:=[0,1,4,5,6,7,8]) mixed (fun _:Unit=>(⟨[(1,.d (.sd 4 false [])),(5,.so 0 4 0 0),(6,iv 0),(7,iv 0)],[(0,.row 4 [])],1⟩:St)) (fun _=>True) (fun _=>0) (()) (GhW.nil 5 4<|(GhW.go [1,5,6,7] (by exact vT) rfl)) ?_ ?_
 ·trivial
 rintro ⟨⟩ -
 (refine' zg)
 refine DoneW.frz 13 (DoneW.out ?_)
 (refine' zg)
abbrev rwS (r:List Cl):D:= .sd 4 false (r.map clD)
abbrev rwsL (q:List (List Cl)):V:= .d (.sd 1 false (q.map rwS))
theorem snoc_rws (q:List (List Cl)) (r:List Cl):q.map rwS++[rwS r]=(q++[r]).map rwS:=by rw [List.map_append];rfl
def rowsQ (h:Nat):Nat→List Cl→List Nat→List (List Cl)
 | _,_,[]=>[]
 | i,l,n::t=>(if i=0 then l.take n else behN h (l.take n))::rowsQ h (i+1) (l.drop n) t
theorem beh0 (p:List Cl):behN 0 p=p:=by cases p<;>rfl
theorem beh_any (p:List Cl) (hl:p.length≤100000000) (n:Nat) (hn:n≤100) (h:n=0∨p≠[]):OFn Tryz.prog G0 85 [iv n,clL p] [] 0 (clL (behN n p)) []:=by
 rcases p with _|⟨c,t⟩
 ·rcases h with rfl|h
  ·exact behind_0
  ·exact (h rfl).elim
 ·exact behind_fn (c::t) hl n hn c t rfl
def okNs:Nat→List Cl→List Nat→Prop
 | _,_,[]=>True
 | i,l,n::t=>n≤l.length∧(i=0∨0<n)∧okNs (i+1) (l.drop n) t
theorem rowsQ_map (h:Nat) : ∀(ns:List Nat) (i:Nat) (l:List Cl),0<i→rowsQ h i l ns=(cutN l ns).map (behN h)
 | [],_,_,_=>rfl
 | n::t,i,l,hi=>by rw [rowsQ,if_neg (by omega),cutN,List.map_cons,rowsQ_map h t (i+1) _ (Nat.succ_pos _)]
theorem rowsQ_is (l:List Cl) (w:Int):rowsQ (hang l w) 0 l (takesL l w)=rowsN l w:=by
 unfold rowsN
 cases takesL l w with
 | nil=>rfl
 | cons n t=>rw [rowsQ,if_pos rfl,cutN,rowsQ_map _ _ _ _ (Nat.succ_pos _)]
theorem okNs_rest (room:Int) : ∀(d:Nat) (l:List Cl) (i:Nat),l.length≤d→okNs i l (restN room l)
 | d,l,i,hd=>by
  by_cases h:l=[]
  ·subst h;rw [restN,dif_pos rfl];trivial
  ·have h1:=takesN_pos room h
   have h2:=List.length_pos_iff.2 h
   rw [restN,dif_neg h]
   exact ⟨takesN_le l room,.inr h1,okNs_rest room (d - 1) _ (i+1) (by rw [List.length_drop];omega)⟩
 termination_by d=>d
 decreasing_by
  have:=List.length_pos_iff.2 h
  omega
theorem okNs_takes (l:List Cl) (w:Int):okNs 0 l (takesL l w):=by
 unfold takesL
 split
 ·exact ⟨Nat.le_refl _,.inl rfl,trivial⟩
 ·exact ⟨startN_le l w,.inl rfl,okNs_rest _ _ _ _ (Nat.le_refl _)⟩
def wrS (h:Nat) (ns:List Nat) (x:Nat × List Cl × List (List Cl)):St:=
 ⟨[(0,clL x.2.1),(6,.so 0 1 0 x.2.2.length),(7,iv h),(19,.d (.sd 1 false (ns.map siD))),(20,iv ns.length),(21,iv x.1)],[(0,.row 1 (x.2.2.map rwS))],1⟩
attribute [push_cast] wrS.eq_def
set_option maxHeartbeats 1600000 in
theorem wRows_of (l:List Cl) (h:ClOk l) (w:Int) (hw:0≤w∧w≤200) (ns:List Nat) (hns:ns.length≤100000001) (hok:okNs 0 l ns) (rt:OFn Tryz.prog G0 84 [clL l,iv w] [] 0 (.d (.sd 1 false (ns.map siD))) []) :
 OFn Tryz.prog G0 49 [clL l,iv w] [] 0 (.tup [rwsL (rowsQ (hang l w) 0 l ns),iv 0]) []:=by
 have r1:=wright_fn w
 have r2:=Hang_fn l h w hw
 rw [decide_eq_true hw.1,decide_eq_true hw.2] at r1
 have hh:hang l w≤8:=by have:=indent_le l;unfold hang;split<;>omega
 have hll:=h.len
 generalize hang l w=hg at *
 refine vF mixed [0,1,4,5,6,7,8,9,10,13,19,20,21,22,28] Tryz.func49 rfl Tryz.results49 Tryz.ntmps49 ?_
 (refine' zg3 r1 r2 rt)
 refine vL (lv:=[0,1,4,5,6,7,8,9,10,13,19,20,21,22,28]) mixed (wrS hg ns) (fun x=>x.1≤ns.length∧x.2.2.length=x.1∧x.2.1.length≤l.length∧okNs x.1 x.2.1 (ns.drop x.1)∧x.2.2++rowsQ hg x.1 x.2.1 (ns.drop x.1)=rowsQ hg 0 l ns) (fun x=>ns.length - x.1) ((0,l,[])) (GhW.nil 6 1<|(GhW.go [0,6,7,19,20,21] (by exact vT) rfl)) ?_ ?_
 ·exact ⟨Nat.zero_le _,rfl,Nat.le_refl _,hok,rfl⟩
 rintro ⟨i,p,q⟩ ⟨g1,g2,g3,g4,g5⟩
 simp only at g1 g2 g3 g4 g5
 rcases Nat.lt_or_ge i ns.length with hi|hi
 ·obtain ⟨n,hn⟩ : ∃n,ns[i]? = some n:=⟨_,List.getElem?_eq_getElem hi⟩
  have hdr:ns.drop i=n::ns.drop (i+1):=by rw [List.drop_eq_getElem_cons hi,(List.getElem?_eq_some_iff.1 hn).2]
  rw [hdr] at g4 g5
  obtain ⟨k1,k2,k3⟩:=g4
  rw [rowsQ] at g5
  have hpl:(p.take n).length=n:=by rw [List.length_take];omega
  by_cases h0:i=0
  ·rw [if_pos h0] at g5
   have r3:=beh_any (p.take n) (by omega) 0 (by omega) (.inl rfl)
   rw [beh0] at r3
   (refine' zgE hn)
   rw [←List.map_take]
   refine vC r3 ?_
   (refine' zg)
   rw [←List.map_drop,show q.map rwS++[rwS (p.take n)]=(q++[p.take n]).map rwS from snoc_rws q (p.take n),List.length_map]
   refine AgW.go ((i+1,p.drop n,q++[p.take n])) [0,6,7,19,20,21] (by exact vT) ?_ ?_
   ·show ns.length - (i+1)<ns.length - i
    omega
   ·refine ⟨hi,by simp only [List.length_append,List.length_singleton];omega,by simp only [List.length_drop];omega,k3,?_⟩
    rw [List.append_assoc];exact g5
  ·rw [if_neg h0] at g5
   have r3:=beh_any (p.take n) (by omega) hg (by omega) (.inr (fun e=>by have:=congrArg List.length e;rw [hpl,List.length_nil] at this;omega))
   (refine' zgE hn)
   rw [←List.map_take]
   refine vC r3 ?_
   (refine' zg)
   rw [←List.map_drop,show q.map rwS++[rwS (behN hg (p.take n))]=(q++[behN hg (p.take n)]).map rwS from snoc_rws q (behN hg (p.take n)),List.length_map]
   refine AgW.go ((i+1,p.drop n,q++[behN hg (p.take n)])) [0,6,7,19,20,21] (by exact vT) ?_ ?_
   ·show ns.length - (i+1)<ns.length - i
    omega
   ·refine ⟨hi,by simp only [List.length_append,List.length_singleton];omega,by simp only [List.length_drop];omega,k3,?_⟩
    rw [List.append_assoc];exact g5
 ·rw [List.drop_of_length_le hi,rowsQ,List.append_nil] at g5
  subst g5
  (refine' zg)
  refine DoneW.frz 0 (DoneW.out ?_)
  (refine' zg)
  all_goals (try rw [List.take_of_length_le (by simp)])
theorem brows_fn (l:List Cl) (a b:Int):OFn Tryz.prog G0 175 [clL l,iv a,iv b] [] 0 (.fn 194 [.po 0 0,.po 1 0,.po 2 0]) [(0,.cell [clL l]),(1,.cell [iv a]),(2,.cell [iv b])]:=by
 refine vF mixed [0,1,2,3,4,5,6] Tryz.func175 rfl Tryz.results175 Tryz.ntmps175 ?_
 (refine' zg)
 refine DoneW.now [0,4,8] (by decide) ?_
 (refine' zg)
 exact Sub_refl _
def baE (l:List Cl) (a b:Int):Env:=[(12,.fn 194 [.po 20 0,.po 21 0,.po 22 0]),(7,.po 4 0),(6,.d (.lit (.slice none 0 0))),(0,clL l),(1,iv a),(2,iv b)]
def baS (l:List Cl) (a b:Int) (y:Yd) (x:Nat × List Cl × List Nat):St:=
 ⟨[(0,.yl 24),(1,.po 20 0),(2,.po 21 0),(3,.po 22 0),(5,iv x.1)],[(4,.cell [.so 25 1 0 x.2.2.length]),(20,.cell [clL x.2.1]),(21,.cell [iv a]),(22,.cell [iv b]),(24,.rc y none (baE l a b)),(25,siR x.2.2)],26⟩
attribute [push_cast] baS.eq_def baE.eq_def ltG.eq_def fillE Sig.del selY.eq_def
structure BaP (l:List Cl) (a b:Int) (x:Nat × List Cl × List Nat):Prop where
 le:x.1≤x.2.1.length
 ne:x.2.1≠[]→1≤x.1
 ok:ClOk x.2.1
 len:x.2.2.length+x.2.1.length≤l.length
 fin:x.2.2++x.1::restN b (x.2.1.drop x.1)=allN l a b
set_option maxHeartbeats 3200000 in
theorem bAll_fn (l:List Cl) (h:ClOk l) (a b:Int) (ha : -1000≤a∧a≤1000) (hb : -1000≤b∧b≤1000):OFn Tryz.prog G0 136 [clL l,iv a,iv b] [] 0 (.d (.sd 1 false ((allN l a b).map siD))) []:=by
 have r1:=brows_fn l a b
 have r2:=bStart_fn l h a ha
 refine vF mixed [0,1,2,6,7,8,12,13] Tryz.func136 rfl Tryz.results136 Tryz.ntmps136 ?_
 (refine' zgK r1)
 refine vRn mixed [0,1,2,3,5,11,17] Tryz.func194 rfl ?_
 (refine' zg1 r2)
 generalize hy:Yd.mk _ _ _ _=y
 refine vL (lv:=[0,1,2,3,5,11,17]) mixed (baS l a b y) (BaP l a b) (fun x=>x.2.1.length) (startN l a,l,[]) (GhW.nilC 4 0 1<|GhW.to [0,1,2,3,5] [4,20,21,22,24,41] [41] (by exact vT) rfl) ?_ ?_
 ·exact ⟨startN_le l a,fun hne=>(startN_fit a hne).1,h,by simp,rfl⟩
 rintro ⟨n,p,out⟩ ⟨g1,g2,g3,g4,g5⟩
 simp only at g1 g2 g3 g4 g5
 have hll:=h.len
 (refine' zg)
 refine vY mixed [0,1,2,6,7,8,12,13] (bv true) [(4,.cell [.so 34 1 0 (out++[n]).length]),(20,.cell [clL p]),(21,.cell [iv a]),(22,.cell [iv b]),(24,.rc y none (baE l a b)),(34,siR (out++[n]))] ?_ ?_ (hps:=by subst hy;kernel_rfl) (hl:=by subst hy;rfl) (hn1:=by subst hy;kernel_rfl) (hn2:=by subst hy;kernel_rfl) (ho1:=by subst hy;kernel_rfl) (ho2:=by subst hy;kernel_rfl)
 ·subst hy
  (refine' zg)
  rw [show out.map siD++[D.lit (Value.int IntKind.i64 (n:Int))]=(out++[n]).map siD from snoc_si out n,List.length_map]
  refine ⟨rfl,vG ⟨[50],by decide,?_⟩⟩
  exact Sub.cons rfl (Sub.cons rfl (Sub.cons rfl (Sub.cons rfl (Sub.cons rfl (Sub.cons rfl Sub.nil)))))
 ·have hpd:=g3.drop n
  have r3:=Takes_fn (p.drop n) hpd b hb
  have hdl:(p.drop n).length=p.length - n:=List.length_drop
  (refine' zg)
  ·have e0:p.drop n=[]:=by
    refine List.eq_nil_of_length_eq_zero ?_
    have h':=h
    simp only [List.length_drop,List.length_map] at *
    omega
   rw [e0,restN,dif_pos rfl] at g5
   refine vG ⟨y,none,_,rfl,?_⟩
   (refine' zg)
   rw [g5]
   refine DoneW.frz 34 (DoneW.out ?_)
   (refine' zg)
   all_goals (try rw [List.take_of_length_le (by simp)])
  ·have hne:p.drop n≠[]:=fun e=>by
    rename_i h'
    have:=congrArg List.length e
    simp only [List.length_drop,List.length_map,List.length_nil] at *
    omega
   rw [←List.map_drop]
   refine vC r3 ?_
   (refine' zg)
   have hpn:p≠[]:=fun e=>hne (by rw [e];simp)
   have hn1:=g2 hpn
   have hpp:=List.length_pos_iff.2 hpn
   rw [restN,dif_neg hne] at g5
   have htl:=takesN_le (p.drop n) b
   have htp:=takesN_pos b hne
   refine AgW.to (takesN (p.drop n) b,p.drop n,out++[n]) [0,1,2,3,5] [4,20,21,22,24,34] [34] (by exact vT) ?_ ?_
   ·show (p.drop n).length<p.length
    omega
   ·refine ⟨htl,fun _=>htp,hpd,?_,?_⟩
    ·simp only [List.length_append,List.length_singleton];omega
    ·simp only [List.append_assoc,List.cons_append,List.nil_append];exact g5
theorem wtakes_fn (l:List Cl) (h:ClOk l) (w:Int) (hw:0≤w∧w≤200):OFn Tryz.prog G0 84 [clL l,iv w] [] 0 (.d (.sd 1 false ((takesL l w).map siD))) []:=by
 have r1:=Hang_fn l h w hw
 have hi:=indent_le l
 have hh:hang l w≤8:=by unfold hang;split<;>omega
 unfold takesL
 by_cases h0:w=0
 ·rw [if_pos h0]
  refine vF mixed [0,1,4,6] Tryz.func84 rfl Tryz.results84 Tryz.ntmps84 ?_
  (refine' zg)
  refine DoneW.frz 20 (DoneW.out ?_)
  (refine' zg)
 ·rw [if_neg h0]
  have r2:=bAll_fn l h w (w - hang l w) (by omega) (by omega)
  refine vF mixed [0,1,4,6] Tryz.func84 rfl Tryz.results84 Tryz.ntmps84 ?_
  (refine' zo2 r1 r2)
theorem restN_len (room:Int) : ∀(d:Nat) (l:List Cl),l.length≤d→(restN room l).length≤l.length
 | d,l,hd=>by
  by_cases h:l=[]
  ·subst h;rw [restN,dif_pos rfl];exact Nat.le_refl _
  ·have h1:=takesN_pos room h
   have h2:=List.length_pos_iff.2 h
   have:=restN_len room (d - 1) (l.drop (takesN l room)) (by rw [List.length_drop];omega)
   rw [restN,dif_neg h,List.length_cons]
   rw [List.length_drop] at this
   omega
 termination_by d=>d
 decreasing_by
  have:=List.length_pos_iff.2 h
  omega
theorem takesL_len (l:List Cl) (w:Int):(takesL l w).length≤l.length+1:=by
 unfold takesL
 split
 ·simp
 ·rw [allN,List.length_cons]
  have:=restN_len (w - hang l w) _ (l.drop (startN l w)) (Nat.le_refl _)
  rw [List.length_drop] at this
  omega
theorem wRows_fn (l:List Cl) (h:ClOk l) (w:Int) (hw:0≤w∧w≤200):OFn Tryz.prog G0 49 [clL l,iv w] [] 0 (.tup [rwsL (rowsN l w),iv 0]) []:=by
 have h1:=takesL_len l w
 have h2:=h.len
 have:=wRows_of l h w hw (takesL l w) (by omega) (okNs_takes l w) (wtakes_fn l h w hw)
 rwa [rowsQ_is] at this
end Go.Proofs.YtkhonlnajdfhfaaGreatDoor
