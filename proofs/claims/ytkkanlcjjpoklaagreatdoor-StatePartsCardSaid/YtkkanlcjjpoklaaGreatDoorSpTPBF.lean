/- What the theorem leans on, part 32. -/
import Derived.Test.YtkkanlcjjpoklaaGreatDoorSpTPBE
set_option linter.unusedSimpArgs false
set_option linter.unusedVariables false
set_option maxRecDepth 8000
namespace Go.Proofs.YtkkanlcjjpoklaaGreatDoor
structure fU (l:List Cl):Prop where
 len:l.length≤100000000
 wd : ∀c∈l,cw c≤2
theorem fU.drop {l:List Cl} (h:fU l) (n:Nat):fU (l.drop n):=⟨by rw [List.length_drop];have:=h.len;omega,fun c hc=>h.wd c (List.mem_of_mem_drop hc)⟩
theorem fU.take {l:List Cl} (h:fU l) (n:Nat):fU (l.take n):=⟨by rw [List.length_take];have:=h.len;omega,fun c hc=>h.wd c (List.mem_of_mem_take hc)⟩
def Jg (l:List Cl) (i:Nat):St:=⟨[(3,iv (dK (l.take i))),(6,gJ l),(7,iv l.length),(8,iv i)],[],0⟩
attribute [push_cast] Jg.eq_def
theorem wY {α:Type} {p:α→Bool} : ∀ {l:List α} {i:Nat},i≤l.length→(∀(j:Nat) x,j<i→l[j]? = some x→p x=true)→(∀x,l[i]? = some x→p x=false)→l.takeWhile p=l.take i
 | [],i,h,_,_=>by simp
 | y::t,0,_,_,h=>by rw [List.takeWhile_cons,h y rfl];rfl
 | y::t,i+1,h1,h2,h3=>by
  rw [List.takeWhile_cons,h2 0 y (Nat.succ_pos _) rfl,List.take_succ_cons];rw [wY (by simpa using h1) (fun j x hj hx=>h2 (j+1) x (by omega) (by rwa [List.getElem?_cons_succ])) (fun x hx=>h3 x (by rwa [List.getElem?_cons_succ]))];rfl
theorem z9 {α:Type} {p:α→Bool} : ∀ {l:List α} {i:Nat},i≤l.length→(∀(j:Nat) x,j<i→l[j]? = some x→p x=true) → ∃k,i≤k∧l.takeWhile p=l.take k
 | [],i,h,_=>⟨i,Nat.le_refl _,by simp⟩
 | y::t,0,_,_=>⟨((y::t).takeWhile p).length,Nat.zero_le _,by
  have:=List.takeWhile_prefix (l:=y::t) p;exact (List.prefix_iff_eq_take.1 this)⟩
 | y::t,i+1,h1,h2=>by
  obtain ⟨k,hk,e⟩:=z9 (l:=t) (i:=i) (by simpa using h1) (fun j x hj hx=>h2 (j+1) x (by omega) (by rwa [List.getElem?_cons_succ]));refine ⟨k+1,by omega,?_⟩;rw [List.takeWhile_cons,h2 0 y (Nat.succ_pos _) rfl,List.take_succ_cons,e];rfl
theorem tM {α:Type} {l:List α} {p:α→Prop} {i:Nat} (h : ∀(j:Nat) x,j<i→l[j]? = some x→p x) {y:α} (hy:l[i]? = some y) (hp:p y) : ∀(j:Nat) x,j<i+1→l[j]? = some x→p x:=by
 intro j x hj hx;by_cases e:j=i
 ·subst e;rw [hy] at hx;injection hx with hx;subst hx;exact hp
 ·exact h j x (by omega) hx
theorem Ao (l:List Cl) (h:fU l):aq Tryz.prog G0 259 [gJ l] [] 0 (iv (lr l)) []:=by
 have hll:=h.len;have hwd:=l8 h.wd;unfold lr;refine vF ab [0,2,3,5,6,7,8,9,18] Tryz.func259 rfl Tryz.results259 Tryz.ntmps259 ?_;(refine' zg)
 refine vL (lv:=[0,2,3,5,6,7,8,9,18]) ab (Jg l) (fun i=>i≤l.length ∧ ∀(j:Nat) x,j<i→l[j]? = some x→dl x=true) (fun i=>l.length - i) (0) ((aN.go [3,6,7,8] (by exact vT) rfl)) ?_ ?_
 ·exact ⟨Nat.zero_le _,fun j x hj=>by omega⟩
 rintro i ⟨h1,h2⟩;have hmo:=iN l h1;rw [List.take_length] at hmo;rcases Nat.lt_or_ge i l.length with hk|hk
 ·obtain ⟨c,hc⟩ : ∃c,l[i]? = some c:=⟨_,List.getElem?_eq_getElem hk⟩
  have r1:=jN c;have e:=qd l hc;have h3:=h.wd c (List.mem_of_getElem? hc);have hb : ∀b,dl c=b→dl c=b:=fun _ h=>h
  obtain ⟨r,k,w,a⟩:=c;simp only [cw] at e h3;cases hbl:dl (r,k,w,a) with
  | false=>
   rw [hbl] at r1;have e2:=wY h1 h2 (fun x hx=>by rw [hc] at hx;injection hx with hx;subst hx;exact hbl);rw [e2];(refine' Af r1 hc)
   congr 1;omega
  | true=>
   rw [hbl] at r1;(refine' Af r1 hc)
   ·obtain ⟨k',hk',e2⟩:=z9 h1 h2;have:=iN l hk';rw [e2];congr 1;omega
   ·rw [show ((dK (l.take i):Nat):Int)+(w:Int)=(dK (l.take (i+1)):Nat) by omega];refine bH.go (i+1) [3,6,7,8] (by exact vT) ?_ ?_
    ·show l.length - (i+1)<l.length - i;omega
    ·exact ⟨hk,tM h2 hc hbl⟩
 ·obtain rfl:i=l.length:=by omega
  have e2:=wY h1 h2 (fun x hx=>by rw [List.getElem?_eq_none (Nat.le_refl _)] at hx;cases hx);rw [e2,List.take_length,Jg,List.take_length];(refine' zo)
  congr 1;omega
theorem FF (l:List Cl) (h:fU l) (n:Nat) (hn:n≤l.length):aq Tryz.prog G0 287 [gJ l,iv n] [] 0 (bv (un l n)) []:=by
 have hll:=h.len;unfold un;by_cases h0:0<n∧n<l.length
 ·obtain ⟨c,hc⟩ : ∃c,l[n - 1]? = some c:=⟨_,List.getElem?_eq_getElem (by omega)⟩
  obtain ⟨d,hd⟩ : ∃d,l[n]? = some d:=⟨_,List.getElem?_eq_getElem (by omega)⟩
  have r1:=jN c;have r2:=jN d;rw [hc,hd,decide_eq_true h0.1];simp only [Bool.true_and];obtain ⟨r,k,w,a⟩:=c;obtain ⟨r',k',w',a'⟩:=d;generalize dl (r,k,w,a)=b1 at *
  generalize dl (r',k',w',a')=b2 at *
  refine vF ab [0,1,4] Tryz.func287 rfl Tryz.results287 Tryz.ntmps287 ?_;cases b1;all_goals cases b2
  all_goals
   (refine' MC r1 r2 hc hd)
  all_goals (congr 1;rw [Bool.eq_iff_iff];simp [cw])
 ·refine vF ab [0,1,4] Tryz.func287 rfl Tryz.results287 Tryz.ntmps287 ?_;(refine' zo)
  ·rw [List.getElem?_eq_none (show l.length≤n by omega)];cases l[n - 1]? <;> simp
  ·rw [decide_eq_false (by omega)];rfl
def KS (l:List Cl) (room:Int) (n:Nat):St:=⟨[(0,gJ l),(1,iv room),(5,iv n),(6,iv (dK (l.take n)))],[],0⟩
def KT (l:List Cl) (n:Nat):St:=⟨[(0,gJ l),(5,iv n)],[],0⟩
attribute [push_cast] KS.eq_def KT.eq_def
set_option maxHeartbeats 1600000 in
theorem Dn (l:List Cl) (h:fU l) (h0:l≠[]) (room:Int) (hr : -1000≤room∧room≤1000):aq Tryz.prog G0 286 [gJ l,iv room] [] 0 (iv (eO l room)) []:=by
 have hll:=h.len;have hl0:=List.length_pos_iff.2 h0;have hwd:=l8 h.wd;refine vF ab [0,1,4,5,6,21,32,45] Tryz.func286 rfl Tryz.results286 Tryz.ntmps286 ?_;(refine' zg)
 refine vL (lv:=[0,1,4,5,6,21,32,45]) ab (KS l room) (fun n=>n≤l.length ∧ ∀j,j<n→(dK (l.take (j+1)):Int)≤room) (fun n=>l.length - n) (0) ((aN.go [0,1,5,6] (by exact vT) rfl)) ?_ ?_
 ·exact ⟨Nat.zero_le _,fun j hj=>by omega⟩
 rintro n ⟨h1,h2⟩;have hmo:=iN l h1;rw [List.take_length] at hmo;have fin:(∀c,l[n]? = some c→room<dK (l.take n)+cw c)→mU room l 0=n:=fun hx=>zr room l 0 n h1 (fun j hj=>by have:=h2 j hj;omega) (fun c hc=>by have:=hx c hc;omega)
 rcases Nat.lt_or_ge n l.length with hk|hk
 ·obtain ⟨c,hc⟩ : ∃c,l[n]? = some c:=⟨_,List.getElem?_eq_getElem hk⟩
  have e:=qd l hc;have h3:=h.wd c (List.mem_of_getElem? hc);have hcw : ∀x,l[n]? = some x→cw x=cw c:=fun x hx=>by rw [hc] at hx;injection hx with hx;rw [hx]
  obtain ⟨r,k,w,a⟩:=c;simp only [cw] at e h3 hcw;(refine' QF hc)
  ·rw [show ((dK (l.take n):Nat):Int)+(w:Int)=(dK (l.take (n+1)):Nat) by omega];refine bH.go (n+1) [0,1,5,6] (by exact vT) ?_ ?_
   ·show l.length - (n+1)<l.length - n;omega
   ·refine ⟨hk,fun j hj =>?_⟩;by_cases ej:j=n
    ·subst ej;omega
    ·exact h2 j (by omega)
  ·rw [eO,fin (fun x hx=>by have:=hcw x hx;simp only [cw];omega),if_neg (by omega)]
  ·have e3:eO l room=1+Ik (l.drop 1):=by rw [eO,fin (fun x hx=>by have:=hcw x hx;simp only [cw];omega),if_pos (by omega)]
   rw [e3];clear fin hcw;refine vL (lv:=[0,1,4,5,6,21,32,45]) ab (KT l) (fun m=>1≤m∧m≤l.length ∧ ∀(j:Nat) x,j<m - 1→(l.drop 1)[j]? = some x→(cw x==0)=true) (fun m=>l.length - m) (1) ((aN.go [0,5] (by exact vT) rfl)) ?_ ?_
   ·exact ⟨Nat.le_refl _,hl0,fun j x hj=>by omega⟩
   rintro m ⟨q1,q2,q3⟩;rcases Nat.lt_or_ge m l.length with hm|hm
   ·obtain ⟨c',hc'⟩ : ∃c',l[m]? = some c':=⟨_,List.getElem?_eq_getElem hm⟩
    have hd:(l.drop 1)[m - 1]? = some c':=by rw [List.getElem?_drop,show 1+(m - 1)=m by omega];exact hc'
    have e4:cw c'≠0→Ik (l.drop 1)=m - 1:=fun hne=>by
     rw [Ik,wY (i:=m - 1) (by rw [List.length_drop];omega) q3 (fun x hx=>by rw [hd] at hx;injection hx with hx;subst hx;simpa using hne),List.length_take,List.length_drop];omega
    have q4:=fun hz=>tM q3 hd hz
    obtain ⟨r',k',w',a'⟩:=c';simp only [cw] at e4 q4;(refine' QF hc')
    ·refine bH.go (m+1) [0,5] (by exact vT) ?_ ?_
     ·show l.length - (m+1)<l.length - m;omega
     ·refine ⟨by show 1≤m+1;omega,hm,?_⟩;have:=q4 (by simp;omega);rwa [show m - 1+1=m+1 - 1 by omega] at this
    ·rw [e4 (by omega)];congr 1;omega
   ·have e4:Ik (l.drop 1)=m - 1:=by
     rw [Ik,wY (i:=m - 1) (by rw [List.length_drop];omega) q3 (fun x hx=>by rw [List.getElem?_eq_none (by rw [List.length_drop];omega)] at hx;cases hx),List.length_take,List.length_drop];omega
    rw [e4];(refine' zo)
    congr 1;omega
 ·(refine' zo)
  rw [eO,fin (fun c hc=>by rw [List.getElem?_eq_none hk] at hc;cases hc),if_neg (by omega)]
def P7 (l:List Cl) (n k:Nat):St:=⟨[(0,gJ l),(5,iv n),(6,iv k)],[],0⟩
attribute [push_cast] P7.eq_def
theorem GA {l:List Cl} {n:Nat} : ∀k,(∀j,k<j→j≤n→un l j=false)→k≤n→oM l n=oM l k:=by
 induction n with
 | zero=>intro k _ hk;rw [show k=0 by omega]
 | succ n ih=>
  intro k h hk;rcases Nat.lt_or_ge n k with hlt|hge
  ·rw [show k=n+1 by omega]
  ·rw [oM,h (n+1) (by omega) (Nat.le_refl _),if_neg (by simp)];exact ih k (fun j h1 h2=>h j h1 (by omega)) hge
theorem Gz {l:List Cl} {k:Nat} (hk:0<k) (h:un l k=true):oM l k=k:=by
 cases k with
 | zero=>omega
 | succ k=>rw [oM,h,if_pos rfl]
theorem uf (l:List Cl) (h:fU l) (room:Int) (hr : -1000≤room∧room≤1000):aq Tryz.prog G0 284 [gJ l,iv room] [] 0 (iv (bV l room)) []:=by
 have hll:=h.len;by_cases h0:l=[]
 ·subst h0;show aq Tryz.prog G0 284 [.d (.sd 4 false []),iv room] [] 0 (iv 0) [];refine vF ab [0,1,4,5,6,9,16,20,25] Tryz.func284 rfl Tryz.results284 Tryz.ntmps284 ?_;(refine' zo)
 have hl0:=List.length_pos_iff.2 h0;have r1:=Dn l h h0 room hr;have hf:=sW (room:=room) h0;have hp:=oi l room;have hb : ∀k,k≤l.length→aq Tryz.prog G0 287 [gJ l,iv k] [] 0 (bv (un l k)) []:=fun k hk=>FF l h k hk
 unfold bV;rw [if_neg h0];generalize eO l room=n at *
 by_cases hn:n=l.length
 ·rw [if_pos hn];refine vF ab [0,1,4,5,6,9,16,20,25] Tryz.func284 rfl Tryz.results284 Tryz.ntmps284 ?_;(refine' qe r1)
  all_goals (try rw [hn])
 ·rw [if_neg hn];refine vF ab [0,1,4,5,6,9,16,20,25] Tryz.func284 rfl Tryz.results284 Tryz.ntmps284 ?_;(refine' l9 r1)
  refine vL (lv:=[0,1,4,5,6,9,16,20,25]) ab (P7 l n) (fun k=>k≤n ∧ ∀j,k<j→j≤n→un l j=false) (fun k=>k) (n) ((aN.go [0,5,6] (by exact vT) rfl)) ?_ ?_
  ·exact ⟨Nat.le_refl _,fun j h1 h2=>by omega⟩
  rintro k ⟨g1,g2⟩;rw [GA k g2 g1];rcases Nat.eq_zero_or_pos k with hk|hk
  ·subst hk;rw [oM,if_pos rfl];(refine' zo)
  ·have r2:=hb k (by omega);cases hbk:un l k with
   | true=>
    rw [hbk] at r2;rw [Gz hk hbk,if_neg (by omega)];(refine' qe r2)
   | false=>
    rw [hbk] at r2;(refine' l9 r2)
    refine bH.go (k - 1) [0,5,6] (by exact vT) ?_ ?_
    ·show k - 1<k;omega
    ·refine ⟨by show k - 1≤n;omega,fun j h1 h2 =>?_⟩;by_cases ej:j=k
     ·subst ej;exact hbk
     ·exact g2 j (by omega) h2
def PY (l:List Cl) (room:Int) (n i:Nat):St:=⟨[(0,gJ l),(1,iv room),(5,iv n),(13,gJ (l.take n)),(14,iv n),(15,iv i)],[],0⟩
attribute [push_cast] PY.eq_def
theorem Au (l:List Cl) (h:fU l) (room:Int) (hr : -1000≤room∧room≤1000):aq Tryz.prog G0 283 [gJ l,iv room] [] 0 (iv (cQ l room)) []:=by
 have hll:=h.len;have r1:=uf l h room hr;have hf:=i5 l room;have r2:l≠[]→aq Tryz.prog G0 286 [gJ l,iv room] [] 0 (iv (eO l room)) []:=fun h0=>Dn l h h0 room hr
 have hp:l=[]→bV l room=0:=fun e=>by rw [bV,if_pos e]
 have hall : ∀n,(∀(j:Nat) x,j<n→(l.take n)[j]? = some x→dl x=true)→(l.take n).all dl=true:=fun n hx=>by
  rw [List.all_eq_true];intro c hc;obtain ⟨j,hj⟩:=List.getElem?_of_mem hc;exact hx j c (by have:=(List.getElem?_eq_some_iff.1 hj).1;rw [List.length_take] at this;omega) hj
 unfold cQ;generalize bV l room=n at *
 refine vF ab [0,1,4,5,7,13,14,15,16,21,25] Tryz.func283 rfl Tryz.results283 Tryz.ntmps283 ?_;(refine' l9 r1)
 have hln:(l.take n).length=n:=by rw [List.length_take];omega
 rw [←List.map_take,show ((l.take n).map xe).length=n by rw [List.length_map,hln]];refine vL (lv:=[0,1,4,5,7,13,14,15,16,21,25]) ab (PY l room n) (fun i=>i≤n ∧ ∀(j:Nat) x,j<i→(l.take n)[j]? = some x→dl x=true) (fun i=>n - i) (0) ((aN.go [0,1,5,13,14,15] (by exact vT) rfl)) ?_ ?_
 ·exact ⟨Nat.zero_le _,fun j x hj=>by omega⟩
 rintro i ⟨g1,g2⟩;rcases Nat.lt_or_ge i n with hi|hi
 ·obtain ⟨c,hc⟩ : ∃c,(l.take n)[i]? = some c:=⟨_,List.getElem?_eq_getElem (by omega)⟩
  have r3:=jN c;have hna:dl c=false → ¬((l.take n).all dl=true∧n≠0):=fun hb hx=>by
   have:=List.all_eq_true.1 hx.1 c (List.mem_of_getElem? hc);rw [hb] at this;cases this
  have g3:=fun hb=>tM g2 hc hb
  obtain ⟨r,k,w,a⟩:=c;cases hb:dl (r,k,w,a) with
  | false=>
   rw [hb] at r3;rw [if_neg (hna hb)];(refine' Af r3 hc)
  | true=>
   rw [hb] at r3;(refine' Af r3 hc)
   refine bH.go (i+1) [0,1,5,13,14,15] (by exact vT) ?_ ?_
   ·show n - (i+1)<n - i;omega
   ·exact ⟨hi,g3 hb⟩
 ·obtain rfl:i=n:=by omega
  have ha:=hall i g2;rcases Nat.eq_zero_or_pos i with hz|hz
  ·subst hz;rw [if_neg (fun h=>h.2 rfl)];(refine' zo)
  ·have r4:=r2 (fun e=>by have:=hp e;omega);rw [if_pos ⟨ha,by omega⟩];(refine' qe r4)
theorem sf (w:Int):aq Tryz.prog G0 222 [iv w] [] 0 (bv (decide (0≤w)&&decide (w≤200))) []:=by
 refine vF ab [0,2] Tryz.func222 rfl Tryz.results222 Tryz.ntmps222 ?_;(refine' zo)
theorem yY (l:List Cl) (h:fU l) (w:Int) (hw:0≤w∧w≤200):aq Tryz.prog G0 223 [gJ l,iv w] [] 0 (iv (eP l w)) []:=by
 have r1:=Ao l h;have r2:=sf w;rw [decide_eq_true hw.1,decide_eq_true hw.2] at r2;have hi:=iV l;unfold eP;generalize lr l=n at *
 by_cases hlt:w<n+2
 ·rw [if_pos hlt];refine vF ab [0,1,4,5,16] Tryz.func223 rfl Tryz.results223 Tryz.ntmps223 ?_;(refine' Ag r1 r2)
 ·rw [if_neg hlt];refine vF ab [0,1,4,5,16] Tryz.func223 rfl Tryz.results223 Tryz.ntmps223 ?_;(refine' Ag r1 r2)
abbrev DB (a:Int):Cl:=(32,5,1,a)
def KE (l:List Cl) (a:Int) (n j:Nat):St:=⟨[(1,gJ l),(5,.so 0 4 0 j),(6,iv n),(7,iv j)],[(0,Nd (List.replicate j (DB a)))],1⟩
attribute [push_cast] KE.eq_def
theorem Aw (l:List Cl) (hl:l.length≤100000000) (n:Nat) (hn:n≤100) (c:Cl) (t:List Cl) (e:l=c::t):aq Tryz.prog G0 225 [iv n,gJ l] [] 0 (gJ (dD n l)) []:=by
 have hc:l[0]? = some c:=by rw [e];rfl
 have hl0:0<l.length:=by rw [e];exact Nat.succ_pos _
 have eb:dD n l=List.replicate n (DB c.2.2.2)++l:=by rw [e];rfl
 rw [eb];obtain ⟨r,k,w,a⟩:=c;simp only;refine vF ab [0,1,4,5,6,7,8] Tryz.func225 rfl Tryz.results225 Tryz.ntmps225 ?_;(refine' zg)
 refine vL (lv:=[0,1,4,5,6,7,8]) ab (KE l a n) (fun j=>j≤n) (fun j=>n - j) (0) (aN.nil 5 4<|(aN.go [1,5,6,7] (by exact vT) rfl)) ?_ ?_
 ·exact Nat.zero_le _
 intro j hj;rcases Nat.lt_or_ge j n with hlt|hge
 ·(refine' Cq hc)
  rw [show (List.replicate j (DB a)).map xe++[D.agg [D.lit (Value.int IntKind.i32 32),D.lit (Value.int IntKind.i64 5),D.lit (Value.int IntKind.i64 1),iD a]]=(List.replicate (j+1) (DB a)).map xe by rw [List.replicate_succ'];exact nu _ (DB a),List.length_map,List.length_replicate];refine bH.go (j+1) [1,5,6,7] (by exact vT) ?_ ?_
  ·show n - (j+1)<n - j;omega
  ·show j+1≤n;omega
 ·obtain rfl:j=n:=by omega
  (refine' zg)
  rw [←List.map_append];refine ah.frz 13 (ah.out ?_);(refine' zg)
  all_goals (try rw [List.take_of_length_le (by simp)])
theorem CI:aq Tryz.prog G0 225 [iv 0,gJ []] [] 0 (gJ []) []:=by
 show aq Tryz.prog G0 225 [iv 0,.d (.sd 4 false [])] [] 0 (.d (.sd 4 false [])) [];refine vF ab [0,1,4,5,6,7,8] Tryz.func225 rfl Tryz.results225 Tryz.ntmps225 ?_;(refine' zg)
 refine vL (lv:=[0,1,4,5,6,7,8]) ab (fun _:Unit=>(⟨[(1,.d (.sd 4 false [])),(5,.so 0 4 0 0),(6,iv 0),(7,iv 0)],[(0,.row 4 [])],1⟩:St)) (fun _=>True) (fun _=>0) (()) (aN.nil 5 4<|(aN.go [1,5,6,7] (by exact vT) rfl)) ?_ ?_
 ·trivial
 rintro ⟨⟩ -
 (refine' zg)
 refine ah.frz 13 (ah.out ?_);(refine' zg)
abbrev Em (r:List Cl):D:= .sd 4 false (r.map xe)
abbrev G5 (q:List (List Cl)):V:= .d (.sd 1 false (q.map Em))
theorem wz (q:List (List Cl)) (r:List Cl):q.map Em++[Em r]=(q++[r]).map Em:=by rw [List.map_append];rfl
def jk (h:Nat):Nat→List Cl→List Nat→List (List Cl)
 | _,_,[]=>[]
 | i,l,n::t=>(if i=0 then l.take n else dD h (l.take n))::jk h (i+1) (l.drop n) t
theorem Na (p:List Cl):dD 0 p=p:=by cases p<;>rfl
theorem y6 (p:List Cl) (hl:p.length≤100000000) (n:Nat) (hn:n≤100) (h:n=0∨p≠[]):aq Tryz.prog G0 225 [iv n,gJ p] [] 0 (gJ (dD n p)) []:=by
 rcases p with _|⟨c,t⟩
 ·rcases h with rfl|h
  ·exact CI
  ·exact (h rfl).elim
 ·exact Aw (c::t) hl n hn c t rfl
def D1:Nat→List Cl→List Nat→Prop
 | _,_,[]=>True
 | i,l,n::t=>n≤l.length∧(i=0∨0<n)∧D1 (i+1) (l.drop n) t
theorem rK (h:Nat) : ∀(ns:List Nat) (i:Nat) (l:List Cl),0<i→jk h i l ns=(cE l ns).map (dD h)
 | [],_,_,_=>rfl
 | n::t,i,l,hi=>by rw [jk,if_neg (by omega),cE,List.map_cons,rK h t (i+1) _ (Nat.succ_pos _)]
theorem Ei (l:List Cl) (w:Int):jk (eP l w) 0 l (bb l w)=bP l w:=by
 unfold bP;cases bb l w with
 | nil=>rfl
 | cons n t=>rw [jk,if_pos rfl,cE,rK _ _ _ _ (Nat.succ_pos _)]
theorem rD (room:Int) : ∀(d:Nat) (l:List Cl) (i:Nat),l.length≤d→D1 i l (cx room l)
 | d,l,i,hd=>by
  by_cases h:l=[]
  ·subst h;rw [cx,dif_pos rfl];trivial
  ·have h1:=bW room h;have h2:=List.length_pos_iff.2 h;rw [cx,dif_neg h];exact ⟨i5 l room,.inr h1,rD room (d - 1) _ (i+1) (by rw [List.length_drop];omega)⟩
 termination_by d=>d
 decreasing_by
  have:=List.length_pos_iff.2 h;omega
theorem yp (l:List Cl) (w:Int):D1 0 l (bb l w):=by
 unfold bb;split
 ·exact ⟨Nat.le_refl _,.inl rfl,trivial⟩
 ·exact ⟨rU l w,.inl rfl,rD _ _ _ _ (Nat.le_refl _)⟩
def QD (h:Nat) (ns:List Nat) (x:Nat × List Cl × List (List Cl)):St:=
 ⟨[(0,gJ x.2.1),(6,.so 0 1 0 x.2.2.length),(7,iv h),(19,.d (.sd 1 false (ns.map xh))),(20,iv ns.length),(21,iv x.1)],[(0,.row 1 (x.2.2.map Em))],1⟩
attribute [push_cast] QD.eq_def
set_option maxHeartbeats 1600000 in
theorem E3 (l:List Cl) (h:fU l) (w:Int) (hw:0≤w∧w≤200) (ns:List Nat) (hns:ns.length≤100000001) (hok:D1 0 l ns) (rt:aq Tryz.prog G0 224 [gJ l,iv w] [] 0 (.d (.sd 1 false (ns.map xh))) []) :
 aq Tryz.prog G0 164 [gJ l,iv w] [] 0 (.tup [G5 (jk (eP l w) 0 l ns),iv 0]) []:=by
 have r1:=sf w;have r2:=yY l h w hw;rw [decide_eq_true hw.1,decide_eq_true hw.2] at r1;have hh:eP l w≤8:=by have:=iV l;unfold eP;split<;>omega
 have hll:=h.len;generalize eP l w=hg at *
 refine vF ab [0,1,4,5,6,7,8,9,10,13,19,20,21,22,28] Tryz.func164 rfl Tryz.results164 Tryz.ntmps164 ?_;(refine' M4 r1 r2 rt)
 refine vL (lv:=[0,1,4,5,6,7,8,9,10,13,19,20,21,22,28]) ab (QD hg ns) (fun x=>x.1≤ns.length∧x.2.2.length=x.1∧x.2.1.length≤l.length∧D1 x.1 x.2.1 (ns.drop x.1)∧x.2.2++jk hg x.1 x.2.1 (ns.drop x.1)=jk hg 0 l ns) (fun x=>ns.length - x.1) ((0,l,[])) (aN.nil 6 1<|(aN.go [0,6,7,19,20,21] (by exact vT) rfl)) ?_ ?_
 ·exact ⟨Nat.zero_le _,rfl,Nat.le_refl _,hok,rfl⟩
 rintro ⟨i,p,q⟩ ⟨g1,g2,g3,g4,g5⟩;simp only at g1 g2 g3 g4 g5;rcases Nat.lt_or_ge i ns.length with hi|hi
 ·obtain ⟨n,hn⟩ : ∃n,ns[i]? = some n:=⟨_,List.getElem?_eq_getElem hi⟩
  have hdr:ns.drop i=n::ns.drop (i+1):=by rw [List.drop_eq_getElem_cons hi,(List.getElem?_eq_some_iff.1 hn).2]
  rw [hdr] at g4 g5;obtain ⟨k1,k2,k3⟩:=g4;rw [jk] at g5;have hpl:(p.take n).length=n:=by rw [List.length_take];omega
  by_cases h0:i=0
  ·rw [if_pos h0] at g5;have r3:=y6 (p.take n) (by omega) 0 (by omega) (.inl rfl);rw [Na] at r3;(refine' Cq hn)
   rw [←List.map_take];refine vC r3 ?_;(refine' zg)
   rw [←List.map_drop,show q.map Em++[Em (p.take n)]=(q++[p.take n]).map Em from wz q (p.take n),List.length_map];refine bH.go ((i+1,p.drop n,q++[p.take n])) [0,6,7,19,20,21] (by exact vT) ?_ ?_
   ·show ns.length - (i+1)<ns.length - i;omega
   ·refine ⟨hi,by simp only [List.length_append,List.length_singleton];omega,by simp only [List.length_drop];omega,k3,?_⟩;rw [List.append_assoc];exact g5
  ·rw [if_neg h0] at g5;have r3:=y6 (p.take n) (by omega) hg (by omega) (.inr (fun e=>by have:=congrArg List.length e;rw [hpl,List.length_nil] at this;omega));(refine' Cq hn)
   rw [←List.map_take];refine vC r3 ?_;(refine' zg)
   rw [←List.map_drop,show q.map Em++[Em (dD hg (p.take n))]=(q++[dD hg (p.take n)]).map Em from wz q (dD hg (p.take n)),List.length_map];refine bH.go ((i+1,p.drop n,q++[dD hg (p.take n)])) [0,6,7,19,20,21] (by exact vT) ?_ ?_
   ·show ns.length - (i+1)<ns.length - i;omega
   ·refine ⟨hi,by simp only [List.length_append,List.length_singleton];omega,by simp only [List.length_drop];omega,k3,?_⟩;rw [List.append_assoc];exact g5
 ·rw [List.drop_of_length_le hi,jk,List.append_nil] at g5;subst g5;(refine' zg)
  refine ah.frz 0 (ah.out ?_);(refine' zg)
  all_goals (try rw [List.take_of_length_le (by simp)])
theorem CQ (l:List Cl) (a b:Int):aq Tryz.prog G0 277 [gJ l,iv a,iv b] [] 0 (.fn 282 [.po 0 0,.po 1 0,.po 2 0]) [(0,.cell [gJ l]),(1,.cell [iv a]),(2,.cell [iv b])]:=by
 refine vF ab [0,1,2,3,4,5,6] Tryz.func277 rfl Tryz.results277 Tryz.ntmps277 ?_;(refine' zg)
 refine ah.now [0,4,8] (by decide) ?_;(refine' zg)
 exact ay _
def M8 (l:List Cl) (a b:Int):aC:=[(12,.fn 282 [.po 20 0,.po 21 0,.po 22 0]),(7,.po 4 0),(6,.d (.lit (.slice none 0 0))),(0,gJ l),(1,iv a),(2,iv b)]
def Pw (l:List Cl) (a b:Int) (y:Yd) (x:Nat × List Cl × List Nat):St:=
 ⟨[(0,.yl 24),(1,.po 20 0),(2,.po 21 0),(3,.po 22 0),(5,iv x.1)],[(4,.cell [.so 25 1 0 x.2.2.length]),(20,.cell [gJ x.2.1]),(21,.cell [iv a]),(22,.cell [iv b]),(24,.rc y none (M8 l a b)),(25,Ih x.2.2)],26⟩
attribute [push_cast] Pw.eq_def M8.eq_def gL.eq_def g8 ae.del jG.eq_def
structure QI (l:List Cl) (a b:Int) (x:Nat × List Cl × List Nat):Prop where
 le:x.1≤x.2.1.length
 ne:x.2.1≠[]→1≤x.1
 ok:fU x.2.1
 len:x.2.2.length+x.2.1.length≤l.length
 fin:x.2.2++x.1::cx b (x.2.1.drop x.1)=qj l a b
set_option maxHeartbeats 3200000 in
theorem Fz (l:List Cl) (h:fU l) (a b:Int) (ha : -1000≤a∧a≤1000) (hb : -1000≤b∧b≤1000):aq Tryz.prog G0 260 [gJ l,iv a,iv b] [] 0 (.d (.sd 1 false ((qj l a b).map xh))) []:=by
 have r1:=CQ l a b;have r2:=Au l h a ha;refine vF ab [0,1,2,6,7,8,12,13] Tryz.func260 rfl Tryz.results260 Tryz.ntmps260 ?_;(refine' Ku r1)
 refine QB ab [0,1,2,3,5,11,17] Tryz.func282 rfl ?_;(refine' l9 r2)
 generalize hy:Yd.mk _ _ _ _=y;refine vL (lv:=[0,1,2,3,5,11,17]) ab (Pw l a b y) (QI l a b) (fun x=>x.2.1.length) (cQ l a,l,[]) (aN.nilC 4 0 1<|aN.to [0,1,2,3,5] [4,20,21,22,24,41] [41] (by exact vT) rfl) ?_ ?_
 ·exact ⟨rU l a,fun hne=>(jJ a hne).1,h,by simp,rfl⟩
 rintro ⟨n,p,out⟩ ⟨g1,g2,g3,g4,g5⟩;simp only at g1 g2 g3 g4 g5;have hll:=h.len;(refine' zg)
 refine vY ab [0,1,2,6,7,8,12,13] (bv true) [(4,.cell [.so 34 1 0 (out++[n]).length]),(20,.cell [gJ p]),(21,.cell [iv a]),(22,.cell [iv b]),(24,.rc y none (M8 l a b)),(34,Ih (out++[n]))] ?_ ?_ (hps:=by subst hy;kernel_rfl) (hl:=by subst hy;rfl) (hn1:=by subst hy;kernel_rfl) (hn2:=by subst hy;kernel_rfl) (ho1:=by subst hy;kernel_rfl) (ho2:=by subst hy;kernel_rfl)
 ·subst hy;(refine' zg)
  rw [show out.map xh++[D.lit (Value.int IntKind.i64 (n:Int))]=(out++[n]).map xh from zX out n,List.length_map];refine ⟨rfl,vG ⟨[50],by decide,?_⟩⟩;exact ar.cons rfl (ar.cons rfl (ar.cons rfl (ar.cons rfl (ar.cons rfl (ar.cons rfl ar.nil)))))
 ·have hpd:=g3.drop n;have r3:=uf (p.drop n) hpd b hb;have hdl:(p.drop n).length=p.length - n:=List.length_drop;(refine' zg)
  ·have e0:p.drop n=[]:=by
    refine List.eq_nil_of_length_eq_zero ?_;have h':=h;simp only [List.length_drop,List.length_map] at *
    omega
   rw [e0,cx,dif_pos rfl] at g5;refine vG ⟨y,none,_,rfl,?_⟩;(refine' zg)
   rw [g5];refine ah.frz 34 (ah.out ?_);(refine' zg)
   all_goals (try rw [List.take_of_length_le (by simp)])
  ·have hne:p.drop n≠[]:=fun e=>by
    rename_i h';have:=congrArg List.length e;simp only [List.length_drop,List.length_map,List.length_nil] at *
    omega
   rw [←List.map_drop];refine vC r3 ?_;(refine' zg)
   have hpn:p≠[]:=fun e=>hne (by rw [e];simp)
   have hn1:=g2 hpn;have hpp:=List.length_pos_iff.2 hpn;rw [cx,dif_neg hne] at g5;have htl:=i5 (p.drop n) b;have htp:=bW b hne;refine bH.to (bV (p.drop n) b,p.drop n,out++[n]) [0,1,2,3,5] [4,20,21,22,24,34] [34] (by exact vT) ?_ ?_
   ·show (p.drop n).length<p.length;omega
   ·refine ⟨htl,fun _=>htp,hpd,?_,?_⟩
    ·simp only [List.length_append,List.length_singleton];omega
    ·simp only [List.append_assoc,List.cons_append,List.nil_append];exact g5
theorem Ch (l:List Cl) (h:fU l) (w:Int) (hw:0≤w∧w≤200):aq Tryz.prog G0 224 [gJ l,iv w] [] 0 (.d (.sd 1 false ((bb l w).map xh))) []:=by
 have r1:=yY l h w hw;have hi:=iV l;have hh:eP l w≤8:=by unfold eP;split<;>omega
 unfold bb;by_cases h0:w=0
 ·rw [if_pos h0];refine vF ab [0,1,4,6] Tryz.func224 rfl Tryz.results224 Tryz.ntmps224 ?_;(refine' zg)
  refine ah.frz 20 (ah.out ?_);(refine' zg)
 ·rw [if_neg h0];have r2:=Fz l h w (w - eP l w) (by omega) (by omega);refine vF ab [0,1,4,6] Tryz.func224 rfl Tryz.results224 Tryz.ntmps224 ?_;(refine' Ag r1 r2)
theorem rJ (room:Int) : ∀(d:Nat) (l:List Cl),l.length≤d→(cx room l).length≤l.length
 | d,l,hd=>by
  by_cases h:l=[]
  ·subst h;rw [cx,dif_pos rfl];exact Nat.le_refl _
  ·have h1:=bW room h;have h2:=List.length_pos_iff.2 h;have:=rJ room (d - 1) (l.drop (bV l room)) (by rw [List.length_drop];omega);rw [cx,dif_neg h,List.length_cons];rw [List.length_drop] at this;omega
 termination_by d=>d
 decreasing_by
  have:=List.length_pos_iff.2 h;omega
theorem pV (l:List Cl) (w:Int):(bb l w).length≤l.length+1:=by
 unfold bb;split
 ·simp
 ·rw [qj,List.length_cons];have:=rJ (w - eP l w) _ (l.drop (cQ l w)) (Nat.le_refl _);rw [List.length_drop] at this;omega
theorem E2 (l:List Cl) (h:fU l) (w:Int) (hw:0≤w∧w≤200):aq Tryz.prog G0 164 [gJ l,iv w] [] 0 (.tup [G5 (bP l w),iv 0]) []:=by
 have h1:=pV l w;have h2:=h.len;have:=E3 l h w hw (bb l w) (by omega) (yp l w) (Ch l h w hw);rwa [Ei] at this
end Go.Proofs.YtkkanlcjjpoklaaGreatDoor
