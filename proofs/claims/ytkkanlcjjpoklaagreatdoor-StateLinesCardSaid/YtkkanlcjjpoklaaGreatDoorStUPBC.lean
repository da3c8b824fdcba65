/- What the theorem leans on, part 29. -/
import Derived.Test.YtkkanlcjjpoklaaGreatDoorStUPBB
set_option linter.unusedSimpArgs false
set_option linter.unusedVariables false
set_option maxRecDepth 8000
namespace Go.Proofs.YtkkanlcjjpoklaaGreatDoor
structure dH (l:List Cl):Prop where
 len:l.length≤100000000
 wd : ∀c∈l,cw c≤2
theorem dH.drop {l:List Cl} (h:dH l) (n:Nat):dH (l.drop n):=⟨by rw [List.length_drop];have:=h.len;omega,fun c hc=>h.wd c (List.mem_of_mem_drop hc)⟩
theorem dH.take {l:List Cl} (h:dH l) (n:Nat):dH (l.take n):=⟨by rw [List.length_take];have:=h.len;omega,fun c hc=>h.wd c (List.mem_of_mem_take hc)⟩
def Pp (l:List Cl) (i:Nat):St:=⟨[(3,iv (cZ (l.take i))),(6,cM l),(7,iv l.length),(8,iv i)],[],0⟩
attribute [push_cast] Pp.eq_def
theorem pn {α:Type} {p:α→Bool} : ∀ {l:List α} {i:Nat},i≤l.length→(∀(j:Nat) x,j<i→l[j]? = some x→p x=true)→(∀x,l[i]? = some x→p x=false)→l.takeWhile p=l.take i
 | [],i,h,_,_=>by simp
 | y::t,0,_,_,h=>by rw [List.takeWhile_cons,h y rfl];rfl
 | y::t,i+1,h1,h2,h3=>by
  rw [List.takeWhile_cons,h2 0 y (Nat.succ_pos _) rfl,List.take_succ_cons];rw [pn (by simpa using h1) (fun j x hj hx=>h2 (j+1) x (by omega) (by rwa [List.getElem?_cons_succ])) (fun x hx=>h3 x (by rwa [List.getElem?_cons_succ]))];rfl
theorem ER {α:Type} {p:α→Bool} : ∀ {l:List α} {i:Nat},i≤l.length→(∀(j:Nat) x,j<i→l[j]? = some x→p x=true) → ∃k,i≤k∧l.takeWhile p=l.take k
 | [],i,h,_=>⟨i,Nat.le_refl _,by simp⟩
 | y::t,0,_,_=>⟨((y::t).takeWhile p).length,Nat.zero_le _,by
  have:=List.takeWhile_prefix (l:=y::t) p;exact (List.prefix_iff_eq_take.1 this)⟩
 | y::t,i+1,h1,h2=>by
  obtain ⟨k,hk,e⟩:=ER (l:=t) (i:=i) (by simpa using h1) (fun j x hj hx=>h2 (j+1) x (by omega) (by rwa [List.getElem?_cons_succ]));refine ⟨k+1,by omega,?_⟩;rw [List.takeWhile_cons,h2 0 y (Nat.succ_pos _) rfl,List.take_succ_cons,e];rfl
theorem i4 {α:Type} {l:List α} {p:α→Prop} {i:Nat} (h : ∀(j:Nat) x,j<i→l[j]? = some x→p x) {y:α} (hy:l[i]? = some y) (hp:p y) : ∀(j:Nat) x,j<i+1→l[j]? = some x→p x:=by
 intro j x hj hx;by_cases e:j=i
 ·subst e;rw [hy] at hx;injection hx with hx;subst hx;exact hp
 ·exact h j x (by omega) hx
theorem E2 (l:List Cl) (h:dH l):an Tryz.prog G0 259 [cM l] [] 0 (iv (iP l)) []:=by
 have hll:=h.len;have hwd:=gL h.wd;unfold iP;refine vF ab [0,2,3,5,6,7,8,9,18] Tryz.func259 rfl Tryz.results259 Tryz.ntmps259 ?_;(refine' zg)
 refine vL (lv:=[0,2,3,5,6,7,8,9,18]) ab (Pp l) (fun i=>i≤l.length ∧ ∀(j:Nat) x,j<i→l[j]? = some x→bL x=true) (fun i=>l.length - i) (0) ((aC.go [3,6,7,8] (by exact vT) rfl)) ?_ ?_
 ·exact ⟨Nat.zero_le _,fun j x hj=>by omega⟩
 rintro i ⟨h1,h2⟩;have hmo:=iu l h1;rw [List.take_length] at hmo;rcases Nat.lt_or_ge i l.length with hk|hk
 ·obtain ⟨c,hc⟩ : ∃c,l[i]? = some c:=⟨_,List.getElem?_eq_getElem hk⟩
  have r1:=lU c;have e:=j8 l hc;have h3:=h.wd c (List.mem_of_getElem? hc);have hb : ∀b,bL c=b→bL c=b:=fun _ h=>h
  obtain ⟨r,k,w,a⟩:=c;simp only [cw] at e h3;cases hbl:bL (r,k,w,a) with
  | false=>
   rw [hbl] at r1;have e2:=pn h1 h2 (fun x hx=>by rw [hc] at hx;injection hx with hx;subst hx;exact hbl);rw [e2];(refine' ni r1 hc)
   congr 1;omega
  | true=>
   rw [hbl] at r1;(refine' ni r1 hc)
   ·obtain ⟨k',hk',e2⟩:=ER h1 h2;have:=iu l hk';rw [e2];congr 1;omega
   ·rw [show ((cZ (l.take i):Nat):Int)+(w:Int)=(cZ (l.take (i+1)):Nat) by omega];refine aG.go (i+1) [3,6,7,8] (by exact vT) ?_ ?_
    ·show l.length - (i+1)<l.length - i;omega
    ·exact ⟨hk,i4 h2 hc hbl⟩
 ·obtain rfl:i=l.length:=by omega
  have e2:=pn h1 h2 (fun x hx=>by rw [List.getElem?_eq_none (Nat.le_refl _)] at hx;cases hx);rw [e2,List.take_length,Pp,List.take_length];(refine' zo)
  congr 1;omega
theorem LA (l:List Cl) (h:dH l) (n:Nat) (hn:n≤l.length):an Tryz.prog G0 287 [cM l,iv n] [] 0 (bv (nu l n)) []:=by
 have hll:=h.len;unfold nu;by_cases h0:0<n∧n<l.length
 ·obtain ⟨c,hc⟩ : ∃c,l[n - 1]? = some c:=⟨_,List.getElem?_eq_getElem (by omega)⟩
  obtain ⟨d,hd⟩ : ∃d,l[n]? = some d:=⟨_,List.getElem?_eq_getElem (by omega)⟩
  have r1:=lU c;have r2:=lU d;rw [hc,hd,decide_eq_true h0.1];simp only [Bool.true_and];obtain ⟨r,k,w,a⟩:=c;obtain ⟨r',k',w',a'⟩:=d;generalize bL (r,k,w,a)=b1 at *
  generalize bL (r',k',w',a')=b2 at *
  refine vF ab [0,1,4] Tryz.func287 rfl Tryz.results287 Tryz.ntmps287 ?_;cases b1;all_goals cases b2
  all_goals
   (refine' Ou r1 r2 hc hd)
  all_goals (congr 1;rw [Bool.eq_iff_iff];simp [cw])
 ·refine vF ab [0,1,4] Tryz.func287 rfl Tryz.results287 Tryz.ntmps287 ?_;(refine' zo)
  ·rw [List.getElem?_eq_none (show l.length≤n by omega)];cases l[n - 1]? <;> simp
  ·rw [decide_eq_false (by omega)];rfl
def Rs (l:List Cl) (room:Int) (n:Nat):St:=⟨[(0,cM l),(1,iv room),(5,iv n),(6,iv (cZ (l.take n)))],[],0⟩
def Rt (l:List Cl) (n:Nat):St:=⟨[(0,cM l),(5,iv n)],[],0⟩
attribute [push_cast] Rs.eq_def Rt.eq_def
set_option maxHeartbeats 1600000 in
theorem IT (l:List Cl) (h:dH l) (h0:l≠[]) (room:Int) (hr : -1000≤room∧room≤1000):an Tryz.prog G0 286 [cM l,iv room] [] 0 (iv (d9 l room)) []:=by
 have hll:=h.len;have hl0:=List.length_pos_iff.2 h0;have hwd:=gL h.wd;refine vF ab [0,1,4,5,6,21,32,45] Tryz.func286 rfl Tryz.results286 Tryz.ntmps286 ?_;(refine' zg)
 refine vL (lv:=[0,1,4,5,6,21,32,45]) ab (Rs l room) (fun n=>n≤l.length ∧ ∀j,j<n→(cZ (l.take (j+1)):Int)≤room) (fun n=>l.length - n) (0) ((aC.go [0,1,5,6] (by exact vT) rfl)) ?_ ?_
 ·exact ⟨Nat.zero_le _,fun j hj=>by omega⟩
 rintro n ⟨h1,h2⟩;have hmo:=iu l h1;rw [List.take_length] at hmo;have fin:(∀c,l[n]? = some c→room<cZ (l.take n)+cw c)→nG room l 0=n:=fun hx=>xm room l 0 n h1 (fun j hj=>by have:=h2 j hj;omega) (fun c hc=>by have:=hx c hc;omega)
 rcases Nat.lt_or_ge n l.length with hk|hk
 ·obtain ⟨c,hc⟩ : ∃c,l[n]? = some c:=⟨_,List.getElem?_eq_getElem hk⟩
  have e:=j8 l hc;have h3:=h.wd c (List.mem_of_getElem? hc);have hcw : ∀x,l[n]? = some x→cw x=cw c:=fun x hx=>by rw [hc] at hx;injection hx with hx;rw [hx]
  obtain ⟨r,k,w,a⟩:=c;simp only [cw] at e h3 hcw;(refine' QA hc)
  ·rw [show ((cZ (l.take n):Nat):Int)+(w:Int)=(cZ (l.take (n+1)):Nat) by omega];refine aG.go (n+1) [0,1,5,6] (by exact vT) ?_ ?_
   ·show l.length - (n+1)<l.length - n;omega
   ·refine ⟨hk,fun j hj =>?_⟩;by_cases ej:j=n
    ·subst ej;omega
    ·exact h2 j (by omega)
  ·rw [d9,fin (fun x hx=>by have:=hcw x hx;simp only [cw];omega),if_neg (by omega)]
  ·have e3:d9 l room=1+HB (l.drop 1):=by rw [d9,fin (fun x hx=>by have:=hcw x hx;simp only [cw];omega),if_pos (by omega)]
   rw [e3];clear fin hcw;refine vL (lv:=[0,1,4,5,6,21,32,45]) ab (Rt l) (fun m=>1≤m∧m≤l.length ∧ ∀(j:Nat) x,j<m - 1→(l.drop 1)[j]? = some x→(cw x==0)=true) (fun m=>l.length - m) (1) ((aC.go [0,5] (by exact vT) rfl)) ?_ ?_
   ·exact ⟨Nat.le_refl _,hl0,fun j x hj=>by omega⟩
   rintro m ⟨q1,q2,q3⟩;rcases Nat.lt_or_ge m l.length with hm|hm
   ·obtain ⟨c',hc'⟩ : ∃c',l[m]? = some c':=⟨_,List.getElem?_eq_getElem hm⟩
    have hd:(l.drop 1)[m - 1]? = some c':=by rw [List.getElem?_drop,show 1+(m - 1)=m by omega];exact hc'
    have e4:cw c'≠0→HB (l.drop 1)=m - 1:=fun hne=>by
     rw [HB,pn (i:=m - 1) (by rw [List.length_drop];omega) q3 (fun x hx=>by rw [hd] at hx;injection hx with hx;subst hx;simpa using hne),List.length_take,List.length_drop];omega
    have q4:=fun hz=>i4 q3 hd hz
    obtain ⟨r',k',w',a'⟩:=c';simp only [cw] at e4 q4;(refine' QA hc')
    ·refine aG.go (m+1) [0,5] (by exact vT) ?_ ?_
     ·show l.length - (m+1)<l.length - m;omega
     ·refine ⟨by show 1≤m+1;omega,hm,?_⟩;have:=q4 (by simp;omega);rwa [show m - 1+1=m+1 - 1 by omega] at this
    ·rw [e4 (by omega)];congr 1;omega
   ·have e4:HB (l.drop 1)=m - 1:=by
     rw [HB,pn (i:=m - 1) (by rw [List.length_drop];omega) q3 (fun x hx=>by rw [List.getElem?_eq_none (by rw [List.length_drop];omega)] at hx;cases hx),List.length_take,List.length_drop];omega
    rw [e4];(refine' zo)
    congr 1;omega
 ·(refine' zo)
  rw [d9,fin (fun c hc=>by rw [List.getElem?_eq_none hk] at hc;cases hc),if_neg (by omega)]
def YI (l:List Cl) (n k:Nat):St:=⟨[(0,cM l),(5,iv n),(6,iv k)],[],0⟩
attribute [push_cast] YI.eq_def
theorem Mu {l:List Cl} {n:Nat} : ∀k,(∀j,k<j→j≤n→nu l j=false)→k≤n→lD l n=lD l k:=by
 induction n with
 | zero=>intro k _ hk;rw [show k=0 by omega]
 | succ n ih=>
  intro k h hk;rcases Nat.lt_or_ge n k with hlt|hge
  ·rw [show k=n+1 by omega]
  ·rw [lD,h (n+1) (by omega) (Nat.le_refl _),if_neg (by simp)];exact ih k (fun j h1 h2=>h j h1 (by omega)) hge
theorem Mt {l:List Cl} {k:Nat} (hk:0<k) (h:nu l k=true):lD l k=k:=by
 cases k with
 | zero=>omega
 | succ k=>rw [lD,h,if_pos rfl]
theorem yL (l:List Cl) (h:dH l) (room:Int) (hr : -1000≤room∧room≤1000):an Tryz.prog G0 284 [cM l,iv room] [] 0 (iv (bJ l room)) []:=by
 have hll:=h.len;by_cases h0:l=[]
 ·subst h0;show an Tryz.prog G0 284 [.d (.sd 4 false []),iv room] [] 0 (iv 0) [];refine vF ab [0,1,4,5,6,9,16,20,25] Tryz.func284 rfl Tryz.results284 Tryz.ntmps284 ?_;(refine' zo)
 have hl0:=List.length_pos_iff.2 h0;have r1:=IT l h h0 room hr;have hf:=pZ (room:=room) h0;have hp:=mq l room;have hb : ∀k,k≤l.length→an Tryz.prog G0 287 [cM l,iv k] [] 0 (bv (nu l k)) []:=fun k hk=>LA l h k hk
 unfold bJ;rw [if_neg h0];generalize d9 l room=n at *
 by_cases hn:n=l.length
 ·rw [if_pos hn];refine vF ab [0,1,4,5,6,9,16,20,25] Tryz.func284 rfl Tryz.results284 Tryz.ntmps284 ?_;(refine' kW r1)
  all_goals (try rw [hn])
 ·rw [if_neg hn];refine vF ab [0,1,4,5,6,9,16,20,25] Tryz.func284 rfl Tryz.results284 Tryz.ntmps284 ?_;(refine' fj r1)
  refine vL (lv:=[0,1,4,5,6,9,16,20,25]) ab (YI l n) (fun k=>k≤n ∧ ∀j,k<j→j≤n→nu l j=false) (fun k=>k) (n) ((aC.go [0,5,6] (by exact vT) rfl)) ?_ ?_
  ·exact ⟨Nat.le_refl _,fun j h1 h2=>by omega⟩
  rintro k ⟨g1,g2⟩;rw [Mu k g2 g1];rcases Nat.eq_zero_or_pos k with hk|hk
  ·subst hk;rw [lD,if_pos rfl];(refine' zo)
  ·have r2:=hb k (by omega);cases hbk:nu l k with
   | true=>
    rw [hbk] at r2;rw [Mt hk hbk,if_neg (by omega)];(refine' kW r2)
   | false=>
    rw [hbk] at r2;(refine' fj r2)
    refine aG.go (k - 1) [0,5,6] (by exact vT) ?_ ?_
    ·show k - 1<k;omega
    ·refine ⟨by show k - 1≤n;omega,fun j h1 h2 =>?_⟩;by_cases ej:j=k
     ·subst ej;exact hbk
     ·exact g2 j (by omega) h2
def Yo (l:List Cl) (room:Int) (n i:Nat):St:=⟨[(0,cM l),(1,iv room),(5,iv n),(13,cM (l.take n)),(14,iv n),(15,iv i)],[],0⟩
attribute [push_cast] Yo.eq_def
theorem Fa (l:List Cl) (h:dH l) (room:Int) (hr : -1000≤room∧room≤1000):an Tryz.prog G0 283 [cM l,iv room] [] 0 (iv (cC l room)) []:=by
 have hll:=h.len;have r1:=yL l h room hr;have hf:=fH l room;have r2:l≠[]→an Tryz.prog G0 286 [cM l,iv room] [] 0 (iv (d9 l room)) []:=fun h0=>IT l h h0 room hr
 have hp:l=[]→bJ l room=0:=fun e=>by rw [bJ,if_pos e]
 have hall : ∀n,(∀(j:Nat) x,j<n→(l.take n)[j]? = some x→bL x=true)→(l.take n).all bL=true:=fun n hx=>by
  rw [List.all_eq_true];intro c hc;obtain ⟨j,hj⟩:=List.getElem?_of_mem hc;exact hx j c (by have:=(List.getElem?_eq_some_iff.1 hj).1;rw [List.length_take] at this;omega) hj
 unfold cC;generalize bJ l room=n at *
 refine vF ab [0,1,4,5,7,13,14,15,16,21,25] Tryz.func283 rfl Tryz.results283 Tryz.ntmps283 ?_;(refine' fj r1)
 have hln:(l.take n).length=n:=by rw [List.length_take];omega
 rw [←List.map_take,show ((l.take n).map gN).length=n by rw [List.length_map,hln]];refine vL (lv:=[0,1,4,5,7,13,14,15,16,21,25]) ab (Yo l room n) (fun i=>i≤n ∧ ∀(j:Nat) x,j<i→(l.take n)[j]? = some x→bL x=true) (fun i=>n - i) (0) ((aC.go [0,1,5,13,14,15] (by exact vT) rfl)) ?_ ?_
 ·exact ⟨Nat.zero_le _,fun j x hj=>by omega⟩
 rintro i ⟨g1,g2⟩;rcases Nat.lt_or_ge i n with hi|hi
 ·obtain ⟨c,hc⟩ : ∃c,(l.take n)[i]? = some c:=⟨_,List.getElem?_eq_getElem (by omega)⟩
  have r3:=lU c;have hna:bL c=false → ¬((l.take n).all bL=true∧n≠0):=fun hb hx=>by
   have:=List.all_eq_true.1 hx.1 c (List.mem_of_getElem? hc);rw [hb] at this;cases this
  have g3:=fun hb=>i4 g2 hc hb
  obtain ⟨r,k,w,a⟩:=c;cases hb:bL (r,k,w,a) with
  | false=>
   rw [hb] at r3;rw [if_neg (hna hb)];(refine' ni r3 hc)
  | true=>
   rw [hb] at r3;(refine' ni r3 hc)
   refine aG.go (i+1) [0,1,5,13,14,15] (by exact vT) ?_ ?_
   ·show n - (i+1)<n - i;omega
   ·exact ⟨hi,g3 hb⟩
 ·obtain rfl:i=n:=by omega
  have ha:=hall i g2;rcases Nat.eq_zero_or_pos i with hz|hz
  ·subst hz;rw [if_neg (fun h=>h.2 rfl)];(refine' zo)
  ·have r4:=r2 (fun e=>by have:=hp e;omega);rw [if_pos ⟨ha,by omega⟩];(refine' kW r4)
theorem wI (w:Int):an Tryz.prog G0 222 [iv w] [] 0 (bv (decide (0≤w)&&decide (w≤200))) []:=by
 refine vF ab [0,2] Tryz.func222 rfl Tryz.results222 Tryz.ntmps222 ?_;(refine' zo)
theorem DE (l:List Cl) (h:dH l) (w:Int) (hw:0≤w∧w≤200):an Tryz.prog G0 223 [cM l,iv w] [] 0 (iv (dD l w)) []:=by
 have r1:=E2 l h;have r2:=wI w;rw [decide_eq_true hw.1,decide_eq_true hw.2] at r2;have hi:=eF l;unfold dD;generalize iP l=n at *
 by_cases hlt:w<n+2
 ·rw [if_pos hlt];refine vF ab [0,1,4,5,16] Tryz.func223 rfl Tryz.results223 Tryz.ntmps223 ?_;(refine' tJ r1 r2)
 ·rw [if_neg hlt];refine vF ab [0,1,4,5,16] Tryz.func223 rfl Tryz.results223 Tryz.ntmps223 ?_;(refine' tJ r1 r2)
abbrev nL (a:Int):Cl:=(32,5,1,a)
def Q6 (l:List Cl) (a:Int) (n j:Nat):St:=⟨[(1,cM l),(5,.so 0 4 0 j),(6,iv n),(7,iv j)],[(0,NU (List.replicate j (nL a)))],1⟩
attribute [push_cast] Q6.eq_def
theorem Fb (l:List Cl) (hl:l.length≤100000000) (n:Nat) (hn:n≤100) (c:Cl) (t:List Cl) (e:l=c::t):an Tryz.prog G0 225 [iv n,cM l] [] 0 (cM (et n l)) []:=by
 have hc:l[0]? = some c:=by rw [e];rfl
 have hl0:0<l.length:=by rw [e];exact Nat.succ_pos _
 have eb:et n l=List.replicate n (nL c.2.2.2)++l:=by rw [e];rfl
 rw [eb];obtain ⟨r,k,w,a⟩:=c;simp only;refine vF ab [0,1,4,5,6,7,8] Tryz.func225 rfl Tryz.results225 Tryz.ntmps225 ?_;(refine' zg)
 refine vL (lv:=[0,1,4,5,6,7,8]) ab (Q6 l a n) (fun j=>j≤n) (fun j=>n - j) (0) (aC.nil 5 4<|(aC.go [1,5,6,7] (by exact vT) rfl)) ?_ ?_
 ·exact Nat.zero_le _
 intro j hj;rcases Nat.lt_or_ge j n with hlt|hge
 ·(refine' pp hc)
  rw [show (List.replicate j (nL a)).map gN++[D.agg [D.lit (Value.int IntKind.i32 32),D.lit (Value.int IntKind.i64 5),D.lit (Value.int IntKind.i64 1),iD a]]=(List.replicate (j+1) (nL a)).map gN by rw [List.replicate_succ'];exact eo _ (nL a),List.length_map,List.length_replicate];refine aG.go (j+1) [1,5,6,7] (by exact vT) ?_ ?_
  ·show n - (j+1)<n - j;omega
  ·show j+1≤n;omega
 ·obtain rfl:j=n:=by omega
  (refine' zg)
  rw [←List.map_append];refine ae.frz 13 (ae.out ?_);(refine' zg)
  all_goals (try rw [List.take_of_length_le (by simp)])
theorem H2:an Tryz.prog G0 225 [iv 0,cM []] [] 0 (cM []) []:=by
 show an Tryz.prog G0 225 [iv 0,.d (.sd 4 false [])] [] 0 (.d (.sd 4 false [])) [];refine vF ab [0,1,4,5,6,7,8] Tryz.func225 rfl Tryz.results225 Tryz.ntmps225 ?_;(refine' zg)
 refine vL (lv:=[0,1,4,5,6,7,8]) ab (fun _:Unit=>(⟨[(1,.d (.sd 4 false [])),(5,.so 0 4 0 0),(6,iv 0),(7,iv 0)],[(0,.row 4 [])],1⟩:St)) (fun _=>True) (fun _=>0) (()) (aC.nil 5 4<|(aC.go [1,5,6,7] (by exact vT) rfl)) ?_ ?_
 ·trivial
 rintro ⟨⟩ -
 (refine' zg)
 refine ae.frz 13 (ae.out ?_);(refine' zg)
abbrev yF (r:List Cl):D:= .sd 4 false (r.map gN)
abbrev pI (q:List (List Cl)):V:= .d (.sd 1 false (q.map yF))
theorem m5 (q:List (List Cl)) (r:List Cl):q.map yF++[yF r]=(q++[r]).map yF:=by rw [List.map_append];rfl
def ge (h:Nat):Nat→List Cl→List Nat→List (List Cl)
 | _,_,[]=>[]
 | i,l,n::t=>(if i=0 then l.take n else et h (l.take n))::ge h (i+1) (l.drop n) t
theorem UT (p:List Cl):et 0 p=p:=by cases p<;>rfl
theorem DJ (p:List Cl) (hl:p.length≤100000000) (n:Nat) (hn:n≤100) (h:n=0∨p≠[]):an Tryz.prog G0 225 [iv n,cM p] [] 0 (cM (et n p)) []:=by
 rcases p with _|⟨c,t⟩
 ·rcases h with rfl|h
  ·exact H2
  ·exact (h rfl).elim
 ·exact Fb (c::t) hl n hn c t rfl
def CQ:Nat→List Cl→List Nat→Prop
 | _,_,[]=>True
 | i,l,n::t=>n≤l.length∧(i=0∨0<n)∧CQ (i+1) (l.drop n) t
theorem we (h:Nat) : ∀(ns:List Nat) (i:Nat) (l:List Cl),0<i→ge h i l ns=(dg l ns).map (et h)
 | [],_,_,_=>rfl
 | n::t,i,l,hi=>by rw [ge,if_neg (by omega),dg,List.map_cons,we h t (i+1) _ (Nat.succ_pos _)]
theorem AU (l:List Cl) (w:Int):ge (dD l w) 0 l (bn l w)=bN l w:=by
 unfold bN;cases bn l w with
 | nil=>rfl
 | cons n t=>rw [ge,if_pos rfl,dg,we _ _ _ _ (Nat.succ_pos _)]
theorem vP (room:Int) : ∀(d:Nat) (l:List Cl) (i:Nat),l.length≤d→CQ i l (cO room l)
 | d,l,i,hd=>by
  by_cases h:l=[]
  ·subst h;rw [cO,dif_pos rfl];trivial
  ·have h1:=ci room h;have h2:=List.length_pos_iff.2 h;rw [cO,dif_neg h];exact ⟨fH l room,.inr h1,vP room (d - 1) _ (i+1) (by rw [List.length_drop];omega)⟩
 termination_by d=>d
 decreasing_by
  have:=List.length_pos_iff.2 h;omega
theorem rS (l:List Cl) (w:Int):CQ 0 l (bn l w):=by
 unfold bn;split
 ·exact ⟨Nat.le_refl _,.inl rfl,trivial⟩
 ·exact ⟨ou l w,.inl rfl,vP _ _ _ _ (Nat.le_refl _)⟩
def ZF (h:Nat) (ns:List Nat) (x:Nat × List Cl × List (List Cl)):St:=
 ⟨[(0,cM x.2.1),(6,.so 0 1 0 x.2.2.length),(7,iv h),(19,.d (.sd 1 false (ns.map nk))),(20,iv ns.length),(21,iv x.1)],[(0,.row 1 (x.2.2.map yF))],1⟩
attribute [push_cast] ZF.eq_def
set_option maxHeartbeats 1600000 in
theorem K4 (l:List Cl) (h:dH l) (w:Int) (hw:0≤w∧w≤200) (ns:List Nat) (hns:ns.length≤100000001) (hok:CQ 0 l ns) (rt:an Tryz.prog G0 224 [cM l,iv w] [] 0 (.d (.sd 1 false (ns.map nk))) []) :
 an Tryz.prog G0 164 [cM l,iv w] [] 0 (.tup [pI (ge (dD l w) 0 l ns),iv 0]) []:=by
 have r1:=wI w;have r2:=DE l h w hw;rw [decide_eq_true hw.1,decide_eq_true hw.2] at r1;have hh:dD l w≤8:=by have:=eF l;unfold dD;split<;>omega
 have hll:=h.len;generalize dD l w=hg at *
 refine vF ab [0,1,4,5,6,7,8,9,10,13,19,20,21,22,28] Tryz.func164 rfl Tryz.results164 Tryz.ntmps164 ?_;(refine' TZ r1 r2 rt)
 refine vL (lv:=[0,1,4,5,6,7,8,9,10,13,19,20,21,22,28]) ab (ZF hg ns) (fun x=>x.1≤ns.length∧x.2.2.length=x.1∧x.2.1.length≤l.length∧CQ x.1 x.2.1 (ns.drop x.1)∧x.2.2++ge hg x.1 x.2.1 (ns.drop x.1)=ge hg 0 l ns) (fun x=>ns.length - x.1) ((0,l,[])) (aC.nil 6 1<|(aC.go [0,6,7,19,20,21] (by exact vT) rfl)) ?_ ?_
 ·exact ⟨Nat.zero_le _,rfl,Nat.le_refl _,hok,rfl⟩
 rintro ⟨i,p,q⟩ ⟨g1,g2,g3,g4,g5⟩;simp only at g1 g2 g3 g4 g5;rcases Nat.lt_or_ge i ns.length with hi|hi
 ·obtain ⟨n,hn⟩ : ∃n,ns[i]? = some n:=⟨_,List.getElem?_eq_getElem hi⟩
  have hdr:ns.drop i=n::ns.drop (i+1):=by rw [List.drop_eq_getElem_cons hi,(List.getElem?_eq_some_iff.1 hn).2]
  rw [hdr] at g4 g5;obtain ⟨k1,k2,k3⟩:=g4;rw [ge] at g5;have hpl:(p.take n).length=n:=by rw [List.length_take];omega
  by_cases h0:i=0
  ·rw [if_pos h0] at g5;have r3:=DJ (p.take n) (by omega) 0 (by omega) (.inl rfl);rw [UT] at r3;(refine' pp hn)
   rw [←List.map_take];refine vC r3 ?_;(refine' zg)
   rw [←List.map_drop,show q.map yF++[yF (p.take n)]=(q++[p.take n]).map yF from m5 q (p.take n),List.length_map];refine aG.go ((i+1,p.drop n,q++[p.take n])) [0,6,7,19,20,21] (by exact vT) ?_ ?_
   ·show ns.length - (i+1)<ns.length - i;omega
   ·refine ⟨hi,by simp only [List.length_append,List.length_singleton];omega,by simp only [List.length_drop];omega,k3,?_⟩;rw [List.append_assoc];exact g5
  ·rw [if_neg h0] at g5;have r3:=DJ (p.take n) (by omega) hg (by omega) (.inr (fun e=>by have:=congrArg List.length e;rw [hpl,List.length_nil] at this;omega));(refine' pp hn)
   rw [←List.map_take];refine vC r3 ?_;(refine' zg)
   rw [←List.map_drop,show q.map yF++[yF (et hg (p.take n))]=(q++[et hg (p.take n)]).map yF from m5 q (et hg (p.take n)),List.length_map];refine aG.go ((i+1,p.drop n,q++[et hg (p.take n)])) [0,6,7,19,20,21] (by exact vT) ?_ ?_
   ·show ns.length - (i+1)<ns.length - i;omega
   ·refine ⟨hi,by simp only [List.length_append,List.length_singleton];omega,by simp only [List.length_drop];omega,k3,?_⟩;rw [List.append_assoc];exact g5
 ·rw [List.drop_of_length_le hi,ge,List.append_nil] at g5;subst g5;(refine' zg)
  refine ae.frz 0 (ae.out ?_);(refine' zg)
  all_goals (try rw [List.take_of_length_le (by simp)])
theorem Ia (l:List Cl) (a b:Int):an Tryz.prog G0 277 [cM l,iv a,iv b] [] 0 (.fn 282 [.po 0 0,.po 1 0,.po 2 0]) [(0,.cell [cM l]),(1,.cell [iv a]),(2,.cell [iv b])]:=by
 refine vF ab [0,1,2,3,4,5,6] Tryz.func277 rfl Tryz.results277 Tryz.ntmps277 ?_;(refine' zg)
 refine ae.now [0,4,8] (by decide) ?_;(refine' zg)
 exact aj _
def UR (l:List Cl) (a b:Int):aN:=[(12,.fn 282 [.po 20 0,.po 21 0,.po 22 0]),(7,.po 4 0),(6,.d (.lit (.slice none 0 0))),(0,cM l),(1,iv a),(2,iv b)]
def XE (l:List Cl) (a b:Int) (y:Yd) (x:Nat × List Cl × List Nat):St:=
 ⟨[(0,.yl 24),(1,.po 20 0),(2,.po 21 0),(3,.po 22 0),(5,iv x.1)],[(4,.cell [.so 25 1 0 x.2.2.length]),(20,.cell [cM x.2.1]),(21,.cell [iv a]),(22,.cell [iv b]),(24,.rc y none (UR l a b)),(25,G9 x.2.2)],26⟩
attribute [push_cast] XE.eq_def UR.eq_def jn.eq_def jB ak.del lN.eq_def
structure ZJ (l:List Cl) (a b:Int) (x:Nat × List Cl × List Nat):Prop where
 le:x.1≤x.2.1.length
 ne:x.2.1≠[]→1≤x.1
 ok:dH x.2.1
 len:x.2.2.length+x.2.1.length≤l.length
 fin:x.2.2++x.1::cO b (x.2.1.drop x.1)=px l a b
set_option maxHeartbeats 3200000 in
theorem Lu (l:List Cl) (h:dH l) (a b:Int) (ha : -1000≤a∧a≤1000) (hb : -1000≤b∧b≤1000):an Tryz.prog G0 260 [cM l,iv a,iv b] [] 0 (.d (.sd 1 false ((px l a b).map nk))) []:=by
 have r1:=Ia l a b;have r2:=Fa l h a ha;refine vF ab [0,1,2,6,7,8,12,13] Tryz.func260 rfl Tryz.results260 Tryz.ntmps260 ?_;(refine' Qx r1)
 refine ZA ab [0,1,2,3,5,11,17] Tryz.func282 rfl ?_;(refine' fj r2)
 generalize hy:Yd.mk _ _ _ _=y;refine vL (lv:=[0,1,2,3,5,11,17]) ab (XE l a b y) (ZJ l a b) (fun x=>x.2.1.length) (cC l a,l,[]) (aC.nilC 4 0 1<|aC.to [0,1,2,3,5] [4,20,21,22,24,41] [41] (by exact vT) rfl) ?_ ?_
 ·exact ⟨ou l a,fun hne=>(lP a hne).1,h,by simp,rfl⟩
 rintro ⟨n,p,out⟩ ⟨g1,g2,g3,g4,g5⟩;simp only at g1 g2 g3 g4 g5;have hll:=h.len;(refine' zg)
 refine vY ab [0,1,2,6,7,8,12,13] (bv true) [(4,.cell [.so 34 1 0 (out++[n]).length]),(20,.cell [cM p]),(21,.cell [iv a]),(22,.cell [iv b]),(24,.rc y none (UR l a b)),(34,G9 (out++[n]))] ?_ ?_ (hps:=by subst hy;kernel_rfl) (hl:=by subst hy;rfl) (hn1:=by subst hy;kernel_rfl) (hn2:=by subst hy;kernel_rfl) (ho1:=by subst hy;kernel_rfl) (ho2:=by subst hy;kernel_rfl)
 ·subst hy;(refine' zg)
  rw [show out.map nk++[D.lit (Value.int IntKind.i64 (n:Int))]=(out++[n]).map nk from m6 out n,List.length_map];refine ⟨rfl,vG ⟨[50],by decide,?_⟩⟩;exact ap.cons rfl (ap.cons rfl (ap.cons rfl (ap.cons rfl (ap.cons rfl (ap.cons rfl ap.nil)))))
 ·have hpd:=g3.drop n;have r3:=yL (p.drop n) hpd b hb;have hdl:(p.drop n).length=p.length - n:=List.length_drop;(refine' zg)
  ·have e0:p.drop n=[]:=by
    refine List.eq_nil_of_length_eq_zero ?_;have h':=h;simp only [List.length_drop,List.length_map] at *
    omega
   rw [e0,cO,dif_pos rfl] at g5;refine vG ⟨y,none,_,rfl,?_⟩;(refine' zg)
   rw [g5];refine ae.frz 34 (ae.out ?_);(refine' zg)
   all_goals (try rw [List.take_of_length_le (by simp)])
  ·have hne:p.drop n≠[]:=fun e=>by
    rename_i h';have:=congrArg List.length e;simp only [List.length_drop,List.length_map,List.length_nil] at *
    omega
   rw [←List.map_drop];refine vC r3 ?_;(refine' zg)
   have hpn:p≠[]:=fun e=>hne (by rw [e];simp)
   have hn1:=g2 hpn;have hpp:=List.length_pos_iff.2 hpn;rw [cO,dif_neg hne] at g5;have htl:=fH (p.drop n) b;have htp:=ci b hne;refine aG.to (bJ (p.drop n) b,p.drop n,out++[n]) [0,1,2,3,5] [4,20,21,22,24,34] [34] (by exact vT) ?_ ?_
   ·show (p.drop n).length<p.length;omega
   ·refine ⟨htl,fun _=>htp,hpd,?_,?_⟩
    ·simp only [List.length_append,List.length_singleton];omega
    ·simp only [List.append_assoc,List.cons_append,List.nil_append];exact g5
theorem Hz (l:List Cl) (h:dH l) (w:Int) (hw:0≤w∧w≤200):an Tryz.prog G0 224 [cM l,iv w] [] 0 (.d (.sd 1 false ((bn l w).map nk))) []:=by
 have r1:=DE l h w hw;have hi:=eF l;have hh:dD l w≤8:=by unfold dD;split<;>omega
 unfold bn;by_cases h0:w=0
 ·rw [if_pos h0];refine vF ab [0,1,4,6] Tryz.func224 rfl Tryz.results224 Tryz.ntmps224 ?_;(refine' zg)
  refine ae.frz 20 (ae.out ?_);(refine' zg)
 ·rw [if_neg h0];have r2:=Lu l h w (w - dD l w) (by omega) (by omega);refine vF ab [0,1,4,6] Tryz.func224 rfl Tryz.results224 Tryz.ntmps224 ?_;(refine' tJ r1 r2)
theorem v9 (room:Int) : ∀(d:Nat) (l:List Cl),l.length≤d→(cO room l).length≤l.length
 | d,l,hd=>by
  by_cases h:l=[]
  ·subst h;rw [cO,dif_pos rfl];exact Nat.le_refl _
  ·have h1:=ci room h;have h2:=List.length_pos_iff.2 h;have:=v9 room (d - 1) (l.drop (bJ l room)) (by rw [List.length_drop];omega);rw [cO,dif_neg h,List.length_cons];rw [List.length_drop] at this;omega
 termination_by d=>d
 decreasing_by
  have:=List.length_pos_iff.2 h;omega
theorem lQ (l:List Cl) (w:Int):(bn l w).length≤l.length+1:=by
 unfold bn;split
 ·simp
 ·rw [px,List.length_cons];have:=v9 (w - dD l w) _ (l.drop (cC l w)) (Nat.le_refl _);rw [List.length_drop] at this;omega
theorem Bz (l:List Cl) (h:dH l) (w:Int) (hw:0≤w∧w≤200):an Tryz.prog G0 164 [cM l,iv w] [] 0 (.tup [pI (bN l w),iv 0]) []:=by
 have h1:=lQ l w;have h2:=h.len;have:=K4 l h w hw (bn l w) (by omega) (rS l w) (Hz l h w hw);rwa [AU] at this
end Go.Proofs.YtkkanlcjjpoklaaGreatDoor
