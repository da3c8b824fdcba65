/- What the theorem leans on, part 29. -/
import Derived.Test.YtkkanlcjjpoklaaGreatDoorStVPBB
set_option linter.unusedSimpArgs false
set_option linter.unusedVariables false
set_option maxRecDepth 8000
namespace Go.Proofs.YtkkanlcjjpoklaaGreatDoor
structure ey (l:List Cl):Prop where
 len:l.length≤100000000
 wd : ∀c∈l,cw c≤2
theorem ey.drop {l:List Cl} (h:ey l) (n:Nat):ey (l.drop n):=⟨by rw [abg];have:=h.len;omega,fun c hc=>h.wd c (abU hc)⟩
theorem ey.take {l:List Cl} (h:ey l) (n:Nat):ey (l.take n):=⟨by rw [aa7];have:=h.len;omega,fun c hc=>h.wd c (abm hc)⟩
def RY (l:List Cl) (i:Nat):St:=⟨[(3,iv (dH (l.take i))),(6,dM l),(7,iv l.length),(8,iv i)],[],0⟩
attribute [push_cast] RY.eq_def
theorem qi {α:Type} {p:α→Bool} : ∀ {l:List α} {i:Nat},i≤l.length→(∀(j:Nat) x,j<i→l[j]? = some x→p x=true)→(∀x,l[i]? = some x→p x=false)→l.takeWhile p=l.take i
 | [],i,h,_,_=>by simp
 | y::t,0,_,_,h=>by rw [adJ,h y rfl];rfl
 | y::t,i+1,h1,h2,h3=>by
  rw [adJ,h2 0 y (ade _) rfl,abn];rw [qi (by simpa using h1) (fun j x hj hx=>h2 (j+1) x (by omega) (by rwa [abB])) (fun x hx=>h3 x (by rwa [abB]))];rfl
theorem GJ {α:Type} {p:α→Bool} : ∀ {l:List α} {i:Nat},i≤l.length→(∀(j:Nat) x,j<i→l[j]? = some x→p x=true) → ∃k,i≤k∧l.takeWhile p=l.take k
 | [],i,h,_=>⟨i,aaV _,by simp⟩
 | y::t,0,_,_=>⟨((y::t).takeWhile p).length,aa1 _,by
  have:=List.takeWhile_prefix (l:=y::t) p;exact (List.prefix_iff_eq_take.1 this)⟩
 | y::t,i+1,h1,h2=>by
  obtain ⟨k,hk,e⟩:=GJ (l:=t) (i:=i) (by simpa using h1) (fun j x hj hx=>h2 (j+1) x (by omega) (by rwa [abB]));refine ⟨k+1,by omega,?_⟩;rw [adJ,h2 0 y (ade _) rfl,abn,e];rfl
theorem lu {α:Type} {l:List α} {p:α→Prop} {i:Nat} (h : ∀(j:Nat) x,j<i→l[j]? = some x→p x) {y:α} (hy:l[i]? = some y) (hp:p y) : ∀(j:Nat) x,j<i+1→l[j]? = some x→p x:=by
 intro j x hj hx;by_cases e:j=i
 ·subst e;rw [hy] at hx;injection hx with hx;subst hx;exact hp
 ·exact h j x (by omega) hx
theorem GZ (l:List Cl) (h:ey l):ap Tryz.prog G0 259 [dM l] [] 0 (iv (ju l)) []:=by
 have hll:=h.len;have hwd:=iB h.wd;unfold ju;refine vF ab [0,2,3,5,6,7,8,9,18] Tryz.func259 rfl Tryz.results259 Tryz.ntmps259 ?_;(refine' zg)
 refine vL (lv:=[0,2,3,5,6,7,8,9,18]) ab (RY l) (fun i=>i≤l.length ∧ ∀(j:Nat) x,j<i→l[j]? = some x→bU x=true) (fun i=>l.length - i) (0) ((aC.go [3,6,7,8] (by exact vT) rfl)) ?_ ?_
 ·exact ⟨aa1 _,fun j x hj=>by omega⟩
 rintro i ⟨h1,h2⟩;have hmo:=jd l h1;rw [abC] at hmo;rcases aa2 i l.length with hk|hk
 ·obtain ⟨c,hc⟩ : ∃c,l[i]? = some c:=⟨_,IO hk⟩
  have r1:=mM c;have e:=kR l hc;have h3:=h.wd c (aa0 hc);have hb : ∀b,bU c=b→bU c=b:=fun _ h=>h
  obtain ⟨r,k,w,a⟩:=c;simp only [cw] at e h3;cases hbl:bU (r,k,w,a) with
  | false=>
   rw [hbl] at r1;have e2:=qi h1 h2 (fun x hx=>by rw [hc] at hx;injection hx with hx;subst hx;exact hbl);rw [e2];(refine' uO r1 hc)
   congr 1;omega
  | true=>
   rw [hbl] at r1;(refine' uO r1 hc)
   ·obtain ⟨k',hk',e2⟩:=GJ h1 h2;have:=jd l hk';rw [e2];congr 1;omega
   ·rw [show ((dH (l.take i):Nat):Int)+(w:Int)=(dH (l.take (i+1)):Nat) by omega];refine aG.go (i+1) [3,6,7,8] (by exact vT) ?_ ?_
    ·show l.length - (i+1)<l.length - i;omega
    ·exact ⟨hk,lu h2 hc hbl⟩
 ·obtain rfl:i=l.length:=by omega
  have e2:=qi h1 h2 (fun x hx=>by rw [abz (aaV _)] at hx;cases hx);rw [e2,abC,RY,abC];(refine' zo)
  congr 1;omega
theorem NP (l:List Cl) (h:ey l) (n:Nat) (hn:n≤l.length):ap Tryz.prog G0 287 [dM l,iv n] [] 0 (bv (oq l n)) []:=by
 have hll:=h.len;unfold oq;by_cases h0:0<n∧n<l.length
 ·obtain ⟨c,hc⟩ : ∃c,l[n - 1]? = some c:=⟨_,IO (by omega)⟩
  obtain ⟨d,hd⟩ : ∃d,l[n]? = some d:=⟨_,IO (by omega)⟩
  have r1:=mM c;have r2:=mM d;rw [hc,hd,abw h0.1];simp only [aef];obtain ⟨r,k,w,a⟩:=c;obtain ⟨r',k',w',a'⟩:=d;generalize bU (r,k,w,a)=b1 at *
  generalize bU (r',k',w',a')=b2 at *
  refine vF ab [0,1,4] Tryz.func287 rfl Tryz.results287 Tryz.ntmps287 ?_;cases b1;all_goals cases b2
  all_goals
   (refine' QR r1 r2 hc hd)
  all_goals (congr 1;rw [act];simp [cw])
 ·refine vF ab [0,1,4] Tryz.func287 rfl Tryz.results287 Tryz.ntmps287 ?_;(refine' zo)
  ·rw [abz (show l.length≤n by omega)];cases l[n - 1]? <;> simp
  ·rw [abM (by omega)];rfl
def TZ (l:List Cl) (room:Int) (n:Nat):St:=⟨[(0,dM l),(1,iv room),(5,iv n),(6,iv (dH (l.take n)))],[],0⟩
def T0 (l:List Cl) (n:Nat):St:=⟨[(0,dM l),(5,iv n)],[],0⟩
attribute [push_cast] TZ.eq_def T0.eq_def
set_option maxHeartbeats 1600000 in
theorem KW (l:List Cl) (h:ey l) (h0:l≠[]) (room:Int) (hr : -1000≤room∧room≤1000):ap Tryz.prog G0 286 [dM l,iv room] [] 0 (iv (eE l room)) []:=by
 have hll:=h.len;have hl0:=aby.2 h0;have hwd:=iB h.wd;refine vF ab [0,1,4,5,6,21,32,45] Tryz.func286 rfl Tryz.results286 Tryz.ntmps286 ?_;(refine' zg)
 refine vL (lv:=[0,1,4,5,6,21,32,45]) ab (TZ l room) (fun n=>n≤l.length ∧ ∀j,j<n→(dH (l.take (j+1)):Int)≤room) (fun n=>l.length - n) (0) ((aC.go [0,1,5,6] (by exact vT) rfl)) ?_ ?_
 ·exact ⟨aa1 _,fun j hj=>by omega⟩
 rintro n ⟨h1,h2⟩;have hmo:=jd l h1;rw [abC] at hmo;have fin:(∀c,l[n]? = some c→room<dH (l.take n)+cw c)→oE room l 0=n:=fun hx=>yM room l 0 n h1 (fun j hj=>by have:=h2 j hj;omega) (fun c hc=>by have:=hx c hc;omega)
 rcases aa2 n l.length with hk|hk
 ·obtain ⟨c,hc⟩ : ∃c,l[n]? = some c:=⟨_,IO hk⟩
  have e:=kR l hc;have h3:=h.wd c (aa0 hc);have hcw : ∀x,l[n]? = some x→cw x=cw c:=fun x hx=>by rw [hc] at hx;injection hx with hx;rw [hx]
  obtain ⟨r,k,w,a⟩:=c;simp only [cw] at e h3 hcw;(refine' Tx hc)
  ·rw [show ((dH (l.take n):Nat):Int)+(w:Int)=(dH (l.take (n+1)):Nat) by omega];refine aG.go (n+1) [0,1,5,6] (by exact vT) ?_ ?_
   ·show l.length - (n+1)<l.length - n;omega
   ·refine ⟨hk,fun j hj =>?_⟩;by_cases ej:j=n
    ·subst ej;omega
    ·exact h2 j (by omega)
  ·rw [eE,fin (fun x hx=>by have:=hcw x hx;simp only [cw];omega),aaY (by omega)]
  ·have e3:eE l room=1+JB (l.drop 1):=by rw [eE,fin (fun x hx=>by have:=hcw x hx;simp only [cw];omega),aa3 (by omega)]
   rw [e3];clear fin hcw;refine vL (lv:=[0,1,4,5,6,21,32,45]) ab (T0 l) (fun m=>1≤m∧m≤l.length ∧ ∀(j:Nat) x,j<m - 1→(l.drop 1)[j]? = some x→(cw x==0)=true) (fun m=>l.length - m) (1) ((aC.go [0,5] (by exact vT) rfl)) ?_ ?_
   ·exact ⟨aaV _,hl0,fun j x hj=>by omega⟩
   rintro m ⟨q1,q2,q3⟩;rcases aa2 m l.length with hm|hm
   ·obtain ⟨c',hc'⟩ : ∃c',l[m]? = some c':=⟨_,IO hm⟩
    have hd:(l.drop 1)[m - 1]? = some c':=by rw [abJ,show 1+(m - 1)=m by omega];exact hc'
    have e4:cw c'≠0→JB (l.drop 1)=m - 1:=fun hne=>by
     rw [JB,qi (i:=m - 1) (by rw [abg];omega) q3 (fun x hx=>by rw [hd] at hx;injection hx with hx;subst hx;simpa using hne),aa7,abg];omega
    have q4:=fun hz=>lu q3 hd hz
    obtain ⟨r',k',w',a'⟩:=c';simp only [cw] at e4 q4;(refine' Tx hc')
    ·refine aG.go (m+1) [0,5] (by exact vT) ?_ ?_
     ·show l.length - (m+1)<l.length - m;omega
     ·refine ⟨by show 1≤m+1;omega,hm,?_⟩;have:=q4 (by simp;omega);rwa [show m - 1+1=m+1 - 1 by omega] at this
    ·rw [e4 (by omega)];congr 1;omega
   ·have e4:JB (l.drop 1)=m - 1:=by
     rw [JB,qi (i:=m - 1) (by rw [abg];omega) q3 (fun x hx=>by rw [abz (by rw [abg];omega)] at hx;cases hx),aa7,abg];omega
    rw [e4];(refine' zo)
    congr 1;omega
 ·(refine' zo)
  rw [eE,fin (fun c hc=>by rw [abz hk] at hc;cases hc),aaY (by omega)]
def tkS (l:List Cl) (n k:Nat):St:=⟨[(0,dM l),(5,iv n),(6,iv k)],[],0⟩
attribute [push_cast] tkS.eq_def
theorem OS {l:List Cl} {n:Nat} : ∀k,(∀j,k<j→j≤n→oq l j=false)→k≤n→mn l n=mn l k:=by
 induction n with
 | zero=>intro k _ hk;rw [show k=0 by omega]
 | succ n ih=>
  intro k h hk;rcases aa2 n k with hlt|hge
  ·rw [show k=n+1 by omega]
  ·rw [mn,h (n+1) (by omega) (aaV _),aaY (by simp)];exact ih k (fun j h1 h2=>h j h1 (by omega)) hge
theorem OR {l:List Cl} {k:Nat} (hk:0<k) (h:oq l k=true):mn l k=k:=by
 cases k with
 | zero=>omega
 | succ k=>rw [mn,h,aa3 rfl]
theorem AH (l:List Cl) (h:ey l) (room:Int) (hr : -1000≤room∧room≤1000):ap Tryz.prog G0 284 [dM l,iv room] [] 0 (iv (bR l room)) []:=by
 have hll:=h.len;by_cases h0:l=[]
 ·subst h0;show ap Tryz.prog G0 284 [.d (.sd 4 false []),iv room] [] 0 (iv 0) [];refine vF ab [0,1,4,5,6,9,16,20,25] Tryz.func284 rfl Tryz.results284 Tryz.ntmps284 ?_;(refine' zo)
 have hl0:=aby.2 h0;have r1:=KW l h h0 room hr;have hf:=qJ (room:=room) h0;have hp:=ng l room;have hb : ∀k,k≤l.length→ap Tryz.prog G0 287 [dM l,iv k] [] 0 (bv (oq l k)) []:=fun k hk=>NP l h k hk
 unfold bR;rw [aaY h0];generalize eE l room=n at *
 by_cases hn:n=l.length
 ·rw [aa3 hn];refine vF ab [0,1,4,5,6,9,16,20,25] Tryz.func284 rfl Tryz.results284 Tryz.ntmps284 ?_;(refine' lK r1)
  all_goals (try rw [hn])
 ·rw [aaY hn];refine vF ab [0,1,4,5,6,9,16,20,25] Tryz.func284 rfl Tryz.results284 Tryz.ntmps284 ?_;(refine' fq r1)
  refine vL (lv:=[0,1,4,5,6,9,16,20,25]) ab (tkS l n) (fun k=>k≤n ∧ ∀j,k<j→j≤n→oq l j=false) (fun k=>k) (n) ((aC.go [0,5,6] (by exact vT) rfl)) ?_ ?_
  ·exact ⟨aaV _,fun j h1 h2=>by omega⟩
  rintro k ⟨g1,g2⟩;rw [OS k g2 g1];rcases abH k with hk|hk
  ·subst hk;rw [mn,aa3 rfl];(refine' zo)
  ·have r2:=hb k (by omega);cases hbk:oq l k with
   | true=>
    rw [hbk] at r2;rw [OR hk hbk,aaY (by omega)];(refine' lK r2)
   | false=>
    rw [hbk] at r2;(refine' fq r2)
    refine aG.go (k - 1) [0,5,6] (by exact vT) ?_ ?_
    ·show k - 1<k;omega
    ·refine ⟨by show k - 1≤n;omega,fun j h1 h2 =>?_⟩;by_cases ej:j=k
     ·subst ej;exact hbk
     ·exact g2 j (by omega) h2
def stS (l:List Cl) (room:Int) (n i:Nat):St:=⟨[(0,dM l),(1,iv room),(5,iv n),(13,dM (l.take n)),(14,iv n),(15,iv i)],[],0⟩
attribute [push_cast] stS.eq_def
theorem G8 (l:List Cl) (h:ey l) (room:Int) (hr : -1000≤room∧room≤1000):ap Tryz.prog G0 283 [dM l,iv room] [] 0 (iv (cO l room)) []:=by
 have hll:=h.len;have r1:=AH l h room hr;have hf:=gr l room;have r2:l≠[]→ap Tryz.prog G0 286 [dM l,iv room] [] 0 (iv (eE l room)) []:=fun h0=>KW l h h0 room hr
 have hp:l=[]→bR l room=0:=fun e=>by rw [bR,aa3 e]
 have hall : ∀n,(∀(j:Nat) x,j<n→(l.take n)[j]? = some x→bU x=true)→(l.take n).all bU=true:=fun n hx=>by
  rw [abF];intro c hc;obtain ⟨j,hj⟩:=ab6 hc;exact hx j c (by have:=(aaX.1 hj).1;rw [aa7] at this;omega) hj
 unfold cO;generalize bR l room=n at *
 refine vF ab [0,1,4,5,7,13,14,15,16,21,25] Tryz.func283 rfl Tryz.results283 Tryz.ntmps283 ?_;(refine' fq r1)
 have hln:(l.take n).length=n:=by rw [aa7];omega
 rw [←acn,show ((l.take n).map iL).length=n by rw [aa4,hln]];refine vL (lv:=[0,1,4,5,7,13,14,15,16,21,25]) ab (stS l room n) (fun i=>i≤n ∧ ∀(j:Nat) x,j<i→(l.take n)[j]? = some x→bU x=true) (fun i=>n - i) (0) ((aC.go [0,1,5,13,14,15] (by exact vT) rfl)) ?_ ?_
 ·exact ⟨aa1 _,fun j x hj=>by omega⟩
 rintro i ⟨g1,g2⟩;rcases aa2 i n with hi|hi
 ·obtain ⟨c,hc⟩ : ∃c,(l.take n)[i]? = some c:=⟨_,IO (by omega)⟩
  have r3:=mM c;have hna:bU c=false → ¬((l.take n).all bU=true∧n≠0):=fun hb hx=>by
   have:=abF.1 hx.1 c (aa0 hc);rw [hb] at this;cases this
  have g3:=fun hb=>lu g2 hc hb
  obtain ⟨r,k,w,a⟩:=c;cases hb:bU (r,k,w,a) with
  | false=>
   rw [hb] at r3;rw [aaY (hna hb)];(refine' uO r3 hc)
  | true=>
   rw [hb] at r3;(refine' uO r3 hc)
   refine aG.go (i+1) [0,1,5,13,14,15] (by exact vT) ?_ ?_
   ·show n - (i+1)<n - i;omega
   ·exact ⟨hi,g3 hb⟩
 ·obtain rfl:i=n:=by omega
  have ha:=hall i g2;rcases abH i with hz|hz
  ·subst hz;rw [aaY (fun h=>h.2 rfl)];(refine' zo)
  ·have r4:=r2 (fun e=>by have:=hp e;omega);rw [aa3 ⟨ha,by omega⟩];(refine' lK r4)
theorem xU (w:Int):ap Tryz.prog G0 222 [iv w] [] 0 (bv (decide (0≤w)&&decide (w≤200))) []:=by
 refine vF ab [0,2] Tryz.func222 rfl Tryz.results222 Tryz.ntmps222 ?_;(refine' zo)
theorem Fx (l:List Cl) (h:ey l) (w:Int) (hw:0≤w∧w≤200):ap Tryz.prog G0 223 [dM l,iv w] [] 0 (iv (dS l w)) []:=by
 have r1:=GZ l h;have r2:=xU w;rw [abw hw.1,abw hw.2] at r2;have hi:=ff l;unfold dS;generalize ju l=n at *
 by_cases hlt:w<n+2
 ·rw [aa3 hlt];refine vF ab [0,1,4,5,16] Tryz.func223 rfl Tryz.results223 Tryz.ntmps223 ?_;(refine' uR r1 r2)
 ·rw [aaY hlt];refine vF ab [0,1,4,5,16] Tryz.func223 rfl Tryz.results223 Tryz.ntmps223 ?_;(refine' uR r1 r2)
abbrev oI (a:Int):Cl:=(32,5,1,a)
def TG (l:List Cl) (a:Int) (n j:Nat):St:=⟨[(1,dM l),(5,.so 0 4 0 j),(6,iv n),(7,iv j)],[(0,Qp (List.replicate j (oI a)))],1⟩
attribute [push_cast] TG.eq_def
theorem Ha (l:List Cl) (hl:l.length≤100000000) (n:Nat) (hn:n≤100) (c:Cl) (t:List Cl) (e:l=c::t):ap Tryz.prog G0 225 [iv n,dM l] [] 0 (dM (eQ n l)) []:=by
 have hc:l[0]? = some c:=by rw [e];rfl
 have hl0:0<l.length:=by rw [e];exact ade _
 have eb:eQ n l=List.replicate n (oI c.2.2.2)++l:=by rw [e];rfl
 rw [eb];obtain ⟨r,k,w,a⟩:=c;simp only;refine vF ab [0,1,4,5,6,7,8] Tryz.func225 rfl Tryz.results225 Tryz.ntmps225 ?_;(refine' zg)
 refine vL (lv:=[0,1,4,5,6,7,8]) ab (TG l a n) (fun j=>j≤n) (fun j=>n - j) (0) (aC.nil 5 4<|(aC.go [1,5,6,7] (by exact vT) rfl)) ?_ ?_
 ·exact aa1 _
 intro j hj;rcases aa2 j n with hlt|hge
 ·(refine' jY hc)
  rw [show (List.replicate j (oI a)).map iL++[D.agg [D.lit (Value.int IntKind.i32 32),D.lit (Value.int IntKind.i64 5),D.lit (Value.int IntKind.i64 1),iD a]]=(List.replicate (j+1) (oI a)).map iL by rw [acr];exact eM _ (oI a),aa4,abS];refine aG.go (j+1) [1,5,6,7] (by exact vT) ?_ ?_
  ·show n - (j+1)<n - j;omega
  ·show j+1≤n;omega
 ·obtain rfl:j=n:=by omega
  (refine' zg)
  rw [←abc];refine ae.frz 13 (ae.out ?_);(refine' zg)
  all_goals (try rw [aaW (by simp)])
theorem J4:ap Tryz.prog G0 225 [iv 0,dM []] [] 0 (dM []) []:=by
 show ap Tryz.prog G0 225 [iv 0,.d (.sd 4 false [])] [] 0 (.d (.sd 4 false [])) [];refine vF ab [0,1,4,5,6,7,8] Tryz.func225 rfl Tryz.results225 Tryz.ntmps225 ?_;(refine' zg)
 refine vL (lv:=[0,1,4,5,6,7,8]) ab (fun _:Unit=>(⟨[(1,.d (.sd 4 false [])),(5,.so 0 4 0 0),(6,iv 0),(7,iv 0)],[(0,.row 4 [])],1⟩:St)) (fun _=>True) (fun _=>0) (()) (aC.nil 5 4<|(aC.go [1,5,6,7] (by exact vT) rfl)) ?_ ?_
 ·trivial
 rintro ⟨⟩ -
 (refine' zg)
 refine ae.frz 13 (ae.out ?_);(refine' zg)
abbrev AA (r:List Cl):D:= .sd 4 false (r.map iL)
abbrev tF (q:List (List Cl)):V:= .d (.sd 1 false (q.map AA))
theorem nV (q:List (List Cl)) (r:List Cl):q.map AA++[AA r]=(q++[r]).map AA:=by rw [abc];rfl
def gL (h:Nat):Nat→List Cl→List Nat→List (List Cl)
 | _,_,[]=>[]
 | i,l,n::t=>(if i=0 then l.take n else eQ h (l.take n))::gL h (i+1) (l.drop n) t
theorem XP (p:List Cl):eQ 0 p=p:=by cases p<;>rfl
theorem FD (p:List Cl) (hl:p.length≤100000000) (n:Nat) (hn:n≤100) (h:n=0∨p≠[]):ap Tryz.prog G0 225 [iv n,dM p] [] 0 (dM (eQ n p)) []:=by
 rcases p with _|⟨c,t⟩
 ·rcases h with rfl|h
  ·exact J4
  ·exact (h rfl).elim
 ·exact Ha (c::t) hl n hn c t rfl
def EG:Nat→List Cl→List Nat→Prop
 | _,_,[]=>True
 | i,l,n::t=>n≤l.length∧(i=0∨0<n)∧EG (i+1) (l.drop n) t
theorem xz (h:Nat) : ∀(ns:List Nat) (i:Nat) (l:List Cl),0<i→gL h i l ns=(dB l ns).map (eQ h)
 | [],_,_,_=>rfl
 | n::t,i,l,hi=>by rw [gL,aaY (by omega),dB,abh,xz h t (i+1) _ (ade _)]
theorem Cz (l:List Cl) (w:Int):gL (dS l w) 0 l (bz l w)=cf l w:=by
 unfold cf;cases bz l w with
 | nil=>rfl
 | cons n t=>rw [gL,aa3 rfl,dB,xz _ _ _ _ (ade _)]
theorem xk (room:Int) : ∀(d:Nat) (l:List Cl) (i:Nat),l.length≤d→EG i l (db room l)
 | d,l,i,hd=>by
  by_cases h:l=[]
  ·subst h;rw [db,acB rfl];trivial
  ·have h1:=cD room h;have h2:=aby.2 h;rw [db,acX h];exact ⟨gr l room,.inr h1,xk room (d - 1) _ (i+1) (by rw [abg];omega)⟩
 termination_by d=>d
 decreasing_by
  have:=aby.2 h;omega
theorem sZ (l:List Cl) (w:Int):EG 0 l (bz l w):=by
 unfold bz;split
 ·exact ⟨aaV _,.inl rfl,trivial⟩
 ·exact ⟨pj l w,.inl rfl,xk _ _ _ _ (aaV _)⟩
def wrS (h:Nat) (ns:List Nat) (x:Nat × List Cl × List (List Cl)):St:=
 ⟨[(0,dM x.2.1),(6,.so 0 1 0 x.2.2.length),(7,iv h),(19,.d (.sd 1 false (ns.map od))),(20,iv ns.length),(21,iv x.1)],[(0,.row 1 (x.2.2.map AA))],1⟩
attribute [push_cast] wrS.eq_def
set_option maxHeartbeats 1600000 in
theorem M7 (l:List Cl) (h:ey l) (w:Int) (hw:0≤w∧w≤200) (ns:List Nat) (hns:ns.length≤100000001) (hok:EG 0 l ns) (rt:ap Tryz.prog G0 224 [dM l,iv w] [] 0 (.d (.sd 1 false (ns.map od))) []) :
 ap Tryz.prog G0 164 [dM l,iv w] [] 0 (.tup [tF (gL (dS l w) 0 l ns),iv 0]) []:=by
 have r1:=xU w;have r2:=Fx l h w hw;rw [abw hw.1,abw hw.2] at r1;have hh:dS l w≤8:=by have:=ff l;unfold dS;split<;>omega
 have hll:=h.len;generalize dS l w=hg at *
 refine vF ab [0,1,4,5,6,7,8,9,10,13,19,20,21,22,28] Tryz.func164 rfl Tryz.results164 Tryz.ntmps164 ?_;(refine' WR r1 r2 rt)
 refine vL (lv:=[0,1,4,5,6,7,8,9,10,13,19,20,21,22,28]) ab (wrS hg ns) (fun x=>x.1≤ns.length∧x.2.2.length=x.1∧x.2.1.length≤l.length∧EG x.1 x.2.1 (ns.drop x.1)∧x.2.2++gL hg x.1 x.2.1 (ns.drop x.1)=gL hg 0 l ns) (fun x=>ns.length - x.1) ((0,l,[])) (aC.nil 6 1<|(aC.go [0,6,7,19,20,21] (by exact vT) rfl)) ?_ ?_
 ·exact ⟨aa1 _,rfl,aaV _,hok,rfl⟩
 rintro ⟨i,p,q⟩ ⟨g1,g2,g3,g4,g5⟩;simp only at g1 g2 g3 g4 g5;rcases aa2 i ns.length with hi|hi
 ·obtain ⟨n,hn⟩ : ∃n,ns[i]? = some n:=⟨_,IO hi⟩
  have hdr:ns.drop i=n::ns.drop (i+1):=by rw [abI hi,(aaX.1 hn).2]
  rw [hdr] at g4 g5;obtain ⟨k1,k2,k3⟩:=g4;rw [gL] at g5;have hpl:(p.take n).length=n:=by rw [aa7];omega
  by_cases h0:i=0
  ·rw [aa3 h0] at g5;have r3:=FD (p.take n) (by omega) 0 (by omega) (.inl rfl);rw [XP] at r3;(refine' jY hn)
   rw [←acn];refine vC r3 ?_;(refine' zg)
   rw [←adj,show q.map AA++[AA (p.take n)]=(q++[p.take n]).map AA from nV q (p.take n),aa4];refine aG.go ((i+1,p.drop n,q++[p.take n])) [0,6,7,19,20,21] (by exact vT) ?_ ?_
   ·show ns.length - (i+1)<ns.length - i;omega
   ·refine ⟨hi,by simp only [Or,abk];omega,by simp only [abg];omega,k3,?_⟩;rw [aba];exact g5
  ·rw [aaY h0] at g5;have r3:=FD (p.take n) (by omega) hg (by omega) (.inr (fun e=>by have:=congrArg List.length e;rw [hpl,abt] at this;omega));(refine' jY hn)
   rw [←acn];refine vC r3 ?_;(refine' zg)
   rw [←adj,show q.map AA++[AA (eQ hg (p.take n))]=(q++[eQ hg (p.take n)]).map AA from nV q (eQ hg (p.take n)),aa4];refine aG.go ((i+1,p.drop n,q++[eQ hg (p.take n)])) [0,6,7,19,20,21] (by exact vT) ?_ ?_
   ·show ns.length - (i+1)<ns.length - i;omega
   ·refine ⟨hi,by simp only [Or,abk];omega,by simp only [abg];omega,k3,?_⟩;rw [aba];exact g5
 ·rw [abo hi,gL,abb] at g5;subst g5;(refine' zg)
  refine ae.frz 0 (ae.out ?_);(refine' zg)
  all_goals (try rw [aaW (by simp)])
theorem Kc (l:List Cl) (a b:Int):ap Tryz.prog G0 277 [dM l,iv a,iv b] [] 0 (.fn 282 [.po 0 0,.po 1 0,.po 2 0]) [(0,.cell [dM l]),(1,.cell [iv a]),(2,.cell [iv b])]:=by
 refine vF ab [0,1,2,3,4,5,6] Tryz.func277 rfl Tryz.results277 Tryz.ntmps277 ?_;(refine' zg)
 refine ae.now [0,4,8] (by decide) ?_;(refine' zg)
 exact aj _
def XN (l:List Cl) (a b:Int):aO:=[(12,.fn 282 [.po 20 0,.po 21 0,.po 22 0]),(7,.po 4 0),(6,.d (.lit (.slice none 0 0))),(0,dM l),(1,iv a),(2,iv b)]
def baS (l:List Cl) (a b:Int) (y:Yd) (x:Nat × List Cl × List Nat):St:=
 ⟨[(0,.yl 24),(1,.po 20 0),(2,.po 21 0),(3,.po 22 0),(5,iv x.1)],[(4,.cell [.so 25 1 0 x.2.2.length]),(20,.cell [dM x.2.1]),(21,.cell [iv a]),(22,.cell [iv b]),(24,.rc y none (XN l a b)),(25,Jd x.2.2)],26⟩
attribute [push_cast] baS.eq_def XN.eq_def jV.eq_def ka ak.del mF.eq_def
structure BaP (l:List Cl) (a b:Int) (x:Nat × List Cl × List Nat):Prop where
 le:x.1≤x.2.1.length
 ne:x.2.1≠[]→1≤x.1
 ok:ey x.2.1
 len:x.2.2.length+x.2.1.length≤l.length
 fin:x.2.2++x.1::db b (x.2.1.drop x.1)=qm l a b
set_option maxHeartbeats 3200000 in
theorem NJ (l:List Cl) (h:ey l) (a b:Int) (ha : -1000≤a∧a≤1000) (hb : -1000≤b∧b≤1000):ap Tryz.prog G0 260 [dM l,iv a,iv b] [] 0 (.d (.sd 1 false ((qm l a b).map od))) []:=by
 have r1:=Kc l a b;have r2:=G8 l h a ha;refine vF ab [0,1,2,6,7,8,12,13] Tryz.func260 rfl Tryz.results260 Tryz.ntmps260 ?_;(refine' Tb r1)
 refine vRn ab [0,1,2,3,5,11,17] Tryz.func282 rfl ?_;(refine' fq r2)
 generalize hy:Yd.mk _ _ _ _=y;refine vL (lv:=[0,1,2,3,5,11,17]) ab (baS l a b y) (BaP l a b) (fun x=>x.2.1.length) (cO l a,l,[]) (aC.nilC 4 0 1<|aC.to [0,1,2,3,5] [4,20,21,22,24,41] [41] (by exact vT) rfl) ?_ ?_
 ·exact ⟨pj l a,fun hne=>(mH a hne).1,h,by simp,rfl⟩
 rintro ⟨n,p,out⟩ ⟨g1,g2,g3,g4,g5⟩;simp only at g1 g2 g3 g4 g5;have hll:=h.len;(refine' zg)
 refine vY ab [0,1,2,6,7,8,12,13] (bv true) [(4,.cell [.so 34 1 0 (out++[n]).length]),(20,.cell [dM p]),(21,.cell [iv a]),(22,.cell [iv b]),(24,.rc y none (XN l a b)),(34,Jd (out++[n]))] ?_ ?_ (hps:=by subst hy;kernel_rfl) (hl:=by subst hy;rfl) (hn1:=by subst hy;kernel_rfl) (hn2:=by subst hy;kernel_rfl) (ho1:=by subst hy;kernel_rfl) (ho2:=by subst hy;kernel_rfl)
 ·subst hy;(refine' zg)
  rw [show out.map od++[D.lit (Value.int IntKind.i64 (n:Int))]=(out++[n]).map od from nW out n,aa4];refine ⟨rfl,vG ⟨[50],by decide,?_⟩⟩;exact ar.cons rfl (ar.cons rfl (ar.cons rfl (ar.cons rfl (ar.cons rfl (ar.cons rfl ar.nil)))))
 ·have hpd:=g3.drop n;have r3:=AH (p.drop n) hpd b hb;have hdl:(p.drop n).length=p.length - n:=abg;(refine' zg)
  ·have e0:p.drop n=[]:=by
    refine abu ?_;have h':=h;simp only [abg,aa4] at *
    omega
   rw [e0,db,acB rfl] at g5;refine vG ⟨y,none,_,rfl,?_⟩;(refine' zg)
   rw [g5];refine ae.frz 34 (ae.out ?_);(refine' zg)
   all_goals (try rw [aaW (by simp)])
  ·have hne:p.drop n≠[]:=fun e=>by
    rename_i h';have:=congrArg List.length e;simp only [abg,aa4,abt] at *
    omega
   rw [←adj];refine vC r3 ?_;(refine' zg)
   have hpn:p≠[]:=fun e=>hne (by rw [e];simp)
   have hn1:=g2 hpn;have hpp:=aby.2 hpn;rw [db,acX hne] at g5;have htl:=gr (p.drop n) b;have htp:=cD b hne;refine aG.to (bR (p.drop n) b,p.drop n,out++[n]) [0,1,2,3,5] [4,20,21,22,24,34] [34] (by exact vT) ?_ ?_
   ·show (p.drop n).length<p.length;omega
   ·refine ⟨htl,fun _=>htp,hpd,?_,?_⟩
    ·simp only [Or,abk];omega
    ·simp only [aba,abG,abL];exact g5
theorem Jz (l:List Cl) (h:ey l) (w:Int) (hw:0≤w∧w≤200):ap Tryz.prog G0 224 [dM l,iv w] [] 0 (.d (.sd 1 false ((bz l w).map od))) []:=by
 have r1:=Fx l h w hw;have hi:=ff l;have hh:dS l w≤8:=by unfold dS;split<;>omega
 unfold bz;by_cases h0:w=0
 ·rw [aa3 h0];refine vF ab [0,1,4,6] Tryz.func224 rfl Tryz.results224 Tryz.ntmps224 ?_;(refine' zg)
  refine ae.frz 20 (ae.out ?_);(refine' zg)
 ·rw [aaY h0];have r2:=NJ l h w (w - dS l w) (by omega) (by omega);refine vF ab [0,1,4,6] Tryz.func224 rfl Tryz.results224 Tryz.ntmps224 ?_;(refine' uR r1 r2)
theorem xx (room:Int) : ∀(d:Nat) (l:List Cl),l.length≤d→(db room l).length≤l.length
 | d,l,hd=>by
  by_cases h:l=[]
  ·subst h;rw [db,acB rfl];exact aaV _
  ·have h1:=cD room h;have h2:=aby.2 h;have:=xx room (d - 1) (l.drop (bR l room)) (by rw [abg];omega);rw [db,acX h,aa6];rw [abg] at this;omega
 termination_by d=>d
 decreasing_by
  have:=aby.2 h;omega
theorem mI (l:List Cl) (w:Int):(bz l w).length≤l.length+1:=by
 unfold bz;split
 ·simp
 ·rw [qm,aa6];have:=xx (w - dS l w) _ (l.drop (cO l w)) (aaV _);rw [abg] at this;omega
theorem M6 (l:List Cl) (h:ey l) (w:Int) (hw:0≤w∧w≤200):ap Tryz.prog G0 164 [dM l,iv w] [] 0 (.tup [tF (cf l w),iv 0]) []:=by
 have h1:=mI l w;have h2:=h.len;have:=M7 l h w hw (bz l w) (by omega) (sZ l w) (Jz l h w hw);rwa [Cz] at this
end Go.Proofs.YtkkanlcjjpoklaaGreatDoor
