/- What the theorem leans on, part 35. -/
import Derived.Test.YtkkanlcjjpoklaaGreatDoorStVPBC
set_option linter.unusedSimpArgs false
set_option linter.unusedVariables false
set_option maxRecDepth 8000
namespace Go.Proofs.YtkkanlcjjpoklaaGreatDoor
theorem lq (c:Cl):ap Tryz.prog G0 242 [.d (iL c)] [] 0 (bv (bU c)) []:=by
 obtain ⟨r,k,w,a⟩:=c;unfold bU;refine vF ab [0,1,2] Tryz.func242 rfl Tryz.results242 Tryz.ntmps242 ?_;(refine' Dq)
def SU (l:List Cl) (i:Nat):St:=⟨[(3,iv (dH (l.take i))),(6,dM l),(7,iv l.length),(8,iv i)],[],0⟩
attribute [push_cast] SU.eq_def
theorem o5 (l:List Cl) (hl:l.length≤100000000) (hw : ∀c∈l,cw c≤2):ap Tryz.prog G0 101 [dM l] [] 0 (iv (dH l)) []:=by
 refine vF ab [0,2,3,5,6,7,8,9] Tryz.func101 rfl Tryz.results101 Tryz.ntmps101 ?_;(refine' zg)
 refine vL (lv:=[0,2,3,5,6,7,8,9]) ab (SU l) (fun i=>i≤l.length) (fun i=>l.length - i) (0) ((aC.go [3,6,7,8] (by exact vT) rfl)) ?_ ?_
 ·exact aa1 _
 intro i hi;rcases aa2 i l.length with hk|hk
 ·obtain ⟨c,hc⟩ : ∃c,l[i]? = some c:=⟨_,IO hk⟩
  have e:=kR l hc;have h2:=hw c (aa0 hc);have h3:=iB (l:=l.take i) (fun x hx=>hw x (abm hx));rw [aa7] at h3;obtain ⟨r,k,w,a⟩:=c;simp only [cw] at e h2;(refine' jY hc)
  rw [show ((dH (l.take i):Nat):Int)+(w:Int)=(dH (l.take (i+1)):Nat) by omega];refine aG.go (i+1) [3,6,7,8] (by exact vT) ?_ ?_
  ·show l.length - (i+1)<l.length - i;omega
  ·show i+1≤l.length;omega
 ·obtain rfl:i=l.length:=by omega
  rw [SU,abC];(refine' zo)
def UD (l:List Cl) (i:Nat):St:=⟨[(0,dM l),(3,iv i)],[],0⟩
attribute [push_cast] UD.eq_def
set_option maxHeartbeats 1600000 in
theorem EV (l:List Cl) (h:ey l):ap Tryz.prog G0 206 [dM l] [] 0 (iv (ju l)) []:=by
 have hll:=h.len;unfold ju;refine vF ab [0,2,3,4,15,23] Tryz.func206 rfl Tryz.results206 Tryz.ntmps206 ?_;(refine' zg)
 refine vL (lv:=[0,2,3,4,15,23]) ab (UD l) (fun i=>i≤l.length ∧ ∀(j:Nat) x,j<i→l[j]? = some x→bU x=true) (fun i=>l.length - i) (0) ((aC.go [0,3] (by exact vT) rfl)) ?_ ?_
 ·exact ⟨aa1 _,fun j x hj=>by omega⟩
 rintro i ⟨h1,h2⟩;have fin:(∀x,l[i]? = some x→bU x=false)→l.takeWhile bU=l.take i:=fun hx=>qi h1 h2 hx
 have r2:=o5 (l.take i) (by rw [aa7];omega) (fun x hx=>h.wd x (abm hx));have r2':ap Tryz.prog G0 101 [.d (.sd 4 false ((l.map iL).take i))] [] 0 (iv (dH (l.take i))) []:=by rw [←acn];exact r2
 rcases aa2 i l.length with hk|hk
 ·obtain ⟨c,hc⟩ : ∃c,l[i]? = some c:=⟨_,IO hk⟩
  have r1:=lq c;have g3:=fun hb=>lu h2 hc hb
  have g4:bU c=false→l.takeWhile bU=l.take i:=fun hb=>fin (fun x hx=>by rw [hc] at hx;injection hx with hx;subst hx;exact hb)
  obtain ⟨r,k,w,a⟩:=c;cases hbl:bU (r,k,w,a) with
  | false=>
   rw [hbl] at r1;rw [g4 hbl];(refine' WU r1 r2' hc)
   all_goals (congr 1;omega)
  | true=>
   rw [hbl] at r1;(refine' pD r1 hc)
   refine aG.go (i+1) [0,3] (by exact vT) ?_ ?_
   ·show l.length - (i+1)<l.length - i;omega
   ·exact ⟨hk,g3 hbl⟩
 ·rw [fin (fun x hx=>by rw [abz hk] at hx;cases hx)];(refine' lK r2')
  all_goals (congr 1;omega)
theorem L8 (l:List Cl) (h:ey l) (n:Nat) (hn:n≤l.length):ap Tryz.prog G0 244 [dM l,iv n] [] 0 (bv (oq l n)) []:=by
 have hll:=h.len;unfold oq;by_cases h0:0<n∧n<l.length
 ·obtain ⟨c,hc⟩ : ∃c,l[n - 1]? = some c:=⟨_,IO (by omega)⟩
  obtain ⟨d,hd⟩ : ∃d,l[n]? = some d:=⟨_,IO (by omega)⟩
  have r1:=lq c;have r2:=lq d;rw [hc,hd,abw h0.1];simp only [aef];obtain ⟨r,k,w,a⟩:=c;obtain ⟨r',k',w',a'⟩:=d;generalize bU (r,k,w,a)=b1 at *
  generalize bU (r',k',w',a')=b2 at *
  refine vF ab [0,1,4] Tryz.func244 rfl Tryz.results244 Tryz.ntmps244 ?_;cases b1;all_goals cases b2
  all_goals
   (refine' QR r1 r2 hc hd)
  all_goals (congr 1;rw [act];simp [cw])
 ·refine vF ab [0,1,4] Tryz.func244 rfl Tryz.results244 Tryz.ntmps244 ?_;(refine' zo)
  ·rw [abz (show l.length≤n by omega)];cases l[n - 1]? <;> simp
  ·rw [abM (by omega)];rfl
def UB (l:List Cl) (room:Int) (n:Nat):St:=⟨[(0,dM l),(1,iv room),(5,iv n)],[],0⟩
def UC (l:List Cl) (n:Nat):St:=⟨[(0,dM l),(5,iv n)],[],0⟩
attribute [push_cast] UB.eq_def UC.eq_def
set_option maxHeartbeats 1600000 in
theorem GA (l:List Cl) (h:ey l) (h0:l≠[]) (room:Int) (hr : -1000≤room∧room≤1000):ap Tryz.prog G0 243 [dM l,iv room] [] 0 (iv (eE l room)) []:=by
 have hll:=h.len;have hl0:=aby.2 h0;have hwd:=iB h.wd;refine vF ab [0,1,4,5,18,22,34] Tryz.func243 rfl Tryz.results243 Tryz.ntmps243 ?_;(refine' zg)
 refine vL (lv:=[0,1,4,5,18,22,34]) ab (UB l room) (fun n=>n≤l.length ∧ ∀j,j<n→(dH (l.take (j+1)):Int)≤room) (fun n=>l.length - n) (0) ((aC.go [0,1,5] (by exact vT) rfl)) ?_ ?_
 ·exact ⟨aa1 _,fun j hj=>by omega⟩
 rintro n ⟨h1,h2⟩;have hmo:=jd l h1;rw [abC] at hmo;have fin:(∀c,l[n]? = some c→room<dH (l.take n)+cw c)→oE room l 0=n:=fun hx=>yM room l 0 n h1 (fun j hj=>by have:=h2 j hj;omega) (fun c hc=>by have:=hx c hc;omega)
 rcases aa2 n l.length with hk|hk
 ·obtain ⟨c,hc⟩ : ∃c,l[n]? = some c:=⟨_,IO hk⟩
  have e:=kR l hc;have h3:=h.wd c (aa0 hc);have hcw : ∀x,l[n]? = some x→cw x=cw c:=fun x hx=>by rw [hc] at hx;injection hx with hx;rw [hx]
  have r1:=o5 (l.take (n+1)) (by rw [aa7];omega) (fun x hx=>h.wd x (abm hx));have r2:ap Tryz.prog G0 101 [.d (.sd 4 false ((l.map iL).take ((n:Int)+1).toNat))] [] 0 (iv (dH (l.take (n+1)))) []:=by rw [show ((n:Int)+1).toNat=n+1 by omega,←acn];exact r1
  have r2z:n=0→ap Tryz.prog G0 101 [.d (.sd 4 false ((l.map iL).take 1))] [] 0 (iv (dH (l.take 1))) []:=fun e=>by rw [←acn];rw [e] at r1;exact r1
  by_cases hf:(dH (l.take (n+1)):Int)≤room
  ·(refine' Ng r2)
   refine aG.go (n+1) [0,1,5] (by exact vT) ?_ ?_
   ·show l.length - (n+1)<l.length - n;omega
   ·refine ⟨hk,fun j hj =>?_⟩;by_cases ej:j=n
    ·subst ej;exact hf
    ·exact h2 j (by omega)
  ·rcases abH n with hn|hn
   ·have e3:eE l room=1+JB (l.drop 1):=by rw [eE,fin (fun x hx=>by have:=hcw x hx;omega),aa3 hn]
    rw [e3];have r5:=r2z hn;clear r2z r1 r2;subst hn;simp only [acC] at hf;(refine' Ng r5)
    clear fin hcw;refine vL (lv:=[0,1,4,5,18,22,34]) ab (UC l) (fun m=>1≤m∧m≤l.length ∧ ∀(j:Nat) x,j<m - 1→(l.drop 1)[j]? = some x→(cw x==0)=true) (fun m=>l.length - m) (1) ((aC.go [0,5] (by exact vT) rfl)) ?_ ?_
    ·exact ⟨aaV _,hl0,fun j x hj=>by omega⟩
    rintro m ⟨q1,q2,q3⟩;rcases aa2 m l.length with hm|hm
    ·obtain ⟨c',hc'⟩ : ∃c',l[m]? = some c':=⟨_,IO hm⟩
     have hd:(l.drop 1)[m - 1]? = some c':=by rw [abJ,show 1+(m - 1)=m by omega];exact hc'
     have e4:cw c'≠0→JB (l.drop 1)=m - 1:=fun hne=>by
      rw [JB,qi (i:=m - 1) (by rw [abg];omega) q3 (fun x hx=>by rw [hd] at hx;injection hx with hx;subst hx;simpa using hne),aa7,abg];omega
     have q4:=fun hz=>lu q3 hd hz
     obtain ⟨r',k',w',a'⟩:=c';simp only [cw] at e4 q4;(refine' WS hc')
     ·refine aG.go (m+1) [0,5] (by exact vT) ?_ ?_
      ·show l.length - (m+1)<l.length - m;omega
      ·refine ⟨by show 1≤m+1;omega,hm,?_⟩;have:=q4 (by simp;omega);rwa [show m - 1+1=m+1 - 1 by omega] at this
     ·rw [e4 (by omega)];congr 1;omega
    ·have e4:JB (l.drop 1)=m - 1:=by
      rw [JB,qi (i:=m - 1) (by rw [abg];omega) q3 (fun x hx=>by rw [abz (by rw [abg];omega)] at hx;cases hx),aa7,abg];omega
     rw [e4];(refine' zo)
     congr 1;omega
   ·rw [eE,fin (fun x hx=>by have:=hcw x hx;omega),aaY (by omega)];(refine' Nh r2)
 ·rw [eE,fin (fun c hc=>by rw [abz hk] at hc;cases hc),aaY (by omega)];(refine' zo)
def Po (l:List Cl) (n:Nat) (a:Nat):St:=⟨[(0,dM l),(5,iv n),(6,iv (mn l a)),(7,iv (a+1))],[],0⟩
attribute [push_cast] Po.eq_def
set_option maxHeartbeats 1600000 in
theorem xr (l:List Cl) (h:ey l) (room:Int) (hr : -1000≤room∧room≤1000):ap Tryz.prog G0 209 [dM l,iv room] [] 0 (iv (bR l room)) []:=by
 have hll:=h.len;by_cases h0:l=[]
 ·subst h0;show ap Tryz.prog G0 209 [.d (.sd 4 false []),iv room] [] 0 (iv 0) [];refine vF ab [0,1,4,5,6,7,10,17,21,26,29] Tryz.func209 rfl Tryz.results209 Tryz.ntmps209 ?_;(refine' zo)
 have hl0:=aby.2 h0;have r1:=GA l h h0 room hr;have hf:=qJ (room:=room) h0;have hp:=ng l room;have hb : ∀k,k≤l.length→ap Tryz.prog G0 244 [dM l,iv k] [] 0 (bv (oq l k)) []:=fun k hk=>L8 l h k hk
 unfold bR;rw [aaY h0];generalize eE l room=n at *
 by_cases hn:n=l.length
 ·rw [aa3 hn];refine vF ab [0,1,4,5,6,7,10,17,21,26,29] Tryz.func209 rfl Tryz.results209 Tryz.ntmps209 ?_;(refine' lK r1)
  all_goals (try rw [hn])
 ·rw [aaY hn];refine vF ab [0,1,4,5,6,7,10,17,21,26,29] Tryz.func209 rfl Tryz.results209 Tryz.ntmps209 ?_;(refine' fq r1)
  refine vL (lv:=[0,1,4,5,6,7,10,17,21,26,29]) ab (Po l n) (fun a=>a≤n) (fun a=>n - a) (0) ((aC.go [0,5,6,7] (by exact vT) rfl)) ?_ ?_
  ·exact aa1 _
  intro a g1;have hba:=qO l a;rcases aa2 a n with ha|ha
  ·have r2:=hb (a+1) (by omega);have e5:mn l (a+1)=if oq l (a+1)=true then a+1 else mn l a:=by rw [mn]
   have e6:((a+1:Nat):Int)=(a:Int)+1:=by omega
   rw [e6] at r2;cases hbk:oq l (a+1) with
   | true=>
    rw [hbk] at r2 e5;rw [aa3 rfl] at e5;(refine' fq r2)
    refine aG.go (a+1) [0,5,6,7] (by rw [Po,e5,e6];exact vT) ?_ ?_
    ·show n - (a+1)<n - a;omega
    ·exact ha
   | false=>
    rw [hbk] at r2 e5;rw [aaY (by simp)] at e5;(refine' fq r2)
    refine aG.go (a+1) [0,5,6,7] (by rw [Po,e5,e6];exact vT) ?_ ?_
    ·show n - (a+1)<n - a;omega
    ·exact ha
  ·obtain rfl:a=n:=by omega
   (refine' zo)
   ·rw [aa3 (by omega)]
   ·rw [aaY (by omega)]
def UM (l:List Cl) (room:Int) (n i:Nat):St:=⟨[(0,dM l),(1,iv room),(5,iv n),(15,dM (l.take n)),(16,iv n),(17,iv i)],[],0⟩
attribute [push_cast] UM.eq_def
set_option maxHeartbeats 1600000 in
theorem IY (l:List Cl) (h:ey l) (room:Int) (hr : -1000≤room∧room≤1000):ap Tryz.prog G0 208 [dM l,iv room] [] 0 (iv (cO l room)) []:=by
 have hll:=h.len;have r1:=xr l h room hr;have hf:=gr l room;have r2:l≠[]→ap Tryz.prog G0 243 [dM l,iv room] [] 0 (iv (eE l room)) []:=fun h0=>GA l h h0 room hr
 have hp:l=[]→bR l room=0:=fun e=>by rw [bR,aa3 e]
 have hall : ∀n,(∀(j:Nat) x,j<n→(l.take n)[j]? = some x→bU x=true)→(l.take n).all bU=true:=fun n hx=>by
  rw [abF];intro c hc;obtain ⟨j,hj⟩:=ab6 hc;exact hx j c (by have:=(aaX.1 hj).1;rw [aa7] at this;omega) hj
 unfold cO;generalize bR l room=n at *
 rcases abH n with hn0|hn0
 ·subst hn0;rw [aaY (fun h=>h.2 rfl)];refine vF ab [0,1,4,5,7,12,15,16,17,18,23] Tryz.func208 rfl Tryz.results208 Tryz.ntmps208 ?_;(refine' lK r1)
 have hne:l≠[]:=fun e=>by have:=hp e;omega
 have r4:=r2 hne;refine vF ab [0,1,4,5,7,12,15,16,17,18,23] Tryz.func208 rfl Tryz.results208 Tryz.ntmps208 ?_;(refine' fq r1)
 have hln:(l.take n).length=n:=by rw [aa7];omega
 rw [←acn,show ((l.take n).map iL).length=n by rw [aa4,hln]];refine vL (lv:=[0,1,4,5,7,12,15,16,17,18,23]) ab (UM l room n) (fun i=>i≤n ∧ ∀(j:Nat) x,j<i→(l.take n)[j]? = some x→bU x=true) (fun i=>n - i) (0) ((aC.go [0,1,5,15,16,17] (by exact vT) rfl)) ?_ ?_
 ·exact ⟨aa1 _,fun j x hj=>by omega⟩
 rintro i ⟨g1,g2⟩;rcases aa2 i n with hi|hi
 ·obtain ⟨c,hc⟩ : ∃c,(l.take n)[i]? = some c:=⟨_,IO (by omega)⟩
  have r3:=lq c;have hna:bU c=false → ¬((l.take n).all bU=true∧n≠0):=fun hb hx=>by
   have:=abF.1 hx.1 c (aa0 hc);rw [hb] at this;cases this
  have g3:=fun hb=>lu g2 hc hb
  obtain ⟨r,k,w,a⟩:=c;cases hb:bU (r,k,w,a) with
  | false=>
   rw [hb] at r3;rw [aaY (hna hb)];(refine' uO r3 hc)
  | true=>
   rw [hb] at r3;(refine' pD r3 hc)
   refine aG.go (i+1) [0,1,5,15,16,17] (by exact vT) ?_ ?_
   ·show n - (i+1)<n - i;omega
   ·exact ⟨hi,g3 hb⟩
 ·obtain rfl:i=n:=by omega
  rw [aa3 ⟨hall _ g2,by omega⟩];(refine' lK r4)
def Uy (l:List Cl) (a b:Int) (x:Nat × List Nat):St:=⟨[(0,dM l),(3,.po 0 0),(5,.so 1 1 0 x.2.length),(6,iv x.1)],[(0,.cell [iv a,iv b]),(1,Jd x.2)],2⟩
attribute [push_cast] Uy.eq_def
set_option maxHeartbeats 1600000 in
theorem O9 (l:List Cl) (h:ey l) (a b:Int) (ha : -1000≤a∧a≤1000) (hb : -1000≤b∧b≤1000):ap Tryz.prog G0 154 [dM l,.d (.agg [iD a,iD b])] [] 0 (.d (.sd 1 false ((qm l a b).map od))) []:=by
 have hll:=h.len;have r1:=IY l h a ha;have hs:=pj l a;refine vF ab [0,1,3,4,5,6,7,19] Tryz.func154 rfl Tryz.results154 Tryz.ntmps154 ?_;(refine' fq r1)
 refine vL (lv:=[0,1,3,4,5,6,7,19]) ab (Uy l a b) (fun x=>x.1≤l.length∧x.2.length≤x.1+1∧x.2++db b (l.drop x.1)=qm l a b) (fun x=>l.length - x.1) ((cO l a,[cO l a])) ((aC.go [0,3,5,6] (by exact vT) rfl)) ?_ ?_
 ·exact ⟨hs,by show 1≤cO l a+1;omega,rfl⟩
 rintro ⟨p,q⟩ ⟨g1,g2,g3⟩;simp only at g1 g2 g3;rcases aa2 p l.length with hk|hk
 ·have hne:l.drop p≠[]:=fun e=>by have:=congrArg List.length e;rw [abg,abt] at this;omega
  have r2:=xr (l.drop p) (h.drop p) b hb;have r2':ap Tryz.prog G0 209 [.d (.sd 4 false ((l.map iL).drop p)),iv b] [] 0 (iv (bR (l.drop p) b)) []:=by rw [←adj];exact r2
  have h5:=cD b hne;have h6:=gr (l.drop p) b;rw [abg] at h6;rw [db,acX hne,acm] at g3;generalize bR (l.drop p) b=n at *
  (refine' fq r2')
  rw [nW q n,aa4];refine aG.go ((p+n,q++[n])) [0,3,5,6] (by exact vT) ?_ ?_
  ·show l.length - (p+n)<l.length - p;omega
  ·exact ⟨by show p+n≤l.length;omega,by simp only [Or,abk];omega,by rw [←g3];simp⟩
 ·rw [abo hk,db,acB rfl,abb] at g3;subst g3;(refine' zg)
  refine ae.frz 1 (ae.out ?_);(refine' zg)
  all_goals (try rw [aaW (by simp)])
theorem IT (w:Int):ap Tryz.prog G0 207 [iv w] [] 0 (bv (decide (0≤w)&&decide (w≤200))) []:=by
 refine vF ab [0,2] Tryz.func207 rfl Tryz.results207 Tryz.ntmps207 ?_;(refine' zo)
theorem Cn (l:List Cl) (h:ey l) (w:Int) (hw:0≤w∧w≤200):ap Tryz.prog G0 153 [dM l,iv w] [] 0 (iv (dS l w)) []:=by
 have r1:=EV l h;have r2:=IT w;rw [abw hw.1,abw hw.2] at r2;have hi:=ff l;unfold dS;generalize ju l=n at *
 by_cases hlt:w<n+2
 ·rw [aa3 hlt];refine vF ab [0,1,4,5,16] Tryz.func153 rfl Tryz.results153 Tryz.ntmps153 ?_;(refine' xW r1 r2)
 ·rw [aaY hlt];refine vF ab [0,1,4,5,16] Tryz.func153 rfl Tryz.results153 Tryz.ntmps153 ?_;(refine' xW r1 r2)
def UK (l:List Cl) (h:Nat) (ns:List Nat) (x:Nat × Nat × List (List Cl)):St:=
 ⟨[(0,dM l),(6,iv h),(7,.so 0 1 0 x.2.2.length),(8,iv x.2.1),(28,.d (.sd 1 false (ns.map od))),(29,iv ns.length),(30,iv x.1)],[(0,.row 1 (x.2.2.map AA))],1⟩
def UJ (l:List Cl) (h:Nat) (ns:List Nat) (i at':Nat) (q:List (List Cl)) (n:Nat) (a:Int) (k:Nat):St:=
 ⟨[(0,dM l),(6,iv h),(7,.so 0 1 0 q.length),(8,iv at'),(9,iv i),(10,iv n),(11,.so 1 4 0 k),(12,iv k),(28,.d (.sd 1 false (ns.map od))),(29,iv ns.length),(30,iv i)],[(0,.row 1 (q.map AA)),(1,Qp (List.replicate k (oI a)))],2⟩
attribute [push_cast] UK.eq_def UJ.eq_def
set_option maxHeartbeats 6400000 in
theorem L6 (l:List Cl) (h:ey l) (w:Int) (hw:0<w∧w≤200) (ns:List Nat) (hns:ns.length≤100000001) (hok:EG 0 l ns) (rt : ∀b:Int,b=w - dS l w→ap Tryz.prog G0 154 [dM l,.d (.agg [iD w,iD b])] [] 0 (.d (.sd 1 false (ns.map od))) []) :
 ap Tryz.prog G0 99 [dM l,iv w] [] 0 (tF (gL (dS l w) 0 l ns)) []:=by
 have r2:=Cn l h w (by omega);have hh:dS l w≤8:=by have:=ff l;unfold dS;split<;>omega
 have hll:=h.len;generalize dS l w=hg at *
 have r1:=rt _ rfl;refine vF ab [0,1,4,5,6,7,8,9,10,11,12,20,28,29,30,31,41] Tryz.func99 rfl Tryz.results99 Tryz.ntmps99 ?_;(refine' Ax r2 r1)
 refine vL (lv:=[0,1,4,5,6,7,8,9,10,11,12,20,28,29,30,31,41]) ab (UK l hg ns) (fun x=>x.1≤ns.length∧x.2.2.length=x.1∧x.2.1≤l.length∧EG x.1 (l.drop x.2.1) (ns.drop x.1)∧x.2.2++gL hg x.1 (l.drop x.2.1) (ns.drop x.1)=gL hg 0 l ns) (fun x=>ns.length - x.1) ((0,0,[])) (aC.nil 7 1<|(aC.go [0,6,7,8,28,29,30] (by exact vT) rfl)) ?_ ?_
 ·exact ⟨aa1 _,rfl,aa1 _,hok,rfl⟩
 rintro ⟨i,p,q⟩ ⟨g1,g2,g3,g4,g5⟩;simp only at g1 g2 g3 g4 g5;rcases aa2 i ns.length with hi|hi
 ·obtain ⟨n,hn⟩ : ∃n,ns[i]? = some n:=⟨_,IO hi⟩
  have hdr:ns.drop i=n::ns.drop (i+1):=by rw [abI hi,(aaX.1 hn).2]
  rw [hdr] at g4 g5;obtain ⟨k1,k2,k3⟩:=g4;rw [abg] at k1;rw [gL] at g5;obtain ⟨a,ha⟩ : ∃a:Int,∀c,l[p]? = some c→c.2.2.2=a:=by
   cases hc:l[p]? with
   | none=>exact ⟨0,fun c e=>by cases e⟩
   | some c=>exact ⟨c.2.2.2,fun d e=>by injection e with e;rw [e]⟩
  have hbe:i≠0→eQ hg ((l.drop p).take n)=List.replicate hg (oI a)++(l.drop p).take n:=fun h0=>by
   have hn0:0<n:=k2.resolve_left h0;have hp:p<l.length:=by omega
   rw [abI hp];obtain ⟨m,rfl⟩ : ∃m,n=m+1:=⟨n - 1,by omega⟩
   rw [abn,eQ,ha l[p] (IO hp)]
  have ec:List.drop p (List.take (p+n) (l.map iL))=((l.drop p).take n).map iL:=by rw [←acn,←adj,List.drop_take,ac0]
  have ed:List.drop n (List.drop p l)=l.drop (p+n):=acm;rw [ed] at k3 g5;(refine' jY hn)
  refine vL (lv:=[0,1,4,5,6,7,8,9,10,11,12,20,28,29,30,31,41]) ab (UJ l hg ns i p q n a) (fun k=>k≤hg∧(i=0→k=0)) (fun k=>hg - k) (0) (aC.nil 11 4<|(aC.go [0,6,7,8,9,10,11,12,28,29,30] (by exact vT) rfl)) ?_ ?_
  ·exact ⟨aa1 _,fun _=>rfl⟩
  rintro k ⟨q1,q2⟩;rcases abH i with hi0|hi0
  ·have hk0:k=0:=q2 hi0;subst hk0;rw [aa3 hi0] at g5;(refine' JC)
   rw [ec,←abc,List.replicate_zero,abL];rw [show q.map AA++[D.sd 4 false (((l.drop p).take n).map iL)]=(q++[(l.drop p).take n]).map AA from nV q _,aa4];refine aG.go ((i+1,p+n,q++[(l.drop p).take n])) [0,6,7,8,28,29,30] (by exact vT) ?_ ?_
   ·show ns.length - (i+1)<ns.length - i;omega
   ·refine ⟨hi,by simp only [Or,abk];omega,by show p+n≤l.length;omega,k3,?_⟩;rw [aba];exact g5
  ·have hn0:0<n:=k2.resolve_left (by omega);rw [aaY (by omega),hbe (by omega)] at g5;obtain ⟨c,hc⟩ : ∃c,l[p]? = some c:=⟨_,IO (by omega)⟩
   have hca:=ha c hc;obtain ⟨cr,ck,cw',ca⟩:=c;simp only at hca;subst hca;rcases aa2 k hg with hlt|hge
   ·(refine' uN hc)
    rw [show (List.replicate k (oI ca)).map iL++[D.agg [D.lit (Value.int IntKind.i32 32),D.lit (Value.int IntKind.i64 5),D.lit (Value.int IntKind.i64 1),iD ca]]=(List.replicate (k+1) (oI ca)).map iL by rw [acr];exact eM _ (oI ca),aa4,abS];refine aG.go (k+1) [0,6,7,8,9,10,11,12,28,29,30] (by exact vT) ?_ ?_
    ·show hg - (k+1)<hg - k;omega
    ·exact ⟨hlt,fun h=>by omega⟩
   ·obtain rfl:k=hg:=by omega
    (refine' JC)
    rw [ec,←abc];rw [show q.map AA++[D.sd 4 false ((List.replicate k (oI ca)++(l.drop p).take n).map iL)]=(q++[List.replicate k (oI ca)++(l.drop p).take n]).map AA from nV q _,aa4];refine aG.go ((i+1,p+n,q++[List.replicate k (oI ca)++(l.drop p).take n])) [0,6,7,8,28,29,30] (by exact vT) ?_ ?_
    ·show ns.length - (i+1)<ns.length - i;omega
    ·refine ⟨hi,by simp only [Or,abk];omega,by show p+n≤l.length;omega,k3,?_⟩;rw [aba];exact g5
 ·rw [abo hi,gL,abb] at g5;subst g5;(refine' zg)
  refine ae.frz 0 (ae.out ?_);(refine' zg)
  all_goals (try rw [aaW (by simp)])
theorem IU (l:List Cl) (h:ey l) (w:Int) (hw:0<w∧w≤200):ap Tryz.prog G0 99 [dM l,iv w] [] 0 (tF (cf l w)) []:=by
 have hh:dS l w≤8:=by have:=ff l;unfold dS;split<;>omega
 have:=L6 l h w hw (bz l w) (by have:=mI l w;have:=h.len;omega) (sZ l w) (fun b hb=>by
  have:=O9 l h w b (by omega) (by omega);rw [bz,aaY (by omega),←hb];exact this)
 rwa [Cz] at this
def UI (l:List Cl) (h:Nat) (x:Nat × Nat × List (List Cl)):St:=
 ⟨[(0,dM l),(6,iv h),(7,.so 0 1 0 x.2.2.length),(8,iv x.2.1),(28,.so 1 1 0 1),(29,iv 1),(30,iv x.1)],[(0,.row 1 (x.2.2.map AA)),(1,Jd [l.length])],2⟩
def UH (l:List Cl) (h:Nat):St:=
 ⟨[(0,dM l),(6,iv h),(7,.so 0 1 0 0),(8,iv 0),(9,iv 0),(10,iv l.length),(11,.so 1 4 0 0),(12,iv 0),(28,.so 2 1 0 1),(29,iv 1),(30,iv 0)],[(0,.row 1 []),(1,Qp []),(2,Jd [l.length])],3⟩
attribute [push_cast] UI.eq_def UH.eq_def
set_option maxHeartbeats 6400000 in
theorem Pf (l:List Cl) (h:ey l):ap Tryz.prog G0 99 [dM l,iv 0] [] 0 (tF [l]) []:=by
 have r2:=Cn l h 0 (by omega);have hll:=h.len;have h0:[l.length][0]? = some l.length:=rfl;generalize dS l 0=hg at *
 refine vF ab [0,1,4,5,6,7,8,9,10,11,12,20,28,29,30,31,41] Tryz.func99 rfl Tryz.results99 Tryz.ntmps99 ?_;(refine' fq r2)
 refine vL (lv:=[0,1,4,5,6,7,8,9,10,11,12,20,28,29,30,31,41]) ab (UI l hg) (fun x=>x=(0,0,[])∨x=(1,l.length,[l])) (fun x=>1 - x.1) ((0,0,[])) (aC.nil 7 1<|(aC.go [0,6,7,8,28,29,30] (by exact vT) rfl)) ?_ ?_
 ·exact .inl rfl
 rintro x (rfl|rfl)
 ·(refine' jY h0)
  refine vL (lv:=[0,1,4,5,6,7,8,9,10,11,12,20,28,29,30,31,41]) ab (fun _:Unit=>UH l hg) (fun _=>True) (fun _=>0) (()) (aC.nil 11 4<|(aC.go [0,6,7,8,9,10,11,12,28,29,30] (by exact vT) rfl)) ?_ ?_
  ·trivial
  rintro ⟨⟩ -
  (refine' JC)
  (try rw [aaW (by simp)])
  refine aG.go ((1,l.length,[l])) [0,6,7,8,28,29,30] (by exact vT) ?_ ?_
  ·exact ade _
  ·exact .inr rfl
 ·(refine' zg)
  refine ae.frz 0 (ae.out ?_);(refine' zg)
theorem L5 (l:List Cl) (h:ey l) (w:Int) (hw:0≤w∧w≤200):ap Tryz.prog G0 99 [dM l,iv w] [] 0 (tF (cf l w)) []:=by
 by_cases h0:w=0
 ·subst h0;have e:cf l 0=[l]:=by
   rw [cf,bz,aa3 rfl,dB,dB,abC];rfl
  rw [e];exact Pf l h
 ·exact IU l h w (by omega)
def UE (l:List (Int × Int)) (r:Int) (i:Nat):St:=⟨[(1,.d (dm r)),(7,.d (Tr l)),(8,iv l.length),(9,iv i)],[],0⟩
attribute [push_cast] UE.eq_def
theorem Mc (l:List (Int × Int)) (hl:l.length≤1000000) (r:Int):ap Tryz.prog G0 245 [.d (Tr l),.d (dm r)] [] 0 (bv (H8 l r)) []:=by
 refine vF ab [0,1,4,6,7,8,9,10,22] Tryz.func245 rfl Tryz.results245 Tryz.ntmps245 ?_;(refine' zg)
 refine vL (lv:=[0,1,4,6,7,8,9,10,22]) ab (UE l r) (fun i=>i≤l.length ∧ ∀(j:Nat) x,j<i→l[j]? = some x→x.2<r∨r<x.1) (fun i=>l.length - i) (0) ((aC.go [1,7,8,9] (by exact vT) rfl)) ?_ ?_
 ·exact ⟨aa1 _,fun j x h=>absurd h (aea _)⟩
 rintro i ⟨h1,h2⟩;rcases aa2 i l.length with hk|hk
 ·obtain ⟨x,hx⟩ : ∃x,l[i]? = some x:=⟨_,IO hk⟩
  have hm:=aa0 hx;by_cases hr:x.1≤r∧r≤x.2
  ·rw [Gc hm hr.1 hr.2];obtain ⟨a,b⟩:=x;simp only at hr;(refine' Tx hx)
  ·obtain ⟨a,b⟩:=x;simp only at hr;(refine' jY hx)
   all_goals
    refine aG.go (i+1) [1,7,8,9] (by exact vT) ?_ ?_
    ·show l.length - (i+1)<l.length - i;omega
    ·refine ⟨hk,fun j y hj hy =>?_⟩;by_cases e:j=i
     ·subst e;rw [hx] at hy;injection hy with hy;subst hy;simp only;omega
     ·exact h2 j y (by omega) hy
 ·rw [Lh (fun j x hx=>h2 j x (by have:=(aaX.1 hx).1;omega) hx)];(refine' zo)
theorem SK (z w:List (Int × Int)) (hz:z.length≤1000000) (hw:w.length≤1000000) (r:Int):ap Tryz.prog G0 210 [.d (wo z w),.d (dm r)] [] 0 (iv (P2 z w r)) []:=by
 have r1:=Mc z hz r;have r2:=Mc w hw r;unfold P2;generalize H8 z r=a at *
 generalize H8 w r=b at *
 cases a;all_goals cases b
 all_goals
  refine vF ab [0,1,4,10,16] Tryz.func210 rfl Tryz.results210 Tryz.ntmps210 ?_;(refine' uR r1 r2)
  all_goals rfl
theorem R9 {a n tab:Nat} (h0:1≤n) (h:n<tab - a % tab):(a+n) % tab≠0:=by
 have e:=adG a tab;have:(a+n) % tab=a % tab+n:=by
  rw [show a+n=tab*(a / tab)+(a % tab+n) by omega,Nat.mul_add_mod,Nat.mod_eq_of_lt (by omega)]
 omega
theorem R8 {a tab:Nat} (ht:1≤tab):(a+(tab - a % tab)) % tab=0:=by
 have e:=adG a tab;have hm:=adm a (show tab > 0 by omega);rw [show a+(tab - a % tab)=tab*(a / tab)+tab by omega,Nat.mul_add_mod,Nat.mod_self]
def UO (z w:List (Int × Int)) (tab:Nat) (l:List Int) (x:Nat × List Nat × Nat):St:=
 ⟨[(0,.d (wo z w)),(2,iv tab),(7,.so 0 1 0 x.2.1.length),(8,iv x.2.2),(12,.d (.sd 1 false (l.map dm))),(13,iv l.length),(14,iv x.1)],[(0,Jd x.2.1)],1⟩
def UN (z w:List (Int × Int)) (tab:Nat) (l:List Int) (i:Nat) (ss:List Nat) (at':Nat) (n:Nat):St:=
 ⟨[(0,.d (wo z w)),(2,iv tab),(7,.so 0 1 0 ss.length),(8,iv at'),(11,iv n),(12,.d (.sd 1 false (l.map dm))),(13,iv l.length),(14,iv i)],[(0,Jd ss)],1⟩
attribute [push_cast] UO.eq_def UN.eq_def
set_option maxHeartbeats 6400000 in
theorem IV (z w:List (Int × Int)) (hz:z.length≤1000000) (hw:w.length≤1000000) (tab:Nat) (ht:1≤tab∧tab≤16) (l:List Int) (hl:l.length≤4000000) :
 ap Tryz.prog G0 156 [.d (wo z w),.d (.sd 1 false (l.map dm)),iv tab] [] 0 (.d (.sd 1 false ((qC z w tab 0 l).map od))) []:=by
 refine vF ab [0,1,2,6,7,8,10,11,12,13,14,15,22,32] Tryz.func156 rfl Tryz.results156 Tryz.ntmps156 ?_;(refine' zg)
 refine vL (lv:=[0,1,2,6,7,8,10,11,12,13,14,15,22,32]) ab (UO z w tab l) (fun x=>x.1≤l.length∧x.2.1=qC z w tab 0 (l.take x.1)∧x.2.2=m9 z w tab 0 (l.take x.1)) (fun x=>l.length - x.1) ((0,[],0)) (aC.nil 7 1<|(aC.go [0,2,7,8,12,13,14] (by exact vT) rfl)) ?_ ?_
 ·exact ⟨aa1 _,rfl,rfl⟩
 rintro ⟨i,ss,a⟩ ⟨g1,g2,g3⟩;simp only at g1 g2 g3;have hsl:ss.length=i:=by rw [g2,lC,aa7];omega
 have hal:a≤16*i:=by
  have:=yG (z:=z) (w:=w) ht.1 ht.2 (l.take i) 0;rw [←g3,aa7] at this;omega
 rcases aa2 i l.length with hk|hk
 ·obtain ⟨r,hr⟩ : ∃r,l[i]? = some r:=⟨_,IO hk⟩
  have r1:=SK z w hz hw r;have e1:qC z w tab 0 (l.take (i+1))=ss++[og z w tab a r]:=by rw [ao hr,uu,←g2,←g3]
  have e2:m9 z w tab 0 (l.take (i+1))=a+og z w tab a r:=by rw [ao hr,oC,←g3]
  have hw2:=Fs z w r;by_cases h9:r=9
  ·have htb:og z w tab a r=if 64≤a then 1 else tab - a % tab:=by rw [og,aa3 h9]
   have hm:=adm a (show tab > 0 by omega);have hs16:=uy (z:=z) (w:=w) (a:=a) (r:=r) ht.1 ht.2;have hal2:a≤64000000:=by omega
   generalize og z w tab a r=s at *
   (refine' pD r1 hr)
   refine vL (lv:=[0,1,2,6,7,8,10,11,12,13,14,15,22,32]) ab (UN z w tab l i ss a) (fun n=>1≤n∧n≤s) (fun n=>s - n) (1) ((aC.go [0,2,7,8,11,12,13,14] (by exact vT) rfl)) ?_ ?_
   ·refine ⟨aaV _,?_⟩;rw [htb];split<;>omega
   rintro n ⟨k1,k2⟩;have e:(((a+n) % tab:Nat):Int)=((a:Int)+(n:Int)) % (tab:Int):=by rw [←adE];rfl
   rcases aa2 n s with hn|hn
   ·have h64 : ¬64≤a:=fun h=>by rw [aa3 h] at htb;omega
    rw [aaY h64] at htb;have hne:=R9 (a:=a) k1 (by omega:n<tab - a % tab);have hne':((a:Int)+(n:Int)) % (tab:Int)≠0:=by omega
    (repeat' (first|(refine vRS ?_)|(refine' cP)|fail))
    refine aG.go (n+1) [0,2,7,8,11,12,13,14] (by exact vT) ?_ ?_
    ·show s - (n+1)<s - n;omega
    ·exact ⟨by show 1≤n+1;omega,hn⟩
   ·have hns:n=s:=by omega
    have hst:64≤a∨(a+n) % tab=0:=by
     by_cases h64:64≤a
     ·exact .inl h64
     ·rw [aaY h64] at htb;rw [hns,htb];exact .inr (R8 ht.1)
    (repeat' (first|(refine vRS ?_)|(refine' cP)|fail))
    all_goals rw [show ss.map od++[D.lit (Value.int IntKind.i64 (n:Int))]=(ss++[n]).map od from nW ss n,aa4,show ((a:Int)+(n:Int))=((a+n:Nat):Int) by omega]
    all_goals refine aG.go ((i+1,ss++[n],a+n)) [0,2,7,8,12,13,14] (by exact vT) ?_ ?_
    all_goals first|(show l.length - (i+1)<l.length - i;omega)|exact ⟨hk,by rw [hns];exact e1.symm,by rw [hns];exact e2.symm⟩
  ·have htb:og z w tab a r=P2 z w r:=by rw [og,aaY h9]
   rw [htb] at e1 e2;generalize P2 z w r=s at *
   (refine' pD r1 hr)
   rw [show ss.map od++[D.lit (Value.int IntKind.i64 (s:Int))]=(ss++[s]).map od from nW ss s,aa4,show ((a:Int)+(s:Int))=((a+s:Nat):Int) by omega];refine aG.go ((i+1,ss++[s],a+s)) [0,2,7,8,12,13,14] (by exact vT) ?_ ?_
   ·show l.length - (i+1)<l.length - i;omega
   ·exact ⟨hk,e1.symm,e2.symm⟩
 ·rw [aaW hk] at g2;(refine' zg)
  refine ae.frz 0 (ae.out ?_);(refine' zg)
  all_goals (try rw [g2])
  all_goals (try rw [aaW (by simp)])
end Go.Proofs.YtkkanlcjjpoklaaGreatDoor
