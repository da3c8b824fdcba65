/- What the theorem leans on, part 37. -/
import Derived.Test.YtkkanlcjjpoklaaGreatDoorStUPBC
set_option linter.unusedSimpArgs false
set_option linter.unusedVariables false
set_option maxRecDepth 8000
namespace Go.Proofs.YtkkanlcjjpoklaaGreatDoor
theorem kz (c:Cl):an Tryz.prog G0 242 [.d (gN c)] [] 0 (bv (bL c)) []:=by
 obtain ⟨r,k,w,a⟩:=c;unfold bL;refine vF ab [0,1,2] Tryz.func242 rfl Tryz.results242 Tryz.ntmps242 ?_;(refine' BD)
def Qi (l:List Cl) (i:Nat):St:=⟨[(3,iv (cZ (l.take i))),(6,cM l),(7,iv l.length),(8,iv i)],[],0⟩
attribute [push_cast] Qi.eq_def
theorem n7 (l:List Cl) (hl:l.length≤100000000) (hw : ∀c∈l,cw c≤2):an Tryz.prog G0 101 [cM l] [] 0 (iv (cZ l)) []:=by
 refine vF ab [0,2,3,5,6,7,8,9] Tryz.func101 rfl Tryz.results101 Tryz.ntmps101 ?_;(refine' zg)
 refine vL (lv:=[0,2,3,5,6,7,8,9]) ab (Qi l) (fun i=>i≤l.length) (fun i=>l.length - i) (0) ((aC.go [3,6,7,8] (by exact vT) rfl)) ?_ ?_
 ·exact Nat.zero_le _
 intro i hi;rcases Nat.lt_or_ge i l.length with hk|hk
 ·obtain ⟨c,hc⟩ : ∃c,l[i]? = some c:=⟨_,List.getElem?_eq_getElem hk⟩
  have e:=j8 l hc;have h2:=hw c (List.mem_of_getElem? hc);have h3:=gL (l:=l.take i) (fun x hx=>hw x (List.mem_of_mem_take hx));rw [List.length_take] at h3;obtain ⟨r,k,w,a⟩:=c;simp only [cw] at e h2;(refine' pp hc)
  rw [show ((cZ (l.take i):Nat):Int)+(w:Int)=(cZ (l.take (i+1)):Nat) by omega];refine aG.go (i+1) [3,6,7,8] (by exact vT) ?_ ?_
  ·show l.length - (i+1)<l.length - i;omega
  ·show i+1≤l.length;omega
 ·obtain rfl:i=l.length:=by omega
  rw [Qi,List.take_length];(refine' zo)
def R0 (l:List Cl) (i:Nat):St:=⟨[(0,cM l),(3,iv i)],[],0⟩
attribute [push_cast] R0.eq_def
set_option maxHeartbeats 1600000 in
theorem C6 (l:List Cl) (h:dH l):an Tryz.prog G0 206 [cM l] [] 0 (iv (iP l)) []:=by
 have hll:=h.len;unfold iP;refine vF ab [0,2,3,4,15,23] Tryz.func206 rfl Tryz.results206 Tryz.ntmps206 ?_;(refine' zg)
 refine vL (lv:=[0,2,3,4,15,23]) ab (R0 l) (fun i=>i≤l.length ∧ ∀(j:Nat) x,j<i→l[j]? = some x→bL x=true) (fun i=>l.length - i) (0) ((aC.go [0,3] (by exact vT) rfl)) ?_ ?_
 ·exact ⟨Nat.zero_le _,fun j x hj=>by omega⟩
 rintro i ⟨h1,h2⟩;have fin:(∀x,l[i]? = some x→bL x=false)→l.takeWhile bL=l.take i:=fun hx=>pn h1 h2 hx
 have r2:=n7 (l.take i) (by rw [List.length_take];omega) (fun x hx=>h.wd x (List.mem_of_mem_take hx));have r2':an Tryz.prog G0 101 [.d (.sd 4 false ((l.map gN).take i))] [] 0 (iv (cZ (l.take i))) []:=by rw [←List.map_take];exact r2
 rcases Nat.lt_or_ge i l.length with hk|hk
 ·obtain ⟨c,hc⟩ : ∃c,l[i]? = some c:=⟨_,List.getElem?_eq_getElem hk⟩
  have r1:=kz c;have g3:=fun hb=>i4 h2 hc hb
  have g4:bL c=false→l.takeWhile bL=l.take i:=fun hb=>fin (fun x hx=>by rw [hc] at hx;injection hx with hx;subst hx;exact hb)
  obtain ⟨r,k,w,a⟩:=c;cases hbl:bL (r,k,w,a) with
  | false=>
   rw [hbl] at r1;rw [g4 hbl];(refine' T2 r1 r2' hc)
   all_goals (congr 1;omega)
  | true=>
   rw [hbl] at r1;(refine' lS r1 hc)
   refine aG.go (i+1) [0,3] (by exact vT) ?_ ?_
   ·show l.length - (i+1)<l.length - i;omega
   ·exact ⟨hk,g3 hbl⟩
 ·rw [fin (fun x hx=>by rw [List.getElem?_eq_none hk] at hx;cases hx)];(refine' kW r2')
  all_goals (congr 1;omega)
theorem J7 (l:List Cl) (h:dH l) (n:Nat) (hn:n≤l.length):an Tryz.prog G0 244 [cM l,iv n] [] 0 (bv (nu l n)) []:=by
 have hll:=h.len;unfold nu;by_cases h0:0<n∧n<l.length
 ·obtain ⟨c,hc⟩ : ∃c,l[n - 1]? = some c:=⟨_,List.getElem?_eq_getElem (by omega)⟩
  obtain ⟨d,hd⟩ : ∃d,l[n]? = some d:=⟨_,List.getElem?_eq_getElem (by omega)⟩
  have r1:=kz c;have r2:=kz d;rw [hc,hd,decide_eq_true h0.1];simp only [Bool.true_and];obtain ⟨r,k,w,a⟩:=c;obtain ⟨r',k',w',a'⟩:=d;generalize bL (r,k,w,a)=b1 at *
  generalize bL (r',k',w',a')=b2 at *
  refine vF ab [0,1,4] Tryz.func244 rfl Tryz.results244 Tryz.ntmps244 ?_;cases b1;all_goals cases b2
  all_goals
   (refine' Ou r1 r2 hc hd)
  all_goals (congr 1;rw [Bool.eq_iff_iff];simp [cw])
 ·refine vF ab [0,1,4] Tryz.func244 rfl Tryz.results244 Tryz.ntmps244 ?_;(refine' zo)
  ·rw [List.getElem?_eq_none (show l.length≤n by omega)];cases l[n - 1]? <;> simp
  ·rw [decide_eq_false (by omega)];rfl
def RY (l:List Cl) (room:Int) (n:Nat):St:=⟨[(0,cM l),(1,iv room),(5,iv n)],[],0⟩
def RZ (l:List Cl) (n:Nat):St:=⟨[(0,cM l),(5,iv n)],[],0⟩
attribute [push_cast] RY.eq_def RZ.eq_def
set_option maxHeartbeats 1600000 in
theorem EH (l:List Cl) (h:dH l) (h0:l≠[]) (room:Int) (hr : -1000≤room∧room≤1000):an Tryz.prog G0 243 [cM l,iv room] [] 0 (iv (d9 l room)) []:=by
 have hll:=h.len;have hl0:=List.length_pos_iff.2 h0;have hwd:=gL h.wd;refine vF ab [0,1,4,5,18,22,34] Tryz.func243 rfl Tryz.results243 Tryz.ntmps243 ?_;(refine' zg)
 refine vL (lv:=[0,1,4,5,18,22,34]) ab (RY l room) (fun n=>n≤l.length ∧ ∀j,j<n→(cZ (l.take (j+1)):Int)≤room) (fun n=>l.length - n) (0) ((aC.go [0,1,5] (by exact vT) rfl)) ?_ ?_
 ·exact ⟨Nat.zero_le _,fun j hj=>by omega⟩
 rintro n ⟨h1,h2⟩;have hmo:=iu l h1;rw [List.take_length] at hmo;have fin:(∀c,l[n]? = some c→room<cZ (l.take n)+cw c)→nG room l 0=n:=fun hx=>xm room l 0 n h1 (fun j hj=>by have:=h2 j hj;omega) (fun c hc=>by have:=hx c hc;omega)
 rcases Nat.lt_or_ge n l.length with hk|hk
 ·obtain ⟨c,hc⟩ : ∃c,l[n]? = some c:=⟨_,List.getElem?_eq_getElem hk⟩
  have e:=j8 l hc;have h3:=h.wd c (List.mem_of_getElem? hc);have hcw : ∀x,l[n]? = some x→cw x=cw c:=fun x hx=>by rw [hc] at hx;injection hx with hx;rw [hx]
  have r1:=n7 (l.take (n+1)) (by rw [List.length_take];omega) (fun x hx=>h.wd x (List.mem_of_mem_take hx));have r2:an Tryz.prog G0 101 [.d (.sd 4 false ((l.map gN).take ((n:Int)+1).toNat))] [] 0 (iv (cZ (l.take (n+1)))) []:=by rw [show ((n:Int)+1).toNat=n+1 by omega,←List.map_take];exact r1
  have r2z:n=0→an Tryz.prog G0 101 [.d (.sd 4 false ((l.map gN).take 1))] [] 0 (iv (cZ (l.take 1))) []:=fun e=>by rw [←List.map_take];rw [e] at r1;exact r1
  by_cases hf:(cZ (l.take (n+1)):Int)≤room
  ·(refine' K8 r2)
   refine aG.go (n+1) [0,1,5] (by exact vT) ?_ ?_
   ·show l.length - (n+1)<l.length - n;omega
   ·refine ⟨hk,fun j hj =>?_⟩;by_cases ej:j=n
    ·subst ej;exact hf
    ·exact h2 j (by omega)
  ·rcases Nat.eq_zero_or_pos n with hn|hn
   ·have e3:d9 l room=1+HB (l.drop 1):=by rw [d9,fin (fun x hx=>by have:=hcw x hx;omega),if_pos hn]
    rw [e3];have r5:=r2z hn;clear r2z r1 r2;subst hn;simp only [Nat.zero_add] at hf;(refine' K8 r5)
    clear fin hcw;refine vL (lv:=[0,1,4,5,18,22,34]) ab (RZ l) (fun m=>1≤m∧m≤l.length ∧ ∀(j:Nat) x,j<m - 1→(l.drop 1)[j]? = some x→(cw x==0)=true) (fun m=>l.length - m) (1) ((aC.go [0,5] (by exact vT) rfl)) ?_ ?_
    ·exact ⟨Nat.le_refl _,hl0,fun j x hj=>by omega⟩
    rintro m ⟨q1,q2,q3⟩;rcases Nat.lt_or_ge m l.length with hm|hm
    ·obtain ⟨c',hc'⟩ : ∃c',l[m]? = some c':=⟨_,List.getElem?_eq_getElem hm⟩
     have hd:(l.drop 1)[m - 1]? = some c':=by rw [List.getElem?_drop,show 1+(m - 1)=m by omega];exact hc'
     have e4:cw c'≠0→HB (l.drop 1)=m - 1:=fun hne=>by
      rw [HB,pn (i:=m - 1) (by rw [List.length_drop];omega) q3 (fun x hx=>by rw [hd] at hx;injection hx with hx;subst hx;simpa using hne),List.length_take,List.length_drop];omega
     have q4:=fun hz=>i4 q3 hd hz
     obtain ⟨r',k',w',a'⟩:=c';simp only [cw] at e4 q4;(refine' T0 hc')
     ·refine aG.go (m+1) [0,5] (by exact vT) ?_ ?_
      ·show l.length - (m+1)<l.length - m;omega
      ·refine ⟨by show 1≤m+1;omega,hm,?_⟩;have:=q4 (by simp;omega);rwa [show m - 1+1=m+1 - 1 by omega] at this
     ·rw [e4 (by omega)];congr 1;omega
    ·have e4:HB (l.drop 1)=m - 1:=by
      rw [HB,pn (i:=m - 1) (by rw [List.length_drop];omega) q3 (fun x hx=>by rw [List.getElem?_eq_none (by rw [List.length_drop];omega)] at hx;cases hx),List.length_take,List.length_drop];omega
     rw [e4];(refine' zo)
     congr 1;omega
   ·rw [d9,fin (fun x hx=>by have:=hcw x hx;omega),if_neg (by omega)];(refine' BE r2)
 ·rw [d9,fin (fun c hc=>by rw [List.getElem?_eq_none hk] at hc;cases hc),if_neg (by omega)];(refine' zo)
def MY (l:List Cl) (n:Nat) (a:Nat):St:=⟨[(0,cM l),(5,iv n),(6,iv (lD l a)),(7,iv (a+1))],[],0⟩
attribute [push_cast] MY.eq_def
set_option maxHeartbeats 1600000 in
theorem v4 (l:List Cl) (h:dH l) (room:Int) (hr : -1000≤room∧room≤1000):an Tryz.prog G0 209 [cM l,iv room] [] 0 (iv (bJ l room)) []:=by
 have hll:=h.len;by_cases h0:l=[]
 ·subst h0;show an Tryz.prog G0 209 [.d (.sd 4 false []),iv room] [] 0 (iv 0) [];refine vF ab [0,1,4,5,6,7,10,17,21,26,29] Tryz.func209 rfl Tryz.results209 Tryz.ntmps209 ?_;(refine' zo)
 have hl0:=List.length_pos_iff.2 h0;have r1:=EH l h h0 room hr;have hf:=pZ (room:=room) h0;have hp:=mq l room;have hb : ∀k,k≤l.length→an Tryz.prog G0 244 [cM l,iv k] [] 0 (bv (nu l k)) []:=fun k hk=>J7 l h k hk
 unfold bJ;rw [if_neg h0];generalize d9 l room=n at *
 by_cases hn:n=l.length
 ·rw [if_pos hn];refine vF ab [0,1,4,5,6,7,10,17,21,26,29] Tryz.func209 rfl Tryz.results209 Tryz.ntmps209 ?_;(refine' kW r1)
  all_goals (try rw [hn])
 ·rw [if_neg hn];refine vF ab [0,1,4,5,6,7,10,17,21,26,29] Tryz.func209 rfl Tryz.results209 Tryz.ntmps209 ?_;(refine' fj r1)
  refine vL (lv:=[0,1,4,5,6,7,10,17,21,26,29]) ab (MY l n) (fun a=>a≤n) (fun a=>n - a) (0) ((aC.go [0,5,6,7] (by exact vT) rfl)) ?_ ?_
  ·exact Nat.zero_le _
  intro a g1;have hba:=qc l a;rcases Nat.lt_or_ge a n with ha|ha
  ·have r2:=hb (a+1) (by omega);have e5:lD l (a+1)=if nu l (a+1)=true then a+1 else lD l a:=by rw [lD]
   have e6:((a+1:Nat):Int)=(a:Int)+1:=by omega
   rw [e6] at r2;cases hbk:nu l (a+1) with
   | true=>
    rw [hbk] at r2 e5;rw [if_pos rfl] at e5;(refine' fj r2)
    refine aG.go (a+1) [0,5,6,7] (by rw [MY,e5,e6];exact vT) ?_ ?_
    ·show n - (a+1)<n - a;omega
    ·exact ha
   | false=>
    rw [hbk] at r2 e5;rw [if_neg (by simp)] at e5;(refine' fj r2)
    refine aG.go (a+1) [0,5,6,7] (by rw [MY,e5,e6];exact vT) ?_ ?_
    ·show n - (a+1)<n - a;omega
    ·exact ha
  ·obtain rfl:a=n:=by omega
   (refine' zo)
   ·rw [if_pos (by omega)]
   ·rw [if_neg (by omega)]
def R9 (l:List Cl) (room:Int) (n i:Nat):St:=⟨[(0,cM l),(1,iv room),(5,iv n),(15,cM (l.take n)),(16,iv n),(17,iv i)],[],0⟩
attribute [push_cast] R9.eq_def
set_option maxHeartbeats 1600000 in
theorem GX (l:List Cl) (h:dH l) (room:Int) (hr : -1000≤room∧room≤1000):an Tryz.prog G0 208 [cM l,iv room] [] 0 (iv (cC l room)) []:=by
 have hll:=h.len;have r1:=v4 l h room hr;have hf:=fH l room;have r2:l≠[]→an Tryz.prog G0 243 [cM l,iv room] [] 0 (iv (d9 l room)) []:=fun h0=>EH l h h0 room hr
 have hp:l=[]→bJ l room=0:=fun e=>by rw [bJ,if_pos e]
 have hall : ∀n,(∀(j:Nat) x,j<n→(l.take n)[j]? = some x→bL x=true)→(l.take n).all bL=true:=fun n hx=>by
  rw [List.all_eq_true];intro c hc;obtain ⟨j,hj⟩:=List.getElem?_of_mem hc;exact hx j c (by have:=(List.getElem?_eq_some_iff.1 hj).1;rw [List.length_take] at this;omega) hj
 unfold cC;generalize bJ l room=n at *
 rcases Nat.eq_zero_or_pos n with hn0|hn0
 ·subst hn0;rw [if_neg (fun h=>h.2 rfl)];refine vF ab [0,1,4,5,7,12,15,16,17,18,23] Tryz.func208 rfl Tryz.results208 Tryz.ntmps208 ?_;(refine' kW r1)
 have hne:l≠[]:=fun e=>by have:=hp e;omega
 have r4:=r2 hne;refine vF ab [0,1,4,5,7,12,15,16,17,18,23] Tryz.func208 rfl Tryz.results208 Tryz.ntmps208 ?_;(refine' fj r1)
 have hln:(l.take n).length=n:=by rw [List.length_take];omega
 rw [←List.map_take,show ((l.take n).map gN).length=n by rw [List.length_map,hln]];refine vL (lv:=[0,1,4,5,7,12,15,16,17,18,23]) ab (R9 l room n) (fun i=>i≤n ∧ ∀(j:Nat) x,j<i→(l.take n)[j]? = some x→bL x=true) (fun i=>n - i) (0) ((aC.go [0,1,5,15,16,17] (by exact vT) rfl)) ?_ ?_
 ·exact ⟨Nat.zero_le _,fun j x hj=>by omega⟩
 rintro i ⟨g1,g2⟩;rcases Nat.lt_or_ge i n with hi|hi
 ·obtain ⟨c,hc⟩ : ∃c,(l.take n)[i]? = some c:=⟨_,List.getElem?_eq_getElem (by omega)⟩
  have r3:=kz c;have hna:bL c=false → ¬((l.take n).all bL=true∧n≠0):=fun hb hx=>by
   have:=List.all_eq_true.1 hx.1 c (List.mem_of_getElem? hc);rw [hb] at this;cases this
  have g3:=fun hb=>i4 g2 hc hb
  obtain ⟨r,k,w,a⟩:=c;cases hb:bL (r,k,w,a) with
  | false=>
   rw [hb] at r3;rw [if_neg (hna hb)];(refine' ni r3 hc)
  | true=>
   rw [hb] at r3;(refine' lS r3 hc)
   refine aG.go (i+1) [0,1,5,15,16,17] (by exact vT) ?_ ?_
   ·show n - (i+1)<n - i;omega
   ·exact ⟨hi,g3 hb⟩
 ·obtain rfl:i=n:=by omega
  rw [if_pos ⟨hall _ g2,by omega⟩];(refine' kW r4)
def RW (l:List Cl) (a b:Int) (x:Nat × List Nat):St:=⟨[(0,cM l),(3,.po 0 0),(5,.so 1 1 0 x.2.length),(6,iv x.1)],[(0,.cell [iv a,iv b]),(1,G9 x.2)],2⟩
attribute [push_cast] RW.eq_def
set_option maxHeartbeats 1600000 in
theorem MO (l:List Cl) (h:dH l) (a b:Int) (ha : -1000≤a∧a≤1000) (hb : -1000≤b∧b≤1000):an Tryz.prog G0 154 [cM l,.d (.agg [iD a,iD b])] [] 0 (.d (.sd 1 false ((px l a b).map nk))) []:=by
 have hll:=h.len;have r1:=GX l h a ha;have hs:=ou l a;refine vF ab [0,1,3,4,5,6,7,19] Tryz.func154 rfl Tryz.results154 Tryz.ntmps154 ?_;(refine' fj r1)
 refine vL (lv:=[0,1,3,4,5,6,7,19]) ab (RW l a b) (fun x=>x.1≤l.length∧x.2.length≤x.1+1∧x.2++cO b (l.drop x.1)=px l a b) (fun x=>l.length - x.1) ((cC l a,[cC l a])) ((aC.go [0,3,5,6] (by exact vT) rfl)) ?_ ?_
 ·exact ⟨hs,by show 1≤cC l a+1;omega,rfl⟩
 rintro ⟨p,q⟩ ⟨g1,g2,g3⟩;simp only at g1 g2 g3;rcases Nat.lt_or_ge p l.length with hk|hk
 ·have hne:l.drop p≠[]:=fun e=>by have:=congrArg List.length e;rw [List.length_drop,List.length_nil] at this;omega
  have r2:=v4 (l.drop p) (h.drop p) b hb;have r2':an Tryz.prog G0 209 [.d (.sd 4 false ((l.map gN).drop p)),iv b] [] 0 (iv (bJ (l.drop p) b)) []:=by rw [←List.map_drop];exact r2
  have h5:=ci b hne;have h6:=fH (l.drop p) b;rw [List.length_drop] at h6;rw [cO,dif_neg hne,List.drop_drop] at g3;generalize bJ (l.drop p) b=n at *
  (refine' fj r2')
  rw [m6 q n,List.length_map];refine aG.go ((p+n,q++[n])) [0,3,5,6] (by exact vT) ?_ ?_
  ·show l.length - (p+n)<l.length - p;omega
  ·exact ⟨by show p+n≤l.length;omega,by simp only [List.length_append,List.length_singleton];omega,by rw [←g3];simp⟩
 ·rw [List.drop_of_length_le hk,cO,dif_pos rfl,List.append_nil] at g3;subst g3;(refine' zg)
  refine ae.frz 1 (ae.out ?_);(refine' zg)
  all_goals (try rw [List.take_of_length_le (by simp)])
theorem GT (w:Int):an Tryz.prog G0 207 [iv w] [] 0 (bv (decide (0≤w)&&decide (w≤200))) []:=by
 refine vF ab [0,2] Tryz.func207 rfl Tryz.results207 Tryz.ntmps207 ?_;(refine' zo)
theorem AC (l:List Cl) (h:dH l) (w:Int) (hw:0≤w∧w≤200):an Tryz.prog G0 153 [cM l,iv w] [] 0 (iv (dD l w)) []:=by
 have r1:=C6 l h;have r2:=GT w;rw [decide_eq_true hw.1,decide_eq_true hw.2] at r2;have hi:=eF l;unfold dD;generalize iP l=n at *
 by_cases hlt:w<n+2
 ·rw [if_pos hlt];refine vF ab [0,1,4,5,16] Tryz.func153 rfl Tryz.results153 Tryz.ntmps153 ?_;(refine' BF r1 r2)
 ·rw [if_neg hlt];refine vF ab [0,1,4,5,16] Tryz.func153 rfl Tryz.results153 Tryz.ntmps153 ?_;(refine' BF r1 r2)
def R7 (l:List Cl) (h:Nat) (ns:List Nat) (x:Nat × Nat × List (List Cl)):St:=
 ⟨[(0,cM l),(6,iv h),(7,.so 0 1 0 x.2.2.length),(8,iv x.2.1),(28,.d (.sd 1 false (ns.map nk))),(29,iv ns.length),(30,iv x.1)],[(0,.row 1 (x.2.2.map yF))],1⟩
def R6 (l:List Cl) (h:Nat) (ns:List Nat) (i at':Nat) (q:List (List Cl)) (n:Nat) (a:Int) (k:Nat):St:=
 ⟨[(0,cM l),(6,iv h),(7,.so 0 1 0 q.length),(8,iv at'),(9,iv i),(10,iv n),(11,.so 1 4 0 k),(12,iv k),(28,.d (.sd 1 false (ns.map nk))),(29,iv ns.length),(30,iv i)],[(0,.row 1 (q.map yF)),(1,NU (List.replicate k (nL a)))],2⟩
attribute [push_cast] R7.eq_def R6.eq_def
set_option maxHeartbeats 6400000 in
theorem J5 (l:List Cl) (h:dH l) (w:Int) (hw:0<w∧w≤200) (ns:List Nat) (hns:ns.length≤100000001) (hok:CQ 0 l ns) (rt : ∀b:Int,b=w - dD l w→an Tryz.prog G0 154 [cM l,.d (.agg [iD w,iD b])] [] 0 (.d (.sd 1 false (ns.map nk))) []) :
 an Tryz.prog G0 99 [cM l,iv w] [] 0 (pI (ge (dD l w) 0 l ns)) []:=by
 have r2:=AC l h w (by omega);have hh:dD l w≤8:=by have:=eF l;unfold dD;split<;>omega
 have hll:=h.len;generalize dD l w=hg at *
 have r1:=rt _ rfl;refine vF ab [0,1,4,5,6,7,8,9,10,11,12,20,28,29,30,31,41] Tryz.func99 rfl Tryz.results99 Tryz.ntmps99 ?_;(refine' BC r2 r1)
 refine vL (lv:=[0,1,4,5,6,7,8,9,10,11,12,20,28,29,30,31,41]) ab (R7 l hg ns) (fun x=>x.1≤ns.length∧x.2.2.length=x.1∧x.2.1≤l.length∧CQ x.1 (l.drop x.2.1) (ns.drop x.1)∧x.2.2++ge hg x.1 (l.drop x.2.1) (ns.drop x.1)=ge hg 0 l ns) (fun x=>ns.length - x.1) ((0,0,[])) (aC.nil 7 1<|(aC.go [0,6,7,8,28,29,30] (by exact vT) rfl)) ?_ ?_
 ·exact ⟨Nat.zero_le _,rfl,Nat.zero_le _,hok,rfl⟩
 rintro ⟨i,p,q⟩ ⟨g1,g2,g3,g4,g5⟩;simp only at g1 g2 g3 g4 g5;rcases Nat.lt_or_ge i ns.length with hi|hi
 ·obtain ⟨n,hn⟩ : ∃n,ns[i]? = some n:=⟨_,List.getElem?_eq_getElem hi⟩
  have hdr:ns.drop i=n::ns.drop (i+1):=by rw [List.drop_eq_getElem_cons hi,(List.getElem?_eq_some_iff.1 hn).2]
  rw [hdr] at g4 g5;obtain ⟨k1,k2,k3⟩:=g4;rw [List.length_drop] at k1;rw [ge] at g5;obtain ⟨a,ha⟩ : ∃a:Int,∀c,l[p]? = some c→c.2.2.2=a:=by
   cases hc:l[p]? with
   | none=>exact ⟨0,fun c e=>by cases e⟩
   | some c=>exact ⟨c.2.2.2,fun d e=>by injection e with e;rw [e]⟩
  have hbe:i≠0→et hg ((l.drop p).take n)=List.replicate hg (nL a)++(l.drop p).take n:=fun h0=>by
   have hn0:0<n:=k2.resolve_left h0;have hp:p<l.length:=by omega
   rw [List.drop_eq_getElem_cons hp];obtain ⟨m,rfl⟩ : ∃m,n=m+1:=⟨n - 1,by omega⟩
   rw [List.take_succ_cons,et,ha l[p] (List.getElem?_eq_getElem hp)]
  have ec:List.drop p (List.take (p+n) (l.map gN))=((l.drop p).take n).map gN:=by rw [←List.map_take,←List.map_drop,List.drop_take,Nat.add_sub_cancel_left]
  have ed:List.drop n (List.drop p l)=l.drop (p+n):=List.drop_drop;rw [ed] at k3 g5;(refine' pp hn)
  refine vL (lv:=[0,1,4,5,6,7,8,9,10,11,12,20,28,29,30,31,41]) ab (R6 l hg ns i p q n a) (fun k=>k≤hg∧(i=0→k=0)) (fun k=>hg - k) (0) (aC.nil 11 4<|(aC.go [0,6,7,8,9,10,11,12,28,29,30] (by exact vT) rfl)) ?_ ?_
  ·exact ⟨Nat.zero_le _,fun _=>rfl⟩
  rintro k ⟨q1,q2⟩;rcases Nat.eq_zero_or_pos i with hi0|hi0
  ·have hk0:k=0:=q2 hi0;subst hk0;rw [if_pos hi0] at g5;(refine' HC)
   rw [ec,←List.map_append,List.replicate_zero,List.nil_append];rw [show q.map yF++[D.sd 4 false (((l.drop p).take n).map gN)]=(q++[(l.drop p).take n]).map yF from m5 q _,List.length_map];refine aG.go ((i+1,p+n,q++[(l.drop p).take n])) [0,6,7,8,28,29,30] (by exact vT) ?_ ?_
   ·show ns.length - (i+1)<ns.length - i;omega
   ·refine ⟨hi,by simp only [List.length_append,List.length_singleton];omega,by show p+n≤l.length;omega,k3,?_⟩;rw [List.append_assoc];exact g5
  ·have hn0:0<n:=k2.resolve_left (by omega);rw [if_neg (by omega),hbe (by omega)] at g5;obtain ⟨c,hc⟩ : ∃c,l[p]? = some c:=⟨_,List.getElem?_eq_getElem (by omega)⟩
   have hca:=ha c hc;obtain ⟨cr,ck,cw',ca⟩:=c;simp only at hca;subst hca;rcases Nat.lt_or_ge k hg with hlt|hge
   ·(refine' pR hc)
    rw [show (List.replicate k (nL ca)).map gN++[D.agg [D.lit (Value.int IntKind.i32 32),D.lit (Value.int IntKind.i64 5),D.lit (Value.int IntKind.i64 1),iD ca]]=(List.replicate (k+1) (nL ca)).map gN by rw [List.replicate_succ'];exact eo _ (nL ca),List.length_map,List.length_replicate];refine aG.go (k+1) [0,6,7,8,9,10,11,12,28,29,30] (by exact vT) ?_ ?_
    ·show hg - (k+1)<hg - k;omega
    ·exact ⟨hlt,fun h=>by omega⟩
   ·obtain rfl:k=hg:=by omega
    (refine' HC)
    rw [ec,←List.map_append];rw [show q.map yF++[D.sd 4 false ((List.replicate k (nL ca)++(l.drop p).take n).map gN)]=(q++[List.replicate k (nL ca)++(l.drop p).take n]).map yF from m5 q _,List.length_map];refine aG.go ((i+1,p+n,q++[List.replicate k (nL ca)++(l.drop p).take n])) [0,6,7,8,28,29,30] (by exact vT) ?_ ?_
    ·show ns.length - (i+1)<ns.length - i;omega
    ·refine ⟨hi,by simp only [List.length_append,List.length_singleton];omega,by show p+n≤l.length;omega,k3,?_⟩;rw [List.append_assoc];exact g5
 ·rw [List.drop_of_length_le hi,ge,List.append_nil] at g5;subst g5;(refine' zg)
  refine ae.frz 0 (ae.out ?_);(refine' zg)
  all_goals (try rw [List.take_of_length_le (by simp)])
theorem GU (l:List Cl) (h:dH l) (w:Int) (hw:0<w∧w≤200):an Tryz.prog G0 99 [cM l,iv w] [] 0 (pI (bN l w)) []:=by
 have hh:dD l w≤8:=by have:=eF l;unfold dD;split<;>omega
 have:=J5 l h w hw (bn l w) (by have:=lQ l w;have:=h.len;omega) (rS l w) (fun b hb=>by
  have:=MO l h w b (by omega) (by omega);rw [bn,if_neg (by omega),←hb];exact this)
 rwa [AU] at this
def R5 (l:List Cl) (h:Nat) (x:Nat × Nat × List (List Cl)):St:=
 ⟨[(0,cM l),(6,iv h),(7,.so 0 1 0 x.2.2.length),(8,iv x.2.1),(28,.so 1 1 0 1),(29,iv 1),(30,iv x.1)],[(0,.row 1 (x.2.2.map yF)),(1,G9 [l.length])],2⟩
def R4 (l:List Cl) (h:Nat):St:=
 ⟨[(0,cM l),(6,iv h),(7,.so 0 1 0 0),(8,iv 0),(9,iv 0),(10,iv l.length),(11,.so 1 4 0 0),(12,iv 0),(28,.so 2 1 0 1),(29,iv 1),(30,iv 0)],[(0,.row 1 []),(1,NU []),(2,G9 [l.length])],3⟩
attribute [push_cast] R5.eq_def R4.eq_def
set_option maxHeartbeats 6400000 in
theorem MQ (l:List Cl) (h:dH l):an Tryz.prog G0 99 [cM l,iv 0] [] 0 (pI [l]) []:=by
 have r2:=AC l h 0 (by omega);have hll:=h.len;have h0:[l.length][0]? = some l.length:=rfl;generalize dD l 0=hg at *
 refine vF ab [0,1,4,5,6,7,8,9,10,11,12,20,28,29,30,31,41] Tryz.func99 rfl Tryz.results99 Tryz.ntmps99 ?_;(refine' fj r2)
 refine vL (lv:=[0,1,4,5,6,7,8,9,10,11,12,20,28,29,30,31,41]) ab (R5 l hg) (fun x=>x=(0,0,[])∨x=(1,l.length,[l])) (fun x=>1 - x.1) ((0,0,[])) (aC.nil 7 1<|(aC.go [0,6,7,8,28,29,30] (by exact vT) rfl)) ?_ ?_
 ·exact .inl rfl
 rintro x (rfl|rfl)
 ·(refine' pp h0)
  refine vL (lv:=[0,1,4,5,6,7,8,9,10,11,12,20,28,29,30,31,41]) ab (fun _:Unit=>R4 l hg) (fun _=>True) (fun _=>0) (()) (aC.nil 11 4<|(aC.go [0,6,7,8,9,10,11,12,28,29,30] (by exact vT) rfl)) ?_ ?_
  ·trivial
  rintro ⟨⟩ -
  (refine' HC)
  (try rw [List.take_of_length_le (by simp)])
  refine aG.go ((1,l.length,[l])) [0,6,7,8,28,29,30] (by exact vT) ?_ ?_
  ·exact Nat.succ_pos _
  ·exact .inr rfl
 ·(refine' zg)
  refine ae.frz 0 (ae.out ?_);(refine' zg)
theorem AF (l:List Cl) (h:dH l) (w:Int) (hw:0≤w∧w≤200):an Tryz.prog G0 99 [cM l,iv w] [] 0 (pI (bN l w)) []:=by
 by_cases h0:w=0
 ·subst h0;have e:bN l 0=[l]:=by
   rw [bN,bn,if_pos rfl,dg,dg,List.take_length];rfl
  rw [e];exact MQ l h
 ·exact GU l h w (by omega)
def R1 (l:List (Int × Int)) (r:Int) (i:Nat):St:=⟨[(1,.d (dy r)),(7,.d (QN l)),(8,iv l.length),(9,iv i)],[],0⟩
attribute [push_cast] R1.eq_def
theorem Kb (l:List (Int × Int)) (hl:l.length≤1000000) (r:Int):an Tryz.prog G0 245 [.d (QN l),.d (dy r)] [] 0 (bv (F9 l r)) []:=by
 refine vF ab [0,1,4,6,7,8,9,10,22] Tryz.func245 rfl Tryz.results245 Tryz.ntmps245 ?_;(refine' zg)
 refine vL (lv:=[0,1,4,6,7,8,9,10,22]) ab (R1 l r) (fun i=>i≤l.length ∧ ∀(j:Nat) x,j<i→l[j]? = some x→x.2<r∨r<x.1) (fun i=>l.length - i) (0) ((aC.go [1,7,8,9] (by exact vT) rfl)) ?_ ?_
 ·exact ⟨Nat.zero_le _,fun j x h=>absurd h (Nat.not_lt_zero _)⟩
 rintro i ⟨h1,h2⟩;rcases Nat.lt_or_ge i l.length with hk|hk
 ·obtain ⟨x,hx⟩ : ∃x,l[i]? = some x:=⟨_,List.getElem?_eq_getElem hk⟩
  have hm:=List.mem_of_getElem? hx;by_cases hr:x.1≤r∧r≤x.2
  ·rw [Ed hm hr.1 hr.2];obtain ⟨a,b⟩:=x;simp only at hr;(refine' QA hx)
  ·obtain ⟨a,b⟩:=x;simp only at hr;(refine' pp hx)
   all_goals
    refine aG.go (i+1) [1,7,8,9] (by exact vT) ?_ ?_
    ·show l.length - (i+1)<l.length - i;omega
    ·refine ⟨hk,fun j y hj hy =>?_⟩;by_cases e:j=i
     ·subst e;rw [hx] at hy;injection hy with hy;subst hy;simp only;omega
     ·exact h2 j y (by omega) hy
 ·rw [Jj (fun j x hx=>h2 j x (by have:=(List.getElem?_eq_some_iff.1 hx).1;omega) hx)];(refine' zo)
theorem P9 (z w:List (Int × Int)) (hz:z.length≤1000000) (hw:w.length≤1000000) (r:Int):an Tryz.prog G0 210 [.d (pQ z w),.d (dy r)] [] 0 (iv (NA z w r)) []:=by
 have r1:=Kb z hz r;have r2:=Kb w hw r;unfold NA;generalize F9 z r=a at *
 generalize F9 w r=b at *
 cases a;all_goals cases b
 all_goals
  refine vF ab [0,1,4,10,16] Tryz.func210 rfl Tryz.results210 Tryz.ntmps210 ?_;(refine' tJ r1 r2)
  all_goals rfl
theorem PB {a n tab:Nat} (h0:1≤n) (h:n<tab - a % tab):(a+n) % tab≠0:=by
 have e:=Nat.div_add_mod a tab;have:(a+n) % tab=a % tab+n:=by
  rw [show a+n=tab*(a / tab)+(a % tab+n) by omega,Nat.mul_add_mod,Nat.mod_eq_of_lt (by omega)]
 omega
theorem PA {a tab:Nat} (ht:1≤tab):(a+(tab - a % tab)) % tab=0:=by
 have e:=Nat.div_add_mod a tab;have hm:=Nat.mod_lt a (show tab > 0 by omega);rw [show a+(tab - a % tab)=tab*(a / tab)+tab by omega,Nat.mul_add_mod,Nat.mod_self]
def Sb (z w:List (Int × Int)) (tab:Nat) (l:List Int) (x:Nat × List Nat × Nat):St:=
 ⟨[(0,.d (pQ z w)),(2,iv tab),(7,.so 0 1 0 x.2.1.length),(8,iv x.2.2),(12,.d (.sd 1 false (l.map dy))),(13,iv l.length),(14,iv x.1)],[(0,G9 x.2.1)],1⟩
def Sa (z w:List (Int × Int)) (tab:Nat) (l:List Int) (i:Nat) (ss:List Nat) (at':Nat) (n:Nat):St:=
 ⟨[(0,.d (pQ z w)),(2,iv tab),(7,.so 0 1 0 ss.length),(8,iv at'),(11,iv n),(12,.d (.sd 1 false (l.map dy))),(13,iv l.length),(14,iv i)],[(0,G9 ss)],1⟩
attribute [push_cast] Sb.eq_def Sa.eq_def
set_option maxHeartbeats 6400000 in
theorem GV (z w:List (Int × Int)) (hz:z.length≤1000000) (hw:w.length≤1000000) (tab:Nat) (ht:1≤tab∧tab≤16) (l:List Int) (hl:l.length≤4000000) :
 an Tryz.prog G0 156 [.d (pQ z w),.d (.sd 1 false (l.map dy)),iv tab] [] 0 (.d (.sd 1 false ((pP z w tab 0 l).map nk))) []:=by
 refine vF ab [0,1,2,6,7,8,10,11,12,13,14,15,22,32] Tryz.func156 rfl Tryz.results156 Tryz.ntmps156 ?_;(refine' zg)
 refine vL (lv:=[0,1,2,6,7,8,10,11,12,13,14,15,22,32]) ab (Sb z w tab l) (fun x=>x.1≤l.length∧x.2.1=pP z w tab 0 (l.take x.1)∧x.2.2=mj z w tab 0 (l.take x.1)) (fun x=>l.length - x.1) ((0,[],0)) (aC.nil 7 1<|(aC.go [0,2,7,8,12,13,14] (by exact vT) rfl)) ?_ ?_
 ·exact ⟨Nat.zero_le _,rfl,rfl⟩
 rintro ⟨i,ss,a⟩ ⟨g1,g2,g3⟩;simp only at g1 g2 g3;have hsl:ss.length=i:=by rw [g2,kD,List.length_take];omega
 have hal:a≤16*i:=by
  have:=xh (z:=z) (w:=w) ht.1 ht.2 (l.take i) 0;rw [←g3,List.length_take] at this;omega
 rcases Nat.lt_or_ge i l.length with hk|hk
 ·obtain ⟨r,hr⟩ : ∃r,l[i]? = some r:=⟨_,List.getElem?_eq_getElem hk⟩
  have r1:=P9 z w hz hw r;have e1:pP z w tab 0 (l.take (i+1))=ss++[nl z w tab a r]:=by rw [ax hr,tn,←g2,←g3]
  have e2:mj z w tab 0 (l.take (i+1))=a+nl z w tab a r:=by rw [ax hr,nD,←g3]
  have hw2:=Dz z w r;by_cases h9:r=9
  ·have htb:nl z w tab a r=if 64≤a then 1 else tab - a % tab:=by rw [nl,if_pos h9]
   have hm:=Nat.mod_lt a (show tab > 0 by omega);have hs16:=tt (z:=z) (w:=w) (a:=a) (r:=r) ht.1 ht.2;have hal2:a≤64000000:=by omega
   generalize nl z w tab a r=s at *
   (refine' lS r1 hr)
   refine vL (lv:=[0,1,2,6,7,8,10,11,12,13,14,15,22,32]) ab (Sa z w tab l i ss a) (fun n=>1≤n∧n≤s) (fun n=>s - n) (1) ((aC.go [0,2,7,8,11,12,13,14] (by exact vT) rfl)) ?_ ?_
   ·refine ⟨Nat.le_refl _,?_⟩;rw [htb];split<;>omega
   rintro n ⟨k1,k2⟩;have e:(((a+n) % tab:Nat):Int)=((a:Int)+(n:Int)) % (tab:Int):=by rw [←Int.natCast_add];rfl
   rcases Nat.lt_or_ge n s with hn|hn
   ·have h64 : ¬64≤a:=fun h=>by rw [if_pos h] at htb;omega
    rw [if_neg h64] at htb;have hne:=PB (a:=a) k1 (by omega:n<tab - a % tab);have hne':((a:Int)+(n:Int)) % (tab:Int)≠0:=by omega
    (repeat' (first|(refine Zz ?_)|(refine' cD)|fail))
    refine aG.go (n+1) [0,2,7,8,11,12,13,14] (by exact vT) ?_ ?_
    ·show s - (n+1)<s - n;omega
    ·exact ⟨by show 1≤n+1;omega,hn⟩
   ·have hns:n=s:=by omega
    have hst:64≤a∨(a+n) % tab=0:=by
     by_cases h64:64≤a
     ·exact .inl h64
     ·rw [if_neg h64] at htb;rw [hns,htb];exact .inr (PA ht.1)
    (repeat' (first|(refine Zz ?_)|(refine' cD)|fail))
    all_goals rw [show ss.map nk++[D.lit (Value.int IntKind.i64 (n:Int))]=(ss++[n]).map nk from m6 ss n,List.length_map,show ((a:Int)+(n:Int))=((a+n:Nat):Int) by omega]
    all_goals refine aG.go ((i+1,ss++[n],a+n)) [0,2,7,8,12,13,14] (by exact vT) ?_ ?_
    all_goals first|(show l.length - (i+1)<l.length - i;omega)|exact ⟨hk,by rw [hns];exact e1.symm,by rw [hns];exact e2.symm⟩
  ·have htb:nl z w tab a r=NA z w r:=by rw [nl,if_neg h9]
   rw [htb] at e1 e2;generalize NA z w r=s at *
   (refine' lS r1 hr)
   rw [show ss.map nk++[D.lit (Value.int IntKind.i64 (s:Int))]=(ss++[s]).map nk from m6 ss s,List.length_map,show ((a:Int)+(s:Int))=((a+s:Nat):Int) by omega];refine aG.go ((i+1,ss++[s],a+s)) [0,2,7,8,12,13,14] (by exact vT) ?_ ?_
   ·show l.length - (i+1)<l.length - i;omega
   ·exact ⟨hk,e1.symm,e2.symm⟩
 ·rw [List.take_of_length_le hk] at g2;(refine' zg)
  refine ae.frz 0 (ae.out ?_);(refine' zg)
  all_goals (try rw [g2])
  all_goals (try rw [List.take_of_length_le (by simp)])
end Go.Proofs.YtkkanlcjjpoklaaGreatDoor
