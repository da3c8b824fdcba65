/- What the theorem leans on, part 46. -/
import Derived.Test.YtkkanlcjjpoklaaGreatDoorStUPBM
import Derived.Test.YtkkanlcjjpoklaaGreatDoorStUPBO
set_option linter.unusedSimpArgs false
set_option linter.unusedVariables false
set_option maxRecDepth 8000
namespace Go.Proofs.YtkkanlcjjpoklaaGreatDoor
def Se (ps:List Pz) (i n:Nat):St:=⟨[(3,iv n),(7,.d (.sd 3 false (ps.map fF))),(8,iv ps.length),(9,iv i)],[],0⟩
attribute [push_cast] Se.eq_def
set_option maxHeartbeats 3200000 in
theorem J6 (ps:List Pz) (f t:Int) (hl:ps.length≤100000000) (hq : ∀z∈ps,Qz z):an Tryz.prog G0 56 [.d (QH ps f t)] [] 0 (iv (i8 ps)) []:=by
 have hsz:=tl fun z hz=>(hq z hz).1
 refine vF ab [0,1,2,3,5,7,8,9,10,15] Tryz.func56 rfl Tryz.results56 Tryz.ntmps56 ?_;(refine' zg)
 refine vL (lv:=[0,1,2,3,5,7,8,9,10,15]) ab (fun i=>Se ps i (i8 (ps.take i))) (fun i=>i≤ps.length) (fun i=>ps.length - i) (0) ((aC.go [3,7,8,9] (by exact vT) rfl)) ?_ ?_
 ·exact Nat.zero_le _
 intro i hi;have hb:=oD (B:=1000000) (ps.take i) fun z hz=>hsz z (List.mem_of_mem_take hz)
 rw [List.length_take] at hb;have hb2:i8 (ps.take i)≤1000000*100000000:=Nat.le_trans hb (Nat.mul_le_mul_left _ (by omega));rcases Nat.lt_or_ge i ps.length with hlt|hge
 ·obtain ⟨z,hz⟩ : ∃z,ps[i]? = some z:=⟨_,List.getElem?_eq_getElem hlt⟩
  have hzq:=hq z (List.mem_of_getElem? hz);have hst:=Bf hz;cases z with
  | tx kd a rs=>
   have hk:kd≠3:=by have:=hzq.2.1;omega
   have hrl:=hzq.1.2.2;simp only [i8,Nat.add_zero] at hst;(refine' pp hz)
   refine aG.go (i+1) [3,7,8,9] (by rw [hst];exact vT) ?_ ?_
   ·show ps.length - (i+1)<ps.length - i;omega
   ·show i+1≤ps.length;omega
  | fo a=>
   simp only [i8,Nat.add_zero] at hst;(refine' pp hz)
   refine aG.go (i+1) [3,7,8,9] (by rw [hst];exact vT) ?_ ?_
   ·show ps.length - (i+1)<ps.length - i;omega
   ·show i+1≤ps.length;omega
 ·rw [List.take_of_length_le hge];(refine' zo)
theorem rJ (l:List Int) (fr to:Int) : ∀(b:Bool) (q:List (List Cl)),(bP l fr to b q).map (·.2.2.2.2.2.2)=q.map cZ
 | _,[]=>rfl
 | _,r::t=>by rw [bP,List.map_cons,List.map_cons,rJ l fr to true t]
def R2 (A:List Rw) (sh bu:Int) (rs:List (List Cl)) (i:Nat):St:=
 ⟨[(4,.po 0 0),(5,.po 1 0),(33,.d (.sd 7 false (A.map kA))),(34,iv A.length),(35,iv i)],[(0,.cell [iv 0,iv 0,iv 0,iv 0]),(1,.cell [iv sh,iv bu,iv i,iv (jJ (rs.take i))])],2⟩
attribute [push_cast] R2.eq_def
set_option maxHeartbeats 3200000 in
theorem C7 (l:List Int) (hll:l.length≤1000000) (d1 d2 d3 d4 tb:D) (tab wd:Int) (ps:List Pz) (hl:ps.length≤1000000) (hq : ∀z∈ps,Qz z) (a b:Nat) (hab:a≤b∧b≤l.length) (rs:List (List Cl)) (hrs:rs.length≤100000000) (hr : ∀r∈rs,r.length≤100000000 ∧ ∀c∈r,cw c≤2)
 (r2:an Tryz.prog G0 48 [.d (.agg [.sd 1 false (l.map dy),d1,d2,d3,d4,tb,iD tab,iD wd]),.d (QH ps a b)] [] 0 (.d (.sd 7 false ((bP l a b false rs).map kA))) []) :
 an Tryz.prog G0 18 [.d (.agg [.sd 1 false (l.map dy),d1,d2,d3,d4,tb,iD tab,iD wd]),.d (QH ps a b)] [] 0 (.d (gm ((i8 ps:Int)+(if b<l.length then 1 else 0),(b:Int) - a+(if b<l.length then 1 else 0),rs.length,jJ rs))) []:=by
 have r1:=J6 ps a b (by omega) hq;have hsz:=oD (B:=1000000) ps (tl fun z hz=>(hq z hz).1);have hsz2:i8 ps≤1000000*1000000:=Nat.le_trans hsz (Nat.mul_le_mul_left _ hl);have hAl:=eG l a b false rs;have hAw:=rJ l a b false rs;generalize bP l a b false rs=A at *
 obtain ⟨sh,hsh⟩ : ∃sh:Int,sh=(i8 ps:Int)+(if b<l.length then 1 else 0):=⟨_,rfl⟩
 obtain ⟨bu,hbu⟩ : ∃bu:Int,bu=(b:Int) - a+(if b<l.length then 1 else 0):=⟨_,rfl⟩
 rw [←hsh,←hbu];simp only [QH,gm] at r1 r2 ⊢;generalize i8 ps=q at *
 refine vF ab [0,1,2,3,4,5,7,22,33,34,35,36,47] Tryz.func18 rfl Tryz.results18 Tryz.ntmps18 ?_;by_cases hb:b<l.length;all_goals simp only [hb,if_true,if_false,Int.add_zero] at hsh hbu
 all_goals
  (refine' BC r1 r2)
  rw [←hsh,←hbu];refine vL (lv:=[0,1,2,3,4,5,7,22,33,34,35,36,47]) ab (R2 A sh bu rs) (fun i=>i≤A.length) (fun i=>A.length - i) (0) ((aC.go [4,5,33,34,35] (by exact vT) rfl)) ?_ ?_
  ·exact Nat.zero_le _
  intro i hi;have hb2:=qd (B:=200000000) (rs.take i).reverse (rs.take i) (by simp) fun r hr'=>by
   obtain ⟨q1,q2⟩:=hr r (List.mem_of_mem_take hr');have:=gL q2;omega
  rcases Nat.lt_or_ge i A.length with hlt|hge
  ·obtain ⟨x,hx⟩ : ∃x,A[i]? = some x:=⟨_,List.getElem?_eq_getElem hlt⟩
   obtain ⟨y,hy⟩ : ∃y,rs[i]? = some y:=⟨_,List.getElem?_eq_getElem (by omega)⟩
   have e1:x.2.2.2.2.2.2=cZ y:=by
    have:=congrArg (fun q=>q[i]?) hAw;simpa [hx,hy] using this
   have e:jJ (rs.take (i+1))=max (jJ (rs.take i)) (cZ y):=by rw [ax hy,nT]
   obtain ⟨q1,q2⟩:=hr y (List.mem_of_getElem? hy);have hwl:=gL q2;rw [←e1] at e hwl;obtain ⟨x1,x2,x3,x4,x5,x6,x7⟩:=x;simp only at e hwl;rcases Nat.lt_or_ge (jJ (rs.take i)) x7 with hm|hm
   ·have e5:jJ (rs.take (i+1))=x7:=by omega
    (refine' pp hx)
    refine aG.go (i+1) [4,5,33,34,35] (by rw [R2,e5];exact vT) ?_ ?_
    ·show A.length - (i+1)<A.length - i;omega
    ·show i+1≤A.length;omega
   ·have e5:jJ (rs.take (i+1))=jJ (rs.take i):=by omega
    (refine' pp hx)
    refine aG.go (i+1) [4,5,33,34,35] (by rw [R2,e5];exact vT) ?_ ?_
    ·show A.length - (i+1)<A.length - i;omega
    ·show i+1≤A.length;omega
  ·obtain rfl:i=A.length:=by omega
   rw [R2,hAl,List.take_length];(refine' zo)
end Go.Proofs.YtkkanlcjjpoklaaGreatDoor
