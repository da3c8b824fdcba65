/- What the theorem leans on, part 31. -/
import Derived.Test.YtkkanlcjjpoklaaGreatDoorSpTPAE
import Derived.Test.YtkkanlcjjpoklaaGreatDoorSpTPBD
set_option linter.unusedSimpArgs false
set_option linter.unusedVariables false
set_option maxRecDepth 8000
namespace Go.Proofs.YtkkanlcjjpoklaaGreatDoor
abbrev QS (x:Int × Int):D:= .agg [.lit (.int .i32 x.1),.lit (.int .i32 x.2)]
abbrev MO (l:List (Int × Int)):D:= .sd 2 false (l.map QS)
abbrev z6 (z w:List (Int × Int)):D:= .pd 2 [.agg [MO z,MO w]] 0 0
structure i8 (l:List (Int × Int)):Prop where
 len:l.length≤1000
 one : ∀x∈l,x.1≤x.2
 two : ∀(i j:Nat) x y,i<j→l[i]? = some x→l[j]? = some y→x.2<y.1
theorem Gt {l:List (Int × Int)} {r:Int} {x:Int × Int} (h:x∈l) (h1:x.1≤r) (h2:r≤x.2):Fg l r=true:=by
 unfold Fg;exact List.any_eq_true.2 ⟨x,h,by simpa using ⟨h1,h2⟩⟩
theorem Jf {l:List (Int × Int)} {r:Int} (h : ∀(i:Nat) x,l[i]? = some x→x.2<r∨r<x.1):Fg l r=false:=by
 cases hb:Fg l r with
 | false=>rfl
 | true=>
  unfold Fg at hb;obtain ⟨x,hx,h1⟩:=List.any_eq_true.1 hb;obtain ⟨i,hi⟩:=List.getElem?_of_mem hx;have:=h i x hi;simp at h1;omega
def Mv (l:List (Int × Int)) (r:Int) (x:Nat × Nat):St:=⟨[(0,.d (MO l)),(1,.d (gu r)),(5,iv x.1),(6,iv x.2),(7,bv false)],[],0⟩
attribute [push_cast] Mv.eq_def
set_option maxHeartbeats 1600000 in
theorem H1 (l:List (Int × Int)) (hl:i8 l) (r:Int):aq Tryz.prog G0 285 [.d (MO l),.d (gu r)] [] 0 (bv (Fg l r)) []:=by
 have hll:=hl.len;refine vF ab [0,1,4,5,6,7,8,13,18,27] Tryz.func285 rfl Tryz.results285 Tryz.ntmps285 ?_;(refine' zg)
 refine vL (lv:=[0,1,4,5,6,7,8,13,18,27]) ab (Mv l r) (fun x=>x.1≤x.2∧x.2≤l.length∧(∀(j:Nat) y,j<x.1→l[j]? = some y→y.2<r)∧(∀(j:Nat) y,x.2≤j→l[j]? = some y→r<y.1)) (fun x=>x.2 - x.1) ((0,l.length)) ((aN.go [0,1,5,6,7] (by exact vT) rfl)) ?_ ?_
 ·exact ⟨Nat.zero_le _,Nat.le_refl _,fun j y h=>absurd h (Nat.not_lt_zero _),fun j y h hj=>by rw [List.getElem?_eq_none h] at hj;cases hj⟩
 rintro ⟨lo,hi⟩ ⟨h1,h2,h3,h4⟩;simp only at h1 h2 h3 h4;rcases Nat.lt_or_ge lo hi with hlt|hge
 ·obtain ⟨x,hx⟩ : ∃x,l[(lo+hi) / 2]? = some x:=⟨_,List.getElem?_eq_getElem (by omega)⟩
  have hm:=List.mem_of_getElem? hx;obtain ⟨a,b⟩:=x;(repeat' (first|(with_reducible first|exact True.intro|refine vD ?_|refine vG ?_|refine vE ?_)|(with_reducible refine dV.is ((lo+hi) / 2) _ (by omega) hx ?_)|with_reducible refine ah.out ?_|refine vR ?_|refine v3 ?_|with_reducible refine vN ?_|((with_reducible first|refine vB (fun h =>?_) (fun h =>?_)|refine vM (fun h =>?_) (fun h =>?_))<;>(first|(exfalso;omega)|skip))))
  ·refine bH.go ((lo,(lo+hi) / 2)) [0,1,5,6,7] (by exact vT) ?_ ?_
   ·show (lo+hi) / 2 - lo<hi - lo;omega
   ·refine ⟨by show lo≤(lo+hi) / 2;omega,by show (lo+hi) / 2≤l.length;omega,h3,fun j y hj hy =>?_⟩;have h1:=hl.one _ hm;rcases Nat.lt_or_eq_of_le hj with hj|hj
    ·have:=hl.two _ _ _ _ hj hx hy;simp only at h1 this;omega
    ·simp only at hj;rw [←hj,hx] at hy;injection hy with hy;subst hy;assumption
  ·refine bH.go (((lo+hi) / 2+1,hi)) [0,1,5,6,7] (by exact vT) ?_ ?_
   ·show hi - ((lo+hi) / 2+1)<hi - lo;omega
   ·refine ⟨by show (lo+hi) / 2+1≤hi;omega,h2,fun j y hj hy =>?_,h4⟩;simp only at hj;rcases Nat.lt_or_ge j ((lo+hi) / 2) with hj'|hj'
    ·have:=hl.two _ _ _ _ hj' hy hx;have h1:=hl.one _ hm;simp only at h1 this;omega
    ·obtain rfl:j=(lo+hi) / 2:=by omega
     rw [hx] at hy;injection hy with hy;subst hy;assumption
  ·rw [Gt hm (by simp only;omega) (by simp only;omega)]
 ·(refine' zo)
  rw [Jf fun i x hx =>?_];rcases Nat.lt_or_ge i lo with hi'|hi'
  ·exact .inl (h3 i x hi' hx)
  ·exact .inr (h4 i x (by omega) hx)
theorem HI (z w:List (Int × Int)) (hz:i8 z) (hw:i8 w) (r:Int):aq Tryz.prog G0 281 [.d (z6 z w),.d (gu r)] [] 0 (iv (Mt z w r)) []:=by
 have r1:=H1 z hz r;have r2:=H1 w hw r;unfold Mt;cases hzr:Fg z r;all_goals cases hwr:Fg w r
 all_goals
  rw [hzr] at r1;rw [hwr] at r2;refine vF ab [0,1,4,5,8,15] Tryz.func281 rfl Tryz.results281 Tryz.ntmps281 ?_;(refine' Ag r1 r2)
 all_goals rfl
theorem Hf (z w:List (Int × Int)) (hz:i8 z) (hw:i8 w) (r:Int) (tab a:Nat) (ht:1≤tab∧tab≤16) (ha:a≤100000000):aq Tryz.prog G0 275 [.d (z6 z w),.d (gu r),iv tab,iv a] [] 0 (iv (qG z w tab a r)) []:=by
 have r1:=HI z w hz hw r;unfold qG;by_cases h9:r=9
 ·rw [if_pos h9];refine vF ab [0,1,2,3,8,9,15] Tryz.func275 rfl Tryz.results275 Tryz.ntmps275 ?_;have hm:=Nat.mod_lt a (show tab > 0 by omega);have e:((a % tab:Nat):Int)=(a:Int) % (tab:Int):=rfl;(repeat' (first|(with_reducible first|exact True.intro|refine vD ?_|refine vG ?_|refine vE ?_)|with_reducible refine vC (r1) ?_|with_reducible refine ah.out ?_|refine vR ?_|refine v3 ?_|with_reducible refine vN ?_|((with_reducible first|refine vB (fun h =>?_) (fun h =>?_)|refine vM (fun h =>?_) (fun h =>?_))<;>(first|(exfalso;omega)|skip))))
  ·rw [if_pos (by omega)];rfl
  ·rw [←e,if_neg (by omega)];congr 1;omega
 ·rw [if_neg h9];refine vF ab [0,1,2,3,8,9,15] Tryz.func275 rfl Tryz.results275 Tryz.ntmps275 ?_;(refine' qe r1)
abbrev xh (n:Nat):D:= .lit (.int .i64 n)
abbrev Ih (l:List Nat):bu:= .row 1 (l.map xh)
theorem zX (l:List Nat) (n:Nat):l.map xh++[xh n]=(l++[n]).map xh:=by rw [List.map_append];rfl
theorem Hl (rs:List Int) (hrs:rs.length≤10000000) (out:List Nat) (ho:out.length≤10000000) (i n:Nat) (a:Int) (hi:i<rs.length) :
 aq Tryz.prog G0 258 [iv i,iv a,iv n,.po 0 0,.po 1 0] [(0,.cell [.d (.sd 1 false (rs.map gu))]),(1,.cell [.so 2 1 0 out.length]),(2,Ih out)] 3 (bv true)
  [(0,.cell [.d (.sd 1 false (rs.map gu))]),(1,.cell [.so 3 1 0 (out.length+1)]),(3,Ih (out++[n]))]:=by
 refine vF ab [0,2,3,4,8,12] Tryz.func258 rfl Tryz.results258 Tryz.ntmps258 ?_;(refine' zg)
 rw [show out.map xh++[D.lit (Value.int IntKind.i64 (n:Int))]=(out++[n]).map xh from zX out n,List.length_map,List.length_append];refine ah.now [35] (by decide) ?_;(refine' zg)
 exact ar.cons rfl (ar.cons rfl (ar.cons rfl ar.nil))
theorem Hm (rs:List Int) (hrs:rs.length≤10000000) (out:List Nat) (n:Nat) (a:Int) :
 aq Tryz.prog G0 258 [iv rs.length,iv a,iv n,.po 0 0,.po 1 0] [(0,.cell [.d (.sd 1 false (rs.map gu))]),(1,.cell [.so 2 1 0 out.length]),(2,Ih out)] 3 (bv true)
  [(0,.cell [.d (.sd 1 false (rs.map gu))]),(1,.cell [.so 2 1 0 out.length]),(2,Ih out)]:=by
 refine vF ab [0,2,3,4,8,12] Tryz.func258 rfl Tryz.results258 Tryz.ntmps258 ?_;(refine' zg)
 refine ah.now [] (by decide) ?_;(refine' zg)
 exact ay _
def HW (z w:List (Int × Int)) (tab:Nat) (rs:List Int) (x:Nat × Nat × List Nat):St:=
 ⟨[(0,.d (z6 z w)),(1,.d (.sd 1 false (rs.map gu))),(2,iv tab),(3,.fn 258 [.po 0 0,.po 1 0]),(8,iv x.2.1),(12,.d (.sd 1 false (rs.map gu))),(13,iv rs.length),(14,iv x.1)],
  [(0,.cell [.d (.sd 1 false (rs.map gu))]),(1,.cell [.so 2 1 0 x.2.2.length]),(2,Ih x.2.2)],3⟩
attribute [push_cast] HW.eq_def
set_option maxHeartbeats 1600000 in
theorem FX (z w:List (Int × Int)) (hz:i8 z) (hw:i8 w) (tab:Nat) (ht:1≤tab∧tab≤16) (rs:List Int) (hrs:rs.length≤4000000) :
 aq Tryz.prog G0 257 [.d (z6 z w),.d (.sd 1 false (rs.map gu)),iv tab,.fn 258 [.po 0 0,.po 1 0]] [(0,.cell [.d (.sd 1 false (rs.map gu))]),(1,.cell [.d (.lit (.slice none 0 0))])] 2 (.tup [])
  [(0,.cell [.d (.sd 1 false (rs.map gu))]),(1,.cell [.so 2 1 0 rs.length]),(2,Ih (tT z w tab 0 rs))]:=by
 have hlz:=nz z w tab;refine vF ab [0,1,2,3,8,9,10,11,12,13,14,15,29] Tryz.func257 rfl Tryz.results257 Tryz.ntmps257 ?_;(refine' zg)
 refine vL (lv:=[0,1,2,3,8,9,10,11,12,13,14,15,29]) ab (HW z w tab rs) (fun x=>x.1≤rs.length∧x.2.1=mT z w tab 0 (rs.take x.1)∧x.2.2=tT z w tab 0 (rs.take x.1)) (fun x=>rs.length - x.1) ((0,0,[])) (aN.nilC 1 0 1<|(aN.go [0,1,2,3,8,12,13,14] (by exact vT) rfl)) ?_ ?_
 ·exact ⟨Nat.zero_le _,rfl,rfl⟩
 rintro ⟨i,a,out⟩ ⟨h1,h2,h3⟩;simp only at h1 h2 h3;have hal:=zk (z:=z) (w:=w) ht.1 ht.2 (rs.take i) 0;rw [←h2,List.length_take] at hal;have hol:out.length=i:=by rw [h3,hlz,List.length_take];omega
 rcases Nat.lt_or_ge i rs.length with hi|hi
 ·obtain ⟨r,hr⟩ : ∃r,rs[i]? = some r:=⟨_,List.getElem?_eq_getElem hi⟩
  have r1:=Hf z w hz hw r tab a ht (by omega);have hle:=tV (z:=z) (w:=w) (a:=a) (r:=r) ht.1 ht.2;have r2:=Hl rs (by omega) out (by omega) i (qG z w tab a r) a hi;have e1:mT z w tab 0 (rs.take (i+1))=a+qG z w tab a r:=by rw [aJ hr,qX,←h2]
  have e2:tT z w tab 0 (rs.take (i+1))=out++[qG z w tab a r]:=by rw [aJ hr,wL,←h2,←h3]
  generalize qG z w tab a r=n at *
  (refine' E7 r1 hr)
  refine aB.ofN [0,1,2] r2 ?_;(refine' zg)
  rw [show out.length+1=(out++[n]).length by rw [List.length_append];rfl];refine bH.go ((i+1,a+n,out++[n])) [0,1,2,3,8,12,13,14] (by exact vT) ?_ ?_
  ·show rs.length - (i+1)<rs.length - i;omega
  ·exact ⟨hi,e1.symm,e2.symm⟩
 ·obtain rfl:i=rs.length:=by omega
  rw [List.take_length] at h2 h3;have r3:=Hm rs (by omega) out 0 a;(refine' zg)
  refine aB.ofN [0,1,2] r3 ?_;(refine' zg)
  subst h3;refine ah.now [2] (by decide) ?_;(refine' zg)
  rw [hlz];exact ay _
theorem B1 (tab:Int):aq Tryz.prog G0 256 [iv tab] [] 0 (bv (decide (1≤tab)&&decide (tab≤16))) []:=by
 refine vF ab [0,2] Tryz.func256 rfl Tryz.results256 Tryz.ntmps256 ?_;(refine' zo)
theorem Cz (z w:List (Int × Int)) (hz:i8 z) (hw:i8 w) (tab:Nat) (ht:1≤tab∧tab≤16) (rs:List Int) (hrs:rs.length≤4000000) :
 aq Tryz.prog G0 221 [.d (z6 z w),.d (.sd 1 false (rs.map gu)),iv tab] [] 0 (.tup [.d (.sd 1 false ((tT z w tab 0 rs).map xh)),iv 0]) []:=by
 have r1:=B1 tab;have r2:=FX z w hz hw tab ht rs hrs;rw [decide_eq_true (by omega),decide_eq_true (by omega)] at r1;have hlz:=nz z w tab rs 0;generalize tT z w tab 0 rs=ss at *
 rw [←hlz] at r2;refine vF ab [0,1,2,4,6,7,8,11] Tryz.func221 rfl Tryz.results221 Tryz.ntmps221 ?_;(refine' l9 r1)
 refine aB.ofN [0,24] r2 ?_;(refine' zg)
 refine ah.frz 44 (ah.out ?_);(refine' zg)
 all_goals (try rw [List.take_of_length_le (by simp)])
abbrev xe (c:Cl):D:= .agg [gu c.1,iD c.2.1,iD c.2.2.1,iD c.2.2.2]
abbrev gJ (l:List Cl):V:= .d (.sd 4 false (l.map xe))
abbrev Nd (l:List Cl):bu:= .row 4 (l.map xe)
theorem nu (l:List Cl) (c:Cl):l.map xe++[xe c]=(l++[c]).map xe:=by rw [List.map_append];rfl
theorem jN (c:Cl):aq Tryz.prog G0 276 [.d (xe c)] [] 0 (bv (dl c)) []:=by
 obtain ⟨r,k,w,a⟩:=c;unfold dl;refine vF ab [0,1,2] Tryz.func276 rfl Tryz.results276 Tryz.ntmps276 ?_;(refine' zo)
def Nf (l:List Cl) (i:Nat):St:=⟨[(0,gJ l),(3,iv (dK (l.take i))),(6,gJ l),(7,iv l.length),(8,iv i)],[],0⟩
attribute [push_cast] Nf.eq_def
theorem AG (l:List Cl) (hl:l.length≤100000000) (hw : ∀c∈l,cw c≤2):aq Tryz.prog G0 167 [gJ l] [] 0 (iv (dK l)) []:=by
 refine vF ab [0,2,3,5,6,7,8,9] Tryz.func167 rfl Tryz.results167 Tryz.ntmps167 ?_;(refine' zg)
 refine vL (lv:=[0,2,3,5,6,7,8,9]) ab (Nf l) (fun i=>i≤l.length) (fun i=>l.length - i) (0) ((aN.go [0,3,6,7,8] (by exact vT) rfl)) ?_ ?_
 ·exact Nat.zero_le _
 intro i hi;have hb:=l8 (l:=l.take i) (fun c hc=>hw c (List.mem_of_mem_take hc));rw [List.length_take] at hb;rcases Nat.lt_or_ge i l.length with hk|hk
 ·obtain ⟨c,hc⟩ : ∃c,l[i]? = some c:=⟨_,List.getElem?_eq_getElem hk⟩
  have h2:=hw c (List.mem_of_getElem? hc);have e:=qd l hc;obtain ⟨r,k,w,a⟩:=c;simp only [cw] at h2 e;(refine' Cq hc)
  rw [show ((dK (l.take i):Nat):Int)+(w:Int)=(dK (l.take (i+1)):Nat) by omega];refine bH.go (i+1) [0,3,6,7,8] (by exact vT) ?_ ?_
  ·show l.length - (i+1)<l.length - i;omega
  ·show i+1≤l.length;omega
 ·obtain rfl:i=l.length:=by omega
  rw [Nf,List.take_length];(refine' zo)
abbrev AE (x:Int × Int × Int):D:= .agg [gu x.1,iD x.2.1,iD 0,iD x.2.2]
theorem tL (l:List (Int × Int × Int)) (x:Int × Int × Int):l.map AE++[AE x]=(l++[x]).map AE:=by rw [List.map_append];rfl
def KU (ps:List Pz) (x:Nat × List (Int × Int × Int)):St:=⟨[(4,.so 0 4 0 x.2.length),(10,.d (.sd 3 false (ps.map nq))),(11,iv ps.length),(12,iv x.1)],[(0,.row 4 (x.2.map AE))],1⟩
def I8 (ps:List Pz) (i:Nat) (k a st:Int) (rs:List Int) (x:Nat × List (Int × Int × Int)):St:=
 ⟨[(4,.so 0 4 0 x.2.length),(6,.po 1 0),(7,iv st),(10,.d (.sd 3 false (ps.map nq))),(11,iv ps.length),(12,iv i),(25,.d (.sd 1 false (rs.map gu))),(26,iv rs.length),(27,iv x.1)],
  [(0,.row 4 (x.2.map AE)),(1,.cell [iv k,iv a,.d (.sd 1 false (rs.map gu))])],2⟩
attribute [push_cast] KU.eq_def I8.eq_def
structure Ir (ps:List Pz):Prop where
 len:ps.length≤1000000
 kd : ∀k a rs,Pz.tx k a rs∈ps→(k=1∨k=2)∧0≤a∧a≤100000000∧rs.length≤10000000
 pl : ∀a,Pz.fo a∈ps→0≤a∧a≤100000000
 all:(aI ps).length≤10000000
set_option maxHeartbeats 3200000 in
theorem Gi (ps:List Pz) (h:Ir ps):aq Tryz.prog G0 220 [.d (.sd 3 false (ps.map nq))] [] 0 (.tup [.d (.sd 4 false ((aI ps).map AE)),bv true]) []:=by
 have hpl:=h.len;refine vF ab [0,2,3,4,6,7,8,9,10,11,12,13,17,18,20,22,25,26,27,28] Tryz.func220 rfl Tryz.results220 Tryz.ntmps220 ?_;(refine' zg)
 refine vL (lv:=[0,2,3,4,6,7,8,9,10,11,12,13,17,18,20,22,25,26,27,28]) ab (KU ps) (fun x=>x.1≤ps.length∧x.2=aI (ps.take x.1)) (fun x=>ps.length - x.1) ((0,[])) (aN.nil 4 4<|(aN.go [4,10,11,12] (by exact vT) rfl)) ?_ ?_
 ·exact ⟨Nat.zero_le _,rfl⟩
 rintro ⟨i,es⟩ ⟨h1,h2⟩;simp only at h1 h2;rcases Nat.lt_or_ge i ps.length with hi|hi
 ·obtain ⟨z,hz⟩ : ∃z,ps[i]? = some z:=⟨_,List.getElem?_eq_getElem hi⟩
  have hzm:=List.mem_of_getElem? hz;have e1:aI (ps.take (i+1))=es++gC z:=by rw [aJ hz,aV,dw,←h2]
  have hel:=A7 ps (i+1);rw [e1,List.length_append] at hel;have hall:=h.all;cases z with
  | tx k a rs=>
   obtain ⟨hk,ha0,ha1,hrl⟩:=h.kd k a rs hzm;rw [gC,fG] at hel;rcases hk with rfl|rfl
   ·(refine' Cq hz)
    refine vL (lv:=[0,2,3,4,6,7,8,9,10,11,12,13,17,18,20,22,25,26,27,28]) ab (I8 ps i 1 a 1 rs) (fun x=>x.1≤rs.length∧x.2=es++dP 1 1 a (rs.take x.1)) (fun x=>rs.length - x.1) ((0,es)) ((aN.go [4,6,7,10,11,12,25,26,27] (by exact vT) rfl)) ?_ ?_
    ·exact ⟨Nat.zero_le _,by simp [dP]⟩
    rintro ⟨j,fs⟩ ⟨g1,g2⟩;simp only at g1 g2;have hfl:fs.length=es.length+j:=by rw [g2,List.length_append,fG,List.length_take];omega
    rcases Nat.lt_or_ge j rs.length with hj|hj
    ·obtain ⟨r,hr⟩ : ∃r,rs[j]? = some r:=⟨_,List.getElem?_eq_getElem hj⟩
     have e3:es++dP 1 1 a (rs.take (j+1))=fs++[(r,1,a+1*j)]:=by
      rw [aJ hr,gg,←List.append_assoc,←g2,List.length_take];congr 4;omega
     (refine' Cq hr)
     rw [show fs.map AE++[D.agg [gu r,D.lit (Value.int IntKind.i64 1),D.lit (Value.int IntKind.i64 0),D.lit (Value.int IntKind.i64 (a+1*(j:Int)))]]=(fs++[(r,1,a+1*j)]).map AE from tL fs (r,1,a+1*j),List.length_map];refine bH.go ((j+1,fs++[(r,1,a+1*j)])) [4,6,7,10,11,12,25,26,27] (by exact vT) ?_ ?_
     ·show rs.length - (j+1)<rs.length - j;omega
     ·exact ⟨hj,e3.symm⟩
    ·rw [List.take_of_length_le hj] at g2;(refine' zg)
     have e4:fs=aI (ps.take (i+1)):=by rw [e1,g2];rfl
     refine bH.go ((i+1,fs)) [4,10,11,12] (by exact vT) ?_ ?_
     ·show ps.length - (i+1)<ps.length - i;omega
     ·exact ⟨hi,e4⟩
   ·(refine' Cq hz)
    refine vL (lv:=[0,2,3,4,6,7,8,9,10,11,12,13,17,18,20,22,25,26,27,28]) ab (I8 ps i 2 a 0 rs) (fun x=>x.1≤rs.length∧x.2=es++dP 2 0 a (rs.take x.1)) (fun x=>rs.length - x.1) ((0,es)) ((aN.go [4,6,7,10,11,12,25,26,27] (by exact vT) rfl)) ?_ ?_
    ·exact ⟨Nat.zero_le _,by simp [dP]⟩
    rintro ⟨j,fs⟩ ⟨g1,g2⟩;simp only at g1 g2;have hfl:fs.length=es.length+j:=by rw [g2,List.length_append,fG,List.length_take];omega
    rcases Nat.lt_or_ge j rs.length with hj|hj
    ·obtain ⟨r,hr⟩ : ∃r,rs[j]? = some r:=⟨_,List.getElem?_eq_getElem hj⟩
     have e3:es++dP 2 0 a (rs.take (j+1))=fs++[(r,2,a+0*j)]:=by
      rw [aJ hr,gg,←List.append_assoc,←g2,List.length_take];congr 4;omega
     (refine' Cq hr)
     rw [show fs.map AE++[D.agg [gu r,D.lit (Value.int IntKind.i64 2),D.lit (Value.int IntKind.i64 0),D.lit (Value.int IntKind.i64 (a+0*(j:Int)))]]=(fs++[(r,2,a+0*j)]).map AE from tL fs (r,2,a+0*j),List.length_map];refine bH.go ((j+1,fs++[(r,2,a+0*j)])) [4,6,7,10,11,12,25,26,27] (by exact vT) ?_ ?_
     ·show rs.length - (j+1)<rs.length - j;omega
     ·exact ⟨hj,e3.symm⟩
    ·rw [List.take_of_length_le hj] at g2;(refine' zg)
     have e4:fs=aI (ps.take (i+1)):=by rw [e1,g2];rfl
     refine bH.go ((i+1,fs)) [4,10,11,12] (by exact vT) ?_ ?_
     ·show ps.length - (i+1)<ps.length - i;omega
     ·exact ⟨hi,e4⟩
  | fo a=>
   obtain ⟨ha0,ha1⟩:=h.pl a hzm;rw [gC,List.length_singleton] at hel;(refine' Cq hz)
   rw [show es.map AE++[D.agg [D.lit (Value.int IntKind.i32 8230),iD 3,D.lit (Value.int IntKind.i64 0),iD a]]=(es++[(8230,3,a)]).map AE from tL es (8230,3,a),List.length_map];refine bH.go ((i+1,es++[(8230,3,a)])) [4,10,11,12] (by exact vT) ?_ ?_
   ·show ps.length - (i+1)<ps.length - i;omega
   ·exact ⟨hi,e1.symm⟩
 ·rw [List.take_of_length_le hi] at h2;subst h2;(refine' zg)
  refine ah.frz 0 (ah.out ?_);(refine' zg)
  all_goals (try rw [List.take_of_length_le (by simp)])
abbrev MI (fl:List (Int × Int × Int)):D:= .sd 4 false (fl.map AE)
def PP (z w:List (Int × Int)) (tab:Nat) (fl:List (Int × Int × Int)) (x:Nat × List Int):St:=
 ⟨[(0,.d (z6 z w)),(2,iv tab),(8,.d (MI fl)),(9,bv true),(10,.so 0 1 0 x.2.length),(23,.d (MI fl)),(24,iv fl.length),(25,iv x.1)],[(0,.row 1 (x.2.map gu))],1⟩
def PQ (ss:List Nat) (fl:List (Int × Int × Int)) (x:Nat × List Cl):St:=
 ⟨[(13,.d (.sd 1 false (ss.map xh))),(15,.so 0 4 0 x.2.length),(49,.d (MI fl)),(50,iv fl.length),(51,iv x.1)],[(0,Nd x.2)],1⟩
def Ns (ss:List Nat) (fl:List (Int × Int × Int)) (i m:Nat) (c:Cl) (x:Nat × List Cl):St:=
 ⟨[(13,.d (.sd 1 false (ss.map xh))),(15,.so 0 4 0 x.2.length),(17,.po 1 0),(49,.d (MI fl)),(50,iv fl.length),(51,iv i),(75,iv m),(76,iv x.1)],
  [(0,Nd x.2),(1,.cell [.d (gu c.1),iv c.2.1,iv c.2.2.1,iv c.2.2.2])],2⟩
attribute [push_cast] PP.eq_def PQ.eq_def Ns.eq_def
theorem Hb (l:List Int) (r:Int):l.map gu++[gu r]=(l++[r]).map gu:=by rw [List.map_append];rfl
set_option maxHeartbeats 6400000 in
theorem IG (z w:List (Int × Int)) (hz:i8 z) (hw:i8 w) (tab:Nat) (ht:1≤tab∧tab≤16) (ps:List Pz) (h:Ir ps) (hl:(aI ps).length≤4000000) :
 aq Tryz.prog G0 163 [.d (z6 z w),.d (.sd 3 false (ps.map nq)),iv tab] [] 0 (.tup [gJ (bq z w tab 0 (aI ps)),iv 0]) []:=by
 have r1:=Gi ps h;have r2:=Cz z w hz hw tab ht ((aI ps).map (·.1)) (by rw [List.length_map];exact hl);have hcR:=ur z w tab (aI ps) 0;have hsl:=nz z w tab ((aI ps).map (·.1)) 0;have hs1 : ∀(i:Nat) (x:Int × Int × Int) (s:Nat),(aI ps)[i]? = some x→(tT z w tab 0 ((aI ps).map (·.1)))[i]? = some s→(if x.1=9 then 1 else s)≤s∧s≤16:=EJ ht _ 0;rw [List.length_map] at hsl;rw [←hcR];generalize aI ps=fl at *
 generalize tT z w tab 0 (fl.map (·.1))=ss at *
 refine vF ab [0,1,2,6,7,8,9,10,12,13,14,15,16,17,23,24,25,26,42,46,49,50,51,52,63,75,76,77] Tryz.func163 rfl Tryz.results163 Tryz.ntmps163 ?_;(refine' l9 r1)
 refine vL (lv:=[0,1,2,6,7,8,9,10,12,13,14,15,16,17,23,24,25,26,42,46,49,50,51,52,63,75,76,77]) ab (PP z w tab fl) (fun x=>x.1≤fl.length∧x.2=(fl.take x.1).map (·.1)) (fun x=>fl.length - x.1) ((0,[])) (aN.nil 10 1<|(aN.go [0,2,8,9,10,23,24,25] (by exact vT) rfl)) ?_ ?_
 ·exact ⟨Nat.zero_le _,rfl⟩
 rintro ⟨i,es⟩ ⟨h1,h2⟩;simp only at h1 h2;have hel:es.length=i:=by rw [h2,List.length_map,List.length_take];omega
 rcases Nat.lt_or_ge i fl.length with hi|hi
 ·obtain ⟨x,hx⟩ : ∃x,fl[i]? = some x:=⟨_,List.getElem?_eq_getElem hi⟩
  have e1:(fl.take (i+1)).map (·.1)=es++[x.1]:=by rw [aJ hx,List.map_append,←h2];rfl
  obtain ⟨r,k,a⟩:=x;(refine' Cq hx)
  rw [show es.map gu++[gu r]=(es++[r]).map gu from Hb es r,List.length_map];refine bH.go ((i+1,es++[r])) [0,2,8,9,10,23,24,25] (by exact vT) ?_ ?_
  ·show fl.length - (i+1)<fl.length - i;omega
  ·exact ⟨hi,e1.symm⟩
 ·rw [List.take_of_length_le hi] at h2;rw [←h2] at r2;(refine' zg)
  refine aB.frz 0 rfl ?_;refine vR ?_;rw [List.take_of_length_le (by simp)];refine vC r2 ?_;(refine' zg)
  refine vL (lv:=[0,1,2,6,7,8,9,10,12,13,14,15,16,17,23,24,25,26,42,46,49,50,51,52,63,75,76,77]) ab (PQ ss fl) (fun x=>x.1≤fl.length∧x.2=fi (fl.take x.1) (ss.take x.1)∧x.2.length≤17*x.1) (fun x=>fl.length - x.1) ((0,[])) (aN.nil 15 4<|(aN.go [13,15,49,50,51] (by exact vT) rfl)) ?_ ?_
  ·exact ⟨Nat.zero_le _,rfl,Nat.zero_le _⟩
  rintro ⟨q,out⟩ ⟨h3,h4,h5⟩;simp only at h3 h4 h5;rcases Nat.lt_or_ge q fl.length with hq|hq
  ·obtain ⟨x,hx⟩ : ∃x,fl[q]? = some x:=⟨_,List.getElem?_eq_getElem hq⟩
   obtain ⟨s,hs⟩ : ∃s,ss[q]? = some s:=⟨_,List.getElem?_eq_getElem (by omega)⟩
   have hws:=hs1 q x s hx hs;have e1:fi (fl.take (q+1)) (ss.take (q+1))=out++gB x s:=by rw [aJ hx,aJ hs,ut _ _ _ _ (by rw [List.length_take,List.length_take];omega),←h4]
   obtain ⟨r,k,a⟩:=x;simp only at hws;by_cases h9:r=9
   ·rw [if_pos h9] at hws;(refine' My hx hs)
    rw [show out.map xe++[D.agg [gu r,iD k,D.lit (Value.int IntKind.i64 1),iD a]]=(out++[((r,k,1,a):Cl)]).map xe from nu out (r,k,1,a),List.length_map];refine vL (lv:=[0,1,2,6,7,8,9,10,12,13,14,15,16,17,23,24,25,26,42,46,49,50,51,52,63,75,76,77]) ab (Ns ss fl q (s - 1) (r,k,1,a)) (fun x=>x.1≤s - 1∧x.2=out++[((r,k,1,a):Cl)]++List.replicate x.1 ((32,4,1,a):Cl)) (fun x=>(s - 1) - x.1) ((0,out++[((r,k,1,a):Cl)])) ((aN.go [13,15,17,49,50,51,75,76] (by exact vT) rfl)) ?_ ?_
    ·exact ⟨Nat.zero_le _,by simp⟩
    rintro ⟨j,fs⟩ ⟨g1,g2⟩;simp only at g1 g2;have hfl:fs.length=out.length+1+j:=by rw [g2];simp;omega
    rcases Nat.lt_or_ge j (s - 1) with hj|hj
    ·(refine' zg)
     rw [show fs.map xe++[D.agg [D.lit (Value.int IntKind.i32 32),D.lit (Value.int IntKind.i64 4),D.lit (Value.int IntKind.i64 1),iD a]]=(fs++[((32,4,1,a):Cl)]).map xe from nu fs (32,4,1,a),List.length_map];refine bH.go ((j+1,fs++[((32,4,1,a):Cl)])) [13,15,17,49,50,51,75,76] (by exact vT) ?_ ?_
     ·show (s - 1) - (j+1)<(s - 1) - j;omega
     ·exact ⟨hj,by rw [g2,List.replicate_succ',←List.append_assoc]⟩
    ·obtain rfl:j=s - 1:=by omega
     have e4:fs=fi (fl.take (q+1)) (ss.take (q+1)):=by rw [e1,g2,gB];simp [h9]
     (refine' zg)
     refine bH.go ((q+1,fs)) [13,15,49,50,51] (by exact vT) ?_ ?_
     ·show fl.length - (q+1)<fl.length - q;omega
     ·exact ⟨hq,e4,by simp only;omega⟩
   ·rw [if_neg h9] at hws;(refine' My hx hs)
    rw [show out.map xe++[D.agg [gu r,iD k,xh s,iD a]]=(out++[((r,k,s,a):Cl)]).map xe from nu out (r,k,s,a),List.length_map];refine vL (lv:=[0,1,2,6,7,8,9,10,12,13,14,15,16,17,23,24,25,26,42,46,49,50,51,52,63,75,76,77]) ab (Ns ss fl q (s - s) (r,k,s,a)) (fun x=>x.1≤s - s∧x.2=out++[((r,k,s,a):Cl)]++List.replicate x.1 ((32,4,1,a):Cl)) (fun x=>(s - s) - x.1) ((0,out++[((r,k,s,a):Cl)])) ((aN.go [13,15,17,49,50,51,75,76] (by exact vT) rfl)) ?_ ?_
    ·exact ⟨Nat.zero_le _,by simp⟩
    rintro ⟨j,fs⟩ ⟨g1,g2⟩;simp only at g1 g2;have hfl:fs.length=out.length+1+j:=by rw [g2];simp;omega
    rcases Nat.lt_or_ge j (s - s) with hj|hj
    ·omega
    ·obtain rfl:j=s - s:=by omega
     have e4:fs=fi (fl.take (q+1)) (ss.take (q+1)):=by rw [e1,g2,gB];simp [h9]
     (refine' zg)
     refine bH.go ((q+1,fs)) [13,15,49,50,51] (by exact vT) ?_ ?_
     ·show fl.length - (q+1)<fl.length - q;omega
     ·exact ⟨hq,e4,by simp only;omega⟩
  ·rw [List.take_of_length_le hq,List.take_of_length_le (by omega)] at h4;subst h4;(refine' zg)
   refine ah.frz 0 (ah.out ?_);(refine' zg)
   rw [List.take_of_length_le (by simp)]
end Go.Proofs.YtkkanlcjjpoklaaGreatDoor
