/- What the theorem leans on, part 28. -/
import Derived.Test.YtkkanlcjjpoklaaGreatDoorStUPAE
import Derived.Test.YtkkanlcjjpoklaaGreatDoorStUPBA
set_option linter.unusedSimpArgs false
set_option linter.unusedVariables false
set_option maxRecDepth 8000
namespace Go.Proofs.YtkkanlcjjpoklaaGreatDoor
abbrev ZY (x:Int × Int):D:= .agg [.lit (.int .i32 x.1),.lit (.int .i32 x.2)]
abbrev QN (l:List (Int × Int)):D:= .sd 2 false (l.map ZY)
abbrev pQ (z w:List (Int × Int)):D:= .pd 2 [.agg [QN z,QN w]] 0 0
structure gP (l:List (Int × Int)):Prop where
 len:l.length≤1000
 one : ∀x∈l,x.1≤x.2
 two : ∀(i j:Nat) x y,i<j→l[i]? = some x→l[j]? = some y→x.2<y.1
theorem Ed {l:List (Int × Int)} {r:Int} {x:Int × Int} (h:x∈l) (h1:x.1≤r) (h2:r≤x.2):F9 l r=true:=by
 unfold F9;exact List.any_eq_true.2 ⟨x,h,by simpa using ⟨h1,h2⟩⟩
theorem Jj {l:List (Int × Int)} {r:Int} (h : ∀(i:Nat) x,l[i]? = some x→x.2<r∨r<x.1):F9 l r=false:=by
 cases hb:F9 l r with
 | false=>rfl
 | true=>
  unfold F9 at hb;obtain ⟨x,hx,h1⟩:=List.any_eq_true.1 hb;obtain ⟨i,hi⟩:=List.getElem?_of_mem hx;have:=h i x hi;simp at h1;omega
def TW (l:List (Int × Int)) (r:Int) (x:Nat × Nat):St:=⟨[(0,.d (QN l)),(1,.d (dy r)),(5,iv x.1),(6,iv x.2),(7,bv false)],[],0⟩
attribute [push_cast] TW.eq_def
set_option maxHeartbeats 1600000 in
theorem N5 (l:List (Int × Int)) (hl:gP l) (r:Int):an Tryz.prog G0 285 [.d (QN l),.d (dy r)] [] 0 (bv (F9 l r)) []:=by
 have hll:=hl.len;refine vF ab [0,1,4,5,6,7,8,13,18,27] Tryz.func285 rfl Tryz.results285 Tryz.ntmps285 ?_;(refine' zg)
 refine vL (lv:=[0,1,4,5,6,7,8,13,18,27]) ab (TW l r) (fun x=>x.1≤x.2∧x.2≤l.length∧(∀(j:Nat) y,j<x.1→l[j]? = some y→y.2<r)∧(∀(j:Nat) y,x.2≤j→l[j]? = some y→r<y.1)) (fun x=>x.2 - x.1) ((0,l.length)) ((aC.go [0,1,5,6,7] (by exact vT) rfl)) ?_ ?_
 ·exact ⟨Nat.zero_le _,Nat.le_refl _,fun j y h=>absurd h (Nat.not_lt_zero _),fun j y h hj=>by rw [List.getElem?_eq_none h] at hj;cases hj⟩
 rintro ⟨lo,hi⟩ ⟨h1,h2,h3,h4⟩;simp only at h1 h2 h3 h4;rcases Nat.lt_or_ge lo hi with hlt|hge
 ·obtain ⟨x,hx⟩ : ∃x,l[(lo+hi) / 2]? = some x:=⟨_,List.getElem?_eq_getElem (by omega)⟩
  have hm:=List.mem_of_getElem? hx;obtain ⟨a,b⟩:=x;(repeat' (first|(with_reducible refine aI.is ((lo+hi) / 2) _ (by omega) hx ?_)|with_reducible refine ae.out ?_|(refine' cD)|fail))
  ·refine aG.go ((lo,(lo+hi) / 2)) [0,1,5,6,7] (by exact vT) ?_ ?_
   ·show (lo+hi) / 2 - lo<hi - lo;omega
   ·refine ⟨by show lo≤(lo+hi) / 2;omega,by show (lo+hi) / 2≤l.length;omega,h3,fun j y hj hy =>?_⟩;have h1:=hl.one _ hm;rcases Nat.lt_or_eq_of_le hj with hj|hj
    ·have:=hl.two _ _ _ _ hj hx hy;simp only at h1 this;omega
    ·simp only at hj;rw [←hj,hx] at hy;injection hy with hy;subst hy;assumption
  ·refine aG.go (((lo+hi) / 2+1,hi)) [0,1,5,6,7] (by exact vT) ?_ ?_
   ·show hi - ((lo+hi) / 2+1)<hi - lo;omega
   ·refine ⟨by show (lo+hi) / 2+1≤hi;omega,h2,fun j y hj hy =>?_,h4⟩;simp only at hj;rcases Nat.lt_or_ge j ((lo+hi) / 2) with hj'|hj'
    ·have:=hl.two _ _ _ _ hj' hy hx;have h1:=hl.one _ hm;simp only at h1 this;omega
    ·obtain rfl:j=(lo+hi) / 2:=by omega
     rw [hx] at hy;injection hy with hy;subst hy;assumption
  ·rw [Ed hm (by simp only;omega) (by simp only;omega)]
 ·(refine' zo)
  rw [Jj fun i x hx =>?_];rcases Nat.lt_or_ge i lo with hi'|hi'
  ·exact .inl (h3 i x hi' hx)
  ·exact .inr (h4 i x (by omega) hx)
theorem NG (z w:List (Int × Int)) (hz:gP z) (hw:gP w) (r:Int):an Tryz.prog G0 281 [.d (pQ z w),.d (dy r)] [] 0 (iv (NA z w r)) []:=by
 have r1:=N5 z hz r;have r2:=N5 w hw r;unfold NA;cases hzr:F9 z r;all_goals cases hwr:F9 w r
 all_goals
  rw [hzr] at r1;rw [hwr] at r2;refine vF ab [0,1,4,5,8,15] Tryz.func281 rfl Tryz.results281 Tryz.ntmps281 ?_;(refine' tJ r1 r2)
 all_goals rfl
theorem Na (z w:List (Int × Int)) (hz:gP z) (hw:gP w) (r:Int) (tab a:Nat) (ht:1≤tab∧tab≤16) (ha:a≤100000000):an Tryz.prog G0 275 [.d (pQ z w),.d (dy r),iv tab,iv a] [] 0 (iv (nl z w tab a r)) []:=by
 have r1:=NG z w hz hw r;unfold nl;by_cases h9:r=9
 ·rw [if_pos h9];refine vF ab [0,1,2,3,8,9,15] Tryz.func275 rfl Tryz.results275 Tryz.ntmps275 ?_;have hm:=Nat.mod_lt a (show tab > 0 by omega);have e:((a % tab:Nat):Int)=(a:Int) % (tab:Int):=rfl;(repeat' (first|with_reducible refine vC (r1) ?_|with_reducible refine ae.out ?_|(refine' cD)|fail))
  ·rw [if_pos (by omega)];rfl
  ·rw [←e,if_neg (by omega)];congr 1;omega
 ·rw [if_neg h9];refine vF ab [0,1,2,3,8,9,15] Tryz.func275 rfl Tryz.results275 Tryz.ntmps275 ?_;(refine' kW r1)
abbrev nk (n:Nat):D:= .lit (.int .i64 n)
abbrev G9 (l:List Nat):bF:= .row 1 (l.map nk)
theorem m6 (l:List Nat) (n:Nat):l.map nk++[nk n]=(l++[n]).map nk:=by rw [List.map_append];rfl
theorem Ni (rs:List Int) (hrs:rs.length≤10000000) (out:List Nat) (ho:out.length≤10000000) (i n:Nat) (a:Int) (hi:i<rs.length) :
 an Tryz.prog G0 258 [iv i,iv a,iv n,.po 0 0,.po 1 0] [(0,.cell [.d (.sd 1 false (rs.map dy))]),(1,.cell [.so 2 1 0 out.length]),(2,G9 out)] 3 (bv true)
  [(0,.cell [.d (.sd 1 false (rs.map dy))]),(1,.cell [.so 3 1 0 (out.length+1)]),(3,G9 (out++[n]))]:=by
 refine vF ab [0,2,3,4,8,12] Tryz.func258 rfl Tryz.results258 Tryz.ntmps258 ?_;(refine' zg)
 rw [show out.map nk++[D.lit (Value.int IntKind.i64 (n:Int))]=(out++[n]).map nk from m6 out n,List.length_map,List.length_append];refine ae.now [35] (by decide) ?_;(refine' zg)
 exact ap.cons rfl (ap.cons rfl (ap.cons rfl ap.nil))
theorem Nj (rs:List Int) (hrs:rs.length≤10000000) (out:List Nat) (n:Nat) (a:Int) :
 an Tryz.prog G0 258 [iv rs.length,iv a,iv n,.po 0 0,.po 1 0] [(0,.cell [.d (.sd 1 false (rs.map dy))]),(1,.cell [.so 2 1 0 out.length]),(2,G9 out)] 3 (bv true)
  [(0,.cell [.d (.sd 1 false (rs.map dy))]),(1,.cell [.so 2 1 0 out.length]),(2,G9 out)]:=by
 refine vF ab [0,2,3,4,8,12] Tryz.func258 rfl Tryz.results258 Tryz.ntmps258 ?_;(refine' zg)
 refine ae.now [] (by decide) ?_;(refine' zg)
 exact aj _
def N0 (z w:List (Int × Int)) (tab:Nat) (rs:List Int) (x:Nat × Nat × List Nat):St:=
 ⟨[(0,.d (pQ z w)),(1,.d (.sd 1 false (rs.map dy))),(2,iv tab),(3,.fn 258 [.po 0 0,.po 1 0]),(8,iv x.2.1),(12,.d (.sd 1 false (rs.map dy))),(13,iv rs.length),(14,iv x.1)],
  [(0,.cell [.d (.sd 1 false (rs.map dy))]),(1,.cell [.so 2 1 0 x.2.2.length]),(2,G9 x.2.2)],3⟩
attribute [push_cast] N0.eq_def
set_option maxHeartbeats 1600000 in
theorem LR (z w:List (Int × Int)) (hz:gP z) (hw:gP w) (tab:Nat) (ht:1≤tab∧tab≤16) (rs:List Int) (hrs:rs.length≤4000000) :
 an Tryz.prog G0 257 [.d (pQ z w),.d (.sd 1 false (rs.map dy)),iv tab,.fn 258 [.po 0 0,.po 1 0]] [(0,.cell [.d (.sd 1 false (rs.map dy))]),(1,.cell [.d (.lit (.slice none 0 0))])] 2 (.tup [])
  [(0,.cell [.d (.sd 1 false (rs.map dy))]),(1,.cell [.so 2 1 0 rs.length]),(2,G9 (pP z w tab 0 rs))]:=by
 have hlz:=kD z w tab;refine vF ab [0,1,2,3,8,9,10,11,12,13,14,15,29] Tryz.func257 rfl Tryz.results257 Tryz.ntmps257 ?_;(refine' zg)
 refine vL (lv:=[0,1,2,3,8,9,10,11,12,13,14,15,29]) ab (N0 z w tab rs) (fun x=>x.1≤rs.length∧x.2.1=mj z w tab 0 (rs.take x.1)∧x.2.2=pP z w tab 0 (rs.take x.1)) (fun x=>rs.length - x.1) ((0,0,[])) (aC.nilC 1 0 1<|(aC.go [0,1,2,3,8,12,13,14] (by exact vT) rfl)) ?_ ?_
 ·exact ⟨Nat.zero_le _,rfl,rfl⟩
 rintro ⟨i,a,out⟩ ⟨h1,h2,h3⟩;simp only at h1 h2 h3;have hal:=xh (z:=z) (w:=w) ht.1 ht.2 (rs.take i) 0;rw [←h2,List.length_take] at hal;have hol:out.length=i:=by rw [h3,hlz,List.length_take];omega
 rcases Nat.lt_or_ge i rs.length with hi|hi
 ·obtain ⟨r,hr⟩ : ∃r,rs[i]? = some r:=⟨_,List.getElem?_eq_getElem hi⟩
  have r1:=Na z w hz hw r tab a ht (by omega);have hle:=tt (z:=z) (w:=w) (a:=a) (r:=r) ht.1 ht.2;have r2:=Ni rs (by omega) out (by omega) i (nl z w tab a r) a hi;have e1:mj z w tab 0 (rs.take (i+1))=a+nl z w tab a r:=by rw [ax hr,nD,←h2]
  have e2:pP z w tab 0 (rs.take (i+1))=out++[nl z w tab a r]:=by rw [ax hr,tn,←h2,←h3]
  generalize nl z w tab a r=n at *
  (refine' lS r1 hr)
  refine au.ofN [0,1,2] r2 ?_;(refine' zg)
  rw [show out.length+1=(out++[n]).length by rw [List.length_append];rfl];refine aG.go ((i+1,a+n,out++[n])) [0,1,2,3,8,12,13,14] (by exact vT) ?_ ?_
  ·show rs.length - (i+1)<rs.length - i;omega
  ·exact ⟨hi,e1.symm,e2.symm⟩
 ·obtain rfl:i=rs.length:=by omega
  rw [List.take_length] at h2 h3;have r3:=Nj rs (by omega) out 0 a;(refine' zg)
  refine au.ofN [0,1,2] r3 ?_;(refine' zg)
  subst h3;refine ae.now [2] (by decide) ?_;(refine' zg)
  rw [hlz];exact aj _
theorem Hh (tab:Int):an Tryz.prog G0 256 [iv tab] [] 0 (bv (decide (1≤tab)&&decide (tab≤16))) []:=by
 refine vF ab [0,2] Tryz.func256 rfl Tryz.results256 Tryz.ntmps256 ?_;(refine' zo)
theorem HU (z w:List (Int × Int)) (hz:gP z) (hw:gP w) (tab:Nat) (ht:1≤tab∧tab≤16) (rs:List Int) (hrs:rs.length≤4000000) :
 an Tryz.prog G0 221 [.d (pQ z w),.d (.sd 1 false (rs.map dy)),iv tab] [] 0 (.tup [.d (.sd 1 false ((pP z w tab 0 rs).map nk)),iv 0]) []:=by
 have r1:=Hh tab;have r2:=LR z w hz hw tab ht rs hrs;rw [decide_eq_true (by omega),decide_eq_true (by omega)] at r1;have hlz:=kD z w tab rs 0;generalize pP z w tab 0 rs=ss at *
 rw [←hlz] at r2;refine vF ab [0,1,2,4,6,7,8,11] Tryz.func221 rfl Tryz.results221 Tryz.ntmps221 ?_;(refine' fj r1)
 refine au.ofN [0,24] r2 ?_;(refine' zg)
 refine ae.frz 44 (ae.out ?_);(refine' zg)
 all_goals (try rw [List.take_of_length_le (by simp)])
abbrev gN (c:Cl):D:= .agg [dy c.1,iD c.2.1,iD c.2.2.1,iD c.2.2.2]
abbrev cM (l:List Cl):V:= .d (.sd 4 false (l.map gN))
abbrev NU (l:List Cl):bF:= .row 4 (l.map gN)
theorem eo (l:List Cl) (c:Cl):l.map gN++[gN c]=(l++[c]).map gN:=by rw [List.map_append];rfl
theorem lU (c:Cl):an Tryz.prog G0 276 [.d (gN c)] [] 0 (bv (bL c)) []:=by
 obtain ⟨r,k,w,a⟩:=c;unfold bL;refine vF ab [0,1,2] Tryz.func276 rfl Tryz.results276 Tryz.ntmps276 ?_;(refine' zo)
def UV (l:List Cl) (i:Nat):St:=⟨[(0,cM l),(3,iv (cZ (l.take i))),(6,cM l),(7,iv l.length),(8,iv i)],[],0⟩
attribute [push_cast] UV.eq_def
theorem uS (l:List Cl) (hl:l.length≤100000000) (hw : ∀c∈l,cw c≤2):an Tryz.prog G0 167 [cM l] [] 0 (iv (cZ l)) []:=by
 refine vF ab [0,2,3,5,6,7,8,9] Tryz.func167 rfl Tryz.results167 Tryz.ntmps167 ?_;(refine' zg)
 refine vL (lv:=[0,2,3,5,6,7,8,9]) ab (UV l) (fun i=>i≤l.length) (fun i=>l.length - i) (0) ((aC.go [0,3,6,7,8] (by exact vT) rfl)) ?_ ?_
 ·exact Nat.zero_le _
 intro i hi;have hb:=gL (l:=l.take i) (fun c hc=>hw c (List.mem_of_mem_take hc));rw [List.length_take] at hb;rcases Nat.lt_or_ge i l.length with hk|hk
 ·obtain ⟨c,hc⟩ : ∃c,l[i]? = some c:=⟨_,List.getElem?_eq_getElem hk⟩
  have h2:=hw c (List.mem_of_getElem? hc);have e:=j8 l hc;obtain ⟨r,k,w,a⟩:=c;simp only [cw] at h2 e;(refine' pp hc)
  rw [show ((cZ (l.take i):Nat):Int)+(w:Int)=(cZ (l.take (i+1)):Nat) by omega];refine aG.go (i+1) [0,3,6,7,8] (by exact vT) ?_ ?_
  ·show l.length - (i+1)<l.length - i;omega
  ·show i+1≤l.length;omega
 ·obtain rfl:i=l.length:=by omega
  rw [UV,List.take_length];(refine' zo)
abbrev Fo (x:Int × Int × Int):D:= .agg [dy x.1,iD x.2.1,iD 0,iD x.2.2]
theorem xY (l:List (Int × Int × Int)) (x:Int × Int × Int):l.map Fo++[Fo x]=(l++[x]).map Fo:=by rw [List.map_append];rfl
def Ru (ps:List Pz) (x:Nat × List (Int × Int × Int)):St:=⟨[(4,.so 0 4 0 x.2.length),(10,.d (.sd 3 false (ps.map fF))),(11,iv ps.length),(12,iv x.1)],[(0,.row 4 (x.2.map Fo))],1⟩
def Pc (ps:List Pz) (i:Nat) (k a st:Int) (rs:List Int) (x:Nat × List (Int × Int × Int)):St:=
 ⟨[(4,.so 0 4 0 x.2.length),(6,.po 1 0),(7,iv st),(10,.d (.sd 3 false (ps.map fF))),(11,iv ps.length),(12,iv i),(25,.d (.sd 1 false (rs.map dy))),(26,iv rs.length),(27,iv x.1)],
  [(0,.row 4 (x.2.map Fo)),(1,.cell [iv k,iv a,.d (.sd 1 false (rs.map dy))])],2⟩
attribute [push_cast] Ru.eq_def Pc.eq_def
structure HS (ps:List Pz):Prop where
 len:ps.length≤1000000
 kd : ∀k a rs,Pz.tx k a rs∈ps→(k=1∨k=2)∧0≤a∧a≤100000000∧rs.length≤10000000
 pl : ∀a,Pz.fo a∈ps→0≤a∧a≤100000000
 all:(aE ps).length≤10000000
set_option maxHeartbeats 3200000 in
theorem Mb (ps:List Pz) (h:HS ps):an Tryz.prog G0 220 [.d (.sd 3 false (ps.map fF))] [] 0 (.tup [.d (.sd 4 false ((aE ps).map Fo)),bv true]) []:=by
 have hpl:=h.len;refine vF ab [0,2,3,4,6,7,8,9,10,11,12,13,17,18,20,22,25,26,27,28] Tryz.func220 rfl Tryz.results220 Tryz.ntmps220 ?_;(refine' zg)
 refine vL (lv:=[0,2,3,4,6,7,8,9,10,11,12,13,17,18,20,22,25,26,27,28]) ab (Ru ps) (fun x=>x.1≤ps.length∧x.2=aE (ps.take x.1)) (fun x=>ps.length - x.1) ((0,[])) (aC.nil 4 4<|(aC.go [4,10,11,12] (by exact vT) rfl)) ?_ ?_
 ·exact ⟨Nat.zero_le _,rfl⟩
 rintro ⟨i,es⟩ ⟨h1,h2⟩;simp only at h1 h2;rcases Nat.lt_or_ge i ps.length with hi|hi
 ·obtain ⟨z,hz⟩ : ∃z,ps[i]? = some z:=⟨_,List.getElem?_eq_getElem hi⟩
  have hzm:=List.mem_of_getElem? hz;have e1:aE (ps.take (i+1))=es++c8 z:=by rw [ax hz,a5,dU,←h2]
  have hel:=ve ps (i+1);rw [e1,List.length_append] at hel;have hall:=h.all;cases z with
  | tx k a rs=>
   obtain ⟨hk,ha0,ha1,hrl⟩:=h.kd k a rs hzm;rw [c8,hJ] at hel;rcases hk with rfl|rfl
   ·(refine' pp hz)
    refine vL (lv:=[0,2,3,4,6,7,8,9,10,11,12,13,17,18,20,22,25,26,27,28]) ab (Pc ps i 1 a 1 rs) (fun x=>x.1≤rs.length∧x.2=es++dC 1 1 a (rs.take x.1)) (fun x=>rs.length - x.1) ((0,es)) ((aC.go [4,6,7,10,11,12,25,26,27] (by exact vT) rfl)) ?_ ?_
    ·exact ⟨Nat.zero_le _,by simp [dC]⟩
    rintro ⟨j,fs⟩ ⟨g1,g2⟩;simp only at g1 g2;have hfl:fs.length=es.length+j:=by rw [g2,List.length_append,hJ,List.length_take];omega
    rcases Nat.lt_or_ge j rs.length with hj|hj
    ·obtain ⟨r,hr⟩ : ∃r,rs[j]? = some r:=⟨_,List.getElem?_eq_getElem hj⟩
     have e3:es++dC 1 1 a (rs.take (j+1))=fs++[(r,1,a+1*j)]:=by
      rw [ax hr,iK,←List.append_assoc,←g2,List.length_take];congr 4;omega
     (refine' pp hr)
     rw [show fs.map Fo++[D.agg [dy r,D.lit (Value.int IntKind.i64 1),D.lit (Value.int IntKind.i64 0),D.lit (Value.int IntKind.i64 (a+1*(j:Int)))]]=(fs++[(r,1,a+1*j)]).map Fo from xY fs (r,1,a+1*j),List.length_map];refine aG.go ((j+1,fs++[(r,1,a+1*j)])) [4,6,7,10,11,12,25,26,27] (by exact vT) ?_ ?_
     ·show rs.length - (j+1)<rs.length - j;omega
     ·exact ⟨hj,e3.symm⟩
    ·rw [List.take_of_length_le hj] at g2;(refine' zg)
     have e4:fs=aE (ps.take (i+1)):=by rw [e1,g2];rfl
     refine aG.go ((i+1,fs)) [4,10,11,12] (by exact vT) ?_ ?_
     ·show ps.length - (i+1)<ps.length - i;omega
     ·exact ⟨hi,e4⟩
   ·(refine' pp hz)
    refine vL (lv:=[0,2,3,4,6,7,8,9,10,11,12,13,17,18,20,22,25,26,27,28]) ab (Pc ps i 2 a 0 rs) (fun x=>x.1≤rs.length∧x.2=es++dC 2 0 a (rs.take x.1)) (fun x=>rs.length - x.1) ((0,es)) ((aC.go [4,6,7,10,11,12,25,26,27] (by exact vT) rfl)) ?_ ?_
    ·exact ⟨Nat.zero_le _,by simp [dC]⟩
    rintro ⟨j,fs⟩ ⟨g1,g2⟩;simp only at g1 g2;have hfl:fs.length=es.length+j:=by rw [g2,List.length_append,hJ,List.length_take];omega
    rcases Nat.lt_or_ge j rs.length with hj|hj
    ·obtain ⟨r,hr⟩ : ∃r,rs[j]? = some r:=⟨_,List.getElem?_eq_getElem hj⟩
     have e3:es++dC 2 0 a (rs.take (j+1))=fs++[(r,2,a+0*j)]:=by
      rw [ax hr,iK,←List.append_assoc,←g2,List.length_take];congr 4;omega
     (refine' pp hr)
     rw [show fs.map Fo++[D.agg [dy r,D.lit (Value.int IntKind.i64 2),D.lit (Value.int IntKind.i64 0),D.lit (Value.int IntKind.i64 (a+0*(j:Int)))]]=(fs++[(r,2,a+0*j)]).map Fo from xY fs (r,2,a+0*j),List.length_map];refine aG.go ((j+1,fs++[(r,2,a+0*j)])) [4,6,7,10,11,12,25,26,27] (by exact vT) ?_ ?_
     ·show rs.length - (j+1)<rs.length - j;omega
     ·exact ⟨hj,e3.symm⟩
    ·rw [List.take_of_length_le hj] at g2;(refine' zg)
     have e4:fs=aE (ps.take (i+1)):=by rw [e1,g2];rfl
     refine aG.go ((i+1,fs)) [4,10,11,12] (by exact vT) ?_ ?_
     ·show ps.length - (i+1)<ps.length - i;omega
     ·exact ⟨hi,e4⟩
  | fo a=>
   obtain ⟨ha0,ha1⟩:=h.pl a hzm;rw [c8,List.length_singleton] at hel;(refine' pp hz)
   rw [show es.map Fo++[D.agg [D.lit (Value.int IntKind.i32 8230),iD 3,D.lit (Value.int IntKind.i64 0),iD a]]=(es++[(8230,3,a)]).map Fo from xY es (8230,3,a),List.length_map];refine aG.go ((i+1,es++[(8230,3,a)])) [4,10,11,12] (by exact vT) ?_ ?_
   ·show ps.length - (i+1)<ps.length - i;omega
   ·exact ⟨hi,e1.symm⟩
 ·rw [List.take_of_length_le hi] at h2;subst h2;(refine' zg)
  refine ae.frz 0 (ae.out ?_);(refine' zg)
  all_goals (try rw [List.take_of_length_le (by simp)])
abbrev T8 (fl:List (Int × Int × Int)):D:= .sd 4 false (fl.map Fo)
def X8 (z w:List (Int × Int)) (tab:Nat) (fl:List (Int × Int × Int)) (x:Nat × List Int):St:=
 ⟨[(0,.d (pQ z w)),(2,iv tab),(8,.d (T8 fl)),(9,bv true),(10,.so 0 1 0 x.2.length),(23,.d (T8 fl)),(24,iv fl.length),(25,iv x.1)],[(0,.row 1 (x.2.map dy))],1⟩
def X9 (ss:List Nat) (fl:List (Int × Int × Int)) (x:Nat × List Cl):St:=
 ⟨[(13,.d (.sd 1 false (ss.map nk))),(15,.so 0 4 0 x.2.length),(49,.d (T8 fl)),(50,iv fl.length),(51,iv x.1)],[(0,NU x.2)],1⟩
def Vc (ss:List Nat) (fl:List (Int × Int × Int)) (i m:Nat) (c:Cl) (x:Nat × List Cl):St:=
 ⟨[(13,.d (.sd 1 false (ss.map nk))),(15,.so 0 4 0 x.2.length),(17,.po 1 0),(49,.d (T8 fl)),(50,iv fl.length),(51,iv i),(75,iv m),(76,iv x.1)],
  [(0,NU x.2),(1,.cell [.d (dy c.1),iv c.2.1,iv c.2.2.1,iv c.2.2.2])],2⟩
attribute [push_cast] X8.eq_def X9.eq_def Vc.eq_def
theorem M8 (l:List Int) (r:Int):l.map dy++[dy r]=(l++[r]).map dy:=by rw [List.map_append];rfl
set_option maxHeartbeats 6400000 in
theorem Ig (z w:List (Int × Int)) (hz:gP z) (hw:gP w) (tab:Nat) (ht:1≤tab∧tab≤16) (ps:List Pz) (h:HS ps) (hl:(aE ps).length≤4000000) :
 an Tryz.prog G0 163 [.d (pQ z w),.d (.sd 3 false (ps.map fF)),iv tab] [] 0 (.tup [cM (bz z w tab 0 (aE ps)),iv 0]) []:=by
 have r1:=Mb ps h;have r2:=HU z w hz hw tab ht ((aE ps).map (·.1)) (by rw [List.length_map];exact hl);have hcR:=qJ z w tab (aE ps) 0;have hsl:=kD z w tab ((aE ps).map (·.1)) 0;have hs1 : ∀(i:Nat) (x:Int × Int × Int) (s:Nat),(aE ps)[i]? = some x→(pP z w tab 0 ((aE ps).map (·.1)))[i]? = some s→(if x.1=9 then 1 else s)≤s∧s≤16:=Dq ht _ 0;rw [List.length_map] at hsl;rw [←hcR];generalize aE ps=fl at *
 generalize pP z w tab 0 (fl.map (·.1))=ss at *
 refine vF ab [0,1,2,6,7,8,9,10,12,13,14,15,16,17,23,24,25,26,42,46,49,50,51,52,63,75,76,77] Tryz.func163 rfl Tryz.results163 Tryz.ntmps163 ?_;(refine' fj r1)
 refine vL (lv:=[0,1,2,6,7,8,9,10,12,13,14,15,16,17,23,24,25,26,42,46,49,50,51,52,63,75,76,77]) ab (X8 z w tab fl) (fun x=>x.1≤fl.length∧x.2=(fl.take x.1).map (·.1)) (fun x=>fl.length - x.1) ((0,[])) (aC.nil 10 1<|(aC.go [0,2,8,9,10,23,24,25] (by exact vT) rfl)) ?_ ?_
 ·exact ⟨Nat.zero_le _,rfl⟩
 rintro ⟨i,es⟩ ⟨h1,h2⟩;simp only at h1 h2;have hel:es.length=i:=by rw [h2,List.length_map,List.length_take];omega
 rcases Nat.lt_or_ge i fl.length with hi|hi
 ·obtain ⟨x,hx⟩ : ∃x,fl[i]? = some x:=⟨_,List.getElem?_eq_getElem hi⟩
  have e1:(fl.take (i+1)).map (·.1)=es++[x.1]:=by rw [ax hx,List.map_append,←h2];rfl
  obtain ⟨r,k,a⟩:=x;(refine' pp hx)
  rw [show es.map dy++[dy r]=(es++[r]).map dy from M8 es r,List.length_map];refine aG.go ((i+1,es++[r])) [0,2,8,9,10,23,24,25] (by exact vT) ?_ ?_
  ·show fl.length - (i+1)<fl.length - i;omega
  ·exact ⟨hi,e1.symm⟩
 ·rw [List.take_of_length_le hi] at h2;rw [←h2] at r2;(refine' zg)
  refine au.frz 0 rfl ?_;refine vR ?_;rw [List.take_of_length_le (by simp)];refine vC r2 ?_;(refine' zg)
  refine vL (lv:=[0,1,2,6,7,8,9,10,12,13,14,15,16,17,23,24,25,26,42,46,49,50,51,52,63,75,76,77]) ab (X9 ss fl) (fun x=>x.1≤fl.length∧x.2=du (fl.take x.1) (ss.take x.1)∧x.2.length≤17*x.1) (fun x=>fl.length - x.1) ((0,[])) (aC.nil 15 4<|(aC.go [13,15,49,50,51] (by exact vT) rfl)) ?_ ?_
  ·exact ⟨Nat.zero_le _,rfl,Nat.zero_le _⟩
  rintro ⟨q,out⟩ ⟨h3,h4,h5⟩;simp only at h3 h4 h5;rcases Nat.lt_or_ge q fl.length with hq|hq
  ·obtain ⟨x,hx⟩ : ∃x,fl[q]? = some x:=⟨_,List.getElem?_eq_getElem hq⟩
   obtain ⟨s,hs⟩ : ∃s,ss[q]? = some s:=⟨_,List.getElem?_eq_getElem (by omega)⟩
   have hws:=hs1 q x s hx hs;have e1:du (fl.take (q+1)) (ss.take (q+1))=out++ff x s:=by rw [ax hx,ax hs,oM _ _ _ _ (by rw [List.length_take,List.length_take];omega),←h4]
   obtain ⟨r,k,a⟩:=x;simp only at hws;by_cases h9:r=9
   ·rw [if_pos h9] at hws;(refine' uJ hx hs)
    rw [show out.map gN++[D.agg [dy r,iD k,D.lit (Value.int IntKind.i64 1),iD a]]=(out++[((r,k,1,a):Cl)]).map gN from eo out (r,k,1,a),List.length_map];refine vL (lv:=[0,1,2,6,7,8,9,10,12,13,14,15,16,17,23,24,25,26,42,46,49,50,51,52,63,75,76,77]) ab (Vc ss fl q (s - 1) (r,k,1,a)) (fun x=>x.1≤s - 1∧x.2=out++[((r,k,1,a):Cl)]++List.replicate x.1 ((32,4,1,a):Cl)) (fun x=>(s - 1) - x.1) ((0,out++[((r,k,1,a):Cl)])) ((aC.go [13,15,17,49,50,51,75,76] (by exact vT) rfl)) ?_ ?_
    ·exact ⟨Nat.zero_le _,by simp⟩
    rintro ⟨j,fs⟩ ⟨g1,g2⟩;simp only at g1 g2;have hfl:fs.length=out.length+1+j:=by rw [g2];simp;omega
    rcases Nat.lt_or_ge j (s - 1) with hj|hj
    ·(refine' zg)
     rw [show fs.map gN++[D.agg [D.lit (Value.int IntKind.i32 32),D.lit (Value.int IntKind.i64 4),D.lit (Value.int IntKind.i64 1),iD a]]=(fs++[((32,4,1,a):Cl)]).map gN from eo fs (32,4,1,a),List.length_map];refine aG.go ((j+1,fs++[((32,4,1,a):Cl)])) [13,15,17,49,50,51,75,76] (by exact vT) ?_ ?_
     ·show (s - 1) - (j+1)<(s - 1) - j;omega
     ·exact ⟨hj,by rw [g2,List.replicate_succ',←List.append_assoc]⟩
    ·obtain rfl:j=s - 1:=by omega
     have e4:fs=du (fl.take (q+1)) (ss.take (q+1)):=by rw [e1,g2,ff];simp [h9]
     (refine' zg)
     refine aG.go ((q+1,fs)) [13,15,49,50,51] (by exact vT) ?_ ?_
     ·show fl.length - (q+1)<fl.length - q;omega
     ·exact ⟨hq,e4,by simp only;omega⟩
   ·rw [if_neg h9] at hws;(refine' uJ hx hs)
    rw [show out.map gN++[D.agg [dy r,iD k,nk s,iD a]]=(out++[((r,k,s,a):Cl)]).map gN from eo out (r,k,s,a),List.length_map];refine vL (lv:=[0,1,2,6,7,8,9,10,12,13,14,15,16,17,23,24,25,26,42,46,49,50,51,52,63,75,76,77]) ab (Vc ss fl q (s - s) (r,k,s,a)) (fun x=>x.1≤s - s∧x.2=out++[((r,k,s,a):Cl)]++List.replicate x.1 ((32,4,1,a):Cl)) (fun x=>(s - s) - x.1) ((0,out++[((r,k,s,a):Cl)])) ((aC.go [13,15,17,49,50,51,75,76] (by exact vT) rfl)) ?_ ?_
    ·exact ⟨Nat.zero_le _,by simp⟩
    rintro ⟨j,fs⟩ ⟨g1,g2⟩;simp only at g1 g2;have hfl:fs.length=out.length+1+j:=by rw [g2];simp;omega
    rcases Nat.lt_or_ge j (s - s) with hj|hj
    ·omega
    ·obtain rfl:j=s - s:=by omega
     have e4:fs=du (fl.take (q+1)) (ss.take (q+1)):=by rw [e1,g2,ff];simp [h9]
     (refine' zg)
     refine aG.go ((q+1,fs)) [13,15,49,50,51] (by exact vT) ?_ ?_
     ·show fl.length - (q+1)<fl.length - q;omega
     ·exact ⟨hq,e4,by simp only;omega⟩
  ·rw [List.take_of_length_le hq,List.take_of_length_le (by omega)] at h4;subst h4;(refine' zg)
   refine ae.frz 0 (ae.out ?_);(refine' zg)
   rw [List.take_of_length_le (by simp)]
end Go.Proofs.YtkkanlcjjpoklaaGreatDoor
