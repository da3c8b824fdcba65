/- What the theorem leans on, part 28. -/
import Derived.Test.YtkkanlcjjpoklaaGreatDoorStVPAE
import Derived.Test.YtkkanlcjjpoklaaGreatDoorStVPBA
set_option linter.unusedSimpArgs false
set_option linter.unusedVariables false
set_option maxRecDepth 8000
namespace Go.Proofs.YtkkanlcjjpoklaaGreatDoor
abbrev rgD (x:Int × Int):D:= .agg [.lit (.int .i32 x.1),.lit (.int .i32 x.2)]
abbrev Tr (l:List (Int × Int)):D:= .sd 2 false (l.map rgD)
abbrev wo (z w:List (Int × Int)):D:= .pd 2 [.agg [Tr z,Tr w]] 0 0
structure lF (l:List (Int × Int)):Prop where
 len:l.length≤1000
 one : ∀x∈l,x.1≤x.2
 two : ∀(i j:Nat) x y,i<j→l[i]? = some x→l[j]? = some y→x.2<y.1
theorem Gc {l:List (Int × Int)} {r:Int} {x:Int × Int} (h:x∈l) (h1:x.1≤r) (h2:r≤x.2):H8 l r=true:=by
 unfold H8;exact List.any_eq_true.2 ⟨x,h,by simpa using ⟨h1,h2⟩⟩
theorem Lh {l:List (Int × Int)} {r:Int} (h : ∀(i:Nat) x,l[i]? = some x→x.2<r∨r<x.1):H8 l r=false:=by
 cases hb:H8 l r with
 | false=>rfl
 | true=>
  unfold H8 at hb;obtain ⟨x,hx,h1⟩:=List.any_eq_true.1 hb;obtain ⟨i,hi⟩:=ab6 hx;have:=h i x hi;simp at h1;omega
def WN (l:List (Int × Int)) (r:Int) (x:Nat × Nat):St:=⟨[(0,.d (Tr l)),(1,.d (dm r)),(5,iv x.1),(6,iv x.2),(7,bv false)],[],0⟩
attribute [push_cast] WN.eq_def
set_option maxHeartbeats 1600000 in
theorem Qx (l:List (Int × Int)) (hl:lF l) (r:Int):ap Tryz.prog G0 285 [.d (Tr l),.d (dm r)] [] 0 (bv (H8 l r)) []:=by
 have hll:=hl.len;refine vF ab [0,1,4,5,6,7,8,13,18,27] Tryz.func285 rfl Tryz.results285 Tryz.ntmps285 ?_;(refine' zg)
 refine vL (lv:=[0,1,4,5,6,7,8,13,18,27]) ab (WN l r) (fun x=>x.1≤x.2∧x.2≤l.length∧(∀(j:Nat) y,j<x.1→l[j]? = some y→y.2<r)∧(∀(j:Nat) y,x.2≤j→l[j]? = some y→r<y.1)) (fun x=>x.2 - x.1) ((0,l.length)) ((aC.go [0,1,5,6,7] (by exact vT) rfl)) ?_ ?_
 ·exact ⟨aa1 _,aaV _,fun j y h=>absurd h (aea _),fun j y h hj=>by rw [abz h] at hj;cases hj⟩
 rintro ⟨lo,hi⟩ ⟨h1,h2,h3,h4⟩;simp only at h1 h2 h3 h4;rcases aa2 lo hi with hlt|hge
 ·obtain ⟨x,hx⟩ : ∃x,l[(lo+hi) / 2]? = some x:=⟨_,IO (by omega)⟩
  have hm:=aa0 hx;obtain ⟨a,b⟩:=x;(repeat' (first|(with_reducible refine aF.is ((lo+hi) / 2) _ (by omega) hx ?_)|with_reducible refine ae.out ?_|(refine' cP)|fail))
  ·refine aG.go ((lo,(lo+hi) / 2)) [0,1,5,6,7] (by exact vT) ?_ ?_
   ·show (lo+hi) / 2 - lo<hi - lo;omega
   ·refine ⟨by show lo≤(lo+hi) / 2;omega,by show (lo+hi) / 2≤l.length;omega,h3,fun j y hj hy =>?_⟩;have h1:=hl.one _ hm;rcases Nat.lt_or_eq_of_le hj with hj|hj
    ·have:=hl.two _ _ _ _ hj hx hy;simp only at h1 this;omega
    ·simp only at hj;rw [←hj,hx] at hy;injection hy with hy;subst hy;assumption
  ·refine aG.go (((lo+hi) / 2+1,hi)) [0,1,5,6,7] (by exact vT) ?_ ?_
   ·show hi - ((lo+hi) / 2+1)<hi - lo;omega
   ·refine ⟨by show (lo+hi) / 2+1≤hi;omega,h2,fun j y hj hy =>?_,h4⟩;simp only at hj;rcases aa2 j ((lo+hi) / 2) with hj'|hj'
    ·have:=hl.two _ _ _ _ hj' hy hx;have h1:=hl.one _ hm;simp only at h1 this;omega
    ·obtain rfl:j=(lo+hi) / 2:=by omega
     rw [hx] at hy;injection hy with hy;subst hy;assumption
  ·rw [Gc hm (by simp only;omega) (by simp only;omega)]
 ·(refine' zo)
  rw [Lh fun i x hx =>?_];rcases aa2 i lo with hi'|hi'
  ·exact .inl (h3 i x hi' hx)
  ·exact .inr (h4 i x (by omega) hx)
theorem P9 (z w:List (Int × Int)) (hz:lF z) (hw:lF w) (r:Int):ap Tryz.prog G0 281 [.d (wo z w),.d (dm r)] [] 0 (iv (P2 z w r)) []:=by
 have r1:=Qx z hz r;have r2:=Qx w hw r;unfold P2;cases hzr:H8 z r;all_goals cases hwr:H8 w r
 all_goals
  rw [hzr] at r1;rw [hwr] at r2;refine vF ab [0,1,4,5,8,15] Tryz.func281 rfl Tryz.results281 Tryz.ntmps281 ?_;(refine' uR r1 r2)
 all_goals rfl
theorem PF (z w:List (Int × Int)) (hz:lF z) (hw:lF w) (r:Int) (tab a:Nat) (ht:1≤tab∧tab≤16) (ha:a≤100000000):ap Tryz.prog G0 275 [.d (wo z w),.d (dm r),iv tab,iv a] [] 0 (iv (og z w tab a r)) []:=by
 have r1:=P9 z w hz hw r;unfold og;by_cases h9:r=9
 ·rw [aa3 h9];refine vF ab [0,1,2,3,8,9,15] Tryz.func275 rfl Tryz.results275 Tryz.ntmps275 ?_;have hm:=adm a (show tab > 0 by omega);have e:((a % tab:Nat):Int)=(a:Int) % (tab:Int):=rfl;(repeat' (first|with_reducible refine vC (r1) ?_|with_reducible refine ae.out ?_|(refine' cP)|fail))
  ·rw [aa3 (by omega)];rfl
  ·rw [←e,aaY (by omega)];congr 1;omega
 ·rw [aaY h9];refine vF ab [0,1,2,3,8,9,15] Tryz.func275 rfl Tryz.results275 Tryz.ntmps275 ?_;(refine' lK r1)
abbrev od (n:Nat):D:= .lit (.int .i64 n)
abbrev Jd (l:List Nat):bN:= .row 1 (l.map od)
theorem nW (l:List Nat) (n:Nat):l.map od++[od n]=(l++[n]).map od:=by rw [abc];rfl
theorem PL (rs:List Int) (hrs:rs.length≤10000000) (out:List Nat) (ho:out.length≤10000000) (i n:Nat) (a:Int) (hi:i<rs.length) :
 ap Tryz.prog G0 258 [iv i,iv a,iv n,.po 0 0,.po 1 0] [(0,.cell [.d (.sd 1 false (rs.map dm))]),(1,.cell [.so 2 1 0 out.length]),(2,Jd out)] 3 (bv true)
  [(0,.cell [.d (.sd 1 false (rs.map dm))]),(1,.cell [.so 3 1 0 (out.length+1)]),(3,Jd (out++[n]))]:=by
 refine vF ab [0,2,3,4,8,12] Tryz.func258 rfl Tryz.results258 Tryz.ntmps258 ?_;(refine' zg)
 rw [show out.map od++[D.lit (Value.int IntKind.i64 (n:Int))]=(out++[n]).map od from nW out n,aa4,Or];refine ae.now [35] (by decide) ?_;(refine' zg)
 exact ar.cons rfl (ar.cons rfl (ar.cons rfl ar.nil))
theorem PM (rs:List Int) (hrs:rs.length≤10000000) (out:List Nat) (n:Nat) (a:Int) :
 ap Tryz.prog G0 258 [iv rs.length,iv a,iv n,.po 0 0,.po 1 0] [(0,.cell [.d (.sd 1 false (rs.map dm))]),(1,.cell [.so 2 1 0 out.length]),(2,Jd out)] 3 (bv true)
  [(0,.cell [.d (.sd 1 false (rs.map dm))]),(1,.cell [.so 2 1 0 out.length]),(2,Jd out)]:=by
 refine vF ab [0,2,3,4,8,12] Tryz.func258 rfl Tryz.results258 Tryz.ntmps258 ?_;(refine' zg)
 refine ae.now [] (by decide) ?_;(refine' zg)
 exact aj _
def Qu (z w:List (Int × Int)) (tab:Nat) (rs:List Int) (x:Nat × Nat × List Nat):St:=
 ⟨[(0,.d (wo z w)),(1,.d (.sd 1 false (rs.map dm))),(2,iv tab),(3,.fn 258 [.po 0 0,.po 1 0]),(8,iv x.2.1),(12,.d (.sd 1 false (rs.map dm))),(13,iv rs.length),(14,iv x.1)],
  [(0,.cell [.d (.sd 1 false (rs.map dm))]),(1,.cell [.so 2 1 0 x.2.2.length]),(2,Jd x.2.2)],3⟩
attribute [push_cast] Qu.eq_def
set_option maxHeartbeats 1600000 in
theorem N8 (z w:List (Int × Int)) (hz:lF z) (hw:lF w) (tab:Nat) (ht:1≤tab∧tab≤16) (rs:List Int) (hrs:rs.length≤4000000) :
 ap Tryz.prog G0 257 [.d (wo z w),.d (.sd 1 false (rs.map dm)),iv tab,.fn 258 [.po 0 0,.po 1 0]] [(0,.cell [.d (.sd 1 false (rs.map dm))]),(1,.cell [.d (.lit (.slice none 0 0))])] 2 (.tup [])
  [(0,.cell [.d (.sd 1 false (rs.map dm))]),(1,.cell [.so 2 1 0 rs.length]),(2,Jd (qC z w tab 0 rs))]:=by
 have hlz:=lC z w tab;refine vF ab [0,1,2,3,8,9,10,11,12,13,14,15,29] Tryz.func257 rfl Tryz.results257 Tryz.ntmps257 ?_;(refine' zg)
 refine vL (lv:=[0,1,2,3,8,9,10,11,12,13,14,15,29]) ab (Qu z w tab rs) (fun x=>x.1≤rs.length∧x.2.1=m9 z w tab 0 (rs.take x.1)∧x.2.2=qC z w tab 0 (rs.take x.1)) (fun x=>rs.length - x.1) ((0,0,[])) (aC.nilC 1 0 1<|(aC.go [0,1,2,3,8,12,13,14] (by exact vT) rfl)) ?_ ?_
 ·exact ⟨aa1 _,rfl,rfl⟩
 rintro ⟨i,a,out⟩ ⟨h1,h2,h3⟩;simp only at h1 h2 h3;have hal:=yG (z:=z) (w:=w) ht.1 ht.2 (rs.take i) 0;rw [←h2,aa7] at hal;have hol:out.length=i:=by rw [h3,hlz,aa7];omega
 rcases aa2 i rs.length with hi|hi
 ·obtain ⟨r,hr⟩ : ∃r,rs[i]? = some r:=⟨_,IO hi⟩
  have r1:=PF z w hz hw r tab a ht (by omega);have hle:=uy (z:=z) (w:=w) (a:=a) (r:=r) ht.1 ht.2;have r2:=PL rs (by omega) out (by omega) i (og z w tab a r) a hi;have e1:m9 z w tab 0 (rs.take (i+1))=a+og z w tab a r:=by rw [ao hr,oC,←h2]
  have e2:qC z w tab 0 (rs.take (i+1))=out++[og z w tab a r]:=by rw [ao hr,uu,←h2,←h3]
  generalize og z w tab a r=n at *
  (refine' pD r1 hr)
  refine au.ofN [0,1,2] r2 ?_;(refine' zg)
  rw [show out.length+1=(out++[n]).length by rw [Or];rfl];refine aG.go ((i+1,a+n,out++[n])) [0,1,2,3,8,12,13,14] (by exact vT) ?_ ?_
  ·show rs.length - (i+1)<rs.length - i;omega
  ·exact ⟨hi,e1.symm,e2.symm⟩
 ·obtain rfl:i=rs.length:=by omega
  rw [abC] at h2 h3;have r3:=PM rs (by omega) out 0 a;(refine' zg)
  refine au.ofN [0,1,2] r3 ?_;(refine' zg)
  subst h3;refine ae.now [2] (by decide) ?_;(refine' zg)
  rw [hlz];exact aj _
theorem Jj (tab:Int):ap Tryz.prog G0 256 [iv tab] [] 0 (bv (decide (1≤tab)&&decide (tab≤16))) []:=by
 refine vF ab [0,2] Tryz.func256 rfl Tryz.results256 Tryz.ntmps256 ?_;(refine' zo)
theorem JV (z w:List (Int × Int)) (hz:lF z) (hw:lF w) (tab:Nat) (ht:1≤tab∧tab≤16) (rs:List Int) (hrs:rs.length≤4000000) :
 ap Tryz.prog G0 221 [.d (wo z w),.d (.sd 1 false (rs.map dm)),iv tab] [] 0 (.tup [.d (.sd 1 false ((qC z w tab 0 rs).map od)),iv 0]) []:=by
 have r1:=Jj tab;have r2:=N8 z w hz hw tab ht rs hrs;rw [abw (by omega),abw (by omega)] at r1;have hlz:=lC z w tab rs 0;generalize qC z w tab 0 rs=ss at *
 rw [←hlz] at r2;refine vF ab [0,1,2,4,6,7,8,11] Tryz.func221 rfl Tryz.results221 Tryz.ntmps221 ?_;(refine' fq r1)
 refine au.ofN [0,24] r2 ?_;(refine' zg)
 refine ae.frz 44 (ae.out ?_);(refine' zg)
 all_goals (try rw [aaW (by simp)])
abbrev iL (c:Cl):D:= .agg [dm c.1,iD c.2.1,iD c.2.2.1,iD c.2.2.2]
abbrev dM (l:List Cl):V:= .d (.sd 4 false (l.map iL))
abbrev Qp (l:List Cl):bN:= .row 4 (l.map iL)
theorem eM (l:List Cl) (c:Cl):l.map iL++[iL c]=(l++[c]).map iL:=by rw [abc];rfl
theorem mM (c:Cl):ap Tryz.prog G0 276 [.d (iL c)] [] 0 (bv (bU c)) []:=by
 obtain ⟨r,k,w,a⟩:=c;unfold bU;refine vF ab [0,1,2] Tryz.func276 rfl Tryz.results276 Tryz.ntmps276 ?_;(refine' zo)
def XR (l:List Cl) (i:Nat):St:=⟨[(0,dM l),(3,iv (dH (l.take i))),(6,dM l),(7,iv l.length),(8,iv i)],[],0⟩
attribute [push_cast] XR.eq_def
theorem Ho (l:List Cl) (hl:l.length≤100000000) (hw : ∀c∈l,cw c≤2):ap Tryz.prog G0 167 [dM l] [] 0 (iv (dH l)) []:=by
 refine vF ab [0,2,3,5,6,7,8,9] Tryz.func167 rfl Tryz.results167 Tryz.ntmps167 ?_;(refine' zg)
 refine vL (lv:=[0,2,3,5,6,7,8,9]) ab (XR l) (fun i=>i≤l.length) (fun i=>l.length - i) (0) ((aC.go [0,3,6,7,8] (by exact vT) rfl)) ?_ ?_
 ·exact aa1 _
 intro i hi;have hb:=iB (l:=l.take i) (fun c hc=>hw c (abm hc));rw [aa7] at hb;rcases aa2 i l.length with hk|hk
 ·obtain ⟨c,hc⟩ : ∃c,l[i]? = some c:=⟨_,IO hk⟩
  have h2:=hw c (aa0 hc);have e:=kR l hc;obtain ⟨r,k,w,a⟩:=c;simp only [cw] at h2 e;(refine' jY hc)
  rw [show ((dH (l.take i):Nat):Int)+(w:Int)=(dH (l.take (i+1)):Nat) by omega];refine aG.go (i+1) [0,3,6,7,8] (by exact vT) ?_ ?_
  ·show l.length - (i+1)<l.length - i;omega
  ·show i+1≤l.length;omega
 ·obtain rfl:i=l.length:=by omega
  rw [XR,abC];(refine' zo)
abbrev Hk (x:Int × Int × Int):D:= .agg [dm x.1,iD x.2.1,iD 0,iD x.2.2]
theorem zG (l:List (Int × Int × Int)) (x:Int × Int × Int):l.map Hk++[Hk x]=(l++[x]).map Hk:=by rw [abc];rfl
def T2 (ps:List Pz) (x:Nat × List (Int × Int × Int)):St:=⟨[(4,.so 0 4 0 x.2.length),(10,.d (.sd 3 false (ps.map iA))),(11,iv ps.length),(12,iv x.1)],[(0,.row 4 (x.2.map Hk))],1⟩
def RL (ps:List Pz) (i:Nat) (k a st:Int) (rs:List Int) (x:Nat × List (Int × Int × Int)):St:=
 ⟨[(4,.so 0 4 0 x.2.length),(6,.po 1 0),(7,iv st),(10,.d (.sd 3 false (ps.map iA))),(11,iv ps.length),(12,iv i),(25,.d (.sd 1 false (rs.map dm))),(26,iv rs.length),(27,iv x.1)],
  [(0,.row 4 (x.2.map Hk)),(1,.cell [iv k,iv a,.d (.sd 1 false (rs.map dm))])],2⟩
attribute [push_cast] T2.eq_def RL.eq_def
structure Ny (ps:List Pz):Prop where
 len:ps.length≤1000000
 kd : ∀k a rs,Pz.tx k a rs∈ps→(k=1∨k=2)∧0≤a∧a≤100000000∧rs.length≤10000000
 pl : ∀a,Pz.fo a∈ps→0≤a∧a≤100000000
 all:(aI ps).length≤10000000
set_option maxHeartbeats 3200000 in
theorem Ow (ps:List Pz) (h:Ny ps):ap Tryz.prog G0 220 [.d (.sd 3 false (ps.map iA))] [] 0 (.tup [.d (.sd 4 false ((aI ps).map Hk)),bv true]) []:=by
 have hpl:=h.len;refine vF ab [0,2,3,4,6,7,8,9,10,11,12,13,17,18,20,22,25,26,27,28] Tryz.func220 rfl Tryz.results220 Tryz.ntmps220 ?_;(refine' zg)
 refine vL (lv:=[0,2,3,4,6,7,8,9,10,11,12,13,17,18,20,22,25,26,27,28]) ab (T2 ps) (fun x=>x.1≤ps.length∧x.2=aI (ps.take x.1)) (fun x=>ps.length - x.1) ((0,[])) (aC.nil 4 4<|(aC.go [4,10,11,12] (by exact vT) rfl)) ?_ ?_
 ·exact ⟨aa1 _,rfl⟩
 rintro ⟨i,es⟩ ⟨h1,h2⟩;simp only at h1 h2;rcases aa2 i ps.length with hi|hi
 ·obtain ⟨z,hz⟩ : ∃z,ps[i]? = some z:=⟨_,IO hi⟩
  have hzm:=aa0 hz;have e1:aI (ps.take (i+1))=es++dp z:=by rw [ao hz,bc,eg,←h2]
  have hel:=wS ps (i+1);rw [e1,Or] at hel;have hall:=h.all;cases z with
  | tx k a rs=>
   obtain ⟨hk,ha0,ha1,hrl⟩:=h.kd k a rs hzm;rw [dp,iW] at hel;rcases hk with rfl|rfl
   ·(refine' jY hz)
    refine vL (lv:=[0,2,3,4,6,7,8,9,10,11,12,13,17,18,20,22,25,26,27,28]) ab (RL ps i 1 a 1 rs) (fun x=>x.1≤rs.length∧x.2=es++dR 1 1 a (rs.take x.1)) (fun x=>rs.length - x.1) ((0,es)) ((aC.go [4,6,7,10,11,12,25,26,27] (by exact vT) rfl)) ?_ ?_
    ·exact ⟨aa1 _,by simp [dR]⟩
    rintro ⟨j,fs⟩ ⟨g1,g2⟩;simp only at g1 g2;have hfl:fs.length=es.length+j:=by rw [g2,Or,iW,aa7];omega
    rcases aa2 j rs.length with hj|hj
    ·obtain ⟨r,hr⟩ : ∃r,rs[j]? = some r:=⟨_,IO hj⟩
     have e3:es++dR 1 1 a (rs.take (j+1))=fs++[(r,1,a+1*j)]:=by
      rw [ao hr,jr,←aba,←g2,aa7];congr 4;omega
     (refine' jY hr)
     rw [show fs.map Hk++[D.agg [dm r,D.lit (Value.int IntKind.i64 1),D.lit (Value.int IntKind.i64 0),D.lit (Value.int IntKind.i64 (a+1*(j:Int)))]]=(fs++[(r,1,a+1*j)]).map Hk from zG fs (r,1,a+1*j),aa4];refine aG.go ((j+1,fs++[(r,1,a+1*j)])) [4,6,7,10,11,12,25,26,27] (by exact vT) ?_ ?_
     ·show rs.length - (j+1)<rs.length - j;omega
     ·exact ⟨hj,e3.symm⟩
    ·rw [aaW hj] at g2;(refine' zg)
     have e4:fs=aI (ps.take (i+1)):=by rw [e1,g2];rfl
     refine aG.go ((i+1,fs)) [4,10,11,12] (by exact vT) ?_ ?_
     ·show ps.length - (i+1)<ps.length - i;omega
     ·exact ⟨hi,e4⟩
   ·(refine' jY hz)
    refine vL (lv:=[0,2,3,4,6,7,8,9,10,11,12,13,17,18,20,22,25,26,27,28]) ab (RL ps i 2 a 0 rs) (fun x=>x.1≤rs.length∧x.2=es++dR 2 0 a (rs.take x.1)) (fun x=>rs.length - x.1) ((0,es)) ((aC.go [4,6,7,10,11,12,25,26,27] (by exact vT) rfl)) ?_ ?_
    ·exact ⟨aa1 _,by simp [dR]⟩
    rintro ⟨j,fs⟩ ⟨g1,g2⟩;simp only at g1 g2;have hfl:fs.length=es.length+j:=by rw [g2,Or,iW,aa7];omega
    rcases aa2 j rs.length with hj|hj
    ·obtain ⟨r,hr⟩ : ∃r,rs[j]? = some r:=⟨_,IO hj⟩
     have e3:es++dR 2 0 a (rs.take (j+1))=fs++[(r,2,a+0*j)]:=by
      rw [ao hr,jr,←aba,←g2,aa7];congr 4;omega
     (refine' jY hr)
     rw [show fs.map Hk++[D.agg [dm r,D.lit (Value.int IntKind.i64 2),D.lit (Value.int IntKind.i64 0),D.lit (Value.int IntKind.i64 (a+0*(j:Int)))]]=(fs++[(r,2,a+0*j)]).map Hk from zG fs (r,2,a+0*j),aa4];refine aG.go ((j+1,fs++[(r,2,a+0*j)])) [4,6,7,10,11,12,25,26,27] (by exact vT) ?_ ?_
     ·show rs.length - (j+1)<rs.length - j;omega
     ·exact ⟨hj,e3.symm⟩
    ·rw [aaW hj] at g2;(refine' zg)
     have e4:fs=aI (ps.take (i+1)):=by rw [e1,g2];rfl
     refine aG.go ((i+1,fs)) [4,10,11,12] (by exact vT) ?_ ?_
     ·show ps.length - (i+1)<ps.length - i;omega
     ·exact ⟨hi,e4⟩
  | fo a=>
   obtain ⟨ha0,ha1⟩:=h.pl a hzm;rw [dp,abk] at hel;(refine' jY hz)
   rw [show es.map Hk++[D.agg [D.lit (Value.int IntKind.i32 8230),iD 3,D.lit (Value.int IntKind.i64 0),iD a]]=(es++[(8230,3,a)]).map Hk from zG es (8230,3,a),aa4];refine aG.go ((i+1,es++[(8230,3,a)])) [4,10,11,12] (by exact vT) ?_ ?_
   ·show ps.length - (i+1)<ps.length - i;omega
   ·exact ⟨hi,e1.symm⟩
 ·rw [aaW hi] at h2;subst h2;(refine' zg)
  refine ae.frz 0 (ae.out ?_);(refine' zg)
  all_goals (try rw [aaW (by simp)])
abbrev W1 (fl:List (Int × Int × Int)):D:= .sd 4 false (fl.map Hk)
def ofA (z w:List (Int × Int)) (tab:Nat) (fl:List (Int × Int × Int)) (x:Nat × List Int):St:=
 ⟨[(0,.d (wo z w)),(2,iv tab),(8,.d (W1 fl)),(9,bv true),(10,.so 0 1 0 x.2.length),(23,.d (W1 fl)),(24,iv fl.length),(25,iv x.1)],[(0,.row 1 (x.2.map dm))],1⟩
def ofB (ss:List Nat) (fl:List (Int × Int × Int)) (x:Nat × List Cl):St:=
 ⟨[(13,.d (.sd 1 false (ss.map od))),(15,.so 0 4 0 x.2.length),(49,.d (W1 fl)),(50,iv fl.length),(51,iv x.1)],[(0,Qp x.2)],1⟩
def Yc (ss:List Nat) (fl:List (Int × Int × Int)) (i m:Nat) (c:Cl) (x:Nat × List Cl):St:=
 ⟨[(13,.d (.sd 1 false (ss.map od))),(15,.so 0 4 0 x.2.length),(17,.po 1 0),(49,.d (W1 fl)),(50,iv fl.length),(51,iv i),(75,iv m),(76,iv x.1)],
  [(0,Qp x.2),(1,.cell [.d (dm c.1),iv c.2.1,iv c.2.2.1,iv c.2.2.2])],2⟩
attribute [push_cast] ofA.eq_def ofB.eq_def Yc.eq_def
theorem PC (l:List Int) (r:Int):l.map dm++[dm r]=(l++[r]).map dm:=by rw [abc];rfl
set_option maxHeartbeats 6400000 in
theorem Rh (z w:List (Int × Int)) (hz:lF z) (hw:lF w) (tab:Nat) (ht:1≤tab∧tab≤16) (ps:List Pz) (h:Ny ps) (hl:(aI ps).length≤4000000) :
 ap Tryz.prog G0 163 [.d (wo z w),.d (.sd 3 false (ps.map iA)),iv tab] [] 0 (.tup [dM (b7 z w tab 0 (aI ps)),iv 0]) []:=by
 have r1:=Ow ps h;have r2:=JV z w hz hw tab ht ((aI ps).map (·.1)) (by rw [aa4];exact hl);have hcR:=rJ z w tab (aI ps) 0;have hsl:=lC z w tab ((aI ps).map (·.1)) 0;have hs1 : ∀(i:Nat) (x:Int × Int × Int) (s:Nat),(aI ps)[i]? = some x→(qC z w tab 0 ((aI ps).map (·.1)))[i]? = some s→(if x.1=9 then 1 else s)≤s∧s≤16:=Ff ht _ 0;rw [aa4] at hsl;rw [←hcR];generalize aI ps=fl at *
 generalize qC z w tab 0 (fl.map (·.1))=ss at *
 refine vF ab [0,1,2,6,7,8,9,10,12,13,14,15,16,17,23,24,25,26,42,46,49,50,51,52,63,75,76,77] Tryz.func163 rfl Tryz.results163 Tryz.ntmps163 ?_;(refine' fq r1)
 refine vL (lv:=[0,1,2,6,7,8,9,10,12,13,14,15,16,17,23,24,25,26,42,46,49,50,51,52,63,75,76,77]) ab (ofA z w tab fl) (fun x=>x.1≤fl.length∧x.2=(fl.take x.1).map (·.1)) (fun x=>fl.length - x.1) ((0,[])) (aC.nil 10 1<|(aC.go [0,2,8,9,10,23,24,25] (by exact vT) rfl)) ?_ ?_
 ·exact ⟨aa1 _,rfl⟩
 rintro ⟨i,es⟩ ⟨h1,h2⟩;simp only at h1 h2;have hel:es.length=i:=by rw [h2,aa4,aa7];omega
 rcases aa2 i fl.length with hi|hi
 ·obtain ⟨x,hx⟩ : ∃x,fl[i]? = some x:=⟨_,IO hi⟩
  have e1:(fl.take (i+1)).map (·.1)=es++[x.1]:=by rw [ao hx,abc,←h2];rfl
  obtain ⟨r,k,a⟩:=x;(refine' jY hx)
  rw [show es.map dm++[dm r]=(es++[r]).map dm from PC es r,aa4];refine aG.go ((i+1,es++[r])) [0,2,8,9,10,23,24,25] (by exact vT) ?_ ?_
  ·show fl.length - (i+1)<fl.length - i;omega
  ·exact ⟨hi,e1.symm⟩
 ·rw [aaW hi] at h2;rw [←h2] at r2;(refine' zg)
  refine au.frz 0 rfl ?_;refine vR ?_;rw [aaW (by simp)];refine vC r2 ?_;(refine' zg)
  refine vL (lv:=[0,1,2,6,7,8,9,10,12,13,14,15,16,17,23,24,25,26,42,46,49,50,51,52,63,75,76,77]) ab (ofB ss fl) (fun x=>x.1≤fl.length∧x.2=dK (fl.take x.1) (ss.take x.1)∧x.2.length≤17*x.1) (fun x=>fl.length - x.1) ((0,[])) (aC.nil 15 4<|(aC.go [13,15,49,50,51] (by exact vT) rfl)) ?_ ?_
  ·exact ⟨aa1 _,rfl,aa1 _⟩
  rintro ⟨q,out⟩ ⟨h3,h4,h5⟩;simp only at h3 h4 h5;rcases aa2 q fl.length with hq|hq
  ·obtain ⟨x,hx⟩ : ∃x,fl[q]? = some x:=⟨_,IO hq⟩
   obtain ⟨s,hs⟩ : ∃s,ss[q]? = some s:=⟨_,IO (by omega)⟩
   have hws:=hs1 q x s hx hs;have e1:dK (fl.take (q+1)) (ss.take (q+1))=out++fO x s:=by rw [ao hx,ao hs,pK _ _ _ _ (by rw [aa7,aa7];omega),←h4]
   obtain ⟨r,k,a⟩:=x;simp only at hws;by_cases h9:r=9
   ·rw [aa3 h9] at hws;(refine' wt hx hs)
    rw [show out.map iL++[D.agg [dm r,iD k,D.lit (Value.int IntKind.i64 1),iD a]]=(out++[((r,k,1,a):Cl)]).map iL from eM out (r,k,1,a),aa4];refine vL (lv:=[0,1,2,6,7,8,9,10,12,13,14,15,16,17,23,24,25,26,42,46,49,50,51,52,63,75,76,77]) ab (Yc ss fl q (s - 1) (r,k,1,a)) (fun x=>x.1≤s - 1∧x.2=out++[((r,k,1,a):Cl)]++List.replicate x.1 ((32,4,1,a):Cl)) (fun x=>(s - 1) - x.1) ((0,out++[((r,k,1,a):Cl)])) ((aC.go [13,15,17,49,50,51,75,76] (by exact vT) rfl)) ?_ ?_
    ·exact ⟨aa1 _,by simp⟩
    rintro ⟨j,fs⟩ ⟨g1,g2⟩;simp only at g1 g2;have hfl:fs.length=out.length+1+j:=by rw [g2];simp;omega
    rcases aa2 j (s - 1) with hj|hj
    ·(refine' zg)
     rw [show fs.map iL++[D.agg [D.lit (Value.int IntKind.i32 32),D.lit (Value.int IntKind.i64 4),D.lit (Value.int IntKind.i64 1),iD a]]=(fs++[((32,4,1,a):Cl)]).map iL from eM fs (32,4,1,a),aa4];refine aG.go ((j+1,fs++[((32,4,1,a):Cl)])) [13,15,17,49,50,51,75,76] (by exact vT) ?_ ?_
     ·show (s - 1) - (j+1)<(s - 1) - j;omega
     ·exact ⟨hj,by rw [g2,acr,←aba]⟩
    ·obtain rfl:j=s - 1:=by omega
     have e4:fs=dK (fl.take (q+1)) (ss.take (q+1)):=by rw [e1,g2,fO];simp [h9]
     (refine' zg)
     refine aG.go ((q+1,fs)) [13,15,49,50,51] (by exact vT) ?_ ?_
     ·show fl.length - (q+1)<fl.length - q;omega
     ·exact ⟨hq,e4,by simp only;omega⟩
   ·rw [aaY h9] at hws;(refine' wt hx hs)
    rw [show out.map iL++[D.agg [dm r,iD k,od s,iD a]]=(out++[((r,k,s,a):Cl)]).map iL from eM out (r,k,s,a),aa4];refine vL (lv:=[0,1,2,6,7,8,9,10,12,13,14,15,16,17,23,24,25,26,42,46,49,50,51,52,63,75,76,77]) ab (Yc ss fl q (s - s) (r,k,s,a)) (fun x=>x.1≤s - s∧x.2=out++[((r,k,s,a):Cl)]++List.replicate x.1 ((32,4,1,a):Cl)) (fun x=>(s - s) - x.1) ((0,out++[((r,k,s,a):Cl)])) ((aC.go [13,15,17,49,50,51,75,76] (by exact vT) rfl)) ?_ ?_
    ·exact ⟨aa1 _,by simp⟩
    rintro ⟨j,fs⟩ ⟨g1,g2⟩;simp only at g1 g2;have hfl:fs.length=out.length+1+j:=by rw [g2];simp;omega
    rcases aa2 j (s - s) with hj|hj
    ·omega
    ·obtain rfl:j=s - s:=by omega
     have e4:fs=dK (fl.take (q+1)) (ss.take (q+1)):=by rw [e1,g2,fO];simp [h9]
     (refine' zg)
     refine aG.go ((q+1,fs)) [13,15,49,50,51] (by exact vT) ?_ ?_
     ·show fl.length - (q+1)<fl.length - q;omega
     ·exact ⟨hq,e4,by simp only;omega⟩
  ·rw [aaW hq,aaW (by omega)] at h4;subst h4;(refine' zg)
   refine ae.frz 0 (ae.out ?_);(refine' zg)
   rw [aaW (by simp)]
end Go.Proofs.YtkkanlcjjpoklaaGreatDoor
