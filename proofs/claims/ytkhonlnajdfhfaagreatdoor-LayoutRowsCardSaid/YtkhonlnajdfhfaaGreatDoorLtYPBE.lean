/- What the theorem leans on, part 31. -/
import Derived.Test.YtkhonlnajdfhfaaGreatDoorLtYPAE
import Derived.Test.YtkhonlnajdfhfaaGreatDoorLtYPBD
set_option linter.unusedSimpArgs false
set_option linter.unusedVariables false
set_option maxRecDepth 8000
namespace Go.Proofs.YtkhonlnajdfhfaaGreatDoor
abbrev rgD (x:Int × Int):D:= .agg [.lit (.int .i32 x.1),.lit (.int .i32 x.2)]
abbrev rgL (l:List (Int × Int)):D:= .sd 2 false (l.map rgD)
abbrev tbD (z w:List (Int × Int)):D:= .pd 2 [.agg [rgL z,rgL w]] 0 0
structure RgOk (l:List (Int × Int)):Prop where
 len:l.length≤1000
 one : ∀x∈l,x.1≤x.2
 two : ∀(i j:Nat) x y,i<j→l[i]? = some x→l[j]? = some y→x.2<y.1
theorem inR_yes {l:List (Int × Int)} {r:Int} {x:Int × Int} (h:x∈l) (h1:x.1≤r) (h2:r≤x.2):inR l r=true:=by
 unfold inR
 exact List.any_eq_true.2 ⟨x,h,by simpa using ⟨h1,h2⟩⟩
theorem inR_no {l:List (Int × Int)} {r:Int} (h : ∀(i:Nat) x,l[i]? = some x→x.2<r∨r<x.1):inR l r=false:=by
 cases hb:inR l r with
 | false=>rfl
 | true=>
  unfold inR at hb
  obtain ⟨x,hx,h1⟩:=List.any_eq_true.1 hb
  obtain ⟨i,hi⟩:=List.getElem?_of_mem hx
  have:=h i x hi
  simp at h1
  omega
def winS (l:List (Int × Int)) (r:Int) (x:Nat × Nat):St:=⟨[(0,.d (rgL l)),(1,.d (ruD r)),(5,iv x.1),(6,iv x.2),(7,bv false)],[],0⟩
attribute [push_cast] winS.eq_def
set_option maxHeartbeats 1600000 in
theorem in_fn (l:List (Int × Int)) (hl:RgOk l) (r:Int):OFn Tryz.prog G0 201 [.d (rgL l),.d (ruD r)] [] 0 (bv (inR l r)) []:=by
 have hll:=hl.len
 refine vF mixed [0,1,4,5,6,7,8,13,18,27] Tryz.func201 rfl Tryz.results201 Tryz.ntmps201 ?_
 (refine' zg)
 refine vL (lv:=[0,1,4,5,6,7,8,13,18,27]) mixed (winS l r) (fun x=>x.1≤x.2∧x.2≤l.length∧(∀(j:Nat) y,j<x.1→l[j]? = some y→y.2<r)∧(∀(j:Nat) y,x.2≤j→l[j]? = some y→r<y.1)) (fun x=>x.2 - x.1) ((0,l.length)) ((GhW.go [0,1,5,6,7] (by exact vT) rfl)) ?_ ?_
 ·exact ⟨Nat.zero_le _,Nat.le_refl _,fun j y h=>absurd h (Nat.not_lt_zero _),fun j y h hj=>by rw [List.getElem?_eq_none h] at hj;cases hj⟩
 rintro ⟨lo,hi⟩ ⟨h1,h2,h3,h4⟩
 simp only at h1 h2 h3 h4
 rcases Nat.lt_or_ge lo hi with hlt|hge
 ·obtain ⟨x,hx⟩ : ∃x,l[(lo+hi) / 2]? = some x:=⟨_,List.getElem?_eq_getElem (by omega)⟩
  have hm:=List.mem_of_getElem? hx
  obtain ⟨a,b⟩:=x
  (repeat' (first|(with_reducible first|exact True.intro|refine vD ?_|refine vG ?_|refine vE ?_)|(with_reducible refine elX.is ((lo+hi) / 2) _ (by omega) hx ?_)|with_reducible refine DoneW.out ?_|refine vR ?_|refine v3 ?_|with_reducible refine vN ?_|((with_reducible first|refine vB (fun h =>?_) (fun h =>?_)|refine vM (fun h =>?_) (fun h =>?_))<;>(first|(exfalso;omega)|skip))))
  ·refine AgW.go ((lo,(lo+hi) / 2)) [0,1,5,6,7] (by exact vT) ?_ ?_
   ·show (lo+hi) / 2 - lo<hi - lo
    omega
   ·refine ⟨by show lo≤(lo+hi) / 2;omega,by show (lo+hi) / 2≤l.length;omega,h3,fun j y hj hy =>?_⟩
    have h1:=hl.one _ hm
    rcases Nat.lt_or_eq_of_le hj with hj|hj
    ·have:=hl.two _ _ _ _ hj hx hy
     simp only at h1 this
     omega
    ·simp only at hj
     rw [←hj,hx] at hy;injection hy with hy;subst hy;assumption
  ·refine AgW.go (((lo+hi) / 2+1,hi)) [0,1,5,6,7] (by exact vT) ?_ ?_
   ·show hi - ((lo+hi) / 2+1)<hi - lo
    omega
   ·refine ⟨by show (lo+hi) / 2+1≤hi;omega,h2,fun j y hj hy =>?_,h4⟩
    simp only at hj
    rcases Nat.lt_or_ge j ((lo+hi) / 2) with hj'|hj'
    ·have:=hl.two _ _ _ _ hj' hy hx
     have h1:=hl.one _ hm
     simp only at h1 this
     omega
    ·obtain rfl:j=(lo+hi) / 2:=by omega
     rw [hx] at hy;injection hy with hy;subst hy;assumption
  ·rw [inR_yes hm (by simp only;omega) (by simp only;omega)]
 ·(refine' zo)
  rw [inR_no fun i x hx =>?_]
  rcases Nat.lt_or_ge i lo with hi'|hi'
  ·exact .inl (h3 i x hi' hx)
  ·exact .inr (h4 i x (by omega) hx)
theorem wtOf_fn (z w:List (Int × Int)) (hz:RgOk z) (hw:RgOk w) (r:Int):OFn Tryz.prog G0 193 [.d (tbD z w),.d (ruD r)] [] 0 (iv (wOf z w r)) []:=by
 have r1:=in_fn z hz r
 have r2:=in_fn w hw r
 unfold wOf
 cases hzr:inR z r
 all_goals cases hwr:inR w r
 all_goals
  rw [hzr] at r1
  rw [hwr] at r2
  refine vF mixed [0,1,4,5,8,15] Tryz.func193 rfl Tryz.results193 Tryz.ntmps193 ?_
  (refine' zo2 r1 r2)
 all_goals rfl
theorem stSz_fn (z w:List (Int × Int)) (hz:RgOk z) (hw:RgOk w) (r:Int) (tab a:Nat) (ht:1≤tab∧tab≤16) (ha:a≤100000000):OFn Tryz.prog G0 173 [.d (tbD z w),.d (ruD r),iv tab,iv a] [] 0 (iv (tbT z w tab a r)) []:=by
 have r1:=wtOf_fn z w hz hw r
 unfold tbT
 by_cases h9:r=9
 ·rw [if_pos h9]
  refine vF mixed [0,1,2,3,8,9,15] Tryz.func173 rfl Tryz.results173 Tryz.ntmps173 ?_
  have hm:=Nat.mod_lt a (show tab > 0 by omega)
  have e:((a % tab:Nat):Int)=(a:Int) % (tab:Int):=rfl
  (repeat' (first|(with_reducible first|exact True.intro|refine vD ?_|refine vG ?_|refine vE ?_)|with_reducible refine vC (r1) ?_|with_reducible refine DoneW.out ?_|refine vR ?_|refine v3 ?_|with_reducible refine vN ?_|((with_reducible first|refine vB (fun h =>?_) (fun h =>?_)|refine vM (fun h =>?_) (fun h =>?_))<;>(first|(exfalso;omega)|skip))))
  ·rw [if_pos (by omega)];rfl
  ·rw [←e,if_neg (by omega)]
   congr 1
   omega
 ·rw [if_neg h9]
  refine vF mixed [0,1,2,3,8,9,15] Tryz.func173 rfl Tryz.results173 Tryz.ntmps173 ?_
  (refine' zo1 r1)
abbrev siD (n:Nat):D:= .lit (.int .i64 n)
abbrev siR (l:List Nat):Blk:= .row 1 (l.map siD)
theorem snoc_si (l:List Nat) (n:Nat):l.map siD++[siD n]=(l++[n]).map siD:=by rw [List.map_append];rfl
theorem tell_fn (rs:List Int) (hrs:rs.length≤10000000) (out:List Nat) (ho:out.length≤10000000) (i n:Nat) (a:Int) (hi:i<rs.length) :
 OFn Tryz.prog G0 134 [iv i,iv a,iv n,.po 0 0,.po 1 0] [(0,.cell [.d (.sd 1 false (rs.map ruD))]),(1,.cell [.so 2 1 0 out.length]),(2,siR out)] 3 (bv true)
  [(0,.cell [.d (.sd 1 false (rs.map ruD))]),(1,.cell [.so 3 1 0 (out.length+1)]),(3,siR (out++[n]))]:=by
 refine vF mixed [0,2,3,4,8,12] Tryz.func134 rfl Tryz.results134 Tryz.ntmps134 ?_
 (refine' zg)
 rw [show out.map siD++[D.lit (Value.int IntKind.i64 (n:Int))]=(out++[n]).map siD from snoc_si out n,List.length_map,List.length_append]
 refine DoneW.now [35] (by decide) ?_
 (refine' zg)
 exact Sub.cons rfl (Sub.cons rfl (Sub.cons rfl Sub.nil))
theorem tell_no (rs:List Int) (hrs:rs.length≤10000000) (out:List Nat) (n:Nat) (a:Int) :
 OFn Tryz.prog G0 134 [iv rs.length,iv a,iv n,.po 0 0,.po 1 0] [(0,.cell [.d (.sd 1 false (rs.map ruD))]),(1,.cell [.so 2 1 0 out.length]),(2,siR out)] 3 (bv true)
  [(0,.cell [.d (.sd 1 false (rs.map ruD))]),(1,.cell [.so 2 1 0 out.length]),(2,siR out)]:=by
 refine vF mixed [0,2,3,4,8,12] Tryz.func134 rfl Tryz.results134 Tryz.ntmps134 ?_
 (refine' zg)
 refine DoneW.now [] (by decide) ?_
 (refine' zg)
 exact Sub_refl _
def eachS (z w:List (Int × Int)) (tab:Nat) (rs:List Int) (x:Nat × Nat × List Nat):St:=
 ⟨[(0,.d (tbD z w)),(1,.d (.sd 1 false (rs.map ruD))),(2,iv tab),(3,.fn 134 [.po 0 0,.po 1 0]),(8,iv x.2.1),(12,.d (.sd 1 false (rs.map ruD))),(13,iv rs.length),(14,iv x.1)],
  [(0,.cell [.d (.sd 1 false (rs.map ruD))]),(1,.cell [.so 2 1 0 x.2.2.length]),(2,siR x.2.2)],3⟩
attribute [push_cast] eachS.eq_def
set_option maxHeartbeats 1600000 in
theorem each_fn (z w:List (Int × Int)) (hz:RgOk z) (hw:RgOk w) (tab:Nat) (ht:1≤tab∧tab≤16) (rs:List Int) (hrs:rs.length≤4000000) :
 OFn Tryz.prog G0 133 [.d (tbD z w),.d (.sd 1 false (rs.map ruD)),iv tab,.fn 134 [.po 0 0,.po 1 0]] [(0,.cell [.d (.sd 1 false (rs.map ruD))]),(1,.cell [.d (.lit (.slice none 0 0))])] 2 (.tup [])
  [(0,.cell [.d (.sd 1 false (rs.map ruD))]),(1,.cell [.so 2 1 0 rs.length]),(2,siR (szs z w tab 0 rs))]:=by
 have hlz:=szs_len z w tab
 refine vF mixed [0,1,2,3,8,9,10,11,12,13,14,15,29] Tryz.func133 rfl Tryz.results133 Tryz.ntmps133 ?_
 (refine' zg)
 refine vL (lv:=[0,1,2,3,8,9,10,11,12,13,14,15,29]) mixed (eachS z w tab rs) (fun x=>x.1≤rs.length∧x.2.1=endA z w tab 0 (rs.take x.1)∧x.2.2=szs z w tab 0 (rs.take x.1)) (fun x=>rs.length - x.1) ((0,0,[])) (GhW.nilC 1 0 1<|(GhW.go [0,1,2,3,8,12,13,14] (by exact vT) rfl)) ?_ ?_
 ·exact ⟨Nat.zero_le _,rfl,rfl⟩
 rintro ⟨i,a,out⟩ ⟨h1,h2,h3⟩
 simp only at h1 h2 h3
 have hal:=endA_le (z:=z) (w:=w) ht.1 ht.2 (rs.take i) 0
 rw [←h2,List.length_take] at hal
 have hol:out.length=i:=by rw [h3,hlz,List.length_take];omega
 rcases Nat.lt_or_ge i rs.length with hi|hi
 ·obtain ⟨r,hr⟩ : ∃r,rs[i]? = some r:=⟨_,List.getElem?_eq_getElem hi⟩
  have r1:=stSz_fn z w hz hw r tab a ht (by omega)
  have hle:=tbT_le (z:=z) (w:=w) (a:=a) (r:=r) ht.1 ht.2
  have r2:=tell_fn rs (by omega) out (by omega) i (tbT z w tab a r) a hi
  have e1:endA z w tab 0 (rs.take (i+1))=a+tbT z w tab a r:=by rw [take_snoc' hr,endA_snoc,←h2]
  have e2:szs z w tab 0 (rs.take (i+1))=out++[tbT z w tab a r]:=by rw [take_snoc' hr,szs_snoc,←h2,←h3]
  generalize tbT z w tab a r=n at *
  (refine' zm11 r1 hr)
  refine CallW.ofN [0,1,2] r2 ?_
  (refine' zg)
  rw [show out.length+1=(out++[n]).length by rw [List.length_append];rfl]
  refine AgW.go ((i+1,a+n,out++[n])) [0,1,2,3,8,12,13,14] (by exact vT) ?_ ?_
  ·show rs.length - (i+1)<rs.length - i
   omega
  ·exact ⟨hi,e1.symm,e2.symm⟩
 ·obtain rfl:i=rs.length:=by omega
  rw [List.take_length] at h2 h3
  have r3:=tell_no rs (by omega) out 0 a
  (refine' zg)
  refine CallW.ofN [0,1,2] r3 ?_
  (refine' zg)
  subst h3
  refine DoneW.now [2] (by decide) ?_
  (refine' zg)
  rw [hlz]
  exact Sub_refl _
theorem sright_fn (tab:Int):OFn Tryz.prog G0 132 [iv tab] [] 0 (bv (decide (1≤tab)&&decide (tab≤16))) []:=by
 refine vF mixed [0,2] Tryz.func132 rfl Tryz.results132 Tryz.ntmps132 ?_
 (refine' zo)
theorem Sizes_fn (z w:List (Int × Int)) (hz:RgOk z) (hw:RgOk w) (tab:Nat) (ht:1≤tab∧tab≤16) (rs:List Int) (hrs:rs.length≤4000000) :
 OFn Tryz.prog G0 81 [.d (tbD z w),.d (.sd 1 false (rs.map ruD)),iv tab] [] 0 (.tup [.d (.sd 1 false ((szs z w tab 0 rs).map siD)),iv 0]) []:=by
 have r1:=sright_fn tab
 have r2:=each_fn z w hz hw tab ht rs hrs
 rw [decide_eq_true (by omega),decide_eq_true (by omega)] at r1
 have hlz:=szs_len z w tab rs 0
 generalize szs z w tab 0 rs=ss at *
 rw [←hlz] at r2
 refine vF mixed [0,1,2,4,6,7,8,11] Tryz.func81 rfl Tryz.results81 Tryz.ntmps81 ?_
 (refine' zg1 r1)
 refine CallW.ofN [0,24] r2 ?_
 (refine' zg)
 refine DoneW.frz 44 (DoneW.out ?_)
 (refine' zg)
 all_goals (try rw [List.take_of_length_le (by simp)])
abbrev clD (c:Cl):D:= .agg [ruD c.1,iD c.2.1,iD c.2.2.1,iD c.2.2.2]
abbrev clL (l:List Cl):V:= .d (.sd 4 false (l.map clD))
abbrev clW (l:List Cl):Blk:= .row 4 (l.map clD)
theorem snoc_cl (l:List Cl) (c:Cl):l.map clD++[clD c]=(l++[c]).map clD:=by rw [List.map_append];rfl
theorem Blank_fn (c:Cl):OFn Tryz.prog G0 174 [.d (clD c)] [] 0 (bv (blank c)) []:=by
 obtain ⟨r,k,w,a⟩:=c
 unfold blank
 refine vF mixed [0,1,2] Tryz.func174 rfl Tryz.results174 Tryz.ntmps174 ?_
 (refine' zo)
def cwS (l:List Cl) (i:Nat):St:=⟨[(0,clL l),(3,iv (wid (l.take i))),(6,clL l),(7,iv l.length),(8,iv i)],[],0⟩
attribute [push_cast] cwS.eq_def
theorem cWidth_fn (l:List Cl) (hl:l.length≤100000000) (hw : ∀c∈l,cw c≤2):OFn Tryz.prog G0 52 [clL l] [] 0 (iv (wid l)) []:=by
 refine vF mixed [0,2,3,5,6,7,8,9] Tryz.func52 rfl Tryz.results52 Tryz.ntmps52 ?_
 (refine' zg)
 refine vL (lv:=[0,2,3,5,6,7,8,9]) mixed (cwS l) (fun i=>i≤l.length) (fun i=>l.length - i) (0) ((GhW.go [0,3,6,7,8] (by exact vT) rfl)) ?_ ?_
 ·exact Nat.zero_le _
 intro i hi
 have hb:=wid_le (l:=l.take i) (fun c hc=>hw c (List.mem_of_mem_take hc))
 rw [List.length_take] at hb
 rcases Nat.lt_or_ge i l.length with hk|hk
 ·obtain ⟨c,hc⟩ : ∃c,l[i]? = some c:=⟨_,List.getElem?_eq_getElem hk⟩
  have h2:=hw c (List.mem_of_getElem? hc)
  have e:=wid_take l hc
  obtain ⟨r,k,w,a⟩:=c
  simp only [cw] at h2 e
  (refine' zgE hc)
  rw [show ((wid (l.take i):Nat):Int)+(w:Int)=(wid (l.take (i+1)):Nat) by omega]
  refine AgW.go (i+1) [0,3,6,7,8] (by exact vT) ?_ ?_
  ·show l.length - (i+1)<l.length - i
   omega
  ·show i+1≤l.length
   omega
 ·obtain rfl:i=l.length:=by omega
  rw [cwS,List.take_length]
  (refine' zo)
abbrev c0D (x:Int × Int × Int):D:= .agg [ruD x.1,iD x.2.1,iD 0,iD x.2.2]
theorem snoc_c0 (l:List (Int × Int × Int)) (x:Int × Int × Int):l.map c0D++[c0D x]=(l++[x]).map c0D:=by rw [List.map_append];rfl
def fltS (ps:List Pz) (x:Nat × List (Int × Int × Int)):St:=⟨[(4,.so 0 4 0 x.2.length),(10,.d (.sd 3 false (ps.map pzD))),(11,iv ps.length),(12,iv x.1)],[(0,.row 4 (x.2.map c0D))],1⟩
def fltI (ps:List Pz) (i:Nat) (k a st:Int) (rs:List Int) (x:Nat × List (Int × Int × Int)):St:=
 ⟨[(4,.so 0 4 0 x.2.length),(6,.po 1 0),(7,iv st),(10,.d (.sd 3 false (ps.map pzD))),(11,iv ps.length),(12,iv i),(25,.d (.sd 1 false (rs.map ruD))),(26,iv rs.length),(27,iv x.1)],
  [(0,.row 4 (x.2.map c0D)),(1,.cell [iv k,iv a,.d (.sd 1 false (rs.map ruD))])],2⟩
attribute [push_cast] fltS.eq_def fltI.eq_def
structure PzOk (ps:List Pz):Prop where
 len:ps.length≤1000000
 kd : ∀k a rs,Pz.tx k a rs∈ps→(k=1∨k=2)∧0≤a∧a≤100000000∧rs.length≤10000000
 pl : ∀a,Pz.fo a∈ps→0≤a∧a≤100000000
 all:(flatL ps).length≤10000000
set_option maxHeartbeats 3200000 in
theorem flat_fn (ps:List Pz) (h:PzOk ps):OFn Tryz.prog G0 80 [.d (.sd 3 false (ps.map pzD))] [] 0 (.tup [.d (.sd 4 false ((flatL ps).map c0D)),bv true]) []:=by
 have hpl:=h.len
 refine vF mixed [0,2,3,4,6,7,8,9,10,11,12,13,17,18,20,22,25,26,27,28] Tryz.func80 rfl Tryz.results80 Tryz.ntmps80 ?_
 (refine' zg)
 refine vL (lv:=[0,2,3,4,6,7,8,9,10,11,12,13,17,18,20,22,25,26,27,28]) mixed (fltS ps) (fun x=>x.1≤ps.length∧x.2=flatL (ps.take x.1)) (fun x=>ps.length - x.1) ((0,[])) (GhW.nil 4 4<|(GhW.go [4,10,11,12] (by exact vT) rfl)) ?_ ?_
 ·exact ⟨Nat.zero_le _,rfl⟩
 rintro ⟨i,es⟩ ⟨h1,h2⟩
 simp only at h1 h2
 rcases Nat.lt_or_ge i ps.length with hi|hi
 ·obtain ⟨z,hz⟩ : ∃z,ps[i]? = some z:=⟨_,List.getElem?_eq_getElem hi⟩
  have hzm:=List.mem_of_getElem? hz
  have e1:flatL (ps.take (i+1))=es++flatP z:=by rw [take_snoc' hz,flatL_app,flatL_one,←h2]
  have hel:=flatL_cut ps (i+1)
  rw [e1,List.length_append] at hel
  have hall:=h.all
  cases z with
  | tx k a rs=>
   obtain ⟨hk,ha0,ha1,hrl⟩:=h.kd k a rs hzm
   rw [flatP,flatT_len] at hel
   rcases hk with rfl|rfl
   ·(refine' zgE hz)
    refine vL (lv:=[0,2,3,4,6,7,8,9,10,11,12,13,17,18,20,22,25,26,27,28]) mixed (fltI ps i 1 a 1 rs) (fun x=>x.1≤rs.length∧x.2=es++flatT 1 1 a (rs.take x.1)) (fun x=>rs.length - x.1) ((0,es)) ((GhW.go [4,6,7,10,11,12,25,26,27] (by exact vT) rfl)) ?_ ?_
    ·exact ⟨Nat.zero_le _,by simp [flatT]⟩
    rintro ⟨j,fs⟩ ⟨g1,g2⟩
    simp only at g1 g2
    have hfl:fs.length=es.length+j:=by rw [g2,List.length_append,flatT_len,List.length_take];omega
    rcases Nat.lt_or_ge j rs.length with hj|hj
    ·obtain ⟨r,hr⟩ : ∃r,rs[j]? = some r:=⟨_,List.getElem?_eq_getElem hj⟩
     have e3:es++flatT 1 1 a (rs.take (j+1))=fs++[(r,1,a+1*j)]:=by
      rw [take_snoc' hr,flatT_snoc,←List.append_assoc,←g2,List.length_take]
      congr 4
      omega
     (refine' zgE hr)
     rw [show fs.map c0D++[D.agg [ruD r,D.lit (Value.int IntKind.i64 1),D.lit (Value.int IntKind.i64 0),D.lit (Value.int IntKind.i64 (a+1*(j:Int)))]]=(fs++[(r,1,a+1*j)]).map c0D from snoc_c0 fs (r,1,a+1*j),List.length_map]
     refine AgW.go ((j+1,fs++[(r,1,a+1*j)])) [4,6,7,10,11,12,25,26,27] (by exact vT) ?_ ?_
     ·show rs.length - (j+1)<rs.length - j
      omega
     ·exact ⟨hj,e3.symm⟩
    ·rw [List.take_of_length_le hj] at g2
     (refine' zg)
     have e4:fs=flatL (ps.take (i+1)):=by rw [e1,g2];rfl
     refine AgW.go ((i+1,fs)) [4,10,11,12] (by exact vT) ?_ ?_
     ·show ps.length - (i+1)<ps.length - i
      omega
     ·exact ⟨hi,e4⟩
   ·(refine' zgE hz)
    refine vL (lv:=[0,2,3,4,6,7,8,9,10,11,12,13,17,18,20,22,25,26,27,28]) mixed (fltI ps i 2 a 0 rs) (fun x=>x.1≤rs.length∧x.2=es++flatT 2 0 a (rs.take x.1)) (fun x=>rs.length - x.1) ((0,es)) ((GhW.go [4,6,7,10,11,12,25,26,27] (by exact vT) rfl)) ?_ ?_
    ·exact ⟨Nat.zero_le _,by simp [flatT]⟩
    rintro ⟨j,fs⟩ ⟨g1,g2⟩
    simp only at g1 g2
    have hfl:fs.length=es.length+j:=by rw [g2,List.length_append,flatT_len,List.length_take];omega
    rcases Nat.lt_or_ge j rs.length with hj|hj
    ·obtain ⟨r,hr⟩ : ∃r,rs[j]? = some r:=⟨_,List.getElem?_eq_getElem hj⟩
     have e3:es++flatT 2 0 a (rs.take (j+1))=fs++[(r,2,a+0*j)]:=by
      rw [take_snoc' hr,flatT_snoc,←List.append_assoc,←g2,List.length_take]
      congr 4
      omega
     (refine' zgE hr)
     rw [show fs.map c0D++[D.agg [ruD r,D.lit (Value.int IntKind.i64 2),D.lit (Value.int IntKind.i64 0),D.lit (Value.int IntKind.i64 (a+0*(j:Int)))]]=(fs++[(r,2,a+0*j)]).map c0D from snoc_c0 fs (r,2,a+0*j),List.length_map]
     refine AgW.go ((j+1,fs++[(r,2,a+0*j)])) [4,6,7,10,11,12,25,26,27] (by exact vT) ?_ ?_
     ·show rs.length - (j+1)<rs.length - j
      omega
     ·exact ⟨hj,e3.symm⟩
    ·rw [List.take_of_length_le hj] at g2
     (refine' zg)
     have e4:fs=flatL (ps.take (i+1)):=by rw [e1,g2];rfl
     refine AgW.go ((i+1,fs)) [4,10,11,12] (by exact vT) ?_ ?_
     ·show ps.length - (i+1)<ps.length - i
      omega
     ·exact ⟨hi,e4⟩
  | fo a=>
   obtain ⟨ha0,ha1⟩:=h.pl a hzm
   rw [flatP,List.length_singleton] at hel
   (refine' zgE hz)
   rw [show es.map c0D++[D.agg [D.lit (Value.int IntKind.i32 8230),iD 3,D.lit (Value.int IntKind.i64 0),iD a]]=(es++[(8230,3,a)]).map c0D from snoc_c0 es (8230,3,a),List.length_map]
   refine AgW.go ((i+1,es++[(8230,3,a)])) [4,10,11,12] (by exact vT) ?_ ?_
   ·show ps.length - (i+1)<ps.length - i
    omega
   ·exact ⟨hi,e1.symm⟩
 ·rw [List.take_of_length_le hi] at h2
  subst h2
  (refine' zg)
  refine DoneW.frz 0 (DoneW.out ?_)
  (refine' zg)
  all_goals (try rw [List.take_of_length_le (by simp)])
abbrev flC (fl:List (Int × Int × Int)):D:= .sd 4 false (fl.map c0D)
def ofA (z w:List (Int × Int)) (tab:Nat) (fl:List (Int × Int × Int)) (x:Nat × List Int):St:=
 ⟨[(0,.d (tbD z w)),(2,iv tab),(8,.d (flC fl)),(9,bv true),(10,.so 0 1 0 x.2.length),(23,.d (flC fl)),(24,iv fl.length),(25,iv x.1)],[(0,.row 1 (x.2.map ruD))],1⟩
def ofB (ss:List Nat) (fl:List (Int × Int × Int)) (x:Nat × List Cl):St:=
 ⟨[(13,.d (.sd 1 false (ss.map siD))),(15,.so 0 4 0 x.2.length),(49,.d (flC fl)),(50,iv fl.length),(51,iv x.1)],[(0,clW x.2)],1⟩
def ofC (ss:List Nat) (fl:List (Int × Int × Int)) (i m:Nat) (c:Cl) (x:Nat × List Cl):St:=
 ⟨[(13,.d (.sd 1 false (ss.map siD))),(15,.so 0 4 0 x.2.length),(17,.po 1 0),(49,.d (flC fl)),(50,iv fl.length),(51,iv i),(75,iv m),(76,iv x.1)],
  [(0,clW x.2),(1,.cell [.d (ruD c.1),iv c.2.1,iv c.2.2.1,iv c.2.2.2])],2⟩
attribute [push_cast] ofA.eq_def ofB.eq_def ofC.eq_def
theorem snoc_rl (l:List Int) (r:Int):l.map ruD++[ruD r]=(l++[r]).map ruD:=by rw [List.map_append];rfl
set_option maxHeartbeats 6400000 in
theorem cOf_fn (z w:List (Int × Int)) (hz:RgOk z) (hw:RgOk w) (tab:Nat) (ht:1≤tab∧tab≤16) (ps:List Pz) (h:PzOk ps) (hl:(flatL ps).length≤4000000) :
 OFn Tryz.prog G0 48 [.d (tbD z w),.d (.sd 3 false (ps.map pzD)),iv tab] [] 0 (.tup [clL (cellsR z w tab 0 (flatL ps)),iv 0]) []:=by
 have r1:=flat_fn ps h
 have r2:=Sizes_fn z w hz hw tab ht ((flatL ps).map (·.1)) (by rw [List.length_map];exact hl)
 have hcR:=cells1_R z w tab (flatL ps) 0
 have hsl:=szs_len z w tab ((flatL ps).map (·.1)) 0
 have hs1 : ∀(i:Nat) (x:Int × Int × Int) (s:Nat),(flatL ps)[i]? = some x→(szs z w tab 0 ((flatL ps).map (·.1)))[i]? = some s→(if x.1=9 then 1 else s)≤s∧s≤16:=szs_at ht _ 0
 rw [List.length_map] at hsl
 rw [←hcR]
 generalize flatL ps=fl at *
 generalize szs z w tab 0 (fl.map (·.1))=ss at *
 refine vF mixed [0,1,2,6,7,8,9,10,12,13,14,15,16,17,23,24,25,26,42,46,49,50,51,52,63,75,76,77] Tryz.func48 rfl Tryz.results48 Tryz.ntmps48 ?_
 (refine' zg1 r1)
 refine vL (lv:=[0,1,2,6,7,8,9,10,12,13,14,15,16,17,23,24,25,26,42,46,49,50,51,52,63,75,76,77]) mixed (ofA z w tab fl) (fun x=>x.1≤fl.length∧x.2=(fl.take x.1).map (·.1)) (fun x=>fl.length - x.1) ((0,[])) (GhW.nil 10 1<|(GhW.go [0,2,8,9,10,23,24,25] (by exact vT) rfl)) ?_ ?_
 ·exact ⟨Nat.zero_le _,rfl⟩
 rintro ⟨i,es⟩ ⟨h1,h2⟩
 simp only at h1 h2
 have hel:es.length=i:=by rw [h2,List.length_map,List.length_take];omega
 rcases Nat.lt_or_ge i fl.length with hi|hi
 ·obtain ⟨x,hx⟩ : ∃x,fl[i]? = some x:=⟨_,List.getElem?_eq_getElem hi⟩
  have e1:(fl.take (i+1)).map (·.1)=es++[x.1]:=by rw [take_snoc' hx,List.map_append,←h2];rfl
  obtain ⟨r,k,a⟩:=x
  (refine' zgE hx)
  rw [show es.map ruD++[ruD r]=(es++[r]).map ruD from snoc_rl es r,List.length_map]
  refine AgW.go ((i+1,es++[r])) [0,2,8,9,10,23,24,25] (by exact vT) ?_ ?_
  ·show fl.length - (i+1)<fl.length - i
   omega
  ·exact ⟨hi,e1.symm⟩
 ·rw [List.take_of_length_le hi] at h2
  rw [←h2] at r2
  (refine' zg)
  refine CallW.frz 0 rfl ?_
  refine vR ?_
  rw [List.take_of_length_le (by simp)]
  refine vC r2 ?_
  (refine' zg)
  refine vL (lv:=[0,1,2,6,7,8,9,10,12,13,14,15,16,17,23,24,25,26,42,46,49,50,51,52,63,75,76,77]) mixed (ofB ss fl) (fun x=>x.1≤fl.length∧x.2=cells1 (fl.take x.1) (ss.take x.1)∧x.2.length≤17*x.1) (fun x=>fl.length - x.1) ((0,[])) (GhW.nil 15 4<|(GhW.go [13,15,49,50,51] (by exact vT) rfl)) ?_ ?_
  ·exact ⟨Nat.zero_le _,rfl,Nat.zero_le _⟩
  rintro ⟨q,out⟩ ⟨h3,h4,h5⟩
  simp only at h3 h4 h5
  rcases Nat.lt_or_ge q fl.length with hq|hq
  ·obtain ⟨x,hx⟩ : ∃x,fl[q]? = some x:=⟨_,List.getElem?_eq_getElem hq⟩
   obtain ⟨s,hs⟩ : ∃s,ss[q]? = some s:=⟨_,List.getElem?_eq_getElem (by omega)⟩
   have hws:=hs1 q x s hx hs
   have e1:cells1 (fl.take (q+1)) (ss.take (q+1))=out++cell1 x s:=by rw [take_snoc' hx,take_snoc' hs,cells1_snoc _ _ _ _ (by rw [List.length_take,List.length_take];omega),←h4]
   obtain ⟨r,k,a⟩:=x
   simp only at hws
   by_cases h9:r=9
   ·rw [if_pos h9] at hws
    (refine' zm02 hx hs)
    rw [show out.map clD++[D.agg [ruD r,iD k,D.lit (Value.int IntKind.i64 1),iD a]]=(out++[((r,k,1,a):Cl)]).map clD from snoc_cl out (r,k,1,a),List.length_map]
    refine vL (lv:=[0,1,2,6,7,8,9,10,12,13,14,15,16,17,23,24,25,26,42,46,49,50,51,52,63,75,76,77]) mixed (ofC ss fl q (s - 1) (r,k,1,a)) (fun x=>x.1≤s - 1∧x.2=out++[((r,k,1,a):Cl)]++List.replicate x.1 ((32,4,1,a):Cl)) (fun x=>(s - 1) - x.1) ((0,out++[((r,k,1,a):Cl)])) ((GhW.go [13,15,17,49,50,51,75,76] (by exact vT) rfl)) ?_ ?_
    ·exact ⟨Nat.zero_le _,by simp⟩
    rintro ⟨j,fs⟩ ⟨g1,g2⟩
    simp only at g1 g2
    have hfl:fs.length=out.length+1+j:=by rw [g2];simp;omega
    rcases Nat.lt_or_ge j (s - 1) with hj|hj
    ·(refine' zg)
     rw [show fs.map clD++[D.agg [D.lit (Value.int IntKind.i32 32),D.lit (Value.int IntKind.i64 4),D.lit (Value.int IntKind.i64 1),iD a]]=(fs++[((32,4,1,a):Cl)]).map clD from snoc_cl fs (32,4,1,a),List.length_map]
     refine AgW.go ((j+1,fs++[((32,4,1,a):Cl)])) [13,15,17,49,50,51,75,76] (by exact vT) ?_ ?_
     ·show (s - 1) - (j+1)<(s - 1) - j
      omega
     ·exact ⟨hj,by rw [g2,List.replicate_succ',←List.append_assoc]⟩
    ·obtain rfl:j=s - 1:=by omega
     have e4:fs=cells1 (fl.take (q+1)) (ss.take (q+1)):=by rw [e1,g2,cell1];simp [h9]
     (refine' zg)
     refine AgW.go ((q+1,fs)) [13,15,49,50,51] (by exact vT) ?_ ?_
     ·show fl.length - (q+1)<fl.length - q
      omega
     ·exact ⟨hq,e4,by simp only;omega⟩
   ·rw [if_neg h9] at hws
    (refine' zm02 hx hs)
    rw [show out.map clD++[D.agg [ruD r,iD k,siD s,iD a]]=(out++[((r,k,s,a):Cl)]).map clD from snoc_cl out (r,k,s,a),List.length_map]
    refine vL (lv:=[0,1,2,6,7,8,9,10,12,13,14,15,16,17,23,24,25,26,42,46,49,50,51,52,63,75,76,77]) mixed (ofC ss fl q (s - s) (r,k,s,a)) (fun x=>x.1≤s - s∧x.2=out++[((r,k,s,a):Cl)]++List.replicate x.1 ((32,4,1,a):Cl)) (fun x=>(s - s) - x.1) ((0,out++[((r,k,s,a):Cl)])) ((GhW.go [13,15,17,49,50,51,75,76] (by exact vT) rfl)) ?_ ?_
    ·exact ⟨Nat.zero_le _,by simp⟩
    rintro ⟨j,fs⟩ ⟨g1,g2⟩
    simp only at g1 g2
    have hfl:fs.length=out.length+1+j:=by rw [g2];simp;omega
    rcases Nat.lt_or_ge j (s - s) with hj|hj
    ·omega
    ·obtain rfl:j=s - s:=by omega
     have e4:fs=cells1 (fl.take (q+1)) (ss.take (q+1)):=by rw [e1,g2,cell1];simp [h9]
     (refine' zg)
     refine AgW.go ((q+1,fs)) [13,15,49,50,51] (by exact vT) ?_ ?_
     ·show fl.length - (q+1)<fl.length - q
      omega
     ·exact ⟨hq,e4,by simp only;omega⟩
  ·rw [List.take_of_length_le hq,List.take_of_length_le (by omega)] at h4
   subst h4
   (refine' zg)
   refine DoneW.frz 0 (DoneW.out ?_)
   (refine' zg)
   rw [List.take_of_length_le (by simp)]
end Go.Proofs.YtkhonlnajdfhfaaGreatDoor
