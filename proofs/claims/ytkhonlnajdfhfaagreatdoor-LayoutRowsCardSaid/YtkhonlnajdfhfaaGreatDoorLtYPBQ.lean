/- What the theorem leans on, part 43. -/
import Derived.Test.YtkhonlnajdfhfaaGreatDoorLtYPBH
import Derived.Test.YtkhonlnajdfhfaaGreatDoorLtYPBP
set_option linter.unusedSimpArgs false
set_option linter.unusedVariables false
set_option maxRecDepth 8000
namespace Go.Proofs.YtkhonlnajdfhfaaGreatDoor
def kdZ:Pz→Int
 | .tx k _ _=>k
 | .fo _=>3
def atZ:Pz→Int
 | .tx _ a _=>a
 | .fo a=>a
def rsZ:Pz→D
 | .tx _ _ rs=> .sd 1 false (rs.map ruD)
 | .fo _=>nilSD
def runesZ:Pz→List Int
 | .tx _ _ rs=>rs
 | .fo _=>[8230]
abbrev pzE (z:Pz):D:= .agg [iD (kdZ z),iD (atZ z),rsZ z]
theorem pzE_eq:(pzD:Pz→D)=pzE:=funext fun z=>by cases z<;>rfl
theorem flatT_fst (k st:Int) : ∀(x:List Int) (a:Int),(flatT k st a x).map (·.1)=x
 | [],_=>rfl
 | y::t,a=>by rw [flatT,List.map_cons,flatT_fst k st t]
theorem flatP_fst (z:Pz):(flatP z).map (·.1)=runesZ z:=by
 cases z with
 | tx k a rs=>exact flatT_fst _ _ _ _
 | fo a=>rfl
theorem flatT_at (k st:Int) : ∀(x:List Int) (a:Int) (i:Nat) (r:Int),x[i]? = some r→(flatT k st a x)[i]? = some (r,k,a+st*i)
 | [],_,_,_,h=>by simp at h
 | y::t,a,0,r,h=>by
  simp only [List.getElem?_cons_zero,Option.some.injEq] at h
  subst h
  simp [flatT]
 | y::t,a,i+1,r,h=>by
  rw [List.getElem?_cons_succ] at h
  rw [flatT,List.getElem?_cons_succ,flatT_at k st t _ i r h]
  congr 3
  rw [Int.natCast_add,Int.mul_add,Int.natCast_one,Int.mul_one];omega
theorem flatP_at {z:Pz} {i:Nat} {r:Int} (h:(runesZ z)[i]? = some r):(flatP z)[i]? = some (r,kdZ z,if kdZ z=1 then atZ z+i else atZ z):=by
 cases z with
 | tx k a rs=>
  rw [flatP,flatT_at k _ rs a i r h]
  simp only [kdZ,atZ]
  congr 3
  split<;>omega
 | fo a=>
  cases i with
  | zero=>simp only [runesZ,List.getElem?_cons_zero,Option.some.injEq] at h;subst h;rfl
  | succ i=>simp [runesZ] at h
theorem flatP_len (z:Pz):(flatP z).length=(runesZ z).length:=by rw [←flatP_fst,List.length_map]
theorem flatL_take {ps:List Pz} {j:Nat} {z:Pz} (h:ps[j]? = some z):flatL (ps.take (j+1))=flatL (ps.take j)++flatP z:=by
 rw [take_snoc' h,flatL_app,flatL_one]
theorem flat_atR {ps:List Pz} {j k:Nat} {z:Pz} {e:Int × Int × Int} (h:ps[j]? = some z) (he:(flatP z)[k]? = some e):(flatL ps)[(flatL (ps.take j)).length+k]? = some e:=by
 have e1:ps=ps.take (j+1)++ps.drop (j+1):=(List.take_append_drop _ _).symm
 rw [e1,flatL_app,flatL_take h]
 have hk:=(List.getElem?_eq_some_iff.1 he).1
 rw [show (ps.take (j+1)++ps.drop (j+1)).take j=ps.take j by rw [←e1]]
 rw [List.append_assoc,List.getElem?_append_right (by omega),List.getElem?_append_left (by omega)]
 rw [show (flatL (ps.take j)).length+k - (flatL (ps.take j)).length=k by omega]
 exact he
theorem rrunes_fn (z:Pz) (hz : ∀k a rs,z = .tx k a rs→k≠3):OFn Tryz.prog G0 96 [.d (pzE z)] [] 0 (.d (.sd 1 false ((runesZ z).map ruD))) []:=by
 cases z with
 | tx k a rs=>
  have:=hz k a rs rfl
  simp only [pzE,kdZ,atZ,rsZ,runesZ]
  refine vF mixed [0,1,2,5] Tryz.func96 rfl Tryz.results96 Tryz.ntmps96 ?_
  (refine' zo)
 | fo a=>
  simp only [pzE,kdZ,atZ,rsZ,runesZ]
  refine vF mixed [0,1,2,5] Tryz.func96 rfl Tryz.results96 Tryz.ntmps96 ?_
  (refine' zg)
  refine DoneW.frz 20 (DoneW.out ?_)
  (refine' zg)
def f8A (z w:List (Int × Int)) (tab:Nat) (ps:List Pz) (x:Nat × List Int):St:=
 ⟨[(0,.d (tbD z w)),(1,.d (.sd 3 false (ps.map pzE))),(2,iv tab),(7,.so 0 1 0 x.2.length),(19,.d (.sd 3 false (ps.map pzE))),(20,iv ps.length),(21,iv x.1)],[(0,.row 1 (x.2.map ruD))],1⟩
def f8B (ss:List Nat) (ps:List Pz) (x:Nat × Nat × List Cl):St:=
 ⟨[(10,.d (.sd 1 false (ss.map siD))),(11,.so 0 4 0 x.2.2.length),(12,iv x.2.1),(34,.d (.sd 3 false (ps.map pzE))),(35,iv ps.length),(36,iv x.1)],[(0,clW x.2.2)],1⟩
def f8C (ss:List Nat) (ps:List Pz) (j:Nat) (z:Pz) (x:Nat × Nat × List Cl):St:=
 ⟨[(10,.d (.sd 1 false (ss.map siD))),(11,.so 0 4 0 x.2.2.length),(12,iv x.2.1),(14,.po 1 0),(34,.d (.sd 3 false (ps.map pzE))),(35,iv ps.length),(36,iv j),(41,.d (.sd 1 false ((runesZ z).map ruD))),(42,iv (runesZ z).length),(43,iv x.1)],
  [(0,clW x.2.2),(1,.cell [iv (kdZ z),iv (atZ z),.d (rsZ z)])],2⟩
def f8D (ss:List Nat) (ps:List Pz) (j:Nat) (z:Pz) (k m:Nat) (c:Cl) (x:Nat × List Cl):St:=
 ⟨[(10,.d (.sd 1 false (ss.map siD))),(11,.so 0 4 0 x.2.length),(12,iv m),(14,.po 1 0),(17,.po 2 0),(18,iv x.1),(34,.d (.sd 3 false (ps.map pzE))),(35,iv ps.length),(36,iv j),(41,.d (.sd 1 false ((runesZ z).map ruD))),(42,iv (runesZ z).length),(43,iv k)],
  [(0,clW x.2),(1,.cell [iv (kdZ z),iv (atZ z),.d (rsZ z)]),(2,.cell [.d (ruD c.1),iv c.2.1,iv c.2.2.1,iv c.2.2.2])],3⟩
attribute [push_cast] f8A.eq_def f8B.eq_def f8C.eq_def f8D.eq_def
theorem cells1_leR : ∀(l:List (Int × Int × Int)) (ss:List Nat),(∀s∈ss,s≤16)→(cells1 l ss).length≤16*l.length
 | [],_,_=>Nat.zero_le _
 | _::_,[],_=>Nat.zero_le _
 | x::t,s::r,h=>by
  have h1:=cells1_leR t r fun y hy=>h y (List.mem_cons_of_mem _ hy)
  have h2:=h s List.mem_cons_self
  rw [cells1,List.zipWith_cons_cons,List.flatten_cons,List.length_append,List.length_cons]
  rw [cells1] at h1
  have h3:(cell1 x s).length≤16:=by
   rw [cell1,List.length_cons,List.length_replicate];split<;>omega
  omega
theorem take_memN {ss:List Nat} (h : ∀s∈ss,s≤16) (m:Nat) : ∀s∈ss.take m,s≤16:=fun s hs=>h s (List.mem_of_mem_take hs)
set_option maxHeartbeats 6400000 in
theorem rOf18_fn (z w:List (Int × Int)) (hz:z.length≤1000000) (hw:w.length≤1000000) (tab:Nat) (ht:1≤tab∧tab≤16) (ps:List Pz) (h:PzOk ps) (hl:(flatL ps).length≤4000000) :
 OFn Tryz.prog G0 59 [.d (tbD z w),.d (.sd 3 false (ps.map pzD)),iv tab] [] 0 (clL (cellsR z w tab 0 (flatL ps))) []:=by
 have hpl:=h.len
 have hkd:=h.kd
 have hcl:=cellsR_len (z:=z) (w:=w) ht.1 ht.2
 rw [pzE_eq,←cells1_R]
 have r1:=rSizes_fn z w hz hw tab ht ((flatL ps).map (·.1)) (by rw [List.length_map];exact hl)
 have hsa:=fun (i:Nat) (x:Int × Int × Int) (s:Nat)=>szs_at (z:=z) (w:=w) ht (flatL ps) 0 i x s
 have hsl:(szs z w tab 0 ((flatL ps).map (·.1))).length=(flatL ps).length:=by rw [szs_len,List.length_map]
 have hrz : ∀y∈ps,∀k a rs,y = .tx k a rs→k≠3:=fun y hy k a rs e=>by
  have:=(h.kd k a rs (e▸hy)).1;omega
 have hcut:=flatL_cut ps
 have hs16 : ∀s∈szs z w tab 0 ((flatL ps).map (·.1)),s≤16:=fun s hs=>by
  obtain ⟨i,hi⟩:=List.getElem?_of_mem hs
  have hil:=(List.getElem?_eq_some_iff.1 hi).1
  obtain ⟨x,hx⟩ : ∃x,(flatL ps)[i]? = some x:=⟨_,List.getElem?_eq_getElem (by omega)⟩
  exact (hsa i x s hx hi).2
 generalize hss:szs z w tab 0 ((flatL ps).map (·.1))=ss at *
 refine vF mixed [0,1,2,6,7,9,10,11,12,14,15,16,17,18,19,20,21,22,34,35,36,37,41,42,43,44,60,67,80] Tryz.func59 rfl Tryz.results59 Tryz.ntmps59 ?_
 (refine' zg)
 refine vL (lv:=[0,1,2,6,7,9,10,11,12,14,15,16,17,18,19,20,21,22,34,35,36,37,41,42,43,44,60,67,80]) mixed (f8A z w tab ps) (fun x=>x.1≤ps.length∧x.2=(flatL (ps.take x.1)).map (·.1)) (fun x=>ps.length - x.1) ((0,[])) (GhW.nil 7 1<|(GhW.go [0,1,2,7,19,20,21] (by exact vT) rfl)) ?_ ?_
 ·exact ⟨Nat.zero_le _,rfl⟩
 rintro ⟨j,all⟩ ⟨g1,g2⟩
 simp only at g1 g2
 have hal:all.length≤4000000:=by rw [g2,List.length_map];have:=hcut j;omega
 rcases Nat.lt_or_ge j ps.length with hk|hk
 ·obtain ⟨y,hy⟩ : ∃y,ps[j]? = some y:=⟨_,List.getElem?_eq_getElem hk⟩
  have r2:=rrunes_fn y (hrz y (List.mem_of_getElem? hy))
  have e1:(flatL (ps.take (j+1))).map (·.1)=all++runesZ y:=by rw [flatL_take hy,List.map_append,flatP_fst,g2]
  have hyl:(runesZ y).length≤4000000:=by
   have e:=congrArg List.length e1
   have:=hcut (j+1)
   rw [List.length_map,List.length_append] at e
   omega
  (refine' zm11 r2 hy)
  try rw [←List.map_append]
  try rw [List.length_map]
  refine AgW.go ((j+1,all++runesZ y)) [0,1,2,7,19,20,21] (by exact vT) ?_ ?_
  ·show ps.length - (j+1)<ps.length - j
   omega
  ·exact ⟨hk,e1.symm⟩
 ·rw [List.take_of_length_le hk] at g2
  rw [←g2] at r1
  (refine' zg)
  refine CallW.frz 0 rfl ?_
  (refine' zg1 r1)
  clear r1 g2 hal
  refine vL (lv:=[0,1,2,6,7,9,10,11,12,14,15,16,17,18,19,20,21,22,34,35,36,37,41,42,43,44,60,67,80]) mixed (f8B ss ps) (fun x=>x.1≤ps.length∧x.2.1=(flatL (ps.take x.1)).length∧x.2.2=cells1 (flatL (ps.take x.1)) (ss.take x.2.1)) (fun x=>ps.length - x.1) ((0,0,[])) (GhW.nil 11 4<|(GhW.go [10,11,12,34,35,36] (by exact vT) rfl)) ?_ ?_
  ·exact ⟨Nat.zero_le _,rfl,rfl⟩
  rintro ⟨j,m,out⟩ ⟨q1,q2,q3⟩
  simp only at q1 q2 q3
  rcases Nat.lt_or_ge j ps.length with hk|hk
  ·obtain ⟨y,hy⟩ : ∃y,ps[j]? = some y:=⟨_,List.getElem?_eq_getElem hk⟩
   have r2:=rrunes_fn y (hrz y (List.mem_of_getElem? hy))
   have e1:=flatL_take hy
   have hyl:(flatL (ps.take j)).length+(runesZ y).length≤(flatL ps).length:=by
    have e:=congrArg List.length e1
    have:=hcut (j+1)
    rw [List.length_append,flatP_len] at e
    omega
   (refine' zm11 r2 hy)
   refine vL (lv:=[0,1,2,6,7,9,10,11,12,14,15,16,17,18,19,20,21,22,34,35,36,37,41,42,43,44,60,67,80]) mixed (f8C ss ps j y) (fun x=>x.1≤(runesZ y).length∧x.2.1=m+x.1∧x.2.2=cells1 (flatL (ps.take j)++(flatP y).take x.1) (ss.take x.2.1)) (fun x=>(runesZ y).length - x.1) ((0,m,out)) ((GhW.go [10,11,12,14,34,35,36,41,42,43] (by exact vT) rfl)) ?_ ?_
   ·exact ⟨Nat.zero_le _,rfl,by simp only [List.take_zero,List.append_nil];exact q3⟩
   rintro ⟨k,m',ot⟩ ⟨q6,q4,q5⟩
   simp only at q6 q4 q5
   subst q4
   have hol:ot.length≤64000000:=by
    have:=cells1_leR (flatL (ps.take j)++(flatP y).take k) (ss.take (m+k)) (take_memN hs16 _)
    rw [←q5,List.length_append,List.length_take,flatP_len] at this
    omega
   rcases Nat.lt_or_ge k (runesZ y).length with hkk|hkk
   ·obtain ⟨r,hr⟩ : ∃r,(runesZ y)[k]? = some r:=⟨_,List.getElem?_eq_getElem hkk⟩
    have hpa:=flatP_at hr
    have hfa:=flat_atR hy hpa
    rw [←q2] at hfa
    obtain ⟨s,hs⟩ : ∃s,ss[m+k]? = some s:=⟨_,List.getElem?_eq_getElem (by omega)⟩
    obtain ⟨hs1,hs2⟩:=hsa _ _ _ hfa hs
    have hml:m+k<ss.length:=(List.getElem?_eq_some_iff.1 hs).1
    have e2:cells1 (flatL (ps.take j)++(flatP y).take (k+1)) (ss.take (m+k+1))=ot++cell1 (r,kdZ y,if kdZ y=1 then atZ y+k else atZ y) s:=by
     rw [take_snoc' hpa,take_snoc' hs,←List.append_assoc,cells1_snoc,←q5]
     rw [List.length_append,List.length_take,List.length_take,flatP_len];omega
    have hy0:kdZ y=1→atZ y≤100000000∧0≤atZ y:=fun e=>by
     cases y with
     | tx kd a rs=>have:=hkd kd a rs (List.mem_of_getElem? hy);exact ⟨this.2.2.1,this.2.1⟩
     | fo a=>cases e
    simp only at hs1
    rw [cell1] at e2
    simp only at e2
    have hssl:ss.length≤4000000:=by omega
    clear hcl hrz hcut hkd hsa hsl hs16 hpl hz hw ht hfa hpa r2 e1
    skip
    by_cases h9:r=9
    ·rw [if_pos h9] at hs1 e2
     by_cases hk1:kdZ y=1
     ·rw [if_pos hk1] at e2
      have hyb:=hy0 hk1
      (refine' zm02 hr hs)
      rw [show ot.map clD++[D.agg [D.lit (Value.int IntKind.i32 r),D.lit (Value.int IntKind.i64 (kdZ y)),D.lit (Value.int IntKind.i64 1),D.lit (Value.int IntKind.i64 (atZ y+(k:Int)))]]=(ot++[(r,kdZ y,1,atZ y+(k:Int))]).map clD from snoc_cl ot (r,kdZ y,1,atZ y+(k:Int)),List.length_map]
      refine vL (lv:=[0,1,2,6,7,9,10,11,12,14,15,16,17,18,19,20,21,22,34,35,36,37,41,42,43,44,60,67,80]) mixed (f8D ss ps j y k (m+k) (r,kdZ y,1,atZ y+(k:Int))) (fun x=>1≤x.1∧x.1≤s∧x.2=ot++[(r,kdZ y,1,atZ y+(k:Int))]++List.replicate (x.1 - 1) (32,4,1,atZ y+(k:Int))) (fun x=>s - x.1) ((1,ot++[(r,kdZ y,1,atZ y+(k:Int))])) ((GhW.go [10,11,12,14,17,18,34,35,36,41,42,43] (by exact vT) rfl)) ?_ ?_
      ·exact ⟨Nat.le_refl _,hs1,by rw [Nat.sub_self];simp⟩
      rintro ⟨n,o2⟩ ⟨p1,p2,p3⟩
      simp only at p1 p2 p3
      have hol2:o2.length≤64000100:=by
       have:=congrArg List.length p3
       simp only [List.length_append,List.length_replicate,List.length_singleton] at this;omega
      rcases Nat.lt_or_ge n s with hns|hns
      ·(refine' zm01 hs)
       rw [show o2.map clD++[D.agg [D.lit (Value.int IntKind.i32 32),D.lit (Value.int IntKind.i64 4),D.lit (Value.int IntKind.i64 1),D.lit (Value.int IntKind.i64 (atZ y+(k:Int)))]]=(o2++[(32,4,1,atZ y+(k:Int))]).map clD from snoc_cl o2 (32,4,1,atZ y+(k:Int)),List.length_map]
       refine AgW.go ((n+1,o2++[(32,4,1,atZ y+(k:Int))])) [10,11,12,14,17,18,34,35,36,41,42,43] (by exact vT) ?_ ?_
       ·show s - (n+1)<s - n
        omega
       ·exact ⟨by show 1≤n+1;omega,hns,by rw [p3,show n+1 - 1=(n - 1)+1 by omega,List.replicate_succ',List.append_assoc]⟩
      ·have hne:n=s:=by omega
       rw [hne] at p3
       (refine' zm01 hs)
       refine AgW.go ((k+1,m+k+1,o2)) [10,11,12,14,34,35,36,41,42,43] (by exact vT) ?_ ?_
       ·show (runesZ y).length - (k+1)<(runesZ y).length - k
        omega
       ·refine ⟨hkk,by show m+k+1=m+(k+1);omega,?_⟩
        show o2=_
        rw [p3,e2];try simp
     ·rw [if_neg hk1] at e2
      (refine' zm02 hr hs)
      rw [show ot.map clD++[D.agg [D.lit (Value.int IntKind.i32 r),D.lit (Value.int IntKind.i64 (kdZ y)),D.lit (Value.int IntKind.i64 1),D.lit (Value.int IntKind.i64 (atZ y))]]=(ot++[(r,kdZ y,1,atZ y)]).map clD from snoc_cl ot (r,kdZ y,1,atZ y),List.length_map]
      refine vL (lv:=[0,1,2,6,7,9,10,11,12,14,15,16,17,18,19,20,21,22,34,35,36,37,41,42,43,44,60,67,80]) mixed (f8D ss ps j y k (m+k) (r,kdZ y,1,atZ y)) (fun x=>1≤x.1∧x.1≤s∧x.2=ot++[(r,kdZ y,1,atZ y)]++List.replicate (x.1 - 1) (32,4,1,atZ y)) (fun x=>s - x.1) ((1,ot++[(r,kdZ y,1,atZ y)])) ((GhW.go [10,11,12,14,17,18,34,35,36,41,42,43] (by exact vT) rfl)) ?_ ?_
      ·exact ⟨Nat.le_refl _,hs1,by rw [Nat.sub_self];simp⟩
      rintro ⟨n,o2⟩ ⟨p1,p2,p3⟩
      simp only at p1 p2 p3
      have hol2:o2.length≤64000100:=by
       have:=congrArg List.length p3
       simp only [List.length_append,List.length_replicate,List.length_singleton] at this;omega
      rcases Nat.lt_or_ge n s with hns|hns
      ·(refine' zm01 hs)
       rw [show o2.map clD++[D.agg [D.lit (Value.int IntKind.i32 32),D.lit (Value.int IntKind.i64 4),D.lit (Value.int IntKind.i64 1),D.lit (Value.int IntKind.i64 (atZ y))]]=(o2++[(32,4,1,atZ y)]).map clD from snoc_cl o2 (32,4,1,atZ y),List.length_map]
       refine AgW.go ((n+1,o2++[(32,4,1,atZ y)])) [10,11,12,14,17,18,34,35,36,41,42,43] (by exact vT) ?_ ?_
       ·show s - (n+1)<s - n
        omega
       ·exact ⟨by show 1≤n+1;omega,hns,by rw [p3,show n+1 - 1=(n - 1)+1 by omega,List.replicate_succ',List.append_assoc]⟩
      ·have hne:n=s:=by omega
       rw [hne] at p3
       (refine' zm01 hs)
       refine AgW.go ((k+1,m+k+1,o2)) [10,11,12,14,34,35,36,41,42,43] (by exact vT) ?_ ?_
       ·show (runesZ y).length - (k+1)<(runesZ y).length - k
        omega
       ·refine ⟨hkk,by show m+k+1=m+(k+1);omega,?_⟩
        show o2=_
        rw [p3,e2];try simp
    ·rw [if_neg h9] at hs1 e2
     by_cases hk1:kdZ y=1
     ·rw [if_pos hk1] at e2
      have hyb:=hy0 hk1
      (refine' zm02 hr hs)
      rw [show ot.map clD++[D.agg [D.lit (Value.int IntKind.i32 r),D.lit (Value.int IntKind.i64 (kdZ y)),D.lit (Value.int IntKind.i64 (s:Int)),D.lit (Value.int IntKind.i64 (atZ y+(k:Int)))]]=(ot++[(r,kdZ y,s,atZ y+(k:Int))]).map clD from snoc_cl ot (r,kdZ y,s,atZ y+(k:Int)),List.length_map]
      refine vL (lv:=[0,1,2,6,7,9,10,11,12,14,15,16,17,18,19,20,21,22,34,35,36,37,41,42,43,44,60,67,80]) mixed (f8D ss ps j y k (m+k) (r,kdZ y,s,atZ y+(k:Int))) (fun x=>s≤x.1∧x.1≤s∧x.2=ot++[(r,kdZ y,s,atZ y+(k:Int))]++List.replicate (x.1 - s) (32,4,1,atZ y+(k:Int))) (fun x=>s - x.1) ((s,ot++[(r,kdZ y,s,atZ y+(k:Int))])) ((GhW.go [10,11,12,14,17,18,34,35,36,41,42,43] (by exact vT) rfl)) ?_ ?_
      ·exact ⟨Nat.le_refl _,hs1,by rw [Nat.sub_self];simp⟩
      rintro ⟨n,o2⟩ ⟨p1,p2,p3⟩
      simp only at p1 p2 p3
      have hol2:o2.length≤64000100:=by
       have:=congrArg List.length p3
       simp only [List.length_append,List.length_replicate,List.length_singleton] at this;omega
      rcases Nat.lt_or_ge n s with hns|hns
      ·omega
      ·have hne:n=s:=by omega
       rw [hne] at p3
       (refine' zm01 hs)
       refine AgW.go ((k+1,m+k+1,o2)) [10,11,12,14,34,35,36,41,42,43] (by exact vT) ?_ ?_
       ·show (runesZ y).length - (k+1)<(runesZ y).length - k
        omega
       ·refine ⟨hkk,by show m+k+1=m+(k+1);omega,?_⟩
        show o2=_
        rw [p3,e2];try simp
     ·rw [if_neg hk1] at e2
      (refine' zm02 hr hs)
      rw [show ot.map clD++[D.agg [D.lit (Value.int IntKind.i32 r),D.lit (Value.int IntKind.i64 (kdZ y)),D.lit (Value.int IntKind.i64 (s:Int)),D.lit (Value.int IntKind.i64 (atZ y))]]=(ot++[(r,kdZ y,s,atZ y)]).map clD from snoc_cl ot (r,kdZ y,s,atZ y),List.length_map]
      refine vL (lv:=[0,1,2,6,7,9,10,11,12,14,15,16,17,18,19,20,21,22,34,35,36,37,41,42,43,44,60,67,80]) mixed (f8D ss ps j y k (m+k) (r,kdZ y,s,atZ y)) (fun x=>s≤x.1∧x.1≤s∧x.2=ot++[(r,kdZ y,s,atZ y)]++List.replicate (x.1 - s) (32,4,1,atZ y)) (fun x=>s - x.1) ((s,ot++[(r,kdZ y,s,atZ y)])) ((GhW.go [10,11,12,14,17,18,34,35,36,41,42,43] (by exact vT) rfl)) ?_ ?_
      ·exact ⟨Nat.le_refl _,hs1,by rw [Nat.sub_self];simp⟩
      rintro ⟨n,o2⟩ ⟨p1,p2,p3⟩
      simp only at p1 p2 p3
      have hol2:o2.length≤64000100:=by
       have:=congrArg List.length p3
       simp only [List.length_append,List.length_replicate,List.length_singleton] at this;omega
      rcases Nat.lt_or_ge n s with hns|hns
      ·omega
      ·have hne:n=s:=by omega
       rw [hne] at p3
       (refine' zm01 hs)
       refine AgW.go ((k+1,m+k+1,o2)) [10,11,12,14,34,35,36,41,42,43] (by exact vT) ?_ ?_
       ·show (runesZ y).length - (k+1)<(runesZ y).length - k
        omega
       ·refine ⟨hkk,by show m+k+1=m+(k+1);omega,?_⟩
        show o2=_
        rw [p3,e2];try simp
   ·have hke:k=(runesZ y).length:=by omega
    subst hke
    rw [show (flatP y).take (runesZ y).length=flatP y from List.take_of_length_le (by rw [flatP_len];exact Nat.le_refl _),←e1] at q5
    (refine' zg)
    refine AgW.go ((j+1,m+(runesZ y).length,ot)) [10,11,12,34,35,36] (by exact vT) ?_ ?_
    ·show ps.length - (j+1)<ps.length - j
     omega
    ·exact ⟨hk,by rw [e1,List.length_append,flatP_len,←q2],q5⟩
  ·rw [List.take_of_length_le hk] at q2 q3
   rw [q2,List.take_of_length_le (by omega)] at q3
   subst q3
   (refine' zg)
   refine DoneW.frz 0 (DoneW.out ?_)
   (refine' zg)
   all_goals (try rw [List.take_of_length_le (by simp)])
end Go.Proofs.YtkhonlnajdfhfaaGreatDoor
