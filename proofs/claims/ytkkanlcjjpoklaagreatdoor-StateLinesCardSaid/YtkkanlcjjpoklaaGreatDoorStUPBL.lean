/- What the theorem leans on, part 38. -/
import Derived.Test.YtkkanlcjjpoklaaGreatDoorStUPBE
import Derived.Test.YtkkanlcjjpoklaaGreatDoorStUPBK
set_option linter.unusedSimpArgs false
set_option linter.unusedVariables false
set_option maxRecDepth 8000
namespace Go.Proofs.YtkkanlcjjpoklaaGreatDoor
def jm:Pz→Int
 | .tx k _ _=>k
 | .fo _=>3
def fz:Pz→Int
 | .tx _ a _=>a
 | .fo a=>a
def R8:Pz→D
 | .tx _ _ rs=> .sd 1 false (rs.map dy)
 | .fo _=>aB
def be:Pz→List Int
 | .tx _ _ rs=>rs
 | .fo _=>[8230]
abbrev MM (z:Pz):D:= .agg [iD (jm z),iD (fz z),R8 z]
theorem P6:(fF:Pz→D)=MM:=funext fun z=>by cases z<;>rfl
theorem vg (k st:Int) : ∀(x:List Int) (a:Int),(dC k st a x).map (·.1)=x
 | [],_=>rfl
 | y::t,a=>by rw [dC,List.map_cons,vg k st t]
theorem vf (z:Pz):(c8 z).map (·.1)=be z:=by
 cases z with
 | tx k a rs=>exact vg _ _ _ _
 | fo a=>rfl
theorem zn (k st:Int) : ∀(x:List Int) (a:Int) (i:Nat) (r:Int),x[i]? = some r→(dC k st a x)[i]? = some (r,k,a+st*i)
 | [],_,_,_,h=>by simp at h
 | y::t,a,0,r,h=>by
  simp only [List.getElem?_cons_zero,Option.some.injEq] at h;subst h;simp [dC]
 | y::t,a,i+1,r,h=>by
  rw [List.getElem?_cons_succ] at h;rw [dC,List.getElem?_cons_succ,zn k st t _ i r h];congr 3;rw [Int.natCast_add,Int.mul_add,Int.natCast_one,Int.mul_one];omega
theorem IW {z:Pz} {i:Nat} {r:Int} (h:(be z)[i]? = some r):(c8 z)[i]? = some (r,jm z,if jm z=1 then fz z+i else fz z):=by
 cases z with
 | tx k a rs=>
  rw [c8,zn k _ rs a i r h];simp only [jm,fz];congr 3;split<;>omega
 | fo a=>
  cases i with
  | zero=>simp only [be,List.getElem?_cons_zero,Option.some.injEq] at h;subst h;rfl
  | succ i=>simp [be] at h
theorem g9 (z:Pz):(c8 z).length=(be z).length:=by rw [←vf,List.length_map]
theorem lk {ps:List Pz} {j:Nat} {z:Pz} (h:ps[j]? = some z):aE (ps.take (j+1))=aE (ps.take j)++c8 z:=by
 rw [ax h,a5,dU]
theorem IX {ps:List Pz} {j k:Nat} {z:Pz} {e:Int × Int × Int} (h:ps[j]? = some z) (he:(c8 z)[k]? = some e):(aE ps)[(aE (ps.take j)).length+k]? = some e:=by
 have e1:ps=ps.take (j+1)++ps.drop (j+1):=(List.take_append_drop _ _).symm;rw [e1,a5,lk h];have hk:=(List.getElem?_eq_some_iff.1 he).1;rw [show (ps.take (j+1)++ps.drop (j+1)).take j=ps.take j by rw [←e1]];rw [List.append_assoc,List.getElem?_append_right (by omega),List.getElem?_append_left (by omega)];rw [show (aE (ps.take j)).length+k - (aE (ps.take j)).length=k by omega];exact he
theorem wg (z:Pz) (hz : ∀k a rs,z = .tx k a rs→k≠3):an Tryz.prog G0 155 [.d (MM z)] [] 0 (.d (.sd 1 false ((be z).map dy))) []:=by
 cases z with
 | tx k a rs=>
  have:=hz k a rs rfl;simp only [MM,jm,fz,R8,be];refine vF ab [0,1,2,5] Tryz.func155 rfl Tryz.results155 Tryz.ntmps155 ?_;(refine' zo)
 | fo a=>
  simp only [MM,jm,fz,R8,be];refine vF ab [0,1,2,5] Tryz.func155 rfl Tryz.results155 Tryz.ntmps155 ?_;(refine' zg)
  refine ae.frz 20 (ae.out ?_);(refine' zg)
def XQ (z w:List (Int × Int)) (tab:Nat) (ps:List Pz) (x:Nat × List Int):St:=
 ⟨[(0,.d (pQ z w)),(1,.d (.sd 3 false (ps.map MM))),(2,iv tab),(7,.so 0 1 0 x.2.length),(19,.d (.sd 3 false (ps.map MM))),(20,iv ps.length),(21,iv x.1)],[(0,.row 1 (x.2.map dy))],1⟩
def XR (ss:List Nat) (ps:List Pz) (x:Nat × Nat × List Cl):St:=
 ⟨[(10,.d (.sd 1 false (ss.map nk))),(11,.so 0 4 0 x.2.2.length),(12,iv x.2.1),(34,.d (.sd 3 false (ps.map MM))),(35,iv ps.length),(36,iv x.1)],[(0,NU x.2.2)],1⟩
def XS (ss:List Nat) (ps:List Pz) (j:Nat) (z:Pz) (x:Nat × Nat × List Cl):St:=
 ⟨[(10,.d (.sd 1 false (ss.map nk))),(11,.so 0 4 0 x.2.2.length),(12,iv x.2.1),(14,.po 1 0),(34,.d (.sd 3 false (ps.map MM))),(35,iv ps.length),(36,iv j),(41,.d (.sd 1 false ((be z).map dy))),(42,iv (be z).length),(43,iv x.1)],
  [(0,NU x.2.2),(1,.cell [iv (jm z),iv (fz z),.d (R8 z)])],2⟩
def Rn (ss:List Nat) (ps:List Pz) (j:Nat) (z:Pz) (k m:Nat) (c:Cl) (x:Nat × List Cl):St:=
 ⟨[(10,.d (.sd 1 false (ss.map nk))),(11,.so 0 4 0 x.2.length),(12,iv m),(14,.po 1 0),(17,.po 2 0),(18,iv x.1),(34,.d (.sd 3 false (ps.map MM))),(35,iv ps.length),(36,iv j),(41,.d (.sd 1 false ((be z).map dy))),(42,iv (be z).length),(43,iv k)],
  [(0,NU x.2),(1,.cell [iv (jm z),iv (fz z),.d (R8 z)]),(2,.cell [.d (dy c.1),iv c.2.1,iv c.2.2.1,iv c.2.2.2])],3⟩
attribute [push_cast] XQ.eq_def XR.eq_def XS.eq_def Rn.eq_def
theorem qK : ∀(l:List (Int × Int × Int)) (ss:List Nat),(∀s∈ss,s≤16)→(du l ss).length≤16*l.length
 | [],_,_=>Nat.zero_le _
 | _::_,[],_=>Nat.zero_le _
 | x::t,s::r,h=>by
  have h1:=qK t r fun y hy=>h y (List.mem_cons_of_mem _ hy)
  have h2:=h s List.mem_cons_self;rw [du,List.zipWith_cons_cons,List.flatten_cons,List.length_append,List.length_cons];rw [du] at h1;have h3:(ff x s).length≤16:=by
   rw [ff,List.length_cons,List.length_replicate];split<;>omega
  omega
theorem Hr {ss:List Nat} (h : ∀s∈ss,s≤16) (m:Nat) : ∀s∈ss.take m,s≤16:=fun s hs=>h s (List.mem_of_mem_take hs)
set_option maxHeartbeats 6400000 in
theorem AD (z w:List (Int × Int)) (hz:z.length≤1000000) (hw:w.length≤1000000) (tab:Nat) (ht:1≤tab∧tab≤16) (ps:List Pz) (h:HS ps) (hl:(aE ps).length≤4000000) :
 an Tryz.prog G0 100 [.d (pQ z w),.d (.sd 3 false (ps.map fF)),iv tab] [] 0 (cM (bz z w tab 0 (aE ps))) []:=by
 have hpl:=h.len;have hkd:=h.kd;have hcl:=lc (z:=z) (w:=w) ht.1 ht.2;rw [P6,←qJ];have r1:=GV z w hz hw tab ht ((aE ps).map (·.1)) (by rw [List.length_map];exact hl);have hsa:=fun (i:Nat) (x:Int × Int × Int) (s:Nat)=>Dq (z:=z) (w:=w) ht (aE ps) 0 i x s
 have hsl:(pP z w tab 0 ((aE ps).map (·.1))).length=(aE ps).length:=by rw [kD,List.length_map]
 have hrz : ∀y∈ps,∀k a rs,y = .tx k a rs→k≠3:=fun y hy k a rs e=>by
  have:=(h.kd k a rs (e▸hy)).1;omega
 have hcut:=ve ps;have hs16 : ∀s∈pP z w tab 0 ((aE ps).map (·.1)),s≤16:=fun s hs=>by
  obtain ⟨i,hi⟩:=List.getElem?_of_mem hs;have hil:=(List.getElem?_eq_some_iff.1 hi).1;obtain ⟨x,hx⟩ : ∃x,(aE ps)[i]? = some x:=⟨_,List.getElem?_eq_getElem (by omega)⟩
  exact (hsa i x s hx hi).2
 generalize hss:pP z w tab 0 ((aE ps).map (·.1))=ss at *
 refine vF ab [0,1,2,6,7,9,10,11,12,14,15,16,17,18,19,20,21,22,34,35,36,37,41,42,43,44,60,67,80] Tryz.func100 rfl Tryz.results100 Tryz.ntmps100 ?_;(refine' zg)
 refine vL (lv:=[0,1,2,6,7,9,10,11,12,14,15,16,17,18,19,20,21,22,34,35,36,37,41,42,43,44,60,67,80]) ab (XQ z w tab ps) (fun x=>x.1≤ps.length∧x.2=(aE (ps.take x.1)).map (·.1)) (fun x=>ps.length - x.1) ((0,[])) (aC.nil 7 1<|(aC.go [0,1,2,7,19,20,21] (by exact vT) rfl)) ?_ ?_
 ·exact ⟨Nat.zero_le _,rfl⟩
 rintro ⟨j,all⟩ ⟨g1,g2⟩;simp only at g1 g2;have hal:all.length≤4000000:=by rw [g2,List.length_map];have:=hcut j;omega
 rcases Nat.lt_or_ge j ps.length with hk|hk
 ·obtain ⟨y,hy⟩ : ∃y,ps[j]? = some y:=⟨_,List.getElem?_eq_getElem hk⟩
  have r2:=wg y (hrz y (List.mem_of_getElem? hy));have e1:(aE (ps.take (j+1))).map (·.1)=all++be y:=by rw [lk hy,List.map_append,vf,g2]
  have hyl:(be y).length≤4000000:=by
   have e:=congrArg List.length e1;have:=hcut (j+1);rw [List.length_map,List.length_append] at e;omega
  (refine' lS r2 hy)
  try rw [←List.map_append]
  try rw [List.length_map]
  refine aG.go ((j+1,all++be y)) [0,1,2,7,19,20,21] (by exact vT) ?_ ?_
  ·show ps.length - (j+1)<ps.length - j;omega
  ·exact ⟨hk,e1.symm⟩
 ·rw [List.take_of_length_le hk] at g2;rw [←g2] at r1;(refine' zg)
  refine au.frz 0 rfl ?_;(refine' fj r1)
  clear r1 g2 hal;refine vL (lv:=[0,1,2,6,7,9,10,11,12,14,15,16,17,18,19,20,21,22,34,35,36,37,41,42,43,44,60,67,80]) ab (XR ss ps) (fun x=>x.1≤ps.length∧x.2.1=(aE (ps.take x.1)).length∧x.2.2=du (aE (ps.take x.1)) (ss.take x.2.1)) (fun x=>ps.length - x.1) ((0,0,[])) (aC.nil 11 4<|(aC.go [10,11,12,34,35,36] (by exact vT) rfl)) ?_ ?_
  ·exact ⟨Nat.zero_le _,rfl,rfl⟩
  rintro ⟨j,m,out⟩ ⟨q1,q2,q3⟩;simp only at q1 q2 q3;rcases Nat.lt_or_ge j ps.length with hk|hk
  ·obtain ⟨y,hy⟩ : ∃y,ps[j]? = some y:=⟨_,List.getElem?_eq_getElem hk⟩
   have r2:=wg y (hrz y (List.mem_of_getElem? hy));have e1:=lk hy;have hyl:(aE (ps.take j)).length+(be y).length≤(aE ps).length:=by
    have e:=congrArg List.length e1;have:=hcut (j+1);rw [List.length_append,g9] at e;omega
   (refine' lS r2 hy)
   refine vL (lv:=[0,1,2,6,7,9,10,11,12,14,15,16,17,18,19,20,21,22,34,35,36,37,41,42,43,44,60,67,80]) ab (XS ss ps j y) (fun x=>x.1≤(be y).length∧x.2.1=m+x.1∧x.2.2=du (aE (ps.take j)++(c8 y).take x.1) (ss.take x.2.1)) (fun x=>(be y).length - x.1) ((0,m,out)) ((aC.go [10,11,12,14,34,35,36,41,42,43] (by exact vT) rfl)) ?_ ?_
   ·exact ⟨Nat.zero_le _,rfl,by simp only [List.take_zero,List.append_nil];exact q3⟩
   rintro ⟨k,m',ot⟩ ⟨q6,q4,q5⟩;simp only at q6 q4 q5;subst q4;have hol:ot.length≤64000000:=by
    have:=qK (aE (ps.take j)++(c8 y).take k) (ss.take (m+k)) (Hr hs16 _);rw [←q5,List.length_append,List.length_take,g9] at this;omega
   rcases Nat.lt_or_ge k (be y).length with hkk|hkk
   ·obtain ⟨r,hr⟩ : ∃r,(be y)[k]? = some r:=⟨_,List.getElem?_eq_getElem hkk⟩
    have hpa:=IW hr;have hfa:=IX hy hpa;rw [←q2] at hfa;obtain ⟨s,hs⟩ : ∃s,ss[m+k]? = some s:=⟨_,List.getElem?_eq_getElem (by omega)⟩
    obtain ⟨hs1,hs2⟩:=hsa _ _ _ hfa hs;have hml:m+k<ss.length:=(List.getElem?_eq_some_iff.1 hs).1;have e2:du (aE (ps.take j)++(c8 y).take (k+1)) (ss.take (m+k+1))=ot++ff (r,jm y,if jm y=1 then fz y+k else fz y) s:=by
     rw [ax hpa,ax hs,←List.append_assoc,oM,←q5];rw [List.length_append,List.length_take,List.length_take,g9];omega
    have hy0:jm y=1→fz y≤100000000∧0≤fz y:=fun e=>by
     cases y with
     | tx kd a rs=>have:=hkd kd a rs (List.mem_of_getElem? hy);exact ⟨this.2.2.1,this.2.1⟩
     | fo a=>cases e
    simp only at hs1;rw [ff] at e2;simp only at e2;have hssl:ss.length≤4000000:=by omega
    clear hcl hrz hcut hkd hsa hsl hs16 hpl hz hw ht hfa hpa r2 e1;skip;by_cases h9:r=9
    ·rw [if_pos h9] at hs1 e2;by_cases hk1:jm y=1
     ·rw [if_pos hk1] at e2;have hyb:=hy0 hk1;(refine' uJ hr hs)
      rw [show ot.map gN++[D.agg [D.lit (Value.int IntKind.i32 r),D.lit (Value.int IntKind.i64 (jm y)),D.lit (Value.int IntKind.i64 1),D.lit (Value.int IntKind.i64 (fz y+(k:Int)))]]=(ot++[(r,jm y,1,fz y+(k:Int))]).map gN from eo ot (r,jm y,1,fz y+(k:Int)),List.length_map];refine vL (lv:=[0,1,2,6,7,9,10,11,12,14,15,16,17,18,19,20,21,22,34,35,36,37,41,42,43,44,60,67,80]) ab (Rn ss ps j y k (m+k) (r,jm y,1,fz y+(k:Int))) (fun x=>1≤x.1∧x.1≤s∧x.2=ot++[(r,jm y,1,fz y+(k:Int))]++List.replicate (x.1 - 1) (32,4,1,fz y+(k:Int))) (fun x=>s - x.1) ((1,ot++[(r,jm y,1,fz y+(k:Int))])) ((aC.go [10,11,12,14,17,18,34,35,36,41,42,43] (by exact vT) rfl)) ?_ ?_
      ·exact ⟨Nat.le_refl _,hs1,by rw [Nat.sub_self];simp⟩
      rintro ⟨n,o2⟩ ⟨p1,p2,p3⟩;simp only at p1 p2 p3;have hol2:o2.length≤64000100:=by
       have:=congrArg List.length p3;simp only [List.length_append,List.length_replicate,List.length_singleton] at this;omega
      rcases Nat.lt_or_ge n s with hns|hns
      ·(refine' pR hs)
       rw [show o2.map gN++[D.agg [D.lit (Value.int IntKind.i32 32),D.lit (Value.int IntKind.i64 4),D.lit (Value.int IntKind.i64 1),D.lit (Value.int IntKind.i64 (fz y+(k:Int)))]]=(o2++[(32,4,1,fz y+(k:Int))]).map gN from eo o2 (32,4,1,fz y+(k:Int)),List.length_map];refine aG.go ((n+1,o2++[(32,4,1,fz y+(k:Int))])) [10,11,12,14,17,18,34,35,36,41,42,43] (by exact vT) ?_ ?_
       ·show s - (n+1)<s - n;omega
       ·exact ⟨by show 1≤n+1;omega,hns,by rw [p3,show n+1 - 1=(n - 1)+1 by omega,List.replicate_succ',List.append_assoc]⟩
      ·have hne:n=s:=by omega
       rw [hne] at p3;(refine' pR hs)
       refine aG.go ((k+1,m+k+1,o2)) [10,11,12,14,34,35,36,41,42,43] (by exact vT) ?_ ?_
       ·show (be y).length - (k+1)<(be y).length - k;omega
       ·refine ⟨hkk,by show m+k+1=m+(k+1);omega,?_⟩;show o2=_;rw [p3,e2];try simp
     ·rw [if_neg hk1] at e2;(refine' uJ hr hs)
      rw [show ot.map gN++[D.agg [D.lit (Value.int IntKind.i32 r),D.lit (Value.int IntKind.i64 (jm y)),D.lit (Value.int IntKind.i64 1),D.lit (Value.int IntKind.i64 (fz y))]]=(ot++[(r,jm y,1,fz y)]).map gN from eo ot (r,jm y,1,fz y),List.length_map];refine vL (lv:=[0,1,2,6,7,9,10,11,12,14,15,16,17,18,19,20,21,22,34,35,36,37,41,42,43,44,60,67,80]) ab (Rn ss ps j y k (m+k) (r,jm y,1,fz y)) (fun x=>1≤x.1∧x.1≤s∧x.2=ot++[(r,jm y,1,fz y)]++List.replicate (x.1 - 1) (32,4,1,fz y)) (fun x=>s - x.1) ((1,ot++[(r,jm y,1,fz y)])) ((aC.go [10,11,12,14,17,18,34,35,36,41,42,43] (by exact vT) rfl)) ?_ ?_
      ·exact ⟨Nat.le_refl _,hs1,by rw [Nat.sub_self];simp⟩
      rintro ⟨n,o2⟩ ⟨p1,p2,p3⟩;simp only at p1 p2 p3;have hol2:o2.length≤64000100:=by
       have:=congrArg List.length p3;simp only [List.length_append,List.length_replicate,List.length_singleton] at this;omega
      rcases Nat.lt_or_ge n s with hns|hns
      ·(refine' pR hs)
       rw [show o2.map gN++[D.agg [D.lit (Value.int IntKind.i32 32),D.lit (Value.int IntKind.i64 4),D.lit (Value.int IntKind.i64 1),D.lit (Value.int IntKind.i64 (fz y))]]=(o2++[(32,4,1,fz y)]).map gN from eo o2 (32,4,1,fz y),List.length_map];refine aG.go ((n+1,o2++[(32,4,1,fz y)])) [10,11,12,14,17,18,34,35,36,41,42,43] (by exact vT) ?_ ?_
       ·show s - (n+1)<s - n;omega
       ·exact ⟨by show 1≤n+1;omega,hns,by rw [p3,show n+1 - 1=(n - 1)+1 by omega,List.replicate_succ',List.append_assoc]⟩
      ·have hne:n=s:=by omega
       rw [hne] at p3;(refine' pR hs)
       refine aG.go ((k+1,m+k+1,o2)) [10,11,12,14,34,35,36,41,42,43] (by exact vT) ?_ ?_
       ·show (be y).length - (k+1)<(be y).length - k;omega
       ·refine ⟨hkk,by show m+k+1=m+(k+1);omega,?_⟩;show o2=_;rw [p3,e2];try simp
    ·rw [if_neg h9] at hs1 e2;by_cases hk1:jm y=1
     ·rw [if_pos hk1] at e2;have hyb:=hy0 hk1;(refine' uJ hr hs)
      rw [show ot.map gN++[D.agg [D.lit (Value.int IntKind.i32 r),D.lit (Value.int IntKind.i64 (jm y)),D.lit (Value.int IntKind.i64 (s:Int)),D.lit (Value.int IntKind.i64 (fz y+(k:Int)))]]=(ot++[(r,jm y,s,fz y+(k:Int))]).map gN from eo ot (r,jm y,s,fz y+(k:Int)),List.length_map];refine vL (lv:=[0,1,2,6,7,9,10,11,12,14,15,16,17,18,19,20,21,22,34,35,36,37,41,42,43,44,60,67,80]) ab (Rn ss ps j y k (m+k) (r,jm y,s,fz y+(k:Int))) (fun x=>s≤x.1∧x.1≤s∧x.2=ot++[(r,jm y,s,fz y+(k:Int))]++List.replicate (x.1 - s) (32,4,1,fz y+(k:Int))) (fun x=>s - x.1) ((s,ot++[(r,jm y,s,fz y+(k:Int))])) ((aC.go [10,11,12,14,17,18,34,35,36,41,42,43] (by exact vT) rfl)) ?_ ?_
      ·exact ⟨Nat.le_refl _,hs1,by rw [Nat.sub_self];simp⟩
      rintro ⟨n,o2⟩ ⟨p1,p2,p3⟩;simp only at p1 p2 p3;have hol2:o2.length≤64000100:=by
       have:=congrArg List.length p3;simp only [List.length_append,List.length_replicate,List.length_singleton] at this;omega
      rcases Nat.lt_or_ge n s with hns|hns
      ·omega
      ·have hne:n=s:=by omega
       rw [hne] at p3;(refine' pR hs)
       refine aG.go ((k+1,m+k+1,o2)) [10,11,12,14,34,35,36,41,42,43] (by exact vT) ?_ ?_
       ·show (be y).length - (k+1)<(be y).length - k;omega
       ·refine ⟨hkk,by show m+k+1=m+(k+1);omega,?_⟩;show o2=_;rw [p3,e2];try simp
     ·rw [if_neg hk1] at e2;(refine' uJ hr hs)
      rw [show ot.map gN++[D.agg [D.lit (Value.int IntKind.i32 r),D.lit (Value.int IntKind.i64 (jm y)),D.lit (Value.int IntKind.i64 (s:Int)),D.lit (Value.int IntKind.i64 (fz y))]]=(ot++[(r,jm y,s,fz y)]).map gN from eo ot (r,jm y,s,fz y),List.length_map];refine vL (lv:=[0,1,2,6,7,9,10,11,12,14,15,16,17,18,19,20,21,22,34,35,36,37,41,42,43,44,60,67,80]) ab (Rn ss ps j y k (m+k) (r,jm y,s,fz y)) (fun x=>s≤x.1∧x.1≤s∧x.2=ot++[(r,jm y,s,fz y)]++List.replicate (x.1 - s) (32,4,1,fz y)) (fun x=>s - x.1) ((s,ot++[(r,jm y,s,fz y)])) ((aC.go [10,11,12,14,17,18,34,35,36,41,42,43] (by exact vT) rfl)) ?_ ?_
      ·exact ⟨Nat.le_refl _,hs1,by rw [Nat.sub_self];simp⟩
      rintro ⟨n,o2⟩ ⟨p1,p2,p3⟩;simp only at p1 p2 p3;have hol2:o2.length≤64000100:=by
       have:=congrArg List.length p3;simp only [List.length_append,List.length_replicate,List.length_singleton] at this;omega
      rcases Nat.lt_or_ge n s with hns|hns
      ·omega
      ·have hne:n=s:=by omega
       rw [hne] at p3;(refine' pR hs)
       refine aG.go ((k+1,m+k+1,o2)) [10,11,12,14,34,35,36,41,42,43] (by exact vT) ?_ ?_
       ·show (be y).length - (k+1)<(be y).length - k;omega
       ·refine ⟨hkk,by show m+k+1=m+(k+1);omega,?_⟩;show o2=_;rw [p3,e2];try simp
   ·have hke:k=(be y).length:=by omega
    subst hke;rw [show (c8 y).take (be y).length=c8 y from List.take_of_length_le (by rw [g9];exact Nat.le_refl _),←e1] at q5;(refine' zg)
    refine aG.go ((j+1,m+(be y).length,ot)) [10,11,12,34,35,36] (by exact vT) ?_ ?_
    ·show ps.length - (j+1)<ps.length - j;omega
    ·exact ⟨hk,by rw [e1,List.length_append,g9,←q2],q5⟩
  ·rw [List.take_of_length_le hk] at q2 q3;rw [q2,List.take_of_length_le (by omega)] at q3;subst q3;(refine' zg)
   refine ae.frz 0 (ae.out ?_);(refine' zg)
   all_goals (try rw [List.take_of_length_le (by simp)])
end Go.Proofs.YtkkanlcjjpoklaaGreatDoor
