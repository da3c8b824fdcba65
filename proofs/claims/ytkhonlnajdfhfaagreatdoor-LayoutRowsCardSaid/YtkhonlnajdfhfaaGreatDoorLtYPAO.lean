/- What the theorem leans on, part 15. -/
import Derived.Test.YtkhonlnajdfhfaaGreatDoorLtYPAM
import Derived.Test.YtkhonlnajdfhfaaGreatDoorLtYPAN
set_option linter.unusedSimpArgs false
set_option linter.unusedVariables false
set_option maxRecDepth 8000
namespace Go.Proofs.YtkhonlnajdfhfaaGreatDoor
def placeD (s:Sm) (vis:Int):D:= .agg [.lit (.int .i64 s.n),.lit (.int .i64 s.n),.lit (.int .i64 s.d0),.lit (.int .i64 s.d1),.lit (.int .i64 s.d2),.lit (.int .i64 s.mx),.lit (.int .i64 s.pos),.lit (.int .i64 vis)]
theorem szS_zero (d:Nat):szS Sm.zero d=0:=by unfold szS;split<;>rfl
set_option maxHeartbeats 1600000 in
theorem Find_none (d:Nat) (hd:d≤3) (v b:Int) (hv:v=0) (hb:b=0∨b=1) :
 OFn Tryz.prog G0 197 [.d (treeD none),iv d,iv v,iv b] [] 0 (.tup [.d (placeD Sm.zero 0),iv 0]) []:=by
 have r1:=Sum_fn none
 have r2:=top_fn none
 have r3:=size_fn Sm.zero d hd
 have hz:=szS_zero d
 simp only [itemsO,sumL_nil] at r1
 rw [treeD] at r1 r2 ⊢
 rw [hz] at r3
 simp only [nodeO] at r1 r2 ⊢
 simp only [smD,zero_n,zero_d0,zero_d1,zero_d2,zero_mx,zero_pos] at r1 r3
 refine vF mixed [0,1,2,3,6,7,8,9,10,11,12,13,14,15,17,18,19,20,22,23,50,57,68,72,73,74,75,87,97,101,102,103,104,116] Tryz.func197 rfl Tryz.results197 Tryz.ntmps197 ?_
 (refine' zg3 r1 r2 r3)
 refine vL (lv:=[0,1,2,3,6,7,8,9,10,11,12,13,14,15,17,18,19,20,22,23,50,57,68,72,73,74,75,87,97,101,102,103,104,116]) mixed (fiS d v b) (fun x=>x=(none,Sm.zero,0)) (fun _=>0) ((none,Sm.zero,0)) (GhW.frz 0<|GhW.frz 4<|(GhW.go [1,8,11,12,13] (by exact vT) rfl)) ?_ ?_
 ·rfl
 rintro x rfl
 (refine' zo)
 all_goals rfl
set_option maxHeartbeats 1600000 in
theorem Find_bad (t:Option T) (d:Nat) (hd:d≤3) (v b:Int) (hv:v<0∨szS (sumL (itemsO t)) d<v) :
 OFn Tryz.prog G0 197 [.d (treeD t),iv d,iv v,iv b] [] 0 (.tup [.d (placeD Sm.zero 0),iv 1]) []:=by
 have r1:=Sum_fn t
 have r3:=size_fn (sumL (itemsO t)) d hd
 rw [treeD] at r1 ⊢
 refine vF mixed [0,1,2,3,6,7,8,9,10,11,12,13,14,15,17,18,19,20,22,23,50,57,68,72,73,74,75,87,97,101,102,103,104,116] Tryz.func197 rfl Tryz.results197 Tryz.ntmps197 ?_
 (refine' zo2 r1 r3)
 all_goals rfl
structure Spot (d:Nat) (v b:Int) (L:List It) (j:Nat):Prop where
 le:j≤L.length
 below : ∀i,0<i→i≤j→reachB d v b (sumL (L.take i))=false
 here:j<L.length→reachB d v b (sumL (L.take (j+1)))=true
theorem zero_add (l:List It):addM Sm.zero (sumL l)=sumL l:=by
 have:=sumL_app [] l
 rw [List.nil_append] at this
 exact this.symm
theorem find_spot (t:Option T) (k:Tk t) (d:Nat) (hd:d≤3) (v b:Int) (hv0:0≤v) (hv:v≤szS (sumL (itemsO t)) d) (hb:b=0∨b=1) :
 ∃j vis:Nat,Spot d v b (itemsO t) j∧vis≤htO t∧OFn Tryz.prog G0 197 [.d (treeD t),iv d,iv v,iv b] [] 0 (.tup [.d (placeD (sumL ((itemsO t).take j)) vis),iv 0]) []:=by
 cases t with
 | none=>
  simp only [itemsO,sumL_nil,szS_zero] at hv ⊢
  exact ⟨0,0,⟨Nat.le_refl _,fun i h1 h2=>by omega,fun h=>by simp at h⟩,Nat.le_refl _,Find_none d hd v b (by omega) hb⟩
 | some t=>
  obtain ⟨w1,w2,w3,w4⟩:=k
  simp only [wfO,htO,itemsO] at w1 w2 w3 w4 hv ⊢
  obtain ⟨j,h1,h2,h3,h4⟩:=scan_take (reachB d v b) t.items Sm.zero (Int.le_refl 0)
  have e:=desc_scan (reach_up d hd v b) t Sm.zero (Int.le_refl 0) w1 w4
  have f:=Find_some t d hd v b w1 w2 (by omega) w4 hv0 hv hb _ rfl
  have hvis:=desc_vis (R:=reachB d v b) t Sm.zero w1
  rw [e,h2,zero_add] at f
  refine ⟨j,(desc (reachB d v b) t Sm.zero).2,⟨h1,fun i q1 q2 =>?_,fun q =>?_⟩,hvis.2,f⟩
  ·have:=h3 i q1 q2;rwa [zero_add] at this
  ·have:=h4 q;rwa [zero_add] at this
def cuB (t:Option T) (j:Nat) (vis:Int):Blk:= .cell [.d (treeD t),iv j,iv (sumL ((itemsO t).take j)).n,iv (sumL ((itemsO t).take j)).d0,iv (sumL ((itemsO t).take j)).d1,iv (sumL ((itemsO t).take j)).d2,iv (sumL ((itemsO t).take j)).mx,iv (sumL ((itemsO t).take j)).pos,iv vis]
attribute [push_cast] cuB.eq_def
theorem sNew_fn (t:Option T):OFn Tryz.prog G0 176 [.d (treeD t)] [] 0 (.po 0 0) [(0,cuB t 0 0)]:=by
 rw [treeD]
 simp only [cuB,List.take_zero,sumL_nil,treeD]
 refine vF mixed [0,2] Tryz.func176 rfl Tryz.results176 Tryz.ntmps176 ?_
 (refine' zg)
 refine DoneW.now [12] (by decide) ?_;(refine' zg);first|exact Sub_refl _|exact Sub.cons rfl Sub.nil|exact Sub.cons rfl (Sub.cons rfl Sub.nil)|exact Sub.nil
theorem sStart_fn (t:Option T) (j:Nat) (vis:Int):OFn Tryz.prog G0 163 [.po 0 0] [(0,cuB t j vis)] 1 (.d (smD (sumL ((itemsO t).take j)))) [(0,cuB t j vis)]:=by
 simp only [cuB]
 refine vF mixed [0,2,4] Tryz.func163 rfl Tryz.results163 Tryz.ntmps163 ?_
 (refine' zg)
 refine DoneW.now [] (by decide) ?_;(refine' zg);first|exact Sub_refl _|exact Sub.cons rfl Sub.nil|exact Sub.cons rfl (Sub.cons rfl Sub.nil)|exact Sub.nil
theorem sItem_fn (t:Option T) (k:Tk t) (j:Nat) (hj:j≤1000000) (vis:Int):OFn Tryz.prog G0 165 [.po 0 0] [(0,cuB t j vis)] 1 (.tup [.d (itD ((itemsO t).getD j it0)),bv (decide (j<(itemsO t).length))]) [(0,cuB t j vis)]:=by
 have r1:=At_fn t k j hj
 have e1:((if j<(itemsO t).length then (0:Int) else 1)==0)=decide (j<(itemsO t).length):=by split<;>simp_all
 simp only [cuB]
 refine vF mixed [0,2,3,4,5,7] Tryz.func165 rfl Tryz.results165 Tryz.ntmps165 ?_
 (repeat' (first|(with_reducible first|exact True.intro|refine vD ?_|refine vG ?_|refine vE ?_)|with_reducible refine vQ (r1) ?_|with_reducible refine vC (r1) ?_|(simp -implicitDefEqProofs -dsimp only [e1])|refine vR ?_|refine v6 ?_|with_reducible refine vN ?_|((with_reducible first|refine vB (fun h =>?_) (fun h =>?_)|refine vM (fun h =>?_) (fun h =>?_))<;>(first|(exfalso;omega)|skip))))
 refine DoneW.now [] (by decide) ?_;(refine' zg);first|exact Sub_refl _|exact Sub.cons rfl Sub.nil|exact Sub.cons rfl (Sub.cons rfl Sub.nil)|exact Sub.nil
theorem sEnd_fn (t:Option T) (k:Tk t) (j:Nat) (hj:j≤1000000) (vis:Int):OFn Tryz.prog G0 190 [.po 0 0] [(0,cuB t j vis)] 1 (.d (smD (sumL ((itemsO t).take (j+1))))) [(0,cuB t j vis)]:=by
 have r1:=sItem_fn t k j hj vis
 have r2:=sStart_fn t j vis
 have hk:=k.len
 have o1:smOk (sumL ((itemsO t).take j)):=sumL_ok _ (fun y hy=>k.ok y (List.mem_of_mem_take hy)) (by simp;omega)
 by_cases hl:j<(itemsO t).length
 ·obtain ⟨x,hx⟩ : ∃x,(itemsO t)[j]? = some x:=⟨_,List.getElem?_eq_getElem hl⟩
  have hg:(itemsO t).getD j it0=x:=by simp [List.getD_eq_getElem?_getD,hx]
  have e1:(itemsO t).take (j+1)=(itemsO t).take j++[x]:=take_snoc1 hx
  have hok:=k.ok x (List.mem_of_getElem? hx)
  have r3:=Of_fn x
  have r4:=Add_fn _ _ o1 (ofI_ok hok)
  rw [hg,decide_eq_true hl] at r1
  rw [e1,sumL_snoc]
  simp only [cuB] at r1 r2 ⊢
  refine vF mixed [0,2,3,4,11] Tryz.func190 rfl Tryz.results190 Tryz.ntmps190 ?_
  (repeat' (first|(with_reducible first|exact True.intro|refine vD ?_|refine vG ?_|refine vE ?_)|with_reducible refine vOr (r1) ?_|with_reducible refine vOq (r2) ?_|with_reducible refine vQ (r3) ?_|with_reducible refine vQ (r4) ?_|refine vR ?_|refine v6 ?_|with_reducible refine vN ?_|((with_reducible first|refine vB (fun h =>?_) (fun h =>?_)|refine vM (fun h =>?_) (fun h =>?_))<;>(first|(exfalso;omega)|skip))))
  refine DoneW.now [] (by decide) ?_;(refine' zg);first|exact Sub_refl _|exact Sub.cons rfl Sub.nil|exact Sub.cons rfl (Sub.cons rfl Sub.nil)|exact Sub.nil
 ·have e1:(itemsO t).take (j+1)=(itemsO t).take j:=by rw [List.take_of_length_le (by omega),List.take_of_length_le (by omega)]
  rw [decide_eq_false hl] at r1
  rw [e1]
  simp only [cuB] at r1 r2 ⊢
  refine vF mixed [0,2,3,4,11] Tryz.func190 rfl Tryz.results190 Tryz.ntmps190 ?_
  (repeat' (first|(with_reducible first|exact True.intro|refine vD ?_|refine vG ?_|refine vE ?_)|with_reducible refine vOr (r1) ?_|with_reducible refine vOr (r2) ?_|refine vR ?_|refine v6 ?_|with_reducible refine vN ?_|((with_reducible first|refine vB (fun h =>?_) (fun h =>?_)|refine vM (fun h =>?_) (fun h =>?_))<;>(first|(exfalso;omega)|skip))))
  refine DoneW.now [] (by decide) ?_;(refine' zg);first|exact Sub_refl _|exact Sub.cons rfl Sub.nil|exact Sub.cons rfl (Sub.cons rfl Sub.nil)|exact Sub.nil
theorem sNext_fn (t:Option T) (k:Tk t) (j:Nat) (hj:j<(itemsO t).length) (vis:Int):OFn Tryz.prog G0 167 [.po 0 0] [(0,cuB t j vis)] 1 (bv true) [(0,cuB t (j+1) vis)]:=by
 have hk:=k.len
 have r1:=sItem_fn t k j (by omega) vis
 have r2:=sEnd_fn t k j (by omega) vis
 rw [decide_eq_true hj] at r1
 simp only [cuB] at r1 r2 ⊢
 refine vF mixed [0,2,4,11] Tryz.func167 rfl Tryz.results167 Tryz.ntmps167 ?_
 (repeat' (first|(with_reducible first|exact True.intro|refine vD ?_|refine vG ?_|refine vE ?_)|with_reducible refine vOr (r1) ?_|with_reducible refine vOr (r2) ?_|refine vR ?_|refine v6 ?_|with_reducible refine vN ?_|((with_reducible first|refine vB (fun h =>?_) (fun h =>?_)|refine vM (fun h =>?_) (fun h =>?_))<;>(first|(exfalso;omega)|skip))))
 refine DoneW.now [] (by decide) ?_;(refine' zg);first|exact Sub_refl _|exact Sub.cons rfl Sub.nil|exact Sub.cons rfl (Sub.cons rfl Sub.nil)|exact Sub.nil
theorem sTo_fn (t:Option T) (k:Tk t) (j0:Nat) (vis0:Int) (d:Nat) (hd:d≤3) (v b:Int) (hv0:0≤v) (hv:v≤szS (sumL (itemsO t)) d) (hb:b=0∨b=1) :
 ∃j vis:Nat,Spot d v b (itemsO t) j∧OFn Tryz.prog G0 177 [.po 0 0,iv d,iv v,iv b] [(0,cuB t j0 vis0)] 1 (iv 0) [(0,cuB t j vis)]:=by
 obtain ⟨j,vis,sp,-,r1⟩:=find_spot t k d hd v b hv0 hv hb
 have e1:(sumL ((itemsO t).take j)).n=j:=by rw [sumL_n,List.length_take,Nat.min_eq_left sp.le]
 refine ⟨j,vis,sp,?_⟩
 simp only [cuB,placeD] at r1 ⊢
 refine vF mixed [0,1,2,3,8,9,10,12,25] Tryz.func177 rfl Tryz.results177 Tryz.ntmps177 ?_
 (refine' zg1 r1)
 refine DoneW.now [] (by decide) ?_
 (refine' zg)
 rw [e1]
 first|exact Sub_refl _|exact Sub.cons rfl Sub.nil|exact Sub.cons rfl (Sub.cons rfl Sub.nil)|exact Sub.nil
theorem sTo_bad (t:Option T) (j0:Nat) (vis0:Int) (d:Nat) (hd:d≤3) (v b:Int) (hv:v<0∨szS (sumL (itemsO t)) d<v) :
 OFn Tryz.prog G0 177 [.po 0 0,iv d,iv v,iv b] [(0,cuB t j0 vis0)] 1 (iv 1) [(0,cuB t j0 vis0)]:=by
 have r1:=Find_bad t d hd v b hv
 simp only [cuB,placeD] at r1 ⊢
 refine vF mixed [0,1,2,3,8,9,10,12,25] Tryz.func177 rfl Tryz.results177 Tryz.ntmps177 ?_
 (refine' zg1 r1)
 refine DoneW.now [] (by decide) ?_;(refine' zg);first|exact Sub_refl _|exact Sub.cons rfl Sub.nil|exact Sub.cons rfl (Sub.cons rfl Sub.nil)|exact Sub.nil
structure Rp (l:List Int) (ps:List (List Int)) (t:Option T):Prop where
 items:itemsO t=ps.map pcI
 flat:ps.flatten=l
 val:okR l
 wf:wfO t
 ht:htO t≤1000000
 pcs : ∀p∈ps,1≤p.length∧p.length≤16
 len:l.length≤20000
def ropeD (t:Option T):D:= .pd 1 [.agg [treeD t]] 0 0
theorem flat_ge : ∀ps:List (List Int),(∀p∈ps,1≤p.length)→ps.length≤ps.flatten.length
 | [],_=>Nat.le_refl _
 | p::r,h=>by
  have:=h p (by simp)
  have:=flat_ge r (fun q hq=>h q (by simp [hq]))
  rw [List.flatten_cons,List.length_append,List.length_cons];omega
theorem pc_ok {p:List Int} (h:p.length≤1000):itOk (pcI p):=by
 have h1:=encL_len p
 have h2:=brkN_le p
 unfold itOk pcI
 simp only
 omega
section
variable {l:List Int} {ps:List (List Int)} {t:Option T}
theorem Rp.n (R:Rp l ps t):ps.length≤20000:=by
 have:=flat_ge ps (fun p hp=>(R.pcs p hp).1)
 have:=R.len
 rw [←R.flat] at this
 omega
theorem Rp.tk (R:Rp l ps t):Tk t:=by
 refine ⟨R.wf,R.ht,?_,?_⟩
 ·rw [R.items,List.length_map];have:=R.n;omega
 ·rw [R.items]
  intro i hi
  obtain ⟨p,hp,rfl⟩:=List.mem_map.1 hi
  exact pc_ok (by have:=R.pcs p hp;omega)
theorem Rp.sum (R:Rp l ps t):(sumL (itemsO t)).n=ps.length∧(sumL (itemsO t)).d0=(encL l).length∧(sumL (itemsO t)).d1=l.length∧(sumL (itemsO t)).d2=brkN l:=by
 have:=sum_pcs ps
 rw [R.flat] at this
 rw [R.items];exact this
theorem Rp.take (R:Rp l ps t) (j:Nat):(itemsO t).take j=(ps.take j).map pcI:=by rw [R.items,List.map_take]
theorem Rp.at (R:Rp l ps t) (j:Nat):(itemsO t).getD j it0=pcI (ps.getD j []):=by
 rw [R.items,List.getD_eq_getElem?_getD,List.getD_eq_getElem?_getD,List.getElem?_map]
 cases ps[j]? <;> rfl
end
theorem rtree_fn (t:Option T):OFn Tryz.prog G0 130 [.d (ropeD t)] [] 0 (.d (treeD t)) []:=by
 rw [ropeD,treeD]
 refine vF mixed [0,2,4] Tryz.func130 rfl Tryz.results130 Tryz.ntmps130 ?_
 (refine' zo)
theorem rsize_1 (t:Option T):OFn Tryz.prog G0 79 [.d (ropeD t),iv 1] [] 0 (iv (sumL (itemsO t)).d1) []:=by
 refine vF mixed [0,1,4] Tryz.func79 rfl Tryz.results79 Tryz.ntmps79 ?_
 (refine' zo2 (rtree_fn t) (Sum_fn t))
section
variable {l:List Int} {ps:List (List Int)} {t:Option T}
theorem Runes_fn (R:Rp l ps t):OFn Tryz.prog G0 47 [.d (ropeD t)] [] 0 (iv l.length) []:=by
 rw [←R.sum.2.2.1]
 refine vF mixed [0,2] Tryz.func47 rfl Tryz.results47 Tryz.ntmps47 ?_
 (refine' zo1 (rsize_1 t))
def spotD (s:Sm) (i:It) (b:Int):D:= .agg [.lit (.int .i64 s.n),.lit (.int .i64 s.d0),.lit (.int .i64 s.d1),.lit (.int .i64 s.d2),.lit (.int .i64 s.mx),.lit (.int .i64 s.pos),.lit (.int .i64 i.tag),.lit (.int .i64 i.id),.lit (.int .i64 i.d0),.lit (.int .i64 i.d1),.lit (.int .i64 i.d2),.lit (.int .i64 i.mx),.lit (.string i.text),.lit (.int .i64 b)]
attribute [push_cast] spotD.eq_def
set_option maxHeartbeats 1600000 in
theorem rfind_fn (k:Tk t) (d:Nat) (hd:d≤3) (v b:Int) (hv0:0≤v) (hv:v≤szS (sumL (itemsO t)) d) (hb:b=0∨b=1) :
 ∃j vis:Nat,Spot d v b (itemsO t) j∧OFn Tryz.prog G0 138 [.d (ropeD t),iv d,iv v,iv b] [] 0 (.tup [.d (spotD (sumL ((itemsO t).take j)) ((itemsO t).getD j it0) 0),.po 0 0,iv 0]) [(0,cuB t j vis)]:=by
 obtain ⟨j,vis,sp,r1⟩:=sTo_fn t k 0 0 d hd v b hv0 hv hb
 have hk:=k.len
 have r2:=sItem_fn t k j (by have:=sp.le;omega) vis
 have r3:=sStart_fn t j vis
 have r0:=sNew_fn t
 refine ⟨j,vis,sp,?_⟩
 refine vF mixed [0,1,2,3,8,9,10,11,12,13,24] Tryz.func138 rfl Tryz.results138 Tryz.ntmps138 ?_
 (repeat' (first|(with_reducible first|exact True.intro|refine vD ?_|refine vG ?_|refine vE ?_)|with_reducible refine vQ (rtree_fn t) ?_|with_reducible refine vC (rtree_fn t) ?_|with_reducible refine vK (r0) ?_|with_reducible refine vO (r1) ?_|with_reducible refine vOr (r2) ?_|with_reducible refine vOq (r3) ?_|refine vR ?_|refine v6 ?_|with_reducible refine vN ?_|((with_reducible first|refine vB (fun h =>?_) (fun h =>?_)|refine vM (fun h =>?_) (fun h =>?_))<;>(first|(exfalso;omega)|skip))))
 refine DoneW.now [20] (by decide) ?_;(refine' zg);first|exact Sub_refl _|exact Sub.cons rfl Sub.nil|exact Sub.cons rfl (Sub.cons rfl Sub.nil)|exact Sub.nil
theorem rfind_bad (t:Option T) (d:Nat) (hd:d≤3) (v b:Int) (hv:v<0∨szS (sumL (itemsO t)) d<v) :
 OFn Tryz.prog G0 138 [.d (ropeD t),iv d,iv v,iv b] [] 0 (.tup [.d (spotD Sm.zero it0 0),.d (.lit (.pointer none)),iv 1]) []:=by
 have r0:=sNew_fn t
 have r1:=sTo_bad t 0 0 d hd v b hv
 refine vF mixed [0,1,2,3,8,9,10,11,12,13,24] Tryz.func138 rfl Tryz.results138 Tryz.ntmps138 ?_
 (repeat' (first|(with_reducible first|exact True.intro|refine vD ?_|refine vG ?_|refine vE ?_)|with_reducible refine DoneW.out ?_|with_reducible refine vQ (rtree_fn t) ?_|with_reducible refine vC (rtree_fn t) ?_|with_reducible refine vK (r0) ?_|with_reducible refine vO (r1) ?_|refine vR ?_|refine v6 ?_|with_reducible refine vN ?_|((with_reducible first|refine vB (fun h =>?_) (fun h =>?_)|refine vM (fun h =>?_) (fun h =>?_))<;>(first|(exfalso;omega)|skip))))
end
structure Pl (l:List Int) (a:Nat) (s:Sm) (u q w:List Int):Prop where
 eq:l=u++(q++w)
 d0:s.d0=(encL u).length
 d1:s.d1=u.length
 d2:s.d2=brkN u
 lo:u.length≤a
 hi:a≤u.length+q.length
 lt:a<l.length→a<u.length+q.length
 sz:q.length≤16
theorem reach_1 (a:Nat) (b:Int) (hb:b=1) (s:Sm):reachB 1 a b s=decide ((a:Int)<s.d1):=by
 subst hb;simp [reachB,szS]
section
variable {l:List Int} {ps:List (List Int)} {t:Option T}
theorem Rp.getD_sz (R:Rp l ps t) (j:Nat):(ps.getD j []).length≤16:=by
 rw [List.getD_eq_getElem?_getD]
 cases h:ps[j]? with
 | none=>simp
 | some p=>exact (R.pcs p (List.mem_of_getElem? h)).2
theorem Rp.flat_j (R:Rp l ps t) (j:Nat):l=(ps.take j).flatten++(ps.getD j []++(ps.drop (j+1)).flatten):=by
 rw [←R.flat,List.getD_eq_getElem?_getD]
 cases h:ps[j]? with
 | none=>
  have:ps.length≤j:=List.getElem?_eq_none_iff.1 h
  rw [List.take_of_length_le this,List.drop_of_length_le (by omega)];simp
 | some p=>exact flat_at h
theorem Rp.flat_j1 (R:Rp l ps t) (j:Nat):(ps.take (j+1)).flatten=(ps.take j).flatten++ps.getD j []:=by
 rw [List.getD_eq_getElem?_getD]
 cases h:ps[j]? with
 | none=>
  have:ps.length≤j:=List.getElem?_eq_none_iff.1 h
  rw [List.take_of_length_le this,List.take_of_length_le (by omega)];simp
 | some p=>exact flat_take h
theorem Rp.sum_j (R:Rp l ps t) (j:Nat):(sumL ((itemsO t).take j)).n=(ps.take j).length∧(sumL ((itemsO t).take j)).d0=(encL (ps.take j).flatten).length∧(sumL ((itemsO t).take j)).d1=(ps.take j).flatten.length∧(sumL ((itemsO t).take j)).d2=brkN (ps.take j).flatten:=by
 rw [R.take];exact sum_at ps j
theorem Rp.len' (R:Rp l ps t):(itemsO t).length=ps.length:=by rw [R.items,List.length_map]
theorem spot_pl (R:Rp l ps t) {a j:Nat} (ha:a≤l.length) (sp:Spot 1 a 1 (itemsO t) j):Pl l a (sumL ((itemsO t).take j)) (ps.take j).flatten (ps.getD j []) (ps.drop (j+1)).flatten:=by
 obtain ⟨h1,h2,h3,h4⟩:=R.sum_j j
 have e:=R.flat_j j
 have hlo:(ps.take j).flatten.length≤a:=by
  rcases Nat.eq_zero_or_pos j with h|h
  ·subst h;simp
  ·have:=sp.below j h (Nat.le_refl _)
   rw [reach_1 _ _ rfl,decide_eq_false_iff_not,h3] at this
   omega
 have hlt:a<l.length→a<(ps.take j).flatten.length+(ps.getD j []).length:=fun hal=>by
  rcases Nat.lt_or_ge j ps.length with hj|hj
  ·have:=sp.here (by rw [R.len'];exact hj)
   obtain ⟨_,_,g3,_⟩:=R.sum_j (j+1)
   rw [reach_1 _ _ rfl,decide_eq_true_eq,g3,R.flat_j1,List.length_append] at this
   omega
  ·rw [List.take_of_length_le hj,R.flat] at hlo
   omega
 refine ⟨e,h2,h3,h4,hlo,?_,hlt,R.getD_sz j⟩
 rcases Nat.lt_or_ge a l.length with h|h
 ·have:=hlt h;omega
 ·have hl:=congrArg List.length e
  simp only [List.length_append] at hl
  rcases Nat.lt_or_ge j ps.length with hj|hj
  ·have:=sp.here (by rw [R.len'];exact hj)
   obtain ⟨_,_,g3,_⟩:=R.sum_j (j+1)
   rw [reach_1 _ _ rfl,decide_eq_true_eq,g3,R.flat_j1,List.length_append] at this
   omega
  ·rw [List.take_of_length_le hj,R.flat]
   omega
end
def plS (a:Nat) (s:Sm) (q:List Int) (i:Nat):St:=⟨[(1,iv a),(4,.po 0 0),(6,.po 1 0),(9,iv (s.d1+i)),(34,.it 2)],[(0,.cell [iv 0,iv 0,iv 0,iv 0,iv 0,iv 0,iv 0,iv 0,iv 0,iv 0,iv 0,iv 0,.d (.lit (.string ⟨#[]⟩)),iv 0]),
 (1,.cell [iv s.n,iv s.d0,iv s.d1,iv s.d2,iv s.mx,iv s.pos,iv (pcI q).tag,iv (pcI q).id,iv (pcI q).d0,iv (pcI q).d1,iv (pcI q).d2,iv (pcI q).mx,.d (.lit (.string (txt q))),iv (txt q).size]),(2,.iter (txt q) (encL (q.take i)).length)],3⟩
attribute [push_cast] plS.eq_def
theorem pc_text (q:List Int):(pcI q).text=txt q:=rfl
attribute [push_cast] pc_text
section
variable {l:List Int} {ps:List (List Int)} {t:Option T}
theorem szS1 (s:Sm):szS s 1=s.d1:=rfl
theorem take_next {q:List Int} {i:Nat} {r:Int} (h:q[i]? = some r):(encL (q.take (i+1))).length=(encL (q.take i)).length+(Utf8.encode r).size:=by
 rw [take_snoc1 h,encL_app,List.length_append,enc_one,Array.length_toList];rfl
theorem dec_at {q:List Int} (hv:okR q) {i:Nat} {r:Int} (h:q[i]? = some r):((Utf8.decode (txt q) (encL (q.take i)).length).1:Int)=r∧(Utf8.decode (txt q) (encL (q.take i)).length).2=(Utf8.encode r).size:=by
 have e:q.take i++r::q.drop (i+1)=q:=by rw [←drop_is h,List.take_append_drop]
 have:=dec_mid (q.take i) (q.drop (i+1)) r (hv r (List.mem_of_getElem? h))
 rwa [e] at this
theorem enc_in {q:List Int} {i:Nat} (h:i<q.length):(encL (q.take i)).length<(txt q).size:=by
 have:=encL_lt q h (Nat.le_refl _)
 rw [List.take_of_length_le (Nat.le_refl _)] at this
 rw [txt_size];exact this
theorem enc_out {q:List Int} {i:Nat} (h:q.length≤i):(encL (q.take i)).length=(txt q).size:=by rw [List.take_of_length_le h,txt_size]
set_option maxHeartbeats 1600000 in
theorem place_fn (R:Rp l ps t) (a:Nat) (ha:a≤l.length) :
 ∃s u q w,Pl l a s u q w∧OFn Tryz.prog G0 88 [.d (ropeD t),iv a] [] 0 (.tup [.d (spotD s (pcI q) (encL (q.take (a - u.length))).length),iv 0]) []:=by
 have hlen:=R.len
 obtain ⟨j,vis,sp,r1⟩:=rfind_fn R.tk 1 (by decide) (a:Int) 1 (by omega) (by rw [szS1,R.sum.2.2.1];omega) (.inr rfl)
 have p:=spot_pl R ha sp
 rw [R.at j] at r1
 refine ⟨_,_,_,_,p,?_⟩
 have hvq:okR (ps.getD j []):=fun x hx=>R.val x (by rw [p.eq];exact List.mem_append_right _ (List.mem_append_left _ hx))
 generalize sumL ((itemsO t).take j)=s at p r1
 generalize (ps.take j).flatten=u at p r1
 generalize ps.getD j []=q at p r1 hvq
 generalize (ps.drop (j+1)).flatten=w at p
 obtain ⟨e,d0,d1,d2,lo,hi,lt,sz⟩:=p
 have hq64:=encL_len q
 refine vF mixed [0,1,4,5,6,8,9,10,19,34,35,36,40] Tryz.func88 rfl Tryz.results88 Tryz.ntmps88 ?_
 (refine' zgK r1)
 refine vL (lv:=[0,1,4,5,6,8,9,10,19,34,35,36,40]) mixed (plS a s q) (fun i=>i≤q.length∧u.length+i≤a) (fun i=>q.length - i) (0) ((GhW.go [1,4,6,9,34] (by exact vT) rfl)) ?_ ?_
 ·exact ⟨Nat.zero_le _,lo⟩
 rintro i ⟨h1,h2⟩
 rcases Nat.lt_or_ge i q.length with hlt|hge
 ·obtain ⟨r,hr⟩ : ∃r,q[i]? = some r:=⟨_,List.getElem?_eq_getElem hlt⟩
  have hin:=enc_in hlt
  obtain ⟨g1,g2⟩:=dec_at hvq hr
  have g3:=take_next hr
  (refine' zg)
  ·obtain rfl:i=a - u.length:=by omega
   refine DoneW.now [] (by decide) ?_;(refine' zg);first|exact Sub_refl _|exact Sub.cons rfl Sub.nil|exact Sub.cons rfl (Sub.cons rfl Sub.nil)|exact Sub.nil
  ·refine AgW.go (i+1) [1,4,6,9,34] (by rw [plS,g3,←g2];exact vT) ?_ ?_
   ·show q.length - (i+1)<q.length - i
    omega
   ·exact ⟨hlt,by omega⟩
 ·have hout:=enc_out hge
  (refine' zg)
  obtain rfl:i=a - u.length:=by omega
  rw [hout]
  refine DoneW.now [] (by decide) ?_;(refine' zg);first|exact Sub_refl _|exact Sub.cons rfl Sub.nil|exact Sub.cons rfl (Sub.cons rfl Sub.nil)|exact Sub.nil
end
section
variable {l:List Int} {ps:List (List Int)} {t:Option T}
theorem Pl.take {a:Nat} {s:Sm} {u q w:List Int} (p:Pl l a s u q w):l.take a=u++q.take (a - u.length):=by
 have h1:=p.lo
 have h2:=p.hi
 rw [p.eq,List.take_append,List.take_of_length_le (l:=u) (by omega),List.take_append,show a - u.length - q.length=0 by omega,List.take_zero,List.append_nil]
theorem ByteAt_fn (R:Rp l ps t) (a:Nat) (ha:a≤l.length):OFn Tryz.prog G0 162 [.d (ropeD t),iv a] [] 0 (.tup [iv (encL (l.take a)).length,iv 0]) []:=by
 obtain ⟨s,u,q,w,p,r1⟩:=place_fn R a ha
 have hlen:=R.len
 have e:=encL_len (l.take a)
 have e0:s.d0+((encL (q.take (a - u.length))).length:Int)=(encL (l.take a)).length:=by
  rw [p.take,encL_app,List.length_append,p.d0];omega
 have e1:(l.take a).length≤a:=by simp;omega
 rw [←e0]
 refine vF mixed [0,1,4,5,6,7,15] Tryz.func162 rfl Tryz.results162 Tryz.ntmps162 ?_
 (refine' zo1 r1)
end
section
variable {l:List Int} {ps:List (List Int)} {t:Option T}
theorem brk_size:({ data :=#[10] } : ByteArray).size=1:=rfl
theorem brk_at:((#[10]:Array UInt8).getD 0 0).toNat=10:=rfl
attribute [push_cast] brk_size brk_at
theorem Count_brk (q:List Int) (hv:okR q) (hl:q.length≤1000000):OFn Tryz.prog G0 89 [.d (.lit (.string (txt q))),.d (.lit (.string ⟨#[10]⟩))] [] 0 (iv (brkN q)) []:=by
 have e:cntB (txt q) (10:Int).toNat.toUInt8=brkN q:=cntB_txt q hv
 have e2:=brkN_le q
 rw [←e]
 refine vF mixed [0,1,4,5,6,9,15,24] Tryz.func89 rfl Tryz.results89 Tryz.ntmps89 ?_
 (refine' zo)
 refine vX (iv (cntB (txt q) (10:Int).toNat.toUInt8)) ?_
 (refine' zo)
theorem Ahead_fn (R:Rp l ps t) (a:Nat) (ha:a≤l.length):OFn Tryz.prog G0 53 [.d (ropeD t),iv a] [] 0 (.tup [iv (brkN (l.take a)),iv 0]) []:=by
 obtain ⟨s,u,q,w,p,r1⟩:=place_fn R a ha
 have h1:=p.lo
 have h2:=p.hi
 have h3:=p.sz
 have hlen:=R.len
 have hvq:okR (q.take (a - u.length)):=fun x hx=>R.val x (by rw [p.eq];exact List.mem_append_right _ (List.mem_append_left _ (List.mem_of_mem_take hx)))
 have e0:s.d2+(brkN (q.take (a - u.length)):Int)=brkN (l.take a):=by rw [p.take,brkN_app,p.d2];omega
 have e1:=brkN_le (l.take a)
 have e2:=encL_take_le q (a - u.length)
 have e3:=encL_len q
 have e5:=txt_size q
 have e6:(l.take a).length≤a:=by simp;omega
 have hc : ∀i j,i=0→j=(encL (q.take (a - u.length))).length→(txt q).extract i j=txt (q.take (a - u.length)):=fun i j hi hj=>by
  have:=txt_cut [] (q.take (a - u.length)) (q.drop (a - u.length)) i j hi (by rw [hj,encL_nil];simp)
  rwa [List.nil_append,List.take_append_drop] at this
 have r2:=Count_brk (q.take (a - u.length)) hvq (by simp;omega)
 rw [←e0]
 refine vF mixed [0,1,4,5,6,7,15] Tryz.func53 rfl Tryz.results53 Tryz.ntmps53 ?_
 (refine' zo1 r1)
 rw [hc _ _ (by omega) (by omega)]
 (refine' zo1 r2)
end
def bhS (k:Int) (s:Sm) (q:List Int) (i:Nat):St:=⟨[(1,iv k),(9,iv (s.d1+i)),(10,iv (s.d2+brkN (q.take i))),(36,.it 0)],[(0,.iter (txt q) (encL (q.take i)).length)],1⟩
attribute [push_cast] bhS.eq_def brkN_nil encL_nil
theorem szS2 (s:Sm):szS s 2=s.d2:=rfl
theorem reach_2 (k:Nat) (b:Int) (hb:b=0) (s:Sm):reachB 2 k b s=decide ((k:Int)≤s.d2):=by
 subst hb
 unfold reachB
 rw [szS2,Bool.eq_iff_iff]
 simp only [Bool.or_eq_true,Bool.and_eq_true,decide_eq_true_eq,beq_iff_eq,true_and]
 omega
section
variable {l:List Int} {ps:List (List Int)} {t:Option T}
theorem Behind_zero (t:Option T):OFn Tryz.prog G0 123 [.d (ropeD t),iv 0] [] 0 (.tup [iv 0,iv 0]) []:=by
 refine vF mixed [0,1,4,5,6,8,9,10,12,14,23,36,37,38,43,48] Tryz.func123 rfl Tryz.results123 Tryz.ntmps123 ?_
 (refine' zo)
theorem Behind_bad (R:Rp l ps t) (k:Int) (hk:k<0∨(brkN l:Int)<k):OFn Tryz.prog G0 123 [.d (ropeD t),iv k] [] 0 (.tup [iv 0,iv 1]) []:=by
 have r1:=rfind_bad t 2 (by decide) k 0 (by rw [szS2,R.sum.2.2.2];exact hk)
 refine vF mixed [0,1,4,5,6,8,9,10,12,14,23,36,37,38,43,48] Tryz.func123 rfl Tryz.results123 Tryz.ntmps123 ?_
 (refine' zo1 r1)
set_option maxHeartbeats 1600000 in
theorem Behind_fn (R:Rp l ps t) (k:Nat) (hk:k≤brkN l):OFn Tryz.prog G0 123 [.d (ropeD t),iv k] [] 0 (.tup [iv (behL l k),iv 0]) []:=by
 rcases Nat.eq_zero_or_pos k with rfl|hk0
 ·rw [behL_0];exact Behind_zero t
 have hlen:=R.len
 obtain ⟨j,vis,sp,r1⟩:=rfind_fn R.tk 2 (by decide) (k:Int) 0 (by omega) (by rw [szS2,R.sum.2.2.2];omega) (.inl rfl)
 rw [R.at j] at r1
 have e:=R.flat_j j
 obtain ⟨_,d0,d1,d2⟩:=R.sum_j j
 have hsz:=R.getD_sz j
 have hbu:brkN (ps.take j).flatten<k:=by
  rcases Nat.eq_zero_or_pos j with h|h
  ·subst h;simpa [brkN] using hk0
  ·have:=sp.below j h (Nat.le_refl _)
   rw [reach_2 _ _ rfl,decide_eq_false_iff_not,d2] at this
   omega
 have hbq:k≤brkN (ps.take j).flatten+brkN (ps.getD j []):=by
  rcases Nat.lt_or_ge j ps.length with hj|hj
  ·have:=sp.here (by rw [R.len'];exact hj)
   obtain ⟨_,_,_,g4⟩:=R.sum_j (j+1)
   rw [reach_2 _ _ rfl,decide_eq_true_eq,g4,R.flat_j1,brkN_app] at this
   omega
  ·rw [List.take_of_length_le hj,R.flat] at hbu
   omega
 have hvq:okR (ps.getD j []):=fun x hx=>R.val x (by rw [e];exact List.mem_append_right _ (List.mem_append_left _ hx))
 have hul:=congrArg List.length e
 simp only [List.length_append] at hul
 generalize sumL ((itemsO t).take j)=s at r1 d0 d1 d2
 generalize (ps.take j).flatten=u at *
 generalize ps.getD j []=q at *
 generalize (ps.drop (j+1)).flatten=w at *
 have hq64:=encL_len q
 have hbl:=brkN_le u
 have hbr:=brkN_le q
 have b0:brkN ([]:List Int)=0:=rfl
 refine vF mixed [0,1,4,5,6,8,9,10,12,14,23,36,37,38,43,48] Tryz.func123 rfl Tryz.results123 Tryz.ntmps123 ?_
 (refine' zgK r1)
 refine vL (lv:=[0,1,4,5,6,8,9,10,12,14,23,36,37,38,43,48]) mixed (bhS k s q) (fun i=>i≤q.length∧brkN u+brkN (q.take i)<k) (fun i=>q.length - i) (0) ((GhW.go [1,9,10,36] (by exact vT) rfl)) ?_ ?_
 ·exact ⟨Nat.zero_le _,by rw [List.take_zero,brkN_nil];omega⟩
 rintro i ⟨h1,h2⟩
 have hb3:=brkN_take_le q i
 rcases Nat.lt_or_ge i q.length with hlt|hge
 ·obtain ⟨r,hr⟩ : ∃r,q[i]? = some r:=⟨_,List.getElem?_eq_getElem hlt⟩
  have hin:=enc_in hlt
  obtain ⟨g1,g2⟩:=dec_at hvq hr
  have g3:=take_next hr
  have g4:brkN (q.take (i+1))=brkN (q.take i)+(if r=10 then 1 else 0):=by rw [take_snoc1 hr,brkN_snoc]
  have fin:r=10→brkN u+brkN (q.take i)+1=k→behL l k=u.length+i+1:=fun h10 hkk=>by
   have e3:q++w=q.take i++(r::q.drop (i+1)++w):=by rw [←List.append_assoc,←drop_is hr,List.take_append_drop]
   rw [e,behL_skip u _ k (by omega),e3,behL_skip _ _ _ (by omega),show k - brkN u - brkN (q.take i)=1 by omega,List.cons_append,behL,if_pos h10,behL_0,List.length_take,Nat.min_eq_left (by omega)]
   omega
  (refine' zo)
  ·rw [fin (by omega) (by omega),d1]
   congr 4
  ·rw [g1] at *
   rw [if_pos (by assumption)] at g4
   refine AgW.go (i+1) [1,9,10,36] (by rw [bhS,g3,g4,←g2];exact vT) ?_ ?_
   ·show q.length - (i+1)<q.length - i
    omega
   ·exact ⟨hlt,by omega⟩
  ·rw [g1] at *
   rw [if_neg (by assumption)] at g4
   refine AgW.go (i+1) [1,9,10,36] (by rw [bhS,g3,g4,←g2];exact vT) ?_ ?_
   ·show q.length - (i+1)<q.length - i
    omega
   ·exact ⟨hlt,by omega⟩
 ·rw [List.take_of_length_le hge] at h2
  omega
end
abbrev bdT:Option Nat:=some 272
def bd0:Blk:= .cell [.d (.lit (.pointer none)),.d (.lit (.slice none 0 0))] bdT
def bd1 (a r n:Nat):Blk:= .cell [.po a 0,.so r 1 0 n] bdT
def sblR (b:List UInt8):Blk:= .row 1 (b.map byD) (some 5)
attribute [push_cast] bd0.eq_def bd1.eq_def sblR.eq_def
@[push_cast] theorem unsP1:ptT Tryz.prog 270=some 272:=by kernel_rfl
@[push_cast] theorem unsP2:ptT Tryz.prog 310=none:=by kernel_rfl
@[push_cast] theorem unsU1:upT Tryz.prog 310=true:=by kernel_rfl
@[push_cast] theorem unsU2:upT Tryz.prog 270=false:=by kernel_rfl
@[push_cast] theorem unsZ:szT Tryz.prog 272=true:=by kernel_rfl
@[push_cast] theorem unsE:elT Tryz.prog 209=some 5:=by kernel_rfl
@[push_cast] theorem unsC:Tryz.prog.cellsOf 272=2:=by kernel_rfl
@[push_cast] theorem unsQ:ptT Tryz.prog 302=some 5:=by kernel_rfl
@[push_cast] theorem unsC1:Tryz.prog.cellsOf 5=1:=by kernel_rfl
@[push_cast] theorem unsK:ptK Tryz.prog 270=true:=by kernel_rfl
theorem decTrue:decide True=true:=rfl
attribute [push_cast] List.isEmpty_cons decTrue
section
variable {P:Program} {G:Gl} {g:Operand→V} {σ:Sig} {id:Nat} {K:V→Sig→Prop}
@[push_cast] theorem quietW_usd (x:Operand) (t:Nat):quietW P G (.call ⟨.builtin .unsafeSliceData,#[x],#[t]⟩) g σ id K=pvW (usdR (g x)) (fun v=>K v []):=by
 simp only [quietW,quietR,pureR,callR,aR,resQ]
 cases usdR (g x) with
 | none=>rfl
 | some x=>obtain ⟨p,v⟩:=x;rfl
@[push_cast] theorem stepW_us (x n:Operand) (t t':Nat):stepW P G (.call ⟨.builtin .unsafeString,#[x,n],#[t,t']⟩) g σ id K=pvsW (usR P t (g x) (g n) σ) K:=by
 simp only [stepW,stepR,quietR,pureR,callR,aR,eR,resQ]
 cases usR P t (g x) (g n) σ with
 | none=>rfl
 | some x=>obtain ⟨p,v,s⟩:=x;simp [pvsW,optW]
end
theorem usR_pe {P:Program} {pt id n e:Nat} {b:List UInt8} {σ:Sig} (hg:σ.get id=some (.row 1 (b.map byD) (some e))) (hp:ptT P pt=some e) (hc:P.cellsOf e=1) (hn:b.length=n) (h0:0<n) (hm:n≤1000000) :
 usR P pt (.pe id 1 0 0) (iv n) σ=some (∀y∈b.map byD,isByte y,.d (.lit (.string ⟨b.toArray⟩)),σ.del id):=by
 have e1:(b.map byD).take ((n:Int)).toNat=b.map byD:=List.take_of_length_le (by simp;omega)
 simp only [usR,hg,hp,hc,e1,bytes_map]
 rw [if_pos]
 refine ⟨⟨?_,?_⟩,?_,?_,?_,?_,?_⟩<;>first|trivial|(simp;omega)
theorem check0:OFn Tryz.prog G0 189 [.po 0 0] [(0,bd0)] 1 (.tup []) [(0,.cell [.po 0 0,.d (.lit (.slice none 0 0))] bdT)]:=by
 simp only [bd0,bd1,sblR]
 refine vF mixed [0,6,19] Tryz.func189 rfl Tryz.results189 Tryz.ntmps189 ?_
 (refine' zg)
 refine vX (.po 0 0) ?_
 (refine' zg)
 refine DoneW.now [] (by decide) ?_;(refine' zg);first|exact Sub_refl _|exact Sub.cons rfl Sub.nil|exact Sub.cons rfl (Sub.cons rfl Sub.nil)|exact Sub.nil
theorem check1 (n:Nat) (b:List UInt8):OFn Tryz.prog G0 189 [.po 0 0] [(0,bd1 0 1 n),(1,sblR b)] 2 (.tup []) [(0,bd1 0 1 n),(1,sblR b)]:=by
 simp only [bd0,bd1,sblR]
 refine vF mixed [0,6,19] Tryz.func189 rfl Tryz.results189 Tryz.ntmps189 ?_
 (refine' zg)
 refine DoneW.now [] (by decide) ?_;(refine' zg);first|exact Sub_refl _|exact Sub.cons rfl Sub.nil|exact Sub.cons rfl (Sub.cons rfl Sub.nil)|exact Sub.nil
theorem bLen0:OFn Tryz.prog G0 164 [.po 0 0] [(0,bd0)] 1 (iv 0) [(0,bd0)]:=by
 simp only [bd0]
 refine vF mixed [0,2] Tryz.func164 rfl Tryz.results164 Tryz.ntmps164 ?_
 (refine' zg)
 refine DoneW.now [] (by decide) ?_;(refine' zg);first|exact Sub_refl _|exact Sub.cons rfl Sub.nil|exact Sub.cons rfl (Sub.cons rfl Sub.nil)|exact Sub.nil
theorem bLen1 (n:Nat) (b:List UInt8):OFn Tryz.prog G0 164 [.po 0 0] [(0,bd1 0 1 n),(1,sblR b)] 2 (iv n) [(0,bd1 0 1 n),(1,sblR b)]:=by
 simp only [bd1,sblR]
 refine vF mixed [0,2] Tryz.func164 rfl Tryz.results164 Tryz.ntmps164 ?_
 (refine' zg)
 refine DoneW.now [] (by decide) ?_;(refine' zg);first|exact Sub_refl _|exact Sub.cons rfl Sub.nil|exact Sub.cons rfl (Sub.cons rfl Sub.nil)|exact Sub.nil
theorem bWrite0 (s:ByteArray) (hs:s.size≤1000000):OFn Tryz.prog G0 166 [.po 0 0,.d (.lit (.string s))] [(0,bd0)] 1 (.tup [iv s.size,.d (.lit .nilIface)]) [(0,bd1 0 1 s.size),(1,sblR s.data.toList)]:=by
 have r1:=check0
 simp only [bd0,bd1,sblR] at r1 ⊢
 refine vF mixed [0,1,4,5] Tryz.func166 rfl Tryz.results166 Tryz.ntmps166 ?_
 (refine' zgO r1)
 refine DoneW.now [41] (by decide) ?_
 (refine' zg)
 exact Sub.cons rfl (Sub.cons rfl Sub.nil)
theorem bWrite1 (b:List UInt8) (n:Nat) (hn:b.length=n) (hn':n≤1000000) (s:ByteArray) (hs:s.size≤1000000):OFn Tryz.prog G0 166 [.po 0 0,.d (.lit (.string s))] [(0,bd1 0 1 n),(1,sblR b)] 2 (.tup [iv s.size,.d (.lit .nilIface)]) [(0,bd1 0 2 (n+s.size)),(2,sblR (b++s.data.toList))]:=by
 have r1:=check1 n b
 simp only [bd1,sblR] at r1 ⊢
 refine vF mixed [0,1,4,5] Tryz.func166 rfl Tryz.results166 Tryz.ntmps166 ?_
 (refine' zg)
 refine CallW.two 0 1 r1 ?_
 (refine' zg)
 have e:(b++s.data.toList).length=n+s.size:=by rw [List.length_append,hn,Array.length_toList];rfl
 rw [e]
 refine DoneW.now [42] (by decide) ?_
 (refine' zg)
 exact Sub.cons rfl (Sub.cons rfl Sub.nil)
theorem bString (b:List UInt8) (n:Nat) (hn:b.length=n) (h0:0<n) (hn':n≤1000000):OFn Tryz.prog G0 168 [.po 0 0] [(0,bd1 0 1 n),(1,sblR b)] 2 (.d (.lit (.string ⟨b.toArray⟩))) []:=by
 simp only [bd1,sblR]
 refine vF mixed [0,2] Tryz.func168 rfl Tryz.results168 Tryz.ntmps168 ?_
 (repeat' (first|(with_reducible first|exact True.intro|refine vD ?_|refine vG ?_|refine vE ?_)|(simp -implicitDefEqProofs -dsimp only [if_pos h0])|refine vR ?_|refine v6 ?_|with_reducible refine vN ?_|((with_reducible first|refine vB (fun h =>?_) (fun h =>?_)|refine vM (fun h =>?_) (fun h =>?_))<;>(first|(exfalso;omega)|skip))))
 rw [usR_pe rfl unsQ unsC1 hn h0 hn']
 (refine' zo)
theorem take_cut {α:Type} (l:List α) {i j:Nat} (h:i≤j):l.take j=l.take i++(l.take j).drop i:=by
 conv=>lhs;rw [←List.take_append_drop i (l.take j),List.take_take,Nat.min_eq_left h]
def slS (t:Option T) (ps:List (List Int)) (j:Nat) (vis:Int) (a b:Nat):Nat→St
 | 0=>⟨[(8,iv a),(10,iv b),(12,.po 0 0),(14,.po 1 0),(15,iv (sumL ((itemsO t).take j)).d0)],[(0,cuB t j vis),(1,bd0)],2⟩
 | i+1=>⟨[(8,iv a),(10,iv b),(12,.po 0 0),(14,.po 1 0),(15,iv (sumL ((itemsO t).take j)).d0)],[(0,cuB t (j+(i+1)) vis),(1,bd1 1 2 (encL ((ps.drop j).take (i+1)).flatten).length),(2,sblR (encL ((ps.drop j).take (i+1)).flatten))],3⟩
attribute [push_cast] slS.eq_1 slS.eq_2
theorem flat_ji (ps:List (List Int)) (j i:Nat):(ps.take (j+i)).flatten=(ps.take j).flatten++((ps.drop j).take i).flatten:=by
 rw [List.take_add,List.flatten_append]
theorem drop_take_next {ps:List (List Int)} {j i:Nat} {q:List Int} (h:ps[j+i]? = some q):((ps.drop j).take (i+1)).flatten=((ps.drop j).take i).flatten++q:=by
 rw [List.take_add_one,List.getElem?_drop,h,List.flatten_append];simp
section
variable {l:List Int} {ps:List (List Int)} {t:Option T}
theorem slice_eq {l u X:List Int} {from' to m:Nat} (hu:u=l.take u.length) (h1:u.length≤from') (h2:from'≤to) (hm:to≤m) (hX:u++X=l.take m) (i j:Nat) (hi:i+(encL u).length=(encL (l.take from')).length) (hj:j+(encL u).length=(encL (l.take to)).length) :
 (txt X).extract i j=txt ((l.take to).drop from'):=by
 have e1:=take_cut l h1
 have e2:=take_cut l h2
 have e3:=take_cut l hm
 rw [←hu] at e1
 have eX:X=(l.take from').drop u.length++((l.take to).drop from'++(l.take m).drop to):=by
  have:u++X=u++((l.take from').drop u.length++((l.take to).drop from'++(l.take m).drop to)):=by
   rw [hX]
   conv=>lhs;rw [e3,e2,e1]
   simp only [List.append_assoc]
  exact List.append_cancel_left this
 rw [eX]
 have g1:=congrArg (fun x=>(encL x).length) e1
 have g2:=congrArg (fun x=>(encL x).length) e2
 simp only [encL_app,List.length_append] at g1 g2
 exact txt_cut _ _ _ i j (by omega) (by omega)
set_option maxHeartbeats 3200000 in
theorem rSlice_fn (R:Rp l ps t) (from' to:Nat) (h1:from'≤to) (h2:to≤l.length):OFn Tryz.prog G0 128 [.d (ropeD t),iv from',iv to] [] 0 (.tup [.d (.lit (.string (txt ((l.take to).drop from')))),iv 0]) []:=by
 have ra:=ByteAt_fn R from' (by omega)
 have rb:=ByteAt_fn R to h2
 have hlen:=R.len
 obtain ⟨j,vis,sp,r1⟩:=rfind_fn R.tk 1 (by decide) (from':Int) 1 (by omega) (by rw [szS1,R.sum.2.2.1];omega) (.inr rfl)
 have p:=spot_pl R (by omega) sp
 have e0:=p.d0
 have hul:=p.lo
 have hu:(ps.take j).flatten=l.take (ps.take j).flatten.length:=by
  conv=>rhs;rw [R.flat_j j]
  rw [List.take_left]
 have hst:=sStart_fn t j vis
 have hjle:=sp.le
 rw [R.len'] at hjle
 have hn:=R.n
 have hbb:=encL_take_le l to
 have hab:=encL_len l
 have haa:=encL_take_le l from'
 obtain ⟨a,ea⟩ : ∃a,a=(encL (l.take from')).length:=⟨_,rfl⟩
 obtain ⟨b,eb⟩ : ∃b,b=(encL (l.take to)).length:=⟨_,rfl⟩
 obtain ⟨st,est⟩ : ∃st,st=(encL (ps.take j).flatten).length:=⟨_,rfl⟩
 rw [←ea] at ra haa
 rw [←eb] at rb hbb
 rw [←est] at e0
 have fin : ∀i,j+i≤ps.length→b≤st+(encL ((ps.drop j).take i).flatten).length→to≤(ps.take (j+i)).flatten.length:=fun i hi hb=>by
  have e1:=flat_ji ps j i
  have e2:(ps.take (j+i)).flatten=l.take (ps.take (j+i)).flatten.length:=by
   conv=>rhs;rw [R.flat_j (j+i)]
   rw [List.take_left]
  have e3:(encL (ps.take (j+i)).flatten).length=st+(encL ((ps.drop j).take i).flatten).length:=by rw [e1,encL_app,List.length_append,est]
  rcases Nat.lt_or_ge (ps.take (j+i)).flatten.length to with hlt|hge
  ·have:=encL_lt l hlt h2
   rw [←e2] at this
   omega
  ·exact hge
 have mon:(encL (ps.take j).flatten).length≤(encL (l.take from')).length:=by
  rw [hu]
  have e:=take_cut l hul
  have g:=congrArg (fun x=>(encL x).length) e
  simp only [encL_app,List.length_append] at g
  omega
 have mon2:(encL (l.take from')).length≤(encL (l.take to)).length:=by
  have e:=take_cut l h1
  have g:=congrArg (fun x=>(encL x).length) e
  simp only [encL_app,List.length_append] at g
  omega
 refine vF mixed [0,1,2,6,7,8,9,10,12,14,15,16,30,38,55,67] Tryz.func128 rfl Tryz.results128 Tryz.ntmps128 ?_
 (repeat' (first|(with_reducible first|exact True.intro|refine vD ?_|refine vG ?_|refine vE ?_)|with_reducible refine vC (ra) ?_|with_reducible refine vC (rb) ?_|with_reducible refine vK (r1) ?_|with_reducible refine vOr (hst) ?_|refine vR ?_|refine v6 ?_|with_reducible refine vN ?_|((with_reducible first|refine vB (fun h =>?_) (fun h =>?_)|refine vM (fun h =>?_) (fun h =>?_))<;>(first|(exfalso;omega)|skip))))
 refine vL (lv:=[0,1,2,6,7,8,9,10,12,14,15,16,30,38,55,67]) mixed (slS t ps j vis a b) (fun i=>j+i≤ps.length) (fun i=>ps.length - i) (0) ((GhW.go [8,10,12,14,15] (by exact vT) rfl)) ?_ ?_
 ·omega
 intro i hi
 have fini:=fin i hi
 have e3:(encL (ps.take (j+i)).flatten).length=st+(encL ((ps.drop j).take i).flatten).length:=by rw [flat_ji,encL_app,List.length_append,est]
 have e4:(ps.take (j+i)).flatten=l.take (ps.take (j+i)).flatten.length:=by
  conv=>rhs;rw [R.flat_j (j+i)]
  rw [List.take_left]
 have e5:=encL_take_le l (ps.take (j+i)).flatten.length
 rw [←e4,e3] at e5
 have done:b≤st+(encL ((ps.drop j).take i).flatten).length → ∀x y:Nat,x+st=a→y+st=b→(txt ((ps.drop j).take i).flatten).extract x y=txt ((l.take to).drop from'):=fun hb x y hx hy=>
  slice_eq (m:=(ps.take (j+i)).flatten.length) hu hul h1 (fini hb) (by rw [←flat_ji];exact e4) x y (by omega) (by omega)
 have hlt : ¬b≤st+(encL ((ps.drop j).take i).flatten).length→j+i<ps.length:=fun hb=>by
  rcases Nat.lt_or_ge (j+i) ps.length with h|h
  ·exact h
  ·rw [List.take_of_length_le h,R.flat] at e3
   omega
 by_cases hb:b≤st+(encL ((ps.drop j).take i).flatten).length
 ·have dn:=done hb
  cases i with
  | zero=>
   simp only [List.take_zero,List.flatten_nil,encL_nil,List.length_nil,Nat.add_zero] at hb
   have hft:from'=to:=by
    have:=fini (by simpa [encL_nil] using hb)
    rw [Nat.add_zero] at this
    omega
   have he:txt ((l.take to).drop from')=⟨#[]⟩:=by
    rw [hft,List.drop_of_length_le (by simp;omega)];rfl
   rw [he]
   have r0:=bLen0
   (repeat' (first|(with_reducible first|exact True.intro|refine vD ?_|refine vG ?_|refine vE ?_)|with_reducible refine vOr (r0) ?_|with_reducible refine vOq (r0) ?_|with_reducible refine DoneW.out ?_|refine vR ?_|refine v6 ?_|with_reducible refine vN ?_|((with_reducible first|refine vB (fun h =>?_) (fun h =>?_)|refine vM (fun h =>?_) (fun h =>?_))<;>(first|(exfalso;omega)|skip))))
  | succ i=>
   have hX:=encL_ge ((ps.drop j).take (i+1)).flatten
   have h0:0<((ps.drop j).take (i+1)).flatten.length:=by
    have:=flat_ge ((ps.drop j).take (i+1)) (fun p hp=>(R.pcs p (List.mem_of_mem_drop (List.mem_of_mem_take hp))).1)
    rw [List.length_take,List.length_drop] at this
    omega
   have r0:=bLen1 (encL ((ps.drop j).take (i+1)).flatten).length (encL ((ps.drop j).take (i+1)).flatten)
   have r2:=bString (encL ((ps.drop j).take (i+1)).flatten) _ rfl (by omega) (by omega)
   (refine' zg)
   refine CallW.two 1 2 r0 ?_
   (refine' zg)
   refine CallW.two 1 2 r0 ?_
   (refine' zg)
   refine CallW.twoN 1 2 r2 ?_
   have hsz:(⟨(encL ((ps.drop j).take (i+1)).flatten).toArray⟩:ByteArray).size=(encL ((ps.drop j).take (i+1)).flatten).length:=txt_size _
   have dn' : ∀x y:Nat,x+st=a→y+st=b→(⟨(encL ((ps.drop j).take (i+1)).flatten).toArray⟩:ByteArray).extract x y=txt ((l.take to).drop from'):=dn
   (refine' zg)
   rw [dn' _ _ (by omega) (by omega)]
   (refine' zo)
 ·have hj:=hlt hb
  obtain ⟨q,hq⟩ : ∃q,ps[j+i]? = some q:=⟨_,List.getElem?_eq_getElem hj⟩
  have hqd:ps.getD (j+i) []=q:=by rw [List.getD_eq_getElem?_getD,hq];rfl
  have hqs:=(R.pcs q (List.mem_of_getElem? hq)).2
  have hq4:=encL_len q
  have hq5:=txt_size q
  have ri:=sItem_fn t R.tk (j+i) (by omega) vis
  have rn:=sNext_fn t R.tk (j+i) (by rw [R.len'];exact hj) vis
  rw [R.at,hqd] at ri
  have hd:=drop_take_next hq
  cases i with
  | zero=>
   have r0:=bLen0
   have r3:=bWrite0 (txt q) (by omega)
   rw [Nat.add_zero] at ri rn
   simp only [List.take_zero,List.flatten_nil,encL_nil,List.length_nil,Nat.add_zero] at hb
   (repeat' (first|(with_reducible first|exact True.intro|refine vD ?_|refine vG ?_|refine vE ?_)|with_reducible refine vOr (r0) ?_|with_reducible refine vOr (ri) ?_|refine vR ?_|refine v6 ?_|with_reducible refine vN ?_|((with_reducible first|refine vB (fun h =>?_) (fun h =>?_)|refine vM (fun h =>?_) (fun h =>?_))<;>(first|(exfalso;omega)|skip))))
   refine CallW.oneN 1 r3 ?_
   (refine' zgO rn)
   rw [List.take_zero,List.flatten_nil,List.nil_append] at hd
   refine AgW.go (0+1) [8,10,12,14,15] (by rw [slS,hd,txt_size,txt_list];exact vT) ?_ ?_
   ·show ps.length - 1<ps.length - 0
    omega
   ·show j+1≤ps.length
    omega
  | succ i=>
   have r0:=bLen1 (encL ((ps.drop j).take (i+1)).flatten).length (encL ((ps.drop j).take (i+1)).flatten)
   have r3:=bWrite1 (encL ((ps.drop j).take (i+1)).flatten) _ rfl (by omega) (txt q) (by omega)
   (refine' zgR ri)
   refine CallW.two 1 2 r0 ?_
   (refine' zgR ri)
   refine CallW.twoN 1 2 r3 ?_
   (refine' zgO rn)
   refine AgW.go (i+1+1) [8,10,12,14,15] (by rw [slS,hd,txt_size,txt_list,encL_app,List.length_append];exact vT) ?_ ?_
   ·show ps.length - (i+1+1)<ps.length - (i+1)
    omega
   ·show j+(i+1+1)≤ps.length
    omega
end
def pcS (l:List Int) (i:Nat):St:=⟨[(2,.po 0 0),(3,.po 1 0),(18,ruL l),(19,iv l.length),(20,iv i)],[(0,.cell [iv 0,iv 0,iv 0,iv 0,iv 0,iv 0,.d (.lit (.string ⟨#[]⟩))]),
 (1,.cell [iv 0,iv 0,iv (txt l).size,iv l.length,iv (brkN (l.take i)),iv 0,.d (.lit (.string (txt l)))])],2⟩
attribute [push_cast] pcS.eq_def
set_option maxHeartbeats 1600000 in
theorem pieceOf_fn (l:List Int) (hl:l.length≤1000000):OFn Tryz.prog G0 68 [ruL l] [] 0 (.d (itD (pcI l))) []:=by
 have r1:OFn Tryz.prog G0 70 [ruL l] [] 0 (.d (.lit (.string (txt l)))) []:=Encode_fn l (by omega)
 have hs:=txt_size l
 refine vF mixed [0,2,3,5,18,19,20,21,25] Tryz.func68 rfl Tryz.results68 Tryz.ntmps68 ?_
 (refine' zg1 r1)
 refine vL (lv:=[0,2,3,5,18,19,20,21,25]) mixed (pcS l) (fun i=>i≤l.length) (fun i=>l.length - i) (0) ((GhW.go [2,3,18,19,20] (by exact vT) rfl)) ?_ ?_
 ·exact Nat.zero_le _
 intro i hi
 have hb:=brkN_le (l.take i)
 rw [List.length_take] at hb
 (refine' zg)
 ·refine elX.intro fun r hr =>?_
  have g4:brkN (l.take (i+1))=brkN (l.take i)+(if r=10 then 1 else 0):=by rw [take_snoc1 hr,brkN_snoc]
  (refine' zg)
  ·rw [if_pos (by assumption)] at g4
   refine AgW.go (i+1) [2,3,18,19,20] (by rw [pcS,g4];exact vT) ?_ ?_
   ·show l.length - (i+1)<l.length - i
    omega
   ·show i+1≤l.length
    omega
  ·rw [if_neg (by assumption)] at g4
   refine AgW.go (i+1) [2,3,18,19,20] (by rw [pcS,g4];exact vT) ?_ ?_
   ·show l.length - (i+1)<l.length - i
    omega
   ·show i+1≤l.length
    omega
 ·have e:l.take i=l:=List.take_of_length_le (by omega)
  rw [e,hs]
  refine DoneW.out ?_
  (refine' zg)
  rfl
theorem div_mid {n k m:Nat} (hn:n≤1000000000) (hk:0<k) (hm:m=n / k):IntKind.i64.wrap ((n:Int).tdiv (k:Int))=(m:Int):=by
 have e:(n:Int).tdiv (k:Int)=((n / k:Nat):Int):=rfl
 have:=Nat.div_le_self n k
 rw [e,←hm]
 exact w64 _ (by omega) (by omega)
def ctS (x:Nat × List Int × List It):St:=⟨[(0,ruL x.2.1),(3,.so 0 7 0 x.2.2.length),(4,iv x.1)],[(0,.row 7 (x.2.2.map itD))],1⟩
attribute [push_cast] ctS.eq_def
theorem snoc_it (es:List It) (i:It):es.map itD++[itD i]=(es++[i]).map itD:=by rw [List.map_append];rfl
set_option maxHeartbeats 1600000 in
theorem cut_fn (l:List Int) (hl:l.length≤1000000):OFn Tryz.prog G0 37 [ruL l] [] 0 (itL ((pcs l).map pcI)) []:=by
 obtain ⟨k0,hk0⟩ : ∃k0,k0=(l.length+15) / 16:=⟨_,rfl⟩
 have hd0:=div_mid (n:=l.length+15) (k:=16) (by omega) (by omega) hk0
 have hd1:IntKind.i64.wrap (((l.length:Int)+16 - 1).tdiv 16)=(k0:Int):=by
  rw [show ((l.length:Int)+16 - 1)=((l.length+15:Nat):Int) by omega];exact hd0
 refine vF mixed [0,2,3,4,5,12] Tryz.func37 rfl Tryz.results37 Tryz.ntmps37 ?_
 (repeat' (first|(with_reducible first|exact True.intro|refine vD ?_|refine vG ?_|refine vE ?_)|(simp -implicitDefEqProofs -dsimp only [hd1])|refine vR ?_|refine v6 ?_|with_reducible refine vN ?_|((with_reducible first|refine vB (fun h =>?_) (fun h =>?_)|refine vM (fun h =>?_) (fun h =>?_))<;>(first|(exfalso;omega)|skip))))
 refine vL (lv:=[0,2,3,4,5,12]) mixed (ctS) (fun x=>x.2.1.length≤l.length∧x.1≤x.2.1.length∧x.2.1.length≤16*x.1∧x.2.2.length+x.1=k0∧x.2.2++(cutP x.1 x.2.1).map pcI=(pcs l).map pcI) (fun x=>x.1) ((k0,l,[])) (GhW.nil 3 7<|(GhW.go [0,3,4] (by exact vT) rfl)) ?_ ?_
 ·refine ⟨Nat.le_refl _,by simp only;omega,by simp only;omega,by simp,?_⟩
  simp only [List.nil_append,hk0];rfl
 rintro ⟨k,r,es⟩ ⟨h1,h2,h3,h4,h5⟩
 simp only at h1 h2 h3 h4 h5
 cases k with
 | zero=>
  have h6:es=(pcs l).map pcI:=by rw [←h5,cutP];simp
  (refine' zg)
  refine DoneW.frz 0 (DoneW.out ?_)
  (refine' zg)
  rw [←List.map_map,←h6]
 | succ k=>
  obtain ⟨n,hn⟩ : ∃n,n=r.length / (k+1):=⟨_,rfl⟩
  have hd:=div_mid (n:=r.length) (k:=k+1) (by omega) (by omega) hn
  have hnl:n≤r.length:=by rw [hn];exact Nat.div_le_self _ _
  have hn1:1≤n:=by rw [hn];exact (Nat.le_div_iff_mul_le (by omega)).2 (by omega)
  have hn16:n≤16:=by rw [hn];exact Nat.div_le_of_le_mul (by omega)
  have hmod:=Nat.div_add_mod r.length (k+1)
  have hml:=Nat.mod_lt r.length (show 0<k+1 by omega)
  rw [←hn] at hmod
  have r1:=pieceOf_fn (r.take n) (by simp;omega)
  have hc:((k+1:Nat):Int)=(k:Int)+1:=by omega
  rw [hc] at hd
  (repeat' (first|(with_reducible first|exact True.intro|refine vD ?_|refine vG ?_|refine vE ?_)|(simp -implicitDefEqProofs -dsimp only [hd])|with_reducible refine vQ (r1) ?_|with_reducible refine vC (r1) ?_|refine vR ?_|refine v6 ?_|with_reducible refine vN ?_|((with_reducible first|refine vB (fun h =>?_) (fun h =>?_)|refine vM (fun h =>?_) (fun h =>?_))<;>(first|(exfalso;omega)|skip))))
  rw [snoc_it]
  refine AgW.go ((k,r.drop n,es++[pcI (r.take n)])) [0,3,4] (by exact vT) ?_ ?_
  ·show k<k+1
   omega
  ·refine ⟨by simp only [List.length_drop];omega,?_,?_,by simp;omega,?_⟩
   ·simp only [List.length_drop]
    have:n*(k+1)≤r.length:=by rw [hn];exact Nat.div_mul_le_self _ _
    rw [Nat.mul_succ] at this
    have:k≤n*k:=Nat.le_mul_of_pos_left k hn1
    omega
   ·simp only [List.length_drop]
    rcases Nat.lt_or_ge n 16 with h16|h16
    ·have h7:=Nat.mul_le_mul_left k (show n+1≤16 by omega)
     rw [Nat.mul_succ] at h7
     rw [Nat.succ_mul] at hmod
     omega
    ·omega
   ·rw [←h5,cutP,←hn];simp
section
theorem rNew_fn (s:ByteArray) (hs:s.size≤1000000000) (h:(runesAt s 0).length≤20000) : ∃ps t,Rp (runesAt s 0) ps t∧OFn Tryz.prog G0 15 [sv s] [] 0 (.tup [.d (ropeD t),iv 0]) []:=by
 have r1:=Decode_fn s hs
 have hv:=runes_valid s s.size 0 (by omega)
 generalize runesAt s 0=l at *
 have r2:=cut_fn l (by omega)
 have hp:=pcs_ok l
 have hpl:(pcs l).length≤20000:=by
  have:=flat_ge (pcs l) (fun p q=>(hp p q).1)
  rw [pcs_flat] at this
  omega
 have hok : ∀i∈(pcs l).map pcI,itOk i:=by
  intro i hi
  obtain ⟨p,hq,rfl⟩:=List.mem_map.1 hi
  exact pc_ok (by have:=hp p hq;omega)
 have r3:=New_fn ((pcs l).map pcI) (by simp;omega) hok
 obtain ⟨w1,w2⟩:=newT_ok ((pcs l).map pcI) _ (Nat.le_refl _)
 have w3:=htO_newT ((pcs l).map pcI) _ (Nat.le_refl _)
 rw [List.take_of_length_le (by omega)] at w2
 generalize newT ((pcs l).map pcI) ((pcs l).map pcI).length=t at r3 w1 w2 w3
 refine ⟨pcs l,t,⟨w2,pcs_flat l,hv,w1,by simp at w3;omega,hp,h⟩,?_⟩
 rw [ropeD,treeD] at *
 refine vF mixed [0,2,3,4,5,6,11,19] Tryz.func15 rfl Tryz.results15 Tryz.ntmps15 ?_
 (refine' zg3 r1 r2 r3)
 refine DoneW.frz 80 (DoneW.out ?_)
 (refine' zg)
end
end Go.Proofs.YtkhonlnajdfhfaaGreatDoor
