/- What the theorem leans on, part 13. -/
import Derived.Test.YtkhonlnajdfhfaaGreatDoorLtYPAF
import Derived.Test.YtkhonlnajdfhfaaGreatDoorLtYPAL
set_option linter.unusedSimpArgs false
set_option linter.unusedVariables false
set_option maxRecDepth 8000
namespace Go.Proofs.YtkhonlnajdfhfaaGreatDoor
abbrev itD (i:It):D:= .agg [.lit (.int .i64 i.tag),.lit (.int .i64 i.id),.lit (.int .i64 i.d0),.lit (.int .i64 i.d1),.lit (.int .i64 i.d2),.lit (.int .i64 i.mx),.lit (.string i.text)]
abbrev smD (s:Sm):D:= .agg [.lit (.int .i64 s.n),.lit (.int .i64 s.d0),.lit (.int .i64 s.d1),.lit (.int .i64 s.d2),.lit (.int .i64 s.mx),.lit (.int .i64 s.pos)]
abbrev itL (l:List It):V:= .d (.sd 7 false (l.map itD))
theorem within_fn (n:Int):OFn Tryz.prog G0 98 [iv n] [] 0 (bv (decide (0≤n)&&decide (n≤1099511627776))) []:=by
 refine vF mixed [0,2] Tryz.func98 rfl Tryz.results98 Tryz.ntmps98 ?_
 (refine' zo)
theorem Of_fn (i:It):OFn Tryz.prog G0 152 [.d (itD i)] [] 0 (.d (smD (ofI i))) []:=by
 refine vF mixed [0,1,2] Tryz.func152 rfl Tryz.results152 Tryz.ntmps152 ?_
 (refine' zo)
 rfl
def addS (a b:Sm) (d0 d1 d2 i:Int):St:=⟨[(2,.po 0 0),(3,.po 1 0),(4,.po 2 0),(5,.po 3 0),(17,iv i)],
 [(0,.cell [iv a.n,iv a.d0,iv a.d1,iv a.d2,iv a.mx,iv a.pos]),(1,.cell [iv b.n,iv b.d0,iv b.d1,iv b.d2,iv b.mx,iv b.pos]),(2,.cell [iv 0,iv 0,iv 0,iv 0,iv 0,iv 0]),
  (3,.cell [iv (a.n+b.n),iv d0,iv d1,iv d2,iv a.mx,iv a.pos])],4⟩
def addS0 (a b:Sm):Nat→St
 | 0=>addS a b 0 0 0 0
 | 1=>addS a b (a.d0+b.d0) 0 0 1
 | 2=>addS a b (a.d0+b.d0) (a.d1+b.d1) 0 2
 | _=>addS a b (a.d0+b.d0) (a.d1+b.d1) (a.d2+b.d2) 3
attribute [push_cast] addS.eq_def addS0.eq_1 addS0.eq_2 addS0.eq_3
theorem addS0_3 (a b:Sm):addS0 a b 3=addS a b (a.d0+b.d0) (a.d1+b.d1) (a.d2+b.d2) 3:=rfl
attribute [push_cast] addS0_3
set_option maxHeartbeats 1600000 in
theorem Add_fn (a b:Sm) (ha:smOk a) (hb:smOk b):OFn Tryz.prog G0 150 [.d (smD a),.d (smD b)] [] 0 (.d (smD (addM a b))) []:=by
 unfold smOk at ha hb
 refine vF mixed [0,1,2,3,4,5,6,17,18,47] Tryz.func150 rfl Tryz.results150 Tryz.ntmps150 ?_
 (refine' zg)
 refine vL (lv:=[0,1,2,3,4,5,6,17,18,47]) mixed (addS0 a b) (fun i=>i≤3) (fun i=>3 - i) (0) ((GhW.go [2,3,4,5,17] (by exact vS) rfl)) ?_ ?_
 ·exact Nat.zero_le _
 intro i hi
 have h4:i=0∨i=1∨i=2∨i=3:=by omega
 rcases h4 with rfl|rfl|rfl|rfl
 ·(refine' zg)
  refine AgW.go (1) [2,3,4,5,17] (by exact vS) ?_ ?_
  all_goals omega
 ·(refine' zg)
  refine AgW.go (2) [2,3,4,5,17] (by exact vS) ?_ ?_
  all_goals omega
 ·(refine' zg)
  refine AgW.go (3) [2,3,4,5,17] (by exact vS) ?_ ?_
  all_goals omega
 ·(refine' zo)
  ·refine regW.lo [(0,.cell [iv a.n,iv a.d0,iv a.d1,iv a.d2,iv a.mx,iv a.pos]),(1,.cell [iv b.n,iv b.d0,iv b.d1,iv b.d2,iv b.mx,iv b.pos])] (by decide +kernel) (by decide +kernel) (Sub.cons rfl (Sub.cons rfl Sub.nil)) ?_
   simp only [loadsO,loadsL]
   (repeat' (first|(with_reducible first|exact True.intro|refine vD ?_|refine vG ?_|refine vE ?_)|with_reducible refine DoneW.out ?_|(with_reducible refine sbW.of (Sub.cons rfl (Sub.cons rfl Sub.nil)) ?_)|refine vR ?_|refine v6 ?_|with_reducible refine vN ?_|((with_reducible first|refine vB (fun h =>?_) (fun h =>?_)|refine vM (fun h =>?_) (fun h =>?_))<;>(first|(exfalso;omega)|skip))))
   simp only [smD,addM,if_pos h]
  ·simp only [smD,addM,if_neg h]
def smC (s:Sm):Blk:= .cell [iv s.n,iv s.d0,iv s.d1,iv s.d2,iv s.mx,iv s.pos]
def allI (l:List It) (b:Bool) (i:Nat):St:=⟨[(2,.po 0 0),(3,.po 1 0),(6,.d (.sd 7 b (l.map itD))),(7,iv l.length),(8,iv i)],[(0,smC Sm.zero),(1,smC (sumL (l.take i)))],2⟩
attribute [push_cast] allI.eq_def smC.eq_def
theorem zero_n:Sm.zero.n=0:=rfl
theorem zero_d0:Sm.zero.d0=0:=rfl
theorem zero_d1:Sm.zero.d1=0:=rfl
theorem zero_d2:Sm.zero.d2=0:=rfl
theorem zero_mx:Sm.zero.mx=0:=rfl
theorem zero_pos:Sm.zero.pos=0:=rfl
attribute [push_cast] zero_n zero_d0 zero_d1 zero_d2 zero_mx zero_pos
theorem take_snoc1 {α:Type} {l:List α} {i:Nat} {x:α} (h:l[i]? = some x):l.take (i+1)=l.take i++[x]:=by
 rw [List.take_add_one,h];rfl
set_option maxHeartbeats 1600000 in
theorem All_fn (l:List It) (hl:l.length≤1000000) (hi : ∀i∈l,itOk i) (b:Bool):OFn Tryz.prog G0 101 [.d (.sd 7 b (l.map itD))] [] 0 (.d (smD (sumL l))) []:=by
 refine vF mixed [0,2,3,5,6,7,8,9] Tryz.func101 rfl Tryz.results101 Tryz.ntmps101 ?_
 (refine' zg)
 refine vL (lv:=[0,2,3,5,6,7,8,9]) mixed (allI l b) (fun i=>i≤l.length) (fun i=>l.length - i) (0) ((GhW.go [2,3,6,7,8] (by exact vS) rfl)) ?_ ?_
 ·exact Nat.zero_le _
 intro i hle
 (refine' zo)
 ·refine elX.intro fun x hx =>?_
  have hok:itOk x:=hi x (List.mem_of_getElem? hx)
  have hs:smOk (sumL (l.take i)):=sumL_ok _ (fun y hy=>hi y (List.mem_of_mem_take hy)) (by simp;omega)
  (refine' zo2 (Of_fn x) (Add_fn (sumL (l.take i)) (ofI x) hs (ofI_ok hok)))
  refine AgW.go (i+1) [2,3,6,7,8] (by (try simp only [allI]);rw [take_snoc1 hx,sumL_snoc];exact vS) ?_ ?_
  all_goals omega
 ·rw [List.take_of_length_le (by omega)]
def chS (x:It):Nat→St
 | 0=>⟨[(3,bv true),(10,.d (.agg [.lit (.int .i64 x.d0),.lit (.int .i64 x.d1),.lit (.int .i64 x.d2)])),(11,iv 0)],[],0⟩
 | 1=>⟨[(3,bv true),(10,.d (.agg [.lit (.int .i64 x.d0),.lit (.int .i64 x.d1),.lit (.int .i64 x.d2)])),(11,iv 1)],[],0⟩
 | 2=>⟨[(3,bv true),(10,.d (.agg [.lit (.int .i64 x.d0),.lit (.int .i64 x.d1),.lit (.int .i64 x.d2)])),(11,iv 2)],[],0⟩
 | _=>⟨[(3,bv true),(10,.d (.agg [.lit (.int .i64 x.d0),.lit (.int .i64 x.d1),.lit (.int .i64 x.d2)])),(11,iv 3)],[],0⟩
theorem chS_3 (x:It):chS x 3=⟨[(3,bv true),(10,.d (.agg [.lit (.int .i64 x.d0),.lit (.int .i64 x.d1),.lit (.int .i64 x.d2)])),(11,iv 3)],[],0⟩:=rfl
attribute [push_cast] chS.eq_1 chS.eq_2 chS.eq_3 chS_3
theorem within_yes {n:Int} (h1:0≤n) (h2:n≤1099511627776):OFn Tryz.prog G0 98 [iv n] [] 0 (bv true) []:=by
 have:=within_fn n
 rwa [decide_eq_true h1,decide_eq_true h2] at this
set_option maxHeartbeats 1600000 in
theorem Check_fn (x:It) (hx:itOk x):OFn Tryz.prog G0 65 [.d (itD x)] [] 0 (iv 0) []:=by
 unfold itOk at hx
 obtain ⟨h1,h2,h3,h4,h5,h6,h7,h8⟩:=hx
 refine vF mixed [0,1,2,3,5,10,11,12,21] Tryz.func65 rfl Tryz.results65 Tryz.ntmps65 ?_
 (refine' zg1 (within_yes h7 h8))
 refine vL (lv:=[0,1,2,3,5,10,11,12,21]) mixed (chS x) (fun i=>i≤3) (fun i=>3 - i) (0) ((GhW.go [3,10,11] (by exact vS) rfl)) ?_ ?_
 ·exact Nat.zero_le _
 intro i hi
 have h9:i=0∨i=1∨i=2∨i=3:=by omega
 rcases h9 with rfl|rfl|rfl|rfl
 ·(refine' zg1 (within_yes h1 h2))
  refine AgW.go (1) [3,10,11] (by exact vS) ?_ ?_
  all_goals omega
 ·(refine' zg1 (within_yes h3 h4))
  refine AgW.go (2) [3,10,11] (by exact vS) ?_ ?_
  all_goals omega
 ·(refine' zg1 (within_yes h5 h6))
  refine AgW.go (3) [3,10,11] (by exact vS) ?_ ?_
  all_goals omega
 ·(refine' zo)
end Go.Proofs.YtkhonlnajdfhfaaGreatDoor
set_option linter.unusedSimpArgs false
set_option linter.unusedVariables false
set_option maxRecDepth 8000
set_option linter.defProp false
namespace Go.Proofs.YtkhonlnajdfhfaaGreatDoor
def smC6 (s:Sm):List D:=[.lit (.int .i64 s.n),.lit (.int .i64 s.d0),.lit (.int .i64 s.d1),.lit (.int .i64 s.d2),.lit (.int .i64 s.mx),.lit (.int .i64 s.pos)]
def leafP (l:List It):D:= .pd 7 [.agg (.sd 7 false (l.map itD)::smC6 (sumL l))] 0 0
def innerP (h:Nat) (ks:List D) (s:Sm):D:= .pd 8 [.agg (.sd 1 false ks :: .lit (.int .i64 h)::smC6 s)] 0 0
mutual
def nodeD:T→D
 | .leaf l=> .ifc 163 (leafP l)
 | .inner h ks=> .ifc 212 (innerP h (nodeDL ks) (sumL (T.itemsL ks)))
def nodeDL:List T→List D
 | []=>[]
 | k::r=>nodeD k::nodeDL r
end
theorem nodeDL_map : ∀ks:List T,nodeDL ks=ks.map nodeD
 | []=>by rw [nodeDL];rfl
 | k::r=>by rw [nodeDL,nodeDL_map r];rfl
theorem nodeD_leaf (l:List It):nodeD (.leaf l) = .ifc 163 (leafP l):=by rw [nodeD]
theorem nodeD_inner (h:Nat) (ks:List T):nodeD (.inner h ks) = .ifc 212 (innerP h (ks.map nodeD) (sumL (T.itemsL ks))):=by rw [nodeD,nodeDL_map]
def nodeO:Option T→D
 | none=> .lit .nilIface
 | some t=>nodeD t
theorem node_cells0 (t:T):(nodeD t).cells=[nodeD t]:=by
 cases t with
 | leaf l=>rw [nodeD_leaf];rfl
 | inner h ks=>rw [nodeD_inner];rfl
def node_cells (t:T):=(D.cells.eq_def (nodeD t)).symm.trans (node_cells0 t)
attribute [push_cast] node_cells
attribute [push_cast] nodeD_leaf nodeD_inner leafP.eq_def innerP.eq_def smC6.eq_def T.items.eq_1 T.items.eq_2 T.ht.eq_1 T.ht.eq_2
set_option maxHeartbeats 1600000 in
theorem sumOf_fn (t:T):OFn Tryz.prog G0 151 [.d (nodeD t)] [] 0 (.d (smD (sumL t.items))) []:=by
 cases t with
 | leaf l=>
  refine vF mixed [0,2,3,4,5,7,8,14,15] Tryz.func151 rfl Tryz.results151 Tryz.ntmps151 ?_
  (refine' zo)
 | inner h ks=>
  refine vF mixed [0,2,3,4,5,7,8,14,15] Tryz.func151 rfl Tryz.results151 Tryz.ntmps151 ?_
  (refine' zo)
theorem heightOf_fn (t:T):OFn Tryz.prog G0 146 [.d (nodeD t)] [] 0 (iv t.ht) []:=by
 cases t with
 | leaf l=>
  refine vF mixed [0,2,4,5,7,8,10,11] Tryz.func146 rfl Tryz.results146 Tryz.ntmps146 ?_
  (refine' zo)
 | inner h ks=>
  refine vF mixed [0,2,4,5,7,8,10,11] Tryz.func146 rfl Tryz.results146 Tryz.ntmps146 ?_
  (refine' zo)
theorem leafOf_fn (l:List It) (hl:l.length≤1000000) (hi : ∀i∈l,itOk i):OFn Tryz.prog G0 67 [.d (.sd 7 false (l.map itD))] [] 0 (.d (leafP l)) []:=by
 refine vF mixed [0,2] Tryz.func67 rfl Tryz.results67 Tryz.ntmps67 ?_
 (refine' zg1 (All_fn l hl hi false))
 refine DoneW.frz 20 (DoneW.out ?_)
 (repeat (first|(with_reducible first|exact True.intro|refine vD ?_|refine vG ?_|refine vE ?_)|refine vR ?_))
def inS (ks:List T) (h:Nat) (i:Nat):St:=⟨[(3,.po 0 0),(14,.d (.sd 1 false (ks.map nodeD))),(15,iv ks.length),(16,iv i)],
 [(0,.cell [.d (.sd 1 false (ks.map nodeD)),iv h,iv (sumL (T.itemsL (ks.take i))).n,iv (sumL (T.itemsL (ks.take i))).d0,iv (sumL (T.itemsL (ks.take i))).d1,iv (sumL (T.itemsL (ks.take i))).d2,iv (sumL (T.itemsL (ks.take i))).mx,iv (sumL (T.itemsL (ks.take i))).pos])],1⟩
attribute [push_cast] inS.eq_def
theorem sumL_nil:sumL []=Sm.zero:=rfl
attribute [push_cast] sumL_nil
theorem itemsL_snoc {ks:List T} {i:Nat} {k:T} (h:ks[i]? = some k):T.itemsL (ks.take (i+1))=T.itemsL (ks.take i)++k.items:=by
 rw [take_snoc1 h,T.itemsL_app];simp only [T.itemsL,List.append_nil]
theorem itemsL_take {ks:List T} (i:Nat) : ∃r,T.itemsL ks=T.itemsL (ks.take i)++r:=⟨T.itemsL (ks.drop i),by rw [←T.itemsL_app,List.take_append_drop]⟩
theorem items_in {ks:List T} {i:Nat} {k:T} (h:ks[i]? = some k) : ∃a b,T.itemsL ks=a++k.items++b:=by
 obtain ⟨r,hr⟩:=itemsL_take (ks:=ks) (i+1)
 exact ⟨_,r,by rw [hr,itemsL_snoc h]⟩
set_option maxHeartbeats 1600000 in
theorem innerOf_fn (ks:List T) (h:Nat) (hh:h≤1000000) (h0:0<ks.length) (hn:ks.length≤100) (hk : ∀k∈ks,k.ht=h) (hl:(T.itemsL ks).length≤1000000) (hi : ∀i∈T.itemsL ks,itOk i) :
 OFn Tryz.prog G0 100 [.d (.sd 1 false (ks.map nodeD))] [] 0 (.d (innerP (h+1) (ks.map nodeD) (sumL (T.itemsL ks)))) []:=by
 refine vF mixed [0,2,3,5,14,15,16,17] Tryz.func100 rfl Tryz.results100 Tryz.ntmps100 ?_
 (refine' zg)
 refine elX.intro fun k0 hk0 =>?_
 obtain rfl:k0.ht=h:=hk _ (List.mem_of_getElem? hk0)
 (refine' zg1 (heightOf_fn k0))
 refine vL (lv:=[0,2,3,5,14,15,16,17]) mixed (inS ks (k0.ht+1)) (fun i=>i≤ks.length) (fun i=>ks.length - i) (0) ((GhW.go [3,14,15,16] (by exact vS) rfl)) ?_ ?_
 ·exact Nat.zero_le _
 intro i hle
 (refine' zg)
 ·refine elX.intro fun k hk =>?_
  obtain ⟨a,b,e⟩:=items_in hk
  obtain ⟨r,er⟩:=itemsL_take (ks:=ks) i
  have s1:smOk (sumL (T.itemsL (ks.take i))):=sumL_ok _ (fun y hy=>hi y (by rw [er];simp [hy])) (by have:=congrArg List.length er;simp at this;omega)
  have s2:smOk (sumL k.items):=sumL_ok _ (fun y hy=>hi y (by rw [e];simp [hy])) (by have:=congrArg List.length e;simp at this;omega)
  (refine' zg2 (sumOf_fn k) (Add_fn (sumL (T.itemsL (ks.take i))) (sumL k.items) s1 s2))
  refine AgW.go (i+1) [3,14,15,16] (by (try simp only [inS]);rw [itemsL_snoc hk,sumL_app];exact vS) ?_ ?_
  all_goals omega
 ·refine DoneW.frz 0 (DoneW.out ?_)
  (repeat (first|(with_reducible first|exact True.intro|refine vD ?_|refine vG ?_|refine vE ?_)|refine vR ?_))
  rw [List.take_of_length_le (by omega)]
end Go.Proofs.YtkhonlnajdfhfaaGreatDoor
set_option linter.unusedSimpArgs false
set_option linter.unusedVariables false
set_option maxRecDepth 8000
namespace Go.Proofs.YtkhonlnajdfhfaaGreatDoor
theorem take_map {α β:Type} (f:α→β) (l:List α) (i:Nat):(l.map f).take i=(l.take i).map f:=by simp
theorem drop_map {α β:Type} (f:α→β) (l:List α) (i:Nat):(l.map f).drop i=(l.drop i).map f:=by simp
attribute [push_cast] take_map drop_map
theorem half_mid {n m:Nat} (hn:n≤1000000000) (hm:m=n / 2):IntKind.i64.wrap ((n:Int).tdiv 2)=(m:Int):=by
 have e:(n:Int).tdiv 2=((n / 2:Nat):Int):=rfl
 rw [e,←hm]
 exact w64 _ (by omega) (by omega)
set_option maxHeartbeats 1600000 in
theorem spread_fn (l:List It) (hl:l.length≤1000000) (hi : ∀i∈l,itOk i):OFn Tryz.prog G0 149 [.d (.sd 7 false (l.map itD))] [] 0 (.d (.sd 1 false ((spreadT l).map nodeD))) []:=by
 obtain ⟨m,hm⟩ : ∃m,m=l.length / 2:=⟨_,rfl⟩
 have hmid:=half_mid (by omega) hm
 refine vF mixed [0,2,3,6] Tryz.func149 rfl Tryz.results149 Tryz.ntmps149 ?_
 (repeat' (first|(with_reducible first|exact True.intro|refine vD ?_|refine vG ?_|refine vE ?_)|(simp -implicitDefEqProofs -dsimp only [hmid])|with_reducible refine vQ (leafOf_fn l hl hi) ?_|with_reducible refine vC (leafOf_fn l hl hi) ?_|with_reducible refine vQ (leafOf_fn (l.take m) (by simp;omega) (fun i h=>hi i (List.mem_of_mem_take h))) ?_|with_reducible refine vQ (leafOf_fn (l.drop m) (by simp;omega) (fun i h=>hi i (List.mem_of_mem_drop h))) ?_|refine vR ?_|refine v6 ?_|with_reducible refine vN ?_|((with_reducible first|refine vB (fun h =>?_) (fun h =>?_)|refine vM (fun h =>?_) (fun h =>?_))<;>(first|(exfalso;omega)|skip))))
 ·refine DoneW.frz 28 (DoneW.out ?_)
  (repeat (first|(with_reducible first|exact True.intro|refine vD ?_|refine vG ?_|refine vE ?_)|refine vR ?_))
  rw [spreadT,if_pos (by omega),List.map_cons,List.map_nil,nodeD_leaf]
  simp only [leafP,smC6,push_cast]
  done
 ·refine DoneW.frz 76 (DoneW.out ?_)
  (repeat (first|(with_reducible first|exact True.intro|refine vD ?_|refine vG ?_|refine vE ?_)|refine vR ?_))
  rw [spreadT,if_neg (by omega),←hm,List.map_cons,List.map_cons,List.map_nil,nodeD_leaf,nodeD_leaf]
  simp only [leafP,smC6]
  done
theorem nodeD_innerT {ks:List T} {g:Nat} (h0:0<ks.length) (hk : ∀k∈ks,k.ht=g):nodeD (innerT ks) = .ifc 212 (innerP (g+1) (ks.map nodeD) (sumL (T.itemsL ks))):=by
 match ks,h0,hk with
 | k::r,h0,hk=>
  unfold innerT
  rw [nodeD_inner]
  simp only
  rw [hk k (by simp)]
set_option maxHeartbeats 1600000 in
theorem raise_fn (ks:List T) (g:Nat) (hh:g≤1000000) (h0:0<ks.length) (hn:ks.length≤100) (hk : ∀k∈ks,k.ht=g) (hl:(T.itemsL ks).length≤1000000) (hi : ∀i∈T.itemsL ks,itOk i) :
 OFn Tryz.prog G0 147 [.d (.sd 1 false (ks.map nodeD))] [] 0 (.d (.sd 1 false ((raiseT ks).map nodeD))) []:=by
 obtain ⟨m,hm⟩ : ∃m,m=ks.length / 2:=⟨_,rfl⟩
 have hmid:=half_mid (by omega) hm
 have e:=T.itemsL_app (ks.take m) (ks.drop m)
 rw [List.take_append_drop] at e
 have el:=congrArg List.length e
 rw [List.length_append] at el
 refine vF mixed [0,2,3,6] Tryz.func147 rfl Tryz.results147 Tryz.ntmps147 ?_
 (repeat' (first|(with_reducible first|exact True.intro|refine vD ?_|refine vG ?_|refine vE ?_)|(simp -implicitDefEqProofs -dsimp only [hmid])|with_reducible refine vQ (innerOf_fn ks g hh h0 hn hk hl hi) ?_|with_reducible refine vC (innerOf_fn ks g hh h0 hn hk hl hi) ?_|with_reducible refine vQ (innerOf_fn (ks.take m) g hh (by simp;omega) (by simp;omega) (fun k q=>hk k (List.mem_of_mem_take q)) (by omega) (fun i q=>hi i (by rw [e];simp [q]))) ?_|with_reducible refine vQ (innerOf_fn (ks.drop m) g hh (by simp;omega) (by simp;omega) (fun k q=>hk k (List.mem_of_mem_drop q)) (by omega) (fun i q=>hi i (by rw [e];simp [q]))) ?_|refine vR ?_|refine v6 ?_|with_reducible refine vN ?_|((with_reducible first|refine vB (fun h =>?_) (fun h =>?_)|refine vM (fun h =>?_) (fun h =>?_))<;>(first|(exfalso;omega)|skip))))
 ·refine DoneW.frz 28 (DoneW.out ?_)
  (repeat (first|(with_reducible first|exact True.intro|refine vD ?_|refine vG ?_|refine vE ?_)|refine vR ?_))
  rw [raiseT,if_pos (by omega),List.map_cons,List.map_nil,nodeD_innerT h0 hk]
  simp only [innerP,smC6,push_cast]
  done
 ·refine DoneW.frz 76 (DoneW.out ?_)
  (repeat (first|(with_reducible first|exact True.intro|refine vD ?_|refine vG ?_|refine vE ?_)|refine vR ?_))
  rw [raiseT,if_neg (by omega),←hm,List.map_cons,List.map_cons,List.map_nil,nodeD_innerT (ks:=ks.take m) (g:=g) (by simp;omega) (fun k q=>hk k (List.mem_of_mem_take q)),nodeD_innerT (ks:=ks.drop m) (g:=g) (by simp;omega) (fun k q=>hk k (List.mem_of_mem_drop q))]
  simp only [innerP,smC6,push_cast]
  done
set_option maxHeartbeats 1600000 in
theorem put_fn (a b:List T) (ha:a.length≤100) (hb:b.length≤100):OFn Tryz.prog G0 148 [.d (.sd 1 false (a.map nodeD)),.d (.sd 1 false (b.map nodeD))] [] 0 (.d (.sd 1 false ((a++b).map nodeD))) []:=by
 refine vF mixed [0,1,4,5] Tryz.func148 rfl Tryz.results148 Tryz.ntmps148 ?_
 (refine' zg)
 refine DoneW.frz 56 (DoneW.out ?_)
 (repeat (first|(with_reducible first|exact True.intro|refine vD ?_|refine vG ?_|refine vE ?_)|refine vR ?_))
 simp
theorem map_app {α β:Type} (f:α→β) (a b:List α):a.map f++b.map f=(a++b).map f:=by simp
attribute [push_cast] map_app List.replicate_zero List.nil_append
structure Two (n:Nat) (a b:T):Prop where
 wa:a.wf
 wb:b.wf
 sum:a.ht+b.ht≤n
 len:a.items.length+b.items.length≤1000000
 ia : ∀i∈a.items,itOk i
 ib : ∀i∈b.items,itOk i
 small:n≤1000000
abbrev MeldAt (n:Nat) (a b:T):Prop:=OFn Tryz.prog G0 99 [.d (nodeD a),.d (nodeD b)] [] 0 (.d (.sd 1 false ((meldT n a b).map nodeD))) []
set_option maxHeartbeats 1600000 in
theorem meld_left (n h:Nat) (ks:List T) (b:T) (w:Two (n+1) (.inner h ks) b) (hlt:b.ht<h) (ih : ∀a b,Two n a b→MeldAt n a b):MeldAt (n+1) (.inner h ks) b:=by
 have wa:=w.wa
 simp only [T.wf] at wa
 obtain ⟨k0,k1,k2,kw⟩:=wa
 have wn:=w.sum
 have ws:=w.small
 have wl:=w.len
 have wi:=w.ia
 simp only [T.ht_inner] at wn
 simp only [T.items] at wl wi
 obtain ⟨m,hm⟩ : ∃m,m+1=ks.length:=⟨ks.length - 1,by omega⟩
 have hlast:(ks.length:Int) - 1=(m:Int):=by omega
 have e:ks.getLast? = ks[m]? :=by rw [List.getLast?_eq_getElem?,←hm];rfl
 have ed:ks.dropLast=ks.take m:=by rw [List.dropLast_eq_take,←hm];rfl
 obtain ⟨k,hk⟩ : ∃k,ks[m]? = some k:=⟨_,List.getElem?_eq_getElem (by omega)⟩
 have hks:ks=ks.take m++[k]:=by rw [←take_snoc1 hk,List.take_of_length_le (by omega)]
 have ei:T.itemsL ks=T.itemsL (ks.take m)++k.items:=by rw [←itemsL_snoc hk,List.take_of_length_le (by omega)]
 have el:=congrArg List.length ei
 rw [List.length_append] at el
 have hkk:=T.wfL_mem kw k (List.mem_of_getElem? hk)
 have t2:Two n k b:=⟨hkk.2,w.wb,by omega,by omega,fun i q=>wi i (by rw [ei];simp [q]),w.ib,by omega⟩
 have mo:=meldT_ok n k b hkk.2 w.wb (by omega)
 have hx:max k.ht b.ht=h - 1:=by omega
 rw [hx] at mo
 have em:meldT (n+1) (.inner h ks) b=raiseT (ks.take m++meldT n k b):=by
  conv=>lhs;unfold meldT
  rw [if_pos (by simpa only [T.ht_inner] using hlt)]
  simp only [e,ed,hk]
 unfold MeldAt
 rw [em]
 have r1:=put_fn (ks.take m) (meldT n k b) (by simp;omega) (by have:=mo.two;omega)
 have r2:=raise_fn (ks.take m++meldT n k b) (h - 1) (by omega) (by have:=mo.pos;simp;omega) (by have:=mo.two;simp;omega) (fun x q=>by
  rcases List.mem_append.1 q with q|q
  ·exact (T.wfL_mem kw x (List.mem_of_mem_take q)).1
  ·exact (T.wfL_mem mo.wf x q).1) (by rw [T.itemsL_app,mo.items];simp;omega) (fun i q=>by
  rw [T.itemsL_app,mo.items] at q
  simp only [List.mem_append] at q
  rcases q with q|q|q
  ·exact wi i (by rw [ei];simp [q])
  ·exact wi i (by rw [ei];simp [q])
  ·exact w.ib i q)
 have hA:=heightOf_fn (.inner h ks)
 simp only [nodeD_inner,innerP,smC6,T.ht_inner] at hA
 refine vF mixed [0,1,4,5,6,7,8,9,10,11,12,13,18,47,73] Tryz.func99 rfl Tryz.results99 Tryz.ntmps99 ?_
 (repeat' (first|(with_reducible first|exact True.intro|refine vD ?_|refine vG ?_|refine vE ?_)|(simp -implicitDefEqProofs -dsimp only [hlast])|with_reducible refine DoneW.out ?_|with_reducible refine vQ (hA) ?_|with_reducible refine vQ (heightOf_fn b) ?_|with_reducible refine vC (hA) ?_|with_reducible refine vC (heightOf_fn b) ?_|with_reducible refine vQ (ih k b t2) ?_|with_reducible refine vQ (r1) ?_|with_reducible refine vQ (r2) ?_|(with_reducible refine elX.is m k rfl hk ?_)|refine vR ?_|refine v6 ?_|with_reducible refine vN ?_|((with_reducible first|refine vB (fun h =>?_) (fun h =>?_)|refine vM (fun h =>?_) (fun h =>?_))<;>(first|(exfalso;omega)|skip))))
set_option maxHeartbeats 1600000 in
theorem meld_right (n h:Nat) (ks:List T) (a:T) (w:Two (n+1) a (.inner h ks)) (hlt:a.ht<h) (ih : ∀a b,Two n a b→MeldAt n a b):MeldAt (n+1) a (.inner h ks):=by
 have wb:=w.wb
 simp only [T.wf] at wb
 obtain ⟨k0,k1,k2,kw⟩:=wb
 have wn:=w.sum
 have ws:=w.small
 have wl:=w.len
 have wi:=w.ib
 simp only [T.ht_inner] at wn
 simp only [T.items] at wl wi
 obtain ⟨k,r,hks⟩ : ∃k r,ks=k::r:=by
  cases ks with
  | nil=>simp at k0
  | cons k r=>exact ⟨k,r,rfl⟩
 have hk:ks[0]? = some k:=by rw [hks];rfl
 have hr:ks.drop 1=r:=by rw [hks];rfl
 have hkl:ks.length=r.length+1:=by rw [hks];rfl
 rw [hks] at k0 k1 wl wi kw
 simp only [List.length_cons] at k0 k1
 simp only [T.itemsL] at wl wi
 simp only [List.length_append] at wl
 simp only [T.wfL] at kw
 have t2:Two n a k:=⟨w.wa,kw.2.1,by omega,by omega,w.ia,fun i q=>wi i (by simp [q]),by omega⟩
 have mo:=meldT_ok n a k w.wa kw.2.1 (by omega)
 have hx:max a.ht k.ht=h - 1:=by omega
 rw [hx] at mo
 have em:meldT (n+1) a (.inner h ks)=raiseT (meldT n a k++r):=by
  rw [hks]
  conv=>lhs;unfold meldT
  rw [if_neg (by rw [T.ht_inner];omega),if_pos (by rw [T.ht_inner];omega)]
 unfold MeldAt
 rw [em]
 have r1:=put_fn (meldT n a k) r (by have:=mo.two;omega) (by omega)
 have r2:=raise_fn (meldT n a k++r) (h - 1) (by omega) (by have:=mo.pos;simp;omega) (by have:=mo.two;simp;omega) (fun x q=>by
  rcases List.mem_append.1 q with q|q
  ·exact (T.wfL_mem mo.wf x q).1
  ·exact (T.wfL_mem kw.2.2 x q).1) (by rw [T.itemsL_app,mo.items];simp;omega) (fun i q=>by
  rw [T.itemsL_app,mo.items] at q
  simp only [List.mem_append] at q
  rcases q with (q|q)|q
  ·exact w.ia i q
  ·exact wi i (by simp [q])
  ·exact wi i (by simp [q]))
 rw [←hr] at r1 r2 ⊢
 have hA:=heightOf_fn (.inner h ks)
 simp only [nodeD_inner,innerP,smC6,T.ht_inner] at hA
 refine vF mixed [0,1,4,5,6,7,8,9,10,11,12,13,18,47,73] Tryz.func99 rfl Tryz.results99 Tryz.ntmps99 ?_
 (repeat' (first|(with_reducible first|exact True.intro|refine vD ?_|refine vG ?_|refine vE ?_)|with_reducible refine DoneW.out ?_|with_reducible refine vQ (hA) ?_|with_reducible refine vQ (heightOf_fn a) ?_|with_reducible refine vC (hA) ?_|with_reducible refine vC (heightOf_fn a) ?_|with_reducible refine vQ (ih a k t2) ?_|with_reducible refine vQ (r1) ?_|with_reducible refine vQ (r2) ?_|(with_reducible refine elX.is 0 k rfl hk ?_)|refine vR ?_|refine v6 ?_|with_reducible refine vN ?_|((with_reducible first|refine vB (fun h =>?_) (fun h =>?_)|refine vM (fun h =>?_) (fun h =>?_))<;>(first|(exfalso;omega)|skip))))
set_option maxHeartbeats 1600000 in
theorem meld_leaves (n:Nat) (x y:List It) (w:Two (n+1) (.leaf x) (.leaf y)):MeldAt (n+1) (.leaf x) (.leaf y):=by
 have wl:=w.len
 have wi:=w.ia
 have wj:=w.ib
 simp only [T.items] at wl wi wj
 have em:meldT (n+1) (.leaf x) (.leaf y)=spreadT (x++y):=by
  conv=>lhs;unfold meldT
  rw [if_neg (by simp [T.ht]),if_neg (by simp [T.ht])]
 unfold MeldAt
 rw [em]
 have r1:=spread_fn (x++y) (by simp;omega) (fun i q=>by
  rcases List.mem_append.1 q with q|q
  ·exact wi i q
  ·exact wj i q)
 have hA:=heightOf_fn (.leaf x)
 have hB:=heightOf_fn (.leaf y)
 simp only [nodeD_leaf,leafP,smC6,T.ht_leaf] at hA hB
 refine vF mixed [0,1,4,5,6,7,8,9,10,11,12,13,18,47,73] Tryz.func99 rfl Tryz.results99 Tryz.ntmps99 ?_
 (refine' zo2 hA hB)
 refine CallW.frz 204 rfl ?_
 (refine' zo1 r1)
 all_goals skip
set_option maxHeartbeats 1600000 in
theorem meld_even (n h:Nat) (x y:List T) (w:Two (n+1) (.inner h x) (.inner h y)):MeldAt (n+1) (.inner h x) (.inner h y):=by
 have wa:=w.wa
 have wb:=w.wb
 simp only [T.wf] at wa wb
 have wn:=w.sum
 have ws:=w.small
 have wl:=w.len
 have wi:=w.ia
 have wj:=w.ib
 simp only [T.ht_inner] at wn
 simp only [T.items] at wl wi wj
 have em:meldT (n+1) (.inner h x) (.inner h y)=raiseT (x++y):=by
  conv=>lhs;unfold meldT
  rw [if_neg (by simp [T.ht]),if_neg (by simp [T.ht])]
 unfold MeldAt
 rw [em]
 have r1:=put_fn x y (by omega) (by omega)
 have r2:=raise_fn (x++y) (h - 1) (by omega) (by simp;omega) (by simp;omega) (fun k q=>by
  rcases List.mem_append.1 q with q|q
  ·exact (T.wfL_mem wa.2.2.2 k q).1
  ·exact (T.wfL_mem wb.2.2.2 k q).1) (by rw [T.itemsL_app];simp;omega) (fun i q=>by
  rw [T.itemsL_app] at q
  rcases List.mem_append.1 q with q|q
  ·exact wi i q
  ·exact wj i q)
 have hA:=heightOf_fn (.inner h x)
 have hB:=heightOf_fn (.inner h y)
 simp only [nodeD_inner,innerP,smC6,T.ht_inner] at hA hB
 refine vF mixed [0,1,4,5,6,7,8,9,10,11,12,13,18,47,73] Tryz.func99 rfl Tryz.results99 Tryz.ntmps99 ?_
 (refine' zo4 hA hB r1 r2)
 all_goals skip
theorem meld_fn : ∀(n:Nat) (a b:T),Two n a b→MeldAt n a b:=by
 intro n
 induction n with
 | zero=>intro a b w;have:=T.wf_ht w.wa;have:=w.sum;omega
 | succ n ih=>
  intro a b w
  rcases Nat.lt_trichotomy a.ht b.ht with hlt|heq|hgt
  ·obtain ⟨h,ks,rfl⟩:=T.inner_ht (t:=b) (by have:=T.wf_ht w.wa;omega)
   exact meld_right n h ks a w hlt ih
  ·rcases Nat.lt_or_ge a.ht 2 with hl|hl
   ·obtain ⟨x,rfl⟩:=T.leaf_ht w.wa (by have:=T.wf_ht w.wa;omega)
    obtain ⟨y,rfl⟩:=T.leaf_ht w.wb (by have:=T.wf_ht w.wb;omega)
    exact meld_leaves n x y w
   ·obtain ⟨h,x,rfl⟩:=T.inner_ht (t:=a) hl
    obtain ⟨h',y,rfl⟩:=T.inner_ht (t:=b) (by omega)
    simp only [T.ht_inner] at heq
    subst heq
    exact meld_even n h x y w
  ·obtain ⟨h,ks,rfl⟩:=T.inner_ht (t:=a) (by have:=T.wf_ht w.wb;omega)
   exact meld_left n h ks b w hgt ih
theorem node_ifc (t:T) : ∃k y,nodeD t = .ifc k y:=by
 cases t with
 | leaf l=>exact ⟨_,_,nodeD_leaf l⟩
 | inner h ks=>exact ⟨_,_,nodeD_inner h ks⟩
structure TwoO (a b:Option T):Prop where
 wa:wfO a
 wb:wfO b
 len:(itemsO a).length+(itemsO b).length≤1000000
 ia : ∀i∈itemsO a,itOk i
 ib : ∀i∈itemsO b,itOk i
 small:htO a+htO b≤1000000
abbrev JoinAt (a b:Option T):Prop:=OFn Tryz.prog G0 66 [.d (nodeO a),.d (nodeO b)] [] 0 (.d (nodeO (joinT a b))) []
theorem join_none (b:Option T):JoinAt none b:=by
 unfold JoinAt
 simp only [joinT]
 refine vF mixed [0,1,4,5,6,10,19] Tryz.func66 rfl Tryz.results66 Tryz.ntmps66 ?_
 (repeat' (first|(with_reducible first|exact True.intro|refine vD ?_|refine vG ?_|refine vE ?_)|(simp only [nodeO])|with_reducible refine DoneW.out ?_|refine vR ?_|refine v6 ?_|with_reducible refine vN ?_|((with_reducible first|refine vB (fun h =>?_) (fun h =>?_)|refine vM (fun h =>?_) (fun h =>?_))<;>(first|(exfalso;omega)|skip))))
 all_goals skip
theorem join_one (a:T):JoinAt (some a) none:=by
 unfold JoinAt
 simp only [joinT,nodeO]
 obtain ⟨k,y,e⟩:=node_ifc a
 rw [e]
 refine vF mixed [0,1,4,5,6,10,19] Tryz.func66 rfl Tryz.results66 Tryz.ntmps66 ?_
 (refine' zo)
 all_goals skip
set_option maxHeartbeats 1600000 in
theorem join_two (a b:T) (w:TwoO (some a) (some b)):JoinAt (some a) (some b):=by
 have w2:Two (a.ht+b.ht) a b:=⟨w.wa,w.wb,Nat.le_refl _,w.len,w.ia,w.ib,w.small⟩
 have r1:=meld_fn _ a b w2
 have mo:=meldT_ok (a.ht+b.ht) a b w.wa w.wb (Nat.le_refl _)
 unfold JoinAt
 simp only [joinT,nodeO]
 unfold MeldAt at r1
 generalize meldT (a.ht+b.ht) a b=l at r1 mo
 obtain ⟨k,y,e⟩:=node_ifc a
 obtain ⟨k',y',e'⟩:=node_ifc b
 rw [e,e'] at r1 ⊢
 have hl:=mo.pos
 have hl2:=mo.two
 have r2:=innerOf_fn l (max a.ht b.ht) (by have:=w.small;simp only [htO] at this;omega) hl (by omega) (fun k q=>(T.wfL_mem mo.wf k q).1) (by rw [mo.items];simp;exact w.len) (by
  rw [mo.items]
  intro i q
  rcases List.mem_append.1 q with q|q
  ·exact w.ia i q
  ·exact w.ib i q)
 refine vF mixed [0,1,4,5,6,10,19] Tryz.func66 rfl Tryz.results66 Tryz.ntmps66 ?_
 (refine' zo2 r1 r2)
 ·obtain ⟨x,rfl⟩:=List.length_eq_one_iff.1 (show l.length=1 by omega)
  refine elX.is 0 x rfl rfl ?_
  (refine' zo)
 ·obtain ⟨x,z,rfl⟩ : ∃x z,l=[x,z]:=by
   match l,hl,hl2,h with
   | [x],_,_,h=>simp at h
   | [x,z],_,_,_=>exact ⟨x,z,rfl⟩
  show _=nodeD (innerT [x,z])
  rw [nodeD_innerT hl (fun k q=>(T.wfL_mem mo.wf k q).1)]
  rfl
theorem join_fn (a b:Option T) (w:TwoO a b):JoinAt a b:=by
 cases a with
 | none=>exact join_none b
 | some a=>
  cases b with
  | none=>exact join_one a
  | some b=>exact join_two a b w
theorem node_or (t:Option T):nodeO t = .lit .nilIface ∨ ∃k y,nodeO t = .ifc k y:=by
 cases t with
 | none=>exact .inl rfl
 | some t=>exact .inr (node_ifc t)
def treeD (t:Option T):D:= .pd 1 [.agg [nodeO t]] 0 0
theorem copied {α β:Type} {f:α→β} {A:List α} {z:β} {m:Nat} (h:A.length=m):A.map f++(List.replicate m z).drop A.length=A.map f:=by
 rw [List.drop_of_length_le (by simp [h]),List.append_nil]
def newS (l:List It) (i:Nat):St:=⟨[(0,.d (.sd 7 false (l.map itD))),(4,.d (nodeO (newT l i))),(12,.d (.sd 7 false (l.map itD))),(13,iv l.length),(14,iv i)],[],0⟩
theorem htO_newT (l:List It) : ∀i,i≤l.length→htO (newT l i)≤i+1:=by
 intro i
 induction i with
 | zero=>intro _;simp [newT,htO]
 | succ i ih=>
  intro h
  have:=ih (by omega)
  unfold newT
  split
  ·have h1:=(newT_ok l i (by omega)).1
   have h2:wfO (some (T.leaf ((l.drop i).take 8))):=by simp only [wfO,T.wf];simp;omega
   have:=(joinT_ok h1 h2).2.2
   have h3:htO (some (T.leaf ((l.drop i).take 8)))=1:=rfl
   rw [h3] at this
   omega
  ·omega
theorem rem_mid {n r k:Nat} (hn:n≤1000000000) (hk:0<k) (hk2:k≤1000000000) (hr:r=n % k):IntKind.i64.wrap ((n:Int).tmod (k:Int))=(r:Int):=by
 have e:(n:Int).tmod (k:Int)=((n % k:Nat):Int):=rfl
 rw [e,←hr]
 have:=Nat.mod_lt n hk
 exact w64 _ (by omega) (by omega)
set_option maxHeartbeats 1600000 in
theorem New_fn (l:List It) (hl:l.length≤30000) (hi : ∀i∈l,itOk i):OFn Tryz.prog G0 36 [.d (.sd 7 false (l.map itD))] [] 0 (.tup [.d (treeD (newT l l.length)),iv 0]) []:=by
 refine vF mixed [0,2,3,4,5,6,7,8,11,12,13,14,15,22,26] Tryz.func36 rfl Tryz.results36 Tryz.ntmps36 ?_
 (refine' zo)
 refine vL (lv:=[0,2,3,4,5,6,7,8,11,12,13,14,15,22,26]) mixed (newS l) (fun i=>i≤l.length) (fun i=>l.length - i) (0) ((GhW.go [0,4,12,13,14] (by exact vS) rfl)) ?_ ?_
 ·exact Nat.zero_le _
 intro i hle
 obtain ⟨r,hr⟩ : ∃r,r=i % 8:=⟨_,rfl⟩
 have hrem:=rem_mid (k:=8) (by omega) (by omega) (by omega) hr
 simp only [newS]
 (repeat' (first|(with_reducible first|exact True.intro|refine vD ?_|refine vG ?_|refine vE ?_)|(simp -implicitDefEqProofs -dsimp only [hrem])|refine vR ?_|refine v6 ?_|with_reducible refine vN ?_|((with_reducible first|refine vB (fun h =>?_) (fun h =>?_)|refine vM (fun h =>?_) (fun h =>?_))<;>(first|(exfalso;omega)|skip))))
 ·refine elX.intro fun x hx =>?_
  have hok:itOk x:=hi x (List.mem_of_getElem? hx)
  have hc:=Check_fn x hok
  obtain ⟨m,hm⟩ : ∃m,m=min 8 (l.length - i):=⟨_,rfl⟩
  have hmin:min 8 ((l.length:Int) - i)=(m:Int):=by omega
  obtain ⟨A,hA⟩ : ∃A,A=(l.drop i).take 8:=⟨_,rfl⟩
  have hlen:A.length=m:=by rw [hA,hm];simp
  have hA':(l.drop i).take m=A:=by
   rw [hA,hm]
   rcases Nat.le_total 8 (l.length - i) with q|q
   ·rw [Nat.min_eq_left q]
   ·rw [Nat.min_eq_right q,List.take_of_length_le (by simp),List.take_of_length_le (by simp;omega)]
  have hAt:A.take m=A:=List.take_of_length_le (by omega)
  have hAi : ∀y∈A,itOk y:=fun y q=>hi y (List.mem_of_mem_drop (List.mem_of_mem_take (by rw [hA] at q;exact q)))
  (repeat' (first|(with_reducible first|exact True.intro|refine vD ?_|refine vG ?_|refine vE ?_)|(simp -implicitDefEqProofs -dsimp only [hrem])|(simp -implicitDefEqProofs -dsimp only [hmin])|(simp -implicitDefEqProofs -dsimp only [hA'])|with_reducible refine vQ (hc) ?_|with_reducible refine vC (hc) ?_|refine vR ?_|refine v6 ?_|with_reducible refine vN ?_|((with_reducible first|refine vB (fun h =>?_) (fun h =>?_)|refine vM (fun h =>?_) (fun h =>?_))<;>(first|(exfalso;omega)|skip))))
  ·rw [copied (f:=itD) (A:=A) (m:=m) hlen]
   have e0:(i:Int).tmod 8=((i % 8:Nat):Int):=rfl
   have en:newT l (i+1)=joinT (newT l i) (some (.leaf A)):=by
    conv=>lhs;unfold newT
    rw [if_pos (by omega),←hA]
   obtain ⟨q1,q2⟩:=newT_ok l i (by omega)
   have hj:OFn Tryz.prog G0 66 [.d (nodeO (newT l i)),.d (nodeD (.leaf A))] [] 0 (.d (nodeO (joinT (newT l i) (some (.leaf A))))) []:=
    join_fn (newT l i) (some (.leaf A)) ⟨q1,by simp only [wfO,T.wf];omega,by rw [q2];simp only [itemsO,T.items];simp;omega,fun y q=>hi y (List.mem_of_mem_take (by rw [q2] at q;exact q)),fun y q=>hAi y (by simpa only [itemsO,T.items] using q),by have:=htO_newT l i (by omega);have e9:htO (some (T.leaf A))=1:=rfl;omega⟩
   simp only [nodeD_leaf,leafP,smC6] at hj
   refine CallW.frz 80 rfl ?_
   (repeat' (first|(with_reducible first|exact True.intro|refine vD ?_|refine vG ?_|refine vE ?_)|(simp -implicitDefEqProofs -dsimp only [hmin])|(simp -implicitDefEqProofs -dsimp only [hlen,hAt])|with_reducible refine vC (leafOf_fn A (by omega) hAi) ?_|with_reducible refine vC (hj) ?_|refine vR ?_|refine v6 ?_|with_reducible refine vN ?_|((with_reducible first|refine vB (fun h =>?_) (fun h =>?_)|refine vM (fun h =>?_) (fun h =>?_))<;>(first|(exfalso;omega)|skip))))
   refine AgW.go (i+1) [0,4,12,13,14] (by (try simp only [newS]);rw [en];exact vS) ?_ ?_
   all_goals omega
  ·have e0:(i:Int).tmod 8=((i % 8:Nat):Int):=rfl
   rw [e0] at h
   have e:newT l (i+1)=newT l i:=by
    conv=>lhs;unfold newT
    rw [if_neg (by omega)]
   refine AgW.go (i+1) [0,4,12,13,14] (by (try simp only [newS]);rw [e];exact vS) ?_ ?_
   all_goals omega
 ·rcases node_or (newT l i) with e|⟨k,y,e⟩
  ·simp only [e]
   (refine' zg)
   refine DoneW.frz 12 (DoneW.out ?_)
   (repeat (first|(with_reducible first|exact True.intro|refine vD ?_|refine vG ?_|refine vE ?_)|refine vR ?_))
   rw [←show i=l.length by omega,treeD,e]
  ·simp only [e]
   (refine' zg)
   refine DoneW.frz 12 (DoneW.out ?_)
   (repeat (first|(with_reducible first|exact True.intro|refine vD ?_|refine vG ?_|refine vE ?_)|refine vR ?_))
   rw [←show i=l.length by omega,treeD,e]
theorem top_fn (t:Option T):OFn Tryz.prog G0 172 [.d (treeD t)] [] 0 (.d (nodeO t)) []:=by
 rcases node_or t with e|⟨k,y,e⟩
 ·rw [treeD,e]
  refine vF mixed [0,2,4] Tryz.func172 rfl Tryz.results172 Tryz.ntmps172 ?_
  (refine' zo)
 ·rw [treeD,e]
  refine vF mixed [0,2,4] Tryz.func172 rfl Tryz.results172 Tryz.ntmps172 ?_
  (refine' zo)
theorem sumOf_nil:OFn Tryz.prog G0 151 [.d (.lit .nilIface)] [] 0 (.d (smD Sm.zero)) []:=by
 refine vF mixed [0,2,3,4,5,7,8,14,15] Tryz.func151 rfl Tryz.results151 Tryz.ntmps151 ?_
 (refine' zo)
 rfl
theorem sumOf_O (t:Option T):OFn Tryz.prog G0 151 [.d (nodeO t)] [] 0 (.d (smD (sumL (itemsO t)))) []:=by
 cases t with
 | none=>exact sumOf_nil
 | some t=>exact sumOf_fn t
theorem Sum_fn (t:Option T):OFn Tryz.prog G0 131 [.d (treeD t)] [] 0 (.d (smD (sumL (itemsO t)))) []:=by
 have r1:=top_fn t
 rw [treeD] at r1 ⊢
 refine vF mixed [0,2] Tryz.func131 rfl Tryz.results131 Tryz.ntmps131 ?_
 (refine' zo2 r1 (sumOf_O t))
theorem size_fn0 (s:Sm):OFn Tryz.prog G0 204 [.d (smD s),iv 0] [] 0 (iv s.d0) []:=by
 refine vF mixed [0,1,2,4,6] Tryz.func204 rfl Tryz.results204 Tryz.ntmps204 ?_
 (refine' zo)
theorem size_fn1 (s:Sm):OFn Tryz.prog G0 204 [.d (smD s),iv 1] [] 0 (iv s.d1) []:=by
 refine vF mixed [0,1,2,4,6] Tryz.func204 rfl Tryz.results204 Tryz.ntmps204 ?_
 (refine' zo)
theorem size_fn2 (s:Sm):OFn Tryz.prog G0 204 [.d (smD s),iv 2] [] 0 (iv s.d2) []:=by
 refine vF mixed [0,1,2,4,6] Tryz.func204 rfl Tryz.results204 Tryz.ntmps204 ?_
 (refine' zo)
theorem size_fn3 (s:Sm):OFn Tryz.prog G0 204 [.d (smD s),iv 3] [] 0 (iv s.n) []:=by
 refine vF mixed [0,1,2,4,6] Tryz.func204 rfl Tryz.results204 Tryz.ntmps204 ?_
 (refine' zo)
theorem size_fn (s:Sm) (d:Nat) (hd:d≤3):OFn Tryz.prog G0 204 [.d (smD s),iv d] [] 0 (iv (szS s d)) []:=by
 have h4:d=0∨d=1∨d=2∨d=3:=by omega
 rcases h4 with rfl|rfl|rfl|rfl
 ·exact size_fn0 s
 ·exact size_fn1 s
 ·exact size_fn2 s
 ·exact size_fn3 s
abbrev boxD (n:Int):D:= .pd 1 [.agg [.lit (.int .i64 n)]] 0 0
theorem reach_fn (e v b:Int):OFn Tryz.prog G0 205 [iv e,.d (boxD v),.d (boxD b)] [] 0 (bv (decide (v<e)||(b==0&&e==v))) []:=by
 refine vF mixed [0,1,2,4] Tryz.func205 rfl Tryz.results205 Tryz.ntmps205 ?_
 (refine' zo)
def fnD (v b:Int):V:= .d (.fn 205 [boxD v,boxD b])
def z8:Blk:= .cell [iv 0,iv 0,iv 0,iv 0,iv 0,iv 0,iv 0,iv 0]
def plC (s:Sm) (n:Int):Blk:= .cell [iv 0,iv s.n,iv s.d0,iv s.d1,iv s.d2,iv s.mx,iv s.pos,iv n]
def fiS (d:Nat) (v b:Int) (x:Option T × Sm × Nat):St:=⟨[(1,iv d),(8,.po 0 0),(11,fnD v b),(12,.po 1 0),(13,.d (nodeO x.1))],[(0,z8),(1,plC x.2.1 x.2.2)],2⟩
attribute [push_cast] fiS.eq_def fnD.eq_def z8.eq_def plC.eq_def nodeO.eq_1 nodeO.eq_2
theorem drop_is {α:Type} {l:List α} {i:Nat} {x:α} (h:l[i]? = some x):l.drop i=x::l.drop (i+1):=by
 obtain ⟨h1,h2⟩:=List.getElem?_eq_some_iff.1 h
 rw [←h2];exact List.drop_eq_getElem_cons h1
def leS (d:Nat) (v b:Int) (l:List It) (n:Int) (y:Nat × Sm):St:=⟨[(1,iv d),(8,.po 0 0),(11,fnD v b),(12,.po 1 0),(101,.d (.sd 7 false (l.map itD))),(102,iv l.length),(103,iv y.1)],[(0,z8),(1,plC y.2 n)],2⟩
def kiS (d:Nat) (v b:Int) (ks:List T) (n:Int) (y:Nat × Sm):St:=⟨[(1,iv d),(8,.po 0 0),(11,fnD v b),(12,.po 1 0),(13,.d (.lit .nilIface)),(72,.d (.sd 1 false (ks.map nodeD))),(73,iv ks.length),(74,iv y.1)],[(0,z8),(1,plC y.2 n)],2⟩
attribute [push_cast] leS.eq_def kiS.eq_def
structure LeP (R:Sm→Bool) (fin:Sm) (l:List It) (y:Nat × Sm):Prop where
 ok:smOk y.2
 le:y.1≤l.length
 len:y.2.n+(l.drop y.1).length≤1000000
 fin:scan R y.2 (l.drop y.1)=fin
structure KiP (R:Sm→Bool) (vis:Nat) (fin:Sm × Nat) (ks:List T) (y:Nat × Sm):Prop where
 ok:smOk y.2
 le:y.1≤ks.length
 len:y.2.n+(T.itemsL (ks.drop y.1)).length≤1000000
 fst:(descL R (ks.drop y.1) y.2).1=fin.1
 vis:vis+(descL R (ks.drop y.1) y.2).2=fin.2
def fiM (R:Sm→Bool) (x:Option T × Sm × Nat):Nat:=match x.1 with|none=>0|some t=>(desc R t x.2.1).2
theorem reach_yes {d:Nat} {v b:Int} {s:Sm} (h:v<szS s d∨b=0∧szS s d=v):reachB d v b s=true:=by
 simp only [reachB,Bool.or_eq_true,Bool.and_eq_true,decide_eq_true_eq,beq_iff_eq];exact h
theorem reach_no {d:Nat} {v b:Int} {s:Sm} (h : ¬(v<szS s d∨b=0∧szS s d=v)) : ¬reachB d v b s=true:=by
 simp only [reachB,Bool.or_eq_true,Bool.and_eq_true,decide_eq_true_eq,beq_iff_eq];exact h
structure FiP (R:Sm→Bool) (fin:Sm × Nat) (x:Option T × Sm × Nat):Prop where
 ok:smOk x.2.1
 sub : ∀t,x.1=some t→t.wf∧x.2.1.n+t.items.length≤1000000∧(∀i∈t.items,itOk i)∧(desc R t x.2.1).1=fin.1∧x.2.2+(desc R t x.2.1).2=fin.2
 non:x.1=none→x.2.1=fin.1∧x.2.2=fin.2
set_option maxHeartbeats 1600000 in
theorem Find_some (t:T) (d:Nat) (hd:d≤3) (v b:Int) (hw:t.wf) (hh:t.ht≤1000000) (hn:t.items.length≤1000000) (hi : ∀i∈t.items,itOk i) (hv0:0≤v) (hv:v≤szS (sumL t.items) d) (hb:b=0∨b=1)
 (fin:Sm × Nat) (hfin:fin=desc (reachB d v b) t Sm.zero) :
 OFn Tryz.prog G0 197 [.d (treeD (some t)),iv d,iv v,iv b] [] 0 (.tup [.d (.agg [.lit (.int .i64 fin.1.n),.lit (.int .i64 fin.1.n),.lit (.int .i64 fin.1.d0),.lit (.int .i64 fin.1.d1),.lit (.int .i64 fin.1.d2),.lit (.int .i64 fin.1.mx),.lit (.int .i64 fin.1.pos),.lit (.int .i64 fin.2)]),iv 0]) []:=by
 have r1:=Sum_fn (some t)
 have r2:=top_fn (some t)
 have r3:=size_fn (sumL t.items) d hd
 simp only [itemsO] at r1
 rw [treeD] at r1 r2 ⊢
 simp only [nodeO] at r1 r2 ⊢
 refine vF mixed [0,1,2,3,6,7,8,9,10,11,12,13,14,15,17,18,19,20,22,23,50,57,68,72,73,74,75,87,97,101,102,103,104,116] Tryz.func197 rfl Tryz.results197 Tryz.ntmps197 ?_
 (refine' zg3 r1 r2 r3)
 refine vL (lv:=[0,1,2,3,6,7,8,9,10,11,12,13,14,15,17,18,19,20,22,23,50,57,68,72,73,74,75,87,97,101,102,103,104,116]) mixed (fiS d v b) (FiP (reachB d v b) fin) (fiM (reachB d v b)) ((some t,Sm.zero,0)) (GhW.frz 0<|GhW.frz 4<|(GhW.go [1,8,11,12,13] (by exact vT) rfl)) ?_ ?_
 ·refine ⟨zero_ok,fun t' e =>?_,fun e=>by cases e⟩
  injection e with e;subst e
  exact ⟨hw,by simp [Sm.zero];omega,hi,by rw [hfin],by simp only [hfin];omega⟩
 rintro ⟨ot,s,vis⟩ ⟨p1,p2,p3⟩
 simp only at p1 p2 p3
 have v1:=desc_vis (R:=reachB d v b) t Sm.zero hw
 rw [←hfin] at v1
 cases ot with
 | none=>
  obtain ⟨rfl,rfl⟩:=p3 rfl
  (refine' zo)
 | some n=>
  obtain ⟨q1,q2,q3,q4,q5⟩:=p2 n rfl
  have v2:=desc_vis (R:=reachB d v b) n s q1
  cases n with
  | leaf l=>
   simp only [T.items] at q2 q3
   simp only [desc] at q4 q5
   simp only [T.wf] at q1
   (refine' zo)
   refine vL (lv:=[0,1,2,3,6,7,8,9,10,11,12,13,14,15,17,18,19,20,22,23,50,57,68,72,73,74,75,87,97,101,102,103,104,116]) mixed (leS d v b l (vis+1)) (LeP (reachB d v b) fin.1 l) (fun y=>l.length - y.1) ((0,s)) ((GhW.go [1,8,11,12,101,102,103] (by exact vT) rfl)) ?_ ?_
   ·exact ⟨p1,by simp,by simpa using q2,by simpa using q4⟩
   rintro ⟨j,z⟩ ⟨u1,u2,u3,u4⟩
   simp only at u1 u2 u3 u4
   have hvis:((vis:Int)+1)=(fin.2:Int):=by omega
   (refine' zo)
   ·refine elX.intro fun x hx =>?_
    have hok:itOk x:=q3 x (List.mem_of_getElem? hx)
    have hdr:=drop_is hx
    rw [hdr,scan] at u4
    have a1:=Add_fn z (ofI x) u1 (ofI_ok hok)
    have a2:=addM_ok u1 (ofI_ok hok) (by rw [hdr] at u3;simp only [ofI];simp only [List.length_cons] at u3;omega)
    (refine' zo4 (Of_fn x) a1 (size_fn (addM z (ofI x)) d hd) (reach_fn (szS (addM z (ofI x)) d) v b))
    ·rw [if_pos (reach_yes h)] at u4
     rw [←u4,←hvis]
    ·rw [if_neg (reach_no h)] at u4
     refine AgW.go ((j+1,addM z (ofI x))) [1,8,11,12,101,102,103] (by exact vT) ?_ ?_
     ·show l.length - (j+1)<l.length - j
      omega
     ·rw [hdr] at u3
      exact ⟨a2,by simp only;omega,by simp only [List.length_cons] at u3;simp only [addM,ofI];omega,u4⟩
   ·rw [List.drop_of_length_le (by omega),scan] at u4
    rw [←u4,←hvis]
  | inner g ks=>
   simp only [T.items] at q2 q3
   simp only [desc] at q4 q5
   simp only [T.wf] at q1
   (refine' zo)
   refine vL (lv:=[0,1,2,3,6,7,8,9,10,11,12,13,14,15,17,18,19,20,22,23,50,57,68,72,73,74,75,87,97,101,102,103,104,116]) mixed (kiS d v b ks (vis+1)) (KiP (reachB d v b) (vis+1) fin ks) (fun y=>ks.length - y.1) ((0,s)) ((GhW.go [1,8,11,12,13,72,73,74] (by exact vT) rfl)) ?_ ?_
   ·exact ⟨p1,by simp,by simpa using q2,by simpa using q4,by simpa [Nat.add_assoc,Nat.add_comm 1] using q5⟩
   rintro ⟨j,z⟩ ⟨u1,u2,u3,u4,u5⟩
   simp only at u1 u2 u3 u4 u5
   (refine' zo)
   ·refine elX.intro fun k hk =>?_
    have hdr:=drop_is hk
    rw [hdr] at u3 u4 u5
    rw [descL] at u4 u5
    simp only [T.itemsL,List.length_append] at u3
    have hkw:=T.wfL_mem q1.2.2.2 k (List.mem_of_getElem? hk)
    have hki : ∀i∈k.items,itOk i:=fun i q=>by
     obtain ⟨a,b,e⟩:=items_in hk
     exact q3 i (by rw [e];simp [q])
    have o1:smOk (sumL k.items):=sumL_ok _ hki (by have:=u1.1;omega)
    have a1:=Add_fn z (sumL k.items) u1 o1
    have a2:=addM_ok u1 o1 (by rw [sumL_n];omega)
    (refine' zo4 (sumOf_fn k) a1 (size_fn (addM z (sumL k.items)) d hd) (reach_fn (szS (addM z (sumL k.items)) d) v b))
    ·rw [if_pos (reach_yes h)] at u4 u5
     have v3:=desc_vis (R:=reachB d v b) k z hkw.2
     refine AgW.go ((some k,z,vis+1)) [1,8,11,12,13] (by exact vT) ?_ ?_
     ·show (desc (reachB d v b) k z).2<(desc (reachB d v b) (.inner g ks) s).2
      simp only [desc]
      omega
     ·exact ⟨u1,fun t' e=>by injection e with e;subst e;exact ⟨hkw.2,by simp only;omega,hki,u4,u5⟩,fun e=>by cases e⟩
    ·rw [if_neg (reach_no h)] at u4 u5
     refine AgW.go ((j+1,addM z (sumL k.items))) [1,8,11,12,13,72,73,74] (by exact vT) ?_ ?_
     ·show ks.length - (j+1)<ks.length - j
      omega
     ·exact ⟨a2,by simp only;omega,by simp only [addM];rw [sumL_n];omega,u4,u5⟩
   ·rw [List.drop_of_length_le (by omega),descL] at u4 u5
    simp only at u4 u5
    refine AgW.go ((none,z,vis+1)) [1,8,11,12,13] (by exact vT) ?_ ?_
    ·show 0<(desc (reachB d v b) (.inner g ks) s).2
     simp only [desc]
     omega
    ·exact ⟨u1,(fun t' e=>by cases e),fun _=>⟨u4,by omega⟩⟩
def z7:Blk:= .cell [iv 0,iv 0,iv 0,iv 0,iv 0,iv 0,.d (.lit (.string ⟨#[]⟩))]
def atS (x:T × Nat):St:=⟨[(1,iv x.2),(4,.po 0 0),(6,.d (nodeD x.1))],[(0,z7)],1⟩
def akS (ks:List T) (y:Nat × Nat):St:=⟨[(1,iv y.2),(4,.po 0 0),(34,.d (.sd 1 false (ks.map nodeD))),(35,iv ks.length),(36,iv y.1)],[(0,z7)],1⟩
attribute [push_cast] z7.eq_def atS.eq_def akS.eq_def
structure AtP (x:It) (y:T × Nat):Prop where
 wf:y.1.wf
 len:y.1.items.length≤1000000
 get:y.1.items[y.2]? = some x
structure AkP (x:It) (ks:List T) (y:Nat × Nat):Prop where
 le:y.1≤ks.length
 get:(T.itemsL (ks.drop y.1))[y.2]? = some x
set_option maxHeartbeats 1600000 in
theorem At_some (t:T) (i:Nat) (x:It) (hw:t.wf) (hn:t.items.length≤1000000) (hx:t.items[i]? = some x) :
 OFn Tryz.prog G0 188 [.d (treeD (some t)),iv i] [] 0 (.tup [.d (itD x),iv 0]) []:=by
 have hlt:=(List.getElem?_eq_some_iff.1 hx).1
 have r1:=Sum_fn (some t)
 have r2:=top_fn (some t)
 have e0:(sumL t.items).n=t.items.length:=sumL_n _
 simp only [itemsO] at r1
 rw [treeD] at r1 r2 ⊢
 simp only [nodeO] at r1 r2 ⊢
 refine vF mixed [0,1,4,5,6,7,8,10,11,20,30,34,35,36,37,45] Tryz.func188 rfl Tryz.results188 Tryz.ntmps188 ?_
 (refine' zg2 r1 r2)
 refine vL (lv:=[0,1,4,5,6,7,8,10,11,20,30,34,35,36,37,45]) mixed (atS) (AtP x) (fun y=>y.1.ht) ((t,i)) ((GhW.go [1,4,6] (by exact vT) rfl)) ?_ ?_
 ·exact ⟨hw,hn,hx⟩
 rintro ⟨n,k⟩ ⟨p1,p2,p3⟩
 simp only at p1 p2 p3
 have hlk:=(List.getElem?_eq_some_iff.1 p3).1
 cases n with
 | leaf l=>
  simp only [T.items] at p2 p3 hlk
  (refine' zo)
  refine elX.is k x (by omega) p3 ?_
  (refine' zo)
 | inner g ks=>
  simp only [T.items] at p2 p3 hlk
  simp only [T.wf] at p1
  (refine' zo)
  refine vL (lv:=[0,1,4,5,6,7,8,10,11,20,30,34,35,36,37,45]) mixed (akS ks) (AkP x ks) (fun y=>ks.length - y.1) ((0,k)) ((GhW.go [1,4,34,35,36] (by exact vT) rfl)) ?_ ?_
  ·exact ⟨by simp,by simpa using p3⟩
  rintro ⟨j,m⟩ ⟨u1,u2⟩
  simp only at u1 u2
  rcases Nat.lt_or_ge j ks.length with hj|hj
  ·obtain ⟨kid,hk⟩ : ∃kid,ks[j]? = some kid:=⟨_,List.getElem?_eq_getElem hj⟩
   have hdr:=drop_is hk
   rw [hdr] at u2
   simp only [T.itemsL] at u2
   have hkw:=T.wfL_mem p1.2.2.2 kid (List.mem_of_getElem? hk)
   have e1:(sumL kid.items).n=kid.items.length:=sumL_n _
   obtain ⟨a,b,eab⟩:=items_in hk
   have hln:=congrArg List.length eab
   simp only [List.length_append] at hln
   have hm:=(List.getElem?_eq_some_iff.1 u2).1
   obtain ⟨c,ec⟩ : ∃c,T.itemsL ks=c++(kid.items++T.itemsL (ks.drop (j+1))):=⟨T.itemsL (ks.take j),by rw [←T.itemsL,←hdr,←T.itemsL_app,List.take_append_drop]⟩
   have hlc:=congrArg List.length ec
   simp only [List.length_append] at hlc hm
   (refine' zg)
   refine elX.is j kid (by omega) hk ?_
   (refine' zo1 (sumOf_fn kid))
   ·rw [List.getElem?_append_right (by omega)] at u2
    refine AgW.go ((j+1,m - kid.items.length)) [1,4,34,35,36] (by exact vT) ?_ ?_
    ·show ks.length - (j+1)<ks.length - j
     omega
    ·exact ⟨by simp only;omega,u2⟩
   ·rw [List.getElem?_append_left (by omega)] at u2
    refine AgW.go ((kid,m)) [1,4,6] (by exact vT) ?_ ?_
    ·show kid.ht<(T.inner g ks).ht
     rw [hkw.1,T.ht_inner]
     omega
    ·exact ⟨hkw.2,by simp only;omega,u2⟩
  ·rw [List.drop_of_length_le hj] at u2
   simp [T.itemsL] at u2
theorem At_bad (t:Option T) (i:Nat) (hi:(itemsO t).length≤i) (hs:i≤1000000) :
 OFn Tryz.prog G0 188 [.d (treeD t),iv i] [] 0 (.tup [.d (itD ⟨0,0,0,0,0,0,⟨#[]⟩⟩),iv 1]) []:=by
 have r1:=Sum_fn t
 have e0:(sumL (itemsO t)).n=(itemsO t).length:=sumL_n _
 rw [treeD] at r1 ⊢
 refine vF mixed [0,1,4,5,6,7,8,10,11,20,30,34,35,36,37,45] Tryz.func188 rfl Tryz.results188 Tryz.ntmps188 ?_
 (refine' zo1 r1)
structure Tk (t:Option T):Prop where
 wf:wfO t
 ht:htO t≤1000000
 len:(itemsO t).length≤30000
 ok : ∀i∈itemsO t,itOk i
abbrev it0:It:=⟨0,0,0,0,0,0,⟨#[]⟩⟩
theorem At_fn (t:Option T) (k:Tk t) (i:Nat) (hs:i≤1000000):OFn Tryz.prog G0 188 [.d (treeD t),iv i] [] 0 (.tup [.d (itD ((itemsO t).getD i it0)),iv (if i<(itemsO t).length then 0 else 1)]) []:=by
 by_cases hi:i<(itemsO t).length
 ·rw [if_pos hi]
  have hg:(itemsO t)[i]? = some ((itemsO t).getD i it0):=by simp [List.getD_eq_getElem?_getD,hi]
  cases t with
  | none=>simp [itemsO] at hi
  | some t=>exact At_some t i _ k.wf (by have:=k.len;simp only [itemsO] at this;omega) hg
 ·rw [if_neg hi]
  have hg:(itemsO t).getD i it0=it0:=by simp [List.getD_eq_getElem?_getD,hi]
  rw [hg]
  exact At_bad t i (by omega) hs
end Go.Proofs.YtkhonlnajdfhfaaGreatDoor
