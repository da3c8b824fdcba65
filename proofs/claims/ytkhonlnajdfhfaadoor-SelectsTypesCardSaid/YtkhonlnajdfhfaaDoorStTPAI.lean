/- What the theorem leans on, part 9. -/
import Derived.Test.YtkhonlnajdfhfaaDoorStTPAD
import Derived.Test.YtkhonlnajdfhfaaDoorStTPAH
set_option linter.unusedSimpArgs false
set_option linter.unusedVariables false
set_option maxRecDepth 8000
namespace Go.Proofs.YtkhonlnajdfhfaaDoor
abbrev mc (i:It):D:= .agg [.lit (.int .i64 i.tag),.lit (.int .i64 i.id),.lit (.int .i64 i.d0),.lit (.int .i64 i.d1),.lit (.int .i64 i.d2),.lit (.int .i64 i.mx),.lit (.string i.text)]
abbrev oc (s:Sm):D:= .agg [.lit (.int .i64 s.n),.lit (.int .i64 s.d0),.lit (.int .i64 s.d1),.lit (.int .i64 s.d2),.lit (.int .i64 s.mx),.lit (.int .i64 s.pos)]
abbrev Gi (l:List It):V:= .d (.sd 7 false (l.map mc))
theorem uY (n:Int):aG Tryd.prog G0 64 [iv n] [] 0 (bv (decide (0≤n)&&decide (n≤1099511627776))) []:=by
 refine vF ab [0,2] Tryd.func64 rfl Tryd.results64 Tryd.ntmps64 ?_;(refine' zo)
theorem vf (i:It):aG Tryd.prog G0 85 [.d (mc i)] [] 0 (.d (oc (fk i))) []:=by
 refine vF ab [0,1,2] Tryd.func85 rfl Tryd.results85 Tryd.ntmps85 ?_;(refine' zo)
 rfl
def th (a b:Sm) (d0 d1 d2 i:Int):St:=⟨[(2,.po 0 0),(3,.po 1 0),(4,.po 2 0),(5,.po 3 0),(17,iv i)],
 [(0,.cell [iv a.n,iv a.d0,iv a.d1,iv a.d2,iv a.mx,iv a.pos]),(1,.cell [iv b.n,iv b.d0,iv b.d1,iv b.d2,iv b.mx,iv b.pos]),(2,.cell [iv 0,iv 0,iv 0,iv 0,iv 0,iv 0]),
  (3,.cell [iv (a.n+b.n),iv d0,iv d1,iv d2,iv a.mx,iv a.pos])],4⟩
def oD (a b:Sm):Nat→St
 | 0=>th a b 0 0 0 0
 | 1=>th a b (a.d0+b.d0) 0 0 1
 | 2=>th a b (a.d0+b.d0) (a.d1+b.d1) 0 2
 | _=>th a b (a.d0+b.d0) (a.d1+b.d1) (a.d2+b.d2) 3
attribute [push_cast] th.eq_def oD.eq_1 oD.eq_2 oD.eq_3
theorem ya (a b:Sm):oD a b 3=th a b (a.d0+b.d0) (a.d1+b.d1) (a.d2+b.d2) 3:=rfl
attribute [push_cast] ya
set_option maxHeartbeats 1600000 in
theorem kH (a b:Sm) (ha:d5 a) (hb:d5 b):aG Tryd.prog G0 83 [.d (oc a),.d (oc b)] [] 0 (.d (oc (aS a b))) []:=by
 unfold d5 at ha hb;refine vF ab [0,1,2,3,4,5,6,17,18,47] Tryd.func83 rfl Tryd.results83 Tryd.ntmps83 ?_;(refine' zg)
 refine vL (lv:=[0,1,2,3,4,5,6,17,18,47]) ab (oD a b) (fun i=>i≤3) (fun i=>3 - i) (0) ((a7.go [2,3,4,5,17] (by exact vS) rfl)) ?_ ?_
 ·exact Nat.zero_le _
 intro i hi;have h4:i=0∨i=1∨i=2∨i=3:=by omega
 rcases h4 with rfl|rfl|rfl|rfl
 ·(refine' zg)
  refine bA.go (1) [2,3,4,5,17] (by exact vS) ?_ ?_;all_goals omega
 ·(refine' zg)
  refine bA.go (2) [2,3,4,5,17] (by exact vS) ?_ ?_;all_goals omega
 ·(refine' zg)
  refine bA.go (3) [2,3,4,5,17] (by exact vS) ?_ ?_;all_goals omega
 ·(refine' zo)
  ·refine fJ.lo [(0,.cell [iv a.n,iv a.d0,iv a.d1,iv a.d2,iv a.mx,iv a.pos]),(1,.cell [iv b.n,iv b.d0,iv b.d1,iv b.d2,iv b.mx,iv b.pos])] (by decide +kernel) (by decide +kernel) (aY.cons rfl (aY.cons rfl aY.nil)) ?_;simp only [nS,qX];(repeat' (first|(with_reducible first|exact True.intro|refine vD ?_|refine vG ?_|refine vE ?_)|with_reducible refine ah.out ?_|(with_reducible refine qh.of (aY.cons rfl (aY.cons rfl aY.nil)) ?_)|refine vR ?_|refine v6 ?_|with_reducible refine vN ?_|((with_reducible first|refine vB (fun h =>?_) (fun h =>?_)|refine vM (fun h =>?_) (fun h =>?_))<;>(first|(exfalso;omega)|skip))))
   simp only [oc,aS,if_pos h]
  ·simp only [oc,aS,if_neg h]
def DO (s:Sm):bP:= .cell [iv s.n,iv s.d0,iv s.d1,iv s.d2,iv s.mx,iv s.pos]
def Aw (l:List It) (b:Bool) (i:Nat):St:=⟨[(2,.po 0 0),(3,.po 1 0),(6,.d (.sd 7 b (l.map mc))),(7,iv l.length),(8,iv i)],[(0,DO Sm.zero),(1,DO (ar (l.take i)))],2⟩
attribute [push_cast] Aw.eq_def DO.eq_def
theorem xN:Sm.zero.n=0:=rfl
theorem sW:Sm.zero.d0=0:=rfl
theorem sX:Sm.zero.d1=0:=rfl
theorem sZ:Sm.zero.d2=0:=rfl
theorem s4:Sm.zero.mx=0:=rfl
theorem qe:Sm.zero.pos=0:=rfl
attribute [push_cast] xN sW sX sZ s4 qe
theorem cQ {α:Type} {l:List α} {i:Nat} {x:α} (h:l[i]? = some x):l.take (i+1)=l.take i++[x]:=by
 rw [List.take_add_one,h];rfl
set_option maxHeartbeats 1600000 in
theorem Al (l:List It) (hl:l.length≤1000000) (hi : ∀i∈l,ck i) (b:Bool):aG Tryd.prog G0 67 [.d (.sd 7 b (l.map mc))] [] 0 (.d (oc (ar l))) []:=by
 refine vF ab [0,2,3,5,6,7,8,9] Tryd.func67 rfl Tryd.results67 Tryd.ntmps67 ?_;(refine' zg)
 refine vL (lv:=[0,2,3,5,6,7,8,9]) ab (Aw l b) (fun i=>i≤l.length) (fun i=>l.length - i) (0) ((a7.go [2,3,6,7,8] (by exact vS) rfl)) ?_ ?_
 ·exact Nat.zero_le _
 intro i hle;(refine' zo)
 ·refine cj.intro fun x hx =>?_
  have hok:ck x:=hi x (List.mem_of_getElem? hx);have hs:d5 (ar (l.take i)):=iQ _ (fun y hy=>hi y (List.mem_of_mem_take hy)) (by simp;omega);(refine' CT (vf x) (kH (ar (l.take i)) (fk x) hs (lG hok)))
  refine bA.go (i+1) [2,3,6,7,8] (by (try simp only [Aw]);rw [cQ hx,eB];exact vS) ?_ ?_;all_goals omega
 ·rw [List.take_of_length_le (by omega)]
def BU (x:It):Nat→St
 | 0=>⟨[(3,bv true),(10,.d (.agg [.lit (.int .i64 x.d0),.lit (.int .i64 x.d1),.lit (.int .i64 x.d2)])),(11,iv 0)],[],0⟩
 | 1=>⟨[(3,bv true),(10,.d (.agg [.lit (.int .i64 x.d0),.lit (.int .i64 x.d1),.lit (.int .i64 x.d2)])),(11,iv 1)],[],0⟩
 | 2=>⟨[(3,bv true),(10,.d (.agg [.lit (.int .i64 x.d0),.lit (.int .i64 x.d1),.lit (.int .i64 x.d2)])),(11,iv 2)],[],0⟩
 | _=>⟨[(3,bv true),(10,.d (.agg [.lit (.int .i64 x.d0),.lit (.int .i64 x.d1),.lit (.int .i64 x.d2)])),(11,iv 3)],[],0⟩
theorem BV (x:It):BU x 3=⟨[(3,bv true),(10,.d (.agg [.lit (.int .i64 x.d0),.lit (.int .i64 x.d1),.lit (.int .i64 x.d2)])),(11,iv 3)],[],0⟩:=rfl
attribute [push_cast] BU.eq_1 BU.eq_2 BU.eq_3 BV
theorem e8 {n:Int} (h1:0≤n) (h2:n≤1099511627776):aG Tryd.prog G0 64 [iv n] [] 0 (bv true) []:=by
 have:=uY n;rwa [decide_eq_true h1,decide_eq_true h2] at this
set_option maxHeartbeats 1600000 in
theorem u9 (x:It) (hx:ck x):aG Tryd.prog G0 47 [.d (mc x)] [] 0 (iv 0) []:=by
 unfold ck at hx;obtain ⟨h1,h2,h3,h4,h5,h6,h7,h8⟩:=hx;refine vF ab [0,1,2,3,5,10,11,12,21] Tryd.func47 rfl Tryd.results47 Tryd.ntmps47 ?_;(refine' qj (e8 h7 h8))
 refine vL (lv:=[0,1,2,3,5,10,11,12,21]) ab (BU x) (fun i=>i≤3) (fun i=>3 - i) (0) ((a7.go [3,10,11] (by exact vS) rfl)) ?_ ?_
 ·exact Nat.zero_le _
 intro i hi;have h9:i=0∨i=1∨i=2∨i=3:=by omega
 rcases h9 with rfl|rfl|rfl|rfl
 ·(refine' qj (e8 h1 h2))
  refine bA.go (1) [3,10,11] (by exact vS) ?_ ?_;all_goals omega
 ·(refine' qj (e8 h3 h4))
  refine bA.go (2) [3,10,11] (by exact vS) ?_ ?_;all_goals omega
 ·(refine' qj (e8 h5 h6))
  refine bA.go (3) [3,10,11] (by exact vS) ?_ ?_;all_goals omega
 ·(refine' zo)
end Go.Proofs.YtkhonlnajdfhfaaDoor
set_option linter.unusedSimpArgs false
set_option linter.unusedVariables false
set_option maxRecDepth 8000
set_option linter.defProp false
namespace Go.Proofs.YtkhonlnajdfhfaaDoor
def km (s:Sm):List D:=[.lit (.int .i64 s.n),.lit (.int .i64 s.d0),.lit (.int .i64 s.d1),.lit (.int .i64 s.d2),.lit (.int .i64 s.mx),.lit (.int .i64 s.pos)]
def jR (l:List It):D:= .pd 7 [.agg (.sd 7 false (l.map mc)::km (ar l))] 0 0
def dW (h:Nat) (ks:List D) (s:Sm):D:= .pd 8 [.agg (.sd 1 false ks :: .lit (.int .i64 h)::km s)] 0 0
mutual
def bd:T→D
 | .leaf l=> .ifc 97 (jR l)
 | .inner h ks=> .ifc 131 (dW h (lD ks) (ar (T.itemsL ks)))
def lD:List T→List D
 | []=>[]
 | k::r=>bd k::lD r
end
theorem lE : ∀ks:List T,lD ks=ks.map bd
 | []=>by rw [lD];rfl
 | k::r=>by rw [lD,lE r];rfl
theorem b5 (l:List It):bd (.leaf l) = .ifc 97 (jR l):=by rw [bd]
theorem b4 (h:Nat) (ks:List T):bd (.inner h ks) = .ifc 131 (dW h (ks.map bd) (ar (T.itemsL ks))):=by rw [bd,lE]
def cA:Option T→D
 | none=> .lit .nilIface
 | some t=>bd t
theorem pw (t:T):(bd t).cells=[bd t]:=by
 cases t with
 | leaf l=>rw [b5];rfl
 | inner h ks=>rw [b4];rfl
def rj (t:T):=(D.cells.eq_def (bd t)).symm.trans (pw t)
attribute [push_cast] rj
attribute [push_cast] b5 b4 jR.eq_def dW.eq_def km.eq_def T.items.eq_1 T.items.eq_2 T.ht.eq_1 T.ht.eq_2
set_option maxHeartbeats 1600000 in
theorem iR (t:T):aG Tryd.prog G0 84 [.d (bd t)] [] 0 (.d (oc (ar t.items))) []:=by
 cases t with
 | leaf l=>
  refine vF ab [0,2,3,4,5,7,8,14,15] Tryd.func84 rfl Tryd.results84 Tryd.ntmps84 ?_;(refine' zo)
 | inner h ks=>
  refine vF ab [0,2,3,4,5,7,8,14,15] Tryd.func84 rfl Tryd.results84 Tryd.ntmps84 ?_;(refine' zo)
theorem bb (t:T):aG Tryd.prog G0 79 [.d (bd t)] [] 0 (iv t.ht) []:=by
 cases t with
 | leaf l=>
  refine vF ab [0,2,4,5,7,8,10,11] Tryd.func79 rfl Tryd.results79 Tryd.ntmps79 ?_;(refine' zo)
 | inner h ks=>
  refine vF ab [0,2,4,5,7,8,10,11] Tryd.func79 rfl Tryd.results79 Tryd.ntmps79 ?_;(refine' zo)
theorem ej (l:List It) (hl:l.length≤1000000) (hi : ∀i∈l,ck i):aG Tryd.prog G0 49 [.d (.sd 7 false (l.map mc))] [] 0 (.d (jR l)) []:=by
 refine vF ab [0,2] Tryd.func49 rfl Tryd.results49 Tryd.ntmps49 ?_;(refine' qj (Al l hl hi false))
 refine ah.frz 20 (ah.out ?_);(repeat (first|(with_reducible first|exact True.intro|refine vD ?_|refine vG ?_|refine vE ?_)|refine vR ?_))
def DE (ks:List T) (h:Nat) (i:Nat):St:=⟨[(3,.po 0 0),(14,.d (.sd 1 false (ks.map bd))),(15,iv ks.length),(16,iv i)],
 [(0,.cell [.d (.sd 1 false (ks.map bd)),iv h,iv (ar (T.itemsL (ks.take i))).n,iv (ar (T.itemsL (ks.take i))).d0,iv (ar (T.itemsL (ks.take i))).d1,iv (ar (T.itemsL (ks.take i))).d2,iv (ar (T.itemsL (ks.take i))).mx,iv (ar (T.itemsL (ks.take i))).pos])],1⟩
attribute [push_cast] DE.eq_def
theorem iP:ar []=Sm.zero:=rfl
attribute [push_cast] iP
theorem fz {ks:List T} {i:Nat} {k:T} (h:ks[i]? = some k):T.itemsL (ks.take (i+1))=T.itemsL (ks.take i)++k.items:=by
 rw [cQ h,T.itemsL_app];simp only [T.itemsL,List.append_nil]
theorem jO {ks:List T} (i:Nat) : ∃r,T.itemsL ks=T.itemsL (ks.take i)++r:=⟨T.itemsL (ks.drop i),by rw [←T.itemsL_app,List.take_append_drop]⟩
theorem lk {ks:List T} {i:Nat} {k:T} (h:ks[i]? = some k) : ∃a b,T.itemsL ks=a++k.items++b:=by
 obtain ⟨r,hr⟩:=jO (ks:=ks) (i+1);exact ⟨_,r,by rw [hr,fz h]⟩
set_option maxHeartbeats 1600000 in
theorem dz (ks:List T) (h:Nat) (hh:h≤1000000) (h0:0<ks.length) (hn:ks.length≤100) (hk : ∀k∈ks,k.ht=h) (hl:(T.itemsL ks).length≤1000000) (hi : ∀i∈T.itemsL ks,ck i) :
 aG Tryd.prog G0 66 [.d (.sd 1 false (ks.map bd))] [] 0 (.d (dW (h+1) (ks.map bd) (ar (T.itemsL ks)))) []:=by
 refine vF ab [0,2,3,5,14,15,16,17] Tryd.func66 rfl Tryd.results66 Tryd.ntmps66 ?_;(refine' zg)
 refine cj.intro fun k0 hk0 =>?_
 obtain rfl:k0.ht=h:=hk _ (List.mem_of_getElem? hk0);(refine' qj (bb k0))
 refine vL (lv:=[0,2,3,5,14,15,16,17]) ab (DE ks (k0.ht+1)) (fun i=>i≤ks.length) (fun i=>ks.length - i) (0) ((a7.go [3,14,15,16] (by exact vS) rfl)) ?_ ?_
 ·exact Nat.zero_le _
 intro i hle;(refine' zg)
 ·refine cj.intro fun k hk =>?_
  obtain ⟨a,b,e⟩:=lk hk;obtain ⟨r,er⟩:=jO (ks:=ks) i;have s1:d5 (ar (T.itemsL (ks.take i))):=iQ _ (fun y hy=>hi y (by rw [er];simp [hy])) (by have:=congrArg List.length er;simp at this;omega);have s2:d5 (ar k.items):=iQ _ (fun y hy=>hi y (by rw [e];simp [hy])) (by have:=congrArg List.length e;simp at this;omega);(refine' BL (iR k) (kH (ar (T.itemsL (ks.take i))) (ar k.items) s1 s2))
  refine bA.go (i+1) [3,14,15,16] (by (try simp only [DE]);rw [fz hk,iO];exact vS) ?_ ?_;all_goals omega
 ·refine ah.frz 0 (ah.out ?_);(repeat (first|(with_reducible first|exact True.intro|refine vD ?_|refine vG ?_|refine vE ?_)|refine vR ?_))
  rw [List.take_of_length_le (by omega)]
end Go.Proofs.YtkhonlnajdfhfaaDoor
set_option linter.unusedSimpArgs false
set_option linter.unusedVariables false
set_option maxRecDepth 8000
namespace Go.Proofs.YtkhonlnajdfhfaaDoor
theorem xH {α β:Type} (f:α→β) (l:List α) (i:Nat):(l.map f).take i=(l.take i).map f:=by simp
theorem v5 {α β:Type} (f:α→β) (l:List α) (i:Nat):(l.map f).drop i=(l.drop i).map f:=by simp
attribute [push_cast] xH v5
theorem o5 {n m:Nat} (hn:n≤1000000000) (hm:m=n / 2):IntKind.i64.wrap ((n:Int).tdiv 2)=(m:Int):=by
 have e:(n:Int).tdiv 2=((n / 2:Nat):Int):=rfl;rw [e,←hm];exact Dq _ (by omega) (by omega)
set_option maxHeartbeats 1600000 in
theorem uM (l:List It) (hl:l.length≤1000000) (hi : ∀i∈l,ck i):aG Tryd.prog G0 82 [.d (.sd 7 false (l.map mc))] [] 0 (.d (.sd 1 false ((eV l).map bd))) []:=by
 obtain ⟨m,hm⟩ : ∃m,m=l.length / 2:=⟨_,rfl⟩
 have hmid:=o5 (by omega) hm;refine vF ab [0,2,3,6] Tryd.func82 rfl Tryd.results82 Tryd.ntmps82 ?_;(repeat' (first|(with_reducible first|exact True.intro|refine vD ?_|refine vG ?_|refine vE ?_)|(simp -implicitDefEqProofs -dsimp only [hmid])|with_reducible refine vQ (ej l hl hi) ?_|with_reducible refine vC (ej l hl hi) ?_|with_reducible refine vQ (ej (l.take m) (by simp;omega) (fun i h=>hi i (List.mem_of_mem_take h))) ?_|with_reducible refine vQ (ej (l.drop m) (by simp;omega) (fun i h=>hi i (List.mem_of_mem_drop h))) ?_|refine vR ?_|refine v6 ?_|with_reducible refine vN ?_|((with_reducible first|refine vB (fun h =>?_) (fun h =>?_)|refine vM (fun h =>?_) (fun h =>?_))<;>(first|(exfalso;omega)|skip))))
 ·refine ah.frz 28 (ah.out ?_);(repeat (first|(with_reducible first|exact True.intro|refine vD ?_|refine vG ?_|refine vE ?_)|refine vR ?_))
  rw [eV,if_pos (by omega),List.map_cons,List.map_nil,b5];simp only [jR,km,push_cast];done
 ·refine ah.frz 76 (ah.out ?_);(repeat (first|(with_reducible first|exact True.intro|refine vD ?_|refine vG ?_|refine vE ?_)|refine vR ?_))
  rw [eV,if_neg (by omega),←hm,List.map_cons,List.map_cons,List.map_nil,b5,b5];simp only [jR,km];done
theorem di {ks:List T} {g:Nat} (h0:0<ks.length) (hk : ∀k∈ks,k.ht=g):bd (dA ks) = .ifc 131 (dW (g+1) (ks.map bd) (ar (T.itemsL ks))):=by
 match ks,h0,hk with
 | k::r,h0,hk=>
  unfold dA;rw [b4];simp only;rw [hk k (by simp)]
set_option maxHeartbeats 1600000 in
theorem lS (ks:List T) (g:Nat) (hh:g≤1000000) (h0:0<ks.length) (hn:ks.length≤100) (hk : ∀k∈ks,k.ht=g) (hl:(T.itemsL ks).length≤1000000) (hi : ∀i∈T.itemsL ks,ck i) :
 aG Tryd.prog G0 80 [.d (.sd 1 false (ks.map bd))] [] 0 (.d (.sd 1 false ((dE ks).map bd))) []:=by
 obtain ⟨m,hm⟩ : ∃m,m=ks.length / 2:=⟨_,rfl⟩
 have hmid:=o5 (by omega) hm;have e:=T.itemsL_app (ks.take m) (ks.drop m);rw [List.take_append_drop] at e;have el:=congrArg List.length e;rw [List.length_append] at el;refine vF ab [0,2,3,6] Tryd.func80 rfl Tryd.results80 Tryd.ntmps80 ?_;(repeat' (first|(with_reducible first|exact True.intro|refine vD ?_|refine vG ?_|refine vE ?_)|(simp -implicitDefEqProofs -dsimp only [hmid])|with_reducible refine vQ (dz ks g hh h0 hn hk hl hi) ?_|with_reducible refine vC (dz ks g hh h0 hn hk hl hi) ?_|with_reducible refine vQ (dz (ks.take m) g hh (by simp;omega) (by simp;omega) (fun k q=>hk k (List.mem_of_mem_take q)) (by omega) (fun i q=>hi i (by rw [e];simp [q]))) ?_|with_reducible refine vQ (dz (ks.drop m) g hh (by simp;omega) (by simp;omega) (fun k q=>hk k (List.mem_of_mem_drop q)) (by omega) (fun i q=>hi i (by rw [e];simp [q]))) ?_|refine vR ?_|refine v6 ?_|with_reducible refine vN ?_|((with_reducible first|refine vB (fun h =>?_) (fun h =>?_)|refine vM (fun h =>?_) (fun h =>?_))<;>(first|(exfalso;omega)|skip))))
 ·refine ah.frz 28 (ah.out ?_);(repeat (first|(with_reducible first|exact True.intro|refine vD ?_|refine vG ?_|refine vE ?_)|refine vR ?_))
  rw [dE,if_pos (by omega),List.map_cons,List.map_nil,di h0 hk];simp only [dW,km,push_cast];done
 ·refine ah.frz 76 (ah.out ?_);(repeat (first|(with_reducible first|exact True.intro|refine vD ?_|refine vG ?_|refine vE ?_)|refine vR ?_))
  rw [dE,if_neg (by omega),←hm,List.map_cons,List.map_cons,List.map_nil,di (ks:=ks.take m) (g:=g) (by simp;omega) (fun k q=>hk k (List.mem_of_mem_take q)),di (ks:=ks.drop m) (g:=g) (by simp;omega) (fun k q=>hk k (List.mem_of_mem_drop q))];simp only [dW,km,push_cast];done
set_option maxHeartbeats 1600000 in
theorem rA (a b:List T) (ha:a.length≤100) (hb:b.length≤100):aG Tryd.prog G0 81 [.d (.sd 1 false (a.map bd)),.d (.sd 1 false (b.map bd))] [] 0 (.d (.sd 1 false ((a++b).map bd))) []:=by
 refine vF ab [0,1,4,5] Tryd.func81 rfl Tryd.results81 Tryd.ntmps81 ?_;(refine' zg)
 refine ah.frz 56 (ah.out ?_);(repeat (first|(with_reducible first|exact True.intro|refine vD ?_|refine vG ?_|refine vE ?_)|refine vR ?_))
 simp
theorem y1 {α β:Type} (f:α→β) (a b:List α):a.map f++b.map f=(a++b).map f:=by simp
attribute [push_cast] y1 List.replicate_zero List.nil_append
structure xQ (n:Nat) (a b:T):Prop where
 wa:a.wf
 wb:b.wf
 sum:a.ht+b.ht≤n
 len:a.items.length+b.items.length≤1000000
 ia : ∀i∈a.items,ck i
 ib : ∀i∈b.items,ck i
 small:n≤1000000
abbrev dc (n:Nat) (a b:T):Prop:=aG Tryd.prog G0 65 [.d (bd a),.d (bd b)] [] 0 (.d (.sd 1 false ((bZ n a b).map bd))) []
set_option maxHeartbeats 1600000 in
theorem ul (n h:Nat) (ks:List T) (b:T) (w:xQ (n+1) (.inner h ks) b) (hlt:b.ht<h) (ih : ∀a b,xQ n a b→dc n a b):dc (n+1) (.inner h ks) b:=by
 have wa:=w.wa;simp only [T.wf] at wa;obtain ⟨k0,k1,k2,kw⟩:=wa;have wn:=w.sum;have ws:=w.small;have wl:=w.len;have wi:=w.ia;simp only [T.ht_inner] at wn;simp only [T.items] at wl wi;obtain ⟨m,hm⟩ : ∃m,m+1=ks.length:=⟨ks.length - 1,by omega⟩
 have hlast:(ks.length:Int) - 1=(m:Int):=by omega
 have e:ks.getLast? = ks[m]? :=by rw [List.getLast?_eq_getElem?,←hm];rfl
 have ed:ks.dropLast=ks.take m:=by rw [List.dropLast_eq_take,←hm];rfl
 obtain ⟨k,hk⟩ : ∃k,ks[m]? = some k:=⟨_,List.getElem?_eq_getElem (by omega)⟩
 have hks:ks=ks.take m++[k]:=by rw [←cQ hk,List.take_of_length_le (by omega)]
 have ei:T.itemsL ks=T.itemsL (ks.take m)++k.items:=by rw [←fz hk,List.take_of_length_le (by omega)]
 have el:=congrArg List.length ei;rw [List.length_append] at el;have hkk:=T.wfL_mem kw k (List.mem_of_getElem? hk);have t2:xQ n k b:=⟨hkk.2,w.wb,by omega,by omega,fun i q=>wi i (by rw [ei];simp [q]),w.ib,by omega⟩
 have mo:=iq n k b hkk.2 w.wb (by omega);have hx:max k.ht b.ht=h - 1:=by omega
 rw [hx] at mo;have em:bZ (n+1) (.inner h ks) b=dE (ks.take m++bZ n k b):=by
  conv=>lhs;unfold bZ
  rw [if_pos (by simpa only [T.ht_inner] using hlt)];simp only [e,ed,hk]
 unfold dc;rw [em];have r1:=rA (ks.take m) (bZ n k b) (by simp;omega) (by have:=mo.two;omega);have r2:=lS (ks.take m++bZ n k b) (h - 1) (by omega) (by have:=mo.pos;simp;omega) (by have:=mo.two;simp;omega) (fun x q=>by
  rcases List.mem_append.1 q with q|q
  ·exact (T.wfL_mem kw x (List.mem_of_mem_take q)).1
  ·exact (T.wfL_mem mo.wf x q).1) (by rw [T.itemsL_app,mo.items];simp;omega) (fun i q=>by
  rw [T.itemsL_app,mo.items] at q;simp only [List.mem_append] at q;rcases q with q|q|q
  ·exact wi i (by rw [ei];simp [q])
  ·exact wi i (by rw [ei];simp [q])
  ·exact w.ib i q)
 have hA:=bb (.inner h ks);simp only [b4,dW,km,T.ht_inner] at hA;refine vF ab [0,1,4,5,6,7,8,9,10,11,12,13,18,47,73] Tryd.func65 rfl Tryd.results65 Tryd.ntmps65 ?_;(repeat' (first|(with_reducible first|exact True.intro|refine vD ?_|refine vG ?_|refine vE ?_)|(simp -implicitDefEqProofs -dsimp only [hlast])|with_reducible refine ah.out ?_|with_reducible refine vQ (hA) ?_|with_reducible refine vQ (bb b) ?_|with_reducible refine vC (hA) ?_|with_reducible refine vC (bb b) ?_|with_reducible refine vQ (ih k b t2) ?_|with_reducible refine vQ (r1) ?_|with_reducible refine vQ (r2) ?_|(with_reducible refine cj.is m k rfl hk ?_)|refine vR ?_|refine v6 ?_|with_reducible refine vN ?_|((with_reducible first|refine vB (fun h =>?_) (fun h =>?_)|refine vM (fun h =>?_) (fun h =>?_))<;>(first|(exfalso;omega)|skip))))
set_option maxHeartbeats 1600000 in
theorem qY (n h:Nat) (ks:List T) (a:T) (w:xQ (n+1) a (.inner h ks)) (hlt:a.ht<h) (ih : ∀a b,xQ n a b→dc n a b):dc (n+1) a (.inner h ks):=by
 have wb:=w.wb;simp only [T.wf] at wb;obtain ⟨k0,k1,k2,kw⟩:=wb;have wn:=w.sum;have ws:=w.small;have wl:=w.len;have wi:=w.ib;simp only [T.ht_inner] at wn;simp only [T.items] at wl wi;obtain ⟨k,r,hks⟩ : ∃k r,ks=k::r:=by
  cases ks with
  | nil=>simp at k0
  | cons k r=>exact ⟨k,r,rfl⟩
 have hk:ks[0]? = some k:=by rw [hks];rfl
 have hr:ks.drop 1=r:=by rw [hks];rfl
 have hkl:ks.length=r.length+1:=by rw [hks];rfl
 rw [hks] at k0 k1 wl wi kw;simp only [List.length_cons] at k0 k1;simp only [T.itemsL] at wl wi;simp only [List.length_append] at wl;simp only [T.wfL] at kw;have t2:xQ n a k:=⟨w.wa,kw.2.1,by omega,by omega,w.ia,fun i q=>wi i (by simp [q]),by omega⟩
 have mo:=iq n a k w.wa kw.2.1 (by omega);have hx:max a.ht k.ht=h - 1:=by omega
 rw [hx] at mo;have em:bZ (n+1) a (.inner h ks)=dE (bZ n a k++r):=by
  rw [hks];conv=>lhs;unfold bZ
  rw [if_neg (by rw [T.ht_inner];omega),if_pos (by rw [T.ht_inner];omega)]
 unfold dc;rw [em];have r1:=rA (bZ n a k) r (by have:=mo.two;omega) (by omega);have r2:=lS (bZ n a k++r) (h - 1) (by omega) (by have:=mo.pos;simp;omega) (by have:=mo.two;simp;omega) (fun x q=>by
  rcases List.mem_append.1 q with q|q
  ·exact (T.wfL_mem mo.wf x q).1
  ·exact (T.wfL_mem kw.2.2 x q).1) (by rw [T.itemsL_app,mo.items];simp;omega) (fun i q=>by
  rw [T.itemsL_app,mo.items] at q;simp only [List.mem_append] at q;rcases q with (q|q)|q
  ·exact w.ia i q
  ·exact wi i (by simp [q])
  ·exact wi i (by simp [q]))
 rw [←hr] at r1 r2 ⊢;have hA:=bb (.inner h ks);simp only [b4,dW,km,T.ht_inner] at hA;refine vF ab [0,1,4,5,6,7,8,9,10,11,12,13,18,47,73] Tryd.func65 rfl Tryd.results65 Tryd.ntmps65 ?_;(repeat' (first|(with_reducible first|exact True.intro|refine vD ?_|refine vG ?_|refine vE ?_)|with_reducible refine ah.out ?_|with_reducible refine vQ (hA) ?_|with_reducible refine vQ (bb a) ?_|with_reducible refine vC (hA) ?_|with_reducible refine vC (bb a) ?_|with_reducible refine vQ (ih a k t2) ?_|with_reducible refine vQ (r1) ?_|with_reducible refine vQ (r2) ?_|(with_reducible refine cj.is 0 k rfl hk ?_)|refine vR ?_|refine v6 ?_|with_reducible refine vN ?_|((with_reducible first|refine vB (fun h =>?_) (fun h =>?_)|refine vM (fun h =>?_) (fun h =>?_))<;>(first|(exfalso;omega)|skip))))
set_option maxHeartbeats 1600000 in
theorem pn (n:Nat) (x y:List It) (w:xQ (n+1) (.leaf x) (.leaf y)):dc (n+1) (.leaf x) (.leaf y):=by
 have wl:=w.len;have wi:=w.ia;have wj:=w.ib;simp only [T.items] at wl wi wj;have em:bZ (n+1) (.leaf x) (.leaf y)=eV (x++y):=by
  conv=>lhs;unfold bZ
  rw [if_neg (by simp [T.ht]),if_neg (by simp [T.ht])]
 unfold dc;rw [em];have r1:=uM (x++y) (by simp;omega) (fun i q=>by
  rcases List.mem_append.1 q with q|q
  ·exact wi i q
  ·exact wj i q)
 have hA:=bb (.leaf x);have hB:=bb (.leaf y);simp only [b5,jR,km,T.ht_leaf] at hA hB;refine vF ab [0,1,4,5,6,7,8,9,10,11,12,13,18,47,73] Tryd.func65 rfl Tryd.results65 Tryd.ntmps65 ?_;(refine' CT hA hB)
 refine ap.frz 204 rfl ?_;(refine' xZ r1)
 all_goals skip
set_option maxHeartbeats 1600000 in
theorem uk (n h:Nat) (x y:List T) (w:xQ (n+1) (.inner h x) (.inner h y)):dc (n+1) (.inner h x) (.inner h y):=by
 have wa:=w.wa;have wb:=w.wb;simp only [T.wf] at wa wb;have wn:=w.sum;have ws:=w.small;have wl:=w.len;have wi:=w.ia;have wj:=w.ib;simp only [T.ht_inner] at wn;simp only [T.items] at wl wi wj;have em:bZ (n+1) (.inner h x) (.inner h y)=dE (x++y):=by
  conv=>lhs;unfold bZ
  rw [if_neg (by simp [T.ht]),if_neg (by simp [T.ht])]
 unfold dc;rw [em];have r1:=rA x y (by omega) (by omega);have r2:=lS (x++y) (h - 1) (by omega) (by simp;omega) (by simp;omega) (fun k q=>by
  rcases List.mem_append.1 q with q|q
  ·exact (T.wfL_mem wa.2.2.2 k q).1
  ·exact (T.wfL_mem wb.2.2.2 k q).1) (by rw [T.itemsL_app];simp;omega) (fun i q=>by
  rw [T.itemsL_app] at q;rcases List.mem_append.1 q with q|q
  ·exact wi i q
  ·exact wj i q)
 have hA:=bb (.inner h x);have hB:=bb (.inner h y);simp only [b4,dW,km,T.ht_inner] at hA hB;refine vF ab [0,1,4,5,6,7,8,9,10,11,12,13,18,47,73] Tryd.func65 rfl Tryd.results65 Tryd.ntmps65 ?_;(refine' Ev hA hB r1 r2)
 all_goals skip
theorem y2 : ∀(n:Nat) (a b:T),xQ n a b→dc n a b:=by
 intro n;induction n with
 | zero=>intro a b w;have:=T.wf_ht w.wa;have:=w.sum;omega
 | succ n ih=>
  intro a b w;rcases Nat.lt_trichotomy a.ht b.ht with hlt|heq|hgt
  ·obtain ⟨h,ks,rfl⟩:=T.inner_ht (t:=b) (by have:=T.wf_ht w.wa;omega);exact qY n h ks a w hlt ih
  ·rcases Nat.lt_or_ge a.ht 2 with hl|hl
   ·obtain ⟨x,rfl⟩:=T.leaf_ht w.wa (by have:=T.wf_ht w.wa;omega);obtain ⟨y,rfl⟩:=T.leaf_ht w.wb (by have:=T.wf_ht w.wb;omega);exact pn n x y w
   ·obtain ⟨h,x,rfl⟩:=T.inner_ht (t:=a) hl;obtain ⟨h',y,rfl⟩:=T.inner_ht (t:=b) (by omega);simp only [T.ht_inner] at heq;subst heq;exact uk n h x y w
  ·obtain ⟨h,ks,rfl⟩:=T.inner_ht (t:=a) (by have:=T.wf_ht w.wb;omega);exact ul n h ks b w hgt ih
theorem iy (t:T) : ∃k y,bd t = .ifc k y:=by
 cases t with
 | leaf l=>exact ⟨_,_,b5 l⟩
 | inner h ks=>exact ⟨_,_,b4 h ks⟩
structure BR (a b:Option T):Prop where
 wa:sV a
 wb:sV b
 len:(ao a).length+(ao b).length≤1000000
 ia : ∀i∈ao a,ck i
 ib : ∀i∈ao b,ck i
 small:qg a+qg b≤1000000
abbrev gz (a b:Option T):Prop:=aG Tryd.prog G0 48 [.d (cA a),.d (cA b)] [] 0 (.d (cA (dC a b))) []
theorem t8 (b:Option T):gz none b:=by
 unfold gz;simp only [dC];refine vF ab [0,1,4,5,6,10,19] Tryd.func48 rfl Tryd.results48 Tryd.ntmps48 ?_;(repeat' (first|(with_reducible first|exact True.intro|refine vD ?_|refine vG ?_|refine vE ?_)|(simp only [cA])|with_reducible refine ah.out ?_|refine vR ?_|refine v6 ?_|with_reducible refine vN ?_|((with_reducible first|refine vB (fun h =>?_) (fun h =>?_)|refine vM (fun h =>?_) (fun h =>?_))<;>(first|(exfalso;omega)|skip))))
 all_goals skip
theorem wG (a:T):gz (some a) none:=by
 unfold gz;simp only [dC,cA];obtain ⟨k,y,e⟩:=iy a;rw [e];refine vF ab [0,1,4,5,6,10,19] Tryd.func48 rfl Tryd.results48 Tryd.ntmps48 ?_;(refine' zo)
 all_goals skip
set_option maxHeartbeats 1600000 in
theorem wH (a b:T) (w:BR (some a) (some b)):gz (some a) (some b):=by
 have w2:xQ (a.ht+b.ht) a b:=⟨w.wa,w.wb,Nat.le_refl _,w.len,w.ia,w.ib,w.small⟩
 have r1:=y2 _ a b w2;have mo:=iq (a.ht+b.ht) a b w.wa w.wb (Nat.le_refl _);unfold gz;simp only [dC,cA];unfold dc at r1;generalize bZ (a.ht+b.ht) a b=l at r1 mo;obtain ⟨k,y,e⟩:=iy a;obtain ⟨k',y',e'⟩:=iy b;rw [e,e'] at r1 ⊢;have hl:=mo.pos;have hl2:=mo.two;have r2:=dz l (max a.ht b.ht) (by have:=w.small;simp only [qg] at this;omega) hl (by omega) (fun k q=>(T.wfL_mem mo.wf k q).1) (by rw [mo.items];simp;exact w.len) (by
  rw [mo.items];intro i q;rcases List.mem_append.1 q with q|q
  ·exact w.ia i q
  ·exact w.ib i q)
 refine vF ab [0,1,4,5,6,10,19] Tryd.func48 rfl Tryd.results48 Tryd.ntmps48 ?_;(refine' CT r1 r2)
 ·obtain ⟨x,rfl⟩:=List.length_eq_one_iff.1 (show l.length=1 by omega);refine cj.is 0 x rfl rfl ?_;(refine' zo)
 ·obtain ⟨x,z,rfl⟩ : ∃x z,l=[x,z]:=by
   match l,hl,hl2,h with
   | [x],_,_,h=>simp at h
   | [x,z],_,_,_=>exact ⟨x,z,rfl⟩
  show _=bd (dA [x,z]);rw [di hl (fun k q=>(T.wfL_mem mo.wf k q).1)];rfl
theorem yT (a b:Option T) (w:BR a b):gz a b:=by
 cases a with
 | none=>exact t8 b
 | some a=>
  cases b with
  | none=>exact wG a
  | some b=>exact wH a b w
theorem sH (t:Option T):cA t = .lit .nilIface ∨ ∃k y,cA t = .ifc k y:=by
 cases t with
 | none=>exact .inl rfl
 | some t=>exact .inr (iy t)
def bI (t:Option T):D:= .pd 1 [.agg [cA t]] 0 0
theorem AG {α β:Type} {f:α→β} {A:List α} {z:β} {m:Nat} (h:A.length=m):A.map f++(List.replicate m z).drop A.length=A.map f:=by
 rw [List.drop_of_length_le (by simp [h]),List.append_nil]
def y5 (l:List It) (i:Nat):St:=⟨[(0,.d (.sd 7 false (l.map mc))),(4,.d (cA (dM l i))),(12,.d (.sd 7 false (l.map mc))),(13,iv l.length),(14,iv i)],[],0⟩
theorem o6 (l:List It) : ∀i,i≤l.length→qg (dM l i)≤i+1:=by
 intro i;induction i with
 | zero=>intro _;simp [dM,qg]
 | succ i ih=>
  intro h;have:=ih (by omega);unfold dM;split
  ·have h1:=(nV l i (by omega)).1;have h2:sV (some (T.leaf ((l.drop i).take 8))):=by simp only [sV,T.wf];simp;omega
   have:=(pa h1 h2).2.2;have h3:qg (some (T.leaf ((l.drop i).take 8)))=1:=rfl;rw [h3] at this;omega
  ·omega
theorem ze {n r k:Nat} (hn:n≤1000000000) (hk:0<k) (hk2:k≤1000000000) (hr:r=n % k):IntKind.i64.wrap ((n:Int).tmod (k:Int))=(r:Int):=by
 have e:(n:Int).tmod (k:Int)=((n % k:Nat):Int):=rfl;rw [e,←hr];have:=Nat.mod_lt n hk;exact Dq _ (by omega) (by omega)
set_option maxHeartbeats 1600000 in
theorem Aq (l:List It) (hl:l.length≤30000) (hi : ∀i∈l,ck i):aG Tryd.prog G0 25 [.d (.sd 7 false (l.map mc))] [] 0 (.tup [.d (bI (dM l l.length)),iv 0]) []:=by
 refine vF ab [0,2,3,4,5,6,7,8,11,12,13,14,15,22,26] Tryd.func25 rfl Tryd.results25 Tryd.ntmps25 ?_;(refine' zo)
 refine vL (lv:=[0,2,3,4,5,6,7,8,11,12,13,14,15,22,26]) ab (y5 l) (fun i=>i≤l.length) (fun i=>l.length - i) (0) ((a7.go [0,4,12,13,14] (by exact vS) rfl)) ?_ ?_
 ·exact Nat.zero_le _
 intro i hle;obtain ⟨r,hr⟩ : ∃r,r=i % 8:=⟨_,rfl⟩
 have hrem:=ze (k:=8) (by omega) (by omega) (by omega) hr;simp only [y5];(repeat' (first|(with_reducible first|exact True.intro|refine vD ?_|refine vG ?_|refine vE ?_)|(simp -implicitDefEqProofs -dsimp only [hrem])|refine vR ?_|refine v6 ?_|with_reducible refine vN ?_|((with_reducible first|refine vB (fun h =>?_) (fun h =>?_)|refine vM (fun h =>?_) (fun h =>?_))<;>(first|(exfalso;omega)|skip))))
 ·refine cj.intro fun x hx =>?_
  have hok:ck x:=hi x (List.mem_of_getElem? hx);have hc:=u9 x hok;obtain ⟨m,hm⟩ : ∃m,m=min 8 (l.length - i):=⟨_,rfl⟩
  have hmin:min 8 ((l.length:Int) - i)=(m:Int):=by omega
  obtain ⟨A,hA⟩ : ∃A,A=(l.drop i).take 8:=⟨_,rfl⟩
  have hlen:A.length=m:=by rw [hA,hm];simp
  have hA':(l.drop i).take m=A:=by
   rw [hA,hm];rcases Nat.le_total 8 (l.length - i) with q|q
   ·rw [Nat.min_eq_left q]
   ·rw [Nat.min_eq_right q,List.take_of_length_le (by simp),List.take_of_length_le (by simp;omega)]
  have hAt:A.take m=A:=List.take_of_length_le (by omega);have hAi : ∀y∈A,ck y:=fun y q=>hi y (List.mem_of_mem_drop (List.mem_of_mem_take (by rw [hA] at q;exact q)))
  (repeat' (first|(with_reducible first|exact True.intro|refine vD ?_|refine vG ?_|refine vE ?_)|(simp -implicitDefEqProofs -dsimp only [hrem])|(simp -implicitDefEqProofs -dsimp only [hmin])|(simp -implicitDefEqProofs -dsimp only [hA'])|with_reducible refine vQ (hc) ?_|with_reducible refine vC (hc) ?_|refine vR ?_|refine v6 ?_|with_reducible refine vN ?_|((with_reducible first|refine vB (fun h =>?_) (fun h =>?_)|refine vM (fun h =>?_) (fun h =>?_))<;>(first|(exfalso;omega)|skip))))
  ·rw [AG (f:=mc) (A:=A) (m:=m) hlen];have e0:(i:Int).tmod 8=((i % 8:Nat):Int):=rfl;have en:dM l (i+1)=dC (dM l i) (some (.leaf A)):=by
    conv=>lhs;unfold dM
    rw [if_pos (by omega),←hA]
   obtain ⟨q1,q2⟩:=nV l i (by omega);have hj:aG Tryd.prog G0 48 [.d (cA (dM l i)),.d (bd (.leaf A))] [] 0 (.d (cA (dC (dM l i) (some (.leaf A))))) []:=
    yT (dM l i) (some (.leaf A)) ⟨q1,by simp only [sV,T.wf];omega,by rw [q2];simp only [ao,T.items];simp;omega,fun y q=>hi y (List.mem_of_mem_take (by rw [q2] at q;exact q)),fun y q=>hAi y (by simpa only [ao,T.items] using q),by have:=o6 l i (by omega);have e9:qg (some (T.leaf A))=1:=rfl;omega⟩
   simp only [b5,jR,km] at hj;refine ap.frz 80 rfl ?_;(repeat' (first|(with_reducible first|exact True.intro|refine vD ?_|refine vG ?_|refine vE ?_)|(simp -implicitDefEqProofs -dsimp only [hmin])|(simp -implicitDefEqProofs -dsimp only [hlen,hAt])|with_reducible refine vC (ej A (by omega) hAi) ?_|with_reducible refine vC (hj) ?_|refine vR ?_|refine v6 ?_|with_reducible refine vN ?_|((with_reducible first|refine vB (fun h =>?_) (fun h =>?_)|refine vM (fun h =>?_) (fun h =>?_))<;>(first|(exfalso;omega)|skip))))
   refine bA.go (i+1) [0,4,12,13,14] (by (try simp only [y5]);rw [en];exact vS) ?_ ?_;all_goals omega
  ·have e0:(i:Int).tmod 8=((i % 8:Nat):Int):=rfl;rw [e0] at h;have e:dM l (i+1)=dM l i:=by
    conv=>lhs;unfold dM
    rw [if_neg (by omega)]
   refine bA.go (i+1) [0,4,12,13,14] (by (try simp only [y5]);rw [e];exact vS) ?_ ?_;all_goals omega
 ·rcases sH (dM l i) with e|⟨k,y,e⟩
  ·simp only [e];(refine' zg)
   refine ah.frz 12 (ah.out ?_);(repeat (first|(with_reducible first|exact True.intro|refine vD ?_|refine vG ?_|refine vE ?_)|refine vR ?_))
   rw [←show i=l.length by omega,bI,e]
  ·simp only [e];(refine' zg)
   refine ah.frz 12 (ah.out ?_);(repeat (first|(with_reducible first|exact True.intro|refine vD ?_|refine vG ?_|refine vE ?_)|refine vR ?_))
   rw [←show i=l.length by omega,bI,e]
theorem oj (t:Option T):aG Tryd.prog G0 87 [.d (bI t)] [] 0 (.d (cA t)) []:=by
 rcases sH t with e|⟨k,y,e⟩
 ·rw [bI,e];refine vF ab [0,2,4] Tryd.func87 rfl Tryd.results87 Tryd.ntmps87 ?_;(refine' zo)
 ·rw [bI,e];refine vF ab [0,2,4] Tryd.func87 rfl Tryd.results87 Tryd.ntmps87 ?_;(refine' zo)
theorem uT:aG Tryd.prog G0 84 [.d (.lit .nilIface)] [] 0 (.d (oc Sm.zero)) []:=by
 refine vF ab [0,2,3,4,5,7,8,14,15] Tryd.func84 rfl Tryd.results84 Tryd.ntmps84 ?_;(refine' zo)
 rfl
theorem zu (t:Option T):aG Tryd.prog G0 84 [.d (cA t)] [] 0 (.d (oc (ar (ao t)))) []:=by
 cases t with
 | none=>exact uT
 | some t=>exact iR t
theorem kM (t:Option T):aG Tryd.prog G0 70 [.d (bI t)] [] 0 (.d (oc (ar (ao t)))) []:=by
 have r1:=oj t;rw [bI] at r1 ⊢;refine vF ab [0,2] Tryd.func70 rfl Tryd.results70 Tryd.ntmps70 ?_;(refine' CT r1 (zu t))
theorem xw (s:Sm):aG Tryd.prog G0 91 [.d (oc s),iv 0] [] 0 (iv s.d0) []:=by
 refine vF ab [0,1,2,4,6] Tryd.func91 rfl Tryd.results91 Tryd.ntmps91 ?_;(refine' zo)
theorem xx (s:Sm):aG Tryd.prog G0 91 [.d (oc s),iv 1] [] 0 (iv s.d1) []:=by
 refine vF ab [0,1,2,4,6] Tryd.func91 rfl Tryd.results91 Tryd.ntmps91 ?_;(refine' zo)
theorem xy (s:Sm):aG Tryd.prog G0 91 [.d (oc s),iv 2] [] 0 (iv s.d2) []:=by
 refine vF ab [0,1,2,4,6] Tryd.func91 rfl Tryd.results91 Tryd.ntmps91 ?_;(refine' zo)
theorem xz (s:Sm):aG Tryd.prog G0 91 [.d (oc s),iv 3] [] 0 (iv s.n) []:=by
 refine vF ab [0,1,2,4,6] Tryd.func91 rfl Tryd.results91 Tryd.ntmps91 ?_;(refine' zo)
theorem kE (s:Sm) (d:Nat) (hd:d≤3):aG Tryd.prog G0 91 [.d (oc s),iv d] [] 0 (iv (me s d)) []:=by
 have h4:d=0∨d=1∨d=2∨d=3:=by omega
 rcases h4 with rfl|rfl|rfl|rfl
 ·exact xw s
 ·exact xx s
 ·exact xy s
 ·exact xz s
abbrev yj (n:Int):D:= .pd 1 [.agg [.lit (.int .i64 n)]] 0 0
theorem pI (e v b:Int):aG Tryd.prog G0 92 [iv e,.d (yj v),.d (yj b)] [] 0 (bv (decide (v<e)||(b==0&&e==v))) []:=by
 refine vF ab [0,1,2,4] Tryd.func92 rfl Tryd.results92 Tryd.ntmps92 ?_;(refine' zo)
def CX (v b:Int):V:= .d (.fn 92 [yj v,yj b])
def z8:bP:= .cell [iv 0,iv 0,iv 0,iv 0,iv 0,iv 0,iv 0,iv 0]
def C0 (s:Sm) (n:Int):bP:= .cell [iv 0,iv s.n,iv s.d0,iv s.d1,iv s.d2,iv s.mx,iv s.pos,iv n]
def DB (d:Nat) (v b:Int) (x:Option T × Sm × Nat):St:=⟨[(1,iv d),(8,.po 0 0),(11,CX v b),(12,.po 1 0),(13,.d (cA x.1))],[(0,z8),(1,C0 x.2.1 x.2.2)],2⟩
attribute [push_cast] DB.eq_def CX.eq_def z8.eq_def C0.eq_def cA.eq_1 cA.eq_2
theorem kx {α:Type} {l:List α} {i:Nat} {x:α} (h:l[i]? = some x):l.drop i=x::l.drop (i+1):=by
 obtain ⟨h1,h2⟩:=List.getElem?_eq_some_iff.1 h;rw [←h2];exact List.drop_eq_getElem_cons h1
def EG (d:Nat) (v b:Int) (l:List It) (n:Int) (y:Nat × Sm):St:=⟨[(1,iv d),(8,.po 0 0),(11,CX v b),(12,.po 1 0),(101,.d (.sd 7 false (l.map mc))),(102,iv l.length),(103,iv y.1)],[(0,z8),(1,C0 y.2 n)],2⟩
def EF (d:Nat) (v b:Int) (ks:List T) (n:Int) (y:Nat × Sm):St:=⟨[(1,iv d),(8,.po 0 0),(11,CX v b),(12,.po 1 0),(13,.d (.lit .nilIface)),(72,.d (.sd 1 false (ks.map bd))),(73,iv ks.length),(74,iv y.1)],[(0,z8),(1,C0 y.2 n)],2⟩
attribute [push_cast] EG.eq_def EF.eq_def
structure Gf (R:Sm→Bool) (fin:Sm) (l:List It) (y:Nat × Sm):Prop where
 ok:d5 y.2
 le:y.1≤l.length
 len:y.2.n+(l.drop y.1).length≤1000000
 fin:gi R y.2 (l.drop y.1)=fin
structure Ge (R:Sm→Bool) (vis:Nat) (fin:Sm × Nat) (ks:List T) (y:Nat × Sm):Prop where
 ok:d5 y.2
 le:y.1≤ks.length
 len:y.2.n+(T.itemsL (ks.drop y.1)).length≤1000000
 fst:(eg R (ks.drop y.1) y.2).1=fin.1
 vis:vis+(eg R (ks.drop y.1) y.2).2=fin.2
def Gh (R:Sm→Bool) (x:Option T × Sm × Nat):Nat:=match x.1 with|none=>0|some t=>(ef R t x.2.1).2
theorem m8 {d:Nat} {v b:Int} {s:Sm} (h:v<me s d∨b=0∧me s d=v):bo d v b s=true:=by
 simp only [bo,Bool.or_eq_true,Bool.and_eq_true,decide_eq_true_eq,beq_iff_eq];exact h
theorem pJ {d:Nat} {v b:Int} {s:Sm} (h : ¬(v<me s d∨b=0∧me s d=v)) : ¬bo d v b s=true:=by
 simp only [bo,Bool.or_eq_true,Bool.and_eq_true,decide_eq_true_eq,beq_iff_eq];exact h
structure Gd (R:Sm→Bool) (fin:Sm × Nat) (x:Option T × Sm × Nat):Prop where
 ok:d5 x.2.1
 sub : ∀t,x.1=some t→t.wf∧x.2.1.n+t.items.length≤1000000∧(∀i∈t.items,ck i)∧(ef R t x.2.1).1=fin.1∧x.2.2+(ef R t x.2.1).2=fin.2
 non:x.1=none→x.2.1=fin.1∧x.2.2=fin.2
set_option maxHeartbeats 1600000 in
theorem s9 (t:T) (d:Nat) (hd:d≤3) (v b:Int) (hw:t.wf) (hh:t.ht≤1000000) (hn:t.items.length≤1000000) (hi : ∀i∈t.items,ck i) (hv0:0≤v) (hv:v≤me (ar t.items) d) (hb:b=0∨b=1)
 (fin:Sm × Nat) (hfin:fin=ef (bo d v b) t Sm.zero) :
 aG Tryd.prog G0 88 [.d (bI (some t)),iv d,iv v,iv b] [] 0 (.tup [.d (.agg [.lit (.int .i64 fin.1.n),.lit (.int .i64 fin.1.n),.lit (.int .i64 fin.1.d0),.lit (.int .i64 fin.1.d1),.lit (.int .i64 fin.1.d2),.lit (.int .i64 fin.1.mx),.lit (.int .i64 fin.1.pos),.lit (.int .i64 fin.2)]),iv 0]) []:=by
 have r1:=kM (some t);have r2:=oj (some t);have r3:=kE (ar t.items) d hd;simp only [ao] at r1;rw [bI] at r1 r2 ⊢;simp only [cA] at r1 r2 ⊢;refine vF ab [0,1,2,3,6,7,8,9,10,11,12,13,14,15,17,18,19,20,22,23,50,57,68,72,73,74,75,87,97,101,102,103,104,116] Tryd.func88 rfl Tryd.results88 Tryd.ntmps88 ?_;(refine' Dr r1 r2 r3)
 refine vL (lv:=[0,1,2,3,6,7,8,9,10,11,12,13,14,15,17,18,19,20,22,23,50,57,68,72,73,74,75,87,97,101,102,103,104,116]) ab (DB d v b) (Gd (bo d v b) fin) (Gh (bo d v b)) ((some t,Sm.zero,0)) (a7.frz 0<|a7.frz 4<|(a7.go [1,8,11,12,13] (by exact vT) rfl)) ?_ ?_
 ·refine ⟨s5,fun t' e =>?_,fun e=>by cases e⟩;injection e with e;subst e;exact ⟨hw,by simp [Sm.zero];omega,hi,by rw [hfin],by simp only [hfin];omega⟩
 rintro ⟨ot,s,vis⟩ ⟨p1,p2,p3⟩;simp only at p1 p2 p3;have v1:=fq (R:=bo d v b) t Sm.zero hw;rw [←hfin] at v1;cases ot with
 | none=>
  obtain ⟨rfl,rfl⟩:=p3 rfl;(refine' zo)
 | some n=>
  obtain ⟨q1,q2,q3,q4,q5⟩:=p2 n rfl;have v2:=fq (R:=bo d v b) n s q1;cases n with
  | leaf l=>
   simp only [T.items] at q2 q3;simp only [ef] at q4 q5;simp only [T.wf] at q1;(refine' zo)
   refine vL (lv:=[0,1,2,3,6,7,8,9,10,11,12,13,14,15,17,18,19,20,22,23,50,57,68,72,73,74,75,87,97,101,102,103,104,116]) ab (EG d v b l (vis+1)) (Gf (bo d v b) fin.1 l) (fun y=>l.length - y.1) ((0,s)) ((a7.go [1,8,11,12,101,102,103] (by exact vT) rfl)) ?_ ?_
   ·exact ⟨p1,by simp,by simpa using q2,by simpa using q4⟩
   rintro ⟨j,z⟩ ⟨u1,u2,u3,u4⟩;simp only at u1 u2 u3 u4;have hvis:((vis:Int)+1)=(fin.2:Int):=by omega
   (refine' zo)
   ·refine cj.intro fun x hx =>?_
    have hok:ck x:=q3 x (List.mem_of_getElem? hx);have hdr:=kx hx;rw [hdr,gi] at u4;have a1:=kH z (fk x) u1 (lG hok);have a2:=ny u1 (lG hok) (by rw [hdr] at u3;simp only [fk];simp only [List.length_cons] at u3;omega);(refine' Ev (vf x) a1 (kE (aS z (fk x)) d hd) (pI (me (aS z (fk x)) d) v b))
    ·rw [if_pos (m8 h)] at u4;rw [←u4,←hvis]
    ·rw [if_neg (pJ h)] at u4;refine bA.go ((j+1,aS z (fk x))) [1,8,11,12,101,102,103] (by exact vT) ?_ ?_
     ·show l.length - (j+1)<l.length - j;omega
     ·rw [hdr] at u3;exact ⟨a2,by simp only;omega,by simp only [List.length_cons] at u3;simp only [aS,fk];omega,u4⟩
   ·rw [List.drop_of_length_le (by omega),gi] at u4;rw [←u4,←hvis]
  | inner g ks=>
   simp only [T.items] at q2 q3;simp only [ef] at q4 q5;simp only [T.wf] at q1;(refine' zo)
   refine vL (lv:=[0,1,2,3,6,7,8,9,10,11,12,13,14,15,17,18,19,20,22,23,50,57,68,72,73,74,75,87,97,101,102,103,104,116]) ab (EF d v b ks (vis+1)) (Ge (bo d v b) (vis+1) fin ks) (fun y=>ks.length - y.1) ((0,s)) ((a7.go [1,8,11,12,13,72,73,74] (by exact vT) rfl)) ?_ ?_
   ·exact ⟨p1,by simp,by simpa using q2,by simpa using q4,by simpa [Nat.add_assoc,Nat.add_comm 1] using q5⟩
   rintro ⟨j,z⟩ ⟨u1,u2,u3,u4,u5⟩;simp only at u1 u2 u3 u4 u5;(refine' zo)
   ·refine cj.intro fun k hk =>?_
    have hdr:=kx hk;rw [hdr] at u3 u4 u5;rw [eg] at u4 u5;simp only [T.itemsL,List.length_append] at u3;have hkw:=T.wfL_mem q1.2.2.2 k (List.mem_of_getElem? hk);have hki : ∀i∈k.items,ck i:=fun i q=>by
     obtain ⟨a,b,e⟩:=lk hk;exact q3 i (by rw [e];simp [q])
    have o1:d5 (ar k.items):=iQ _ hki (by have:=u1.1;omega);have a1:=kH z (ar k.items) u1 o1;have a2:=ny u1 o1 (by rw [dK];omega);(refine' Ev (iR k) a1 (kE (aS z (ar k.items)) d hd) (pI (me (aS z (ar k.items)) d) v b))
    ·rw [if_pos (m8 h)] at u4 u5;have v3:=fq (R:=bo d v b) k z hkw.2;refine bA.go ((some k,z,vis+1)) [1,8,11,12,13] (by exact vT) ?_ ?_
     ·show (ef (bo d v b) k z).2<(ef (bo d v b) (.inner g ks) s).2;simp only [ef];omega
     ·exact ⟨u1,fun t' e=>by injection e with e;subst e;exact ⟨hkw.2,by simp only;omega,hki,u4,u5⟩,fun e=>by cases e⟩
    ·rw [if_neg (pJ h)] at u4 u5;refine bA.go ((j+1,aS z (ar k.items))) [1,8,11,12,13,72,73,74] (by exact vT) ?_ ?_
     ·show ks.length - (j+1)<ks.length - j;omega
     ·exact ⟨a2,by simp only;omega,by simp only [aS];rw [dK];omega,u4,u5⟩
   ·rw [List.drop_of_length_le (by omega),eg] at u4 u5;simp only at u4 u5;refine bA.go ((none,z,vis+1)) [1,8,11,12,13] (by exact vT) ?_ ?_
    ·show 0<(ef (bo d v b) (.inner g ks) s).2;simp only [ef];omega
    ·exact ⟨u1,(fun t' e=>by cases e),fun _=>⟨u4,by omega⟩⟩
def z7:bP:= .cell [iv 0,iv 0,iv 0,iv 0,iv 0,iv 0,.d (.lit (.string ⟨#[]⟩))]
def Ey (x:T × Nat):St:=⟨[(1,iv x.2),(4,.po 0 0),(6,.d (bd x.1))],[(0,z7)],1⟩
def Ex (ks:List T) (y:Nat × Nat):St:=⟨[(1,iv y.2),(4,.po 0 0),(34,.d (.sd 1 false (ks.map bd))),(35,iv ks.length),(36,iv y.1)],[(0,z7)],1⟩
attribute [push_cast] z7.eq_def Ey.eq_def Ex.eq_def
structure Gc (x:It) (y:T × Nat):Prop where
 wf:y.1.wf
 len:y.1.items.length≤1000000
 get:y.1.items[y.2]? = some x
structure Gb (x:It) (ks:List T) (y:Nat × Nat):Prop where
 le:y.1≤ks.length
 get:(T.itemsL (ks.drop y.1))[y.2]? = some x
set_option maxHeartbeats 1600000 in
theorem x3 (t:T) (i:Nat) (x:It) (hw:t.wf) (hn:t.items.length≤1000000) (hx:t.items[i]? = some x) :
 aG Tryd.prog G0 74 [.d (bI (some t)),iv i] [] 0 (.tup [.d (mc x),iv 0]) []:=by
 have hlt:=(List.getElem?_eq_some_iff.1 hx).1;have r1:=kM (some t);have r2:=oj (some t);have e0:(ar t.items).n=t.items.length:=dK _;simp only [ao] at r1;rw [bI] at r1 r2 ⊢;simp only [cA] at r1 r2 ⊢;refine vF ab [0,1,4,5,6,7,8,10,11,20,30,34,35,36,37,45] Tryd.func74 rfl Tryd.results74 Tryd.ntmps74 ?_;(refine' BL r1 r2)
 refine vL (lv:=[0,1,4,5,6,7,8,10,11,20,30,34,35,36,37,45]) ab (Ey) (Gc x) (fun y=>y.1.ht) ((t,i)) ((a7.go [1,4,6] (by exact vT) rfl)) ?_ ?_
 ·exact ⟨hw,hn,hx⟩
 rintro ⟨n,k⟩ ⟨p1,p2,p3⟩;simp only at p1 p2 p3;have hlk:=(List.getElem?_eq_some_iff.1 p3).1;cases n with
 | leaf l=>
  simp only [T.items] at p2 p3 hlk;(refine' zo)
  refine cj.is k x (by omega) p3 ?_;(refine' zo)
 | inner g ks=>
  simp only [T.items] at p2 p3 hlk;simp only [T.wf] at p1;(refine' zo)
  refine vL (lv:=[0,1,4,5,6,7,8,10,11,20,30,34,35,36,37,45]) ab (Ex ks) (Gb x ks) (fun y=>ks.length - y.1) ((0,k)) ((a7.go [1,4,34,35,36] (by exact vT) rfl)) ?_ ?_
  ·exact ⟨by simp,by simpa using p3⟩
  rintro ⟨j,m⟩ ⟨u1,u2⟩;simp only at u1 u2;rcases Nat.lt_or_ge j ks.length with hj|hj
  ·obtain ⟨kid,hk⟩ : ∃kid,ks[j]? = some kid:=⟨_,List.getElem?_eq_getElem hj⟩
   have hdr:=kx hk;rw [hdr] at u2;simp only [T.itemsL] at u2;have hkw:=T.wfL_mem p1.2.2.2 kid (List.mem_of_getElem? hk);have e1:(ar kid.items).n=kid.items.length:=dK _;obtain ⟨a,b,eab⟩:=lk hk;have hln:=congrArg List.length eab;simp only [List.length_append] at hln;have hm:=(List.getElem?_eq_some_iff.1 u2).1;obtain ⟨c,ec⟩ : ∃c,T.itemsL ks=c++(kid.items++T.itemsL (ks.drop (j+1))):=⟨T.itemsL (ks.take j),by rw [←T.itemsL,←hdr,←T.itemsL_app,List.take_append_drop]⟩
   have hlc:=congrArg List.length ec;simp only [List.length_append] at hlc hm;(refine' zg)
   refine cj.is j kid (by omega) hk ?_;(refine' xZ (iR kid))
   ·rw [List.getElem?_append_right (by omega)] at u2;refine bA.go ((j+1,m - kid.items.length)) [1,4,34,35,36] (by exact vT) ?_ ?_
    ·show ks.length - (j+1)<ks.length - j;omega
    ·exact ⟨by simp only;omega,u2⟩
   ·rw [List.getElem?_append_left (by omega)] at u2;refine bA.go ((kid,m)) [1,4,6] (by exact vT) ?_ ?_
    ·show kid.ht<(T.inner g ks).ht;rw [hkw.1,T.ht_inner];omega
    ·exact ⟨hkw.2,by simp only;omega,u2⟩
  ·rw [List.drop_of_length_le hj] at u2;simp [T.itemsL] at u2
theorem Am (t:Option T) (i:Nat) (hi:(ao t).length≤i) (hs:i≤1000000) :
 aG Tryd.prog G0 74 [.d (bI t),iv i] [] 0 (.tup [.d (mc ⟨0,0,0,0,0,0,⟨#[]⟩⟩),iv 1]) []:=by
 have r1:=kM t;have e0:(ar (ao t)).n=(ao t).length:=dK _;rw [bI] at r1 ⊢;refine vF ab [0,1,4,5,6,7,8,10,11,20,30,34,35,36,37,45] Tryd.func74 rfl Tryd.results74 Tryd.ntmps74 ?_;(refine' xZ r1)
structure Tk (t:Option T):Prop where
 wf:sV t
 ht:qg t≤1000000
 len:(ao t).length≤30000
 ok : ∀i∈ao t,ck i
abbrev zY:It:=⟨0,0,0,0,0,0,⟨#[]⟩⟩
theorem BM (t:Option T) (k:Tk t) (i:Nat) (hs:i≤1000000):aG Tryd.prog G0 74 [.d (bI t),iv i] [] 0 (.tup [.d (mc ((ao t).getD i zY)),iv (if i<(ao t).length then 0 else 1)]) []:=by
 by_cases hi:i<(ao t).length
 ·rw [if_pos hi];have hg:(ao t)[i]? = some ((ao t).getD i zY):=by simp [List.getD_eq_getElem?_getD,hi]
  cases t with
  | none=>simp [ao] at hi
  | some t=>exact x3 t i _ k.wf (by have:=k.len;simp only [ao] at this;omega) hg
 ·rw [if_neg hi];have hg:(ao t).getD i zY=zY:=by simp [List.getD_eq_getElem?_getD,hi]
  rw [hg];exact Am t i (by omega) hs
end Go.Proofs.YtkhonlnajdfhfaaDoor
