/- What the theorem leans on, part 13. -/
import Derived.Test.YtkkanlcjjpoklaaGreatDoorSpTPAF
import Derived.Test.YtkkanlcjjpoklaaGreatDoorSpTPAL
set_option linter.unusedSimpArgs false
set_option linter.unusedVariables false
set_option maxRecDepth 8000
namespace Go.Proofs.YtkkanlcjjpoklaaGreatDoor
abbrev gK (i:It):D:= .agg [.lit (.int .i64 i.tag),.lit (.int .i64 i.id),.lit (.int .i64 i.d0),.lit (.int .i64 i.d1),.lit (.int .i64 i.d2),.lit (.int .i64 i.mx),.lit (.string i.text)]
abbrev tK (s:Sm):D:= .agg [.lit (.int .i64 s.n),.lit (.int .i64 s.d0),.lit (.int .i64 s.d1),.lit (.int .i64 s.d2),.lit (.int .i64 s.mx),.lit (.int .i64 s.pos)]
abbrev QR (l:List It):V:= .d (.sd 7 false (l.map gK))
theorem Cg (n:Int):aq Tryz.prog G0 169 [iv n] [] 0 (bv (decide (0≤n)&&decide (n≤1099511627776))) []:=by
 refine vF ab [0,2] Tryz.func169 rfl Tryz.results169 Tryz.ntmps169 ?_;(refine' zo)
theorem Cx (i:It):aq Tryz.prog G0 147 [.d (gK i)] [] 0 (.d (tK (gM i))) []:=by
 refine vF ab [0,1,2] Tryz.func147 rfl Tryz.results147 Tryz.ntmps147 ?_;(refine' zo)
 rfl
def Aq (a b:Sm) (d0 d1 d2 i:Int):St:=⟨[(2,.po 0 0),(3,.po 1 0),(4,.po 2 0),(5,.po 3 0),(17,iv i)],
 [(0,.cell [iv a.n,iv a.d0,iv a.d1,iv a.d2,iv a.mx,iv a.pos]),(1,.cell [iv b.n,iv b.d0,iv b.d1,iv b.d2,iv b.mx,iv b.pos]),(2,.cell [iv 0,iv 0,iv 0,iv 0,iv 0,iv 0]),
  (3,.cell [iv (a.n+b.n),iv d0,iv d1,iv d2,iv a.mx,iv a.pos])],4⟩
def uh (a b:Sm):Nat→St
 | 0=>Aq a b 0 0 0 0
 | 1=>Aq a b (a.d0+b.d0) 0 0 1
 | 2=>Aq a b (a.d0+b.d0) (a.d1+b.d1) 0 2
 | _=>Aq a b (a.d0+b.d0) (a.d1+b.d1) (a.d2+b.d2) 3
attribute [push_cast] Aq.eq_def uh.eq_1 uh.eq_2 uh.eq_3
theorem Fy (a b:Sm):uh a b 3=Aq a b (a.d0+b.d0) (a.d1+b.d1) (a.d2+b.d2) 3:=rfl
attribute [push_cast] Fy
set_option maxHeartbeats 1600000 in
theorem nC (a b:Sm) (ha:eQ a) (hb:eQ b):aq Tryz.prog G0 145 [.d (tK a),.d (tK b)] [] 0 (.d (tK (aS a b))) []:=by
 unfold eQ at ha hb;refine vF ab [0,1,2,3,4,5,6,17,18,47] Tryz.func145 rfl Tryz.results145 Tryz.ntmps145 ?_;(refine' zg)
 refine vL (lv:=[0,1,2,3,4,5,6,17,18,47]) ab (uh a b) (fun i=>i≤3) (fun i=>3 - i) (0) ((aN.go [2,3,4,5,17] (by exact vS) rfl)) ?_ ?_
 ·exact Nat.zero_le _
 intro i hi;have h4:i=0∨i=1∨i=2∨i=3:=by omega
 rcases h4 with rfl|rfl|rfl|rfl
 ·(refine' zg)
  refine bH.go (1) [2,3,4,5,17] (by exact vS) ?_ ?_;all_goals omega
 ·(refine' zg)
  refine bH.go (2) [2,3,4,5,17] (by exact vS) ?_ ?_;all_goals omega
 ·(refine' zg)
  refine bH.go (3) [2,3,4,5,17] (by exact vS) ?_ ?_;all_goals omega
 ·(refine' zo)
  ·refine iu.lo [(0,.cell [iv a.n,iv a.d0,iv a.d1,iv a.d2,iv a.mx,iv a.pos]),(1,.cell [iv b.n,iv b.d0,iv b.d1,iv b.d2,iv b.mx,iv b.pos])] (by decide +kernel) (by decide +kernel) (ar.cons rfl (ar.cons rfl ar.nil)) ?_;simp only [tg,x9];(repeat' (first|(with_reducible first|exact True.intro|refine vD ?_|refine vG ?_|refine vE ?_)|with_reducible refine ah.out ?_|(with_reducible refine tH.of (ar.cons rfl (ar.cons rfl ar.nil)) ?_)|refine vR ?_|refine v6 ?_|with_reducible refine vN ?_|((with_reducible first|refine vB (fun h =>?_) (fun h =>?_)|refine vM (fun h =>?_) (fun h =>?_))<;>(first|(exfalso;omega)|skip))))
   simp only [tK,aS,if_pos h]
  ·simp only [tK,aS,if_neg h]
def Ny (s:Sm):bu:= .cell [iv s.n,iv s.d0,iv s.d1,iv s.d2,iv s.mx,iv s.pos]
def Iz (l:List It) (b:Bool) (i:Nat):St:=⟨[(2,.po 0 0),(3,.po 1 0),(6,.d (.sd 7 b (l.map gK))),(7,iv l.length),(8,iv i)],[(0,Ny Sm.zero),(1,Ny (ao (l.take i)))],2⟩
attribute [push_cast] Iz.eq_def Ny.eq_def
theorem E6:Sm.zero.n=0:=rfl
theorem Aa:Sm.zero.d0=0:=rfl
theorem Ab:Sm.zero.d1=0:=rfl
theorem Ac:Sm.zero.d2=0:=rfl
theorem Ad:Sm.zero.mx=0:=rfl
theorem xa:Sm.zero.pos=0:=rfl
attribute [push_cast] E6 Aa Ab Ac Ad xa
theorem cS {α:Type} {l:List α} {i:Nat} {x:α} (h:l[i]? = some x):l.take (i+1)=l.take i++[x]:=by
 rw [List.take_add_one,h];rfl
set_option maxHeartbeats 1600000 in
theorem Im (l:List It) (hl:l.length≤1000000) (hi : ∀i∈l,bx i) (b:Bool):aq Tryz.prog G0 172 [.d (.sd 7 b (l.map gK))] [] 0 (.d (tK (ao l))) []:=by
 refine vF ab [0,2,3,5,6,7,8,9] Tryz.func172 rfl Tryz.results172 Tryz.ntmps172 ?_;(refine' zg)
 refine vL (lv:=[0,2,3,5,6,7,8,9]) ab (Iz l b) (fun i=>i≤l.length) (fun i=>l.length - i) (0) ((aN.go [2,3,6,7,8] (by exact vS) rfl)) ?_ ?_
 ·exact Nat.zero_le _
 intro i hle;(refine' zo)
 ·refine dV.intro fun x hx =>?_
  have hok:bx x:=hi x (List.mem_of_getElem? hx);have hs:eQ (ao (l.take i)):=i4 _ (fun y hy=>hi y (List.mem_of_mem_take hy)) (by simp;omega);(refine' Ag (Cx x) (nC (ao (l.take i)) (gM x) hs (oT hok)))
  refine bH.go (i+1) [2,3,6,7,8] (by (try simp only [Iz]);rw [cS hx,fT];exact vS) ?_ ?_;all_goals omega
 ·rw [List.take_of_length_le (by omega)]
def KF (x:It):Nat→St
 | 0=>⟨[(3,bv true),(10,.d (.agg [.lit (.int .i64 x.d0),.lit (.int .i64 x.d1),.lit (.int .i64 x.d2)])),(11,iv 0)],[],0⟩
 | 1=>⟨[(3,bv true),(10,.d (.agg [.lit (.int .i64 x.d0),.lit (.int .i64 x.d1),.lit (.int .i64 x.d2)])),(11,iv 1)],[],0⟩
 | 2=>⟨[(3,bv true),(10,.d (.agg [.lit (.int .i64 x.d0),.lit (.int .i64 x.d1),.lit (.int .i64 x.d2)])),(11,iv 2)],[],0⟩
 | _=>⟨[(3,bv true),(10,.d (.agg [.lit (.int .i64 x.d0),.lit (.int .i64 x.d1),.lit (.int .i64 x.d2)])),(11,iv 3)],[],0⟩
theorem KG (x:It):KF x 3=⟨[(3,bv true),(10,.d (.agg [.lit (.int .i64 x.d0),.lit (.int .i64 x.d1),.lit (.int .i64 x.d2)])),(11,iv 3)],[],0⟩:=rfl
attribute [push_cast] KF.eq_1 KF.eq_2 KF.eq_3 KG
theorem gy {n:Int} (h1:0≤n) (h2:n≤1099511627776):aq Tryz.prog G0 169 [iv n] [] 0 (bv true) []:=by
 have:=Cg n;rwa [decide_eq_true h1,decide_eq_true h2] at this
set_option maxHeartbeats 1600000 in
theorem Ct (x:It) (hx:bx x):aq Tryz.prog G0 114 [.d (gK x)] [] 0 (iv 0) []:=by
 unfold bx at hx;obtain ⟨h1,h2,h3,h4,h5,h6,h7,h8⟩:=hx;refine vF ab [0,1,2,3,5,10,11,12,21] Tryz.func114 rfl Tryz.results114 Tryz.ntmps114 ?_;(refine' l9 (gy h7 h8))
 refine vL (lv:=[0,1,2,3,5,10,11,12,21]) ab (KF x) (fun i=>i≤3) (fun i=>3 - i) (0) ((aN.go [3,10,11] (by exact vS) rfl)) ?_ ?_
 ·exact Nat.zero_le _
 intro i hi;have h9:i=0∨i=1∨i=2∨i=3:=by omega
 rcases h9 with rfl|rfl|rfl|rfl
 ·(refine' l9 (gy h1 h2))
  refine bH.go (1) [3,10,11] (by exact vS) ?_ ?_;all_goals omega
 ·(refine' l9 (gy h3 h4))
  refine bH.go (2) [3,10,11] (by exact vS) ?_ ?_;all_goals omega
 ·(refine' l9 (gy h5 h6))
  refine bH.go (3) [3,10,11] (by exact vS) ?_ ?_;all_goals omega
 ·(refine' zo)
end Go.Proofs.YtkkanlcjjpoklaaGreatDoor
set_option linter.unusedSimpArgs false
set_option linter.unusedVariables false
set_option maxRecDepth 8000
set_option linter.defProp false
namespace Go.Proofs.YtkkanlcjjpoklaaGreatDoor
def m6 (s:Sm):List D:=[.lit (.int .i64 s.n),.lit (.int .i64 s.d0),.lit (.int .i64 s.d1),.lit (.int .i64 s.d2),.lit (.int .i64 s.mx),.lit (.int .i64 s.pos)]
def mp (l:List It):D:= .pd 7 [.agg (.sd 7 false (l.map gK)::m6 (ao l))] 0 0
def fm (h:Nat) (ks:List D) (s:Sm):D:= .pd 8 [.agg (.sd 1 false ks :: .lit (.int .i64 h)::m6 s)] 0 0
mutual
def bj:T→D
 | .leaf l=> .ifc 240 (mp l)
 | .inner h ks=> .ifc 275 (fm h (oP ks) (ao (T.itemsL ks)))
def oP:List T→List D
 | []=>[]
 | k::r=>bj k::oP r
end
theorem oQ : ∀ks:List T,oP ks=ks.map bj
 | []=>by rw [oP];rfl
 | k::r=>by rw [oP,oQ r];rfl
theorem ce (l:List It):bj (.leaf l) = .ifc 240 (mp l):=by rw [bj]
theorem cd (h:Nat) (ks:List T):bj (.inner h ks) = .ifc 275 (fm h (ks.map bj) (ao (T.itemsL ks))):=by rw [bj,oQ]
def bZ:Option T→D
 | none=> .lit .nilIface
 | some t=>bj t
theorem vv (t:T):(bj t).cells=[bj t]:=by
 cases t with
 | leaf l=>rw [ce];rfl
 | inner h ks=>rw [cd];rfl
def yg (t:T):=(D.cells.eq_def (bj t)).symm.trans (vv t)
attribute [push_cast] yg
attribute [push_cast] ce cd mp.eq_def fm.eq_def m6.eq_def T.items.eq_1 T.items.eq_2 T.ht.eq_1 T.ht.eq_2
set_option maxHeartbeats 1600000 in
theorem kS (t:T):aq Tryz.prog G0 146 [.d (bj t)] [] 0 (.d (tK (ao t.items))) []:=by
 cases t with
 | leaf l=>
  refine vF ab [0,2,3,4,5,7,8,14,15] Tryz.func146 rfl Tryz.results146 Tryz.ntmps146 ?_;(refine' zo)
 | inner h ks=>
  refine vF ab [0,2,3,4,5,7,8,14,15] Tryz.func146 rfl Tryz.results146 Tryz.ntmps146 ?_;(refine' zo)
theorem bg (t:T):aq Tryz.prog G0 229 [.d (bj t)] [] 0 (iv t.ht) []:=by
 cases t with
 | leaf l=>
  refine vF ab [0,2,4,5,7,8,10,11] Tryz.func229 rfl Tryz.results229 Tryz.ntmps229 ?_;(refine' zo)
 | inner h ks=>
  refine vF ab [0,2,4,5,7,8,10,11] Tryz.func229 rfl Tryz.results229 Tryz.ntmps229 ?_;(refine' zo)
theorem fJ (l:List It) (hl:l.length≤1000000) (hi : ∀i∈l,bx i):aq Tryz.prog G0 116 [.d (.sd 7 false (l.map gK))] [] 0 (.d (mp l)) []:=by
 refine vF ab [0,2] Tryz.func116 rfl Tryz.results116 Tryz.ntmps116 ?_;(refine' l9 (Im l hl hi false))
 refine ah.frz 20 (ah.out ?_);(repeat (first|(with_reducible first|exact True.intro|refine vD ?_|refine vG ?_|refine vE ?_)|refine vR ?_))
def Nk (ks:List T) (h:Nat) (i:Nat):St:=⟨[(3,.po 0 0),(14,.d (.sd 1 false (ks.map bj))),(15,iv ks.length),(16,iv i)],
 [(0,.cell [.d (.sd 1 false (ks.map bj)),iv h,iv (ao (T.itemsL (ks.take i))).n,iv (ao (T.itemsL (ks.take i))).d0,iv (ao (T.itemsL (ks.take i))).d1,iv (ao (T.itemsL (ks.take i))).d2,iv (ao (T.itemsL (ks.take i))).mx,iv (ao (T.itemsL (ks.take i))).pos])],1⟩
attribute [push_cast] Nk.eq_def
theorem kR:ao []=Sm.zero:=rfl
attribute [push_cast] kR
theorem hZ {ks:List T} {i:Nat} {k:T} (h:ks[i]? = some k):T.itemsL (ks.take (i+1))=T.itemsL (ks.take i)++k.items:=by
 rw [cS h,T.itemsL_app];simp only [T.itemsL,List.append_nil]
theorem mn {ks:List T} (i:Nat) : ∃r,T.itemsL ks=T.itemsL (ks.take i)++r:=⟨T.itemsL (ks.drop i),by rw [←T.itemsL_app,List.take_append_drop]⟩
theorem oE {ks:List T} {i:Nat} {k:T} (h:ks[i]? = some k) : ∃a b,T.itemsL ks=a++k.items++b:=by
 obtain ⟨r,hr⟩:=mn (ks:=ks) (i+1);exact ⟨_,r,by rw [hr,hZ h]⟩
set_option maxHeartbeats 1600000 in
theorem ew (ks:List T) (h:Nat) (hh:h≤1000000) (h0:0<ks.length) (hn:ks.length≤100) (hk : ∀k∈ks,k.ht=h) (hl:(T.itemsL ks).length≤1000000) (hi : ∀i∈T.itemsL ks,bx i) :
 aq Tryz.prog G0 171 [.d (.sd 1 false (ks.map bj))] [] 0 (.d (fm (h+1) (ks.map bj) (ao (T.itemsL ks)))) []:=by
 refine vF ab [0,2,3,5,14,15,16,17] Tryz.func171 rfl Tryz.results171 Tryz.ntmps171 ?_;(refine' zg)
 refine dV.intro fun k0 hk0 =>?_
 obtain rfl:k0.ht=h:=hk _ (List.mem_of_getElem? hk0);(refine' l9 (bg k0))
 refine vL (lv:=[0,2,3,5,14,15,16,17]) ab (Nk ks (k0.ht+1)) (fun i=>i≤ks.length) (fun i=>ks.length - i) (0) ((aN.go [3,14,15,16] (by exact vS) rfl)) ?_ ?_
 ·exact Nat.zero_le _
 intro i hle;(refine' zg)
 ·refine dV.intro fun k hk =>?_
  obtain ⟨a,b,e⟩:=oE hk;obtain ⟨r,er⟩:=mn (ks:=ks) i;have s1:eQ (ao (T.itemsL (ks.take i))):=i4 _ (fun y hy=>hi y (by rw [er];simp [hy])) (by have:=congrArg List.length er;simp at this;omega);have s2:eQ (ao k.items):=i4 _ (fun y hy=>hi y (by rw [e];simp [hy])) (by have:=congrArg List.length e;simp at this;omega);(refine' Fo (kS k) (nC (ao (T.itemsL (ks.take i))) (ao k.items) s1 s2))
  refine bH.go (i+1) [3,14,15,16] (by (try simp only [Nk]);rw [hZ hk,iJ];exact vS) ?_ ?_;all_goals omega
 ·refine ah.frz 0 (ah.out ?_);(repeat (first|(with_reducible first|exact True.intro|refine vD ?_|refine vG ?_|refine vE ?_)|refine vR ?_))
  rw [List.take_of_length_le (by omega)]
end Go.Proofs.YtkkanlcjjpoklaaGreatDoor
set_option linter.unusedSimpArgs false
set_option linter.unusedVariables false
set_option maxRecDepth 8000
namespace Go.Proofs.YtkkanlcjjpoklaaGreatDoor
theorem EK {α β:Type} (f:α→β) (l:List α) (i:Nat):(l.map f).take i=(l.take i).map f:=by simp
theorem C8 {α β:Type} (f:α→β) (l:List α) (i:Nat):(l.map f).drop i=(l.drop i).map f:=by simp
attribute [push_cast] EK C8
theorem uS {n m:Nat} (hn:n≤1000000000) (hm:m=n / 2):IntKind.i64.wrap ((n:Int).tdiv 2)=(m:Int):=by
 have e:(n:Int).tdiv 2=((n / 2:Nat):Int):=rfl;rw [e,←hm];exact M2 _ (by omega) (by omega)
set_option maxHeartbeats 1600000 in
theorem B0 (l:List It) (hl:l.length≤1000000) (hi : ∀i∈l,bx i):aq Tryz.prog G0 232 [.d (.sd 7 false (l.map gK))] [] 0 (.d (.sd 1 false ((gw l).map bj))) []:=by
 obtain ⟨m,hm⟩ : ∃m,m=l.length / 2:=⟨_,rfl⟩
 have hmid:=uS (by omega) hm;refine vF ab [0,2,3,6] Tryz.func232 rfl Tryz.results232 Tryz.ntmps232 ?_;(repeat' (first|(with_reducible first|exact True.intro|refine vD ?_|refine vG ?_|refine vE ?_)|(simp -implicitDefEqProofs -dsimp only [hmid])|with_reducible refine vQ (fJ l hl hi) ?_|with_reducible refine vC (fJ l hl hi) ?_|with_reducible refine vQ (fJ (l.take m) (by simp;omega) (fun i h=>hi i (List.mem_of_mem_take h))) ?_|with_reducible refine vQ (fJ (l.drop m) (by simp;omega) (fun i h=>hi i (List.mem_of_mem_drop h))) ?_|refine vR ?_|refine v6 ?_|with_reducible refine vN ?_|((with_reducible first|refine vB (fun h =>?_) (fun h =>?_)|refine vM (fun h =>?_) (fun h =>?_))<;>(first|(exfalso;omega)|skip))))
 ·refine ah.frz 28 (ah.out ?_);(repeat (first|(with_reducible first|exact True.intro|refine vD ?_|refine vG ?_|refine vE ?_)|refine vR ?_))
  rw [gw,if_pos (by omega),List.map_cons,List.map_nil,ce];simp only [mp,m6,push_cast];done
 ·refine ah.frz 76 (ah.out ?_);(repeat (first|(with_reducible first|exact True.intro|refine vD ?_|refine vG ?_|refine vE ?_)|refine vR ?_))
  rw [gw,if_neg (by omega),←hm,List.map_cons,List.map_cons,List.map_nil,ce,ce];simp only [mp,m6];done
theorem dY {ks:List T} {g:Nat} (h0:0<ks.length) (hk : ∀k∈ks,k.ht=g):bj (ey ks) = .ifc 275 (fm (g+1) (ks.map bj) (ao (T.itemsL ks))):=by
 match ks,h0,hk with
 | k::r,h0,hk=>
  unfold ey;rw [cd];simp only;rw [hk k (by simp)]
set_option maxHeartbeats 1600000 in
theorem pa (ks:List T) (g:Nat) (hh:g≤1000000) (h0:0<ks.length) (hn:ks.length≤100) (hk : ∀k∈ks,k.ht=g) (hl:(T.itemsL ks).length≤1000000) (hi : ∀i∈T.itemsL ks,bx i) :
 aq Tryz.prog G0 230 [.d (.sd 1 false (ks.map bj))] [] 0 (.d (.sd 1 false ((eD ks).map bj))) []:=by
 obtain ⟨m,hm⟩ : ∃m,m=ks.length / 2:=⟨_,rfl⟩
 have hmid:=uS (by omega) hm;have e:=T.itemsL_app (ks.take m) (ks.drop m);rw [List.take_append_drop] at e;have el:=congrArg List.length e;rw [List.length_append] at el;refine vF ab [0,2,3,6] Tryz.func230 rfl Tryz.results230 Tryz.ntmps230 ?_;(repeat' (first|(with_reducible first|exact True.intro|refine vD ?_|refine vG ?_|refine vE ?_)|(simp -implicitDefEqProofs -dsimp only [hmid])|with_reducible refine vQ (ew ks g hh h0 hn hk hl hi) ?_|with_reducible refine vC (ew ks g hh h0 hn hk hl hi) ?_|with_reducible refine vQ (ew (ks.take m) g hh (by simp;omega) (by simp;omega) (fun k q=>hk k (List.mem_of_mem_take q)) (by omega) (fun i q=>hi i (by rw [e];simp [q]))) ?_|with_reducible refine vQ (ew (ks.drop m) g hh (by simp;omega) (by simp;omega) (fun k q=>hk k (List.mem_of_mem_drop q)) (by omega) (fun i q=>hi i (by rw [e];simp [q]))) ?_|refine vR ?_|refine v6 ?_|with_reducible refine vN ?_|((with_reducible first|refine vB (fun h =>?_) (fun h =>?_)|refine vM (fun h =>?_) (fun h =>?_))<;>(first|(exfalso;omega)|skip))))
 ·refine ah.frz 28 (ah.out ?_);(repeat (first|(with_reducible first|exact True.intro|refine vD ?_|refine vG ?_|refine vE ?_)|refine vR ?_))
  rw [eD,if_pos (by omega),List.map_cons,List.map_nil,dY h0 hk];simp only [fm,m6,push_cast];done
 ·refine ah.frz 76 (ah.out ?_);(repeat (first|(with_reducible first|exact True.intro|refine vD ?_|refine vG ?_|refine vE ?_)|refine vR ?_))
  rw [eD,if_neg (by omega),←hm,List.map_cons,List.map_cons,List.map_nil,dY (ks:=ks.take m) (g:=g) (by simp;omega) (fun k q=>hk k (List.mem_of_mem_take q)),dY (ks:=ks.drop m) (g:=g) (by simp;omega) (fun k q=>hk k (List.mem_of_mem_drop q))];simp only [fm,m6,push_cast];done
set_option maxHeartbeats 1600000 in
theorem yA (a b:List T) (ha:a.length≤100) (hb:b.length≤100):aq Tryz.prog G0 231 [.d (.sd 1 false (a.map bj)),.d (.sd 1 false (b.map bj))] [] 0 (.d (.sd 1 false ((a++b).map bj))) []:=by
 refine vF ab [0,1,4,5] Tryz.func231 rfl Tryz.results231 Tryz.ntmps231 ?_;(refine' zg)
 refine ah.frz 56 (ah.out ?_);(repeat (first|(with_reducible first|exact True.intro|refine vD ?_|refine vG ?_|refine vE ?_)|refine vR ?_))
 simp
theorem GC {α β:Type} (f:α→β) (a b:List α):a.map f++b.map f=(a++b).map f:=by simp
attribute [push_cast] GC List.replicate_zero List.nil_append
structure Fa (n:Nat) (a b:T):Prop where
 wa:a.wf
 wb:b.wf
 sum:a.ht+b.ht≤n
 len:a.items.length+b.items.length≤1000000
 ia : ∀i∈a.items,bx i
 ib : ∀i∈b.items,bx i
 small:n≤1000000
abbrev dL (n:Nat) (a b:T):Prop:=aq Tryz.prog G0 170 [.d (bj a),.d (bj b)] [] 0 (.d (.sd 1 false ((cb n a b).map bj))) []
set_option maxHeartbeats 1600000 in
theorem Bv (n h:Nat) (ks:List T) (b:T) (w:Fa (n+1) (.inner h ks) b) (hlt:b.ht<h) (ih : ∀a b,Fa n a b→dL n a b):dL (n+1) (.inner h ks) b:=by
 have wa:=w.wa;simp only [T.wf] at wa;obtain ⟨k0,k1,k2,kw⟩:=wa;have wn:=w.sum;have ws:=w.small;have wl:=w.len;have wi:=w.ia;simp only [T.ht_inner] at wn;simp only [T.items] at wl wi;obtain ⟨m,hm⟩ : ∃m,m+1=ks.length:=⟨ks.length - 1,by omega⟩
 have hlast:(ks.length:Int) - 1=(m:Int):=by omega
 have e:ks.getLast? = ks[m]? :=by rw [List.getLast?_eq_getElem?,←hm];rfl
 have ed:ks.dropLast=ks.take m:=by rw [List.dropLast_eq_take,←hm];rfl
 obtain ⟨k,hk⟩ : ∃k,ks[m]? = some k:=⟨_,List.getElem?_eq_getElem (by omega)⟩
 have hks:ks=ks.take m++[k]:=by rw [←cS hk,List.take_of_length_le (by omega)]
 have ei:T.itemsL ks=T.itemsL (ks.take m)++k.items:=by rw [←hZ hk,List.take_of_length_le (by omega)]
 have el:=congrArg List.length ei;rw [List.length_append] at el;have hkk:=T.wfL_mem kw k (List.mem_of_getElem? hk);have t2:Fa n k b:=⟨hkk.2,w.wb,by omega,by omega,fun i q=>wi i (by rw [ei];simp [q]),w.ib,by omega⟩
 have mo:=ko n k b hkk.2 w.wb (by omega);have hx:max k.ht b.ht=h - 1:=by omega
 rw [hx] at mo;have em:cb (n+1) (.inner h ks) b=eD (ks.take m++cb n k b):=by
  conv=>lhs;unfold cb
  rw [if_pos (by simpa only [T.ht_inner] using hlt)];simp only [e,ed,hk]
 unfold dL;rw [em];have r1:=yA (ks.take m) (cb n k b) (by simp;omega) (by have:=mo.two;omega);have r2:=pa (ks.take m++cb n k b) (h - 1) (by omega) (by have:=mo.pos;simp;omega) (by have:=mo.two;simp;omega) (fun x q=>by
  rcases List.mem_append.1 q with q|q
  ·exact (T.wfL_mem kw x (List.mem_of_mem_take q)).1
  ·exact (T.wfL_mem mo.wf x q).1) (by rw [T.itemsL_app,mo.items];simp;omega) (fun i q=>by
  rw [T.itemsL_app,mo.items] at q;simp only [List.mem_append] at q;rcases q with q|q|q
  ·exact wi i (by rw [ei];simp [q])
  ·exact wi i (by rw [ei];simp [q])
  ·exact w.ib i q)
 have hA:=bg (.inner h ks);simp only [cd,fm,m6,T.ht_inner] at hA;refine vF ab [0,1,4,5,6,7,8,9,10,11,12,13,18,47,73] Tryz.func170 rfl Tryz.results170 Tryz.ntmps170 ?_;(repeat' (first|(with_reducible first|exact True.intro|refine vD ?_|refine vG ?_|refine vE ?_)|(simp -implicitDefEqProofs -dsimp only [hlast])|with_reducible refine ah.out ?_|with_reducible refine vQ (hA) ?_|with_reducible refine vQ (bg b) ?_|with_reducible refine vC (hA) ?_|with_reducible refine vC (bg b) ?_|with_reducible refine vQ (ih k b t2) ?_|with_reducible refine vQ (r1) ?_|with_reducible refine vQ (r2) ?_|(with_reducible refine dV.is m k rfl hk ?_)|refine vR ?_|refine v6 ?_|with_reducible refine vN ?_|((with_reducible first|refine vB (fun h =>?_) (fun h =>?_)|refine vM (fun h =>?_) (fun h =>?_))<;>(first|(exfalso;omega)|skip))))
set_option maxHeartbeats 1600000 in
theorem ya (n h:Nat) (ks:List T) (a:T) (w:Fa (n+1) a (.inner h ks)) (hlt:a.ht<h) (ih : ∀a b,Fa n a b→dL n a b):dL (n+1) a (.inner h ks):=by
 have wb:=w.wb;simp only [T.wf] at wb;obtain ⟨k0,k1,k2,kw⟩:=wb;have wn:=w.sum;have ws:=w.small;have wl:=w.len;have wi:=w.ib;simp only [T.ht_inner] at wn;simp only [T.items] at wl wi;obtain ⟨k,r,hks⟩ : ∃k r,ks=k::r:=by
  cases ks with
  | nil=>simp at k0
  | cons k r=>exact ⟨k,r,rfl⟩
 have hk:ks[0]? = some k:=by rw [hks];rfl
 have hr:ks.drop 1=r:=by rw [hks];rfl
 have hkl:ks.length=r.length+1:=by rw [hks];rfl
 rw [hks] at k0 k1 wl wi kw;simp only [List.length_cons] at k0 k1;simp only [T.itemsL] at wl wi;simp only [List.length_append] at wl;simp only [T.wfL] at kw;have t2:Fa n a k:=⟨w.wa,kw.2.1,by omega,by omega,w.ia,fun i q=>wi i (by simp [q]),by omega⟩
 have mo:=ko n a k w.wa kw.2.1 (by omega);have hx:max a.ht k.ht=h - 1:=by omega
 rw [hx] at mo;have em:cb (n+1) a (.inner h ks)=eD (cb n a k++r):=by
  rw [hks];conv=>lhs;unfold cb
  rw [if_neg (by rw [T.ht_inner];omega),if_pos (by rw [T.ht_inner];omega)]
 unfold dL;rw [em];have r1:=yA (cb n a k) r (by have:=mo.two;omega) (by omega);have r2:=pa (cb n a k++r) (h - 1) (by omega) (by have:=mo.pos;simp;omega) (by have:=mo.two;simp;omega) (fun x q=>by
  rcases List.mem_append.1 q with q|q
  ·exact (T.wfL_mem mo.wf x q).1
  ·exact (T.wfL_mem kw.2.2 x q).1) (by rw [T.itemsL_app,mo.items];simp;omega) (fun i q=>by
  rw [T.itemsL_app,mo.items] at q;simp only [List.mem_append] at q;rcases q with (q|q)|q
  ·exact w.ia i q
  ·exact wi i (by simp [q])
  ·exact wi i (by simp [q]))
 rw [←hr] at r1 r2 ⊢;have hA:=bg (.inner h ks);simp only [cd,fm,m6,T.ht_inner] at hA;refine vF ab [0,1,4,5,6,7,8,9,10,11,12,13,18,47,73] Tryz.func170 rfl Tryz.results170 Tryz.ntmps170 ?_;(repeat' (first|(with_reducible first|exact True.intro|refine vD ?_|refine vG ?_|refine vE ?_)|with_reducible refine ah.out ?_|with_reducible refine vQ (hA) ?_|with_reducible refine vQ (bg a) ?_|with_reducible refine vC (hA) ?_|with_reducible refine vC (bg a) ?_|with_reducible refine vQ (ih a k t2) ?_|with_reducible refine vQ (r1) ?_|with_reducible refine vQ (r2) ?_|(with_reducible refine dV.is 0 k rfl hk ?_)|refine vR ?_|refine v6 ?_|with_reducible refine vN ?_|((with_reducible first|refine vB (fun h =>?_) (fun h =>?_)|refine vM (fun h =>?_) (fun h =>?_))<;>(first|(exfalso;omega)|skip))))
set_option maxHeartbeats 1600000 in
theorem vn (n:Nat) (x y:List It) (w:Fa (n+1) (.leaf x) (.leaf y)):dL (n+1) (.leaf x) (.leaf y):=by
 have wl:=w.len;have wi:=w.ia;have wj:=w.ib;simp only [T.items] at wl wi wj;have em:cb (n+1) (.leaf x) (.leaf y)=gw (x++y):=by
  conv=>lhs;unfold cb
  rw [if_neg (by simp [T.ht]),if_neg (by simp [T.ht])]
 unfold dL;rw [em];have r1:=B0 (x++y) (by simp;omega) (fun i q=>by
  rcases List.mem_append.1 q with q|q
  ·exact wi i q
  ·exact wj i q)
 have hA:=bg (.leaf x);have hB:=bg (.leaf y);simp only [ce,mp,m6,T.ht_leaf] at hA hB;refine vF ab [0,1,4,5,6,7,8,9,10,11,12,13,18,47,73] Tryz.func170 rfl Tryz.results170 Tryz.ntmps170 ?_;(refine' Ag hA hB)
 refine aB.frz 204 rfl ?_;(refine' qe r1)
 all_goals skip
set_option maxHeartbeats 1600000 in
theorem Bu (n h:Nat) (x y:List T) (w:Fa (n+1) (.inner h x) (.inner h y)):dL (n+1) (.inner h x) (.inner h y):=by
 have wa:=w.wa;have wb:=w.wb;simp only [T.wf] at wa wb;have wn:=w.sum;have ws:=w.small;have wl:=w.len;have wi:=w.ia;have wj:=w.ib;simp only [T.ht_inner] at wn;simp only [T.items] at wl wi wj;have em:cb (n+1) (.inner h x) (.inner h y)=eD (x++y):=by
  conv=>lhs;unfold cb
  rw [if_neg (by simp [T.ht]),if_neg (by simp [T.ht])]
 unfold dL;rw [em];have r1:=yA x y (by omega) (by omega);have r2:=pa (x++y) (h - 1) (by omega) (by simp;omega) (by simp;omega) (fun k q=>by
  rcases List.mem_append.1 q with q|q
  ·exact (T.wfL_mem wa.2.2.2 k q).1
  ·exact (T.wfL_mem wb.2.2.2 k q).1) (by rw [T.itemsL_app];simp;omega) (fun i q=>by
  rw [T.itemsL_app] at q;rcases List.mem_append.1 q with q|q
  ·exact wi i q
  ·exact wj i q)
 have hA:=bg (.inner h x);have hB:=bg (.inner h y);simp only [cd,fm,m6,T.ht_inner] at hA hB;refine vF ab [0,1,4,5,6,7,8,9,10,11,12,13,18,47,73] Tryz.func170 rfl Tryz.results170 Tryz.ntmps170 ?_;(refine' ME hA hB r1 r2)
 all_goals skip
theorem GE : ∀(n:Nat) (a b:T),Fa n a b→dL n a b:=by
 intro n;induction n with
 | zero=>intro a b w;have:=T.wf_ht w.wa;have:=w.sum;omega
 | succ n ih=>
  intro a b w;rcases Nat.lt_trichotomy a.ht b.ht with hlt|heq|hgt
  ·obtain ⟨h,ks,rfl⟩:=T.inner_ht (t:=b) (by have:=T.wf_ht w.wa;omega);exact ya n h ks a w hlt ih
  ·rcases Nat.lt_or_ge a.ht 2 with hl|hl
   ·obtain ⟨x,rfl⟩:=T.leaf_ht w.wa (by have:=T.wf_ht w.wa;omega);obtain ⟨y,rfl⟩:=T.leaf_ht w.wb (by have:=T.wf_ht w.wb;omega);exact vn n x y w
   ·obtain ⟨h,x,rfl⟩:=T.inner_ht (t:=a) hl;obtain ⟨h',y,rfl⟩:=T.inner_ht (t:=b) (by omega);simp only [T.ht_inner] at heq;subst heq;exact Bu n h x y w
  ·obtain ⟨h,ks,rfl⟩:=T.inner_ht (t:=a) (by have:=T.wf_ht w.wb;omega);exact Bv n h ks b w hgt ih
theorem ku (t:T) : ∃k y,bj t = .ifc k y:=by
 cases t with
 | leaf l=>exact ⟨_,_,ce l⟩
 | inner h ks=>exact ⟨_,_,cd h ks⟩
structure KB (a b:Option T):Prop where
 wa:yU a
 wb:yU b
 len:(ak a).length+(ak b).length≤1000000
 ia : ∀i∈ak a,bx i
 ib : ∀i∈ak b,bx i
 small:xf a+xf b≤1000000
abbrev jn (a b:Option T):Prop:=aq Tryz.prog G0 115 [.d (bZ a),.d (bZ b)] [] 0 (.d (bZ (ez a b))) []
theorem Bh (b:Option T):jn none b:=by
 unfold jn;simp only [ez];refine vF ab [0,1,4,5,6,10,19] Tryz.func115 rfl Tryz.results115 Tryz.ntmps115 ?_;(repeat' (first|(with_reducible first|exact True.intro|refine vD ?_|refine vG ?_|refine vE ?_)|(simp only [bZ])|with_reducible refine ah.out ?_|refine vR ?_|refine v6 ?_|with_reducible refine vN ?_|((with_reducible first|refine vB (fun h =>?_) (fun h =>?_)|refine vM (fun h =>?_) (fun h =>?_))<;>(first|(exfalso;omega)|skip))))
 all_goals skip
theorem DD (a:T):jn (some a) none:=by
 unfold jn;simp only [ez,bZ];obtain ⟨k,y,e⟩:=ku a;rw [e];refine vF ab [0,1,4,5,6,10,19] Tryz.func115 rfl Tryz.results115 Tryz.ntmps115 ?_;(refine' zo)
 all_goals skip
set_option maxHeartbeats 1600000 in
theorem DE (a b:T) (w:KB (some a) (some b)):jn (some a) (some b):=by
 have w2:Fa (a.ht+b.ht) a b:=⟨w.wa,w.wb,Nat.le_refl _,w.len,w.ia,w.ib,w.small⟩
 have r1:=GE _ a b w2;have mo:=ko (a.ht+b.ht) a b w.wa w.wb (Nat.le_refl _);unfold jn;simp only [ez,bZ];unfold dL at r1;generalize cb (a.ht+b.ht) a b=l at r1 mo;obtain ⟨k,y,e⟩:=ku a;obtain ⟨k',y',e'⟩:=ku b;rw [e,e'] at r1 ⊢;have hl:=mo.pos;have hl2:=mo.two;have r2:=ew l (max a.ht b.ht) (by have:=w.small;simp only [xf] at this;omega) hl (by omega) (fun k q=>(T.wfL_mem mo.wf k q).1) (by rw [mo.items];simp;exact w.len) (by
  rw [mo.items];intro i q;rcases List.mem_append.1 q with q|q
  ·exact w.ia i q
  ·exact w.ib i q)
 refine vF ab [0,1,4,5,6,10,19] Tryz.func115 rfl Tryz.results115 Tryz.ntmps115 ?_;(refine' Ag r1 r2)
 ·obtain ⟨x,rfl⟩:=List.length_eq_one_iff.1 (show l.length=1 by omega);refine dV.is 0 x rfl rfl ?_;(refine' zo)
 ·obtain ⟨x,z,rfl⟩ : ∃x z,l=[x,z]:=by
   match l,hl,hl2,h with
   | [x],_,_,h=>simp at h
   | [x,z],_,_,_=>exact ⟨x,z,rfl⟩
  show _=bj (ey [x,z]);rw [dY hl (fun k q=>(T.wfL_mem mo.wf k q).1)];rfl
theorem Gv (a b:Option T) (w:KB a b):jn a b:=by
 cases a with
 | none=>exact Bh b
 | some a=>
  cases b with
  | none=>exact DD a
  | some b=>exact DE a b w
theorem zK (t:Option T):bZ t = .lit .nilIface ∨ ∃k y,bZ t = .ifc k y:=by
 cases t with
 | none=>exact .inl rfl
 | some t=>exact .inr (ku t)
def aU (t:Option T):D:= .pd 1 [.agg [bZ t]] 0 0
theorem IP {α β:Type} {f:α→β} {A:List α} {z:β} {m:Nat} (h:A.length=m):A.map f++(List.replicate m z).drop A.length=A.map f:=by
 rw [List.drop_of_length_le (by simp [h]),List.append_nil]
def GI (l:List It) (i:Nat):St:=⟨[(0,.d (.sd 7 false (l.map gK))),(4,.d (bZ (c9 l i))),(12,.d (.sd 7 false (l.map gK))),(13,iv l.length),(14,iv i)],[],0⟩
theorem ow (l:List It) : ∀i,i≤l.length→xf (c9 l i)≤i+1:=by
 intro i;induction i with
 | zero=>intro _;simp [c9,xf]
 | succ i ih=>
  intro h;have:=ih (by omega);unfold c9;split
  ·have h1:=(nn l i (by omega)).1;have h2:yU (some (T.leaf ((l.drop i).take 8))):=by simp only [yU,T.wf];simp;omega
   have:=(u9 h1 h2).2.2;have h3:xf (some (T.leaf ((l.drop i).take 8)))=1:=rfl;rw [h3] at this;omega
  ·omega
theorem GW {n r k:Nat} (hn:n≤1000000000) (hk:0<k) (hk2:k≤1000000000) (hr:r=n % k):IntKind.i64.wrap ((n:Int).tmod (k:Int))=(r:Int):=by
 have e:(n:Int).tmod (k:Int)=((n % k:Nat):Int):=rfl;rw [e,←hr];have:=Nat.mod_lt n hk;exact M2 _ (by omega) (by omega)
set_option maxHeartbeats 1600000 in
theorem sm (l:List It) (hl:l.length≤30000) (hi : ∀i∈l,bx i):aq Tryz.prog G0 58 [.d (.sd 7 false (l.map gK))] [] 0 (.tup [.d (aU (c9 l l.length)),iv 0]) []:=by
 refine vF ab [0,2,3,4,5,6,7,8,11,12,13,14,15,22,26] Tryz.func58 rfl Tryz.results58 Tryz.ntmps58 ?_;(refine' zo)
 refine vL (lv:=[0,2,3,4,5,6,7,8,11,12,13,14,15,22,26]) ab (GI l) (fun i=>i≤l.length) (fun i=>l.length - i) (0) ((aN.go [0,4,12,13,14] (by exact vS) rfl)) ?_ ?_
 ·exact Nat.zero_le _
 intro i hle;obtain ⟨r,hr⟩ : ∃r,r=i % 8:=⟨_,rfl⟩
 have hrem:=GW (k:=8) (by omega) (by omega) (by omega) hr;simp only [GI];(repeat' (first|(with_reducible first|exact True.intro|refine vD ?_|refine vG ?_|refine vE ?_)|(simp -implicitDefEqProofs -dsimp only [hrem])|refine vR ?_|refine v6 ?_|with_reducible refine vN ?_|((with_reducible first|refine vB (fun h =>?_) (fun h =>?_)|refine vM (fun h =>?_) (fun h =>?_))<;>(first|(exfalso;omega)|skip))))
 ·refine dV.intro fun x hx =>?_
  have hok:bx x:=hi x (List.mem_of_getElem? hx);have hc:=Ct x hok;obtain ⟨m,hm⟩ : ∃m,m=min 8 (l.length - i):=⟨_,rfl⟩
  have hmin:min 8 ((l.length:Int) - i)=(m:Int):=by omega
  obtain ⟨A,hA⟩ : ∃A,A=(l.drop i).take 8:=⟨_,rfl⟩
  have hlen:A.length=m:=by rw [hA,hm];simp
  have hA':(l.drop i).take m=A:=by
   rw [hA,hm];rcases Nat.le_total 8 (l.length - i) with q|q
   ·rw [Nat.min_eq_left q]
   ·rw [Nat.min_eq_right q,List.take_of_length_le (by simp),List.take_of_length_le (by simp;omega)]
  have hAt:A.take m=A:=List.take_of_length_le (by omega);have hAi : ∀y∈A,bx y:=fun y q=>hi y (List.mem_of_mem_drop (List.mem_of_mem_take (by rw [hA] at q;exact q)))
  (repeat' (first|(with_reducible first|exact True.intro|refine vD ?_|refine vG ?_|refine vE ?_)|(simp -implicitDefEqProofs -dsimp only [hrem])|(simp -implicitDefEqProofs -dsimp only [hmin])|(simp -implicitDefEqProofs -dsimp only [hA'])|with_reducible refine vQ (hc) ?_|with_reducible refine vC (hc) ?_|refine vR ?_|refine v6 ?_|with_reducible refine vN ?_|((with_reducible first|refine vB (fun h =>?_) (fun h =>?_)|refine vM (fun h =>?_) (fun h =>?_))<;>(first|(exfalso;omega)|skip))))
  ·rw [IP (f:=gK) (A:=A) (m:=m) hlen];have e0:(i:Int).tmod 8=((i % 8:Nat):Int):=rfl;have en:c9 l (i+1)=ez (c9 l i) (some (.leaf A)):=by
    conv=>lhs;unfold c9
    rw [if_pos (by omega),←hA]
   obtain ⟨q1,q2⟩:=nn l i (by omega);have hj:aq Tryz.prog G0 115 [.d (bZ (c9 l i)),.d (bj (.leaf A))] [] 0 (.d (bZ (ez (c9 l i) (some (.leaf A))))) []:=
    Gv (c9 l i) (some (.leaf A)) ⟨q1,by simp only [yU,T.wf];omega,by rw [q2];simp only [ak,T.items];simp;omega,fun y q=>hi y (List.mem_of_mem_take (by rw [q2] at q;exact q)),fun y q=>hAi y (by simpa only [ak,T.items] using q),by have:=ow l i (by omega);have e9:xf (some (T.leaf A))=1:=rfl;omega⟩
   simp only [ce,mp,m6] at hj;refine aB.frz 80 rfl ?_;(repeat' (first|(with_reducible first|exact True.intro|refine vD ?_|refine vG ?_|refine vE ?_)|(simp -implicitDefEqProofs -dsimp only [hmin])|(simp -implicitDefEqProofs -dsimp only [hlen,hAt])|with_reducible refine vC (fJ A (by omega) hAi) ?_|with_reducible refine vC (hj) ?_|refine vR ?_|refine v6 ?_|with_reducible refine vN ?_|((with_reducible first|refine vB (fun h =>?_) (fun h =>?_)|refine vM (fun h =>?_) (fun h =>?_))<;>(first|(exfalso;omega)|skip))))
   refine bH.go (i+1) [0,4,12,13,14] (by (try simp only [GI]);rw [en];exact vS) ?_ ?_;all_goals omega
  ·have e0:(i:Int).tmod 8=((i % 8:Nat):Int):=rfl;rw [e0] at h;have e:c9 l (i+1)=c9 l i:=by
    conv=>lhs;unfold c9
    rw [if_neg (by omega)]
   refine bH.go (i+1) [0,4,12,13,14] (by (try simp only [GI]);rw [e];exact vS) ?_ ?_;all_goals omega
 ·rcases zK (c9 l i) with e|⟨k,y,e⟩
  ·simp only [e];(refine' zg)
   refine ah.frz 12 (ah.out ?_);(repeat (first|(with_reducible first|exact True.intro|refine vD ?_|refine vG ?_|refine vE ?_)|refine vR ?_))
   rw [←show i=l.length by omega,aU,e]
  ·simp only [e];(refine' zg)
   refine ah.frz 12 (ah.out ?_);(repeat (first|(with_reducible first|exact True.intro|refine vD ?_|refine vG ?_|refine vE ?_)|refine vR ?_))
   rw [←show i=l.length by omega,aU,e]
theorem tX (t:Option T):aq Tryz.prog G0 141 [.d (aU t)] [] 0 (.d (bZ t)) []:=by
 rcases zK t with e|⟨k,y,e⟩
 ·rw [aU,e];refine vF ab [0,2,4] Tryz.func141 rfl Tryz.results141 Tryz.ntmps141 ?_;(refine' zo)
 ·rw [aU,e];refine vF ab [0,2,4] Tryz.func141 rfl Tryz.results141 Tryz.ntmps141 ?_;(refine' zo)
theorem B9:aq Tryz.prog G0 146 [.d (.lit .nilIface)] [] 0 (.d (tK Sm.zero)) []:=by
 refine vF ab [0,2,3,4,5,7,8,14,15] Tryz.func146 rfl Tryz.results146 Tryz.ntmps146 ?_;(refine' zo)
 rfl
theorem Hh (t:Option T):aq Tryz.prog G0 146 [.d (bZ t)] [] 0 (.d (tK (ao (ak t)))) []:=by
 cases t with
 | none=>exact B9
 | some t=>exact kS t
theorem jp (t:Option T):aq Tryz.prog G0 103 [.d (aU t)] [] 0 (.d (tK (ao (ak t)))) []:=by
 have r1:=tX t;rw [aU] at r1 ⊢;refine vF ab [0,2] Tryz.func103 rfl Tryz.results103 Tryz.ntmps103 ?_;(refine' Ag r1 (Hh t))
theorem Ex (s:Sm):aq Tryz.prog G0 143 [.d (tK s),iv 0] [] 0 (iv s.d0) []:=by
 refine vF ab [0,1,2,4,6] Tryz.func143 rfl Tryz.results143 Tryz.ntmps143 ?_;(refine' zo)
theorem Ey (s:Sm):aq Tryz.prog G0 143 [.d (tK s),iv 1] [] 0 (iv s.d1) []:=by
 refine vF ab [0,1,2,4,6] Tryz.func143 rfl Tryz.results143 Tryz.ntmps143 ?_;(refine' zo)
theorem Ez (s:Sm):aq Tryz.prog G0 143 [.d (tK s),iv 2] [] 0 (iv s.d2) []:=by
 refine vF ab [0,1,2,4,6] Tryz.func143 rfl Tryz.results143 Tryz.ntmps143 ?_;(refine' zo)
theorem EA (s:Sm):aq Tryz.prog G0 143 [.d (tK s),iv 3] [] 0 (iv s.n) []:=by
 refine vF ab [0,1,2,4,6] Tryz.func143 rfl Tryz.results143 Tryz.ntmps143 ?_;(refine' zo)
theorem kM (s:Sm) (d:Nat) (hd:d≤3):aq Tryz.prog G0 143 [.d (tK s),iv d] [] 0 (iv (lY s d)) []:=by
 have h4:d=0∨d=1∨d=2∨d=3:=by omega
 rcases h4 with rfl|rfl|rfl|rfl
 ·exact Ex s
 ·exact Ey s
 ·exact Ez s
 ·exact EA s
abbrev nM (n:Int):D:= .pd 1 [.agg [.lit (.int .i64 n)]] 0 0
theorem v9 (e v b:Int):aq Tryz.prog G0 144 [iv e,.d (nM v),.d (nM b)] [] 0 (bv (decide (v<e)||(b==0&&e==v))) []:=by
 refine vF ab [0,1,2,4] Tryz.func144 rfl Tryz.results144 Tryz.ntmps144 ?_;(refine' zo)
def MJ (v b:Int):V:= .d (.fn 144 [nM v,nM b])
def z8:bu:= .cell [iv 0,iv 0,iv 0,iv 0,iv 0,iv 0,iv 0,iv 0]
def MN (s:Sm) (n:Int):bu:= .cell [iv 0,iv s.n,iv s.d0,iv s.d1,iv s.d2,iv s.mx,iv s.pos,iv n]
def Ng (d:Nat) (v b:Int) (x:Option T × Sm × Nat):St:=⟨[(1,iv d),(8,.po 0 0),(11,MJ v b),(12,.po 1 0),(13,.d (bZ x.1))],[(0,z8),(1,MN x.2.1 x.2.2)],2⟩
attribute [push_cast] Ng.eq_def MJ.eq_def z8.eq_def MN.eq_def bZ.eq_1 bZ.eq_2
theorem cm {α:Type} {l:List α} {i:Nat} {x:α} (h:l[i]? = some x):l.drop i=x::l.drop (i+1):=by
 obtain ⟨h1,h2⟩:=List.getElem?_eq_some_iff.1 h;rw [←h2];exact List.drop_eq_getElem_cons h1
def PG (d:Nat) (v b:Int) (l:List It) (n:Int) (y:Nat × Sm):St:=⟨[(1,iv d),(8,.po 0 0),(11,MJ v b),(12,.po 1 0),(101,.d (.sd 7 false (l.map gK))),(102,iv l.length),(103,iv y.1)],[(0,z8),(1,MN y.2 n)],2⟩
def PF (d:Nat) (v b:Int) (ks:List T) (n:Int) (y:Nat × Sm):St:=⟨[(1,iv d),(8,.po 0 0),(11,MJ v b),(12,.po 1 0),(13,.d (.lit .nilIface)),(72,.d (.sd 1 false (ks.map bj))),(73,iv ks.length),(74,iv y.1)],[(0,z8),(1,MN y.2 n)],2⟩
attribute [push_cast] PG.eq_def PF.eq_def
structure QL (R:Sm→Bool) (fin:Sm) (l:List It) (y:Nat × Sm):Prop where
 ok:eQ y.2
 le:y.1≤l.length
 len:y.2.n+(l.drop y.1).length≤1000000
 fin:jb R y.2 (l.drop y.1)=fin
structure QK (R:Sm→Bool) (vis:Nat) (fin:Sm × Nat) (ks:List T) (y:Nat × Sm):Prop where
 ok:eQ y.2
 le:y.1≤ks.length
 len:y.2.n+(T.itemsL (ks.drop y.1)).length≤1000000
 fst:(fy R (ks.drop y.1) y.2).1=fin.1
 vis:vis+(fy R (ks.drop y.1) y.2).2=fin.2
def QO (R:Sm→Bool) (x:Option T × Sm × Nat):Nat:=match x.1 with|none=>0|some t=>(fx R t x.2.1).2
theorem rH {d:Nat} {v b:Int} {s:Sm} (h:v<lY s d∨b=0∧lY s d=v):ba d v b s=true:=by
 simp only [ba,Bool.or_eq_true,Bool.and_eq_true,decide_eq_true_eq,beq_iff_eq];exact h
theorem wc {d:Nat} {v b:Int} {s:Sm} (h : ¬(v<lY s d∨b=0∧lY s d=v)) : ¬ba d v b s=true:=by
 simp only [ba,Bool.or_eq_true,Bool.and_eq_true,decide_eq_true_eq,beq_iff_eq];exact h
structure QJ (R:Sm→Bool) (fin:Sm × Nat) (x:Option T × Sm × Nat):Prop where
 ok:eQ x.2.1
 sub : ∀t,x.1=some t→t.wf∧x.2.1.n+t.items.length≤1000000∧(∀i∈t.items,bx i)∧(fx R t x.2.1).1=fin.1∧x.2.2+(fx R t x.2.1).2=fin.2
 non:x.1=none→x.2.1=fin.1∧x.2.2=fin.2
set_option maxHeartbeats 1600000 in
theorem Am (t:T) (d:Nat) (hd:d≤3) (v b:Int) (hw:t.wf) (hh:t.ht≤1000000) (hn:t.items.length≤1000000) (hi : ∀i∈t.items,bx i) (hv0:0≤v) (hv:v≤lY (ao t.items) d) (hb:b=0∨b=1)
 (fin:Sm × Nat) (hfin:fin=fx (ba d v b) t Sm.zero) :
 aq Tryz.prog G0 88 [.d (aU (some t)),iv d,iv v,iv b] [] 0 (.tup [.d (.agg [.lit (.int .i64 fin.1.n),.lit (.int .i64 fin.1.n),.lit (.int .i64 fin.1.d0),.lit (.int .i64 fin.1.d1),.lit (.int .i64 fin.1.d2),.lit (.int .i64 fin.1.mx),.lit (.int .i64 fin.1.pos),.lit (.int .i64 fin.2)]),iv 0]) []:=by
 have r1:=jp (some t);have r2:=tX (some t);have r3:=kM (ao t.items) d hd;simp only [ak] at r1;rw [aU] at r1 r2 ⊢;simp only [bZ] at r1 r2 ⊢;refine vF ab [0,1,2,3,6,7,8,9,10,11,12,13,14,15,17,18,19,20,22,23,50,57,68,72,73,74,75,87,97,101,102,103,104,116] Tryz.func88 rfl Tryz.results88 Tryz.ntmps88 ?_;(refine' M4 r1 r2 r3)
 refine vL (lv:=[0,1,2,3,6,7,8,9,10,11,12,13,14,15,17,18,19,20,22,23,50,57,68,72,73,74,75,87,97,101,102,103,104,116]) ab (Ng d v b) (QJ (ba d v b) fin) (QO (ba d v b)) ((some t,Sm.zero,0)) (aN.frz 0<|aN.frz 4<|(aN.go [1,8,11,12,13] (by exact vT) rfl)) ?_ ?_
 ·refine ⟨Ae,fun t' e =>?_,fun e=>by cases e⟩;injection e with e;subst e;exact ⟨hw,by simp [Sm.zero];omega,hi,by rw [hfin],by simp only [hfin];omega⟩
 rintro ⟨ot,s,vis⟩ ⟨p1,p2,p3⟩;simp only at p1 p2 p3;have v1:=gX (R:=ba d v b) t Sm.zero hw;rw [←hfin] at v1;cases ot with
 | none=>
  obtain ⟨rfl,rfl⟩:=p3 rfl;(refine' zo)
 | some n=>
  obtain ⟨q1,q2,q3,q4,q5⟩:=p2 n rfl;have v2:=gX (R:=ba d v b) n s q1;cases n with
  | leaf l=>
   simp only [T.items] at q2 q3;simp only [fx] at q4 q5;simp only [T.wf] at q1;(refine' zo)
   refine vL (lv:=[0,1,2,3,6,7,8,9,10,11,12,13,14,15,17,18,19,20,22,23,50,57,68,72,73,74,75,87,97,101,102,103,104,116]) ab (PG d v b l (vis+1)) (QL (ba d v b) fin.1 l) (fun y=>l.length - y.1) ((0,s)) ((aN.go [1,8,11,12,101,102,103] (by exact vT) rfl)) ?_ ?_
   ·exact ⟨p1,by simp,by simpa using q2,by simpa using q4⟩
   rintro ⟨j,z⟩ ⟨u1,u2,u3,u4⟩;simp only at u1 u2 u3 u4;have hvis:((vis:Int)+1)=(fin.2:Int):=by omega
   (refine' zo)
   ·refine dV.intro fun x hx =>?_
    have hok:bx x:=q3 x (List.mem_of_getElem? hx);have hdr:=cm hx;rw [hdr,jb] at u4;have a1:=nC z (gM x) u1 (oT hok);have a2:=sw u1 (oT hok) (by rw [hdr] at u3;simp only [gM];simp only [List.length_cons] at u3;omega);(refine' ME (Cx x) a1 (kM (aS z (gM x)) d hd) (v9 (lY (aS z (gM x)) d) v b))
    ·rw [if_pos (rH h)] at u4;rw [←u4,←hvis]
    ·rw [if_neg (wc h)] at u4;refine bH.go ((j+1,aS z (gM x))) [1,8,11,12,101,102,103] (by exact vT) ?_ ?_
     ·show l.length - (j+1)<l.length - j;omega
     ·rw [hdr] at u3;exact ⟨a2,by simp only;omega,by simp only [List.length_cons] at u3;simp only [aS,gM];omega,u4⟩
   ·rw [List.drop_of_length_le (by omega),jb] at u4;rw [←u4,←hvis]
  | inner g ks=>
   simp only [T.items] at q2 q3;simp only [fx] at q4 q5;simp only [T.wf] at q1;(refine' zo)
   refine vL (lv:=[0,1,2,3,6,7,8,9,10,11,12,13,14,15,17,18,19,20,22,23,50,57,68,72,73,74,75,87,97,101,102,103,104,116]) ab (PF d v b ks (vis+1)) (QK (ba d v b) (vis+1) fin ks) (fun y=>ks.length - y.1) ((0,s)) ((aN.go [1,8,11,12,13,72,73,74] (by exact vT) rfl)) ?_ ?_
   ·exact ⟨p1,by simp,by simpa using q2,by simpa using q4,by simpa [Nat.add_assoc,Nat.add_comm 1] using q5⟩
   rintro ⟨j,z⟩ ⟨u1,u2,u3,u4,u5⟩;simp only at u1 u2 u3 u4 u5;(refine' zo)
   ·refine dV.intro fun k hk =>?_
    have hdr:=cm hk;rw [hdr] at u3 u4 u5;rw [fy] at u4 u5;simp only [T.itemsL,List.length_append] at u3;have hkw:=T.wfL_mem q1.2.2.2 k (List.mem_of_getElem? hk);have hki : ∀i∈k.items,bx i:=fun i q=>by
     obtain ⟨a,b,e⟩:=oE hk;exact q3 i (by rw [e];simp [q])
    have o1:eQ (ao k.items):=i4 _ hki (by have:=u1.1;omega);have a1:=nC z (ao k.items) u1 o1;have a2:=sw u1 o1 (by rw [eJ];omega);(refine' ME (kS k) a1 (kM (aS z (ao k.items)) d hd) (v9 (lY (aS z (ao k.items)) d) v b))
    ·rw [if_pos (rH h)] at u4 u5;have v3:=gX (R:=ba d v b) k z hkw.2;refine bH.go ((some k,z,vis+1)) [1,8,11,12,13] (by exact vT) ?_ ?_
     ·show (fx (ba d v b) k z).2<(fx (ba d v b) (.inner g ks) s).2;simp only [fx];omega
     ·exact ⟨u1,fun t' e=>by injection e with e;subst e;exact ⟨hkw.2,by simp only;omega,hki,u4,u5⟩,fun e=>by cases e⟩
    ·rw [if_neg (wc h)] at u4 u5;refine bH.go ((j+1,aS z (ao k.items))) [1,8,11,12,13,72,73,74] (by exact vT) ?_ ?_
     ·show ks.length - (j+1)<ks.length - j;omega
     ·exact ⟨a2,by simp only;omega,by simp only [aS];rw [eJ];omega,u4,u5⟩
   ·rw [List.drop_of_length_le (by omega),fy] at u4 u5;simp only at u4 u5;refine bH.go ((none,z,vis+1)) [1,8,11,12,13] (by exact vT) ?_ ?_
    ·show 0<(fx (ba d v b) (.inner g ks) s).2;simp only [fx];omega
    ·exact ⟨u1,(fun t' e=>by cases e),fun _=>⟨u4,by omega⟩⟩
def z7:bu:= .cell [iv 0,iv 0,iv 0,iv 0,iv 0,iv 0,.d (.lit (.string ⟨#[]⟩))]
def Pv (x:T × Nat):St:=⟨[(1,iv x.2),(4,.po 0 0),(6,.d (bj x.1))],[(0,z7)],1⟩
def Pu (ks:List T) (y:Nat × Nat):St:=⟨[(1,iv y.2),(4,.po 0 0),(34,.d (.sd 1 false (ks.map bj))),(35,iv ks.length),(36,iv y.1)],[(0,z7)],1⟩
attribute [push_cast] z7.eq_def Pv.eq_def Pu.eq_def
structure QH (x:It) (y:T × Nat):Prop where
 wf:y.1.wf
 len:y.1.items.length≤1000000
 get:y.1.items[y.2]? = some x
structure QG (x:It) (ks:List T) (y:Nat × Nat):Prop where
 le:y.1≤ks.length
 get:(T.itemsL (ks.drop y.1))[y.2]? = some x
set_option maxHeartbeats 1600000 in
theorem Fp (t:T) (i:Nat) (x:It) (hw:t.wf) (hn:t.items.length≤1000000) (hx:t.items[i]? = some x) :
 aq Tryz.prog G0 89 [.d (aU (some t)),iv i] [] 0 (.tup [.d (gK x),iv 0]) []:=by
 have hlt:=(List.getElem?_eq_some_iff.1 hx).1;have r1:=jp (some t);have r2:=tX (some t);have e0:(ao t.items).n=t.items.length:=eJ _;simp only [ak] at r1;rw [aU] at r1 r2 ⊢;simp only [bZ] at r1 r2 ⊢;refine vF ab [0,1,4,5,6,7,8,10,11,20,30,34,35,36,37,45] Tryz.func89 rfl Tryz.results89 Tryz.ntmps89 ?_;(refine' Fo r1 r2)
 refine vL (lv:=[0,1,4,5,6,7,8,10,11,20,30,34,35,36,37,45]) ab (Pv) (QH x) (fun y=>y.1.ht) ((t,i)) ((aN.go [1,4,6] (by exact vT) rfl)) ?_ ?_
 ·exact ⟨hw,hn,hx⟩
 rintro ⟨n,k⟩ ⟨p1,p2,p3⟩;simp only at p1 p2 p3;have hlk:=(List.getElem?_eq_some_iff.1 p3).1;cases n with
 | leaf l=>
  simp only [T.items] at p2 p3 hlk;(refine' zo)
  refine dV.is k x (by omega) p3 ?_;(refine' zo)
 | inner g ks=>
  simp only [T.items] at p2 p3 hlk;simp only [T.wf] at p1;(refine' zo)
  refine vL (lv:=[0,1,4,5,6,7,8,10,11,20,30,34,35,36,37,45]) ab (Pu ks) (QG x ks) (fun y=>ks.length - y.1) ((0,k)) ((aN.go [1,4,34,35,36] (by exact vT) rfl)) ?_ ?_
  ·exact ⟨by simp,by simpa using p3⟩
  rintro ⟨j,m⟩ ⟨u1,u2⟩;simp only at u1 u2;rcases Nat.lt_or_ge j ks.length with hj|hj
  ·obtain ⟨kid,hk⟩ : ∃kid,ks[j]? = some kid:=⟨_,List.getElem?_eq_getElem hj⟩
   have hdr:=cm hk;rw [hdr] at u2;simp only [T.itemsL] at u2;have hkw:=T.wfL_mem p1.2.2.2 kid (List.mem_of_getElem? hk);have e1:(ao kid.items).n=kid.items.length:=eJ _;obtain ⟨a,b,eab⟩:=oE hk;have hln:=congrArg List.length eab;simp only [List.length_append] at hln;have hm:=(List.getElem?_eq_some_iff.1 u2).1;obtain ⟨c,ec⟩ : ∃c,T.itemsL ks=c++(kid.items++T.itemsL (ks.drop (j+1))):=⟨T.itemsL (ks.take j),by rw [←T.itemsL,←hdr,←T.itemsL_app,List.take_append_drop]⟩
   have hlc:=congrArg List.length ec;simp only [List.length_append] at hlc hm;(refine' zg)
   refine dV.is j kid (by omega) hk ?_;(refine' qe (kS kid))
   ·rw [List.getElem?_append_right (by omega)] at u2;refine bH.go ((j+1,m - kid.items.length)) [1,4,34,35,36] (by exact vT) ?_ ?_
    ·show ks.length - (j+1)<ks.length - j;omega
    ·exact ⟨by simp only;omega,u2⟩
   ·rw [List.getElem?_append_left (by omega)] at u2;refine bH.go ((kid,m)) [1,4,6] (by exact vT) ?_ ?_
    ·show kid.ht<(T.inner g ks).ht;rw [hkw.1,T.ht_inner];omega
    ·exact ⟨hkw.2,by simp only;omega,u2⟩
  ·rw [List.drop_of_length_le hj] at u2;simp [T.itemsL] at u2
theorem In (t:Option T) (i:Nat) (hi:(ak t).length≤i) (hs:i≤1000000) :
 aq Tryz.prog G0 89 [.d (aU t),iv i] [] 0 (.tup [.d (gK ⟨0,0,0,0,0,0,⟨#[]⟩⟩),iv 1]) []:=by
 have r1:=jp t;have e0:(ao (ak t)).n=(ak t).length:=eJ _;rw [aU] at r1 ⊢;refine vF ab [0,1,4,5,6,7,8,10,11,20,30,34,35,36,37,45] Tryz.func89 rfl Tryz.results89 Tryz.ntmps89 ?_;(refine' qe r1)
structure Tk (t:Option T):Prop where
 wf:yU t
 ht:xf t≤1000000
 len:(ak t).length≤30000
 ok : ∀i∈ak t,bx i
abbrev Gu:It:=⟨0,0,0,0,0,0,⟨#[]⟩⟩
theorem Kv (t:Option T) (k:Tk t) (i:Nat) (hs:i≤1000000):aq Tryz.prog G0 89 [.d (aU t),iv i] [] 0 (.tup [.d (gK ((ak t).getD i Gu)),iv (if i<(ak t).length then 0 else 1)]) []:=by
 by_cases hi:i<(ak t).length
 ·rw [if_pos hi];have hg:(ak t)[i]? = some ((ak t).getD i Gu):=by simp [List.getD_eq_getElem?_getD,hi]
  cases t with
  | none=>simp [ak] at hi
  | some t=>exact Fp t i _ k.wf (by have:=k.len;simp only [ak] at this;omega) hg
 ·rw [if_neg hi];have hg:(ak t).getD i Gu=Gu:=by simp [List.getD_eq_getElem?_getD,hi]
  rw [hg];exact In t i (by omega) hs
end Go.Proofs.YtkkanlcjjpoklaaGreatDoor
