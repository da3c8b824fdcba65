/- What the theorem leans on, part 13. -/
import Derived.Test.YtkkanlcjjpoklaaGreatDoorStUPAF
import Derived.Test.YtkkanlcjjpoklaaGreatDoorStUPAL
set_option linter.unusedSimpArgs false
set_option linter.unusedVariables false
set_option maxRecDepth 8000
namespace Go.Proofs.YtkkanlcjjpoklaaGreatDoor
abbrev jl (i:It):D:= .agg [.lit (.int .i64 i.tag),.lit (.int .i64 i.id),.lit (.int .i64 i.d0),.lit (.int .i64 i.d1),.lit (.int .i64 i.d2),.lit (.int .i64 i.mx),.lit (.string i.text)]
abbrev xW (s:Sm):D:= .agg [.lit (.int .i64 s.n),.lit (.int .i64 s.d0),.lit (.int .i64 s.d1),.lit (.int .i64 s.d2),.lit (.int .i64 s.mx),.lit (.int .i64 s.pos)]
abbrev ZX (l:List It):V:= .d (.sd 7 false (l.map jl))
theorem Hy (n:Int):an Tryz.prog G0 169 [iv n] [] 0 (bv (decide (0≤n)&&decide (n≤1099511627776))) []:=by
 refine vF ab [0,2] Tryz.func169 rfl Tryz.results169 Tryz.ntmps169 ?_;(refine' zo)
theorem HQ (i:It):an Tryz.prog G0 147 [.d (jl i)] [] 0 (.d (xW (jo i))) []:=by
 refine vF ab [0,1,2] Tryz.func147 rfl Tryz.results147 Tryz.ntmps147 ?_;(refine' zo)
 rfl
def E5 (a b:Sm) (d0 d1 d2 i:Int):St:=⟨[(2,.po 0 0),(3,.po 1 0),(4,.po 2 0),(5,.po 3 0),(17,iv i)],
 [(0,.cell [iv a.n,iv a.d0,iv a.d1,iv a.d2,iv a.mx,iv a.pos]),(1,.cell [iv b.n,iv b.d0,iv b.d1,iv b.d2,iv b.mx,iv b.pos]),(2,.cell [iv 0,iv 0,iv 0,iv 0,iv 0,iv 0]),
  (3,.cell [iv (a.n+b.n),iv d0,iv d1,iv d2,iv a.mx,iv a.pos])],4⟩
def yO (a b:Sm):Nat→St
 | 0=>E5 a b 0 0 0 0
 | 1=>E5 a b (a.d0+b.d0) 0 0 1
 | 2=>E5 a b (a.d0+b.d0) (a.d1+b.d1) 0 2
 | _=>E5 a b (a.d0+b.d0) (a.d1+b.d1) (a.d2+b.d2) 3
attribute [push_cast] E5.eq_def yO.eq_1 yO.eq_2 yO.eq_3
theorem Lt (a b:Sm):yO a b 3=E5 a b (a.d0+b.d0) (a.d1+b.d1) (a.d2+b.d2) 3:=rfl
attribute [push_cast] Lt
set_option maxHeartbeats 1600000 in
theorem qn (a b:Sm) (ha:fc a) (hb:fc b):an Tryz.prog G0 145 [.d (xW a),.d (xW b)] [] 0 (.d (xW (a6 a b))) []:=by
 unfold fc at ha hb;refine vF ab [0,1,2,3,4,5,6,17,18,47] Tryz.func145 rfl Tryz.results145 Tryz.ntmps145 ?_;(refine' zg)
 refine vL (lv:=[0,1,2,3,4,5,6,17,18,47]) ab (yO a b) (fun i=>i≤3) (fun i=>3 - i) (0) ((aC.go [2,3,4,5,17] (by exact vS) rfl)) ?_ ?_
 ·exact Nat.zero_le _
 intro i hi;have h4:i=0∨i=1∨i=2∨i=3:=by omega
 rcases h4 with rfl|rfl|rfl|rfl
 ·(refine' zg)
  refine aG.go (1) [2,3,4,5,17] (by exact vS) ?_ ?_;all_goals omega
 ·(refine' zg)
  refine aG.go (2) [2,3,4,5,17] (by exact vS) ?_ ?_;all_goals omega
 ·(refine' zg)
  refine aG.go (3) [2,3,4,5,17] (by exact vS) ?_ ?_;all_goals omega
 ·(refine' zo)
  ·refine jR.lo [(0,.cell [iv a.n,iv a.d0,iv a.d1,iv a.d2,iv a.mx,iv a.pos]),(1,.cell [iv b.n,iv b.d0,iv b.d1,iv b.d2,iv b.mx,iv b.pos])] (by decide +kernel) (by decide +kernel) (ap.cons rfl (ap.cons rfl ap.nil)) ?_;simp only [xB,CC];(repeat' (first|with_reducible refine ae.out ?_|(with_reducible refine xS.of (ap.cons rfl (ap.cons rfl ap.nil)) ?_)|(refine' zq)|fail))
   simp only [xW,a6,if_pos h]
  ·simp only [xW,a6,if_neg h]
def Vj (s:Sm):bF:= .cell [iv s.n,iv s.d0,iv s.d1,iv s.d2,iv s.mx,iv s.pos]
def OH (l:List It) (b:Bool) (i:Nat):St:=⟨[(2,.po 0 0),(3,.po 1 0),(6,.d (.sd 7 b (l.map jl))),(7,iv l.length),(8,iv i)],[(0,Vj Sm.zero),(1,Vj (ay (l.take i)))],2⟩
attribute [push_cast] OH.eq_def Vj.eq_def
theorem K7:Sm.zero.n=0:=rfl
theorem ES:Sm.zero.d0=0:=rfl
theorem ET:Sm.zero.d1=0:=rfl
theorem EU:Sm.zero.d2=0:=rfl
theorem EV:Sm.zero.mx=0:=rfl
theorem BB:Sm.zero.pos=0:=rfl
attribute [push_cast] K7 ES ET EU EV BB
theorem dP {α:Type} {l:List α} {i:Nat} {x:α} (h:l[i]? = some x):l.take (i+1)=l.take i++[x]:=by
 rw [List.take_add_one,h];rfl
set_option maxHeartbeats 1600000 in
theorem Ow (l:List It) (hl:l.length≤1000000) (hi : ∀i∈l,bZ i) (b:Bool):an Tryz.prog G0 172 [.d (.sd 7 b (l.map jl))] [] 0 (.d (xW (ay l))) []:=by
 refine vF ab [0,2,3,5,6,7,8,9] Tryz.func172 rfl Tryz.results172 Tryz.ntmps172 ?_;(refine' zg)
 refine vL (lv:=[0,2,3,5,6,7,8,9]) ab (OH l b) (fun i=>i≤l.length) (fun i=>l.length - i) (0) ((aC.go [2,3,6,7,8] (by exact vS) rfl)) ?_ ?_
 ·exact Nat.zero_le _
 intro i hle;(refine' zo)
 ·refine aI.intro fun x hx =>?_
  have hok:bZ x:=hi x (List.mem_of_getElem? hx);have hs:fc (ay (l.take i)):=gA _ (fun y hy=>hi y (List.mem_of_mem_take hy)) (by simp;omega);(refine' tJ (HQ x) (qn (ay (l.take i)) (jo x) hs (rR hok)))
  refine aG.go (i+1) [2,3,6,7,8] (by (try simp only [OH]);rw [dP hx,ip];exact vS) ?_ ?_;all_goals omega
 ·rw [List.take_of_length_le (by omega)]
def Q9 (x:It):Nat→St
 | 0=>⟨[(3,bv true),(10,.d (.agg [.lit (.int .i64 x.d0),.lit (.int .i64 x.d1),.lit (.int .i64 x.d2)])),(11,iv 0)],[],0⟩
 | 1=>⟨[(3,bv true),(10,.d (.agg [.lit (.int .i64 x.d0),.lit (.int .i64 x.d1),.lit (.int .i64 x.d2)])),(11,iv 1)],[],0⟩
 | 2=>⟨[(3,bv true),(10,.d (.agg [.lit (.int .i64 x.d0),.lit (.int .i64 x.d1),.lit (.int .i64 x.d2)])),(11,iv 2)],[],0⟩
 | _=>⟨[(3,bv true),(10,.d (.agg [.lit (.int .i64 x.d0),.lit (.int .i64 x.d1),.lit (.int .i64 x.d2)])),(11,iv 3)],[],0⟩
theorem Ra (x:It):Q9 x 3=⟨[(3,bv true),(10,.d (.agg [.lit (.int .i64 x.d0),.lit (.int .i64 x.d1),.lit (.int .i64 x.d2)])),(11,iv 3)],[],0⟩:=rfl
attribute [push_cast] Q9.eq_1 Q9.eq_2 Q9.eq_3 Ra
theorem i9 {n:Int} (h1:0≤n) (h2:n≤1099511627776):an Tryz.prog G0 169 [iv n] [] 0 (bv true) []:=by
 have:=Hy n;rwa [decide_eq_true h1,decide_eq_true h2] at this
set_option maxHeartbeats 1600000 in
theorem HL (x:It) (hx:bZ x):an Tryz.prog G0 114 [.d (jl x)] [] 0 (iv 0) []:=by
 unfold bZ at hx;obtain ⟨h1,h2,h3,h4,h5,h6,h7,h8⟩:=hx;refine vF ab [0,1,2,3,5,10,11,12,21] Tryz.func114 rfl Tryz.results114 Tryz.ntmps114 ?_;(refine' fj (i9 h7 h8))
 refine vL (lv:=[0,1,2,3,5,10,11,12,21]) ab (Q9 x) (fun i=>i≤3) (fun i=>3 - i) (0) ((aC.go [3,10,11] (by exact vS) rfl)) ?_ ?_
 ·exact Nat.zero_le _
 intro i hi;have h9:i=0∨i=1∨i=2∨i=3:=by omega
 rcases h9 with rfl|rfl|rfl|rfl
 ·(refine' fj (i9 h1 h2))
  refine aG.go (1) [3,10,11] (by exact vS) ?_ ?_;all_goals omega
 ·(refine' fj (i9 h3 h4))
  refine aG.go (2) [3,10,11] (by exact vS) ?_ ?_;all_goals omega
 ·(refine' fj (i9 h5 h6))
  refine aG.go (3) [3,10,11] (by exact vS) ?_ ?_;all_goals omega
 ·(refine' zo)
end Go.Proofs.YtkkanlcjjpoklaaGreatDoor
set_option linter.unusedSimpArgs false
set_option linter.unusedVariables false
set_option maxRecDepth 8000
set_option linter.defProp false
namespace Go.Proofs.YtkkanlcjjpoklaaGreatDoor
def pJ (s:Sm):List D:=[.lit (.int .i64 s.n),.lit (.int .i64 s.d0),.lit (.int .i64 s.d1),.lit (.int .i64 s.d2),.lit (.int .i64 s.mx),.lit (.int .i64 s.pos)]
def oT (l:List It):D:= .pd 7 [.agg (.sd 7 false (l.map jl)::pJ (ay l))] 0 0
def gI (h:Nat) (ks:List D) (s:Sm):D:= .pd 8 [.agg (.sd 1 false ks :: .lit (.int .i64 h)::pJ s)] 0 0
mutual
def bM:T→D
 | .leaf l=> .ifc 240 (oT l)
 | .inner h ks=> .ifc 275 (gI h (rO ks) (ay (T.itemsL ks)))
def rO:List T→List D
 | []=>[]
 | k::r=>bM k::rO r
end
theorem rP : ∀ks:List T,rO ks=ks.map bM
 | []=>by rw [rO];rfl
 | k::r=>by rw [rO,rP r];rfl
theorem db (l:List It):bM (.leaf l) = .ifc 240 (oT l):=by rw [bM]
theorem da (h:Nat) (ks:List T):bM (.inner h ks) = .ifc 275 (gI h (ks.map bM) (ay (T.itemsL ks))):=by rw [bM,rP]
def cN:Option T→D
 | none=> .lit .nilIface
 | some t=>bM t
theorem Ag (t:T):(bM t).cells=[bM t]:=by
 cases t with
 | leaf l=>rw [db];rfl
 | inner h ks=>rw [da];rfl
def CJ (t:T):=(D.cells.eq_def (bM t)).symm.trans (Ag t)
attribute [push_cast] CJ
attribute [push_cast] db da oT.eq_def gI.eq_def pJ.eq_def T.items.eq_1 T.items.eq_2 T.ht.eq_1 T.ht.eq_2
set_option maxHeartbeats 1600000 in
theorem nc (t:T):an Tryz.prog G0 146 [.d (bM t)] [] 0 (.d (xW (ay t.items))) []:=by
 cases t with
 | leaf l=>
  refine vF ab [0,2,3,4,5,7,8,14,15] Tryz.func146 rfl Tryz.results146 Tryz.ntmps146 ?_;(refine' zo)
 | inner h ks=>
  refine vF ab [0,2,3,4,5,7,8,14,15] Tryz.func146 rfl Tryz.results146 Tryz.ntmps146 ?_;(refine' zo)
theorem bH (t:T):an Tryz.prog G0 229 [.d (bM t)] [] 0 (iv t.ht) []:=by
 cases t with
 | leaf l=>
  refine vF ab [0,2,4,5,7,8,10,11] Tryz.func229 rfl Tryz.results229 Tryz.ntmps229 ?_;(refine' zo)
 | inner h ks=>
  refine vF ab [0,2,4,5,7,8,10,11] Tryz.func229 rfl Tryz.results229 Tryz.ntmps229 ?_;(refine' zo)
theorem hY (l:List It) (hl:l.length≤1000000) (hi : ∀i∈l,bZ i):an Tryz.prog G0 116 [.d (.sd 7 false (l.map jl))] [] 0 (.d (oT l)) []:=by
 refine vF ab [0,2] Tryz.func116 rfl Tryz.results116 Tryz.ntmps116 ?_;(refine' fj (Ow l hl hi false))
 refine ae.frz 20 (ae.out ?_);(repeat (first|(with_reducible first|exact True.intro|refine vD ?_|refine vG ?_|refine vE ?_)|refine vR ?_))
def U1 (ks:List T) (h:Nat) (i:Nat):St:=⟨[(3,.po 0 0),(14,.d (.sd 1 false (ks.map bM))),(15,iv ks.length),(16,iv i)],
 [(0,.cell [.d (.sd 1 false (ks.map bM)),iv h,iv (ay (T.itemsL (ks.take i))).n,iv (ay (T.itemsL (ks.take i))).d0,iv (ay (T.itemsL (ks.take i))).d1,iv (ay (T.itemsL (ks.take i))).d2,iv (ay (T.itemsL (ks.take i))).mx,iv (ay (T.itemsL (ks.take i))).pos])],1⟩
attribute [push_cast] U1.eq_def
theorem na:ay []=Sm.zero:=rfl
attribute [push_cast] na
theorem jG {ks:List T} {i:Nat} {k:T} (h:ks[i]? = some k):T.itemsL (ks.take (i+1))=T.itemsL (ks.take i)++k.items:=by
 rw [dP h,T.itemsL_app];simp only [T.itemsL,List.append_nil]
theorem oS {ks:List T} (i:Nat) : ∃r,T.itemsL ks=T.itemsL (ks.take i)++r:=⟨T.itemsL (ks.drop i),by rw [←T.itemsL_app,List.take_append_drop]⟩
theorem rC {ks:List T} {i:Nat} {k:T} (h:ks[i]? = some k) : ∃a b,T.itemsL ks=a++k.items++b:=by
 obtain ⟨r,hr⟩:=oS (ks:=ks) (i+1);exact ⟨_,r,by rw [hr,jG h]⟩
set_option maxHeartbeats 1600000 in
theorem fX (ks:List T) (h:Nat) (hh:h≤1000000) (h0:0<ks.length) (hn:ks.length≤100) (hk : ∀k∈ks,k.ht=h) (hl:(T.itemsL ks).length≤1000000) (hi : ∀i∈T.itemsL ks,bZ i) :
 an Tryz.prog G0 171 [.d (.sd 1 false (ks.map bM))] [] 0 (.d (gI (h+1) (ks.map bM) (ay (T.itemsL ks)))) []:=by
 refine vF ab [0,2,3,5,14,15,16,17] Tryz.func171 rfl Tryz.results171 Tryz.ntmps171 ?_;(refine' zg)
 refine aI.intro fun k0 hk0 =>?_
 obtain rfl:k0.ht=h:=hk _ (List.mem_of_getElem? hk0);(refine' fj (bH k0))
 refine vL (lv:=[0,2,3,5,14,15,16,17]) ab (U1 ks (k0.ht+1)) (fun i=>i≤ks.length) (fun i=>ks.length - i) (0) ((aC.go [3,14,15,16] (by exact vS) rfl)) ?_ ?_
 ·exact Nat.zero_le _
 intro i hle;(refine' zg)
 ·refine aI.intro fun k hk =>?_
  obtain ⟨a,b,e⟩:=rC hk;obtain ⟨r,er⟩:=oS (ks:=ks) i;have s1:fc (ay (T.itemsL (ks.take i))):=gA _ (fun y hy=>hi y (by rw [er];simp [hy])) (by have:=congrArg List.length er;simp at this;omega);have s2:fc (ay k.items):=gA _ (fun y hy=>hi y (by rw [e];simp [hy])) (by have:=congrArg List.length e;simp at this;omega);(refine' BC (nc k) (qn (ay (T.itemsL (ks.take i))) (ay k.items) s1 s2))
  refine aG.go (i+1) [3,14,15,16] (by (try simp only [U1]);rw [jG hk,j4];exact vS) ?_ ?_;all_goals omega
 ·refine ae.frz 0 (ae.out ?_);(repeat (first|(with_reducible first|exact True.intro|refine vD ?_|refine vG ?_|refine vE ?_)|refine vR ?_))
  rw [List.take_of_length_le (by omega)]
end Go.Proofs.YtkkanlcjjpoklaaGreatDoor
set_option linter.unusedSimpArgs false
set_option linter.unusedVariables false
set_option maxRecDepth 8000
namespace Go.Proofs.YtkkanlcjjpoklaaGreatDoor
theorem KK {α β:Type} (f:α→β) (l:List α) (i:Nat):(l.map f).take i=(l.take i).map f:=by simp
theorem IB {α β:Type} (f:α→β) (l:List α) (i:Nat):(l.map f).drop i=(l.drop i).map f:=by simp
attribute [push_cast] KK IB
theorem zA {n m:Nat} (hn:n≤1000000000) (hm:m=n / 2):IntKind.i64.wrap ((n:Int).tdiv 2)=(m:Int):=by
 have e:(n:Int).tdiv 2=((n / 2:Nat):Int):=rfl;rw [e,←hm];exact QS _ (by omega) (by omega)
set_option maxHeartbeats 1600000 in
theorem Hg (l:List It) (hl:l.length≤1000000) (hi : ∀i∈l,bZ i):an Tryz.prog G0 232 [.d (.sd 7 false (l.map jl))] [] 0 (.d (.sd 1 false ((i6 l).map bM))) []:=by
 obtain ⟨m,hm⟩ : ∃m,m=l.length / 2:=⟨_,rfl⟩
 have hmid:=zA (by omega) hm;refine vF ab [0,2,3,6] Tryz.func232 rfl Tryz.results232 Tryz.ntmps232 ?_;(repeat' (first|(simp -implicitDefEqProofs -dsimp only [hmid])|with_reducible refine vQ (hY l hl hi) ?_|with_reducible refine vC (hY l hl hi) ?_|with_reducible refine vQ (hY (l.take m) (by simp;omega) (fun i h=>hi i (List.mem_of_mem_take h))) ?_|with_reducible refine vQ (hY (l.drop m) (by simp;omega) (fun i h=>hi i (List.mem_of_mem_drop h))) ?_|(refine' zq)|fail))
 ·refine ae.frz 28 (ae.out ?_);(repeat (first|(with_reducible first|exact True.intro|refine vD ?_|refine vG ?_|refine vE ?_)|refine vR ?_))
  rw [i6,if_pos (by omega),List.map_cons,List.map_nil,db];simp only [oT,pJ,push_cast];done
 ·refine ae.frz 76 (ae.out ?_);(repeat (first|(with_reducible first|exact True.intro|refine vD ?_|refine vG ?_|refine vE ?_)|refine vR ?_))
  rw [i6,if_neg (by omega),←hm,List.map_cons,List.map_cons,List.map_nil,db,db];simp only [oT,pJ];done
theorem ft {ks:List T} {g:Nat} (h0:0<ks.length) (hk : ∀k∈ks,k.ht=g):bM (fY ks) = .ifc 275 (gI (g+1) (ks.map bM) (ay (T.itemsL ks))):=by
 match ks,h0,hk with
 | k::r,h0,hk=>
  unfold fY;rw [da];simp only;rw [hk k (by simp)]
set_option maxHeartbeats 1600000 in
theorem sr (ks:List T) (g:Nat) (hh:g≤1000000) (h0:0<ks.length) (hn:ks.length≤100) (hk : ∀k∈ks,k.ht=g) (hl:(T.itemsL ks).length≤1000000) (hi : ∀i∈T.itemsL ks,bZ i) :
 an Tryz.prog G0 230 [.d (.sd 1 false (ks.map bM))] [] 0 (.d (.sd 1 false ((gb ks).map bM))) []:=by
 obtain ⟨m,hm⟩ : ∃m,m=ks.length / 2:=⟨_,rfl⟩
 have hmid:=zA (by omega) hm;have e:=T.itemsL_app (ks.take m) (ks.drop m);rw [List.take_append_drop] at e;have el:=congrArg List.length e;rw [List.length_append] at el;refine vF ab [0,2,3,6] Tryz.func230 rfl Tryz.results230 Tryz.ntmps230 ?_;(repeat' (first|(simp -implicitDefEqProofs -dsimp only [hmid])|with_reducible refine vQ (fX ks g hh h0 hn hk hl hi) ?_|with_reducible refine vC (fX ks g hh h0 hn hk hl hi) ?_|with_reducible refine vQ (fX (ks.take m) g hh (by simp;omega) (by simp;omega) (fun k q=>hk k (List.mem_of_mem_take q)) (by omega) (fun i q=>hi i (by rw [e];simp [q]))) ?_|with_reducible refine vQ (fX (ks.drop m) g hh (by simp;omega) (by simp;omega) (fun k q=>hk k (List.mem_of_mem_drop q)) (by omega) (fun i q=>hi i (by rw [e];simp [q]))) ?_|(refine' zq)|fail))
 ·refine ae.frz 28 (ae.out ?_);(repeat (first|(with_reducible first|exact True.intro|refine vD ?_|refine vG ?_|refine vE ?_)|refine vR ?_))
  rw [gb,if_pos (by omega),List.map_cons,List.map_nil,ft h0 hk];simp only [gI,pJ,push_cast];done
 ·refine ae.frz 76 (ae.out ?_);(repeat (first|(with_reducible first|exact True.intro|refine vD ?_|refine vG ?_|refine vE ?_)|refine vR ?_))
  rw [gb,if_neg (by omega),←hm,List.map_cons,List.map_cons,List.map_nil,ft (ks:=ks.take m) (g:=g) (by simp;omega) (fun k q=>hk k (List.mem_of_mem_take q)),ft (ks:=ks.drop m) (g:=g) (by simp;omega) (fun k q=>hk k (List.mem_of_mem_drop q))];simp only [gI,pJ,push_cast];done
set_option maxHeartbeats 1600000 in
theorem C3 (a b:List T) (ha:a.length≤100) (hb:b.length≤100):an Tryz.prog G0 231 [.d (.sd 1 false (a.map bM)),.d (.sd 1 false (b.map bM))] [] 0 (.d (.sd 1 false ((a++b).map bM))) []:=by
 refine vF ab [0,1,4,5] Tryz.func231 rfl Tryz.results231 Tryz.ntmps231 ?_;(refine' zg)
 refine ae.frz 56 (ae.out ?_);(repeat (first|(with_reducible first|exact True.intro|refine vD ?_|refine vG ?_|refine vE ?_)|refine vR ?_))
 simp
theorem Mx {α β:Type} (f:α→β) (a b:List α):a.map f++b.map f=(a++b).map f:=by simp
attribute [push_cast] Mx List.replicate_zero List.nil_append
structure La (n:Nat) (a b:T):Prop where
 wa:a.wf
 wb:b.wf
 sum:a.ht+b.ht≤n
 len:a.items.length+b.items.length≤1000000
 ia : ∀i∈a.items,bZ i
 ib : ∀i∈b.items,bZ i
 small:n≤1000000
abbrev e7 (n:Nat) (a b:T):Prop:=an Tryz.prog G0 170 [.d (bM a),.d (bM b)] [] 0 (.d (.sd 1 false ((c9 n a b).map bM))) []
set_option maxHeartbeats 1600000 in
theorem Gv (n h:Nat) (ks:List T) (b:T) (w:La (n+1) (.inner h ks) b) (hlt:b.ht<h) (ih : ∀a b,La n a b→e7 n a b):e7 (n+1) (.inner h ks) b:=by
 have wa:=w.wa;simp only [T.wf] at wa;obtain ⟨k0,k1,k2,kw⟩:=wa;have wn:=w.sum;have ws:=w.small;have wl:=w.len;have wi:=w.ia;simp only [T.ht_inner] at wn;simp only [T.items] at wl wi;obtain ⟨m,hm⟩ : ∃m,m+1=ks.length:=⟨ks.length - 1,by omega⟩
 have hlast:(ks.length:Int) - 1=(m:Int):=by omega
 have e:ks.getLast? = ks[m]? :=by rw [List.getLast?_eq_getElem?,←hm];rfl
 have ed:ks.dropLast=ks.take m:=by rw [List.dropLast_eq_take,←hm];rfl
 obtain ⟨k,hk⟩ : ∃k,ks[m]? = some k:=⟨_,List.getElem?_eq_getElem (by omega)⟩
 have hks:ks=ks.take m++[k]:=by rw [←dP hk,List.take_of_length_le (by omega)]
 have ei:T.itemsL ks=T.itemsL (ks.take m)++k.items:=by rw [←jG hk,List.take_of_length_le (by omega)]
 have el:=congrArg List.length ei;rw [List.length_append] at el;have hkk:=T.wfL_mem kw k (List.mem_of_getElem? hk);have t2:La n k b:=⟨hkk.2,w.wb,by omega,by omega,fun i q=>wi i (by rw [ei];simp [q]),w.ib,by omega⟩
 have mo:=mG n k b hkk.2 w.wb (by omega);have hx:max k.ht b.ht=h - 1:=by omega
 rw [hx] at mo;have em:c9 (n+1) (.inner h ks) b=gb (ks.take m++c9 n k b):=by
  conv=>lhs;unfold c9
  rw [if_pos (by simpa only [T.ht_inner] using hlt)];simp only [e,ed,hk]
 unfold e7;rw [em];have r1:=C3 (ks.take m) (c9 n k b) (by simp;omega) (by have:=mo.two;omega);have r2:=sr (ks.take m++c9 n k b) (h - 1) (by omega) (by have:=mo.pos;simp;omega) (by have:=mo.two;simp;omega) (fun x q=>by
  rcases List.mem_append.1 q with q|q
  ·exact (T.wfL_mem kw x (List.mem_of_mem_take q)).1
  ·exact (T.wfL_mem mo.wf x q).1) (by rw [T.itemsL_app,mo.items];simp;omega) (fun i q=>by
  rw [T.itemsL_app,mo.items] at q;simp only [List.mem_append] at q;rcases q with q|q|q
  ·exact wi i (by rw [ei];simp [q])
  ·exact wi i (by rw [ei];simp [q])
  ·exact w.ib i q)
 have hA:=bH (.inner h ks);simp only [da,gI,pJ,T.ht_inner] at hA;refine vF ab [0,1,4,5,6,7,8,9,10,11,12,13,18,47,73] Tryz.func170 rfl Tryz.results170 Tryz.ntmps170 ?_;(repeat' (first|(simp -implicitDefEqProofs -dsimp only [hlast])|with_reducible refine ae.out ?_|with_reducible refine vQ (hA) ?_|with_reducible refine vQ (bH b) ?_|with_reducible refine vC (hA) ?_|with_reducible refine vC (bH b) ?_|with_reducible refine vQ (ih k b t2) ?_|with_reducible refine vQ (r1) ?_|with_reducible refine vQ (r2) ?_|(with_reducible refine aI.is m k rfl hk ?_)|(refine' zq)|fail))
set_option maxHeartbeats 1600000 in
theorem CE (n h:Nat) (ks:List T) (a:T) (w:La (n+1) a (.inner h ks)) (hlt:a.ht<h) (ih : ∀a b,La n a b→e7 n a b):e7 (n+1) a (.inner h ks):=by
 have wb:=w.wb;simp only [T.wf] at wb;obtain ⟨k0,k1,k2,kw⟩:=wb;have wn:=w.sum;have ws:=w.small;have wl:=w.len;have wi:=w.ib;simp only [T.ht_inner] at wn;simp only [T.items] at wl wi;obtain ⟨k,r,hks⟩ : ∃k r,ks=k::r:=by
  cases ks with
  | nil=>simp at k0
  | cons k r=>exact ⟨k,r,rfl⟩
 have hk:ks[0]? = some k:=by rw [hks];rfl
 have hr:ks.drop 1=r:=by rw [hks];rfl
 have hkl:ks.length=r.length+1:=by rw [hks];rfl
 rw [hks] at k0 k1 wl wi kw;simp only [List.length_cons] at k0 k1;simp only [T.itemsL] at wl wi;simp only [List.length_append] at wl;simp only [T.wfL] at kw;have t2:La n a k:=⟨w.wa,kw.2.1,by omega,by omega,w.ia,fun i q=>wi i (by simp [q]),by omega⟩
 have mo:=mG n a k w.wa kw.2.1 (by omega);have hx:max a.ht k.ht=h - 1:=by omega
 rw [hx] at mo;have em:c9 (n+1) a (.inner h ks)=gb (c9 n a k++r):=by
  rw [hks];conv=>lhs;unfold c9
  rw [if_neg (by rw [T.ht_inner];omega),if_pos (by rw [T.ht_inner];omega)]
 unfold e7;rw [em];have r1:=C3 (c9 n a k) r (by have:=mo.two;omega) (by omega);have r2:=sr (c9 n a k++r) (h - 1) (by omega) (by have:=mo.pos;simp;omega) (by have:=mo.two;simp;omega) (fun x q=>by
  rcases List.mem_append.1 q with q|q
  ·exact (T.wfL_mem mo.wf x q).1
  ·exact (T.wfL_mem kw.2.2 x q).1) (by rw [T.itemsL_app,mo.items];simp;omega) (fun i q=>by
  rw [T.itemsL_app,mo.items] at q;simp only [List.mem_append] at q;rcases q with (q|q)|q
  ·exact w.ia i q
  ·exact wi i (by simp [q])
  ·exact wi i (by simp [q]))
 rw [←hr] at r1 r2 ⊢;have hA:=bH (.inner h ks);simp only [da,gI,pJ,T.ht_inner] at hA;refine vF ab [0,1,4,5,6,7,8,9,10,11,12,13,18,47,73] Tryz.func170 rfl Tryz.results170 Tryz.ntmps170 ?_;(repeat' (first|with_reducible refine ae.out ?_|with_reducible refine vQ (hA) ?_|with_reducible refine vQ (bH a) ?_|with_reducible refine vC (hA) ?_|with_reducible refine vC (bH a) ?_|with_reducible refine vQ (ih a k t2) ?_|with_reducible refine vQ (r1) ?_|with_reducible refine vQ (r2) ?_|(with_reducible refine aI.is 0 k rfl hk ?_)|(refine' zq)|fail))
set_option maxHeartbeats 1600000 in
theorem z5 (n:Nat) (x y:List It) (w:La (n+1) (.leaf x) (.leaf y)):e7 (n+1) (.leaf x) (.leaf y):=by
 have wl:=w.len;have wi:=w.ia;have wj:=w.ib;simp only [T.items] at wl wi wj;have em:c9 (n+1) (.leaf x) (.leaf y)=i6 (x++y):=by
  conv=>lhs;unfold c9
  rw [if_neg (by simp [T.ht]),if_neg (by simp [T.ht])]
 unfold e7;rw [em];have r1:=Hg (x++y) (by simp;omega) (fun i q=>by
  rcases List.mem_append.1 q with q|q
  ·exact wi i q
  ·exact wj i q)
 have hA:=bH (.leaf x);have hB:=bH (.leaf y);simp only [db,oT,pJ,T.ht_leaf] at hA hB;refine vF ab [0,1,4,5,6,7,8,9,10,11,12,13,18,47,73] Tryz.func170 rfl Tryz.results170 Tryz.ntmps170 ?_;(refine' tJ hA hB)
 refine au.frz 204 rfl ?_;(refine' kW r1)
 all_goals skip
set_option maxHeartbeats 1600000 in
theorem Gu (n h:Nat) (x y:List T) (w:La (n+1) (.inner h x) (.inner h y)):e7 (n+1) (.inner h x) (.inner h y):=by
 have wa:=w.wa;have wb:=w.wb;simp only [T.wf] at wa wb;have wn:=w.sum;have ws:=w.small;have wl:=w.len;have wi:=w.ia;have wj:=w.ib;simp only [T.ht_inner] at wn;simp only [T.items] at wl wi wj;have em:c9 (n+1) (.inner h x) (.inner h y)=gb (x++y):=by
  conv=>lhs;unfold c9
  rw [if_neg (by simp [T.ht]),if_neg (by simp [T.ht])]
 unfold e7;rw [em];have r1:=C3 x y (by omega) (by omega);have r2:=sr (x++y) (h - 1) (by omega) (by simp;omega) (by simp;omega) (fun k q=>by
  rcases List.mem_append.1 q with q|q
  ·exact (T.wfL_mem wa.2.2.2 k q).1
  ·exact (T.wfL_mem wb.2.2.2 k q).1) (by rw [T.itemsL_app];simp;omega) (fun i q=>by
  rw [T.itemsL_app] at q;rcases List.mem_append.1 q with q|q
  ·exact wi i q
  ·exact wj i q)
 have hA:=bH (.inner h x);have hB:=bH (.inner h y);simp only [da,gI,pJ,T.ht_inner] at hA hB;refine vF ab [0,1,4,5,6,7,8,9,10,11,12,13,18,47,73] Tryz.func170 rfl Tryz.results170 Tryz.ntmps170 ?_;(refine' T3 hA hB r1 r2)
 all_goals skip
theorem Mz : ∀(n:Nat) (a b:T),La n a b→e7 n a b:=by
 intro n;induction n with
 | zero=>intro a b w;have:=T.wf_ht w.wa;have:=w.sum;omega
 | succ n ih=>
  intro a b w;rcases Nat.lt_trichotomy a.ht b.ht with hlt|heq|hgt
  ·obtain ⟨h,ks,rfl⟩:=T.inner_ht (t:=b) (by have:=T.wf_ht w.wa;omega);exact CE n h ks a w hlt ih
  ·rcases Nat.lt_or_ge a.ht 2 with hl|hl
   ·obtain ⟨x,rfl⟩:=T.leaf_ht w.wa (by have:=T.wf_ht w.wa;omega);obtain ⟨y,rfl⟩:=T.leaf_ht w.wb (by have:=T.wf_ht w.wb;omega);exact z5 n x y w
   ·obtain ⟨h,x,rfl⟩:=T.inner_ht (t:=a) hl;obtain ⟨h',y,rfl⟩:=T.inner_ht (t:=b) (by omega);simp only [T.ht_inner] at heq;subst heq;exact Gu n h x y w
  ·obtain ⟨h,ks,rfl⟩:=T.inner_ht (t:=a) (by have:=T.wf_ht w.wb;omega);exact Gv n h ks b w hgt ih
theorem mJ (t:T) : ∃k y,bM t = .ifc k y:=by
 cases t with
 | leaf l=>exact ⟨_,_,db l⟩
 | inner h ks=>exact ⟨_,_,da h ks⟩
structure Q1 (a b:Option T):Prop where
 wa:DA a
 wb:DA b
 len:(ao a).length+(ao b).length≤1000000
 ia : ∀i∈ao a,bZ i
 ib : ∀i∈ao b,bZ i
 small:BJ a+BJ b≤1000000
abbrev kX (a b:Option T):Prop:=an Tryz.prog G0 115 [.d (cN a),.d (cN b)] [] 0 (.d (cN (fZ a b))) []
theorem Gb (b:Option T):kX none b:=by
 unfold kX;simp only [fZ];refine vF ab [0,1,4,5,6,10,19] Tryz.func115 rfl Tryz.results115 Tryz.ntmps115 ?_;(repeat' (first|(simp only [cN])|with_reducible refine ae.out ?_|(refine' zq)|fail))
 all_goals skip
theorem Jo (a:T):kX (some a) none:=by
 unfold kX;simp only [fZ,cN];obtain ⟨k,y,e⟩:=mJ a;rw [e];refine vF ab [0,1,4,5,6,10,19] Tryz.func115 rfl Tryz.results115 Tryz.ntmps115 ?_;(refine' zo)
 all_goals skip
set_option maxHeartbeats 1600000 in
theorem Jp (a b:T) (w:Q1 (some a) (some b)):kX (some a) (some b):=by
 have w2:La (a.ht+b.ht) a b:=⟨w.wa,w.wb,Nat.le_refl _,w.len,w.ia,w.ib,w.small⟩
 have r1:=Mz _ a b w2;have mo:=mG (a.ht+b.ht) a b w.wa w.wb (Nat.le_refl _);unfold kX;simp only [fZ,cN];unfold e7 at r1;generalize c9 (a.ht+b.ht) a b=l at r1 mo;obtain ⟨k,y,e⟩:=mJ a;obtain ⟨k',y',e'⟩:=mJ b;rw [e,e'] at r1 ⊢;have hl:=mo.pos;have hl2:=mo.two;have r2:=fX l (max a.ht b.ht) (by have:=w.small;simp only [BJ] at this;omega) hl (by omega) (fun k q=>(T.wfL_mem mo.wf k q).1) (by rw [mo.items];simp;exact w.len) (by
  rw [mo.items];intro i q;rcases List.mem_append.1 q with q|q
  ·exact w.ia i q
  ·exact w.ib i q)
 refine vF ab [0,1,4,5,6,10,19] Tryz.func115 rfl Tryz.results115 Tryz.ntmps115 ?_;(refine' tJ r1 r2)
 ·obtain ⟨x,rfl⟩:=List.length_eq_one_iff.1 (show l.length=1 by omega);refine aI.is 0 x rfl rfl ?_;(refine' zo)
 ·obtain ⟨x,z,rfl⟩ : ∃x z,l=[x,z]:=by
   match l,hl,hl2,h with
   | [x],_,_,h=>simp at h
   | [x,z],_,_,_=>exact ⟨x,z,rfl⟩
  show _=bM (fY [x,z]);rw [ft hl (fun k q=>(T.wfL_mem mo.wf k q).1)];rfl
theorem Mn (a b:Option T) (w:Q1 a b):kX a b:=by
 cases a with
 | none=>exact Gb b
 | some a=>
  cases b with
  | none=>exact Jo a
  | some b=>exact Jp a b w
theorem Et (t:Option T):cN t = .lit .nilIface ∨ ∃k y,cN t = .ifc k y:=by
 cases t with
 | none=>exact .inl rfl
 | some t=>exact .inr (mJ t)
def aX (t:Option T):D:= .pd 1 [.agg [cN t]] 0 0
theorem OW {α β:Type} {f:α→β} {A:List α} {z:β} {m:Nat} (h:A.length=m):A.map f++(List.replicate m z).drop A.length=A.map f:=by
 rw [List.drop_of_length_le (by simp [h]),List.append_nil]
def ME (l:List It) (i:Nat):St:=⟨[(0,.d (.sd 7 false (l.map jl))),(4,.d (cN (d5 l i))),(12,.d (.sd 7 false (l.map jl))),(13,iv l.length),(14,iv i)],[],0⟩
theorem ru (l:List It) : ∀i,i≤l.length→BJ (d5 l i)≤i+1:=by
 intro i;induction i with
 | zero=>intro _;simp [d5,BJ]
 | succ i ih=>
  intro h;have:=ih (by omega);unfold d5;split
  ·have h1:=(qe l i (by omega)).1;have h2:DA (some (T.leaf ((l.drop i).take 8))):=by simp only [DA,T.wf];simp;omega
   have:=(zM h1 h2).2.2;have h3:BJ (some (T.leaf ((l.drop i).take 8)))=1:=rfl;rw [h3] at this;omega
  ·omega
theorem MR {n r k:Nat} (hn:n≤1000000000) (hk:0<k) (hk2:k≤1000000000) (hr:r=n % k):IntKind.i64.wrap ((n:Int).tmod (k:Int))=(r:Int):=by
 have e:(n:Int).tmod (k:Int)=((n % k:Nat):Int):=rfl;rw [e,←hr];have:=Nat.mod_lt n hk;exact QS _ (by omega) (by omega)
set_option maxHeartbeats 1600000 in
theorem wL (l:List It) (hl:l.length≤30000) (hi : ∀i∈l,bZ i):an Tryz.prog G0 58 [.d (.sd 7 false (l.map jl))] [] 0 (.tup [.d (aX (d5 l l.length)),iv 0]) []:=by
 refine vF ab [0,2,3,4,5,6,7,8,11,12,13,14,15,22,26] Tryz.func58 rfl Tryz.results58 Tryz.ntmps58 ?_;(refine' zo)
 refine vL (lv:=[0,2,3,4,5,6,7,8,11,12,13,14,15,22,26]) ab (ME l) (fun i=>i≤l.length) (fun i=>l.length - i) (0) ((aC.go [0,4,12,13,14] (by exact vS) rfl)) ?_ ?_
 ·exact Nat.zero_le _
 intro i hle;obtain ⟨r,hr⟩ : ∃r,r=i % 8:=⟨_,rfl⟩
 have hrem:=MR (k:=8) (by omega) (by omega) (by omega) hr;simp only [ME];(repeat' (first|(simp -implicitDefEqProofs -dsimp only [hrem])|(refine' zq)|fail))
 ·refine aI.intro fun x hx =>?_
  have hok:bZ x:=hi x (List.mem_of_getElem? hx);have hc:=HL x hok;obtain ⟨m,hm⟩ : ∃m,m=min 8 (l.length - i):=⟨_,rfl⟩
  have hmin:min 8 ((l.length:Int) - i)=(m:Int):=by omega
  obtain ⟨A,hA⟩ : ∃A,A=(l.drop i).take 8:=⟨_,rfl⟩
  have hlen:A.length=m:=by rw [hA,hm];simp
  have hA':(l.drop i).take m=A:=by
   rw [hA,hm];rcases Nat.le_total 8 (l.length - i) with q|q
   ·rw [Nat.min_eq_left q]
   ·rw [Nat.min_eq_right q,List.take_of_length_le (by simp),List.take_of_length_le (by simp;omega)]
  have hAt:A.take m=A:=List.take_of_length_le (by omega);have hAi : ∀y∈A,bZ y:=fun y q=>hi y (List.mem_of_mem_drop (List.mem_of_mem_take (by rw [hA] at q;exact q)))
  (repeat' (first|(simp -implicitDefEqProofs -dsimp only [hrem])|(simp -implicitDefEqProofs -dsimp only [hmin])|(simp -implicitDefEqProofs -dsimp only [hA'])|with_reducible refine vQ (hc) ?_|with_reducible refine vC (hc) ?_|(refine' zq)|fail))
  ·rw [OW (f:=jl) (A:=A) (m:=m) hlen];have e0:(i:Int).tmod 8=((i % 8:Nat):Int):=rfl;have en:d5 l (i+1)=fZ (d5 l i) (some (.leaf A)):=by
    conv=>lhs;unfold d5
    rw [if_pos (by omega),←hA]
   obtain ⟨q1,q2⟩:=qe l i (by omega);have hj:an Tryz.prog G0 115 [.d (cN (d5 l i)),.d (bM (.leaf A))] [] 0 (.d (cN (fZ (d5 l i) (some (.leaf A))))) []:=
    Mn (d5 l i) (some (.leaf A)) ⟨q1,by simp only [DA,T.wf];omega,by rw [q2];simp only [ao,T.items];simp;omega,fun y q=>hi y (List.mem_of_mem_take (by rw [q2] at q;exact q)),fun y q=>hAi y (by simpa only [ao,T.items] using q),by have:=ru l i (by omega);have e9:BJ (some (T.leaf A))=1:=rfl;omega⟩
   simp only [db,oT,pJ] at hj;refine au.frz 80 rfl ?_;(repeat' (first|(simp -implicitDefEqProofs -dsimp only [hmin])|(simp -implicitDefEqProofs -dsimp only [hlen,hAt])|with_reducible refine vC (hY A (by omega) hAi) ?_|with_reducible refine vC (hj) ?_|(refine' zq)|fail))
   refine aG.go (i+1) [0,4,12,13,14] (by (try simp only [ME]);rw [en];exact vS) ?_ ?_;all_goals omega
  ·have e0:(i:Int).tmod 8=((i % 8:Nat):Int):=rfl;rw [e0] at h;have e:d5 l (i+1)=d5 l i:=by
    conv=>lhs;unfold d5
    rw [if_neg (by omega)]
   refine aG.go (i+1) [0,4,12,13,14] (by (try simp only [ME]);rw [e];exact vS) ?_ ?_;all_goals omega
 ·rcases Et (d5 l i) with e|⟨k,y,e⟩
  ·simp only [e];(refine' zg)
   refine ae.frz 12 (ae.out ?_);(repeat (first|(with_reducible first|exact True.intro|refine vD ?_|refine vG ?_|refine vE ?_)|refine vR ?_))
   rw [←show i=l.length by omega,aX,e]
  ·simp only [e];(refine' zg)
   refine ae.frz 12 (ae.out ?_);(repeat (first|(with_reducible first|exact True.intro|refine vD ?_|refine vG ?_|refine vE ?_)|refine vR ?_))
   rw [←show i=l.length by omega,aX,e]
theorem yu (t:Option T):an Tryz.prog G0 141 [.d (aX t)] [] 0 (.d (cN t)) []:=by
 rcases Et t with e|⟨k,y,e⟩
 ·rw [aX,e];refine vF ab [0,2,4] Tryz.func141 rfl Tryz.results141 Tryz.ntmps141 ?_;(refine' zo)
 ·rw [aX,e];refine vF ab [0,2,4] Tryz.func141 rfl Tryz.results141 Tryz.ntmps141 ?_;(refine' zo)
theorem Hq:an Tryz.prog G0 146 [.d (.lit .nilIface)] [] 0 (.d (xW Sm.zero)) []:=by
 refine vF ab [0,2,3,4,5,7,8,14,15] Tryz.func146 rfl Tryz.results146 Tryz.ntmps146 ?_;(refine' zo)
 rfl
theorem Nd (t:Option T):an Tryz.prog G0 146 [.d (cN t)] [] 0 (.d (xW (ay (ao t)))) []:=by
 cases t with
 | none=>exact Hq
 | some t=>exact nc t
theorem ju (t:Option T):an Tryz.prog G0 103 [.d (aX t)] [] 0 (.d (xW (ay (ao t)))) []:=by
 have r1:=yu t;rw [aX] at r1 ⊢;refine vF ab [0,2] Tryz.func103 rfl Tryz.results103 Tryz.ntmps103 ?_;(refine' tJ r1 (Nd t))
theorem Kx (s:Sm):an Tryz.prog G0 143 [.d (xW s),iv 0] [] 0 (iv s.d0) []:=by
 refine vF ab [0,1,2,4,6] Tryz.func143 rfl Tryz.results143 Tryz.ntmps143 ?_;(refine' zo)
theorem Ky (s:Sm):an Tryz.prog G0 143 [.d (xW s),iv 1] [] 0 (iv s.d1) []:=by
 refine vF ab [0,1,2,4,6] Tryz.func143 rfl Tryz.results143 Tryz.ntmps143 ?_;(refine' zo)
theorem KA (s:Sm):an Tryz.prog G0 143 [.d (xW s),iv 2] [] 0 (iv s.d2) []:=by
 refine vF ab [0,1,2,4,6] Tryz.func143 rfl Tryz.results143 Tryz.ntmps143 ?_;(refine' zo)
theorem KB (s:Sm):an Tryz.prog G0 143 [.d (xW s),iv 3] [] 0 (iv s.n) []:=by
 refine vF ab [0,1,2,4,6] Tryz.func143 rfl Tryz.results143 Tryz.ntmps143 ?_;(refine' zo)
theorem mZ (s:Sm) (d:Nat) (hd:d≤3):an Tryz.prog G0 143 [.d (xW s),iv d] [] 0 (iv (nd s d)) []:=by
 have h4:d=0∨d=1∨d=2∨d=3:=by omega
 rcases h4 with rfl|rfl|rfl|rfl
 ·exact Kx s
 ·exact Ky s
 ·exact KA s
 ·exact KB s
abbrev qC (n:Int):D:= .pd 1 [.agg [.lit (.int .i64 n)]] 0 0
theorem AG (e v b:Int):an Tryz.prog G0 144 [iv e,.d (qC v),.d (qC b)] [] 0 (bv (decide (v<e)||(b==0&&e==v))) []:=by
 refine vF ab [0,1,2,4] Tryz.func144 rfl Tryz.results144 Tryz.ntmps144 ?_;(refine' zo)
def T9 (v b:Int):V:= .d (.fn 144 [qC v,qC b])
def z8:bF:= .cell [iv 0,iv 0,iv 0,iv 0,iv 0,iv 0,iv 0,iv 0]
def Ug (s:Sm) (n:Int):bF:= .cell [iv 0,iv s.n,iv s.d0,iv s.d1,iv s.d2,iv s.mx,iv s.pos,iv n]
def UY (d:Nat) (v b:Int) (x:Option T × Sm × Nat):St:=⟨[(1,iv d),(8,.po 0 0),(11,T9 v b),(12,.po 1 0),(13,.d (cN x.1))],[(0,z8),(1,Ug x.2.1 x.2.2)],2⟩
attribute [push_cast] UY.eq_def T9.eq_def z8.eq_def Ug.eq_def cN.eq_1 cN.eq_2
theorem cV {α:Type} {l:List α} {i:Nat} {x:α} (h:l[i]? = some x):l.drop i=x::l.drop (i+1):=by
 obtain ⟨h1,h2⟩:=List.getElem?_eq_some_iff.1 h;rw [←h2];exact List.drop_eq_getElem_cons h1
def XY (d:Nat) (v b:Int) (l:List It) (n:Int) (y:Nat × Sm):St:=⟨[(1,iv d),(8,.po 0 0),(11,T9 v b),(12,.po 1 0),(101,.d (.sd 7 false (l.map jl))),(102,iv l.length),(103,iv y.1)],[(0,z8),(1,Ug y.2 n)],2⟩
def XX (d:Nat) (v b:Int) (ks:List T) (n:Int) (y:Nat × Sm):St:=⟨[(1,iv d),(8,.po 0 0),(11,T9 v b),(12,.po 1 0),(13,.d (.lit .nilIface)),(72,.d (.sd 1 false (ks.map bM))),(73,iv ks.length),(74,iv y.1)],[(0,z8),(1,Ug y.2 n)],2⟩
attribute [push_cast] XY.eq_def XX.eq_def
structure ZO (R:Sm→Bool) (fin:Sm) (l:List It) (y:Nat × Sm):Prop where
 ok:fc y.2
 le:y.1≤l.length
 len:y.2.n+(l.drop y.1).length≤1000000
 fin:kJ R y.2 (l.drop y.1)=fin
structure ZN (R:Sm→Bool) (vis:Nat) (fin:Sm × Nat) (ks:List T) (y:Nat × Sm):Prop where
 ok:fc y.2
 le:y.1≤ks.length
 len:y.2.n+(T.itemsL (ks.drop y.1)).length≤1000000
 fst:(gX R (ks.drop y.1) y.2).1=fin.1
 vis:vis+(gX R (ks.drop y.1) y.2).2=fin.2
def ZU (R:Sm→Bool) (x:Option T × Sm × Nat):Nat:=match x.1 with|none=>0|some t=>(gW R t x.2.1).2
theorem v7 {d:Nat} {v b:Int} {s:Sm} (h:v<nd s d∨b=0∧nd s d=v):bm d v b s=true:=by
 simp only [bm,Bool.or_eq_true,Bool.and_eq_true,decide_eq_true_eq,beq_iff_eq];exact h
theorem AH {d:Nat} {v b:Int} {s:Sm} (h : ¬(v<nd s d∨b=0∧nd s d=v)) : ¬bm d v b s=true:=by
 simp only [bm,Bool.or_eq_true,Bool.and_eq_true,decide_eq_true_eq,beq_iff_eq];exact h
structure ZM (R:Sm→Bool) (fin:Sm × Nat) (x:Option T × Sm × Nat):Prop where
 ok:fc x.2.1
 sub : ∀t,x.1=some t→t.wf∧x.2.1.n+t.items.length≤1000000∧(∀i∈t.items,bZ i)∧(gW R t x.2.1).1=fin.1∧x.2.2+(gW R t x.2.1).2=fin.2
 non:x.1=none→x.2.1=fin.1∧x.2.2=fin.2
set_option maxHeartbeats 1600000 in
theorem E0 (t:T) (d:Nat) (hd:d≤3) (v b:Int) (hw:t.wf) (hh:t.ht≤1000000) (hn:t.items.length≤1000000) (hi : ∀i∈t.items,bZ i) (hv0:0≤v) (hv:v≤nd (ay t.items) d) (hb:b=0∨b=1)
 (fin:Sm × Nat) (hfin:fin=gW (bm d v b) t Sm.zero) :
 an Tryz.prog G0 88 [.d (aX (some t)),iv d,iv v,iv b] [] 0 (.tup [.d (.agg [.lit (.int .i64 fin.1.n),.lit (.int .i64 fin.1.n),.lit (.int .i64 fin.1.d0),.lit (.int .i64 fin.1.d1),.lit (.int .i64 fin.1.d2),.lit (.int .i64 fin.1.mx),.lit (.int .i64 fin.1.pos),.lit (.int .i64 fin.2)]),iv 0]) []:=by
 have r1:=ju (some t);have r2:=yu (some t);have r3:=mZ (ay t.items) d hd;simp only [ao] at r1;rw [aX] at r1 r2 ⊢;simp only [cN] at r1 r2 ⊢;refine vF ab [0,1,2,3,6,7,8,9,10,11,12,13,14,15,17,18,19,20,22,23,50,57,68,72,73,74,75,87,97,101,102,103,104,116] Tryz.func88 rfl Tryz.results88 Tryz.ntmps88 ?_;(refine' TZ r1 r2 r3)
 refine vL (lv:=[0,1,2,3,6,7,8,9,10,11,12,13,14,15,17,18,19,20,22,23,50,57,68,72,73,74,75,87,97,101,102,103,104,116]) ab (UY d v b) (ZM (bm d v b) fin) (ZU (bm d v b)) ((some t,Sm.zero,0)) (aC.frz 0<|aC.frz 4<|(aC.go [1,8,11,12,13] (by exact vT) rfl)) ?_ ?_
 ·refine ⟨EW,fun t' e =>?_,fun e=>by cases e⟩;injection e with e;subst e;exact ⟨hw,by simp [Sm.zero];omega,hi,by rw [hfin],by simp only [hfin];omega⟩
 rintro ⟨ot,s,vis⟩ ⟨p1,p2,p3⟩;simp only at p1 p2 p3;have v1:=jy (R:=bm d v b) t Sm.zero hw;rw [←hfin] at v1;cases ot with
 | none=>
  obtain ⟨rfl,rfl⟩:=p3 rfl;(refine' zo)
 | some n=>
  obtain ⟨q1,q2,q3,q4,q5⟩:=p2 n rfl;have v2:=jy (R:=bm d v b) n s q1;cases n with
  | leaf l=>
   simp only [T.items] at q2 q3;simp only [gW] at q4 q5;simp only [T.wf] at q1;(refine' zo)
   refine vL (lv:=[0,1,2,3,6,7,8,9,10,11,12,13,14,15,17,18,19,20,22,23,50,57,68,72,73,74,75,87,97,101,102,103,104,116]) ab (XY d v b l (vis+1)) (ZO (bm d v b) fin.1 l) (fun y=>l.length - y.1) ((0,s)) ((aC.go [1,8,11,12,101,102,103] (by exact vT) rfl)) ?_ ?_
   ·exact ⟨p1,by simp,by simpa using q2,by simpa using q4⟩
   rintro ⟨j,z⟩ ⟨u1,u2,u3,u4⟩;simp only at u1 u2 u3 u4;have hvis:((vis:Int)+1)=(fin.2:Int):=by omega
   (refine' zo)
   ·refine aI.intro fun x hx =>?_
    have hok:bZ x:=q3 x (List.mem_of_getElem? hx);have hdr:=cV hx;rw [hdr,kJ] at u4;have a1:=qn z (jo x) u1 (rR hok);have a2:=wQ u1 (rR hok) (by rw [hdr] at u3;simp only [jo];simp only [List.length_cons] at u3;omega);(refine' T3 (HQ x) a1 (mZ (a6 z (jo x)) d hd) (AG (nd (a6 z (jo x)) d) v b))
    ·rw [if_pos (v7 h)] at u4;rw [←u4,←hvis]
    ·rw [if_neg (AH h)] at u4;refine aG.go ((j+1,a6 z (jo x))) [1,8,11,12,101,102,103] (by exact vT) ?_ ?_
     ·show l.length - (j+1)<l.length - j;omega
     ·rw [hdr] at u3;exact ⟨a2,by simp only;omega,by simp only [List.length_cons] at u3;simp only [a6,jo];omega,u4⟩
   ·rw [List.drop_of_length_le (by omega),kJ] at u4;rw [←u4,←hvis]
  | inner g ks=>
   simp only [T.items] at q2 q3;simp only [gW] at q4 q5;simp only [T.wf] at q1;(refine' zo)
   refine vL (lv:=[0,1,2,3,6,7,8,9,10,11,12,13,14,15,17,18,19,20,22,23,50,57,68,72,73,74,75,87,97,101,102,103,104,116]) ab (XX d v b ks (vis+1)) (ZN (bm d v b) (vis+1) fin ks) (fun y=>ks.length - y.1) ((0,s)) ((aC.go [1,8,11,12,13,72,73,74] (by exact vT) rfl)) ?_ ?_
   ·exact ⟨p1,by simp,by simpa using q2,by simpa using q4,by simpa [Nat.add_assoc,Nat.add_comm 1] using q5⟩
   rintro ⟨j,z⟩ ⟨u1,u2,u3,u4,u5⟩;simp only at u1 u2 u3 u4 u5;(refine' zo)
   ·refine aI.intro fun k hk =>?_
    have hdr:=cV hk;rw [hdr] at u3 u4 u5;rw [gX] at u4 u5;simp only [T.itemsL,List.length_append] at u3;have hkw:=T.wfL_mem q1.2.2.2 k (List.mem_of_getElem? hk);have hki : ∀i∈k.items,bZ i:=fun i q=>by
     obtain ⟨a,b,e⟩:=rC hk;exact q3 i (by rw [e];simp [q])
    have o1:fc (ay k.items):=gA _ hki (by have:=u1.1;omega);have a1:=qn z (ay k.items) u1 o1;have a2:=wQ u1 o1 (by rw [fe];omega);(refine' T3 (nc k) a1 (mZ (a6 z (ay k.items)) d hd) (AG (nd (a6 z (ay k.items)) d) v b))
    ·rw [if_pos (v7 h)] at u4 u5;have v3:=jy (R:=bm d v b) k z hkw.2;refine aG.go ((some k,z,vis+1)) [1,8,11,12,13] (by exact vT) ?_ ?_
     ·show (gW (bm d v b) k z).2<(gW (bm d v b) (.inner g ks) s).2;simp only [gW];omega
     ·exact ⟨u1,fun t' e=>by injection e with e;subst e;exact ⟨hkw.2,by simp only;omega,hki,u4,u5⟩,fun e=>by cases e⟩
    ·rw [if_neg (AH h)] at u4 u5;refine aG.go ((j+1,a6 z (ay k.items))) [1,8,11,12,13,72,73,74] (by exact vT) ?_ ?_
     ·show ks.length - (j+1)<ks.length - j;omega
     ·exact ⟨a2,by simp only;omega,by simp only [a6];rw [fe];omega,u4,u5⟩
   ·rw [List.drop_of_length_le (by omega),gX] at u4 u5;simp only at u4 u5;refine aG.go ((none,z,vis+1)) [1,8,11,12,13] (by exact vT) ?_ ?_
    ·show 0<(gW (bm d v b) (.inner g ks) s).2;simp only [gW];omega
    ·exact ⟨u1,(fun t' e=>by cases e),fun _=>⟨u4,by omega⟩⟩
def z7:bF:= .cell [iv 0,iv 0,iv 0,iv 0,iv 0,iv 0,.d (.lit (.string ⟨#[]⟩))]
def XD (x:T × Nat):St:=⟨[(1,iv x.2),(4,.po 0 0),(6,.d (bM x.1))],[(0,z7)],1⟩
def XC (ks:List T) (y:Nat × Nat):St:=⟨[(1,iv y.2),(4,.po 0 0),(34,.d (.sd 1 false (ks.map bM))),(35,iv ks.length),(36,iv y.1)],[(0,z7)],1⟩
attribute [push_cast] z7.eq_def XD.eq_def XC.eq_def
structure ZI (x:It) (y:T × Nat):Prop where
 wf:y.1.wf
 len:y.1.items.length≤1000000
 get:y.1.items[y.2]? = some x
structure ZH (x:It) (ks:List T) (y:Nat × Nat):Prop where
 le:y.1≤ks.length
 get:(T.itemsL (ks.drop y.1))[y.2]? = some x
set_option maxHeartbeats 1600000 in
theorem Li (t:T) (i:Nat) (x:It) (hw:t.wf) (hn:t.items.length≤1000000) (hx:t.items[i]? = some x) :
 an Tryz.prog G0 89 [.d (aX (some t)),iv i] [] 0 (.tup [.d (jl x),iv 0]) []:=by
 have hlt:=(List.getElem?_eq_some_iff.1 hx).1;have r1:=ju (some t);have r2:=yu (some t);have e0:(ay t.items).n=t.items.length:=fe _;simp only [ao] at r1;rw [aX] at r1 r2 ⊢;simp only [cN] at r1 r2 ⊢;refine vF ab [0,1,4,5,6,7,8,10,11,20,30,34,35,36,37,45] Tryz.func89 rfl Tryz.results89 Tryz.ntmps89 ?_;(refine' BC r1 r2)
 refine vL (lv:=[0,1,4,5,6,7,8,10,11,20,30,34,35,36,37,45]) ab (XD) (ZI x) (fun y=>y.1.ht) ((t,i)) ((aC.go [1,4,6] (by exact vT) rfl)) ?_ ?_
 ·exact ⟨hw,hn,hx⟩
 rintro ⟨n,k⟩ ⟨p1,p2,p3⟩;simp only at p1 p2 p3;have hlk:=(List.getElem?_eq_some_iff.1 p3).1;cases n with
 | leaf l=>
  simp only [T.items] at p2 p3 hlk;(refine' zo)
  refine aI.is k x (by omega) p3 ?_;(refine' zo)
 | inner g ks=>
  simp only [T.items] at p2 p3 hlk;simp only [T.wf] at p1;(refine' zo)
  refine vL (lv:=[0,1,4,5,6,7,8,10,11,20,30,34,35,36,37,45]) ab (XC ks) (ZH x ks) (fun y=>ks.length - y.1) ((0,k)) ((aC.go [1,4,34,35,36] (by exact vT) rfl)) ?_ ?_
  ·exact ⟨by simp,by simpa using p3⟩
  rintro ⟨j,m⟩ ⟨u1,u2⟩;simp only at u1 u2;rcases Nat.lt_or_ge j ks.length with hj|hj
  ·obtain ⟨kid,hk⟩ : ∃kid,ks[j]? = some kid:=⟨_,List.getElem?_eq_getElem hj⟩
   have hdr:=cV hk;rw [hdr] at u2;simp only [T.itemsL] at u2;have hkw:=T.wfL_mem p1.2.2.2 kid (List.mem_of_getElem? hk);have e1:(ay kid.items).n=kid.items.length:=fe _;obtain ⟨a,b,eab⟩:=rC hk;have hln:=congrArg List.length eab;simp only [List.length_append] at hln;have hm:=(List.getElem?_eq_some_iff.1 u2).1;obtain ⟨c,ec⟩ : ∃c,T.itemsL ks=c++(kid.items++T.itemsL (ks.drop (j+1))):=⟨T.itemsL (ks.take j),by rw [←T.itemsL,←hdr,←T.itemsL_app,List.take_append_drop]⟩
   have hlc:=congrArg List.length ec;simp only [List.length_append] at hlc hm;(refine' zg)
   refine aI.is j kid (by omega) hk ?_;(refine' kW (nc kid))
   ·rw [List.getElem?_append_right (by omega)] at u2;refine aG.go ((j+1,m - kid.items.length)) [1,4,34,35,36] (by exact vT) ?_ ?_
    ·show ks.length - (j+1)<ks.length - j;omega
    ·exact ⟨by simp only;omega,u2⟩
   ·rw [List.getElem?_append_left (by omega)] at u2;refine aG.go ((kid,m)) [1,4,6] (by exact vT) ?_ ?_
    ·show kid.ht<(T.inner g ks).ht;rw [hkw.1,T.ht_inner];omega
    ·exact ⟨hkw.2,by simp only;omega,u2⟩
  ·rw [List.drop_of_length_le hj] at u2;simp [T.itemsL] at u2
theorem Ox (t:Option T) (i:Nat) (hi:(ao t).length≤i) (hs:i≤1000000) :
 an Tryz.prog G0 89 [.d (aX t),iv i] [] 0 (.tup [.d (jl ⟨0,0,0,0,0,0,⟨#[]⟩⟩),iv 1]) []:=by
 have r1:=ju t;have e0:(ay (ao t)).n=(ao t).length:=fe _;rw [aX] at r1 ⊢;refine vF ab [0,1,4,5,6,7,8,10,11,20,30,34,35,36,37,45] Tryz.func89 rfl Tryz.results89 Tryz.ntmps89 ?_;(refine' kW r1)
structure Tk (t:Option T):Prop where
 wf:DA t
 ht:BJ t≤1000000
 len:(ao t).length≤30000
 ok : ∀i∈ao t,bZ i
abbrev Mm:It:=⟨0,0,0,0,0,0,⟨#[]⟩⟩
theorem QU (t:Option T) (k:Tk t) (i:Nat) (hs:i≤1000000):an Tryz.prog G0 89 [.d (aX t),iv i] [] 0 (.tup [.d (jl ((ao t).getD i Mm)),iv (if i<(ao t).length then 0 else 1)]) []:=by
 by_cases hi:i<(ao t).length
 ·rw [if_pos hi];have hg:(ao t)[i]? = some ((ao t).getD i Mm):=by simp [List.getD_eq_getElem?_getD,hi]
  cases t with
  | none=>simp [ao] at hi
  | some t=>exact Li t i _ k.wf (by have:=k.len;simp only [ao] at this;omega) hg
 ·rw [if_neg hi];have hg:(ao t).getD i Mm=Mm:=by simp [List.getD_eq_getElem?_getD,hi]
  rw [hg];exact Ox t i (by omega) hs
end Go.Proofs.YtkkanlcjjpoklaaGreatDoor
