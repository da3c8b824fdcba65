/- What the theorem leans on, part 13. -/
import Derived.Test.YtkkanlcjjpoklaaGreatDoorStVPAF
import Derived.Test.YtkkanlcjjpoklaaGreatDoorStVPAL
set_option linter.unusedSimpArgs false
set_option linter.unusedVariables false
set_option maxRecDepth 8000
namespace Go.Proofs.YtkkanlcjjpoklaaGreatDoor
abbrev fQ (i:It):D:= .agg [.lit (.int .i64 i.tag),.lit (.int .i64 i.id),.lit (.int .i64 i.d0),.lit (.int .i64 i.d1),.lit (.int .i64 i.d2),.lit (.int .i64 i.mx),.lit (.string i.text)]
abbrev xH (s:Sm):D:= .agg [.lit (.int .i64 s.n),.lit (.int .i64 s.d0),.lit (.int .i64 s.d1),.lit (.int .i64 s.d2),.lit (.int .i64 s.mx),.lit (.int .i64 s.pos)]
abbrev itL (l:List It):V:= .d (.sd 7 false (l.map fQ))
theorem Jy (n:Int):ap Tryz.prog G0 169 [iv n] [] 0 (bv (decide (0≤n)&&decide (n≤1099511627776))) []:=by
 refine vF ab [0,2] Tryz.func169 rfl Tryz.results169 Tryz.ntmps169 ?_;(refine' zo)
theorem JS (i:It):ap Tryz.prog G0 147 [.d (fQ i)] [] 0 (.d (xH (jW i))) []:=by
 refine vF ab [0,1,2] Tryz.func147 rfl Tryz.results147 Tryz.ntmps147 ?_;(refine' zo)
 rfl
def G3 (a b:Sm) (d0 d1 d2 i:Int):St:=⟨[(2,.po 0 0),(3,.po 1 0),(4,.po 2 0),(5,.po 3 0),(17,iv i)],
 [(0,.cell [iv a.n,iv a.d0,iv a.d1,iv a.d2,iv a.mx,iv a.pos]),(1,.cell [iv b.n,iv b.d0,iv b.d1,iv b.d2,iv b.mx,iv b.pos]),(2,.cell [iv 0,iv 0,iv 0,iv 0,iv 0,iv 0]),
  (3,.cell [iv (a.n+b.n),iv d0,iv d1,iv d2,iv a.mx,iv a.pos])],4⟩
def AK (a b:Sm):Nat→St
 | 0=>G3 a b 0 0 0 0
 | 1=>G3 a b (a.d0+b.d0) 0 0 1
 | 2=>G3 a b (a.d0+b.d0) (a.d1+b.d1) 0 2
 | _=>G3 a b (a.d0+b.d0) (a.d1+b.d1) (a.d2+b.d2) 3
attribute [push_cast] G3.eq_def AK.eq_1 AK.eq_2 AK.eq_3
theorem NI (a b:Sm):AK a b 3=G3 a b (a.d0+b.d0) (a.d1+b.d1) (a.d2+b.d2) 3:=rfl
attribute [push_cast] NI
set_option maxHeartbeats 1600000 in
theorem q9 (a b:Sm) (ha:eU a) (hb:eU b):ap Tryz.prog G0 145 [.d (xH a),.d (xH b)] [] 0 (.d (xH (bd a b))) []:=by
 unfold eU at ha hb;refine vF ab [0,1,2,3,4,5,6,17,18,47] Tryz.func145 rfl Tryz.results145 Tryz.ntmps145 ?_;(refine' zg)
 refine vL (lv:=[0,1,2,3,4,5,6,17,18,47]) ab (AK a b) (fun i=>i≤3) (fun i=>3 - i) (0) ((aC.go [2,3,4,5,17] (by exact vS) rfl)) ?_ ?_
 ·exact aa1 _
 intro i hi;have h4:i=0∨i=1∨i=2∨i=3:=by omega
 rcases h4 with rfl|rfl|rfl|rfl
 ·(refine' zg)
  refine aG.go (1) [2,3,4,5,17] (by exact vS) ?_ ?_;all_goals omega
 ·(refine' zg)
  refine aG.go (2) [2,3,4,5,17] (by exact vS) ?_ ?_;all_goals omega
 ·(refine' zg)
  refine aG.go (3) [2,3,4,5,17] (by exact vS) ?_ ?_;all_goals omega
 ·(refine' zo)
  ·refine kA.lo [(0,.cell [iv a.n,iv a.d0,iv a.d1,iv a.d2,iv a.mx,iv a.pos]),(1,.cell [iv b.n,iv b.d0,iv b.d1,iv b.d2,iv b.mx,iv b.pos])] (by decide +kernel) (by decide +kernel) (ar.cons rfl (ar.cons rfl ar.nil)) ?_;simp only [y8,Et];(repeat' (first|with_reducible refine ae.out ?_|(with_reducible refine zC.of (ar.cons rfl (ar.cons rfl ar.nil)) ?_)|(refine' zq)|fail))
   simp only [xH,bd,aa3 h]
  ·simp only [xH,bd,aaY h]
def Yl (s:Sm):bN:= .cell [iv s.n,iv s.d0,iv s.d1,iv s.d2,iv s.mx,iv s.pos]
def Q7 (l:List It) (b:Bool) (i:Nat):St:=⟨[(2,.po 0 0),(3,.po 1 0),(6,.d (.sd 7 b (l.map fQ))),(7,iv l.length),(8,iv i)],[(0,Yl Sm.zero),(1,Yl (aq (l.take i)))],2⟩
attribute [push_cast] Q7.eq_def Yl.eq_def
theorem Nf:Sm.zero.n=0:=rfl
theorem GP:Sm.zero.d0=0:=rfl
theorem GQ:Sm.zero.d1=0:=rfl
theorem GR:Sm.zero.d2=0:=rfl
theorem GS:Sm.zero.mx=0:=rfl
theorem Dp:Sm.zero.pos=0:=rfl
attribute [push_cast] Nf GP GQ GR GS Dp
theorem d7 {α:Type} {l:List α} {i:Nat} {x:α} (h:l[i]? = some x):l.take (i+1)=l.take i++[x]:=by
 rw [ac7,h];rfl
set_option maxHeartbeats 1600000 in
theorem QU (l:List It) (hl:l.length≤1000000) (hi : ∀i∈l,cd i) (b:Bool):ap Tryz.prog G0 172 [.d (.sd 7 b (l.map fQ))] [] 0 (.d (xH (aq l))) []:=by
 refine vF ab [0,2,3,5,6,7,8,9] Tryz.func172 rfl Tryz.results172 Tryz.ntmps172 ?_;(refine' zg)
 refine vL (lv:=[0,2,3,5,6,7,8,9]) ab (Q7 l b) (fun i=>i≤l.length) (fun i=>l.length - i) (0) ((aC.go [2,3,6,7,8] (by exact vS) rfl)) ?_ ?_
 ·exact aa1 _
 intro i hle;(refine' zo)
 ·refine aF.intro fun x hx =>?_
  have hok:cd x:=hi x (aa0 hx);have hs:eU (aq (l.take i)):=gg _ (fun y hy=>hi y (abm hy)) (by simp;omega);(refine' uR (JS x) (q9 (aq (l.take i)) (jW x) hs (sY hok)))
  refine aG.go (i+1) [2,3,6,7,8] (by (try simp only [Q7]);rw [d7 hx,gp];exact vS) ?_ ?_;all_goals omega
 ·rw [aaW (by omega)]
def TI (x:It):Nat→St
 | 0=>⟨[(3,bv true),(10,.d (.agg [.lit (.int .i64 x.d0),.lit (.int .i64 x.d1),.lit (.int .i64 x.d2)])),(11,iv 0)],[],0⟩
 | 1=>⟨[(3,bv true),(10,.d (.agg [.lit (.int .i64 x.d0),.lit (.int .i64 x.d1),.lit (.int .i64 x.d2)])),(11,iv 1)],[],0⟩
 | 2=>⟨[(3,bv true),(10,.d (.agg [.lit (.int .i64 x.d0),.lit (.int .i64 x.d1),.lit (.int .i64 x.d2)])),(11,iv 2)],[],0⟩
 | _=>⟨[(3,bv true),(10,.d (.agg [.lit (.int .i64 x.d0),.lit (.int .i64 x.d1),.lit (.int .i64 x.d2)])),(11,iv 3)],[],0⟩
theorem TJ (x:It):TI x 3=⟨[(3,bv true),(10,.d (.agg [.lit (.int .i64 x.d0),.lit (.int .i64 x.d1),.lit (.int .i64 x.d2)])),(11,iv 3)],[],0⟩:=rfl
attribute [push_cast] TI.eq_1 TI.eq_2 TI.eq_3 TJ
theorem jK {n:Int} (h1:0≤n) (h2:n≤1099511627776):ap Tryz.prog G0 169 [iv n] [] 0 (bv true) []:=by
 have:=Jy n;rwa [abw h1,abw h2] at this
set_option maxHeartbeats 1600000 in
theorem JN (x:It) (hx:cd x):ap Tryz.prog G0 114 [.d (fQ x)] [] 0 (iv 0) []:=by
 unfold cd at hx;obtain ⟨h1,h2,h3,h4,h5,h6,h7,h8⟩:=hx;refine vF ab [0,1,2,3,5,10,11,12,21] Tryz.func114 rfl Tryz.results114 Tryz.ntmps114 ?_;(refine' fq (jK h7 h8))
 refine vL (lv:=[0,1,2,3,5,10,11,12,21]) ab (TI x) (fun i=>i≤3) (fun i=>3 - i) (0) ((aC.go [3,10,11] (by exact vS) rfl)) ?_ ?_
 ·exact aa1 _
 intro i hi;have h9:i=0∨i=1∨i=2∨i=3:=by omega
 rcases h9 with rfl|rfl|rfl|rfl
 ·(refine' fq (jK h1 h2))
  refine aG.go (1) [3,10,11] (by exact vS) ?_ ?_;all_goals omega
 ·(refine' fq (jK h3 h4))
  refine aG.go (2) [3,10,11] (by exact vS) ?_ ?_;all_goals omega
 ·(refine' fq (jK h5 h6))
  refine aG.go (3) [3,10,11] (by exact vS) ?_ ?_;all_goals omega
 ·(refine' zo)
end Go.Proofs.YtkkanlcjjpoklaaGreatDoor
set_option linter.unusedSimpArgs false
set_option linter.unusedVariables false
set_option maxRecDepth 8000
set_option linter.defProp false
namespace Go.Proofs.YtkkanlcjjpoklaaGreatDoor
def qu (s:Sm):List D:=[.lit (.int .i64 s.n),.lit (.int .i64 s.d0),.lit (.int .i64 s.d1),.lit (.int .i64 s.d2),.lit (.int .i64 s.mx),.lit (.int .i64 s.pos)]
def pQ (l:List It):D:= .pd 7 [.agg (.sd 7 false (l.map fQ)::qu (aq l))] 0 0
def iy (h:Nat) (ks:List D) (s:Sm):D:= .pd 8 [.agg (.sd 1 false ks :: .lit (.int .i64 h)::qu s)] 0 0
mutual
def bw:T→D
 | .leaf l=> .ifc 240 (pQ l)
 | .inner h ks=> .ifc 275 (iy h (sU ks) (aq (T.itemsL ks)))
def sU:List T→List D
 | []=>[]
 | k::r=>bw k::sU r
end
theorem sV : ∀ks:List T,sU ks=ks.map bw
 | []=>by rw [sU];rfl
 | k::r=>by rw [sU,sV r];rfl
theorem du (l:List It):bw (.leaf l) = .ifc 240 (pQ l):=by rw [bw]
theorem dt (h:Nat) (ks:List T):bw (.inner h ks) = .ifc 275 (iy h (ks.map bw) (aq (T.itemsL ks))):=by rw [bw,sV]
def cM:Option T→D
 | none=> .lit .nilIface
 | some t=>bw t
theorem B1 (t:T):(bw t).cells=[bw t]:=by
 cases t with
 | leaf l=>rw [du];rfl
 | inner h ks=>rw [dt];rfl
def Ez (t:T):=(D.cells.eq_def (bw t)).symm.trans (B1 t)
attribute [push_cast] Ez
attribute [push_cast] du dt pQ.eq_def iy.eq_def qu.eq_def T.items.eq_1 T.items.eq_2 T.ht.eq_1 T.ht.eq_2
set_option maxHeartbeats 1600000 in
theorem n6 (t:T):ap Tryz.prog G0 146 [.d (bw t)] [] 0 (.d (xH (aq t.items))) []:=by
 cases t with
 | leaf l=>
  refine vF ab [0,2,3,4,5,7,8,14,15] Tryz.func146 rfl Tryz.results146 Tryz.ntmps146 ?_;(refine' zo)
 | inner h ks=>
  refine vF ab [0,2,3,4,5,7,8,14,15] Tryz.func146 rfl Tryz.results146 Tryz.ntmps146 ?_;(refine' zo)
theorem bP (t:T):ap Tryz.prog G0 229 [.d (bw t)] [] 0 (iv t.ht) []:=by
 cases t with
 | leaf l=>
  refine vF ab [0,2,4,5,7,8,10,11] Tryz.func229 rfl Tryz.results229 Tryz.ntmps229 ?_;(refine' zo)
 | inner h ks=>
  refine vF ab [0,2,4,5,7,8,10,11] Tryz.func229 rfl Tryz.results229 Tryz.ntmps229 ?_;(refine' zo)
theorem i4 (l:List It) (hl:l.length≤1000000) (hi : ∀i∈l,cd i):ap Tryz.prog G0 116 [.d (.sd 7 false (l.map fQ))] [] 0 (.d (pQ l)) []:=by
 refine vF ab [0,2] Tryz.func116 rfl Tryz.results116 Tryz.ntmps116 ?_;(refine' fq (QU l hl hi false))
 refine ae.frz 20 (ae.out ?_);(repeat (first|(with_reducible first|exact True.intro|refine vD ?_|refine vG ?_|refine vE ?_)|refine vR ?_))
def X0 (ks:List T) (h:Nat) (i:Nat):St:=⟨[(3,.po 0 0),(14,.d (.sd 1 false (ks.map bw))),(15,iv ks.length),(16,iv i)],
 [(0,.cell [.d (.sd 1 false (ks.map bw)),iv h,iv (aq (T.itemsL (ks.take i))).n,iv (aq (T.itemsL (ks.take i))).d0,iv (aq (T.itemsL (ks.take i))).d1,iv (aq (T.itemsL (ks.take i))).d2,iv (aq (T.itemsL (ks.take i))).mx,iv (aq (T.itemsL (ks.take i))).pos])],1⟩
attribute [push_cast] X0.eq_def
theorem n5:aq []=Sm.zero:=rfl
theorem sG:T.itemsL []=[]:=by rw [T.itemsL]
attribute [push_cast] sG n5
theorem cS {ks:List T} {i:Nat} {k:T} (h:ks[i]? = some k):T.itemsL (ks.take (i+1))=T.itemsL (ks.take i)++k.items:=by
 rw [d7 h,T.itemsL_app];simp only [T.itemsL,abb]
theorem hU {ks:List T} (i:Nat) : ∃r,T.itemsL ks=T.itemsL (ks.take i)++r:=⟨T.itemsL (ks.drop i),by rw [←T.itemsL_app,abf]⟩
theorem sH {ks:List T} {i:Nat} {k:T} (h:ks[i]? = some k) : ∃a b,T.itemsL ks=a++k.items++b:=by
 obtain ⟨r,hr⟩:=hU (ks:=ks) (i+1);exact ⟨_,r,by rw [hr,cS h]⟩
set_option maxHeartbeats 1600000 in
theorem gD (ks:List T) (h:Nat) (hh:h≤1000000) (h0:0<ks.length) (hn:ks.length≤100) (hk : ∀k∈ks,k.ht=h) (hl:(T.itemsL ks).length≤1000000) (hi : ∀i∈T.itemsL ks,cd i) :
 ap Tryz.prog G0 171 [.d (.sd 1 false (ks.map bw))] [] 0 (.d (iy (h+1) (ks.map bw) (aq (T.itemsL ks)))) []:=by
 refine vF ab [0,2,3,5,14,15,16,17] Tryz.func171 rfl Tryz.results171 Tryz.ntmps171 ?_;(refine' zg)
 refine aF.intro fun k0 hk0 =>?_
 obtain rfl:k0.ht=h:=hk _ (aa0 hk0);(refine' fq (bP k0))
 refine vL (lv:=[0,2,3,5,14,15,16,17]) ab (X0 ks (k0.ht+1)) (fun i=>i≤ks.length) (fun i=>ks.length - i) (0) ((aC.go [3,14,15,16] (by exact vS) rfl)) ?_ ?_
 ·exact aa1 _
 intro i hle;(refine' zg)
 ·refine aF.intro fun k hk =>?_
  obtain ⟨a,b,e⟩:=sH hk;obtain ⟨r,er⟩:=hU (ks:=ks) i;have s1:eU (aq (T.itemsL (ks.take i))):=gg _ (fun y hy=>hi y (by rw [er];simp [hy])) (by have:=congrArg List.length er;simp at this;omega);have s2:eU (aq k.items):=gg _ (fun y hy=>hi y (by rw [e];simp [hy])) (by have:=congrArg List.length e;simp at this;omega);(refine' Ax (n6 k) (q9 (aq (T.itemsL (ks.take i))) (aq k.items) s1 s2))
  refine aG.go (i+1) [3,14,15,16] (by (try simp only [X0]);rw [cS hk,kM];exact vS) ?_ ?_;all_goals omega
 ·refine ae.frz 0 (ae.out ?_);(repeat (first|(with_reducible first|exact True.intro|refine vD ?_|refine vG ?_|refine vE ?_)|refine vR ?_))
  rw [aaW (by omega)]
end Go.Proofs.YtkkanlcjjpoklaaGreatDoor
set_option linter.unusedSimpArgs false
set_option linter.unusedVariables false
set_option maxRecDepth 8000
namespace Go.Proofs.YtkkanlcjjpoklaaGreatDoor
theorem MK {α β:Type} (f:α→β) (l:List α) (i:Nat):(l.map f).take i=(l.take i).map f:=by simp
theorem KG {α β:Type} (f:α→β) (l:List α) (i:Nat):(l.map f).drop i=(l.drop i).map f:=by simp
attribute [push_cast] MK KG
theorem Bt {n m:Nat} (hn:n≤1000000000) (hm:m=n / 2):IntKind.i64.wrap ((n:Int).tdiv 2)=(m:Int):=by
 have e:(n:Int).tdiv 2=((n / 2:Nat):Int):=rfl;rw [e,←hm];exact Tv _ (by omega) (by omega)
set_option maxHeartbeats 1600000 in
theorem Ji (l:List It) (hl:l.length≤1000000) (hi : ∀i∈l,cd i):ap Tryz.prog G0 232 [.d (.sd 7 false (l.map fQ))] [] 0 (.d (.sd 1 false ((jI l).map bw))) []:=by
 obtain ⟨m,hm⟩ : ∃m,m=l.length / 2:=⟨_,rfl⟩
 have hmid:=Bt (by omega) hm;refine vF ab [0,2,3,6] Tryz.func232 rfl Tryz.results232 Tryz.ntmps232 ?_;(repeat' (first|(simp -implicitDefEqProofs -dsimp only [hmid])|with_reducible refine vQ (i4 l hl hi) ?_|with_reducible refine vC (i4 l hl hi) ?_|with_reducible refine vQ (i4 (l.take m) (by simp;omega) (fun i h=>hi i (List.mem_of_mem_take h))) ?_|with_reducible refine vQ (i4 (l.drop m) (by simp;omega) (fun i h=>hi i (List.mem_of_mem_drop h))) ?_|(refine' zq)|fail))
 ·refine ae.frz 28 (ae.out ?_);(repeat (first|(with_reducible first|exact True.intro|refine vD ?_|refine vG ?_|refine vE ?_)|refine vR ?_))
  rw [jI,aa3 (by omega),abh,acl,du];simp only [pQ,qu,push_cast];done
 ·refine ae.frz 76 (ae.out ?_);(repeat (first|(with_reducible first|exact True.intro|refine vD ?_|refine vG ?_|refine vE ?_)|refine vR ?_))
  rw [jI,aaY (by omega),←hm,abh,abh,acl,du,du];simp only [pQ,qu];done
theorem ga {ks:List T} {g:Nat} (h0:0<ks.length) (hk : ∀k∈ks,k.ht=g):bw (gE ks) = .ifc 275 (iy (g+1) (ks.map bw) (aq (T.itemsL ks))):=by
 match ks,h0,hk with
 | k::r,h0,hk=>
  unfold gE;rw [dt];simp only;rw [hk k (by simp)]
set_option maxHeartbeats 1600000 in
theorem tw (ks:List T) (g:Nat) (hh:g≤1000000) (h0:0<ks.length) (hn:ks.length≤100) (hk : ∀k∈ks,k.ht=g) (hl:(T.itemsL ks).length≤1000000) (hi : ∀i∈T.itemsL ks,cd i) :
 ap Tryz.prog G0 230 [.d (.sd 1 false (ks.map bw))] [] 0 (.d (.sd 1 false ((gJ ks).map bw))) []:=by
 obtain ⟨m,hm⟩ : ∃m,m=ks.length / 2:=⟨_,rfl⟩
 have hmid:=Bt (by omega) hm;have e:=T.itemsL_app (ks.take m) (ks.drop m);rw [List.take_append_drop] at e;have el:=congrArg List.length e;rw [List.length_append] at el;refine vF ab [0,2,3,6] Tryz.func230 rfl Tryz.results230 Tryz.ntmps230 ?_;(repeat' (first|(simp -implicitDefEqProofs -dsimp only [hmid])|with_reducible refine vQ (gD ks g hh h0 hn hk hl hi) ?_|with_reducible refine vC (gD ks g hh h0 hn hk hl hi) ?_|with_reducible refine vQ (gD (ks.take m) g hh (by simp;omega) (by simp;omega) (fun k q=>hk k (List.mem_of_mem_take q)) (by omega) (fun i q=>hi i (by rw [e];simp [q]))) ?_|with_reducible refine vQ (gD (ks.drop m) g hh (by simp;omega) (by simp;omega) (fun k q=>hk k (List.mem_of_mem_drop q)) (by omega) (fun i q=>hi i (by rw [e];simp [q]))) ?_|(refine' zq)|fail))
 ·refine ae.frz 28 (ae.out ?_);(repeat (first|(with_reducible first|exact True.intro|refine vD ?_|refine vG ?_|refine vE ?_)|refine vR ?_))
  rw [gJ,aa3 (by omega),abh,acl,ga h0 hk];simp only [iy,qu,push_cast];done
 ·refine ae.frz 76 (ae.out ?_);(repeat (first|(with_reducible first|exact True.intro|refine vD ?_|refine vG ?_|refine vE ?_)|refine vR ?_))
  rw [gJ,aaY (by omega),←hm,abh,abh,acl,ga (ks:=ks.take m) (g:=g) (by simp;omega) (fun k q=>hk k (abm q)),ga (ks:=ks.drop m) (g:=g) (by simp;omega) (fun k q=>hk k (abU q))];simp only [iy,qu,push_cast];done
set_option maxHeartbeats 1600000 in
theorem ES (a b:List T) (ha:a.length≤100) (hb:b.length≤100):ap Tryz.prog G0 231 [.d (.sd 1 false (a.map bw)),.d (.sd 1 false (b.map bw))] [] 0 (.d (.sd 1 false ((a++b).map bw))) []:=by
 refine vF ab [0,1,4,5] Tryz.func231 rfl Tryz.results231 Tryz.ntmps231 ?_;(refine' zg)
 refine ae.frz 56 (ae.out ?_);(repeat (first|(with_reducible first|exact True.intro|refine vD ?_|refine vG ?_|refine vE ?_)|refine vR ?_))
 simp
theorem OV {α β:Type} (f:α→β) (a b:List α):a.map f++b.map f=(a++b).map f:=by simp
attribute [push_cast] OV List.replicate_zero List.nil_append
structure Nk (n:Nat) (a b:T):Prop where
 wa:a.wf
 wb:b.wf
 sum:a.ht+b.ht≤n
 len:a.items.length+b.items.length≤1000000
 ia : ∀i∈a.items,cd i
 ib : ∀i∈b.items,cd i
 small:n≤1000000
abbrev fF (n:Nat) (a b:T):Prop:=ap Tryz.prog G0 170 [.d (bw a),.d (bw b)] [] 0 (.d (.sd 1 false ((dq n a b).map bw))) []
set_option maxHeartbeats 1600000 in
theorem Ir (n h:Nat) (ks:List T) (b:T) (w:Nk (n+1) (.inner h ks) b) (hlt:b.ht<h) (ih : ∀a b,Nk n a b→fF n a b):fF (n+1) (.inner h ks) b:=by
 have wa:=w.wa;simp only [T.wf] at wa;obtain ⟨k0,k1,k2,kw⟩:=wa;have wn:=w.sum;have ws:=w.small;have wl:=w.len;have wi:=w.ia;simp only [T.ht_inner] at wn;simp only [T.items] at wl wi;obtain ⟨m,hm⟩ : ∃m,m+1=ks.length:=⟨ks.length - 1,by omega⟩
 have hlast:(ks.length:Int) - 1=(m:Int):=by omega
 have e:ks.getLast? = ks[m]? :=by rw [List.getLast?_eq_getElem?,←hm];rfl
 have ed:ks.dropLast=ks.take m:=by rw [List.dropLast_eq_take,←hm];rfl
 obtain ⟨k,hk⟩ : ∃k,ks[m]? = some k:=⟨_,IO (by omega)⟩
 have hks:ks=ks.take m++[k]:=by rw [←d7 hk,aaW (by omega)]
 have ei:T.itemsL ks=T.itemsL (ks.take m)++k.items:=by rw [←cS hk,aaW (by omega)]
 have el:=congrArg List.length ei;rw [Or] at el;have hkk:=T.wfL_mem kw k (aa0 hk);have t2:Nk n k b:=⟨hkk.2,w.wb,by omega,by omega,fun i q=>wi i (by rw [ei];simp [q]),w.ib,by omega⟩
 have mo:=ny n k b hkk.2 w.wb (by omega);have hx:max k.ht b.ht=h - 1:=by omega
 rw [hx] at mo;have em:dq (n+1) (.inner h ks) b=gJ (ks.take m++dq n k b):=by
  conv=>lhs;unfold dq
  rw [aa3 (by simpa only [T.ht_inner] using hlt)];simp only [e,ed,hk]
 unfold fF;rw [em];have r1:=ES (ks.take m) (dq n k b) (by simp;omega) (by have:=mo.two;omega);have r2:=tw (ks.take m++dq n k b) (h - 1) (by omega) (by have:=mo.pos;simp;omega) (by have:=mo.two;simp;omega) (fun x q=>by
  rcases abe.1 q with q|q
  ·exact (T.wfL_mem kw x (abm q)).1
  ·exact (T.wfL_mem mo.wf x q).1) (by rw [T.itemsL_app,mo.items];simp;omega) (fun i q=>by
  rw [T.itemsL_app,mo.items] at q;simp only [abe] at q;rcases q with q|q|q
  ·exact wi i (by rw [ei];simp [q])
  ·exact wi i (by rw [ei];simp [q])
  ·exact w.ib i q)
 have hA:=bP (.inner h ks);simp only [dt,iy,qu,T.ht_inner] at hA;refine vF ab [0,1,4,5,6,7,8,9,10,11,12,13,18,47,73] Tryz.func170 rfl Tryz.results170 Tryz.ntmps170 ?_;(repeat' (first|(simp -implicitDefEqProofs -dsimp only [hlast])|with_reducible refine ae.out ?_|with_reducible refine vQ (hA) ?_|with_reducible refine vQ (bP b) ?_|with_reducible refine vC (hA) ?_|with_reducible refine vC (bP b) ?_|with_reducible refine vQ (ih k b t2) ?_|with_reducible refine vQ (r1) ?_|with_reducible refine vQ (r2) ?_|(with_reducible refine aF.is m k rfl hk ?_)|(refine' zq)|fail))
set_option maxHeartbeats 1600000 in
theorem Ev (n h:Nat) (ks:List T) (a:T) (w:Nk (n+1) a (.inner h ks)) (hlt:a.ht<h) (ih : ∀a b,Nk n a b→fF n a b):fF (n+1) a (.inner h ks):=by
 have wb:=w.wb;simp only [T.wf] at wb;obtain ⟨k0,k1,k2,kw⟩:=wb;have wn:=w.sum;have ws:=w.small;have wl:=w.len;have wi:=w.ib;simp only [T.ht_inner] at wn;simp only [T.items] at wl wi;obtain ⟨k,r,hks⟩ : ∃k r,ks=k::r:=by
  cases ks with
  | nil=>simp at k0
  | cons k r=>exact ⟨k,r,rfl⟩
 have hk:ks[0]? = some k:=by rw [hks];rfl
 have hr:ks.drop 1=r:=by rw [hks];rfl
 have hkl:ks.length=r.length+1:=by rw [hks];rfl
 rw [hks] at k0 k1 wl wi kw;simp only [aa6] at k0 k1;simp only [T.itemsL] at wl wi;simp only [Or] at wl;simp only [T.wfL] at kw;have t2:Nk n a k:=⟨w.wa,kw.2.1,by omega,by omega,w.ia,fun i q=>wi i (by simp [q]),by omega⟩
 have mo:=ny n a k w.wa kw.2.1 (by omega);have hx:max a.ht k.ht=h - 1:=by omega
 rw [hx] at mo;have em:dq (n+1) a (.inner h ks)=gJ (dq n a k++r):=by
  rw [hks];conv=>lhs;unfold dq
  rw [aaY (by rw [T.ht_inner];omega),aa3 (by rw [T.ht_inner];omega)]
 unfold fF;rw [em];have r1:=ES (dq n a k) r (by have:=mo.two;omega) (by omega);have r2:=tw (dq n a k++r) (h - 1) (by omega) (by have:=mo.pos;simp;omega) (by have:=mo.two;simp;omega) (fun x q=>by
  rcases abe.1 q with q|q
  ·exact (T.wfL_mem mo.wf x q).1
  ·exact (T.wfL_mem kw.2.2 x q).1) (by rw [T.itemsL_app,mo.items];simp;omega) (fun i q=>by
  rw [T.itemsL_app,mo.items] at q;simp only [abe] at q;rcases q with (q|q)|q
  ·exact w.ia i q
  ·exact wi i (by simp [q])
  ·exact wi i (by simp [q]))
 rw [←hr] at r1 r2 ⊢;have hA:=bP (.inner h ks);simp only [dt,iy,qu,T.ht_inner] at hA;refine vF ab [0,1,4,5,6,7,8,9,10,11,12,13,18,47,73] Tryz.func170 rfl Tryz.results170 Tryz.ntmps170 ?_;(repeat' (first|with_reducible refine ae.out ?_|with_reducible refine vQ (hA) ?_|with_reducible refine vQ (bP a) ?_|with_reducible refine vC (hA) ?_|with_reducible refine vC (bP a) ?_|with_reducible refine vQ (ih a k t2) ?_|with_reducible refine vQ (r1) ?_|with_reducible refine vQ (r2) ?_|(with_reducible refine aF.is 0 k rfl hk ?_)|(refine' zq)|fail))
set_option maxHeartbeats 1600000 in
theorem BT (n:Nat) (x y:List It) (w:Nk (n+1) (.leaf x) (.leaf y)):fF (n+1) (.leaf x) (.leaf y):=by
 have wl:=w.len;have wi:=w.ia;have wj:=w.ib;simp only [T.items] at wl wi wj;have em:dq (n+1) (.leaf x) (.leaf y)=jI (x++y):=by
  conv=>lhs;unfold dq
  rw [aaY (by simp [T.ht]),aaY (by simp [T.ht])]
 unfold fF;rw [em];have r1:=Ji (x++y) (by simp;omega) (fun i q=>by
  rcases abe.1 q with q|q
  ·exact wi i q
  ·exact wj i q)
 have hA:=bP (.leaf x);have hB:=bP (.leaf y);simp only [du,pQ,qu,T.ht_leaf] at hA hB;refine vF ab [0,1,4,5,6,7,8,9,10,11,12,13,18,47,73] Tryz.func170 rfl Tryz.results170 Tryz.ntmps170 ?_;(refine' uR hA hB)
 refine au.frz 204 rfl ?_;(refine' lK r1)
 all_goals skip
set_option maxHeartbeats 1600000 in
theorem Iq (n h:Nat) (x y:List T) (w:Nk (n+1) (.inner h x) (.inner h y)):fF (n+1) (.inner h x) (.inner h y):=by
 have wa:=w.wa;have wb:=w.wb;simp only [T.wf] at wa wb;have wn:=w.sum;have ws:=w.small;have wl:=w.len;have wi:=w.ia;have wj:=w.ib;simp only [T.ht_inner] at wn;simp only [T.items] at wl wi wj;have em:dq (n+1) (.inner h x) (.inner h y)=gJ (x++y):=by
  conv=>lhs;unfold dq
  rw [aaY (by simp [T.ht]),aaY (by simp [T.ht])]
 unfold fF;rw [em];have r1:=ES x y (by omega) (by omega);have r2:=tw (x++y) (h - 1) (by omega) (by simp;omega) (by simp;omega) (fun k q=>by
  rcases abe.1 q with q|q
  ·exact (T.wfL_mem wa.2.2.2 k q).1
  ·exact (T.wfL_mem wb.2.2.2 k q).1) (by rw [T.itemsL_app];simp;omega) (fun i q=>by
  rw [T.itemsL_app] at q;rcases abe.1 q with q|q
  ·exact wi i q
  ·exact wj i q)
 have hA:=bP (.inner h x);have hB:=bP (.inner h y);simp only [dt,iy,qu,T.ht_inner] at hA hB;refine vF ab [0,1,4,5,6,7,8,9,10,11,12,13,18,47,73] Tryz.func170 rfl Tryz.results170 Tryz.ntmps170 ?_;(refine' Tw hA hB r1 r2)
 all_goals skip
theorem OX : ∀(n:Nat) (a b:T),Nk n a b→fF n a b:=by
 intro n;induction n with
 | zero=>intro a b w;have:=T.wf_ht w.wa;have:=w.sum;omega
 | succ n ih=>
  intro a b w;rcases acN a.ht b.ht with hlt|heq|hgt
  ·obtain ⟨h,ks,rfl⟩:=T.inner_ht (t:=b) (by have:=T.wf_ht w.wa;omega);exact Ev n h ks a w hlt ih
  ·rcases aa2 a.ht 2 with hl|hl
   ·obtain ⟨x,rfl⟩:=T.leaf_ht w.wa (by have:=T.wf_ht w.wa;omega);obtain ⟨y,rfl⟩:=T.leaf_ht w.wb (by have:=T.wf_ht w.wb;omega);exact BT n x y w
   ·obtain ⟨h,x,rfl⟩:=T.inner_ht (t:=a) hl;obtain ⟨h',y,rfl⟩:=T.inner_ht (t:=b) (by omega);simp only [T.ht_inner] at heq;subst heq;exact Iq n h x y w
  ·obtain ⟨h,ks,rfl⟩:=T.inner_ht (t:=a) (by have:=T.wf_ht w.wb;omega);exact Ir n h ks b w hgt ih
theorem nB (t:T) : ∃k y,bw t = .ifc k y:=by
 cases t with
 | leaf l=>exact ⟨_,_,du l⟩
 | inner h ks=>exact ⟨_,_,dt h ks⟩
structure TE (a b:Option T):Prop where
 wa:Dy a
 wb:Dy b
 len:(an a).length+(an b).length≤1000000
 ia : ∀i∈an a,cd i
 ib : ∀i∈an b,cd i
 small:Dv a+Dv b≤1000000
abbrev lW (a b:Option T):Prop:=ap Tryz.prog G0 115 [.d (cM a),.d (cM b)] [] 0 (.d (cM (gF a b))) []
theorem Ic (b:Option T):lW none b:=by
 unfold lW;simp only [gF];refine vF ab [0,1,4,5,6,10,19] Tryz.func115 rfl Tryz.results115 Tryz.ntmps115 ?_;(repeat' (first|(simp only [cM])|with_reducible refine ae.out ?_|(refine' zq)|fail))
 all_goals skip
theorem Lk (a:T):lW (some a) none:=by
 unfold lW;simp only [gF,cM];obtain ⟨k,y,e⟩:=nB a;rw [e];refine vF ab [0,1,4,5,6,10,19] Tryz.func115 rfl Tryz.results115 Tryz.ntmps115 ?_;(refine' zo)
 all_goals skip
set_option maxHeartbeats 1600000 in
theorem Ll (a b:T) (w:TE (some a) (some b)):lW (some a) (some b):=by
 have w2:Nk (a.ht+b.ht) a b:=⟨w.wa,w.wb,aaV _,w.len,w.ia,w.ib,w.small⟩
 have r1:=OX _ a b w2;have mo:=ny (a.ht+b.ht) a b w.wa w.wb (aaV _);unfold lW;simp only [gF,cM];unfold fF at r1;generalize dq (a.ht+b.ht) a b=l at r1 mo;obtain ⟨k,y,e⟩:=nB a;obtain ⟨k',y',e'⟩:=nB b;rw [e,e'] at r1 ⊢;have hl:=mo.pos;have hl2:=mo.two;have r2:=gD l (max a.ht b.ht) (by have:=w.small;simp only [Dv] at this;omega) hl (by omega) (fun k q=>(T.wfL_mem mo.wf k q).1) (by rw [mo.items];simp;exact w.len) (by
  rw [mo.items];intro i q;rcases abe.1 q with q|q
  ·exact w.ia i q
  ·exact w.ib i q)
 refine vF ab [0,1,4,5,6,10,19] Tryz.func115 rfl Tryz.results115 Tryz.ntmps115 ?_;(refine' uR r1 r2)
 ·obtain ⟨x,rfl⟩:=ac3.1 (show l.length=1 by omega);refine aF.is 0 x rfl rfl ?_;(refine' zo)
 ·obtain ⟨x,z,rfl⟩ : ∃x z,l=[x,z]:=by
   match l,hl,hl2,h with
   | [x],_,_,h=>simp at h
   | [x,z],_,_,_=>exact ⟨x,z,rfl⟩
  show _=bw (gE [x,z]);rw [ga hl (fun k q=>(T.wfL_mem mo.wf k q).1)];rfl
theorem OK (a b:Option T) (w:TE a b):lW a b:=by
 cases a with
 | none=>exact Ic b
 | some a=>
  cases b with
  | none=>exact Lk a
  | some b=>exact Ll a b w
theorem Gp (t:Option T):cM t = .lit .nilIface ∨ ∃k y,cM t = .ifc k y:=by
 cases t with
 | none=>exact .inl rfl
 | some t=>exact .inr (nB t)
def aU (t:Option T):D:= .pd 1 [.agg [cM t]] 0 0
theorem Rq {α β:Type} {f:α→β} {A:List α} {z:β} {m:Nat} (h:A.length=m):A.map f++(List.replicate m z).drop A.length=A.map f:=by
 rw [abo (by simp [h]),abb]
def O0 (l:List It) (i:Nat):St:=⟨[(0,.d (.sd 7 false (l.map fQ))),(4,.d (cM (eA l i))),(12,.d (.sd 7 false (l.map fQ))),(13,iv l.length),(14,iv i)],[],0⟩
theorem sC (l:List It) : ∀i,i≤l.length→Dv (eA l i)≤i+1:=by
 intro i;induction i with
 | zero=>intro _;simp [eA,Dv]
 | succ i ih=>
  intro h;have:=ih (by omega);unfold eA;split
  ·have h1:=(qQ l i (by omega)).1;have h2:Dy (some (T.leaf ((l.drop i).take 8))):=by simp only [Dy,T.wf];simp;omega
   have:=(BH h1 h2).2.2;have h3:Dv (some (T.leaf ((l.drop i).take 8)))=1:=rfl;rw [h3] at this;omega
  ·omega
theorem Pg {n r k:Nat} (hn:n≤1000000000) (hk:0<k) (hk2:k≤1000000000) (hr:r=n % k):IntKind.i64.wrap ((n:Int).tmod (k:Int))=(r:Int):=by
 have e:(n:Int).tmod (k:Int)=((n % k:Nat):Int):=rfl;rw [e,←hr];have:=adm n hk;exact Tv _ (by omega) (by omega)
set_option maxHeartbeats 1600000 in
theorem xY (l:List It) (hl:l.length≤30000) (hi : ∀i∈l,cd i):ap Tryz.prog G0 58 [.d (.sd 7 false (l.map fQ))] [] 0 (.tup [.d (aU (eA l l.length)),iv 0]) []:=by
 refine vF ab [0,2,3,4,5,6,7,8,11,12,13,14,15,22,26] Tryz.func58 rfl Tryz.results58 Tryz.ntmps58 ?_;(refine' zo)
 refine vL (lv:=[0,2,3,4,5,6,7,8,11,12,13,14,15,22,26]) ab (O0 l) (fun i=>i≤l.length) (fun i=>l.length - i) (0) ((aC.go [0,4,12,13,14] (by exact vS) rfl)) ?_ ?_
 ·exact aa1 _
 intro i hle;obtain ⟨r,hr⟩ : ∃r,r=i % 8:=⟨_,rfl⟩
 have hrem:=Pg (k:=8) (by omega) (by omega) (by omega) hr;simp only [O0];(repeat' (first|(simp -implicitDefEqProofs -dsimp only [hrem])|(refine' zq)|fail))
 ·refine aF.intro fun x hx =>?_
  have hok:cd x:=hi x (aa0 hx);have hc:=JN x hok;obtain ⟨m,hm⟩ : ∃m,m=min 8 (l.length - i):=⟨_,rfl⟩
  have hmin:min 8 ((l.length:Int) - i)=(m:Int):=by omega
  obtain ⟨A,hA⟩ : ∃A,A=(l.drop i).take 8:=⟨_,rfl⟩
  have hlen:A.length=m:=by rw [hA,hm];simp
  have hA':(l.drop i).take m=A:=by
   rw [hA,hm];rcases Nat.le_total 8 (l.length - i) with q|q
   ·rw [acw q]
   ·rw [Nat.min_eq_right q,aaW (by simp),aaW (by simp;omega)]
  have hAt:A.take m=A:=aaW (by omega);have hAi : ∀y∈A,cd y:=fun y q=>hi y (abU (abm (by rw [hA] at q;exact q)))
  (repeat' (first|(simp -implicitDefEqProofs -dsimp only [hrem])|(simp -implicitDefEqProofs -dsimp only [hmin])|(simp -implicitDefEqProofs -dsimp only [hA'])|with_reducible refine vQ (hc) ?_|with_reducible refine vC (hc) ?_|(refine' zq)|fail))
  ·rw [Rq (f:=fQ) (A:=A) (m:=m) hlen];have e0:(i:Int).tmod 8=((i % 8:Nat):Int):=rfl;have en:eA l (i+1)=gF (eA l i) (some (.leaf A)):=by
    conv=>lhs;unfold eA
    rw [aa3 (by omega),←hA]
   obtain ⟨q1,q2⟩:=qQ l i (by omega);have hj:ap Tryz.prog G0 115 [.d (cM (eA l i)),.d (bw (.leaf A))] [] 0 (.d (cM (gF (eA l i) (some (.leaf A))))) []:=
    OK (eA l i) (some (.leaf A)) ⟨q1,by simp only [Dy,T.wf];omega,by rw [q2];simp only [an,T.items];simp;omega,fun y q=>hi y (abm (by rw [q2] at q;exact q)),fun y q=>hAi y (by simpa only [an,T.items] using q),by have:=sC l i (by omega);have e9:Dv (some (T.leaf A))=1:=rfl;omega⟩
   simp only [du,pQ,qu] at hj;refine au.frz 80 rfl ?_;(repeat' (first|(simp -implicitDefEqProofs -dsimp only [hmin])|(simp -implicitDefEqProofs -dsimp only [hlen,hAt])|with_reducible refine vC (i4 A (by omega) hAi) ?_|with_reducible refine vC (hj) ?_|(refine' zq)|fail))
   refine aG.go (i+1) [0,4,12,13,14] (by (try simp only [O0]);rw [en];exact vS) ?_ ?_;all_goals omega
  ·have e0:(i:Int).tmod 8=((i % 8:Nat):Int):=rfl;rw [e0] at h;have e:eA l (i+1)=eA l i:=by
    conv=>lhs;unfold eA
    rw [aaY (by omega)]
   refine aG.go (i+1) [0,4,12,13,14] (by (try simp only [O0]);rw [e];exact vS) ?_ ?_;all_goals omega
 ·rcases Gp (eA l i) with e|⟨k,y,e⟩
  ·simp only [e];(refine' zg)
   refine ae.frz 12 (ae.out ?_);(repeat (first|(with_reducible first|exact True.intro|refine vD ?_|refine vG ?_|refine vE ?_)|refine vR ?_))
   rw [←show i=l.length by omega,aU,e]
  ·simp only [e];(refine' zg)
   refine ae.frz 12 (ae.out ?_);(repeat (first|(with_reducible first|exact True.intro|refine vD ?_|refine vG ?_|refine vE ?_)|refine vR ?_))
   rw [←show i=l.length by omega,aU,e]
theorem uK (t:Option T):ap Tryz.prog G0 141 [.d (aU t)] [] 0 (.d (cM t)) []:=by
 rcases Gp t with e|⟨k,y,e⟩
 ·rw [aU,e];refine vF ab [0,2,4] Tryz.func141 rfl Tryz.results141 Tryz.ntmps141 ?_;(refine' zo)
 ·rw [aU,e];refine vF ab [0,2,4] Tryz.func141 rfl Tryz.results141 Tryz.ntmps141 ?_;(refine' zo)
theorem Jq:ap Tryz.prog G0 146 [.d (.lit .nilIface)] [] 0 (.d (xH Sm.zero)) []:=by
 refine vF ab [0,2,3,4,5,7,8,14,15] Tryz.func146 rfl Tryz.results146 Tryz.ntmps146 ?_;(refine' zo)
 rfl
theorem PH (t:Option T):ap Tryz.prog G0 146 [.d (cM t)] [] 0 (.d (xH (aq (an t)))) []:=by
 cases t with
 | none=>exact Jq
 | some t=>exact n6 t
theorem ik (t:Option T):ap Tryz.prog G0 103 [.d (aU t)] [] 0 (.d (xH (aq (an t)))) []:=by
 have r1:=uK t;rw [aU] at r1 ⊢;refine vF ab [0,2] Tryz.func103 rfl Tryz.results103 Tryz.ntmps103 ?_;(refine' uR r1 (PH t))
theorem Mx (s:Sm):ap Tryz.prog G0 143 [.d (xH s),iv 0] [] 0 (iv s.d0) []:=by
 refine vF ab [0,1,2,4,6] Tryz.func143 rfl Tryz.results143 Tryz.ntmps143 ?_;(refine' zo)
theorem My (s:Sm):ap Tryz.prog G0 143 [.d (xH s),iv 1] [] 0 (iv s.d1) []:=by
 refine vF ab [0,1,2,4,6] Tryz.func143 rfl Tryz.results143 Tryz.ntmps143 ?_;(refine' zo)
theorem Mz (s:Sm):ap Tryz.prog G0 143 [.d (xH s),iv 2] [] 0 (iv s.d2) []:=by
 refine vF ab [0,1,2,4,6] Tryz.func143 rfl Tryz.results143 Tryz.ntmps143 ?_;(refine' zo)
theorem MA (s:Sm):ap Tryz.prog G0 143 [.d (xH s),iv 3] [] 0 (iv s.n) []:=by
 refine vF ab [0,1,2,4,6] Tryz.func143 rfl Tryz.results143 Tryz.ntmps143 ?_;(refine' zo)
theorem nT (s:Sm) (d:Nat) (hd:d≤3):ap Tryz.prog G0 143 [.d (xH s),iv d] [] 0 (iv (mL s d)) []:=by
 have h4:d=0∨d=1∨d=2∨d=3:=by omega
 rcases h4 with rfl|rfl|rfl|rfl
 ·exact Mx s
 ·exact My s
 ·exact Mz s
 ·exact MA s
abbrev rB (n:Int):D:= .pd 1 [.agg [.lit (.int .i64 n)]] 0 0
theorem Co (e v b:Int):ap Tryz.prog G0 144 [iv e,.d (rB v),.d (rB b)] [] 0 (bv (decide (v<e)||(b==0&&e==v))) []:=by
 refine vF ab [0,1,2,4] Tryz.func144 rfl Tryz.results144 Tryz.ntmps144 ?_;(refine' zo)
def W2 (v b:Int):V:= .d (.fn 144 [rB v,rB b])
def z8:bN:= .cell [iv 0,iv 0,iv 0,iv 0,iv 0,iv 0,iv 0,iv 0]
def Xa (s:Sm) (n:Int):bN:= .cell [iv 0,iv s.n,iv s.d0,iv s.d1,iv s.d2,iv s.mx,iv s.pos,iv n]
def XX (d:Nat) (v b:Int) (x:Option T × Sm × Nat):St:=⟨[(1,iv d),(8,.po 0 0),(11,W2 v b),(12,.po 1 0),(13,.d (cM x.1))],[(0,z8),(1,Xa x.2.1 x.2.2)],2⟩
attribute [push_cast] XX.eq_def W2.eq_def z8.eq_def Xa.eq_def cM.eq_1 cM.eq_2
theorem dj {α:Type} {l:List α} {i:Nat} {x:α} (h:l[i]? = some x):l.drop i=x::l.drop (i+1):=by
 obtain ⟨h1,h2⟩:=aaX.1 h;rw [←h2];exact abI h1
def leS (d:Nat) (v b:Int) (l:List It) (n:Int) (y:Nat × Sm):St:=⟨[(1,iv d),(8,.po 0 0),(11,W2 v b),(12,.po 1 0),(101,.d (.sd 7 false (l.map fQ))),(102,iv l.length),(103,iv y.1)],[(0,z8),(1,Xa y.2 n)],2⟩
def kiS (d:Nat) (v b:Int) (ks:List T) (n:Int) (y:Nat × Sm):St:=⟨[(1,iv d),(8,.po 0 0),(11,W2 v b),(12,.po 1 0),(13,.d (.lit .nilIface)),(72,.d (.sd 1 false (ks.map bw))),(73,iv ks.length),(74,iv y.1)],[(0,z8),(1,Xa y.2 n)],2⟩
attribute [push_cast] leS.eq_def kiS.eq_def
structure LeP (R:Sm→Bool) (fin:Sm) (l:List It) (y:Nat × Sm):Prop where
 ok:eU y.2
 le:y.1≤l.length
 len:y.2.n+(l.drop y.1).length≤1000000
 fin:lJ R y.2 (l.drop y.1)=fin
structure KiP (R:Sm→Bool) (vis:Nat) (fin:Sm × Nat) (ks:List T) (y:Nat × Sm):Prop where
 ok:eU y.2
 le:y.1≤ks.length
 len:y.2.n+(T.itemsL (ks.drop y.1)).length≤1000000
 fst:(iO R (ks.drop y.1) y.2).1=fin.1
 vis:vis+(iO R (ks.drop y.1) y.2).2=fin.2
def fiM (R:Sm→Bool) (x:Option T × Sm × Nat):Nat:=match x.1 with|none=>0|some t=>(iN R t x.2.1).2
theorem xu {d:Nat} {v b:Int} {s:Sm} (h:v<mL s d∨b=0∧mL s d=v):bj d v b s=true:=by
 simp only [bj,abP,aa8,abs,aca];exact h
theorem Cp {d:Nat} {v b:Int} {s:Sm} (h : ¬(v<mL s d∨b=0∧mL s d=v)) : ¬bj d v b s=true:=by
 simp only [bj,abP,aa8,abs,aca];exact h
structure FiP (R:Sm→Bool) (fin:Sm × Nat) (x:Option T × Sm × Nat):Prop where
 ok:eU x.2.1
 sub : ∀t,x.1=some t→t.wf∧x.2.1.n+t.items.length≤1000000∧(∀i∈t.items,cd i)∧(iN R t x.2.1).1=fin.1∧x.2.2+(iN R t x.2.1).2=fin.2
 non:x.1=none→x.2.1=fin.1∧x.2.2=fin.2
set_option maxHeartbeats 1600000 in
theorem GX (t:T) (d:Nat) (hd:d≤3) (v b:Int) (hw:t.wf) (hh:t.ht≤1000000) (hn:t.items.length≤1000000) (hi : ∀i∈t.items,cd i) (hv0:0≤v) (hv:v≤mL (aq t.items) d) (hb:b=0∨b=1)
 (fin:Sm × Nat) (hfin:fin=iN (bj d v b) t Sm.zero) :
 ap Tryz.prog G0 88 [.d (aU (some t)),iv d,iv v,iv b] [] 0 (.tup [.d (.agg [.lit (.int .i64 fin.1.n),.lit (.int .i64 fin.1.n),.lit (.int .i64 fin.1.d0),.lit (.int .i64 fin.1.d1),.lit (.int .i64 fin.1.d2),.lit (.int .i64 fin.1.mx),.lit (.int .i64 fin.1.pos),.lit (.int .i64 fin.2)]),iv 0]) []:=by
 have r1:=ik (some t);have r2:=uK (some t);have r3:=nT (aq t.items) d hd;simp only [an] at r1;rw [aU] at r1 r2 ⊢;simp only [cM] at r1 r2 ⊢;refine vF ab [0,1,2,3,6,7,8,9,10,11,12,13,14,15,17,18,19,20,22,23,50,57,68,72,73,74,75,87,97,101,102,103,104,116] Tryz.func88 rfl Tryz.results88 Tryz.ntmps88 ?_;(refine' WR r1 r2 r3)
 refine vL (lv:=[0,1,2,3,6,7,8,9,10,11,12,13,14,15,17,18,19,20,22,23,50,57,68,72,73,74,75,87,97,101,102,103,104,116]) ab (XX d v b) (FiP (bj d v b) fin) (fiM (bj d v b)) ((some t,Sm.zero,0)) (aC.frz 0<|aC.frz 4<|(aC.go [1,8,11,12,13] (by exact vT) rfl)) ?_ ?_
 ·refine ⟨GT,fun t' e =>?_,fun e=>by cases e⟩;injection e with e;subst e;exact ⟨hw,by simp [Sm.zero];omega,hi,by rw [hfin],by simp only [hfin];omega⟩
 rintro ⟨ot,s,vis⟩ ⟨p1,p2,p3⟩;simp only at p1 p2 p3;have v1:=j7 (R:=bj d v b) t Sm.zero hw;rw [←hfin] at v1;cases ot with
 | none=>
  obtain ⟨rfl,rfl⟩:=p3 rfl;(refine' zo)
 | some n=>
  obtain ⟨q1,q2,q3,q4,q5⟩:=p2 n rfl;have v2:=j7 (R:=bj d v b) n s q1;cases n with
  | leaf l=>
   simp only [T.items] at q2 q3;simp only [iN] at q4 q5;simp only [T.wf] at q1;(refine' zo)
   refine vL (lv:=[0,1,2,3,6,7,8,9,10,11,12,13,14,15,17,18,19,20,22,23,50,57,68,72,73,74,75,87,97,101,102,103,104,116]) ab (leS d v b l (vis+1)) (LeP (bj d v b) fin.1 l) (fun y=>l.length - y.1) ((0,s)) ((aC.go [1,8,11,12,101,102,103] (by exact vT) rfl)) ?_ ?_
   ·exact ⟨p1,by simp,by simpa using q2,by simpa using q4⟩
   rintro ⟨j,z⟩ ⟨u1,u2,u3,u4⟩;simp only at u1 u2 u3 u4;have hvis:((vis:Int)+1)=(fin.2:Int):=by omega
   (refine' zo)
   ·refine aF.intro fun x hx =>?_
    have hok:cd x:=q3 x (aa0 hx);have hdr:=dj hx;rw [hdr,lJ] at u4;have a1:=q9 z (jW x) u1 (sY hok);have a2:=yd u1 (sY hok) (by rw [hdr] at u3;simp only [jW];simp only [aa6] at u3;omega);(refine' Tw (JS x) a1 (nT (bd z (jW x)) d hd) (Co (mL (bd z (jW x)) d) v b))
    ·rw [aa3 (xu h)] at u4;rw [←u4,←hvis]
    ·rw [aaY (Cp h)] at u4;refine aG.go ((j+1,bd z (jW x))) [1,8,11,12,101,102,103] (by exact vT) ?_ ?_
     ·show l.length - (j+1)<l.length - j;omega
     ·rw [hdr] at u3;exact ⟨a2,by simp only;omega,by simp only [aa6] at u3;simp only [bd,jW];omega,u4⟩
   ·rw [abo (by omega),lJ] at u4;rw [←u4,←hvis]
  | inner g ks=>
   simp only [T.items] at q2 q3;simp only [iN] at q4 q5;simp only [T.wf] at q1;(refine' zo)
   refine vL (lv:=[0,1,2,3,6,7,8,9,10,11,12,13,14,15,17,18,19,20,22,23,50,57,68,72,73,74,75,87,97,101,102,103,104,116]) ab (kiS d v b ks (vis+1)) (KiP (bj d v b) (vis+1) fin ks) (fun y=>ks.length - y.1) ((0,s)) ((aC.go [1,8,11,12,13,72,73,74] (by exact vT) rfl)) ?_ ?_
   ·exact ⟨p1,by simp,by simpa using q2,by simpa using q4,by simpa [acI,Nat.add_comm 1] using q5⟩
   rintro ⟨j,z⟩ ⟨u1,u2,u3,u4,u5⟩;simp only at u1 u2 u3 u4 u5;(refine' zo)
   ·refine aF.intro fun k hk =>?_
    have hdr:=dj hk;rw [hdr] at u3 u4 u5;rw [iO] at u4 u5;simp only [T.itemsL,Or] at u3;have hkw:=T.wfL_mem q1.2.2.2 k (aa0 hk);have hki : ∀i∈k.items,cd i:=fun i q=>by
     obtain ⟨a,b,e⟩:=sH hk;exact q3 i (by rw [e];simp [q])
    have o1:eU (aq k.items):=gg _ hki (by have:=u1.1;omega);have a1:=q9 z (aq k.items) u1 o1;have a2:=yd u1 o1 (by rw [cC];omega);(refine' Tw (n6 k) a1 (nT (bd z (aq k.items)) d hd) (Co (mL (bd z (aq k.items)) d) v b))
    ·rw [aa3 (xu h)] at u4 u5;have v3:=j7 (R:=bj d v b) k z hkw.2;refine aG.go ((some k,z,vis+1)) [1,8,11,12,13] (by exact vT) ?_ ?_
     ·show (iN (bj d v b) k z).2<(iN (bj d v b) (.inner g ks) s).2;simp only [iN];omega
     ·exact ⟨u1,fun t' e=>by injection e with e;subst e;exact ⟨hkw.2,by simp only;omega,hki,u4,u5⟩,fun e=>by cases e⟩
    ·rw [aaY (Cp h)] at u4 u5;refine aG.go ((j+1,bd z (aq k.items))) [1,8,11,12,13,72,73,74] (by exact vT) ?_ ?_
     ·show ks.length - (j+1)<ks.length - j;omega
     ·exact ⟨a2,by simp only;omega,by simp only [bd];rw [cC];omega,u4,u5⟩
   ·rw [abo (by omega),iO] at u4 u5;simp only at u4 u5;refine aG.go ((none,z,vis+1)) [1,8,11,12,13] (by exact vT) ?_ ?_
    ·show 0<(iN (bj d v b) (.inner g ks) s).2;simp only [iN];omega
    ·exact ⟨u1,(fun t' e=>by cases e),fun _=>⟨u4,by omega⟩⟩
def z7:bN:= .cell [iv 0,iv 0,iv 0,iv 0,iv 0,iv 0,.d (.lit (.string ⟨#[]⟩))]
def atS (x:T × Nat):St:=⟨[(1,iv x.2),(4,.po 0 0),(6,.d (bw x.1))],[(0,z7)],1⟩
def akS (ks:List T) (y:Nat × Nat):St:=⟨[(1,iv y.2),(4,.po 0 0),(34,.d (.sd 1 false (ks.map bw))),(35,iv ks.length),(36,iv y.1)],[(0,z7)],1⟩
attribute [push_cast] z7.eq_def atS.eq_def akS.eq_def
structure AtP (x:It) (y:T × Nat):Prop where
 wf:y.1.wf
 len:y.1.items.length≤1000000
 get:y.1.items[y.2]? = some x
structure AkP (x:It) (ks:List T) (y:Nat × Nat):Prop where
 le:y.1≤ks.length
 get:(T.itemsL (ks.drop y.1))[y.2]? = some x
set_option maxHeartbeats 1600000 in
theorem Nu (t:T) (i:Nat) (x:It) (hw:t.wf) (hn:t.items.length≤1000000) (hx:t.items[i]? = some x) :
 ap Tryz.prog G0 89 [.d (aU (some t)),iv i] [] 0 (.tup [.d (fQ x),iv 0]) []:=by
 have hlt:=(aaX.1 hx).1;have r1:=ik (some t);have r2:=uK (some t);have e0:(aq t.items).n=t.items.length:=cC _;simp only [an] at r1;rw [aU] at r1 r2 ⊢;simp only [cM] at r1 r2 ⊢;refine vF ab [0,1,4,5,6,7,8,10,11,20,30,34,35,36,37,45] Tryz.func89 rfl Tryz.results89 Tryz.ntmps89 ?_;(refine' Ax r1 r2)
 refine vL (lv:=[0,1,4,5,6,7,8,10,11,20,30,34,35,36,37,45]) ab (atS) (AtP x) (fun y=>y.1.ht) ((t,i)) ((aC.go [1,4,6] (by exact vT) rfl)) ?_ ?_
 ·exact ⟨hw,hn,hx⟩
 rintro ⟨n,k⟩ ⟨p1,p2,p3⟩;simp only at p1 p2 p3;have hlk:=(aaX.1 p3).1;cases n with
 | leaf l=>
  simp only [T.items] at p2 p3 hlk;(refine' zo)
  refine aF.is k x (by omega) p3 ?_;(refine' zo)
 | inner g ks=>
  simp only [T.items] at p2 p3 hlk;simp only [T.wf] at p1;(refine' zo)
  refine vL (lv:=[0,1,4,5,6,7,8,10,11,20,30,34,35,36,37,45]) ab (akS ks) (AkP x ks) (fun y=>ks.length - y.1) ((0,k)) ((aC.go [1,4,34,35,36] (by exact vT) rfl)) ?_ ?_
  ·exact ⟨by simp,by simpa using p3⟩
  rintro ⟨j,m⟩ ⟨u1,u2⟩;simp only at u1 u2;rcases aa2 j ks.length with hj|hj
  ·obtain ⟨kid,hk⟩ : ∃kid,ks[j]? = some kid:=⟨_,IO hj⟩
   have hdr:=dj hk;rw [hdr] at u2;simp only [T.itemsL] at u2;have hkw:=T.wfL_mem p1.2.2.2 kid (aa0 hk);have e1:(aq kid.items).n=kid.items.length:=cC _;obtain ⟨a,b,eab⟩:=sH hk;have hln:=congrArg List.length eab;simp only [Or] at hln;have hm:=(aaX.1 u2).1;obtain ⟨c,ec⟩ : ∃c,T.itemsL ks=c++(kid.items++T.itemsL (ks.drop (j+1))):=⟨T.itemsL (ks.take j),by rw [←T.itemsL,←hdr,←T.itemsL_app,abf]⟩
   have hlc:=congrArg List.length ec;simp only [Or] at hlc hm;(refine' zg)
   refine aF.is j kid (by omega) hk ?_;(refine' lK (n6 kid))
   ·rw [abZ (by omega)] at u2;refine aG.go ((j+1,m - kid.items.length)) [1,4,34,35,36] (by exact vT) ?_ ?_
    ·show ks.length - (j+1)<ks.length - j;omega
    ·exact ⟨by simp only;omega,u2⟩
   ·rw [ab3 (by omega)] at u2;refine aG.go ((kid,m)) [1,4,6] (by exact vT) ?_ ?_
    ·show kid.ht<(T.inner g ks).ht;rw [hkw.1,T.ht_inner];omega
    ·exact ⟨hkw.2,by simp only;omega,u2⟩
  ·rw [abo hj] at u2;simp [T.itemsL] at u2
theorem QV (t:Option T) (i:Nat) (hi:(an t).length≤i) (hs:i≤1000000) :
 ap Tryz.prog G0 89 [.d (aU t),iv i] [] 0 (.tup [.d (fQ ⟨0,0,0,0,0,0,⟨#[]⟩⟩),iv 1]) []:=by
 have r1:=ik t;have e0:(aq (an t)).n=(an t).length:=cC _;rw [aU] at r1 ⊢;refine vF ab [0,1,4,5,6,7,8,10,11,20,30,34,35,36,37,45] Tryz.func89 rfl Tryz.results89 Tryz.ntmps89 ?_;(refine' lK r1)
structure Tk (t:Option T):Prop where
 wf:Dy t
 ht:Dv t≤1000000
 len:(an t).length≤30000
 ok : ∀i∈an t,cd i
abbrev Ia:It:=⟨0,0,0,0,0,0,⟨#[]⟩⟩
theorem Qc (t:Option T) (k:Tk t) (i:Nat) (hs:i≤1000000):ap Tryz.prog G0 89 [.d (aU t),iv i] [] 0 (.tup [.d (fQ ((an t).getD i Ia)),iv (if i<(an t).length then 0 else 1)]) []:=by
 by_cases hi:i<(an t).length
 ·rw [aa3 hi];have hg:(an t)[i]? = some ((an t).getD i Ia):=by simp [abT,hi]
  cases t with
  | none=>simp [an] at hi
  | some t=>exact Nu t i _ k.wf (by have:=k.len;simp only [an] at this;omega) hg
 ·rw [aaY hi];have hg:(an t).getD i Ia=Ia:=by simp [abT,hi]
  rw [hg];exact QV t i (by omega) hs
end Go.Proofs.YtkkanlcjjpoklaaGreatDoor
