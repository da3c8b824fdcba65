/- What the theorem leans on, part 15. -/
import Derived.Test.YtkkanlcjjpoklaaGreatDoorSpTPAM
import Derived.Test.YtkkanlcjjpoklaaGreatDoorSpTPAN
set_option linter.unusedSimpArgs false
set_option linter.unusedVariables false
set_option maxRecDepth 8000
namespace Go.Proofs.YtkkanlcjjpoklaaGreatDoor
def lJ (s:Sm) (vis:Int):D:= .agg [.lit (.int .i64 s.n),.lit (.int .i64 s.n),.lit (.int .i64 s.d0),.lit (.int .i64 s.d1),.lit (.int .i64 s.d2),.lit (.int .i64 s.mx),.lit (.int .i64 s.pos),.lit (.int .i64 vis)]
theorem wJ (d:Nat):lY Sm.zero d=0:=by unfold lY;split<;>rfl
set_option maxHeartbeats 1600000 in
theorem Al (d:Nat) (hd:d≤3) (v b:Int) (hv:v=0) (hb:b=0∨b=1) :
 aq Tryz.prog G0 88 [.d (aU none),iv d,iv v,iv b] [] 0 (.tup [.d (lJ Sm.zero 0),iv 0]) []:=by
 have r1:=jp none;have r2:=tX none;have r3:=kM Sm.zero d hd;have hz:=wJ d;simp only [ak,kR] at r1;rw [aU] at r1 r2 ⊢;rw [hz] at r3;simp only [bZ] at r1 r2 ⊢;simp only [tK,E6,Aa,Ab,Ac,Ad,xa] at r1 r3;refine vF ab [0,1,2,3,6,7,8,9,10,11,12,13,14,15,17,18,19,20,22,23,50,57,68,72,73,74,75,87,97,101,102,103,104,116] Tryz.func88 rfl Tryz.results88 Tryz.ntmps88 ?_;(refine' M4 r1 r2 r3)
 refine vL (lv:=[0,1,2,3,6,7,8,9,10,11,12,13,14,15,17,18,19,20,22,23,50,57,68,72,73,74,75,87,97,101,102,103,104,116]) ab (Ng d v b) (fun x=>x=(none,Sm.zero,0)) (fun _=>0) ((none,Sm.zero,0)) (aN.frz 0<|aN.frz 4<|(aN.go [1,8,11,12,13] (by exact vT) rfl)) ?_ ?_
 ·rfl
 rintro x rfl;(refine' zo)
 all_goals rfl
set_option maxHeartbeats 1600000 in
theorem Cv (t:Option T) (d:Nat) (hd:d≤3) (v b:Int) (hv:v<0∨lY (ao (ak t)) d<v) :
 aq Tryz.prog G0 88 [.d (aU t),iv d,iv v,iv b] [] 0 (.tup [.d (lJ Sm.zero 0),iv 1]) []:=by
 have r1:=jp t;have r3:=kM (ao (ak t)) d hd;rw [aU] at r1 ⊢;refine vF ab [0,1,2,3,6,7,8,9,10,11,12,13,14,15,17,18,19,20,22,23,50,57,68,72,73,74,75,87,97,101,102,103,104,116] Tryz.func88 rfl Tryz.results88 Tryz.ntmps88 ?_;(refine' Ag r1 r3)
 all_goals rfl
structure CA (d:Nat) (v b:Int) (L:List It) (j:Nat):Prop where
 le:j≤L.length
 below : ∀i,0<i→i≤j→ba d v b (ao (L.take i))=false
 here:j<L.length→ba d v b (ao (L.take (j+1)))=true
theorem zero_add (l:List It):aS Sm.zero (ao l)=ao l:=by
 have:=iJ [] l;rw [List.nil_append] at this;exact this.symm
theorem rg (t:Option T) (k:Tk t) (d:Nat) (hd:d≤3) (v b:Int) (hv0:0≤v) (hv:v≤lY (ao (ak t)) d) (hb:b=0∨b=1) :
 ∃j vis:Nat,CA d v b (ak t) j∧vis≤xf t∧aq Tryz.prog G0 88 [.d (aU t),iv d,iv v,iv b] [] 0 (.tup [.d (lJ (ao ((ak t).take j)) vis),iv 0]) []:=by
 cases t with
 | none=>
  simp only [ak,kR,wJ] at hv ⊢;exact ⟨0,0,⟨Nat.le_refl _,fun i h1 h2=>by omega,fun h=>by simp at h⟩,Nat.le_refl _,Al d hd v b (by omega) hb⟩
 | some t=>
  obtain ⟨w1,w2,w3,w4⟩:=k;simp only [yU,xf,ak] at w1 w2 w3 w4 hv ⊢;obtain ⟨j,h1,h2,h3,h4⟩:=rO (ba d v b) t.items Sm.zero (Int.le_refl 0);have e:=qU (Eb d hd v b) t Sm.zero (Int.le_refl 0) w1 w4;have f:=Am t d hd v b w1 w2 (by omega) w4 hv0 hv hb _ rfl;have hvis:=gX (R:=ba d v b) t Sm.zero w1;rw [e,h2,zero_add] at f;refine ⟨j,(fx (ba d v b) t Sm.zero).2,⟨h1,fun i q1 q2 =>?_,fun q =>?_⟩,hvis.2,f⟩
  ·have:=h3 i q1 q2;rwa [zero_add] at this
  ·have:=h4 q;rwa [zero_add] at this
def mS (t:Option T) (j:Nat) (vis:Int):bu:= .cell [.d (aU t),iv j,iv (ao ((ak t).take j)).n,iv (ao ((ak t).take j)).d0,iv (ao ((ak t).take j)).d1,iv (ao ((ak t).take j)).d2,iv (ao ((ak t).take j)).mx,iv (ao ((ak t).take j)).pos,iv vis]
attribute [push_cast] mS.eq_def
theorem zU (t:Option T):aq Tryz.prog G0 270 [.d (aU t)] [] 0 (.po 0 0) [(0,mS t 0 0)]:=by
 rw [aU];simp only [mS,List.take_zero,kR,aU];refine vF ab [0,2] Tryz.func270 rfl Tryz.results270 Tryz.ntmps270 ?_;(refine' zg)
 refine ah.now [12] (by decide) ?_;(refine' zg);first|exact ay _|exact ar.cons rfl ar.nil|exact ar.cons rfl (ar.cons rfl ar.nil)|exact ar.nil
theorem lQ (t:Option T) (j:Nat) (vis:Int):aq Tryz.prog G0 248 [.po 0 0] [(0,mS t j vis)] 1 (.d (tK (ao ((ak t).take j)))) [(0,mS t j vis)]:=by
 simp only [mS];refine vF ab [0,2,4] Tryz.func248 rfl Tryz.results248 Tryz.ntmps248 ?_;(refine' zg)
 refine ah.now [] (by decide) ?_;(refine' zg);first|exact ay _|exact ar.cons rfl ar.nil|exact ar.cons rfl (ar.cons rfl ar.nil)|exact ar.nil
theorem kK (t:Option T) (k:Tk t) (j:Nat) (hj:j≤1000000) (vis:Int):aq Tryz.prog G0 250 [.po 0 0] [(0,mS t j vis)] 1 (.tup [.d (gK ((ak t).getD j Gu)),bv (decide (j<(ak t).length))]) [(0,mS t j vis)]:=by
 have r1:=Kv t k j hj;have e1:((if j<(ak t).length then (0:Int) else 1)==0)=decide (j<(ak t).length):=by split<;>simp_all
 simp only [mS];refine vF ab [0,2,3,4,5,7] Tryz.func250 rfl Tryz.results250 Tryz.ntmps250 ?_;(repeat' (first|(with_reducible first|exact True.intro|refine vD ?_|refine vG ?_|refine vE ?_)|with_reducible refine vQ (r1) ?_|with_reducible refine vC (r1) ?_|(simp -implicitDefEqProofs -dsimp only [e1])|refine vR ?_|refine v6 ?_|with_reducible refine vN ?_|((with_reducible first|refine vB (fun h =>?_) (fun h =>?_)|refine vM (fun h =>?_) (fun h =>?_))<;>(first|(exfalso;omega)|skip))))
 refine ah.now [] (by decide) ?_;(refine' zg);first|exact ay _|exact ar.cons rfl ar.nil|exact ar.cons rfl (ar.cons rfl ar.nil)|exact ar.nil
theorem G6 (t:Option T) (k:Tk t) (j:Nat) (hj:j≤1000000) (vis:Int):aq Tryz.prog G0 273 [.po 0 0] [(0,mS t j vis)] 1 (.d (tK (ao ((ak t).take (j+1))))) [(0,mS t j vis)]:=by
 have r1:=kK t k j hj vis;have r2:=lQ t j vis;have hk:=k.len;have o1:eQ (ao ((ak t).take j)):=i4 _ (fun y hy=>k.ok y (List.mem_of_mem_take hy)) (by simp;omega);by_cases hl:j<(ak t).length
 ·obtain ⟨x,hx⟩ : ∃x,(ak t)[j]? = some x:=⟨_,List.getElem?_eq_getElem hl⟩
  have hg:(ak t).getD j Gu=x:=by simp [List.getD_eq_getElem?_getD,hx]
  have e1:(ak t).take (j+1)=(ak t).take j++[x]:=cS hx;have hok:=k.ok x (List.mem_of_getElem? hx);have r3:=Cx x;have r4:=nC _ _ o1 (oT hok);rw [hg,decide_eq_true hl] at r1;rw [e1,fT];simp only [mS] at r1 r2 ⊢;refine vF ab [0,2,3,4,11] Tryz.func273 rfl Tryz.results273 Tryz.ntmps273 ?_;(repeat' (first|(with_reducible first|exact True.intro|refine vD ?_|refine vG ?_|refine vE ?_)|with_reducible refine EY (r1) ?_|with_reducible refine Pm (r2) ?_|with_reducible refine vQ (r3) ?_|with_reducible refine vQ (r4) ?_|refine vR ?_|refine v6 ?_|with_reducible refine vN ?_|((with_reducible first|refine vB (fun h =>?_) (fun h =>?_)|refine vM (fun h =>?_) (fun h =>?_))<;>(first|(exfalso;omega)|skip))))
  refine ah.now [] (by decide) ?_;(refine' zg);first|exact ay _|exact ar.cons rfl ar.nil|exact ar.cons rfl (ar.cons rfl ar.nil)|exact ar.nil
 ·have e1:(ak t).take (j+1)=(ak t).take j:=by rw [List.take_of_length_le (by omega),List.take_of_length_le (by omega)]
  rw [decide_eq_false hl] at r1;rw [e1];simp only [mS] at r1 r2 ⊢;refine vF ab [0,2,3,4,11] Tryz.func273 rfl Tryz.results273 Tryz.ntmps273 ?_;(repeat' (first|(with_reducible first|exact True.intro|refine vD ?_|refine vG ?_|refine vE ?_)|with_reducible refine EY (r1) ?_|with_reducible refine EY (r2) ?_|refine vR ?_|refine v6 ?_|with_reducible refine vN ?_|((with_reducible first|refine vB (fun h =>?_) (fun h =>?_)|refine vM (fun h =>?_) (fun h =>?_))<;>(first|(exfalso;omega)|skip))))
  refine ah.now [] (by decide) ?_;(refine' zg);first|exact ay _|exact ar.cons rfl ar.nil|exact ar.cons rfl (ar.cons rfl ar.nil)|exact ar.nil
theorem En (t:Option T) (k:Tk t) (j:Nat) (hj:j<(ak t).length) (vis:Int):aq Tryz.prog G0 252 [.po 0 0] [(0,mS t j vis)] 1 (bv true) [(0,mS t (j+1) vis)]:=by
 have hk:=k.len;have r1:=kK t k j (by omega) vis;have r2:=G6 t k j (by omega) vis;rw [decide_eq_true hj] at r1;simp only [mS] at r1 r2 ⊢;refine vF ab [0,2,4,11] Tryz.func252 rfl Tryz.results252 Tryz.ntmps252 ?_;(repeat' (first|(with_reducible first|exact True.intro|refine vD ?_|refine vG ?_|refine vE ?_)|with_reducible refine EY (r1) ?_|with_reducible refine EY (r2) ?_|refine vR ?_|refine v6 ?_|with_reducible refine vN ?_|((with_reducible first|refine vB (fun h =>?_) (fun h =>?_)|refine vM (fun h =>?_) (fun h =>?_))<;>(first|(exfalso;omega)|skip))))
 refine ah.now [] (by decide) ?_;(refine' zg);first|exact ay _|exact ar.cons rfl ar.nil|exact ar.cons rfl (ar.cons rfl ar.nil)|exact ar.nil
theorem JZ (t:Option T) (k:Tk t) (j0:Nat) (vis0:Int) (d:Nat) (hd:d≤3) (v b:Int) (hv0:0≤v) (hv:v≤lY (ao (ak t)) d) (hb:b=0∨b=1) :
 ∃j vis:Nat,CA d v b (ak t) j∧aq Tryz.prog G0 271 [.po 0 0,iv d,iv v,iv b] [(0,mS t j0 vis0)] 1 (iv 0) [(0,mS t j vis)]:=by
 obtain ⟨j,vis,sp,-,r1⟩:=rg t k d hd v b hv0 hv hb;have e1:(ao ((ak t).take j)).n=j:=by rw [eJ,List.length_take,Nat.min_eq_left sp.le]
 refine ⟨j,vis,sp,?_⟩;simp only [mS,lJ] at r1 ⊢;refine vF ab [0,1,2,3,8,9,10,12,25] Tryz.func271 rfl Tryz.results271 Tryz.ntmps271 ?_;(refine' l9 r1)
 refine ah.now [] (by decide) ?_;(refine' zg)
 rw [e1];first|exact ay _|exact ar.cons rfl ar.nil|exact ar.cons rfl (ar.cons rfl ar.nil)|exact ar.nil
theorem G7 (t:Option T) (j0:Nat) (vis0:Int) (d:Nat) (hd:d≤3) (v b:Int) (hv:v<0∨lY (ao (ak t)) d<v) :
 aq Tryz.prog G0 271 [.po 0 0,iv d,iv v,iv b] [(0,mS t j0 vis0)] 1 (iv 1) [(0,mS t j0 vis0)]:=by
 have r1:=Cv t d hd v b hv;simp only [mS,lJ] at r1 ⊢;refine vF ab [0,1,2,3,8,9,10,12,25] Tryz.func271 rfl Tryz.results271 Tryz.ntmps271 ?_;(refine' l9 r1)
 refine ah.now [] (by decide) ?_;(refine' zg);first|exact ay _|exact ar.cons rfl ar.nil|exact ar.cons rfl (ar.cons rfl ar.nil)|exact ar.nil
structure Rp (l:List Int) (ps:List (List Int)) (t:Option T):Prop where
 items:ak t=ps.map dZ
 flat:ps.flatten=l
 val:Cn l
 wf:yU t
 ht:xf t≤1000000
 pcs : ∀p∈ps,1≤p.length∧p.length≤16
 len:l.length≤20000
def a5 (t:Option T):D:= .pd 1 [.agg [aU t]] 0 0
theorem nj : ∀ps:List (List Int),(∀p∈ps,1≤p.length)→ps.length≤ps.flatten.length
 | [],_=>Nat.le_refl _
 | p::r,h=>by
  have:=h p (by simp);have:=nj r (fun q hq=>h q (by simp [hq]));rw [List.flatten_cons,List.length_append,List.length_cons];omega
theorem Ie {p:List Int} (h:p.length≤1000):bx (dZ p):=by
 have h1:=bX p;have h2:=eV p;unfold bx dZ;simp only;omega
section
variable {l:List Int} {ps:List (List Int)} {t:Option T}
theorem Rp.n (R:Rp l ps t):ps.length≤20000:=by
 have:=nj ps (fun p hp=>(R.pcs p hp).1);have:=R.len;rw [←R.flat] at this;omega
theorem Rp.tk (R:Rp l ps t):Tk t:=by
 refine ⟨R.wf,R.ht,?_,?_⟩
 ·rw [R.items,List.length_map];have:=R.n;omega
 ·rw [R.items];intro i hi;obtain ⟨p,hp,rfl⟩:=List.mem_map.1 hi;exact Ie (by have:=R.pcs p hp;omega)
theorem Rp.sum (R:Rp l ps t):(ao (ak t)).n=ps.length∧(ao (ak t)).d0=(aA l).length∧(ao (ak t)).d1=l.length∧(ao (ak t)).d2=aO l:=by
 have:=tR ps;rw [R.flat] at this;rw [R.items];exact this
theorem Rp.take (R:Rp l ps t) (j:Nat):(ak t).take j=(ps.take j).map dZ:=by rw [R.items,List.map_take]
theorem Rp.at (R:Rp l ps t) (j:Nat):(ak t).getD j Gu=dZ (ps.getD j []):=by
 rw [R.items,List.getD_eq_getElem?_getD,List.getD_eq_getElem?_getD,List.getElem?_map];cases ps[j]? <;> rfl
end
theorem iw (t:Option T):aq Tryz.prog G0 135 [.d (a5 t)] [] 0 (.d (aU t)) []:=by
 rw [a5,aU];refine vF ab [0,2,4] Tryz.func135 rfl Tryz.results135 Tryz.ntmps135 ?_;(refine' zo)
theorem G2 (t:Option T):aq Tryz.prog G0 77 [.d (a5 t),iv 1] [] 0 (iv (ao (ak t)).d1) []:=by
 refine vF ab [0,1,4] Tryz.func77 rfl Tryz.results77 Tryz.ntmps77 ?_;(refine' Ag (iw t) (jp t))
section
variable {l:List Int} {ps:List (List Int)} {t:Option T}
theorem eh (R:Rp l ps t):aq Tryz.prog G0 30 [.d (a5 t)] [] 0 (iv l.length) []:=by
 rw [←R.sum.2.2.1];refine vF ab [0,2] Tryz.func30 rfl Tryz.results30 Tryz.ntmps30 ?_;(refine' qe (G2 t))
def zY (s:Sm) (i:It) (b:Int):D:= .agg [.lit (.int .i64 s.n),.lit (.int .i64 s.d0),.lit (.int .i64 s.d1),.lit (.int .i64 s.d2),.lit (.int .i64 s.mx),.lit (.int .i64 s.pos),.lit (.int .i64 i.tag),.lit (.int .i64 i.id),.lit (.int .i64 i.d0),.lit (.int .i64 i.d1),.lit (.int .i64 i.d2),.lit (.int .i64 i.mx),.lit (.string i.text),.lit (.int .i64 b)]
attribute [push_cast] zY.eq_def
set_option maxHeartbeats 1600000 in
theorem pf (k:Tk t) (d:Nat) (hd:d≤3) (v b:Int) (hv0:0≤v) (hv:v≤lY (ao (ak t)) d) (hb:b=0∨b=1) :
 ∃j vis:Nat,CA d v b (ak t) j∧aq Tryz.prog G0 246 [.d (a5 t),iv d,iv v,iv b] [] 0 (.tup [.d (zY (ao ((ak t).take j)) ((ak t).getD j Gu) 0),.po 0 0,iv 0]) [(0,mS t j vis)]:=by
 obtain ⟨j,vis,sp,r1⟩:=JZ t k 0 0 d hd v b hv0 hv hb;have hk:=k.len;have r2:=kK t k j (by have:=sp.le;omega) vis;have r3:=lQ t j vis;have r0:=zU t;refine ⟨j,vis,sp,?_⟩;refine vF ab [0,1,2,3,8,9,10,11,12,13,24] Tryz.func246 rfl Tryz.results246 Tryz.ntmps246 ?_;(repeat' (first|(with_reducible first|exact True.intro|refine vD ?_|refine vG ?_|refine vE ?_)|with_reducible refine vQ (iw t) ?_|with_reducible refine vC (iw t) ?_|with_reducible refine vK (r0) ?_|with_reducible refine vO (r1) ?_|with_reducible refine EY (r2) ?_|with_reducible refine Pm (r3) ?_|refine vR ?_|refine v6 ?_|with_reducible refine vN ?_|((with_reducible first|refine vB (fun h =>?_) (fun h =>?_)|refine vM (fun h =>?_) (fun h =>?_))<;>(first|(exfalso;omega)|skip))))
 refine ah.now [20] (by decide) ?_;(refine' zg);first|exact ay _|exact ar.cons rfl ar.nil|exact ar.cons rfl (ar.cons rfl ar.nil)|exact ar.nil
theorem BQ (t:Option T) (d:Nat) (hd:d≤3) (v b:Int) (hv:v<0∨lY (ao (ak t)) d<v) :
 aq Tryz.prog G0 246 [.d (a5 t),iv d,iv v,iv b] [] 0 (.tup [.d (zY Sm.zero Gu 0),.d (.lit (.pointer none)),iv 1]) []:=by
 have r0:=zU t;have r1:=G7 t 0 0 d hd v b hv;refine vF ab [0,1,2,3,8,9,10,11,12,13,24] Tryz.func246 rfl Tryz.results246 Tryz.ntmps246 ?_;(repeat' (first|(with_reducible first|exact True.intro|refine vD ?_|refine vG ?_|refine vE ?_)|with_reducible refine ah.out ?_|with_reducible refine vQ (iw t) ?_|with_reducible refine vC (iw t) ?_|with_reducible refine vK (r0) ?_|with_reducible refine vO (r1) ?_|refine vR ?_|refine v6 ?_|with_reducible refine vN ?_|((with_reducible first|refine vB (fun h =>?_) (fun h =>?_)|refine vM (fun h =>?_) (fun h =>?_))<;>(first|(exfalso;omega)|skip))))
end
structure Pl (l:List Int) (a:Nat) (s:Sm) (u q w:List Int):Prop where
 eq:l=u++(q++w)
 d0:s.d0=(aA u).length
 d1:s.d1=u.length
 d2:s.d2=aO u
 lo:u.length≤a
 hi:a≤u.length+q.length
 lt:a<l.length→a<u.length+q.length
 sz:q.length≤16
theorem tD (a:Nat) (b:Int) (hb:b=1) (s:Sm):ba 1 a b s=decide ((a:Int)<s.d1):=by
 subst hb;simp [ba,lY]
section
variable {l:List Int} {ps:List (List Int)} {t:Option T}
theorem Rp.getD_sz (R:Rp l ps t) (j:Nat):(ps.getD j []).length≤16:=by
 rw [List.getD_eq_getElem?_getD];cases h:ps[j]? with
 | none=>simp
 | some p=>exact (R.pcs p (List.mem_of_getElem? h)).2
theorem Rp.flat_j (R:Rp l ps t) (j:Nat):l=(ps.take j).flatten++(ps.getD j []++(ps.drop (j+1)).flatten):=by
 rw [←R.flat,List.getD_eq_getElem?_getD];cases h:ps[j]? with
 | none=>
  have:ps.length≤j:=List.getElem?_eq_none_iff.1 h;rw [List.take_of_length_le this,List.drop_of_length_le (by omega)];simp
 | some p=>exact Gh h
theorem Rp.flat_j1 (R:Rp l ps t) (j:Nat):(ps.take (j+1)).flatten=(ps.take j).flatten++ps.getD j []:=by
 rw [List.getD_eq_getElem?_getD];cases h:ps[j]? with
 | none=>
  have:ps.length≤j:=List.getElem?_eq_none_iff.1 h;rw [List.take_of_length_le this,List.take_of_length_le (by omega)];simp
 | some p=>exact A8 h
theorem Rp.sum_j (R:Rp l ps t) (j:Nat):(ao ((ak t).take j)).n=(ps.take j).length∧(ao ((ak t).take j)).d0=(aA (ps.take j).flatten).length∧(ao ((ak t).take j)).d1=(ps.take j).flatten.length∧(ao ((ak t).take j)).d2=aO (ps.take j).flatten:=by
 rw [R.take];exact J2 ps j
theorem Rp.len' (R:Rp l ps t):(ak t).length=ps.length:=by rw [R.items,List.length_map]
theorem zZ (R:Rp l ps t) {a j:Nat} (ha:a≤l.length) (sp:CA 1 a 1 (ak t) j):Pl l a (ao ((ak t).take j)) (ps.take j).flatten (ps.getD j []) (ps.drop (j+1)).flatten:=by
 obtain ⟨h1,h2,h3,h4⟩:=R.sum_j j;have e:=R.flat_j j;have hlo:(ps.take j).flatten.length≤a:=by
  rcases Nat.eq_zero_or_pos j with h|h
  ·subst h;simp
  ·have:=sp.below j h (Nat.le_refl _);rw [tD _ _ rfl,decide_eq_false_iff_not,h3] at this;omega
 have hlt:a<l.length→a<(ps.take j).flatten.length+(ps.getD j []).length:=fun hal=>by
  rcases Nat.lt_or_ge j ps.length with hj|hj
  ·have:=sp.here (by rw [R.len'];exact hj);obtain ⟨_,_,g3,_⟩:=R.sum_j (j+1);rw [tD _ _ rfl,decide_eq_true_eq,g3,R.flat_j1,List.length_append] at this;omega
  ·rw [List.take_of_length_le hj,R.flat] at hlo;omega
 refine ⟨e,h2,h3,h4,hlo,?_,hlt,R.getD_sz j⟩;rcases Nat.lt_or_ge a l.length with h|h
 ·have:=hlt h;omega
 ·have hl:=congrArg List.length e;simp only [List.length_append] at hl;rcases Nat.lt_or_ge j ps.length with hj|hj
  ·have:=sp.here (by rw [R.len'];exact hj);obtain ⟨_,_,g3,_⟩:=R.sum_j (j+1);rw [tD _ _ rfl,decide_eq_true_eq,g3,R.flat_j1,List.length_append] at this;omega
  ·rw [List.take_of_length_le hj,R.flat];omega
end
def Nt (a:Nat) (s:Sm) (q:List Int) (i:Nat):St:=⟨[(1,iv a),(4,.po 0 0),(6,.po 1 0),(9,iv (s.d1+i)),(34,.it 2)],[(0,.cell [iv 0,iv 0,iv 0,iv 0,iv 0,iv 0,iv 0,iv 0,iv 0,iv 0,iv 0,iv 0,.d (.lit (.string ⟨#[]⟩)),iv 0]),
 (1,.cell [iv s.n,iv s.d0,iv s.d1,iv s.d2,iv s.mx,iv s.pos,iv (dZ q).tag,iv (dZ q).id,iv (dZ q).d0,iv (dZ q).d1,iv (dZ q).d2,iv (dZ q).mx,.d (.lit (.string (c8 q))),iv (c8 q).size]),(2,.iter (c8 q) (aA (q.take i)).length)],3⟩
attribute [push_cast] Nt.eq_def
theorem GO (q:List Int):(dZ q).text=c8 q:=rfl
attribute [push_cast] GO
section
variable {l:List Int} {ps:List (List Int)} {t:Option T}
theorem Lp (s:Sm):lY s 1=s.d1:=rfl
theorem rX {q:List Int} {i:Nat} {r:Int} (h:q[i]? = some r):(aA (q.take (i+1))).length=(aA (q.take i)).length+(Utf8.encode r).size:=by
 rw [cS h,aP,List.length_append,iR,Array.length_toList];rfl
theorem C6 {q:List Int} (hv:Cn q) {i:Nat} {r:Int} (h:q[i]? = some r):((Utf8.decode (c8 q) (aA (q.take i)).length).1:Int)=r∧(Utf8.decode (c8 q) (aA (q.take i)).length).2=(Utf8.encode r).size:=by
 have e:q.take i++r::q.drop (i+1)=q:=by rw [←cm h,List.take_append_drop]
 have:=sH (q.take i) (q.drop (i+1)) r (hv r (List.mem_of_getElem? h));rwa [e] at this
theorem xE {q:List Int} {i:Nat} (h:i<q.length):(aA (q.take i)).length<(c8 q).size:=by
 have:=zh q h (Nat.le_refl _);rw [List.take_of_length_le (Nat.le_refl _)] at this;rw [bh];exact this
theorem F4 {q:List Int} {i:Nat} (h:q.length≤i):(aA (q.take i)).length=(c8 q).size:=by rw [List.take_of_length_le h,bh]
set_option maxHeartbeats 1600000 in
theorem o2 (R:Rp l ps t) (a:Nat) (ha:a≤l.length) :
 ∃s u q w,Pl l a s u q w∧aq Tryz.prog G0 211 [.d (a5 t),iv a] [] 0 (.tup [.d (zY s (dZ q) (aA (q.take (a - u.length))).length),iv 0]) []:=by
 have hlen:=R.len;obtain ⟨j,vis,sp,r1⟩:=pf R.tk 1 (by decide) (a:Int) 1 (by omega) (by rw [Lp,R.sum.2.2.1];omega) (.inr rfl);have p:=zZ R ha sp;rw [R.at j] at r1;refine ⟨_,_,_,_,p,?_⟩;have hvq:Cn (ps.getD j []):=fun x hx=>R.val x (by rw [p.eq];exact List.mem_append_right _ (List.mem_append_left _ hx))
 generalize ao ((ak t).take j)=s at p r1;generalize (ps.take j).flatten=u at p r1;generalize ps.getD j []=q at p r1 hvq;generalize (ps.drop (j+1)).flatten=w at p;obtain ⟨e,d0,d1,d2,lo,hi,lt,sz⟩:=p;have hq64:=bX q;refine vF ab [0,1,4,5,6,8,9,10,19,34,35,36,40] Tryz.func211 rfl Tryz.results211 Tryz.ntmps211 ?_;(refine' Ku r1)
 refine vL (lv:=[0,1,4,5,6,8,9,10,19,34,35,36,40]) ab (Nt a s q) (fun i=>i≤q.length∧u.length+i≤a) (fun i=>q.length - i) (0) ((aN.go [1,4,6,9,34] (by exact vT) rfl)) ?_ ?_
 ·exact ⟨Nat.zero_le _,lo⟩
 rintro i ⟨h1,h2⟩;rcases Nat.lt_or_ge i q.length with hlt|hge
 ·obtain ⟨r,hr⟩ : ∃r,q[i]? = some r:=⟨_,List.getElem?_eq_getElem hlt⟩
  have hin:=xE hlt;obtain ⟨g1,g2⟩:=C6 hvq hr;have g3:=rX hr;(refine' zg)
  ·obtain rfl:i=a - u.length:=by omega
   refine ah.now [] (by decide) ?_;(refine' zg);first|exact ay _|exact ar.cons rfl ar.nil|exact ar.cons rfl (ar.cons rfl ar.nil)|exact ar.nil
  ·refine bH.go (i+1) [1,4,6,9,34] (by rw [Nt,g3,←g2];exact vT) ?_ ?_
   ·show q.length - (i+1)<q.length - i;omega
   ·exact ⟨hlt,by omega⟩
 ·have hout:=F4 hge;(refine' zg)
  obtain rfl:i=a - u.length:=by omega
  rw [hout];refine ah.now [] (by decide) ?_;(refine' zg);first|exact ay _|exact ar.cons rfl ar.nil|exact ar.cons rfl (ar.cons rfl ar.nil)|exact ar.nil
end
section
variable {l:List Int} {ps:List (List Int)} {t:Option T}
theorem Pl.take {a:Nat} {s:Sm} {u q w:List Int} (p:Pl l a s u q w):l.take a=u++q.take (a - u.length):=by
 have h1:=p.lo;have h2:=p.hi;rw [p.eq,List.take_append,List.take_of_length_le (l:=u) (by omega),List.take_append,show a - u.length - q.length=0 by omega,List.take_zero,List.append_nil]
theorem qI (R:Rp l ps t) (a:Nat) (ha:a≤l.length):aq Tryz.prog G0 247 [.d (a5 t),iv a] [] 0 (.tup [iv (aA (l.take a)).length,iv 0]) []:=by
 obtain ⟨s,u,q,w,p,r1⟩:=o2 R a ha;have hlen:=R.len;have e:=bX (l.take a);have e0:s.d0+((aA (q.take (a - u.length))).length:Int)=(aA (l.take a)).length:=by
  rw [p.take,aP,List.length_append,p.d0];omega
 have e1:(l.take a).length≤a:=by simp;omega
 rw [←e0];refine vF ab [0,1,4,5,6,7,15] Tryz.func247 rfl Tryz.results247 Tryz.ntmps247 ?_;(refine' qe r1)
end
def Pk (x y:List Int) (r:Int):Bool→St
 | false=>⟨[(0,.d (.lit (.string (c8 (x++r::y))))),(1,iv (aA x).length),(6,.d (.lit (.int .i32 0))),(20,.it 0)],[(0,.iter (c8 (r::y)) 0)],1⟩
 | true=>⟨[(0,.d (.lit (.string (c8 (x++r::y))))),(1,iv (aA x).length),(6,.d (.lit (.int .i32 r))),(20,.it 0)],[(0,.iter (c8 (r::y)) (Utf8.encode r).size)],1⟩
attribute [push_cast] Pk.eq_1 Pk.eq_2
theorem ET (x y:List Int) (i j:Nat) (hi:i=(aA x).length) (hj:j=(c8 (x++y)).size):(c8 (x++y)).extract i j=c8 y:=by
 have:=tZ x y [] i j hi (by rw [hj,bh,aP,List.length_append]);rwa [List.append_nil] at this
set_option maxHeartbeats 1600000 in
theorem EU (x y:List Int) (r:Int) (hv:Utf8.valid r=true) (hl:(x++r::y).length≤1000000) :
 aq Tryz.prog G0 212 [.d (.lit (.string (c8 (x++r::y)))),iv (aA x).length] [] 0 (.tup [.d (.lit (.int .i32 r)),iv (Utf8.encode r).size]) []:=by
 have hs:(c8 (x++r::y)).size=(aA x).length+((Utf8.encode r).size+(aA y).length):=by
  rw [bh,aP,fE,List.length_append,List.length_append,Array.length_toList];rfl
 have hs2:(c8 (r::y)).size=(Utf8.encode r).size+(aA y).length:=by rw [bh,fE,List.length_append,Array.length_toList];rfl
 have hp:1≤(Utf8.encode r).size:=by have:=zi r;rw [Array.length_toList] at this;exact this
 have h4:=bX (x++r::y);rw [aP,fE,List.length_append,List.length_append,Array.length_toList] at h4;change (aA x).length+((Utf8.encode r).size+(aA y).length)≤_ at h4;have hc : ∀i j,i=(aA x).length→j=(c8 (x++r::y)).size→(c8 (x++r::y)).extract i j=c8 (r::y):=fun i j h1 h2=>ET x (r::y) i j h1 h2
 obtain ⟨d1,d2⟩:=sH [] y r hv;simp only [eu,List.length_nil,List.nil_append] at d1 d2;refine vF ab [0,1,4,5,6,7,8,16,20,21,22,26] Tryz.func212 rfl Tryz.results212 Tryz.ntmps212 ?_;(repeat' (first|(with_reducible first|exact True.intro|refine vD ?_|refine vG ?_|refine vE ?_)|refine vR ?_|refine v3 ?_|with_reducible refine vN ?_|((with_reducible first|refine vB (fun h =>?_) (fun h =>?_)|refine vM (fun h =>?_) (fun h =>?_))<;>(first|(exfalso;omega)|skip))))
 rw [hc _ _ (by omega) (by omega)];(repeat' (first|(with_reducible first|exact True.intro|refine vD ?_|refine vG ?_|refine vE ?_)|refine vR ?_|refine v3 ?_|with_reducible refine vN ?_|((with_reducible first|refine vB (fun h =>?_) (fun h =>?_)|refine vM (fun h =>?_) (fun h =>?_))<;>(first|(exfalso;omega)|skip))))
 refine vL (lv:=[0,1,4,5,6,7,8,16,20,21,22,26]) ab (Pk x y r) (fun _=>True) (fun b=>if b then 0 else 1) (false) ((aN.go [0,1,6,20] (by exact vT) rfl)) ?_ ?_
 ·trivial
 rintro b -
 cases b with
 | false=>
  (repeat' (first|(with_reducible first|exact True.intro|refine vD ?_|refine vG ?_|refine vE ?_)|refine vR ?_|refine v3 ?_|with_reducible refine vN ?_|((with_reducible first|refine vB (fun h =>?_) (fun h =>?_)|refine vM (fun h =>?_) (fun h =>?_))<;>(first|(exfalso;omega)|skip))))
  refine bH.go (true) [0,1,6,20] (by rw [d1,d2];exact vT) ?_ ?_
  ·simp
  ·trivial
 | true=>
  (repeat' (first|(with_reducible first|exact True.intro|refine vD ?_|refine vG ?_|refine vE ?_)|refine vR ?_|refine v3 ?_|with_reducible refine vN ?_|((with_reducible first|refine vB (fun h =>?_) (fun h =>?_)|refine vM (fun h =>?_) (fun h =>?_))<;>(first|(exfalso;omega)|skip))))
  ·refine ah.now [] (by decide) ?_;(refine' zg);first|exact ay _|exact ar.cons rfl ar.nil|exact ar.cons rfl (ar.cons rfl ar.nil)|exact ar.nil
  ·have e:((c8 (x++r::y)).size:Int) - (aA x).length=(Utf8.encode r).size:=by omega
   rw [e];refine ah.now [] (by decide) ?_;(refine' zg);first|exact ay _|exact ar.cons rfl ar.nil|exact ar.cons rfl (ar.cons rfl ar.nil)|exact ar.nil
section
variable {l:List Int} {ps:List (List Int)} {t:Option T}
theorem JO (R:Rp l ps t) (a:Nat) (r:Int) (hr:l[a]? = some r):aq Tryz.prog G0 157 [.d (a5 t),iv a] [] 0 (.tup [.d (.lit (.int .i32 r)),iv 0]) []:=by
 have ha:=(List.getElem?_eq_some_iff.1 hr).1;obtain ⟨s,u,q,w,p,r1⟩:=o2 R a (by omega);have h1:=p.lo;have h2:=p.lt ha;have h3:=p.sz;have hq:q[a - u.length]? = some r:=by
  have:=p.eq;rw [this,List.getElem?_append_right h1,List.getElem?_append_left (by omega)] at hr;exact hr
 have hin:=xE (q:=q) (i:=a - u.length) (by omega);have r2:=EU (q.take (a - u.length)) (q.drop (a - u.length+1)) r (R.val r (List.mem_of_getElem? hr)) (by rw [←cm hq,List.take_append_drop];omega);rw [←cm hq,List.take_append_drop] at r2;have e4:=bX q;have e5:=bh q;refine vF ab [0,1,4,5,6,7,8,26] Tryz.func157 rfl Tryz.results157 Tryz.ntmps157 ?_;(refine' Ag r1 r2)
theorem CP:({ data :=#[10] } : ByteArray).size=1:=rfl
theorem IE:((#[10]:Array UInt8).getD 0 0).toNat=10:=rfl
attribute [push_cast] CP IE
theorem Aj (q:List Int) (hv:Cn q) (hl:q.length≤1000000):aq Tryz.prog G0 228 [.d (.lit (.string (c8 q))),.d (.lit (.string ⟨#[10]⟩))] [] 0 (iv (aO q)) []:=by
 have e:uv (c8 q) (10:Int).toNat.toUInt8=aO q:=CX q hv;have e2:=eV q;rw [←e];refine vF ab [0,1,4,5,6,9,15,24] Tryz.func228 rfl Tryz.results228 Tryz.ntmps228 ?_;(refine' zo)
 refine vX (iv (uv (c8 q) (10:Int).toNat.toUInt8)) ?_;(refine' zo)
theorem Cr (R:Rp l ps t) (a:Nat) (ha:a≤l.length):aq Tryz.prog G0 168 [.d (a5 t),iv a] [] 0 (.tup [iv (aO (l.take a)),iv 0]) []:=by
 obtain ⟨s,u,q,w,p,r1⟩:=o2 R a ha;have h1:=p.lo;have h2:=p.hi;have h3:=p.sz;have hlen:=R.len;have hvq:Cn (q.take (a - u.length)):=fun x hx=>R.val x (by rw [p.eq];exact List.mem_append_right _ (List.mem_append_left _ (List.mem_of_mem_take hx)))
 have e0:s.d2+(aO (q.take (a - u.length)):Int)=aO (l.take a):=by rw [p.take,eo,p.d2];omega
 have e1:=eV (l.take a);have e2:=dW q (a - u.length);have e3:=bX q;have e5:=bh q;have e6:(l.take a).length≤a:=by simp;omega
 have hc : ∀i j,i=0→j=(aA (q.take (a - u.length))).length→(c8 q).extract i j=c8 (q.take (a - u.length)):=fun i j hi hj=>by
  have:=tZ [] (q.take (a - u.length)) (q.drop (a - u.length)) i j hi (by rw [hj,eu];simp);rwa [List.nil_append,List.take_append_drop] at this
 have r2:=Aj (q.take (a - u.length)) hvq (by simp;omega);rw [←e0];refine vF ab [0,1,4,5,6,7,15] Tryz.func168 rfl Tryz.results168 Tryz.ntmps168 ?_;(refine' qe r1)
 rw [hc _ _ (by omega) (by omega)];(refine' qe r2)
end
def MH (k:Int) (s:Sm) (q:List Int) (i:Nat):St:=⟨[(1,iv k),(9,iv (s.d1+i)),(10,iv (s.d2+aO (q.take i))),(36,.it 0)],[(0,.iter (c8 q) (aA (q.take i)).length)],1⟩
attribute [push_cast] MH.eq_def gS eu
theorem J3 (s:Sm):lY s 2=s.d2:=rfl
theorem zR (k:Nat) (b:Int) (hb:b=0) (s:Sm):ba 2 k b s=decide ((k:Int)≤s.d2):=by
 subst hb;unfold ba;rw [J3,Bool.eq_iff_iff];simp only [Bool.or_eq_true,Bool.and_eq_true,decide_eq_true_eq,beq_iff_eq,true_and];omega
section
variable {l:List Int} {ps:List (List Int)} {t:Option T}
theorem uc (t:Option T):aq Tryz.prog G0 214 [.d (a5 t),iv 0] [] 0 (.tup [iv 0,iv 0]) []:=by
 refine vF ab [0,1,4,5,6,8,9,10,12,14,23,36,37,38,43,48] Tryz.func214 rfl Tryz.results214 Tryz.ntmps214 ?_;(refine' zo)
theorem xl (R:Rp l ps t) (k:Int) (hk:k<0∨(aO l:Int)<k):aq Tryz.prog G0 214 [.d (a5 t),iv k] [] 0 (.tup [iv 0,iv 1]) []:=by
 have r1:=BQ t 2 (by decide) k 0 (by rw [J3,R.sum.2.2.2];exact hk);refine vF ab [0,1,4,5,6,8,9,10,12,14,23,36,37,38,43,48] Tryz.func214 rfl Tryz.results214 Tryz.ntmps214 ?_;(refine' qe r1)
set_option maxHeartbeats 1600000 in
theorem Ai (R:Rp l ps t) (k:Nat) (hk:k≤aO l):aq Tryz.prog G0 214 [.d (a5 t),iv k] [] 0 (.tup [iv (mR l k),iv 0]) []:=by
 rcases Nat.eq_zero_or_pos k with rfl|hk0
 ·rw [xu];exact uc t
 have hlen:=R.len;obtain ⟨j,vis,sp,r1⟩:=pf R.tk 2 (by decide) (k:Int) 0 (by omega) (by rw [J3,R.sum.2.2.2];omega) (.inl rfl);rw [R.at j] at r1;have e:=R.flat_j j;obtain ⟨_,d0,d1,d2⟩:=R.sum_j j;have hsz:=R.getD_sz j;have hbu:aO (ps.take j).flatten<k:=by
  rcases Nat.eq_zero_or_pos j with h|h
  ·subst h;simpa [aO] using hk0
  ·have:=sp.below j h (Nat.le_refl _);rw [zR _ _ rfl,decide_eq_false_iff_not,d2] at this;omega
 have hbq:k≤aO (ps.take j).flatten+aO (ps.getD j []):=by
  rcases Nat.lt_or_ge j ps.length with hj|hj
  ·have:=sp.here (by rw [R.len'];exact hj);obtain ⟨_,_,_,g4⟩:=R.sum_j (j+1);rw [zR _ _ rfl,decide_eq_true_eq,g4,R.flat_j1,eo] at this;omega
  ·rw [List.take_of_length_le hj,R.flat] at hbu;omega
 have hvq:Cn (ps.getD j []):=fun x hx=>R.val x (by rw [e];exact List.mem_append_right _ (List.mem_append_left _ hx))
 have hul:=congrArg List.length e;simp only [List.length_append] at hul;generalize ao ((ak t).take j)=s at r1 d0 d1 d2;generalize (ps.take j).flatten=u at *
 generalize ps.getD j []=q at *
 generalize (ps.drop (j+1)).flatten=w at *
 have hq64:=bX q;have hbl:=eV u;have hbr:=eV q;have b0:aO ([]:List Int)=0:=rfl;refine vF ab [0,1,4,5,6,8,9,10,12,14,23,36,37,38,43,48] Tryz.func214 rfl Tryz.results214 Tryz.ntmps214 ?_;(refine' Ku r1)
 refine vL (lv:=[0,1,4,5,6,8,9,10,12,14,23,36,37,38,43,48]) ab (MH k s q) (fun i=>i≤q.length∧aO u+aO (q.take i)<k) (fun i=>q.length - i) (0) ((aN.go [1,9,10,36] (by exact vT) rfl)) ?_ ?_
 ·exact ⟨Nat.zero_le _,by rw [List.take_zero,gS];omega⟩
 rintro i ⟨h1,h2⟩;have hb3:=jV q i;rcases Nat.lt_or_ge i q.length with hlt|hge
 ·obtain ⟨r,hr⟩ : ∃r,q[i]? = some r:=⟨_,List.getElem?_eq_getElem hlt⟩
  have hin:=xE hlt;obtain ⟨g1,g2⟩:=C6 hvq hr;have g3:=rX hr;have g4:aO (q.take (i+1))=aO (q.take i)+(if r=10 then 1 else 0):=by rw [cS hr,qN]
  have fin:r=10→aO u+aO (q.take i)+1=k→mR l k=u.length+i+1:=fun h10 hkk=>by
   have e3:q++w=q.take i++(r::q.drop (i+1)++w):=by rw [←List.append_assoc,←cm hr,List.take_append_drop]
   rw [e,fu u _ k (by omega),e3,fu _ _ _ (by omega),show k - aO u - aO (q.take i)=1 by omega,List.cons_append,mR,if_pos h10,xu,List.length_take,Nat.min_eq_left (by omega)];omega
  (refine' zo)
  ·rw [fin (by omega) (by omega),d1];congr 4
  ·rw [g1] at *
   rw [if_pos (by assumption)] at g4;refine bH.go (i+1) [1,9,10,36] (by rw [MH,g3,g4,←g2];exact vT) ?_ ?_
   ·show q.length - (i+1)<q.length - i;omega
   ·exact ⟨hlt,by omega⟩
  ·rw [g1] at *
   rw [if_neg (by assumption)] at g4;refine bH.go (i+1) [1,9,10,36] (by rw [MH,g3,g4,←g2];exact vT) ?_ ?_
   ·show q.length - (i+1)<q.length - i;omega
   ·exact ⟨hlt,by omega⟩
 ·rw [List.take_of_length_le hge] at h2;omega
end
abbrev M9:Option Nat:=some 396
def Fc:bu:= .cell [.d (.lit (.pointer none)),.d (.lit (.slice none 0 0))] M9
def xd (a r n:Nat):bu:= .cell [.po a 0,.so r 1 0 n] M9
def ja (b:List UInt8):bu:= .row 1 (b.map Cj) (some 5)
attribute [push_cast] Fc.eq_def xd.eq_def ja.eq_def
@[push_cast] theorem Qw:Fj Tryz.prog 394=some 396:=by kernel_rfl
@[push_cast] theorem Qx:Fj Tryz.prog 426=none:=by kernel_rfl
@[push_cast] theorem Qy:Kt Tryz.prog 426=true:=by kernel_rfl
@[push_cast] theorem QA:Kt Tryz.prog 394=false:=by kernel_rfl
@[push_cast] theorem Q4:Lq Tryz.prog 396=true:=by kernel_rfl
@[push_cast] theorem Q0:KM Tryz.prog 318=some 5:=by kernel_rfl
@[push_cast] theorem QZ:Tryz.prog.cellsOf 396=2:=by kernel_rfl
@[push_cast] theorem Pj:Fj Tryz.prog 418=some 5:=by kernel_rfl
@[push_cast] theorem Mr:Tryz.prog.cellsOf 5=1:=by kernel_rfl
@[push_cast] theorem Q1:Nu Tryz.prog 394=true:=by kernel_rfl
theorem FS:decide True=true:=rfl
attribute [push_cast] List.isEmpty_cons FS
section
variable {P:Program} {G:Gl} {g:Operand→V} {σ:ae} {id:Nat} {K:V→ae→Prop}
@[push_cast] theorem JN (x:Operand) (t:Nat):aH P G (.call ⟨.builtin .unsafeSliceData,#[x],#[t]⟩) g σ id K=gE (yS (g x)) (fun v=>K v []):=by
 simp only [aH,aW,bD,gU,aR,d5];cases yS (g x) with
 | none=>rfl
 | some x=>obtain ⟨p,v⟩:=x;rfl
@[push_cast] theorem Lo (x n:Operand) (t t':Nat):aG P G (.call ⟨.builtin .unsafeString,#[x,n],#[t,t']⟩) g σ id K=da (HA P t (g x) (g n) σ) K:=by
 simp only [aG,cz,aW,bD,gU,aR,eR,d5];cases HA P t (g x) (g n) σ with
 | none=>rfl
 | some x=>obtain ⟨p,v,s⟩:=x;simp [da,bT]
end
theorem J6 {P:Program} {pt id n e:Nat} {b:List UInt8} {σ:ae} (hg:σ.get id=some (.row 1 (b.map Cj) (some e))) (hp:Fj P pt=some e) (hc:P.cellsOf e=1) (hn:b.length=n) (h0:0<n) (hm:n≤1000000) :
 HA P pt (.pe id 1 0 0) (iv n) σ=some (∀y∈b.map Cj,lC y,.d (.lit (.string ⟨b.toArray⟩)),σ.del id):=by
 have e1:(b.map Cj).take ((n:Int)).toNat=b.map Cj:=List.take_of_length_le (by simp;omega);simp only [HA,hg,hp,hc,e1,qO];rw [if_pos];refine ⟨⟨?_,?_⟩,?_,?_,?_,?_,?_⟩<;>first|trivial|(simp;omega)
theorem II:aq Tryz.prog G0 272 [.po 0 0] [(0,Fc)] 1 (.tup []) [(0,.cell [.po 0 0,.d (.lit (.slice none 0 0))] M9)]:=by
 simp only [Fc,xd,ja];refine vF ab [0,6,19] Tryz.func272 rfl Tryz.results272 Tryz.ntmps272 ?_;(refine' zg)
 refine vX (.po 0 0) ?_;(refine' zg)
 refine ah.now [] (by decide) ?_;(refine' zg);first|exact ay _|exact ar.cons rfl ar.nil|exact ar.cons rfl (ar.cons rfl ar.nil)|exact ar.nil
theorem IJ (n:Nat) (b:List UInt8):aq Tryz.prog G0 272 [.po 0 0] [(0,xd 0 1 n),(1,ja b)] 2 (.tup []) [(0,xd 0 1 n),(1,ja b)]:=by
 simp only [Fc,xd,ja];refine vF ab [0,6,19] Tryz.func272 rfl Tryz.results272 Tryz.ntmps272 ?_;(refine' zg)
 refine ah.now [] (by decide) ?_;(refine' zg);first|exact ay _|exact ar.cons rfl ar.nil|exact ar.cons rfl (ar.cons rfl ar.nil)|exact ar.nil
theorem HN:aq Tryz.prog G0 249 [.po 0 0] [(0,Fc)] 1 (iv 0) [(0,Fc)]:=by
 simp only [Fc];refine vF ab [0,2] Tryz.func249 rfl Tryz.results249 Tryz.ntmps249 ?_;(refine' zg)
 refine ah.now [] (by decide) ?_;(refine' zg);first|exact ay _|exact ar.cons rfl ar.nil|exact ar.cons rfl (ar.cons rfl ar.nil)|exact ar.nil
theorem HO (n:Nat) (b:List UInt8):aq Tryz.prog G0 249 [.po 0 0] [(0,xd 0 1 n),(1,ja b)] 2 (iv n) [(0,xd 0 1 n),(1,ja b)]:=by
 simp only [xd,ja];refine vF ab [0,2] Tryz.func249 rfl Tryz.results249 Tryz.ntmps249 ?_;(refine' zg)
 refine ah.now [] (by decide) ?_;(refine' zg);first|exact ay _|exact ar.cons rfl ar.nil|exact ar.cons rfl (ar.cons rfl ar.nil)|exact ar.nil
theorem FB (s:ByteArray) (hs:s.size≤1000000):aq Tryz.prog G0 251 [.po 0 0,.d (.lit (.string s))] [(0,Fc)] 1 (.tup [iv s.size,.d (.lit .nilIface)]) [(0,xd 0 1 s.size),(1,ja s.data.toList)]:=by
 have r1:=II;simp only [Fc,xd,ja] at r1 ⊢;refine vF ab [0,1,4,5] Tryz.func251 rfl Tryz.results251 Tryz.ntmps251 ?_;(refine' Pq r1)
 refine ah.now [41] (by decide) ?_;(refine' zg)
 exact ar.cons rfl (ar.cons rfl ar.nil)
theorem FC (b:List UInt8) (n:Nat) (hn:b.length=n) (hn':n≤1000000) (s:ByteArray) (hs:s.size≤1000000):aq Tryz.prog G0 251 [.po 0 0,.d (.lit (.string s))] [(0,xd 0 1 n),(1,ja b)] 2 (.tup [iv s.size,.d (.lit .nilIface)]) [(0,xd 0 2 (n+s.size)),(2,ja (b++s.data.toList))]:=by
 have r1:=IJ n b;simp only [xd,ja] at r1 ⊢;refine vF ab [0,1,4,5] Tryz.func251 rfl Tryz.results251 Tryz.ntmps251 ?_;(refine' zg)
 refine aB.two 0 1 r1 ?_;(refine' zg)
 have e:(b++s.data.toList).length=n+s.size:=by rw [List.length_append,hn,Array.length_toList];rfl
 rw [e];refine ah.now [42] (by decide) ?_;(refine' zg)
 exact ar.cons rfl (ar.cons rfl ar.nil)
theorem FA (b:List UInt8) (n:Nat) (hn:b.length=n) (h0:0<n) (hn':n≤1000000):aq Tryz.prog G0 253 [.po 0 0] [(0,xd 0 1 n),(1,ja b)] 2 (.d (.lit (.string ⟨b.toArray⟩))) []:=by
 simp only [xd,ja];refine vF ab [0,2] Tryz.func253 rfl Tryz.results253 Tryz.ntmps253 ?_;(repeat' (first|(with_reducible first|exact True.intro|refine vD ?_|refine vG ?_|refine vE ?_)|(simp -implicitDefEqProofs -dsimp only [if_pos h0])|refine vR ?_|refine v6 ?_|with_reducible refine vN ?_|((with_reducible first|refine vB (fun h =>?_) (fun h =>?_)|refine vM (fun h =>?_) (fun h =>?_))<;>(first|(exfalso;omega)|skip))))
 rw [J6 rfl Pj Mr hn h0 hn'];(refine' zo)
theorem iL {α:Type} (l:List α) {i j:Nat} (h:i≤j):l.take j=l.take i++(l.take j).drop i:=by
 conv=>lhs;rw [←List.take_append_drop i (l.take j),List.take_take,Nat.min_eq_left h]
def Lk (t:Option T) (ps:List (List Int)) (j:Nat) (vis:Int) (a b:Nat):Nat→St
 | 0=>⟨[(8,iv a),(10,iv b),(12,.po 0 0),(14,.po 1 0),(15,iv (ao ((ak t).take j)).d0)],[(0,mS t j vis),(1,Fc)],2⟩
 | i+1=>⟨[(8,iv a),(10,iv b),(12,.po 0 0),(14,.po 1 0),(15,iv (ao ((ak t).take j)).d0)],[(0,mS t (j+(i+1)) vis),(1,xd 1 2 (aA ((ps.drop j).take (i+1)).flatten).length),(2,ja (aA ((ps.drop j).take (i+1)).flatten))],3⟩
attribute [push_cast] Lk.eq_1 Lk.eq_2
theorem sY (ps:List (List Int)) (j i:Nat):(ps.take (j+i)).flatten=(ps.take j).flatten++((ps.drop j).take i).flatten:=by
 rw [List.take_add,List.flatten_append]
theorem n5 {ps:List (List Int)} {j i:Nat} {q:List Int} (h:ps[j+i]? = some q):((ps.drop j).take (i+1)).flatten=((ps.drop j).take i).flatten++q:=by
 rw [List.take_add_one,List.getElem?_drop,h,List.flatten_append];simp
section
variable {l:List Int} {ps:List (List Int)} {t:Option T}
theorem EB {l u X:List Int} {from' to m:Nat} (hu:u=l.take u.length) (h1:u.length≤from') (h2:from'≤to) (hm:to≤m) (hX:u++X=l.take m) (i j:Nat) (hi:i+(aA u).length=(aA (l.take from')).length) (hj:j+(aA u).length=(aA (l.take to)).length) :
 (c8 X).extract i j=c8 ((l.take to).drop from'):=by
 have e1:=iL l h1;have e2:=iL l h2;have e3:=iL l hm;rw [←hu] at e1;have eX:X=(l.take from').drop u.length++((l.take to).drop from'++(l.take m).drop to):=by
  have:u++X=u++((l.take from').drop u.length++((l.take to).drop from'++(l.take m).drop to)):=by
   rw [hX];conv=>lhs;rw [e3,e2,e1]
   simp only [List.append_assoc]
  exact List.append_cancel_left this
 rw [eX];have g1:=congrArg (fun x=>(aA x).length) e1;have g2:=congrArg (fun x=>(aA x).length) e2;simp only [aP,List.length_append] at g1 g2;exact tZ _ _ _ i j (by omega) (by omega)
set_option maxHeartbeats 3200000 in
theorem BO (R:Rp l ps t) (from' to:Nat) (h1:from'≤to) (h2:to≤l.length):aq Tryz.prog G0 218 [.d (a5 t),iv from',iv to] [] 0 (.tup [.d (.lit (.string (c8 ((l.take to).drop from')))),iv 0]) []:=by
 have ra:=qI R from' (by omega);have rb:=qI R to h2;have hlen:=R.len;obtain ⟨j,vis,sp,r1⟩:=pf R.tk 1 (by decide) (from':Int) 1 (by omega) (by rw [Lp,R.sum.2.2.1];omega) (.inr rfl);have p:=zZ R (by omega) sp;have e0:=p.d0;have hul:=p.lo;have hu:(ps.take j).flatten=l.take (ps.take j).flatten.length:=by
  conv=>rhs;rw [R.flat_j j]
  rw [List.take_left]
 have hst:=lQ t j vis;have hjle:=sp.le;rw [R.len'] at hjle;have hn:=R.n;have hbb:=dW l to;have hab:=bX l;have haa:=dW l from';obtain ⟨a,ea⟩ : ∃a,a=(aA (l.take from')).length:=⟨_,rfl⟩
 obtain ⟨b,eb⟩ : ∃b,b=(aA (l.take to)).length:=⟨_,rfl⟩
 obtain ⟨st,est⟩ : ∃st,st=(aA (ps.take j).flatten).length:=⟨_,rfl⟩
 rw [←ea] at ra haa;rw [←eb] at rb hbb;rw [←est] at e0;have fin : ∀i,j+i≤ps.length→b≤st+(aA ((ps.drop j).take i).flatten).length→to≤(ps.take (j+i)).flatten.length:=fun i hi hb=>by
  have e1:=sY ps j i;have e2:(ps.take (j+i)).flatten=l.take (ps.take (j+i)).flatten.length:=by
   conv=>rhs;rw [R.flat_j (j+i)]
   rw [List.take_left]
  have e3:(aA (ps.take (j+i)).flatten).length=st+(aA ((ps.drop j).take i).flatten).length:=by rw [e1,aP,List.length_append,est]
  rcases Nat.lt_or_ge (ps.take (j+i)).flatten.length to with hlt|hge
  ·have:=zh l hlt h2;rw [←e2] at this;omega
  ·exact hge
 have mon:(aA (ps.take j).flatten).length≤(aA (l.take from')).length:=by
  rw [hu];have e:=iL l hul;have g:=congrArg (fun x=>(aA x).length) e;simp only [aP,List.length_append] at g;omega
 have mon2:(aA (l.take from')).length≤(aA (l.take to)).length:=by
  have e:=iL l h1;have g:=congrArg (fun x=>(aA x).length) e;simp only [aP,List.length_append] at g;omega
 refine vF ab [0,1,2,6,7,8,9,10,12,14,15,16,30,38,55,67] Tryz.func218 rfl Tryz.results218 Tryz.ntmps218 ?_;(repeat' (first|(with_reducible first|exact True.intro|refine vD ?_|refine vG ?_|refine vE ?_)|with_reducible refine vC (ra) ?_|with_reducible refine vC (rb) ?_|with_reducible refine vK (r1) ?_|with_reducible refine EY (hst) ?_|refine vR ?_|refine v6 ?_|with_reducible refine vN ?_|((with_reducible first|refine vB (fun h =>?_) (fun h =>?_)|refine vM (fun h =>?_) (fun h =>?_))<;>(first|(exfalso;omega)|skip))))
 refine vL (lv:=[0,1,2,6,7,8,9,10,12,14,15,16,30,38,55,67]) ab (Lk t ps j vis a b) (fun i=>j+i≤ps.length) (fun i=>ps.length - i) (0) ((aN.go [8,10,12,14,15] (by exact vT) rfl)) ?_ ?_
 ·omega
 intro i hi;have fini:=fin i hi;have e3:(aA (ps.take (j+i)).flatten).length=st+(aA ((ps.drop j).take i).flatten).length:=by rw [sY,aP,List.length_append,est]
 have e4:(ps.take (j+i)).flatten=l.take (ps.take (j+i)).flatten.length:=by
  conv=>rhs;rw [R.flat_j (j+i)]
  rw [List.take_left]
 have e5:=dW l (ps.take (j+i)).flatten.length;rw [←e4,e3] at e5;have done:b≤st+(aA ((ps.drop j).take i).flatten).length → ∀x y:Nat,x+st=a→y+st=b→(c8 ((ps.drop j).take i).flatten).extract x y=c8 ((l.take to).drop from'):=fun hb x y hx hy=>
  EB (m:=(ps.take (j+i)).flatten.length) hu hul h1 (fini hb) (by rw [←sY];exact e4) x y (by omega) (by omega)
 have hlt : ¬b≤st+(aA ((ps.drop j).take i).flatten).length→j+i<ps.length:=fun hb=>by
  rcases Nat.lt_or_ge (j+i) ps.length with h|h
  ·exact h
  ·rw [List.take_of_length_le h,R.flat] at e3;omega
 by_cases hb:b≤st+(aA ((ps.drop j).take i).flatten).length
 ·have dn:=done hb;cases i with
  | zero=>
   simp only [List.take_zero,List.flatten_nil,eu,List.length_nil,Nat.add_zero] at hb;have hft:from'=to:=by
    have:=fini (by simpa [eu] using hb);rw [Nat.add_zero] at this;omega
   have he:c8 ((l.take to).drop from')=⟨#[]⟩:=by
    rw [hft,List.drop_of_length_le (by simp;omega)];rfl
   rw [he];have r0:=HN;(repeat' (first|(with_reducible first|exact True.intro|refine vD ?_|refine vG ?_|refine vE ?_)|with_reducible refine EY (r0) ?_|with_reducible refine Pm (r0) ?_|with_reducible refine ah.out ?_|refine vR ?_|refine v6 ?_|with_reducible refine vN ?_|((with_reducible first|refine vB (fun h =>?_) (fun h =>?_)|refine vM (fun h =>?_) (fun h =>?_))<;>(first|(exfalso;omega)|skip))))
  | succ i=>
   have hX:=sP ((ps.drop j).take (i+1)).flatten;have h0:0<((ps.drop j).take (i+1)).flatten.length:=by
    have:=nj ((ps.drop j).take (i+1)) (fun p hp=>(R.pcs p (List.mem_of_mem_drop (List.mem_of_mem_take hp))).1);rw [List.length_take,List.length_drop] at this;omega
   have r0:=HO (aA ((ps.drop j).take (i+1)).flatten).length (aA ((ps.drop j).take (i+1)).flatten);have r2:=FA (aA ((ps.drop j).take (i+1)).flatten) _ rfl (by omega) (by omega);(refine' zg)
   refine aB.two 1 2 r0 ?_;(refine' zg)
   refine aB.two 1 2 r0 ?_;(refine' zg)
   refine aB.twoN 1 2 r2 ?_;have hsz:(⟨(aA ((ps.drop j).take (i+1)).flatten).toArray⟩:ByteArray).size=(aA ((ps.drop j).take (i+1)).flatten).length:=bh _;have dn' : ∀x y:Nat,x+st=a→y+st=b→(⟨(aA ((ps.drop j).take (i+1)).flatten).toArray⟩:ByteArray).extract x y=c8 ((l.take to).drop from'):=dn;(refine' zg)
   rw [dn' _ _ (by omega) (by omega)];(refine' zo)
 ·have hj:=hlt hb;obtain ⟨q,hq⟩ : ∃q,ps[j+i]? = some q:=⟨_,List.getElem?_eq_getElem hj⟩
  have hqd:ps.getD (j+i) []=q:=by rw [List.getD_eq_getElem?_getD,hq];rfl
  have hqs:=(R.pcs q (List.mem_of_getElem? hq)).2;have hq4:=bX q;have hq5:=bh q;have ri:=kK t R.tk (j+i) (by omega) vis;have rn:=En t R.tk (j+i) (by rw [R.len'];exact hj) vis;rw [R.at,hqd] at ri;have hd:=n5 hq;cases i with
  | zero=>
   have r0:=HN;have r3:=FB (c8 q) (by omega);rw [Nat.add_zero] at ri rn;simp only [List.take_zero,List.flatten_nil,eu,List.length_nil,Nat.add_zero] at hb;(repeat' (first|(with_reducible first|exact True.intro|refine vD ?_|refine vG ?_|refine vE ?_)|with_reducible refine EY (r0) ?_|with_reducible refine EY (ri) ?_|refine vR ?_|refine v6 ?_|with_reducible refine vN ?_|((with_reducible first|refine vB (fun h =>?_) (fun h =>?_)|refine vM (fun h =>?_) (fun h =>?_))<;>(first|(exfalso;omega)|skip))))
   refine aB.oneN 1 r3 ?_;(refine' Pq rn)
   rw [List.take_zero,List.flatten_nil,List.nil_append] at hd;refine bH.go (0+1) [8,10,12,14,15] (by rw [Lk,hd,bh,iM];exact vT) ?_ ?_
   ·show ps.length - 1<ps.length - 0;omega
   ·show j+1≤ps.length;omega
  | succ i=>
   have r0:=HO (aA ((ps.drop j).take (i+1)).flatten).length (aA ((ps.drop j).take (i+1)).flatten);have r3:=FC (aA ((ps.drop j).take (i+1)).flatten) _ rfl (by omega) (c8 q) (by omega);(refine' QE ri)
   refine aB.two 1 2 r0 ?_;(refine' QE ri)
   refine aB.twoN 1 2 r3 ?_;(refine' Pq rn)
   refine bH.go (i+1+1) [8,10,12,14,15] (by rw [Lk,hd,bh,iM,aP,List.length_append];exact vT) ?_ ?_
   ·show ps.length - (i+1+1)<ps.length - (i+1)
    omega
   ·show j+(i+1+1)≤ps.length;omega
end
def MM (l:List Int) (i:Nat):St:=⟨[(2,.po 0 0),(3,.po 1 0),(18,Ig l),(19,iv l.length),(20,iv i)],[(0,.cell [iv 0,iv 0,iv 0,iv 0,iv 0,iv 0,.d (.lit (.string ⟨#[]⟩))]),
 (1,.cell [iv 0,iv 0,iv (c8 l).size,iv l.length,iv (aO (l.take i)),iv 0,.d (.lit (.string (c8 l)))])],2⟩
attribute [push_cast] MM.eq_def
set_option maxHeartbeats 1600000 in
theorem yx (l:List Int) (hl:l.length≤1000000):aq Tryz.prog G0 117 [Ig l] [] 0 (.d (gK (dZ l))) []:=by
 have r1:aq Tryz.prog G0 119 [Ig l] [] 0 (.d (.lit (.string (c8 l)))) []:=Ak l (by omega);have hs:=bh l;refine vF ab [0,2,3,5,18,19,20,21,25] Tryz.func117 rfl Tryz.results117 Tryz.ntmps117 ?_;(refine' l9 r1)
 refine vL (lv:=[0,2,3,5,18,19,20,21,25]) ab (MM l) (fun i=>i≤l.length) (fun i=>l.length - i) (0) ((aN.go [2,3,18,19,20] (by exact vT) rfl)) ?_ ?_
 ·exact Nat.zero_le _
 intro i hi;have hb:=eV (l.take i);rw [List.length_take] at hb;(refine' zg)
 ·refine dV.intro fun r hr =>?_
  have g4:aO (l.take (i+1))=aO (l.take i)+(if r=10 then 1 else 0):=by rw [cS hr,qN]
  (refine' zg)
  ·rw [if_pos (by assumption)] at g4;refine bH.go (i+1) [2,3,18,19,20] (by rw [MM,g4];exact vT) ?_ ?_
   ·show l.length - (i+1)<l.length - i;omega
   ·show i+1≤l.length;omega
  ·rw [if_neg (by assumption)] at g4;refine bH.go (i+1) [2,3,18,19,20] (by rw [MM,g4];exact vT) ?_ ?_
   ·show l.length - (i+1)<l.length - i;omega
   ·show i+1≤l.length;omega
 ·have e:l.take i=l:=List.take_of_length_le (by omega);rw [e,hs];refine ah.out ?_;(refine' zg)
  rfl
theorem zb {n k m:Nat} (hn:n≤1000000000) (hk:0<k) (hm:m=n / k):IntKind.i64.wrap ((n:Int).tdiv (k:Int))=(m:Int):=by
 have e:(n:Int).tdiv (k:Int)=((n / k:Nat):Int):=rfl;have:=Nat.div_le_self n k;rw [e,←hm];exact M2 _ (by omega) (by omega)
def PA (x:Nat × List Int × List It):St:=⟨[(0,Ig x.2.1),(3,.so 0 7 0 x.2.2.length),(4,iv x.1)],[(0,.row 7 (x.2.2.map gK))],1⟩
attribute [push_cast] PA.eq_def
theorem Ha (es:List It) (i:It):es.map gK++[gK i]=(es++[i]).map gK:=by rw [List.map_append];rfl
set_option maxHeartbeats 1600000 in
theorem IR (l:List Int) (hl:l.length≤1000000):aq Tryz.prog G0 59 [Ig l] [] 0 (QR ((pcs l).map dZ)) []:=by
 obtain ⟨k0,hk0⟩ : ∃k0,k0=(l.length+15) / 16:=⟨_,rfl⟩
 have hd0:=zb (n:=l.length+15) (k:=16) (by omega) (by omega) hk0;have hd1:IntKind.i64.wrap (((l.length:Int)+16 - 1).tdiv 16)=(k0:Int):=by
  rw [show ((l.length:Int)+16 - 1)=((l.length+15:Nat):Int) by omega];exact hd0
 refine vF ab [0,2,3,4,5,12] Tryz.func59 rfl Tryz.results59 Tryz.ntmps59 ?_;(repeat' (first|(with_reducible first|exact True.intro|refine vD ?_|refine vG ?_|refine vE ?_)|(simp -implicitDefEqProofs -dsimp only [hd1])|refine vR ?_|refine v6 ?_|with_reducible refine vN ?_|((with_reducible first|refine vB (fun h =>?_) (fun h =>?_)|refine vM (fun h =>?_) (fun h =>?_))<;>(first|(exfalso;omega)|skip))))
 refine vL (lv:=[0,2,3,4,5,12]) ab (PA) (fun x=>x.2.1.length≤l.length∧x.1≤x.2.1.length∧x.2.1.length≤16*x.1∧x.2.2.length+x.1=k0∧x.2.2++(qp x.1 x.2.1).map dZ=(pcs l).map dZ) (fun x=>x.1) ((k0,l,[])) (aN.nil 3 7<|(aN.go [0,3,4] (by exact vT) rfl)) ?_ ?_
 ·refine ⟨Nat.le_refl _,by simp only;omega,by simp only;omega,by simp,?_⟩;simp only [List.nil_append,hk0];rfl
 rintro ⟨k,r,es⟩ ⟨h1,h2,h3,h4,h5⟩;simp only at h1 h2 h3 h4 h5;cases k with
 | zero=>
  have h6:es=(pcs l).map dZ:=by rw [←h5,qp];simp
  (refine' zg)
  refine ah.frz 0 (ah.out ?_);(refine' zg)
  rw [←List.map_map,←h6]
 | succ k=>
  obtain ⟨n,hn⟩ : ∃n,n=r.length / (k+1):=⟨_,rfl⟩
  have hd:=zb (n:=r.length) (k:=k+1) (by omega) (by omega) hn;have hnl:n≤r.length:=by rw [hn];exact Nat.div_le_self _ _
  have hn1:1≤n:=by rw [hn];exact (Nat.le_div_iff_mul_le (by omega)).2 (by omega)
  have hn16:n≤16:=by rw [hn];exact Nat.div_le_of_le_mul (by omega)
  have hmod:=Nat.div_add_mod r.length (k+1);have hml:=Nat.mod_lt r.length (show 0<k+1 by omega);rw [←hn] at hmod;have r1:=yx (r.take n) (by simp;omega);have hc:((k+1:Nat):Int)=(k:Int)+1:=by omega
  rw [hc] at hd;(repeat' (first|(with_reducible first|exact True.intro|refine vD ?_|refine vG ?_|refine vE ?_)|(simp -implicitDefEqProofs -dsimp only [hd])|with_reducible refine vQ (r1) ?_|with_reducible refine vC (r1) ?_|refine vR ?_|refine v6 ?_|with_reducible refine vN ?_|((with_reducible first|refine vB (fun h =>?_) (fun h =>?_)|refine vM (fun h =>?_) (fun h =>?_))<;>(first|(exfalso;omega)|skip))))
  rw [Ha];refine bH.go ((k,r.drop n,es++[dZ (r.take n)])) [0,3,4] (by exact vT) ?_ ?_
  ·show k<k+1;omega
  ·refine ⟨by simp only [List.length_drop];omega,?_,?_,by simp;omega,?_⟩
   ·simp only [List.length_drop];have:n*(k+1)≤r.length:=by rw [hn];exact Nat.div_mul_le_self _ _
    rw [Nat.mul_succ] at this;have:k≤n*k:=Nat.le_mul_of_pos_left k hn1;omega
   ·simp only [List.length_drop];rcases Nat.lt_or_ge n 16 with h16|h16
    ·have h7:=Nat.mul_le_mul_left k (show n+1≤16 by omega);rw [Nat.mul_succ] at h7;rw [Nat.succ_mul] at hmod;omega
    ·omega
   ·rw [←h5,qp,←hn];simp
section
theorem tC (s:ByteArray) (hs:s.size≤1000000000) (h:(aa s 0).length≤20000) : ∃ps t,Rp (aa s 0) ps t∧aq Tryz.prog G0 22 [sv s] [] 0 (.tup [.d (a5 t),iv 0]) []:=by
 have r1:=k8 s hs;have hv:=iB s s.size 0 (by omega);generalize aa s 0=l at *
 have r2:=IR l (by omega);have hp:=JL l;have hpl:(pcs l).length≤20000:=by
  have:=nj (pcs l) (fun p q=>(hp p q).1);rw [vW] at this;omega
 have hok : ∀i∈(pcs l).map dZ,bx i:=by
  intro i hi;obtain ⟨p,hq,rfl⟩:=List.mem_map.1 hi;exact Ie (by have:=hp p hq;omega)
 have r3:=sm ((pcs l).map dZ) (by simp;omega) hok;obtain ⟨w1,w2⟩:=nn ((pcs l).map dZ) _ (Nat.le_refl _);have w3:=ow ((pcs l).map dZ) _ (Nat.le_refl _);rw [List.take_of_length_le (by omega)] at w2;generalize c9 ((pcs l).map dZ) ((pcs l).map dZ).length=t at r3 w1 w2 w3;refine ⟨pcs l,t,⟨w2,vW l,hv,w1,by simp at w3;omega,hp,h⟩,?_⟩;rw [a5,aU] at *
 refine vF ab [0,2,3,4,5,6,11,19] Tryz.func22 rfl Tryz.results22 Tryz.ntmps22 ?_;(refine' M4 r1 r2 r3)
 refine ah.frz 80 (ah.out ?_);(refine' zg)
end
end Go.Proofs.YtkkanlcjjpoklaaGreatDoor
