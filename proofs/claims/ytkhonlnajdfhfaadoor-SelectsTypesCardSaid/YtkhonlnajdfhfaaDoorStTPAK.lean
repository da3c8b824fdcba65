/- What the theorem leans on, part 11. -/
import Derived.Test.YtkhonlnajdfhfaaDoorStTPAI
import Derived.Test.YtkhonlnajdfhfaaDoorStTPAJ
set_option linter.unusedSimpArgs false
set_option linter.unusedVariables false
set_option maxRecDepth 8000
namespace Go.Proofs.YtkhonlnajdfhfaaDoor
def rx (s:Sm) (vis:Int):D:= .agg [.lit (.int .i64 s.n),.lit (.int .i64 s.n),.lit (.int .i64 s.d0),.lit (.int .i64 s.d1),.lit (.int .i64 s.d2),.lit (.int .i64 s.mx),.lit (.int .i64 s.pos),.lit (.int .i64 vis)]
theorem p9 (d:Nat):me Sm.zero d=0:=by unfold me;split<;>rfl
set_option maxHeartbeats 1600000 in
theorem s8 (d:Nat) (hd:d≤3) (v b:Int) (hv:v=0) (hb:b=0∨b=1) :
 aG Tryd.prog G0 88 [.d (bI none),iv d,iv v,iv b] [] 0 (.tup [.d (rx Sm.zero 0),iv 0]) []:=by
 have r1:=kM none;have r2:=oj none;have r3:=kE Sm.zero d hd;have hz:=p9 d;simp only [ao,iP] at r1;rw [bI] at r1 r2 ⊢;rw [hz] at r3;simp only [cA] at r1 r2 ⊢;simp only [oc,xN,sW,sX,sZ,s4,qe] at r1 r3;refine vF ab [0,1,2,3,6,7,8,9,10,11,12,13,14,15,17,18,19,20,22,23,50,57,68,72,73,74,75,87,97,101,102,103,104,116] Tryd.func88 rfl Tryd.results88 Tryd.ntmps88 ?_;(refine' Dr r1 r2 r3)
 refine vL (lv:=[0,1,2,3,6,7,8,9,10,11,12,13,14,15,17,18,19,20,22,23,50,57,68,72,73,74,75,87,97,101,102,103,104,116]) ab (DB d v b) (fun x=>x=(none,Sm.zero,0)) (fun _=>0) ((none,Sm.zero,0)) (a7.frz 0<|a7.frz 4<|(a7.go [1,8,11,12,13] (by exact vT) rfl)) ?_ ?_
 ·rfl
 rintro x rfl;(refine' zo)
 all_goals rfl
structure x6 (d:Nat) (v b:Int) (L:List It) (j:Nat):Prop where
 le:j≤L.length
 below : ∀i,0<i→i≤j→bo d v b (ar (L.take i))=false
 here:j<L.length→bo d v b (ar (L.take (j+1)))=true
theorem zero_add (l:List It):aS Sm.zero (ar l)=ar l:=by
 have:=iO [] l;rw [List.nil_append] at this;exact this.symm
theorem tV (t:Option T) (k:Tk t) (d:Nat) (hd:d≤3) (v b:Int) (hv0:0≤v) (hv:v≤me (ar (ao t)) d) (hb:b=0∨b=1) :
 ∃j vis:Nat,x6 d v b (ao t) j∧vis≤qg t∧aG Tryd.prog G0 88 [.d (bI t),iv d,iv v,iv b] [] 0 (.tup [.d (rx (ar ((ao t).take j)) vis),iv 0]) []:=by
 cases t with
 | none=>
  simp only [ao,iP,p9] at hv ⊢;exact ⟨0,0,⟨Nat.le_refl _,fun i h1 h2=>by omega,fun h=>by simp at h⟩,Nat.le_refl _,s8 d hd v b (by omega) hb⟩
 | some t=>
  obtain ⟨w1,w2,w3,w4⟩:=k;simp only [sV,qg,ao] at w1 w2 w3 w4 hv ⊢;obtain ⟨j,h1,h2,h3,h4⟩:=nd (bo d v b) t.items Sm.zero (Int.le_refl 0);have e:=mK (xe d hd v b) t Sm.zero (Int.le_refl 0) w1 w4;have f:=s9 t d hd v b w1 w2 (by omega) w4 hv0 hv hb _ rfl;have hvis:=fq (R:=bo d v b) t Sm.zero w1;rw [e,h2,zero_add] at f;refine ⟨j,(ef (bo d v b) t Sm.zero).2,⟨h1,fun i q1 q2 =>?_,fun q =>?_⟩,hvis.2,f⟩
  ·have:=h3 i q1 q2;rwa [zero_add] at this
  ·have:=h4 q;rwa [zero_add] at this
def mb (t:Option T) (j:Nat) (vis:Int):bP:= .cell [.d (bI t),iv j,iv (ar ((ao t).take j)).n,iv (ar ((ao t).take j)).d0,iv (ar ((ao t).take j)).d1,iv (ar ((ao t).take j)).d2,iv (ar ((ao t).take j)).mx,iv (ar ((ao t).take j)).pos,iv vis]
attribute [push_cast] mb.eq_def
theorem zk (t:Option T):aG Tryd.prog G0 72 [.d (bI t)] [] 0 (.po 0 0) [(0,mb t 0 0)]:=by
 rw [bI];simp only [mb,List.take_zero,iP,bI];refine vF ab [0,2] Tryd.func72 rfl Tryd.results72 Tryd.ntmps72 ?_;(refine' zg)
 refine ah.now [12] (by decide) ?_;(refine' zg);first|exact am _|exact aY.cons rfl aY.nil|exact aY.cons rfl (aY.cons rfl aY.nil)|exact aY.nil
theorem jh (t:Option T) (j:Nat) (vis:Int):aG Tryd.prog G0 54 [.po 0 0] [(0,mb t j vis)] 1 (.d (oc (ar ((ao t).take j)))) [(0,mb t j vis)]:=by
 simp only [mb];refine vF ab [0,2,4] Tryd.func54 rfl Tryd.results54 Tryd.ntmps54 ?_;(refine' zg)
 refine ah.now [] (by decide) ?_;(refine' zg);first|exact am _|exact aY.cons rfl aY.nil|exact aY.cons rfl (aY.cons rfl aY.nil)|exact aY.nil
theorem iI (t:Option T) (k:Tk t) (j:Nat) (hj:j≤1000000) (vis:Int):aG Tryd.prog G0 56 [.po 0 0] [(0,mb t j vis)] 1 (.tup [.d (mc ((ao t).getD j zY)),bv (decide (j<(ao t).length))]) [(0,mb t j vis)]:=by
 have r1:=BM t k j hj;have e1:((if j<(ao t).length then (0:Int) else 1)==0)=decide (j<(ao t).length):=by split<;>simp_all
 simp only [mb];refine vF ab [0,2,3,4,5,7] Tryd.func56 rfl Tryd.results56 Tryd.ntmps56 ?_;(repeat' (first|(with_reducible first|exact True.intro|refine vD ?_|refine vG ?_|refine vE ?_)|with_reducible refine vQ (r1) ?_|with_reducible refine vC (r1) ?_|(simp -implicitDefEqProofs -dsimp only [e1])|refine vR ?_|refine v6 ?_|with_reducible refine vN ?_|((with_reducible first|refine vB (fun h =>?_) (fun h =>?_)|refine vM (fun h =>?_) (fun h =>?_))<;>(first|(exfalso;omega)|skip))))
 refine ah.now [] (by decide) ?_;(refine' zg);first|exact am _|exact aY.cons rfl aY.nil|exact aY.cons rfl (aY.cons rfl aY.nil)|exact aY.nil
theorem zj (t:Option T) (k:Tk t) (j:Nat) (hj:j≤1000000) (vis:Int):aG Tryd.prog G0 76 [.po 0 0] [(0,mb t j vis)] 1 (.d (oc (ar ((ao t).take (j+1))))) [(0,mb t j vis)]:=by
 have r1:=iI t k j hj vis;have r2:=jh t j vis;have hk:=k.len;have o1:d5 (ar ((ao t).take j)):=iQ _ (fun y hy=>k.ok y (List.mem_of_mem_take hy)) (by simp;omega);by_cases hl:j<(ao t).length
 ·obtain ⟨x,hx⟩ : ∃x,(ao t)[j]? = some x:=⟨_,List.getElem?_eq_getElem hl⟩
  have hg:(ao t).getD j zY=x:=by simp [List.getD_eq_getElem?_getD,hx]
  have e1:(ao t).take (j+1)=(ao t).take j++[x]:=cQ hx;have hok:=k.ok x (List.mem_of_getElem? hx);have r3:=vf x;have r4:=kH _ _ o1 (lG hok);rw [hg,decide_eq_true hl] at r1;rw [e1,eB];simp only [mb] at r1 r2 ⊢;refine vF ab [0,2,3,4,11] Tryd.func76 rfl Tryd.results76 Tryd.ntmps76 ?_;(repeat' (first|(with_reducible first|exact True.intro|refine vD ?_|refine vG ?_|refine vE ?_)|with_reducible refine xK (r1) ?_|with_reducible refine Es (r2) ?_|with_reducible refine vQ (r3) ?_|with_reducible refine vQ (r4) ?_|refine vR ?_|refine v6 ?_|with_reducible refine vN ?_|((with_reducible first|refine vB (fun h =>?_) (fun h =>?_)|refine vM (fun h =>?_) (fun h =>?_))<;>(first|(exfalso;omega)|skip))))
  refine ah.now [] (by decide) ?_;(refine' zg);first|exact am _|exact aY.cons rfl aY.nil|exact aY.cons rfl (aY.cons rfl aY.nil)|exact aY.nil
 ·have e1:(ao t).take (j+1)=(ao t).take j:=by rw [List.take_of_length_le (by omega),List.take_of_length_le (by omega)]
  rw [decide_eq_false hl] at r1;rw [e1];simp only [mb] at r1 r2 ⊢;refine vF ab [0,2,3,4,11] Tryd.func76 rfl Tryd.results76 Tryd.ntmps76 ?_;(repeat' (first|(with_reducible first|exact True.intro|refine vD ?_|refine vG ?_|refine vE ?_)|with_reducible refine xK (r1) ?_|with_reducible refine xK (r2) ?_|refine vR ?_|refine v6 ?_|with_reducible refine vN ?_|((with_reducible first|refine vB (fun h =>?_) (fun h =>?_)|refine vM (fun h =>?_) (fun h =>?_))<;>(first|(exfalso;omega)|skip))))
  refine ah.now [] (by decide) ?_;(refine' zg);first|exact am _|exact aY.cons rfl aY.nil|exact aY.cons rfl (aY.cons rfl aY.nil)|exact aY.nil
theorem xl (t:Option T) (k:Tk t) (j:Nat) (hj:j<(ao t).length) (vis:Int):aG Tryd.prog G0 58 [.po 0 0] [(0,mb t j vis)] 1 (bv true) [(0,mb t (j+1) vis)]:=by
 have hk:=k.len;have r1:=iI t k j (by omega) vis;have r2:=zj t k j (by omega) vis;rw [decide_eq_true hj] at r1;simp only [mb] at r1 r2 ⊢;refine vF ab [0,2,4,11] Tryd.func58 rfl Tryd.results58 Tryd.ntmps58 ?_;(repeat' (first|(with_reducible first|exact True.intro|refine vD ?_|refine vG ?_|refine vE ?_)|with_reducible refine xK (r1) ?_|with_reducible refine xK (r2) ?_|refine vR ?_|refine v6 ?_|with_reducible refine vN ?_|((with_reducible first|refine vB (fun h =>?_) (fun h =>?_)|refine vM (fun h =>?_) (fun h =>?_))<;>(first|(exfalso;omega)|skip))))
 refine ah.now [] (by decide) ?_;(refine' zg);first|exact am _|exact aY.cons rfl aY.nil|exact aY.cons rfl (aY.cons rfl aY.nil)|exact aY.nil
theorem Bj (t:Option T) (k:Tk t) (j0:Nat) (vis0:Int) (d:Nat) (hd:d≤3) (v b:Int) (hv0:0≤v) (hv:v≤me (ar (ao t)) d) (hb:b=0∨b=1) :
 ∃j vis:Nat,x6 d v b (ao t) j∧aG Tryd.prog G0 73 [.po 0 0,iv d,iv v,iv b] [(0,mb t j0 vis0)] 1 (iv 0) [(0,mb t j vis)]:=by
 obtain ⟨j,vis,sp,-,r1⟩:=tV t k d hd v b hv0 hv hb;have e1:(ar ((ao t).take j)).n=j:=by rw [dK,List.length_take,Nat.min_eq_left sp.le]
 refine ⟨j,vis,sp,?_⟩;simp only [mb,rx] at r1 ⊢;refine vF ab [0,1,2,3,8,9,10,12,25] Tryd.func73 rfl Tryd.results73 Tryd.ntmps73 ?_;(refine' qj r1)
 refine ah.now [] (by decide) ?_;(refine' zg)
 rw [e1];first|exact am _|exact aY.cons rfl aY.nil|exact aY.cons rfl (aY.cons rfl aY.nil)|exact aY.nil
structure Rp (l:List Int) (ps:List (List Int)) (t:Option T):Prop where
 items:ao t=ps.map dk
 flat:ps.flatten=l
 val:CY l
 wf:sV t
 ht:qg t≤1000000
 pcs : ∀p∈ps,1≤p.length∧p.length≤16
 len:l.length≤20000
def ff (t:Option T):D:= .pd 1 [.agg [bI t]] 0 0
theorem kB : ∀ps:List (List Int),(∀p∈ps,1≤p.length)→ps.length≤ps.flatten.length
 | [],_=>Nat.le_refl _
 | p::r,h=>by
  have:=h p (by simp);have:=kB r (fun q hq=>h q (by simp [hq]));rw [List.flatten_cons,List.length_append,List.length_cons];omega
theorem Af {p:List Int} (h:p.length≤1000):ck (dk p):=by
 have h1:=dx p;have h2:=nB p;unfold ck dk;simp only;omega
section
variable {l:List Int} {ps:List (List Int)} {t:Option T}
theorem Rp.n (R:Rp l ps t):ps.length≤20000:=by
 have:=kB ps (fun p hp=>(R.pcs p hp).1);have:=R.len;rw [←R.flat] at this;omega
theorem Rp.tk (R:Rp l ps t):Tk t:=by
 refine ⟨R.wf,R.ht,?_,?_⟩
 ·rw [R.items,List.length_map];have:=R.n;omega
 ·rw [R.items];intro i hi;obtain ⟨p,hp,rfl⟩:=List.mem_map.1 hi;exact Af (by have:=R.pcs p hp;omega)
theorem Rp.sum (R:Rp l ps t):(ar (ao t)).n=ps.length∧(ar (ao t)).d0=(aD l).length∧(ar (ao t)).d1=l.length∧(ar (ao t)).d2=d9 l:=by
 have:=oi ps;rw [R.flat] at this;rw [R.items];exact this
theorem Rp.take (R:Rp l ps t) (j:Nat):(ao t).take j=(ps.take j).map dk:=by rw [R.items,List.map_take]
theorem Rp.at (R:Rp l ps t) (j:Nat):(ao t).getD j zY=dk (ps.getD j []):=by
 rw [R.items,List.getD_eq_getElem?_getD,List.getD_eq_getElem?_getD,List.getElem?_map];cases ps[j]? <;> rfl
end
theorem lU (t:Option T):aG Tryd.prog G0 69 [.d (ff t)] [] 0 (.d (bI t)) []:=by
 rw [ff,bI];refine vF ab [0,2,4] Tryd.func69 rfl Tryd.results69 Tryd.ntmps69 ?_;(refine' zo)
theorem zh (t:Option T):aG Tryd.prog G0 51 [.d (ff t),iv 1] [] 0 (iv (ar (ao t)).d1) []:=by
 refine vF ab [0,1,4] Tryd.func51 rfl Tryd.results51 Tryd.ntmps51 ?_;(refine' CT (lU t) (kM t))
section
variable {l:List Int} {ps:List (List Int)} {t:Option T}
theorem vg (R:Rp l ps t):aG Tryd.prog G0 27 [.d (ff t)] [] 0 (iv l.length) []:=by
 rw [←R.sum.2.2.1];refine vF ab [0,2] Tryd.func27 rfl Tryd.results27 Tryd.ntmps27 ?_;(refine' xZ (zh t))
def xB (s:Sm) (i:It) (b:Int):D:= .agg [.lit (.int .i64 s.n),.lit (.int .i64 s.d0),.lit (.int .i64 s.d1),.lit (.int .i64 s.d2),.lit (.int .i64 s.mx),.lit (.int .i64 s.pos),.lit (.int .i64 i.tag),.lit (.int .i64 i.id),.lit (.int .i64 i.d0),.lit (.int .i64 i.d1),.lit (.int .i64 i.d2),.lit (.int .i64 i.mx),.lit (.string i.text),.lit (.int .i64 b)]
attribute [push_cast] xB.eq_def
set_option maxHeartbeats 1600000 in
theorem pL (k:Tk t) (d:Nat) (hd:d≤3) (v b:Int) (hv0:0≤v) (hv:v≤me (ar (ao t)) d) (hb:b=0∨b=1) :
 ∃j vis:Nat,x6 d v b (ao t) j∧aG Tryd.prog G0 53 [.d (ff t),iv d,iv v,iv b] [] 0 (.tup [.d (xB (ar ((ao t).take j)) ((ao t).getD j zY) 0),.po 0 0,iv 0]) [(0,mb t j vis)]:=by
 obtain ⟨j,vis,sp,r1⟩:=Bj t k 0 0 d hd v b hv0 hv hb;have hk:=k.len;have r2:=iI t k j (by have:=sp.le;omega) vis;have r3:=jh t j vis;have r0:=zk t;refine ⟨j,vis,sp,?_⟩;refine vF ab [0,1,2,3,8,9,10,11,12,13,24] Tryd.func53 rfl Tryd.results53 Tryd.ntmps53 ?_;(repeat' (first|(with_reducible first|exact True.intro|refine vD ?_|refine vG ?_|refine vE ?_)|with_reducible refine vQ (lU t) ?_|with_reducible refine vC (lU t) ?_|with_reducible refine vK (r0) ?_|with_reducible refine vO (r1) ?_|with_reducible refine xK (r2) ?_|with_reducible refine Es (r3) ?_|refine vR ?_|refine v6 ?_|with_reducible refine vN ?_|((with_reducible first|refine vB (fun h =>?_) (fun h =>?_)|refine vM (fun h =>?_) (fun h =>?_))<;>(first|(exfalso;omega)|skip))))
 refine ah.now [20] (by decide) ?_;(refine' zg);first|exact am _|exact aY.cons rfl aY.nil|exact aY.cons rfl (aY.cons rfl aY.nil)|exact aY.nil
end
structure Pl (l:List Int) (a:Nat) (s:Sm) (u q w:List Int):Prop where
 eq:l=u++(q++w)
 d0:s.d0=(aD u).length
 d1:s.d1=u.length
 d2:s.d2=d9 u
 lo:u.length≤a
 hi:a≤u.length+q.length
 lt:a<l.length→a<u.length+q.length
 sz:q.length≤16
theorem n6 (a:Nat) (b:Int) (hb:b=1) (s:Sm):bo 1 a b s=decide ((a:Int)<s.d1):=by
 subst hb;simp [bo,me]
section
variable {l:List Int} {ps:List (List Int)} {t:Option T}
theorem Rp.getD_sz (R:Rp l ps t) (j:Nat):(ps.getD j []).length≤16:=by
 rw [List.getD_eq_getElem?_getD];cases h:ps[j]? with
 | none=>simp
 | some p=>exact (R.pcs p (List.mem_of_getElem? h)).2
theorem Rp.flat_j (R:Rp l ps t) (j:Nat):l=(ps.take j).flatten++(ps.getD j []++(ps.drop (j+1)).flatten):=by
 rw [←R.flat,List.getD_eq_getElem?_getD];cases h:ps[j]? with
 | none=>
  have:ps.length≤j:=List.getElem?_eq_none_iff.1 h;rw [List.take_of_length_le this,List.drop_of_length_le (by omega)];simp
 | some p=>exact yN h
theorem Rp.flat_j1 (R:Rp l ps t) (j:Nat):(ps.take (j+1)).flatten=(ps.take j).flatten++ps.getD j []:=by
 rw [List.getD_eq_getElem?_getD];cases h:ps[j]? with
 | none=>
  have:ps.length≤j:=List.getElem?_eq_none_iff.1 h;rw [List.take_of_length_le this,List.take_of_length_le (by omega)];simp
 | some p=>exact tW h
theorem Rp.sum_j (R:Rp l ps t) (j:Nat):(ar ((ao t).take j)).n=(ps.take j).length∧(ar ((ao t).take j)).d0=(aD (ps.take j).flatten).length∧(ar ((ao t).take j)).d1=(ps.take j).flatten.length∧(ar ((ao t).take j)).d2=d9 (ps.take j).flatten:=by
 rw [R.take];exact Bk ps j
theorem Rp.len' (R:Rp l ps t):(ao t).length=ps.length:=by rw [R.items,List.length_map]
theorem sR (R:Rp l ps t) {a j:Nat} (ha:a≤l.length) (sp:x6 1 a 1 (ao t) j):Pl l a (ar ((ao t).take j)) (ps.take j).flatten (ps.getD j []) (ps.drop (j+1)).flatten:=by
 obtain ⟨h1,h2,h3,h4⟩:=R.sum_j j;have e:=R.flat_j j;have hlo:(ps.take j).flatten.length≤a:=by
  rcases Nat.eq_zero_or_pos j with h|h
  ·subst h;simp
  ·have:=sp.below j h (Nat.le_refl _);rw [n6 _ _ rfl,decide_eq_false_iff_not,h3] at this;omega
 have hlt:a<l.length→a<(ps.take j).flatten.length+(ps.getD j []).length:=fun hal=>by
  rcases Nat.lt_or_ge j ps.length with hj|hj
  ·have:=sp.here (by rw [R.len'];exact hj);obtain ⟨_,_,g3,_⟩:=R.sum_j (j+1);rw [n6 _ _ rfl,decide_eq_true_eq,g3,R.flat_j1,List.length_append] at this;omega
  ·rw [List.take_of_length_le hj,R.flat] at hlo;omega
 refine ⟨e,h2,h3,h4,hlo,?_,hlt,R.getD_sz j⟩;rcases Nat.lt_or_ge a l.length with h|h
 ·have:=hlt h;omega
 ·have hl:=congrArg List.length e;simp only [List.length_append] at hl;rcases Nat.lt_or_ge j ps.length with hj|hj
  ·have:=sp.here (by rw [R.len'];exact hj);obtain ⟨_,_,g3,_⟩:=R.sum_j (j+1);rw [n6 _ _ rfl,decide_eq_true_eq,g3,R.flat_j1,List.length_append] at this;omega
  ·rw [List.take_of_length_le hj,R.flat];omega
end
def DK (a:Nat) (s:Sm) (q:List Int) (i:Nat):St:=⟨[(1,iv a),(4,.po 0 0),(6,.po 1 0),(9,iv (s.d1+i)),(34,.it 2)],[(0,.cell [iv 0,iv 0,iv 0,iv 0,iv 0,iv 0,iv 0,iv 0,iv 0,iv 0,iv 0,iv 0,.d (.lit (.string ⟨#[]⟩)),iv 0]),
 (1,.cell [iv s.n,iv s.d0,iv s.d1,iv s.d2,iv s.mx,iv s.pos,iv (dk q).tag,iv (dk q).id,iv (dk q).d0,iv (dk q).d1,iv (dk q).d2,iv (dk q).mx,.d (.lit (.string (fQ q))),iv (fQ q).size]),(2,.iter (fQ q) (aD (q.take i)).length)],3⟩
attribute [push_cast] DK.eq_def
theorem y7 (q:List Int):(dk q).text=fQ q:=rfl
attribute [push_cast] y7
section
variable {l:List Int} {ps:List (List Int)} {t:Option T}
theorem Cq (s:Sm):me s 1=s.d1:=rfl
theorem uV {q:List Int} {i:Nat} {r:Int} (h:q[i]? = some r):(aD (q.take (i+1))).length=(aD (q.take i)).length+(Utf8.encode r).size:=by
 rw [cQ h,ba,List.length_append,ky,Array.length_toList];rfl
theorem AI {q:List Int} (hv:CY q) {i:Nat} {r:Int} (h:q[i]? = some r):((Utf8.decode (fQ q) (aD (q.take i)).length).1:Int)=r∧(Utf8.decode (fQ q) (aD (q.take i)).length).2=(Utf8.encode r).size:=by
 have e:q.take i++r::q.drop (i+1)=q:=by rw [←kx h,List.take_append_drop]
 have:=yw (q.take i) (q.drop (i+1)) r (hv r (List.mem_of_getElem? h));rwa [e] at this
theorem AK {q:List Int} {i:Nat} (h:i<q.length):(aD (q.take i)).length<(fQ q).size:=by
 have:=sm q h (Nat.le_refl _);rw [List.take_of_length_le (Nat.le_refl _)] at this;rw [da];exact this
theorem yD {q:List Int} {i:Nat} (h:q.length≤i):(aD (q.take i)).length=(fQ q).size:=by rw [List.take_of_length_le h,da]
set_option maxHeartbeats 1600000 in
theorem xa (R:Rp l ps t) (a:Nat) (ha:a≤l.length) :
 ∃s u q w,Pl l a s u q w∧aG Tryd.prog G0 71 [.d (ff t),iv a] [] 0 (.tup [.d (xB s (dk q) (aD (q.take (a - u.length))).length),iv 0]) []:=by
 have hlen:=R.len;obtain ⟨j,vis,sp,r1⟩:=pL R.tk 1 (by decide) (a:Int) 1 (by omega) (by rw [Cq,R.sum.2.2.1];omega) (.inr rfl);have p:=sR R ha sp;rw [R.at j] at r1;refine ⟨_,_,_,_,p,?_⟩;have hvq:CY (ps.getD j []):=fun x hx=>R.val x (by rw [p.eq];exact List.mem_append_right _ (List.mem_append_left _ hx))
 generalize ar ((ao t).take j)=s at p r1;generalize (ps.take j).flatten=u at p r1;generalize ps.getD j []=q at p r1 hvq;generalize (ps.drop (j+1)).flatten=w at p;obtain ⟨e,d0,d1,d2,lo,hi,lt,sz⟩:=p;have hq64:=dx q;refine vF ab [0,1,4,5,6,8,9,10,19,34,35,36,40] Tryd.func71 rfl Tryd.results71 Tryd.ntmps71 ?_;(refine' Gz r1)
 refine vL (lv:=[0,1,4,5,6,8,9,10,19,34,35,36,40]) ab (DK a s q) (fun i=>i≤q.length∧u.length+i≤a) (fun i=>q.length - i) (0) ((a7.go [1,4,6,9,34] (by exact vT) rfl)) ?_ ?_
 ·exact ⟨Nat.zero_le _,lo⟩
 rintro i ⟨h1,h2⟩;rcases Nat.lt_or_ge i q.length with hlt|hge
 ·obtain ⟨r,hr⟩ : ∃r,q[i]? = some r:=⟨_,List.getElem?_eq_getElem hlt⟩
  have hin:=AK hlt;obtain ⟨g1,g2⟩:=AI hvq hr;have g3:=uV hr;(refine' zg)
  ·obtain rfl:i=a - u.length:=by omega
   refine ah.now [] (by decide) ?_;(refine' zg);first|exact am _|exact aY.cons rfl aY.nil|exact aY.cons rfl (aY.cons rfl aY.nil)|exact aY.nil
  ·refine bA.go (i+1) [1,4,6,9,34] (by rw [DK,g3,←g2];exact vT) ?_ ?_
   ·show q.length - (i+1)<q.length - i;omega
   ·exact ⟨hlt,by omega⟩
 ·have hout:=yD hge;(refine' zg)
  obtain rfl:i=a - u.length:=by omega
  rw [hout];refine ah.now [] (by decide) ?_;(refine' zg);first|exact am _|exact aY.cons rfl aY.nil|exact aY.cons rfl (aY.cons rfl aY.nil)|exact aY.nil
end
section
variable {l:List Int} {ps:List (List Int)} {t:Option T}
theorem Pl.take {a:Nat} {s:Sm} {u q w:List Int} (p:Pl l a s u q w):l.take a=u++q.take (a - u.length):=by
 have h1:=p.lo;have h2:=p.hi;rw [p.eq,List.take_append,List.take_of_length_le (l:=u) (by omega),List.take_append,show a - u.length - q.length=0 by omega,List.take_zero,List.append_nil]
theorem mz (R:Rp l ps t) (a:Nat) (ha:a≤l.length):aG Tryd.prog G0 52 [.d (ff t),iv a] [] 0 (.tup [iv (aD (l.take a)).length,iv 0]) []:=by
 obtain ⟨s,u,q,w,p,r1⟩:=xa R a ha;have hlen:=R.len;have e:=dx (l.take a);have e0:s.d0+((aD (q.take (a - u.length))).length:Int)=(aD (l.take a)).length:=by
  rw [p.take,ba,List.length_append,p.d0];omega
 have e1:(l.take a).length≤a:=by simp;omega
 rw [←e0];refine vF ab [0,1,4,5,6,7,15] Tryd.func52 rfl Tryd.results52 Tryd.ntmps52 ?_;(refine' xZ r1)
end
section
variable {l:List Int} {ps:List (List Int)} {t:Option T}
end
attribute [push_cast] oQ hJ
section
variable {l:List Int} {ps:List (List Int)} {t:Option T}
end
abbrev Dw:Option Nat:=some 115
def xR:bP:= .cell [.d (.lit (.pointer none)),.d (.lit (.slice none 0 0))] Dw
def qf (a r n:Nat):bP:= .cell [.po a 0,.so r 1 0 n] Dw
def gg (b:List UInt8):bP:= .row 1 (b.map u6) (some 5)
attribute [push_cast] xR.eq_def qf.eq_def gg.eq_def
@[push_cast] theorem F5:xW Tryd.prog 112=some 115:=by kernel_rfl
@[push_cast] theorem F6:xW Tryd.prog 165=none:=by kernel_rfl
@[push_cast] theorem F7:BK Tryd.prog 165=true:=by kernel_rfl
@[push_cast] theorem F8:BK Tryd.prog 112=false:=by kernel_rfl
@[push_cast] theorem Gw:Cr Tryd.prog 115=true:=by kernel_rfl
@[push_cast] theorem Gu:B2 Tryd.prog 113=some 5:=by kernel_rfl
@[push_cast] theorem Gt:Tryd.prog.cellsOf 115=2:=by kernel_rfl
@[push_cast] theorem Er:xW Tryd.prog 147=some 5:=by kernel_rfl
@[push_cast] theorem CR:Tryd.prog.cellsOf 5=1:=by kernel_rfl
@[push_cast] theorem Gv:DL Tryd.prog 112=true:=by kernel_rfl
theorem yu:decide True=true:=rfl
attribute [push_cast] List.isEmpty_cons yu
section
variable {P:Program} {G:Gl} {g:Operand→V} {σ:aa} {id:Nat} {K:V→aa→Prop}
@[push_cast] theorem Bc (x:Operand) (t:Nat):aI P G (.call ⟨.builtin .unsafeSliceData,#[x],#[t]⟩) g σ id K=eT (uX (g x)) (fun v=>K v []):=by
 simp only [aI,bC,ci,jM,aR,dZ];cases uX (g x) with
 | none=>rfl
 | some x=>obtain ⟨p,v⟩:=x;rfl
@[push_cast] theorem Cn (x n:Operand) (t t':Nat):aJ P G (.call ⟨.builtin .unsafeString,#[x,n],#[t,t']⟩) g σ id K=cK (Bn P t (g x) (g n) σ) K:=by
 simp only [aJ,eA,bC,ci,jM,aR,eR,dZ];cases Bn P t (g x) (g n) σ with
 | none=>rfl
 | some x=>obtain ⟨p,v,s⟩:=x;simp [cK,ce]
end
theorem Bo {P:Program} {pt id n e:Nat} {b:List UInt8} {σ:aa} (hg:σ.get id=some (.row 1 (b.map u6) (some e))) (hp:xW P pt=some e) (hc:P.cellsOf e=1) (hn:b.length=n) (h0:0<n) (hm:n≤1000000) :
 Bn P pt (.pe id 1 0 0) (iv n) σ=some (∀y∈b.map u6,i5 y,.d (.lit (.string ⟨b.toArray⟩)),σ.del id):=by
 have e1:(b.map u6).take ((n:Int)).toNat=b.map u6:=List.take_of_length_le (by simp;omega);simp only [Bn,hg,hp,hc,e1,mF];rw [if_pos];refine ⟨⟨?_,?_⟩,?_,?_,?_,?_,?_⟩<;>first|trivial|(simp;omega)
theorem AB:aG Tryd.prog G0 75 [.po 0 0] [(0,xR)] 1 (.tup []) [(0,.cell [.po 0 0,.d (.lit (.slice none 0 0))] Dw)]:=by
 simp only [xR,qf,gg];refine vF ab [0,6,19] Tryd.func75 rfl Tryd.results75 Tryd.ntmps75 ?_;(refine' zg)
 refine vX (.po 0 0) ?_;(refine' zg)
 refine ah.now [] (by decide) ?_;(refine' zg);first|exact am _|exact aY.cons rfl aY.nil|exact aY.cons rfl (aY.cons rfl aY.nil)|exact aY.nil
theorem AC (n:Nat) (b:List UInt8):aG Tryd.prog G0 75 [.po 0 0] [(0,qf 0 1 n),(1,gg b)] 2 (.tup []) [(0,qf 0 1 n),(1,gg b)]:=by
 simp only [xR,qf,gg];refine vF ab [0,6,19] Tryd.func75 rfl Tryd.results75 Tryd.ntmps75 ?_;(refine' zg)
 refine ah.now [] (by decide) ?_;(refine' zg);first|exact am _|exact aY.cons rfl aY.nil|exact aY.cons rfl (aY.cons rfl aY.nil)|exact aY.nil
theorem zN:aG Tryd.prog G0 55 [.po 0 0] [(0,xR)] 1 (iv 0) [(0,xR)]:=by
 simp only [xR];refine vF ab [0,2] Tryd.func55 rfl Tryd.results55 Tryd.ntmps55 ?_;(refine' zg)
 refine ah.now [] (by decide) ?_;(refine' zg);first|exact am _|exact aY.cons rfl aY.nil|exact aY.cons rfl (aY.cons rfl aY.nil)|exact aY.nil
theorem zO (n:Nat) (b:List UInt8):aG Tryd.prog G0 55 [.po 0 0] [(0,qf 0 1 n),(1,gg b)] 2 (iv n) [(0,qf 0 1 n),(1,gg b)]:=by
 simp only [qf,gg];refine vF ab [0,2] Tryd.func55 rfl Tryd.results55 Tryd.ntmps55 ?_;(refine' zg)
 refine ah.now [] (by decide) ?_;(refine' zg);first|exact am _|exact aY.cons rfl aY.nil|exact aY.cons rfl (aY.cons rfl aY.nil)|exact aY.nil
theorem ye (s:ByteArray) (hs:s.size≤1000000):aG Tryd.prog G0 57 [.po 0 0,.d (.lit (.string s))] [(0,xR)] 1 (.tup [iv s.size,.d (.lit .nilIface)]) [(0,qf 0 1 s.size),(1,gg s.data.toList)]:=by
 have r1:=AB;simp only [xR,qf,gg] at r1 ⊢;refine vF ab [0,1,4,5] Tryd.func57 rfl Tryd.results57 Tryd.ntmps57 ?_;(refine' Eu r1)
 refine ah.now [41] (by decide) ?_;(refine' zg)
 exact aY.cons rfl (aY.cons rfl aY.nil)
theorem yf (b:List UInt8) (n:Nat) (hn:b.length=n) (hn':n≤1000000) (s:ByteArray) (hs:s.size≤1000000):aG Tryd.prog G0 57 [.po 0 0,.d (.lit (.string s))] [(0,qf 0 1 n),(1,gg b)] 2 (.tup [iv s.size,.d (.lit .nilIface)]) [(0,qf 0 2 (n+s.size)),(2,gg (b++s.data.toList))]:=by
 have r1:=AC n b;simp only [qf,gg] at r1 ⊢;refine vF ab [0,1,4,5] Tryd.func57 rfl Tryd.results57 Tryd.ntmps57 ?_;(refine' zg)
 refine ap.two 0 1 r1 ?_;(refine' zg)
 have e:(b++s.data.toList).length=n+s.size:=by rw [List.length_append,hn,Array.length_toList];rfl
 rw [e];refine ah.now [42] (by decide) ?_;(refine' zg)
 exact aY.cons rfl (aY.cons rfl aY.nil)
theorem yd (b:List UInt8) (n:Nat) (hn:b.length=n) (h0:0<n) (hn':n≤1000000):aG Tryd.prog G0 59 [.po 0 0] [(0,qf 0 1 n),(1,gg b)] 2 (.d (.lit (.string ⟨b.toArray⟩))) []:=by
 simp only [qf,gg];refine vF ab [0,2] Tryd.func59 rfl Tryd.results59 Tryd.ntmps59 ?_;(repeat' (first|(with_reducible first|exact True.intro|refine vD ?_|refine vG ?_|refine vE ?_)|(simp -implicitDefEqProofs -dsimp only [if_pos h0])|refine vR ?_|refine v6 ?_|with_reducible refine vN ?_|((with_reducible first|refine vB (fun h =>?_) (fun h =>?_)|refine vM (fun h =>?_) (fun h =>?_))<;>(first|(exfalso;omega)|skip))))
 rw [Bo rfl Er CR hn h0 hn'];(refine' zo)
theorem fP {α:Type} (l:List α) {i j:Nat} (h:i≤j):l.take j=l.take i++(l.take j).drop i:=by
 conv=>lhs;rw [←List.take_append_drop i (l.take j),List.take_take,Nat.min_eq_left h]
def Ci (t:Option T) (ps:List (List Int)) (j:Nat) (vis:Int) (a b:Nat):Nat→St
 | 0=>⟨[(8,iv a),(10,iv b),(12,.po 0 0),(14,.po 1 0),(15,iv (ar ((ao t).take j)).d0)],[(0,mb t j vis),(1,xR)],2⟩
 | i+1=>⟨[(8,iv a),(10,iv b),(12,.po 0 0),(14,.po 1 0),(15,iv (ar ((ao t).take j)).d0)],[(0,mb t (j+(i+1)) vis),(1,qf 1 2 (aD ((ps.drop j).take (i+1)).flatten).length),(2,gg (aD ((ps.drop j).take (i+1)).flatten))],3⟩
attribute [push_cast] Ci.eq_1 Ci.eq_2
theorem nM (ps:List (List Int)) (j i:Nat):(ps.take (j+i)).flatten=(ps.take j).flatten++((ps.drop j).take i).flatten:=by
 rw [List.take_add,List.flatten_append]
theorem k8 {ps:List (List Int)} {j i:Nat} {q:List Int} (h:ps[j+i]? = some q):((ps.drop j).take (i+1)).flatten=((ps.drop j).take i).flatten++q:=by
 rw [List.take_add_one,List.getElem?_drop,h,List.flatten_append];simp
section
variable {l:List Int} {ps:List (List Int)} {t:Option T}
theorem xA {l u X:List Int} {from' to m:Nat} (hu:u=l.take u.length) (h1:u.length≤from') (h2:from'≤to) (hm:to≤m) (hX:u++X=l.take m) (i j:Nat) (hi:i+(aD u).length=(aD (l.take from')).length) (hj:j+(aD u).length=(aD (l.take to)).length) :
 (fQ X).extract i j=fQ ((l.take to).drop from'):=by
 have e1:=fP l h1;have e2:=fP l h2;have e3:=fP l hm;rw [←hu] at e1;have eX:X=(l.take from').drop u.length++((l.take to).drop from'++(l.take m).drop to):=by
  have:u++X=u++((l.take from').drop u.length++((l.take to).drop from'++(l.take m).drop to)):=by
   rw [hX];conv=>lhs;rw [e3,e2,e1]
   simp only [List.append_assoc]
  exact List.append_cancel_left this
 rw [eX];have g1:=congrArg (fun x=>(aD x).length) e1;have g2:=congrArg (fun x=>(aD x).length) e2;simp only [ba,List.length_append] at g1 g2;exact zD _ _ _ i j (by omega) (by omega)
set_option maxHeartbeats 3200000 in
theorem uH (R:Rp l ps t) (from' to:Nat) (h1:from'≤to) (h2:to≤l.length):aG Tryd.prog G0 28 [.d (ff t),iv from',iv to] [] 0 (.tup [.d (.lit (.string (fQ ((l.take to).drop from')))),iv 0]) []:=by
 have ra:=mz R from' (by omega);have rb:=mz R to h2;have hlen:=R.len;obtain ⟨j,vis,sp,r1⟩:=pL R.tk 1 (by decide) (from':Int) 1 (by omega) (by rw [Cq,R.sum.2.2.1];omega) (.inr rfl);have p:=sR R (by omega) sp;have e0:=p.d0;have hul:=p.lo;have hu:(ps.take j).flatten=l.take (ps.take j).flatten.length:=by
  conv=>rhs;rw [R.flat_j j]
  rw [List.take_left]
 have hst:=jh t j vis;have hjle:=sp.le;rw [R.len'] at hjle;have hn:=R.n;have hbb:=eL l to;have hab:=dx l;have haa:=eL l from';obtain ⟨a,ea⟩ : ∃a,a=(aD (l.take from')).length:=⟨_,rfl⟩
 obtain ⟨b,eb⟩ : ∃b,b=(aD (l.take to)).length:=⟨_,rfl⟩
 obtain ⟨st,est⟩ : ∃st,st=(aD (ps.take j).flatten).length:=⟨_,rfl⟩
 rw [←ea] at ra haa;rw [←eb] at rb hbb;rw [←est] at e0;have fin : ∀i,j+i≤ps.length→b≤st+(aD ((ps.drop j).take i).flatten).length→to≤(ps.take (j+i)).flatten.length:=fun i hi hb=>by
  have e1:=nM ps j i;have e2:(ps.take (j+i)).flatten=l.take (ps.take (j+i)).flatten.length:=by
   conv=>rhs;rw [R.flat_j (j+i)]
   rw [List.take_left]
  have e3:(aD (ps.take (j+i)).flatten).length=st+(aD ((ps.drop j).take i).flatten).length:=by rw [e1,ba,List.length_append,est]
  rcases Nat.lt_or_ge (ps.take (j+i)).flatten.length to with hlt|hge
  ·have:=sm l hlt h2;rw [←e2] at this;omega
  ·exact hge
 have mon:(aD (ps.take j).flatten).length≤(aD (l.take from')).length:=by
  rw [hu];have e:=fP l hul;have g:=congrArg (fun x=>(aD x).length) e;simp only [ba,List.length_append] at g;omega
 have mon2:(aD (l.take from')).length≤(aD (l.take to)).length:=by
  have e:=fP l h1;have g:=congrArg (fun x=>(aD x).length) e;simp only [ba,List.length_append] at g;omega
 refine vF ab [0,1,2,6,7,8,9,10,12,14,15,16,30,38,55,67] Tryd.func28 rfl Tryd.results28 Tryd.ntmps28 ?_;(repeat' (first|(with_reducible first|exact True.intro|refine vD ?_|refine vG ?_|refine vE ?_)|with_reducible refine vC (ra) ?_|with_reducible refine vC (rb) ?_|with_reducible refine vK (r1) ?_|with_reducible refine xK (hst) ?_|refine vR ?_|refine v6 ?_|with_reducible refine vN ?_|((with_reducible first|refine vB (fun h =>?_) (fun h =>?_)|refine vM (fun h =>?_) (fun h =>?_))<;>(first|(exfalso;omega)|skip))))
 refine vL (lv:=[0,1,2,6,7,8,9,10,12,14,15,16,30,38,55,67]) ab (Ci t ps j vis a b) (fun i=>j+i≤ps.length) (fun i=>ps.length - i) (0) ((a7.go [8,10,12,14,15] (by exact vT) rfl)) ?_ ?_
 ·omega
 intro i hi;have fini:=fin i hi;have e3:(aD (ps.take (j+i)).flatten).length=st+(aD ((ps.drop j).take i).flatten).length:=by rw [nM,ba,List.length_append,est]
 have e4:(ps.take (j+i)).flatten=l.take (ps.take (j+i)).flatten.length:=by
  conv=>rhs;rw [R.flat_j (j+i)]
  rw [List.take_left]
 have e5:=eL l (ps.take (j+i)).flatten.length;rw [←e4,e3] at e5;have done:b≤st+(aD ((ps.drop j).take i).flatten).length → ∀x y:Nat,x+st=a→y+st=b→(fQ ((ps.drop j).take i).flatten).extract x y=fQ ((l.take to).drop from'):=fun hb x y hx hy=>
  xA (m:=(ps.take (j+i)).flatten.length) hu hul h1 (fini hb) (by rw [←nM];exact e4) x y (by omega) (by omega)
 have hlt : ¬b≤st+(aD ((ps.drop j).take i).flatten).length→j+i<ps.length:=fun hb=>by
  rcases Nat.lt_or_ge (j+i) ps.length with h|h
  ·exact h
  ·rw [List.take_of_length_le h,R.flat] at e3;omega
 by_cases hb:b≤st+(aD ((ps.drop j).take i).flatten).length
 ·have dn:=done hb;cases i with
  | zero=>
   simp only [List.take_zero,List.flatten_nil,hJ,List.length_nil,Nat.add_zero] at hb;have hft:from'=to:=by
    have:=fini (by simpa [hJ] using hb);rw [Nat.add_zero] at this;omega
   have he:fQ ((l.take to).drop from')=⟨#[]⟩:=by
    rw [hft,List.drop_of_length_le (by simp;omega)];rfl
   rw [he];have r0:=zN;(repeat' (first|(with_reducible first|exact True.intro|refine vD ?_|refine vG ?_|refine vE ?_)|with_reducible refine xK (r0) ?_|with_reducible refine Es (r0) ?_|with_reducible refine ah.out ?_|refine vR ?_|refine v6 ?_|with_reducible refine vN ?_|((with_reducible first|refine vB (fun h =>?_) (fun h =>?_)|refine vM (fun h =>?_) (fun h =>?_))<;>(first|(exfalso;omega)|skip))))
  | succ i=>
   have hX:=nJ ((ps.drop j).take (i+1)).flatten;have h0:0<((ps.drop j).take (i+1)).flatten.length:=by
    have:=kB ((ps.drop j).take (i+1)) (fun p hp=>(R.pcs p (List.mem_of_mem_drop (List.mem_of_mem_take hp))).1);rw [List.length_take,List.length_drop] at this;omega
   have r0:=zO (aD ((ps.drop j).take (i+1)).flatten).length (aD ((ps.drop j).take (i+1)).flatten);have r2:=yd (aD ((ps.drop j).take (i+1)).flatten) _ rfl (by omega) (by omega);(refine' zg)
   refine ap.two 1 2 r0 ?_;(refine' zg)
   refine ap.two 1 2 r0 ?_;(refine' zg)
   refine ap.twoN 1 2 r2 ?_;have hsz:(⟨(aD ((ps.drop j).take (i+1)).flatten).toArray⟩:ByteArray).size=(aD ((ps.drop j).take (i+1)).flatten).length:=da _;have dn' : ∀x y:Nat,x+st=a→y+st=b→(⟨(aD ((ps.drop j).take (i+1)).flatten).toArray⟩:ByteArray).extract x y=fQ ((l.take to).drop from'):=dn;(refine' zg)
   rw [dn' _ _ (by omega) (by omega)];(refine' zo)
 ·have hj:=hlt hb;obtain ⟨q,hq⟩ : ∃q,ps[j+i]? = some q:=⟨_,List.getElem?_eq_getElem hj⟩
  have hqd:ps.getD (j+i) []=q:=by rw [List.getD_eq_getElem?_getD,hq];rfl
  have hqs:=(R.pcs q (List.mem_of_getElem? hq)).2;have hq4:=dx q;have hq5:=da q;have ri:=iI t R.tk (j+i) (by omega) vis;have rn:=xl t R.tk (j+i) (by rw [R.len'];exact hj) vis;rw [R.at,hqd] at ri;have hd:=k8 hq;cases i with
  | zero=>
   have r0:=zN;have r3:=ye (fQ q) (by omega);rw [Nat.add_zero] at ri rn;simp only [List.take_zero,List.flatten_nil,hJ,List.length_nil,Nat.add_zero] at hb;(repeat' (first|(with_reducible first|exact True.intro|refine vD ?_|refine vG ?_|refine vE ?_)|with_reducible refine xK (r0) ?_|with_reducible refine xK (ri) ?_|refine vR ?_|refine v6 ?_|with_reducible refine vN ?_|((with_reducible first|refine vB (fun h =>?_) (fun h =>?_)|refine vM (fun h =>?_) (fun h =>?_))<;>(first|(exfalso;omega)|skip))))
   refine ap.oneN 1 r3 ?_;(refine' Eu rn)
   rw [List.take_zero,List.flatten_nil,List.nil_append] at hd;refine bA.go (0+1) [8,10,12,14,15] (by rw [Ci,hd,da,iT];exact vT) ?_ ?_
   ·show ps.length - 1<ps.length - 0;omega
   ·show j+1≤ps.length;omega
  | succ i=>
   have r0:=zO (aD ((ps.drop j).take (i+1)).flatten).length (aD ((ps.drop j).take (i+1)).flatten);have r3:=yf (aD ((ps.drop j).take (i+1)).flatten) _ rfl (by omega) (fQ q) (by omega);(refine' Ga ri)
   refine ap.two 1 2 r0 ?_;(refine' Ga ri)
   refine ap.twoN 1 2 r3 ?_;(refine' Eu rn)
   refine bA.go (i+1+1) [8,10,12,14,15] (by rw [Ci,hd,da,iT,ba,List.length_append];exact vT) ?_ ?_
   ·show ps.length - (i+1+1)<ps.length - (i+1)
    omega
   ·show j+(i+1+1)≤ps.length;omega
end
def CZ (l:List Int) (i:Nat):St:=⟨[(2,.po 0 0),(3,.po 1 0),(18,md l),(19,iv l.length),(20,iv i)],[(0,.cell [iv 0,iv 0,iv 0,iv 0,iv 0,iv 0,.d (.lit (.string ⟨#[]⟩))]),
 (1,.cell [iv 0,iv 0,iv (fQ l).size,iv l.length,iv (d9 (l.take i)),iv 0,.d (.lit (.string (fQ l)))])],2⟩
attribute [push_cast] CZ.eq_def
set_option maxHeartbeats 1600000 in
theorem ru (l:List Int) (hl:l.length≤1000000):aG Tryd.prog G0 50 [md l] [] 0 (.d (mc (dk l))) []:=by
 have r1:aG Tryd.prog G0 68 [md l] [] 0 (.d (.lit (.string (fQ l)))) []:=s7 l (by omega);have hs:=da l;refine vF ab [0,2,3,5,18,19,20,21,25] Tryd.func50 rfl Tryd.results50 Tryd.ntmps50 ?_;(refine' qj r1)
 refine vL (lv:=[0,2,3,5,18,19,20,21,25]) ab (CZ l) (fun i=>i≤l.length) (fun i=>l.length - i) (0) ((a7.go [2,3,18,19,20] (by exact vT) rfl)) ?_ ?_
 ·exact Nat.zero_le _
 intro i hi;have hb:=nB (l.take i);rw [List.length_take] at hb;(refine' zg)
 ·refine cj.intro fun r hr =>?_
  have g4:d9 (l.take (i+1))=d9 (l.take i)+(if r=10 then 1 else 0):=by rw [cQ hr,tA]
  (refine' zg)
  ·rw [if_pos (by assumption)] at g4;refine bA.go (i+1) [2,3,18,19,20] (by rw [CZ,g4];exact vT) ?_ ?_
   ·show l.length - (i+1)<l.length - i;omega
   ·show i+1≤l.length;omega
  ·rw [if_neg (by assumption)] at g4;refine bA.go (i+1) [2,3,18,19,20] (by rw [CZ,g4];exact vT) ?_ ?_
   ·show l.length - (i+1)<l.length - i;omega
   ·show i+1≤l.length;omega
 ·have e:l.take i=l:=List.take_of_length_le (by omega);rw [e,hs];refine ah.out ?_;(refine' zg)
  rfl
theorem se {n k m:Nat} (hn:n≤1000000000) (hk:0<k) (hm:m=n / k):IntKind.i64.wrap ((n:Int).tdiv (k:Int))=(m:Int):=by
 have e:(n:Int).tdiv (k:Int)=((n / k:Nat):Int):=rfl;have:=Nat.div_le_self n k;rw [e,←hm];exact Dq _ (by omega) (by omega)
def Ez (x:Nat × List Int × List It):St:=⟨[(0,md x.2.1),(3,.so 0 7 0 x.2.2.length),(4,iv x.1)],[(0,.row 7 (x.2.2.map mc))],1⟩
attribute [push_cast] Ez.eq_def
theorem zr (es:List It) (i:It):es.map mc++[mc i]=(es++[i]).map mc:=by rw [List.map_append];rfl
set_option maxHeartbeats 1600000 in
theorem AH (l:List Int) (hl:l.length≤1000000):aG Tryd.prog G0 26 [md l] [] 0 (Gi ((pcs l).map dk)) []:=by
 obtain ⟨k0,hk0⟩ : ∃k0,k0=(l.length+15) / 16:=⟨_,rfl⟩
 have hd0:=se (n:=l.length+15) (k:=16) (by omega) (by omega) hk0;have hd1:IntKind.i64.wrap (((l.length:Int)+16 - 1).tdiv 16)=(k0:Int):=by
  rw [show ((l.length:Int)+16 - 1)=((l.length+15:Nat):Int) by omega];exact hd0
 refine vF ab [0,2,3,4,5,12] Tryd.func26 rfl Tryd.results26 Tryd.ntmps26 ?_;(repeat' (first|(with_reducible first|exact True.intro|refine vD ?_|refine vG ?_|refine vE ?_)|(simp -implicitDefEqProofs -dsimp only [hd1])|refine vR ?_|refine v6 ?_|with_reducible refine vN ?_|((with_reducible first|refine vB (fun h =>?_) (fun h =>?_)|refine vM (fun h =>?_) (fun h =>?_))<;>(first|(exfalso;omega)|skip))))
 refine vL (lv:=[0,2,3,4,5,12]) ab (Ez) (fun x=>x.2.1.length≤l.length∧x.1≤x.2.1.length∧x.2.1.length≤16*x.1∧x.2.2.length+x.1=k0∧x.2.2++(mh x.1 x.2.1).map dk=(pcs l).map dk) (fun x=>x.1) ((k0,l,[])) (a7.nil 3 7<|(a7.go [0,3,4] (by exact vT) rfl)) ?_ ?_
 ·refine ⟨Nat.le_refl _,by simp only;omega,by simp only;omega,by simp,?_⟩;simp only [List.nil_append,hk0];rfl
 rintro ⟨k,r,es⟩ ⟨h1,h2,h3,h4,h5⟩;simp only at h1 h2 h3 h4 h5;cases k with
 | zero=>
  have h6:es=(pcs l).map dk:=by rw [←h5,mh];simp
  (refine' zg)
  refine ah.frz 0 (ah.out ?_);(refine' zg)
  rw [←List.map_map,←h6]
 | succ k=>
  obtain ⟨n,hn⟩ : ∃n,n=r.length / (k+1):=⟨_,rfl⟩
  have hd:=se (n:=r.length) (k:=k+1) (by omega) (by omega) hn;have hnl:n≤r.length:=by rw [hn];exact Nat.div_le_self _ _
  have hn1:1≤n:=by rw [hn];exact (Nat.le_div_iff_mul_le (by omega)).2 (by omega)
  have hn16:n≤16:=by rw [hn];exact Nat.div_le_of_le_mul (by omega)
  have hmod:=Nat.div_add_mod r.length (k+1);have hml:=Nat.mod_lt r.length (show 0<k+1 by omega);rw [←hn] at hmod;have r1:=ru (r.take n) (by simp;omega);have hc:((k+1:Nat):Int)=(k:Int)+1:=by omega
  rw [hc] at hd;(repeat' (first|(with_reducible first|exact True.intro|refine vD ?_|refine vG ?_|refine vE ?_)|(simp -implicitDefEqProofs -dsimp only [hd])|with_reducible refine vQ (r1) ?_|with_reducible refine vC (r1) ?_|refine vR ?_|refine v6 ?_|with_reducible refine vN ?_|((with_reducible first|refine vB (fun h =>?_) (fun h =>?_)|refine vM (fun h =>?_) (fun h =>?_))<;>(first|(exfalso;omega)|skip))))
  rw [zr];refine bA.go ((k,r.drop n,es++[dk (r.take n)])) [0,3,4] (by exact vT) ?_ ?_
  ·show k<k+1;omega
  ·refine ⟨by simp only [List.length_drop];omega,?_,?_,by simp;omega,?_⟩
   ·simp only [List.length_drop];have:n*(k+1)≤r.length:=by rw [hn];exact Nat.div_mul_le_self _ _
    rw [Nat.mul_succ] at this;have:k≤n*k:=Nat.le_mul_of_pos_left k hn1;omega
   ·simp only [List.length_drop];rcases Nat.lt_or_ge n 16 with h16|h16
    ·have h7:=Nat.mul_le_mul_left k (show n+1≤16 by omega);rw [Nat.mul_succ] at h7;rw [Nat.succ_mul] at hmod;omega
    ·omega
   ·rw [←h5,mh,←hn];simp
section
theorem zd (s:ByteArray) (hs:s.size≤1000000000) (h:(ae s 0).length≤20000) : ∃ps t,Rp (ae s 0) ps t∧aG Tryd.prog G0 11 [sv s] [] 0 (.tup [.d (ff t),iv 0]) []:=by
 have r1:=s6 s hs;have hv:=j2 s s.size 0 (by omega);generalize ae s 0=l at *
 have r2:=AH l (by omega);have hp:=Ba l;have hpl:(pcs l).length≤20000:=by
  have:=kB (pcs l) (fun p q=>(hp p q).1);rw [pD] at this;omega
 have hok : ∀i∈(pcs l).map dk,ck i:=by
  intro i hi;obtain ⟨p,hq,rfl⟩:=List.mem_map.1 hi;exact Af (by have:=hp p hq;omega)
 have r3:=Aq ((pcs l).map dk) (by simp;omega) hok;obtain ⟨w1,w2⟩:=nV ((pcs l).map dk) _ (Nat.le_refl _);have w3:=o6 ((pcs l).map dk) _ (Nat.le_refl _);rw [List.take_of_length_le (by omega)] at w2;generalize dM ((pcs l).map dk) ((pcs l).map dk).length=t at r3 w1 w2 w3;refine ⟨pcs l,t,⟨w2,pD l,hv,w1,by simp at w3;omega,hp,h⟩,?_⟩;rw [ff,bI] at *
 refine vF ab [0,2,3,4,5,6,11,19] Tryd.func11 rfl Tryd.results11 Tryd.ntmps11 ?_;(refine' Dr r1 r2 r3)
 refine ah.frz 80 (ah.out ?_);(refine' zg)
end
end Go.Proofs.YtkhonlnajdfhfaaDoor
