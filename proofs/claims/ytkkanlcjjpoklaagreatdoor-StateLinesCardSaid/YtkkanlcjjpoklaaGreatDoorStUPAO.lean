/- What the theorem leans on, part 15. -/
import Derived.Test.YtkkanlcjjpoklaaGreatDoorStUPAM
import Derived.Test.YtkkanlcjjpoklaaGreatDoorStUPAN
set_option linter.unusedSimpArgs false
set_option linter.unusedVariables false
set_option maxRecDepth 8000
namespace Go.Proofs.YtkkanlcjjpoklaaGreatDoor
def gK (s:Sm) (vis:Int):D:= .agg [.lit (.int .i64 s.n),.lit (.int .i64 s.n),.lit (.int .i64 s.d0),.lit (.int .i64 s.d1),.lit (.int .i64 s.d2),.lit (.int .i64 s.mx),.lit (.int .i64 s.pos),.lit (.int .i64 vis)]
theorem Bg (d:Nat):nd Sm.zero d=0:=by unfold nd;split<;>rfl
set_option maxHeartbeats 1600000 in
theorem EZ (d:Nat) (hd:d≤3) (v b:Int) (hv:v=0) (hb:b=0∨b=1) :
 an Tryz.prog G0 88 [.d (aX none),iv d,iv v,iv b] [] 0 (.tup [.d (gK Sm.zero 0),iv 0]) []:=by
 have r1:=ju none;have r2:=yu none;have r3:=mZ Sm.zero d hd;have hz:=Bg d;simp only [ao,na] at r1;rw [aX] at r1 r2 ⊢;rw [hz] at r3;simp only [cN] at r1 r2 ⊢;simp only [xW,K7,ES,ET,EU,EV,BB] at r1 r3;refine vF ab [0,1,2,3,6,7,8,9,10,11,12,13,14,15,17,18,19,20,22,23,50,57,68,72,73,74,75,87,97,101,102,103,104,116] Tryz.func88 rfl Tryz.results88 Tryz.ntmps88 ?_;(refine' TZ r1 r2 r3)
 refine vL (lv:=[0,1,2,3,6,7,8,9,10,11,12,13,14,15,17,18,19,20,22,23,50,57,68,72,73,74,75,87,97,101,102,103,104,116]) ab (UY d v b) (fun x=>x=(none,Sm.zero,0)) (fun _=>0) ((none,Sm.zero,0)) (aC.frz 0<|aC.frz 4<|(aC.go [1,8,11,12,13] (by exact vT) rfl)) ?_ ?_
 ·rfl
 rintro x rfl;(refine' zo)
 all_goals rfl
set_option maxHeartbeats 1600000 in
theorem HN (t:Option T) (d:Nat) (hd:d≤3) (v b:Int) (hv:v<0∨nd (ay (ao t)) d<v) :
 an Tryz.prog G0 88 [.d (aX t),iv d,iv v,iv b] [] 0 (.tup [.d (gK Sm.zero 0),iv 1]) []:=by
 have r1:=ju t;have r3:=mZ (ay (ao t)) d hd;rw [aX] at r1 ⊢;refine vF ab [0,1,2,3,6,7,8,9,10,11,12,13,14,15,17,18,19,20,22,23,50,57,68,72,73,74,75,87,97,101,102,103,104,116] Tryz.func88 rfl Tryz.results88 Tryz.ntmps88 ?_;(refine' tJ r1 r3)
 all_goals rfl
structure BP (d:Nat) (v b:Int) (L:List It) (j:Nat):Prop where
 le:j≤L.length
 below : ∀i,0<i→i≤j→bm d v b (ay (L.take i))=false
 here:j<L.length→bm d v b (ay (L.take (j+1)))=true
theorem zero_add (l:List It):a6 Sm.zero (ay l)=ay l:=by
 have:=j4 [] l;rw [List.nil_append] at this;exact this.symm
theorem nF (t:Option T) (k:Tk t) (d:Nat) (hd:d≤3) (v b:Int) (hv0:0≤v) (hv:v≤nd (ay (ao t)) d) (hb:b=0∨b=1) :
 ∃j vis:Nat,BP d v b (ao t) j∧vis≤BJ t∧an Tryz.prog G0 88 [.d (aX t),iv d,iv v,iv b] [] 0 (.tup [.d (gK (ay ((ao t).take j)) vis),iv 0]) []:=by
 cases t with
 | none=>
  simp only [ao,na,Bg] at hv ⊢;exact ⟨0,0,⟨Nat.le_refl _,fun i h1 h2=>by omega,fun h=>by simp at h⟩,Nat.le_refl _,EZ d hd v b (by omega) hb⟩
 | some t=>
  obtain ⟨w1,w2,w3,w4⟩:=k;simp only [DA,BJ,ao] at w1 w2 w3 w4 hv ⊢;obtain ⟨j,h1,h2,h3,h4⟩:=wq (bm d v b) t.items Sm.zero (Int.le_refl 0);have e:=uY (J8 d hd v b) t Sm.zero (Int.le_refl 0) w1 w4;have f:=E0 t d hd v b w1 w2 (by omega) w4 hv0 hv hb _ rfl;have hvis:=jy (R:=bm d v b) t Sm.zero w1;rw [e,h2,zero_add] at f;refine ⟨j,(gW (bm d v b) t Sm.zero).2,⟨h1,fun i q1 q2 =>?_,fun q =>?_⟩,hvis.2,f⟩
  ·have:=h3 i q1 q2;rwa [zero_add] at this
  ·have:=h4 q;rwa [zero_add] at this
def pB (t:Option T) (j:Nat) (vis:Int):bF:= .cell [.d (aX t),iv j,iv (ay ((ao t).take j)).n,iv (ay ((ao t).take j)).d0,iv (ay ((ao t).take j)).d1,iv (ay ((ao t).take j)).d2,iv (ay ((ao t).take j)).mx,iv (ay ((ao t).take j)).pos,iv vis]
attribute [push_cast] pB.eq_def
theorem EK (t:Option T):an Tryz.prog G0 270 [.d (aX t)] [] 0 (.po 0 0) [(0,pB t 0 0)]:=by
 rw [aX];simp only [pB,List.take_zero,na,aX];refine vF ab [0,2] Tryz.func270 rfl Tryz.results270 Tryz.ntmps270 ?_;(refine' zg)
 refine ae.now [12] (by decide) ?_;(refine' zg);first|exact aj _|exact ap.cons rfl ap.nil|exact ap.cons rfl (ap.cons rfl ap.nil)|exact ap.nil
theorem og (t:Option T) (j:Nat) (vis:Int):an Tryz.prog G0 248 [.po 0 0] [(0,pB t j vis)] 1 (.d (xW (ay ((ao t).take j)))) [(0,pB t j vis)]:=by
 simp only [pB];refine vF ab [0,2,4] Tryz.func248 rfl Tryz.results248 Tryz.ntmps248 ?_;(refine' zg)
 refine ae.now [] (by decide) ?_;(refine' zg);first|exact aj _|exact ap.cons rfl ap.nil|exact ap.cons rfl (ap.cons rfl ap.nil)|exact ap.nil
theorem mW (t:Option T) (k:Tk t) (j:Nat) (hj:j≤1000000) (vis:Int):an Tryz.prog G0 250 [.po 0 0] [(0,pB t j vis)] 1 (.tup [.d (jl ((ao t).getD j Mm)),bv (decide (j<(ao t).length))]) [(0,pB t j vis)]:=by
 have r1:=QU t k j hj;have e1:((if j<(ao t).length then (0:Int) else 1)==0)=decide (j<(ao t).length):=by split<;>simp_all
 simp only [pB];refine vF ab [0,2,3,4,5,7] Tryz.func250 rfl Tryz.results250 Tryz.ntmps250 ?_;(repeat' (first|with_reducible refine vQ (r1) ?_|with_reducible refine vC (r1) ?_|(simp -implicitDefEqProofs -dsimp only [e1])|(refine' zq)|fail))
 refine ae.now [] (by decide) ?_;(refine' zg);first|exact aj _|exact ap.cons rfl ap.nil|exact ap.cons rfl (ap.cons rfl ap.nil)|exact ap.nil
theorem M2 (t:Option T) (k:Tk t) (j:Nat) (hj:j≤1000000) (vis:Int):an Tryz.prog G0 273 [.po 0 0] [(0,pB t j vis)] 1 (.d (xW (ay ((ao t).take (j+1))))) [(0,pB t j vis)]:=by
 have r1:=mW t k j hj vis;have r2:=og t j vis;have hk:=k.len;have o1:fc (ay ((ao t).take j)):=gA _ (fun y hy=>k.ok y (List.mem_of_mem_take hy)) (by simp;omega);by_cases hl:j<(ao t).length
 ·obtain ⟨x,hx⟩ : ∃x,(ao t)[j]? = some x:=⟨_,List.getElem?_eq_getElem hl⟩
  have hg:(ao t).getD j Mm=x:=by simp [List.getD_eq_getElem?_getD,hx]
  have e1:(ao t).take (j+1)=(ao t).take j++[x]:=dP hx;have hok:=k.ok x (List.mem_of_getElem? hx);have r3:=HQ x;have r4:=qn _ _ o1 (rR hok);rw [hg,decide_eq_true hl] at r1;rw [e1,ip];simp only [pB] at r1 r2 ⊢;refine vF ab [0,2,3,4,11] Tryz.func273 rfl Tryz.results273 Tryz.ntmps273 ?_;(repeat' (first|with_reducible refine K0 (r1) ?_|with_reducible refine Xw (r2) ?_|with_reducible refine vQ (r3) ?_|with_reducible refine vQ (r4) ?_|(refine' zq)|fail))
  refine ae.now [] (by decide) ?_;(refine' zg);first|exact aj _|exact ap.cons rfl ap.nil|exact ap.cons rfl (ap.cons rfl ap.nil)|exact ap.nil
 ·have e1:(ao t).take (j+1)=(ao t).take j:=by rw [List.take_of_length_le (by omega),List.take_of_length_le (by omega)]
  rw [decide_eq_false hl] at r1;rw [e1];simp only [pB] at r1 r2 ⊢;refine vF ab [0,2,3,4,11] Tryz.func273 rfl Tryz.results273 Tryz.ntmps273 ?_;(repeat' (first|with_reducible refine K0 (r1) ?_|with_reducible refine K0 (r2) ?_|(refine' zq)|fail))
  refine ae.now [] (by decide) ?_;(refine' zg);first|exact aj _|exact ap.cons rfl ap.nil|exact ap.cons rfl (ap.cons rfl ap.nil)|exact ap.nil
theorem Kl (t:Option T) (k:Tk t) (j:Nat) (hj:j<(ao t).length) (vis:Int):an Tryz.prog G0 252 [.po 0 0] [(0,pB t j vis)] 1 (bv true) [(0,pB t (j+1) vis)]:=by
 have hk:=k.len;have r1:=mW t k j (by omega) vis;have r2:=M2 t k j (by omega) vis;rw [decide_eq_true hj] at r1;simp only [pB] at r1 r2 ⊢;refine vF ab [0,2,4,11] Tryz.func252 rfl Tryz.results252 Tryz.ntmps252 ?_;(repeat' (first|with_reducible refine K0 (r1) ?_|with_reducible refine K0 (r2) ?_|(refine' zq)|fail))
 refine ae.now [] (by decide) ?_;(refine' zg);first|exact aj _|exact ap.cons rfl ap.nil|exact ap.cons rfl (ap.cons rfl ap.nil)|exact ap.nil
theorem Ql (t:Option T) (k:Tk t) (j0:Nat) (vis0:Int) (d:Nat) (hd:d≤3) (v b:Int) (hv0:0≤v) (hv:v≤nd (ay (ao t)) d) (hb:b=0∨b=1) :
 ∃j vis:Nat,BP d v b (ao t) j∧an Tryz.prog G0 271 [.po 0 0,iv d,iv v,iv b] [(0,pB t j0 vis0)] 1 (iv 0) [(0,pB t j vis)]:=by
 obtain ⟨j,vis,sp,-,r1⟩:=nF t k d hd v b hv0 hv hb;have e1:(ay ((ao t).take j)).n=j:=by rw [fe,List.length_take,Nat.min_eq_left sp.le]
 refine ⟨j,vis,sp,?_⟩;simp only [pB,gK] at r1 ⊢;refine vF ab [0,1,2,3,8,9,10,12,25] Tryz.func271 rfl Tryz.results271 Tryz.ntmps271 ?_;(refine' fj r1)
 refine ae.now [] (by decide) ?_;(refine' zg)
 rw [e1];first|exact aj _|exact ap.cons rfl ap.nil|exact ap.cons rfl (ap.cons rfl ap.nil)|exact ap.nil
theorem M3 (t:Option T) (j0:Nat) (vis0:Int) (d:Nat) (hd:d≤3) (v b:Int) (hv:v<0∨nd (ay (ao t)) d<v) :
 an Tryz.prog G0 271 [.po 0 0,iv d,iv v,iv b] [(0,pB t j0 vis0)] 1 (iv 1) [(0,pB t j0 vis0)]:=by
 have r1:=HN t d hd v b hv;simp only [pB,gK] at r1 ⊢;refine vF ab [0,1,2,3,8,9,10,12,25] Tryz.func271 rfl Tryz.results271 Tryz.ntmps271 ?_;(refine' fj r1)
 refine ae.now [] (by decide) ?_;(refine' zg);first|exact aj _|exact ap.cons rfl ap.nil|exact ap.cons rfl (ap.cons rfl ap.nil)|exact ap.nil
structure Rp (l:List Int) (ps:List (List Int)) (t:Option T):Prop where
 items:ao t=ps.map fu
 flat:ps.flatten=l
 val:HI l
 wf:DA t
 ht:BJ t≤1000000
 pcs : ∀p∈ps,1≤p.length∧p.length≤16
 len:l.length≤20000
def bd (t:Option T):D:= .pd 1 [.agg [aX t]] 0 0
theorem p8 : ∀ps:List (List Int),(∀p∈ps,1≤p.length)→ps.length≤ps.flatten.length
 | [],_=>Nat.le_refl _
 | p::r,h=>by
  have:=h p (by simp);have:=p8 r (fun q hq=>h q (by simp [hq]));rw [List.flatten_cons,List.length_append,List.length_cons];omega
theorem Oj {p:List Int} (h:p.length≤1000):bZ (fu p):=by
 have h1:=cu p;have h2:=gr p;unfold bZ fu;simp only;omega
section
variable {l:List Int} {ps:List (List Int)} {t:Option T}
theorem Rp.n (R:Rp l ps t):ps.length≤20000:=by
 have:=p8 ps (fun p hp=>(R.pcs p hp).1);have:=R.len;rw [←R.flat] at this;omega
theorem Rp.tk (R:Rp l ps t):Tk t:=by
 refine ⟨R.wf,R.ht,?_,?_⟩
 ·rw [R.items,List.length_map];have:=R.n;omega
 ·rw [R.items];intro i hi;obtain ⟨p,hp,rfl⟩:=List.mem_map.1 hi;exact Oj (by have:=R.pcs p hp;omega)
theorem Rp.sum (R:Rp l ps t):(ay (ao t)).n=ps.length∧(ay (ao t)).d0=(aL l).length∧(ay (ao t)).d1=l.length∧(ay (ao t)).d2=aT l:=by
 have:=yp ps;rw [R.flat] at this;rw [R.items];exact this
theorem Rp.take (R:Rp l ps t) (j:Nat):(ao t).take j=(ps.take j).map fu:=by rw [R.items,List.map_take]
theorem Rp.at (R:Rp l ps t) (j:Nat):(ao t).getD j Mm=fu (ps.getD j []):=by
 rw [R.items,List.getD_eq_getElem?_getD,List.getD_eq_getElem?_getD,List.getElem?_map];cases ps[j]? <;> rfl
end
theorem jS (t:Option T):an Tryz.prog G0 135 [.d (bd t)] [] 0 (.d (aX t)) []:=by
 rw [bd,aX];refine vF ab [0,2,4] Tryz.func135 rfl Tryz.results135 Tryz.ntmps135 ?_;(refine' zo)
theorem MX (t:Option T):an Tryz.prog G0 77 [.d (bd t),iv 1] [] 0 (iv (ay (ao t)).d1) []:=by
 refine vF ab [0,1,4] Tryz.func77 rfl Tryz.results77 Tryz.ntmps77 ?_;(refine' tJ (jS t) (ju t))
section
variable {l:List Int} {ps:List (List Int)} {t:Option T}
theorem fM (R:Rp l ps t):an Tryz.prog G0 30 [.d (bd t)] [] 0 (iv l.length) []:=by
 rw [←R.sum.2.2.1];refine vF ab [0,2] Tryz.func30 rfl Tryz.results30 Tryz.ntmps30 ?_;(refine' kW (MX t))
def EN (s:Sm) (i:It) (b:Int):D:= .agg [.lit (.int .i64 s.n),.lit (.int .i64 s.d0),.lit (.int .i64 s.d1),.lit (.int .i64 s.d2),.lit (.int .i64 s.mx),.lit (.int .i64 s.pos),.lit (.int .i64 i.tag),.lit (.int .i64 i.id),.lit (.int .i64 i.d0),.lit (.int .i64 i.d1),.lit (.int .i64 i.d2),.lit (.int .i64 i.mx),.lit (.string i.text),.lit (.int .i64 b)]
attribute [push_cast] EN.eq_def
set_option maxHeartbeats 1600000 in
theorem sx (k:Tk t) (d:Nat) (hd:d≤3) (v b:Int) (hv0:0≤v) (hv:v≤nd (ay (ao t)) d) (hb:b=0∨b=1) :
 ∃j vis:Nat,BP d v b (ao t) j∧an Tryz.prog G0 246 [.d (bd t),iv d,iv v,iv b] [] 0 (.tup [.d (EN (ay ((ao t).take j)) ((ao t).getD j Mm) 0),.po 0 0,iv 0]) [(0,pB t j vis)]:=by
 obtain ⟨j,vis,sp,r1⟩:=Ql t k 0 0 d hd v b hv0 hv hb;have hk:=k.len;have r2:=mW t k j (by have:=sp.le;omega) vis;have r3:=og t j vis;have r0:=EK t;refine ⟨j,vis,sp,?_⟩;refine vF ab [0,1,2,3,8,9,10,11,12,13,24] Tryz.func246 rfl Tryz.results246 Tryz.ntmps246 ?_;(repeat' (first|with_reducible refine vQ (jS t) ?_|with_reducible refine vC (jS t) ?_|with_reducible refine vK (r0) ?_|with_reducible refine vO (r1) ?_|with_reducible refine K0 (r2) ?_|with_reducible refine Xw (r3) ?_|(refine' zq)|fail))
 refine ae.now [20] (by decide) ?_;(refine' zg);first|exact aj _|exact ap.cons rfl ap.nil|exact ap.cons rfl (ap.cons rfl ap.nil)|exact ap.nil
theorem GZ (t:Option T) (d:Nat) (hd:d≤3) (v b:Int) (hv:v<0∨nd (ay (ao t)) d<v) :
 an Tryz.prog G0 246 [.d (bd t),iv d,iv v,iv b] [] 0 (.tup [.d (EN Sm.zero Mm 0),.d (.lit (.pointer none)),iv 1]) []:=by
 have r0:=EK t;have r1:=M3 t 0 0 d hd v b hv;refine vF ab [0,1,2,3,8,9,10,11,12,13,24] Tryz.func246 rfl Tryz.results246 Tryz.ntmps246 ?_;(repeat' (first|with_reducible refine ae.out ?_|with_reducible refine vQ (jS t) ?_|with_reducible refine vC (jS t) ?_|with_reducible refine vK (r0) ?_|with_reducible refine vO (r1) ?_|(refine' zq)|fail))
end
structure Pl (l:List Int) (a:Nat) (s:Sm) (u q w:List Int):Prop where
 eq:l=u++(q++w)
 d0:s.d0=(aL u).length
 d1:s.d1=u.length
 d2:s.d2=aT u
 lo:u.length≤a
 hi:a≤u.length+q.length
 lt:a<l.length→a<u.length+q.length
 sz:q.length≤16
theorem xO (a:Nat) (b:Int) (hb:b=1) (s:Sm):bm 1 a b s=decide ((a:Int)<s.d1):=by
 subst hb;simp [bm,nd]
section
variable {l:List Int} {ps:List (List Int)} {t:Option T}
theorem Rp.getD_sz (R:Rp l ps t) (j:Nat):(ps.getD j []).length≤16:=by
 rw [List.getD_eq_getElem?_getD];cases h:ps[j]? with
 | none=>simp
 | some p=>exact (R.pcs p (List.mem_of_getElem? h)).2
theorem Rp.flat_j (R:Rp l ps t) (j:Nat):l=(ps.take j).flatten++(ps.getD j []++(ps.drop (j+1)).flatten):=by
 rw [←R.flat,List.getD_eq_getElem?_getD];cases h:ps[j]? with
 | none=>
  have:ps.length≤j:=List.getElem?_eq_none_iff.1 h;rw [List.take_of_length_le this,List.drop_of_length_le (by omega)];simp
 | some p=>exact Ma h
theorem Rp.flat_j1 (R:Rp l ps t) (j:Nat):(ps.take (j+1)).flatten=(ps.take j).flatten++ps.getD j []:=by
 rw [List.getD_eq_getElem?_getD];cases h:ps[j]? with
 | none=>
  have:ps.length≤j:=List.getElem?_eq_none_iff.1 h;rw [List.take_of_length_le this,List.take_of_length_le (by omega)];simp
 | some p=>exact FV h
theorem Rp.sum_j (R:Rp l ps t) (j:Nat):(ay ((ao t).take j)).n=(ps.take j).length∧(ay ((ao t).take j)).d0=(aL (ps.take j).flatten).length∧(ay ((ao t).take j)).d1=(ps.take j).flatten.length∧(ay ((ao t).take j)).d2=aT (ps.take j).flatten:=by
 rw [R.take];exact Qo ps j
theorem Rp.len' (R:Rp l ps t):(ao t).length=ps.length:=by rw [R.items,List.length_map]
theorem EO (R:Rp l ps t) {a j:Nat} (ha:a≤l.length) (sp:BP 1 a 1 (ao t) j):Pl l a (ay ((ao t).take j)) (ps.take j).flatten (ps.getD j []) (ps.drop (j+1)).flatten:=by
 obtain ⟨h1,h2,h3,h4⟩:=R.sum_j j;have e:=R.flat_j j;have hlo:(ps.take j).flatten.length≤a:=by
  rcases Nat.eq_zero_or_pos j with h|h
  ·subst h;simp
  ·have:=sp.below j h (Nat.le_refl _);rw [xO _ _ rfl,decide_eq_false_iff_not,h3] at this;omega
 have hlt:a<l.length→a<(ps.take j).flatten.length+(ps.getD j []).length:=fun hal=>by
  rcases Nat.lt_or_ge j ps.length with hj|hj
  ·have:=sp.here (by rw [R.len'];exact hj);obtain ⟨_,_,g3,_⟩:=R.sum_j (j+1);rw [xO _ _ rfl,decide_eq_true_eq,g3,R.flat_j1,List.length_append] at this;omega
  ·rw [List.take_of_length_le hj,R.flat] at hlo;omega
 refine ⟨e,h2,h3,h4,hlo,?_,hlt,R.getD_sz j⟩;rcases Nat.lt_or_ge a l.length with h|h
 ·have:=hlt h;omega
 ·have hl:=congrArg List.length e;simp only [List.length_append] at hl;rcases Nat.lt_or_ge j ps.length with hj|hj
  ·have:=sp.here (by rw [R.len'];exact hj);obtain ⟨_,_,g3,_⟩:=R.sum_j (j+1);rw [xO _ _ rfl,decide_eq_true_eq,g3,R.flat_j1,List.length_append] at this;omega
  ·rw [List.take_of_length_le hj,R.flat];omega
end
def Ve (a:Nat) (s:Sm) (q:List Int) (i:Nat):St:=⟨[(1,iv a),(4,.po 0 0),(6,.po 1 0),(9,iv (s.d1+i)),(34,.it 2)],[(0,.cell [iv 0,iv 0,iv 0,iv 0,iv 0,iv 0,iv 0,iv 0,iv 0,iv 0,iv 0,iv 0,.d (.lit (.string ⟨#[]⟩)),iv 0]),
 (1,.cell [iv s.n,iv s.d0,iv s.d1,iv s.d2,iv s.mx,iv s.pos,iv (fu q).tag,iv (fu q).id,iv (fu q).d0,iv (fu q).d1,iv (fu q).d2,iv (fu q).mx,.d (.lit (.string (cL q))),iv (cL q).size]),(2,.iter (cL q) (aL (q.take i)).length)],3⟩
attribute [push_cast] Ve.eq_def
theorem MJ (q:List Int):(fu q).text=cL q:=rfl
attribute [push_cast] MJ
section
variable {l:List Int} {ps:List (List Int)} {t:Option T}
theorem Sl (s:Sm):nd s 1=s.d1:=rfl
theorem wy {q:List Int} {i:Nat} {r:Int} (h:q[i]? = some r):(aL (q.take (i+1))).length=(aL (q.take i)).length+(Utf8.encode r).size:=by
 rw [dP h,a4,List.length_append,kg,Array.length_toList];rfl
theorem IA {q:List Int} (hv:HI q) {i:Nat} {r:Int} (h:q[i]? = some r):((Utf8.decode (cL q) (aL (q.take i)).length).1:Int)=r∧(Utf8.decode (cL q) (aL (q.take i)).length).2=(Utf8.encode r).size:=by
 have e:q.take i++r::q.drop (i+1)=q:=by rw [←cV h,List.take_append_drop]
 have:=w5 (q.take i) (q.drop (i+1)) r (hv r (List.mem_of_getElem? h));rwa [e] at this
theorem B9 {q:List Int} {i:Nat} (h:i<q.length):(aL (q.take i)).length<(cL q).size:=by
 have:=DV q h (Nat.le_refl _);rw [List.take_of_length_le (Nat.le_refl _)] at this;rw [bK];exact this
theorem LW {q:List Int} {i:Nat} (h:q.length≤i):(aL (q.take i)).length=(cL q).size:=by rw [List.take_of_length_le h,bK]
set_option maxHeartbeats 1600000 in
theorem sa (R:Rp l ps t) (a:Nat) (ha:a≤l.length) :
 ∃s u q w,Pl l a s u q w∧an Tryz.prog G0 211 [.d (bd t),iv a] [] 0 (.tup [.d (EN s (fu q) (aL (q.take (a - u.length))).length),iv 0]) []:=by
 have hlen:=R.len;obtain ⟨j,vis,sp,r1⟩:=sx R.tk 1 (by decide) (a:Int) 1 (by omega) (by rw [Sl,R.sum.2.2.1];omega) (.inr rfl);have p:=EO R ha sp;rw [R.at j] at r1;refine ⟨_,_,_,_,p,?_⟩;have hvq:HI (ps.getD j []):=fun x hx=>R.val x (by rw [p.eq];exact List.mem_append_right _ (List.mem_append_left _ hx))
 generalize ay ((ao t).take j)=s at p r1;generalize (ps.take j).flatten=u at p r1;generalize ps.getD j []=q at p r1 hvq;generalize (ps.drop (j+1)).flatten=w at p;obtain ⟨e,d0,d1,d2,lo,hi,lt,sz⟩:=p;have hq64:=cu q;refine vF ab [0,1,4,5,6,8,9,10,19,34,35,36,40] Tryz.func211 rfl Tryz.results211 Tryz.ntmps211 ?_;(refine' Qx r1)
 refine vL (lv:=[0,1,4,5,6,8,9,10,19,34,35,36,40]) ab (Ve a s q) (fun i=>i≤q.length∧u.length+i≤a) (fun i=>q.length - i) (0) ((aC.go [1,4,6,9,34] (by exact vT) rfl)) ?_ ?_
 ·exact ⟨Nat.zero_le _,lo⟩
 rintro i ⟨h1,h2⟩;rcases Nat.lt_or_ge i q.length with hlt|hge
 ·obtain ⟨r,hr⟩ : ∃r,q[i]? = some r:=⟨_,List.getElem?_eq_getElem hlt⟩
  have hin:=B9 hlt;obtain ⟨g1,g2⟩:=IA hvq hr;have g3:=wy hr;(refine' zg)
  ·obtain rfl:i=a - u.length:=by omega
   refine ae.now [] (by decide) ?_;(refine' zg);first|exact aj _|exact ap.cons rfl ap.nil|exact ap.cons rfl (ap.cons rfl ap.nil)|exact ap.nil
  ·refine aG.go (i+1) [1,4,6,9,34] (by rw [Ve,g3,←g2];exact vT) ?_ ?_
   ·show q.length - (i+1)<q.length - i;omega
   ·exact ⟨hlt,by omega⟩
 ·have hout:=LW hge;(refine' zg)
  obtain rfl:i=a - u.length:=by omega
  rw [hout];refine ae.now [] (by decide) ?_;(refine' zg);first|exact aj _|exact ap.cons rfl ap.nil|exact ap.cons rfl (ap.cons rfl ap.nil)|exact ap.nil
end
section
variable {l:List Int} {ps:List (List Int)} {t:Option T}
theorem Pl.take {a:Nat} {s:Sm} {u q w:List Int} (p:Pl l a s u q w):l.take a=u++q.take (a - u.length):=by
 have h1:=p.lo;have h2:=p.hi;rw [p.eq,List.take_append,List.take_of_length_le (l:=u) (by omega),List.take_append,show a - u.length - q.length=0 by omega,List.take_zero,List.append_nil]
theorem uK (R:Rp l ps t) (a:Nat) (ha:a≤l.length):an Tryz.prog G0 247 [.d (bd t),iv a] [] 0 (.tup [iv (aL (l.take a)).length,iv 0]) []:=by
 obtain ⟨s,u,q,w,p,r1⟩:=sa R a ha;have hlen:=R.len;have e:=cu (l.take a);have e0:s.d0+((aL (q.take (a - u.length))).length:Int)=(aL (l.take a)).length:=by
  rw [p.take,a4,List.length_append,p.d0];omega
 have e1:(l.take a).length≤a:=by simp;omega
 rw [←e0];refine vF ab [0,1,4,5,6,7,15] Tryz.func247 rfl Tryz.results247 Tryz.ntmps247 ?_;(refine' kW r1)
end
def Xv (x y:List Int) (r:Int):Bool→St
 | false=>⟨[(0,.d (.lit (.string (cL (x++r::y))))),(1,iv (aL x).length),(6,.d (.lit (.int .i32 0))),(20,.it 0)],[(0,.iter (cL (r::y)) 0)],1⟩
 | true=>⟨[(0,.d (.lit (.string (cL (x++r::y))))),(1,iv (aL x).length),(6,.d (.lit (.int .i32 r))),(20,.it 0)],[(0,.iter (cL (r::y)) (Utf8.encode r).size)],1⟩
attribute [push_cast] Xv.eq_1 Xv.eq_2
theorem KV (x y:List Int) (i j:Nat) (hi:i=(aL x).length) (hj:j=(cL (x++y)).size):(cL (x++y)).extract i j=cL y:=by
 have:=yy x y [] i j hi (by rw [hj,bK,a4,List.length_append]);rwa [List.append_nil] at this
set_option maxHeartbeats 1600000 in
theorem KW (x y:List Int) (r:Int) (hv:Utf8.valid r=true) (hl:(x++r::y).length≤1000000) :
 an Tryz.prog G0 212 [.d (.lit (.string (cL (x++r::y)))),iv (aL x).length] [] 0 (.tup [.d (.lit (.int .i32 r)),iv (Utf8.encode r).size]) []:=by
 have hs:(cL (x++r::y)).size=(aL x).length+((Utf8.encode r).size+(aL y).length):=by
  rw [bK,a4,g8,List.length_append,List.length_append,Array.length_toList];rfl
 have hs2:(cL (r::y)).size=(Utf8.encode r).size+(aL y).length:=by rw [bK,g8,List.length_append,Array.length_toList];rfl
 have hp:1≤(Utf8.encode r).size:=by have:=DY r;rw [Array.length_toList] at this;exact this
 have h4:=cu (x++r::y);rw [a4,g8,List.length_append,List.length_append,Array.length_toList] at h4;change (aL x).length+((Utf8.encode r).size+(aL y).length)≤_ at h4;have hc : ∀i j,i=(aL x).length→j=(cL (x++r::y)).size→(cL (x++r::y)).extract i j=cL (r::y):=fun i j h1 h2=>KV x (r::y) i j h1 h2
 obtain ⟨d1,d2⟩:=w5 [] y r hv;simp only [fT,List.length_nil,List.nil_append] at d1 d2;refine vF ab [0,1,4,5,6,7,8,16,20,21,22,26] Tryz.func212 rfl Tryz.results212 Tryz.ntmps212 ?_;(repeat' (first|(refine' cD)|fail))
 rw [hc _ _ (by omega) (by omega)];(repeat' (first|(refine' cD)|fail))
 refine vL (lv:=[0,1,4,5,6,7,8,16,20,21,22,26]) ab (Xv x y r) (fun _=>True) (fun b=>if b then 0 else 1) (false) ((aC.go [0,1,6,20] (by exact vT) rfl)) ?_ ?_
 ·trivial
 rintro b -
 cases b with
 | false=>
  (repeat' (first|(refine' cD)|fail))
  refine aG.go (true) [0,1,6,20] (by rw [d1,d2];exact vT) ?_ ?_
  ·simp
  ·trivial
 | true=>
  (repeat' (first|(refine' cD)|fail))
  ·refine ae.now [] (by decide) ?_;(refine' zg);first|exact aj _|exact ap.cons rfl ap.nil|exact ap.cons rfl (ap.cons rfl ap.nil)|exact ap.nil
  ·have e:((cL (x++r::y)).size:Int) - (aL x).length=(Utf8.encode r).size:=by omega
   rw [e];refine ae.now [] (by decide) ?_;(refine' zg);first|exact aj _|exact ap.cons rfl ap.nil|exact ap.cons rfl (ap.cons rfl ap.nil)|exact ap.nil
section
variable {l:List Int} {ps:List (List Int)} {t:Option T}
theorem P8 (R:Rp l ps t) (a:Nat) (r:Int) (hr:l[a]? = some r):an Tryz.prog G0 157 [.d (bd t),iv a] [] 0 (.tup [.d (.lit (.int .i32 r)),iv 0]) []:=by
 have ha:=(List.getElem?_eq_some_iff.1 hr).1;obtain ⟨s,u,q,w,p,r1⟩:=sa R a (by omega);have h1:=p.lo;have h2:=p.lt ha;have h3:=p.sz;have hq:q[a - u.length]? = some r:=by
  have:=p.eq;rw [this,List.getElem?_append_right h1,List.getElem?_append_left (by omega)] at hr;exact hr
 have hin:=B9 (q:=q) (i:=a - u.length) (by omega);have r2:=KW (q.take (a - u.length)) (q.drop (a - u.length+1)) r (R.val r (List.mem_of_getElem? hr)) (by rw [←cV hq,List.take_append_drop];omega);rw [←cV hq,List.take_append_drop] at r2;have e4:=cu q;have e5:=bK q;refine vF ab [0,1,4,5,6,7,8,26] Tryz.func157 rfl Tryz.results157 Tryz.ntmps157 ?_;(refine' tJ r1 r2)
theorem H9:({ data :=#[10] } : ByteArray).size=1:=rfl
theorem ON:((#[10]:Array UInt8).getD 0 0).toNat=10:=rfl
attribute [push_cast] H9 ON
theorem EY (q:List Int) (hv:HI q) (hl:q.length≤1000000):an Tryz.prog G0 228 [.d (.lit (.string (cL q))),.d (.lit (.string ⟨#[10]⟩))] [] 0 (iv (aT q)) []:=by
 have e:yX (cL q) (10:Int).toNat.toUInt8=aT q:=Il q hv;have e2:=gr q;rw [←e];refine vF ab [0,1,4,5,6,9,15,24] Tryz.func228 rfl Tryz.results228 Tryz.ntmps228 ?_;(refine' zo)
 refine vX (iv (yX (cL q) (10:Int).toNat.toUInt8)) ?_;(refine' zo)
theorem yG (R:Rp l ps t) (a:Nat) (ha:a≤l.length):an Tryz.prog G0 168 [.d (bd t),iv a] [] 0 (.tup [iv (aT (l.take a)),iv 0]) []:=by
 obtain ⟨s,u,q,w,p,r1⟩:=sa R a ha;have h1:=p.lo;have h2:=p.hi;have h3:=p.sz;have hlen:=R.len;have hvq:HI (q.take (a - u.length)):=fun x hx=>R.val x (by rw [p.eq];exact List.mem_append_right _ (List.mem_append_left _ (List.mem_of_mem_take hx)))
 have e0:s.d2+(aT (q.take (a - u.length)):Int)=aT (l.take a):=by rw [p.take,fO,p.d2];omega
 have e1:=gr (l.take a);have e2:=fp q (a - u.length);have e3:=cu q;have e5:=bK q;have e6:(l.take a).length≤a:=by simp;omega
 have hc : ∀i j,i=0→j=(aL (q.take (a - u.length))).length→(cL q).extract i j=cL (q.take (a - u.length)):=fun i j hi hj=>by
  have:=yy [] (q.take (a - u.length)) (q.drop (a - u.length)) i j hi (by rw [hj,fT];simp);rwa [List.nil_append,List.take_append_drop] at this
 have r2:=EY (q.take (a - u.length)) hvq (by simp;omega);rw [←e0];refine vF ab [0,1,4,5,6,7,15] Tryz.func168 rfl Tryz.results168 Tryz.ntmps168 ?_;(refine' kW r1)
 rw [hc _ _ (by omega) (by omega)];(refine' kW r2)
end
def T6 (k:Int) (s:Sm) (q:List Int) (i:Nat):St:=⟨[(1,iv k),(9,iv (s.d1+i)),(10,iv (s.d2+aT (q.take i))),(36,.it 0)],[(0,.iter (cL q) (aL (q.take i)).length)],1⟩
attribute [push_cast] T6.eq_def jv fT
theorem Qp (s:Sm):nd s 2=s.d2:=rfl
theorem EG (k:Nat) (b:Int) (hb:b=0) (s:Sm):bm 2 k b s=decide ((k:Int)≤s.d2):=by
 subst hb;unfold bm;rw [Qp,Bool.eq_iff_iff];simp only [Bool.or_eq_true,Bool.and_eq_true,decide_eq_true_eq,beq_iff_eq,true_and];omega
section
variable {l:List Int} {ps:List (List Int)} {t:Option T}
theorem yH (t:Option T):an Tryz.prog G0 214 [.d (bd t),iv 0] [] 0 (.tup [iv 0,iv 0]) []:=by
 refine vF ab [0,1,4,5,6,8,9,10,12,14,23,36,37,38,43,48] Tryz.func214 rfl Tryz.results214 Tryz.ntmps214 ?_;(refine' zo)
theorem BM (R:Rp l ps t) (k:Int) (hk:k<0∨(aT l:Int)<k):an Tryz.prog G0 214 [.d (bd t),iv k] [] 0 (.tup [iv 0,iv 1]) []:=by
 have r1:=GZ t 2 (by decide) k 0 (by rw [Qp,R.sum.2.2.2];exact hk);refine vF ab [0,1,4,5,6,8,9,10,12,14,23,36,37,38,43,48] Tryz.func214 rfl Tryz.results214 Tryz.ntmps214 ?_;(refine' kW r1)
set_option maxHeartbeats 1600000 in
theorem EX (R:Rp l ps t) (k:Nat) (hk:k≤aT l):an Tryz.prog G0 214 [.d (bd t),iv k] [] 0 (.tup [iv (py l k),iv 0]) []:=by
 rcases Nat.eq_zero_or_pos k with rfl|hk0
 ·rw [BT];exact yH t
 have hlen:=R.len;obtain ⟨j,vis,sp,r1⟩:=sx R.tk 2 (by decide) (k:Int) 0 (by omega) (by rw [Qp,R.sum.2.2.2];omega) (.inl rfl);rw [R.at j] at r1;have e:=R.flat_j j;obtain ⟨_,d0,d1,d2⟩:=R.sum_j j;have hsz:=R.getD_sz j;have hbu:aT (ps.take j).flatten<k:=by
  rcases Nat.eq_zero_or_pos j with h|h
  ·subst h;simpa [aT] using hk0
  ·have:=sp.below j h (Nat.le_refl _);rw [EG _ _ rfl,decide_eq_false_iff_not,d2] at this;omega
 have hbq:k≤aT (ps.take j).flatten+aT (ps.getD j []):=by
  rcases Nat.lt_or_ge j ps.length with hj|hj
  ·have:=sp.here (by rw [R.len'];exact hj);obtain ⟨_,_,_,g4⟩:=R.sum_j (j+1);rw [EG _ _ rfl,decide_eq_true_eq,g4,R.flat_j1,fO] at this;omega
  ·rw [List.take_of_length_le hj,R.flat] at hbu;omega
 have hvq:HI (ps.getD j []):=fun x hx=>R.val x (by rw [e];exact List.mem_append_right _ (List.mem_append_left _ hx))
 have hul:=congrArg List.length e;simp only [List.length_append] at hul;generalize ay ((ao t).take j)=s at r1 d0 d1 d2;generalize (ps.take j).flatten=u at *
 generalize ps.getD j []=q at *
 generalize (ps.drop (j+1)).flatten=w at *
 have hq64:=cu q;have hbl:=gr u;have hbr:=gr q;have b0:aT ([]:List Int)=0:=rfl;refine vF ab [0,1,4,5,6,8,9,10,12,14,23,36,37,38,43,48] Tryz.func214 rfl Tryz.results214 Tryz.ntmps214 ?_;(refine' Qx r1)
 refine vL (lv:=[0,1,4,5,6,8,9,10,12,14,23,36,37,38,43,48]) ab (T6 k s q) (fun i=>i≤q.length∧aT u+aT (q.take i)<k) (fun i=>q.length - i) (0) ((aC.go [1,9,10,36] (by exact vT) rfl)) ?_ ?_
 ·exact ⟨Nat.zero_le _,by rw [List.take_zero,jv];omega⟩
 rintro i ⟨h1,h2⟩;have hb3:=l7 q i;rcases Nat.lt_or_ge i q.length with hlt|hge
 ·obtain ⟨r,hr⟩ : ∃r,q[i]? = some r:=⟨_,List.getElem?_eq_getElem hlt⟩
  have hin:=B9 hlt;obtain ⟨g1,g2⟩:=IA hvq hr;have g3:=wy hr;have g4:aT (q.take (i+1))=aT (q.take i)+(if r=10 then 1 else 0):=by rw [dP hr,uQ]
  have fin:r=10→aT u+aT (q.take i)+1=k→py l k=u.length+i+1:=fun h10 hkk=>by
   have e3:q++w=q.take i++(r::q.drop (i+1)++w):=by rw [←List.append_assoc,←cV hr,List.take_append_drop]
   rw [e,gS u _ k (by omega),e3,gS _ _ _ (by omega),show k - aT u - aT (q.take i)=1 by omega,List.cons_append,py,if_pos h10,BT,List.length_take,Nat.min_eq_left (by omega)];omega
  (refine' zo)
  ·rw [fin (by omega) (by omega),d1];congr 4
  ·rw [g1] at *
   rw [if_pos (by assumption)] at g4;refine aG.go (i+1) [1,9,10,36] (by rw [T6,g3,g4,←g2];exact vT) ?_ ?_
   ·show q.length - (i+1)<q.length - i;omega
   ·exact ⟨hlt,by omega⟩
  ·rw [g1] at *
   rw [if_neg (by assumption)] at g4;refine aG.go (i+1) [1,9,10,36] (by rw [T6,g3,g4,←g2];exact vT) ?_ ?_
   ·show q.length - (i+1)<q.length - i;omega
   ·exact ⟨hlt,by omega⟩
 ·rw [List.take_of_length_le hge] at h2;omega
end
abbrev US:Option Nat:=some 396
def Lc:bF:= .cell [.d (.lit (.pointer none)),.d (.lit (.slice none 0 0))] US
def BI (a r n:Nat):bF:= .cell [.po a 0,.so r 1 0 n] US
def kI (b:List UInt8):bF:= .row 1 (b.map HE) (some 5)
attribute [push_cast] Lc.eq_def BI.eq_def kI.eq_def
@[push_cast] theorem Zu:Lg Tryz.prog 394=some 396:=by kernel_rfl
@[push_cast] theorem Zv:Lg Tryz.prog 426=none:=by kernel_rfl
@[push_cast] theorem Zw:QR Tryz.prog 426=true:=by kernel_rfl
@[push_cast] theorem Zx:QR Tryz.prog 394=false:=by kernel_rfl
@[push_cast] theorem aad:So Tryz.prog 396=true:=by kernel_rfl
@[push_cast] theorem aab:Rj Tryz.prog 318=some 5:=by kernel_rfl
@[push_cast] theorem aaa:Tryz.prog.cellsOf 396=2:=by kernel_rfl
@[push_cast] theorem Xu:Lg Tryz.prog 418=some 5:=by kernel_rfl
@[push_cast] theorem TV:Tryz.prog.cellsOf 5=1:=by kernel_rfl
@[push_cast] theorem aac:Vf Tryz.prog 394=true:=by kernel_rfl
theorem LM:decide True=true:=rfl
attribute [push_cast] List.isEmpty_cons LM
section
variable {P:Program} {G:Gl} {g:Operand→V} {σ:ak} {id:Nat} {K:V→ak→Prop}
@[push_cast] theorem P7 (x:Operand) (t:Nat):aV P G (.call ⟨.builtin .unsafeSliceData,#[x],#[t]⟩) g σ id K=iZ (Dw (g x)) (fun v=>K v []):=by
 simp only [aV,a8,bX,gU,aR,eV];cases Dw (g x) with
 | none=>rfl
 | some x=>obtain ⟨p,v⟩:=x;rfl
@[push_cast] theorem Sk (x n:Operand) (t t':Nat):aQ P G (.call ⟨.builtin .unsafeString,#[x,n],#[t,t']⟩) g σ id K=dd (Nv P t (g x) (g n) σ) K:=by
 simp only [aQ,cX,a8,bX,gU,aR,eR,eV];cases Nv P t (g x) (g n) σ with
 | none=>rfl
 | some x=>obtain ⟨p,v,s⟩:=x;simp [dd,cp]
end
theorem Qt {P:Program} {pt id n e:Nat} {b:List UInt8} {σ:ak} (hg:σ.get id=some (.row 1 (b.map HE) (some e))) (hp:Lg P pt=some e) (hc:P.cellsOf e=1) (hn:b.length=n) (h0:0<n) (hm:n≤1000000) :
 Nv P pt (.pe id 1 0 0) (iv n) σ=some (∀y∈b.map HE,nQ y,.d (.lit (.string ⟨b.toArray⟩)),σ.del id):=by
 have e1:(b.map HE).take ((n:Int)).toNat=b.map HE:=List.take_of_length_le (by simp;omega);simp only [Nv,hg,hp,hc,e1,uR];rw [if_pos];refine ⟨⟨?_,?_⟩,?_,?_,?_,?_,?_⟩<;>first|trivial|(simp;omega)
theorem OQ:an Tryz.prog G0 272 [.po 0 0] [(0,Lc)] 1 (.tup []) [(0,.cell [.po 0 0,.d (.lit (.slice none 0 0))] US)]:=by
 simp only [Lc,BI,kI];refine vF ab [0,6,19] Tryz.func272 rfl Tryz.results272 Tryz.ntmps272 ?_;(refine' zg)
 refine vX (.po 0 0) ?_;(refine' zg)
 refine ae.now [] (by decide) ?_;(refine' zg);first|exact aj _|exact ap.cons rfl ap.nil|exact ap.cons rfl (ap.cons rfl ap.nil)|exact ap.nil
theorem OR (n:Nat) (b:List UInt8):an Tryz.prog G0 272 [.po 0 0] [(0,BI 0 1 n),(1,kI b)] 2 (.tup []) [(0,BI 0 1 n),(1,kI b)]:=by
 simp only [Lc,BI,kI];refine vF ab [0,6,19] Tryz.func272 rfl Tryz.results272 Tryz.ntmps272 ?_;(refine' zg)
 refine ae.now [] (by decide) ?_;(refine' zg);first|exact aj _|exact ap.cons rfl ap.nil|exact ap.cons rfl (ap.cons rfl ap.nil)|exact ap.nil
theorem NP:an Tryz.prog G0 249 [.po 0 0] [(0,Lc)] 1 (iv 0) [(0,Lc)]:=by
 simp only [Lc];refine vF ab [0,2] Tryz.func249 rfl Tryz.results249 Tryz.ntmps249 ?_;(refine' zg)
 refine ae.now [] (by decide) ?_;(refine' zg);first|exact aj _|exact ap.cons rfl ap.nil|exact ap.cons rfl (ap.cons rfl ap.nil)|exact ap.nil
theorem NQ (n:Nat) (b:List UInt8):an Tryz.prog G0 249 [.po 0 0] [(0,BI 0 1 n),(1,kI b)] 2 (iv n) [(0,BI 0 1 n),(1,kI b)]:=by
 simp only [BI,kI];refine vF ab [0,2] Tryz.func249 rfl Tryz.results249 Tryz.ntmps249 ?_;(refine' zg)
 refine ae.now [] (by decide) ?_;(refine' zg);first|exact aj _|exact ap.cons rfl ap.nil|exact ap.cons rfl (ap.cons rfl ap.nil)|exact ap.nil
theorem Lw (s:ByteArray) (hs:s.size≤1000000):an Tryz.prog G0 251 [.po 0 0,.d (.lit (.string s))] [(0,Lc)] 1 (.tup [iv s.size,.d (.lit .nilIface)]) [(0,BI 0 1 s.size),(1,kI s.data.toList)]:=by
 have r1:=OQ;simp only [Lc,BI,kI] at r1 ⊢;refine vF ab [0,1,4,5] Tryz.func251 rfl Tryz.results251 Tryz.ntmps251 ?_;(refine' Xy r1)
 refine ae.now [41] (by decide) ?_;(refine' zg)
 exact ap.cons rfl (ap.cons rfl ap.nil)
theorem Lx (b:List UInt8) (n:Nat) (hn:b.length=n) (hn':n≤1000000) (s:ByteArray) (hs:s.size≤1000000):an Tryz.prog G0 251 [.po 0 0,.d (.lit (.string s))] [(0,BI 0 1 n),(1,kI b)] 2 (.tup [iv s.size,.d (.lit .nilIface)]) [(0,BI 0 2 (n+s.size)),(2,kI (b++s.data.toList))]:=by
 have r1:=OR n b;simp only [BI,kI] at r1 ⊢;refine vF ab [0,1,4,5] Tryz.func251 rfl Tryz.results251 Tryz.ntmps251 ?_;(refine' zg)
 refine au.two 0 1 r1 ?_;(refine' zg)
 have e:(b++s.data.toList).length=n+s.size:=by rw [List.length_append,hn,Array.length_toList];rfl
 rw [e];refine ae.now [42] (by decide) ?_;(refine' zg)
 exact ap.cons rfl (ap.cons rfl ap.nil)
theorem Lv (b:List UInt8) (n:Nat) (hn:b.length=n) (h0:0<n) (hn':n≤1000000):an Tryz.prog G0 253 [.po 0 0] [(0,BI 0 1 n),(1,kI b)] 2 (.d (.lit (.string ⟨b.toArray⟩))) []:=by
 simp only [BI,kI];refine vF ab [0,2] Tryz.func253 rfl Tryz.results253 Tryz.ntmps253 ?_;(repeat' (first|(simp -implicitDefEqProofs -dsimp only [if_pos h0])|(refine' zq)|fail))
 rw [Qt rfl Xu TV hn h0 hn'];(refine' zo)
theorem j6 {α:Type} (l:List α) {i j:Nat} (h:i≤j):l.take j=l.take i++(l.take j).drop i:=by
 conv=>lhs;rw [←List.take_append_drop i (l.take j),List.take_take,Nat.min_eq_left h]
def Sg (t:Option T) (ps:List (List Int)) (j:Nat) (vis:Int) (a b:Nat):Nat→St
 | 0=>⟨[(8,iv a),(10,iv b),(12,.po 0 0),(14,.po 1 0),(15,iv (ay ((ao t).take j)).d0)],[(0,pB t j vis),(1,Lc)],2⟩
 | i+1=>⟨[(8,iv a),(10,iv b),(12,.po 0 0),(14,.po 1 0),(15,iv (ay ((ao t).take j)).d0)],[(0,pB t (j+(i+1)) vis),(1,BI 1 2 (aL ((ps.drop j).take (i+1)).flatten).length),(2,kI (aL ((ps.drop j).take (i+1)).flatten))],3⟩
attribute [push_cast] Sg.eq_1 Sg.eq_2
theorem xn (ps:List (List Int)) (j i:Nat):(ps.take (j+i)).flatten=(ps.take j).flatten++((ps.drop j).take i).flatten:=by
 rw [List.take_add,List.flatten_append]
theorem qV {ps:List (List Int)} {j i:Nat} {q:List Int} (h:ps[j+i]? = some q):((ps.drop j).take (i+1)).flatten=((ps.drop j).take i).flatten++q:=by
 rw [List.take_add_one,List.getElem?_drop,h,List.flatten_append];simp
section
variable {l:List Int} {ps:List (List Int)} {t:Option T}
theorem KC {l u X:List Int} {from' to m:Nat} (hu:u=l.take u.length) (h1:u.length≤from') (h2:from'≤to) (hm:to≤m) (hX:u++X=l.take m) (i j:Nat) (hi:i+(aL u).length=(aL (l.take from')).length) (hj:j+(aL u).length=(aL (l.take to)).length) :
 (cL X).extract i j=cL ((l.take to).drop from'):=by
 have e1:=j6 l h1;have e2:=j6 l h2;have e3:=j6 l hm;rw [←hu] at e1;have eX:X=(l.take from').drop u.length++((l.take to).drop from'++(l.take m).drop to):=by
  have:u++X=u++((l.take from').drop u.length++((l.take to).drop from'++(l.take m).drop to)):=by
   rw [hX];conv=>lhs;rw [e3,e2,e1]
   simp only [List.append_assoc]
  exact List.append_cancel_left this
 rw [eX];have g1:=congrArg (fun x=>(aL x).length) e1;have g2:=congrArg (fun x=>(aL x).length) e2;simp only [a4,List.length_append] at g1 g2;exact yy _ _ _ i j (by omega) (by omega)
set_option maxHeartbeats 3200000 in
theorem GW (R:Rp l ps t) (from' to:Nat) (h1:from'≤to) (h2:to≤l.length):an Tryz.prog G0 218 [.d (bd t),iv from',iv to] [] 0 (.tup [.d (.lit (.string (cL ((l.take to).drop from')))),iv 0]) []:=by
 have ra:=uK R from' (by omega);have rb:=uK R to h2;have hlen:=R.len;obtain ⟨j,vis,sp,r1⟩:=sx R.tk 1 (by decide) (from':Int) 1 (by omega) (by rw [Sl,R.sum.2.2.1];omega) (.inr rfl);have p:=EO R (by omega) sp;have e0:=p.d0;have hul:=p.lo;have hu:(ps.take j).flatten=l.take (ps.take j).flatten.length:=by
  conv=>rhs;rw [R.flat_j j]
  rw [List.take_left]
 have hst:=og t j vis;have hjle:=sp.le;rw [R.len'] at hjle;have hn:=R.n;have hbb:=fp l to;have hab:=cu l;have haa:=fp l from';obtain ⟨a,ea⟩ : ∃a,a=(aL (l.take from')).length:=⟨_,rfl⟩
 obtain ⟨b,eb⟩ : ∃b,b=(aL (l.take to)).length:=⟨_,rfl⟩
 obtain ⟨st,est⟩ : ∃st,st=(aL (ps.take j).flatten).length:=⟨_,rfl⟩
 rw [←ea] at ra haa;rw [←eb] at rb hbb;rw [←est] at e0;have fin : ∀i,j+i≤ps.length→b≤st+(aL ((ps.drop j).take i).flatten).length→to≤(ps.take (j+i)).flatten.length:=fun i hi hb=>by
  have e1:=xn ps j i;have e2:(ps.take (j+i)).flatten=l.take (ps.take (j+i)).flatten.length:=by
   conv=>rhs;rw [R.flat_j (j+i)]
   rw [List.take_left]
  have e3:(aL (ps.take (j+i)).flatten).length=st+(aL ((ps.drop j).take i).flatten).length:=by rw [e1,a4,List.length_append,est]
  rcases Nat.lt_or_ge (ps.take (j+i)).flatten.length to with hlt|hge
  ·have:=DV l hlt h2;rw [←e2] at this;omega
  ·exact hge
 have mon:(aL (ps.take j).flatten).length≤(aL (l.take from')).length:=by
  rw [hu];have e:=j6 l hul;have g:=congrArg (fun x=>(aL x).length) e;simp only [a4,List.length_append] at g;omega
 have mon2:(aL (l.take from')).length≤(aL (l.take to)).length:=by
  have e:=j6 l h1;have g:=congrArg (fun x=>(aL x).length) e;simp only [a4,List.length_append] at g;omega
 refine vF ab [0,1,2,6,7,8,9,10,12,14,15,16,30,38,55,67] Tryz.func218 rfl Tryz.results218 Tryz.ntmps218 ?_;(repeat' (first|with_reducible refine vC (ra) ?_|with_reducible refine vC (rb) ?_|with_reducible refine vK (r1) ?_|with_reducible refine K0 (hst) ?_|(refine' zq)|fail))
 refine vL (lv:=[0,1,2,6,7,8,9,10,12,14,15,16,30,38,55,67]) ab (Sg t ps j vis a b) (fun i=>j+i≤ps.length) (fun i=>ps.length - i) (0) ((aC.go [8,10,12,14,15] (by exact vT) rfl)) ?_ ?_
 ·omega
 intro i hi;have fini:=fin i hi;have e3:(aL (ps.take (j+i)).flatten).length=st+(aL ((ps.drop j).take i).flatten).length:=by rw [xn,a4,List.length_append,est]
 have e4:(ps.take (j+i)).flatten=l.take (ps.take (j+i)).flatten.length:=by
  conv=>rhs;rw [R.flat_j (j+i)]
  rw [List.take_left]
 have e5:=fp l (ps.take (j+i)).flatten.length;rw [←e4,e3] at e5;have done:b≤st+(aL ((ps.drop j).take i).flatten).length → ∀x y:Nat,x+st=a→y+st=b→(cL ((ps.drop j).take i).flatten).extract x y=cL ((l.take to).drop from'):=fun hb x y hx hy=>
  KC (m:=(ps.take (j+i)).flatten.length) hu hul h1 (fini hb) (by rw [←xn];exact e4) x y (by omega) (by omega)
 have hlt : ¬b≤st+(aL ((ps.drop j).take i).flatten).length→j+i<ps.length:=fun hb=>by
  rcases Nat.lt_or_ge (j+i) ps.length with h|h
  ·exact h
  ·rw [List.take_of_length_le h,R.flat] at e3;omega
 by_cases hb:b≤st+(aL ((ps.drop j).take i).flatten).length
 ·have dn:=done hb;cases i with
  | zero=>
   simp only [List.take_zero,List.flatten_nil,fT,List.length_nil,Nat.add_zero] at hb;have hft:from'=to:=by
    have:=fini (by simpa [fT] using hb);rw [Nat.add_zero] at this;omega
   have he:cL ((l.take to).drop from')=⟨#[]⟩:=by
    rw [hft,List.drop_of_length_le (by simp;omega)];rfl
   rw [he];have r0:=NP;(repeat' (first|with_reducible refine K0 (r0) ?_|with_reducible refine Xw (r0) ?_|with_reducible refine ae.out ?_|(refine' zq)|fail))
  | succ i=>
   have hX:=xg ((ps.drop j).take (i+1)).flatten;have h0:0<((ps.drop j).take (i+1)).flatten.length:=by
    have:=p8 ((ps.drop j).take (i+1)) (fun p hp=>(R.pcs p (List.mem_of_mem_drop (List.mem_of_mem_take hp))).1);rw [List.length_take,List.length_drop] at this;omega
   have r0:=NQ (aL ((ps.drop j).take (i+1)).flatten).length (aL ((ps.drop j).take (i+1)).flatten);have r2:=Lv (aL ((ps.drop j).take (i+1)).flatten) _ rfl (by omega) (by omega);(refine' zg)
   refine au.two 1 2 r0 ?_;(refine' zg)
   refine au.two 1 2 r0 ?_;(refine' zg)
   refine au.twoN 1 2 r2 ?_;have hsz:(⟨(aL ((ps.drop j).take (i+1)).flatten).toArray⟩:ByteArray).size=(aL ((ps.drop j).take (i+1)).flatten).length:=bK _;have dn' : ∀x y:Nat,x+st=a→y+st=b→(⟨(aL ((ps.drop j).take (i+1)).flatten).toArray⟩:ByteArray).extract x y=cL ((l.take to).drop from'):=dn;(refine' zg)
   rw [dn' _ _ (by omega) (by omega)];(refine' zo)
 ·have hj:=hlt hb;obtain ⟨q,hq⟩ : ∃q,ps[j+i]? = some q:=⟨_,List.getElem?_eq_getElem hj⟩
  have hqd:ps.getD (j+i) []=q:=by rw [List.getD_eq_getElem?_getD,hq];rfl
  have hqs:=(R.pcs q (List.mem_of_getElem? hq)).2;have hq4:=cu q;have hq5:=bK q;have ri:=mW t R.tk (j+i) (by omega) vis;have rn:=Kl t R.tk (j+i) (by rw [R.len'];exact hj) vis;rw [R.at,hqd] at ri;have hd:=qV hq;cases i with
  | zero=>
   have r0:=NP;have r3:=Lw (cL q) (by omega);rw [Nat.add_zero] at ri rn;simp only [List.take_zero,List.flatten_nil,fT,List.length_nil,Nat.add_zero] at hb;(repeat' (first|with_reducible refine K0 (r0) ?_|with_reducible refine K0 (ri) ?_|(refine' zq)|fail))
   refine au.oneN 1 r3 ?_;(refine' Xy rn)
   rw [List.take_zero,List.flatten_nil,List.nil_append] at hd;refine aG.go (0+1) [8,10,12,14,15] (by rw [Sg,hd,bK,j7];exact vT) ?_ ?_
   ·show ps.length - 1<ps.length - 0;omega
   ·show j+1≤ps.length;omega
  | succ i=>
   have r0:=NQ (aL ((ps.drop j).take (i+1)).flatten).length (aL ((ps.drop j).take (i+1)).flatten);have r3:=Lx (aL ((ps.drop j).take (i+1)).flatten) _ rfl (by omega) (cL q) (by omega);(refine' ZG ri)
   refine au.two 1 2 r0 ?_;(refine' ZG ri)
   refine au.twoN 1 2 r3 ?_;(refine' Xy rn)
   refine aG.go (i+1+1) [8,10,12,14,15] (by rw [Sg,hd,bK,j7,a4,List.length_append];exact vT) ?_ ?_
   ·show ps.length - (i+1+1)<ps.length - (i+1)
    omega
   ·show j+(i+1+1)≤ps.length;omega
end
def Uf (l:List Int) (i:Nat):St:=⟨[(2,.po 0 0),(3,.po 1 0),(18,yE l),(19,iv l.length),(20,iv i)],[(0,.cell [iv 0,iv 0,iv 0,iv 0,iv 0,iv 0,.d (.lit (.string ⟨#[]⟩))]),
 (1,.cell [iv 0,iv 0,iv (cL l).size,iv l.length,iv (aT (l.take i)),iv 0,.d (.lit (.string (cL l)))])],2⟩
attribute [push_cast] Uf.eq_def
set_option maxHeartbeats 1600000 in
theorem C0 (l:List Int) (hl:l.length≤1000000):an Tryz.prog G0 117 [yE l] [] 0 (.d (jl (fu l))) []:=by
 have r1:an Tryz.prog G0 119 [yE l] [] 0 (.d (.lit (.string (cL l)))) []:=uL l (by omega);have hs:=bK l;refine vF ab [0,2,3,5,18,19,20,21,25] Tryz.func117 rfl Tryz.results117 Tryz.ntmps117 ?_;(refine' fj r1)
 refine vL (lv:=[0,2,3,5,18,19,20,21,25]) ab (Uf l) (fun i=>i≤l.length) (fun i=>l.length - i) (0) ((aC.go [2,3,18,19,20] (by exact vT) rfl)) ?_ ?_
 ·exact Nat.zero_le _
 intro i hi;have hb:=gr (l.take i);rw [List.length_take] at hb;(refine' zg)
 ·refine aI.intro fun r hr =>?_
  have g4:aT (l.take (i+1))=aT (l.take i)+(if r=10 then 1 else 0):=by rw [dP hr,uQ]
  (refine' zg)
  ·rw [if_pos (by assumption)] at g4;refine aG.go (i+1) [2,3,18,19,20] (by rw [Uf,g4];exact vT) ?_ ?_
   ·show l.length - (i+1)<l.length - i;omega
   ·show i+1≤l.length;omega
  ·rw [if_neg (by assumption)] at g4;refine aG.go (i+1) [2,3,18,19,20] (by rw [Uf,g4];exact vT) ?_ ?_
   ·show l.length - (i+1)<l.length - i;omega
   ·show i+1≤l.length;omega
 ·have e:l.take i=l:=List.take_of_length_le (by omega);rw [e,hs];refine ae.out ?_;(refine' zg)
  rfl
theorem DQ {n k m:Nat} (hn:n≤1000000000) (hk:0<k) (hm:m=n / k):IntKind.i64.wrap ((n:Int).tdiv (k:Int))=(m:Int):=by
 have e:(n:Int).tdiv (k:Int)=((n / k:Nat):Int):=rfl;have:=Nat.div_le_self n k;rw [e,←hm];exact QS _ (by omega) (by omega)
def XH (x:Nat × List Int × List It):St:=⟨[(0,yE x.2.1),(3,.so 0 7 0 x.2.2.length),(4,iv x.1)],[(0,.row 7 (x.2.2.map jl))],1⟩
attribute [push_cast] XH.eq_def
theorem M7 (es:List It) (i:It):es.map jl++[jl i]=(es++[i]).map jl:=by rw [List.map_append];rfl
set_option maxHeartbeats 1600000 in
theorem OY (l:List Int) (hl:l.length≤1000000):an Tryz.prog G0 59 [yE l] [] 0 (ZX ((pcs l).map fu)) []:=by
 obtain ⟨k0,hk0⟩ : ∃k0,k0=(l.length+15) / 16:=⟨_,rfl⟩
 have hd0:=DQ (n:=l.length+15) (k:=16) (by omega) (by omega) hk0;have hd1:IntKind.i64.wrap (((l.length:Int)+16 - 1).tdiv 16)=(k0:Int):=by
  rw [show ((l.length:Int)+16 - 1)=((l.length+15:Nat):Int) by omega];exact hd0
 refine vF ab [0,2,3,4,5,12] Tryz.func59 rfl Tryz.results59 Tryz.ntmps59 ?_;(repeat' (first|(simp -implicitDefEqProofs -dsimp only [hd1])|(refine' zq)|fail))
 refine vL (lv:=[0,2,3,4,5,12]) ab (XH) (fun x=>x.2.1.length≤l.length∧x.1≤x.2.1.length∧x.2.1.length≤16*x.1∧x.2.2.length+x.1=k0∧x.2.2++(tX x.1 x.2.1).map fu=(pcs l).map fu) (fun x=>x.1) ((k0,l,[])) (aC.nil 3 7<|(aC.go [0,3,4] (by exact vT) rfl)) ?_ ?_
 ·refine ⟨Nat.le_refl _,by simp only;omega,by simp only;omega,by simp,?_⟩;simp only [List.nil_append,hk0];rfl
 rintro ⟨k,r,es⟩ ⟨h1,h2,h3,h4,h5⟩;simp only at h1 h2 h3 h4 h5;cases k with
 | zero=>
  have h6:es=(pcs l).map fu:=by rw [←h5,tX];simp
  (refine' zg)
  refine ae.frz 0 (ae.out ?_);(refine' zg)
  rw [←List.map_map,←h6]
 | succ k=>
  obtain ⟨n,hn⟩ : ∃n,n=r.length / (k+1):=⟨_,rfl⟩
  have hd:=DQ (n:=r.length) (k:=k+1) (by omega) (by omega) hn;have hnl:n≤r.length:=by rw [hn];exact Nat.div_le_self _ _
  have hn1:1≤n:=by rw [hn];exact (Nat.le_div_iff_mul_le (by omega)).2 (by omega)
  have hn16:n≤16:=by rw [hn];exact Nat.div_le_of_le_mul (by omega)
  have hmod:=Nat.div_add_mod r.length (k+1);have hml:=Nat.mod_lt r.length (show 0<k+1 by omega);rw [←hn] at hmod;have r1:=C0 (r.take n) (by simp;omega);have hc:((k+1:Nat):Int)=(k:Int)+1:=by omega
  rw [hc] at hd;(repeat' (first|(simp -implicitDefEqProofs -dsimp only [hd])|with_reducible refine vQ (r1) ?_|with_reducible refine vC (r1) ?_|(refine' zq)|fail))
  rw [M7];refine aG.go ((k,r.drop n,es++[fu (r.take n)])) [0,3,4] (by exact vT) ?_ ?_
  ·show k<k+1;omega
  ·refine ⟨by simp only [List.length_drop];omega,?_,?_,by simp;omega,?_⟩
   ·simp only [List.length_drop];have:n*(k+1)≤r.length:=by rw [hn];exact Nat.div_mul_le_self _ _
    rw [Nat.mul_succ] at this;have:k≤n*k:=Nat.le_mul_of_pos_left k hn1;omega
   ·simp only [List.length_drop];rcases Nat.lt_or_ge n 16 with h16|h16
    ·have h7:=Nat.mul_le_mul_left k (show n+1≤16 by omega);rw [Nat.mul_succ] at h7;rw [Nat.succ_mul] at hmod;omega
    ·omega
   ·rw [←h5,tX,←hn];simp
section
theorem MP (s:ByteArray) (hs:s.size≤1000000000) (h:(aa s 0).length≤20000) : ∃ps t,Rp (aa s 0) ps t∧an Tryz.prog G0 22 [sv s] [] 0 (.tup [.d (bd t),iv 0]) []:=by
 have r1:=j9 s hs;have hv:=jW s s.size 0 (by omega);generalize aa s 0=l at *
 have r2:=OY l (by omega);have hp:=PZ l;have hpl:(pcs l).length≤20000:=by
  have:=p8 (pcs l) (fun p q=>(hp p q).1);rw [At] at this;omega
 have hok : ∀i∈(pcs l).map fu,bZ i:=by
  intro i hi;obtain ⟨p,hq,rfl⟩:=List.mem_map.1 hi;exact Oj (by have:=hp p hq;omega)
 have r3:=wL ((pcs l).map fu) (by simp;omega) hok;obtain ⟨w1,w2⟩:=qe ((pcs l).map fu) _ (Nat.le_refl _);have w3:=ru ((pcs l).map fu) _ (Nat.le_refl _);rw [List.take_of_length_le (by omega)] at w2;generalize d5 ((pcs l).map fu) ((pcs l).map fu).length=t at r3 w1 w2 w3;refine ⟨pcs l,t,⟨w2,At l,hv,w1,by simp at w3;omega,hp,h⟩,?_⟩;rw [bd,aX] at *
 refine vF ab [0,2,3,4,5,6,11,19] Tryz.func22 rfl Tryz.results22 Tryz.ntmps22 ?_;(refine' TZ r1 r2 r3)
 refine ae.frz 80 (ae.out ?_);(refine' zg)
end
end Go.Proofs.YtkkanlcjjpoklaaGreatDoor
