/- What the theorem leans on, part 15. -/
import Derived.Test.YtkkanlcjjpoklaaGreatDoorStVPAM
import Derived.Test.YtkkanlcjjpoklaaGreatDoorStVPAN
set_option linter.unusedSimpArgs false
set_option linter.unusedVariables false
set_option maxRecDepth 8000
namespace Go.Proofs.YtkkanlcjjpoklaaGreatDoor
def fk (s:Sm) (vis:Int):D:= .agg [.lit (.int .i64 s.n),.lit (.int .i64 s.n),.lit (.int .i64 s.d0),.lit (.int .i64 s.d1),.lit (.int .i64 s.d2),.lit (.int .i64 s.mx),.lit (.int .i64 s.pos),.lit (.int .i64 vis)]
theorem C7 (d:Nat):mL Sm.zero d=0:=by unfold mL;split<;>rfl
set_option maxHeartbeats 1600000 in
theorem GW (d:Nat) (hd:d≤3) (v b:Int) (hv:v=0) (hb:b=0∨b=1) :
 ap Tryz.prog G0 88 [.d (aU none),iv d,iv v,iv b] [] 0 (.tup [.d (fk Sm.zero 0),iv 0]) []:=by
 have r1:=ik none;have r2:=uK none;have r3:=nT Sm.zero d hd;have hz:=C7 d;simp only [an,n5] at r1;rw [aU] at r1 r2 ⊢;rw [hz] at r3;simp only [cM] at r1 r2 ⊢;simp only [xH,Nf,GP,GQ,GR,GS,Dp] at r1 r3;refine vF ab [0,1,2,3,6,7,8,9,10,11,12,13,14,15,17,18,19,20,22,23,50,57,68,72,73,74,75,87,97,101,102,103,104,116] Tryz.func88 rfl Tryz.results88 Tryz.ntmps88 ?_;(refine' WR r1 r2 r3)
 refine vL (lv:=[0,1,2,3,6,7,8,9,10,11,12,13,14,15,17,18,19,20,22,23,50,57,68,72,73,74,75,87,97,101,102,103,104,116]) ab (XX d v b) (fun x=>x=(none,Sm.zero,0)) (fun _=>0) ((none,Sm.zero,0)) (aC.frz 0<|aC.frz 4<|(aC.go [1,8,11,12,13] (by exact vT) rfl)) ?_ ?_
 ·rfl
 rintro x rfl;(refine' zo)
 all_goals rfl
set_option maxHeartbeats 1600000 in
theorem JP (t:Option T) (d:Nat) (hd:d≤3) (v b:Int) (hv:v<0∨mL (aq (an t)) d<v) :
 ap Tryz.prog G0 88 [.d (aU t),iv d,iv v,iv b] [] 0 (.tup [.d (fk Sm.zero 0),iv 1]) []:=by
 have r1:=ik t;have r3:=nT (aq (an t)) d hd;rw [aU] at r1 ⊢;refine vF ab [0,1,2,3,6,7,8,9,10,11,12,13,14,15,17,18,19,20,22,23,50,57,68,72,73,74,75,87,97,101,102,103,104,116] Tryz.func88 rfl Tryz.results88 Tryz.ntmps88 ?_;(refine' uR r1 r3)
 all_goals rfl
structure AG (d:Nat) (v b:Int) (L:List It) (j:Nat):Prop where
 le:j≤L.length
 below : ∀i,0<i→i≤j→bj d v b (aq (L.take i))=false
 here:j<L.length→bj d v b (aq (L.take (j+1)))=true
theorem zero_add (l:List It):bd Sm.zero (aq l)=aq l:=by
 have:=kM [] l;rw [abL] at this;exact this.symm
theorem iT (t:Option T) (k:Tk t) (d:Nat) (hd:d≤3) (v b:Int) (hv0:0≤v) (hv:v≤mL (aq (an t)) d) (hb:b=0∨b=1) :
 ∃j vis:Nat,AG d v b (an t) j∧vis≤Dv t∧ap Tryz.prog G0 88 [.d (aU t),iv d,iv v,iv b] [] 0 (.tup [.d (fk (aq ((an t).take j)) vis),iv 0]) []:=by
 cases t with
 | none=>
  simp only [an,n5,C7] at hv ⊢;exact ⟨0,0,⟨aaV _,fun i h1 h2=>by omega,fun h=>by simp at h⟩,aaV _,GW d hd v b (by omega) hb⟩
 | some t=>
  obtain ⟨w1,w2,w3,w4⟩:=k;simp only [Dy,Dv,an] at w1 w2 w3 w4 hv ⊢;obtain ⟨j,h1,h2,h3,h4⟩:=xF (bj d v b) t.items Sm.zero (abN 0);have e:=wK (L9 d hd v b) t Sm.zero (abN 0) w1 w4;have f:=GX t d hd v b w1 w2 (by omega) w4 hv0 hv hb _ rfl;have hvis:=j7 (R:=bj d v b) t Sm.zero w1;rw [e,h2,zero_add] at f;refine ⟨j,(iN (bj d v b) t Sm.zero).2,⟨h1,fun i q1 q2 =>?_,fun q =>?_⟩,hvis.2,f⟩
  ·have:=h3 i q1 q2;rwa [zero_add] at this
  ·have:=h4 q;rwa [zero_add] at this
def qp (t:Option T) (j:Nat) (vis:Int):bN:= .cell [.d (aU t),iv j,iv (aq ((an t).take j)).n,iv (aq ((an t).take j)).d0,iv (aq ((an t).take j)).d1,iv (aq ((an t).take j)).d2,iv (aq ((an t).take j)).mx,iv (aq ((an t).take j)).pos,iv vis]
attribute [push_cast] qp.eq_def
theorem GC (t:Option T):ap Tryz.prog G0 270 [.d (aU t)] [] 0 (.po 0 0) [(0,qp t 0 0)]:=by
 rw [aU];simp only [qp,abO,n5,aU];refine vF ab [0,2] Tryz.func270 rfl Tryz.results270 Tryz.ntmps270 ?_;(refine' zg)
 refine ae.now [12] (by decide) ?_;(refine' zg);first|exact aj _|exact ar.cons rfl ar.nil|exact ar.cons rfl (ar.cons rfl ar.nil)|exact ar.nil
theorem pb (t:Option T) (j:Nat) (vis:Int):ap Tryz.prog G0 248 [.po 0 0] [(0,qp t j vis)] 1 (.d (xH (aq ((an t).take j)))) [(0,qp t j vis)]:=by
 simp only [qp];refine vF ab [0,2,4] Tryz.func248 rfl Tryz.results248 Tryz.ntmps248 ?_;(refine' zg)
 refine ae.now [] (by decide) ?_;(refine' zg);first|exact aj _|exact ar.cons rfl ar.nil|exact ar.cons rfl (ar.cons rfl ar.nil)|exact ar.nil
theorem nQ (t:Option T) (k:Tk t) (j:Nat) (hj:j≤1000000) (vis:Int):ap Tryz.prog G0 250 [.po 0 0] [(0,qp t j vis)] 1 (.tup [.d (fQ ((an t).getD j Ia)),bv (decide (j<(an t).length))]) [(0,qp t j vis)]:=by
 have r1:=Qc t k j hj;have e1:((if j<(an t).length then (0:Int) else 1)==0)=decide (j<(an t).length):=by split<;>simp_all
 simp only [qp];refine vF ab [0,2,3,4,5,7] Tryz.func250 rfl Tryz.results250 Tryz.ntmps250 ?_;(repeat' (first|with_reducible refine vQ (r1) ?_|with_reducible refine vC (r1) ?_|(simp -implicitDefEqProofs -dsimp only [e1])|(refine' zq)|fail))
 refine ae.now [] (by decide) ?_;(refine' zg);first|exact aj _|exact ar.cons rfl ar.nil|exact ar.cons rfl (ar.cons rfl ar.nil)|exact ar.nil
theorem Ps (t:Option T) (k:Tk t) (j:Nat) (hj:j≤1000000) (vis:Int):ap Tryz.prog G0 273 [.po 0 0] [(0,qp t j vis)] 1 (.d (xH (aq ((an t).take (j+1))))) [(0,qp t j vis)]:=by
 have r1:=nQ t k j hj vis;have r2:=pb t j vis;have hk:=k.len;have o1:eU (aq ((an t).take j)):=gg _ (fun y hy=>k.ok y (abm hy)) (by simp;omega);by_cases hl:j<(an t).length
 ·obtain ⟨x,hx⟩ : ∃x,(an t)[j]? = some x:=⟨_,IO hl⟩
  have hg:(an t).getD j Ia=x:=by simp [abT,hx]
  have e1:(an t).take (j+1)=(an t).take j++[x]:=d7 hx;have hok:=k.ok x (aa0 hx);have r3:=JS x;have r4:=q9 _ _ o1 (sY hok);rw [hg,abw hl] at r1;rw [e1,gp];simp only [qp] at r1 r2 ⊢;refine vF ab [0,2,3,4,11] Tryz.func273 rfl Tryz.results273 Tryz.ntmps273 ?_;(repeat' (first|with_reducible refine M3 (r1) ?_|with_reducible refine vOq (r2) ?_|with_reducible refine vQ (r3) ?_|with_reducible refine vQ (r4) ?_|(refine' zq)|fail))
  refine ae.now [] (by decide) ?_;(refine' zg);first|exact aj _|exact ar.cons rfl ar.nil|exact ar.cons rfl (ar.cons rfl ar.nil)|exact ar.nil
 ·have e1:(an t).take (j+1)=(an t).take j:=by rw [aaW (by omega),aaW (by omega)]
  rw [abM hl] at r1;rw [e1];simp only [qp] at r1 r2 ⊢;refine vF ab [0,2,3,4,11] Tryz.func273 rfl Tryz.results273 Tryz.ntmps273 ?_;(repeat' (first|with_reducible refine M3 (r1) ?_|with_reducible refine M3 (r2) ?_|(refine' zq)|fail))
  refine ae.now [] (by decide) ?_;(refine' zg);first|exact aj _|exact ar.cons rfl ar.nil|exact ar.cons rfl (ar.cons rfl ar.nil)|exact ar.nil
theorem Mm (t:Option T) (k:Tk t) (j:Nat) (hj:j<(an t).length) (vis:Int):ap Tryz.prog G0 252 [.po 0 0] [(0,qp t j vis)] 1 (bv true) [(0,qp t (j+1) vis)]:=by
 have hk:=k.len;have r1:=nQ t k j (by omega) vis;have r2:=Ps t k j (by omega) vis;rw [abw hj] at r1;simp only [qp] at r1 r2 ⊢;refine vF ab [0,2,4,11] Tryz.func252 rfl Tryz.results252 Tryz.ntmps252 ?_;(repeat' (first|with_reducible refine M3 (r1) ?_|with_reducible refine M3 (r2) ?_|(refine' zq)|fail))
 refine ae.now [] (by decide) ?_;(refine' zg);first|exact aj _|exact ar.cons rfl ar.nil|exact ar.cons rfl (ar.cons rfl ar.nil)|exact ar.nil
theorem SX (t:Option T) (k:Tk t) (j0:Nat) (vis0:Int) (d:Nat) (hd:d≤3) (v b:Int) (hv0:0≤v) (hv:v≤mL (aq (an t)) d) (hb:b=0∨b=1) :
 ∃j vis:Nat,AG d v b (an t) j∧ap Tryz.prog G0 271 [.po 0 0,iv d,iv v,iv b] [(0,qp t j0 vis0)] 1 (iv 0) [(0,qp t j vis)]:=by
 obtain ⟨j,vis,sp,-,r1⟩:=iT t k d hd v b hv0 hv hb;have e1:(aq ((an t).take j)).n=j:=by rw [cC,aa7,acw sp.le]
 refine ⟨j,vis,sp,?_⟩;simp only [qp,fk] at r1 ⊢;refine vF ab [0,1,2,3,8,9,10,12,25] Tryz.func271 rfl Tryz.results271 Tryz.ntmps271 ?_;(refine' fq r1)
 refine ae.now [] (by decide) ?_;(refine' zg)
 rw [e1];first|exact aj _|exact ar.cons rfl ar.nil|exact ar.cons rfl (ar.cons rfl ar.nil)|exact ar.nil
theorem Pu (t:Option T) (j0:Nat) (vis0:Int) (d:Nat) (hd:d≤3) (v b:Int) (hv:v<0∨mL (aq (an t)) d<v) :
 ap Tryz.prog G0 271 [.po 0 0,iv d,iv v,iv b] [(0,qp t j0 vis0)] 1 (iv 1) [(0,qp t j0 vis0)]:=by
 have r1:=JP t d hd v b hv;simp only [qp,fk] at r1 ⊢;refine vF ab [0,1,2,3,8,9,10,12,25] Tryz.func271 rfl Tryz.results271 Tryz.ntmps271 ?_;(refine' fq r1)
 refine ae.now [] (by decide) ?_;(refine' zg);first|exact aj _|exact ar.cons rfl ar.nil|exact ar.cons rfl (ar.cons rfl ar.nil)|exact ar.nil
structure Rp (l:List Int) (ps:List (List Int)) (t:Option T):Prop where
 items:an t=ps.map gb
 flat:ps.flatten=l
 val:JJ l
 wf:Dy t
 ht:Dv t≤1000000
 pcs : ∀p∈ps,1≤p.length∧p.length≤16
 len:l.length≤20000
def bF (t:Option T):D:= .pd 1 [.agg [aU t]] 0 0
theorem qK : ∀ps:List (List Int),(∀p∈ps,1≤p.length)→ps.length≤ps.flatten.length
 | [],_=>aaV _
 | p::r,h=>by
  have:=h p (by simp);have:=qK r (fun q hq=>h q (by simp [hq]));rw [acf,Or,aa6];omega
theorem QL {p:List Int} (h:p.length≤1000):cd (gb p):=by
 have h1:=cJ p;have h2:=gY p;unfold cd gb;simp only;omega
section
variable {l:List Int} {ps:List (List Int)} {t:Option T}
theorem Rp.n (R:Rp l ps t):ps.length≤20000:=by
 have:=qK ps (fun p hp=>(R.pcs p hp).1);have:=R.len;rw [←R.flat] at this;omega
theorem Rp.tk (R:Rp l ps t):Tk t:=by
 refine ⟨R.wf,R.ht,?_,?_⟩
 ·rw [R.items,aa4];have:=R.n;omega
 ·rw [R.items];intro i hi;obtain ⟨p,hp,rfl⟩:=abY.1 hi;exact QL (by have:=R.pcs p hp;omega)
theorem Rp.sum (R:Rp l ps t):(aq (an t)).n=ps.length∧(aq (an t)).d0=(aM l).length∧(aq (an t)).d1=l.length∧(aq (an t)).d2=aW l:=by
 have:=Ao ps;rw [R.flat] at this;rw [R.items];exact this
theorem Rp.take (R:Rp l ps t) (j:Nat):(an t).take j=(ps.take j).map gb:=by rw [R.items,acn]
theorem Rp.at (R:Rp l ps t) (j:Nat):(an t).getD j Ia=gb (ps.getD j []):=by
 rw [R.items,abT,abT,abp];cases ps[j]? <;> rfl
end
theorem kB (t:Option T):ap Tryz.prog G0 135 [.d (bF t)] [] 0 (.d (aU t)) []:=by
 rw [bF,aU];refine vF ab [0,2,4] Tryz.func135 rfl Tryz.results135 Tryz.ntmps135 ?_;(refine' zo)
theorem Pn (t:Option T):ap Tryz.prog G0 77 [.d (bF t),iv 1] [] 0 (iv (aq (an t)).d1) []:=by
 refine vF ab [0,1,4] Tryz.func77 rfl Tryz.results77 Tryz.ntmps77 ?_;(refine' uR (kB t) (ik t))
section
variable {l:List Int} {ps:List (List Int)} {t:Option T}
theorem dO (R:Rp l ps t):ap Tryz.prog G0 30 [.d (bF t)] [] 0 (iv l.length) []:=by
 rw [←R.sum.2.2.1];refine vF ab [0,2] Tryz.func30 rfl Tryz.results30 Tryz.ntmps30 ?_;(refine' lK (Pn t))
def GF (s:Sm) (i:It) (b:Int):D:= .agg [.lit (.int .i64 s.n),.lit (.int .i64 s.d0),.lit (.int .i64 s.d1),.lit (.int .i64 s.d2),.lit (.int .i64 s.mx),.lit (.int .i64 s.pos),.lit (.int .i64 i.tag),.lit (.int .i64 i.id),.lit (.int .i64 i.d0),.lit (.int .i64 i.d1),.lit (.int .i64 i.d2),.lit (.int .i64 i.mx),.lit (.string i.text),.lit (.int .i64 b)]
attribute [push_cast] GF.eq_def
set_option maxHeartbeats 1600000 in
theorem tB (k:Tk t) (d:Nat) (hd:d≤3) (v b:Int) (hv0:0≤v) (hv:v≤mL (aq (an t)) d) (hb:b=0∨b=1) :
 ∃j vis:Nat,AG d v b (an t) j∧ap Tryz.prog G0 246 [.d (bF t),iv d,iv v,iv b] [] 0 (.tup [.d (GF (aq ((an t).take j)) ((an t).getD j Ia) 0),.po 0 0,iv 0]) [(0,qp t j vis)]:=by
 obtain ⟨j,vis,sp,r1⟩:=SX t k 0 0 d hd v b hv0 hv hb;have hk:=k.len;have r2:=nQ t k j (by have:=sp.le;omega) vis;have r3:=pb t j vis;have r0:=GC t;refine ⟨j,vis,sp,?_⟩;refine vF ab [0,1,2,3,8,9,10,11,12,13,24] Tryz.func246 rfl Tryz.results246 Tryz.ntmps246 ?_;(repeat' (first|with_reducible refine vQ (kB t) ?_|with_reducible refine vC (kB t) ?_|with_reducible refine vK (r0) ?_|with_reducible refine vO (r1) ?_|with_reducible refine M3 (r2) ?_|with_reducible refine vOq (r3) ?_|(refine' zq)|fail))
 refine ae.now [20] (by decide) ?_;(refine' zg);first|exact aj _|exact ar.cons rfl ar.nil|exact ar.cons rfl (ar.cons rfl ar.nil)|exact ar.nil
theorem I4 (t:Option T) (d:Nat) (hd:d≤3) (v b:Int) (hv:v<0∨mL (aq (an t)) d<v) :
 ap Tryz.prog G0 246 [.d (bF t),iv d,iv v,iv b] [] 0 (.tup [.d (GF Sm.zero Ia 0),.d (.lit (.pointer none)),iv 1]) []:=by
 have r0:=GC t;have r1:=Pu t 0 0 d hd v b hv;refine vF ab [0,1,2,3,8,9,10,11,12,13,24] Tryz.func246 rfl Tryz.results246 Tryz.ntmps246 ?_;(repeat' (first|with_reducible refine ae.out ?_|with_reducible refine vQ (kB t) ?_|with_reducible refine vC (kB t) ?_|with_reducible refine vK (r0) ?_|with_reducible refine vO (r1) ?_|(refine' zq)|fail))
end
structure Pl (l:List Int) (a:Nat) (s:Sm) (u q w:List Int):Prop where
 eq:l=u++(q++w)
 d0:s.d0=(aM u).length
 d1:s.d1=u.length
 d2:s.d2=aW u
 lo:u.length≤a
 hi:a≤u.length+q.length
 lt:a<l.length→a<u.length+q.length
 sz:q.length≤16
theorem zy (a:Nat) (b:Int) (hb:b=1) (s:Sm):bj 1 a b s=decide ((a:Int)<s.d1):=by
 subst hb;simp [bj,mL]
section
variable {l:List Int} {ps:List (List Int)} {t:Option T}
theorem Rp.getD_sz (R:Rp l ps t) (j:Nat):(ps.getD j []).length≤16:=by
 rw [abT];cases h:ps[j]? with
 | none=>simp
 | some p=>exact (R.pcs p (aa0 h)).2
theorem Rp.flat_j (R:Rp l ps t) (j:Nat):l=(ps.take j).flatten++(ps.getD j []++(ps.drop (j+1)).flatten):=by
 rw [←R.flat,abT];cases h:ps[j]? with
 | none=>
  have:ps.length≤j:=adU.1 h;rw [aaW this,abo (by omega)];simp
 | some p=>exact Ov h
theorem Rp.flat_j1 (R:Rp l ps t) (j:Nat):(ps.take (j+1)).flatten=(ps.take j).flatten++ps.getD j []:=by
 rw [abT];cases h:ps[j]? with
 | none=>
  have:ps.length≤j:=adU.1 h;rw [aaW this,aaW (by omega)];simp
 | some p=>exact HW h
theorem Rp.sum_j (R:Rp l ps t) (j:Nat):(aq ((an t).take j)).n=(ps.take j).length∧(aq ((an t).take j)).d0=(aM (ps.take j).flatten).length∧(aq ((an t).take j)).d1=(ps.take j).flatten.length∧(aq ((an t).take j)).d2=aW (ps.take j).flatten:=by
 rw [R.take];exact S0 ps j
theorem Rp.len' (R:Rp l ps t):(an t).length=ps.length:=by rw [R.items,aa4]
theorem GG (R:Rp l ps t) {a j:Nat} (ha:a≤l.length) (sp:AG 1 a 1 (an t) j):Pl l a (aq ((an t).take j)) (ps.take j).flatten (ps.getD j []) (ps.drop (j+1)).flatten:=by
 obtain ⟨h1,h2,h3,h4⟩:=R.sum_j j;have e:=R.flat_j j;have hlo:(ps.take j).flatten.length≤a:=by
  rcases abH j with h|h
  ·subst h;simp
  ·have:=sp.below j h (aaV _);rw [zy _ _ rfl,ab9,h3] at this;omega
 have hlt:a<l.length→a<(ps.take j).flatten.length+(ps.getD j []).length:=fun hal=>by
  rcases aa2 j ps.length with hj|hj
  ·have:=sp.here (by rw [R.len'];exact hj);obtain ⟨_,_,g3,_⟩:=R.sum_j (j+1);rw [zy _ _ rfl,abs,g3,R.flat_j1,Or] at this;omega
  ·rw [aaW hj,R.flat] at hlo;omega
 refine ⟨e,h2,h3,h4,hlo,?_,hlt,R.getD_sz j⟩;rcases aa2 a l.length with h|h
 ·have:=hlt h;omega
 ·have hl:=congrArg List.length e;simp only [Or] at hl;rcases aa2 j ps.length with hj|hj
  ·have:=sp.here (by rw [R.len'];exact hj);obtain ⟨_,_,g3,_⟩:=R.sum_j (j+1);rw [zy _ _ rfl,abs,g3,R.flat_j1,Or] at this;omega
  ·rw [aaW hj,R.flat];omega
end
def Yf (a:Nat) (s:Sm) (q:List Int) (i:Nat):St:=⟨[(1,iv a),(4,.po 0 0),(6,.po 1 0),(9,iv (s.d1+i)),(34,.it 2)],[(0,.cell [iv 0,iv 0,iv 0,iv 0,iv 0,iv 0,iv 0,iv 0,iv 0,iv 0,iv 0,iv 0,.d (.lit (.string ⟨#[]⟩)),iv 0]),
 (1,.cell [iv s.n,iv s.d0,iv s.d1,iv s.d2,iv s.mx,iv s.pos,iv (gb q).tag,iv (gb q).id,iv (gb q).d0,iv (gb q).d1,iv (gb q).d2,iv (gb q).mx,.d (.lit (.string (c9 q))),iv (c9 q).size]),(2,.iter (c9 q) (aM (q.take i)).length)],3⟩
attribute [push_cast] Yf.eq_def
theorem O4 (q:List Int):(gb q).text=c9 q:=rfl
attribute [push_cast] O4
section
variable {l:List Int} {ps:List (List Int)} {t:Option T}
theorem U5 (s:Sm):mL s 1=s.d1:=rfl
theorem xM {q:List Int} {i:Nat} {r:Int} (h:q[i]? = some r):(aM (q.take (i+1))).length=(aM (q.take i)).length+(Utf8.encode r).size:=by
 rw [d7 h,ba,Or,kY,abr];rfl
theorem KF {q:List Int} (hv:JJ q) {i:Nat} {r:Int} (h:q[i]? = some r):((Utf8.decode (c9 q) (aM (q.take i)).length).1:Int)=r∧(Utf8.decode (c9 q) (aM (q.take i)).length).2=(Utf8.encode r).size:=by
 have e:q.take i++r::q.drop (i+1)=q:=by rw [←dj h,abf]
 have:=yq (q.take i) (q.drop (i+1)) r (hv r (aa0 h));rwa [e] at this
theorem DW {q:List Int} {i:Nat} (h:i<q.length):(aM (q.take i)).length<(c9 q).size:=by
 have:=FS q h (aaV _);rw [aaW (aaV _)] at this;rw [bT];exact this
theorem Od {q:List Int} {i:Nat} (h:q.length≤i):(aM (q.take i)).length=(c9 q).size:=by rw [aaW h,bT]
set_option maxHeartbeats 1600000 in
theorem te (R:Rp l ps t) (a:Nat) (ha:a≤l.length) :
 ∃s u q w,Pl l a s u q w∧ap Tryz.prog G0 211 [.d (bF t),iv a] [] 0 (.tup [.d (GF s (gb q) (aM (q.take (a - u.length))).length),iv 0]) []:=by
 have hlen:=R.len;obtain ⟨j,vis,sp,r1⟩:=tB R.tk 1 (by decide) (a:Int) 1 (by omega) (by rw [U5,R.sum.2.2.1];omega) (.inr rfl);have p:=GG R ha sp;rw [R.at j] at r1;refine ⟨_,_,_,_,p,?_⟩;have hvq:JJ (ps.getD j []):=fun x hx=>R.val x (by rw [p.eq];exact adv _ (adb _ hx))
 generalize aq ((an t).take j)=s at p r1;generalize (ps.take j).flatten=u at p r1;generalize ps.getD j []=q at p r1 hvq;generalize (ps.drop (j+1)).flatten=w at p;obtain ⟨e,d0,d1,d2,lo,hi,lt,sz⟩:=p;have hq64:=cJ q;refine vF ab [0,1,4,5,6,8,9,10,19,34,35,36,40] Tryz.func211 rfl Tryz.results211 Tryz.ntmps211 ?_;(refine' Tb r1)
 refine vL (lv:=[0,1,4,5,6,8,9,10,19,34,35,36,40]) ab (Yf a s q) (fun i=>i≤q.length∧u.length+i≤a) (fun i=>q.length - i) (0) ((aC.go [1,4,6,9,34] (by exact vT) rfl)) ?_ ?_
 ·exact ⟨aa1 _,lo⟩
 rintro i ⟨h1,h2⟩;rcases aa2 i q.length with hlt|hge
 ·obtain ⟨r,hr⟩ : ∃r,q[i]? = some r:=⟨_,IO hlt⟩
  have hin:=DW hlt;obtain ⟨g1,g2⟩:=KF hvq hr;have g3:=xM hr;(refine' zg)
  ·obtain rfl:i=a - u.length:=by omega
   refine ae.now [] (by decide) ?_;(refine' zg);first|exact aj _|exact ar.cons rfl ar.nil|exact ar.cons rfl (ar.cons rfl ar.nil)|exact ar.nil
  ·refine aG.go (i+1) [1,4,6,9,34] (by rw [Yf,g3,←g2];exact vT) ?_ ?_
   ·show q.length - (i+1)<q.length - i;omega
   ·exact ⟨hlt,by omega⟩
 ·have hout:=Od hge;(refine' zg)
  obtain rfl:i=a - u.length:=by omega
  rw [hout];refine ae.now [] (by decide) ?_;(refine' zg);first|exact aj _|exact ar.cons rfl ar.nil|exact ar.cons rfl (ar.cons rfl ar.nil)|exact ar.nil
end
section
variable {l:List Int} {ps:List (List Int)} {t:Option T}
theorem Pl.take {a:Nat} {s:Sm} {u q w:List Int} (p:Pl l a s u q w):l.take a=u++q.take (a - u.length):=by
 have h1:=p.lo;have h2:=p.hi;rw [p.eq,List.take_append,aaW (l:=u) (by omega),List.take_append,show a - u.length - q.length=0 by omega,abO,abb]
theorem wu (R:Rp l ps t) (a:Nat) (ha:a≤l.length):ap Tryz.prog G0 247 [.d (bF t),iv a] [] 0 (.tup [iv (aM (l.take a)).length,iv 0]) []:=by
 obtain ⟨s,u,q,w,p,r1⟩:=te R a ha;have hlen:=R.len;have e:=cJ (l.take a);have e0:s.d0+((aM (q.take (a - u.length))).length:Int)=(aM (l.take a)).length:=by
  rw [p.take,ba,Or,p.d0];omega
 have e1:(l.take a).length≤a:=by simp;omega
 rw [←e0];refine vF ab [0,1,4,5,6,7,15] Tryz.func247 rfl Tryz.results247 Tryz.ntmps247 ?_;(refine' lK r1)
end
def usS (x y:List Int) (r:Int):Bool→St
 | false=>⟨[(0,.d (.lit (.string (c9 (x++r::y))))),(1,iv (aM x).length),(6,.d (.lit (.int .i32 0))),(20,.it 0)],[(0,.iter (c9 (r::y)) 0)],1⟩
 | true=>⟨[(0,.d (.lit (.string (c9 (x++r::y))))),(1,iv (aM x).length),(6,.d (.lit (.int .i32 r))),(20,.it 0)],[(0,.iter (c9 (r::y)) (Utf8.encode r).size)],1⟩
attribute [push_cast] usS.eq_1 usS.eq_2
theorem MW (x y:List Int) (i j:Nat) (hi:i=(aM x).length) (hj:j=(c9 (x++y)).size):(c9 (x++y)).extract i j=c9 y:=by
 have:=As x y [] i j hi (by rw [hj,bT,ba,Or]);rwa [abb] at this
set_option maxHeartbeats 1600000 in
theorem MX (x y:List Int) (r:Int) (hv:Utf8.valid r=true) (hl:(x++r::y).length≤1000000) :
 ap Tryz.prog G0 212 [.d (.lit (.string (c9 (x++r::y)))),iv (aM x).length] [] 0 (.tup [.d (.lit (.int .i32 r)),iv (Utf8.encode r).size]) []:=by
 have hs:(c9 (x++r::y)).size=(aM x).length+((Utf8.encode r).size+(aM y).length):=by
  rw [bT,ba,iR,Or,Or,abr];rfl
 have hs2:(c9 (r::y)).size=(Utf8.encode r).size+(aM y).length:=by rw [bT,iR,Or,abr];rfl
 have hp:1≤(Utf8.encode r).size:=by have:=FV r;rw [abr] at this;exact this
 have h4:=cJ (x++r::y);rw [ba,iR,Or,Or,abr] at h4;change (aM x).length+((Utf8.encode r).size+(aM y).length)≤_ at h4;have hc : ∀i j,i=(aM x).length→j=(c9 (x++r::y)).size→(c9 (x++r::y)).extract i j=c9 (r::y):=fun i j h1 h2=>MW x (r::y) i j h1 h2
 obtain ⟨d1,d2⟩:=yq [] y r hv;simp only [gA,abt,abL] at d1 d2;refine vF ab [0,1,4,5,6,7,8,16,20,21,22,26] Tryz.func212 rfl Tryz.results212 Tryz.ntmps212 ?_;(repeat' (first|(refine' cP)|fail))
 rw [hc _ _ (by omega) (by omega)];(repeat' (first|(refine' cP)|fail))
 refine vL (lv:=[0,1,4,5,6,7,8,16,20,21,22,26]) ab (usS x y r) (fun _=>True) (fun b=>if b then 0 else 1) (false) ((aC.go [0,1,6,20] (by exact vT) rfl)) ?_ ?_
 ·trivial
 rintro b -
 cases b with
 | false=>
  (repeat' (first|(refine' cP)|fail))
  refine aG.go (true) [0,1,6,20] (by rw [d1,d2];exact vT) ?_ ?_
  ·simp
  ·trivial
 | true=>
  (repeat' (first|(refine' cP)|fail))
  ·refine ae.now [] (by decide) ?_;(refine' zg);first|exact aj _|exact ar.cons rfl ar.nil|exact ar.cons rfl (ar.cons rfl ar.nil)|exact ar.nil
  ·have e:((c9 (x++r::y)).size:Int) - (aM x).length=(Utf8.encode r).size:=by omega
   rw [e];refine ae.now [] (by decide) ?_;(refine' zg);first|exact aj _|exact ar.cons rfl ar.nil|exact ar.cons rfl (ar.cons rfl ar.nil)|exact ar.nil
section
variable {l:List Int} {ps:List (List Int)} {t:Option T}
theorem SJ (R:Rp l ps t) (a:Nat) (r:Int) (hr:l[a]? = some r):ap Tryz.prog G0 157 [.d (bF t),iv a] [] 0 (.tup [.d (.lit (.int .i32 r)),iv 0]) []:=by
 have ha:=(aaX.1 hr).1;obtain ⟨s,u,q,w,p,r1⟩:=te R a (by omega);have h1:=p.lo;have h2:=p.lt ha;have h3:=p.sz;have hq:q[a - u.length]? = some r:=by
  have:=p.eq;rw [this,abZ h1,ab3 (by omega)] at hr;exact hr
 have hin:=DW (q:=q) (i:=a - u.length) (by omega);have r2:=MX (q.take (a - u.length)) (q.drop (a - u.length+1)) r (R.val r (aa0 hr)) (by rw [←dj hq,abf];omega);rw [←dj hq,abf] at r2;have e4:=cJ q;have e5:=bT q;refine vF ab [0,1,4,5,6,7,8,26] Tryz.func157 rfl Tryz.results157 Tryz.ntmps157 ?_;(refine' uR r1 r2)
theorem Kb:({ data :=#[10] } : ByteArray).size=1:=rfl
theorem Rd:((#[10]:Array UInt8).getD 0 0).toNat=10:=rfl
attribute [push_cast] Kb Rd
theorem GV (q:List Int) (hv:JJ q) (hl:q.length≤1000000):ap Tryz.prog G0 228 [.d (.lit (.string (c9 q))),.d (.lit (.string ⟨#[10]⟩))] [] 0 (iv (aW q)) []:=by
 have e:AX (c9 q) (10:Int).toNat.toUInt8=aW q:=Kn q hv;have e2:=gY q;rw [←e];refine vF ab [0,1,4,5,6,9,15,24] Tryz.func228 rfl Tryz.results228 Tryz.ntmps228 ?_;(refine' zo)
 refine vX (iv (AX (c9 q) (10:Int).toNat.toUInt8)) ?_;(refine' zo)
theorem JM (R:Rp l ps t) (a:Nat) (ha:a≤l.length):ap Tryz.prog G0 168 [.d (bF t),iv a] [] 0 (.tup [iv (aW (l.take a)),iv 0]) []:=by
 obtain ⟨s,u,q,w,p,r1⟩:=te R a ha;have h1:=p.lo;have h2:=p.hi;have h3:=p.sz;have hlen:=R.len;have hvq:JJ (q.take (a - u.length)):=fun x hx=>R.val x (by rw [p.eq];exact adv _ (adb _ (abm hx)))
 have e0:s.d2+(aW (q.take (a - u.length)):Int)=aW (l.take a):=by rw [p.take,gu,p.d2];omega
 have e1:=gY (l.take a);have e2:=fX q (a - u.length);have e3:=cJ q;have e5:=bT q;have e6:(l.take a).length≤a:=by simp;omega
 have hc : ∀i j,i=0→j=(aM (q.take (a - u.length))).length→(c9 q).extract i j=c9 (q.take (a - u.length)):=fun i j hi hj=>by
  have:=As [] (q.take (a - u.length)) (q.drop (a - u.length)) i j hi (by rw [hj,gA];simp);rwa [abL,abf] at this
 have r2:=GV (q.take (a - u.length)) hvq (by simp;omega);rw [←e0];refine vF ab [0,1,4,5,6,7,15] Tryz.func168 rfl Tryz.results168 Tryz.ntmps168 ?_;(refine' lK r1)
 rw [hc _ _ (by omega) (by omega)];(refine' lK r2)
end
def WX (k:Int) (s:Sm) (q:List Int) (i:Nat):St:=⟨[(1,iv k),(9,iv (s.d1+i)),(10,iv (s.d2+aW (q.take i))),(36,.it 0)],[(0,.iter (c9 q) (aM (q.take i)).length)],1⟩
attribute [push_cast] WX.eq_def j4 gA
theorem S1 (s:Sm):mL s 2=s.d2:=rfl
theorem Gz (k:Nat) (b:Int) (hb:b=0) (s:Sm):bj 2 k b s=decide ((k:Int)≤s.d2):=by
 subst hb;unfold bj;rw [S1,act];simp only [abP,aa8,abs,aca,true_and];omega
section
variable {l:List Int} {ps:List (List Int)} {t:Option T}
theorem AC (t:Option T):ap Tryz.prog G0 214 [.d (bF t),iv 0] [] 0 (.tup [iv 0,iv 0]) []:=by
 refine vF ab [0,1,4,5,6,8,9,10,12,14,23,36,37,38,43,48] Tryz.func214 rfl Tryz.results214 Tryz.ntmps214 ?_;(refine' zo)
theorem Dz (R:Rp l ps t) (k:Int) (hk:k<0∨(aW l:Int)<k):ap Tryz.prog G0 214 [.d (bF t),iv k] [] 0 (.tup [iv 0,iv 1]) []:=by
 have r1:=I4 t 2 (by decide) k 0 (by rw [S1,R.sum.2.2.2];exact hk);refine vF ab [0,1,4,5,6,8,9,10,12,14,23,36,37,38,43,48] Tryz.func214 rfl Tryz.results214 Tryz.ntmps214 ?_;(refine' lK r1)
set_option maxHeartbeats 1600000 in
theorem GU (R:Rp l ps t) (k:Nat) (hk:k≤aW l):ap Tryz.prog G0 214 [.d (bF t),iv k] [] 0 (.tup [iv (qn l k),iv 0]) []:=by
 rcases abH k with rfl|hk0
 ·rw [DF];exact AC t
 have hlen:=R.len;obtain ⟨j,vis,sp,r1⟩:=tB R.tk 2 (by decide) (k:Int) 0 (by omega) (by rw [S1,R.sum.2.2.2];omega) (.inl rfl);rw [R.at j] at r1;have e:=R.flat_j j;obtain ⟨_,d0,d1,d2⟩:=R.sum_j j;have hsz:=R.getD_sz j;have hbu:aW (ps.take j).flatten<k:=by
  rcases abH j with h|h
  ·subst h;simpa [aW] using hk0
  ·have:=sp.below j h (aaV _);rw [Gz _ _ rfl,ab9,d2] at this;omega
 have hbq:k≤aW (ps.take j).flatten+aW (ps.getD j []):=by
  rcases aa2 j ps.length with hj|hj
  ·have:=sp.here (by rw [R.len'];exact hj);obtain ⟨_,_,_,g4⟩:=R.sum_j (j+1);rw [Gz _ _ rfl,abs,g4,R.flat_j1,gu] at this;omega
  ·rw [aaW hj,R.flat] at hbu;omega
 have hvq:JJ (ps.getD j []):=fun x hx=>R.val x (by rw [e];exact adv _ (adb _ hx))
 have hul:=congrArg List.length e;simp only [Or] at hul;generalize aq ((an t).take j)=s at r1 d0 d1 d2;generalize (ps.take j).flatten=u at *
 generalize ps.getD j []=q at *
 generalize (ps.drop (j+1)).flatten=w at *
 have hq64:=cJ q;have hbl:=gY u;have hbr:=gY q;have b0:aW ([]:List Int)=0:=rfl;refine vF ab [0,1,4,5,6,8,9,10,12,14,23,36,37,38,43,48] Tryz.func214 rfl Tryz.results214 Tryz.ntmps214 ?_;(refine' Tb r1)
 refine vL (lv:=[0,1,4,5,6,8,9,10,12,14,23,36,37,38,43,48]) ab (WX k s q) (fun i=>i≤q.length∧aW u+aW (q.take i)<k) (fun i=>q.length - i) (0) ((aC.go [1,9,10,36] (by exact vT) rfl)) ?_ ?_
 ·exact ⟨aa1 _,by rw [abO,j4];omega⟩
 rintro i ⟨h1,h2⟩;have hb3:=mU q i;rcases aa2 i q.length with hlt|hge
 ·obtain ⟨r,hr⟩ : ∃r,q[i]? = some r:=⟨_,IO hlt⟩
  have hin:=DW hlt;obtain ⟨g1,g2⟩:=KF hvq hr;have g3:=xM hr;have g4:aW (q.take (i+1))=aW (q.take i)+(if r=10 then 1 else 0):=by rw [d7 hr,wC]
  have fin:r=10→aW u+aW (q.take i)+1=k→qn l k=u.length+i+1:=fun h10 hkk=>by
   have e3:q++w=q.take i++(r::q.drop (i+1)++w):=by rw [←aba,←dj hr,abf]
   rw [e,iJ u _ k (by omega),e3,iJ _ _ _ (by omega),show k - aW u - aW (q.take i)=1 by omega,abG,qn,aa3 h10,DF,aa7,acw (by omega)];omega
  (refine' zo)
  ·rw [fin (by omega) (by omega),d1];congr 4
  ·rw [g1] at *
   rw [aa3 (by assumption)] at g4;refine aG.go (i+1) [1,9,10,36] (by rw [WX,g3,g4,←g2];exact vT) ?_ ?_
   ·show q.length - (i+1)<q.length - i;omega
   ·exact ⟨hlt,by omega⟩
  ·rw [g1] at *
   rw [aaY (by assumption)] at g4;refine aG.go (i+1) [1,9,10,36] (by rw [WX,g3,g4,←g2];exact vT) ?_ ?_
   ·show q.length - (i+1)<q.length - i;omega
   ·exact ⟨hlt,by omega⟩
 ·rw [aaW hge] at h2;omega
end
abbrev XO:Option Nat:=some 396
def Nm:bN:= .cell [.d (.lit (.pointer none)),.d (.lit (.slice none 0 0))] XO
def Du (a r n:Nat):bN:= .cell [.po a 0,.so r 1 0 n] XO
def lI (b:List UInt8):bN:= .row 1 (b.map JE) (some 5)
attribute [push_cast] Nm.eq_def Du.eq_def lI.eq_def
@[push_cast] theorem unsP1:Ns Tryz.prog 394=some 396:=by kernel_rfl
@[push_cast] theorem unsP2:Ns Tryz.prog 426=none:=by kernel_rfl
@[push_cast] theorem unsU1:Tu Tryz.prog 426=true:=by kernel_rfl
@[push_cast] theorem unsU2:Tu Tryz.prog 394=false:=by kernel_rfl
@[push_cast] theorem unsZ:U6 Tryz.prog 396=true:=by kernel_rfl
@[push_cast] theorem unsE:TR Tryz.prog 318=some 5:=by kernel_rfl
@[push_cast] theorem unsC:Tryz.prog.cellsOf 396=2:=by kernel_rfl
@[push_cast] theorem aaU:Ns Tryz.prog 418=some 5:=by kernel_rfl
@[push_cast] theorem WK:Tryz.prog.cellsOf 5=1:=by kernel_rfl
@[push_cast] theorem unsK:Yg Tryz.prog 394=true:=by kernel_rfl
theorem N2:decide True=true:=rfl
attribute [push_cast] List.isEmpty_cons N2
section
variable {P:Program} {G:Gl} {g:Operand→V} {σ:ak} {id:Nat} {K:V→ak→Prop}
@[push_cast] theorem SI (x:Operand) (t:Nat):aZ P G (.call ⟨.builtin .unsafeSliceData,#[x],#[t]⟩) g σ id K=jE (Fp (g x)) (fun v=>K v []):=by
 simp only [aZ,bg,ce,iK,aR,fz];cases Fp (g x) with
 | none=>rfl
 | some x=>obtain ⟨p,v⟩:=x;rfl
@[push_cast] theorem U4 (x n:Operand) (t t':Nat):aT P G (.call ⟨.builtin .unsafeString,#[x,n],#[t,t']⟩) g σ id K=dx (PZ P t (g x) (g n) σ) K:=by
 simp only [aT,dl,bg,ce,iK,aR,eR,fz];cases PZ P t (g x) (g n) σ with
 | none=>rfl
 | some x=>obtain ⟨p,v,s⟩:=x;simp [dx,cG]
end
theorem S6 {P:Program} {pt id n e:Nat} {b:List UInt8} {σ:ak} (hg:σ.get id=some (.row 1 (b.map JE) (some e))) (hp:Ns P pt=some e) (hc:P.cellsOf e=1) (hn:b.length=n) (h0:0<n) (hm:n≤1000000) :
 PZ P pt (.pe id 1 0 0) (iv n) σ=some (∀y∈b.map JE,oM y,.d (.lit (.string ⟨b.toArray⟩)),σ.del id):=by
 have e1:(b.map JE).take ((n:Int)).toNat=b.map JE:=aaW (by simp;omega);simp only [PZ,hg,hp,hc,e1,wD];rw [aa3];refine ⟨⟨?_,?_⟩,?_,?_,?_,?_,?_⟩<;>first|trivial|(simp;omega)
theorem Rj:ap Tryz.prog G0 272 [.po 0 0] [(0,Nm)] 1 (.tup []) [(0,.cell [.po 0 0,.d (.lit (.slice none 0 0))] XO)]:=by
 simp only [Nm,Du,lI];refine vF ab [0,6,19] Tryz.func272 rfl Tryz.results272 Tryz.ntmps272 ?_;(refine' zg)
 refine vX (.po 0 0) ?_;(refine' zg)
 refine ae.now [] (by decide) ?_;(refine' zg);first|exact aj _|exact ar.cons rfl ar.nil|exact ar.cons rfl (ar.cons rfl ar.nil)|exact ar.nil
theorem Rk (n:Nat) (b:List UInt8):ap Tryz.prog G0 272 [.po 0 0] [(0,Du 0 1 n),(1,lI b)] 2 (.tup []) [(0,Du 0 1 n),(1,lI b)]:=by
 simp only [Nm,Du,lI];refine vF ab [0,6,19] Tryz.func272 rfl Tryz.results272 Tryz.ntmps272 ?_;(refine' zg)
 refine ae.now [] (by decide) ?_;(refine' zg);first|exact aj _|exact ar.cons rfl ar.nil|exact ar.cons rfl (ar.cons rfl ar.nil)|exact ar.nil
theorem Qj:ap Tryz.prog G0 249 [.po 0 0] [(0,Nm)] 1 (iv 0) [(0,Nm)]:=by
 simp only [Nm];refine vF ab [0,2] Tryz.func249 rfl Tryz.results249 Tryz.ntmps249 ?_;(refine' zg)
 refine ae.now [] (by decide) ?_;(refine' zg);first|exact aj _|exact ar.cons rfl ar.nil|exact ar.cons rfl (ar.cons rfl ar.nil)|exact ar.nil
theorem Qk (n:Nat) (b:List UInt8):ap Tryz.prog G0 249 [.po 0 0] [(0,Du 0 1 n),(1,lI b)] 2 (iv n) [(0,Du 0 1 n),(1,lI b)]:=by
 simp only [Du,lI];refine vF ab [0,2] Tryz.func249 rfl Tryz.results249 Tryz.ntmps249 ?_;(refine' zg)
 refine ae.now [] (by decide) ?_;(refine' zg);first|exact aj _|exact ar.cons rfl ar.nil|exact ar.cons rfl (ar.cons rfl ar.nil)|exact ar.nil
theorem NL (s:ByteArray) (hs:s.size≤1000000):ap Tryz.prog G0 251 [.po 0 0,.d (.lit (.string s))] [(0,Nm)] 1 (.tup [iv s.size,.d (.lit .nilIface)]) [(0,Du 0 1 s.size),(1,lI s.data.toList)]:=by
 have r1:=Rj;simp only [Nm,Du,lI] at r1 ⊢;refine vF ab [0,1,4,5] Tryz.func251 rfl Tryz.results251 Tryz.ntmps251 ?_;(refine' zgO r1)
 refine ae.now [41] (by decide) ?_;(refine' zg)
 exact ar.cons rfl (ar.cons rfl ar.nil)
theorem NM (b:List UInt8) (n:Nat) (hn:b.length=n) (hn':n≤1000000) (s:ByteArray) (hs:s.size≤1000000):ap Tryz.prog G0 251 [.po 0 0,.d (.lit (.string s))] [(0,Du 0 1 n),(1,lI b)] 2 (.tup [iv s.size,.d (.lit .nilIface)]) [(0,Du 0 2 (n+s.size)),(2,lI (b++s.data.toList))]:=by
 have r1:=Rk n b;simp only [Du,lI] at r1 ⊢;refine vF ab [0,1,4,5] Tryz.func251 rfl Tryz.results251 Tryz.ntmps251 ?_;(refine' zg)
 refine au.two 0 1 r1 ?_;(refine' zg)
 have e:(b++s.data.toList).length=n+s.size:=by rw [Or,hn,abr];rfl
 rw [e];refine ae.now [42] (by decide) ?_;(refine' zg)
 exact ar.cons rfl (ar.cons rfl ar.nil)
theorem NK (b:List UInt8) (n:Nat) (hn:b.length=n) (h0:0<n) (hn':n≤1000000):ap Tryz.prog G0 253 [.po 0 0] [(0,Du 0 1 n),(1,lI b)] 2 (.d (.lit (.string ⟨b.toArray⟩))) []:=by
 simp only [Du,lI];refine vF ab [0,2] Tryz.func253 rfl Tryz.results253 Tryz.ntmps253 ?_;(repeat' (first|(simp -implicitDefEqProofs -dsimp only [if_pos h0])|(refine' zq)|fail))
 rw [S6 rfl aaU WK hn h0 hn'];(refine' zo)
theorem kO {α:Type} (l:List α) {i j:Nat} (h:i≤j):l.take j=l.take i++(l.take j).drop i:=by
 conv=>lhs;rw [←abf i (l.take j),aed,acw h]
def UU (t:Option T) (ps:List (List Int)) (j:Nat) (vis:Int) (a b:Nat):Nat→St
 | 0=>⟨[(8,iv a),(10,iv b),(12,.po 0 0),(14,.po 1 0),(15,iv (aq ((an t).take j)).d0)],[(0,qp t j vis),(1,Nm)],2⟩
 | i+1=>⟨[(8,iv a),(10,iv b),(12,.po 0 0),(14,.po 1 0),(15,iv (aq ((an t).take j)).d0)],[(0,qp t (j+(i+1)) vis),(1,Du 1 2 (aM ((ps.drop j).take (i+1)).flatten).length),(2,lI (aM ((ps.drop j).take (i+1)).flatten))],3⟩
attribute [push_cast] UU.eq_1 UU.eq_2
theorem yO (ps:List (List Int)) (j i:Nat):(ps.take (j+i)).flatten=(ps.take j).flatten++((ps.drop j).take i).flatten:=by
 rw [adA,acQ]
theorem rX {ps:List (List Int)} {j i:Nat} {q:List Int} (h:ps[j+i]? = some q):((ps.drop j).take (i+1)).flatten=((ps.drop j).take i).flatten++q:=by
 rw [ac7,abJ,h,acQ];simp
section
variable {l:List Int} {ps:List (List Int)} {t:Option T}
theorem MC {l u X:List Int} {from' to m:Nat} (hu:u=l.take u.length) (h1:u.length≤from') (h2:from'≤to) (hm:to≤m) (hX:u++X=l.take m) (i j:Nat) (hi:i+(aM u).length=(aM (l.take from')).length) (hj:j+(aM u).length=(aM (l.take to)).length) :
 (c9 X).extract i j=c9 ((l.take to).drop from'):=by
 have e1:=kO l h1;have e2:=kO l h2;have e3:=kO l hm;rw [←hu] at e1;have eX:X=(l.take from').drop u.length++((l.take to).drop from'++(l.take m).drop to):=by
  have:u++X=u++((l.take from').drop u.length++((l.take to).drop from'++(l.take m).drop to)):=by
   rw [hX];conv=>lhs;rw [e3,e2,e1]
   simp only [aba]
  exact List.append_cancel_left this
 rw [eX];have g1:=congrArg (fun x=>(aM x).length) e1;have g2:=congrArg (fun x=>(aM x).length) e2;simp only [ba,Or] at g1 g2;exact As _ _ _ i j (by omega) (by omega)
set_option maxHeartbeats 3200000 in
theorem IW (R:Rp l ps t) (from' to:Nat) (h1:from'≤to) (h2:to≤l.length):ap Tryz.prog G0 218 [.d (bF t),iv from',iv to] [] 0 (.tup [.d (.lit (.string (c9 ((l.take to).drop from')))),iv 0]) []:=by
 have ra:=wu R from' (by omega);have rb:=wu R to h2;have hlen:=R.len;obtain ⟨j,vis,sp,r1⟩:=tB R.tk 1 (by decide) (from':Int) 1 (by omega) (by rw [U5,R.sum.2.2.1];omega) (.inr rfl);have p:=GG R (by omega) sp;have e0:=p.d0;have hul:=p.lo;have hu:(ps.take j).flatten=l.take (ps.take j).flatten.length:=by
  conv=>rhs;rw [R.flat_j j]
  rw [ads]
 have hst:=pb t j vis;have hjle:=sp.le;rw [R.len'] at hjle;have hn:=R.n;have hbb:=fX l to;have hab:=cJ l;have haa:=fX l from';obtain ⟨a,ea⟩ : ∃a,a=(aM (l.take from')).length:=⟨_,rfl⟩
 obtain ⟨b,eb⟩ : ∃b,b=(aM (l.take to)).length:=⟨_,rfl⟩
 obtain ⟨st,est⟩ : ∃st,st=(aM (ps.take j).flatten).length:=⟨_,rfl⟩
 rw [←ea] at ra haa;rw [←eb] at rb hbb;rw [←est] at e0;have fin : ∀i,j+i≤ps.length→b≤st+(aM ((ps.drop j).take i).flatten).length→to≤(ps.take (j+i)).flatten.length:=fun i hi hb=>by
  have e1:=yO ps j i;have e2:(ps.take (j+i)).flatten=l.take (ps.take (j+i)).flatten.length:=by
   conv=>rhs;rw [R.flat_j (j+i)]
   rw [ads]
  have e3:(aM (ps.take (j+i)).flatten).length=st+(aM ((ps.drop j).take i).flatten).length:=by rw [e1,ba,Or,est]
  rcases aa2 (ps.take (j+i)).flatten.length to with hlt|hge
  ·have:=FS l hlt h2;rw [←e2] at this;omega
  ·exact hge
 have mon:(aM (ps.take j).flatten).length≤(aM (l.take from')).length:=by
  rw [hu];have e:=kO l hul;have g:=congrArg (fun x=>(aM x).length) e;simp only [ba,Or] at g;omega
 have mon2:(aM (l.take from')).length≤(aM (l.take to)).length:=by
  have e:=kO l h1;have g:=congrArg (fun x=>(aM x).length) e;simp only [ba,Or] at g;omega
 refine vF ab [0,1,2,6,7,8,9,10,12,14,15,16,30,38,55,67] Tryz.func218 rfl Tryz.results218 Tryz.ntmps218 ?_;(repeat' (first|with_reducible refine vC (ra) ?_|with_reducible refine vC (rb) ?_|with_reducible refine vK (r1) ?_|with_reducible refine M3 (hst) ?_|(refine' zq)|fail))
 refine vL (lv:=[0,1,2,6,7,8,9,10,12,14,15,16,30,38,55,67]) ab (UU t ps j vis a b) (fun i=>j+i≤ps.length) (fun i=>ps.length - i) (0) ((aC.go [8,10,12,14,15] (by exact vT) rfl)) ?_ ?_
 ·omega
 intro i hi;have fini:=fin i hi;have e3:(aM (ps.take (j+i)).flatten).length=st+(aM ((ps.drop j).take i).flatten).length:=by rw [yO,ba,Or,est]
 have e4:(ps.take (j+i)).flatten=l.take (ps.take (j+i)).flatten.length:=by
  conv=>rhs;rw [R.flat_j (j+i)]
  rw [ads]
 have e5:=fX l (ps.take (j+i)).flatten.length;rw [←e4,e3] at e5;have done:b≤st+(aM ((ps.drop j).take i).flatten).length → ∀x y:Nat,x+st=a→y+st=b→(c9 ((ps.drop j).take i).flatten).extract x y=c9 ((l.take to).drop from'):=fun hb x y hx hy=>
  MC (m:=(ps.take (j+i)).flatten.length) hu hul h1 (fini hb) (by rw [←yO];exact e4) x y (by omega) (by omega)
 have hlt : ¬b≤st+(aM ((ps.drop j).take i).flatten).length→j+i<ps.length:=fun hb=>by
  rcases aa2 (j+i) ps.length with h|h
  ·exact h
  ·rw [aaW h,R.flat] at e3;omega
 by_cases hb:b≤st+(aM ((ps.drop j).take i).flatten).length
 ·have dn:=done hb;cases i with
  | zero=>
   simp only [abO,adZ,gA,abt,abD] at hb;have hft:from'=to:=by
    have:=fini (by simpa [gA] using hb);rw [abD] at this;omega
   have he:c9 ((l.take to).drop from')=⟨#[]⟩:=by
    rw [hft,abo (by simp;omega)];rfl
   rw [he];have r0:=Qj;(repeat' (first|with_reducible refine M3 (r0) ?_|with_reducible refine vOq (r0) ?_|with_reducible refine ae.out ?_|(refine' zq)|fail))
  | succ i=>
   have hX:=yF ((ps.drop j).take (i+1)).flatten;have h0:0<((ps.drop j).take (i+1)).flatten.length:=by
    have:=qK ((ps.drop j).take (i+1)) (fun p hp=>(R.pcs p (abU (abm hp))).1);rw [aa7,abg] at this;omega
   have r0:=Qk (aM ((ps.drop j).take (i+1)).flatten).length (aM ((ps.drop j).take (i+1)).flatten);have r2:=NK (aM ((ps.drop j).take (i+1)).flatten) _ rfl (by omega) (by omega);(refine' zg)
   refine au.two 1 2 r0 ?_;(refine' zg)
   refine au.two 1 2 r0 ?_;(refine' zg)
   refine au.twoN 1 2 r2 ?_;have hsz:(⟨(aM ((ps.drop j).take (i+1)).flatten).toArray⟩:ByteArray).size=(aM ((ps.drop j).take (i+1)).flatten).length:=bT _;have dn' : ∀x y:Nat,x+st=a→y+st=b→(⟨(aM ((ps.drop j).take (i+1)).flatten).toArray⟩:ByteArray).extract x y=c9 ((l.take to).drop from'):=dn;(refine' zg)
   rw [dn' _ _ (by omega) (by omega)];(refine' zo)
 ·have hj:=hlt hb;obtain ⟨q,hq⟩ : ∃q,ps[j+i]? = some q:=⟨_,IO hj⟩
  have hqd:ps.getD (j+i) []=q:=by rw [abT,hq];rfl
  have hqs:=(R.pcs q (aa0 hq)).2;have hq4:=cJ q;have hq5:=bT q;have ri:=nQ t R.tk (j+i) (by omega) vis;have rn:=Mm t R.tk (j+i) (by rw [R.len'];exact hj) vis;rw [R.at,hqd] at ri;have hd:=rX hq;cases i with
  | zero=>
   have r0:=Qj;have r3:=NL (c9 q) (by omega);rw [abD] at ri rn;simp only [abO,adZ,gA,abt,abD] at hb;(repeat' (first|with_reducible refine M3 (r0) ?_|with_reducible refine M3 (ri) ?_|(refine' zq)|fail))
   refine au.oneN 1 r3 ?_;(refine' zgO rn)
   rw [abO,adZ,abL] at hd;refine aG.go (0+1) [8,10,12,14,15] (by rw [UU,hd,bT,kP];exact vT) ?_ ?_
   ·show ps.length - 1<ps.length - 0;omega
   ·show j+1≤ps.length;omega
  | succ i=>
   have r0:=Qk (aM ((ps.drop j).take (i+1)).flatten).length (aM ((ps.drop j).take (i+1)).flatten);have r3:=NM (aM ((ps.drop j).take (i+1)).flatten) _ rfl (by omega) (c9 q) (by omega);(refine' zgR ri)
   refine au.two 1 2 r0 ?_;(refine' zgR ri)
   refine au.twoN 1 2 r3 ?_;(refine' zgO rn)
   refine aG.go (i+1+1) [8,10,12,14,15] (by rw [UU,hd,bT,kP,ba,Or];exact vT) ?_ ?_
   ·show ps.length - (i+1+1)<ps.length - (i+1)
    omega
   ·show j+(i+1+1)≤ps.length;omega
end
def W9 (l:List Int) (i:Nat):St:=⟨[(2,.po 0 0),(3,.po 1 0),(18,Az l),(19,iv l.length),(20,iv i)],[(0,.cell [iv 0,iv 0,iv 0,iv 0,iv 0,iv 0,.d (.lit (.string ⟨#[]⟩))]),
 (1,.cell [iv 0,iv 0,iv (c9 l).size,iv l.length,iv (aW (l.take i)),iv 0,.d (.lit (.string (c9 l)))])],2⟩
attribute [push_cast] W9.eq_def
set_option maxHeartbeats 1600000 in
theorem EQ (l:List Int) (hl:l.length≤1000000):ap Tryz.prog G0 117 [Az l] [] 0 (.d (fQ (gb l))) []:=by
 have r1:ap Tryz.prog G0 119 [Az l] [] 0 (.d (.lit (.string (c9 l)))) []:=ww l (by omega);have hs:=bT l;refine vF ab [0,2,3,5,18,19,20,21,25] Tryz.func117 rfl Tryz.results117 Tryz.ntmps117 ?_;(refine' fq r1)
 refine vL (lv:=[0,2,3,5,18,19,20,21,25]) ab (W9 l) (fun i=>i≤l.length) (fun i=>l.length - i) (0) ((aC.go [2,3,18,19,20] (by exact vT) rfl)) ?_ ?_
 ·exact aa1 _
 intro i hi;have hb:=gY (l.take i);rw [aa7] at hb;(refine' zg)
 ·refine aF.intro fun r hr =>?_
  have g4:aW (l.take (i+1))=aW (l.take i)+(if r=10 then 1 else 0):=by rw [d7 hr,wC]
  (refine' zg)
  ·rw [aa3 (by assumption)] at g4;refine aG.go (i+1) [2,3,18,19,20] (by rw [W9,g4];exact vT) ?_ ?_
   ·show l.length - (i+1)<l.length - i;omega
   ·show i+1≤l.length;omega
  ·rw [aaY (by assumption)] at g4;refine aG.go (i+1) [2,3,18,19,20] (by rw [W9,g4];exact vT) ?_ ?_
   ·show l.length - (i+1)<l.length - i;omega
   ·show i+1≤l.length;omega
 ·have e:l.take i=l:=aaW (by omega);rw [e,hs];refine ae.out ?_;(refine' zg)
  rfl
theorem FM {n k m:Nat} (hn:n≤1000000000) (hk:0<k) (hm:m=n / k):IntKind.i64.wrap ((n:Int).tdiv (k:Int))=(m:Int):=by
 have e:(n:Int).tdiv (k:Int)=((n / k:Nat):Int):=rfl;have:=ad9 n k;rw [e,←hm];exact Tv _ (by omega) (by omega)
def ctS (x:Nat × List Int × List It):St:=⟨[(0,Az x.2.1),(3,.so 0 7 0 x.2.2.length),(4,iv x.1)],[(0,.row 7 (x.2.2.map fQ))],1⟩
attribute [push_cast] ctS.eq_def
theorem PB (es:List It) (i:It):es.map fQ++[fQ i]=(es++[i]).map fQ:=by rw [abc];rfl
set_option maxHeartbeats 1600000 in
theorem Rt (l:List Int) (hl:l.length≤1000000):ap Tryz.prog G0 59 [Az l] [] 0 (itL ((pcs l).map gb)) []:=by
 obtain ⟨k0,hk0⟩ : ∃k0,k0=(l.length+15) / 16:=⟨_,rfl⟩
 have hd0:=FM (n:=l.length+15) (k:=16) (by omega) (by omega) hk0;have hd1:IntKind.i64.wrap (((l.length:Int)+16 - 1).tdiv 16)=(k0:Int):=by
  rw [show ((l.length:Int)+16 - 1)=((l.length+15:Nat):Int) by omega];exact hd0
 refine vF ab [0,2,3,4,5,12] Tryz.func59 rfl Tryz.results59 Tryz.ntmps59 ?_;(repeat' (first|(simp -implicitDefEqProofs -dsimp only [hd1])|(refine' zq)|fail))
 refine vL (lv:=[0,2,3,4,5,12]) ab (ctS) (fun x=>x.2.1.length≤l.length∧x.1≤x.2.1.length∧x.2.1.length≤16*x.1∧x.2.2.length+x.1=k0∧x.2.2++(u6 x.1 x.2.1).map gb=(pcs l).map gb) (fun x=>x.1) ((k0,l,[])) (aC.nil 3 7<|(aC.go [0,3,4] (by exact vT) rfl)) ?_ ?_
 ·refine ⟨aaV _,by simp only;omega,by simp only;omega,by simp,?_⟩;simp only [abL,hk0];rfl
 rintro ⟨k,r,es⟩ ⟨h1,h2,h3,h4,h5⟩;simp only at h1 h2 h3 h4 h5;cases k with
 | zero=>
  have h6:es=(pcs l).map gb:=by rw [←h5,u6];simp
  (refine' zg)
  refine ae.frz 0 (ae.out ?_);(refine' zg)
  rw [←aci,←h6]
 | succ k=>
  obtain ⟨n,hn⟩ : ∃n,n=r.length / (k+1):=⟨_,rfl⟩
  have hd:=FM (n:=r.length) (k:=k+1) (by omega) (by omega) hn;have hnl:n≤r.length:=by rw [hn];exact ad9 _ _
  have hn1:1≤n:=by rw [hn];exact (Nat.le_div_iff_mul_le (by omega)).2 (by omega)
  have hn16:n≤16:=by rw [hn];exact Nat.div_le_of_le_mul (by omega)
  have hmod:=adG r.length (k+1);have hml:=adm r.length (show 0<k+1 by omega);rw [←hn] at hmod;have r1:=EQ (r.take n) (by simp;omega);have hc:((k+1:Nat):Int)=(k:Int)+1:=by omega
  rw [hc] at hd;(repeat' (first|(simp -implicitDefEqProofs -dsimp only [hd])|with_reducible refine vQ (r1) ?_|with_reducible refine vC (r1) ?_|(refine' zq)|fail))
  rw [PB];refine aG.go ((k,r.drop n,es++[gb (r.take n)])) [0,3,4] (by exact vT) ?_ ?_
  ·show k<k+1;omega
  ·refine ⟨by simp only [abg];omega,?_,?_,by simp;omega,?_⟩
   ·simp only [abg];have:n*(k+1)≤r.length:=by rw [hn];exact Nat.div_mul_le_self _ _
    rw [acR] at this;have:k≤n*k:=Nat.le_mul_of_pos_left k hn1;omega
   ·simp only [abg];rcases aa2 n 16 with h16|h16
    ·have h7:=abX k (show n+1≤16 by omega);rw [acR] at h7;rw [ad6] at hmod;omega
    ·omega
   ·rw [←h5,u6,←hn];simp
section
theorem Pb (s:ByteArray) (hs:s.size≤1000000000) (h:(aa s 0).length≤20000) : ∃ps t,Rp (aa s 0) ps t∧ap Tryz.prog G0 22 [sv s] [] 0 (.tup [.d (bF t),iv 0]) []:=by
 have r1:=kS s hs;have hv:=kF s s.size 0 (by omega);generalize aa s 0=l at *
 have r2:=Rt l (by omega);have hp:=SA l;have hpl:(pcs l).length≤20000:=by
  have:=qK (pcs l) (fun p q=>(hp p q).1);rw [Ce] at this;omega
 have hok : ∀i∈(pcs l).map gb,cd i:=by
  intro i hi;obtain ⟨p,hq,rfl⟩:=abY.1 hi;exact QL (by have:=hp p hq;omega)
 have r3:=xY ((pcs l).map gb) (by simp;omega) hok;obtain ⟨w1,w2⟩:=qQ ((pcs l).map gb) _ (aaV _);have w3:=sC ((pcs l).map gb) _ (aaV _);rw [aaW (by omega)] at w2;generalize eA ((pcs l).map gb) ((pcs l).map gb).length=t at r3 w1 w2 w3;refine ⟨pcs l,t,⟨w2,Ce l,hv,w1,by simp at w3;omega,hp,h⟩,?_⟩;rw [bF,aU] at *
 refine vF ab [0,2,3,4,5,6,11,19] Tryz.func22 rfl Tryz.results22 Tryz.ntmps22 ?_;(refine' WR r1 r2 r3)
 refine ae.frz 80 (ae.out ?_);(refine' zg)
end
end Go.Proofs.YtkkanlcjjpoklaaGreatDoor
