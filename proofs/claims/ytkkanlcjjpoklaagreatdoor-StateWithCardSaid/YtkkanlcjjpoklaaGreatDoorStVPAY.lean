/- What the theorem leans on, part 25. -/
import Derived.Test.YtkkanlcjjpoklaaGreatDoorStVPAH
set_option linter.unusedSimpArgs false
set_option linter.unusedVariables false
set_option maxRecDepth 8000
namespace Go.Proofs.YtkkanlcjjpoklaaGreatDoor
namespace SrtSn
abbrev Bk:=Int × Int
abbrev Hb (x:Bk):D:= .agg [iD x.1,iD x.2]
abbrev cp (l:List Bk):bN:= .row 2 (l.map Hb)
abbrev eT:V:= .d (.fn 67 [])
def cB (x y:Bk):Int:=if qo x.1 y.1≠0 then qo x.1 y.1 else qo x.2 y.2
abbrev ltB (x y:Bk):Prop:=cB x y<0
theorem cB_lt (x y:Bk):cB x y<0↔x.1<y.1∨(x.1=y.1∧x.2<y.2):=by
 unfold cB qo;repeat' split
 all_goals omega
theorem fE:Wk ltB:=⟨fun x y h k=>by have h:=(cB_lt _ _).1 h;have k:=(cB_lt _ _).1 k;omega,fun x y z h k l=>by have h:=mt (cB_lt x y).2 h;have k:=mt (cB_lt y z).2 k;have l:=(cB_lt _ _).1 l;omega⟩
theorem aN (x y:Bk):ap Tryz.prog G0 67 [.d (Hb x),.d (Hb y)] [] 0 (iv (cB x y)) []:=by
 refine vF ab [0,1,2,3,4] Tryz.func67 rfl Tryz.results67 Tryz.ntmps67 ?_;(repeat' (first|with_reducible refine vQ (rd _ _) ?_|(refine' zq)|fail))
 refine eW.e (by kernel_rfl) (au.put 52 (TB _ _) (by kernel_rfl) rfl rfl rfl ?_);refine (?_:ez _ _);(refine' zo)
 rfl
theorem DG (l:List Bk) (i:Nat) (y:Bk):(l.map Hb).set i (D.agg [iD y.1,iD y.2])=(l.set i y).map Hb:=(List.map_set (f:=Hb) (a:=y)).symm
attribute [push_cast] DG
def nq (N a b:Nat) (x:Nat × List Bk):St:=⟨[(0,.so 0 2 0 N),(1,iv a),(2,iv b),(3,eT),(8,iv x.1)],[(0,cp x.2)],1⟩
def RW (N a b i:Nat) (x:Nat × List Bk):St:=⟨[(0,.so 0 2 0 N),(1,iv a),(2,iv b),(3,eT),(8,iv i),(9,iv x.1)],[(0,cp x.2)],1⟩
attribute [push_cast] nq.eq_def RW.eq_def
theorem jv (xs:List Bk) (N a b:Nat) (hN:xs.length=N) (hab:a≤b) (hb:b≤N) (hl:N≤100000) :
 ∃ys,(Rg a b xs ys∧cV ltB a b ys)∧ap Tryz.prog G0 186 [.so 0 2 0 N,iv a,iv b,eT] [(0,cp xs)] 1 (.tup []) [(0,cp ys)]:=by
 refine uL ab [0,1,2,3,8,9,14,34] Tryz.func186 rfl Tryz.results186 Tryz.ntmps186 ?_;(refine' zg)
 refine uQ [0,1,2,3,8,9,14,34] (nq N a b) (fun x=>a+1≤x.1∧(x.1≤b∨x.1=a+1)∧Rg a b xs x.2∧cV ltB a x.1 x.2) (fun x=>b+1 - x.1) ((a+1,xs)) ((aC.go [0,1,2,3,8] (by exact vT) rfl)) ?_ ?_
 ·exact ⟨aaV _,.inr rfl,Rg.refl _ _ _,cV.few (aaV _)⟩
 rintro ⟨i,ys⟩ ⟨h1,h2,h3,h4⟩;simp only at h1 h2 h3 h4;have hys:=h3.len;(refine' zg)
 ·refine uQ [0,1,2,3,8,9,14,34] (RW N a b i) (fun x=>a≤x.1∧x.1≤i∧Rg a b xs x.2∧AF ltB a i x.1 x.2) (fun x=>x.1) ((i,ys)) ((aC.go [0,1,2,3,8,9] (by exact vT) rfl)) ?_ ?_
  ·exact ⟨by show a≤i;omega,aaV _,h3,AF.start h4⟩
  rintro ⟨j,zs⟩ ⟨g1,g2,g3,g4⟩;simp only at g1 g2 g3 g4;have hzs:=g3.len;have hib:i<b:=by omega
  (refine' zg)
  ·obtain ⟨x,hx⟩ : ∃x,zs[j]? = some x:=⟨_,IO (by omega)⟩
   obtain ⟨y,hy⟩ : ∃y,zs[j - 1]? = some y:=⟨_,IO (by omega)⟩
   refine aF.is j x (by omega) hx ?_;(refine' zg)
   refine aF.is (j - 1) y (by omega) hy ?_;(repeat' (first|with_reducible refine vQ (aN _ _) ?_|(refine' zq)|fail))
   ·refine aF.is (j - 1) y (by omega) hy ?_;(refine' zg)
    refine aF.is j x (by omega) hx ?_;(refine' zg)
    refine aG.go ((j - 1,(zs.set j y).set (j - 1) x)) [0,1,2,3,8,9] (by unfold RW;rw [show ((j - 1:Nat):Int)=(j:Int) - 1 by omega];exact vT) ?_ ?_
    ·show j - 1<j;omega
    ·exact ⟨by show a≤j - 1;omega,by show j - 1≤i;omega,g3.trans (Rg.swap hx hy (by omega) (by omega) (by omega) (by omega)),g4.step fE (by omega) (by omega) hx hy h⟩
   ·refine aG.go ((i+1,zs)) [0,1,2,3,8] (by exact vT) ?_ ?_
    ·show b+1 - (i+1)<b+1 - i;omega
    ·exact ⟨by show a+1≤i+1;omega,.inl (by show i+1≤b;omega),g3,g4.done fE (by omega) fun u v _ hu hv=>by rw [hx] at hu;rw [hy] at hv;cases hu;cases hv;exact h⟩
  ·refine aG.go ((i+1,zs)) [0,1,2,3,8] (by exact vT) ?_ ?_
   ·show b+1 - (i+1)<b+1 - i;omega
   ·exact ⟨by show a+1≤i+1;omega,.inl (by show i+1≤b;omega),g3,g4.done fE (by omega) fun u v hlt=>by omega⟩
 ·refine a7.is ys ⟨h3,fun p q x y q1 q2 q3=>h4 p q x y q1 q2 (by omega)⟩ (ae.now [] (by decide) ?_);(refine' zg)
  exact aj _
end SrtSn
namespace SrtSn
def Mo (N hi f:Nat) (x:Nat × List Bk):St:=⟨[(0,.so 0 2 0 N),(2,iv hi),(3,iv f),(4,eT),(10,iv x.1)],[(0,cp x.2)],1⟩
attribute [push_cast] Mo.eq_def
theorem nS (xs:List Bk) (N lo hi f:Nat) (hN:xs.length=N) (hlo:lo≤N) (hf:f+hi≤N) (hl:N≤100000) (hp:Hp ltB f (lo+1) hi xs) :
 ∃ys,(Rg f (f+hi) xs ys∧Hp ltB f lo hi ys)∧ap Tryz.prog G0 239 [.so 0 2 0 N,iv lo,iv hi,iv f,eT] [(0,cp xs)] 1 (.tup []) [(0,cp ys)]:=by
 refine uL ab [0,1,2,3,4,10,11,18,40,58] Tryz.func239 rfl Tryz.results239 Tryz.ntmps239 ?_;(refine' zg)
 refine uQ [0,1,2,3,4,10,11,18,40,58] (Mo N hi f) (fun x=>lo≤x.1∧x.1≤N∧Rg f (f+hi) xs x.2∧Sf ltB f lo hi x.1 x.2) (fun x=>hi - x.1) ((lo,xs)) ((aC.go [0,2,3,4,10] (by exact vT) rfl)) ?_ ?_
 ·exact ⟨aaV _,hlo,Rg.refl _ _ _,Sf.start hp⟩
 rintro ⟨r,ys⟩ ⟨g1,g2,g3,g4⟩;simp only at g1 g2 g3 g4;have hys:=g3.len;(refine' zg)
 ·refine a7.is ys ⟨g3,g4.out (by omega)⟩ (ae.now [] (by decide) ?_);(refine' zg)
  exact aj _
 ·obtain ⟨x,hx⟩ : ∃x,ys[f+r]? = some x:=⟨_,IO (by omega)⟩
  obtain ⟨y,hy⟩ : ∃y,ys[f+(2*r+1)]? = some y:=⟨_,IO (by omega)⟩
  obtain ⟨z,hz⟩ : ∃z,ys[f+(2*r+2)]? = some z:=⟨_,IO (by omega)⟩
  refine aF.is (f+(2*r+1)) y (by omega) hy ?_;(refine' zg)
  refine aF.is (f+(2*r+2)) z (by omega) hz ?_;(repeat' (first|with_reducible refine vQ (aN _ _) ?_|(refine' zq)|fail))
  ·have ho : ∀d u,(d=2*r+1∨d=2*r+2)→d<hi→ys[f+d]? = some u → ¬ltB z u:=fun d u h1 h2 h3=>by
    rcases h1 with rfl|rfl
    ·rw [hy] at h3;cases h3;exact fE.sy _ _ h
    ·rw [hz] at h3;cases h3;exact fE.ir _
   refine aF.is (f+r) x (by omega) hx ?_;(refine' zg)
   refine aF.is (f+(2*r+2)) z (by omega) hz ?_;(repeat' (first|with_reducible refine vQ (aN _ _) ?_|(refine' zq)|fail))
   ·refine a7.is ys ⟨g3,g4.fits (c:=0) fE hx h ho⟩ (ae.now [] (by decide) ?_);(refine' zg)
    exact aj _
   ·refine aF.is (f+(2*r+2)) z (by omega) hz ?_;(refine' zg)
    refine aF.is (f+r) x (by omega) hx ?_;(refine' zg)
    refine aG.go ((2*r+2,(ys.set (f+r) z).set (f+(2*r+2)) x)) [0,2,3,4,10] (by unfold Mo;rw [show f+(2*r+2)=((f:Int)+(2*(r:Int)+1+1)).toNat by omega];exact vT) ?_ ?_
    ·show hi - (2*r+2)<hi - r;omega
    ·exact ⟨by show lo≤2*r+2;omega,by show 2*r+2≤N;omega,g3.trans (Rg.swap hx hz (by omega) (by omega) (by omega) (by omega)),g4.step fE (by omega) (by omega) (by omega) hx hz h ho⟩
  ·have ho : ∀d u,(d=2*r+1∨d=2*r+2)→d<hi→ys[f+d]? = some u → ¬ltB y u:=fun d u h1 h2 h3=>by
    rcases h1 with rfl|rfl
    ·rw [hy] at h3;cases h3;exact fE.ir _
    ·rw [hz] at h3;cases h3;exact h
   refine aF.is (f+r) x (by omega) hx ?_;(refine' zg)
   refine aF.is (f+(2*r+1)) y (by omega) hy ?_;(repeat' (first|with_reducible refine vQ (aN _ _) ?_|(refine' zq)|fail))
   ·refine a7.is ys ⟨g3,g4.fits (c:=0) fE hx h ho⟩ (ae.now [] (by decide) ?_);(refine' zg)
    exact aj _
   ·refine aF.is (f+(2*r+1)) y (by omega) hy ?_;(refine' zg)
    refine aF.is (f+r) x (by omega) hx ?_;(refine' zg)
    refine aG.go ((2*r+1,(ys.set (f+r) y).set (f+(2*r+1)) x)) [0,2,3,4,10] (by unfold Mo;rw [show f+(2*r+1)=((f:Int)+(2*(r:Int)+1)).toNat by omega];exact vT) ?_ ?_
    ·show hi - (2*r+1)<hi - r;omega
    ·exact ⟨by show lo≤2*r+1;omega,by show 2*r+1≤N;omega,g3.trans (Rg.swap hx hy (by omega) (by omega) (by omega) (by omega)),g4.step fE (by omega) (by omega) (by omega) hx hy h ho⟩
 ·obtain ⟨x,hx⟩ : ∃x,ys[f+r]? = some x:=⟨_,IO (by omega)⟩
  obtain ⟨y,hy⟩ : ∃y,ys[f+(2*r+1)]? = some y:=⟨_,IO (by omega)⟩
  have ho : ∀d u,(d=2*r+1∨d=2*r+2)→d<hi→ys[f+d]? = some u → ¬ltB y u:=fun d u h1 h2 h3=>by
   obtain rfl:d=2*r+1:=by omega
   rw [hy] at h3;cases h3;exact fE.ir _
  refine aF.is (f+r) x (by omega) hx ?_;(refine' zg)
  refine aF.is (f+(2*r+1)) y (by omega) hy ?_;(repeat' (first|with_reducible refine vQ (aN _ _) ?_|(refine' zq)|fail))
  ·refine a7.is ys ⟨g3,g4.fits (c:=0) fE hx h ho⟩ (ae.now [] (by decide) ?_);(refine' zg)
   exact aj _
  ·refine aF.is (f+(2*r+1)) y (by omega) hy ?_;(refine' zg)
   refine aF.is (f+r) x (by omega) hx ?_;(refine' zg)
   refine aG.go ((2*r+1,(ys.set (f+r) y).set (f+(2*r+1)) x)) [0,2,3,4,10] (by unfold Mo;rw [show f+(2*r+1)=((f:Int)+(2*(r:Int)+1)).toNat by omega];exact vT) ?_ ?_
   ·show hi - (2*r+1)<hi - r;omega
   ·exact ⟨by show lo≤2*r+1;omega,by show 2*r+1≤N;omega,g3.trans (Rg.swap hx hy (by omega) (by omega) (by omega) (by omega)),g4.step fE (by omega) (by omega) (by omega) hx hy h ho⟩
def T3 (N a hi:Nat) (x:Nat × List Bk):St:=⟨[(0,.so 0 2 0 N),(3,eT),(8,iv a),(9,iv 0),(10,iv hi),(11,iv ((x.1:Int) - 1))],[(0,cp x.2)],1⟩
def T4 (N a:Nat) (x:Nat × List Bk):St:=⟨[(0,.so 0 2 0 N),(3,eT),(8,iv a),(9,iv 0),(12,iv ((x.1:Int) - 1))],[(0,cp x.2)],1⟩
attribute [push_cast] T3.eq_def T4.eq_def
theorem yR (xs:List Bk) (N a b:Nat) (hN:xs.length=N) (hab:a<b) (hb:b≤N) (hl:N≤100000) :
 ∃ys,(Rg a b xs ys∧cV ltB a b ys)∧ap Tryz.prog G0 187 [.so 0 2 0 N,iv a,iv b,eT] [(0,cp xs)] 1 (.tup []) [(0,cp ys)]:=by
 obtain ⟨n,rfl⟩ : ∃n,b=a+n:=⟨b - a,by omega⟩
 refine uL ab [0,1,2,3,8,9,10,11,12,21,33] Tryz.func187 rfl Tryz.results187 Tryz.ntmps187 ?_;(refine' zg)
 have hh:IntKind.i64.wrap (((a:Int)+n - a - 1).tdiv 2)=(((n - 1) / 2+1:Nat):Int) - 1:=by
  rw [ML _ _ (by omega),Tv _ (by omega) (by omega)];omega
 rw [hh];refine uQ [0,1,2,3,8,9,10,11,12,21,33] (T3 N a n) (fun x=>x.1≤n∧Rg a (a+n) xs x.2∧Hp ltB a x.1 n x.2) (fun x=>x.1) (((n - 1) / 2+1,xs)) ((aC.go [0,3,8,9,10,11] (by exact vT) rfl)) ?_ ?_
 ·exact ⟨by show (n - 1) / 2+1≤n;omega,Rg.refl _ _ _,fun r ch x y h1 h2 h3=>by omega⟩
 rintro ⟨i,ys⟩ ⟨g1,g2,g3⟩;simp only at g1 g2 g3;have hys:=g2.len;(refine' zg)
 ·obtain ⟨k,rfl⟩ : ∃k,i=k+1:=⟨i - 1,by omega⟩
  obtain ⟨zs,⟨z1,z2⟩,hf⟩:=nS ys N k n a (by omega) (by omega) (by omega) hl g3;rw [show (((k+1:Nat):Int) - 1)=(k:Int) by omega];refine au.put 0 hf (by kernel_rfl) rfl rfl rfl ?_;(refine' zg)
  refine aG.go ((k,zs)) [0,3,8,9,10,11] (by exact vT) ?_ ?_
  ·exact aco _
  ·exact ⟨by show k≤n;omega,g2.trans z1,z2⟩
 ·obtain rfl:i=0:=by omega
  refine uQ [0,1,2,3,8,9,10,11,12,21,33] (T4 N a) (fun x=>x.1≤n∧Rg a (a+n) xs x.2∧Hs ltB a x.1 n x.2) (fun x=>x.1) ((n,ys)) ((aC.go [0,3,8,9,12] (by exact vT) rfl)) ?_ ?_
  ·exact ⟨aaV _,g2,⟨g3,cV.few (by omega),fun p q x y _ _ h1 h2=>by omega⟩⟩
  rintro ⟨i,zs⟩ ⟨q1,q2,q3⟩;simp only at q1 q2 q3;have hzs:=q2.len;(refine' zg)
  ·obtain ⟨k,rfl⟩ : ∃k,i=k+1:=⟨i - 1,by omega⟩
   obtain ⟨x,hx⟩ : ∃x,zs[a]? = some x:=⟨_,IO (by omega)⟩
   obtain ⟨y,hy⟩ : ∃y,zs[a+k]? = some y:=⟨_,IO (by omega)⟩
   rw [show (((k+1:Nat):Int) - 1)=(k:Int) by omega];refine aF.is (a+k) y (by omega) hy ?_;(refine' zg)
   refine aF.is a x (by omega) hx ?_;(refine' zg)
   obtain ⟨ws,⟨w1,w2⟩,hf⟩:=nS ((zs.set a y).set (a+k) x) N 0 k a (by simp;omega) (by omega) (by omega) hl (q3.heap1 hx hy);refine au.put 0 hf (by kernel_rfl) rfl rfl rfl ?_;(refine' zg)
   refine aG.go ((k,ws)) [0,3,8,9,12] (by exact vT) ?_ ?_
   ·exact aco _
   ·exact ⟨by show k≤n;omega,q2.trans ((Rg.swap hx hy (by omega) (by omega) (by omega) (by omega)).trans (w1.wide (by omega) (by omega))),q3.step fE (by omega) hx hy w1 w2⟩
  ·obtain rfl:i=0:=by omega
   refine a7.is zs ⟨q2,q3.fin⟩ (ae.now [] (by decide) ?_);(refine' zg)
   exact aj _
end SrtSn
namespace SrtSn
def UP (N:Nat) (x:Nat × Nat × List Bk):St:=⟨[(0,.so 0 2 0 N),(8,iv x.1),(9,iv ((x.2.1:Int) - 1))],[(0,cp x.2.2)],1⟩
attribute [push_cast] UP.eq_def
theorem mC (xs:List Bk) (N a b:Nat) (hN:xs.length=N) (hab:a≤b) (hb:b≤N) (hl:N≤100000) :
 ∃ys,Rg a b xs ys∧ap Tryz.prog G0 190 [.so 0 2 0 N,iv a,iv b,eT] [(0,cp xs)] 1 (.tup []) [(0,cp ys)]:=by
 refine uL ab [0,1,2,8,9,15] Tryz.func190 rfl Tryz.results190 Tryz.ntmps190 ?_;(refine' zg)
 refine uQ [0,1,2,8,9,15] (UP N) (fun x=>a≤x.1∧x.2.1≤b∧Rg a b xs x.2.2) (fun x=>x.2.1) ((a,b,xs)) ((aC.go [0,8,9] (by exact vT) rfl)) ?_ ?_
 ·exact ⟨aaV _,aaV _,Rg.refl _ _ _⟩
 rintro ⟨i,j,ys⟩ ⟨g1,g2,g3⟩;simp only at g1 g2 g3;have hys:=g3.len;(refine' zg)
 ·obtain ⟨x,hx⟩ : ∃x,ys[i]? = some x:=⟨_,IO (by omega)⟩
  obtain ⟨y,hy⟩ : ∃y,ys[j - 1]? = some y:=⟨_,IO (by omega)⟩
  refine aF.is (j - 1) y (by omega) hy ?_;(refine' zg)
  refine aF.is i x (by omega) hx ?_;(refine' zg)
  refine aG.go ((i+1,j - 1,(ys.set i y).set (j - 1) x)) [0,8,9] (by exact vT) ?_ ?_
  ·show j - 1<j;omega
  ·exact ⟨by show a≤i+1;omega,by show j - 1≤b;omega,g3.trans (Rg.swap hx hy (by omega) (by omega) (by omega) (by omega))⟩
 ·refine a7.is ys g3 (ae.now [] (by decide) ?_);(refine' zg)
  exact aj _
theorem fj (xs:List Bk) (N a b:Nat) (s:Int) (hN:xs.length=N) (ha:a<N) (hb:b<N) (hl:N≤100000) (h0:0≤s) (h1:s≤1000) :
 ∃r:Nat × Nat × Int,(((r.1=a∧r.2.1=b)∨(r.1=b∧r.2.1=a))∧s≤r.2.2∧r.2.2≤s+1) ∧
  ap Tryz.prog G0 269 [.so 0 2 0 N,iv a,iv b,.po 1 0,eT] [(0,cp xs),(1,.cell [iv s])] 2 (.tup [iv r.1,iv r.2.1]) [(0,cp xs),(1,.cell [iv r.2.2])]:=by
 refine uL ab [0,1,2,3,4,10,11,22] Tryz.func269 rfl Tryz.results269 Tryz.ntmps269 ?_;(refine' zg)
 obtain ⟨x,hx⟩ : ∃x,xs[a]? = some x:=⟨_,IO (by omega)⟩
 obtain ⟨y,hy⟩ : ∃y,xs[b]? = some y:=⟨_,IO (by omega)⟩
 refine aF.is b y (by omega) hy ?_;(refine' zg)
 refine aF.is a x (by omega) hx ?_;(repeat' (first|with_reducible refine vQ (aN _ _) ?_|(refine' zq)|fail))
 ·refine a7.is (b,a,s+1) ⟨.inr ⟨rfl,rfl⟩,by show s≤s+1;omega,abN _⟩ (ae.now [] (by decide) ?_);(refine' zg)
  exact aj _
 ·refine a7.is (a,b,s) ⟨.inl ⟨rfl,rfl⟩,abN _,by show s≤s+1;omega⟩ (ae.now [] (by decide) ?_);(refine' zg)
  exact aj _
theorem fg (xs:List Bk) (N a b c:Nat) (s:Int) (hN:xs.length=N) (ha:a<N) (hb:b<N) (hc:c<N) (hl:N≤100000) (h0:0≤s) (h1:s≤900) :
 ∃r:Nat × Int,((r.1=a∨r.1=b∨r.1=c)∧s≤r.2∧r.2≤s+3) ∧
  ap Tryz.prog G0 241 [.so 0 2 0 N,iv a,iv b,iv c,.po 1 0,eT] [(0,cp xs),(1,.cell [iv s])] 2 (iv r.1) [(0,cp xs),(1,.cell [iv r.2])]:=by
 obtain ⟨⟨a1,b1,s1⟩,⟨p1,q1,t1⟩,f1⟩:=fj xs N a b s hN ha hb hl h0 (by omega);simp only at p1 q1 t1;obtain ⟨⟨b2,c2,s2⟩,⟨p2,q2,t2⟩,f2⟩:=fj xs N b1 c s1 hN (by omega) hc hl (by omega) (by omega);simp only at p2 q2 t2;obtain ⟨⟨a3,b3,s3⟩,⟨p3,q3,t3⟩,f3⟩:=fj xs N a1 b2 s2 hN (by omega) (by omega) hl (by omega) (by omega);simp only at p3 q3 t3;refine ⟨(b3,s3),⟨by simp only;omega,by simp only;omega,by simp only;omega⟩,?_⟩;refine vF ab [0,1,2,3,4,5,12] Tryz.func241 rfl Tryz.results241 Tryz.ntmps241 ?_;(refine' zg)
 refine au.two 0 1 f1 ?_;(refine' zg)
 refine au.two 0 1 f2 ?_;(refine' zg)
 refine au.two 0 1 f3 ?_;(refine' zg)
 refine ae.now [] (by decide) ?_;(refine' zg)
 exact aj _
theorem d6 (xs:List Bk) (N a:Nat) (s:Int) (hN:xs.length=N) (ha:a+1<N) (h:0<a) (hl:N≤100000) (h0:0≤s) (h1:s≤900) :
 ∃r:Nat × Int,((a - 1≤r.1∧r.1≤a+1)∧s≤r.2∧r.2≤s+3) ∧
  ap Tryz.prog G0 240 [.so 0 2 0 N,iv a,.po 1 0,eT] [(0,cp xs),(1,.cell [iv s])] 2 (iv r.1) [(0,cp xs),(1,.cell [iv r.2])]:=by
 obtain ⟨⟨m,s1⟩,⟨p1,q1,t1⟩,f1⟩:=fg xs N (a - 1) a (a+1) s hN (by omega) (by omega) (by omega) hl h0 h1;simp only at p1 q1 t1;refine ⟨(m,s1),⟨by simp only;omega,by simp only;omega,by simp only;omega⟩,?_⟩;have e1:iv ((a - 1:Nat):Int)=iv ((a:Int) - 1):=by congr 4;omega
 have e2:iv ((a+1:Nat):Int)=iv ((a:Int)+1):=by congr 4
 rw [e1,e2] at f1;refine vF ab [0,1,2,3,8] Tryz.func240 rfl Tryz.results240 Tryz.ntmps240 ?_;(refine' zg)
 refine au.two 0 1 f1 ?_;(refine' zg)
 refine ae.now [] (by decide) ?_;(refine' zg)
 exact aj _
theorem td (xs:List Bk) (N a b:Nat) (hN:xs.length=N) (hab:a+8≤b) (hb:b≤N) (hl:N≤100000) :
 ∃r:Nat × Int,(a≤r.1∧r.1<b)∧ap Tryz.prog G0 189 [.so 0 2 0 N,iv a,iv b,eT] [(0,cp xs)] 1 (.tup [iv r.1,iv r.2]) [(0,cp xs)]:=by
 obtain ⟨n,rfl⟩ : ∃n,b=a+n:=⟨b - a,by omega⟩
 have e1:(a:Int)+((a:Int)+n - a) / 4*1=((a+n / 4:Nat):Int):=by omega
 have e2:(a:Int)+((a:Int)+n - a) / 4*2=((a+n / 4*2:Nat):Int):=by omega
 have e3:(a:Int)+((a:Int)+n - a) / 4*3=((a+n / 4*3:Nat):Int):=by omega
 refine uL ab [0,1,2,3,8,9,10,11,12,13,14,34,36,55,57,60] Tryz.func189 rfl Tryz.results189 Tryz.ntmps189 ?_;(repeat' (first|(refine' cP)|fail))
 ·obtain ⟨⟨m1,s1⟩,⟨p1,q1,t1⟩,f1⟩:=d6 xs N (a+n / 4) 0 hN (by omega) (by omega) hl (by omega) (by omega);obtain ⟨⟨m2,s2⟩,⟨p2,q2,t2⟩,f2⟩:=d6 xs N (a+n / 4*2) s1 hN (by omega) (by omega) hl (by simp only at q1;omega) (by simp only at t1;omega);simp only at p1 q1 t1 p2 q2 t2;obtain ⟨⟨m3,s3⟩,⟨p3,q3,t3⟩,f3⟩:=d6 xs N (a+n / 4*3) s2 hN (by omega) (by omega) hl (by omega) (by omega);simp only at p3 q3 t3;obtain ⟨⟨m,s4⟩,⟨p4,q4,t4⟩,f4⟩:=fg xs N m1 m2 m3 s3 hN (by omega) (by omega) (by omega) hl (by omega) (by omega);simp only at p4 q4 t4;simp only [e1,e2,e3];refine au.two 0 25 f1 ?_;(repeat' (first|(refine' cP)|fail))
  simp only [e2];refine au.two 0 25 f2 ?_;(repeat' (first|(refine' cP)|fail))
  simp only [e3];refine au.two 0 25 f3 ?_;(repeat' (first|(refine' cP)|fail))
  refine au.two 0 25 f4 ?_;(repeat' (first|(refine' cP)|fail))
  ·refine a7.is (m,1) ⟨by show a≤m;omega,by show m<a+n;omega⟩ (ae.now [] (by decide) ?_);(repeat' (first|(refine' cP)|fail))
   exact aj _
  ·refine a7.is (m,2) ⟨by show a≤m;omega,by show m<a+n;omega⟩ (ae.now [] (by decide) ?_);(repeat' (first|(refine' cP)|fail))
   exact aj _
  ·refine a7.is (m,0) ⟨by show a≤m;omega,by show m<a+n;omega⟩ (ae.now [] (by decide) ?_);(repeat' (first|(refine' cP)|fail))
   exact aj _
 ·obtain ⟨⟨m,s4⟩,⟨p4,q4,t4⟩,f4⟩:=fg xs N (a+n / 4) (a+n / 4*2) (a+n / 4*3) 0 hN (by omega) (by omega) (by omega) hl (by omega) (by omega);simp only at p4 q4 t4;simp only [e1,e2,e3];refine au.two 0 25 f4 ?_;(repeat' (first|(refine' cP)|fail))
  ·refine a7.is (m,1) ⟨by show a≤m;omega,by show m<a+n;omega⟩ (ae.now [] (by decide) ?_);(repeat' (first|(refine' cP)|fail))
   exact aj _
  ·refine a7.is (m,0) ⟨by show a≤m;omega,by show m<a+n;omega⟩ (ae.now [] (by decide) ?_);(repeat' (first|(refine' cP)|fail))
   exact aj _
end SrtSn
namespace SrtSn
def vd (N a:Nat) (x:Nat × Nat × List Bk):St:=⟨[(0,.so 0 2 0 N),(1,iv a),(4,eT),(12,iv x.1),(13,iv ((x.2.1:Int) - 1))],[(0,cp x.2.2)],1⟩
attribute [push_cast] vd.eq_def
structure x8 (a b lo up:Nat) (p:Bk) (xs:List Bk) (x:Nat × Nat × List Bk):Prop where
 ai:lo≤x.1
 ij:x.1≤x.2.1
 jb:x.2.1≤up
 rg:Rg a b xs x.2.2
 pa:Pa ltB a b p x.1 x.2.1 x.2.2
abbrev Dn (a b:Nat) (xs:List Bk) (r:Nat × Bool × List Bk):Prop:=Rg a b xs r.2.2 ∧ ∃p,Pd ltB a b r.1 p r.2.2
abbrev G2 (i:Nat) (p:Bk) (ys:List Bk):Prop:= ∃u,ys[i]? = some u ∧ ¬ltB u p
abbrev Ty (j:Nat) (p:Bk) (ys:List Bk):Prop:= ∃v,ys[j - 1]? = some v∧ltB v p
theorem jD (xs:List Bk) (N a b c:Nat) (hN:xs.length=N) (hac:a≤c) (hcb:c<b) (hb:b≤N) (hl:N≤100000) :
 ∃r:Nat × Bool × List Bk,Dn a b xs r∧ap Tryz.prog G0 193 [.so 0 2 0 N,iv a,iv b,iv c,eT] [(0,cp xs)] 1 (.tup [iv r.1,bv r.2.1]) [(0,cp r.2.2)]:=by
 obtain ⟨q,hq⟩ : ∃q,xs[a]? = some q:=⟨_,IO (by omega)⟩
 obtain ⟨p,hp⟩ : ∃p,xs[c]? = some p:=⟨_,IO (by omega)⟩
 refine uL ab [0,1,2,3,4,10,11,12,13,47,66,71,120,139,144] Tryz.func193 rfl Tryz.results193 Tryz.ntmps193 ?_;(refine' zg)
 refine aF.is c p (by omega) hp ?_;(refine' zg)
 refine aF.is a q (by omega) hq ?_;(refine' zg)
 refine xS [0,1,2,3,4,10,11,12,13,47,66,71,120,139,144] 0 (vd N a) (x8 a b (a+1) b p xs) (fun x=>b - x.1) ((a+1,b,(xs.set a p).set c q)) (vd N a) (fun x=>x8 a b (a+1) b p xs x∧(x.1<x.2.1→G2 x.1 p x.2.2)) (aC.go [0,1,4,12,13] (by exact vT) rfl) ?_ ?_ ?_ (fun st h=>h) rfl
 ·refine ⟨aaV _,by show a+1≤b;omega,aaV _,Rg.swap hq hp (aaV _) (by omega) hac hcb,⟨?_,fun k x h1 h2=>by simp only at h2;omega,fun k x h1 h2=>by simp only at h1;omega⟩⟩;show ((xs.set a p).set c q)[a]? = some p;rw [cZ hq hp];split
  ·rename_i e;subst e;rw [←hp,hq]
  ·rw [aa3 rfl]
 ·
  rintro ⟨i,j,ys⟩ ⟨g1,g2,g3,g4,g5⟩;simp only at g1 g2 g3 g4 g5;have hys:=g4.len;(refine' zg)
  ·obtain ⟨x,hx⟩ : ∃x,ys[i]? = some x:=⟨_,IO (by omega)⟩
   refine aF.is i x (by omega) hx ?_;(refine' zg)
   refine aF.is a p (by omega) g5.at0 ?_;(repeat' (first|with_reducible refine vQ (aN _ _) ?_|(refine' zq)|fail))
   ·refine aG.go ((i+1,j,ys)) [0,1,4,12,13] (by exact vT) ?_ ?_
    ·show b - (i+1)<b - i;omega
    ·exact ⟨by show a+1≤i+1;omega,by show i+1≤j;omega,g3,g4,g5.up hx h⟩
   ·refine dI.go ((i,j,ys)) [0,1,4,12,13] (by exact vT) ?_;exact ⟨⟨g1,g2,g3,g4,g5⟩,fun _=>⟨x,hx,h⟩⟩
  ·refine dI.go ((i,j,ys)) [0,1,4,12,13] (by exact vT) ?_;exact ⟨⟨g1,g2,g3,g4,g5⟩,fun h2=>by simp only at h2;omega⟩
 rintro ⟨i,j,ys⟩ ⟨g,g6⟩;(refine' zg)
 refine xS [0,1,2,3,4,10,11,12,13,47,66,71,120,139,144] 2 (vd N a) (fun x=>x8 a b (a+1) b p xs x∧(x.1<x.2.1→G2 x.1 p x.2.2)) (fun x=>x.2.1) ((i,j,ys)) (vd N a) (fun x=>(x8 a b (a+1) b p xs x∧(x.1<x.2.1→G2 x.1 p x.2.2))∧(x.1<x.2.1→Ty x.2.1 p x.2.2)) (aC.go [0,1,4,12,13] (by exact vT) rfl) ?_ ?_ ?_ (fun st h=>h) rfl
 ·exact ⟨g,g6⟩
 ·
  rintro ⟨i,j,ys⟩ ⟨⟨g1,g2,g3,g4,g5⟩,g6⟩;simp only at g1 g2 g3 g4 g5 g6;have hys:=g4.len;(refine' zg)
  ·obtain ⟨j,rfl⟩ : ∃k,j=k+1:=⟨j - 1,by omega⟩
   obtain ⟨x,hx⟩ : ∃x,ys[j]? = some x:=⟨_,IO (by omega)⟩
   refine aF.is j x (by omega) hx ?_;(refine' zg)
   refine aF.is a p (by omega) g5.at0 ?_;(repeat' (first|with_reducible refine vQ (aN _ _) ?_|(refine' zq)|fail))
   ·refine aG.go ((i,j,ys)) [0,1,4,12,13] (by exact vT) ?_ ?_
    ·exact aco _
    ·exact ⟨⟨g1,by show i≤j;omega,by show j≤b;omega,g4,g5.down hx h⟩,fun _=>g6 (by omega)⟩
   ·refine dI.go ((i,j+1,ys)) [0,1,4,12,13] (by exact vT) ?_;exact ⟨⟨⟨g1,g2,g3,g4,g5⟩,g6⟩,fun _=>⟨x,hx,by simpa using h⟩⟩
  ·refine dI.go ((i,j,ys)) [0,1,4,12,13] (by exact vT) ?_;exact ⟨⟨⟨g1,g2,g3,g4,g5⟩,g6⟩,fun h2=>by simp only at h2;omega⟩
 rintro ⟨i,j,ys⟩ ⟨⟨⟨g1,g2,g3,g4,g5⟩,g6⟩,g7⟩;simp only at g1 g2 g3 g4 g5 g6 g7;have hys:=g4.len;(refine' zg)
 ·obtain ⟨k,rfl⟩ : ∃k,j=k+1:=⟨j - 1,by omega⟩
  obtain rfl:i=k+1:=by omega
  obtain ⟨y,hy⟩ : ∃y,ys[k]? = some y:=⟨_,IO (by omega)⟩
  rw [show (((k+1:Nat):Int) - 1)=(k:Int) by omega];refine aF.is a p (by omega) g5.at0 ?_;(refine' zg)
  refine aF.is k y (by omega) hy ?_;(refine' zg)
  refine a7.is (k,true,(ys.set k p).set a y) ⟨g4.trans (Rg.swap hy g5.at0 (by omega) (by omega) (by omega) (by omega)),p,g5.done fE (by omega) (by omega) hy⟩ (ae.now [] (by decide) ?_);(refine' zg)
  exact aj _
 obtain ⟨k,rfl⟩ : ∃k,j=k+1:=⟨j - 1,by omega⟩
 obtain ⟨x,hx,hx2⟩:=g6 (by omega);obtain ⟨y,hy,hy2⟩:=g7 (by omega);rw [acs] at hy;have hne:i≠k:=fun e=>by subst e;rw [hx] at hy;cases hy;exact hx2 hy2
 rw [show (((k+1:Nat):Int) - 1)=(k:Int) by omega];refine aF.is k y (by omega) hy ?_;(refine' zg)
 refine aF.is i x (by omega) hx ?_;(refine' zg)
 refine uQ [0,1,2,3,4,10,11,12,13,47,66,71,120,139,144] (vd N a) (x8 a b (a+1) b p xs) (fun x=>x.2.1 - x.1) ((i+1,k,(ys.set i y).set k x)) ((aC.go [0,1,4,12,13] (by exact vT) rfl)) ?_ ?_
 ·exact ⟨by show a+1≤i+1;omega,by show i+1≤k;omega,by show k≤b;omega,g4.trans (Rg.swap hx hy (by omega) (by omega) (by omega) (by omega)),g5.swap (by omega) (by omega) (by omega) hx hy hx2 hy2⟩
 rintro ⟨i0,j0,ys0⟩ ⟨r1,r2,r3,r4,r5⟩;simp only at r1 r2 r3 r4 r5;(refine' zg)
 refine xS [0,1,2,3,4,10,11,12,13,47,66,71,120,139,144] 6 (vd N a) (x8 a b i0 j0 p xs) (fun x=>b - x.1) ((i0,j0,ys0)) (vd N a) (fun x=>x8 a b i0 j0 p xs x∧(x.1<x.2.1→G2 x.1 p x.2.2)) (aC.go [0,1,4,12,13] (by exact vT) rfl) ?_ ?_ ?_ (fun st h=>h) rfl
 ·exact ⟨aaV _,r2,aaV _,r4,r5⟩
 ·
  rintro ⟨i,j,ys⟩ ⟨g1,g2,g3,g4,g5⟩;simp only at g1 g2 g3 g4 g5;have hys:=g4.len;(refine' zg)
  ·obtain ⟨x,hx⟩ : ∃x,ys[i]? = some x:=⟨_,IO (by omega)⟩
   refine aF.is i x (by omega) hx ?_;(refine' zg)
   refine aF.is a p (by omega) g5.at0 ?_;(repeat' (first|with_reducible refine vQ (aN _ _) ?_|(refine' zq)|fail))
   ·refine aG.go ((i+1,j,ys)) [0,1,4,12,13] (by exact vT) ?_ ?_
    ·show b - (i+1)<b - i;omega
    ·exact ⟨by show i0≤i+1;omega,by show i+1≤j;omega,g3,g4,g5.up hx h⟩
   ·refine dI.go ((i,j,ys)) [0,1,4,12,13] (by exact vT) ?_;exact ⟨⟨g1,g2,g3,g4,g5⟩,fun _=>⟨x,hx,h⟩⟩
  ·refine dI.go ((i,j,ys)) [0,1,4,12,13] (by exact vT) ?_;exact ⟨⟨g1,g2,g3,g4,g5⟩,fun h2=>by simp only at h2;omega⟩
 rintro ⟨i,j,ys⟩ ⟨g,g6⟩;(refine' zg)
 refine xS [0,1,2,3,4,10,11,12,13,47,66,71,120,139,144] 8 (vd N a) (fun x=>x8 a b i0 j0 p xs x∧(x.1<x.2.1→G2 x.1 p x.2.2)) (fun x=>x.2.1) ((i,j,ys)) (vd N a) (fun x=>(x8 a b i0 j0 p xs x∧(x.1<x.2.1→G2 x.1 p x.2.2))∧(x.1<x.2.1→Ty x.2.1 p x.2.2)) (aC.go [0,1,4,12,13] (by exact vT) rfl) ?_ ?_ ?_ (fun st h=>h) rfl
 ·exact ⟨g,g6⟩
 ·
  rintro ⟨i,j,ys⟩ ⟨⟨g1,g2,g3,g4,g5⟩,g6⟩;simp only at g1 g2 g3 g4 g5 g6;have hys:=g4.len;(refine' zg)
  ·obtain ⟨j,rfl⟩ : ∃k,j=k+1:=⟨j - 1,by omega⟩
   obtain ⟨x,hx⟩ : ∃x,ys[j]? = some x:=⟨_,IO (by omega)⟩
   refine aF.is j x (by omega) hx ?_;(refine' zg)
   refine aF.is a p (by omega) g5.at0 ?_;(repeat' (first|with_reducible refine vQ (aN _ _) ?_|(refine' zq)|fail))
   ·refine aG.go ((i,j,ys)) [0,1,4,12,13] (by exact vT) ?_ ?_
    ·exact aco _
    ·exact ⟨⟨g1,by show i≤j;omega,by show j≤j0;omega,g4,g5.down hx h⟩,fun _=>g6 (by omega)⟩
   ·refine dI.go ((i,j+1,ys)) [0,1,4,12,13] (by exact vT) ?_;exact ⟨⟨⟨g1,g2,g3,g4,g5⟩,g6⟩,fun _=>⟨x,hx,by simpa using h⟩⟩
  ·refine dI.go ((i,j,ys)) [0,1,4,12,13] (by exact vT) ?_;exact ⟨⟨⟨g1,g2,g3,g4,g5⟩,g6⟩,fun h2=>by simp only at h2;omega⟩
 clear g g6 i j ys;rintro ⟨i,j,ys⟩ ⟨⟨⟨g1,g2,g3,g4,g5⟩,g6⟩,g7⟩;simp only at g1 g2 g3 g4 g5 g6 g7;have hys:=g4.len;(refine' zg)
 ·obtain ⟨k,rfl⟩ : ∃k,j=k+1:=⟨j - 1,by omega⟩
  obtain rfl:i=k+1:=by omega
  obtain ⟨y,hy⟩ : ∃y,ys[k]? = some y:=⟨_,IO (by omega)⟩
  rw [show (((k+1:Nat):Int) - 1)=(k:Int) by omega];refine aF.is a p (by omega) g5.at0 ?_;(refine' zg)
  refine aF.is k y (by omega) hy ?_;(refine' zg)
  refine a7.is (k,false,(ys.set k p).set a y) ⟨g4.trans (Rg.swap hy g5.at0 (by omega) (by omega) (by omega) (by omega)),p,g5.done fE (by omega) (by omega) hy⟩ (ae.now [] (by decide) ?_);(refine' zg)
  exact aj _
 obtain ⟨k,rfl⟩ : ∃k,j=k+1:=⟨j - 1,by omega⟩
 obtain ⟨x,hx,hx2⟩:=g6 (by omega);obtain ⟨y,hy,hy2⟩:=g7 (by omega);rw [acs] at hy;have hne:i≠k:=fun e=>by subst e;rw [hx] at hy;cases hy;exact hx2 hy2
 rw [show (((k+1:Nat):Int) - 1)=(k:Int) by omega];refine aF.is k y (by omega) hy ?_;(refine' zg)
 refine aF.is i x (by omega) hx ?_;(refine' zg)
 refine aG.go ((i+1,k,(ys.set i y).set k x)) [0,1,4,12,13] (by exact vT) ?_ ?_
 ·show k - (i+1)<j0 - i0;omega
 ·exact ⟨by show a+1≤i+1;omega,by show i+1≤k;omega,by show k≤b;omega,g4.trans (Rg.swap hx hy (by omega) (by omega) (by omega) (by omega)),g5.swap (by omega) (by omega) (by omega) hx hy hx2 hy2⟩
end SrtSn
namespace SrtSn
def IK (N a:Nat) (x:Nat × Nat × List Bk):St:=⟨[(0,.so 0 2 0 N),(1,iv a),(4,eT),(11,iv x.1),(12,iv ((x.2.1:Int) - 1))],[(0,cp x.2.2)],1⟩
attribute [push_cast] IK.eq_def
structure JT (a b lo up:Nat) (p:Bk) (xs:List Bk) (x:Nat × Nat × List Bk):Prop where
 ai:lo≤x.1
 ij:x.1≤x.2.1
 jb:x.2.1≤up
 rg:Rg a b xs x.2.2
 pe:Pe ltB a b p x.1 x.2.1 x.2.2
abbrev Q5 (i:Nat) (p:Bk) (ys:List Bk):Prop:= ∃u,ys[i]? = some u∧ltB p u
abbrev XK (j:Nat) (p:Bk) (ys:List Bk):Prop:= ∃v,ys[j - 1]? = some v ∧ ¬ltB p v
theorem oX (xs:List Bk) (N a b c:Nat) (p:Bk) (hN:xs.length=N) (hac:a≤c) (hcb:c<b) (hb:b≤N) (hl:N≤100000) (hp:xs[c]? = some p) :
 ∃r:Nat × List Bk,(Rg a b xs r.2∧a<r.1∧r.1≤b∧Pe ltB a b p r.1 r.1 r.2)∧ap Tryz.prog G0 192 [.so 0 2 0 N,iv a,iv b,iv c,eT] [(0,cp xs)] 1 (iv r.1) [(0,cp r.2)]:=by
 obtain ⟨q,hq⟩ : ∃q,xs[a]? = some q:=⟨_,IO (by omega)⟩
 refine uL ab [0,1,2,3,4,10,11,12,47,65,70] Tryz.func192 rfl Tryz.results192 Tryz.ntmps192 ?_;(refine' zg)
 refine aF.is c p (by omega) hp ?_;(refine' zg)
 refine aF.is a q (by omega) hq ?_;(refine' zg)
 refine uQ [0,1,2,3,4,10,11,12,47,65,70] (IK N a) (JT a b (a+1) b p xs) (fun x=>x.2.1 - x.1) ((a+1,b,(xs.set a p).set c q)) ((aC.go [0,1,4,11,12] (by exact vT) rfl)) ?_ ?_
 ·have h0:((xs.set a p).set c q)[a]? = some p:=by
   rw [cZ hq hp];split
   ·rename_i e;subst e;rw [←hp,hq]
   ·rw [aa3 rfl]
  refine ⟨aaV _,by show a+1≤b;omega,aaV _,Rg.swap hq hp (aaV _) (by omega) hac hcb,⟨h0,fun k x h1 h2 hx =>?_,fun k x h1 h2=>by simp only at h1;omega⟩⟩;obtain rfl:k=a:=by simp only at h2;omega
  simp only at hx;rw [h0] at hx;cases hx;exact fE.ir _
 rintro ⟨i0,j0,ys0⟩ ⟨r1,r2,r3,r4,r5⟩;simp only at r1 r2 r3 r4 r5;(refine' zg)
 refine xS [0,1,2,3,4,10,11,12,47,65,70] 2 (IK N a) (JT a b i0 j0 p xs) (fun x=>b - x.1) ((i0,j0,ys0)) (IK N a) (fun x=>JT a b i0 j0 p xs x∧(x.1<x.2.1→Q5 x.1 p x.2.2)) (aC.go [0,1,4,11,12] (by exact vT) rfl) ?_ ?_ ?_ (fun st h=>h) rfl
 ·exact ⟨aaV _,r2,aaV _,r4,r5⟩
 ·rintro ⟨i,j,ys⟩ ⟨g1,g2,g3,g4,g5⟩;simp only at g1 g2 g3 g4 g5;have hys:=g4.len;(refine' zg)
  ·obtain ⟨x,hx⟩ : ∃x,ys[i]? = some x:=⟨_,IO (by omega)⟩
   refine aF.is a p (by omega) g5.at0 ?_;(refine' zg)
   refine aF.is i x (by omega) hx ?_;(repeat' (first|with_reducible refine vQ (aN _ _) ?_|(refine' zq)|fail))
   ·refine aG.go ((i+1,j,ys)) [0,1,4,11,12] (by exact vT) ?_ ?_
    ·show b - (i+1)<b - i;omega
    ·exact ⟨by show i0≤i+1;omega,by show i+1≤j;omega,g3,g4,g5.up hx h⟩
   ·refine dI.go ((i,j,ys)) [0,1,4,11,12] (by exact vT) ?_;exact ⟨⟨g1,g2,g3,g4,g5⟩,fun _=>⟨x,hx,by simpa using h⟩⟩
  ·refine dI.go ((i,j,ys)) [0,1,4,11,12] (by exact vT) ?_;exact ⟨⟨g1,g2,g3,g4,g5⟩,fun h2=>by simp only at h2;omega⟩
 rintro ⟨i,j,ys⟩ ⟨g,g6⟩;(refine' zg)
 refine xS [0,1,2,3,4,10,11,12,47,65,70] 4 (IK N a) (fun x=>JT a b i0 j0 p xs x∧(x.1<x.2.1→Q5 x.1 p x.2.2)) (fun x=>x.2.1) ((i,j,ys)) (IK N a) (fun x=>(JT a b i0 j0 p xs x∧(x.1<x.2.1→Q5 x.1 p x.2.2))∧(x.1<x.2.1→XK x.2.1 p x.2.2)) (aC.go [0,1,4,11,12] (by exact vT) rfl) ?_ ?_ ?_ (fun st h=>h) rfl
 ·exact ⟨g,g6⟩
 ·rintro ⟨i,j,ys⟩ ⟨⟨g1,g2,g3,g4,g5⟩,g6⟩;simp only at g1 g2 g3 g4 g5 g6;have hys:=g4.len;(refine' zg)
  ·obtain ⟨j,rfl⟩ : ∃k,j=k+1:=⟨j - 1,by omega⟩
   obtain ⟨x,hx⟩ : ∃x,ys[j]? = some x:=⟨_,IO (by omega)⟩
   refine aF.is a p (by omega) g5.at0 ?_;(refine' zg)
   refine aF.is j x (by omega) hx ?_;(repeat' (first|with_reducible refine vQ (aN _ _) ?_|(refine' zq)|fail))
   ·refine aG.go ((i,j,ys)) [0,1,4,11,12] (by exact vT) ?_ ?_
    ·exact aco _
    ·exact ⟨⟨g1,by show i≤j;omega,by show j≤j0;omega,g4,g5.down hx h⟩,fun _=>g6 (by omega)⟩
   ·refine dI.go ((i,j+1,ys)) [0,1,4,11,12] (by exact vT) ?_;exact ⟨⟨⟨g1,g2,g3,g4,g5⟩,g6⟩,fun _=>⟨x,hx,h⟩⟩
  ·refine dI.go ((i,j,ys)) [0,1,4,11,12] (by exact vT) ?_;exact ⟨⟨⟨g1,g2,g3,g4,g5⟩,g6⟩,fun h2=>by simp only at h2;omega⟩
 clear g g6 i j ys;rintro ⟨i,j,ys⟩ ⟨⟨⟨g1,g2,g3,g4,g5⟩,g6⟩,g7⟩;simp only at g1 g2 g3 g4 g5 g6 g7;have hys:=g4.len;(refine' zg)
 ·obtain rfl:i=j:=by omega
  refine a7.is (i,ys) ⟨g4,by show a<i;omega,by show i≤b;omega,g5⟩ (ae.now [] (by decide) ?_);(refine' zg)
  exact aj _
 obtain ⟨k,rfl⟩ : ∃k,j=k+1:=⟨j - 1,by omega⟩
 obtain ⟨x,hx,hx2⟩:=g6 (by omega);obtain ⟨y,hy,hy2⟩:=g7 (by omega);rw [acs] at hy;have hne:i≠k:=fun e=>by subst e;rw [hx] at hy;cases hy;exact hy2 hx2
 rw [show (((k+1:Nat):Int) - 1)=(k:Int) by omega];refine aF.is k y (by omega) hy ?_;(refine' zg)
 refine aF.is i x (by omega) hx ?_;(refine' zg)
 refine aG.go ((i+1,k,(ys.set i y).set k x)) [0,1,4,11,12] (by exact vT) ?_ ?_
 ·show k - (i+1)<j0 - i0;omega
 ·exact ⟨by show a+1≤i+1;omega,by show i+1≤k;omega,by show k≤b;omega,g4.trans (Rg.swap hx hy (by omega) (by omega) (by omega) (by omega)),g5.swap (by omega) (by omega) (by omega) hx hy hx2 hy2⟩
end SrtSn
namespace SrtSn
def EP (N a b:Nat) (x:Nat × Nat × List Bk):St:=⟨[(0,.so 0 2 0 N),(1,iv a),(2,iv b),(3,eT),(9,iv x.2.1),(10,iv x.1)],[(0,cp x.2.2)],1⟩
def SE (N a b t i:Nat) (x:Nat × List Bk):St:=⟨[(0,.so 0 2 0 N),(1,iv a),(2,iv b),(3,eT),(9,iv i),(10,iv t),(11,iv x.1)],[(0,cp x.2)],1⟩
def SF (N a b t i:Nat) (x:Nat × List Bk):St:=⟨[(0,.so 0 2 0 N),(1,iv a),(2,iv b),(3,eT),(9,iv i),(10,iv t),(12,iv x.1)],[(0,cp x.2)],1⟩
attribute [push_cast] EP.eq_def SE.eq_def SF.eq_def
theorem mw (xs:List Bk) (N a b:Nat) (hN:xs.length=N) (hab:a<b) (hb:b≤N) (hl:N≤100000) (hA:Ah ltB a b xs) :
 ∃r:Bool × List Bk,(Rg a b xs r.2∧(r.1=true→cV ltB a b r.2))∧ap Tryz.prog G0 191 [.so 0 2 0 N,iv a,iv b,eT] [(0,cp xs)] 1 (bv r.1) [(0,cp r.2)]:=by
 refine uL ab [0,1,2,3,8,9,10,11,12,16,36,41,45,65,69,84,104,109,124] Tryz.func191 rfl Tryz.results191 Tryz.ntmps191 ?_;(refine' zg)
 refine uQ [0,1,2,3,8,9,10,11,12,16,36,41,45,65,69,84,104,109,124] (EP N a b) (fun x=>x.1≤5∧a+1≤x.2.1∧x.2.1≤b∧Rg a b xs x.2.2∧cV ltB a x.2.1 x.2.2) (fun x=>5 - x.1) ((0,a+1,xs)) ((aC.go [0,1,2,3,9,10] (by exact vT) rfl)) ?_ ?_
 ·exact ⟨aa1 _,aaV _,by show a+1≤b;omega,Rg.refl _ _ _,cV.few (aaV _)⟩
 rintro ⟨t,i0,ys⟩ ⟨g1,g2,g3,g4,g5⟩;simp only at g1 g2 g3 g4 g5;have hys:=g4.len;(refine' zg)
 ·refine xS [0,1,2,3,8,9,10,11,12,16,36,41,45,65,69,84,104,109,124] 2 (fun i=>EP N a b (t,i,ys)) (fun i=>a+1≤i∧i≤b∧cV ltB a i ys) (fun i=>b - i) (i0) (fun i=>EP N a b (t,i,ys)) (fun i=>(a+1≤i∧i≤b∧cV ltB a i ys)∧(i<b → ∃x y,ys[i]? = some x∧ys[i - 1]? = some y∧ltB x y)) (aC.go [0,1,2,3,9,10] (by exact vT) rfl) ?_ ?_ ?_ (fun st h=>h) rfl
  ·exact ⟨g2,g3,g5⟩
  ·rintro i ⟨q1,q2,q3⟩;(refine' zg)
   ·obtain ⟨x,hx⟩ : ∃x,ys[i]? = some x:=⟨_,IO (by omega)⟩
    obtain ⟨y,hy⟩ : ∃y,ys[i - 1]? = some y:=⟨_,IO (by omega)⟩
    refine aF.is i x (by omega) hx ?_;(refine' zg)
    refine aF.is (i - 1) y (by omega) hy ?_;(repeat' (first|with_reducible refine vQ (aN _ _) ?_|(refine' zq)|fail))
    ·refine aG.go (i+1) [0,1,2,3,9,10] (by exact vT) ?_ ?_
     ·show b - (i+1)<b - i;omega
     ·exact ⟨by omega,by omega,(AF.start q3).done fE (aaV _) fun u v _ hu hv=>by rw [hx] at hu;rw [hy] at hv;cases hu;cases hv;exact h⟩
    ·refine dI.go (i) [0,1,2,3,9,10] (by exact vT) ?_;exact ⟨⟨q1,q2,q3⟩,fun _=>⟨x,y,hx,hy,by simpa using h⟩⟩
   ·refine dI.go (i) [0,1,2,3,9,10] (by exact vT) ?_;exact ⟨⟨q1,q2,q3⟩,fun h2=>by omega⟩
  clear g2 g3 g5;rintro i ⟨⟨g2,g3,g5⟩,g6⟩;(refine' zg)
  ·refine a7.is (true,ys) ⟨g4,fun _=>(show i=b by omega)▸g5⟩ (ae.now [] (by decide) ?_);(refine' zg)
   exact aj _
  ·refine a7.is (false,ys) ⟨g4,fun h=>by cases h⟩ (ae.now [] (by decide) ?_);(refine' zg)
   exact aj _
  ·obtain ⟨x,y,hx,hy,hxy⟩:=g6 (by omega);refine aF.is (i - 1) y (by omega) hy ?_;(refine' zg)
   refine aF.is i x (by omega) hx ?_;have hsw:=Rg.swap (a:=i - 1) (b:=i+1) hx hy (by omega) (by omega) (by omega) (by omega);(refine' zg)
   ·refine xS [0,1,2,3,8,9,10,11,12,16,36,41,45,65,69,84,104,109,124] 4 (SE N a b t i) (fun x=>a≤x.1∧x.1≤i - 1∧Rg a b xs x.2∧AF ltB a (i - 1) x.1 x.2) (fun x=>x.1) ((i - 1,(ys.set i y).set (i - 1) x)) (EP N a b) (fun z=>z.1=t∧z.2.1=i∧Rg a b xs z.2.2∧cV ltB a i z.2.2) (aC.go [0,1,2,3,9,10,11] (by exact vT) rfl) ?_ ?_ ?_ (fun st h=>h) rfl
    ·exact ⟨by show a≤i - 1;omega,aaV _,g4.trans (Rg.swap hx hy (by omega) (by omega) (by omega) (by omega)),AF.start (cV.out (fun p q x y h1 h2 h3=>g5 p q x y h1 h2 (by omega)) hsw (.inl (aaV _)))⟩
    ·rintro ⟨j,zs⟩ ⟨w1,w2,w3,w4⟩;simp only at w1 w2 w3 w4;have hzs:=w3.len;have fin:(∀x y,a<j→zs[j]? = some x→zs[j - 1]? = some y → ¬ltB x y)→cV ltB a i zs:=fun hj=>by
      have:=w4.done fE w2 hj;rwa [show i - 1+1=i by omega] at this
     (refine' zg)
     ·obtain ⟨u,hu⟩ : ∃u,zs[j]? = some u:=⟨_,IO (by omega)⟩
      obtain ⟨v,hv⟩ : ∃v,zs[j - 1]? = some v:=⟨_,IO (by omega)⟩
      refine aF.is j u (by omega) hu ?_;(refine' zg)
      refine aF.is (j - 1) v (by omega) hv ?_;(repeat' (first|with_reducible refine vQ (aN _ _) ?_|(refine' zq)|fail))
      ·refine dI.go ((t,i,zs)) [0,1,2,3,9,10] (by exact vT) ?_;exact ⟨rfl,rfl,w3,fin fun x y _ hx hy=>by rw [hu] at hx;rw [hv] at hy;cases hx;cases hy;exact h⟩
      ·have huv:ltB u v:=by simpa using h
       have haj:a<j:=by
        rcases aa2 a j with h1|h1
        ·exact h1
        ·obtain rfl:j=a:=by omega
         exact absurd huv ((hA.keep w3) j u v (by omega) (aaV _) (by omega) hu hv)
       refine aF.is (j - 1) v (by omega) hv ?_;(refine' zg)
       refine aF.is j u (by omega) hu ?_;(refine' zg)
       refine aG.go ((j - 1,(zs.set j v).set (j - 1) u)) [0,1,2,3,9,10,11] (by unfold SE;rw [show ((j - 1:Nat):Int)=(j:Int) - 1 by omega];exact vT) ?_ ?_
       ·show j - 1<j;omega
       ·exact ⟨by show a≤j - 1;omega,by show j - 1≤i - 1;omega,w3.trans (Rg.swap hu hv (by omega) (by omega) (by omega) (by omega)),w4.step fE haj w2 hu hv huv⟩
     ·refine dI.go ((t,i,zs)) [0,1,2,3,9,10] (by exact vT) ?_;exact ⟨rfl,rfl,w3,fin fun x y hlt=>by omega⟩
    rintro ⟨t',i',zs⟩ ⟨e1,e2,z1,z2⟩;simp only at e1 e2 z1 z2;obtain rfl:t=t':=e1.symm;obtain rfl:i=i':=e2.symm;(refine' zg)
    ·
     refine xS [0,1,2,3,8,9,10,11,12,16,36,41,45,65,69,84,104,109,124] 6 (SF N a b t i) (fun x=>i+1≤x.1∧x.1≤b∧Rg a b xs x.2∧cV ltB a i x.2) (fun x=>b - x.1) ((i+1,zs)) (EP N a b) (fun x=>x.1=t∧x.2.1=i∧Rg a b xs x.2.2∧cV ltB a i x.2.2) (aC.go [0,1,2,3,9,10,12] (by exact vT) rfl) ?_ ?_ ?_ (fun st h=>h) rfl
     ·exact ⟨aaV _,by show i+1≤b;omega,z1,z2⟩
     ·rintro ⟨j,ws⟩ ⟨w1,w2,w3,w4⟩;simp only at w1 w2 w3 w4;have hws:=w3.len;(refine' zg)
      ·obtain ⟨u,hu⟩ : ∃u,ws[j]? = some u:=⟨_,IO (by omega)⟩
       obtain ⟨v,hv⟩ : ∃v,ws[j - 1]? = some v:=⟨_,IO (by omega)⟩
       refine aF.is j u (by omega) hu ?_;(refine' zg)
       refine aF.is (j - 1) v (by omega) hv ?_;(repeat' (first|with_reducible refine vQ (aN _ _) ?_|(refine' zq)|fail))
       ·refine dI.go ((t,i,ws)) [0,1,2,3,9,10] (by exact vT) ?_;exact ⟨rfl,rfl,w3,w4⟩
       ·refine aF.is (j - 1) v (by omega) hv ?_;(refine' zg)
        refine aF.is j u (by omega) hu ?_;(refine' zg)
        refine aG.go ((j+1,(ws.set j v).set (j - 1) u)) [0,1,2,3,9,10,12] (by exact vT) ?_ ?_
        ·show b - (j+1)<b - j;omega
        ·exact ⟨by show i+1≤j+1;omega,by show j+1≤b;omega,w3.trans (Rg.swap hu hv (by omega) (by omega) (by omega) (by omega)),w4.out (Rg.swap (a:=i) (b:=b) hu hv (by omega) (by omega) (by omega) (by omega)) (by omega)⟩
      ·refine dI.go ((t,i,ws)) [0,1,2,3,9,10] (by exact vT) ?_;exact ⟨rfl,rfl,w3,w4⟩
     rintro ⟨t',i',ws⟩ ⟨rfl,rfl,w3,w4⟩;(refine' zg)
     refine aG.go ((t'+1,i',ws)) [0,1,2,3,9,10] (by exact vT) ?_ ?_
     ·show 5 - (t'+1)<5 - t';omega
     ·exact ⟨by show t'+1≤5;omega,g2,g3,w3,w4⟩
    ·
     refine aG.go ((t+1,i,zs)) [0,1,2,3,9,10] (by exact vT) ?_ ?_
     ·show 5 - (t+1)<5 - t;omega
     ·exact ⟨by show t+1≤5;omega,g2,g3,z1,z2⟩
   ·obtain ⟨zs,hz⟩ : ∃zs,zs=(ys.set i y).set (i - 1) x:=⟨_,rfl⟩
    have z1:Rg a b xs zs:=hz▸g4.trans (Rg.swap hx hy (by omega) (by omega) (by omega) (by omega));have z2:cV ltB a i zs:=cV.few (by omega);rw [←hz];refine xS [0,1,2,3,8,9,10,11,12,16,36,41,45,65,69,84,104,109,124] 6 (SF N a b t i) (fun x=>i+1≤x.1∧x.1≤b∧Rg a b xs x.2∧cV ltB a i x.2) (fun x=>b - x.1) ((i+1,zs)) (EP N a b) (fun x=>x.1=t∧x.2.1=i∧Rg a b xs x.2.2∧cV ltB a i x.2.2) (aC.go [0,1,2,3,9,10,12] (by exact vT) rfl) ?_ ?_ ?_ (fun st h=>h) rfl
    ·exact ⟨aaV _,by show i+1≤b;omega,z1,z2⟩
    ·rintro ⟨j,ws⟩ ⟨w1,w2,w3,w4⟩;simp only at w1 w2 w3 w4;have hws:=w3.len;(refine' zg)
     ·obtain ⟨u,hu⟩ : ∃u,ws[j]? = some u:=⟨_,IO (by omega)⟩
      obtain ⟨v,hv⟩ : ∃v,ws[j - 1]? = some v:=⟨_,IO (by omega)⟩
      refine aF.is j u (by omega) hu ?_;(refine' zg)
      refine aF.is (j - 1) v (by omega) hv ?_;(repeat' (first|with_reducible refine vQ (aN _ _) ?_|(refine' zq)|fail))
      ·refine dI.go ((t,i,ws)) [0,1,2,3,9,10] (by exact vT) ?_;exact ⟨rfl,rfl,w3,w4⟩
      ·refine aF.is (j - 1) v (by omega) hv ?_;(refine' zg)
       refine aF.is j u (by omega) hu ?_;(refine' zg)
       refine aG.go ((j+1,(ws.set j v).set (j - 1) u)) [0,1,2,3,9,10,12] (by exact vT) ?_ ?_
       ·show b - (j+1)<b - j;omega
       ·exact ⟨by show i+1≤j+1;omega,by show j+1≤b;omega,w3.trans (Rg.swap hu hv (by omega) (by omega) (by omega) (by omega)),w4.out (Rg.swap (a:=i) (b:=b) hu hv (by omega) (by omega) (by omega) (by omega)) (by omega)⟩
     ·refine dI.go ((t,i,ws)) [0,1,2,3,9,10] (by exact vT) ?_;exact ⟨rfl,rfl,w3,w4⟩
    rintro ⟨t',i',ws⟩ ⟨rfl,rfl,w3,w4⟩;(refine' zg)
    refine aG.go ((t'+1,i',ws)) [0,1,2,3,9,10] (by exact vT) ?_ ?_
    ·show 5 - (t'+1)<5 - t';omega
    ·exact ⟨by show t'+1≤5;omega,g2,g3,w3,w4⟩
 ·refine a7.is (false,ys) ⟨g4,fun h=>by cases h⟩ (ae.now [] (by decide) ?_);(refine' zg)
  exact aj _
end SrtSn
namespace SrtSn
def TH (N a n:Nat) (x:Nat × Int × List Bk):St:=⟨[(0,.so 0 2 0 N),(1,iv a),(8,iv n),(9,.po 1 0),(10,uv (IP n)),(11,iv x.1)],[(0,cp x.2.2),(1,.cell [uv x.2.1])],2⟩
attribute [push_cast] TH.eq_def
theorem rE (xs:List Bk) (N a b:Nat) (hN:xs.length=N) (hab:a+8≤b) (hb:b≤N) (hl:N≤64) :
 ∃ys,Rg a b xs ys∧ap Tryz.prog G0 188 [.so 0 2 0 N,iv a,iv b,eT] [(0,cp xs)] 1 (.tup []) [(0,cp ys)]:=by
 obtain ⟨n,rfl⟩ : ∃n,b=a+n:=⟨b - a,by omega⟩
 obtain ⟨b1,b2⟩:=L2 n (by omega) (by omega);have hn:(a:Int)+(n:Int) - (a:Int)=(n:Int):=by omega
 have hp:=L0 n (by omega);refine uL ab [0,1,2,8,9,10,11,12,17,35,45] Tryz.func188 rfl Tryz.results188 Tryz.ntmps188 ?_;(repeat' (first|(simp -implicitDefEqProofs -dsimp only [hn])|with_reducible refine vC (hp) ?_|(refine' cP)|fail))
 refine uQ [0,1,2,8,9,10,11,12,17,35,45] (TH N a n) (fun x=>Rg a (a+n) xs x.2.2∧a≤x.1∧x.1≤a+n / 4*2+2) (fun x=>a+n / 4*2+2 - x.1) ((a+n / 4*2 - 1,(n:Int),xs)) ((aC.go [0,1,8,9,10,11] (by exact vT) rfl)) ?_ ?_
 ·exact ⟨Rg.refl _ _ _,by show a≤a+n / 4*2 - 1;omega,by show a+n / 4*2 - 1≤_;omega⟩
 rintro ⟨i,r,ys⟩ ⟨h1,h2,h3⟩;simp only at h1 h2 h3;have hyl:=h1.len;obtain ⟨v,-,hv⟩:=Gm r;have hand:=Qi v (IP n - 1) (by omega) (by omega);obtain ⟨w,hw⟩ : ∃w:Nat,yf .u64 v (IP n - 1)=w:=⟨(yf .u64 v (IP n - 1)).toNat,by omega⟩
 rw [hw] at hand;(repeat' (first|(refine' cP)|fail))
 ·refine au.put 1 hv (by kernel_rfl) rfl rfl rfl ?_;(repeat' (first|(simp -implicitDefEqProofs -dsimp only [hw])|(refine' cP)|fail))
  ·obtain ⟨x,hx⟩ : ∃x,ys[a+(w - n)]? = some x:=⟨_,IO (by omega)⟩
   obtain ⟨y,hy⟩ : ∃y,ys[i]? = some y:=⟨_,IO (by omega)⟩
   have ek:((a:Int)+((w:Int) - (n:Int))).toNat=a+(w - n):=by omega
   refine aF.is (a+(w - n)) x (by omega) hx ?_;(repeat' (first|(simp -implicitDefEqProofs -dsimp only [hw,ek])|(refine' cP)|fail))
   refine aF.is i y (by omega) hy ?_;(repeat' (first|(simp -implicitDefEqProofs -dsimp only [hw,ek])|(refine' cP)|fail))
   refine aG.go ((i+1,v,(ys.set i x).set (a+(w - n)) y)) [0,1,8,9,10,11] (by exact vT) ?_ ?_
   ·show a+n / 4*2+2 - (i+1)<a+n / 4*2+2 - i;omega
   ·exact ⟨h1.trans (Rg.swap hy hx (by omega) (by omega) (by omega) (by omega)),by show a≤i+1;omega,by show i+1≤_;omega⟩
  ·obtain ⟨x,hx⟩ : ∃x,ys[a+w]? = some x:=⟨_,IO (by omega)⟩
   obtain ⟨y,hy⟩ : ∃y,ys[i]? = some y:=⟨_,IO (by omega)⟩
   refine aF.is (a+w) x (by omega) hx ?_;(repeat' (first|(simp -implicitDefEqProofs -dsimp only [hw])|(refine' cP)|fail))
   refine aF.is i y (by omega) hy ?_;(repeat' (first|(simp -implicitDefEqProofs -dsimp only [hw])|(refine' cP)|fail))
   refine aG.go ((i+1,v,(ys.set i x).set (a+w) y)) [0,1,8,9,10,11] (by exact vT) ?_ ?_
   ·show a+n / 4*2+2 - (i+1)<a+n / 4*2+2 - i;omega
   ·exact ⟨h1.trans (Rg.swap hy hx (by omega) (by omega) (by omega) (by omega)),by show a≤i+1;omega,by show i+1≤_;omega⟩
 ·refine a7.is ys h1 (ae.now [] (by decide) ?_);(repeat' (first|(refine' cP)|fail))
  exact ar.cons rfl ar.nil
end SrtSn
namespace SrtSn
def Uv (N:Nat) (x:Nat × Nat × Nat × Bool × Bool × List Bk):St:=⟨[(0,.so 0 2 0 N),(1,iv x.1),(2,iv x.2.1),(3,iv x.2.2.1),(4,eT),(10,bv x.2.2.2.1),(11,bv x.2.2.2.2.1)],[(0,cp x.2.2.2.2.2)],1⟩
def SB (N a b:Nat) (wb wp:Bool) (x:Nat × List Bk):St:=⟨[(0,.so 0 2 0 N),(1,iv a),(2,iv b),(3,iv x.1),(4,eT),(10,bv wb),(11,bv wp),(12,iv ((b:Int) - a))],[(0,cp x.2)],1⟩
def SC (N a b lim:Nat) (wb wp:Bool) (x:Nat × Int × List Bk):St:=⟨[(0,.so 0 2 0 N),(1,iv a),(2,iv b),(3,iv lim),(4,eT),(10,bv wb),(11,bv wp),(12,iv ((b:Int) - a)),(13,iv x.1),(14,iv x.2.1)],[(0,cp x.2.2)],1⟩
def SD (N a b lim p:Nat) (wb wp:Bool) (x:List Bk):St:=⟨[(0,.so 0 2 0 N),(1,iv a),(2,iv b),(3,iv lim),(4,eT),(10,bv wb),(11,bv wp),(12,iv ((b:Int) - a)),(13,iv p)],[(0,cp x)],1⟩
attribute [push_cast] Uv.eq_def SB.eq_def SC.eq_def SD.eq_def
abbrev rj (n:Nat):Prop:= ∀(xs:List Bk) (N a b lim:Nat),xs.length=N→a≤b→b≤N→N≤64→b - a≤n→lim≤100→Ah ltB a b xs →
 ∃ys,(Rg a b xs ys∧cV ltB a b ys)∧ap Tryz.prog G0 124 [.so 0 2 0 N,iv a,iv b,iv lim,eT] [(0,cp xs)] 1 (.tup []) [(0,cp ys)]
structure XM (a0 b0:Nat) (xs:List Bk) (a b lim:Nat) (ys:List Bk):Prop where
 ha:a0≤a
 hab:a≤b
 hb:b≤b0
 rg:Rg a0 b0 xs ys
 ah:Ah ltB a b ys
 fi:Fi ltB a0 b0 a b ys
 lim:lim≤100
theorem ta (n:Nat) (ih : ∀k,k<n→rj k):rj n:=by
 intro xs N a0 b0 lim0 hN hab0 hb0 hl hn hlim hah;refine uL ab [0,1,2,3,4,10,11,12,13,14,15,16,17,18,19,20,25,32,39,56,75,80,97,125] Tryz.func124 rfl Tryz.results124 Tryz.ntmps124 ?_;(refine' zg)
 refine uQ [0,1,2,3,4,10,11,12,13,14,15,16,17,18,19,20,25,32,39,56,75,80,97,125] (Uv N) (fun x=>XM a0 b0 xs x.1 x.2.1 x.2.2.1 x.2.2.2.2.2) (fun x=>x.2.1 - x.1) ((a0,b0,lim0,true,true,xs)) ((aC.go [0,1,2,3,4,10,11] (by exact vT) rfl)) ?_ ?_
 ·exact ⟨aaV _,hab0,aaV _,Rg.refl _ _ _,hah,Fi.start _ _ _,hlim⟩
 rintro ⟨a,b,lim,wb,wp,ys⟩ ⟨g1,g2,g3,g4,g5,g6,g7⟩;simp only at g1 g2 g3 g4 g5 g6 g7;have hys:=g4.len;refine vBl (QP ?_);(refine' zg)
 refine vH (QP ?_);(refine' zg)
 ·obtain ⟨zs,⟨z1,z2⟩,hf⟩:=jv ys N a b (by omega) g2 (by omega) (by omega);refine au.put 0 hf (by kernel_rfl) rfl rfl rfl ?_;(refine' zg)
  refine a7.is zs ⟨g4.trans (z1.wide g1 g3),g6 zs z1 z2⟩ (ae.now [] (by decide) ?_);(refine' zg)
  exact aj _
 refine vH (QP ?_);(refine' zg)
 ·obtain ⟨zs,⟨z1,z2⟩,hf⟩:=yR ys N a b (by omega) (by omega) (by omega) (by omega);refine au.put 0 hf (by kernel_rfl) rfl rfl rfl ?_;(refine' zg)
  refine a7.is zs ⟨g4.trans (z1.wide g1 g3),g6 zs z1 z2⟩ (ae.now [] (by decide) ?_);(refine' zg)
  exact aj _
 refine vH (QQ (SB N a b wb wp) (fun x=>x.1≤100∧Rg a b ys x.2) ?_ ?_)
 ·(refine' zg)
  ·obtain ⟨zs,z1,hf⟩:=rE ys N a b (by omega) (by omega) (by omega) hl;refine au.put 0 hf (by kernel_rfl) rfl rfl rfl ?_;(refine' zg)
   refine dI.go ((lim - 1,zs)) [0,1,2,3,4,10,11,12] (by unfold SB;rw [show ((lim - 1:Nat):Int)=(lim:Int) - 1 by omega];exact vT) ?_;exact ⟨by show lim - 1≤100;omega,z1⟩
  ·refine dI.go ((lim,ys)) [0,1,2,3,4,10,11,12] (by exact vT) ?_;exact ⟨g7,Rg.refl _ _ _⟩
 rintro ⟨lim1,y1⟩ ⟨k1,k2⟩;simp only at k1 k2;have hy1:=k2.len;obtain ⟨⟨p,hint⟩,⟨p1,p2⟩,hf⟩:=td y1 N a b (by omega) (by omega) (by omega) (by omega);simp only at p1 p2;refine QP ?_;(refine' zg)
 refine au.put 0 hf (by kernel_rfl) rfl rfl rfl ?_;(refine' zg)
 refine vH (QQ (SC N a b lim1 wb wp) (fun x=>(a≤x.1∧x.1<b)∧Rg a b ys x.2.2) ?_ ?_)
 ·(refine' zg)
  ·obtain ⟨zs,z1,hf⟩:=mC y1 N a b (by omega) (by omega) (by omega) (by omega);refine au.put 0 hf (by kernel_rfl) rfl rfl rfl ?_;(refine' zg)
   refine dI.go ((b - 1 - (p - a),1,zs)) [0,1,2,3,4,10,11,12,13,14] (by unfold SC;rw [show ((b - 1 - (p - a):Nat):Int)=(b:Int) - 1 - ((p:Int) - a) by omega];exact vT) ?_;exact ⟨⟨by show a≤b - 1 - (p - a);omega,by show b - 1 - (p - a)<b;omega⟩,k2.trans z1⟩
  ·refine dI.go ((p,hint,y1)) [0,1,2,3,4,10,11,12,13,14] (by exact vT) ?_;exact ⟨⟨p1,p2⟩,k2⟩
 clear hf p1 p2;rintro ⟨p,hint,y2⟩ ⟨⟨p1,p2⟩,k3⟩;simp only at p1 p2 k3;have hy2:=k3.len;refine QQ (SD N a b lim1 p wb wp) (fun x=>Rg a b ys x) ?_ ?_
 ·(refine' zg)
  ·obtain ⟨⟨r,zs⟩,⟨z1,z2⟩,hf⟩:=mw y2 N a b (by omega) (by omega) (by omega) (by omega) (g5.keep k3);simp only at z1 z2;refine au.put 0 hf (by kernel_rfl) rfl rfl rfl ?_;(refine' zg)
   ·refine a7.is zs ⟨g4.trans ((k3.trans z1).wide g1 g3),g6 zs (k3.trans z1) (z2 (by assumption))⟩ (ae.now [] (by decide) ?_);(refine' zg)
    exact aj _
   ·refine dI.go (zs) [0,1,2,3,4,10,11,12,13] (by exact vT) ?_;exact k3.trans z1
  ·refine dI.go (y2) [0,1,2,3,4,10,11,12,13] (by exact vT) ?_;exact k3
 clear k3 hy2 y2;intro y3 k3;have hy3:=k3.len;have a3:=g5.keep k3;refine QQ (SD N a b lim1 p wb wp) (fun x=>x=y3) ?_ ?_
 ·(refine' zg)
  ·obtain ⟨u,hu⟩ : ∃u,y3[a - 1]? = some u:=⟨_,IO (by omega)⟩
   obtain ⟨v,hv⟩ : ∃v,y3[p]? = some v:=⟨_,IO (by omega)⟩
   refine aF.is (a - 1) u (by omega) hu ?_;(refine' zg)
   refine aF.is p v (by omega) hv ?_;(repeat' (first|with_reducible refine vQ (aN _ _) ?_|(refine' zq)|fail))
   ·obtain ⟨⟨m,zs⟩,⟨z1,z2,z3,z4⟩,hf⟩:=oX y3 N a b p v (by omega) p1 p2 (by omega) (by omega) hv;simp only at z1 z2 z3 z4;refine au.put 0 hf (by kernel_rfl) rfl rfl rfl ?_;(refine' zg)
    refine aG.go ((m,b,lim1,wb,wp,zs)) [0,1,2,3,4,10,11] (by exact vT) ?_ ?_
    ·show b - m<b - a;omega
    ·have hal:=Fi.alike fE (g6.keep (k3.trans z1)) (z1.all (p:=fun x=> ¬ltB x v) fun k x h1 h2 hx=>fE.nt _ _ _ (a3 k x u (by omega) h1 h2 hx hu) h) z4 z2 z3;exact ⟨by show a0≤m;omega,z3,g3,g4.trans ((k3.trans z1).wide g1 g3),hal.2,hal.1,k1⟩
   ·refine dI.go (y3) [0,1,2,3,4,10,11,12,13] (by exact vT) ?_;rfl
  ·refine dI.go (y3) [0,1,2,3,4,10,11,12,13] (by exact vT) ?_;rfl
 rintro y4 e4;obtain rfl:y3=y4:=e4.symm;obtain ⟨⟨m,f,zs⟩,⟨z1,pv,z2⟩,hf⟩:=jD y3 N a b p (by omega) p1 p2 (by omega) (by omega);simp only at z1 z2;have hzs:=z1.len;have m1:=z2.am;have m2:=z2.mb;have az:=a3.keep z1;(repeat' (first|(refine' cP)|fail))
 refine au.put 0 hf (by kernel_rfl) rfl rfl rfl ?_;(repeat' (first|(refine' cP)|fail))
 ·obtain ⟨ws,⟨w1,w2⟩,hf2⟩:=ih (m - a) (by omega) zs N a m lim1 (by omega) m1 (by omega) hl (aaV _) k1 (fun k x y h1 h2 h3=>az k x y h1 h2 (by omega));refine au.put 0 hf2 (by kernel_rfl) rfl rfl rfl ?_;(repeat' (first|(refine' cP)|fail))
  refine aG.go ((m+1,b,lim1,decide (((b:Int) - a) / 8≤(m:Int) - a),f,ws)) [0,1,2,3,4,10,11] (by exact vT) ?_ ?_
  ·show b - (m+1)<b - a;omega
  ·have hL:=Fi.left fE (g6.keep (k3.trans z1)) z2 w1 w2;exact ⟨by show a0≤m+1;omega,by show m+1≤b;omega,g3,g4.trans (((k3.trans z1).wide g1 g3).trans (w1.wide g1 (by omega))),hL.2,hL.1,k1⟩
 ·obtain ⟨ws,⟨w1,w2⟩,hf2⟩:=ih (b - (m+1)) (by omega) zs N (m+1) b lim1 (by omega) (by omega) (by omega) hl (aaV _) k1 (fun k x y h1 h2 h3 hx hy=>by
   rw [acs,z2.at0] at hy;cases hy;exact z2.hi k x (by omega) h3 hx)
  rw [show iv ((m+1:Nat):Int)=iv ((m:Int)+1) from rfl] at hf2;refine au.put 0 hf2 (by kernel_rfl) rfl rfl rfl ?_;(repeat' (first|(refine' cP)|fail))
  refine aG.go ((a,m,lim1,decide (((b:Int) - a) / 8≤(b:Int) - m),f,ws)) [0,1,2,3,4,10,11] (by exact vT) ?_ ?_
  ·show m - a<b - a;omega
  ·have hR:=Fi.right fE (g6.keep (k3.trans z1)) az z2 w1 w2;exact ⟨g1,m1,by show m≤b0;omega,g4.trans (((k3.trans z1).wide g1 g3).trans (w1.wide (by omega) g3)),hR.2,hR.1,k1⟩
theorem EO (n:Nat):rj n:=by
 induction n using Nat.strongRecOn with
 | _ n ih=>exact ta n ih
end SrtSn
namespace SrtSn
theorem sort_ex (xs:List Bk) (N:Nat) (hN:xs.length=N) (hl:N≤64) :
 ∃ys,(ys.Perm xs∧cV ltB 0 N ys)∧ap Tryz.prog G0 66 [.so 0 2 0 N,eT] [(0,cp xs)] 1 (.tup []) [(0,cp ys)]:=by
 obtain ⟨k,hk,hk7⟩:=Lw N hl;obtain ⟨ys,⟨h1,h2⟩,hf⟩:=EO N xs N 0 N k hN (aa1 _) (aaV _) hl (by omega) (by omega) (fun _ _ _ h=>by omega);have hL:=Lv N hl;rw [hk] at hL;refine ⟨ys,⟨h1.perm,h2⟩,?_⟩;refine vF ab [0,1,4] Tryz.func66 rfl Tryz.results66 Tryz.ntmps66 ?_;(refine' fq hL)
 refine au.put 0 hf (by kernel_rfl) rfl rfl rfl ?_;(refine' zg)
 refine ae.now [] (by decide) ?_;(refine' zg)
 exact aj _
end SrtSn
end Go.Proofs.YtkkanlcjjpoklaaGreatDoor
