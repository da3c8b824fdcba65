/- What the theorem leans on, part 30. -/
import Derived.Test.YtkkanlcjjpoklaaGreatDoorStUPBC
set_option linter.unusedSimpArgs false
set_option linter.unusedVariables false
set_option maxRecDepth 8000
namespace Go.Proofs.YtkkanlcjjpoklaaGreatDoor
def X3 (r:List Cl) (P:D) (fr to:Int) (i:Nat):St:=⟨[(3,.po 0 0),(7,cM r),(8,iv r.length),(9,iv i)],[(0,.cell [.d P,iv fr,iv to])],1⟩
attribute [push_cast] X3.eq_def
theorem Gf (r:List Cl) (hr:r.length≤1000000000) (k:Nat) (ps:List D) (fr to:Int):an Tryz.prog G0 165 [cM r,.d (.agg [.sd k false ps,iD fr,iD to])] [] 0 (iv (bo fr r)) []:=by
 refine vF ab [0,1,3,4,6,7,8,9,10,15] Tryz.func165 rfl Tryz.results165 Tryz.ntmps165 ?_;(refine' zg)
 refine vL (lv:=[0,1,3,4,6,7,8,9,10,15]) ab (X3 r (.sd k false ps) fr to) (fun i=>i≤r.length ∧ ∀(j:Nat) x,j<i→r[j]? = some x→x.2.1=5) (fun i=>r.length - i) (0) ((aC.go [3,7,8,9] (by exact vT) rfl)) ?_ ?_
 ·exact ⟨Nat.zero_le _,fun j x hj=>by omega⟩
 rintro i ⟨h1,h2⟩;rcases Nat.lt_or_ge i r.length with hk|hk
 ·obtain ⟨c,hc⟩ : ∃c,r[i]? = some c:=⟨_,List.getElem?_eq_getElem hk⟩
  have e1:=fun h=>AS (fr:=fr) h2 hc h
  have e2:=fun h=>i4 h2 hc h
  obtain ⟨q,k',w,a⟩:=c;simp only at e1 e2;(refine' QA hc)
  ·rw [e1 (by assumption)]
  ·refine aG.go (i+1) [3,7,8,9] (by exact vT) ?_ ?_
   ·show r.length - (i+1)<r.length - i;omega
   ·exact ⟨hk,e2 (by omega)⟩
 ·rw [AT (fun j x hx=>h2 j x (by have:=(List.getElem?_eq_some_iff.1 hx).1;omega) hx)];(refine' zo)
theorem IZ (c:Cl):an Tryz.prog G0 227 [.d (gN c)] [] 0 (bv (c.2.1==3)) []:=by
 obtain ⟨q,k,w,a⟩:=c;refine vF ab [0,1,2] Tryz.func227 rfl Tryz.results227 Tryz.ntmps227 ?_;(refine' zo)
abbrev T7:V:= .d (.fn 227 [])
def XW (r:List Cl) (i:Nat):St:=⟨[(0,cM r),(1,T7),(7,iv r.length),(8,iv i)],[],0⟩
attribute [push_cast] XW.eq_def
theorem IS : ∀r:List Cl,(∀(j:Nat) x,r[j]? = some x→x.2.1≠3) ∨ ∃(k:Nat) (c:Cl),r[k]? = some c∧c.2.1=3 ∧ ∀(j:Nat) x,j<k→r[j]? = some x→x.2.1≠3
 | []=> .inl fun j x h=>by simp at h
 | y::t=>by
  by_cases hy:y.2.1=3
  ·exact .inr ⟨0,y,rfl,hy,fun j x hj=>by omega⟩
  ·rcases IS t with h|⟨k,c,h1,h2,h3⟩
   ·refine .inl fun j x hx =>?_
    cases j with
    | zero=>simp only [List.getElem?_cons_zero,Option.some.injEq] at hx;subst hx;exact hy
    | succ j=>rw [List.getElem?_cons_succ] at hx;exact h j x hx
   ·refine .inr ⟨k+1,c,by rw [List.getElem?_cons_succ];exact h1,h2,fun j x hj hx =>?_⟩;cases j with
    | zero=>simp only [List.getElem?_cons_zero,Option.some.injEq] at hx;subst hx;exact hy
    | succ j=>rw [List.getElem?_cons_succ] at hx;exact h3 j x (by omega) hx
theorem DL (r:List Cl) (hr:r.length≤1000000000) (N:Nat) (n:Int) (hN:N≤r.length) (h : ∀(j:Nat) x,j<N→r[j]? = some x→x.2.1≠3) (hn:(N=r.length∧n = -1)∨(∃c,r[N]? = some c∧c.2.1=3∧n=N)) :
 an Tryz.prog G0 261 [cM r,T7] [] 0 (iv n) []:=by
 refine vF ab [0,1,4,5,7,8,9,16] Tryz.func261 rfl Tryz.results261 Tryz.ntmps261 ?_;(refine' zg)
 refine vL (lv:=[0,1,4,5,7,8,9,16]) ab (XW r) (fun i=>i≤N) (fun i=>r.length - i) (0) ((aC.go [0,1,7,8] (by exact vT) rfl)) ?_ ?_
 ·exact Nat.zero_le _
 intro i hi;rcases Nat.lt_or_ge i r.length with hk|hk
 ·obtain ⟨c,hc⟩ : ∃c,r[i]? = some c:=⟨_,List.getElem?_eq_getElem hk⟩
  have r1:=IZ c;have h1:=fun hlt=>h i c hlt hc
  have hfin:c.2.1=3→n=i:=fun h3=>by
   have:i=N:=by
    rcases Nat.lt_or_ge i N with h'|h'
    ·exact (h1 h' h3).elim
    ·omega
   subst this;rcases hn with ⟨e,_⟩|⟨_,_,_,e⟩
   ·omega
   ·exact e
  have hlt:c.2.1≠3→i+1≤N:=fun h3=>by
   rcases Nat.lt_or_ge i N with h'|h'
   ·exact h'
   ·have:i=N:=by omega
    subst this;rcases hn with ⟨e,_⟩|⟨c',e1,e2,_⟩
    ·omega
    ·rw [hc] at e1;injection e1 with e1;subst e1;exact (h3 e2).elim
  obtain ⟨q,k',w,a⟩:=c;simp only at r1 hfin hlt;by_cases h3:k'=3
  ·rw [show (k'==3)=true by simpa using h3] at r1;rw [hfin h3];(refine' ni r1 hc)
  ·rw [show (k'==3)=false by simpa using h3] at r1;(refine' ni r1 hc)
   refine aG.go (i+1) [0,1,7,8] (by exact vT) ?_ ?_
   ·show r.length - (i+1)<r.length - i;omega
   ·exact hlt h3
 ·have:n = -1:=by
   rcases hn with ⟨_,e⟩|⟨c',e1,_,_⟩
   ·exact e
   ·rw [List.getElem?_eq_none (by omega)] at e1;cases e1
  subst this;(refine' zo)
theorem FY (r:List Cl) (hr:r.length≤1000000000):an Tryz.prog G0 166 [cM r] [] 0 (bv (eQ r)) []:=by
 have key : ∀(n:Int),decide (0≤n)=eQ r→an Tryz.prog G0 261 [cM r,T7] [] 0 (iv n) []→an Tryz.prog G0 166 [cM r] [] 0 (bv (eQ r)) []:=by
  intro n hn r1;rw [←hn];have r2:an Tryz.prog G0 226 [cM r,T7] [] 0 (bv (decide (0≤n))) []:=by
   refine vF ab [0,1,4] Tryz.func226 rfl Tryz.results226 Tryz.ntmps226 ?_;(refine' kW r1)
  refine vF ab [0,2] Tryz.func166 rfl Tryz.results166 Tryz.ntmps166 ?_;(refine' kW r2)
 rcases IS r with h|⟨k,c,h1,h2,h3⟩
 ·exact key (-1) (by rw [I0 h];decide) (DL r hr r.length (-1) (Nat.le_refl _) (fun j x _ hx=>h j x hx) (.inl ⟨rfl,rfl⟩))
 ·exact key k (by rw [FX (List.mem_of_getElem? h1) h2];simp) (DL r hr k k (by have:=(List.getElem?_eq_some_iff.1 h1).1;omega) h3 (.inr ⟨c,h1,h2,rfl⟩))
end Go.Proofs.YtkkanlcjjpoklaaGreatDoor
