/- What the theorem leans on, part 40. -/
import Derived.Test.YtkhonlnajdfhfaaGreatDoorLtYPBI
set_option linter.unusedSimpArgs false
set_option linter.unusedVariables false
set_option maxRecDepth 8000
namespace Go.Proofs.YtkhonlnajdfhfaaGreatDoor
def eqCl (l:List Cl) (i:Nat):St:=⟨[(0,clL l),(1,clL l),(7,iv l.length),(8,iv i)],[],0⟩
def eqRw (A:List Rw) (i:Nat):St:=⟨[(0,.d (.sd 7 false (A.map rwD))),(1,.d (.sd 7 false (A.map rwD))),(7,iv A.length),(8,iv i)],[],0⟩
attribute [push_cast] eqCl.eq_def eqRw.eq_def
theorem pCells_fn (l:List Cl) (hl:l.length≤1000000000):OFn Tryz.prog G0 55 [clL l,clL l] [] 0 (bv true) []:=by
 refine vF mixed [0,1,4,5,7,8,9,25] Tryz.func55 rfl Tryz.results55 Tryz.ntmps55 ?_
 (refine' zg)
 refine vL (lv:=[0,1,4,5,7,8,9,25]) mixed (eqCl l) (fun i=>i≤l.length) (fun i=>l.length - i) (0) ((GhW.go [0,1,7,8] (by exact vT) rfl)) ?_ ?_
 ·exact Nat.zero_le _
 intro i hi
 rcases Nat.lt_or_ge i l.length with hlt|hge
 ·obtain ⟨c,hc⟩ : ∃c,l[i]? = some c:=⟨_,List.getElem?_eq_getElem hlt⟩
  obtain ⟨r,k,w,a⟩:=c
  (refine' zm01 hc)
  refine AgW.go (i+1) [0,1,7,8] (by exact vT) ?_ ?_
  ·show l.length - (i+1)<l.length - i
   omega
  ·show i+1≤l.length
   omega
 ·(refine' zo)
set_option maxHeartbeats 3200000 in
theorem pRow_fn (r:Rw) (hl:r.1.length≤1000000000):OFn Tryz.prog G0 26 [.d (rwD r),.d (rwD r)] [] 0 (bv true) []:=by
 obtain ⟨cs,st,en,bk,wr,fo,wx⟩:=r
 have r1:=pCells_fn cs hl
 refine vF mixed [0,1,2,3,4] Tryz.func26 rfl Tryz.results26 Tryz.ntmps26 ?_
 (refine' zm10o r1)
theorem pRows_fn (A:List Rw) (hA:A.length≤1000000000000) (hc : ∀r∈A,r.1.length≤1000000000):OFn Tryz.prog G0 9 [.d (.sd 7 false (A.map rwD)),.d (.sd 7 false (A.map rwD))] [] 0 (bv true) []:=by
 refine vF mixed [0,1,4,5,7,8,9,26] Tryz.func9 rfl Tryz.results9 Tryz.ntmps9 ?_
 (refine' zg)
 refine vL (lv:=[0,1,4,5,7,8,9,26]) mixed (eqRw A) (fun i=>i≤A.length) (fun i=>A.length - i) (0) ((GhW.go [0,1,7,8] (by exact vT) rfl)) ?_ ?_
 ·exact Nat.zero_le _
 intro i hi
 rcases Nat.lt_or_ge i A.length with hlt|hge
 ·obtain ⟨r,hr⟩ : ∃r,A[i]? = some r:=⟨_,List.getElem?_eq_getElem hlt⟩
  have r1:=pRow_fn r (hc r (List.mem_of_getElem? hr))
  obtain ⟨cs,st,en,bk,wr,fo,wx⟩:=r
  (refine' zm11 r1 hr)
  refine AgW.go (i+1) [0,1,7,8] (by exact vT) ?_ ?_
  ·show A.length - (i+1)<A.length - i
   omega
  ·show i+1≤A.length
   omega
 ·(refine' zo)
end Go.Proofs.YtkhonlnajdfhfaaGreatDoor
