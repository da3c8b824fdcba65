/- What the theorem leans on, part 39. -/
import Derived.Test.YtkhonlnajdfhfaaGreatDoorLtYPBC
import Derived.Test.YtkhonlnajdfhfaaGreatDoorLtYPBJ
set_option linter.unusedSimpArgs false
set_option linter.unusedVariables false
set_option maxRecDepth 8000
namespace Go.Proofs.YtkhonlnajdfhfaaGreatDoor
section
variable (s:ByteArray) (L:List Iy) (F:List Sn) (tab wd:Int)
def smDo (i:Nat):St:=⟨[(2,.po 0 0),(46,.d (.sd 5 false (L.map iyD))),(47,iv L.length),(48,iv i)],[(0,dcC s L F tab wd)],1⟩
attribute [push_cast] smDo.eq_def
set_option maxHeartbeats 6400000 in
theorem small_big (h:300<s.size∨60<L.length∨60<F.length∨tab<1∨16<tab∨wd<0∨200<wd):OFn Tryz.prog G0 4 [dcV s L F tab wd,iv 300] [] 0 (bv false) []:=by
 refine vF mixed [0,1,2,4,6,7,44,46,47,48,49,55] Tryz.func4 rfl Tryz.results4 Tryz.ntmps4 ?_
 (refine' zm00o)
theorem tk_nextD {p:Iy→Prop} {i:Nat} (h : ∀(k:Nat) y,k<i→L[k]? = some y→p y) {y:Iy} (hy:L[i]? = some y) (hp:p y) : ∀(k:Nat) z,k<i+1→L[k]? = some z→p z:=by
 intro k z hk hz
 by_cases hki:k=i
 ·subst hki;rw [hy] at hz;injection hz with hz;subst hz;exact hp
 ·exact h k z (by omega) hz
structure OkD0:Prop where
 s:s.size≤300
 l:L.length≤60
 f:F.length≤60
 tab:1≤tab∧tab≤16
 wd:0≤wd∧wd≤200
set_option maxHeartbeats 6400000 in
theorem small_long (hk:OkD0 s L F tab wd) (x:Iy) (hx:x∈L) (h2:200<x.2.2.2.2.size):OFn Tryz.prog G0 4 [dcV s L F tab wd,iv 300] [] 0 (bv false) []:=by
 obtain ⟨k1,k2,k3,k4,k5⟩:=hk
 refine vF mixed [0,1,2,4,6,7,44,46,47,48,49,55] Tryz.func4 rfl Tryz.results4 Tryz.ntmps4 ?_
 (refine' zm00)
 refine vL (lv:=[0,1,2,4,6,7,44,46,47,48,49,55]) mixed (smDo s L F tab wd) (fun i=>i≤L.length ∧ ∀(k:Nat) y,k<i→L[k]? = some y→y.2.2.2.2.size≤200) (fun i=>L.length - i) (0) ((GhW.go [2,46,47,48] (by exact vT) rfl)) ?_ ?_
 ·exact ⟨Nat.zero_le _,fun k y h=>by omega⟩
 rintro i ⟨g1,g2⟩
 rcases Nat.lt_or_ge i L.length with hi|hi
 ·obtain ⟨y,hy⟩ : ∃y,L[i]? = some y:=⟨_,List.getElem?_eq_getElem hi⟩
  (refine' zoE hy)
  refine AgW.go (i+1) [2,46,47,48] (by exact vT) ?_ ?_
  ·show L.length - (i+1)<L.length - i
   omega
  ·exact ⟨hi,tk_nextD L g2 hy (by omega)⟩
 ·exfalso
  obtain ⟨k,hk⟩:=List.getElem?_of_mem hx
  have:=g2 k x (by have:=(List.getElem?_eq_some_iff.1 hk).1;omega) hk
  omega
set_option maxHeartbeats 6400000 in
theorem small_fn (hk:OkD0 s L F tab wd) (hx : ∀x∈L,x.2.2.2.2.size≤200):OFn Tryz.prog G0 4 [dcV s L F tab wd,iv 300] [] 0 (bv (decide (inlErr (runesAt s 0).length [] L=0∧flErr (runesAt s 0).length [] F=0))) []:=by
 obtain ⟨k1,k2,k3,k4,k5⟩:=hk
 have hl:=runesAt_len s s.size 0 (by omega)
 have r1:=RDecode_fn s (by omega)
 generalize runesAt s 0=l at *
 have r4:=rNew13_fn l.length (by omega) L k2 (fun x h=>by have:=hx x h;omega)
 have r5:=dfNew_fn l.length (by omega) F k3
 have key : ∀(a b:Int) (A B:D),OFn Tryz.prog G0 13 [iv l.length,.d (.sd 5 false (L.map iyD))] [] 0 (.d (.agg [A,B,iD a])) []→(a=0 → ∃C E,OFn Tryz.prog G0 14 [iv l.length,.d (.sd 2 false (F.map snD))] [] 0 (.d (.agg [C,E,iD b])) []) →
  OFn Tryz.prog G0 4 [dcV s L F tab wd,iv 300] [] 0 (bv (decide (a=0∧b=0))) []:=by
  intro a b A B r4 r5
  refine vF mixed [0,1,2,4,6,7,44,46,47,48,49,55] Tryz.func4 rfl Tryz.results4 Tryz.ntmps4 ?_
  (refine' zm00)
  refine vL (lv:=[0,1,2,4,6,7,44,46,47,48,49,55]) mixed (smDo s L F tab wd) (fun i=>i≤L.length) (fun i=>L.length - i) (0) ((GhW.go [2,46,47,48] (by exact vT) rfl)) ?_ ?_
  ·exact Nat.zero_le _
  intro i g1
  rcases Nat.lt_or_ge i L.length with hi|hi
  ·obtain ⟨y,hy⟩ : ∃y,L[i]? = some y:=⟨_,List.getElem?_eq_getElem hi⟩
   have hys:=hx y (List.mem_of_getElem? hy)
   (refine' zoE hy)
   refine AgW.go (i+1) [2,46,47,48] (by exact vT) ?_ ?_
   ·show L.length - (i+1)<L.length - i
    omega
   ·show i+1≤L.length
    omega
  ·by_cases ha:a=0
   ·obtain ⟨C,E,r6⟩:=r5 ha
    subst ha
    (refine' zm30o r1 r4 r6)
    all_goals first|(congr 1;done)|(congr 1;rw [Bool.eq_iff_iff];simp)
   ·rw [decide_eq_false (fun h=>ha h.1)]
    (refine' zm20o r1 r4)
 by_cases he:inlErr l.length [] L=0
 ·rw [newDV,if_pos he] at r4
  rw [he]
  refine key 0 _ _ _ r4 fun _ =>?_
  by_cases hf:flErr l.length [] F=0
  ·rw [flDV,if_pos hf] at r5
   rw [hf];exact ⟨_,_,r5⟩
  ·rw [flDV,if_neg hf] at r5
   exact ⟨_,_,r5⟩
 ·rw [newDV,if_neg he] at r4
  exact key _ _ _ _ r4 fun e=>(he e).elim
theorem small_cases {Q:Prop} (hn:OFn Tryz.prog G0 4 [dcV s L F tab wd,iv 300] [] 0 (bv false) []→Q) (hy : ∀tb:Nat,tab=tb→OkD s L F tb wd→OFn Tryz.prog G0 4 [dcV s L F tb wd,iv 300] [] 0 (bv true) []→Q):Q:=by
 by_cases hb:300<s.size∨60<L.length∨60<F.length∨tab<1∨16<tab∨wd<0∨200<wd
 ·exact hn (small_big s L F tab wd hb)
 have hk:OkD0 s L F tab wd:=⟨by omega,by omega,by omega,by omega,by omega⟩
 by_cases hl : ∃x∈L,200<x.2.2.2.2.size
 ·obtain ⟨x,hx,h2⟩:=hl
  exact hn (small_long s L F tab wd hk x hx h2)
 have hx : ∀x∈L,x.2.2.2.2.size≤200:=fun x hx=>Nat.le_of_not_lt fun h2=>hl ⟨x,hx,h2⟩
 have r:=small_fn s L F tab wd hk hx
 by_cases he:inlErr (runesAt s 0).length [] L=0∧flErr (runesAt s 0).length [] F=0
 ·rw [decide_eq_true he] at r
  obtain ⟨tb,rfl⟩ : ∃tb:Nat,tab=tb:=⟨tab.toNat,by omega⟩
  exact hy tb rfl ⟨hk.s,hk.l,hk.f,hk.tab,hk.wd,hx,he.1,he.2⟩ r
 ·rw [decide_eq_false he] at r
  exact hn r
end
end Go.Proofs.YtkhonlnajdfhfaaGreatDoor
