/- What the theorem leans on, part 35. -/
import Derived.Test.YtkkanlcjjpoklaaGreatDoorStUPBH
set_option linter.unusedSimpArgs false
set_option linter.unusedVariables false
set_option maxRecDepth 8000
namespace Go.Proofs.YtkkanlcjjpoklaaGreatDoor
theorem Hx:an Tryz.prog G0 131 [] [] 0 (.d (pQ zT wT)) []:=vj G0 M0 400 (by kernel_rfl)
section
variable (s:ByteArray) (L:List Iy) (F:List Sn) (tab wd B:Int)
def Qm (i:Nat):St:=⟨[(2,.po 0 0),(46,.d (.sd 5 false (L.map cS))),(47,iv L.length),(48,iv i)],[(0,ZT s L F tab wd)],1⟩
attribute [push_cast] Qm.eq_def
set_option maxHeartbeats 6400000 in
theorem Hc (h:B<s.size∨60<L.length∨60<F.length∨tab<1∨16<tab∨wd<0∨200<wd):an Tryz.prog G0 9 [tL s L F tab wd,iv B] [] 0 (bv false) []:=by
 refine vF ab [0,1,2,4,6,7,44,46,47,48,49,55] Tryz.func9 rfl Tryz.results9 Tryz.ntmps9 ?_;(refine' BD)
theorem KP {p:Iy→Prop} {i:Nat} (h : ∀(k:Nat) y,k<i→L[k]? = some y→p y) {y:Iy} (hy:L[i]? = some y) (hp:p y) : ∀(k:Nat) z,k<i+1→L[k]? = some z→p z:=by
 intro k z hk hz;by_cases hki:k=i
 ·subst hki;rw [hy] at hz;injection hz with hz;subst hz;exact hp
 ·exact h k z (by omega) hz
structure Oz:Prop where
 s:(s.size:Int)≤B
 l:L.length≤60
 f:F.length≤60
 tab:1≤tab∧tab≤16
 wd:0≤wd∧wd≤200
set_option maxHeartbeats 6400000 in
theorem Dg (hk:Oz s L F tab wd B) (x:Iy) (hx:x∈L) (h2:200<x.2.2.2.2.size):an Tryz.prog G0 9 [tL s L F tab wd,iv B] [] 0 (bv false) []:=by
 obtain ⟨k1,k2,k3,k4,k5⟩:=hk;refine vF ab [0,1,2,4,6,7,44,46,47,48,49,55] Tryz.func9 rfl Tryz.results9 Tryz.ntmps9 ?_;(refine' HC)
 refine vL (lv:=[0,1,2,4,6,7,44,46,47,48,49,55]) ab (Qm s L F tab wd) (fun i=>i≤L.length ∧ ∀(k:Nat) y,k<i→L[k]? = some y→y.2.2.2.2.size≤200) (fun i=>L.length - i) (0) ((aC.go [2,46,47,48] (by exact vT) rfl)) ?_ ?_
 ·exact ⟨Nat.zero_le _,fun k y h=>by omega⟩
 rintro i ⟨g1,g2⟩;rcases Nat.lt_or_ge i L.length with hi|hi
 ·obtain ⟨y,hy⟩ : ∃y,L[i]? = some y:=⟨_,List.getElem?_eq_getElem hi⟩
  (refine' QA hy)
  refine aG.go (i+1) [2,46,47,48] (by exact vT) ?_ ?_
  ·show L.length - (i+1)<L.length - i;omega
  ·exact ⟨hi,KP L g2 hy (by omega)⟩
 ·exfalso;obtain ⟨k,hk⟩:=List.getElem?_of_mem hx;have:=g2 k x (by have:=(List.getElem?_eq_some_iff.1 hk).1;omega) hk;omega
set_option maxHeartbeats 6400000 in
theorem KD (hB:B≤300) (hk:Oz s L F tab wd B) (hx : ∀x∈L,x.2.2.2.2.size≤200):an Tryz.prog G0 9 [tL s L F tab wd,iv B] [] 0 (bv (decide (bW (aa s 0).length [] L=0∧ez (aa s 0).length [] F=0))) []:=by
 obtain ⟨k1,k2,k3,k4,k5⟩:=hk;have hl:=bx s s.size 0 (by omega);have r1:=fK s (by omega);generalize aa s 0=l at *
 have r4:=v0 l.length (by omega) L k2 (fun x h=>by have:=hx x h;omega);have r5:=za l.length (by omega) F k3;have key : ∀(a b:Int) (A A2:D),an Tryz.prog G0 44 [iv l.length,.d (.sd 5 false (L.map cS))] [] 0 (.d (.agg [A,A2,iD a])) []→(a=0 → ∃C E,an Tryz.prog G0 45 [iv l.length,.d (.sd 2 false (F.map bA))] [] 0 (.d (.agg [C,E,iD b])) []) →
  an Tryz.prog G0 9 [tL s L F tab wd,iv B] [] 0 (bv (decide (a=0∧b=0))) []:=by
  intro a b A A2 r4 r5;refine vF ab [0,1,2,4,6,7,44,46,47,48,49,55] Tryz.func9 rfl Tryz.results9 Tryz.ntmps9 ?_;(refine' HC)
  refine vL (lv:=[0,1,2,4,6,7,44,46,47,48,49,55]) ab (Qm s L F tab wd) (fun i=>i≤L.length) (fun i=>L.length - i) (0) ((aC.go [2,46,47,48] (by exact vT) rfl)) ?_ ?_
  ·exact Nat.zero_le _
  intro i g1;rcases Nat.lt_or_ge i L.length with hi|hi
  ·obtain ⟨y,hy⟩ : ∃y,L[i]? = some y:=⟨_,List.getElem?_eq_getElem hi⟩
   have hys:=hx y (List.mem_of_getElem? hy);(refine' QA hy)
   refine aG.go (i+1) [2,46,47,48] (by exact vT) ?_ ?_
   ·show L.length - (i+1)<L.length - i;omega
   ·show i+1≤L.length;omega
  ·by_cases ha:a=0
   ·obtain ⟨C,E,r6⟩:=r5 ha;subst ha;(refine' Ov r1 r4 r6)
    all_goals first|(congr 1;done)|(congr 1;rw [Bool.eq_iff_iff];simp)
   ·rw [decide_eq_false (fun h=>ha h.1)];(refine' BF r1 r4)
 by_cases he:bW l.length [] L=0
 ·rw [vI,if_pos he] at r4;rw [he];refine key 0 _ _ _ r4 fun _ =>?_
  by_cases hf:ez l.length [] F=0
  ·rw [Ce,if_pos hf] at r5;rw [hf];exact ⟨_,_,r5⟩
  ·rw [Ce,if_neg hf] at r5;exact ⟨_,_,r5⟩
 ·rw [vI,if_neg he] at r4;exact key _ _ _ _ r4 fun e=>(he e).elim
theorem pg (hB:B≤300) {Q:Prop} (hn:an Tryz.prog G0 9 [tL s L F tab wd,iv B] [] 0 (bv false) []→Q) (hy : ∀tb:Nat,tab=tb→gM s L F tb wd→an Tryz.prog G0 9 [tL s L F tb wd,iv B] [] 0 (bv true) []→Q):Q:=by
 by_cases hb:B<s.size∨60<L.length∨60<F.length∨tab<1∨16<tab∨wd<0∨200<wd
 ·exact hn (Hc s L F tab wd B hb)
 have hk:Oz s L F tab wd B:=⟨by omega,by omega,by omega,by omega,by omega⟩
 by_cases hl : ∃x∈L,200<x.2.2.2.2.size
 ·obtain ⟨x,hx,h2⟩:=hl;exact hn (Dg s L F tab wd B hk x hx h2)
 have hx : ∀x∈L,x.2.2.2.2.size≤200:=fun x hx=>Nat.le_of_not_lt fun h2=>hl ⟨x,hx,h2⟩
 have r:=KD s L F tab wd B hB hk hx;by_cases he:bW (aa s 0).length [] L=0∧ez (aa s 0).length [] F=0
 ·rw [decide_eq_true he] at r;obtain ⟨tb,rfl⟩ : ∃tb:Nat,tab=tb:=⟨tab.toNat,by omega⟩
  exact hy tb rfl ⟨by have:=hk.s;omega,hk.l,hk.f,hk.tab,hk.wd,hx,he.1,he.2⟩ r
 ·rw [decide_eq_false he] at r;exact hn r
end
end Go.Proofs.YtkkanlcjjpoklaaGreatDoor
