/- What the theorem leans on, part 34. -/
import Derived.Test.YtkkanlcjjpoklaaGreatDoorStVPBG
set_option linter.unusedSimpArgs false
set_option linter.unusedVariables false
set_option maxRecDepth 8000
namespace Go.Proofs.YtkkanlcjjpoklaaGreatDoor
theorem Jx:ap Tryz.prog G0 131 [] [] 0 (.d (wo zT wT)) []:=wY G0 M0 400 (by kernel_rfl)
section
variable (s:ByteArray) (L:List Iy) (F:List Sn) (tab wd B:Int)
def SY (i:Nat):St:=⟨[(2,.po 0 0),(46,.d (.sd 5 false (L.map cT))),(47,iv L.length),(48,iv i)],[(0,dcC s L F tab wd)],1⟩
attribute [push_cast] SY.eq_def
set_option maxHeartbeats 6400000 in
theorem Jf (h:B<s.size∨60<L.length∨60<F.length∨tab<1∨16<tab∨wd<0∨200<wd):ap Tryz.prog G0 9 [jk s L F tab wd,iv B] [] 0 (bv false) []:=by
 refine vF ab [0,1,2,4,6,7,44,46,47,48,49,55] Tryz.func9 rfl Tryz.results9 Tryz.ntmps9 ?_;(refine' Dq)
theorem MP {p:Iy→Prop} {i:Nat} (h : ∀(k:Nat) y,k<i→L[k]? = some y→p y) {y:Iy} (hy:L[i]? = some y) (hp:p y) : ∀(k:Nat) z,k<i+1→L[k]? = some z→p z:=by
 intro k z hk hz;by_cases hki:k=i
 ·subst hki;rw [hy] at hz;injection hz with hz;subst hz;exact hp
 ·exact h k z (by omega) hz
structure QX:Prop where
 s:(s.size:Int)≤B
 l:L.length≤60
 f:F.length≤60
 tab:1≤tab∧tab≤16
 wd:0≤wd∧wd≤200
set_option maxHeartbeats 6400000 in
theorem E8 (hk:QX s L F tab wd B) (x:Iy) (hx:x∈L) (h2:200<x.2.2.2.2.size):ap Tryz.prog G0 9 [jk s L F tab wd,iv B] [] 0 (bv false) []:=by
 obtain ⟨k1,k2,k3,k4,k5⟩:=hk;refine vF ab [0,1,2,4,6,7,44,46,47,48,49,55] Tryz.func9 rfl Tryz.results9 Tryz.ntmps9 ?_;(refine' JC)
 refine vL (lv:=[0,1,2,4,6,7,44,46,47,48,49,55]) ab (SY s L F tab wd) (fun i=>i≤L.length ∧ ∀(k:Nat) y,k<i→L[k]? = some y→y.2.2.2.2.size≤200) (fun i=>L.length - i) (0) ((aC.go [2,46,47,48] (by exact vT) rfl)) ?_ ?_
 ·exact ⟨aa1 _,fun k y h=>by omega⟩
 rintro i ⟨g1,g2⟩;rcases aa2 i L.length with hi|hi
 ·obtain ⟨y,hy⟩ : ∃y,L[i]? = some y:=⟨_,IO hi⟩
  (refine' Tx hy)
  refine aG.go (i+1) [2,46,47,48] (by exact vT) ?_ ?_
  ·show L.length - (i+1)<L.length - i;omega
  ·exact ⟨hi,MP L g2 hy (by omega)⟩
 ·exfalso;obtain ⟨k,hk⟩:=ab6 hx;have:=g2 k x (by have:=(aaX.1 hk).1;omega) hk;omega
set_option maxHeartbeats 6400000 in
theorem MD (hB:B≤300) (hk:QX s L F tab wd B) (hx : ∀x∈L,x.2.2.2.2.size≤200):ap Tryz.prog G0 9 [jk s L F tab wd,iv B] [] 0 (bv (decide (cb (aa s 0).length [] L=0∧e7 (aa s 0).length [] F=0))) []:=by
 obtain ⟨k1,k2,k3,k4,k5⟩:=hk;have hl:=bh s s.size 0 (by omega);have r1:=dX s (by omega);generalize aa s 0=l at *
 have r4:=xq l.length (by omega) L k2 (fun x h=>by have:=hx x h;omega);have r5:=A6 l.length (by omega) F k3;have key : ∀(a b:Int) (A A2:D),ap Tryz.prog G0 44 [iv l.length,.d (.sd 5 false (L.map cT))] [] 0 (.d (.agg [A,A2,iD a])) []→(a=0 → ∃C E,ap Tryz.prog G0 45 [iv l.length,.d (.sd 2 false (F.map bA))] [] 0 (.d (.agg [C,E,iD b])) []) →
  ap Tryz.prog G0 9 [jk s L F tab wd,iv B] [] 0 (bv (decide (a=0∧b=0))) []:=by
  intro a b A A2 r4 r5;refine vF ab [0,1,2,4,6,7,44,46,47,48,49,55] Tryz.func9 rfl Tryz.results9 Tryz.ntmps9 ?_;(refine' JC)
  refine vL (lv:=[0,1,2,4,6,7,44,46,47,48,49,55]) ab (SY s L F tab wd) (fun i=>i≤L.length) (fun i=>L.length - i) (0) ((aC.go [2,46,47,48] (by exact vT) rfl)) ?_ ?_
  ·exact aa1 _
  intro i g1;rcases aa2 i L.length with hi|hi
  ·obtain ⟨y,hy⟩ : ∃y,L[i]? = some y:=⟨_,IO hi⟩
   have hys:=hx y (aa0 hy);(refine' Tx hy)
   refine aG.go (i+1) [2,46,47,48] (by exact vT) ?_ ?_
   ·show L.length - (i+1)<L.length - i;omega
   ·show i+1≤L.length;omega
  ·by_cases ha:a=0
   ·obtain ⟨C,E,r6⟩:=r5 ha;subst ha;(refine' Ni r1 r4 r6)
    all_goals first|(congr 1;done)|(congr 1;rw [act];simp)
   ·rw [abM (fun h=>ha h.1)];(refine' xW r1 r4)
 by_cases he:cb l.length [] L=0
 ·rw [xi,aa3 he] at r4;rw [he];refine key 0 _ _ _ r4 fun _ =>?_
  by_cases hf:e7 l.length [] F=0
  ·rw [D3,aa3 hf] at r5;rw [hf];exact ⟨_,_,r5⟩
  ·rw [D3,aaY hf] at r5;exact ⟨_,_,r5⟩
 ·rw [xi,aaY he] at r4;exact key _ _ _ _ r4 fun e=>(he e).elim
theorem ig (hB:B≤300) {Q:Prop} (hn:ap Tryz.prog G0 9 [jk s L F tab wd,iv B] [] 0 (bv false) []→Q) (hy : ∀tb:Nat,tab=tb→dz s L F tb wd→ap Tryz.prog G0 9 [jk s L F tb wd,iv B] [] 0 (bv true) []→Q):Q:=by
 by_cases hb:B<s.size∨60<L.length∨60<F.length∨tab<1∨16<tab∨wd<0∨200<wd
 ·exact hn (Jf s L F tab wd B hb)
 have hk:QX s L F tab wd B:=⟨by omega,by omega,by omega,by omega,by omega⟩
 by_cases hl : ∃x∈L,200<x.2.2.2.2.size
 ·obtain ⟨x,hx,h2⟩:=hl;exact hn (E8 s L F tab wd B hk x hx h2)
 have hx : ∀x∈L,x.2.2.2.2.size≤200:=fun x hx=>ad4 fun h2=>hl ⟨x,hx,h2⟩
 have r:=MD s L F tab wd B hB hk hx;by_cases he:cb (aa s 0).length [] L=0∧e7 (aa s 0).length [] F=0
 ·rw [abw he] at r;obtain ⟨tb,rfl⟩ : ∃tb:Nat,tab=tb:=⟨tab.toNat,by omega⟩
  exact hy tb rfl ⟨by have:=hk.s;omega,hk.l,hk.f,hk.tab,hk.wd,hx,he.1,he.2⟩ r
 ·rw [abM he] at r;exact hn r
end
theorem IS:ap Tryz.prog G0 47 [] [] 0 (.d (wo zT wT)) []:=wY G0 M0 400 (by kernel_rfl)
abbrev LM (s:ByteArray) (L:List Iy) (F:List Sn) (tab:Nat) (wd:Int):V:= .d (.agg [.sd 1 false ((aa s 0).map dm),iD (aa s 0).length,.sd 5 false ((aD L).map cT),iD 0,.sd 2 false ((aH F).map bA),wo zT wT,iD tab,iD wd])
set_option maxHeartbeats 6400000 in
theorem i9 {s:ByteArray} {L:List Iy} {F:List Sn} {tab:Nat} {wd:Int} (h:dz s L F tab wd):ap Tryz.prog G0 12 [jk s L F tab wd] [] 0 (LM s L F tab wd) []:=by
 obtain ⟨k1,k2,k3,k4,k5,k6,k7,k8⟩:=h;have hl:=bh s s.size 0 (by omega);have r1:=dX s (by omega);rw [LM];generalize aa s 0=l at *
 have r2:=xq l.length (by omega) L k2 (fun x h=>by have:=k6 x h;omega);rw [xi,aa3 k7] at r2;have r3:=A6 l.length (by omega) F k3;rw [D3,aa3 k8] at r3;have r4:=KD l.length 0 (eV F) (by rw [CM];omega) (GH F) (fun a ha=>by have:=((sr l.length F [] k8).1 a (CN.1 ha)).1;unfold oo at this;omega);have r5:=IS;refine vF ab [0,1,2,3,4] Tryz.func12 rfl Tryz.results12 Tryz.ntmps12 ?_;(refine' zo5 r1 r2 r3 r4 r5)
end Go.Proofs.YtkkanlcjjpoklaaGreatDoor
