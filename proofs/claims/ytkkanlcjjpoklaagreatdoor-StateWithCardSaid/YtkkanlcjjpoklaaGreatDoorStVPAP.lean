/- What the theorem leans on, part 16. -/
import Derived.Test.YtkkanlcjjpoklaaGreatDoorStVPAG
set_option linter.unusedSimpArgs false
set_option linter.unusedVariables false
set_option maxRecDepth 8000
namespace Go.Proofs.YtkkanlcjjpoklaaGreatDoor
abbrev bA (x:Int × Int):D:= .agg [iD x.1,iD x.2]
abbrev zF (l:List (Int × Int)):V:= .d (.sd 2 false (l.map bA))
theorem nf {α:Type} {p:α→Bool} : ∀ {l:List α} {x:α},l.find? p=some x → ∃i:Nat,l[i]? = some x∧p x=true ∧ ∀(k:Nat) y,k<i→l[k]? = some y→p y=false
 | [],x,h=>by cases h
 | y::r,x,h=>by
  rw [ac6] at h;cases hp:p y with
  | true=>
   rw [hp] at h;injection h with h;subst h;exact ⟨0,rfl,hp,fun k z hk=>by omega⟩
  | false=>
   rw [hp] at h;obtain ⟨i,h1,h2,h3⟩:=nf h;refine ⟨i+1,h1,h2,fun k z hk hz =>?_⟩;cases k with
   | zero=>injection hz with hz;subst hz;exact hp
   | succ k=>exact h3 k z (by omega) hz
def X3 (h:List (Int × Int)) (F:D) (i:Nat):St:=⟨[(0,zF h),(1,.d F),(7,iv h.length),(8,iv i)],[],0⟩
attribute [push_cast] X3.eq_def
theorem kJ {g:Nat→Option Nat} (l:List D):(l.map V.d).map (V.sel g)=l.map V.d:=by rw [aci];rfl
section
variable {G:Gl} {H:List (Int × Int)} {f:Nat} {caps:List D} {p:Int × Int→Bool}
theorem uU (hl:H.length≤1000000) (he:cK Tryz.prog f=true) (hc : ∀x∈H,ap Tryz.prog G f (.d (bA x)::caps.map .d) [] 0 (bv (p x)) []) (i:Nat) (x:Int × Int) (hx:H[i]? = some x) (hp:p x=true) (hn : ∀(k:Nat) y,k<i→H[k]? = some y→p y=false) :
 ap Tryz.prog G 213 [zF H,.d (.fn f caps)] [] 0 (iv i) []:=by
 have hi:=(aaX.1 hx).1;refine vF ab [0,1,4,5,7,8,9,16] Tryz.func213 rfl Tryz.results213 Tryz.ntmps213 ?_;(refine' zg)
 refine vL (lv:=[0,1,4,5,7,8,9,16]) ab (X3 H (.fn f caps)) (fun k=>k≤i) (fun k=>i - k) (0) ((aC.go [0,1,7,8] (by exact vT) rfl)) ?_ ?_
 ·exact aa1 _
 intro k hk;obtain ⟨y,hy⟩ : ∃y,H[k]? = some y:=⟨_,IO (by omega)⟩
 have hcy:=hc y (aa0 hy);rcases aa2 k i with hlt|hge
 ·rw [hn k y hlt hy] at hcy;(refine' zg)
  refine aF.is k y (by omega) hy ?_;(repeat' (first|(with_reducible refine vC hcy ?_ he (kJ (bA y::caps)) rfl)|(refine' zq)|fail))
  refine aG.go (k+1) [0,1,7,8] (by exact vT) ?_ ?_
  ·show i - (k+1)<i - k;omega
  ·exact hlt
 ·obtain rfl:k=i:=by omega
  rw [hx] at hy;injection hy with hy;subst hy;rw [hp] at hcy;(refine' zg)
  refine aF.is k x (by omega) hx ?_;(repeat' (first|(with_reducible refine vC hcy ?_ he (kJ (bA x::caps)) rfl)|with_reducible refine ae.out ?_|(refine' zq)|fail))
theorem xX (hl:H.length≤1000000) (he:cK Tryz.prog f=true) (hc : ∀x∈H,ap Tryz.prog G f (.d (bA x)::caps.map .d) [] 0 (bv (p x)) []) (hn : ∀x∈H,p x=false) :
 ap Tryz.prog G 213 [zF H,.d (.fn f caps)] [] 0 (iv (-1)) []:=by
 refine vF ab [0,1,4,5,7,8,9,16] Tryz.func213 rfl Tryz.results213 Tryz.ntmps213 ?_;(refine' zg)
 refine vL (lv:=[0,1,4,5,7,8,9,16]) ab (X3 H (.fn f caps)) (fun k=>k≤H.length) (fun k=>H.length - k) (0) ((aC.go [0,1,7,8] (by exact vT) rfl)) ?_ ?_
 ·exact aa1 _
 intro k hk;(refine' zo)
 refine aF.intro fun y hy =>?_
 have hcy:=hc y (aa0 hy);rw [hn y (aa0 hy)] at hcy;(repeat' (first|(with_reducible refine vC hcy ?_ he (kJ (bA y::caps)) rfl)|(refine' zq)|fail))
 refine aG.go (k+1) [0,1,7,8] (by exact vT) ?_ ?_
 ·show H.length - (k+1)<H.length - k;omega
 ·show k+1≤H.length;omega
theorem oi (hl:H.length≤1000000) (he:cK Tryz.prog f=true) (hc : ∀x∈H,ap Tryz.prog G f (.d (bA x)::caps.map .d) [] 0 (bv (p x)) []) (i:Nat) (x:Int × Int) (hx:H[i]? = some x) (hp:p x=true) (hn : ∀(k:Nat) y,k<i→H[k]? = some y→p y=false) :
 ap Tryz.prog G 158 [zF H,.d (.fn f caps)] [] 0 (bv true) []:=by
 have r1:=uU hl he hc i x hx hp hn;have e:decide ((0:Int)≤(i:Int))=true:=by simp
 rw [←e];refine vF ab [0,1,4] Tryz.func158 rfl Tryz.results158 Tryz.ntmps158 ?_;(refine' lK r1)
theorem qj (hl:H.length≤1000000) (he:cK Tryz.prog f=true) (hc : ∀x∈H,ap Tryz.prog G f (.d (bA x)::caps.map .d) [] 0 (bv (p x)) []) (hn : ∀x∈H,p x=false) :
 ap Tryz.prog G 158 [zF H,.d (.fn f caps)] [] 0 (bv false) []:=by
 have r1:=xX hl he hc hn;refine vF ab [0,1,4] Tryz.func158 rfl Tryz.results158 Tryz.ntmps158 ?_;(refine' lK r1)
 rfl
end
end Go.Proofs.YtkkanlcjjpoklaaGreatDoor
