/- What the theorem leans on, part 16. -/
import Derived.Test.YtkkanlcjjpoklaaGreatDoorStUPAG
set_option linter.unusedSimpArgs false
set_option linter.unusedVariables false
set_option maxRecDepth 8000
namespace Go.Proofs.YtkkanlcjjpoklaaGreatDoor
abbrev bA (x:Int × Int):D:= .agg [iD x.1,iD x.2]
abbrev xX (l:List (Int × Int)):V:= .d (.sd 2 false (l.map bA))
theorem mp {α:Type} {p:α→Bool} : ∀ {l:List α} {x:α},l.find? p=some x → ∃i:Nat,l[i]? = some x∧p x=true ∧ ∀(k:Nat) y,k<i→l[k]? = some y→p y=false
 | [],x,h=>by cases h
 | y::r,x,h=>by
  rw [List.find?_cons] at h;cases hp:p y with
  | true=>
   rw [hp] at h;injection h with h;subst h;exact ⟨0,rfl,hp,fun k z hk=>by omega⟩
  | false=>
   rw [hp] at h;obtain ⟨i,h1,h2,h3⟩:=mp h;refine ⟨i+1,h1,h2,fun k z hk hz =>?_⟩;cases k with
   | zero=>injection hz with hz;subst hz;exact hp
   | succ k=>exact h3 k z (by omega) hz
def U4 (h:List (Int × Int)) (F:D) (i:Nat):St:=⟨[(0,xX h),(1,.d F),(7,iv h.length),(8,iv i)],[],0⟩
attribute [push_cast] U4.eq_def
theorem j1 {g:Nat→Option Nat} (l:List D):(l.map V.d).map (V.sel g)=l.map V.d:=by rw [List.map_map];rfl
section
variable {G:Gl} {H:List (Int × Int)} {f:Nat} {caps:List D} {p:Int × Int→Bool}
theorem tQ (hl:H.length≤1000000) (he:cx Tryz.prog f=true) (hc : ∀x∈H,an Tryz.prog G f (.d (bA x)::caps.map .d) [] 0 (bv (p x)) []) (i:Nat) (x:Int × Int) (hx:H[i]? = some x) (hp:p x=true) (hn : ∀(k:Nat) y,k<i→H[k]? = some y→p y=false) :
 an Tryz.prog G 213 [xX H,.d (.fn f caps)] [] 0 (iv i) []:=by
 have hi:=(List.getElem?_eq_some_iff.1 hx).1;refine vF ab [0,1,4,5,7,8,9,16] Tryz.func213 rfl Tryz.results213 Tryz.ntmps213 ?_;(refine' zg)
 refine vL (lv:=[0,1,4,5,7,8,9,16]) ab (U4 H (.fn f caps)) (fun k=>k≤i) (fun k=>i - k) (0) ((aC.go [0,1,7,8] (by exact vT) rfl)) ?_ ?_
 ·exact Nat.zero_le _
 intro k hk;obtain ⟨y,hy⟩ : ∃y,H[k]? = some y:=⟨_,List.getElem?_eq_getElem (by omega)⟩
 have hcy:=hc y (List.mem_of_getElem? hy);rcases Nat.lt_or_ge k i with hlt|hge
 ·rw [hn k y hlt hy] at hcy;(refine' zg)
  refine aI.is k y (by omega) hy ?_;(repeat' (first|(with_reducible refine vC hcy ?_ he (j1 (bA y::caps)) rfl)|(refine' zq)|fail))
  refine aG.go (k+1) [0,1,7,8] (by exact vT) ?_ ?_
  ·show i - (k+1)<i - k;omega
  ·exact hlt
 ·obtain rfl:k=i:=by omega
  rw [hx] at hy;injection hy with hy;subst hy;rw [hp] at hcy;(refine' zg)
  refine aI.is k x (by omega) hx ?_;(repeat' (first|(with_reducible refine vC hcy ?_ he (j1 (bA x::caps)) rfl)|with_reducible refine ae.out ?_|(refine' zq)|fail))
theorem wK (hl:H.length≤1000000) (he:cx Tryz.prog f=true) (hc : ∀x∈H,an Tryz.prog G f (.d (bA x)::caps.map .d) [] 0 (bv (p x)) []) (hn : ∀x∈H,p x=false) :
 an Tryz.prog G 213 [xX H,.d (.fn f caps)] [] 0 (iv (-1)) []:=by
 refine vF ab [0,1,4,5,7,8,9,16] Tryz.func213 rfl Tryz.results213 Tryz.ntmps213 ?_;(refine' zg)
 refine vL (lv:=[0,1,4,5,7,8,9,16]) ab (U4 H (.fn f caps)) (fun k=>k≤H.length) (fun k=>H.length - k) (0) ((aC.go [0,1,7,8] (by exact vT) rfl)) ?_ ?_
 ·exact Nat.zero_le _
 intro k hk;(refine' zo)
 refine aI.intro fun y hy =>?_
 have hcy:=hc y (List.mem_of_getElem? hy);rw [hn y (List.mem_of_getElem? hy)] at hcy;(repeat' (first|(with_reducible refine vC hcy ?_ he (j1 (bA y::caps)) rfl)|(refine' zq)|fail))
 refine aG.go (k+1) [0,1,7,8] (by exact vT) ?_ ?_
 ·show H.length - (k+1)<H.length - k;omega
 ·show k+1≤H.length;omega
theorem nn (hl:H.length≤1000000) (he:cx Tryz.prog f=true) (hc : ∀x∈H,an Tryz.prog G f (.d (bA x)::caps.map .d) [] 0 (bv (p x)) []) (i:Nat) (x:Int × Int) (hx:H[i]? = some x) (hp:p x=true) (hn : ∀(k:Nat) y,k<i→H[k]? = some y→p y=false) :
 an Tryz.prog G 158 [xX H,.d (.fn f caps)] [] 0 (bv true) []:=by
 have r1:=tQ hl he hc i x hx hp hn;have e:decide ((0:Int)≤(i:Int))=true:=by simp
 rw [←e];refine vF ab [0,1,4] Tryz.func158 rfl Tryz.results158 Tryz.ntmps158 ?_;(refine' kW r1)
theorem pq (hl:H.length≤1000000) (he:cx Tryz.prog f=true) (hc : ∀x∈H,an Tryz.prog G f (.d (bA x)::caps.map .d) [] 0 (bv (p x)) []) (hn : ∀x∈H,p x=false) :
 an Tryz.prog G 158 [xX H,.d (.fn f caps)] [] 0 (bv false) []:=by
 have r1:=wK hl he hc hn;refine vF ab [0,1,4] Tryz.func158 rfl Tryz.results158 Tryz.ntmps158 ?_;(refine' kW r1)
 rfl
end
end Go.Proofs.YtkkanlcjjpoklaaGreatDoor
