/- What the theorem leans on, part 16. -/
import Derived.Test.YtkhonlnajdfhfaaGreatDoorLtYPAG
set_option linter.unusedSimpArgs false
set_option linter.unusedVariables false
set_option maxRecDepth 8000
namespace Go.Proofs.YtkhonlnajdfhfaaGreatDoor
abbrev snD (x:Int × Int):D:= .agg [iD x.1,iD x.2]
abbrev snL (l:List (Int × Int)):V:= .d (.sd 2 false (l.map snD))
theorem find_idx {α:Type} {p:α→Bool} : ∀ {l:List α} {x:α},l.find? p=some x → ∃i:Nat,l[i]? = some x∧p x=true ∧ ∀(k:Nat) y,k<i→l[k]? = some y→p y=false
 | [],x,h=>by cases h
 | y::r,x,h=>by
  rw [List.find?_cons] at h
  cases hp:p y with
  | true=>
   rw [hp] at h
   injection h with h
   subst h
   exact ⟨0,rfl,hp,fun k z hk=>by omega⟩
  | false=>
   rw [hp] at h
   obtain ⟨i,h1,h2,h3⟩:=find_idx h
   refine ⟨i+1,h1,h2,fun k z hk hz =>?_⟩
   cases k with
   | zero=>injection hz with hz;subst hz;exact hp
   | succ k=>exact h3 k z (by omega) hz
theorem sel_ds {g:Nat→Option Nat} (l:List D):(l.map V.d).map (V.sel g)=l.map V.d:=by rw [List.map_map];rfl
section
variable {G:Gl} {H:List (Int × Int)} {f:Nat} {caps:List D} {p:Int × Int→Bool}
end
end Go.Proofs.YtkhonlnajdfhfaaGreatDoor
