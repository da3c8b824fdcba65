/- What the theorem leans on, part 20. -/
import Derived.Test.YtkkanlcjjpoklaaGreatDoorSpTPAE
import Derived.Test.YtkkanlcjjpoklaaGreatDoorSpTPAS
set_option linter.unusedSimpArgs false
set_option linter.unusedVariables false
set_option maxRecDepth 8000
namespace Go.Proofs.YtkkanlcjjpoklaaGreatDoor

theorem ci (s:ByteArray) : ∀(k i:Nat),s.size - i≤k→(aa s i).length≤s.size - i
 | 0,i,hk=>by rw [cj (by omega)];exact Nat.zero_le _
 | k+1,i,hk=>by
  by_cases hlt:i<s.size
  ·have h1:=j4 s i;have h2:=ci s k (i+(Utf8.decode s i).2) (by omega);rw [eI hlt,List.length_cons];omega
  ·rw [cj hlt];exact Nat.zero_le _
section
variable {G:Gl}
def t6 (n:Int) (x:Iy):Int:=
 if x.1<1∨x.2.1<0∨n<x.2.1∨(x.2.2.1≠0∧x.2.2.1≠1) then 1
 else if 40<(aa x.2.2.2.2 0).length then 2
 else if x.2.2.2.2=⟨#[]⟩∨0<aO (aa x.2.2.2.2 0) then 4 else 0
end
end Go.Proofs.YtkkanlcjjpoklaaGreatDoor
