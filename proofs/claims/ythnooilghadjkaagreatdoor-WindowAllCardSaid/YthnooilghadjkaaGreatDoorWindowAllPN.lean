/- What the theorem leans on, part 14. -/
import Derived.Test.YthnooilghadjkaaGreatDoorWindowAllPA
import Derived.Test.YthnooilghadjkaaGreatDoorWindowAllPB
import Derived.Test.YthnooilghadjkaaGreatDoorWindowAllPC
import Derived.Test.YthnooilghadjkaaGreatDoorWindowAllPD
import Derived.Test.YthnooilghadjkaaGreatDoorWindowAllPE
import Derived.Test.YthnooilghadjkaaGreatDoorWindowAllPF
import Derived.Test.YthnooilghadjkaaGreatDoorWindowAllPG
import Derived.Test.YthnooilghadjkaaGreatDoorWindowAllPH
import Derived.Test.YthnooilghadjkaaGreatDoorWindowAllPI
import Derived.Test.YthnooilghadjkaaGreatDoorWindowAllPJ
import Derived.Test.YthnooilghadjkaaGreatDoorWindowAllPK
import Derived.Test.YthnooilghadjkaaGreatDoorWindowAllPL
set_option linter.unusedSimpArgs false
set_option linter.unusedVariables false
namespace Go.Proofs.YthnooilghadjkaaGreatDoor
section
variable {P : Program} {G : Gl} {g : Operand → V} {σ : Sig} {id : Nat} {K : V → Sig → Prop}
theorem stepW_makeMap (t : Nat) : stepW P G (.makeMap t none) g σ id K = K (.mo id) (σ ++ [(id, .map [])]) := by
  simp [stepW, stepR, quietR, pureR, callR, aR, eR, resQ, ndW]
end
attribute [push_cast] stepW_makeMap muR.eq_def luR.eq_def
end Go.Proofs.YthnooilghadjkaaGreatDoor
set_option linter.unusedSimpArgs false
set_option linter.unusedVariables false
set_option maxRecDepth 8000
namespace Go.Proofs.YthnooilghadjkaaGreatDoor
end Go.Proofs.YthnooilghadjkaaGreatDoor
