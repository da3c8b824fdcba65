/- What the theorem leans on, part 38. -/
import Derived.Test.YtkkanlcjjpoklaaGreatDoorSpTPBC
import Derived.Test.YtkkanlcjjpoklaaGreatDoorSpTPBK
set_option linter.unusedSimpArgs false
set_option linter.unusedVariables false
set_option maxRecDepth 8000
namespace Go.Proofs.YtkkanlcjjpoklaaGreatDoor
theorem Cf:aq Tryz.prog G0 131 [] [] 0 (.d (z6 zT wT)) []:=Dq G0 M0 400 (by kernel_rfl)
end Go.Proofs.YtkkanlcjjpoklaaGreatDoor
