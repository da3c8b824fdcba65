/- What the theorem leans on, part 30. -/
import Derived.Test.YtkkanlcjjpoklaaGreatDoorStVPBC
set_option linter.unusedSimpArgs false
set_option linter.unusedVariables false
set_option maxRecDepth 8000
namespace Go.Proofs.YtkkanlcjjpoklaaGreatDoor

end Go.Proofs.YtkkanlcjjpoklaaGreatDoor
