/- What the theorem leans on, part 7. -/
import Derived.Test.YthnooilghadjkaaGreatDoorWindowLinesPA
import Derived.Test.YthnooilghadjkaaGreatDoorWindowLinesPB
import Derived.Test.YthnooilghadjkaaGreatDoorWindowLinesPC
import Derived.Test.YthnooilghadjkaaGreatDoorWindowLinesPD
import Derived.Test.YthnooilghadjkaaGreatDoorWindowLinesPE
import Derived.Test.YthnooilghadjkaaGreatDoorWindowLinesPF
set_option linter.unusedSimpArgs false
set_option linter.unusedVariables false
set_option maxRecDepth 8000
namespace Go.Proofs.YthnooilghadjkaaGreatDoor
namespace SrtIy
end SrtIy
end Go.Proofs.YthnooilghadjkaaGreatDoor
set_option linter.unusedSimpArgs false
set_option linter.unusedVariables false
set_option maxRecDepth 8000
namespace Go.Proofs.YthnooilghadjkaaGreatDoor
namespace SrtIy
end SrtIy
end Go.Proofs.YthnooilghadjkaaGreatDoor
set_option linter.unusedSimpArgs false
set_option linter.unusedVariables false
set_option maxRecDepth 8000
namespace Go.Proofs.YthnooilghadjkaaGreatDoor
namespace SrtIy
end SrtIy
end Go.Proofs.YthnooilghadjkaaGreatDoor
set_option linter.unusedSimpArgs false
set_option linter.unusedVariables false
set_option maxRecDepth 8000
namespace Go.Proofs.YthnooilghadjkaaGreatDoor
namespace SrtIy
end SrtIy
end Go.Proofs.YthnooilghadjkaaGreatDoor
set_option linter.unusedSimpArgs false
set_option linter.unusedVariables false
set_option maxRecDepth 8000
namespace Go.Proofs.YthnooilghadjkaaGreatDoor
namespace SrtIy
end SrtIy
end Go.Proofs.YthnooilghadjkaaGreatDoor
set_option linter.unusedSimpArgs false
set_option linter.unusedVariables false
set_option maxRecDepth 8000
namespace Go.Proofs.YthnooilghadjkaaGreatDoor
namespace SrtIy
end SrtIy
end Go.Proofs.YthnooilghadjkaaGreatDoor
set_option linter.unusedSimpArgs false
set_option linter.unusedVariables false
set_option maxRecDepth 8000
namespace Go.Proofs.YthnooilghadjkaaGreatDoor
namespace SrtIy
end SrtIy
end Go.Proofs.YthnooilghadjkaaGreatDoor
set_option linter.unusedSimpArgs false
set_option linter.unusedVariables false
set_option maxRecDepth 8000
namespace Go.Proofs.YthnooilghadjkaaGreatDoor
namespace SrtIy
end SrtIy
end Go.Proofs.YthnooilghadjkaaGreatDoor
set_option linter.unusedSimpArgs false
set_option linter.unusedVariables false
set_option maxRecDepth 8000
namespace Go.Proofs.YthnooilghadjkaaGreatDoor
namespace SrtIy
end SrtIy
end Go.Proofs.YthnooilghadjkaaGreatDoor
