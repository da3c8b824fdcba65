/- What the theorem leans on, part 7. -/
import Derived.Test.YthnooilghadjkaaGreatDoorWindowAllPA
import Derived.Test.YthnooilghadjkaaGreatDoorWindowAllPB
import Derived.Test.YthnooilghadjkaaGreatDoorWindowAllPC
import Derived.Test.YthnooilghadjkaaGreatDoorWindowAllPD
import Derived.Test.YthnooilghadjkaaGreatDoorWindowAllPE
import Derived.Test.YthnooilghadjkaaGreatDoorWindowAllPF
set_option linter.unusedSimpArgs false
set_option linter.unusedVariables false
set_option maxRecDepth 8000
namespace Go.Proofs.YthnooilghadjkaaGreatDoor
namespace SrtIy
end SrtIy
end Go.Proofs.YthnooilghadjkaaGreatDoor
set_option linter.unusedSimpArgs false
set_option linter.unusedVariables false
set_option maxRecDepth 8000
namespace Go.Proofs.YthnooilghadjkaaGreatDoor
namespace SrtIy
end SrtIy
end Go.Proofs.YthnooilghadjkaaGreatDoor
set_option linter.unusedSimpArgs false
set_option linter.unusedVariables false
set_option maxRecDepth 8000
namespace Go.Proofs.YthnooilghadjkaaGreatDoor
namespace SrtIy
end SrtIy
end Go.Proofs.YthnooilghadjkaaGreatDoor
set_option linter.unusedSimpArgs false
set_option linter.unusedVariables false
set_option maxRecDepth 8000
namespace Go.Proofs.YthnooilghadjkaaGreatDoor
namespace SrtIy
end SrtIy
end Go.Proofs.YthnooilghadjkaaGreatDoor
set_option linter.unusedSimpArgs false
set_option linter.unusedVariables false
set_option maxRecDepth 8000
namespace Go.Proofs.YthnooilghadjkaaGreatDoor
namespace SrtIy
end SrtIy
end Go.Proofs.YthnooilghadjkaaGreatDoor
set_option linter.unusedSimpArgs false
set_option linter.unusedVariables false
set_option maxRecDepth 8000
namespace Go.Proofs.YthnooilghadjkaaGreatDoor
namespace SrtIy
end SrtIy
end Go.Proofs.YthnooilghadjkaaGreatDoor
set_option linter.unusedSimpArgs false
set_option linter.unusedVariables false
set_option maxRecDepth 8000
namespace Go.Proofs.YthnooilghadjkaaGreatDoor
namespace SrtIy
end SrtIy
end Go.Proofs.YthnooilghadjkaaGreatDoor
set_option linter.unusedSimpArgs false
set_option linter.unusedVariables false
set_option maxRecDepth 8000
namespace Go.Proofs.YthnooilghadjkaaGreatDoor
namespace SrtIy
end SrtIy
end Go.Proofs.YthnooilghadjkaaGreatDoor
set_option linter.unusedSimpArgs false
set_option linter.unusedVariables false
set_option maxRecDepth 8000
namespace Go.Proofs.YthnooilghadjkaaGreatDoor
namespace SrtIy
end SrtIy
end Go.Proofs.YthnooilghadjkaaGreatDoor
