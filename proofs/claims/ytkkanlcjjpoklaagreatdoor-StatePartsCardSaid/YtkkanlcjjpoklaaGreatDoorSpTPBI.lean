/- What the theorem leans on, part 35. -/
import Derived.Test.YtkkanlcjjpoklaaGreatDoorSpTPBG
import Derived.Test.YtkkanlcjjpoklaaGreatDoorSpTPBH
set_option linter.unusedSimpArgs false
set_option linter.unusedVariables false
set_option maxRecDepth 8000
namespace Go.Proofs.YtkkanlcjjpoklaaGreatDoor
abbrev M1 (rp il hd:D) (z w:List (Int × Int)) (tab:Nat) (wd:Int):D:= .agg [rp,il,hd,z6 z w,iD tab,iD wd]
end Go.Proofs.YtkkanlcjjpoklaaGreatDoor
