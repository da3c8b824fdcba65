/- What the theorem leans on, part 32. -/
import Derived.Test.YtkkanlcjjpoklaaGreatDoorStVPBD
import Derived.Test.YtkkanlcjjpoklaaGreatDoorStVPBE
set_option linter.unusedSimpArgs false
set_option linter.unusedVariables false
set_option maxRecDepth 8000
namespace Go.Proofs.YtkkanlcjjpoklaaGreatDoor
abbrev UQ (r:Rw):D:= .agg [.sd 4 false (r.1.map iL),iD r.2.1,iD r.2.2.1,iD r.2.2.2.1,.lit (.bool r.2.2.2.2.1),.lit (.bool r.2.2.2.2.2.1),iD r.2.2.2.2.2.2]
abbrev vwD (rp il hd:D) (z w:List (Int × Int)) (tab:Nat) (wd:Int):D:= .agg [rp,il,hd,wo z w,iD tab,iD wd]
end Go.Proofs.YtkkanlcjjpoklaaGreatDoor
