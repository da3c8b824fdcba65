/- What the theorem leans on, part 23. -/
import Derived.Test.YtkkanlcjjpoklaaGreatDoorSpTPAI
import Derived.Test.YtkkanlcjjpoklaaGreatDoorSpTPAT
import Derived.Test.YtkkanlcjjpoklaaGreatDoorSpTPAV
set_option linter.unusedSimpArgs false
set_option linter.unusedVariables false
set_option maxRecDepth 8000
namespace Go.Proofs.YtkkanlcjjpoklaaGreatDoor
def sF (x:Iy):Iy:=(x.1,x.2.1,x.2.2.1,x.2.2.2.1,c8 (aa x.2.2.2.2 0))
def oB (n:Int):List Int→List Iy→Int
 | _,[]=>0
 | seen,x::r=>if t6 n x≠0 then t6 n x else if x.1∈seen then 8 else oB n (seen++[x.1]) r
end Go.Proofs.YtkkanlcjjpoklaaGreatDoor
