/- What the theorem leans on, part 27. -/
import Derived.Test.YtkkanlcjjpoklaaGreatDoorSpTPAH
set_option linter.unusedSimpArgs false
set_option linter.unusedVariables false
set_option maxRecDepth 8000
namespace Go.Proofs.YtkkanlcjjpoklaaGreatDoor
namespace SrtSn
abbrev Bk:=Int × Int
def cB (x y:Bk):Int:=if qo x.1 y.1≠0 then qo x.1 y.1 else qo x.2 y.2
abbrev Kk (x y:Bk):Prop:=cB x y<0
theorem dN (x y:Bk):cB x y<0↔x.1<y.1∨(x.1=y.1∧x.2<y.2):=by
 unfold cB qo;repeat' split
 all_goals omega
theorem Pn:Wk Kk:=⟨fun x y h k=>by have h:=(dN _ _).1 h;have k:=(dN _ _).1 k;omega,fun x y z h k l=>by have h:=mt (dN x y).2 h;have k:=mt (dN y z).2 k;have l:=(dN _ _).1 l;omega⟩
end SrtSn
namespace SrtSn
end SrtSn
namespace SrtSn
end SrtSn
namespace SrtSn
end SrtSn
namespace SrtSn
end SrtSn
namespace SrtSn
end SrtSn
namespace SrtSn
end SrtSn
namespace SrtSn
end SrtSn
namespace SrtSn
end SrtSn
end Go.Proofs.YtkkanlcjjpoklaaGreatDoor
