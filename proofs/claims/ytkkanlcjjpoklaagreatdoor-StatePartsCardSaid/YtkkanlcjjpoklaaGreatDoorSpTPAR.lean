/- What the theorem leans on, part 18. -/
import Derived.Test.YtkkanlcjjpoklaaGreatDoorSpTPAD
import Derived.Test.YtkkanlcjjpoklaaGreatDoorSpTPAG
set_option linter.unusedSimpArgs false
set_option linter.unusedVariables false
namespace Go.Proofs.YtkkanlcjjpoklaaGreatDoor
inductive Pz where
 | tx (k a:Int) (rs:List Int)
 | fo (a:Int)
def nq:Pz→D
 | .tx k a rs=> .agg [iD k,iD a,.sd 1 false (rs.map gu)]
 | .fo a=> .agg [iD 3,iD a,ap]
attribute [push_cast] nq.eq_1 nq.eq_2
abbrev GU (l:List Pz):bu:= .row 3 (l.map nq)
theorem tN (es:List Pz) (x:Pz):es.map nq++[nq x]=(es++[x]).map nq:=by rw [List.map_append];rfl
end Go.Proofs.YtkkanlcjjpoklaaGreatDoor
