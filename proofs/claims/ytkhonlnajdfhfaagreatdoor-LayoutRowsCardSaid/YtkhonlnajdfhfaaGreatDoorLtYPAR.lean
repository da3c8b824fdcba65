/- What the theorem leans on, part 18. -/
import Derived.Test.YtkhonlnajdfhfaaGreatDoorLtYPAD
import Derived.Test.YtkhonlnajdfhfaaGreatDoorLtYPAG
set_option linter.unusedSimpArgs false
set_option linter.unusedVariables false
namespace Go.Proofs.YtkhonlnajdfhfaaGreatDoor
inductive Pz where
 | tx (k a:Int) (rs:List Int)
 | fo (a:Int)
def pzD:Pz→D
 | .tx k a rs=> .agg [iD k,iD a,.sd 1 false (rs.map ruD)]
 | .fo a=> .agg [iD 3,iD a,nilSD]
attribute [push_cast] pzD.eq_1 pzD.eq_2
abbrev pzR (l:List Pz):Blk:= .row 3 (l.map pzD)
theorem snoc_pz (es:List Pz) (x:Pz):es.map pzD++[pzD x]=(es++[x]).map pzD:=by rw [List.map_append];rfl
end Go.Proofs.YtkhonlnajdfhfaaGreatDoor
