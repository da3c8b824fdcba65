/- What the theorem leans on, part 3. -/
import Derived.Test.YtkhonlnajdfhfaaDoorStTPAB
set_option linter.defProp false
set_option linter.unusedVariables false
namespace Go.Proofs.YtkhonlnajdfhfaaDoor
theorem F9 {p q:Prop} (h:q) (e:p=q:=by simp -implicitDefEqProofs -dsimp (maxSteps:=3000000) only [push_cast,↓RR,↓SS,↓ni,↓reduceIte,Nat.reduceMul,Nat.reduceAdd,Nat.reduceSub,Nat.reduceEqDiff,Nat.reduceBeqDiff,Nat.reduceLeDiff,Nat.reduceLT,reduceCtorEq,Int.reduceToNat];exact rfl):p:=e▸h

end Go.Proofs.YtkhonlnajdfhfaaDoor
