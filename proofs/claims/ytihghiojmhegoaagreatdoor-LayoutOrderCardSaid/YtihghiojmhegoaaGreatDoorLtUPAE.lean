/- What the theorem leans on, part 5. -/
import Derived.Test.YtihghiojmhegoaaGreatDoorLtUPAC
set_option linter.defProp false
namespace Go.Proofs.YtihghiojmhegoaaGreatDoor
def SS :=@And.intro _ _ @stepW_move <| @And.intro _ _ @stepW_assign <| @And.intro _ _ @stepW_binOp <| @And.intro _ _ @stepW_unOp <| @And.intro _ _ @stepW_fieldAddr <| @And.intro _ _ @stepW_field <| @And.intro _ _ @stepW_load <| @And.intro _ _ @stepW_pick <| @And.intro _ _ @stepW_len <| @And.intro _ _ @stepW_indexAddr <| @And.intro _ _ @quietW_move <| @And.intro _ _ @quietW_assign <| @And.intro _ _ @quietW_binOp <| @And.intro _ _ @quietW_unOp <| @And.intro _ _ @quietW_fieldAddr <| @And.intro _ _ @quietW_field <| @And.intro _ _ @quietW_load <| @And.intro _ _ @quietW_pick <| @And.intro _ _ @quietW_len <| @quietW_indexAddr
theorem sig_get_c (k t:Nat) (b:Blk) (r:Sig):Sig.get ((k,b)::r) t=if k=t then some b else Sig.get r t:=by rw [Sig.get]
theorem vRQ {p q:Prop} (h:q) (e:p=q:=by simp -implicitDefEqProofs -dsimp (maxSteps:=3000000) only [push_cast,↓RR,↓SS,↓sig_get_c,↓reduceIte,Nat.reduceMul,Nat.reduceAdd,Nat.reduceSub,Nat.reduceEqDiff,Nat.reduceBeqDiff,Nat.reduceLeDiff,Nat.reduceLT,reduceCtorEq,Int.reduceToNat];exact rfl):p:=e▸h
end Go.Proofs.YtihghiojmhegoaaGreatDoor
