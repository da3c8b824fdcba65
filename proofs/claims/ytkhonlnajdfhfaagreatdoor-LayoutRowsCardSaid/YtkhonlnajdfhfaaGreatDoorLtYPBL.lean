/- What the theorem leans on, part 38. -/
import Derived.Test.YtkhonlnajdfhfaaGreatDoorLtYPBC
import Derived.Test.YtkhonlnajdfhfaaGreatDoorLtYPBK
set_option linter.unusedSimpArgs false
set_option linter.unusedVariables false
set_option maxRecDepth 8000
namespace Go.Proofs.YtkhonlnajdfhfaaGreatDoor
theorem wPlain_fn:OFn Tryz.prog G0 17 [] [] 0 (.d (tbD zT wT)) []:=getsG G0 M0 400 (by kernel_rfl)
set_option maxHeartbeats 6400000 in
theorem view_fn {s:ByteArray} {L:List Iy} {F:List Sn} {tab:Nat} {wd:Int} (h:OkD s L F tab wd) : ∃ps t,Rp (runesAt s 0) ps t∧OFn Tryz.prog G0 6 [dcV s L F tab wd] [] 0 (.tup [vwV s L F tab wd t,bv true]) []:=by
 have hh:=h.hl
 obtain ⟨k1,k2,k3,k4,k5,k6,k7,k8⟩:=h
 have hl:=runesAt_len s s.size 0 (by omega)
 obtain ⟨ps,t,R,r2⟩:=rNew_fn s (by omega) (by omega)
 have r1:=Count_fn s (by omega)
 refine ⟨ps,t,R,?_⟩
 rw [vwV]
 generalize runesAt s 0=l at *
 have r3:=iNew_all l.length L (by omega) k2 (fun x h=>by have:=k6 x h;omega) k7
 have r4:=fdNew_fn l.length F (by omega) k3 k8
 have r5:OFn Tryz.prog G0 20 [.d (fdD l.length F)] [] 0 (.d (.sd 2 false ((hidSr F).map snD))) []:=fHid_fn l.length _ (hidSr F) (by omega)
 have r6:=wPlain_fn
 simp only [ropeD,inlD] at r2 r3 ⊢
 generalize inlL (insA L)=X at *
 refine vF mixed [0,1,2,3,4,5,6,7,8,9,10,11] Tryz.func6 rfl Tryz.results6 Tryz.ntmps6 ?_
 (refine' zm60o r1 r2 r3 r4 r5 r6)
end Go.Proofs.YtkhonlnajdfhfaaGreatDoor
