/- What the theorem leans on, part 42. -/
import Derived.Test.YtihghiojmhegoaaGreatDoorLtUPBD
import Derived.Test.YtihghiojmhegoaaGreatDoorLtUPBO
set_option linter.unusedSimpArgs false
set_option linter.unusedVariables false
set_option maxRecDepth 8000
namespace Go.Proofs.YtihghiojmhegoaaGreatDoor
theorem wPlain_fn:OFn Tryz.prog G0 25 [] [] 0 (.d (tbD zT wT)) []:=getsG G0 M0 400 (by kernel_rfl)
set_option maxHeartbeats 6400000 in
theorem view_fn {s:ByteArray} {L:List Iy} {F:List Sn} {tab:Nat} {wd:Int} (h:OkD s L F tab wd) : ∃ps t,Rp (runesAt s 0) ps t∧OFn Tryz.prog G0 10 [dcV s L F tab wd] [] 0 (.tup [vwV s L F tab wd t,bv true]) []:=by
  have hh:=h.hl
  obtain ⟨k1,k2,k3,k4,k5,k6,k7,k8⟩:=h
  have hl:=runesAt_len s s.size 0 (by omega)
  obtain ⟨ps,t,R,r2⟩:=rNew_fn s (by omega) (by omega)
  have r1:=Count_fn s (by omega)
  refine ⟨ps,t,R,?_⟩
  rw [vwV]
  generalize runesAt s 0=l at *
  have r3:=iNew_all l.length L (by omega) k2 (fun x h=>by have:=k6 x h;omega) k7
  have r4:=fdNew_fn l.length F (by omega) k3 k8
  have r5:OFn Tryz.prog G0 28 [.d (fdD l.length F)] [] 0 (.d (.sd 2 false ((hidSr F).map snD))) []:=fHid_fn l.length _ (hidSr F) (by omega)
  have r6:=wPlain_fn
  simp only [ropeD,inlD] at r2 r3 ⊢
  generalize inlL (insA L)=X at *
  refine vF mixed [0,1,2,3,4,5,6,7,8,9,10,11] Tryz.func10 rfl Tryz.results10 Tryz.ntmps10 ?_
  (repeat' (first|(with_reducible first|exact True.intro|refine vD ?_|refine vG ?_|refine vE ?_)|with_reducible refine vC (r1) ?_|with_reducible refine vC (r2) ?_|with_reducible refine vC (r3) ?_|with_reducible refine vC (r4) ?_|with_reducible refine vC (r5) ?_|with_reducible refine vQ (r6) ?_|(refine vRS ?_)|with_reducible refine DoneW.out ?_|refine vR ?_|refine v6 ?_|with_reducible refine vN ?_|((with_reducible first|refine vB (fun h =>?_) (fun h =>?_)|refine vM (fun h =>?_) (fun h =>?_))<;>(first|(exfalso;omega)|skip))))
end Go.Proofs.YtihghiojmhegoaaGreatDoor
