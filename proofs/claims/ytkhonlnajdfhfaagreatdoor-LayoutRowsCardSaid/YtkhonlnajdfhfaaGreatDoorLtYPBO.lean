/- What the theorem leans on, part 41. -/
import Derived.Test.YtkhonlnajdfhfaaGreatDoorLtYPBC
import Derived.Test.YtkhonlnajdfhfaaGreatDoorLtYPBJ
set_option linter.unusedSimpArgs false
set_option linter.unusedVariables false
set_option maxRecDepth 8000
namespace Go.Proofs.YtkhonlnajdfhfaaGreatDoor
theorem rPlain_fn:OFn Tryz.prog G0 28 [] [] 0 (.d (tbD zT wT)) []:=getsG G0 M0 400 (by kernel_rfl)
abbrev ofV (s:ByteArray) (L:List Iy) (F:List Sn) (tab:Nat) (wd:Int):V:= .d (.agg [.sd 1 false ((runesAt s 0).map ruD),iD (runesAt s 0).length,.sd 5 false ((insA L).map iyD),iD 0,.sd 2 false ((hidSr F).map snD),tbD zT wT,iD tab,iD wd])
set_option maxHeartbeats 6400000 in
theorem rOf23_fn {s:ByteArray} {L:List Iy} {F:List Sn} {tab:Nat} {wd:Int} (h:OkD s L F tab wd):OFn Tryz.prog G0 10 [dcV s L F tab wd] [] 0 (ofV s L F tab wd) []:=by
 obtain ⟨k1,k2,k3,k4,k5,k6,k7,k8⟩:=h
 have hl:=runesAt_len s s.size 0 (by omega)
 have r1:=RDecode_fn s (by omega)
 rw [ofV]
 generalize runesAt s 0=l at *
 have r2:=rNew13_fn l.length (by omega) L k2 (fun x h=>by have:=k6 x h;omega)
 rw [newDV,if_pos k7] at r2
 have r3:=dfNew_fn l.length (by omega) F k3
 rw [flDV,if_pos k8] at r3
 have r4:=dHid_all l.length 0 (srtF F) (by rw [srtF_len];omega) (srtF_so F) (fun a ha=>by have:=((flErr_ok l.length F [] k8).1 a (srtF_mem.1 ha)).1;unfold badS at this;omega)
 have r5:=rPlain_fn
 refine vF mixed [0,1,2,3,4] Tryz.func10 rfl Tryz.results10 Tryz.ntmps10 ?_
 (refine' zo5 r1 r2 r3 r4 r5)
end Go.Proofs.YtkhonlnajdfhfaaGreatDoor
