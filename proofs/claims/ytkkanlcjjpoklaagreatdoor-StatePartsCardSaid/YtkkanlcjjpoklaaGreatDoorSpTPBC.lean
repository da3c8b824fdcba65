/- What the theorem leans on, part 29. -/
import Derived.Test.YtkkanlcjjpoklaaGreatDoorSpTPAE
import Derived.Test.YtkkanlcjjpoklaaGreatDoorSpTPAP
import Derived.Test.YtkkanlcjjpoklaaGreatDoorSpTPAV
import Derived.Test.YtkkanlcjjpoklaaGreatDoorSpTPBA
import Derived.Test.YtkkanlcjjpoklaaGreatDoorSpTPBB
set_option linter.unusedSimpArgs false
set_option linter.unusedVariables false
set_option maxRecDepth 8000
namespace Go.Proofs.YtkkanlcjjpoklaaGreatDoor
theorem yd (l:List Sn) (hl:0<l.length) (hl2:l.length≤100000):aq Tryz.prog G0 65 [.d (.sd 2 false (l.map dk))] [] 0 (.so 0 2 0 l.length) [(0,.row 2 (l.map dk))]:=by
 rcases l with _|⟨x,r⟩
 ·simp at hl
 simp only [List.map_cons];have hr:r.length≤100000:=by simp at hl2;omega
 refine vF ab [0,2,4] Tryz.func65 rfl Tryz.results65 Tryz.ntmps65 ?_;(refine' zg)
 refine ah.now [20] (by decide) ?_;(refine' zg)
 exact ay _
theorem vp:aq Tryz.prog G0 65 [.d ap] [] 0 (.d ap) []:=by
 refine vF ab [0,2,4] Tryz.func65 rfl Tryz.results65 Tryz.ntmps65 ?_;(refine' zo)
theorem ye:aq Tryz.prog G0 65 [.d (.ne 2)] [] 0 (.d (.sd 2 false [])) []:=by
 refine vF ab [0,2,4] Tryz.func65 rfl Tryz.results65 Tryz.ntmps65 ?_;(refine' zg)
 refine ah.frz 20 (ah.out ?_);(refine' zg)
theorem rB:aq Tryz.prog G0 65 [.d (.sd 2 false [])] [] 0 (.d (.sd 2 false [])) []:=aq.nilOr 2 false (aq.nil 2 false vp) ye
theorem DT:aq Tryz.prog G0 66 [.d (.sd 2 false []),.d (.fn 67 [])] [] 0 (.tup []) []:=Dq G0 M0 300 (by kernel_rfl)
theorem sV (n:Int) (hn:0≤n∧n≤1099511627776):aq Tryz.prog G0 24 [iv n,.d (.sd 2 false [])] [] 0 (.tup [.d (.pd 3 [.agg [iD n,.sd 2 false [],.sd 2 false []]] 0 0),iv 0]) []:=by
 have r1:=rB;have r2:=DT;refine vF ab [0,1,4,5,6,8,10,11,13,14,15,22,27,28,29,30,45,52,70,71,72,73,96] Tryz.func24 rfl Tryz.results24 Tryz.ntmps24 ?_;(refine' Fo r1 r2)
 refine vL (lv:=[0,1,4,5,6,8,10,11,13,14,15,22,27,28,29,30,45,52,70,71,72,73,96]) ab (fun _:Unit=>(⟨[(0,iv n),(1,.d (.sd 2 false [])),(6,.mo 0),(27,.d (.sd 2 false [])),(28,iv 0),(29,iv 0)],[(0,.map [])],1⟩:St)) (fun _=>True) (fun _=>0) (()) ((aN.go [0,1,6,27,28,29] (by exact vT) rfl)) ?_ ?_
 ·trivial
 rintro ⟨⟩ -
 (refine' Fo r1 r2)
 refine vL (lv:=[0,1,4,5,6,8,10,11,13,14,15,22,27,28,29,30,45,52,70,71,72,73,96]) ab (fun _:Unit=>(⟨[(11,.po 0 0),(70,.d (.sd 2 false [])),(71,iv 0),(72,iv 0)],[(0,.cell [iv n,.d (.sd 2 false []),.so 1 2 0 0]),(1,.row 2 [])],2⟩:St)) (fun _=>True) (fun _=>0) (()) (aN.nilC 21 2 2<|(aN.go [11,70,71,72] (by exact vT) rfl)) ?_ ?_
 ·trivial
 rintro ⟨⟩ -
 (refine' zg)
 refine ah.frz 1 (ah.frz 0 (ah.out ?_));(refine' zg)
 all_goals rfl
abbrev KR (n:Int) (l:List Sn):D:= .pd 3 [.agg [iD n,.sd 2 false ((jI l).map dk),.sd 2 false ((xM (jI l)).map dk)]] 0 0
theorem zp (n:Int) (x:D) (H:List Sn) (hl:H.length≤100000):aq Tryz.prog G0 70 [.d (.pd 3 [.agg [iD n,x,.sd 2 false (H.map dk)]] 0 0)] [] 0 (.d (.sd 2 false (H.map dk))) []:=by
 rcases H with _|⟨y,t⟩
 ·have r1:=rB;simp only [List.map_nil];refine vF ab [0,2,4] Tryz.func70 rfl Tryz.results70 Tryz.ntmps70 ?_;(refine' qe r1)
 ·have r1:=yd (y::t) (by simp) hl;simp only [List.map_cons] at r1 ⊢;refine vF ab [0,2,4] Tryz.func70 rfl Tryz.results70 Tryz.ntmps70 ?_;(refine' Ku r1)
  refine ah.frz 28 (ah.out ?_);(refine' zg)
  all_goals (try rw [List.take_of_length_le (by simp)])
end Go.Proofs.YtkkanlcjjpoklaaGreatDoor
