/- What the theorem leans on, part 30. -/
import Derived.Test.YtihghiojmhegoaaGreatDoorLtUPBC
set_option linter.unusedSimpArgs false
set_option linter.unusedVariables false
set_option maxRecDepth 8000
namespace Go.Proofs.YtihghiojmhegoaaGreatDoor
theorem nSClone_ne:OFn Tryz.prog G0 52 [.d (.ne 2)] [] 0 (.d (.sd 2 false [])) []:=by
  refine vF mixed [0,2,4] Tryz.func52 rfl Tryz.results52 Tryz.ntmps52 ?_
  (refine' zg)
  refine DoneW.frz 20 (DoneW.out ?_)
  (refine' zg)
theorem nSClone_e:OFn Tryz.prog G0 52 [.d (.sd 2 false [])] [] 0 (.d (.sd 2 false [])) []:=OFn.nilOr 2 false (OFn.nil 2 false nSClone_nil) nSClone_ne
theorem nsSort_e:OFn Tryz.prog G0 53 [.d (.sd 2 false []),.d (.fn 54 [])] [] 0 (.tup []) []:=getsG G0 M0 300 (by kernel_rfl)
theorem fdNew_e (n:Int) (hn:0≤n∧n≤1099511627776):OFn Tryz.prog G0 27 [iv n,.d (.sd 2 false [])] [] 0 (.tup [.d (.pd 3 [.agg [iD n,.sd 2 false [],.sd 2 false []]] 0 0),iv 0]) []:=by
  have r1:=nSClone_e
  have r2:=nsSort_e
  refine vF mixed [0,1,4,5,6,8,10,11,13,14,15,22,27,28,29,30,45,52,70,71,72,73,96] Tryz.func27 rfl Tryz.results27 Tryz.ntmps27 ?_
  (refine' zg2 r1 r2)
  refine vL (lv:=[0,1,4,5,6,8,10,11,13,14,15,22,27,28,29,30,45,52,70,71,72,73,96]) mixed (fun _:Unit=>(⟨[(0,iv n),(1,.d (.sd 2 false [])),(6,.mo 0),(27,.d (.sd 2 false [])),(28,iv 0),(29,iv 0)],[(0,.map [])],1⟩:St)) (fun _=>True) (fun _=>0) (()) ((GhW.go [0,1,6,27,28,29] (by exact vT) rfl)) ?_ ?_
  · trivial
  rintro ⟨⟩ -
  (refine' zg2 r1 r2)
  refine vL (lv:=[0,1,4,5,6,8,10,11,13,14,15,22,27,28,29,30,45,52,70,71,72,73,96]) mixed (fun _:Unit=>(⟨[(11,.po 0 0),(70,.d (.sd 2 false [])),(71,iv 0),(72,iv 0)],[(0,.cell [iv n,.d (.sd 2 false []),.so 1 2 0 0]),(1,.row 2 [])],2⟩:St)) (fun _=>True) (fun _=>0) (()) (GhW.nilC 21 2 2<|(GhW.go [11,70,71,72] (by exact vT) rfl)) ?_ ?_
  · trivial
  rintro ⟨⟩ -
  (refine' zg)
  refine DoneW.frz 1 (DoneW.frz 0 (DoneW.out ?_))
  (refine' zg)
  all_goals rfl
abbrev fdD (n:Int) (l:List Sn):D:= .pd 3 [.agg [iD n,.sd 2 false ((srtF l).map snD),.sd 2 false ((hidF (srtF l)).map snD)]] 0 0
theorem fdNew_fn (n:Int) (l:List Sn) (hn:0≤n∧n≤1099511627776) (hl2:l.length≤60) (he:flErr n [] l=0) :
    OFn Tryz.prog G0 27 [iv n,.d (.sd 2 false (l.map snD))] [] 0 (.tup [.d (fdD n l),iv 0]) []:=by
  rcases l with _|⟨x,t⟩
  · exact fdNew_e n hn
  · obtain ⟨ys,⟨hp,hs⟩,hf⟩:=fdNew_ex n (x::t) hn (by simp) hl2 he
    have e:ys=srtF (x::t):=insF_uniq ltSn wkSn trSn hp hs fun a b _ _ h1 h2=>by
      unfold ltSn at h1 h2
      exact Prod.ext (by omega) (by omega)
    rw [e] at hf
    exact hf
theorem fHid_fn (n:Int) (x:D) (H:List Sn) (hl:H.length≤100000):OFn Tryz.prog G0 28 [.d (.pd 3 [.agg [iD n,x,.sd 2 false (H.map snD)]] 0 0)] [] 0 (.d (.sd 2 false (H.map snD))) []:=by
  rcases H with _|⟨y,t⟩
  · have r1:=nSClone_e
    simp only [List.map_nil]
    refine vF mixed [0,2,4] Tryz.func28 rfl Tryz.results28 Tryz.ntmps28 ?_
    (refine' zo1 r1)
  · have r1:=nSClone_fn (y::t) (by simp) hl
    simp only [List.map_cons] at r1 ⊢
    refine vF mixed [0,2,4] Tryz.func28 rfl Tryz.results28 Tryz.ntmps28 ?_
    (refine' zgK r1)
    refine DoneW.frz 28 (DoneW.out ?_)
    (refine' zg)
    all_goals (try rw [List.take_of_length_le (by simp)])
end Go.Proofs.YtihghiojmhegoaaGreatDoor
