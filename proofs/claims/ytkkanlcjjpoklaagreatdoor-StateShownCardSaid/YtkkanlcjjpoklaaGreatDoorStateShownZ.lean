/- StateShown: the crease of the weave of a line's beginning is how many shown runes are ahead of it in the flow,for each line of any document. The small case that the statement asks holds. No condition. -/
import Derived.Test.YtkkanlcjjpoklaaGreatDoorCards
import Derived.Test.YtkkanlcjjpoklaaGreatDoorTie
import Derived.SevenTiedAt
import Derived.LaidMore
import Derived.Test.YtkkanlcjjpoklaaGreatDoorStVPBR
import Derived.Test.YtkkanlcjjpoklaaGreatDoorStVPBS
import Derived.Test.YtkkanlcjjpoklaaGreatDoorStVPBU
set_option linter.unusedSimpArgs false
namespace Go.Proofs.YtkkanlcjjpoklaaGreatDoor
open Go Go.ChangeShapes Go.WideShapes Go.ChangeAt Go.RowKit Go.Joins
set_option maxRecDepth 100000 in
theorem nY (os:Os) (started:os.Started) (H:Type) (enc:TypeId × Value→H) :
 ReturnsInHanded {} Tryz.checked os 8 .any (fun w args=>(Rows.stateShownSpec.pre enc Tryz.prog Tryz.f8 Rows.stateShownRow.domain false w args∧laidMetH Tryz.prog Rows.stateShownRow.laid w)∧sizedMet enc Tryz.prog Tryz.f8 (OpenSpec.ofChange Rows.stateShownSpec) false w args) (Rows.stateShownSpec.post enc Tryz.prog Tryz.f8 false true false false):=by
 refine returnsInHanded_of_change_and (C:=Tryz.checked) (X:=fun w _=>laidMetH Tryz.prog Rows.stateShownRow.laid w) (fun _ _ _ hh h=>h.of_heap hh) Tryz.own started (by kernel_rfl) Tryz.func8
  (ChangeSpec.witness_shaped (enc:=enc) (C:=Tryz.checked) (os:=os) (X:=fun w _=>laidMetH Tryz.prog Rows.stateShownRow.laid w) false (World.doorLaid Tryz.prog 60 os) #[.agg #[.string ⟨#[]⟩,.slice none 0 0,.slice none 0 0,.int .i64 0,.int .i64 0]] 8 rfl (World.shaped_of_RefB (by kernel_rfl) (by kernel_rfl)) (by kernel_rfl) (by kernel_rfl) (by kernel_rfl)
   (laidMetH_of_parts3 (fuel:=8) (laidMet_of_run' 8 (by kernel_rfl) (by kernel_rfl)) (by kernel_rfl) (by kernel_rfl))) ?_
 intro W base args ds gs before hval0 hW _ _ hL _
 have hval : ∀(j:Nat) t v,Tryz.f8.params[j]? = some t→args[j]? = some v→Value.okWide Tryz.prog W .any base t v:=hval0
 obtain ⟨p,q,hA0,hV,hpq,hfz,hnd⟩:=id hW
 have hA:DataW.TrodAll enc Tryz.prog W 0 (fun _=>true) true Tryz.f8.params.toList args.toList ds p:=hA0
 obtain ⟨hgs,hq⟩:=trodVars_none hV
 have hlen:=n9 hA
 rw [Tryz.params8] at hA hval hlen
 subst hgs
 have hsp:Rows.stateShownSpec.fn H (ds++[]) = { results:=[.lit (.bool true)],args:=ds } :=by
  rw [List.append_nil]
  simp only [List.length_cons,List.length_nil] at hlen
  first
   | (obtain ⟨d0,rfl⟩:=List.length_eq_one_iff.1 hlen;rfl)
   | (match ds,hlen with|[d0,d1],_=>rfl)
   | (match ds,hlen with|[d0,d1,d2],_=>rfl)
   | (match ds,hlen with|[d0,d1,d2,d3],_=>rfl)
   | (match ds,hlen with|[d0,d1,d2,d3,d4],_=>rfl)
 refine oP (P:=Tryz.prog) Tryz.laidOut (by kernel_rfl) rfl rfl Tryz.underlying4 hW hsp (sM (G:=G0) (ls:=[[.str,.sl 5 true [.int .i64,.int .i64,.int .i64,.int .i64,.str],.sl 2 true [.int .i64,.int .i64],.int .i64,.int .i64]]) (d:=20) (RP hL) (by kernel_rfl) (fun j t v h k=>hval j t v (by simpa using h) (by simpa using k)) hA ?_)
 intro dss h
 obtain ⟨a,rfl,ha⟩:=EA h
 obtain ⟨s,L,F,tab,wd,rfl⟩:=Gr ha
 simp only [pH,ru,Fa,nz]
 refine ig s L F tab wd 200 (by omega) (fun h=>BI h eu) (fun tb e hk hs =>?_)
 subst e
 obtain ⟨ps,t,R,r1⟩:=nF hk
 have hrs:=hk.rs
 have hgl:=hk.gd.len
 have hl:=hk.hl
 exact En (by have:=hk.ll;omega) hs eu (za hk R r1) (i9 hk) (FK (aa s 0) (aa s 0).length (aD L) (aH F) (by omega) (by omega) (by omega) hk.gd.sz hk.gd.so (hZ hk.okT).1) (lz _ _ _ _ _ _ _ _) (fun i x hx=>Mw hk i x hx)
set_option maxRecDepth 100000
theorem vg:(Rows.stateShownRow.wf (OpenSpec.ofChange Rows.stateShownSpec))=true:=by kernel_rfl
theorem vi:(Tryz.f8.params.all (Tryz.pinned.checked.prog.readableRec ·))=true:=by kernel_rfl
theorem vj:(namedTie Tryz.pinned.checked.prog Rows.stateShownRow.named Rows.stateShownSpec.vars)=true:=by kernel_rfl
theorem vk:((Rows.stateShownRow.stops==[]))=true:=by kernel_rfl
theorem vn:((Rows.stateShownRow.knobs==[]))=true:=by kernel_rfl
theorem vo:((Rows.stateShownRow.inPlace==Tryz.pinned.checked.prog.inPlace 8))=true:=by kernel_rfl
theorem tM:((Rows.stateShownRow.unfollowed==Tryz.pinned.checked.prog.unfollowed 8))=true:=by kernel_rfl
theorem tN:((Rows.stateShownRow.recurses==Tryz.pinned.checked.prog.recurses 8))=true:=by kernel_rfl
theorem tO:((Rows.stateShownRow.named==Tryz.pinned.checked.prog.varsNamed 8))=true:=by kernel_rfl
theorem tP:((Rows.stateShownRow.maps==(Tryz.f8.params.toList++Rows.stateShownSpec.plain.varTypes Tryz.pinned.checked.prog).any (Tryz.pinned.checked.prog.mapsRec ·)))=true:=by kernel_rfl
theorem tQ:((Rows.stateShownRow.ifaces==(Tryz.f8.params.toList++Rows.stateShownSpec.plain.varTypes Tryz.pinned.checked.prog).any (Tryz.pinned.checked.prog.ifacesRec ·)))=true:=by kernel_rfl
theorem tR:((Rows.stateShownRow.mapsOut==Tryz.pinned.checked.prog.mapsAmong Tryz.f8.resultTypes.toList))=true:=by kernel_rfl
theorem tS:((Rows.stateShownRow.loops==(Tryz.f8.params.toList++Rows.stateShownSpec.plain.varTypes Tryz.pinned.checked.prog).any (Tryz.pinned.checked.prog.loopsFrom ·)))=true:=by kernel_rfl
theorem tT:((Rows.stateShownRow.wideKeys==(Tryz.f8.params.toList++Rows.stateShownSpec.plain.varTypes Tryz.pinned.checked.prog++Tryz.f8.resultTypes.toList).any (Tryz.pinned.checked.prog.wideKeysFrom ·)))=true:=by kernel_rfl
theorem tU:(Rows.stateShownSpec.vars.all (Tryz.pinned.checked.prog.varReadable ·))=true:=by kernel_rfl
theorem tV:(Tryz.f8.resultTypes.all (fun t=>Tryz.pinned.checked.prog.readableRec t&&decide (t<Tryz.pinned.checked.prog.types.size)))=true:=by kernel_rfl
theorem tW:((Rows.stateShownRow.ifacesOut==Tryz.f8.resultTypes.toList.any (Tryz.pinned.checked.prog.ifacesRec ·)))=true:=by kernel_rfl
theorem tX:((Rows.stateShownRow.loopsOut==Tryz.f8.resultTypes.toList.any (Tryz.pinned.checked.prog.loopsFrom ·)))=true:=by kernel_rfl
theorem tY:((Rows.stateShownRow.plainKeys==Tryz.pinned.checked.prog.plainKeys))=true:=by kernel_rfl
theorem tZ:(Rows.stateShownRow.shortTexts.isNone)=true:=by kernel_rfl
theorem t7:((Rows.stateShownRow.lifted==Tryz.pinned.checked.prog.liftsFinal))=true:=by kernel_rfl
theorem t8:((Tryz.pinned.checked.prog.make==some Rows.stateShownRow.make))=true:=by kernel_rfl
theorem t9:((Rows.stateShownRow.kinds==(if Rows.stateShownRow.domain.isEmpty then [] else Tryz.f8.params.toList.map fun t=>match Tryz.pinned.checked.prog.underlying t with|some (.int k)=>some k|_=>none)))=true:=by kernel_rfl
theorem ua:((Rows.stateShownRow.pinned==Rows.stateShownRow.pinnedBy))=true:=by kernel_rfl
theorem uc:((Rows.stateShownRow.veiled==(Tryz.f8.params.toList++Rows.stateShownSpec.plain.varTypes Tryz.pinned.checked.prog++Tryz.f8.resultTypes.toList).any (Tryz.pinned.checked.prog.veiledRec ·)))=true:=by kernel_rfl
theorem ud:(Rows.stateShownRow.veiledFits Tryz.pinned.checked.prog Tryz.f8.params.toList (Tryz.f8.params.toList++Rows.stateShownSpec.plain.varTypes Tryz.pinned.checked.prog++Tryz.f8.resultTypes.toList))=true:=by kernel_rfl
theorem nX:joinedFacts Tryz.pinned.checked.prog 8 Tryz.f8 Rows.stateShownSpec Rows.stateShownRow=true:=by
 delta joinedFacts
 exact (aV (aV (aV (aV (aV (aV (aV (aV (aV (aV (aV (aV (aV (aV (aV (aV (aV (aV (aV (aV (aV (aV (aV (aV (aV (aV (aV (aV (aV (aV (aV vg zk) zl) vi) vj) vk) zm) vn) zn) vo) tM) tN) tO) tP) tQ) tR) tS) tT) tU) tV) tW) tX) tY) tZ) th) ti) t7) t8) t9) ua) uc) ud)
theorem pk:Rows.StateShownSaid:=
 OpenClaim.holds_of_wide 8 Tryz.f8 rfl rfl rfl rfl rfl rfl rfl ⟨rfl,rfl,rfl,rfl,rfl⟩ rfl rfl rfl rfl rfl (by kernel_rfl) Tryz.func8 nX
  (of_decide_eq_true (by kernel_rfl)) (by unfold Func.isWrapper;rw [if_neg (of_decide_eq_false (by kernel_rfl))];exact ⟨rfl,rfl⟩)
  (fun os started H enc _=>nY os started H enc)
theorem vp:Rows.stateShownRow.wfByText (.ofChange Rows.stateShownSpec)=true:=by kernel_rfl
theorem qx:false=Rows.stateShownRow.goesBy Tryz.pinned.checked.prog:=by kernel_rfl
theorem stateShown_card:Rows.StateShownCardSaid:=
 Claim7.holds_tied_plain_at .later [] [.data,.data,.data] true (true, "38f1c5b772000730f811cc55395145d5b5ed6c6db77504d5e394fd30e1cb5661") true
  pk (fun _ h=>by cases h) vp (fun _ h=>by cases h) stateShown_row_tie rfl ⟨rfl,rfl⟩ oY rfl
  (fun f fn hf hfn=>by
   obtain rfl:f=8:=Option.some.inj ((show Tryz.prog.funcNamed "bodkin/bodkinlaw28.StateShown" = some 8 by kernel_rfl).symm.trans hf) |>.symm
   obtain rfl:fn=Tryz.f8:=(Option.some.inj (Tryz.func8.symm.trans hfn)).symm
   exact ⟨my,fun j t ht=>by
    have hall:(Tryz.f8.params.toList.all fun u=> !Tryz.prog.wantsStandIn u)=true:=by kernel_rfl
    have hm:t∈Tryz.f8.params.toList:=by simpa using Array.mem_of_getElem? ht
    have hz:=List.all_eq_true.1 hall t hm
    show Tryz.prog.wantsStandIn t=false
    simpa using hz⟩)
  qx
#print axioms stateShown_card
end Go.Proofs.YtkkanlcjjpoklaaGreatDoor
