/- StateNew: the maps of every document,piece by piece and line by line. The small case that the statement asks holds. No condition. -/
import Derived.Test.YtkkanlcjjpoklaaGreatDoorCards
import Derived.Test.YtkkanlcjjpoklaaGreatDoorTie
import Derived.SevenTiedAt
import Derived.LaidMore
import Derived.Test.YtkkanlcjjpoklaaGreatDoorStVPBR
import Derived.Test.YtkkanlcjjpoklaaGreatDoorStVPBS
import Derived.Test.YtkkanlcjjpoklaaGreatDoorStVPBU
set_option linter.unusedSimpArgs false
namespace Go.Proofs.YtkkanlcjjpoklaaGreatDoor
open Go Go.ChangeShapes Go.WideShapes Go.ChangeAt Go.RowKit Go.Joins
set_option maxRecDepth 100000 in
theorem qw (os:Os) (started:os.Started) (H:Type) (enc:TypeId × Value→H) :
 ReturnsInHanded {} Tryz.checked os 6 .any (fun w args=>(Rows.stateNewSpec.pre enc Tryz.prog Tryz.f6 Rows.stateNewRow.domain false w args∧laidMetH Tryz.prog Rows.stateNewRow.laid w)∧sizedMet enc Tryz.prog Tryz.f6 (OpenSpec.ofChange Rows.stateNewSpec) false w args) (Rows.stateNewSpec.post enc Tryz.prog Tryz.f6 false true false false):=by
 refine returnsInHanded_of_change_and (C:=Tryz.checked) (X:=fun w _=>laidMetH Tryz.prog Rows.stateNewRow.laid w) (fun _ _ _ hh h=>h.of_heap hh) Tryz.own started (by kernel_rfl) Tryz.func6
  (ChangeSpec.witness_shaped (enc:=enc) (C:=Tryz.checked) (os:=os) (X:=fun w _=>laidMetH Tryz.prog Rows.stateNewRow.laid w) false (World.doorLaid Tryz.prog 60 os) #[.agg #[.string ⟨#[]⟩,.slice none 0 0,.slice none 0 0,.int .i64 0,.int .i64 0]] 8 rfl (World.shaped_of_RefB (by kernel_rfl) (by kernel_rfl)) (by kernel_rfl) (by kernel_rfl) (by kernel_rfl)
   (laidMetH_of_parts3 (fuel:=8) (laidMet_of_run' 8 (by kernel_rfl) (by kernel_rfl)) (by kernel_rfl) (by kernel_rfl))) ?_
 intro W base args ds gs before hval0 hW _ _ hL _
 have hval : ∀(j:Nat) t v,Tryz.f6.params[j]? = some t→args[j]? = some v→Value.okWide Tryz.prog W .any base t v:=hval0
 obtain ⟨p,q,hA0,hV,hpq,hfz,hnd⟩:=id hW
 have hA:DataW.TrodAll enc Tryz.prog W 0 (fun _=>true) true Tryz.f6.params.toList args.toList ds p:=hA0
 obtain ⟨hgs,hq⟩:=trodVars_none hV
 have hlen:=n9 hA
 rw [Tryz.params6] at hA hval hlen
 subst hgs
 have hsp:Rows.stateNewSpec.fn H (ds++[]) = { results:=[.lit (.bool true)],args:=ds } :=by
  rw [List.append_nil]
  simp only [List.length_cons,List.length_nil] at hlen
  first
   | (obtain ⟨d0,rfl⟩:=List.length_eq_one_iff.1 hlen;rfl)
   | (match ds,hlen with|[d0,d1],_=>rfl)
   | (match ds,hlen with|[d0,d1,d2],_=>rfl)
   | (match ds,hlen with|[d0,d1,d2,d3],_=>rfl)
   | (match ds,hlen with|[d0,d1,d2,d3,d4],_=>rfl)
 refine oP (P:=Tryz.prog) Tryz.laidOut (by kernel_rfl) rfl rfl Tryz.underlying4 hW hsp (sM (G:=G0) (ls:=[[.str,.sl 5 true [.int .i64,.int .i64,.int .i64,.int .i64,.str],.sl 2 true [.int .i64,.int .i64],.int .i64,.int .i64]]) (d:=20) (RP hL) (by kernel_rfl) (fun j t v h k=>hval j t v (by simpa using h) (by simpa using k)) hA ?_)
 intro dss h
 obtain ⟨a,rfl,ha⟩:=EA h
 obtain ⟨s,L,F,tab,wd,rfl⟩:=Gr ha
 simp only [pH,ru,Fa,nz]
 refine ig s L F tab wd 200 (by omega) (fun h=>Ie h eu) (fun tb e hk hs =>?_)
 subst e
 obtain ⟨ps,t,R,r1⟩:=nF hk
 exact Lq (by have:=hk.rs;omega) hs eu (za hk R r1) (i9 hk) (tK (bF t) (cW (aa s 0).length (ct (aD L))) (JH (aa s 0).length F) tb wd (GN s L) (AT s L F) (HU s L F tb wd)) (RZ hk R) (dO R)
set_option maxRecDepth 100000
theorem CQ:(Rows.stateNewRow.wf (OpenSpec.ofChange Rows.stateNewSpec))=true:=by kernel_rfl
theorem CR:(Tryz.f6.params.all (Tryz.pinned.checked.prog.readableRec ·))=true:=by kernel_rfl
theorem CS:(namedTie Tryz.pinned.checked.prog Rows.stateNewRow.named Rows.stateNewSpec.vars)=true:=by kernel_rfl
theorem CT:((Rows.stateNewRow.stops==[]))=true:=by kernel_rfl
theorem CU:((Rows.stateNewRow.knobs==[]))=true:=by kernel_rfl
theorem CV:((Rows.stateNewRow.inPlace==Tryz.pinned.checked.prog.inPlace 6))=true:=by kernel_rfl
theorem zL:((Rows.stateNewRow.unfollowed==Tryz.pinned.checked.prog.unfollowed 6))=true:=by kernel_rfl
theorem zM:((Rows.stateNewRow.recurses==Tryz.pinned.checked.prog.recurses 6))=true:=by kernel_rfl
theorem zN:((Rows.stateNewRow.named==Tryz.pinned.checked.prog.varsNamed 6))=true:=by kernel_rfl
theorem zO:((Rows.stateNewRow.maps==(Tryz.f6.params.toList++Rows.stateNewSpec.plain.varTypes Tryz.pinned.checked.prog).any (Tryz.pinned.checked.prog.mapsRec ·)))=true:=by kernel_rfl
theorem zP:((Rows.stateNewRow.ifaces==(Tryz.f6.params.toList++Rows.stateNewSpec.plain.varTypes Tryz.pinned.checked.prog).any (Tryz.pinned.checked.prog.ifacesRec ·)))=true:=by kernel_rfl
theorem zQ:((Rows.stateNewRow.mapsOut==Tryz.pinned.checked.prog.mapsAmong Tryz.f6.resultTypes.toList))=true:=by kernel_rfl
theorem zR:((Rows.stateNewRow.loops==(Tryz.f6.params.toList++Rows.stateNewSpec.plain.varTypes Tryz.pinned.checked.prog).any (Tryz.pinned.checked.prog.loopsFrom ·)))=true:=by kernel_rfl
theorem zS:((Rows.stateNewRow.wideKeys==(Tryz.f6.params.toList++Rows.stateNewSpec.plain.varTypes Tryz.pinned.checked.prog++Tryz.f6.resultTypes.toList).any (Tryz.pinned.checked.prog.wideKeysFrom ·)))=true:=by kernel_rfl
theorem zU:(Rows.stateNewSpec.vars.all (Tryz.pinned.checked.prog.varReadable ·))=true:=by kernel_rfl
theorem zV:(Tryz.f6.resultTypes.all (fun t=>Tryz.pinned.checked.prog.readableRec t&&decide (t<Tryz.pinned.checked.prog.types.size)))=true:=by kernel_rfl
theorem zW:((Rows.stateNewRow.ifacesOut==Tryz.f6.resultTypes.toList.any (Tryz.pinned.checked.prog.ifacesRec ·)))=true:=by kernel_rfl
theorem zX:((Rows.stateNewRow.loopsOut==Tryz.f6.resultTypes.toList.any (Tryz.pinned.checked.prog.loopsFrom ·)))=true:=by kernel_rfl
theorem zY:((Rows.stateNewRow.plainKeys==Tryz.pinned.checked.prog.plainKeys))=true:=by kernel_rfl
theorem zZ:(Rows.stateNewRow.shortTexts.isNone)=true:=by kernel_rfl
theorem z5:((Rows.stateNewRow.lifted==Tryz.pinned.checked.prog.liftsFinal))=true:=by kernel_rfl
theorem z6:((Tryz.pinned.checked.prog.make==some Rows.stateNewRow.make))=true:=by kernel_rfl
theorem z9:((Rows.stateNewRow.kinds==(if Rows.stateNewRow.domain.isEmpty then [] else Tryz.f6.params.toList.map fun t=>match Tryz.pinned.checked.prog.underlying t with|some (.int k)=>some k|_=>none)))=true:=by kernel_rfl
theorem Aa:((Rows.stateNewRow.pinned==Rows.stateNewRow.pinnedBy))=true:=by kernel_rfl
theorem Ab:((Rows.stateNewRow.veiled==(Tryz.f6.params.toList++Rows.stateNewSpec.plain.varTypes Tryz.pinned.checked.prog++Tryz.f6.resultTypes.toList).any (Tryz.pinned.checked.prog.veiledRec ·)))=true:=by kernel_rfl
theorem Ac:(Rows.stateNewRow.veiledFits Tryz.pinned.checked.prog Tryz.f6.params.toList (Tryz.f6.params.toList++Rows.stateNewSpec.plain.varTypes Tryz.pinned.checked.prog++Tryz.f6.resultTypes.toList))=true:=by kernel_rfl
theorem qv:joinedFacts Tryz.pinned.checked.prog 6 Tryz.f6 Rows.stateNewSpec Rows.stateNewRow=true:=by
 delta joinedFacts
 exact (aV (aV (aV (aV (aV (aV (aV (aV (aV (aV (aV (aV (aV (aV (aV (aV (aV (aV (aV (aV (aV (aV (aV (aV (aV (aV (aV (aV (aV (aV (aV CQ zk) zl) CR) CS) CT) zm) CU) zn) CV) zL) zM) zN) zO) zP) zQ) zR) zS) zU) zV) zW) zX) zY) zZ) th) ti) z5) z6) z9) Aa) Ab) Ac)
theorem tL:Rows.StateNewSaid:=
 OpenClaim.holds_of_wide 6 Tryz.f6 rfl rfl rfl rfl rfl rfl rfl ⟨rfl,rfl,rfl,rfl,rfl⟩ rfl rfl rfl rfl rfl (by kernel_rfl) Tryz.func6 qv
  (of_decide_eq_true (by kernel_rfl)) (by unfold Func.isWrapper;rw [if_neg (of_decide_eq_false (by kernel_rfl))];exact ⟨rfl,rfl⟩)
  (fun os started H enc _=>qw os started H enc)
theorem CW:Rows.stateNewRow.wfByText (.ofChange Rows.stateNewSpec)=true:=by kernel_rfl
theorem vf:false=Rows.stateNewRow.goesBy Tryz.pinned.checked.prog:=by kernel_rfl
theorem stateNew_card:Rows.StateNewCardSaid:=
 Claim7.holds_tied_plain_at .later [] [.data,.data,.data] true (true, "38f1c5b772000730f811cc55395145d5b5ed6c6db77504d5e394fd30e1cb5661") true
  tL (fun _ h=>by cases h) CW (fun _ h=>by cases h) stateNew_row_tie rfl ⟨rfl,rfl⟩ oY rfl
  (fun f fn hf hfn=>by
   obtain rfl:f=6:=Option.some.inj ((show Tryz.prog.funcNamed "bodkin/bodkinlaw28.StateNew" = some 6 by kernel_rfl).symm.trans hf) |>.symm
   obtain rfl:fn=Tryz.f6:=(Option.some.inj (Tryz.func6.symm.trans hfn)).symm
   exact ⟨my,fun j t ht=>by
    have hall:(Tryz.f6.params.toList.all fun u=> !Tryz.prog.wantsStandIn u)=true:=by kernel_rfl
    have hm:t∈Tryz.f6.params.toList:=by simpa using Array.mem_of_getElem? ht
    have hz:=List.all_eq_true.1 hall t hm
    show Tryz.prog.wantsStandIn t=false
    simpa using hz⟩)
  vf
#print axioms stateNew_card
end Go.Proofs.YtkkanlcjjpoklaaGreatDoor
