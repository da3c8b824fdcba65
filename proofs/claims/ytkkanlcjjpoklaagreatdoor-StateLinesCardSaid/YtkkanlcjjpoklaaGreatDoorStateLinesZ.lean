/- StateLines: what the flow has to have of lines from any place to any other one,and where there are none,of any document. The small case that the statement asks holds. No condition. -/
import Derived.Test.YtkkanlcjjpoklaaGreatDoorCards
import Derived.Test.YtkkanlcjjpoklaaGreatDoorTie
import Derived.SevenTiedAt
import Derived.LaidMore
import Derived.Test.YtkkanlcjjpoklaaGreatDoorStUPBV
import Derived.Test.YtkkanlcjjpoklaaGreatDoorStUPBW
import Derived.Test.YtkkanlcjjpoklaaGreatDoorStUPBY
set_option linter.unusedSimpArgs false
namespace Go.Proofs.YtkkanlcjjpoklaaGreatDoor
open Go Go.ChangeShapes Go.WideShapes Go.ChangeAt Go.RowKit Go.Joins
set_option maxRecDepth 100000 in
theorem m8 (os:Os) (started:os.Started) (H:Type) (enc:TypeId × Value→H) :
 ReturnsInHanded {} Tryz.checked os 4 .any (fun w args=>(Rows.stateLinesSpec.pre enc Tryz.prog Tryz.f4 Rows.stateLinesRow.domain false w args∧laidMetH Tryz.prog Rows.stateLinesRow.laid w)∧sizedMet enc Tryz.prog Tryz.f4 (OpenSpec.ofChange Rows.stateLinesSpec) false w args) (Rows.stateLinesSpec.post enc Tryz.prog Tryz.f4 false true false false):=by
 refine returnsInHanded_of_change_and (C:=Tryz.checked) (X:=fun w _=>laidMetH Tryz.prog Rows.stateLinesRow.laid w) (fun _ _ _ hh h=>h.of_heap hh) Tryz.own started (by kernel_rfl) Tryz.func4
  (ChangeSpec.witness_shaped (enc:=enc) (C:=Tryz.checked) (os:=os) (X:=fun w _=>laidMetH Tryz.prog Rows.stateLinesRow.laid w) false (World.doorLaid Tryz.prog 60 os) #[.agg #[.string ⟨#[]⟩,.slice none 0 0,.slice none 0 0,.int .i64 0,.int .i64 0],.int .i64 0,.int .i64 0] 8 rfl (World.shaped_of_RefB (by kernel_rfl) (by kernel_rfl)) (by kernel_rfl) (by kernel_rfl) (by kernel_rfl)
   (laidMetH_of_parts3 (fuel:=8) (laidMet_of_run' 8 (by kernel_rfl) (by kernel_rfl)) (by kernel_rfl) (by kernel_rfl))) ?_
 intro W base args ds gs before hval0 hW _ _ hL _
 have hval : ∀(j:Nat) t v,Tryz.f4.params[j]? = some t→args[j]? = some v→Value.okWide Tryz.prog W .any base t v:=hval0
 obtain ⟨p,q,hA0,hV,hpq,hfz,hnd⟩:=id hW
 have hA:DataW.TrodAll enc Tryz.prog W 0 (fun _=>true) true Tryz.f4.params.toList args.toList ds p:=hA0
 obtain ⟨hgs,hq⟩:=trodVars_none hV
 have hlen:=tH hA
 rw [Tryz.params4] at hA hval hlen
 subst hgs
 have hsp:Rows.stateLinesSpec.fn H (ds++[]) = { results:=[.lit (.bool true)],args:=ds } :=by
  rw [List.append_nil]
  simp only [List.length_cons,List.length_nil] at hlen
  first
   | (obtain ⟨d0,rfl⟩:=List.length_eq_one_iff.1 hlen;rfl)
   | (match ds,hlen with|[d0,d1],_=>rfl)
   | (match ds,hlen with|[d0,d1,d2],_=>rfl)
   | (match ds,hlen with|[d0,d1,d2,d3],_=>rfl)
   | (match ds,hlen with|[d0,d1,d2,d3,d4],_=>rfl)
 refine vp (P:=Tryz.prog) Tryz.laidOut (by kernel_rfl) rfl rfl Tryz.underlying4 hW hsp (zO (G:=G0) (ls:=[[.str,.sl 5 true [.int .i64,.int .i64,.int .i64,.int .i64,.str],.sl 2 true [.int .i64,.int .i64],.int .i64,.int .i64],[.int .i64],[.int .i64]]) (d:=20) (Rv hL) (by kernel_rfl) (fun j t v h k=>hval j t v (by simpa using h) (by simpa using k)) hA ?_)
 intro dss h
 obtain ⟨a,r,rfl,ha,hr⟩:=iT h
 obtain ⟨b,c,rfl,hb,hc⟩:=JM hr
 obtain ⟨s,L,F,tab,wd,rfl⟩:=Of ha
 obtain ⟨x',rfl,hx⟩:=Ak hb
 obtain ⟨y',rfl,hy⟩:=Ak hc
 obtain ⟨x,rfl⟩:=dG hx
 obtain ⟨y,rfl⟩:=dG hy
 simp only [qz,tS,KH,KI,nU]
 refine pg s L F tab wd 200 (by omega) (fun h=>zN x y h kE) (fun tb e hk hs =>?_)
 subst e
 obtain ⟨ps,t,R,r1⟩:=As hk
 obtain ⟨O,r6,hO⟩:=Ms hk R x y
 have hrs:=hk.rs
 have hgl:=hk.gd.len
 have hl:=hk.hl
 have r4:=Di (bd t) (cg (aa s 0).length (bO (aS L))) (HG (aa s 0).length F) tb wd (tN (aa s 0).length (aS L)) (tW (aa s 0).length (aS L) (aD F)) (eP (iL s L F tb wd 0)) x y O (Dj hk R x y O r6)
 rw [show z6 O = .tup [.d (CF O).1,iv (CF O).2] by cases O<;>rfl] at r4
 exact Cy (Ob s L F tb wd) (by have:=hk.ll;omega) x y O hO hs kE (El hk R r1) (AE hk) (DO (aa s 0) (aa s 0).length (aS L) (aD F) (by omega) (by omega) (by omega) hk.gd.sz hk.gd.so (gy hk.okT).1) r4 (fun x hx=>Ix hk x hx)
set_option maxRecDepth 100000
theorem t9:(Rows.stateLinesRow.wf (OpenSpec.ofChange Rows.stateLinesSpec))=true:=by kernel_rfl
theorem ua:(Tryz.f4.params.all (Tryz.pinned.checked.prog.readableRec ·))=true:=by kernel_rfl
theorem uc:(namedTie Tryz.pinned.checked.prog Rows.stateLinesRow.named Rows.stateLinesSpec.vars)=true:=by kernel_rfl
theorem ud:((Rows.stateLinesRow.stops==[]))=true:=by kernel_rfl
theorem ue:((Rows.stateLinesRow.knobs==[]))=true:=by kernel_rfl
theorem uf:((Rows.stateLinesRow.inPlace==Tryz.pinned.checked.prog.inPlace 4))=true:=by kernel_rfl
theorem sJ:((Rows.stateLinesRow.unfollowed==Tryz.pinned.checked.prog.unfollowed 4))=true:=by kernel_rfl
theorem sK:((Rows.stateLinesRow.recurses==Tryz.pinned.checked.prog.recurses 4))=true:=by kernel_rfl
theorem sL:((Rows.stateLinesRow.named==Tryz.pinned.checked.prog.varsNamed 4))=true:=by kernel_rfl
theorem sM:((Rows.stateLinesRow.maps==(Tryz.f4.params.toList++Rows.stateLinesSpec.plain.varTypes Tryz.pinned.checked.prog).any (Tryz.pinned.checked.prog.mapsRec ·)))=true:=by kernel_rfl
theorem sN:((Rows.stateLinesRow.ifaces==(Tryz.f4.params.toList++Rows.stateLinesSpec.plain.varTypes Tryz.pinned.checked.prog).any (Tryz.pinned.checked.prog.ifacesRec ·)))=true:=by kernel_rfl
theorem sO:((Rows.stateLinesRow.mapsOut==Tryz.pinned.checked.prog.mapsAmong Tryz.f4.resultTypes.toList))=true:=by kernel_rfl
theorem sP:((Rows.stateLinesRow.loops==(Tryz.f4.params.toList++Rows.stateLinesSpec.plain.varTypes Tryz.pinned.checked.prog).any (Tryz.pinned.checked.prog.loopsFrom ·)))=true:=by kernel_rfl
theorem sQ:((Rows.stateLinesRow.wideKeys==(Tryz.f4.params.toList++Rows.stateLinesSpec.plain.varTypes Tryz.pinned.checked.prog++Tryz.f4.resultTypes.toList).any (Tryz.pinned.checked.prog.wideKeysFrom ·)))=true:=by kernel_rfl
theorem sR:(Rows.stateLinesSpec.vars.all (Tryz.pinned.checked.prog.varReadable ·))=true:=by kernel_rfl
theorem sT:(Tryz.f4.resultTypes.all (fun t=>Tryz.pinned.checked.prog.readableRec t&&decide (t<Tryz.pinned.checked.prog.types.size)))=true:=by kernel_rfl
theorem sU:((Rows.stateLinesRow.ifacesOut==Tryz.f4.resultTypes.toList.any (Tryz.pinned.checked.prog.ifacesRec ·)))=true:=by kernel_rfl
theorem sV:((Rows.stateLinesRow.loopsOut==Tryz.f4.resultTypes.toList.any (Tryz.pinned.checked.prog.loopsFrom ·)))=true:=by kernel_rfl
theorem sW:((Rows.stateLinesRow.plainKeys==Tryz.pinned.checked.prog.plainKeys))=true:=by kernel_rfl
theorem sX:(Rows.stateLinesRow.shortTexts.isNone)=true:=by kernel_rfl
theorem sY:((Rows.stateLinesRow.lifted==Tryz.pinned.checked.prog.liftsFinal))=true:=by kernel_rfl
theorem sZ:((Tryz.pinned.checked.prog.make==some Rows.stateLinesRow.make))=true:=by kernel_rfl
theorem s5:((Rows.stateLinesRow.kinds==(if Rows.stateLinesRow.domain.isEmpty then [] else Tryz.f4.params.toList.map fun t=>match Tryz.pinned.checked.prog.underlying t with|some (.int k)=>some k|_=>none)))=true:=by kernel_rfl
theorem s6:((Rows.stateLinesRow.pinned==Rows.stateLinesRow.pinnedBy))=true:=by kernel_rfl
theorem s7:((Rows.stateLinesRow.veiled==(Tryz.f4.params.toList++Rows.stateLinesSpec.plain.varTypes Tryz.pinned.checked.prog++Tryz.f4.resultTypes.toList).any (Tryz.pinned.checked.prog.veiledRec ·)))=true:=by kernel_rfl
theorem s8:(Rows.stateLinesRow.veiledFits Tryz.pinned.checked.prog Tryz.f4.params.toList (Tryz.f4.params.toList++Rows.stateLinesSpec.plain.varTypes Tryz.pinned.checked.prog++Tryz.f4.resultTypes.toList))=true:=by kernel_rfl
theorem m7:joinedFacts Tryz.pinned.checked.prog 4 Tryz.f4 Rows.stateLinesSpec Rows.stateLinesRow=true:=by
 delta joinedFacts
 exact (bh (bh (bh (bh (bh (bh (bh (bh (bh (bh (bh (bh (bh (bh (bh (bh (bh (bh (bh (bh (bh (bh (bh (bh (bh (bh (bh (bh (bh (bh (bh t9 EC) ED) ua) uc) ud) EE) ue) EF) uf) sJ) sK) sL) sM) sN) sO) sP) sQ) sR) sT) sU) sV) sW) sX) Aw) Ax) sY) sZ) s5) s6) s7) s8)
theorem ov:Rows.StateLinesSaid:=
 OpenClaim.holds_of_wide 4 Tryz.f4 rfl rfl rfl rfl rfl rfl rfl ⟨rfl,rfl,rfl,rfl,rfl⟩ rfl rfl rfl rfl rfl (by kernel_rfl) Tryz.func4 m7
  (of_decide_eq_true (by kernel_rfl)) (by unfold Func.isWrapper;rw [if_neg (of_decide_eq_false (by kernel_rfl))];exact ⟨rfl,rfl⟩)
  (fun os started H enc _=>m8 os started H enc)
theorem ug:Rows.stateLinesRow.wfByText (.ofChange Rows.stateLinesSpec)=true:=by kernel_rfl
theorem pK:false=Rows.stateLinesRow.goesBy Tryz.pinned.checked.prog:=by kernel_rfl
theorem stateLines_card:Rows.StateLinesCardSaid:=
 Claim7.holds_tied_plain_at .later [] [.data,.data,.data] true (true, "38f1c5b772000730f811cc55395145d5b5ed6c6db77504d5e394fd30e1cb5661") true
  ov (fun _ h=>by cases h) ug (fun _ h=>by cases h) stateLines_row_tie rfl ⟨rfl,rfl⟩ vZ rfl
  (fun f fn hf hfn=>by
   obtain rfl:f=4:=Option.some.inj ((show Tryz.prog.funcNamed "bodkin/bodkinlaw28.StateLines" = some 4 by kernel_rfl).symm.trans hf) |>.symm
   obtain rfl:fn=Tryz.f4:=(Option.some.inj (Tryz.func4.symm.trans hfn)).symm
   exact ⟨sf,fun j t ht=>by
    have hall:(Tryz.f4.params.toList.all fun u=> !Tryz.prog.wantsStandIn u)=true:=by kernel_rfl
    have hm:t∈Tryz.f4.params.toList:=by simpa using Array.mem_of_getElem? ht
    have hz:=List.all_eq_true.1 hall t hm
    show Tryz.prog.wantsStandIn t=false
    simpa using hz⟩)
  pK
#print axioms stateLines_card
end Go.Proofs.YtkkanlcjjpoklaaGreatDoor
