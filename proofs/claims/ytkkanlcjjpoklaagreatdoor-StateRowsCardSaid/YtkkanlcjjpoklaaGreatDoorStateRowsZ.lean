/- StateRows: rows of some are that part of all rows,of any document. The small case that the statement asks holds. No condition. -/
import Derived.Test.YtkkanlcjjpoklaaGreatDoorCards
import Derived.Test.YtkkanlcjjpoklaaGreatDoorTie
import Derived.SevenTiedAt
import Derived.LaidMore
import Derived.Test.YtkkanlcjjpoklaaGreatDoorStUPBU
import Derived.Test.YtkkanlcjjpoklaaGreatDoorStUPBW
import Derived.Test.YtkkanlcjjpoklaaGreatDoorStUPBY
set_option linter.unusedSimpArgs false
namespace Go.Proofs.YtkkanlcjjpoklaaGreatDoor
open Go Go.ChangeShapes Go.WideShapes Go.ChangeAt Go.RowKit Go.Joins
set_option maxRecDepth 100000 in
theorem oz (os:Os) (started:os.Started) (H:Type) (enc:TypeId × Value→H) :
 ReturnsInHanded {} Tryz.checked os 3 .any (fun w args=>(Rows.stateRowsSpec.pre enc Tryz.prog Tryz.f3 Rows.stateRowsRow.domain false w args∧laidMetH Tryz.prog Rows.stateRowsRow.laid w)∧sizedMet enc Tryz.prog Tryz.f3 (OpenSpec.ofChange Rows.stateRowsSpec) false w args) (Rows.stateRowsSpec.post enc Tryz.prog Tryz.f3 false true false false):=by
 refine returnsInHanded_of_change_and (C:=Tryz.checked) (X:=fun w _=>laidMetH Tryz.prog Rows.stateRowsRow.laid w) (fun _ _ _ hh h=>h.of_heap hh) Tryz.own started (by kernel_rfl) Tryz.func3
  (ChangeSpec.witness_shaped (enc:=enc) (C:=Tryz.checked) (os:=os) (X:=fun w _=>laidMetH Tryz.prog Rows.stateRowsRow.laid w) false (World.doorLaid Tryz.prog 60 os) #[.agg #[.string ⟨#[]⟩,.slice none 0 0,.slice none 0 0,.int .i64 0,.int .i64 0],.int .i64 0,.int .i64 0] 8 rfl (World.shaped_of_RefB (by kernel_rfl) (by kernel_rfl)) (by kernel_rfl) (by kernel_rfl) (by kernel_rfl)
   (laidMetH_of_parts3 (fuel:=8) (laidMet_of_run' 8 (by kernel_rfl) (by kernel_rfl)) (by kernel_rfl) (by kernel_rfl))) ?_
 intro W base args ds gs before hval0 hW _ _ hL _
 have hval : ∀(j:Nat) t v,Tryz.f3.params[j]? = some t→args[j]? = some v→Value.okWide Tryz.prog W .any base t v:=hval0
 obtain ⟨p,q,hA0,hV,hpq,hfz,hnd⟩:=id hW
 have hA:DataW.TrodAll enc Tryz.prog W 0 (fun _=>true) true Tryz.f3.params.toList args.toList ds p:=hA0
 obtain ⟨hgs,hq⟩:=trodVars_none hV
 have hlen:=tH hA
 rw [Tryz.params3] at hA hval hlen
 subst hgs
 have hsp:Rows.stateRowsSpec.fn H (ds++[]) = { results:=[.lit (.bool true)],args:=ds } :=by
  rw [List.append_nil]
  simp only [List.length_cons,List.length_nil] at hlen
  first
   | (obtain ⟨d0,rfl⟩:=List.length_eq_one_iff.1 hlen;rfl)
   | (match ds,hlen with|[d0,d1],_=>rfl)
   | (match ds,hlen with|[d0,d1,d2],_=>rfl)
   | (match ds,hlen with|[d0,d1,d2,d3],_=>rfl)
   | (match ds,hlen with|[d0,d1,d2,d3,d4],_=>rfl)
 refine vp (P:=Tryz.prog) Tryz.laidOut (by kernel_rfl) rfl rfl Tryz.underlying4 hW hsp (zO (G:=G0) (ls:=[[.str,.sl 5 true [.int .i64,.int .i64,.int .i64,.int .i64,.str],.sl 2 true [.int .i64,.int .i64],.int .i64,.int .i64],[.int .i64],[.int .i64]]) (d:=20) (Rv hL) (by kernel_rfl) (fun j t v h k=>hval j t v (by simpa using h) (by simpa using k)) hA ?_)
 intro dss h
 obtain ⟨a,r,rfl,ha,hr⟩:=iT h
 obtain ⟨b,c,rfl,hb,hc⟩:=JM hr
 obtain ⟨s,L,F,tab,wd,rfl⟩:=Of ha
 obtain ⟨x',rfl,hx⟩:=Ak hb
 obtain ⟨y',rfl,hy⟩:=Ak hc
 obtain ⟨x,rfl⟩:=dG hx
 obtain ⟨y,rfl⟩:=dG hy
 simp only [qz,tS,KH,KI,nU]
 refine pg s L F tab wd 200 (by omega) (fun h=>Cz x y h kE) (fun tb e hk hs =>?_)
 subst e
 obtain ⟨ps,t,R,r1⟩:=As hk
 have hla:=hk.lay
 exact Gg (Nat.le_trans hla.len (by omega)) x y hs kE (El hk R r1) (AE hk) (Iz hk) (fun h=>Hk hk x y h) (fun a b e1 e2 h1 h2=>Hj hk R a b h1 h2) (fun B h1 h2=>JZ B (Nat.le_trans h1 (Nat.le_trans hla.len (by omega))) fun r hr=>by have:=(hla.cel r (h2 r hr)).1;omega)
set_option maxRecDepth 100000
theorem yc:(Rows.stateRowsRow.wf (OpenSpec.ofChange Rows.stateRowsSpec))=true:=by kernel_rfl
theorem yd:(Tryz.f3.params.all (Tryz.pinned.checked.prog.readableRec ·))=true:=by kernel_rfl
theorem ye:(namedTie Tryz.pinned.checked.prog Rows.stateRowsRow.named Rows.stateRowsSpec.vars)=true:=by kernel_rfl
theorem yf:((Rows.stateRowsRow.stops==[]))=true:=by kernel_rfl
theorem yg:((Rows.stateRowsRow.knobs==[]))=true:=by kernel_rfl
theorem yh:((Rows.stateRowsRow.inPlace==Tryz.pinned.checked.prog.inPlace 3))=true:=by kernel_rfl
theorem uh:((Rows.stateRowsRow.unfollowed==Tryz.pinned.checked.prog.unfollowed 3))=true:=by kernel_rfl
theorem ui:((Rows.stateRowsRow.recurses==Tryz.pinned.checked.prog.recurses 3))=true:=by kernel_rfl
theorem uj:((Rows.stateRowsRow.named==Tryz.pinned.checked.prog.varsNamed 3))=true:=by kernel_rfl
theorem uk:((Rows.stateRowsRow.maps==(Tryz.f3.params.toList++Rows.stateRowsSpec.plain.varTypes Tryz.pinned.checked.prog).any (Tryz.pinned.checked.prog.mapsRec ·)))=true:=by kernel_rfl
theorem ul:((Rows.stateRowsRow.ifaces==(Tryz.f3.params.toList++Rows.stateRowsSpec.plain.varTypes Tryz.pinned.checked.prog).any (Tryz.pinned.checked.prog.ifacesRec ·)))=true:=by kernel_rfl
theorem um:((Rows.stateRowsRow.mapsOut==Tryz.pinned.checked.prog.mapsAmong Tryz.f3.resultTypes.toList))=true:=by kernel_rfl
theorem un:((Rows.stateRowsRow.loops==(Tryz.f3.params.toList++Rows.stateRowsSpec.plain.varTypes Tryz.pinned.checked.prog).any (Tryz.pinned.checked.prog.loopsFrom ·)))=true:=by kernel_rfl
theorem uo:((Rows.stateRowsRow.wideKeys==(Tryz.f3.params.toList++Rows.stateRowsSpec.plain.varTypes Tryz.pinned.checked.prog++Tryz.f3.resultTypes.toList).any (Tryz.pinned.checked.prog.wideKeysFrom ·)))=true:=by kernel_rfl
theorem uq:(Rows.stateRowsSpec.vars.all (Tryz.pinned.checked.prog.varReadable ·))=true:=by kernel_rfl
theorem ur:(Tryz.f3.resultTypes.all (fun t=>Tryz.pinned.checked.prog.readableRec t&&decide (t<Tryz.pinned.checked.prog.types.size)))=true:=by kernel_rfl
theorem ut:((Rows.stateRowsRow.ifacesOut==Tryz.f3.resultTypes.toList.any (Tryz.pinned.checked.prog.ifacesRec ·)))=true:=by kernel_rfl
theorem uu:((Rows.stateRowsRow.loopsOut==Tryz.f3.resultTypes.toList.any (Tryz.pinned.checked.prog.loopsFrom ·)))=true:=by kernel_rfl
theorem uw:((Rows.stateRowsRow.plainKeys==Tryz.pinned.checked.prog.plainKeys))=true:=by kernel_rfl
theorem ux:(Rows.stateRowsRow.shortTexts.isNone)=true:=by kernel_rfl
theorem uy:((Rows.stateRowsRow.lifted==Tryz.pinned.checked.prog.liftsFinal))=true:=by kernel_rfl
theorem uz:((Tryz.pinned.checked.prog.make==some Rows.stateRowsRow.make))=true:=by kernel_rfl
theorem uA:((Rows.stateRowsRow.kinds==(if Rows.stateRowsRow.domain.isEmpty then [] else Tryz.f3.params.toList.map fun t=>match Tryz.pinned.checked.prog.underlying t with|some (.int k)=>some k|_=>none)))=true:=by kernel_rfl
theorem uB:((Rows.stateRowsRow.pinned==Rows.stateRowsRow.pinnedBy))=true:=by kernel_rfl
theorem uC:((Rows.stateRowsRow.veiled==(Tryz.f3.params.toList++Rows.stateRowsSpec.plain.varTypes Tryz.pinned.checked.prog++Tryz.f3.resultTypes.toList).any (Tryz.pinned.checked.prog.veiledRec ·)))=true:=by kernel_rfl
theorem uD:(Rows.stateRowsRow.veiledFits Tryz.pinned.checked.prog Tryz.f3.params.toList (Tryz.f3.params.toList++Rows.stateRowsSpec.plain.varTypes Tryz.pinned.checked.prog++Tryz.f3.resultTypes.toList))=true:=by kernel_rfl
theorem ow:joinedFacts Tryz.pinned.checked.prog 3 Tryz.f3 Rows.stateRowsSpec Rows.stateRowsRow=true:=by
 delta joinedFacts
 exact (bh (bh (bh (bh (bh (bh (bh (bh (bh (bh (bh (bh (bh (bh (bh (bh (bh (bh (bh (bh (bh (bh (bh (bh (bh (bh (bh (bh (bh (bh (bh yc EC) ED) yd) ye) yf) EE) yg) EF) yh) uh) ui) uj) uk) ul) um) un) uo) uq) ur) ut) uu) uw) ux) Aw) Ax) uy) uz) uA) uB) uC) uD)
theorem pL:Rows.StateRowsSaid:=
 OpenClaim.holds_of_wide 3 Tryz.f3 rfl rfl rfl rfl rfl rfl rfl ⟨rfl,rfl,rfl,rfl,rfl⟩ rfl rfl rfl rfl rfl (by kernel_rfl) Tryz.func3 ow
  (of_decide_eq_true (by kernel_rfl)) (by unfold Func.isWrapper;rw [if_neg (of_decide_eq_false (by kernel_rfl))];exact ⟨rfl,rfl⟩)
  (fun os started H enc _=>oz os started H enc)
theorem yj:Rows.stateRowsRow.wfByText (.ofChange Rows.stateRowsSpec)=true:=by kernel_rfl
theorem s9:false=Rows.stateRowsRow.goesBy Tryz.pinned.checked.prog:=by kernel_rfl
theorem stateRows_card:Rows.StateRowsCardSaid:=
 Claim7.holds_tied_plain_at .later [] [.data,.data,.data] true (true, "38f1c5b772000730f811cc55395145d5b5ed6c6db77504d5e394fd30e1cb5661") true
  pL (fun _ h=>by cases h) yj (fun _ h=>by cases h) stateRows_row_tie rfl ⟨rfl,rfl⟩ vZ rfl
  (fun f fn hf hfn=>by
   obtain rfl:f=3:=Option.some.inj ((show Tryz.prog.funcNamed "bodkin/bodkinlaw28.StateRows" = some 3 by kernel_rfl).symm.trans hf) |>.symm
   obtain rfl:fn=Tryz.f3:=(Option.some.inj (Tryz.func3.symm.trans hfn)).symm
   exact ⟨sf,fun j t ht=>by
    have hall:(Tryz.f3.params.toList.all fun u=> !Tryz.prog.wantsStandIn u)=true:=by kernel_rfl
    have hm:t∈Tryz.f3.params.toList:=by simpa using Array.mem_of_getElem? ht
    have hz:=List.all_eq_true.1 hall t hm
    show Tryz.prog.wantsStandIn t=false
    simpa using hz⟩)
  s9
#print axioms stateRows_card
end Go.Proofs.YtkkanlcjjpoklaaGreatDoor
