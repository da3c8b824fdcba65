/- StateWith: which maps are refused, which are right. -/
import Derived.Test.YtkkanlcjjpoklaaGreatDoorCards
import Derived.Test.YtkkanlcjjpoklaaGreatDoorTie
import Derived.SevenTiedAt
import Derived.LaidMore
import Derived.Test.YtkkanlcjjpoklaaGreatDoorStVPBR
import Derived.Test.YtkkanlcjjpoklaaGreatDoorStVPBS
import Derived.Test.YtkkanlcjjpoklaaGreatDoorStVPBU
set_option linter.unusedSimpArgs false
namespace Go.Proofs.YtkkanlcjjpoklaaGreatDoor
open Go Go.ChangeShapes Go.WideShapes Go.ChangeAt Go.RowKit Go.Joins
set_option maxRecDepth 100000 in
theorem pn (os:Os) (started:os.Started) (H:Type) (enc:TypeId × Value→H) :
 ReturnsInHanded {} Tryz.checked os 7 .any (fun w args=>(Rows.stateWithSpec.pre enc Tryz.prog Tryz.f7 Rows.stateWithRow.domain false w args∧laidMetH Tryz.prog Rows.stateWithRow.laid w)∧sizedMet enc Tryz.prog Tryz.f7 (OpenSpec.ofChange Rows.stateWithSpec) false w args) (Rows.stateWithSpec.post enc Tryz.prog Tryz.f7 false true false false):=by
 refine returnsInHanded_of_change_and (C:=Tryz.checked) (X:=fun w _=>laidMetH Tryz.prog Rows.stateWithRow.laid w) (fun _ _ _ hh h=>h.of_heap hh) Tryz.own started (by kernel_rfl) Tryz.func7
  (ChangeSpec.witness_shaped (enc:=enc) (C:=Tryz.checked) (os:=os) (X:=fun w _=>laidMetH Tryz.prog Rows.stateWithRow.laid w) false (World.doorLaid Tryz.prog 60 os) #[.agg #[.string ⟨#[]⟩,.slice none 0 0,.slice none 0 0,.int .i64 0,.int .i64 0],.agg #[.string ⟨#[]⟩,.slice none 0 0,.slice none 0 0,.int .i64 0,.int .i64 0]] 8 rfl (World.shaped_of_RefB (by kernel_rfl) (by kernel_rfl)) (by kernel_rfl) (by kernel_rfl) (by kernel_rfl)
   (laidMetH_of_parts3 (fuel:=8) (laidMet_of_run' 8 (by kernel_rfl) (by kernel_rfl)) (by kernel_rfl) (by kernel_rfl))) ?_
 intro W base args ds gs before hval0 hW _ _ hL _
 have hval : ∀(j:Nat) t v,Tryz.f7.params[j]? = some t→args[j]? = some v→Value.okWide Tryz.prog W .any base t v:=hval0
 obtain ⟨p,q,hA0,hV,hpq,hfz,hnd⟩:=id hW
 have hA:DataW.TrodAll enc Tryz.prog W 0 (fun _=>true) true Tryz.f7.params.toList args.toList ds p:=hA0
 obtain ⟨hgs,hq⟩:=trodVars_none hV
 have hlen:=n9 hA
 rw [Tryz.params7] at hA hval hlen
 subst hgs
 have hsp:Rows.stateWithSpec.fn H (ds++[]) = { results:=[.lit (.bool true)],args:=ds } :=by
  rw [List.append_nil]
  simp only [List.length_cons,List.length_nil] at hlen
  first
   | (obtain ⟨d0,rfl⟩:=List.length_eq_one_iff.1 hlen;rfl)
   | (match ds,hlen with|[d0,d1],_=>rfl)
   | (match ds,hlen with|[d0,d1,d2],_=>rfl)
   | (match ds,hlen with|[d0,d1,d2,d3],_=>rfl)
   | (match ds,hlen with|[d0,d1,d2,d3,d4],_=>rfl)
 refine oP (P:=Tryz.prog) Tryz.laidOut (by kernel_rfl) rfl rfl Tryz.underlying4 hW hsp (sM (G:=G0) (ls:=[[.str,.sl 5 true [.int .i64,.int .i64,.int .i64,.int .i64,.str],.sl 2 true [.int .i64,.int .i64],.int .i64,.int .i64],[.str,.sl 5 true [.int .i64,.int .i64,.int .i64,.int .i64,.str],.sl 2 true [.int .i64,.int .i64],.int .i64,.int .i64]]) (d:=20) (RP hL) (by kernel_rfl) (fun j t v h k=>hval j t v (by simpa using h) (by simpa using k)) hA ?_)
 intro dss h
 obtain ⟨a,b,rfl,ha,hb⟩:=Sd h
 obtain ⟨s,L,F,tab,wd,rfl⟩:=Gr ha
 obtain ⟨s',L',F',tab',wd',rfl⟩:=Gr hb
 simp only [pH,ru,Fa,nz]
 refine ig s L F tab wd 150 (by omega) (fun h=>BJ h eu) (fun tb e hk hs =>?_)
 subst e
 refine ig s' L' F' tab' wd' 150 (by omega) (fun h=>BK hs h eu) (fun tb' e hk' hs' =>?_)
 subst e
 obtain ⟨ps,t,R,p1⟩:=nF hk
 obtain ⟨ps',t',R',p1'⟩:=nF hk'
 have m1:=za hk' R' p1'
 have m2:=lz (bF t') (cW (aa s' 0).length (ct (aD L'))) (JH (aa s' 0).length F') tb' wd' (GN s' L') (AT s' L' F') (HU s' L' F' tb' wd')
 by_cases he:(aa s 0).length=(aa s' 0).length
 ·obtain ⟨l1,l2,l3⟩:=hk.len3
  obtain ⟨k1,k2,k3⟩:=hk'.len3
  have q1:=CB (AB s' L') (A1 s' L' F') (AB s L) (A1 s L F) (by omega) _ _ _ _ _ _ _ _ (xt hk) (tu hk)
  have q2:=CA (bW s' L' F' tb' wd' 0) (bW s L F tb wd 0) (by omega)
  have q3:=CJ (bF t) (cW (aa s 0).length (ct (aD L))) (JH (aa s 0).length F) tb wd (GN s' L') (AT s' L' F') (HU s' L' F' tb' wd') _ _ _ (AB s' L') (AB s L) (A1 s' L' F') (A1 s L F) (bW s' L' F' tb' wd' 0) (bW s L F tb wd 0) (by omega) (tJ hk R hk.wv (by have:=hk.sm;omega)) (pC hk') (pC hk) (oz hk') (oz hk) (sq hk') (sq hk)
  rw [show decide (AB s' L'=AB s L∧A1 s' L' F'=A1 s L F∧bW s' L' F' tb' wd' 0=bW s L F tb wd 0)=(decide (AB s' L'=AB s L∧A1 s' L' F'=A1 s L F)&&decide (bW s' L' F' tb' wd' 0=bW s L F tb wd 0)) by rw [Bool.decide_and,Bool.decide_and,Bool.decide_and,Bool.and_assoc]] at q3
  exact Eo hs hs' eu m1 p1 m2 (i9 hk) (i9 hk') he rfl (M9 hk hk' R he) (lz _ _ _ _ _ _ _ _) _ _ _ _ (pC hk') (oz hk') _ _ q1 (o4 hk') (o4 hk) q2 q3
 ·exact Ep hs hs' eu m1 p1 m2 (i9 hk) (i9 hk') he (Na hk hk' R he)
set_option maxRecDepth 100000
theorem Ad:(Rows.stateWithRow.wf (OpenSpec.ofChange Rows.stateWithSpec))=true:=by kernel_rfl
theorem Ae:(Tryz.f7.params.all (Tryz.pinned.checked.prog.readableRec ·))=true:=by kernel_rfl
theorem Af:(namedTie Tryz.pinned.checked.prog Rows.stateWithRow.named Rows.stateWithSpec.vars)=true:=by kernel_rfl
theorem Ag:((Rows.stateWithRow.stops==[]))=true:=by kernel_rfl
theorem Ai:((Rows.stateWithRow.knobs==[]))=true:=by kernel_rfl
theorem Aj:((Rows.stateWithRow.inPlace==Tryz.pinned.checked.prog.inPlace 7))=true:=by kernel_rfl
theorem vq:((Rows.stateWithRow.unfollowed==Tryz.pinned.checked.prog.unfollowed 7))=true:=by kernel_rfl
theorem vr:((Rows.stateWithRow.recurses==Tryz.pinned.checked.prog.recurses 7))=true:=by kernel_rfl
theorem vt:((Rows.stateWithRow.named==Tryz.pinned.checked.prog.varsNamed 7))=true:=by kernel_rfl
theorem vu:((Rows.stateWithRow.maps==(Tryz.f7.params.toList++Rows.stateWithSpec.plain.varTypes Tryz.pinned.checked.prog).any (Tryz.pinned.checked.prog.mapsRec ·)))=true:=by kernel_rfl
theorem vv:((Rows.stateWithRow.ifaces==(Tryz.f7.params.toList++Rows.stateWithSpec.plain.varTypes Tryz.pinned.checked.prog).any (Tryz.pinned.checked.prog.ifacesRec ·)))=true:=by kernel_rfl
theorem vw:((Rows.stateWithRow.mapsOut==Tryz.pinned.checked.prog.mapsAmong Tryz.f7.resultTypes.toList))=true:=by kernel_rfl
theorem vA:((Rows.stateWithRow.loops==(Tryz.f7.params.toList++Rows.stateWithSpec.plain.varTypes Tryz.pinned.checked.prog).any (Tryz.pinned.checked.prog.loopsFrom ·)))=true:=by kernel_rfl
theorem vI:((Rows.stateWithRow.wideKeys==(Tryz.f7.params.toList++Rows.stateWithSpec.plain.varTypes Tryz.pinned.checked.prog++Tryz.f7.resultTypes.toList).any (Tryz.pinned.checked.prog.wideKeysFrom ·)))=true:=by kernel_rfl
theorem vJ:(Rows.stateWithSpec.vars.all (Tryz.pinned.checked.prog.varReadable ·))=true:=by kernel_rfl
theorem vP:(Tryz.f7.resultTypes.all (fun t=>Tryz.pinned.checked.prog.readableRec t&&decide (t<Tryz.pinned.checked.prog.types.size)))=true:=by kernel_rfl
theorem vU:((Rows.stateWithRow.ifacesOut==Tryz.f7.resultTypes.toList.any (Tryz.pinned.checked.prog.ifacesRec ·)))=true:=by kernel_rfl
theorem vV:((Rows.stateWithRow.loopsOut==Tryz.f7.resultTypes.toList.any (Tryz.pinned.checked.prog.loopsFrom ·)))=true:=by kernel_rfl
theorem vW:((Rows.stateWithRow.plainKeys==Tryz.pinned.checked.prog.plainKeys))=true:=by kernel_rfl
theorem vZ:(Rows.stateWithRow.shortTexts.isNone)=true:=by kernel_rfl
theorem v0:((Rows.stateWithRow.lifted==Tryz.pinned.checked.prog.liftsFinal))=true:=by kernel_rfl
theorem v4:((Tryz.pinned.checked.prog.make==some Rows.stateWithRow.make))=true:=by kernel_rfl
theorem v7:((Rows.stateWithRow.kinds==(if Rows.stateWithRow.domain.isEmpty then [] else Tryz.f7.params.toList.map fun t=>match Tryz.pinned.checked.prog.underlying t with|some (.int k)=>some k|_=>none)))=true:=by kernel_rfl
theorem v8:((Rows.stateWithRow.pinned==Rows.stateWithRow.pinnedBy))=true:=by kernel_rfl
theorem v9:((Rows.stateWithRow.veiled==(Tryz.f7.params.toList++Rows.stateWithSpec.plain.varTypes Tryz.pinned.checked.prog++Tryz.f7.resultTypes.toList).any (Tryz.pinned.checked.prog.veiledRec ·)))=true:=by kernel_rfl
theorem wc:(Rows.stateWithRow.veiledFits Tryz.pinned.checked.prog Tryz.f7.params.toList (Tryz.f7.params.toList++Rows.stateWithSpec.plain.varTypes Tryz.pinned.checked.prog++Tryz.f7.resultTypes.toList))=true:=by kernel_rfl
theorem pm:joinedFacts Tryz.pinned.checked.prog 7 Tryz.f7 Rows.stateWithSpec Rows.stateWithRow=true:=by
 delta joinedFacts
 exact (aV (aV (aV (aV (aV (aV (aV (aV (aV (aV (aV (aV (aV (aV (aV (aV (aV (aV (aV (aV (aV (aV (aV (aV (aV (aV (aV (aV (aV (aV (aV Ad zk) zl) Ae) Af) Ag) zm) Ai) zn) Aj) vq) vr) vt) vu) vv) vw) vA) vI) vJ) vP) vU) vV) vW) vZ) th) ti) v0) v4) v7) v8) v9) wc)
theorem qy:Rows.StateWithSaid:=
 OpenClaim.holds_of_wide 7 Tryz.f7 rfl rfl rfl rfl rfl rfl rfl ⟨rfl,rfl,rfl,rfl,rfl⟩ rfl rfl rfl rfl rfl (by kernel_rfl) Tryz.func7 pm
  (of_decide_eq_true (by kernel_rfl)) (by unfold Func.isWrapper;rw [if_neg (of_decide_eq_false (by kernel_rfl))];exact ⟨rfl,rfl⟩)
  (fun os started H enc _=>pn os started H enc)
theorem Ak:Rows.stateWithRow.wfByText (.ofChange Rows.stateWithSpec)=true:=by kernel_rfl
theorem ue:false=Rows.stateWithRow.goesBy Tryz.pinned.checked.prog:=by kernel_rfl
theorem stateWith_card:Rows.StateWithCardSaid:=
 Claim7.holds_tied_plain_at .later [] [.data,.data,.data] true (true, "38f1c5b772000730f811cc55395145d5b5ed6c6db77504d5e394fd30e1cb5661") true
  qy (fun _ h=>by cases h) Ak (fun _ h=>by cases h) stateWith_row_tie rfl ⟨rfl,rfl⟩ oY rfl
  (fun f fn hf hfn=>by
   obtain rfl:f=7:=Option.some.inj ((show Tryz.prog.funcNamed "bodkin/bodkinlaw28.StateWith" = some 7 by kernel_rfl).symm.trans hf) |>.symm
   obtain rfl:fn=Tryz.f7:=(Option.some.inj (Tryz.func7.symm.trans hfn)).symm
   exact ⟨my,fun j t ht=>by
    have hall:(Tryz.f7.params.toList.all fun u=> !Tryz.prog.wantsStandIn u)=true:=by kernel_rfl
    have hm:t∈Tryz.f7.params.toList:=by simpa using Array.mem_of_getElem? ht
    have hz:=List.all_eq_true.1 hall t hm
    show Tryz.prog.wantsStandIn t=false
    simpa using hz⟩)
  ue
#print axioms stateWith_card
end Go.Proofs.YtkkanlcjjpoklaaGreatDoor
