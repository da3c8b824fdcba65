/- LayoutWide: of a width from 2 on no row of any document is wider; each row has a cell at least, but where a line has none; what a row's width is told to be it is. The small case that the statement asks holds. No condition. -/
import Derived.Test.YtihghiojmhegoaaGreatDoorCards
import Derived.Test.YtihghiojmhegoaaGreatDoorTie
import Derived.SevenTiedAt
import Derived.LaidMore
import Derived.Test.YtihghiojmhegoaaGreatDoorLtUPBT
import Derived.Test.YtihghiojmhegoaaGreatDoorLtUPBX
import Derived.Test.YtihghiojmhegoaaGreatDoorLtUPBZ
set_option linter.unusedSimpArgs false
namespace Go.Proofs.YtihghiojmhegoaaGreatDoor
open Go Go.ChangeShapes Go.WideShapes Go.ChangeAt Go.RowKit Go.Joins
set_option maxRecDepth 100000 in
theorem layoutWide_lifted (os : Os) (started : os.Started) (H : Type) (enc : TypeId × Value → H) :
    ReturnsInHanded {} Tryz.checked os 5 .any (fun w args => (Rows.layoutWideSpec.pre enc Tryz.prog Tryz.f5 Rows.layoutWideRow.domain false w args ∧ laidMetH Tryz.prog Rows.layoutWideRow.laid w) ∧ sizedMet enc Tryz.prog Tryz.f5 (OpenSpec.ofChange Rows.layoutWideSpec) false w args) (Rows.layoutWideSpec.post enc Tryz.prog Tryz.f5 false true false false) := by
  refine returnsInHanded_of_change_and (C := Tryz.checked) (X := fun w _ => laidMetH Tryz.prog Rows.layoutWideRow.laid w) (fun _ _ _ hh h => h.of_heap hh) Tryz.own started (by kernel_rfl) Tryz.func5
    (ChangeSpec.witness_shaped (enc := enc) (C := Tryz.checked) (os := os) (X := fun w _ => laidMetH Tryz.prog Rows.layoutWideRow.laid w) false (World.doorLaid Tryz.prog 60 os) #[.agg #[.string ⟨#[]⟩, .slice none 0 0, .slice none 0 0, .int .i64 0, .int .i64 0]] 8 rfl (World.shaped_of_RefB (by kernel_rfl) (by kernel_rfl)) (by kernel_rfl) (by kernel_rfl) (by kernel_rfl)
      (laidMetH_of_parts3 (fuel := 8) (laidMet_of_run' 8 (by kernel_rfl) (by kernel_rfl)) (by kernel_rfl) (by kernel_rfl))) ?_
  intro W base args ds gs before hval0 hW _ _ hL _
  have hval : ∀ (j : Nat) t v, Tryz.f5.params[j]? = some t → args[j]? = some v → Value.okWide Tryz.prog W .any base t v := hval0
  obtain ⟨p, q, hA0, hV, hpq, hfz, hnd⟩ := id hW
  have hA : DataW.TrodAll enc Tryz.prog W 0 (fun _ => true) true Tryz.f5.params.toList args.toList ds p := hA0
  obtain ⟨hgs, hq⟩ := trodVars_none hV
  have hlen := trod_len hA
  rw [Tryz.params5] at hA hval hlen
  subst hgs
  have hsp : Rows.layoutWideSpec.fn H (ds ++ []) = { results := [.lit (.bool true)], args := ds } := by
    rw [List.append_nil]
    simp only [List.length_cons, List.length_nil] at hlen
    first
      | (obtain ⟨d0, rfl⟩ := List.length_eq_one_iff.1 hlen; rfl)
      | (match ds, hlen with | [d0, d1], _ => rfl)
      | (match ds, hlen with | [d0, d1, d2], _ => rfl)
      | (match ds, hlen with | [d0, d1, d2, d3], _ => rfl)
      | (match ds, hlen with | [d0, d1, d2, d3, d4], _ => rfl)
  refine law_calls (P := Tryz.prog) Tryz.laidOut (by kernel_rfl) rfl rfl Tryz.underlying4 hW hsp (law_open (G := G0) (ls := [[.str, .sl 5 true [.int .i64, .int .i64, .int .i64, .int .i64, .str], .sl 2 true [.int .i64, .int .i64], .int .i64, .int .i64]]) (d := 20) (gok3 hL) (by kernel_rfl) (fun j t v h k => hval j t v (by simpa using h) (by simpa using k)) hA ?_)
  intro dss h
  obtain ⟨a, rfl, ha⟩ := ofAll1 h
  obtain ⟨s, L, F, tab, wd, rfl⟩ := ofDoc ha
  simp only [argsD, argD, st_doc, mkEl]
  refine small_cases s L F tab wd (fun h => lawLayoutWide_no h two_run) (fun tb e hk hs => ?_)
  subst e
  obtain ⟨ps, t, R, r1⟩ := view_fn hk
  exact lawLayoutWide_m hk.lay hs two_run ⟨_, rfl, rfl⟩ r1 (lRows_fn hk R)
set_option maxRecDepth 100000
theorem layoutWide_q0 : (Rows.layoutWideRow.wf (OpenSpec.ofChange Rows.layoutWideSpec)) = true := by kernel_rfl
theorem layoutWide_q3 : (Tryz.f5.params.all (Tryz.pinned.checked.prog.readableRec ·)) = true := by kernel_rfl
theorem layoutWide_q4 : (namedTie Tryz.pinned.checked.prog Rows.layoutWideRow.named Rows.layoutWideSpec.vars) = true := by kernel_rfl
theorem layoutWide_q5 : ((Rows.layoutWideRow.stops == [])) = true := by kernel_rfl
theorem layoutWide_q7 : ((Rows.layoutWideRow.knobs == [])) = true := by kernel_rfl
theorem layoutWide_q9 : ((Rows.layoutWideRow.inPlace == Tryz.pinned.checked.prog.inPlace 5)) = true := by kernel_rfl
theorem layoutWide_q10 : ((Rows.layoutWideRow.unfollowed == Tryz.pinned.checked.prog.unfollowed 5)) = true := by kernel_rfl
theorem layoutWide_q11 : ((Rows.layoutWideRow.recurses == Tryz.pinned.checked.prog.recurses 5)) = true := by kernel_rfl
theorem layoutWide_q12 : ((Rows.layoutWideRow.named == Tryz.pinned.checked.prog.varsNamed 5)) = true := by kernel_rfl
theorem layoutWide_q13 : ((Rows.layoutWideRow.maps == (Tryz.f5.params.toList ++ Rows.layoutWideSpec.plain.varTypes Tryz.pinned.checked.prog).any (Tryz.pinned.checked.prog.mapsRec ·))) = true := by kernel_rfl
theorem layoutWide_q14 : ((Rows.layoutWideRow.ifaces == (Tryz.f5.params.toList ++ Rows.layoutWideSpec.plain.varTypes Tryz.pinned.checked.prog).any (Tryz.pinned.checked.prog.ifacesRec ·))) = true := by kernel_rfl
theorem layoutWide_q15 : ((Rows.layoutWideRow.mapsOut == Tryz.pinned.checked.prog.mapsAmong Tryz.f5.resultTypes.toList)) = true := by kernel_rfl
theorem layoutWide_q16 : ((Rows.layoutWideRow.loops == (Tryz.f5.params.toList ++ Rows.layoutWideSpec.plain.varTypes Tryz.pinned.checked.prog).any (Tryz.pinned.checked.prog.loopsFrom ·))) = true := by kernel_rfl
theorem layoutWide_q17 : ((Rows.layoutWideRow.wideKeys == (Tryz.f5.params.toList ++ Rows.layoutWideSpec.plain.varTypes Tryz.pinned.checked.prog ++ Tryz.f5.resultTypes.toList).any (Tryz.pinned.checked.prog.wideKeysFrom ·))) = true := by kernel_rfl
theorem layoutWide_q18 : (Rows.layoutWideSpec.vars.all (Tryz.pinned.checked.prog.varReadable ·)) = true := by kernel_rfl
theorem layoutWide_q19 : (Tryz.f5.resultTypes.all (fun t => Tryz.pinned.checked.prog.readableRec t && decide (t < Tryz.pinned.checked.prog.types.size))) = true := by kernel_rfl
theorem layoutWide_q20 : ((Rows.layoutWideRow.ifacesOut == Tryz.f5.resultTypes.toList.any (Tryz.pinned.checked.prog.ifacesRec ·))) = true := by kernel_rfl
theorem layoutWide_q21 : ((Rows.layoutWideRow.loopsOut == Tryz.f5.resultTypes.toList.any (Tryz.pinned.checked.prog.loopsFrom ·))) = true := by kernel_rfl
theorem layoutWide_q22 : ((Rows.layoutWideRow.plainKeys == Tryz.pinned.checked.prog.plainKeys)) = true := by kernel_rfl
theorem layoutWide_q23 : (Rows.layoutWideRow.shortTexts.isNone) = true := by kernel_rfl
theorem layoutWide_q26 : ((Rows.layoutWideRow.lifted == Tryz.pinned.checked.prog.liftsFinal)) = true := by kernel_rfl
theorem layoutWide_q27 : ((Tryz.pinned.checked.prog.make == some Rows.layoutWideRow.make)) = true := by kernel_rfl
theorem layoutWide_q28 : ((Rows.layoutWideRow.kinds == (if Rows.layoutWideRow.domain.isEmpty then [] else Tryz.f5.params.toList.map fun t => match Tryz.pinned.checked.prog.underlying t with | some (.int k) => some k | _ => none))) = true := by kernel_rfl
theorem layoutWide_q29 : ((Rows.layoutWideRow.pinned == Rows.layoutWideRow.pinnedBy)) = true := by kernel_rfl
theorem layoutWide_q30 : ((Rows.layoutWideRow.veiled == (Tryz.f5.params.toList ++ Rows.layoutWideSpec.plain.varTypes Tryz.pinned.checked.prog ++ Tryz.f5.resultTypes.toList).any (Tryz.pinned.checked.prog.veiledRec ·))) = true := by kernel_rfl
theorem layoutWide_q31 : (Rows.layoutWideRow.veiledFits Tryz.pinned.checked.prog Tryz.f5.params.toList (Tryz.f5.params.toList ++ Rows.layoutWideSpec.plain.varTypes Tryz.pinned.checked.prog ++ Tryz.f5.resultTypes.toList)) = true := by kernel_rfl
theorem layoutWide_closed : joinedFacts Tryz.pinned.checked.prog 5 Tryz.f5 Rows.layoutWideSpec Rows.layoutWideRow = true := by
  delta joinedFacts
  exact (and2 (and2 (and2 (and2 (and2 (and2 (and2 (and2 (and2 (and2 (and2 (and2 (and2 (and2 (and2 (and2 (and2 (and2 (and2 (and2 (and2 (and2 (and2 (and2 (and2 (and2 (and2 (and2 (and2 (and2 (and2 layoutWide_q0 prog_q1) prog_q2) layoutWide_q3) layoutWide_q4) layoutWide_q5) prog_q6) layoutWide_q7) prog_q8) layoutWide_q9) layoutWide_q10) layoutWide_q11) layoutWide_q12) layoutWide_q13) layoutWide_q14) layoutWide_q15) layoutWide_q16) layoutWide_q17) layoutWide_q18) layoutWide_q19) layoutWide_q20) layoutWide_q21) layoutWide_q22) layoutWide_q23) prog_q24) prog_q25) layoutWide_q26) layoutWide_q27) layoutWide_q28) layoutWide_q29) layoutWide_q30) layoutWide_q31)
theorem layoutWide_holds : Rows.LayoutWideSaid :=
  OpenClaim.holds_of_wide 5 Tryz.f5 rfl rfl rfl rfl rfl rfl rfl ⟨rfl, rfl, rfl, rfl, rfl⟩ rfl rfl rfl rfl rfl (by kernel_rfl) Tryz.func5 layoutWide_closed
    (of_decide_eq_true (by kernel_rfl)) (by unfold Func.isWrapper; rw [if_neg (of_decide_eq_false (by kernel_rfl))]; exact ⟨rfl, rfl⟩)
    (fun os started H enc _ => layoutWide_lifted os started H enc)
theorem layoutWide_wf : Rows.layoutWideRow.wfByText (.ofChange Rows.layoutWideSpec) = true := by kernel_rfl
theorem layoutWide_goes : false = Rows.layoutWideRow.goesBy Tryz.pinned.checked.prog := by kernel_rfl
theorem layoutWide_card : Rows.LayoutWideCardSaid :=
  Claim7.holds_tied_plain_at .later [] [.data, .data, .data] true (true, "8adfe1a44b2d12921742ab5bff559bd1f39c41ccbf89b3f018f1f9c4268c805e") true
    layoutWide_holds (fun _ h => by cases h) layoutWide_wf (fun _ h => by cases h) layoutWide_row_tie rfl ⟨rfl, rfl⟩ prog_main rfl
    (fun f fn hf hfn => by
      obtain rfl : f = 5 := Option.some.inj ((show Tryz.prog.funcNamed "bodkin/bodkinlaw23.LayoutWide" = some 5 by kernel_rfl).symm.trans hf) |>.symm
      obtain rfl : fn = Tryz.f5 := (Option.some.inj (Tryz.func5.symm.trans hfn)).symm
      exact ⟨prog_looks, fun j t ht => by
        have hall : (Tryz.f5.params.toList.all fun u => !Tryz.prog.wantsStandIn u) = true := by kernel_rfl
        have hm : t ∈ Tryz.f5.params.toList := by simpa using Array.mem_of_getElem? ht
        have hz := List.all_eq_true.1 hall t hm
        show Tryz.prog.wantsStandIn t = false
        simpa using hz⟩)
    layoutWide_goes
#print axioms layoutWide_card
end Go.Proofs.YtihghiojmhegoaaGreatDoor
