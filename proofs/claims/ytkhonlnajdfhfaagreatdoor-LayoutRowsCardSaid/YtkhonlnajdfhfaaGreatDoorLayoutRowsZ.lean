/- LayoutRows: the rows of every document, cell by cell, with all that is told of them, are the document's. The small case that the statement asks holds. No condition. -/
import Derived.Test.YtkhonlnajdfhfaaGreatDoorCards
import Derived.Test.YtkhonlnajdfhfaaGreatDoorTie
import Derived.SevenTiedAt
import Derived.LaidMore
import Derived.Test.YtkhonlnajdfhfaaGreatDoorLtYPBS
import Derived.Test.YtkhonlnajdfhfaaGreatDoorLtYPBT
import Derived.Test.YtkhonlnajdfhfaaGreatDoorLtYPBV
set_option linter.unusedSimpArgs false
namespace Go.Proofs.YtkhonlnajdfhfaaGreatDoor
open Go Go.ChangeShapes Go.WideShapes Go.ChangeAt Go.RowKit Go.Joins
set_option maxRecDepth 100000 in
theorem layoutRows_lifted (os : Os) (started : os.Started) (H : Type) (enc : TypeId × Value → H) :
    ReturnsInHanded {} Tryz.checked os 3 .any (fun w args => (Rows.layoutRowsSpec.pre enc Tryz.prog Tryz.f3 Rows.layoutRowsRow.domain false w args ∧ laidMetH Tryz.prog Rows.layoutRowsRow.laid w) ∧ sizedMet enc Tryz.prog Tryz.f3 (OpenSpec.ofChange Rows.layoutRowsSpec) false w args) (Rows.layoutRowsSpec.post enc Tryz.prog Tryz.f3 false true false false) := by
  refine returnsInHanded_of_change_and (C := Tryz.checked) (X := fun w _ => laidMetH Tryz.prog Rows.layoutRowsRow.laid w) (fun _ _ _ hh h => h.of_heap hh) Tryz.own started (by kernel_rfl) Tryz.func3
    (ChangeSpec.witness_shaped (enc := enc) (C := Tryz.checked) (os := os) (X := fun w _ => laidMetH Tryz.prog Rows.layoutRowsRow.laid w) false (World.doorLaid Tryz.prog 60 os) #[.agg #[.string ⟨#[]⟩, .slice none 0 0, .slice none 0 0, .int .i64 0, .int .i64 0]] 8 rfl (World.shaped_of_RefB (by kernel_rfl) (by kernel_rfl)) (by kernel_rfl) (by kernel_rfl) (by kernel_rfl)
      (laidMetH_of_parts3 (fuel := 8) (laidMet_of_run' 8 (by kernel_rfl) (by kernel_rfl)) (by kernel_rfl) (by kernel_rfl))) ?_
  intro W base args ds gs before hval0 hW _ _ hL _
  have hval : ∀ (j : Nat) t v, Tryz.f3.params[j]? = some t → args[j]? = some v → Value.okWide Tryz.prog W .any base t v := hval0
  obtain ⟨p, q, hA0, hV, hpq, hfz, hnd⟩ := id hW
  have hA : DataW.TrodAll enc Tryz.prog W 0 (fun _ => true) true Tryz.f3.params.toList args.toList ds p := hA0
  obtain ⟨hgs, hq⟩ := trodVars_none hV
  have hlen := trod_len hA
  rw [Tryz.params3] at hA hval hlen
  subst hgs
  have hsp : Rows.layoutRowsSpec.fn H (ds ++ []) = { results := [.lit (.bool true)], args := ds } := by
    rw [List.append_nil]
    simp only [List.length_cons, List.length_nil] at hlen
    first
      | (obtain ⟨d0, rfl⟩ := List.length_eq_one_iff.1 hlen; rfl)
      | (match ds, hlen with | [d0, d1], _ => rfl)
      | (match ds, hlen with | [d0, d1, d2], _ => rfl)
      | (match ds, hlen with | [d0, d1, d2, d3], _ => rfl)
      | (match ds, hlen with | [d0, d1, d2, d3, d4], _ => rfl)
  refine law_calls (P := Tryz.prog) Tryz.laidOut (by kernel_rfl) rfl rfl Tryz.underlying4 hW hsp (law_open (G := G0) (ls := [[.str, .sl 5 true [.int .i64, .int .i64, .int .i64, .int .i64, .str], .sl 2 true [.int .i64, .int .i64], .int .i64, .int .i64]]) (d := 20) (gok3 hL) (by kernel_rfl) (fun j t v h k => hval j t v (by simpa using h) (by simpa using k)) hA ?_)
  intro dss h
  obtain ⟨a, rfl, ha⟩ := ofAll1 h
  obtain ⟨s, L, F, tab, wd, rfl⟩ := ofDoc ha
  simp only [argsD, argD, st_doc, mkEl]
  refine small_cases s L F tab wd (fun h => lawLayoutRows_no h two_run) (fun tb e hk hs => ?_)
  subst e
  obtain ⟨ps, t, R, r1⟩ := view_fn hk
  exact lawLayoutRows_m hs two_run r1 (lRows_fn hk R) (lCheck_fn hk R) (rOf23_fn hk) (dRows_fn hk) (pRows_fn _ (Nat.le_trans hk.lay.len (by omega)) fun r hr => by have := (hk.lay.cel r hr).1; omega)
set_option maxRecDepth 100000
theorem layoutRows_q0 : (Rows.layoutRowsRow.wf (OpenSpec.ofChange Rows.layoutRowsSpec)) = true := by kernel_rfl
theorem layoutRows_q3 : (Tryz.f3.params.all (Tryz.pinned.checked.prog.readableRec ·)) = true := by kernel_rfl
theorem layoutRows_q4 : (namedTie Tryz.pinned.checked.prog Rows.layoutRowsRow.named Rows.layoutRowsSpec.vars) = true := by kernel_rfl
theorem layoutRows_q5 : ((Rows.layoutRowsRow.stops == [])) = true := by kernel_rfl
theorem layoutRows_q7 : ((Rows.layoutRowsRow.knobs == [])) = true := by kernel_rfl
theorem layoutRows_q9 : ((Rows.layoutRowsRow.inPlace == Tryz.pinned.checked.prog.inPlace 3)) = true := by kernel_rfl
theorem layoutRows_q10 : ((Rows.layoutRowsRow.unfollowed == Tryz.pinned.checked.prog.unfollowed 3)) = true := by kernel_rfl
theorem layoutRows_q11 : ((Rows.layoutRowsRow.recurses == Tryz.pinned.checked.prog.recurses 3)) = true := by kernel_rfl
theorem layoutRows_q12 : ((Rows.layoutRowsRow.named == Tryz.pinned.checked.prog.varsNamed 3)) = true := by kernel_rfl
theorem layoutRows_q13 : ((Rows.layoutRowsRow.maps == (Tryz.f3.params.toList ++ Rows.layoutRowsSpec.plain.varTypes Tryz.pinned.checked.prog).any (Tryz.pinned.checked.prog.mapsRec ·))) = true := by kernel_rfl
theorem layoutRows_q14 : ((Rows.layoutRowsRow.ifaces == (Tryz.f3.params.toList ++ Rows.layoutRowsSpec.plain.varTypes Tryz.pinned.checked.prog).any (Tryz.pinned.checked.prog.ifacesRec ·))) = true := by kernel_rfl
theorem layoutRows_q15 : ((Rows.layoutRowsRow.mapsOut == Tryz.pinned.checked.prog.mapsAmong Tryz.f3.resultTypes.toList)) = true := by kernel_rfl
theorem layoutRows_q16 : ((Rows.layoutRowsRow.loops == (Tryz.f3.params.toList ++ Rows.layoutRowsSpec.plain.varTypes Tryz.pinned.checked.prog).any (Tryz.pinned.checked.prog.loopsFrom ·))) = true := by kernel_rfl
theorem layoutRows_q17 : ((Rows.layoutRowsRow.wideKeys == (Tryz.f3.params.toList ++ Rows.layoutRowsSpec.plain.varTypes Tryz.pinned.checked.prog ++ Tryz.f3.resultTypes.toList).any (Tryz.pinned.checked.prog.wideKeysFrom ·))) = true := by kernel_rfl
theorem layoutRows_q18 : (Rows.layoutRowsSpec.vars.all (Tryz.pinned.checked.prog.varReadable ·)) = true := by kernel_rfl
theorem layoutRows_q19 : (Tryz.f3.resultTypes.all (fun t => Tryz.pinned.checked.prog.readableRec t && decide (t < Tryz.pinned.checked.prog.types.size))) = true := by kernel_rfl
theorem layoutRows_q20 : ((Rows.layoutRowsRow.ifacesOut == Tryz.f3.resultTypes.toList.any (Tryz.pinned.checked.prog.ifacesRec ·))) = true := by kernel_rfl
theorem layoutRows_q21 : ((Rows.layoutRowsRow.loopsOut == Tryz.f3.resultTypes.toList.any (Tryz.pinned.checked.prog.loopsFrom ·))) = true := by kernel_rfl
theorem layoutRows_q22 : ((Rows.layoutRowsRow.plainKeys == Tryz.pinned.checked.prog.plainKeys)) = true := by kernel_rfl
theorem layoutRows_q23 : (Rows.layoutRowsRow.shortTexts.isNone) = true := by kernel_rfl
theorem layoutRows_q26 : ((Rows.layoutRowsRow.lifted == Tryz.pinned.checked.prog.liftsFinal)) = true := by kernel_rfl
theorem layoutRows_q27 : ((Tryz.pinned.checked.prog.make == some Rows.layoutRowsRow.make)) = true := by kernel_rfl
theorem layoutRows_q28 : ((Rows.layoutRowsRow.kinds == (if Rows.layoutRowsRow.domain.isEmpty then [] else Tryz.f3.params.toList.map fun t => match Tryz.pinned.checked.prog.underlying t with | some (.int k) => some k | _ => none))) = true := by kernel_rfl
theorem layoutRows_q29 : ((Rows.layoutRowsRow.pinned == Rows.layoutRowsRow.pinnedBy)) = true := by kernel_rfl
theorem layoutRows_q30 : ((Rows.layoutRowsRow.veiled == (Tryz.f3.params.toList ++ Rows.layoutRowsSpec.plain.varTypes Tryz.pinned.checked.prog ++ Tryz.f3.resultTypes.toList).any (Tryz.pinned.checked.prog.veiledRec ·))) = true := by kernel_rfl
theorem layoutRows_q31 : (Rows.layoutRowsRow.veiledFits Tryz.pinned.checked.prog Tryz.f3.params.toList (Tryz.f3.params.toList ++ Rows.layoutRowsSpec.plain.varTypes Tryz.pinned.checked.prog ++ Tryz.f3.resultTypes.toList)) = true := by kernel_rfl
theorem layoutRows_closed : joinedFacts Tryz.pinned.checked.prog 3 Tryz.f3 Rows.layoutRowsSpec Rows.layoutRowsRow = true := by
  delta joinedFacts
  exact (and2 (and2 (and2 (and2 (and2 (and2 (and2 (and2 (and2 (and2 (and2 (and2 (and2 (and2 (and2 (and2 (and2 (and2 (and2 (and2 (and2 (and2 (and2 (and2 (and2 (and2 (and2 (and2 (and2 (and2 (and2 layoutRows_q0 prog_q1) prog_q2) layoutRows_q3) layoutRows_q4) layoutRows_q5) prog_q6) layoutRows_q7) prog_q8) layoutRows_q9) layoutRows_q10) layoutRows_q11) layoutRows_q12) layoutRows_q13) layoutRows_q14) layoutRows_q15) layoutRows_q16) layoutRows_q17) layoutRows_q18) layoutRows_q19) layoutRows_q20) layoutRows_q21) layoutRows_q22) layoutRows_q23) prog_q24) prog_q25) layoutRows_q26) layoutRows_q27) layoutRows_q28) layoutRows_q29) layoutRows_q30) layoutRows_q31)
theorem layoutRows_holds : Rows.LayoutRowsSaid :=
  OpenClaim.holds_of_wide 3 Tryz.f3 rfl rfl rfl rfl rfl rfl rfl ⟨rfl, rfl, rfl, rfl, rfl⟩ rfl rfl rfl rfl rfl (by kernel_rfl) Tryz.func3 layoutRows_closed
    (of_decide_eq_true (by kernel_rfl)) (by unfold Func.isWrapper; rw [if_neg (of_decide_eq_false (by kernel_rfl))]; exact ⟨rfl, rfl⟩)
    (fun os started H enc _ => layoutRows_lifted os started H enc)
theorem layoutRows_wf : Rows.layoutRowsRow.wfByText (.ofChange Rows.layoutRowsSpec) = true := by kernel_rfl
theorem layoutRows_goes : false = Rows.layoutRowsRow.goesBy Tryz.pinned.checked.prog := by kernel_rfl
theorem layoutRows_card : Rows.LayoutRowsCardSaid :=
  Claim7.holds_tied_plain_at .later [] [.data, .data, .data] true (true, "fef0735253b16c1d28ea8deb4f8454d84ed411c7fc7c94ff7229731fe639b12e") true
    layoutRows_holds (fun _ h => by cases h) layoutRows_wf (fun _ h => by cases h) layoutRows_row_tie rfl ⟨rfl, rfl⟩ prog_main rfl
    (fun f fn hf hfn => by
      obtain rfl : f = 3 := Option.some.inj ((show Tryz.prog.funcNamed "bodkin/bodkinlaw23.LayoutRows" = some 3 by kernel_rfl).symm.trans hf) |>.symm
      obtain rfl : fn = Tryz.f3 := (Option.some.inj (Tryz.func3.symm.trans hfn)).symm
      exact ⟨prog_looks, fun j t ht => by
        have hall : (Tryz.f3.params.toList.all fun u => !Tryz.prog.wantsStandIn u) = true := by kernel_rfl
        have hm : t ∈ Tryz.f3.params.toList := by simpa using Array.mem_of_getElem? ht
        have hz := List.all_eq_true.1 hall t hm
        show Tryz.prog.wantsStandIn t = false
        simpa using hz⟩)
    layoutRows_goes
#print axioms layoutRows_card
end Go.Proofs.YtkhonlnajdfhfaaGreatDoor
