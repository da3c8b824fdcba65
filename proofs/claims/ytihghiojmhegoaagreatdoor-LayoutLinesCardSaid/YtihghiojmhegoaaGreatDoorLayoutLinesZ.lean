/- LayoutLines: each line's rows by themselves are those of all rows that are the line's, of any document. The small case that the statement asks holds. No condition. -/
import Derived.Test.YtihghiojmhegoaaGreatDoorCards
import Derived.Test.YtihghiojmhegoaaGreatDoorTie
import Derived.SevenTiedAt
import Derived.LaidMore
import Derived.Test.YtihghiojmhegoaaGreatDoorLtUPBW
import Derived.Test.YtihghiojmhegoaaGreatDoorLtUPBX
import Derived.Test.YtihghiojmhegoaaGreatDoorLtUPBZ
set_option linter.unusedSimpArgs false
namespace Go.Proofs.YtihghiojmhegoaaGreatDoor
open Go Go.ChangeShapes Go.WideShapes Go.ChangeAt Go.RowKit Go.Joins
set_option maxRecDepth 100000 in
theorem layoutLines_lifted (os : Os) (started : os.Started) (H : Type) (enc : TypeId × Value → H) :
    ReturnsInHanded {} Tryz.checked os 7 .any (fun w args => (Rows.layoutLinesSpec.pre enc Tryz.prog Tryz.f7 Rows.layoutLinesRow.domain false w args ∧ laidMetH Tryz.prog Rows.layoutLinesRow.laid w) ∧ sizedMet enc Tryz.prog Tryz.f7 (OpenSpec.ofChange Rows.layoutLinesSpec) false w args) (Rows.layoutLinesSpec.post enc Tryz.prog Tryz.f7 false true false false) := by
  refine returnsInHanded_of_change_and (C := Tryz.checked) (X := fun w _ => laidMetH Tryz.prog Rows.layoutLinesRow.laid w) (fun _ _ _ hh h => h.of_heap hh) Tryz.own started (by kernel_rfl) Tryz.func7
    (ChangeSpec.witness_shaped (enc := enc) (C := Tryz.checked) (os := os) (X := fun w _ => laidMetH Tryz.prog Rows.layoutLinesRow.laid w) false (World.doorLaid Tryz.prog 60 os) #[.agg #[.string ⟨#[]⟩, .slice none 0 0, .slice none 0 0, .int .i64 0, .int .i64 0]] 8 rfl (World.shaped_of_RefB (by kernel_rfl) (by kernel_rfl)) (by kernel_rfl) (by kernel_rfl) (by kernel_rfl)
      (laidMetH_of_parts3 (fuel := 8) (laidMet_of_run' 8 (by kernel_rfl) (by kernel_rfl)) (by kernel_rfl) (by kernel_rfl))) ?_
  intro W base args ds gs before hval0 hW _ _ hL _
  have hval : ∀ (j : Nat) t v, Tryz.f7.params[j]? = some t → args[j]? = some v → Value.okWide Tryz.prog W .any base t v := hval0
  obtain ⟨p, q, hA0, hV, hpq, hfz, hnd⟩ := id hW
  have hA : DataW.TrodAll enc Tryz.prog W 0 (fun _ => true) true Tryz.f7.params.toList args.toList ds p := hA0
  obtain ⟨hgs, hq⟩ := trodVars_none hV
  have hlen := trod_len hA
  rw [Tryz.params7] at hA hval hlen
  subst hgs
  have hsp : Rows.layoutLinesSpec.fn H (ds ++ []) = { results := [.lit (.bool true)], args := ds } := by
    rw [List.append_nil]
    simp only [List.length_cons, List.length_nil] at hlen
    first
      | (obtain ⟨d0, rfl⟩ := List.length_eq_one_iff.1 hlen; rfl)
      | (match ds, hlen with | [d0, d1], _ => rfl)
      | (match ds, hlen with | [d0, d1, d2], _ => rfl)
      | (match ds, hlen with | [d0, d1, d2, d3], _ => rfl)
      | (match ds, hlen with | [d0, d1, d2, d3, d4], _ => rfl)
  refine law_calls (P := Tryz.prog) Tryz.laidOut (by kernel_rfl) rfl rfl Tryz.underlying4 hW hsp (law_open (G := G0) (ls := [[.str, .sl 5 true [.int .i64, .int .i64, .int .i64, .int .i64, .str], .sl 2 true [.int .i64, .int .i64], .int .i64, .int .i64]]) (d := 20) (gok3 hL) (by kernel_rfl) (fun j t v h k => hval j t v (by simpa using h) (by simpa using k)) hA ?_)
  intro dss h
  obtain ⟨a, rfl, ha⟩ := ofAll1 h
  obtain ⟨s, L, F, tab, wd, rfl⟩ := ofDoc ha
  simp only [argsD, argD, st_doc, mkEl]
  refine small_cases s L F tab wd (fun h => lawLayoutLines_no h two_run) (fun tb e hk hs => ?_)
  subst e
  obtain ⟨ps, t, R, r1⟩ := view_fn hk
  have hla := hk.lay
  have r2 := lRows_fn hk R
  rw [rowsD, layA_eq] at hla r2
  have hl := hk.hl
  have hgl := hk.gd.len
  refine lawLayoutLines_m _ (by have := hk.ll; omega) hla.len (fun r hr => by have := (hla.cel r hr).1; omega) (fun x hx hq => ?_) hs two_run r1 r2 (sAll_fn R (runesAt s 0).length (insA L) (by omega) (fun y hy => ⟨hk.gd.at' y hy, hk.gd.sz y hy⟩) (hidSr F) (by omega) hk.okT) (fun x hx => lLine1_fn hk R x hx)
  obtain ⟨h1, h2, h3⟩ := lines_beg (runesAt s 0) (hidSr F) _ 0 (Nat.le_refl _) (Nat.zero_le _) (.inl rfl) x hx
  obtain ⟨r, T, e, _⟩ := line_rows ((runP_fl (L := insA L) hk.gd.so (okT_rgt hk.okT).1 h1 h3).cells (z := zT) (w := wT) (tab := tb) 0) (endP_in _ (hidSr F) h1).1 wd
  rw [← h2] at e
  rw [layL, e] at hq
  cases hq
set_option maxRecDepth 100000
theorem layoutLines_q0 : (Rows.layoutLinesRow.wf (OpenSpec.ofChange Rows.layoutLinesSpec)) = true := by kernel_rfl
theorem layoutLines_q3 : (Tryz.f7.params.all (Tryz.pinned.checked.prog.readableRec ·)) = true := by kernel_rfl
theorem layoutLines_q4 : (namedTie Tryz.pinned.checked.prog Rows.layoutLinesRow.named Rows.layoutLinesSpec.vars) = true := by kernel_rfl
theorem layoutLines_q5 : ((Rows.layoutLinesRow.stops == [])) = true := by kernel_rfl
theorem layoutLines_q7 : ((Rows.layoutLinesRow.knobs == [])) = true := by kernel_rfl
theorem layoutLines_q9 : ((Rows.layoutLinesRow.inPlace == Tryz.pinned.checked.prog.inPlace 7)) = true := by kernel_rfl
theorem layoutLines_q10 : ((Rows.layoutLinesRow.unfollowed == Tryz.pinned.checked.prog.unfollowed 7)) = true := by kernel_rfl
theorem layoutLines_q11 : ((Rows.layoutLinesRow.recurses == Tryz.pinned.checked.prog.recurses 7)) = true := by kernel_rfl
theorem layoutLines_q12 : ((Rows.layoutLinesRow.named == Tryz.pinned.checked.prog.varsNamed 7)) = true := by kernel_rfl
theorem layoutLines_q13 : ((Rows.layoutLinesRow.maps == (Tryz.f7.params.toList ++ Rows.layoutLinesSpec.plain.varTypes Tryz.pinned.checked.prog).any (Tryz.pinned.checked.prog.mapsRec ·))) = true := by kernel_rfl
theorem layoutLines_q14 : ((Rows.layoutLinesRow.ifaces == (Tryz.f7.params.toList ++ Rows.layoutLinesSpec.plain.varTypes Tryz.pinned.checked.prog).any (Tryz.pinned.checked.prog.ifacesRec ·))) = true := by kernel_rfl
theorem layoutLines_q15 : ((Rows.layoutLinesRow.mapsOut == Tryz.pinned.checked.prog.mapsAmong Tryz.f7.resultTypes.toList)) = true := by kernel_rfl
theorem layoutLines_q16 : ((Rows.layoutLinesRow.loops == (Tryz.f7.params.toList ++ Rows.layoutLinesSpec.plain.varTypes Tryz.pinned.checked.prog).any (Tryz.pinned.checked.prog.loopsFrom ·))) = true := by kernel_rfl
theorem layoutLines_q17 : ((Rows.layoutLinesRow.wideKeys == (Tryz.f7.params.toList ++ Rows.layoutLinesSpec.plain.varTypes Tryz.pinned.checked.prog ++ Tryz.f7.resultTypes.toList).any (Tryz.pinned.checked.prog.wideKeysFrom ·))) = true := by kernel_rfl
theorem layoutLines_q18 : (Rows.layoutLinesSpec.vars.all (Tryz.pinned.checked.prog.varReadable ·)) = true := by kernel_rfl
theorem layoutLines_q19 : (Tryz.f7.resultTypes.all (fun t => Tryz.pinned.checked.prog.readableRec t && decide (t < Tryz.pinned.checked.prog.types.size))) = true := by kernel_rfl
theorem layoutLines_q20 : ((Rows.layoutLinesRow.ifacesOut == Tryz.f7.resultTypes.toList.any (Tryz.pinned.checked.prog.ifacesRec ·))) = true := by kernel_rfl
theorem layoutLines_q21 : ((Rows.layoutLinesRow.loopsOut == Tryz.f7.resultTypes.toList.any (Tryz.pinned.checked.prog.loopsFrom ·))) = true := by kernel_rfl
theorem layoutLines_q22 : ((Rows.layoutLinesRow.plainKeys == Tryz.pinned.checked.prog.plainKeys)) = true := by kernel_rfl
theorem layoutLines_q23 : (Rows.layoutLinesRow.shortTexts.isNone) = true := by kernel_rfl
theorem layoutLines_q26 : ((Rows.layoutLinesRow.lifted == Tryz.pinned.checked.prog.liftsFinal)) = true := by kernel_rfl
theorem layoutLines_q27 : ((Tryz.pinned.checked.prog.make == some Rows.layoutLinesRow.make)) = true := by kernel_rfl
theorem layoutLines_q28 : ((Rows.layoutLinesRow.kinds == (if Rows.layoutLinesRow.domain.isEmpty then [] else Tryz.f7.params.toList.map fun t => match Tryz.pinned.checked.prog.underlying t with | some (.int k) => some k | _ => none))) = true := by kernel_rfl
theorem layoutLines_q29 : ((Rows.layoutLinesRow.pinned == Rows.layoutLinesRow.pinnedBy)) = true := by kernel_rfl
theorem layoutLines_q30 : ((Rows.layoutLinesRow.veiled == (Tryz.f7.params.toList ++ Rows.layoutLinesSpec.plain.varTypes Tryz.pinned.checked.prog ++ Tryz.f7.resultTypes.toList).any (Tryz.pinned.checked.prog.veiledRec ·))) = true := by kernel_rfl
theorem layoutLines_q31 : (Rows.layoutLinesRow.veiledFits Tryz.pinned.checked.prog Tryz.f7.params.toList (Tryz.f7.params.toList ++ Rows.layoutLinesSpec.plain.varTypes Tryz.pinned.checked.prog ++ Tryz.f7.resultTypes.toList)) = true := by kernel_rfl
theorem layoutLines_closed : joinedFacts Tryz.pinned.checked.prog 7 Tryz.f7 Rows.layoutLinesSpec Rows.layoutLinesRow = true := by
  delta joinedFacts
  exact (and2 (and2 (and2 (and2 (and2 (and2 (and2 (and2 (and2 (and2 (and2 (and2 (and2 (and2 (and2 (and2 (and2 (and2 (and2 (and2 (and2 (and2 (and2 (and2 (and2 (and2 (and2 (and2 (and2 (and2 (and2 layoutLines_q0 prog_q1) prog_q2) layoutLines_q3) layoutLines_q4) layoutLines_q5) prog_q6) layoutLines_q7) prog_q8) layoutLines_q9) layoutLines_q10) layoutLines_q11) layoutLines_q12) layoutLines_q13) layoutLines_q14) layoutLines_q15) layoutLines_q16) layoutLines_q17) layoutLines_q18) layoutLines_q19) layoutLines_q20) layoutLines_q21) layoutLines_q22) layoutLines_q23) prog_q24) prog_q25) layoutLines_q26) layoutLines_q27) layoutLines_q28) layoutLines_q29) layoutLines_q30) layoutLines_q31)
theorem layoutLines_holds : Rows.LayoutLinesSaid :=
  OpenClaim.holds_of_wide 7 Tryz.f7 rfl rfl rfl rfl rfl rfl rfl ⟨rfl, rfl, rfl, rfl, rfl⟩ rfl rfl rfl rfl rfl (by kernel_rfl) Tryz.func7 layoutLines_closed
    (of_decide_eq_true (by kernel_rfl)) (by unfold Func.isWrapper; rw [if_neg (of_decide_eq_false (by kernel_rfl))]; exact ⟨rfl, rfl⟩)
    (fun os started H enc _ => layoutLines_lifted os started H enc)
theorem layoutLines_wf : Rows.layoutLinesRow.wfByText (.ofChange Rows.layoutLinesSpec) = true := by kernel_rfl
theorem layoutLines_goes : false = Rows.layoutLinesRow.goesBy Tryz.pinned.checked.prog := by kernel_rfl
theorem layoutLines_card : Rows.LayoutLinesCardSaid :=
  Claim7.holds_tied_plain_at .later [] [.data, .data, .data] true (true, "8adfe1a44b2d12921742ab5bff559bd1f39c41ccbf89b3f018f1f9c4268c805e") true
    layoutLines_holds (fun _ h => by cases h) layoutLines_wf (fun _ h => by cases h) layoutLines_row_tie rfl ⟨rfl, rfl⟩ prog_main rfl
    (fun f fn hf hfn => by
      obtain rfl : f = 7 := Option.some.inj ((show Tryz.prog.funcNamed "bodkin/bodkinlaw23.LayoutLines" = some 7 by kernel_rfl).symm.trans hf) |>.symm
      obtain rfl : fn = Tryz.f7 := (Option.some.inj (Tryz.func7.symm.trans hfn)).symm
      exact ⟨prog_looks, fun j t ht => by
        have hall : (Tryz.f7.params.toList.all fun u => !Tryz.prog.wantsStandIn u) = true := by kernel_rfl
        have hm : t ∈ Tryz.f7.params.toList := by simpa using Array.mem_of_getElem? ht
        have hz := List.all_eq_true.1 hall t hm
        show Tryz.prog.wantsStandIn t = false
        simpa using hz⟩)
    layoutLines_goes
#print axioms layoutLines_card
end Go.Proofs.YtihghiojmhegoaaGreatDoor
