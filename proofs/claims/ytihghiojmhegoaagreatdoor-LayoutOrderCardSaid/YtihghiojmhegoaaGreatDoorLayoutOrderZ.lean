/- LayoutOrder: the rows of any document start in order; each ends where the next one of its line starts, or at a break, or at the buffer's end. The small case that the statement asks holds. No condition. -/
import Derived.Test.YtihghiojmhegoaaGreatDoorCards
import Derived.Test.YtihghiojmhegoaaGreatDoorTie
import Derived.SevenTiedAt
import Derived.LaidMore
import Derived.Test.YtihghiojmhegoaaGreatDoorLtUPBP
import Derived.Test.YtihghiojmhegoaaGreatDoorLtUPBQ
import Derived.Test.YtihghiojmhegoaaGreatDoorLtUPBU
import Derived.Test.YtihghiojmhegoaaGreatDoorLtUPBX
import Derived.Test.YtihghiojmhegoaaGreatDoorLtUPBZ
set_option linter.unusedSimpArgs false
namespace Go.Proofs.YtihghiojmhegoaaGreatDoor
open Go Go.ChangeShapes Go.WideShapes Go.ChangeAt Go.RowKit Go.Joins
set_option maxRecDepth 100000 in
theorem layoutOrder_lifted (os : Os) (started : os.Started) (H : Type) (enc : TypeId × Value → H) :
    ReturnsInHanded {} Tryz.checked os 6 .any (fun w args => (Rows.layoutOrderSpec.pre enc Tryz.prog Tryz.f6 Rows.layoutOrderRow.domain false w args ∧ laidMetH Tryz.prog Rows.layoutOrderRow.laid w) ∧ sizedMet enc Tryz.prog Tryz.f6 (OpenSpec.ofChange Rows.layoutOrderSpec) false w args) (Rows.layoutOrderSpec.post enc Tryz.prog Tryz.f6 false true false false) := by
  refine returnsInHanded_of_change_and (C := Tryz.checked) (X := fun w _ => laidMetH Tryz.prog Rows.layoutOrderRow.laid w) (fun _ _ _ hh h => h.of_heap hh) Tryz.own started (by kernel_rfl) Tryz.func6
    (ChangeSpec.witness_shaped (enc := enc) (C := Tryz.checked) (os := os) (X := fun w _ => laidMetH Tryz.prog Rows.layoutOrderRow.laid w) false (World.doorLaid Tryz.prog 60 os) #[.agg #[.string ⟨#[]⟩, .slice none 0 0, .slice none 0 0, .int .i64 0, .int .i64 0]] 8 rfl (World.shaped_of_RefB (by kernel_rfl) (by kernel_rfl)) (by kernel_rfl) (by kernel_rfl) (by kernel_rfl)
      (laidMetH_of_parts3 (fuel := 8) (laidMet_of_run' 8 (by kernel_rfl) (by kernel_rfl)) (by kernel_rfl) (by kernel_rfl))) ?_
  intro W base args ds gs before hval0 hW _ _ hL _
  have hval : ∀ (j : Nat) t v, Tryz.f6.params[j]? = some t → args[j]? = some v → Value.okWide Tryz.prog W .any base t v := hval0
  obtain ⟨p, q, hA0, hV, hpq, hfz, hnd⟩ := id hW
  have hA : DataW.TrodAll enc Tryz.prog W 0 (fun _ => true) true Tryz.f6.params.toList args.toList ds p := hA0
  obtain ⟨hgs, hq⟩ := trodVars_none hV
  have hlen := trod_len hA
  rw [Tryz.params6] at hA hval hlen
  subst hgs
  have hsp : Rows.layoutOrderSpec.fn H (ds ++ []) = { results := [.lit (.bool true)], args := ds } := by
    rw [List.append_nil]
    simp only [List.length_cons, List.length_nil] at hlen
    first
      | (obtain ⟨d0, rfl⟩ := List.length_eq_one_iff.1 hlen; rfl)
      | (match ds, hlen with | [d0, d1], _ => rfl)
      | (match ds, hlen with | [d0, d1, d2], _ => rfl)
      | (match ds, hlen with | [d0, d1, d2, d3], _ => rfl)
      | (match ds, hlen with | [d0, d1, d2, d3, d4], _ => rfl)
  refine law_calls (P := Tryz.prog) Tryz.laidOut (by kernel_rfl) rfl rfl Tryz.underlying4 hW hsp (law_open (G := G0) (ls := [[.str, .sl 5 true [.int .i64, .int .i64, .int .i64, .int .i64, .str], .sl 2 true [.int .i64, .int .i64], .int .i64, .int .i64]]) (d := 20) (gok3 hL) (by kernel_rfl) (fun j t v h k => hval j t v (by simpa using h) (by simpa using k)) hA ?_)
  intro dss h
  obtain ⟨a, rfl, ha⟩ := ofAll1 h
  obtain ⟨s, L, F, tab, wd, rfl⟩ := ofDoc ha
  simp only [argsD, argD, st_doc, mkEl]
  refine small_cases s L F tab wd (fun h => lawLayoutOrder_no h two_run) (fun tb e hk hs => ?_)
  subst e
  obtain ⟨ps, t, R, r1⟩ := view_fn hk
  exact lawLayoutOrder_m hk.lay hs two_run r1 (lRows_fn hk R) hk.rs (rOf23_fn hk)
set_option maxRecDepth 100000
theorem layoutOrder_q0 : (Rows.layoutOrderRow.wf (OpenSpec.ofChange Rows.layoutOrderSpec)) = true := by kernel_rfl
theorem layoutOrder_q3 : (Tryz.f6.params.all (Tryz.pinned.checked.prog.readableRec ·)) = true := by kernel_rfl
theorem layoutOrder_q4 : (namedTie Tryz.pinned.checked.prog Rows.layoutOrderRow.named Rows.layoutOrderSpec.vars) = true := by kernel_rfl
theorem layoutOrder_q5 : ((Rows.layoutOrderRow.stops == [])) = true := by kernel_rfl
theorem layoutOrder_q7 : ((Rows.layoutOrderRow.knobs == [])) = true := by kernel_rfl
theorem layoutOrder_q9 : ((Rows.layoutOrderRow.inPlace == Tryz.pinned.checked.prog.inPlace 6)) = true := by kernel_rfl
theorem layoutOrder_q10 : ((Rows.layoutOrderRow.unfollowed == Tryz.pinned.checked.prog.unfollowed 6)) = true := by kernel_rfl
theorem layoutOrder_q11 : ((Rows.layoutOrderRow.recurses == Tryz.pinned.checked.prog.recurses 6)) = true := by kernel_rfl
theorem layoutOrder_q12 : ((Rows.layoutOrderRow.named == Tryz.pinned.checked.prog.varsNamed 6)) = true := by kernel_rfl
theorem layoutOrder_q13 : ((Rows.layoutOrderRow.maps == (Tryz.f6.params.toList ++ Rows.layoutOrderSpec.plain.varTypes Tryz.pinned.checked.prog).any (Tryz.pinned.checked.prog.mapsRec ·))) = true := by kernel_rfl
theorem layoutOrder_q14 : ((Rows.layoutOrderRow.ifaces == (Tryz.f6.params.toList ++ Rows.layoutOrderSpec.plain.varTypes Tryz.pinned.checked.prog).any (Tryz.pinned.checked.prog.ifacesRec ·))) = true := by kernel_rfl
theorem layoutOrder_q15 : ((Rows.layoutOrderRow.mapsOut == Tryz.pinned.checked.prog.mapsAmong Tryz.f6.resultTypes.toList)) = true := by kernel_rfl
theorem layoutOrder_q16 : ((Rows.layoutOrderRow.loops == (Tryz.f6.params.toList ++ Rows.layoutOrderSpec.plain.varTypes Tryz.pinned.checked.prog).any (Tryz.pinned.checked.prog.loopsFrom ·))) = true := by kernel_rfl
theorem layoutOrder_q17 : ((Rows.layoutOrderRow.wideKeys == (Tryz.f6.params.toList ++ Rows.layoutOrderSpec.plain.varTypes Tryz.pinned.checked.prog ++ Tryz.f6.resultTypes.toList).any (Tryz.pinned.checked.prog.wideKeysFrom ·))) = true := by kernel_rfl
theorem layoutOrder_q18 : (Rows.layoutOrderSpec.vars.all (Tryz.pinned.checked.prog.varReadable ·)) = true := by kernel_rfl
theorem layoutOrder_q19 : (Tryz.f6.resultTypes.all (fun t => Tryz.pinned.checked.prog.readableRec t && decide (t < Tryz.pinned.checked.prog.types.size))) = true := by kernel_rfl
theorem layoutOrder_q20 : ((Rows.layoutOrderRow.ifacesOut == Tryz.f6.resultTypes.toList.any (Tryz.pinned.checked.prog.ifacesRec ·))) = true := by kernel_rfl
theorem layoutOrder_q21 : ((Rows.layoutOrderRow.loopsOut == Tryz.f6.resultTypes.toList.any (Tryz.pinned.checked.prog.loopsFrom ·))) = true := by kernel_rfl
theorem layoutOrder_q22 : ((Rows.layoutOrderRow.plainKeys == Tryz.pinned.checked.prog.plainKeys)) = true := by kernel_rfl
theorem layoutOrder_q23 : (Rows.layoutOrderRow.shortTexts.isNone) = true := by kernel_rfl
theorem layoutOrder_q26 : ((Rows.layoutOrderRow.lifted == Tryz.pinned.checked.prog.liftsFinal)) = true := by kernel_rfl
theorem layoutOrder_q27 : ((Tryz.pinned.checked.prog.make == some Rows.layoutOrderRow.make)) = true := by kernel_rfl
theorem layoutOrder_q28 : ((Rows.layoutOrderRow.kinds == (if Rows.layoutOrderRow.domain.isEmpty then [] else Tryz.f6.params.toList.map fun t => match Tryz.pinned.checked.prog.underlying t with | some (.int k) => some k | _ => none))) = true := by kernel_rfl
theorem layoutOrder_q29 : ((Rows.layoutOrderRow.pinned == Rows.layoutOrderRow.pinnedBy)) = true := by kernel_rfl
theorem layoutOrder_q30 : ((Rows.layoutOrderRow.veiled == (Tryz.f6.params.toList ++ Rows.layoutOrderSpec.plain.varTypes Tryz.pinned.checked.prog ++ Tryz.f6.resultTypes.toList).any (Tryz.pinned.checked.prog.veiledRec ·))) = true := by kernel_rfl
theorem layoutOrder_q31 : (Rows.layoutOrderRow.veiledFits Tryz.pinned.checked.prog Tryz.f6.params.toList (Tryz.f6.params.toList ++ Rows.layoutOrderSpec.plain.varTypes Tryz.pinned.checked.prog ++ Tryz.f6.resultTypes.toList)) = true := by kernel_rfl
theorem layoutOrder_closed : joinedFacts Tryz.pinned.checked.prog 6 Tryz.f6 Rows.layoutOrderSpec Rows.layoutOrderRow = true := by
  delta joinedFacts
  exact (and2 (and2 (and2 (and2 (and2 (and2 (and2 (and2 (and2 (and2 (and2 (and2 (and2 (and2 (and2 (and2 (and2 (and2 (and2 (and2 (and2 (and2 (and2 (and2 (and2 (and2 (and2 (and2 (and2 (and2 (and2 layoutOrder_q0 prog_q1) prog_q2) layoutOrder_q3) layoutOrder_q4) layoutOrder_q5) prog_q6) layoutOrder_q7) prog_q8) layoutOrder_q9) layoutOrder_q10) layoutOrder_q11) layoutOrder_q12) layoutOrder_q13) layoutOrder_q14) layoutOrder_q15) layoutOrder_q16) layoutOrder_q17) layoutOrder_q18) layoutOrder_q19) layoutOrder_q20) layoutOrder_q21) layoutOrder_q22) layoutOrder_q23) prog_q24) prog_q25) layoutOrder_q26) layoutOrder_q27) layoutOrder_q28) layoutOrder_q29) layoutOrder_q30) layoutOrder_q31)
theorem layoutOrder_holds : Rows.LayoutOrderSaid :=
  OpenClaim.holds_of_wide 6 Tryz.f6 rfl rfl rfl rfl rfl rfl rfl ⟨rfl, rfl, rfl, rfl, rfl⟩ rfl rfl rfl rfl rfl (by kernel_rfl) Tryz.func6 layoutOrder_closed
    (of_decide_eq_true (by kernel_rfl)) (by unfold Func.isWrapper; rw [if_neg (of_decide_eq_false (by kernel_rfl))]; exact ⟨rfl, rfl⟩)
    (fun os started H enc _ => layoutOrder_lifted os started H enc)
theorem layoutOrder_wf : Rows.layoutOrderRow.wfByText (.ofChange Rows.layoutOrderSpec) = true := by kernel_rfl
theorem layoutOrder_goes : false = Rows.layoutOrderRow.goesBy Tryz.pinned.checked.prog := by kernel_rfl
theorem layoutOrder_card : Rows.LayoutOrderCardSaid :=
  Claim7.holds_tied_plain_at .later [] [.data, .data, .data] true (true, "8adfe1a44b2d12921742ab5bff559bd1f39c41ccbf89b3f018f1f9c4268c805e") true
    layoutOrder_holds (fun _ h => by cases h) layoutOrder_wf (fun _ h => by cases h) layoutOrder_row_tie rfl ⟨rfl, rfl⟩ prog_main rfl
    (fun f fn hf hfn => by
      obtain rfl : f = 6 := Option.some.inj ((show Tryz.prog.funcNamed "bodkin/bodkinlaw23.LayoutOrder" = some 6 by kernel_rfl).symm.trans hf) |>.symm
      obtain rfl : fn = Tryz.f6 := (Option.some.inj (Tryz.func6.symm.trans hfn)).symm
      exact ⟨prog_looks, fun j t ht => by
        have hall : (Tryz.f6.params.toList.all fun u => !Tryz.prog.wantsStandIn u) = true := by kernel_rfl
        have hm : t ∈ Tryz.f6.params.toList := by simpa using Array.mem_of_getElem? ht
        have hz := List.all_eq_true.1 hall t hm
        show Tryz.prog.wantsStandIn t = false
        simpa using hz⟩)
    layoutOrder_goes
#print axioms layoutOrder_card
end Go.Proofs.YtihghiojmhegoaaGreatDoor
