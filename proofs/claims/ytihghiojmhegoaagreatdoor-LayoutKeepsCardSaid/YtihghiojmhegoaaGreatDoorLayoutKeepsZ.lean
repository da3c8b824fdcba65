/- LayoutKeeps: the plain cells of all rows of any document, with a break behind each line's last row but the last line's, are the buffer without what is hidden, each at its place. The small case that the statement asks holds. No condition. -/
import Derived.Test.YtihghiojmhegoaaGreatDoorCards
import Derived.Test.YtihghiojmhegoaaGreatDoorTie
import Derived.SevenTiedAt
import Derived.LaidMore
import Derived.Test.YtihghiojmhegoaaGreatDoorLtUPBP
import Derived.Test.YtihghiojmhegoaaGreatDoorLtUPBQ
import Derived.Test.YtihghiojmhegoaaGreatDoorLtUPBV
import Derived.Test.YtihghiojmhegoaaGreatDoorLtUPBX
import Derived.Test.YtihghiojmhegoaaGreatDoorLtUPBZ
set_option linter.unusedSimpArgs false
namespace Go.Proofs.YtihghiojmhegoaaGreatDoor
open Go Go.ChangeShapes Go.WideShapes Go.ChangeAt Go.RowKit Go.Joins
set_option maxRecDepth 100000 in
theorem layoutKeeps_lifted (os : Os) (started : os.Started) (H : Type) (enc : TypeId × Value → H) :
    ReturnsInHanded {} Tryz.checked os 4 .any (fun w args => (Rows.layoutKeepsSpec.pre enc Tryz.prog Tryz.f4 Rows.layoutKeepsRow.domain false w args ∧ laidMetH Tryz.prog Rows.layoutKeepsRow.laid w) ∧ sizedMet enc Tryz.prog Tryz.f4 (OpenSpec.ofChange Rows.layoutKeepsSpec) false w args) (Rows.layoutKeepsSpec.post enc Tryz.prog Tryz.f4 false true false false) := by
  refine returnsInHanded_of_change_and (C := Tryz.checked) (X := fun w _ => laidMetH Tryz.prog Rows.layoutKeepsRow.laid w) (fun _ _ _ hh h => h.of_heap hh) Tryz.own started (by kernel_rfl) Tryz.func4
    (ChangeSpec.witness_shaped (enc := enc) (C := Tryz.checked) (os := os) (X := fun w _ => laidMetH Tryz.prog Rows.layoutKeepsRow.laid w) false (World.doorLaid Tryz.prog 60 os) #[.agg #[.string ⟨#[]⟩, .slice none 0 0, .slice none 0 0, .int .i64 0, .int .i64 0]] 8 rfl (World.shaped_of_RefB (by kernel_rfl) (by kernel_rfl)) (by kernel_rfl) (by kernel_rfl) (by kernel_rfl)
      (laidMetH_of_parts3 (fuel := 8) (laidMet_of_run' 8 (by kernel_rfl) (by kernel_rfl)) (by kernel_rfl) (by kernel_rfl))) ?_
  intro W base args ds gs before hval0 hW _ _ hL _
  have hval : ∀ (j : Nat) t v, Tryz.f4.params[j]? = some t → args[j]? = some v → Value.okWide Tryz.prog W .any base t v := hval0
  obtain ⟨p, q, hA0, hV, hpq, hfz, hnd⟩ := id hW
  have hA : DataW.TrodAll enc Tryz.prog W 0 (fun _ => true) true Tryz.f4.params.toList args.toList ds p := hA0
  obtain ⟨hgs, hq⟩ := trodVars_none hV
  have hlen := trod_len hA
  rw [Tryz.params4] at hA hval hlen
  subst hgs
  have hsp : Rows.layoutKeepsSpec.fn H (ds ++ []) = { results := [.lit (.bool true)], args := ds } := by
    rw [List.append_nil]
    simp only [List.length_cons, List.length_nil] at hlen
    first
      | (obtain ⟨d0, rfl⟩ := List.length_eq_one_iff.1 hlen; rfl)
      | (match ds, hlen with | [d0, d1], _ => rfl)
      | (match ds, hlen with | [d0, d1, d2], _ => rfl)
      | (match ds, hlen with | [d0, d1, d2, d3], _ => rfl)
      | (match ds, hlen with | [d0, d1, d2, d3, d4], _ => rfl)
  refine law_calls (P := Tryz.prog) Tryz.laidOut (by kernel_rfl) rfl rfl Tryz.underlying4 hW hsp (law_open (G := G0) (ls := [[.str, .sl 5 true [.int .i64, .int .i64, .int .i64, .int .i64, .str], .sl 2 true [.int .i64, .int .i64], .int .i64, .int .i64]]) (d := 20) (gok3 hL) (by kernel_rfl) (fun j t v h k => hval j t v (by simpa using h) (by simpa using k)) hA ?_)
  intro dss h
  obtain ⟨a, rfl, ha⟩ := ofAll1 h
  obtain ⟨s, L, F, tab, wd, rfl⟩ := ofDoc ha
  simp only [argsD, argD, st_doc, mkEl]
  refine small_cases s L F tab wd (fun h => lawLayoutKeeps_no h two_run) (fun tb e hk hs => ?_)
  subst e
  obtain ⟨ps, t, R, r1⟩ := view_fn hk
  have hkp := keep_lay (z := zT) (w := wT) (tab := tb) (wd := wd) (L := insA L) hk.gd.so (okT_rgt hk.okT).1 _ 0 (Nat.le_refl _) (Nat.zero_le _) (.inl rfl)
  rw [Nat.sub_zero] at hkp
  exact lawLayoutKeeps_m hk.lay hkp (by have := hk.hl; omega) hs two_run r1 (lRows_fn hk R) hk.rs (rOf23_fn hk)
set_option maxRecDepth 100000
theorem layoutKeeps_q0 : (Rows.layoutKeepsRow.wf (OpenSpec.ofChange Rows.layoutKeepsSpec)) = true := by kernel_rfl
theorem layoutKeeps_q3 : (Tryz.f4.params.all (Tryz.pinned.checked.prog.readableRec ·)) = true := by kernel_rfl
theorem layoutKeeps_q4 : (namedTie Tryz.pinned.checked.prog Rows.layoutKeepsRow.named Rows.layoutKeepsSpec.vars) = true := by kernel_rfl
theorem layoutKeeps_q5 : ((Rows.layoutKeepsRow.stops == [])) = true := by kernel_rfl
theorem layoutKeeps_q7 : ((Rows.layoutKeepsRow.knobs == [])) = true := by kernel_rfl
theorem layoutKeeps_q9 : ((Rows.layoutKeepsRow.inPlace == Tryz.pinned.checked.prog.inPlace 4)) = true := by kernel_rfl
theorem layoutKeeps_q10 : ((Rows.layoutKeepsRow.unfollowed == Tryz.pinned.checked.prog.unfollowed 4)) = true := by kernel_rfl
theorem layoutKeeps_q11 : ((Rows.layoutKeepsRow.recurses == Tryz.pinned.checked.prog.recurses 4)) = true := by kernel_rfl
theorem layoutKeeps_q12 : ((Rows.layoutKeepsRow.named == Tryz.pinned.checked.prog.varsNamed 4)) = true := by kernel_rfl
theorem layoutKeeps_q13 : ((Rows.layoutKeepsRow.maps == (Tryz.f4.params.toList ++ Rows.layoutKeepsSpec.plain.varTypes Tryz.pinned.checked.prog).any (Tryz.pinned.checked.prog.mapsRec ·))) = true := by kernel_rfl
theorem layoutKeeps_q14 : ((Rows.layoutKeepsRow.ifaces == (Tryz.f4.params.toList ++ Rows.layoutKeepsSpec.plain.varTypes Tryz.pinned.checked.prog).any (Tryz.pinned.checked.prog.ifacesRec ·))) = true := by kernel_rfl
theorem layoutKeeps_q15 : ((Rows.layoutKeepsRow.mapsOut == Tryz.pinned.checked.prog.mapsAmong Tryz.f4.resultTypes.toList)) = true := by kernel_rfl
theorem layoutKeeps_q16 : ((Rows.layoutKeepsRow.loops == (Tryz.f4.params.toList ++ Rows.layoutKeepsSpec.plain.varTypes Tryz.pinned.checked.prog).any (Tryz.pinned.checked.prog.loopsFrom ·))) = true := by kernel_rfl
theorem layoutKeeps_q17 : ((Rows.layoutKeepsRow.wideKeys == (Tryz.f4.params.toList ++ Rows.layoutKeepsSpec.plain.varTypes Tryz.pinned.checked.prog ++ Tryz.f4.resultTypes.toList).any (Tryz.pinned.checked.prog.wideKeysFrom ·))) = true := by kernel_rfl
theorem layoutKeeps_q18 : (Rows.layoutKeepsSpec.vars.all (Tryz.pinned.checked.prog.varReadable ·)) = true := by kernel_rfl
theorem layoutKeeps_q19 : (Tryz.f4.resultTypes.all (fun t => Tryz.pinned.checked.prog.readableRec t && decide (t < Tryz.pinned.checked.prog.types.size))) = true := by kernel_rfl
theorem layoutKeeps_q20 : ((Rows.layoutKeepsRow.ifacesOut == Tryz.f4.resultTypes.toList.any (Tryz.pinned.checked.prog.ifacesRec ·))) = true := by kernel_rfl
theorem layoutKeeps_q21 : ((Rows.layoutKeepsRow.loopsOut == Tryz.f4.resultTypes.toList.any (Tryz.pinned.checked.prog.loopsFrom ·))) = true := by kernel_rfl
theorem layoutKeeps_q22 : ((Rows.layoutKeepsRow.plainKeys == Tryz.pinned.checked.prog.plainKeys)) = true := by kernel_rfl
theorem layoutKeeps_q23 : (Rows.layoutKeepsRow.shortTexts.isNone) = true := by kernel_rfl
theorem layoutKeeps_q26 : ((Rows.layoutKeepsRow.lifted == Tryz.pinned.checked.prog.liftsFinal)) = true := by kernel_rfl
theorem layoutKeeps_q27 : ((Tryz.pinned.checked.prog.make == some Rows.layoutKeepsRow.make)) = true := by kernel_rfl
theorem layoutKeeps_q28 : ((Rows.layoutKeepsRow.kinds == (if Rows.layoutKeepsRow.domain.isEmpty then [] else Tryz.f4.params.toList.map fun t => match Tryz.pinned.checked.prog.underlying t with | some (.int k) => some k | _ => none))) = true := by kernel_rfl
theorem layoutKeeps_q29 : ((Rows.layoutKeepsRow.pinned == Rows.layoutKeepsRow.pinnedBy)) = true := by kernel_rfl
theorem layoutKeeps_q30 : ((Rows.layoutKeepsRow.veiled == (Tryz.f4.params.toList ++ Rows.layoutKeepsSpec.plain.varTypes Tryz.pinned.checked.prog ++ Tryz.f4.resultTypes.toList).any (Tryz.pinned.checked.prog.veiledRec ·))) = true := by kernel_rfl
theorem layoutKeeps_q31 : (Rows.layoutKeepsRow.veiledFits Tryz.pinned.checked.prog Tryz.f4.params.toList (Tryz.f4.params.toList ++ Rows.layoutKeepsSpec.plain.varTypes Tryz.pinned.checked.prog ++ Tryz.f4.resultTypes.toList)) = true := by kernel_rfl
theorem layoutKeeps_closed : joinedFacts Tryz.pinned.checked.prog 4 Tryz.f4 Rows.layoutKeepsSpec Rows.layoutKeepsRow = true := by
  delta joinedFacts
  exact (and2 (and2 (and2 (and2 (and2 (and2 (and2 (and2 (and2 (and2 (and2 (and2 (and2 (and2 (and2 (and2 (and2 (and2 (and2 (and2 (and2 (and2 (and2 (and2 (and2 (and2 (and2 (and2 (and2 (and2 (and2 layoutKeeps_q0 prog_q1) prog_q2) layoutKeeps_q3) layoutKeeps_q4) layoutKeeps_q5) prog_q6) layoutKeeps_q7) prog_q8) layoutKeeps_q9) layoutKeeps_q10) layoutKeeps_q11) layoutKeeps_q12) layoutKeeps_q13) layoutKeeps_q14) layoutKeeps_q15) layoutKeeps_q16) layoutKeeps_q17) layoutKeeps_q18) layoutKeeps_q19) layoutKeeps_q20) layoutKeeps_q21) layoutKeeps_q22) layoutKeeps_q23) prog_q24) prog_q25) layoutKeeps_q26) layoutKeeps_q27) layoutKeeps_q28) layoutKeeps_q29) layoutKeeps_q30) layoutKeeps_q31)
theorem layoutKeeps_holds : Rows.LayoutKeepsSaid :=
  OpenClaim.holds_of_wide 4 Tryz.f4 rfl rfl rfl rfl rfl rfl rfl ⟨rfl, rfl, rfl, rfl, rfl⟩ rfl rfl rfl rfl rfl (by kernel_rfl) Tryz.func4 layoutKeeps_closed
    (of_decide_eq_true (by kernel_rfl)) (by unfold Func.isWrapper; rw [if_neg (of_decide_eq_false (by kernel_rfl))]; exact ⟨rfl, rfl⟩)
    (fun os started H enc _ => layoutKeeps_lifted os started H enc)
theorem layoutKeeps_wf : Rows.layoutKeepsRow.wfByText (.ofChange Rows.layoutKeepsSpec) = true := by kernel_rfl
theorem layoutKeeps_goes : false = Rows.layoutKeepsRow.goesBy Tryz.pinned.checked.prog := by kernel_rfl
theorem layoutKeeps_card : Rows.LayoutKeepsCardSaid :=
  Claim7.holds_tied_plain_at .later [] [.data, .data, .data] true (true, "8adfe1a44b2d12921742ab5bff559bd1f39c41ccbf89b3f018f1f9c4268c805e") true
    layoutKeeps_holds (fun _ h => by cases h) layoutKeeps_wf (fun _ h => by cases h) layoutKeeps_row_tie rfl ⟨rfl, rfl⟩ prog_main rfl
    (fun f fn hf hfn => by
      obtain rfl : f = 4 := Option.some.inj ((show Tryz.prog.funcNamed "bodkin/bodkinlaw23.LayoutKeeps" = some 4 by kernel_rfl).symm.trans hf) |>.symm
      obtain rfl : fn = Tryz.f4 := (Option.some.inj (Tryz.func4.symm.trans hfn)).symm
      exact ⟨prog_looks, fun j t ht => by
        have hall : (Tryz.f4.params.toList.all fun u => !Tryz.prog.wantsStandIn u) = true := by kernel_rfl
        have hm : t ∈ Tryz.f4.params.toList := by simpa using Array.mem_of_getElem? ht
        have hz := List.all_eq_true.1 hall t hm
        show Tryz.prog.wantsStandIn t = false
        simpa using hz⟩)
    layoutKeeps_goes
#print axioms layoutKeeps_card
end Go.Proofs.YtihghiojmhegoaaGreatDoor
