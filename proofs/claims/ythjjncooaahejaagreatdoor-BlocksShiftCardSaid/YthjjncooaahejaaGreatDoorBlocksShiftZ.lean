/- BlocksShift: every set of blocks shifted by any patch, or why it is not, is what the document says; it is as it was. The small case that the statement asks holds. No condition. -/
import Derived.Test.YthjjncooaahejaaGreatDoorCards
import Derived.Test.YthjjncooaahejaaGreatDoorTie
import Derived.SevenTiedAt
import Derived.LaidMore
import Derived.Test.YthjjncooaahejaaGreatDoorBlPAA
import Derived.Test.YthjjncooaahejaaGreatDoorBlPAB
import Derived.Test.YthjjncooaahejaaGreatDoorBlPAC
import Derived.Test.YthjjncooaahejaaGreatDoorBlPAD
import Derived.Test.YthjjncooaahejaaGreatDoorBlPAE
import Derived.Test.YthjjncooaahejaaGreatDoorBlPAF
import Derived.Test.YthjjncooaahejaaGreatDoorBlPAG
import Derived.Test.YthjjncooaahejaaGreatDoorBlPAH
import Derived.Test.YthjjncooaahejaaGreatDoorBlPAI
import Derived.Test.YthjjncooaahejaaGreatDoorBlPAJ
import Derived.Test.YthjjncooaahejaaGreatDoorBlPAK
import Derived.Test.YthjjncooaahejaaGreatDoorBlPAL
import Derived.Test.YthjjncooaahejaaGreatDoorBlPAM
import Derived.Test.YthjjncooaahejaaGreatDoorBlPAN
import Derived.Test.YthjjncooaahejaaGreatDoorBlPAO
set_option linter.unusedSimpArgs false
namespace Go.Proofs.YthjjncooaahejaaGreatDoor
open Go Go.ChangeShapes Go.WideShapes Go.ChangeAt Go.RowKit Go.Joins
set_option maxRecDepth 100000 in
theorem blocksShift_lifted (os : Os) (started : os.Started) (H : Type) (enc : TypeId × Value → H) :
    ReturnsInHanded {} Tryz.checked os 4 .any (fun w args => (Rows.blocksShiftSpec.pre enc Tryz.prog Tryz.f4 Rows.blocksShiftRow.domain false w args ∧ laidMetH Tryz.prog Rows.blocksShiftRow.laid w) ∧ sizedMet enc Tryz.prog Tryz.f4 (OpenSpec.ofChange Rows.blocksShiftSpec) false w args) (Rows.blocksShiftSpec.post enc Tryz.prog Tryz.f4 false true false false) := by
  refine returnsInHanded_of_change_and (C := Tryz.checked) (X := fun w _ => laidMetH Tryz.prog Rows.blocksShiftRow.laid w) (fun _ _ _ hh h => h.of_heap hh) Tryz.own started (by kernel_rfl) Tryz.func4
    (ChangeSpec.witness_shaped (enc := enc) (C := Tryz.checked) (os := os) (X := fun w _ => laidMetH Tryz.prog Rows.blocksShiftRow.laid w) false (World.doorLaid Tryz.prog 60 os) #[.int .i64 0, .slice none 0 0, .slice none 0 0] 8 rfl (World.shaped_of_RefB (by kernel_rfl) (by kernel_rfl)) (by kernel_rfl) (by kernel_rfl) (by kernel_rfl)
      (laidMetH_of_parts3 (fuel := 8) (laidMet_of_run' 8 (by kernel_rfl) (by kernel_rfl)) (by kernel_rfl) (by kernel_rfl))) ?_
  intro W base args ds gs before hval0 hW _ _ hL _
  have hval : ∀ (j : Nat) t v, Tryz.f4.params[j]? = some t → args[j]? = some v → Value.okWide Tryz.prog W .any base t v := hval0
  obtain ⟨p, q, hA0, hV, hpq, hfz, hnd⟩ := id hW
  have hA : DataW.TrodAll enc Tryz.prog W 0 (fun _ => true) true Tryz.f4.params.toList args.toList ds p := hA0
  obtain ⟨hgs, hq⟩ := trodVars_none hV
  have hlen := trod_len hA
  rw [Tryz.params4] at hA hval hlen
  subst hgs
  have hsp : Rows.blocksShiftSpec.fn H (ds ++ []) = { results := [.lit (.bool true)], args := ds } := by
    rw [List.append_nil]
    simp only [List.length_cons, List.length_nil] at hlen
    first
      | (obtain ⟨d0, rfl⟩ := List.length_eq_one_iff.1 hlen; rfl)
      | (match ds, hlen with | [d0, d1], _ => rfl)
      | (match ds, hlen with | [d0, d1, d2], _ => rfl)
      | (match ds, hlen with | [d0, d1, d2, d3], _ => rfl)
      | (match ds, hlen with | [d0, d1, d2, d3, d4], _ => rfl)
  refine law_calls (P := Tryz.prog) Tryz.laidOut (by kernel_rfl) rfl rfl Tryz.underlying4 hW hsp (law_open (G := G0) (ls := [[.int .i64], [.sl 4 true [.int .i64, .int .i64, .int .i64, .bool]], [.sl 4 true [.int .i64, .int .i64, .int .i64, .int .i64]]]) (d := 20) (gok3 hL) (by kernel_rfl) (fun j t v h k => hval j t v (by simpa using h) (by simpa using k)) hA ?_)
  intro dss h
  obtain ⟨a, r, rfl, ha, hr⟩ := ofAll_cons h
  obtain ⟨b, c, rfl, hb, hc⟩ := ofAll2 hr
  obtain ⟨x, rfl, hx⟩ := ofCs1 ha
  obtain ⟨n, rfl⟩ := ofC_int hx
  obtain ⟨y, rfl, hy⟩ := ofCs1 hb
  obtain ⟨l, hl, rfl⟩ := ofC_blocks hy
  obtain ⟨z, rfl, hz⟩ := ofCs1 hc
  obtain ⟨cs, hcl, rfl⟩ := ofC_changes hz
  simp only [argsD, argD, st_blocks, st_changes, st_int, mkEl]
  exact lawBlocksShift_fn n l cs four_run (by unfold maxLen at hl; omega) (by unfold maxLen at hcl; omega)
set_option maxRecDepth 100000
theorem blocksShift_q0 : (Rows.blocksShiftRow.wf (OpenSpec.ofChange Rows.blocksShiftSpec)) = true := by kernel_rfl
theorem blocksShift_q3 : (Tryz.f4.params.all (Tryz.pinned.checked.prog.readableRec ·)) = true := by kernel_rfl
theorem blocksShift_q4 : (namedTie Tryz.pinned.checked.prog Rows.blocksShiftRow.named Rows.blocksShiftSpec.vars) = true := by kernel_rfl
theorem blocksShift_q5 : ((Rows.blocksShiftRow.stops == [])) = true := by kernel_rfl
theorem blocksShift_q7 : ((Rows.blocksShiftRow.knobs == [])) = true := by kernel_rfl
theorem blocksShift_q9 : ((Rows.blocksShiftRow.inPlace == Tryz.pinned.checked.prog.inPlace 4)) = true := by kernel_rfl
theorem blocksShift_q10 : ((Rows.blocksShiftRow.unfollowed == Tryz.pinned.checked.prog.unfollowed 4)) = true := by kernel_rfl
theorem blocksShift_q11 : ((Rows.blocksShiftRow.recurses == Tryz.pinned.checked.prog.recurses 4)) = true := by kernel_rfl
theorem blocksShift_q12 : ((Rows.blocksShiftRow.named == Tryz.pinned.checked.prog.varsNamed 4)) = true := by kernel_rfl
theorem blocksShift_q13 : ((Rows.blocksShiftRow.maps == (Tryz.f4.params.toList ++ Rows.blocksShiftSpec.plain.varTypes Tryz.pinned.checked.prog).any (Tryz.pinned.checked.prog.mapsRec ·))) = true := by kernel_rfl
theorem blocksShift_q14 : ((Rows.blocksShiftRow.ifaces == (Tryz.f4.params.toList ++ Rows.blocksShiftSpec.plain.varTypes Tryz.pinned.checked.prog).any (Tryz.pinned.checked.prog.ifacesRec ·))) = true := by kernel_rfl
theorem blocksShift_q15 : ((Rows.blocksShiftRow.mapsOut == Tryz.pinned.checked.prog.mapsAmong Tryz.f4.resultTypes.toList)) = true := by kernel_rfl
theorem blocksShift_q16 : ((Rows.blocksShiftRow.loops == (Tryz.f4.params.toList ++ Rows.blocksShiftSpec.plain.varTypes Tryz.pinned.checked.prog).any (Tryz.pinned.checked.prog.loopsFrom ·))) = true := by kernel_rfl
theorem blocksShift_q17 : ((Rows.blocksShiftRow.wideKeys == (Tryz.f4.params.toList ++ Rows.blocksShiftSpec.plain.varTypes Tryz.pinned.checked.prog ++ Tryz.f4.resultTypes.toList).any (Tryz.pinned.checked.prog.wideKeysFrom ·))) = true := by kernel_rfl
theorem blocksShift_q18 : (Rows.blocksShiftSpec.vars.all (Tryz.pinned.checked.prog.varReadable ·)) = true := by kernel_rfl
theorem blocksShift_q19 : (Tryz.f4.resultTypes.all (fun t => Tryz.pinned.checked.prog.readableRec t && decide (t < Tryz.pinned.checked.prog.types.size))) = true := by kernel_rfl
theorem blocksShift_q20 : ((Rows.blocksShiftRow.ifacesOut == Tryz.f4.resultTypes.toList.any (Tryz.pinned.checked.prog.ifacesRec ·))) = true := by kernel_rfl
theorem blocksShift_q21 : ((Rows.blocksShiftRow.loopsOut == Tryz.f4.resultTypes.toList.any (Tryz.pinned.checked.prog.loopsFrom ·))) = true := by kernel_rfl
theorem blocksShift_q22 : ((Rows.blocksShiftRow.plainKeys == Tryz.pinned.checked.prog.plainKeys)) = true := by kernel_rfl
theorem blocksShift_q23 : (Rows.blocksShiftRow.shortTexts.isNone) = true := by kernel_rfl
theorem blocksShift_q26 : ((Rows.blocksShiftRow.lifted == Tryz.pinned.checked.prog.liftsFinal)) = true := by kernel_rfl
theorem blocksShift_q27 : ((Tryz.pinned.checked.prog.make == some Rows.blocksShiftRow.make)) = true := by kernel_rfl
theorem blocksShift_q28 : ((Rows.blocksShiftRow.kinds == (if Rows.blocksShiftRow.domain.isEmpty then [] else Tryz.f4.params.toList.map fun t => match Tryz.pinned.checked.prog.underlying t with | some (.int k) => some k | _ => none))) = true := by kernel_rfl
theorem blocksShift_q29 : ((Rows.blocksShiftRow.pinned == Rows.blocksShiftRow.pinnedBy)) = true := by kernel_rfl
theorem blocksShift_q30 : ((Rows.blocksShiftRow.veiled == (Tryz.f4.params.toList ++ Rows.blocksShiftSpec.plain.varTypes Tryz.pinned.checked.prog ++ Tryz.f4.resultTypes.toList).any (Tryz.pinned.checked.prog.veiledRec ·))) = true := by kernel_rfl
theorem blocksShift_q31 : (Rows.blocksShiftRow.veiledFits Tryz.pinned.checked.prog Tryz.f4.params.toList (Tryz.f4.params.toList ++ Rows.blocksShiftSpec.plain.varTypes Tryz.pinned.checked.prog ++ Tryz.f4.resultTypes.toList)) = true := by kernel_rfl
theorem blocksShift_closed : joinedFacts Tryz.pinned.checked.prog 4 Tryz.f4 Rows.blocksShiftSpec Rows.blocksShiftRow = true := by
  delta joinedFacts
  exact (and2 (and2 (and2 (and2 (and2 (and2 (and2 (and2 (and2 (and2 (and2 (and2 (and2 (and2 (and2 (and2 (and2 (and2 (and2 (and2 (and2 (and2 (and2 (and2 (and2 (and2 (and2 (and2 (and2 (and2 (and2 blocksShift_q0 prog_q1) prog_q2) blocksShift_q3) blocksShift_q4) blocksShift_q5) prog_q6) blocksShift_q7) prog_q8) blocksShift_q9) blocksShift_q10) blocksShift_q11) blocksShift_q12) blocksShift_q13) blocksShift_q14) blocksShift_q15) blocksShift_q16) blocksShift_q17) blocksShift_q18) blocksShift_q19) blocksShift_q20) blocksShift_q21) blocksShift_q22) blocksShift_q23) prog_q24) prog_q25) blocksShift_q26) blocksShift_q27) blocksShift_q28) blocksShift_q29) blocksShift_q30) blocksShift_q31)
theorem blocksShift_holds : Rows.BlocksShiftSaid :=
  OpenClaim.holds_of_wide 4 Tryz.f4 rfl rfl rfl rfl rfl rfl rfl ⟨rfl, rfl, rfl, rfl, rfl⟩ rfl rfl rfl rfl rfl (by kernel_rfl) Tryz.func4 blocksShift_closed
    (of_decide_eq_true (by kernel_rfl)) (by unfold Func.isWrapper; rw [if_neg (of_decide_eq_false (by kernel_rfl))]; exact ⟨rfl, rfl⟩)
    (fun os started H enc _ => blocksShift_lifted os started H enc)
theorem blocksShift_wf : Rows.blocksShiftRow.wfByText (.ofChange Rows.blocksShiftSpec) = true := by kernel_rfl
theorem blocksShift_goes : false = Rows.blocksShiftRow.goesBy Tryz.pinned.checked.prog := by kernel_rfl
theorem blocksShift_card : Rows.BlocksShiftCardSaid :=
  Claim7.holds_tied_plain_at .later [] [.data, .data, .data] true (true, "a25ec6ca414efb1d15d123e6c7e660ae2550098eb942f03d1348ecc3afe0dbde") true
    blocksShift_holds (fun _ h => by cases h) blocksShift_wf (fun _ h => by cases h) blocksShift_row_tie rfl ⟨rfl, rfl⟩ prog_main rfl
    (fun f fn hf hfn => by
      obtain rfl : f = 4 := Option.some.inj ((show Tryz.prog.funcNamed "bodkin/bodkinlaw41.BlocksShift" = some 4 by kernel_rfl).symm.trans hf) |>.symm
      obtain rfl : fn = Tryz.f4 := (Option.some.inj (Tryz.func4.symm.trans hfn)).symm
      exact ⟨prog_looks, fun j t ht => by
        have hall : (Tryz.f4.params.toList.all fun u => !Tryz.prog.wantsStandIn u) = true := by kernel_rfl
        have hm : t ∈ Tryz.f4.params.toList := by simpa using Array.mem_of_getElem? ht
        have hz := List.all_eq_true.1 hall t hm
        show Tryz.prog.wantsStandIn t = false
        simpa using hz⟩)
    blocksShift_goes
#print axioms blocksShift_card
end Go.Proofs.YthjjncooaahejaaGreatDoor
