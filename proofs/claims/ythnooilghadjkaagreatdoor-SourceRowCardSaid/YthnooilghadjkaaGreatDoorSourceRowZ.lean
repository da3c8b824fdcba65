/- SourceRow: lines follow one on another, each behind the break of the one ahead, the last one up to the text's end; no shown break stands in a line. The small case that the statement asks holds. No condition. -/
import Derived.Test.YthnooilghadjkaaGreatDoorCards
import Derived.Test.YthnooilghadjkaaGreatDoorTie
import Derived.SevenTiedAt
import Derived.LaidMore
import Derived.Test.YthnooilghadjkaaGreatDoorSrPAA
import Derived.Test.YthnooilghadjkaaGreatDoorSrPAB
import Derived.Test.YthnooilghadjkaaGreatDoorSrPAC
import Derived.Test.YthnooilghadjkaaGreatDoorSrPAD
import Derived.Test.YthnooilghadjkaaGreatDoorSrPAE
import Derived.Test.YthnooilghadjkaaGreatDoorSrPAF
import Derived.Test.YthnooilghadjkaaGreatDoorSrPAG
import Derived.Test.YthnooilghadjkaaGreatDoorSrPAH
import Derived.Test.YthnooilghadjkaaGreatDoorSrPAI
import Derived.Test.YthnooilghadjkaaGreatDoorSrPAJ
import Derived.Test.YthnooilghadjkaaGreatDoorSrPAK
import Derived.Test.YthnooilghadjkaaGreatDoorSrPAL
import Derived.Test.YthnooilghadjkaaGreatDoorSrPAM
import Derived.Test.YthnooilghadjkaaGreatDoorSrPAN
import Derived.Test.YthnooilghadjkaaGreatDoorSrPAO
import Derived.Test.YthnooilghadjkaaGreatDoorSrPAP
import Derived.Test.YthnooilghadjkaaGreatDoorSrPAQ
import Derived.Test.YthnooilghadjkaaGreatDoorSrPAR
import Derived.Test.YthnooilghadjkaaGreatDoorSrPAS
import Derived.Test.YthnooilghadjkaaGreatDoorSrPAT
import Derived.Test.YthnooilghadjkaaGreatDoorSrPAU
import Derived.Test.YthnooilghadjkaaGreatDoorSrPAV
import Derived.Test.YthnooilghadjkaaGreatDoorSrPAW
import Derived.Test.YthnooilghadjkaaGreatDoorSrPAZ
import Derived.Test.YthnooilghadjkaaGreatDoorSrPBB
import Derived.Test.YthnooilghadjkaaGreatDoorSrPBC
set_option linter.unusedSimpArgs false
namespace Go.Proofs.YthnooilghadjkaaGreatDoor
open Go Go.ChangeShapes Go.WideShapes Go.ChangeAt Go.RowKit Go.Joins
set_option maxRecDepth 100000 in
theorem sourceRow_lifted (os : Os) (started : os.Started) (H : Type) (enc : TypeId × Value → H) :
    ReturnsInHanded {} Tryz.checked os 5 .any (fun w args => (Rows.sourceRowSpec.pre enc Tryz.prog Tryz.f5 Rows.sourceRowRow.domain false w args ∧ laidMetH Tryz.prog Rows.sourceRowRow.laid w) ∧ sizedMet enc Tryz.prog Tryz.f5 (OpenSpec.ofChange Rows.sourceRowSpec) false w args) (Rows.sourceRowSpec.post enc Tryz.prog Tryz.f5 false true false false) := by
  refine returnsInHanded_of_change_and (C := Tryz.checked) (X := fun w _ => laidMetH Tryz.prog Rows.sourceRowRow.laid w) (fun _ _ _ hh h => h.of_heap hh) Tryz.own started (by kernel_rfl) Tryz.func5
    (ChangeSpec.witness_shaped (enc := enc) (C := Tryz.checked) (os := os) (X := fun w _ => laidMetH Tryz.prog Rows.sourceRowRow.laid w) false (World.doorLaid Tryz.prog 60 os) #[.agg #[.string ⟨#[]⟩, .slice none 0 0, .slice none 0 0, .int .i64 0]] 8 rfl (World.shaped_of_RefB (by kernel_rfl) (by kernel_rfl)) (by kernel_rfl) (by kernel_rfl) (by kernel_rfl)
      (laidMetH_of_parts3 (fuel := 8) (laidMet_of_run' 8 (by kernel_rfl) (by kernel_rfl)) (by kernel_rfl) (by kernel_rfl))) ?_
  intro W base args ds gs before hval0 hW _ _ hL _
  have hval : ∀ (j : Nat) t v, Tryz.f5.params[j]? = some t → args[j]? = some v → Value.okWide Tryz.prog W .any base t v := hval0
  obtain ⟨p, q, hA0, hV, hpq, hfz, hnd⟩ := id hW
  have hA : DataW.TrodAll enc Tryz.prog W 0 (fun _ => true) true Tryz.f5.params.toList args.toList ds p := hA0
  obtain ⟨hgs, hq⟩ := trodVars_none hV
  have hlen := trod_len hA
  rw [Tryz.params5] at hA hval hlen
  subst hgs
  have hsp : Rows.sourceRowSpec.fn H (ds ++ []) = { results := [.lit (.bool true)], args := ds } := by
    rw [List.append_nil]
    simp only [List.length_cons, List.length_nil] at hlen
    first
      | (obtain ⟨d0, rfl⟩ := List.length_eq_one_iff.1 hlen; rfl)
      | (match ds, hlen with | [d0, d1], _ => rfl)
      | (match ds, hlen with | [d0, d1, d2], _ => rfl)
      | (match ds, hlen with | [d0, d1, d2, d3], _ => rfl)
      | (match ds, hlen with | [d0, d1, d2, d3, d4], _ => rfl)
  refine law_calls (P := Tryz.prog) Tryz.laidOut (by kernel_rfl) rfl rfl Tryz.underlying4 hW hsp (law_open (G := G0) (ls := [[.str, .sl 5 true [.int .i64, .int .i64, .int .i64, .int .i64, .str], .sl 2 true [.int .i64, .int .i64], .int .i64]]) (d := 20) (gok1 hL) (by kernel_rfl) (fun j t v h k => hval j t v (by simpa using h) (by simpa using k)) hA ?_)
  intro dss h
  obtain ⟨a, rfl, ha⟩ := ofAll1 h
  obtain ⟨s, L, H, N, rfl⟩ := ofText ha
  simp only [argsD, argD, st_text, mkEl]
  exact text_cases (fun h1 h2 => lawSourceRow_z h1 h2) (fun l t e h1 h2 => lawSourceRow_e h1 h2) (fun l ps t m M R g hH h1 => lawSourceRow_m R m g hH h1)
set_option maxRecDepth 100000
theorem sourceRow_q0 : (Rows.sourceRowRow.wf (OpenSpec.ofChange Rows.sourceRowSpec)) = true := by kernel_rfl
theorem sourceRow_q3 : (Tryz.f5.params.all (Tryz.pinned.checked.prog.readableRec ·)) = true := by kernel_rfl
theorem sourceRow_q4 : (namedTie Tryz.pinned.checked.prog Rows.sourceRowRow.named Rows.sourceRowSpec.vars) = true := by kernel_rfl
theorem sourceRow_q5 : ((Rows.sourceRowRow.stops == [])) = true := by kernel_rfl
theorem sourceRow_q7 : ((Rows.sourceRowRow.knobs == [])) = true := by kernel_rfl
theorem sourceRow_q9 : ((Rows.sourceRowRow.inPlace == Tryz.pinned.checked.prog.inPlace 5)) = true := by kernel_rfl
theorem sourceRow_q10 : ((Rows.sourceRowRow.unfollowed == Tryz.pinned.checked.prog.unfollowed 5)) = true := by kernel_rfl
theorem sourceRow_q11 : ((Rows.sourceRowRow.recurses == Tryz.pinned.checked.prog.recurses 5)) = true := by kernel_rfl
theorem sourceRow_q12 : ((Rows.sourceRowRow.named == Tryz.pinned.checked.prog.varsNamed 5)) = true := by kernel_rfl
theorem sourceRow_q13 : ((Rows.sourceRowRow.maps == (Tryz.f5.params.toList ++ Rows.sourceRowSpec.plain.varTypes Tryz.pinned.checked.prog).any (Tryz.pinned.checked.prog.mapsRec ·))) = true := by kernel_rfl
theorem sourceRow_q14 : ((Rows.sourceRowRow.ifaces == (Tryz.f5.params.toList ++ Rows.sourceRowSpec.plain.varTypes Tryz.pinned.checked.prog).any (Tryz.pinned.checked.prog.ifacesRec ·))) = true := by kernel_rfl
theorem sourceRow_q15 : ((Rows.sourceRowRow.mapsOut == Tryz.pinned.checked.prog.mapsAmong Tryz.f5.resultTypes.toList)) = true := by kernel_rfl
theorem sourceRow_q16 : ((Rows.sourceRowRow.loops == (Tryz.f5.params.toList ++ Rows.sourceRowSpec.plain.varTypes Tryz.pinned.checked.prog).any (Tryz.pinned.checked.prog.loopsFrom ·))) = true := by kernel_rfl
theorem sourceRow_q17 : ((Rows.sourceRowRow.wideKeys == (Tryz.f5.params.toList ++ Rows.sourceRowSpec.plain.varTypes Tryz.pinned.checked.prog ++ Tryz.f5.resultTypes.toList).any (Tryz.pinned.checked.prog.wideKeysFrom ·))) = true := by kernel_rfl
theorem sourceRow_q18 : (Rows.sourceRowSpec.vars.all (Tryz.pinned.checked.prog.varReadable ·)) = true := by kernel_rfl
theorem sourceRow_q19 : (Tryz.f5.resultTypes.all (fun t => Tryz.pinned.checked.prog.readableRec t && decide (t < Tryz.pinned.checked.prog.types.size))) = true := by kernel_rfl
theorem sourceRow_q20 : ((Rows.sourceRowRow.ifacesOut == Tryz.f5.resultTypes.toList.any (Tryz.pinned.checked.prog.ifacesRec ·))) = true := by kernel_rfl
theorem sourceRow_q21 : ((Rows.sourceRowRow.loopsOut == Tryz.f5.resultTypes.toList.any (Tryz.pinned.checked.prog.loopsFrom ·))) = true := by kernel_rfl
theorem sourceRow_q22 : ((Rows.sourceRowRow.plainKeys == Tryz.pinned.checked.prog.plainKeys)) = true := by kernel_rfl
theorem sourceRow_q23 : (Rows.sourceRowRow.shortTexts.isNone) = true := by kernel_rfl
theorem sourceRow_q26 : ((Rows.sourceRowRow.lifted == Tryz.pinned.checked.prog.liftsFinal)) = true := by kernel_rfl
theorem sourceRow_q27 : ((Tryz.pinned.checked.prog.make == some Rows.sourceRowRow.make)) = true := by kernel_rfl
theorem sourceRow_q28 : ((Rows.sourceRowRow.kinds == (if Rows.sourceRowRow.domain.isEmpty then [] else Tryz.f5.params.toList.map fun t => match Tryz.pinned.checked.prog.underlying t with | some (.int k) => some k | _ => none))) = true := by kernel_rfl
theorem sourceRow_q29 : ((Rows.sourceRowRow.pinned == Rows.sourceRowRow.pinnedBy)) = true := by kernel_rfl
theorem sourceRow_q30 : ((Rows.sourceRowRow.veiled == (Tryz.f5.params.toList ++ Rows.sourceRowSpec.plain.varTypes Tryz.pinned.checked.prog ++ Tryz.f5.resultTypes.toList).any (Tryz.pinned.checked.prog.veiledRec ·))) = true := by kernel_rfl
theorem sourceRow_q31 : (Rows.sourceRowRow.veiledFits Tryz.pinned.checked.prog Tryz.f5.params.toList (Tryz.f5.params.toList ++ Rows.sourceRowSpec.plain.varTypes Tryz.pinned.checked.prog ++ Tryz.f5.resultTypes.toList)) = true := by kernel_rfl
theorem sourceRow_closed : joinedFacts Tryz.pinned.checked.prog 5 Tryz.f5 Rows.sourceRowSpec Rows.sourceRowRow = true := by
  delta joinedFacts
  exact (and2 (and2 (and2 (and2 (and2 (and2 (and2 (and2 (and2 (and2 (and2 (and2 (and2 (and2 (and2 (and2 (and2 (and2 (and2 (and2 (and2 (and2 (and2 (and2 (and2 (and2 (and2 (and2 (and2 (and2 (and2 sourceRow_q0 prog_q1) prog_q2) sourceRow_q3) sourceRow_q4) sourceRow_q5) prog_q6) sourceRow_q7) prog_q8) sourceRow_q9) sourceRow_q10) sourceRow_q11) sourceRow_q12) sourceRow_q13) sourceRow_q14) sourceRow_q15) sourceRow_q16) sourceRow_q17) sourceRow_q18) sourceRow_q19) sourceRow_q20) sourceRow_q21) sourceRow_q22) sourceRow_q23) prog_q24) prog_q25) sourceRow_q26) sourceRow_q27) sourceRow_q28) sourceRow_q29) sourceRow_q30) sourceRow_q31)
theorem sourceRow_holds : Rows.SourceRowSaid :=
  OpenClaim.holds_of_wide 5 Tryz.f5 rfl rfl rfl rfl rfl rfl rfl ⟨rfl, rfl, rfl, rfl, rfl⟩ rfl rfl rfl rfl rfl (by kernel_rfl) Tryz.func5 sourceRow_closed
    (of_decide_eq_true (by kernel_rfl)) (by unfold Func.isWrapper; rw [if_neg (of_decide_eq_false (by kernel_rfl))]; exact ⟨rfl, rfl⟩)
    (fun os started H enc _ => sourceRow_lifted os started H enc)
theorem sourceRow_wf : Rows.sourceRowRow.wfByText (.ofChange Rows.sourceRowSpec) = true := by kernel_rfl
theorem sourceRow_goes : false = Rows.sourceRowRow.goesBy Tryz.pinned.checked.prog := by kernel_rfl
theorem sourceRow_card : Rows.SourceRowCardSaid :=
  Claim7.holds_tied_plain_at .later [] [.data] true (true, "ac1fb0ac875ac1d728ef5d6e4c36be33aeccdd79168370d7843b5f56dd3e11c7") true
    sourceRow_holds (fun _ h => by cases h) sourceRow_wf (fun _ h => by cases h) sourceRow_row_tie rfl ⟨rfl, rfl⟩ prog_main rfl
    (fun f fn hf hfn => by
      obtain rfl : f = 5 := Option.some.inj ((show Tryz.prog.funcNamed "bodkin/bodkinlaw21.SourceRow" = some 5 by kernel_rfl).symm.trans hf) |>.symm
      obtain rfl : fn = Tryz.f5 := (Option.some.inj (Tryz.func5.symm.trans hfn)).symm
      exact ⟨prog_looks, fun j t ht => by
        have hall : (Tryz.f5.params.toList.all fun u => !Tryz.prog.wantsStandIn u) = true := by kernel_rfl
        have hm : t ∈ Tryz.f5.params.toList := by simpa using Array.mem_of_getElem? ht
        have hz := List.all_eq_true.1 hall t hm
        show Tryz.prog.wantsStandIn t = false
        simpa using hz⟩)
    sourceRow_goes
#print axioms sourceRow_card
end Go.Proofs.YthnooilghadjkaaGreatDoor
