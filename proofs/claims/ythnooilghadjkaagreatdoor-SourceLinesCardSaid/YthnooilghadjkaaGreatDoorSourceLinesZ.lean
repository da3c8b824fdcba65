/- SourceLines: of any text the program tells whether it is right, and all its lines, as the document does. The small case that the statement asks holds. No condition. -/
import Derived.Test.YthnooilghadjkaaGreatDoorCards
import Derived.Test.YthnooilghadjkaaGreatDoorTie
import Derived.SevenTiedAt
import Derived.LaidMore
import Derived.Test.YthnooilghadjkaaGreatDoorSrPAA
import Derived.Test.YthnooilghadjkaaGreatDoorSrPAB
import Derived.Test.YthnooilghadjkaaGreatDoorSrPAC
import Derived.Test.YthnooilghadjkaaGreatDoorSrPAD
import Derived.Test.YthnooilghadjkaaGreatDoorSrPAE
import Derived.Test.YthnooilghadjkaaGreatDoorSrPAF
import Derived.Test.YthnooilghadjkaaGreatDoorSrPAG
import Derived.Test.YthnooilghadjkaaGreatDoorSrPAH
import Derived.Test.YthnooilghadjkaaGreatDoorSrPAI
import Derived.Test.YthnooilghadjkaaGreatDoorSrPAJ
import Derived.Test.YthnooilghadjkaaGreatDoorSrPAK
import Derived.Test.YthnooilghadjkaaGreatDoorSrPAL
import Derived.Test.YthnooilghadjkaaGreatDoorSrPAM
import Derived.Test.YthnooilghadjkaaGreatDoorSrPAN
import Derived.Test.YthnooilghadjkaaGreatDoorSrPAO
import Derived.Test.YthnooilghadjkaaGreatDoorSrPAP
import Derived.Test.YthnooilghadjkaaGreatDoorSrPAQ
import Derived.Test.YthnooilghadjkaaGreatDoorSrPAR
import Derived.Test.YthnooilghadjkaaGreatDoorSrPAS
import Derived.Test.YthnooilghadjkaaGreatDoorSrPAT
import Derived.Test.YthnooilghadjkaaGreatDoorSrPAU
import Derived.Test.YthnooilghadjkaaGreatDoorSrPAV
import Derived.Test.YthnooilghadjkaaGreatDoorSrPAW
import Derived.Test.YthnooilghadjkaaGreatDoorSrPAY
import Derived.Test.YthnooilghadjkaaGreatDoorSrPBB
import Derived.Test.YthnooilghadjkaaGreatDoorSrPBC
set_option linter.unusedSimpArgs false
namespace Go.Proofs.YthnooilghadjkaaGreatDoor
open Go Go.ChangeShapes Go.WideShapes Go.ChangeAt Go.RowKit Go.Joins
set_option maxRecDepth 100000 in
theorem sourceLines_lifted (os : Os) (started : os.Started) (H : Type) (enc : TypeId × Value → H) :
    ReturnsInHanded {} Tryz.checked os 4 .any (fun w args => (Rows.sourceLinesSpec.pre enc Tryz.prog Tryz.f4 Rows.sourceLinesRow.domain false w args ∧ laidMetH Tryz.prog Rows.sourceLinesRow.laid w) ∧ sizedMet enc Tryz.prog Tryz.f4 (OpenSpec.ofChange Rows.sourceLinesSpec) false w args) (Rows.sourceLinesSpec.post enc Tryz.prog Tryz.f4 false true false false) := by
  refine returnsInHanded_of_change_and (C := Tryz.checked) (X := fun w _ => laidMetH Tryz.prog Rows.sourceLinesRow.laid w) (fun _ _ _ hh h => h.of_heap hh) Tryz.own started (by kernel_rfl) Tryz.func4
    (ChangeSpec.witness_shaped (enc := enc) (C := Tryz.checked) (os := os) (X := fun w _ => laidMetH Tryz.prog Rows.sourceLinesRow.laid w) false (World.doorLaid Tryz.prog 60 os) #[.agg #[.string ⟨#[]⟩, .slice none 0 0, .slice none 0 0, .int .i64 0]] 8 rfl (World.shaped_of_RefB (by kernel_rfl) (by kernel_rfl)) (by kernel_rfl) (by kernel_rfl) (by kernel_rfl)
      (laidMetH_of_parts3 (fuel := 8) (laidMet_of_run' 8 (by kernel_rfl) (by kernel_rfl)) (by kernel_rfl) (by kernel_rfl))) ?_
  intro W base args ds gs before hval0 hW _ _ hL _
  have hval : ∀ (j : Nat) t v, Tryz.f4.params[j]? = some t → args[j]? = some v → Value.okWide Tryz.prog W .any base t v := hval0
  obtain ⟨p, q, hA0, hV, hpq, hfz, hnd⟩ := id hW
  have hA : DataW.TrodAll enc Tryz.prog W 0 (fun _ => true) true Tryz.f4.params.toList args.toList ds p := hA0
  obtain ⟨hgs, hq⟩ := trodVars_none hV
  have hlen := trod_len hA
  rw [Tryz.params4] at hA hval hlen
  subst hgs
  have hsp : Rows.sourceLinesSpec.fn H (ds ++ []) = { results := [.lit (.bool true)], args := ds } := by
    rw [List.append_nil]
    simp only [List.length_cons, List.length_nil] at hlen
    first
      | (obtain ⟨d0, rfl⟩ := List.length_eq_one_iff.1 hlen; rfl)
      | (match ds, hlen with | [d0, d1], _ => rfl)
      | (match ds, hlen with | [d0, d1, d2], _ => rfl)
      | (match ds, hlen with | [d0, d1, d2, d3], _ => rfl)
      | (match ds, hlen with | [d0, d1, d2, d3, d4], _ => rfl)
  refine law_calls (P := Tryz.prog) Tryz.laidOut (by kernel_rfl) rfl rfl Tryz.underlying4 hW hsp (law_open (G := G0) (ls := [[.str, .sl 5 true [.int .i64, .int .i64, .int .i64, .int .i64, .str], .sl 2 true [.int .i64, .int .i64], .int .i64]]) (d := 20) (gok1 hL) (by kernel_rfl) (fun j t v h k => hval j t v (by simpa using h) (by simpa using k)) hA ?_)
  intro dss h
  obtain ⟨a, rfl, ha⟩ := ofAll1 h
  obtain ⟨s, L, H, N, rfl⟩ := ofText ha
  simp only [argsD, argD, st_text, mkEl]
  exact text_cases (fun h1 h2 => lawSourceLines_z h1 h2) (fun l t e h1 h2 => lawSourceLines_e h1 h2) (fun l ps t m M R g hH h1 => lawSourceLines_m R m g hH h1)
set_option maxRecDepth 100000
theorem sourceLines_q0 : (Rows.sourceLinesRow.wf (OpenSpec.ofChange Rows.sourceLinesSpec)) = true := by kernel_rfl
theorem sourceLines_q3 : (Tryz.f4.params.all (Tryz.pinned.checked.prog.readableRec ·)) = true := by kernel_rfl
theorem sourceLines_q4 : (namedTie Tryz.pinned.checked.prog Rows.sourceLinesRow.named Rows.sourceLinesSpec.vars) = true := by kernel_rfl
theorem sourceLines_q5 : ((Rows.sourceLinesRow.stops == [])) = true := by kernel_rfl
theorem sourceLines_q7 : ((Rows.sourceLinesRow.knobs == [])) = true := by kernel_rfl
theorem sourceLines_q9 : ((Rows.sourceLinesRow.inPlace == Tryz.pinned.checked.prog.inPlace 4)) = true := by kernel_rfl
theorem sourceLines_q10 : ((Rows.sourceLinesRow.unfollowed == Tryz.pinned.checked.prog.unfollowed 4)) = true := by kernel_rfl
theorem sourceLines_q11 : ((Rows.sourceLinesRow.recurses == Tryz.pinned.checked.prog.recurses 4)) = true := by kernel_rfl
theorem sourceLines_q12 : ((Rows.sourceLinesRow.named == Tryz.pinned.checked.prog.varsNamed 4)) = true := by kernel_rfl
theorem sourceLines_q13 : ((Rows.sourceLinesRow.maps == (Tryz.f4.params.toList ++ Rows.sourceLinesSpec.plain.varTypes Tryz.pinned.checked.prog).any (Tryz.pinned.checked.prog.mapsRec ·))) = true := by kernel_rfl
theorem sourceLines_q14 : ((Rows.sourceLinesRow.ifaces == (Tryz.f4.params.toList ++ Rows.sourceLinesSpec.plain.varTypes Tryz.pinned.checked.prog).any (Tryz.pinned.checked.prog.ifacesRec ·))) = true := by kernel_rfl
theorem sourceLines_q15 : ((Rows.sourceLinesRow.mapsOut == Tryz.pinned.checked.prog.mapsAmong Tryz.f4.resultTypes.toList)) = true := by kernel_rfl
theorem sourceLines_q16 : ((Rows.sourceLinesRow.loops == (Tryz.f4.params.toList ++ Rows.sourceLinesSpec.plain.varTypes Tryz.pinned.checked.prog).any (Tryz.pinned.checked.prog.loopsFrom ·))) = true := by kernel_rfl
theorem sourceLines_q17 : ((Rows.sourceLinesRow.wideKeys == (Tryz.f4.params.toList ++ Rows.sourceLinesSpec.plain.varTypes Tryz.pinned.checked.prog ++ Tryz.f4.resultTypes.toList).any (Tryz.pinned.checked.prog.wideKeysFrom ·))) = true := by kernel_rfl
theorem sourceLines_q18 : (Rows.sourceLinesSpec.vars.all (Tryz.pinned.checked.prog.varReadable ·)) = true := by kernel_rfl
theorem sourceLines_q19 : (Tryz.f4.resultTypes.all (fun t => Tryz.pinned.checked.prog.readableRec t && decide (t < Tryz.pinned.checked.prog.types.size))) = true := by kernel_rfl
theorem sourceLines_q20 : ((Rows.sourceLinesRow.ifacesOut == Tryz.f4.resultTypes.toList.any (Tryz.pinned.checked.prog.ifacesRec ·))) = true := by kernel_rfl
theorem sourceLines_q21 : ((Rows.sourceLinesRow.loopsOut == Tryz.f4.resultTypes.toList.any (Tryz.pinned.checked.prog.loopsFrom ·))) = true := by kernel_rfl
theorem sourceLines_q22 : ((Rows.sourceLinesRow.plainKeys == Tryz.pinned.checked.prog.plainKeys)) = true := by kernel_rfl
theorem sourceLines_q23 : (Rows.sourceLinesRow.shortTexts.isNone) = true := by kernel_rfl
theorem sourceLines_q26 : ((Rows.sourceLinesRow.lifted == Tryz.pinned.checked.prog.liftsFinal)) = true := by kernel_rfl
theorem sourceLines_q27 : ((Tryz.pinned.checked.prog.make == some Rows.sourceLinesRow.make)) = true := by kernel_rfl
theorem sourceLines_q28 : ((Rows.sourceLinesRow.kinds == (if Rows.sourceLinesRow.domain.isEmpty then [] else Tryz.f4.params.toList.map fun t => match Tryz.pinned.checked.prog.underlying t with | some (.int k) => some k | _ => none))) = true := by kernel_rfl
theorem sourceLines_q29 : ((Rows.sourceLinesRow.pinned == Rows.sourceLinesRow.pinnedBy)) = true := by kernel_rfl
theorem sourceLines_q30 : ((Rows.sourceLinesRow.veiled == (Tryz.f4.params.toList ++ Rows.sourceLinesSpec.plain.varTypes Tryz.pinned.checked.prog ++ Tryz.f4.resultTypes.toList).any (Tryz.pinned.checked.prog.veiledRec ·))) = true := by kernel_rfl
theorem sourceLines_q31 : (Rows.sourceLinesRow.veiledFits Tryz.pinned.checked.prog Tryz.f4.params.toList (Tryz.f4.params.toList ++ Rows.sourceLinesSpec.plain.varTypes Tryz.pinned.checked.prog ++ Tryz.f4.resultTypes.toList)) = true := by kernel_rfl
theorem sourceLines_closed : joinedFacts Tryz.pinned.checked.prog 4 Tryz.f4 Rows.sourceLinesSpec Rows.sourceLinesRow = true := by
  delta joinedFacts
  exact (and2 (and2 (and2 (and2 (and2 (and2 (and2 (and2 (and2 (and2 (and2 (and2 (and2 (and2 (and2 (and2 (and2 (and2 (and2 (and2 (and2 (and2 (and2 (and2 (and2 (and2 (and2 (and2 (and2 (and2 (and2 sourceLines_q0 prog_q1) prog_q2) sourceLines_q3) sourceLines_q4) sourceLines_q5) prog_q6) sourceLines_q7) prog_q8) sourceLines_q9) sourceLines_q10) sourceLines_q11) sourceLines_q12) sourceLines_q13) sourceLines_q14) sourceLines_q15) sourceLines_q16) sourceLines_q17) sourceLines_q18) sourceLines_q19) sourceLines_q20) sourceLines_q21) sourceLines_q22) sourceLines_q23) prog_q24) prog_q25) sourceLines_q26) sourceLines_q27) sourceLines_q28) sourceLines_q29) sourceLines_q30) sourceLines_q31)
theorem sourceLines_holds : Rows.SourceLinesSaid :=
  OpenClaim.holds_of_wide 4 Tryz.f4 rfl rfl rfl rfl rfl rfl rfl ⟨rfl, rfl, rfl, rfl, rfl⟩ rfl rfl rfl rfl rfl (by kernel_rfl) Tryz.func4 sourceLines_closed
    (of_decide_eq_true (by kernel_rfl)) (by unfold Func.isWrapper; rw [if_neg (of_decide_eq_false (by kernel_rfl))]; exact ⟨rfl, rfl⟩)
    (fun os started H enc _ => sourceLines_lifted os started H enc)
theorem sourceLines_wf : Rows.sourceLinesRow.wfByText (.ofChange Rows.sourceLinesSpec) = true := by kernel_rfl
theorem sourceLines_goes : false = Rows.sourceLinesRow.goesBy Tryz.pinned.checked.prog := by kernel_rfl
theorem sourceLines_card : Rows.SourceLinesCardSaid :=
  Claim7.holds_tied_plain_at .later [] [.data] true (true, "ac1fb0ac875ac1d728ef5d6e4c36be33aeccdd79168370d7843b5f56dd3e11c7") true
    sourceLines_holds (fun _ h => by cases h) sourceLines_wf (fun _ h => by cases h) sourceLines_row_tie rfl ⟨rfl, rfl⟩ prog_main rfl
    (fun f fn hf hfn => by
      obtain rfl : f = 4 := Option.some.inj ((show Tryz.prog.funcNamed "bodkin/bodkinlaw21.SourceLines" = some 4 by kernel_rfl).symm.trans hf) |>.symm
      obtain rfl : fn = Tryz.f4 := (Option.some.inj (Tryz.func4.symm.trans hfn)).symm
      exact ⟨prog_looks, fun j t ht => by
        have hall : (Tryz.f4.params.toList.all fun u => !Tryz.prog.wantsStandIn u) = true := by kernel_rfl
        have hm : t ∈ Tryz.f4.params.toList := by simpa using Array.mem_of_getElem? ht
        have hz := List.all_eq_true.1 hall t hm
        show Tryz.prog.wantsStandIn t = false
        simpa using hz⟩)
    sourceLines_goes
#print axioms sourceLines_card
end Go.Proofs.YthnooilghadjkaaGreatDoor
