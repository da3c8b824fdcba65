/- SourceKeeps: the plain parts of all lines, with the shown breaks between, are the text without what is hidden. The small case that the statement asks holds. No condition. -/
import Derived.Test.YthnooilghadjkaaGreatDoorCards
import Derived.Test.YthnooilghadjkaaGreatDoorTie
import Derived.SevenTiedAt
import Derived.LaidMore
import Derived.Test.YthnooilghadjkaaGreatDoorSrPAA
import Derived.Test.YthnooilghadjkaaGreatDoorSrPAB
import Derived.Test.YthnooilghadjkaaGreatDoorSrPAC
import Derived.Test.YthnooilghadjkaaGreatDoorSrPAD
import Derived.Test.YthnooilghadjkaaGreatDoorSrPAE
import Derived.Test.YthnooilghadjkaaGreatDoorSrPAF
import Derived.Test.YthnooilghadjkaaGreatDoorSrPAG
import Derived.Test.YthnooilghadjkaaGreatDoorSrPAH
import Derived.Test.YthnooilghadjkaaGreatDoorSrPAI
import Derived.Test.YthnooilghadjkaaGreatDoorSrPAJ
import Derived.Test.YthnooilghadjkaaGreatDoorSrPAK
import Derived.Test.YthnooilghadjkaaGreatDoorSrPAL
import Derived.Test.YthnooilghadjkaaGreatDoorSrPAM
import Derived.Test.YthnooilghadjkaaGreatDoorSrPAN
import Derived.Test.YthnooilghadjkaaGreatDoorSrPAO
import Derived.Test.YthnooilghadjkaaGreatDoorSrPAP
import Derived.Test.YthnooilghadjkaaGreatDoorSrPAQ
import Derived.Test.YthnooilghadjkaaGreatDoorSrPAR
import Derived.Test.YthnooilghadjkaaGreatDoorSrPAS
import Derived.Test.YthnooilghadjkaaGreatDoorSrPAT
import Derived.Test.YthnooilghadjkaaGreatDoorSrPAU
import Derived.Test.YthnooilghadjkaaGreatDoorSrPAV
import Derived.Test.YthnooilghadjkaaGreatDoorSrPAW
import Derived.Test.YthnooilghadjkaaGreatDoorSrPBA
import Derived.Test.YthnooilghadjkaaGreatDoorSrPBB
import Derived.Test.YthnooilghadjkaaGreatDoorSrPBC
set_option linter.unusedSimpArgs false
namespace Go.Proofs.YthnooilghadjkaaGreatDoor
open Go Go.ChangeShapes Go.WideShapes Go.ChangeAt Go.RowKit Go.Joins
set_option maxRecDepth 100000 in
theorem sourceKeeps_lifted (os : Os) (started : os.Started) (H : Type) (enc : TypeId × Value → H) :
    ReturnsInHanded {} Tryz.checked os 6 .any (fun w args => (Rows.sourceKeepsSpec.pre enc Tryz.prog Tryz.f6 Rows.sourceKeepsRow.domain false w args ∧ laidMetH Tryz.prog Rows.sourceKeepsRow.laid w) ∧ sizedMet enc Tryz.prog Tryz.f6 (OpenSpec.ofChange Rows.sourceKeepsSpec) false w args) (Rows.sourceKeepsSpec.post enc Tryz.prog Tryz.f6 false true false false) := by
  refine returnsInHanded_of_change_and (C := Tryz.checked) (X := fun w _ => laidMetH Tryz.prog Rows.sourceKeepsRow.laid w) (fun _ _ _ hh h => h.of_heap hh) Tryz.own started (by kernel_rfl) Tryz.func6
    (ChangeSpec.witness_shaped (enc := enc) (C := Tryz.checked) (os := os) (X := fun w _ => laidMetH Tryz.prog Rows.sourceKeepsRow.laid w) false (World.doorLaid Tryz.prog 60 os) #[.agg #[.string ⟨#[]⟩, .slice none 0 0, .slice none 0 0, .int .i64 0]] 8 rfl (World.shaped_of_RefB (by kernel_rfl) (by kernel_rfl)) (by kernel_rfl) (by kernel_rfl) (by kernel_rfl)
      (laidMetH_of_parts3 (fuel := 8) (laidMet_of_run' 8 (by kernel_rfl) (by kernel_rfl)) (by kernel_rfl) (by kernel_rfl))) ?_
  intro W base args ds gs before hval0 hW _ _ hL _
  have hval : ∀ (j : Nat) t v, Tryz.f6.params[j]? = some t → args[j]? = some v → Value.okWide Tryz.prog W .any base t v := hval0
  obtain ⟨p, q, hA0, hV, hpq, hfz, hnd⟩ := id hW
  have hA : DataW.TrodAll enc Tryz.prog W 0 (fun _ => true) true Tryz.f6.params.toList args.toList ds p := hA0
  obtain ⟨hgs, hq⟩ := trodVars_none hV
  have hlen := trod_len hA
  rw [Tryz.params6] at hA hval hlen
  subst hgs
  have hsp : Rows.sourceKeepsSpec.fn H (ds ++ []) = { results := [.lit (.bool true)], args := ds } := by
    rw [List.append_nil]
    simp only [List.length_cons, List.length_nil] at hlen
    first
      | (obtain ⟨d0, rfl⟩ := List.length_eq_one_iff.1 hlen; rfl)
      | (match ds, hlen with | [d0, d1], _ => rfl)
      | (match ds, hlen with | [d0, d1, d2], _ => rfl)
      | (match ds, hlen with | [d0, d1, d2, d3], _ => rfl)
      | (match ds, hlen with | [d0, d1, d2, d3, d4], _ => rfl)
  refine law_calls (P := Tryz.prog) Tryz.laidOut (by kernel_rfl) rfl rfl Tryz.underlying4 hW hsp (law_open (G := G0) (ls := [[.str, .sl 5 true [.int .i64, .int .i64, .int .i64, .int .i64, .str], .sl 2 true [.int .i64, .int .i64], .int .i64]]) (d := 20) (gok1 hL) (by kernel_rfl) (fun j t v h k => hval j t v (by simpa using h) (by simpa using k)) hA ?_)
  intro dss h
  obtain ⟨a, rfl, ha⟩ := ofAll1 h
  obtain ⟨s, L, H, N, rfl⟩ := ofText ha
  simp only [argsD, argD, st_text, mkEl]
  exact text_cases (fun h1 h2 => lawSourceKeeps_z h1 h2) (fun l t e h1 h2 => lawSourceKeeps_e h1 h2) (fun l ps t m M R g hH h1 => lawSourceKeeps_m R m g hH h1)
set_option maxRecDepth 100000
theorem sourceKeeps_q0 : (Rows.sourceKeepsRow.wf (OpenSpec.ofChange Rows.sourceKeepsSpec)) = true := by kernel_rfl
theorem sourceKeeps_q3 : (Tryz.f6.params.all (Tryz.pinned.checked.prog.readableRec ·)) = true := by kernel_rfl
theorem sourceKeeps_q4 : (namedTie Tryz.pinned.checked.prog Rows.sourceKeepsRow.named Rows.sourceKeepsSpec.vars) = true := by kernel_rfl
theorem sourceKeeps_q5 : ((Rows.sourceKeepsRow.stops == [])) = true := by kernel_rfl
theorem sourceKeeps_q7 : ((Rows.sourceKeepsRow.knobs == [])) = true := by kernel_rfl
theorem sourceKeeps_q9 : ((Rows.sourceKeepsRow.inPlace == Tryz.pinned.checked.prog.inPlace 6)) = true := by kernel_rfl
theorem sourceKeeps_q10 : ((Rows.sourceKeepsRow.unfollowed == Tryz.pinned.checked.prog.unfollowed 6)) = true := by kernel_rfl
theorem sourceKeeps_q11 : ((Rows.sourceKeepsRow.recurses == Tryz.pinned.checked.prog.recurses 6)) = true := by kernel_rfl
theorem sourceKeeps_q12 : ((Rows.sourceKeepsRow.named == Tryz.pinned.checked.prog.varsNamed 6)) = true := by kernel_rfl
theorem sourceKeeps_q13 : ((Rows.sourceKeepsRow.maps == (Tryz.f6.params.toList ++ Rows.sourceKeepsSpec.plain.varTypes Tryz.pinned.checked.prog).any (Tryz.pinned.checked.prog.mapsRec ·))) = true := by kernel_rfl
theorem sourceKeeps_q14 : ((Rows.sourceKeepsRow.ifaces == (Tryz.f6.params.toList ++ Rows.sourceKeepsSpec.plain.varTypes Tryz.pinned.checked.prog).any (Tryz.pinned.checked.prog.ifacesRec ·))) = true := by kernel_rfl
theorem sourceKeeps_q15 : ((Rows.sourceKeepsRow.mapsOut == Tryz.pinned.checked.prog.mapsAmong Tryz.f6.resultTypes.toList)) = true := by kernel_rfl
theorem sourceKeeps_q16 : ((Rows.sourceKeepsRow.loops == (Tryz.f6.params.toList ++ Rows.sourceKeepsSpec.plain.varTypes Tryz.pinned.checked.prog).any (Tryz.pinned.checked.prog.loopsFrom ·))) = true := by kernel_rfl
theorem sourceKeeps_q17 : ((Rows.sourceKeepsRow.wideKeys == (Tryz.f6.params.toList ++ Rows.sourceKeepsSpec.plain.varTypes Tryz.pinned.checked.prog ++ Tryz.f6.resultTypes.toList).any (Tryz.pinned.checked.prog.wideKeysFrom ·))) = true := by kernel_rfl
theorem sourceKeeps_q18 : (Rows.sourceKeepsSpec.vars.all (Tryz.pinned.checked.prog.varReadable ·)) = true := by kernel_rfl
theorem sourceKeeps_q19 : (Tryz.f6.resultTypes.all (fun t => Tryz.pinned.checked.prog.readableRec t && decide (t < Tryz.pinned.checked.prog.types.size))) = true := by kernel_rfl
theorem sourceKeeps_q20 : ((Rows.sourceKeepsRow.ifacesOut == Tryz.f6.resultTypes.toList.any (Tryz.pinned.checked.prog.ifacesRec ·))) = true := by kernel_rfl
theorem sourceKeeps_q21 : ((Rows.sourceKeepsRow.loopsOut == Tryz.f6.resultTypes.toList.any (Tryz.pinned.checked.prog.loopsFrom ·))) = true := by kernel_rfl
theorem sourceKeeps_q22 : ((Rows.sourceKeepsRow.plainKeys == Tryz.pinned.checked.prog.plainKeys)) = true := by kernel_rfl
theorem sourceKeeps_q23 : (Rows.sourceKeepsRow.shortTexts.isNone) = true := by kernel_rfl
theorem sourceKeeps_q26 : ((Rows.sourceKeepsRow.lifted == Tryz.pinned.checked.prog.liftsFinal)) = true := by kernel_rfl
theorem sourceKeeps_q27 : ((Tryz.pinned.checked.prog.make == some Rows.sourceKeepsRow.make)) = true := by kernel_rfl
theorem sourceKeeps_q28 : ((Rows.sourceKeepsRow.kinds == (if Rows.sourceKeepsRow.domain.isEmpty then [] else Tryz.f6.params.toList.map fun t => match Tryz.pinned.checked.prog.underlying t with | some (.int k) => some k | _ => none))) = true := by kernel_rfl
theorem sourceKeeps_q29 : ((Rows.sourceKeepsRow.pinned == Rows.sourceKeepsRow.pinnedBy)) = true := by kernel_rfl
theorem sourceKeeps_q30 : ((Rows.sourceKeepsRow.veiled == (Tryz.f6.params.toList ++ Rows.sourceKeepsSpec.plain.varTypes Tryz.pinned.checked.prog ++ Tryz.f6.resultTypes.toList).any (Tryz.pinned.checked.prog.veiledRec ·))) = true := by kernel_rfl
theorem sourceKeeps_q31 : (Rows.sourceKeepsRow.veiledFits Tryz.pinned.checked.prog Tryz.f6.params.toList (Tryz.f6.params.toList ++ Rows.sourceKeepsSpec.plain.varTypes Tryz.pinned.checked.prog ++ Tryz.f6.resultTypes.toList)) = true := by kernel_rfl
theorem sourceKeeps_closed : joinedFacts Tryz.pinned.checked.prog 6 Tryz.f6 Rows.sourceKeepsSpec Rows.sourceKeepsRow = true := by
  delta joinedFacts
  exact (and2 (and2 (and2 (and2 (and2 (and2 (and2 (and2 (and2 (and2 (and2 (and2 (and2 (and2 (and2 (and2 (and2 (and2 (and2 (and2 (and2 (and2 (and2 (and2 (and2 (and2 (and2 (and2 (and2 (and2 (and2 sourceKeeps_q0 prog_q1) prog_q2) sourceKeeps_q3) sourceKeeps_q4) sourceKeeps_q5) prog_q6) sourceKeeps_q7) prog_q8) sourceKeeps_q9) sourceKeeps_q10) sourceKeeps_q11) sourceKeeps_q12) sourceKeeps_q13) sourceKeeps_q14) sourceKeeps_q15) sourceKeeps_q16) sourceKeeps_q17) sourceKeeps_q18) sourceKeeps_q19) sourceKeeps_q20) sourceKeeps_q21) sourceKeeps_q22) sourceKeeps_q23) prog_q24) prog_q25) sourceKeeps_q26) sourceKeeps_q27) sourceKeeps_q28) sourceKeeps_q29) sourceKeeps_q30) sourceKeeps_q31)
theorem sourceKeeps_holds : Rows.SourceKeepsSaid :=
  OpenClaim.holds_of_wide 6 Tryz.f6 rfl rfl rfl rfl rfl rfl rfl ⟨rfl, rfl, rfl, rfl, rfl⟩ rfl rfl rfl rfl rfl (by kernel_rfl) Tryz.func6 sourceKeeps_closed
    (of_decide_eq_true (by kernel_rfl)) (by unfold Func.isWrapper; rw [if_neg (of_decide_eq_false (by kernel_rfl))]; exact ⟨rfl, rfl⟩)
    (fun os started H enc _ => sourceKeeps_lifted os started H enc)
theorem sourceKeeps_wf : Rows.sourceKeepsRow.wfByText (.ofChange Rows.sourceKeepsSpec) = true := by kernel_rfl
theorem sourceKeeps_goes : false = Rows.sourceKeepsRow.goesBy Tryz.pinned.checked.prog := by kernel_rfl
theorem sourceKeeps_card : Rows.SourceKeepsCardSaid :=
  Claim7.holds_tied_plain_at .later [] [.data] true (true, "ac1fb0ac875ac1d728ef5d6e4c36be33aeccdd79168370d7843b5f56dd3e11c7") true
    sourceKeeps_holds (fun _ h => by cases h) sourceKeeps_wf (fun _ h => by cases h) sourceKeeps_row_tie rfl ⟨rfl, rfl⟩ prog_main rfl
    (fun f fn hf hfn => by
      obtain rfl : f = 6 := Option.some.inj ((show Tryz.prog.funcNamed "bodkin/bodkinlaw21.SourceKeeps" = some 6 by kernel_rfl).symm.trans hf) |>.symm
      obtain rfl : fn = Tryz.f6 := (Option.some.inj (Tryz.func6.symm.trans hfn)).symm
      exact ⟨prog_looks, fun j t ht => by
        have hall : (Tryz.f6.params.toList.all fun u => !Tryz.prog.wantsStandIn u) = true := by kernel_rfl
        have hm : t ∈ Tryz.f6.params.toList := by simpa using Array.mem_of_getElem? ht
        have hz := List.all_eq_true.1 hall t hm
        show Tryz.prog.wantsStandIn t = false
        simpa using hz⟩)
    sourceKeeps_goes
#print axioms sourceKeeps_card
end Go.Proofs.YthnooilghadjkaaGreatDoor
