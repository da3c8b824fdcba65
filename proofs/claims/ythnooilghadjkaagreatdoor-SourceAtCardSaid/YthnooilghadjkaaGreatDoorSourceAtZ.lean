/- SourceAt: the line from any place of any text on, or that none begins there, is what the document says. The small case that the statement asks holds. No condition. -/
import Derived.Test.YthnooilghadjkaaGreatDoorCards
import Derived.Test.YthnooilghadjkaaGreatDoorTie
import Derived.SevenTiedAt
import Derived.LaidMore
import Derived.Test.YthnooilghadjkaaGreatDoorSrPAA
import Derived.Test.YthnooilghadjkaaGreatDoorSrPAB
import Derived.Test.YthnooilghadjkaaGreatDoorSrPAC
import Derived.Test.YthnooilghadjkaaGreatDoorSrPAD
import Derived.Test.YthnooilghadjkaaGreatDoorSrPAE
import Derived.Test.YthnooilghadjkaaGreatDoorSrPAF
import Derived.Test.YthnooilghadjkaaGreatDoorSrPAG
import Derived.Test.YthnooilghadjkaaGreatDoorSrPAH
import Derived.Test.YthnooilghadjkaaGreatDoorSrPAI
import Derived.Test.YthnooilghadjkaaGreatDoorSrPAJ
import Derived.Test.YthnooilghadjkaaGreatDoorSrPAK
import Derived.Test.YthnooilghadjkaaGreatDoorSrPAL
import Derived.Test.YthnooilghadjkaaGreatDoorSrPAM
import Derived.Test.YthnooilghadjkaaGreatDoorSrPAN
import Derived.Test.YthnooilghadjkaaGreatDoorSrPAO
import Derived.Test.YthnooilghadjkaaGreatDoorSrPAP
import Derived.Test.YthnooilghadjkaaGreatDoorSrPAQ
import Derived.Test.YthnooilghadjkaaGreatDoorSrPAR
import Derived.Test.YthnooilghadjkaaGreatDoorSrPAS
import Derived.Test.YthnooilghadjkaaGreatDoorSrPAT
import Derived.Test.YthnooilghadjkaaGreatDoorSrPAU
import Derived.Test.YthnooilghadjkaaGreatDoorSrPAV
import Derived.Test.YthnooilghadjkaaGreatDoorSrPAW
import Derived.Test.YthnooilghadjkaaGreatDoorSrPAX
import Derived.Test.YthnooilghadjkaaGreatDoorSrPBB
import Derived.Test.YthnooilghadjkaaGreatDoorSrPBC
set_option linter.unusedSimpArgs false
namespace Go.Proofs.YthnooilghadjkaaGreatDoor
open Go Go.ChangeShapes Go.WideShapes Go.ChangeAt Go.RowKit Go.Joins
set_option maxRecDepth 100000 in
theorem sourceAt_lifted (os : Os) (started : os.Started) (H : Type) (enc : TypeId × Value → H) :
    ReturnsInHanded {} Tryz.checked os 7 .any (fun w args => (Rows.sourceAtSpec.pre enc Tryz.prog Tryz.f7 Rows.sourceAtRow.domain false w args ∧ laidMetH Tryz.prog Rows.sourceAtRow.laid w) ∧ sizedMet enc Tryz.prog Tryz.f7 (OpenSpec.ofChange Rows.sourceAtSpec) false w args) (Rows.sourceAtSpec.post enc Tryz.prog Tryz.f7 false true false false) := by
  refine returnsInHanded_of_change_and (C := Tryz.checked) (X := fun w _ => laidMetH Tryz.prog Rows.sourceAtRow.laid w) (fun _ _ _ hh h => h.of_heap hh) Tryz.own started (by kernel_rfl) Tryz.func7
    (ChangeSpec.witness_shaped (enc := enc) (C := Tryz.checked) (os := os) (X := fun w _ => laidMetH Tryz.prog Rows.sourceAtRow.laid w) false (World.doorLaid Tryz.prog 60 os) #[.agg #[.string ⟨#[]⟩, .slice none 0 0, .slice none 0 0, .int .i64 0], .int .i64 0] 8 rfl (World.shaped_of_RefB (by kernel_rfl) (by kernel_rfl)) (by kernel_rfl) (by kernel_rfl) (by kernel_rfl)
      (laidMetH_of_parts3 (fuel := 8) (laidMet_of_run' 8 (by kernel_rfl) (by kernel_rfl)) (by kernel_rfl) (by kernel_rfl))) ?_
  intro W base args ds gs before hval0 hW _ _ hL _
  have hval : ∀ (j : Nat) t v, Tryz.f7.params[j]? = some t → args[j]? = some v → Value.okWide Tryz.prog W .any base t v := hval0
  obtain ⟨p, q, hA0, hV, hpq, hfz, hnd⟩ := id hW
  have hA : DataW.TrodAll enc Tryz.prog W 0 (fun _ => true) true Tryz.f7.params.toList args.toList ds p := hA0
  obtain ⟨hgs, hq⟩ := trodVars_none hV
  have hlen := trod_len hA
  rw [Tryz.params7] at hA hval hlen
  subst hgs
  have hsp : Rows.sourceAtSpec.fn H (ds ++ []) = { results := [.lit (.bool true)], args := ds } := by
    rw [List.append_nil]
    simp only [List.length_cons, List.length_nil] at hlen
    first
      | (obtain ⟨d0, rfl⟩ := List.length_eq_one_iff.1 hlen; rfl)
      | (match ds, hlen with | [d0, d1], _ => rfl)
      | (match ds, hlen with | [d0, d1, d2], _ => rfl)
      | (match ds, hlen with | [d0, d1, d2, d3], _ => rfl)
      | (match ds, hlen with | [d0, d1, d2, d3, d4], _ => rfl)
  refine law_calls (P := Tryz.prog) Tryz.laidOut (by kernel_rfl) rfl rfl Tryz.underlying4 hW hsp (law_open (G := G0) (ls := [[.str, .sl 5 true [.int .i64, .int .i64, .int .i64, .int .i64, .str], .sl 2 true [.int .i64, .int .i64], .int .i64], [.int .i64]]) (d := 20) (gok1 hL) (by kernel_rfl) (fun j t v h k => hval j t v (by simpa using h) (by simpa using k)) hA ?_)
  intro dss h
  obtain ⟨a, b, rfl, ha, hb⟩ := ofAll2 h
  obtain ⟨s, L, H, N, rfl⟩ := ofText ha
  obtain ⟨y, rfl, hy⟩ := ofCs1 hb
  obtain ⟨n, rfl, hn⟩ := ofC_int64 hy
  simp only [argsD, argD, st_text, st_int, mkEl]
  exact text_cases (fun h1 h2 => lawSourceAt_z n h1 h2) (fun l t e h1 h2 => lawSourceAt_e n h1 h2) (fun l ps t m M R g hH h1 => lawSourceAt_m R m g hH n hn h1)
set_option maxRecDepth 100000
theorem sourceAt_q0 : (Rows.sourceAtRow.wf (OpenSpec.ofChange Rows.sourceAtSpec)) = true := by kernel_rfl
theorem sourceAt_q3 : (Tryz.f7.params.all (Tryz.pinned.checked.prog.readableRec ·)) = true := by kernel_rfl
theorem sourceAt_q4 : (namedTie Tryz.pinned.checked.prog Rows.sourceAtRow.named Rows.sourceAtSpec.vars) = true := by kernel_rfl
theorem sourceAt_q5 : ((Rows.sourceAtRow.stops == [])) = true := by kernel_rfl
theorem sourceAt_q7 : ((Rows.sourceAtRow.knobs == [])) = true := by kernel_rfl
theorem sourceAt_q9 : ((Rows.sourceAtRow.inPlace == Tryz.pinned.checked.prog.inPlace 7)) = true := by kernel_rfl
theorem sourceAt_q10 : ((Rows.sourceAtRow.unfollowed == Tryz.pinned.checked.prog.unfollowed 7)) = true := by kernel_rfl
theorem sourceAt_q11 : ((Rows.sourceAtRow.recurses == Tryz.pinned.checked.prog.recurses 7)) = true := by kernel_rfl
theorem sourceAt_q12 : ((Rows.sourceAtRow.named == Tryz.pinned.checked.prog.varsNamed 7)) = true := by kernel_rfl
theorem sourceAt_q13 : ((Rows.sourceAtRow.maps == (Tryz.f7.params.toList ++ Rows.sourceAtSpec.plain.varTypes Tryz.pinned.checked.prog).any (Tryz.pinned.checked.prog.mapsRec ·))) = true := by kernel_rfl
theorem sourceAt_q14 : ((Rows.sourceAtRow.ifaces == (Tryz.f7.params.toList ++ Rows.sourceAtSpec.plain.varTypes Tryz.pinned.checked.prog).any (Tryz.pinned.checked.prog.ifacesRec ·))) = true := by kernel_rfl
theorem sourceAt_q15 : ((Rows.sourceAtRow.mapsOut == Tryz.pinned.checked.prog.mapsAmong Tryz.f7.resultTypes.toList)) = true := by kernel_rfl
theorem sourceAt_q16 : ((Rows.sourceAtRow.loops == (Tryz.f7.params.toList ++ Rows.sourceAtSpec.plain.varTypes Tryz.pinned.checked.prog).any (Tryz.pinned.checked.prog.loopsFrom ·))) = true := by kernel_rfl
theorem sourceAt_q17 : ((Rows.sourceAtRow.wideKeys == (Tryz.f7.params.toList ++ Rows.sourceAtSpec.plain.varTypes Tryz.pinned.checked.prog ++ Tryz.f7.resultTypes.toList).any (Tryz.pinned.checked.prog.wideKeysFrom ·))) = true := by kernel_rfl
theorem sourceAt_q18 : (Rows.sourceAtSpec.vars.all (Tryz.pinned.checked.prog.varReadable ·)) = true := by kernel_rfl
theorem sourceAt_q19 : (Tryz.f7.resultTypes.all (fun t => Tryz.pinned.checked.prog.readableRec t && decide (t < Tryz.pinned.checked.prog.types.size))) = true := by kernel_rfl
theorem sourceAt_q20 : ((Rows.sourceAtRow.ifacesOut == Tryz.f7.resultTypes.toList.any (Tryz.pinned.checked.prog.ifacesRec ·))) = true := by kernel_rfl
theorem sourceAt_q21 : ((Rows.sourceAtRow.loopsOut == Tryz.f7.resultTypes.toList.any (Tryz.pinned.checked.prog.loopsFrom ·))) = true := by kernel_rfl
theorem sourceAt_q22 : ((Rows.sourceAtRow.plainKeys == Tryz.pinned.checked.prog.plainKeys)) = true := by kernel_rfl
theorem sourceAt_q23 : (Rows.sourceAtRow.shortTexts.isNone) = true := by kernel_rfl
theorem sourceAt_q26 : ((Rows.sourceAtRow.lifted == Tryz.pinned.checked.prog.liftsFinal)) = true := by kernel_rfl
theorem sourceAt_q27 : ((Tryz.pinned.checked.prog.make == some Rows.sourceAtRow.make)) = true := by kernel_rfl
theorem sourceAt_q28 : ((Rows.sourceAtRow.kinds == (if Rows.sourceAtRow.domain.isEmpty then [] else Tryz.f7.params.toList.map fun t => match Tryz.pinned.checked.prog.underlying t with | some (.int k) => some k | _ => none))) = true := by kernel_rfl
theorem sourceAt_q29 : ((Rows.sourceAtRow.pinned == Rows.sourceAtRow.pinnedBy)) = true := by kernel_rfl
theorem sourceAt_q30 : ((Rows.sourceAtRow.veiled == (Tryz.f7.params.toList ++ Rows.sourceAtSpec.plain.varTypes Tryz.pinned.checked.prog ++ Tryz.f7.resultTypes.toList).any (Tryz.pinned.checked.prog.veiledRec ·))) = true := by kernel_rfl
theorem sourceAt_q31 : (Rows.sourceAtRow.veiledFits Tryz.pinned.checked.prog Tryz.f7.params.toList (Tryz.f7.params.toList ++ Rows.sourceAtSpec.plain.varTypes Tryz.pinned.checked.prog ++ Tryz.f7.resultTypes.toList)) = true := by kernel_rfl
theorem sourceAt_closed : joinedFacts Tryz.pinned.checked.prog 7 Tryz.f7 Rows.sourceAtSpec Rows.sourceAtRow = true := by
  delta joinedFacts
  exact (and2 (and2 (and2 (and2 (and2 (and2 (and2 (and2 (and2 (and2 (and2 (and2 (and2 (and2 (and2 (and2 (and2 (and2 (and2 (and2 (and2 (and2 (and2 (and2 (and2 (and2 (and2 (and2 (and2 (and2 (and2 sourceAt_q0 prog_q1) prog_q2) sourceAt_q3) sourceAt_q4) sourceAt_q5) prog_q6) sourceAt_q7) prog_q8) sourceAt_q9) sourceAt_q10) sourceAt_q11) sourceAt_q12) sourceAt_q13) sourceAt_q14) sourceAt_q15) sourceAt_q16) sourceAt_q17) sourceAt_q18) sourceAt_q19) sourceAt_q20) sourceAt_q21) sourceAt_q22) sourceAt_q23) prog_q24) prog_q25) sourceAt_q26) sourceAt_q27) sourceAt_q28) sourceAt_q29) sourceAt_q30) sourceAt_q31)
theorem sourceAt_holds : Rows.SourceAtSaid :=
  OpenClaim.holds_of_wide 7 Tryz.f7 rfl rfl rfl rfl rfl rfl rfl ⟨rfl, rfl, rfl, rfl, rfl⟩ rfl rfl rfl rfl rfl (by kernel_rfl) Tryz.func7 sourceAt_closed
    (of_decide_eq_true (by kernel_rfl)) (by unfold Func.isWrapper; rw [if_neg (of_decide_eq_false (by kernel_rfl))]; exact ⟨rfl, rfl⟩)
    (fun os started H enc _ => sourceAt_lifted os started H enc)
theorem sourceAt_wf : Rows.sourceAtRow.wfByText (.ofChange Rows.sourceAtSpec) = true := by kernel_rfl
theorem sourceAt_goes : false = Rows.sourceAtRow.goesBy Tryz.pinned.checked.prog := by kernel_rfl
theorem sourceAt_card : Rows.SourceAtCardSaid :=
  Claim7.holds_tied_plain_at .later [] [.data] true (true, "ac1fb0ac875ac1d728ef5d6e4c36be33aeccdd79168370d7843b5f56dd3e11c7") true
    sourceAt_holds (fun _ h => by cases h) sourceAt_wf (fun _ h => by cases h) sourceAt_row_tie rfl ⟨rfl, rfl⟩ prog_main rfl
    (fun f fn hf hfn => by
      obtain rfl : f = 7 := Option.some.inj ((show Tryz.prog.funcNamed "bodkin/bodkinlaw21.SourceAt" = some 7 by kernel_rfl).symm.trans hf) |>.symm
      obtain rfl : fn = Tryz.f7 := (Option.some.inj (Tryz.func7.symm.trans hfn)).symm
      exact ⟨prog_looks, fun j t ht => by
        have hall : (Tryz.f7.params.toList.all fun u => !Tryz.prog.wantsStandIn u) = true := by kernel_rfl
        have hm : t ∈ Tryz.f7.params.toList := by simpa using Array.mem_of_getElem? ht
        have hz := List.all_eq_true.1 hall t hm
        show Tryz.prog.wantsStandIn t = false
        simpa using hz⟩)
    sourceAt_goes
#print axioms sourceAt_card
end Go.Proofs.YthnooilghadjkaaGreatDoor
