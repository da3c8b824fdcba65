/- BlocksNew: which blocks make a set, and in what order, is what the document says, of all lists of blocks and all sizes. The small case that the statement asks holds. No condition. -/
import Derived.Test.YthjjncooaahejaaGreatDoorCards
import Derived.Test.YthjjncooaahejaaGreatDoorTie
import Derived.SevenTiedAt
import Derived.LaidMore
import Derived.Test.YthjjncooaahejaaGreatDoorBlPAA
import Derived.Test.YthjjncooaahejaaGreatDoorBlPAB
import Derived.Test.YthjjncooaahejaaGreatDoorBlPAC
import Derived.Test.YthjjncooaahejaaGreatDoorBlPAD
import Derived.Test.YthjjncooaahejaaGreatDoorBlPAE
import Derived.Test.YthjjncooaahejaaGreatDoorBlPAF
import Derived.Test.YthjjncooaahejaaGreatDoorBlPAG
import Derived.Test.YthjjncooaahejaaGreatDoorBlPAH
import Derived.Test.YthjjncooaahejaaGreatDoorBlPAI
import Derived.Test.YthjjncooaahejaaGreatDoorBlPAJ
import Derived.Test.YthjjncooaahejaaGreatDoorBlPAK
import Derived.Test.YthjjncooaahejaaGreatDoorBlPAM
import Derived.Test.YthjjncooaahejaaGreatDoorBlPAN
import Derived.Test.YthjjncooaahejaaGreatDoorBlPAO
set_option linter.unusedSimpArgs false
namespace Go.Proofs.YthjjncooaahejaaGreatDoor
open Go Go.ChangeShapes Go.WideShapes Go.ChangeAt Go.RowKit Go.Joins
set_option maxRecDepth 100000 in
theorem blocksNew_lifted (os : Os) (started : os.Started) (H : Type) (enc : TypeId × Value → H) :
    ReturnsInHanded {} Tryz.checked os 3 .any (fun w args => (Rows.blocksNewSpec.pre enc Tryz.prog Tryz.f3 Rows.blocksNewRow.domain false w args ∧ laidMetH Tryz.prog Rows.blocksNewRow.laid w) ∧ sizedMet enc Tryz.prog Tryz.f3 (OpenSpec.ofChange Rows.blocksNewSpec) false w args) (Rows.blocksNewSpec.post enc Tryz.prog Tryz.f3 false true false false) := by
  refine returnsInHanded_of_change_and (C := Tryz.checked) (X := fun w _ => laidMetH Tryz.prog Rows.blocksNewRow.laid w) (fun _ _ _ hh h => h.of_heap hh) Tryz.own started (by kernel_rfl) Tryz.func3
    (ChangeSpec.witness_shaped (enc := enc) (C := Tryz.checked) (os := os) (X := fun w _ => laidMetH Tryz.prog Rows.blocksNewRow.laid w) false (World.doorLaid Tryz.prog 60 os) #[.int .i64 0, .slice none 0 0] 8 rfl (World.shaped_of_RefB (by kernel_rfl) (by kernel_rfl)) (by kernel_rfl) (by kernel_rfl) (by kernel_rfl)
      (laidMetH_of_parts3 (fuel := 8) (laidMet_of_run' 8 (by kernel_rfl) (by kernel_rfl)) (by kernel_rfl) (by kernel_rfl))) ?_
  intro W base args ds gs before hval0 hW _ _ hL _
  have hval : ∀ (j : Nat) t v, Tryz.f3.params[j]? = some t → args[j]? = some v → Value.okWide Tryz.prog W .any base t v := hval0
  obtain ⟨p, q, hA0, hV, hpq, hfz, hnd⟩ := id hW
  have hA : DataW.TrodAll enc Tryz.prog W 0 (fun _ => true) true Tryz.f3.params.toList args.toList ds p := hA0
  obtain ⟨hgs, hq⟩ := trodVars_none hV
  have hlen := trod_len hA
  rw [Tryz.params3] at hA hval hlen
  subst hgs
  have hsp : Rows.blocksNewSpec.fn H (ds ++ []) = { results := [.lit (.bool true)], args := ds } := by
    rw [List.append_nil]
    simp only [List.length_cons, List.length_nil] at hlen
    first
      | (obtain ⟨d0, rfl⟩ := List.length_eq_one_iff.1 hlen; rfl)
      | (match ds, hlen with | [d0, d1], _ => rfl)
      | (match ds, hlen with | [d0, d1, d2], _ => rfl)
      | (match ds, hlen with | [d0, d1, d2, d3], _ => rfl)
      | (match ds, hlen with | [d0, d1, d2, d3, d4], _ => rfl)
  refine law_calls (P := Tryz.prog) Tryz.laidOut (by kernel_rfl) rfl rfl Tryz.underlying4 hW hsp (law_open (G := G0) (ls := [[.int .i64], [.sl 4 true [.int .i64, .int .i64, .int .i64, .bool]]]) (d := 20) (gok3 hL) (by kernel_rfl) (fun j t v h k => hval j t v (by simpa using h) (by simpa using k)) hA ?_)
  intro dss h
  obtain ⟨a, b, rfl, ha, hb⟩ := ofAll2 h
  obtain ⟨x, rfl, hx⟩ := ofCs1 ha
  obtain ⟨n, rfl⟩ := ofC_int hx
  obtain ⟨y, rfl, hy⟩ := ofCs1 hb
  obtain ⟨l, hl, rfl⟩ := ofC_blocks hy
  simp only [argsD, argD, st_blocks, st_int, mkEl]
  exact lawBlocksNew_fn n l four_run (by unfold maxLen at hl; omega)
set_option maxRecDepth 100000
theorem blocksNew_q0 : (Rows.blocksNewRow.wf (OpenSpec.ofChange Rows.blocksNewSpec)) = true := by kernel_rfl
theorem blocksNew_q3 : (Tryz.f3.params.all (Tryz.pinned.checked.prog.readableRec ·)) = true := by kernel_rfl
theorem blocksNew_q4 : (namedTie Tryz.pinned.checked.prog Rows.blocksNewRow.named Rows.blocksNewSpec.vars) = true := by kernel_rfl
theorem blocksNew_q5 : ((Rows.blocksNewRow.stops == [])) = true := by kernel_rfl
theorem blocksNew_q7 : ((Rows.blocksNewRow.knobs == [])) = true := by kernel_rfl
theorem blocksNew_q9 : ((Rows.blocksNewRow.inPlace == Tryz.pinned.checked.prog.inPlace 3)) = true := by kernel_rfl
theorem blocksNew_q10 : ((Rows.blocksNewRow.unfollowed == Tryz.pinned.checked.prog.unfollowed 3)) = true := by kernel_rfl
theorem blocksNew_q11 : ((Rows.blocksNewRow.recurses == Tryz.pinned.checked.prog.recurses 3)) = true := by kernel_rfl
theorem blocksNew_q12 : ((Rows.blocksNewRow.named == Tryz.pinned.checked.prog.varsNamed 3)) = true := by kernel_rfl
theorem blocksNew_q13 : ((Rows.blocksNewRow.maps == (Tryz.f3.params.toList ++ Rows.blocksNewSpec.plain.varTypes Tryz.pinned.checked.prog).any (Tryz.pinned.checked.prog.mapsRec ·))) = true := by kernel_rfl
theorem blocksNew_q14 : ((Rows.blocksNewRow.ifaces == (Tryz.f3.params.toList ++ Rows.blocksNewSpec.plain.varTypes Tryz.pinned.checked.prog).any (Tryz.pinned.checked.prog.ifacesRec ·))) = true := by kernel_rfl
theorem blocksNew_q15 : ((Rows.blocksNewRow.mapsOut == Tryz.pinned.checked.prog.mapsAmong Tryz.f3.resultTypes.toList)) = true := by kernel_rfl
theorem blocksNew_q16 : ((Rows.blocksNewRow.loops == (Tryz.f3.params.toList ++ Rows.blocksNewSpec.plain.varTypes Tryz.pinned.checked.prog).any (Tryz.pinned.checked.prog.loopsFrom ·))) = true := by kernel_rfl
theorem blocksNew_q17 : ((Rows.blocksNewRow.wideKeys == (Tryz.f3.params.toList ++ Rows.blocksNewSpec.plain.varTypes Tryz.pinned.checked.prog ++ Tryz.f3.resultTypes.toList).any (Tryz.pinned.checked.prog.wideKeysFrom ·))) = true := by kernel_rfl
theorem blocksNew_q18 : (Rows.blocksNewSpec.vars.all (Tryz.pinned.checked.prog.varReadable ·)) = true := by kernel_rfl
theorem blocksNew_q19 : (Tryz.f3.resultTypes.all (fun t => Tryz.pinned.checked.prog.readableRec t && decide (t < Tryz.pinned.checked.prog.types.size))) = true := by kernel_rfl
theorem blocksNew_q20 : ((Rows.blocksNewRow.ifacesOut == Tryz.f3.resultTypes.toList.any (Tryz.pinned.checked.prog.ifacesRec ·))) = true := by kernel_rfl
theorem blocksNew_q21 : ((Rows.blocksNewRow.loopsOut == Tryz.f3.resultTypes.toList.any (Tryz.pinned.checked.prog.loopsFrom ·))) = true := by kernel_rfl
theorem blocksNew_q22 : ((Rows.blocksNewRow.plainKeys == Tryz.pinned.checked.prog.plainKeys)) = true := by kernel_rfl
theorem blocksNew_q23 : (Rows.blocksNewRow.shortTexts.isNone) = true := by kernel_rfl
theorem blocksNew_q26 : ((Rows.blocksNewRow.lifted == Tryz.pinned.checked.prog.liftsFinal)) = true := by kernel_rfl
theorem blocksNew_q27 : ((Tryz.pinned.checked.prog.make == some Rows.blocksNewRow.make)) = true := by kernel_rfl
theorem blocksNew_q28 : ((Rows.blocksNewRow.kinds == (if Rows.blocksNewRow.domain.isEmpty then [] else Tryz.f3.params.toList.map fun t => match Tryz.pinned.checked.prog.underlying t with | some (.int k) => some k | _ => none))) = true := by kernel_rfl
theorem blocksNew_q29 : ((Rows.blocksNewRow.pinned == Rows.blocksNewRow.pinnedBy)) = true := by kernel_rfl
theorem blocksNew_q30 : ((Rows.blocksNewRow.veiled == (Tryz.f3.params.toList ++ Rows.blocksNewSpec.plain.varTypes Tryz.pinned.checked.prog ++ Tryz.f3.resultTypes.toList).any (Tryz.pinned.checked.prog.veiledRec ·))) = true := by kernel_rfl
theorem blocksNew_q31 : (Rows.blocksNewRow.veiledFits Tryz.pinned.checked.prog Tryz.f3.params.toList (Tryz.f3.params.toList ++ Rows.blocksNewSpec.plain.varTypes Tryz.pinned.checked.prog ++ Tryz.f3.resultTypes.toList)) = true := by kernel_rfl
theorem blocksNew_closed : joinedFacts Tryz.pinned.checked.prog 3 Tryz.f3 Rows.blocksNewSpec Rows.blocksNewRow = true := by
  delta joinedFacts
  exact (and2 (and2 (and2 (and2 (and2 (and2 (and2 (and2 (and2 (and2 (and2 (and2 (and2 (and2 (and2 (and2 (and2 (and2 (and2 (and2 (and2 (and2 (and2 (and2 (and2 (and2 (and2 (and2 (and2 (and2 (and2 blocksNew_q0 prog_q1) prog_q2) blocksNew_q3) blocksNew_q4) blocksNew_q5) prog_q6) blocksNew_q7) prog_q8) blocksNew_q9) blocksNew_q10) blocksNew_q11) blocksNew_q12) blocksNew_q13) blocksNew_q14) blocksNew_q15) blocksNew_q16) blocksNew_q17) blocksNew_q18) blocksNew_q19) blocksNew_q20) blocksNew_q21) blocksNew_q22) blocksNew_q23) prog_q24) prog_q25) blocksNew_q26) blocksNew_q27) blocksNew_q28) blocksNew_q29) blocksNew_q30) blocksNew_q31)
theorem blocksNew_holds : Rows.BlocksNewSaid :=
  OpenClaim.holds_of_wide 3 Tryz.f3 rfl rfl rfl rfl rfl rfl rfl ⟨rfl, rfl, rfl, rfl, rfl⟩ rfl rfl rfl rfl rfl (by kernel_rfl) Tryz.func3 blocksNew_closed
    (of_decide_eq_true (by kernel_rfl)) (by unfold Func.isWrapper; rw [if_neg (of_decide_eq_false (by kernel_rfl))]; exact ⟨rfl, rfl⟩)
    (fun os started H enc _ => blocksNew_lifted os started H enc)
theorem blocksNew_wf : Rows.blocksNewRow.wfByText (.ofChange Rows.blocksNewSpec) = true := by kernel_rfl
theorem blocksNew_goes : false = Rows.blocksNewRow.goesBy Tryz.pinned.checked.prog := by kernel_rfl
theorem blocksNew_card : Rows.BlocksNewCardSaid :=
  Claim7.holds_tied_plain_at .later [] [.data, .data, .data] true (true, "a25ec6ca414efb1d15d123e6c7e660ae2550098eb942f03d1348ecc3afe0dbde") true
    blocksNew_holds (fun _ h => by cases h) blocksNew_wf (fun _ h => by cases h) blocksNew_row_tie rfl ⟨rfl, rfl⟩ prog_main rfl
    (fun f fn hf hfn => by
      obtain rfl : f = 3 := Option.some.inj ((show Tryz.prog.funcNamed "bodkin/bodkinlaw41.BlocksNew" = some 3 by kernel_rfl).symm.trans hf) |>.symm
      obtain rfl : fn = Tryz.f3 := (Option.some.inj (Tryz.func3.symm.trans hfn)).symm
      exact ⟨prog_looks, fun j t ht => by
        have hall : (Tryz.f3.params.toList.all fun u => !Tryz.prog.wantsStandIn u) = true := by kernel_rfl
        have hm : t ∈ Tryz.f3.params.toList := by simpa using Array.mem_of_getElem? ht
        have hz := List.all_eq_true.1 hall t hm
        show Tryz.prog.wantsStandIn t = false
        simpa using hz⟩)
    blocksNew_goes
#print axioms blocksNew_card
end Go.Proofs.YthjjncooaahejaaGreatDoor
