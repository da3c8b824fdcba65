/- WindowLines: of any text, any hidden spans and any place the program's beginning and end of the place's line are the document's, and what is wrong is told; the small case that the statement asks holds. No condition. -/
import Derived.Test.YthnooilghadjkaaGreatDoorCards
import Derived.Test.YthnooilghadjkaaGreatDoorTie
import Derived.SevenTiedAt
import Derived.LaidMore
import Derived.Test.YthnooilghadjkaaGreatDoorWindowLinesPA
import Derived.Test.YthnooilghadjkaaGreatDoorWindowLinesPB
import Derived.Test.YthnooilghadjkaaGreatDoorWindowLinesPC
import Derived.Test.YthnooilghadjkaaGreatDoorWindowLinesPD
import Derived.Test.YthnooilghadjkaaGreatDoorWindowLinesPE
import Derived.Test.YthnooilghadjkaaGreatDoorWindowLinesPF
import Derived.Test.YthnooilghadjkaaGreatDoorWindowLinesPG
import Derived.Test.YthnooilghadjkaaGreatDoorWindowLinesPH
import Derived.Test.YthnooilghadjkaaGreatDoorWindowLinesPI
import Derived.Test.YthnooilghadjkaaGreatDoorWindowLinesPJ
import Derived.Test.YthnooilghadjkaaGreatDoorWindowLinesPK
import Derived.Test.YthnooilghadjkaaGreatDoorWindowLinesPL
import Derived.Test.YthnooilghadjkaaGreatDoorWindowLinesPM
import Derived.Test.YthnooilghadjkaaGreatDoorWindowLinesPN
import Derived.Test.YthnooilghadjkaaGreatDoorWindowLinesPO
import Derived.Test.YthnooilghadjkaaGreatDoorWindowLinesPP
set_option linter.unusedSimpArgs false
set_option linter.unusedVariables false
set_option maxRecDepth 8000
namespace Go.Proofs.YthnooilghadjkaaGreatDoor
theorem five_run : OFn Tryz.prog G0 10 [] [] 0 (bv true) [] := getsG G0 MB 3000 (by kernel_rfl)
section
variable (s : ByteArray) (H : List Sn)
theorem made27_big (h : 200 < s.size ∨ 60 < H.length) : OFn Tryz.prog G0 9 [sv s, snL H] [] 0 (.tup [.d (.agg [nilD, nilD, nilSD]), .d (.agg [nilSD, iD 0, nilSD, iD 0, nilSD]), bv false]) [] := by
  refine vF mixed [0, 1, 4, 5, 6, 7, 8, 9, 10, 11, 19] Tryz.func9 rfl Tryz.results9 Tryz.ntmps9 ?_
  (repeat' (first | (with_reducible first | exact True.intro | refine vD ?_ | refine vG ?_ | refine vE ?_) | with_reducible refine DoneW.out ?_ | refine vR ?_ | refine v6 ?_ | with_reducible refine vN ?_ | ((with_reducible first | refine vB (fun h => ?_) (fun h => ?_) | refine vM (fun h => ?_) (fun h => ?_)) <;> (first | (exfalso; omega) | skip))))
set_option maxHeartbeats 1600000 in
theorem made27_fn (h1 : s.size ≤ 200) (h2 : H.length ≤ 60) : ∃ ps t, Rp (runesAt s 0) ps t ∧ OFn Tryz.prog G0 9 [sv s, snL H] [] 0 (.tup [txD t (runesAt s 0).length nilSD H, .d (.agg [.sd 1 false ((runesAt s 0).map ruD), iD (runesAt s 0).length, .sd 5 false [], iD 0, .sd 2 false (H.map snD)]), bv true]) [] := by
  have hl := runesAt_len s s.size 0 (by omega)
  obtain ⟨ps, t, R, r2⟩ := rNew_fn s (by omega) (by omega)
  refine ⟨ps, t, R, ?_⟩
  have r1 := RDecode_fn s (by omega)
  generalize runesAt s 0 = l at *
  have r3 := OFn.nilArg2 (iNew_0 l.length (by omega))
  have r4 := OFn.nilArg2 (rNew13_e l.length (by omega))
  simp only [ropeD, inlD] at r2 r3 ⊢
  refine vF mixed [0, 1, 4, 5, 6, 7, 8, 9, 10, 11, 19] Tryz.func9 rfl Tryz.results9 Tryz.ntmps9 ?_
  (repeat' (first | (with_reducible first | exact True.intro | refine vD ?_ | refine vG ?_ | refine vE ?_) | with_reducible refine vC (r1) ?_ | with_reducible refine vC (r2) ?_ | with_reducible refine vC (r3) ?_ | with_reducible refine vC (r4) ?_ | with_reducible refine DoneW.out ?_ | refine vR ?_ | refine v6 ?_ | with_reducible refine vN ?_ | ((with_reducible first | refine vB (fun h => ?_) (fun h => ?_) | refine vM (fun h => ?_) (fun h => ?_)) <;> (first | (exfalso; omega) | skip))))
  rfl
theorem lawWindowLines_big (a : Int) (h : 200 < s.size ∨ 60 < H.length) : OFn Tryz.prog G0 3 [sv s, snL H, iv a] [] 0 (bv true) [] := by
  have r1 := made27_big s H h
  refine vF mixed [0, 1, 2, 6, 7, 8, 9, 10, 11, 12, 13, 14, 23, 49, 75] Tryz.func3 rfl Tryz.results3 Tryz.ntmps3 ?_
  (repeat' (first | (with_reducible first | exact True.intro | refine vD ?_ | refine vG ?_ | refine vE ?_) | with_reducible refine vC (r1) ?_ | with_reducible refine vC (five_run) ?_ | with_reducible refine DoneW.out ?_ | refine vR ?_ | refine v6 ?_ | with_reducible refine vN ?_ | ((with_reducible first | refine vB (fun h => ?_) (fun h => ?_) | refine vM (fun h => ?_) (fun h => ?_)) <;> (first | (exfalso; omega) | skip))))
set_option maxHeartbeats 3200000 in
theorem lawWindowLines_fn (a : Int) (h1 : s.size ≤ 200) (h2 : H.length ≤ 60) : OFn Tryz.prog G0 3 [sv s, snL H, iv a] [] 0 (bv true) [] := by
  have hlen := runesAt_len s s.size 0 (by omega)
  obtain ⟨ps, t, R, r1⟩ := made27_fn s H h1 h2
  generalize runesAt s 0 = l at *
  have r2 := dRight_fn l l.length [] H (by omega) (by omega)
  simp only [dtV, List.map_nil] at r2
  cases hok : okT' l.length l.length H with
  | false =>
    have w := wrong_form R l.length nilSD H (by omega) hok a
    have r3 := Start_bad t l.length nilSD H a 4 (by decide) w
    have r4 := End_bad t l.length nilSD H a 4 (by decide) w
    rw [hok] at r2
    refine vF mixed [0, 1, 2, 6, 7, 8, 9, 10, 11, 12, 13, 14, 23, 49, 75] Tryz.func3 rfl Tryz.results3 Tryz.ntmps3 ?_
    (repeat' (first | (with_reducible first | exact True.intro | refine vD ?_ | refine vG ?_ | refine vE ?_) | with_reducible refine vC (r1) ?_ | with_reducible refine vC (r2) ?_ | with_reducible refine vC (r3) ?_ | with_reducible refine vC (r4) ?_ | with_reducible refine vC (five_run) ?_ | with_reducible refine DoneW.out ?_ | refine vR ?_ | refine v6 ?_ | with_reducible refine vN ?_ | ((with_reducible first | refine vB (fun h => ?_) (fun h => ?_) | refine vM (fun h => ?_) (fun h => ?_)) <;> (first | (exfalso; omega) | skip))))
  | true =>
    rw [hok] at r2
    by_cases ha : a < 0 ∨ (l.length : Int) < a
    · have w := wrong_arg R l.length nilSD H (by omega) hok a ha
      have r3 := Start_bad t l.length nilSD H a 1 (by decide) w
      have r4 := End_bad t l.length nilSD H a 1 (by decide) w
      refine vF mixed [0, 1, 2, 6, 7, 8, 9, 10, 11, 12, 13, 14, 23, 49, 75] Tryz.func3 rfl Tryz.results3 Tryz.ntmps3 ?_
      (repeat' (first | (with_reducible first | exact True.intro | refine vD ?_ | refine vG ?_ | refine vE ?_) | with_reducible refine vC (r1) ?_ | with_reducible refine vC (r2) ?_ | with_reducible refine vC (r3) ?_ | with_reducible refine vC (r4) ?_ | with_reducible refine vC (five_run) ?_ | with_reducible refine DoneW.out ?_ | refine vR ?_ | refine v6 ?_ | with_reducible refine vN ?_ | ((with_reducible first | refine vB (fun h => ?_) (fun h => ?_) | refine vM (fun h => ?_) (fun h => ?_)) <;> (first | (exfalso; omega) | skip))))
    · obtain ⟨i, rfl⟩ : ∃ i : Nat, a = i := ⟨a.toNat, by omega⟩
      have hr := (okT_rgt hok).1
      have r3 := Start_fn R l.length nilSD H (by omega) hok i (by omega)
      have r4 := End_fn R l.length nilSD H (by omega) hok i (by omega)
      have r5 := dLine_fn l l.length [] H (by omega) (by omega) (by simp) (fun y hy => by cases hy) List.Pairwise.nil hr i (by omega)
      rw [lnD] at r5
      simp only [dtV, List.map_nil] at r5
      refine vF mixed [0, 1, 2, 6, 7, 8, 9, 10, 11, 12, 13, 14, 23, 49, 75] Tryz.func3 rfl Tryz.results3 Tryz.ntmps3 ?_
      (repeat' (first | (with_reducible first | exact True.intro | refine vD ?_ | refine vG ?_ | refine vE ?_) | with_reducible refine vC (r1) ?_ | with_reducible refine vC (r2) ?_ | with_reducible refine vC (r3) ?_ | with_reducible refine vC (r4) ?_ | with_reducible refine vC (r5) ?_ | with_reducible refine vC (five_run) ?_ | with_reducible refine DoneW.out ?_ | refine vR ?_ | refine v6 ?_ | with_reducible refine vN ?_ | ((with_reducible first | refine vB (fun h => ?_) (fun h => ?_) | refine vM (fun h => ?_) (fun h => ?_)) <;> (first | (exfalso; omega) | skip))))
end
end Go.Proofs.YthnooilghadjkaaGreatDoor
namespace Go.Proofs.YthnooilghadjkaaGreatDoor
open Go Go.ChangeShapes Go.WideShapes Go.ChangeAt Go.RowKit Go.Joins
set_option maxRecDepth 100000 in
theorem windowLines_lifted (os : Os) (started : os.Started) (H : Type) (enc : TypeId × Value → H) :
    ReturnsInHanded {} Tryz.checked os 3 .any (fun w args => (Rows.windowLinesSpec.pre enc Tryz.prog Tryz.f3 Rows.windowLinesRow.domain false w args ∧ laidMetH Tryz.prog Rows.windowLinesRow.laid w) ∧ sizedMet enc Tryz.prog Tryz.f3 (OpenSpec.ofChange Rows.windowLinesSpec) false w args) (Rows.windowLinesSpec.post enc Tryz.prog Tryz.f3 false true false false) := by
  refine returnsInHanded_of_change_and (C := Tryz.checked) (X := fun w _ => laidMetH Tryz.prog Rows.windowLinesRow.laid w) (fun _ _ _ hh h => h.of_heap hh) Tryz.own started (by kernel_rfl) Tryz.func3
    (ChangeSpec.witness_shaped (enc := enc) (C := Tryz.checked) (os := os) (X := fun w _ => laidMetH Tryz.prog Rows.windowLinesRow.laid w) false (World.doorLaid Tryz.prog 60 os) #[.string ⟨#[]⟩, .slice none 0 0, .int .i64 0] 8 rfl (World.shaped_of_RefB (by kernel_rfl) (by kernel_rfl)) (by kernel_rfl) (by kernel_rfl) (by kernel_rfl)
      (laidMetH_of_parts3 (fuel := 8) (laidMet_of_run' 8 (by kernel_rfl) (by kernel_rfl)) (by kernel_rfl) (by kernel_rfl))) ?_
  intro W base args ds gs before hval0 hW _ _ hL _
  have hval : ∀ (j : Nat) t v, Tryz.f3.params[j]? = some t → args[j]? = some v → Value.okWide Tryz.prog W .any base t v := hval0
  obtain ⟨p, q, hA0, hV, hpq, hfz, hnd⟩ := id hW
  have hA : DataW.TrodAll enc Tryz.prog W 0 (fun _ => true) true Tryz.f3.params.toList args.toList ds p := hA0
  obtain ⟨hgs, hq⟩ := trodVars_none hV
  have hlen := trod_len hA
  rw [Tryz.params3] at hA hval hlen
  subst hgs
  have hsp : Rows.windowLinesSpec.fn H (ds ++ []) = { results := [.lit (.bool true)], args := ds } := by
    rw [List.append_nil]
    simp only [List.length_cons, List.length_nil] at hlen
    first
      | (obtain ⟨d0, rfl⟩ := List.length_eq_one_iff.1 hlen; rfl)
      | (match ds, hlen with | [d0, d1], _ => rfl)
      | (match ds, hlen with | [d0, d1, d2], _ => rfl)
      | (match ds, hlen with | [d0, d1, d2, d3], _ => rfl)
      | (match ds, hlen with | [d0, d1, d2, d3, d4], _ => rfl)
  refine law_calls (P := Tryz.prog) Tryz.laidOut (by kernel_rfl) rfl rfl Tryz.underlying4 hW hsp (law_open (G := G0) (ls := [[.str], [.sl 2 true [.int .i64, .int .i64]], [.int .i64]]) (d := 20) (gok1 hL) (by kernel_rfl) (fun j t v h k => hval j t v (by simpa using h) (by simpa using k)) hA ?_)
  intro dss h
  obtain ⟨a, r, rfl, ha, h⟩ := ofAll_cons h
  obtain ⟨b, c, rfl, hb, hc⟩ := ofAll2 h
  obtain ⟨x, rfl, hx⟩ := ofCs1 ha
  obtain ⟨y, rfl, hy⟩ := ofCs1 hb
  obtain ⟨z, rfl, hz⟩ := ofCs1 hc
  obtain ⟨s, rfl, _⟩ := ofC_str hx
  obtain ⟨H, rfl⟩ := ofC_spans hy
  obtain ⟨n, rfl⟩ := ofC_int hz
  simp only [argsD, argD, st_spans, st_str, st_int, mkEl]
  by_cases hs : 200 < s.size ∨ 60 < H.length
  · exact lawWindowLines_big s H n hs
  · exact lawWindowLines_fn s H n (by omega) (by omega)
set_option maxRecDepth 100000
theorem windowLines_q0 : (Rows.windowLinesRow.wf (OpenSpec.ofChange Rows.windowLinesSpec)) = true := by kernel_rfl
theorem windowLines_q3 : (Tryz.f3.params.all (Tryz.pinned.checked.prog.readableRec ·)) = true := by kernel_rfl
theorem windowLines_q4 : (namedTie Tryz.pinned.checked.prog Rows.windowLinesRow.named Rows.windowLinesSpec.vars) = true := by kernel_rfl
theorem windowLines_q5 : ((Rows.windowLinesRow.stops == [])) = true := by kernel_rfl
theorem windowLines_q7 : ((Rows.windowLinesRow.knobs == [])) = true := by kernel_rfl
theorem windowLines_q9 : ((Rows.windowLinesRow.inPlace == Tryz.pinned.checked.prog.inPlace 3)) = true := by kernel_rfl
theorem windowLines_q10 : ((Rows.windowLinesRow.unfollowed == Tryz.pinned.checked.prog.unfollowed 3)) = true := by kernel_rfl
theorem windowLines_q11 : ((Rows.windowLinesRow.recurses == Tryz.pinned.checked.prog.recurses 3)) = true := by kernel_rfl
theorem windowLines_q12 : ((Rows.windowLinesRow.named == Tryz.pinned.checked.prog.varsNamed 3)) = true := by kernel_rfl
theorem windowLines_q13 : ((Rows.windowLinesRow.maps == (Tryz.f3.params.toList ++ Rows.windowLinesSpec.plain.varTypes Tryz.pinned.checked.prog).any (Tryz.pinned.checked.prog.mapsRec ·))) = true := by kernel_rfl
theorem windowLines_q14 : ((Rows.windowLinesRow.ifaces == (Tryz.f3.params.toList ++ Rows.windowLinesSpec.plain.varTypes Tryz.pinned.checked.prog).any (Tryz.pinned.checked.prog.ifacesRec ·))) = true := by kernel_rfl
theorem windowLines_q15 : ((Rows.windowLinesRow.mapsOut == Tryz.pinned.checked.prog.mapsAmong Tryz.f3.resultTypes.toList)) = true := by kernel_rfl
theorem windowLines_q16 : ((Rows.windowLinesRow.loops == (Tryz.f3.params.toList ++ Rows.windowLinesSpec.plain.varTypes Tryz.pinned.checked.prog).any (Tryz.pinned.checked.prog.loopsFrom ·))) = true := by kernel_rfl
theorem windowLines_q17 : ((Rows.windowLinesRow.wideKeys == (Tryz.f3.params.toList ++ Rows.windowLinesSpec.plain.varTypes Tryz.pinned.checked.prog ++ Tryz.f3.resultTypes.toList).any (Tryz.pinned.checked.prog.wideKeysFrom ·))) = true := by kernel_rfl
theorem windowLines_q18 : (Rows.windowLinesSpec.vars.all (Tryz.pinned.checked.prog.varReadable ·)) = true := by kernel_rfl
theorem windowLines_q19 : (Tryz.f3.resultTypes.all (fun t => Tryz.pinned.checked.prog.readableRec t && decide (t < Tryz.pinned.checked.prog.types.size))) = true := by kernel_rfl
theorem windowLines_q20 : ((Rows.windowLinesRow.ifacesOut == Tryz.f3.resultTypes.toList.any (Tryz.pinned.checked.prog.ifacesRec ·))) = true := by kernel_rfl
theorem windowLines_q21 : ((Rows.windowLinesRow.loopsOut == Tryz.f3.resultTypes.toList.any (Tryz.pinned.checked.prog.loopsFrom ·))) = true := by kernel_rfl
theorem windowLines_q22 : ((Rows.windowLinesRow.plainKeys == Tryz.pinned.checked.prog.plainKeys)) = true := by kernel_rfl
theorem windowLines_q23 : (Rows.windowLinesRow.shortTexts.isNone) = true := by kernel_rfl
theorem windowLines_q26 : ((Rows.windowLinesRow.lifted == Tryz.pinned.checked.prog.liftsFinal)) = true := by kernel_rfl
theorem windowLines_q27 : ((Tryz.pinned.checked.prog.make == some Rows.windowLinesRow.make)) = true := by kernel_rfl
theorem windowLines_q28 : ((Rows.windowLinesRow.kinds == (if Rows.windowLinesRow.domain.isEmpty then [] else Tryz.f3.params.toList.map fun t => match Tryz.pinned.checked.prog.underlying t with | some (.int k) => some k | _ => none))) = true := by kernel_rfl
theorem windowLines_q29 : ((Rows.windowLinesRow.pinned == Rows.windowLinesRow.pinnedBy)) = true := by kernel_rfl
theorem windowLines_q30 : ((Rows.windowLinesRow.veiled == (Tryz.f3.params.toList ++ Rows.windowLinesSpec.plain.varTypes Tryz.pinned.checked.prog ++ Tryz.f3.resultTypes.toList).any (Tryz.pinned.checked.prog.veiledRec ·))) = true := by kernel_rfl
theorem windowLines_q31 : (Rows.windowLinesRow.veiledFits Tryz.pinned.checked.prog Tryz.f3.params.toList (Tryz.f3.params.toList ++ Rows.windowLinesSpec.plain.varTypes Tryz.pinned.checked.prog ++ Tryz.f3.resultTypes.toList)) = true := by kernel_rfl
theorem windowLines_closed : joinedFacts Tryz.pinned.checked.prog 3 Tryz.f3 Rows.windowLinesSpec Rows.windowLinesRow = true := by
  delta joinedFacts
  exact (and2 (and2 (and2 (and2 (and2 (and2 (and2 (and2 (and2 (and2 (and2 (and2 (and2 (and2 (and2 (and2 (and2 (and2 (and2 (and2 (and2 (and2 (and2 (and2 (and2 (and2 (and2 (and2 (and2 (and2 (and2 windowLines_q0 prog_q1) prog_q2) windowLines_q3) windowLines_q4) windowLines_q5) prog_q6) windowLines_q7) prog_q8) windowLines_q9) windowLines_q10) windowLines_q11) windowLines_q12) windowLines_q13) windowLines_q14) windowLines_q15) windowLines_q16) windowLines_q17) windowLines_q18) windowLines_q19) windowLines_q20) windowLines_q21) windowLines_q22) windowLines_q23) prog_q24) prog_q25) windowLines_q26) windowLines_q27) windowLines_q28) windowLines_q29) windowLines_q30) windowLines_q31)
theorem windowLines_holds : Rows.WindowLinesSaid :=
  OpenClaim.holds_of_wide 3 Tryz.f3 rfl rfl rfl rfl rfl rfl rfl ⟨rfl, rfl, rfl, rfl, rfl⟩ rfl rfl rfl rfl rfl (by kernel_rfl) Tryz.func3 windowLines_closed
    (of_decide_eq_true (by kernel_rfl)) (by unfold Func.isWrapper; rw [if_neg (of_decide_eq_false (by kernel_rfl))]; exact ⟨rfl, rfl⟩)
    (fun os started H enc _ => windowLines_lifted os started H enc)
theorem windowLines_wf : Rows.windowLinesRow.wfByText (.ofChange Rows.windowLinesSpec) = true := by kernel_rfl
theorem windowLines_goes : false = Rows.windowLinesRow.goesBy Tryz.pinned.checked.prog := by kernel_rfl
theorem windowLines_card : Rows.WindowLinesCardSaid :=
  Claim7.holds_tied_plain_at .later [] [.data] true (true, "ac1fb0ac875ac1d728ef5d6e4c36be33aeccdd79168370d7843b5f56dd3e11c7") true
    windowLines_holds (fun _ h => by cases h) windowLines_wf (fun _ h => by cases h) windowLines_row_tie rfl ⟨rfl, rfl⟩ prog_main rfl
    (fun f fn hf hfn => by
      obtain rfl : f = 3 := Option.some.inj ((show Tryz.prog.funcNamed "bodkin/bodkinlaw27.WindowLines" = some 3 by kernel_rfl).symm.trans hf) |>.symm
      obtain rfl : fn = Tryz.f3 := (Option.some.inj (Tryz.func3.symm.trans hfn)).symm
      exact ⟨prog_looks, fun j t ht => by
        have hall : (Tryz.f3.params.toList.all fun u => !Tryz.prog.wantsStandIn u) = true := by kernel_rfl
        have hm : t ∈ Tryz.f3.params.toList := by simpa using Array.mem_of_getElem? ht
        have hz := List.all_eq_true.1 hall t hm
        show Tryz.prog.wantsStandIn t = false
        simpa using hz⟩)
    windowLines_goes
#print axioms windowLines_card
end Go.Proofs.YthnooilghadjkaaGreatDoor
