/- WindowAll: at each place of any text with any hidden spans the beginning and end told are those of the line that the source tells, and the place is from the one to the other; the small case that the statement asks holds. No condition. -/
import Derived.Test.YthnooilghadjkaaGreatDoorCards
import Derived.Test.YthnooilghadjkaaGreatDoorTie
import Derived.SevenTiedAt
import Derived.LaidMore
import Derived.Test.YthnooilghadjkaaGreatDoorWindowAllPA
import Derived.Test.YthnooilghadjkaaGreatDoorWindowAllPB
import Derived.Test.YthnooilghadjkaaGreatDoorWindowAllPC
import Derived.Test.YthnooilghadjkaaGreatDoorWindowAllPD
import Derived.Test.YthnooilghadjkaaGreatDoorWindowAllPE
import Derived.Test.YthnooilghadjkaaGreatDoorWindowAllPF
import Derived.Test.YthnooilghadjkaaGreatDoorWindowAllPG
import Derived.Test.YthnooilghadjkaaGreatDoorWindowAllPH
import Derived.Test.YthnooilghadjkaaGreatDoorWindowAllPI
import Derived.Test.YthnooilghadjkaaGreatDoorWindowAllPJ
import Derived.Test.YthnooilghadjkaaGreatDoorWindowAllPK
import Derived.Test.YthnooilghadjkaaGreatDoorWindowAllPL
import Derived.Test.YthnooilghadjkaaGreatDoorWindowAllPM
import Derived.Test.YthnooilghadjkaaGreatDoorWindowAllPN
import Derived.Test.YthnooilghadjkaaGreatDoorWindowAllPO
import Derived.Test.YthnooilghadjkaaGreatDoorWindowAllPP
set_option linter.unusedSimpArgs false
set_option linter.unusedVariables false
set_option maxRecDepth 8000
namespace Go.Proofs.YthnooilghadjkaaGreatDoor
theorem five_run : OFn Tryz.prog G0 10 [] [] 0 (bv true) [] := getsG G0 MB 3000 (by kernel_rfl)
theorem begP_le (l : List Int) (H : List Sn) (i : Nat) : begP l H i ≤ i := (seekDn_spec (shB l H) i).1
theorem beg_at (l : List Int) (H : List Sn) (i : Nat) (h : 0 < begP l H i) : shB l H (begP l H i - 1) = true := (seekDn_spec (shB l H) i).2.1 h
theorem beg_end (l : List Int) (H : List Sn) {i : Nat} (hi : i ≤ l.length) : endP l H (begP l H i) = endP l H i := by
  obtain ⟨h1, h2, h3⟩ := seekDn_spec (shB l H) i
  exact seekUp_to _ _ _ _ h1 hi h3
theorem begins_beg {l : List Int} {ps : List (List Int)} {t : Option T} (R : Rp l ps t) (n : Int) (x : D) (H : List Sn) (hl : H.length ≤ 1000000) (i : Nat) (hi : i ≤ l.length) : OFn Tryz.prog G0 42 [txD t n x H, iv (begP l H i)] [] 0 (bv true) [] := by
  have h1 := begP_le l H i
  by_cases h0 : begP l H i = 0
  · rw [h0]
    exact begins_out R n x H 0 (.inl (Int.le_refl 0))
  · have := begins_in R n x H hl (begP l H i) (by omega) (by omega)
    rw [beg_at l H i (by omega)] at this
    exact this
section
variable (s : ByteArray) (H : List Sn)
theorem made27_big (h : 200 < s.size ∨ 60 < H.length) : OFn Tryz.prog G0 9 [sv s, snL H] [] 0 (.tup [.d (.agg [nilD, nilD, nilSD]), .d (.agg [nilSD, iD 0, nilSD, iD 0, nilSD]), bv false]) [] := by
  refine vF mixed [0, 1, 4, 5, 6, 7, 8, 9, 10, 11, 19] Tryz.func9 rfl Tryz.results9 Tryz.ntmps9 ?_
  (repeat' (first | (with_reducible first | exact True.intro | refine vD ?_ | refine vG ?_ | refine vE ?_) | with_reducible refine DoneW.out ?_ | refine vR ?_ | refine v6 ?_ | with_reducible refine vN ?_ | ((with_reducible first | refine vB (fun h => ?_) (fun h => ?_) | refine vM (fun h => ?_) (fun h => ?_)) <;> (first | (exfalso; omega) | skip))))
set_option maxHeartbeats 1600000 in
theorem made27_fn (h1 : s.size ≤ 200) (h2 : H.length ≤ 60) : ∃ ps t, Rp (runesAt s 0) ps t ∧ OFn Tryz.prog G0 9 [sv s, snL H] [] 0 (.tup [txD t (runesAt s 0).length nilSD H, .d (.agg [.sd 1 false ((runesAt s 0).map ruD), iD (runesAt s 0).length, .sd 5 false [], iD 0, .sd 2 false (H.map snD)]), bv true]) [] := by
  have hl := runesAt_len s s.size 0 (by omega)
  obtain ⟨ps, t, R, r2⟩ := rNew_fn s (by omega) (by omega)
  refine ⟨ps, t, R, ?_⟩
  have r1 := RDecode_fn s (by omega)
  generalize runesAt s 0 = l at *
  have r3 := OFn.nilArg2 (iNew_0 l.length (by omega))
  have r4 := OFn.nilArg2 (rNew13_e l.length (by omega))
  simp only [ropeD, inlD] at r2 r3 ⊢
  refine vF mixed [0, 1, 4, 5, 6, 7, 8, 9, 10, 11, 19] Tryz.func9 rfl Tryz.results9 Tryz.ntmps9 ?_
  (repeat' (first | (with_reducible first | exact True.intro | refine vD ?_ | refine vG ?_ | refine vE ?_) | with_reducible refine vC (r1) ?_ | with_reducible refine vC (r2) ?_ | with_reducible refine vC (r3) ?_ | with_reducible refine vC (r4) ?_ | with_reducible refine DoneW.out ?_ | refine vR ?_ | refine v6 ?_ | with_reducible refine vN ?_ | ((with_reducible first | refine vB (fun h => ?_) (fun h => ?_) | refine vM (fun h => ?_) (fun h => ?_)) <;> (first | (exfalso; omega) | skip))))
  rfl
def waS (l : List Int) (t : Option T) (H : List Sn) (i : Nat) : St := ⟨[(5, .po 0 0), (6, .po 1 0), (8, iv i)], [(0, txC t l.length nilSD H), (1, dtC l l.length [] H)], 2⟩
attribute [push_cast] waS.eq_def
theorem lawWindowAll_big (h : 200 < s.size ∨ 60 < H.length) : OFn Tryz.prog G0 8 [sv s, snL H] [] 0 (bv true) [] := by
  have r1 := made27_big s H h
  refine vF mixed [0, 1, 4, 5, 6, 7, 8, 9, 10, 11, 12, 13, 14, 28, 47, 93] Tryz.func8 rfl Tryz.results8 Tryz.ntmps8 ?_
  (repeat' (first | (with_reducible first | exact True.intro | refine vD ?_ | refine vG ?_ | refine vE ?_) | with_reducible refine vC (r1) ?_ | with_reducible refine vC (five_run) ?_ | with_reducible refine DoneW.out ?_ | refine vR ?_ | refine v6 ?_ | with_reducible refine vN ?_ | ((with_reducible first | refine vB (fun h => ?_) (fun h => ?_) | refine vM (fun h => ?_) (fun h => ?_)) <;> (first | (exfalso; omega) | skip))))
set_option maxHeartbeats 3200000 in
theorem lawWindowAll_fn (h1 : s.size ≤ 200) (h2 : H.length ≤ 60) : OFn Tryz.prog G0 8 [sv s, snL H] [] 0 (bv true) [] := by
  have hlen := runesAt_len s s.size 0 (by omega)
  obtain ⟨ps, t, R, r1⟩ := made27_fn s H h1 h2
  generalize runesAt s 0 = l at *
  have r2 := dRight_fn l l.length [] H (by omega) (by omega)
  simp only [dtV, List.map_nil] at r2
  cases hok : okT' l.length l.length H with
  | false =>
    rw [hok] at r2
    refine vF mixed [0, 1, 4, 5, 6, 7, 8, 9, 10, 11, 12, 13, 14, 28, 47, 93] Tryz.func8 rfl Tryz.results8 Tryz.ntmps8 ?_
    (repeat' (first | (with_reducible first | exact True.intro | refine vD ?_ | refine vG ?_ | refine vE ?_) | with_reducible refine vC (r1) ?_ | with_reducible refine vC (r2) ?_ | with_reducible refine vC (five_run) ?_ | with_reducible refine DoneW.out ?_ | refine vR ?_ | refine v6 ?_ | with_reducible refine vN ?_ | ((with_reducible first | refine vB (fun h => ?_) (fun h => ?_) | refine vM (fun h => ?_) (fun h => ?_)) <;> (first | (exfalso; omega) | skip))))
  | true =>
    have hr := (okT_rgt hok).1
    rw [hok] at r2
    refine vF mixed [0, 1, 4, 5, 6, 7, 8, 9, 10, 11, 12, 13, 14, 28, 47, 93] Tryz.func8 rfl Tryz.results8 Tryz.ntmps8 ?_
    (repeat' (first | (with_reducible first | exact True.intro | refine vD ?_ | refine vG ?_ | refine vE ?_) | with_reducible refine vC (r1) ?_ | with_reducible refine vC (r2) ?_ | with_reducible refine vC (five_run) ?_ | with_reducible refine DoneW.out ?_ | refine vR ?_ | refine v6 ?_ | with_reducible refine vN ?_ | ((with_reducible first | refine vB (fun h => ?_) (fun h => ?_) | refine vM (fun h => ?_) (fun h => ?_)) <;> (first | (exfalso; omega) | skip))))
    refine vL (lv := [0, 1, 4, 5, 6, 7, 8, 9, 10, 11, 12, 13, 14, 28, 47, 93]) mixed (waS l t H) (fun i => i ≤ l.length + 1) (fun i => l.length + 1 - i) (0) ((GhW.go [5, 6, 8] (by exact vT) rfl)) ?_ ?_
    · exact Nat.zero_le _
    intro i hi
    rcases Nat.lt_or_ge i (l.length + 1) with hlt | hge
    · have hb := begP_le l H i
      have he := endP_in l H (i := i) (by omega)
      have hbe := beg_end l H (i := i) (by omega)
      have r3 := Start_fn R l.length nilSD H (by omega) hok i (by omega)
      have r4 := End_fn R l.length nilSD H (by omega) hok i (by omega)
      have r5 : OFn Tryz.prog G0 42 [txD t l.length nilSD H, iv (begP l H i)] [] 0 (bv true) [] := begins_beg R l.length nilSD H (by omega) i (by omega)
      have r6 := sAt_fn R l.length [] (by simp) (fun y hy => by cases hy) H (by omega) hok (begP l H i) (by omega) r5
      rw [hbe, lnD, show inlL [] = nilSD from rfl] at r6
      (repeat' (first | (with_reducible first | exact True.intro | refine vD ?_ | refine vG ?_ | refine vE ?_) | with_reducible refine vC (r3) ?_ | with_reducible refine vC (r4) ?_ | with_reducible refine vC (r6) ?_ | with_reducible refine vC (five_run) ?_ | with_reducible refine DoneW.out ?_ | refine vR ?_ | refine v6 ?_ | with_reducible refine vN ?_ | ((with_reducible first | refine vB (fun h => ?_) (fun h => ?_) | refine vM (fun h => ?_) (fun h => ?_)) <;> (first | (exfalso; omega) | skip))))
      refine AgW.go (i + 1) [5, 6, 8] (by exact vT) ?_ ?_
      · show l.length + 1 - (i + 1) < l.length + 1 - i
        omega
      · show i + 1 ≤ l.length + 1
        omega
    · (repeat' (first | (with_reducible first | exact True.intro | refine vD ?_ | refine vG ?_ | refine vE ?_) | with_reducible refine vC (five_run) ?_ | with_reducible refine DoneW.out ?_ | refine vR ?_ | refine v6 ?_ | with_reducible refine vN ?_ | ((with_reducible first | refine vB (fun h => ?_) (fun h => ?_) | refine vM (fun h => ?_) (fun h => ?_)) <;> (first | (exfalso; omega) | skip))))
end
end Go.Proofs.YthnooilghadjkaaGreatDoor
namespace Go.Proofs.YthnooilghadjkaaGreatDoor
open Go Go.ChangeShapes Go.WideShapes Go.ChangeAt Go.RowKit Go.Joins
set_option maxRecDepth 100000 in
theorem windowAll_lifted (os : Os) (started : os.Started) (H : Type) (enc : TypeId × Value → H) :
    ReturnsInHanded {} Tryz.checked os 8 .any (fun w args => (Rows.windowAllSpec.pre enc Tryz.prog Tryz.f8 Rows.windowAllRow.domain false w args ∧ laidMetH Tryz.prog Rows.windowAllRow.laid w) ∧ sizedMet enc Tryz.prog Tryz.f8 (OpenSpec.ofChange Rows.windowAllSpec) false w args) (Rows.windowAllSpec.post enc Tryz.prog Tryz.f8 false true false false) := by
  refine returnsInHanded_of_change_and (C := Tryz.checked) (X := fun w _ => laidMetH Tryz.prog Rows.windowAllRow.laid w) (fun _ _ _ hh h => h.of_heap hh) Tryz.own started (by kernel_rfl) Tryz.func8
    (ChangeSpec.witness_shaped (enc := enc) (C := Tryz.checked) (os := os) (X := fun w _ => laidMetH Tryz.prog Rows.windowAllRow.laid w) false (World.doorLaid Tryz.prog 60 os) #[.string ⟨#[]⟩, .slice none 0 0] 8 rfl (World.shaped_of_RefB (by kernel_rfl) (by kernel_rfl)) (by kernel_rfl) (by kernel_rfl) (by kernel_rfl)
      (laidMetH_of_parts3 (fuel := 8) (laidMet_of_run' 8 (by kernel_rfl) (by kernel_rfl)) (by kernel_rfl) (by kernel_rfl))) ?_
  intro W base args ds gs before hval0 hW _ _ hL _
  have hval : ∀ (j : Nat) t v, Tryz.f8.params[j]? = some t → args[j]? = some v → Value.okWide Tryz.prog W .any base t v := hval0
  obtain ⟨p, q, hA0, hV, hpq, hfz, hnd⟩ := id hW
  have hA : DataW.TrodAll enc Tryz.prog W 0 (fun _ => true) true Tryz.f8.params.toList args.toList ds p := hA0
  obtain ⟨hgs, hq⟩ := trodVars_none hV
  have hlen := trod_len hA
  rw [Tryz.params8] at hA hval hlen
  subst hgs
  have hsp : Rows.windowAllSpec.fn H (ds ++ []) = { results := [.lit (.bool true)], args := ds } := by
    rw [List.append_nil]
    simp only [List.length_cons, List.length_nil] at hlen
    first
      | (obtain ⟨d0, rfl⟩ := List.length_eq_one_iff.1 hlen; rfl)
      | (match ds, hlen with | [d0, d1], _ => rfl)
      | (match ds, hlen with | [d0, d1, d2], _ => rfl)
      | (match ds, hlen with | [d0, d1, d2, d3], _ => rfl)
      | (match ds, hlen with | [d0, d1, d2, d3, d4], _ => rfl)
  refine law_calls (P := Tryz.prog) Tryz.laidOut (by kernel_rfl) rfl rfl Tryz.underlying4 hW hsp (law_open (G := G0) (ls := [[.str], [.sl 2 true [.int .i64, .int .i64]]]) (d := 20) (gok1 hL) (by kernel_rfl) (fun j t v h k => hval j t v (by simpa using h) (by simpa using k)) hA ?_)
  intro dss h
  obtain ⟨a, b, rfl, ha, hb⟩ := ofAll2 h
  obtain ⟨x, rfl, hx⟩ := ofCs1 ha
  obtain ⟨y, rfl, hy⟩ := ofCs1 hb
  obtain ⟨s, rfl, _⟩ := ofC_str hx
  obtain ⟨H, rfl⟩ := ofC_spans hy
  simp only [argsD, argD, st_spans, st_str, mkEl]
  by_cases hs : 200 < s.size ∨ 60 < H.length
  · exact lawWindowAll_big s H hs
  · exact lawWindowAll_fn s H (by omega) (by omega)
set_option maxRecDepth 100000
theorem windowAll_q0 : (Rows.windowAllRow.wf (OpenSpec.ofChange Rows.windowAllSpec)) = true := by kernel_rfl
theorem windowAll_q3 : (Tryz.f8.params.all (Tryz.pinned.checked.prog.readableRec ·)) = true := by kernel_rfl
theorem windowAll_q4 : (namedTie Tryz.pinned.checked.prog Rows.windowAllRow.named Rows.windowAllSpec.vars) = true := by kernel_rfl
theorem windowAll_q5 : ((Rows.windowAllRow.stops == [])) = true := by kernel_rfl
theorem windowAll_q7 : ((Rows.windowAllRow.knobs == [])) = true := by kernel_rfl
theorem windowAll_q9 : ((Rows.windowAllRow.inPlace == Tryz.pinned.checked.prog.inPlace 8)) = true := by kernel_rfl
theorem windowAll_q10 : ((Rows.windowAllRow.unfollowed == Tryz.pinned.checked.prog.unfollowed 8)) = true := by kernel_rfl
theorem windowAll_q11 : ((Rows.windowAllRow.recurses == Tryz.pinned.checked.prog.recurses 8)) = true := by kernel_rfl
theorem windowAll_q12 : ((Rows.windowAllRow.named == Tryz.pinned.checked.prog.varsNamed 8)) = true := by kernel_rfl
theorem windowAll_q13 : ((Rows.windowAllRow.maps == (Tryz.f8.params.toList ++ Rows.windowAllSpec.plain.varTypes Tryz.pinned.checked.prog).any (Tryz.pinned.checked.prog.mapsRec ·))) = true := by kernel_rfl
theorem windowAll_q14 : ((Rows.windowAllRow.ifaces == (Tryz.f8.params.toList ++ Rows.windowAllSpec.plain.varTypes Tryz.pinned.checked.prog).any (Tryz.pinned.checked.prog.ifacesRec ·))) = true := by kernel_rfl
theorem windowAll_q15 : ((Rows.windowAllRow.mapsOut == Tryz.pinned.checked.prog.mapsAmong Tryz.f8.resultTypes.toList)) = true := by kernel_rfl
theorem windowAll_q16 : ((Rows.windowAllRow.loops == (Tryz.f8.params.toList ++ Rows.windowAllSpec.plain.varTypes Tryz.pinned.checked.prog).any (Tryz.pinned.checked.prog.loopsFrom ·))) = true := by kernel_rfl
theorem windowAll_q17 : ((Rows.windowAllRow.wideKeys == (Tryz.f8.params.toList ++ Rows.windowAllSpec.plain.varTypes Tryz.pinned.checked.prog ++ Tryz.f8.resultTypes.toList).any (Tryz.pinned.checked.prog.wideKeysFrom ·))) = true := by kernel_rfl
theorem windowAll_q18 : (Rows.windowAllSpec.vars.all (Tryz.pinned.checked.prog.varReadable ·)) = true := by kernel_rfl
theorem windowAll_q19 : (Tryz.f8.resultTypes.all (fun t => Tryz.pinned.checked.prog.readableRec t && decide (t < Tryz.pinned.checked.prog.types.size))) = true := by kernel_rfl
theorem windowAll_q20 : ((Rows.windowAllRow.ifacesOut == Tryz.f8.resultTypes.toList.any (Tryz.pinned.checked.prog.ifacesRec ·))) = true := by kernel_rfl
theorem windowAll_q21 : ((Rows.windowAllRow.loopsOut == Tryz.f8.resultTypes.toList.any (Tryz.pinned.checked.prog.loopsFrom ·))) = true := by kernel_rfl
theorem windowAll_q22 : ((Rows.windowAllRow.plainKeys == Tryz.pinned.checked.prog.plainKeys)) = true := by kernel_rfl
theorem windowAll_q23 : (Rows.windowAllRow.shortTexts.isNone) = true := by kernel_rfl
theorem windowAll_q26 : ((Rows.windowAllRow.lifted == Tryz.pinned.checked.prog.liftsFinal)) = true := by kernel_rfl
theorem windowAll_q27 : ((Tryz.pinned.checked.prog.make == some Rows.windowAllRow.make)) = true := by kernel_rfl
theorem windowAll_q28 : ((Rows.windowAllRow.kinds == (if Rows.windowAllRow.domain.isEmpty then [] else Tryz.f8.params.toList.map fun t => match Tryz.pinned.checked.prog.underlying t with | some (.int k) => some k | _ => none))) = true := by kernel_rfl
theorem windowAll_q29 : ((Rows.windowAllRow.pinned == Rows.windowAllRow.pinnedBy)) = true := by kernel_rfl
theorem windowAll_q30 : ((Rows.windowAllRow.veiled == (Tryz.f8.params.toList ++ Rows.windowAllSpec.plain.varTypes Tryz.pinned.checked.prog ++ Tryz.f8.resultTypes.toList).any (Tryz.pinned.checked.prog.veiledRec ·))) = true := by kernel_rfl
theorem windowAll_q31 : (Rows.windowAllRow.veiledFits Tryz.pinned.checked.prog Tryz.f8.params.toList (Tryz.f8.params.toList ++ Rows.windowAllSpec.plain.varTypes Tryz.pinned.checked.prog ++ Tryz.f8.resultTypes.toList)) = true := by kernel_rfl
theorem windowAll_closed : joinedFacts Tryz.pinned.checked.prog 8 Tryz.f8 Rows.windowAllSpec Rows.windowAllRow = true := by
  delta joinedFacts
  exact (and2 (and2 (and2 (and2 (and2 (and2 (and2 (and2 (and2 (and2 (and2 (and2 (and2 (and2 (and2 (and2 (and2 (and2 (and2 (and2 (and2 (and2 (and2 (and2 (and2 (and2 (and2 (and2 (and2 (and2 (and2 windowAll_q0 prog_q1) prog_q2) windowAll_q3) windowAll_q4) windowAll_q5) prog_q6) windowAll_q7) prog_q8) windowAll_q9) windowAll_q10) windowAll_q11) windowAll_q12) windowAll_q13) windowAll_q14) windowAll_q15) windowAll_q16) windowAll_q17) windowAll_q18) windowAll_q19) windowAll_q20) windowAll_q21) windowAll_q22) windowAll_q23) prog_q24) prog_q25) windowAll_q26) windowAll_q27) windowAll_q28) windowAll_q29) windowAll_q30) windowAll_q31)
theorem windowAll_holds : Rows.WindowAllSaid :=
  OpenClaim.holds_of_wide 8 Tryz.f8 rfl rfl rfl rfl rfl rfl rfl ⟨rfl, rfl, rfl, rfl, rfl⟩ rfl rfl rfl rfl rfl (by kernel_rfl) Tryz.func8 windowAll_closed
    (of_decide_eq_true (by kernel_rfl)) (by unfold Func.isWrapper; rw [if_neg (of_decide_eq_false (by kernel_rfl))]; exact ⟨rfl, rfl⟩)
    (fun os started H enc _ => windowAll_lifted os started H enc)
theorem windowAll_wf : Rows.windowAllRow.wfByText (.ofChange Rows.windowAllSpec) = true := by kernel_rfl
theorem windowAll_goes : false = Rows.windowAllRow.goesBy Tryz.pinned.checked.prog := by kernel_rfl
theorem windowAll_card : Rows.WindowAllCardSaid :=
  Claim7.holds_tied_plain_at .later [] [.data] true (true, "ac1fb0ac875ac1d728ef5d6e4c36be33aeccdd79168370d7843b5f56dd3e11c7") true
    windowAll_holds (fun _ h => by cases h) windowAll_wf (fun _ h => by cases h) windowAll_row_tie rfl ⟨rfl, rfl⟩ prog_main rfl
    (fun f fn hf hfn => by
      obtain rfl : f = 8 := Option.some.inj ((show Tryz.prog.funcNamed "bodkin/bodkinlaw27.WindowAll" = some 8 by kernel_rfl).symm.trans hf) |>.symm
      obtain rfl : fn = Tryz.f8 := (Option.some.inj (Tryz.func8.symm.trans hfn)).symm
      exact ⟨prog_looks, fun j t ht => by
        have hall : (Tryz.f8.params.toList.all fun u => !Tryz.prog.wantsStandIn u) = true := by kernel_rfl
        have hm : t ∈ Tryz.f8.params.toList := by simpa using Array.mem_of_getElem? ht
        have hz := List.all_eq_true.1 hall t hm
        show Tryz.prog.wantsStandIn t = false
        simpa using hz⟩)
    windowAll_goes
#print axioms windowAll_card
end Go.Proofs.YthnooilghadjkaaGreatDoor
