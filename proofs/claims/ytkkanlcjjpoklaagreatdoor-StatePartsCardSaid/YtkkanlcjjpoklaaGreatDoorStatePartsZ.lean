/- StateParts: which parts are refused: sets for another number of runes, a tab, a width that may not be. The small case that the statement asks holds. No condition. -/
import Derived.Test.YtkkanlcjjpoklaaGreatDoorCards
import Derived.Test.YtkkanlcjjpoklaaGreatDoorTie
import Derived.SevenTiedAt
import Derived.LaidMore
import Derived.Test.YtkkanlcjjpoklaaGreatDoorSpTPBS
import Derived.Test.YtkkanlcjjpoklaaGreatDoorSpTPBT
import Derived.Test.YtkkanlcjjpoklaaGreatDoorSpTPBV
set_option linter.unusedSimpArgs false
namespace Go.Proofs.YtkkanlcjjpoklaaGreatDoor
open Go Go.ChangeShapes Go.WideShapes Go.ChangeAt Go.RowKit Go.Joins
theorem J1 : dH Tryz.prog 60 = true := by kernel_rfl
set_option maxRecDepth 100000 in
theorem kP (os : Os) (started : os.Started) (H : Type) (enc : TypeId × Value → H) :
    ReturnsInHanded {} Tryz.checked os 5 .any (fun w args => (Rows.statePartsSpec.pre enc Tryz.prog Tryz.f5 Rows.statePartsRow.domain false w args ∧ laidMetH Tryz.prog Rows.statePartsRow.laid w) ∧ sizedMet enc Tryz.prog Tryz.f5 (OpenSpec.ofChange Rows.statePartsSpec) false w args) (Rows.statePartsSpec.post enc Tryz.prog Tryz.f5 false true false false) := by
  refine returnsInHanded_of_change_and (C := Tryz.checked) (X := fun w _ => laidMetH Tryz.prog Rows.statePartsRow.laid w) (fun _ _ _ hh h => h.of_heap hh) Tryz.own started (by kernel_rfl) Tryz.func5
    (ChangeSpec.witness_shaped (enc := enc) (C := Tryz.checked) (os := os) (X := fun w _ => laidMetH Tryz.prog Rows.statePartsRow.laid w) false (World.doorLaid Tryz.prog 60 os) #[.agg #[.string ⟨#[]⟩, .slice none 0 0, .slice none 0 0, .int .i64 0, .int .i64 0], .agg #[.int .i64 0, .int .i64 0]] 8 rfl (World.shaped_of_RefB (by kernel_rfl) (by kernel_rfl)) (by kernel_rfl) (by kernel_rfl) (by kernel_rfl)
      (laidMetH_of_parts3 (fuel := 8) (laidMet_of_run' 8 (by kernel_rfl) (by kernel_rfl)) (by kernel_rfl) (by kernel_rfl))) ?_
  intro W base args ds gs before hval0 hW _ _ hL _
  have hval : ∀ (j : Nat) t v, Tryz.f5.params[j]? = some t → args[j]? = some v → Value.okWide Tryz.prog W .any base t v := hval0
  obtain ⟨p, q, hA0, hV, hpq, hfz, hnd⟩ := id hW
  have hA : DataW.TrodAll enc Tryz.prog W 0 (fun _ => true) true Tryz.f5.params.toList args.toList ds p := hA0
  obtain ⟨hgs, hq⟩ := trodVars_none hV
  have hlen := wX hA
  rw [Tryz.params5] at hA hval hlen
  subst hgs
  have hsp : Rows.statePartsSpec.fn H (ds ++ []) = { results := [.lit (.bool true)], args := ds } := by
    rw [List.append_nil]
    simp only [List.length_cons, List.length_nil] at hlen
    first
      | (obtain ⟨d0, rfl⟩ := List.length_eq_one_iff.1 hlen; rfl)
      | (match ds, hlen with | [d0, d1], _ => rfl)
      | (match ds, hlen with | [d0, d1, d2], _ => rfl)
      | (match ds, hlen with | [d0, d1, d2, d3], _ => rfl)
      | (match ds, hlen with | [d0, d1, d2, d3, d4], _ => rfl)
  refine Bi (P := Tryz.prog) Tryz.laidOut (by kernel_rfl) rfl rfl Tryz.underlying4 hW hsp (DH (G := G0) (ls := [[.str, .sl 5 true [.int .i64, .int .i64, .int .i64, .int .i64, .str], .sl 2 true [.int .i64, .int .i64], .int .i64, .int .i64], [.int .i64, .int .i64]]) (d := 20) (Ni hL) (by kernel_rfl) (fun j t v h k => hval j t v (by simpa using h) (by simpa using k)) hA ?_)
  intro dss h
  obtain ⟨a, b, rfl, ha, hb⟩ := Js h
  obtain ⟨s, L, F, tab, wd, rfl⟩ := Lc ha
  obtain ⟨x, y, rfl, hx, hy⟩ := zM hb
  obtain ⟨q0, rfl⟩ := dB hx
  obtain ⟨q1, rfl⟩ := dB hy
  simp only [qL, sB, J0, J1, mX]
  exact va s _ _ tab wd q0 q1 Cb
set_option maxRecDepth 100000
theorem qv : (Rows.statePartsRow.wf (OpenSpec.ofChange Rows.statePartsSpec)) = true := by kernel_rfl
theorem qw : (Tryz.f5.params.all (Tryz.pinned.checked.prog.readableRec ·)) = true := by kernel_rfl
theorem qx : (namedTie Tryz.pinned.checked.prog Rows.statePartsRow.named Rows.statePartsSpec.vars) = true := by kernel_rfl
theorem qy : ((Rows.statePartsRow.stops == [])) = true := by kernel_rfl
theorem qz : ((Rows.statePartsRow.knobs == [])) = true := by kernel_rfl
theorem qA : ((Rows.statePartsRow.inPlace == Tryz.pinned.checked.prog.inPlace 5)) = true := by kernel_rfl
theorem pn : ((Rows.statePartsRow.unfollowed == Tryz.pinned.checked.prog.unfollowed 5)) = true := by kernel_rfl
theorem pp : ((Rows.statePartsRow.recurses == Tryz.pinned.checked.prog.recurses 5)) = true := by kernel_rfl
theorem pq : ((Rows.statePartsRow.named == Tryz.pinned.checked.prog.varsNamed 5)) = true := by kernel_rfl
theorem pu : ((Rows.statePartsRow.maps == (Tryz.f5.params.toList ++ Rows.statePartsSpec.plain.varTypes Tryz.pinned.checked.prog).any (Tryz.pinned.checked.prog.mapsRec ·))) = true := by kernel_rfl
theorem pw : ((Rows.statePartsRow.ifaces == (Tryz.f5.params.toList ++ Rows.statePartsSpec.plain.varTypes Tryz.pinned.checked.prog).any (Tryz.pinned.checked.prog.ifacesRec ·))) = true := by kernel_rfl
theorem px : ((Rows.statePartsRow.mapsOut == Tryz.pinned.checked.prog.mapsAmong Tryz.f5.resultTypes.toList)) = true := by kernel_rfl
theorem py : ((Rows.statePartsRow.loops == (Tryz.f5.params.toList ++ Rows.statePartsSpec.plain.varTypes Tryz.pinned.checked.prog).any (Tryz.pinned.checked.prog.loopsFrom ·))) = true := by kernel_rfl
theorem pA : ((Rows.statePartsRow.wideKeys == (Tryz.f5.params.toList ++ Rows.statePartsSpec.plain.varTypes Tryz.pinned.checked.prog ++ Tryz.f5.resultTypes.toList).any (Tryz.pinned.checked.prog.wideKeysFrom ·))) = true := by kernel_rfl
theorem pB : (Rows.statePartsSpec.vars.all (Tryz.pinned.checked.prog.varReadable ·)) = true := by kernel_rfl
theorem pC : (Tryz.f5.resultTypes.all (fun t => Tryz.pinned.checked.prog.readableRec t && decide (t < Tryz.pinned.checked.prog.types.size))) = true := by kernel_rfl
theorem pD : ((Rows.statePartsRow.ifacesOut == Tryz.f5.resultTypes.toList.any (Tryz.pinned.checked.prog.ifacesRec ·))) = true := by kernel_rfl
theorem pE : ((Rows.statePartsRow.loopsOut == Tryz.f5.resultTypes.toList.any (Tryz.pinned.checked.prog.loopsFrom ·))) = true := by kernel_rfl
theorem pF : ((Rows.statePartsRow.plainKeys == Tryz.pinned.checked.prog.plainKeys)) = true := by kernel_rfl
theorem pG : (Rows.statePartsRow.shortTexts.isNone) = true := by kernel_rfl
theorem pH : ((Rows.statePartsRow.lifted == Tryz.pinned.checked.prog.liftsFinal)) = true := by kernel_rfl
theorem pI : ((Tryz.pinned.checked.prog.make == some Rows.statePartsRow.make)) = true := by kernel_rfl
theorem pJ : ((Rows.statePartsRow.kinds == (if Rows.statePartsRow.domain.isEmpty then [] else Tryz.f5.params.toList.map fun t => match Tryz.pinned.checked.prog.underlying t with | some (.int k) => some k | _ => none))) = true := by kernel_rfl
theorem pK : ((Rows.statePartsRow.pinned == Rows.statePartsRow.pinnedBy)) = true := by kernel_rfl
theorem pL : ((Rows.statePartsRow.veiled == (Tryz.f5.params.toList ++ Rows.statePartsSpec.plain.varTypes Tryz.pinned.checked.prog ++ Tryz.f5.resultTypes.toList).any (Tryz.pinned.checked.prog.veiledRec ·))) = true := by kernel_rfl
theorem pM : (Rows.statePartsRow.veiledFits Tryz.pinned.checked.prog Tryz.f5.params.toList (Tryz.f5.params.toList ++ Rows.statePartsSpec.plain.varTypes Tryz.pinned.checked.prog ++ Tryz.f5.resultTypes.toList)) = true := by kernel_rfl
theorem kO : joinedFacts Tryz.pinned.checked.prog 5 Tryz.f5 Rows.statePartsSpec Rows.statePartsRow = true := by
  delta joinedFacts
  exact (cL (cL (cL (cL (cL (cL (cL (cL (cL (cL (cL (cL (cL (cL (cL (cL (cL (cL (cL (cL (cL (cL (cL (cL (cL (cL (cL (cL (cL (cL (cL qv GP) GQ) qw) qx) qy) GR) qz) GS) qA) pn) pp) pq) pu) pw) px) py) pA) pB) pC) pD) pE) pF) pG) D8) D9) pH) pI) pJ) pK) pL) pM)
theorem lU : Rows.StatePartsSaid :=
  OpenClaim.holds_of_wide 5 Tryz.f5 rfl rfl rfl rfl rfl rfl rfl ⟨rfl, rfl, rfl, rfl, rfl⟩ rfl rfl rfl rfl rfl (by kernel_rfl) Tryz.func5 kO
    (of_decide_eq_true (by kernel_rfl)) (by unfold Func.isWrapper; rw [if_neg (of_decide_eq_false (by kernel_rfl))]; exact ⟨rfl, rfl⟩)
    (fun os started H enc _ => kP os started H enc)
theorem qB : Rows.statePartsRow.wfByText (.ofChange Rows.statePartsSpec) = true := by kernel_rfl
theorem m7 : false = Rows.statePartsRow.goesBy Tryz.pinned.checked.prog := by kernel_rfl
theorem stateParts_card : Rows.StatePartsCardSaid :=
  Claim7.holds_tied_plain_at .later [] [.data, .data, .data] true (true, "38f1c5b772000730f811cc55395145d5b5ed6c6db77504d5e394fd30e1cb5661") true
    lU (fun _ h => by cases h) qB (fun _ h => by cases h) stateParts_row_tie rfl ⟨rfl, rfl⟩ BL rfl
    (fun f fn hf hfn => by
      obtain rfl : f = 5 := Option.some.inj ((show Tryz.prog.funcNamed "bodkin/bodkinlaw28.StateParts" = some 5 by kernel_rfl).symm.trans hf) |>.symm
      obtain rfl : fn = Tryz.f5 := (Option.some.inj (Tryz.func5.symm.trans hfn)).symm
      exact ⟨yz, fun j t ht => by
        have hall : (Tryz.f5.params.toList.all fun u => !Tryz.prog.wantsStandIn u) = true := by kernel_rfl
        have hm : t ∈ Tryz.f5.params.toList := by simpa using Array.mem_of_getElem? ht
        have hz := List.all_eq_true.1 hall t hm
        show Tryz.prog.wantsStandIn t = false
        simpa using hz⟩)
    m7
#print axioms stateParts_card
end Go.Proofs.YtkkanlcjjpoklaaGreatDoor
