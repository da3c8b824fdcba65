/- SelectsTypes: what was typed stands ahead of each cursor; the edits of any set, the set behind them, what each selection is of. The small case that the statement asks holds. No condition. -/
import Derived.Test.YtkhonlnajdfhfaaDoorCards
import Derived.Test.YtkhonlnajdfhfaaDoorTie
import Derived.SevenTiedAt
import Derived.LaidMore
import Derived.Test.YtkhonlnajdfhfaaDoorStTPAT
import Derived.Test.YtkhonlnajdfhfaaDoorStTPAU
set_option linter.unusedSimpArgs false
namespace Go.Proofs.YtkhonlnajdfhfaaDoor
open Go Go.ChangeShapes Go.WideShapes Go.ChangeAt Go.RowKit Go.Joins
theorem Bl : dB Tryd.prog 9 = false := by kernel_rfl
theorem zF : dB Tryd.prog 22 = false := by kernel_rfl
theorem wX {x : D} (hx : ku (.sl 2 true [.int .i64, .int .i64]) x) : ∃ l : List Se, x = .sd 2 false (l.map lW) ∧ l.length ≤ maxLen := by
  obtain ⟨es, rfl, hl, g⟩ := A2 hx
  obtain ⟨is, rfl⟩ : ∃ l : List Se, es = l.map lW := yX lW fun y hy => by
    obtain ⟨ds, rfl, hd⟩ := g y hy
    obtain ⟨p1, p2, rfl, u1, u2⟩ := Cb hd
    obtain ⟨m1, rfl⟩ := sJ u1
    obtain ⟨m2, rfl⟩ := sJ u2
    exact ⟨(m1, m2), rfl⟩
  exact ⟨is, rfl, by simpa using hl⟩
set_option maxRecDepth 100000 in
theorem gk (os : Os) (started : os.Started) (H : Type) (enc : TypeId × Value → H) :
    ReturnsInHanded {} Tryd.checked os 3 .any (fun w args => (Rows.selectsTypesSpec.pre enc Tryd.prog Tryd.f3 Rows.selectsTypesRow.domain false w args ∧ laidMetH Tryd.prog Rows.selectsTypesRow.laid w) ∧ sizedMet enc Tryd.prog Tryd.f3 (OpenSpec.ofChange Rows.selectsTypesSpec) false w args) (Rows.selectsTypesSpec.post enc Tryd.prog Tryd.f3 false true false false) := by
  refine returnsInHanded_of_change_and (C := Tryd.checked) (X := fun w _ => laidMetH Tryd.prog Rows.selectsTypesRow.laid w) (fun _ _ _ hh h => h.of_heap hh) Tryd.own started (by kernel_rfl) Tryd.func3
    (ChangeSpec.witness_shaped (enc := enc) (C := Tryd.checked) (os := os) (X := fun w _ => laidMetH Tryd.prog Rows.selectsTypesRow.laid w) false (World.doorLaid Tryd.prog 60 os) #[.string .empty, .slice none 0 0, .string .empty] 8 rfl (World.shaped_of_RefB (by kernel_rfl) (by kernel_rfl)) (by kernel_rfl) (by kernel_rfl) (by kernel_rfl)
      (laidMetH_of_parts3 (fuel := 8) (laidMet_of_run' 8 (by kernel_rfl) (by kernel_rfl)) (by kernel_rfl) (by kernel_rfl))) ?_
  intro W base args ds gs before hval0 hW _ _ hL _
  have hval : ∀ (j : Nat) t v, Tryd.f3.params[j]? = some t → args[j]? = some v → Value.okWide Tryd.prog W .any base t v := hval0
  obtain ⟨p, q, hA0, hV, hpq, hfz, hnd⟩ := id hW
  have hA : DataW.TrodAll enc Tryd.prog W 0 (fun _ => true) true Tryd.f3.params.toList args.toList ds p := hA0
  obtain ⟨hgs, hq⟩ := trodVars_none hV
  have hlen := qb hA
  rw [Tryd.params3] at hA hval hlen
  subst hgs
  have hsp : Rows.selectsTypesSpec.fn H (ds ++ []) = { results := [.lit (.bool true)], args := ds } := by
    rw [List.append_nil]
    simp only [List.length_cons, List.length_nil] at hlen
    first
      | (obtain ⟨d0, rfl⟩ := List.length_eq_one_iff.1 hlen; rfl)
      | (match ds, hlen with | [d0, d1], _ => rfl)
      | (match ds, hlen with | [d0, d1, d2], _ => rfl)
      | (match ds, hlen with | [d0, d1, d2, d3], _ => rfl)
      | (match ds, hlen with | [d0, d1, d2, d3, d4], _ => rfl)
  refine ua (P := Tryd.prog) Tryd.laidOut (by kernel_rfl) rfl rfl Tryd.underlying4 hW hsp (wJ (G := G0) (ls := [[.str], [.sl 2 true [.int .i64, .int .i64]], [.str]]) (d := 20) (DD hL) (by kernel_rfl) (fun j t v h k => hval j t v (by simpa using h) (by simpa using k)) hA ?_)
  intro dss h
  obtain ⟨a, r, rfl, ha, hr⟩ := gH h
  obtain ⟨b, c, rfl, hb, hc⟩ := A1 hr
  obtain ⟨x, rfl, hx⟩ := sL ha
  obtain ⟨s, rfl, hs⟩ := sK hx
  obtain ⟨y, rfl, hy⟩ := sL hb
  obtain ⟨l, rfl, hl⟩ := wX hy
  obtain ⟨z, rfl, hz⟩ := sL hc
  obtain ⟨m, rfl, hm⟩ := sK hz
  simp only [mC, qx, Bl, zF, lB]
  exact pb s m l hs hl hm
set_option maxRecDepth 100000
theorem kb : (Rows.selectsTypesRow.wf (OpenSpec.ofChange Rows.selectsTypesSpec)) = true := by kernel_rfl
theorem ke : (Tryd.f3.params.all (Tryd.pinned.checked.prog.readableRec ·)) = true := by kernel_rfl
theorem kf : (namedTie Tryd.pinned.checked.prog Rows.selectsTypesRow.named Rows.selectsTypesSpec.vars) = true := by kernel_rfl
theorem kg : ((Rows.selectsTypesRow.stops == [])) = true := by kernel_rfl
theorem kh : ((Rows.selectsTypesRow.knobs == [])) = true := by kernel_rfl
theorem ki : ((Rows.selectsTypesRow.inPlace == Tryd.pinned.checked.prog.inPlace 3)) = true := by kernel_rfl
theorem jj : ((Rows.selectsTypesRow.unfollowed == Tryd.pinned.checked.prog.unfollowed 3)) = true := by kernel_rfl
theorem jk : ((Rows.selectsTypesRow.recurses == Tryd.pinned.checked.prog.recurses 3)) = true := by kernel_rfl
theorem jl : ((Rows.selectsTypesRow.named == Tryd.pinned.checked.prog.varsNamed 3)) = true := by kernel_rfl
theorem jm : ((Rows.selectsTypesRow.maps == (Tryd.f3.params.toList ++ Rows.selectsTypesSpec.plain.varTypes Tryd.pinned.checked.prog).any (Tryd.pinned.checked.prog.mapsRec ·))) = true := by kernel_rfl
theorem jn : ((Rows.selectsTypesRow.ifaces == (Tryd.f3.params.toList ++ Rows.selectsTypesSpec.plain.varTypes Tryd.pinned.checked.prog).any (Tryd.pinned.checked.prog.ifacesRec ·))) = true := by kernel_rfl
theorem jo : ((Rows.selectsTypesRow.mapsOut == Tryd.pinned.checked.prog.mapsAmong Tryd.f3.resultTypes.toList)) = true := by kernel_rfl
theorem jp : ((Rows.selectsTypesRow.loops == (Tryd.f3.params.toList ++ Rows.selectsTypesSpec.plain.varTypes Tryd.pinned.checked.prog).any (Tryd.pinned.checked.prog.loopsFrom ·))) = true := by kernel_rfl
theorem jq : ((Rows.selectsTypesRow.wideKeys == (Tryd.f3.params.toList ++ Rows.selectsTypesSpec.plain.varTypes Tryd.pinned.checked.prog ++ Tryd.f3.resultTypes.toList).any (Tryd.pinned.checked.prog.wideKeysFrom ·))) = true := by kernel_rfl
theorem jr : (Rows.selectsTypesSpec.vars.all (Tryd.pinned.checked.prog.varReadable ·)) = true := by kernel_rfl
theorem js : (Tryd.f3.resultTypes.all (fun t => Tryd.pinned.checked.prog.readableRec t && decide (t < Tryd.pinned.checked.prog.types.size))) = true := by kernel_rfl
theorem jt : ((Rows.selectsTypesRow.ifacesOut == Tryd.f3.resultTypes.toList.any (Tryd.pinned.checked.prog.ifacesRec ·))) = true := by kernel_rfl
theorem ju : ((Rows.selectsTypesRow.loopsOut == Tryd.f3.resultTypes.toList.any (Tryd.pinned.checked.prog.loopsFrom ·))) = true := by kernel_rfl
theorem jv : ((Rows.selectsTypesRow.plainKeys == Tryd.pinned.checked.prog.plainKeys)) = true := by kernel_rfl
theorem jw : (Rows.selectsTypesRow.shortTexts.isNone) = true := by kernel_rfl
theorem jx : ((Rows.selectsTypesRow.lifted == Tryd.pinned.checked.prog.liftsFinal)) = true := by kernel_rfl
theorem jy : ((Tryd.pinned.checked.prog.make == some Rows.selectsTypesRow.make)) = true := by kernel_rfl
theorem jz : ((Rows.selectsTypesRow.kinds == (if Rows.selectsTypesRow.domain.isEmpty then [] else Tryd.f3.params.toList.map fun t => match Tryd.pinned.checked.prog.underlying t with | some (.int k) => some k | _ => none))) = true := by kernel_rfl
theorem jA : ((Rows.selectsTypesRow.pinned == Rows.selectsTypesRow.pinnedBy)) = true := by kernel_rfl
theorem jB : ((Rows.selectsTypesRow.veiled == (Tryd.f3.params.toList ++ Rows.selectsTypesSpec.plain.varTypes Tryd.pinned.checked.prog ++ Tryd.f3.resultTypes.toList).any (Tryd.pinned.checked.prog.veiledRec ·))) = true := by kernel_rfl
theorem jC : (Rows.selectsTypesRow.veiledFits Tryd.pinned.checked.prog Tryd.f3.params.toList (Tryd.f3.params.toList ++ Rows.selectsTypesSpec.plain.varTypes Tryd.pinned.checked.prog ++ Tryd.f3.resultTypes.toList)) = true := by kernel_rfl
theorem gj : joinedFacts Tryd.pinned.checked.prog 3 Tryd.f3 Rows.selectsTypesSpec Rows.selectsTypesRow = true := by
  delta joinedFacts
  exact (ct (ct (ct (ct (ct (ct (ct (ct (ct (ct (ct (ct (ct (ct (ct (ct (ct (ct (ct (ct (ct (ct (ct (ct (ct (ct (ct (ct (ct (ct (ct kb y8) y9) ke) kf) kg) za) kh) zb) ki) jj) jk) jl) jm) jn) jo) jp) jq) jr) js) jt) ju) jv) jw) xb) xc) jx) jy) jz) jA) jB) jC)
theorem gN : Rows.SelectsTypesSaid :=
  OpenClaim.holds_of_wide 3 Tryd.f3 rfl rfl rfl rfl rfl rfl rfl ⟨rfl, rfl, rfl, rfl, rfl⟩ rfl rfl rfl rfl rfl (by kernel_rfl) Tryd.func3 gj
    (of_decide_eq_true (by kernel_rfl)) (by unfold Func.isWrapper; rw [if_neg (of_decide_eq_false (by kernel_rfl))]; exact ⟨rfl, rfl⟩)
    (fun os started H enc _ => gk os started H enc)
theorem kj : Rows.selectsTypesRow.wfByText (.ofChange Rows.selectsTypesSpec) = true := by kernel_rfl
theorem iJ : false = Rows.selectsTypesRow.goesBy Tryd.pinned.checked.prog := by kernel_rfl
theorem selectsTypes_card : Rows.SelectsTypesCardSaid :=
  Claim7.holds_tied_plain_at .later [] [.data] true (true, "25caf9d165ea45525b4c813e9c7aa42e2cc86a2c090100479e98cdca257359bd") true
    gN (fun _ h => by cases h) kj (fun _ h => by cases h) selectsTypes_row_tie rfl ⟨rfl, rfl⟩ uE rfl
    (fun f fn hf hfn => by
      obtain rfl : f = 3 := Option.some.inj ((show Tryd.prog.funcNamed "bodkin/bodkinlaw38.SelectsTypes" = some 3 by kernel_rfl).symm.trans hf) |>.symm
      obtain rfl : fn = Tryd.f3 := (Option.some.inj (Tryd.func3.symm.trans hfn)).symm
      exact ⟨rz, fun j t ht => by
        have hall : (Tryd.f3.params.toList.all fun u => !Tryd.prog.wantsStandIn u) = true := by kernel_rfl
        have hm : t ∈ Tryd.f3.params.toList := by simpa using Array.mem_of_getElem? ht
        have hz := List.all_eq_true.1 hall t hm
        show Tryd.prog.wantsStandIn t = false
        simpa using hz⟩)
    iJ
#print axioms selectsTypes_card
end Go.Proofs.YtkhonlnajdfhfaaDoor
