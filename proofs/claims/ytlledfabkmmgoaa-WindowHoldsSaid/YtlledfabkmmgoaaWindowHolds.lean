/- The law WindowHolds returns true for every input: what was widened holds what it was, nothing hidden is on both sides of its ends, it fits as it did, widened again it is the same. No condition. -/
import Derived.Test.YtlledfabkmmgoaaRow
import Derived.Test.YtlledfabkmmgoaaOpen
import Derived.Test.YtlledfabkmmgoaaWin8
namespace Go.Proofs.Ytlledfabkmmgoaa
open Go.ChangeShapes Go.WideShapes Go.ChangeAt Go.RowKit Go.Joins

theorem cells_span : Try.prog.cellsOf 23 = 2 := by kernel_rfl
theorem cells_spans : Try.prog.cellsOf 31 = 1 := by kernel_rfl
theorem cells_turn : Try.prog.cellsOf 33 = 7 := by kernel_rfl

set_option maxRecDepth 100000 in
theorem windowHolds_lifted (os : Os) (started : os.Started) (H : Type) (enc : TypeId × Value → H) :
    ReturnsInHanded {} Try.checked os 5 .any (Rows.windowHoldsSpec.pre6 enc Try.prog Try.f5 Rows.windowHoldsRow.domain false) (Rows.windowHoldsSpec.post enc Try.prog Try.f5 false true false false) := by
  refine returnsInHanded_of_change (C := Try.checked) Try.own started (by kernel_rfl) Try.func5
    (ChangeSpec.witness6 (enc := enc) (C := Try.checked) false ⟨#[], #[.agg #[.int .i64 0, .int .i64 0, .int .i64 0, .int .i64 0, .int .i64 0, .slice none 0 0, .slice none 0 0]], []⟩ 8 (by kernel_rfl) (by kernel_rfl) (by kernel_rfl) (by kernel_rfl)) ?_
  intro W base args ds gs before hval0 hW _ _
  have hval : ∀ (j : Nat) t v, Try.f5.params[j]? = some t → args[j]? = some v → Value.okWide Try.prog W .any base t v := hval0
  obtain ⟨p, q, hA0, hV, hpq, hfz, hnd⟩ := id hW
  have hA : DataW.TrodAll enc Try.prog W 0 (fun _ => true) true Try.f5.params.toList args.toList ds p := hA0
  rw [Try.params5] at hA hval
  obtain ⟨hgs, hq⟩ := trodVars_none hV
  obtain ⟨v0, d0, hargs, hds, h0⟩ := trodAll_one hA
  have ha : args = #[v0] := hargs
  subst ha
  subst hds hgs
  obtain ⟨N, f, t, g, u, A, A', n, c, n', c', l, l', rfl, hn, hn', hl, hl', _, _, _⟩ := open_turn Try.underlying33 cells_turn rfl rfl rfl rfl rfl rfl rfl rfl rfl rfl Try.underlying31 cells_spans Try.underlying23 Try.underlying3 rfl rfl rfl rfl cells_span cells_int (hval 0 _ v0 rfl rfl) h0
  refine law_calls (P := Try.prog) Try.laidOut (by kernel_rfl) rfl rfl Try.underlying4 hW rfl (lawHolds_any N f t g u A A' n c n' c' l l' W hl hl' hn hn')

theorem windowHolds_holds : Rows.WindowHoldsSaid :=
  OpenClaim.holds_of_wide 5 Try.f5 rfl rfl rfl rfl rfl rfl rfl ⟨rfl, rfl, rfl, rfl, rfl⟩ rfl rfl rfl rfl rfl (by kernel_rfl) Try.func5 (by kernel_rfl)
    (of_decide_eq_true (by kernel_rfl)) (by unfold Func.isWrapper; rw [if_neg (of_decide_eq_false (by kernel_rfl))]; exact ⟨rfl, rfl⟩)
    (fun os started H enc _ => windowHolds_lifted os started H enc)

#print axioms windowHolds_holds
end Go.Proofs.Ytlledfabkmmgoaa
