/-
  No cell of these rows narrows 'for every input' (looked for: loops, veiled, ifaces, maps, wideKeys, modest, calm, conditions, laid).
  DERIVED. THE GIVEN ROWS OF THIS SEAT. 6 by the template 'for every input the law returns true; each argument reads behind the call as it read before'; 0 by the template 'total and deterministic' (their statements: YtlledfabkmmgoaaTotals.lean).
  GIVEN WITH THE SEED: the statements are not yours to turn. If you find one false, say at which input.
  Laid BY PROGRAM, IN A SANDBOX (cutbox-rows.mjs): the forced cells as the released guide's own fill.sh prints them over the translation 857999e6e020abd5… (all of the seat's roots in one cut). By AI agents, Wed Nov 11 2026. No macro, syntax, notation, axiom, sorry.
-/
import Derived.Test.YtlledfabkmmgoaaChecked
import GoSem.Claim
import GoSem.ClaimJoined
import GoSem.ClaimMapViews
import Derived.JoinedTies
import Derived.KernelRfl
namespace Go.Proofs.Ytlledfabkmmgoaa
/- THE CELL 'sum', in the pinned program and in every row, IS THE sha256 OF THE DUMP (.gsa) THAT YtlledfabkmmgoaaProg.lean LOADS. Nothing in Lean hashes anything: it is a label: what it is worth is what the hold of that sum in a sandbox is worth. -/
noncomputable def Try.pinned : Pinned := { name := "ytlledfabkmmgoaa", sum := "857999e6e020abd5a68972379012e82516efc4acfd0e961e2031c16290409af2", checked := Try.checked }
namespace Rows
def none {H : Type} : Left H := { results := [], args := [] }

/-- 'bodkinlaw27.WindowFits': WHATEVER THE INPUT: true; the input reads as it did. -/
def windowFitsSpec : ChangeSpec := { name := "windowFits", fn := fun _ => fun
  | [d1, d2, d3] => { results := [.lit (.bool true)], args := [d1, d2, d3] }
  | _ => none }
def windowFitsRow : OpenClaim := { program := "ytlledfabkmmgoaa", sum := "857999e6e020abd5a68972379012e82516efc4acfd0e961e2031c16290409af2", func := "bodkin/bodkinlaw27.WindowFits", spec := "windowFits", apart := false }
def WindowFitsSaid : Prop := windowFitsRow.holds Try.pinned (OpenSpec.ofChange windowFitsSpec)

/-- ITS FALSE NEIGHBOUR: 'it returns false'. Refute it at one input. -/
def windowFitsWrong : ChangeSpec := { name := "windowFits", fn := fun _ => fun
  | [d1, d2, d3] => { results := [.lit (.bool false)], args := [d1, d2, d3] }
  | _ => none }
def WindowFitsWrongFalsely : Prop := windowFitsRow.holds Try.pinned (OpenSpec.ofChange windowFitsWrong)

/-- 'bodkinlaw27.WindowWidens': WHATEVER THE INPUT: true; the input reads as it did. -/
def windowWidensSpec : ChangeSpec := { name := "windowWidens", fn := fun _ => fun
  | [d] => { results := [.lit (.bool true)], args := [d] }
  | _ => none }
def windowWidensRow : OpenClaim := { program := "ytlledfabkmmgoaa", sum := "857999e6e020abd5a68972379012e82516efc4acfd0e961e2031c16290409af2", func := "bodkin/bodkinlaw27.WindowWidens", spec := "windowWidens", apart := false }
def WindowWidensSaid : Prop := windowWidensRow.holds Try.pinned (OpenSpec.ofChange windowWidensSpec)

/-- ITS FALSE NEIGHBOUR: 'it returns false'. Refute it at one input. -/
def windowWidensWrong : ChangeSpec := { name := "windowWidens", fn := fun _ => fun
  | [d] => { results := [.lit (.bool false)], args := [d] }
  | _ => none }
def WindowWidensWrongFalsely : Prop := windowWidensRow.holds Try.pinned (OpenSpec.ofChange windowWidensWrong)

/-- 'bodkinlaw27.WindowHolds': WHATEVER THE INPUT: true; the input reads as it did. -/
def windowHoldsSpec : ChangeSpec := { name := "windowHolds", fn := fun _ => fun
  | [d] => { results := [.lit (.bool true)], args := [d] }
  | _ => none }
def windowHoldsRow : OpenClaim := { program := "ytlledfabkmmgoaa", sum := "857999e6e020abd5a68972379012e82516efc4acfd0e961e2031c16290409af2", func := "bodkin/bodkinlaw27.WindowHolds", spec := "windowHolds", apart := false }
def WindowHoldsSaid : Prop := windowHoldsRow.holds Try.pinned (OpenSpec.ofChange windowHoldsSpec)

/-- ITS FALSE NEIGHBOUR: 'it returns false'. Refute it at one input. -/
def windowHoldsWrong : ChangeSpec := { name := "windowHolds", fn := fun _ => fun
  | [d] => { results := [.lit (.bool false)], args := [d] }
  | _ => none }
def WindowHoldsWrongFalsely : Prop := windowHoldsRow.holds Try.pinned (OpenSpec.ofChange windowHoldsWrong)

/-- 'bodkinlaw38.SelectsNew': WHATEVER THE INPUT: true; the input reads as it did. -/
def selectsNewSpec : ChangeSpec := { name := "selectsNew", fn := fun _ => fun
  | [d1, d2] => { results := [.lit (.bool true)], args := [d1, d2] }
  | _ => none }
def selectsNewRow : OpenClaim := { program := "ytlledfabkmmgoaa", sum := "857999e6e020abd5a68972379012e82516efc4acfd0e961e2031c16290409af2", func := "bodkin/bodkinlaw38.SelectsNew", spec := "selectsNew", unfollowed := true, recurses := true, apart := false }
def SelectsNewSaid : Prop := selectsNewRow.holds Try.pinned (OpenSpec.ofChange selectsNewSpec)

/-- ITS FALSE NEIGHBOUR: 'it returns false'. Refute it at one input. -/
def selectsNewWrong : ChangeSpec := { name := "selectsNew", fn := fun _ => fun
  | [d1, d2] => { results := [.lit (.bool false)], args := [d1, d2] }
  | _ => none }
def SelectsNewWrongFalsely : Prop := selectsNewRow.holds Try.pinned (OpenSpec.ofChange selectsNewWrong)

/-- 'bodkinlaw38.SelectsApart': WHATEVER THE INPUT: true; the input reads as it did. -/
def selectsApartSpec : ChangeSpec := { name := "selectsApart", fn := fun _ => fun
  | [d1, d2] => { results := [.lit (.bool true)], args := [d1, d2] }
  | _ => none }
def selectsApartRow : OpenClaim := { program := "ytlledfabkmmgoaa", sum := "857999e6e020abd5a68972379012e82516efc4acfd0e961e2031c16290409af2", func := "bodkin/bodkinlaw38.SelectsApart", spec := "selectsApart", unfollowed := true, recurses := true, apart := false }
def SelectsApartSaid : Prop := selectsApartRow.holds Try.pinned (OpenSpec.ofChange selectsApartSpec)

/-- ITS FALSE NEIGHBOUR: 'it returns false'. Refute it at one input. -/
def selectsApartWrong : ChangeSpec := { name := "selectsApart", fn := fun _ => fun
  | [d1, d2] => { results := [.lit (.bool false)], args := [d1, d2] }
  | _ => none }
def SelectsApartWrongFalsely : Prop := selectsApartRow.holds Try.pinned (OpenSpec.ofChange selectsApartWrong)

/-- 'bodkinlaw38.SelectsShift': WHATEVER THE INPUT: true; the input reads as it did. -/
def selectsShiftSpec : ChangeSpec := { name := "selectsShift", fn := fun _ => fun
  | [d1, d2, d3] => { results := [.lit (.bool true)], args := [d1, d2, d3] }
  | _ => none }
def selectsShiftRow : OpenClaim := { program := "ytlledfabkmmgoaa", sum := "857999e6e020abd5a68972379012e82516efc4acfd0e961e2031c16290409af2", func := "bodkin/bodkinlaw38.SelectsShift", spec := "selectsShift", unfollowed := true, recurses := true, apart := false }
def SelectsShiftSaid : Prop := selectsShiftRow.holds Try.pinned (OpenSpec.ofChange selectsShiftSpec)

/-- ITS FALSE NEIGHBOUR: 'it returns false'. Refute it at one input. -/
def selectsShiftWrong : ChangeSpec := { name := "selectsShift", fn := fun _ => fun
  | [d1, d2, d3] => { results := [.lit (.bool false)], args := [d1, d2, d3] }
  | _ => none }
def SelectsShiftWrongFalsely : Prop := selectsShiftRow.holds Try.pinned (OpenSpec.ofChange selectsShiftWrong)

/- THE SECOND FORM. 'bulk': how many values and letters a reading holds, each counted each time it is reached (what is shared counts as often as it is met; a slice's spare places count too). A statement '..UptoSaid' is the law's where the arguments, and the package variables that the reading takes, are together of bulk at most 1048576: NARROWER than '..Said'. Prove '..Said' where nothing that the law and all that it calls make is longer than what came in: it says more and counts as full. Else prove '..UptoSaid'. A law counts once. -/
mutual
def uptoBulk {H : Type} : DataW H → Nat
  | .lit (.string bytes) => bytes.length + 1
  | .lit _ => 1
  | .nil => 1
  | .ptr d => uptoBulk d + 1
  | .slice elems spare => uptoBulkAll elems + uptoBulkAll spare + 1
  | .agg parts => uptoBulkAll parts + 1
  | .iface _ d => uptoBulk d + 1
  | .map entries => uptoBulkEntries entries + 1
  | .held _ => 1
def uptoBulkAll {H : Type} : List (DataW H) → Nat
  | [] => 0
  | d :: r => uptoBulk d + uptoBulkAll r
def uptoBulkEntries {H : Type} : List (Lit × DataW H) → Nat
  | [] => 0
  | x :: r => uptoBulkEntry x + uptoBulkEntries r
def uptoBulkEntry {H : Type} : Lit × DataW H → Nat
  | (.string bytes, d) => bytes.length + uptoBulk d + 1
  | (_, d) => uptoBulk d + 1
 end
def uptoSmall : (H : Type) → List (DataW H) → Bool := fun _ ds => decide (uptoBulkAll ds ≤ 1048576)
def OpenSpec.upto (s : _root_.Go.ChangeSpec) : _root_.Go.OpenSpec := { _root_.Go.OpenSpec.ofChange s with cond := some uptoSmall }

/-- 'bodkinlaw27.WindowFits', WHERE WHAT IT READS IS OF BULK AT MOST 1048576: true; the input reads as it did. -/
def windowFitsUptoRow : OpenClaim := { program := "ytlledfabkmmgoaa", sum := "857999e6e020abd5a68972379012e82516efc4acfd0e961e2031c16290409af2", func := "bodkin/bodkinlaw27.WindowFits", spec := "windowFits", apart := false, narrowed := true }
def WindowFitsUptoSaid : Prop := windowFitsUptoRow.holds Try.pinned (OpenSpec.upto windowFitsSpec)

/-- 'bodkinlaw27.WindowWidens', WHERE WHAT IT READS IS OF BULK AT MOST 1048576: true; the input reads as it did. -/
def windowWidensUptoRow : OpenClaim := { program := "ytlledfabkmmgoaa", sum := "857999e6e020abd5a68972379012e82516efc4acfd0e961e2031c16290409af2", func := "bodkin/bodkinlaw27.WindowWidens", spec := "windowWidens", apart := false, narrowed := true }
def WindowWidensUptoSaid : Prop := windowWidensUptoRow.holds Try.pinned (OpenSpec.upto windowWidensSpec)

/-- 'bodkinlaw27.WindowHolds', WHERE WHAT IT READS IS OF BULK AT MOST 1048576: true; the input reads as it did. -/
def windowHoldsUptoRow : OpenClaim := { program := "ytlledfabkmmgoaa", sum := "857999e6e020abd5a68972379012e82516efc4acfd0e961e2031c16290409af2", func := "bodkin/bodkinlaw27.WindowHolds", spec := "windowHolds", apart := false, narrowed := true }
def WindowHoldsUptoSaid : Prop := windowHoldsUptoRow.holds Try.pinned (OpenSpec.upto windowHoldsSpec)

/-- 'bodkinlaw38.SelectsNew', WHERE WHAT IT READS IS OF BULK AT MOST 1048576: true; the input reads as it did. -/
def selectsNewUptoRow : OpenClaim := { program := "ytlledfabkmmgoaa", sum := "857999e6e020abd5a68972379012e82516efc4acfd0e961e2031c16290409af2", func := "bodkin/bodkinlaw38.SelectsNew", spec := "selectsNew", unfollowed := true, recurses := true, apart := false, narrowed := true }
def SelectsNewUptoSaid : Prop := selectsNewUptoRow.holds Try.pinned (OpenSpec.upto selectsNewSpec)

/-- 'bodkinlaw38.SelectsApart', WHERE WHAT IT READS IS OF BULK AT MOST 1048576: true; the input reads as it did. -/
def selectsApartUptoRow : OpenClaim := { program := "ytlledfabkmmgoaa", sum := "857999e6e020abd5a68972379012e82516efc4acfd0e961e2031c16290409af2", func := "bodkin/bodkinlaw38.SelectsApart", spec := "selectsApart", unfollowed := true, recurses := true, apart := false, narrowed := true }
def SelectsApartUptoSaid : Prop := selectsApartUptoRow.holds Try.pinned (OpenSpec.upto selectsApartSpec)

/-- 'bodkinlaw38.SelectsShift', WHERE WHAT IT READS IS OF BULK AT MOST 1048576: true; the input reads as it did. -/
def selectsShiftUptoRow : OpenClaim := { program := "ytlledfabkmmgoaa", sum := "857999e6e020abd5a68972379012e82516efc4acfd0e961e2031c16290409af2", func := "bodkin/bodkinlaw38.SelectsShift", spec := "selectsShift", unfollowed := true, recurses := true, apart := false, narrowed := true }
def SelectsShiftUptoSaid : Prop := selectsShiftUptoRow.holds Try.pinned (OpenSpec.upto selectsShiftSpec)

end Rows
end Go.Proofs.Ytlledfabkmmgoaa
