/-
  NARROWER THAN 'FOR EVERY INPUT', by the rows' own cells (each row's printed sentence says how): SelectsTypes: laid.
  DERIVED. THE GIVEN ROWS OF THIS SEAT. 1 by the template 'for every input the law returns true; each argument reads behind the call as it read before'; 0 by the template 'total and deterministic' (their statements: YtkhonlnajdfhfaaDoorTotals.lean).
  GIVEN WITH THE SEED: the statements are not yours to turn. If you find one false, say at which input.
  Laid BY PROGRAM, IN A SANDBOX (cutbox-rows.mjs): the forced cells as the released guide's own fill.sh prints them over the translation 740bbce2812a2756… (all of the seat's roots in one cut). By AI agents, Wed Nov 11 2026. No macro, syntax, notation, axiom, sorry.
-/
import Derived.Test.YtkhonlnajdfhfaaDoorChecked
import GoSem.Claim
import GoSem.ClaimJoined
import GoSem.ClaimMapViews
import Derived.JoinedTies
import Derived.KernelRfl
namespace Go.Proofs.YtkhonlnajdfhfaaDoor
/- THE CELL 'sum', in the pinned program and in every row, IS THE sha256 OF THE DUMP (.gsa) THAT YtkhonlnajdfhfaaDoorProg.lean LOADS. Nothing in Lean hashes anything: it is a label: what it is worth is what the hold of that sum in a sandbox is worth. -/
noncomputable def Tryd.pinned : Pinned := { name := "ytkhonlnajdfhfaadoor", sum := "740bbce2812a27567a4c52e48091a72bb9c8e721de1daf3a53675c8b28630712", checked := Tryd.checked }
namespace Rows
def none {H : Type} : Left H := { results := [], args := [] }

/- WHAT THE LISTED PACKAGE-LEVEL VARIABLES READ AS WHEN THE CALL BEGINS. Each datum BY PROGRAM (the guide's laid-datum.mjs) off the statement by which the dump's own 'gosem.cut.vars' lays the variable. In a bare row this is a premise. The card (YtkhonlnajdfhfaaDoorCards.lean) ties it to the program's text. -/
def laid_bodkin_utf_most {H : Type} : DataW H := .agg [.lit (.int .i32 127), .lit (.int .i32 2047), .lit (.int .i32 65535), .lit (.int .i32 1114111)]

/-- 'bodkinlaw38.SelectsTypes': WHATEVER THE INPUT: true; the input reads as it did. -/
def selectsTypesSpec : ChangeSpec := { name := "selectsTypes", fn := fun _ => fun
  | [d1, d2, d3] => { results := [.lit (.bool true)], args := [d1, d2, d3] }
  | _ => none }
def selectsTypesRow : OpenClaim := { program := "ytkhonlnajdfhfaadoor", sum := "740bbce2812a27567a4c52e48091a72bb9c8e721de1daf3a53675c8b28630712", func := "bodkin/bodkinlaw38.SelectsTypes", spec := "selectsTypes", inPlace := ["internal/abi.NoEscape"], unfollowed := true, recurses := true, named := ["bodkin/utf.most"], apart := false, laid := [("bodkin/utf.most", laid_bodkin_utf_most)] }
def SelectsTypesSaid : Prop := selectsTypesRow.holds Tryd.pinned (OpenSpec.ofChange selectsTypesSpec)

/-- ITS FALSE NEIGHBOUR: 'it returns false'. Refute it at one input. -/
def selectsTypesWrong : ChangeSpec := { name := "selectsTypes", fn := fun _ => fun
  | [d1, d2, d3] => { results := [.lit (.bool false)], args := [d1, d2, d3] }
  | _ => none }
def SelectsTypesWrongFalsely : Prop := selectsTypesRow.holds Tryd.pinned (OpenSpec.ofChange selectsTypesWrong)

/- THE SECOND FORM. 'bulk': how many values and letters a reading holds, each counted each time it is reached (what is shared counts as often as it is met; a slice's spare places count too). A statement '..UptoSaid' is the law's where the arguments, and the package variables that the reading takes, are together of bulk at most 1048576: NARROWER than '..Said'. Prove '..Said' where nothing that the law and all that it calls make is longer than what came in: it says more and counts as full. Else prove '..UptoSaid'. A law counts once. -/
mutual
def uptoBulk {H : Type} : DataW H → Nat
  | .lit (.string bytes) => bytes.length + 1
  | .lit _ => 1
  | .nil => 1
  | .ptr d => uptoBulk d + 1
  | .slice elems spare => uptoBulkAll elems + uptoBulkAll spare + 1
  | .agg parts => uptoBulkAll parts + 1
  | .iface _ d => uptoBulk d + 1
  | .map entries => uptoBulkEntries entries + 1
  | .held _ => 1
def uptoBulkAll {H : Type} : List (DataW H) → Nat
  | [] => 0
  | d :: r => uptoBulk d + uptoBulkAll r
def uptoBulkEntries {H : Type} : List (Lit × DataW H) → Nat
  | [] => 0
  | x :: r => uptoBulkEntry x + uptoBulkEntries r
def uptoBulkEntry {H : Type} : Lit × DataW H → Nat
  | (.string bytes, d) => bytes.length + uptoBulk d + 1
  | (_, d) => uptoBulk d + 1
 end
def uptoSmall : (H : Type) → List (DataW H) → Bool := fun _ ds => decide (uptoBulkAll ds ≤ 1048576)
def OpenSpec.upto (s : _root_.Go.ChangeSpec) : _root_.Go.OpenSpec := { _root_.Go.OpenSpec.ofChange s with cond := some uptoSmall }

/-- 'bodkinlaw38.SelectsTypes', WHERE WHAT IT READS IS OF BULK AT MOST 1048576: true; the input reads as it did. -/
def selectsTypesUptoRow : OpenClaim := { program := "ytkhonlnajdfhfaadoor", sum := "740bbce2812a27567a4c52e48091a72bb9c8e721de1daf3a53675c8b28630712", func := "bodkin/bodkinlaw38.SelectsTypes", spec := "selectsTypes", inPlace := ["internal/abi.NoEscape"], unfollowed := true, recurses := true, named := ["bodkin/utf.most"], apart := false, laid := [("bodkin/utf.most", laid_bodkin_utf_most)], narrowed := true }
def SelectsTypesUptoSaid : Prop := selectsTypesUptoRow.holds Tryd.pinned (OpenSpec.upto selectsTypesSpec)

end Rows
end Go.Proofs.YtkhonlnajdfhfaaDoor
