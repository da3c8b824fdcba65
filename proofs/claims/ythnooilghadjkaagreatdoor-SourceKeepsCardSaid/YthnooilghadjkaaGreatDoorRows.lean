/-
  NARROWER THAN 'FOR EVERY INPUT', by the rows' own cells (each row's printed sentence says how): WindowLines: laid · SourceLines: laid · SourceRow: laid · SourceKeeps: laid · SourceAt: laid · WindowAll: laid.
  DERIVED. THE GIVEN ROWS OF THIS SEAT. 6 by the template 'for every input the law returns true; each argument reads behind the call as it read before'; 0 by the template 'total and deterministic' (their statements: YthnooilghadjkaaGreatDoorTotals.lean).
  GIVEN WITH THE SEED: the statements are not yours to turn. If you find one false, say at which input.
  Laid BY PROGRAM, IN A SANDBOX (cutbox-rows.mjs): the forced cells as the released guide's own fill.sh prints them over the translation 1a855c15a5953dde… (all of the seat's roots in one cut). By AI agents, Wed Nov 11 2026. No macro, syntax, notation, axiom, sorry.
-/
import Derived.Test.YthnooilghadjkaaGreatDoorChecked
import GoSem.Claim
import GoSem.ClaimJoined
import GoSem.ClaimMapViews
import Derived.JoinedTies
import Derived.KernelRfl
namespace Go.Proofs.YthnooilghadjkaaGreatDoor
/- THE CELL 'sum', in the pinned program and in every row, IS THE sha256 OF THE DUMP (.gsa) THAT YthnooilghadjkaaGreatDoorProg.lean LOADS. Nothing in Lean hashes anything: it is a label: what it is worth is what the hold of that sum in a sandbox is worth. -/
noncomputable def Tryz.pinned : Pinned := { name := "ythnooilghadjkaagreatdoor", sum := "1a855c15a5953ddea96b1489b74507da02d5654b5bf9a1a1dea92f36dbe69559", checked := Tryz.checked }
namespace Rows
def none {H : Type} : Left H := { results := [], args := [] }

/- WHAT THE LISTED PACKAGE-LEVEL VARIABLES READ AS WHEN THE CALL BEGINS. Each datum BY PROGRAM (the guide's laid-datum.mjs) off the statement by which the dump's own 'gosem.cut.vars' lays the variable. In a bare row this is a premise. The card (YthnooilghadjkaaGreatDoorCards.lean) ties it to the program's text. -/
def laid_bodkin_utf_most {H : Type} : DataW H := .agg [.lit (.int .i32 127), .lit (.int .i32 2047), .lit (.int .i32 65535), .lit (.int .i32 1114111)]

/-- 'bodkinlaw27.WindowLines': WHATEVER THE INPUT: true; the input reads as it did. -/
def windowLinesSpec : ChangeSpec := { name := "windowLines", fn := fun _ => fun
  | [d1, d2, d3] => { results := [.lit (.bool true)], args := [d1, d2, d3] }
  | _ => none }
def windowLinesRow : OpenClaim := { program := "ythnooilghadjkaagreatdoor", sum := "1a855c15a5953ddea96b1489b74507da02d5654b5bf9a1a1dea92f36dbe69559", func := "bodkin/bodkinlaw27.WindowLines", spec := "windowLines", inPlace := ["internal/bytealg.IndexByteString", "internal/bytealg.IndexString", "internal/bytealg.CountString"], unfollowed := true, recurses := true, named := ["bodkin/utf.most", "internal/bytealg.MaxLen"], apart := false, laid := [("bodkin/utf.most", laid_bodkin_utf_most)] }
def WindowLinesSaid : Prop := windowLinesRow.holds Tryz.pinned (OpenSpec.ofChange windowLinesSpec)

/-- ITS FALSE NEIGHBOUR: 'it returns false'. Refute it at one input. -/
def windowLinesWrong : ChangeSpec := { name := "windowLines", fn := fun _ => fun
  | [d1, d2, d3] => { results := [.lit (.bool false)], args := [d1, d2, d3] }
  | _ => none }
def WindowLinesWrongFalsely : Prop := windowLinesRow.holds Tryz.pinned (OpenSpec.ofChange windowLinesWrong)

/-- 'bodkinlaw21.SourceLines': WHATEVER THE INPUT: true; the input reads as it did. -/
def sourceLinesSpec : ChangeSpec := { name := "sourceLines", fn := fun _ => fun
  | [d] => { results := [.lit (.bool true)], args := [d] }
  | _ => none }
def sourceLinesRow : OpenClaim := { program := "ythnooilghadjkaagreatdoor", sum := "1a855c15a5953ddea96b1489b74507da02d5654b5bf9a1a1dea92f36dbe69559", func := "bodkin/bodkinlaw21.SourceLines", spec := "sourceLines", inPlace := ["internal/bytealg.IndexByteString", "internal/bytealg.IndexString", "internal/bytealg.CountString", "internal/abi.NoEscape"], unfollowed := true, recurses := true, named := ["bodkin/utf.most", "internal/bytealg.MaxLen"], apart := false, laid := [("bodkin/utf.most", laid_bodkin_utf_most)] }
def SourceLinesSaid : Prop := sourceLinesRow.holds Tryz.pinned (OpenSpec.ofChange sourceLinesSpec)

/-- ITS FALSE NEIGHBOUR: 'it returns false'. Refute it at one input. -/
def sourceLinesWrong : ChangeSpec := { name := "sourceLines", fn := fun _ => fun
  | [d] => { results := [.lit (.bool false)], args := [d] }
  | _ => none }
def SourceLinesWrongFalsely : Prop := sourceLinesRow.holds Tryz.pinned (OpenSpec.ofChange sourceLinesWrong)

/-- 'bodkinlaw21.SourceRow': WHATEVER THE INPUT: true; the input reads as it did. -/
def sourceRowSpec : ChangeSpec := { name := "sourceRow", fn := fun _ => fun
  | [d] => { results := [.lit (.bool true)], args := [d] }
  | _ => none }
def sourceRowRow : OpenClaim := { program := "ythnooilghadjkaagreatdoor", sum := "1a855c15a5953ddea96b1489b74507da02d5654b5bf9a1a1dea92f36dbe69559", func := "bodkin/bodkinlaw21.SourceRow", spec := "sourceRow", inPlace := ["internal/bytealg.IndexByteString", "internal/bytealg.IndexString", "internal/bytealg.CountString", "internal/abi.NoEscape"], unfollowed := true, recurses := true, named := ["bodkin/utf.most", "internal/bytealg.MaxLen"], apart := false, laid := [("bodkin/utf.most", laid_bodkin_utf_most)] }
def SourceRowSaid : Prop := sourceRowRow.holds Tryz.pinned (OpenSpec.ofChange sourceRowSpec)

/-- ITS FALSE NEIGHBOUR: 'it returns false'. Refute it at one input. -/
def sourceRowWrong : ChangeSpec := { name := "sourceRow", fn := fun _ => fun
  | [d] => { results := [.lit (.bool false)], args := [d] }
  | _ => none }
def SourceRowWrongFalsely : Prop := sourceRowRow.holds Tryz.pinned (OpenSpec.ofChange sourceRowWrong)

/-- 'bodkinlaw21.SourceKeeps': WHATEVER THE INPUT: true; the input reads as it did. -/
def sourceKeepsSpec : ChangeSpec := { name := "sourceKeeps", fn := fun _ => fun
  | [d] => { results := [.lit (.bool true)], args := [d] }
  | _ => none }
def sourceKeepsRow : OpenClaim := { program := "ythnooilghadjkaagreatdoor", sum := "1a855c15a5953ddea96b1489b74507da02d5654b5bf9a1a1dea92f36dbe69559", func := "bodkin/bodkinlaw21.SourceKeeps", spec := "sourceKeeps", inPlace := ["internal/bytealg.IndexByteString", "internal/bytealg.IndexString", "internal/bytealg.CountString", "internal/abi.NoEscape"], unfollowed := true, recurses := true, named := ["bodkin/utf.most", "internal/bytealg.MaxLen"], apart := false, laid := [("bodkin/utf.most", laid_bodkin_utf_most)] }
def SourceKeepsSaid : Prop := sourceKeepsRow.holds Tryz.pinned (OpenSpec.ofChange sourceKeepsSpec)

/-- ITS FALSE NEIGHBOUR: 'it returns false'. Refute it at one input. -/
def sourceKeepsWrong : ChangeSpec := { name := "sourceKeeps", fn := fun _ => fun
  | [d] => { results := [.lit (.bool false)], args := [d] }
  | _ => none }
def SourceKeepsWrongFalsely : Prop := sourceKeepsRow.holds Tryz.pinned (OpenSpec.ofChange sourceKeepsWrong)

/-- 'bodkinlaw21.SourceAt': WHATEVER THE INPUT: true; the input reads as it did. -/
def sourceAtSpec : ChangeSpec := { name := "sourceAt", fn := fun _ => fun
  | [d1, d2] => { results := [.lit (.bool true)], args := [d1, d2] }
  | _ => none }
def sourceAtRow : OpenClaim := { program := "ythnooilghadjkaagreatdoor", sum := "1a855c15a5953ddea96b1489b74507da02d5654b5bf9a1a1dea92f36dbe69559", func := "bodkin/bodkinlaw21.SourceAt", spec := "sourceAt", inPlace := ["internal/bytealg.IndexByteString", "internal/bytealg.IndexString", "internal/bytealg.CountString", "internal/abi.NoEscape"], unfollowed := true, recurses := true, named := ["bodkin/utf.most", "internal/bytealg.MaxLen"], apart := false, laid := [("bodkin/utf.most", laid_bodkin_utf_most)] }
def SourceAtSaid : Prop := sourceAtRow.holds Tryz.pinned (OpenSpec.ofChange sourceAtSpec)

/-- ITS FALSE NEIGHBOUR: 'it returns false'. Refute it at one input. -/
def sourceAtWrong : ChangeSpec := { name := "sourceAt", fn := fun _ => fun
  | [d1, d2] => { results := [.lit (.bool false)], args := [d1, d2] }
  | _ => none }
def SourceAtWrongFalsely : Prop := sourceAtRow.holds Tryz.pinned (OpenSpec.ofChange sourceAtWrong)

/-- 'bodkinlaw27.WindowAll': WHATEVER THE INPUT: true; the input reads as it did. -/
def windowAllSpec : ChangeSpec := { name := "windowAll", fn := fun _ => fun
  | [d1, d2] => { results := [.lit (.bool true)], args := [d1, d2] }
  | _ => none }
def windowAllRow : OpenClaim := { program := "ythnooilghadjkaagreatdoor", sum := "1a855c15a5953ddea96b1489b74507da02d5654b5bf9a1a1dea92f36dbe69559", func := "bodkin/bodkinlaw27.WindowAll", spec := "windowAll", inPlace := ["internal/bytealg.IndexByteString", "internal/bytealg.IndexString", "internal/bytealg.CountString", "internal/abi.NoEscape"], unfollowed := true, recurses := true, named := ["bodkin/utf.most", "internal/bytealg.MaxLen"], apart := false, laid := [("bodkin/utf.most", laid_bodkin_utf_most)] }
def WindowAllSaid : Prop := windowAllRow.holds Tryz.pinned (OpenSpec.ofChange windowAllSpec)

/-- ITS FALSE NEIGHBOUR: 'it returns false'. Refute it at one input. -/
def windowAllWrong : ChangeSpec := { name := "windowAll", fn := fun _ => fun
  | [d1, d2] => { results := [.lit (.bool false)], args := [d1, d2] }
  | _ => none }
def WindowAllWrongFalsely : Prop := windowAllRow.holds Tryz.pinned (OpenSpec.ofChange windowAllWrong)

/- THE SECOND FORM. 'bulk': how many values and letters a reading holds, each counted each time it is reached (what is shared counts as often as it is met; a slice's spare places count too). A statement '..UptoSaid' is the law's where the arguments, and the package variables that the reading takes, are together of bulk at most 1048576: NARROWER than '..Said'. Prove '..Said' where nothing that the law and all that it calls make is longer than what came in: it says more and counts as full. Else prove '..UptoSaid'. A law counts once. -/
mutual
def uptoBulk {H : Type} : DataW H → Nat
  | .lit (.string bytes) => bytes.length + 1
  | .lit _ => 1
  | .nil => 1
  | .ptr d => uptoBulk d + 1
  | .slice elems spare => uptoBulkAll elems + uptoBulkAll spare + 1
  | .agg parts => uptoBulkAll parts + 1
  | .iface _ d => uptoBulk d + 1
  | .map entries => uptoBulkEntries entries + 1
  | .held _ => 1
def uptoBulkAll {H : Type} : List (DataW H) → Nat
  | [] => 0
  | d :: r => uptoBulk d + uptoBulkAll r
def uptoBulkEntries {H : Type} : List (Lit × DataW H) → Nat
  | [] => 0
  | x :: r => uptoBulkEntry x + uptoBulkEntries r
def uptoBulkEntry {H : Type} : Lit × DataW H → Nat
  | (.string bytes, d) => bytes.length + uptoBulk d + 1
  | (_, d) => uptoBulk d + 1
 end
def uptoSmall : (H : Type) → List (DataW H) → Bool := fun _ ds => decide (uptoBulkAll ds ≤ 1048576)
def OpenSpec.upto (s : _root_.Go.ChangeSpec) : _root_.Go.OpenSpec := { _root_.Go.OpenSpec.ofChange s with cond := some uptoSmall }

/-- 'bodkinlaw27.WindowLines', WHERE WHAT IT READS IS OF BULK AT MOST 1048576: true; the input reads as it did. -/
def windowLinesUptoRow : OpenClaim := { program := "ythnooilghadjkaagreatdoor", sum := "1a855c15a5953ddea96b1489b74507da02d5654b5bf9a1a1dea92f36dbe69559", func := "bodkin/bodkinlaw27.WindowLines", spec := "windowLines", inPlace := ["internal/bytealg.IndexByteString", "internal/bytealg.IndexString", "internal/bytealg.CountString"], unfollowed := true, recurses := true, named := ["bodkin/utf.most", "internal/bytealg.MaxLen"], apart := false, laid := [("bodkin/utf.most", laid_bodkin_utf_most)], narrowed := true }
def WindowLinesUptoSaid : Prop := windowLinesUptoRow.holds Tryz.pinned (OpenSpec.upto windowLinesSpec)

/-- 'bodkinlaw21.SourceLines', WHERE WHAT IT READS IS OF BULK AT MOST 1048576: true; the input reads as it did. -/
def sourceLinesUptoRow : OpenClaim := { program := "ythnooilghadjkaagreatdoor", sum := "1a855c15a5953ddea96b1489b74507da02d5654b5bf9a1a1dea92f36dbe69559", func := "bodkin/bodkinlaw21.SourceLines", spec := "sourceLines", inPlace := ["internal/bytealg.IndexByteString", "internal/bytealg.IndexString", "internal/bytealg.CountString", "internal/abi.NoEscape"], unfollowed := true, recurses := true, named := ["bodkin/utf.most", "internal/bytealg.MaxLen"], apart := false, laid := [("bodkin/utf.most", laid_bodkin_utf_most)], narrowed := true }
def SourceLinesUptoSaid : Prop := sourceLinesUptoRow.holds Tryz.pinned (OpenSpec.upto sourceLinesSpec)

/-- 'bodkinlaw21.SourceRow', WHERE WHAT IT READS IS OF BULK AT MOST 1048576: true; the input reads as it did. -/
def sourceRowUptoRow : OpenClaim := { program := "ythnooilghadjkaagreatdoor", sum := "1a855c15a5953ddea96b1489b74507da02d5654b5bf9a1a1dea92f36dbe69559", func := "bodkin/bodkinlaw21.SourceRow", spec := "sourceRow", inPlace := ["internal/bytealg.IndexByteString", "internal/bytealg.IndexString", "internal/bytealg.CountString", "internal/abi.NoEscape"], unfollowed := true, recurses := true, named := ["bodkin/utf.most", "internal/bytealg.MaxLen"], apart := false, laid := [("bodkin/utf.most", laid_bodkin_utf_most)], narrowed := true }
def SourceRowUptoSaid : Prop := sourceRowUptoRow.holds Tryz.pinned (OpenSpec.upto sourceRowSpec)

/-- 'bodkinlaw21.SourceKeeps', WHERE WHAT IT READS IS OF BULK AT MOST 1048576: true; the input reads as it did. -/
def sourceKeepsUptoRow : OpenClaim := { program := "ythnooilghadjkaagreatdoor", sum := "1a855c15a5953ddea96b1489b74507da02d5654b5bf9a1a1dea92f36dbe69559", func := "bodkin/bodkinlaw21.SourceKeeps", spec := "sourceKeeps", inPlace := ["internal/bytealg.IndexByteString", "internal/bytealg.IndexString", "internal/bytealg.CountString", "internal/abi.NoEscape"], unfollowed := true, recurses := true, named := ["bodkin/utf.most", "internal/bytealg.MaxLen"], apart := false, laid := [("bodkin/utf.most", laid_bodkin_utf_most)], narrowed := true }
def SourceKeepsUptoSaid : Prop := sourceKeepsUptoRow.holds Tryz.pinned (OpenSpec.upto sourceKeepsSpec)

/-- 'bodkinlaw21.SourceAt', WHERE WHAT IT READS IS OF BULK AT MOST 1048576: true; the input reads as it did. -/
def sourceAtUptoRow : OpenClaim := { program := "ythnooilghadjkaagreatdoor", sum := "1a855c15a5953ddea96b1489b74507da02d5654b5bf9a1a1dea92f36dbe69559", func := "bodkin/bodkinlaw21.SourceAt", spec := "sourceAt", inPlace := ["internal/bytealg.IndexByteString", "internal/bytealg.IndexString", "internal/bytealg.CountString", "internal/abi.NoEscape"], unfollowed := true, recurses := true, named := ["bodkin/utf.most", "internal/bytealg.MaxLen"], apart := false, laid := [("bodkin/utf.most", laid_bodkin_utf_most)], narrowed := true }
def SourceAtUptoSaid : Prop := sourceAtUptoRow.holds Tryz.pinned (OpenSpec.upto sourceAtSpec)

/-- 'bodkinlaw27.WindowAll', WHERE WHAT IT READS IS OF BULK AT MOST 1048576: true; the input reads as it did. -/
def windowAllUptoRow : OpenClaim := { program := "ythnooilghadjkaagreatdoor", sum := "1a855c15a5953ddea96b1489b74507da02d5654b5bf9a1a1dea92f36dbe69559", func := "bodkin/bodkinlaw27.WindowAll", spec := "windowAll", inPlace := ["internal/bytealg.IndexByteString", "internal/bytealg.IndexString", "internal/bytealg.CountString", "internal/abi.NoEscape"], unfollowed := true, recurses := true, named := ["bodkin/utf.most", "internal/bytealg.MaxLen"], apart := false, laid := [("bodkin/utf.most", laid_bodkin_utf_most)], narrowed := true }
def WindowAllUptoSaid : Prop := windowAllUptoRow.holds Tryz.pinned (OpenSpec.upto windowAllSpec)

end Rows
end Go.Proofs.YthnooilghadjkaaGreatDoor
