/-
  NARROWER THAN 'FOR EVERY INPUT', by the rows' own cells (each row's printed sentence says how): StateRows: laid · StateLines: laid · StateParts: laid · StateNew: laid · StateWith: laid · StateShown: laid.
  DERIVED. THE GIVEN ROWS OF THIS SEAT. 6 by the template 'for every input the law returns true; each argument reads behind the call as it read before'; 0 by the template 'total and deterministic' (their statements: YtkkanlcjjpoklaaGreatDoorTotals.lean).
  GIVEN WITH THE SEED: the statements are not yours to turn. If you find one false, say at which input.
  Laid BY PROGRAM, IN A SANDBOX (cutbox-rows.mjs): the forced cells as the released guide's own fill.sh prints them over the translation 48822f3bccb26a23… (all of the seat's roots in one cut). By AI agents, Wed Nov 11 2026. No macro, syntax, notation, axiom, sorry.
-/
import Derived.Test.YtkkanlcjjpoklaaGreatDoorChecked
import GoSem.Claim
import GoSem.ClaimJoined
import GoSem.ClaimMapViews
import Derived.JoinedTies
import Derived.KernelRfl
namespace Go.Proofs.YtkkanlcjjpoklaaGreatDoor
/- THE CELL 'sum', in the pinned program and in every row, IS THE sha256 OF THE DUMP (.gsa) THAT YtkkanlcjjpoklaaGreatDoorProg.lean LOADS. Nothing in Lean hashes anything: it is a label: what it is worth is what the hold of that sum in a sandbox is worth. -/
noncomputable def Tryz.pinned : Pinned := { name := "ytkkanlcjjpoklaagreatdoor", sum := "48822f3bccb26a231687d544654250e7bd0340f6730d926844e6b37540661155", checked := Tryz.checked }
namespace Rows
def none {H : Type} : Left H := { results := [], args := [] }

/- WHAT THE LISTED PACKAGE-LEVEL VARIABLES READ AS WHEN THE CALL BEGINS. Each datum BY PROGRAM (the guide's laid-datum.mjs) off the statement by which the dump's own 'gosem.cut.vars' lays the variable. In a bare row this is a premise. The card (YtkkanlcjjpoklaaGreatDoorCards.lean) ties it to the program's text. -/
def laid_bodkin_utf_most {H : Type} : DataW H := .agg [.lit (.int .i32 127), .lit (.int .i32 2047), .lit (.int .i32 65535), .lit (.int .i32 1114111)]
def laid_bodkin_width_plainZero {H : Type} : DataW H := .agg [.agg [.lit (.int .i32 768), .lit (.int .i32 879)], .agg [.lit (.int .i32 8203), .lit (.int .i32 8207)], .agg [.lit (.int .i32 65024), .lit (.int .i32 65039)]]
def laid_bodkin_width_plainWide {H : Type} : DataW H := .agg [.agg [.lit (.int .i32 4352), .lit (.int .i32 4447)], .agg [.lit (.int .i32 11904), .lit (.int .i32 12350)], .agg [.lit (.int .i32 12353), .lit (.int .i32 19903)], .agg [.lit (.int .i32 19968), .lit (.int .i32 40959)], .agg [.lit (.int .i32 44032), .lit (.int .i32 55203)], .agg [.lit (.int .i32 63744), .lit (.int .i32 64255)], .agg [.lit (.int .i32 65280), .lit (.int .i32 65376)], .agg [.lit (.int .i32 127744), .lit (.int .i32 128591)]]

/-- 'bodkinlaw28.StateRows': WHATEVER THE INPUT: true; the input reads as it did. -/
def stateRowsSpec : ChangeSpec := { name := "stateRows", fn := fun _ => fun
  | [d1, d2, d3] => { results := [.lit (.bool true)], args := [d1, d2, d3] }
  | _ => none }
def stateRowsRow : OpenClaim := { program := "ytkkanlcjjpoklaagreatdoor", sum := "48822f3bccb26a231687d544654250e7bd0340f6730d926844e6b37540661155", func := "bodkin/bodkinlaw28.StateRows", spec := "stateRows", inPlace := ["internal/bytealg.IndexByteString", "internal/bytealg.IndexString", "internal/bytealg.CountString", "internal/abi.NoEscape"], unfollowed := true, recurses := true, named := ["bodkin/utf.most", "internal/bytealg.MaxLen", "bodkin/width.plainZero", "bodkin/width.plainWide"], plainKeys := false, apart := false, laid := [("bodkin/utf.most", laid_bodkin_utf_most), ("bodkin/width.plainZero", laid_bodkin_width_plainZero), ("bodkin/width.plainWide", laid_bodkin_width_plainWide)] }
def StateRowsSaid : Prop := stateRowsRow.holds Tryz.pinned (OpenSpec.ofChange stateRowsSpec)

/-- ITS FALSE NEIGHBOUR: 'it returns false'. Refute it at one input. -/
def stateRowsWrong : ChangeSpec := { name := "stateRows", fn := fun _ => fun
  | [d1, d2, d3] => { results := [.lit (.bool false)], args := [d1, d2, d3] }
  | _ => none }
def StateRowsWrongFalsely : Prop := stateRowsRow.holds Tryz.pinned (OpenSpec.ofChange stateRowsWrong)

/-- 'bodkinlaw28.StateLines': WHATEVER THE INPUT: true; the input reads as it did. -/
def stateLinesSpec : ChangeSpec := { name := "stateLines", fn := fun _ => fun
  | [d1, d2, d3] => { results := [.lit (.bool true)], args := [d1, d2, d3] }
  | _ => none }
def stateLinesRow : OpenClaim := { program := "ytkkanlcjjpoklaagreatdoor", sum := "48822f3bccb26a231687d544654250e7bd0340f6730d926844e6b37540661155", func := "bodkin/bodkinlaw28.StateLines", spec := "stateLines", inPlace := ["internal/bytealg.IndexByteString", "internal/bytealg.IndexString", "internal/bytealg.CountString", "internal/abi.NoEscape"], unfollowed := true, recurses := true, named := ["bodkin/utf.most", "internal/bytealg.MaxLen", "bodkin/width.plainZero", "bodkin/width.plainWide"], plainKeys := false, apart := false, laid := [("bodkin/utf.most", laid_bodkin_utf_most), ("bodkin/width.plainZero", laid_bodkin_width_plainZero), ("bodkin/width.plainWide", laid_bodkin_width_plainWide)] }
def StateLinesSaid : Prop := stateLinesRow.holds Tryz.pinned (OpenSpec.ofChange stateLinesSpec)

/-- ITS FALSE NEIGHBOUR: 'it returns false'. Refute it at one input. -/
def stateLinesWrong : ChangeSpec := { name := "stateLines", fn := fun _ => fun
  | [d1, d2, d3] => { results := [.lit (.bool false)], args := [d1, d2, d3] }
  | _ => none }
def StateLinesWrongFalsely : Prop := stateLinesRow.holds Tryz.pinned (OpenSpec.ofChange stateLinesWrong)

/-- 'bodkinlaw28.StateParts': WHATEVER THE INPUT: true; the input reads as it did. -/
def statePartsSpec : ChangeSpec := { name := "stateParts", fn := fun _ => fun
  | [d1, d2] => { results := [.lit (.bool true)], args := [d1, d2] }
  | _ => none }
def statePartsRow : OpenClaim := { program := "ytkkanlcjjpoklaagreatdoor", sum := "48822f3bccb26a231687d544654250e7bd0340f6730d926844e6b37540661155", func := "bodkin/bodkinlaw28.StateParts", spec := "stateParts", inPlace := ["internal/bytealg.IndexByteString", "internal/bytealg.IndexString", "internal/bytealg.CountString", "internal/abi.NoEscape"], unfollowed := true, recurses := true, named := ["bodkin/utf.most", "internal/bytealg.MaxLen", "bodkin/width.plainZero", "bodkin/width.plainWide"], plainKeys := false, apart := false, laid := [("bodkin/utf.most", laid_bodkin_utf_most), ("bodkin/width.plainZero", laid_bodkin_width_plainZero), ("bodkin/width.plainWide", laid_bodkin_width_plainWide)] }
def StatePartsSaid : Prop := statePartsRow.holds Tryz.pinned (OpenSpec.ofChange statePartsSpec)

/-- ITS FALSE NEIGHBOUR: 'it returns false'. Refute it at one input. -/
def statePartsWrong : ChangeSpec := { name := "stateParts", fn := fun _ => fun
  | [d1, d2] => { results := [.lit (.bool false)], args := [d1, d2] }
  | _ => none }
def StatePartsWrongFalsely : Prop := statePartsRow.holds Tryz.pinned (OpenSpec.ofChange statePartsWrong)

/-- 'bodkinlaw28.StateNew': WHATEVER THE INPUT: true; the input reads as it did. -/
def stateNewSpec : ChangeSpec := { name := "stateNew", fn := fun _ => fun
  | [d] => { results := [.lit (.bool true)], args := [d] }
  | _ => none }
def stateNewRow : OpenClaim := { program := "ytkkanlcjjpoklaagreatdoor", sum := "48822f3bccb26a231687d544654250e7bd0340f6730d926844e6b37540661155", func := "bodkin/bodkinlaw28.StateNew", spec := "stateNew", inPlace := ["internal/bytealg.IndexByteString", "internal/bytealg.IndexString", "internal/bytealg.CountString", "internal/abi.NoEscape"], unfollowed := true, recurses := true, named := ["bodkin/utf.most", "internal/bytealg.MaxLen", "bodkin/width.plainZero", "bodkin/width.plainWide"], plainKeys := false, apart := false, laid := [("bodkin/utf.most", laid_bodkin_utf_most), ("bodkin/width.plainZero", laid_bodkin_width_plainZero), ("bodkin/width.plainWide", laid_bodkin_width_plainWide)] }
def StateNewSaid : Prop := stateNewRow.holds Tryz.pinned (OpenSpec.ofChange stateNewSpec)

/-- ITS FALSE NEIGHBOUR: 'it returns false'. Refute it at one input. -/
def stateNewWrong : ChangeSpec := { name := "stateNew", fn := fun _ => fun
  | [d] => { results := [.lit (.bool false)], args := [d] }
  | _ => none }
def StateNewWrongFalsely : Prop := stateNewRow.holds Tryz.pinned (OpenSpec.ofChange stateNewWrong)

/-- 'bodkinlaw28.StateWith': WHATEVER THE INPUT: true; the input reads as it did. -/
def stateWithSpec : ChangeSpec := { name := "stateWith", fn := fun _ => fun
  | [d1, d2] => { results := [.lit (.bool true)], args := [d1, d2] }
  | _ => none }
def stateWithRow : OpenClaim := { program := "ytkkanlcjjpoklaagreatdoor", sum := "48822f3bccb26a231687d544654250e7bd0340f6730d926844e6b37540661155", func := "bodkin/bodkinlaw28.StateWith", spec := "stateWith", inPlace := ["internal/bytealg.IndexByteString", "internal/bytealg.IndexString", "internal/bytealg.CountString", "internal/abi.NoEscape"], unfollowed := true, recurses := true, named := ["bodkin/utf.most", "internal/bytealg.MaxLen", "bodkin/width.plainZero", "bodkin/width.plainWide"], plainKeys := false, apart := false, laid := [("bodkin/utf.most", laid_bodkin_utf_most), ("bodkin/width.plainZero", laid_bodkin_width_plainZero), ("bodkin/width.plainWide", laid_bodkin_width_plainWide)] }
def StateWithSaid : Prop := stateWithRow.holds Tryz.pinned (OpenSpec.ofChange stateWithSpec)

/-- ITS FALSE NEIGHBOUR: 'it returns false'. Refute it at one input. -/
def stateWithWrong : ChangeSpec := { name := "stateWith", fn := fun _ => fun
  | [d1, d2] => { results := [.lit (.bool false)], args := [d1, d2] }
  | _ => none }
def StateWithWrongFalsely : Prop := stateWithRow.holds Tryz.pinned (OpenSpec.ofChange stateWithWrong)

/-- 'bodkinlaw28.StateShown': WHATEVER THE INPUT: true; the input reads as it did. -/
def stateShownSpec : ChangeSpec := { name := "stateShown", fn := fun _ => fun
  | [d] => { results := [.lit (.bool true)], args := [d] }
  | _ => none }
def stateShownRow : OpenClaim := { program := "ytkkanlcjjpoklaagreatdoor", sum := "48822f3bccb26a231687d544654250e7bd0340f6730d926844e6b37540661155", func := "bodkin/bodkinlaw28.StateShown", spec := "stateShown", inPlace := ["internal/bytealg.IndexByteString", "internal/bytealg.IndexString", "internal/bytealg.CountString", "internal/abi.NoEscape"], unfollowed := true, recurses := true, named := ["bodkin/utf.most", "internal/bytealg.MaxLen", "bodkin/width.plainZero", "bodkin/width.plainWide"], plainKeys := false, apart := false, laid := [("bodkin/utf.most", laid_bodkin_utf_most), ("bodkin/width.plainZero", laid_bodkin_width_plainZero), ("bodkin/width.plainWide", laid_bodkin_width_plainWide)] }
def StateShownSaid : Prop := stateShownRow.holds Tryz.pinned (OpenSpec.ofChange stateShownSpec)

/-- ITS FALSE NEIGHBOUR: 'it returns false'. Refute it at one input. -/
def stateShownWrong : ChangeSpec := { name := "stateShown", fn := fun _ => fun
  | [d] => { results := [.lit (.bool false)], args := [d] }
  | _ => none }
def StateShownWrongFalsely : Prop := stateShownRow.holds Tryz.pinned (OpenSpec.ofChange stateShownWrong)

/- THE SECOND FORM. 'bulk': how many values and letters a reading holds, each counted each time it is reached (what is shared counts as often as it is met; a slice's spare places count too). A statement '..UptoSaid' is the law's where the arguments, and the package variables that the reading takes, are together of bulk at most 1048576: NARROWER than '..Said'. Prove '..Said' where nothing that the law and all that it calls make is longer than what came in: it says more and counts as full. Else prove '..UptoSaid'. A law counts once. -/
mutual
def uptoBulk {H : Type} : DataW H → Nat
  | .lit (.string bytes) => bytes.length + 1
  | .lit _ => 1
  | .nil => 1
  | .ptr d => uptoBulk d + 1
  | .slice elems spare => uptoBulkAll elems + uptoBulkAll spare + 1
  | .agg parts => uptoBulkAll parts + 1
  | .iface _ d => uptoBulk d + 1
  | .map entries => uptoBulkEntries entries + 1
  | .held _ => 1
def uptoBulkAll {H : Type} : List (DataW H) → Nat
  | [] => 0
  | d :: r => uptoBulk d + uptoBulkAll r
def uptoBulkEntries {H : Type} : List (Lit × DataW H) → Nat
  | [] => 0
  | x :: r => uptoBulkEntry x + uptoBulkEntries r
def uptoBulkEntry {H : Type} : Lit × DataW H → Nat
  | (.string bytes, d) => bytes.length + uptoBulk d + 1
  | (_, d) => uptoBulk d + 1
 end
def uptoSmall : (H : Type) → List (DataW H) → Bool := fun _ ds => decide (uptoBulkAll ds ≤ 1048576)
def OpenSpec.upto (s : _root_.Go.ChangeSpec) : _root_.Go.OpenSpec := { _root_.Go.OpenSpec.ofChange s with cond := some uptoSmall }

/-- 'bodkinlaw28.StateRows', WHERE WHAT IT READS IS OF BULK AT MOST 1048576: true; the input reads as it did. -/
def stateRowsUptoRow : OpenClaim := { program := "ytkkanlcjjpoklaagreatdoor", sum := "48822f3bccb26a231687d544654250e7bd0340f6730d926844e6b37540661155", func := "bodkin/bodkinlaw28.StateRows", spec := "stateRows", inPlace := ["internal/bytealg.IndexByteString", "internal/bytealg.IndexString", "internal/bytealg.CountString", "internal/abi.NoEscape"], unfollowed := true, recurses := true, named := ["bodkin/utf.most", "internal/bytealg.MaxLen", "bodkin/width.plainZero", "bodkin/width.plainWide"], plainKeys := false, apart := false, laid := [("bodkin/utf.most", laid_bodkin_utf_most), ("bodkin/width.plainZero", laid_bodkin_width_plainZero), ("bodkin/width.plainWide", laid_bodkin_width_plainWide)], narrowed := true }
def StateRowsUptoSaid : Prop := stateRowsUptoRow.holds Tryz.pinned (OpenSpec.upto stateRowsSpec)

/-- 'bodkinlaw28.StateLines', WHERE WHAT IT READS IS OF BULK AT MOST 1048576: true; the input reads as it did. -/
def stateLinesUptoRow : OpenClaim := { program := "ytkkanlcjjpoklaagreatdoor", sum := "48822f3bccb26a231687d544654250e7bd0340f6730d926844e6b37540661155", func := "bodkin/bodkinlaw28.StateLines", spec := "stateLines", inPlace := ["internal/bytealg.IndexByteString", "internal/bytealg.IndexString", "internal/bytealg.CountString", "internal/abi.NoEscape"], unfollowed := true, recurses := true, named := ["bodkin/utf.most", "internal/bytealg.MaxLen", "bodkin/width.plainZero", "bodkin/width.plainWide"], plainKeys := false, apart := false, laid := [("bodkin/utf.most", laid_bodkin_utf_most), ("bodkin/width.plainZero", laid_bodkin_width_plainZero), ("bodkin/width.plainWide", laid_bodkin_width_plainWide)], narrowed := true }
def StateLinesUptoSaid : Prop := stateLinesUptoRow.holds Tryz.pinned (OpenSpec.upto stateLinesSpec)

/-- 'bodkinlaw28.StateParts', WHERE WHAT IT READS IS OF BULK AT MOST 1048576: true; the input reads as it did. -/
def statePartsUptoRow : OpenClaim := { program := "ytkkanlcjjpoklaagreatdoor", sum := "48822f3bccb26a231687d544654250e7bd0340f6730d926844e6b37540661155", func := "bodkin/bodkinlaw28.StateParts", spec := "stateParts", inPlace := ["internal/bytealg.IndexByteString", "internal/bytealg.IndexString", "internal/bytealg.CountString", "internal/abi.NoEscape"], unfollowed := true, recurses := true, named := ["bodkin/utf.most", "internal/bytealg.MaxLen", "bodkin/width.plainZero", "bodkin/width.plainWide"], plainKeys := false, apart := false, laid := [("bodkin/utf.most", laid_bodkin_utf_most), ("bodkin/width.plainZero", laid_bodkin_width_plainZero), ("bodkin/width.plainWide", laid_bodkin_width_plainWide)], narrowed := true }
def StatePartsUptoSaid : Prop := statePartsUptoRow.holds Tryz.pinned (OpenSpec.upto statePartsSpec)

/-- 'bodkinlaw28.StateNew', WHERE WHAT IT READS IS OF BULK AT MOST 1048576: true; the input reads as it did. -/
def stateNewUptoRow : OpenClaim := { program := "ytkkanlcjjpoklaagreatdoor", sum := "48822f3bccb26a231687d544654250e7bd0340f6730d926844e6b37540661155", func := "bodkin/bodkinlaw28.StateNew", spec := "stateNew", inPlace := ["internal/bytealg.IndexByteString", "internal/bytealg.IndexString", "internal/bytealg.CountString", "internal/abi.NoEscape"], unfollowed := true, recurses := true, named := ["bodkin/utf.most", "internal/bytealg.MaxLen", "bodkin/width.plainZero", "bodkin/width.plainWide"], plainKeys := false, apart := false, laid := [("bodkin/utf.most", laid_bodkin_utf_most), ("bodkin/width.plainZero", laid_bodkin_width_plainZero), ("bodkin/width.plainWide", laid_bodkin_width_plainWide)], narrowed := true }
def StateNewUptoSaid : Prop := stateNewUptoRow.holds Tryz.pinned (OpenSpec.upto stateNewSpec)

/-- 'bodkinlaw28.StateWith', WHERE WHAT IT READS IS OF BULK AT MOST 1048576: true; the input reads as it did. -/
def stateWithUptoRow : OpenClaim := { program := "ytkkanlcjjpoklaagreatdoor", sum := "48822f3bccb26a231687d544654250e7bd0340f6730d926844e6b37540661155", func := "bodkin/bodkinlaw28.StateWith", spec := "stateWith", inPlace := ["internal/bytealg.IndexByteString", "internal/bytealg.IndexString", "internal/bytealg.CountString", "internal/abi.NoEscape"], unfollowed := true, recurses := true, named := ["bodkin/utf.most", "internal/bytealg.MaxLen", "bodkin/width.plainZero", "bodkin/width.plainWide"], plainKeys := false, apart := false, laid := [("bodkin/utf.most", laid_bodkin_utf_most), ("bodkin/width.plainZero", laid_bodkin_width_plainZero), ("bodkin/width.plainWide", laid_bodkin_width_plainWide)], narrowed := true }
def StateWithUptoSaid : Prop := stateWithUptoRow.holds Tryz.pinned (OpenSpec.upto stateWithSpec)

/-- 'bodkinlaw28.StateShown', WHERE WHAT IT READS IS OF BULK AT MOST 1048576: true; the input reads as it did. -/
def stateShownUptoRow : OpenClaim := { program := "ytkkanlcjjpoklaagreatdoor", sum := "48822f3bccb26a231687d544654250e7bd0340f6730d926844e6b37540661155", func := "bodkin/bodkinlaw28.StateShown", spec := "stateShown", inPlace := ["internal/bytealg.IndexByteString", "internal/bytealg.IndexString", "internal/bytealg.CountString", "internal/abi.NoEscape"], unfollowed := true, recurses := true, named := ["bodkin/utf.most", "internal/bytealg.MaxLen", "bodkin/width.plainZero", "bodkin/width.plainWide"], plainKeys := false, apart := false, laid := [("bodkin/utf.most", laid_bodkin_utf_most), ("bodkin/width.plainZero", laid_bodkin_width_plainZero), ("bodkin/width.plainWide", laid_bodkin_width_plainWide)], narrowed := true }
def StateShownUptoSaid : Prop := stateShownUptoRow.holds Tryz.pinned (OpenSpec.upto stateShownSpec)

end Rows
end Go.Proofs.YtkkanlcjjpoklaaGreatDoor
