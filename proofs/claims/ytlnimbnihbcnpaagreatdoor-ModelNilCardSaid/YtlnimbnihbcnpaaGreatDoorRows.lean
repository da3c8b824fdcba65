/-
  NARROWER THAN 'FOR EVERY INPUT', by the rows' own cells (each row's printed sentence says how): SourceNil: laid · SelectsNil: laid · StateNil: laid · ConvertNil: laid · ModelNil: laid · MovesClass: laid · MovesNil: laid · BlocksNil: laid · ReflowCover: laid.
  DERIVED. THE GIVEN ROWS OF THIS SEAT. 9 by the template 'for every input the law returns true; each argument reads behind the call as it read before'; 0 by the template 'total and deterministic' (their statements: YtlnimbnihbcnpaaGreatDoorTotals.lean).
  GIVEN WITH THE SEED: the statements are not yours to turn. If you find one false, say at which input.
  Laid BY PROGRAM, IN A SANDBOX (cutbox-rows.mjs): the forced cells as the released guide's own fill.sh prints them over the translation 5277463ac947ea32… (all of the seat's roots in one cut). By AI agents, Wed Nov 11 2026. No macro, syntax, notation, axiom, sorry.
-/
import Derived.Test.YtlnimbnihbcnpaaGreatDoorChecked
import GoSem.Claim
import GoSem.ClaimJoined
import GoSem.ClaimMapViews
import Derived.JoinedTies
import Derived.KernelRfl
namespace Go.Proofs.YtlnimbnihbcnpaaGreatDoor
/- THE CELL 'sum', in the pinned program and in every row, IS THE sha256 OF THE DUMP (.gsa) THAT YtlnimbnihbcnpaaGreatDoorProg.lean LOADS. Nothing in Lean hashes anything: it is a label: what it is worth is what the hold of that sum in a sandbox is worth. -/
noncomputable def Tryz.pinned : Pinned := { name := "ytlnimbnihbcnpaagreatdoor", sum := "5277463ac947ea32862a0a3db47312b9b0e5ded2a883338a88bb6f7b10ece347", checked := Tryz.checked }
namespace Rows
def none {H : Type} : Left H := { results := [], args := [] }

/- WHAT THE LISTED PACKAGE-LEVEL VARIABLES READ AS WHEN THE CALL BEGINS. Each datum BY PROGRAM (the guide's laid-datum.mjs) off the statement by which the dump's own 'gosem.cut.vars' lays the variable. In a bare row this is a premise. The card (YtlnimbnihbcnpaaGreatDoorCards.lean) ties it to the program's text. -/
def laid_bodkin_utf_most {H : Type} : DataW H := .agg [.lit (.int .i32 127), .lit (.int .i32 2047), .lit (.int .i32 65535), .lit (.int .i32 1114111)]
def laid_bodkin_width_plainZero {H : Type} : DataW H := .agg [.agg [.lit (.int .i32 768), .lit (.int .i32 879)], .agg [.lit (.int .i32 8203), .lit (.int .i32 8207)], .agg [.lit (.int .i32 65024), .lit (.int .i32 65039)]]
def laid_bodkin_width_plainWide {H : Type} : DataW H := .agg [.agg [.lit (.int .i32 4352), .lit (.int .i32 4447)], .agg [.lit (.int .i32 11904), .lit (.int .i32 12350)], .agg [.lit (.int .i32 12353), .lit (.int .i32 19903)], .agg [.lit (.int .i32 19968), .lit (.int .i32 40959)], .agg [.lit (.int .i32 44032), .lit (.int .i32 55203)], .agg [.lit (.int .i32 63744), .lit (.int .i32 64255)], .agg [.lit (.int .i32 65280), .lit (.int .i32 65376)], .agg [.lit (.int .i32 127744), .lit (.int .i32 128591)]]

/-- 'bodkinlaw21.SourceNil': WHATEVER THE INPUT: true; the input reads as it did. -/
def sourceNilSpec : ChangeSpec := { name := "sourceNil", fn := fun _ => fun
  | [d] => { results := [.lit (.bool true)], args := [d] }
  | _ => none }
def sourceNilRow : OpenClaim := { program := "ytlnimbnihbcnpaagreatdoor", sum := "5277463ac947ea32862a0a3db47312b9b0e5ded2a883338a88bb6f7b10ece347", func := "bodkin/bodkinlaw21.SourceNil", spec := "sourceNil", inPlace := ["internal/bytealg.CountString", "internal/bytealg.IndexByteString", "internal/bytealg.IndexString", "internal/abi.NoEscape"], unfollowed := true, recurses := true, named := ["internal/bytealg.MaxLen", "bodkin/utf.most"], plainKeys := false, apart := false, laid := [("bodkin/utf.most", laid_bodkin_utf_most)] }
def SourceNilSaid : Prop := sourceNilRow.holds Tryz.pinned (OpenSpec.ofChange sourceNilSpec)

/-- ITS FALSE NEIGHBOUR: 'it returns false'. Refute it at one input. -/
def sourceNilWrong : ChangeSpec := { name := "sourceNil", fn := fun _ => fun
  | [d] => { results := [.lit (.bool false)], args := [d] }
  | _ => none }
def SourceNilWrongFalsely : Prop := sourceNilRow.holds Tryz.pinned (OpenSpec.ofChange sourceNilWrong)

/-- 'bodkinlaw38.SelectsNil': WHATEVER THE INPUT: true; the input reads as it did. -/
def selectsNilSpec : ChangeSpec := { name := "selectsNil", fn := fun _ => fun
  | [d1, d2] => { results := [.lit (.bool true)], args := [d1, d2] }
  | _ => none }
def selectsNilRow : OpenClaim := { program := "ytlnimbnihbcnpaagreatdoor", sum := "5277463ac947ea32862a0a3db47312b9b0e5ded2a883338a88bb6f7b10ece347", func := "bodkin/bodkinlaw38.SelectsNil", spec := "selectsNil", inPlace := ["internal/bytealg.CountString", "internal/bytealg.IndexByteString", "internal/bytealg.IndexString", "internal/abi.NoEscape"], unfollowed := true, recurses := true, named := ["bodkin/width.plainZero", "bodkin/width.plainWide", "internal/bytealg.MaxLen"], plainKeys := false, apart := false, laid := [("bodkin/width.plainZero", laid_bodkin_width_plainZero), ("bodkin/width.plainWide", laid_bodkin_width_plainWide)] }
def SelectsNilSaid : Prop := selectsNilRow.holds Tryz.pinned (OpenSpec.ofChange selectsNilSpec)

/-- ITS FALSE NEIGHBOUR: 'it returns false'. Refute it at one input. -/
def selectsNilWrong : ChangeSpec := { name := "selectsNil", fn := fun _ => fun
  | [d1, d2] => { results := [.lit (.bool false)], args := [d1, d2] }
  | _ => none }
def SelectsNilWrongFalsely : Prop := selectsNilRow.holds Tryz.pinned (OpenSpec.ofChange selectsNilWrong)

/-- 'bodkinlaw28.StateNil': WHATEVER THE INPUT: true; the input reads as it did. -/
def stateNilSpec : ChangeSpec := { name := "stateNil", fn := fun _ => fun
  | [d1, d2] => { results := [.lit (.bool true)], args := [d1, d2] }
  | _ => none }
def stateNilRow : OpenClaim := { program := "ytlnimbnihbcnpaagreatdoor", sum := "5277463ac947ea32862a0a3db47312b9b0e5ded2a883338a88bb6f7b10ece347", func := "bodkin/bodkinlaw28.StateNil", spec := "stateNil", inPlace := ["internal/bytealg.CountString", "internal/bytealg.IndexByteString", "internal/bytealg.IndexString", "internal/abi.NoEscape"], unfollowed := true, recurses := true, named := ["bodkin/width.plainZero", "bodkin/width.plainWide", "internal/bytealg.MaxLen", "bodkin/utf.most"], plainKeys := false, apart := false, laid := [("bodkin/utf.most", laid_bodkin_utf_most), ("bodkin/width.plainZero", laid_bodkin_width_plainZero), ("bodkin/width.plainWide", laid_bodkin_width_plainWide)] }
def StateNilSaid : Prop := stateNilRow.holds Tryz.pinned (OpenSpec.ofChange stateNilSpec)

/-- ITS FALSE NEIGHBOUR: 'it returns false'. Refute it at one input. -/
def stateNilWrong : ChangeSpec := { name := "stateNil", fn := fun _ => fun
  | [d1, d2] => { results := [.lit (.bool false)], args := [d1, d2] }
  | _ => none }
def StateNilWrongFalsely : Prop := stateNilRow.holds Tryz.pinned (OpenSpec.ofChange stateNilWrong)

/-- 'bodkinlaw30.ConvertNil': WHATEVER THE INPUT: true; the input reads as it did. -/
def convertNilSpec : ChangeSpec := { name := "convertNil", fn := fun _ => fun
  | [d1, d2] => { results := [.lit (.bool true)], args := [d1, d2] }
  | _ => none }
def convertNilRow : OpenClaim := { program := "ytlnimbnihbcnpaagreatdoor", sum := "5277463ac947ea32862a0a3db47312b9b0e5ded2a883338a88bb6f7b10ece347", func := "bodkin/bodkinlaw30.ConvertNil", spec := "convertNil", inPlace := ["internal/bytealg.CountString", "internal/bytealg.IndexByteString", "internal/bytealg.IndexString", "internal/abi.NoEscape"], unfollowed := true, recurses := true, named := ["bodkin/width.plainZero", "bodkin/width.plainWide", "internal/bytealg.MaxLen", "bodkin/utf.most"], plainKeys := false, apart := false, laid := [("bodkin/utf.most", laid_bodkin_utf_most), ("bodkin/width.plainZero", laid_bodkin_width_plainZero), ("bodkin/width.plainWide", laid_bodkin_width_plainWide)] }
def ConvertNilSaid : Prop := convertNilRow.holds Tryz.pinned (OpenSpec.ofChange convertNilSpec)

/-- ITS FALSE NEIGHBOUR: 'it returns false'. Refute it at one input. -/
def convertNilWrong : ChangeSpec := { name := "convertNil", fn := fun _ => fun
  | [d1, d2] => { results := [.lit (.bool false)], args := [d1, d2] }
  | _ => none }
def ConvertNilWrongFalsely : Prop := convertNilRow.holds Tryz.pinned (OpenSpec.ofChange convertNilWrong)

/-- 'bodkinlaw26.ModelNil': WHATEVER THE INPUT: true; the input reads as it did. -/
def modelNilSpec : ChangeSpec := { name := "modelNil", fn := fun _ => fun
  | [d] => { results := [.lit (.bool true)], args := [d] }
  | _ => none }
def modelNilRow : OpenClaim := { program := "ytlnimbnihbcnpaagreatdoor", sum := "5277463ac947ea32862a0a3db47312b9b0e5ded2a883338a88bb6f7b10ece347", func := "bodkin/bodkinlaw26.ModelNil", spec := "modelNil", inPlace := ["internal/bytealg.IndexByteString", "internal/bytealg.IndexString", "internal/abi.NoEscape", "internal/bytealg.MakeNoZero", "internal/bytealg.CountString"], unfollowed := true, recurses := true, named := ["bodkin/utf.most", "internal/bytealg.MaxLen", "bodkin/width.plainZero", "bodkin/width.plainWide"], plainKeys := false, apart := false, laid := [("bodkin/utf.most", laid_bodkin_utf_most), ("bodkin/width.plainZero", laid_bodkin_width_plainZero), ("bodkin/width.plainWide", laid_bodkin_width_plainWide)] }
def ModelNilSaid : Prop := modelNilRow.holds Tryz.pinned (OpenSpec.ofChange modelNilSpec)

/-- ITS FALSE NEIGHBOUR: 'it returns false'. Refute it at one input. -/
def modelNilWrong : ChangeSpec := { name := "modelNil", fn := fun _ => fun
  | [d] => { results := [.lit (.bool false)], args := [d] }
  | _ => none }
def ModelNilWrongFalsely : Prop := modelNilRow.holds Tryz.pinned (OpenSpec.ofChange modelNilWrong)

/-- 'bodkinlaw37.MovesClass': WHATEVER THE INPUT: true; the input reads as it did. -/
def movesClassSpec : ChangeSpec := { name := "movesClass", fn := fun _ => fun
  | [d] => { results := [.lit (.bool true)], args := [d] }
  | _ => none }
def movesClassRow : OpenClaim := { program := "ytlnimbnihbcnpaagreatdoor", sum := "5277463ac947ea32862a0a3db47312b9b0e5ded2a883338a88bb6f7b10ece347", func := "bodkin/bodkinlaw37.MovesClass", spec := "movesClass", inPlace := ["internal/bytealg.IndexByteString", "internal/bytealg.IndexString", "internal/bytealg.CountString", "internal/abi.NoEscape"], unfollowed := true, recurses := true, named := ["bodkin/utf.most", "internal/bytealg.MaxLen", "bodkin/width.plainZero", "bodkin/width.plainWide"], plainKeys := false, apart := false, laid := [("bodkin/utf.most", laid_bodkin_utf_most), ("bodkin/width.plainZero", laid_bodkin_width_plainZero), ("bodkin/width.plainWide", laid_bodkin_width_plainWide)] }
def MovesClassSaid : Prop := movesClassRow.holds Tryz.pinned (OpenSpec.ofChange movesClassSpec)

/-- ITS FALSE NEIGHBOUR: 'it returns false'. Refute it at one input. -/
def movesClassWrong : ChangeSpec := { name := "movesClass", fn := fun _ => fun
  | [d] => { results := [.lit (.bool false)], args := [d] }
  | _ => none }
def MovesClassWrongFalsely : Prop := movesClassRow.holds Tryz.pinned (OpenSpec.ofChange movesClassWrong)

/-- 'bodkinlaw37.MovesNil': WHATEVER THE INPUT: true; the input reads as it did. -/
def movesNilSpec : ChangeSpec := { name := "movesNil", fn := fun _ => fun
  | [d1, d2] => { results := [.lit (.bool true)], args := [d1, d2] }
  | _ => none }
def movesNilRow : OpenClaim := { program := "ytlnimbnihbcnpaagreatdoor", sum := "5277463ac947ea32862a0a3db47312b9b0e5ded2a883338a88bb6f7b10ece347", func := "bodkin/bodkinlaw37.MovesNil", spec := "movesNil", inPlace := ["internal/bytealg.CountString", "internal/bytealg.IndexByteString", "internal/bytealg.IndexString", "internal/abi.NoEscape"], unfollowed := true, recurses := true, named := ["bodkin/width.plainZero", "bodkin/width.plainWide", "internal/bytealg.MaxLen", "bodkin/utf.most"], plainKeys := false, apart := false, laid := [("bodkin/utf.most", laid_bodkin_utf_most), ("bodkin/width.plainZero", laid_bodkin_width_plainZero), ("bodkin/width.plainWide", laid_bodkin_width_plainWide)] }
def MovesNilSaid : Prop := movesNilRow.holds Tryz.pinned (OpenSpec.ofChange movesNilSpec)

/-- ITS FALSE NEIGHBOUR: 'it returns false'. Refute it at one input. -/
def movesNilWrong : ChangeSpec := { name := "movesNil", fn := fun _ => fun
  | [d1, d2] => { results := [.lit (.bool false)], args := [d1, d2] }
  | _ => none }
def MovesNilWrongFalsely : Prop := movesNilRow.holds Tryz.pinned (OpenSpec.ofChange movesNilWrong)

/-- 'bodkinlaw41.BlocksNil': WHATEVER THE INPUT: true; the input reads as it did. -/
def blocksNilSpec : ChangeSpec := { name := "blocksNil", fn := fun _ => fun
  | [d] => { results := [.lit (.bool true)], args := [d] }
  | _ => none }
def blocksNilRow : OpenClaim := { program := "ytlnimbnihbcnpaagreatdoor", sum := "5277463ac947ea32862a0a3db47312b9b0e5ded2a883338a88bb6f7b10ece347", func := "bodkin/bodkinlaw41.BlocksNil", spec := "blocksNil", inPlace := ["internal/bytealg.CountString", "internal/bytealg.IndexByteString", "internal/bytealg.IndexString", "internal/abi.NoEscape"], unfollowed := true, recurses := true, named := ["bodkin/width.plainZero", "bodkin/width.plainWide", "internal/bytealg.MaxLen", "bodkin/utf.most"], plainKeys := false, apart := false, laid := [("bodkin/utf.most", laid_bodkin_utf_most), ("bodkin/width.plainZero", laid_bodkin_width_plainZero), ("bodkin/width.plainWide", laid_bodkin_width_plainWide)] }
def BlocksNilSaid : Prop := blocksNilRow.holds Tryz.pinned (OpenSpec.ofChange blocksNilSpec)

/-- ITS FALSE NEIGHBOUR: 'it returns false'. Refute it at one input. -/
def blocksNilWrong : ChangeSpec := { name := "blocksNil", fn := fun _ => fun
  | [d] => { results := [.lit (.bool false)], args := [d] }
  | _ => none }
def BlocksNilWrongFalsely : Prop := blocksNilRow.holds Tryz.pinned (OpenSpec.ofChange blocksNilWrong)

/-- 'bodkinlaw29.ReflowCover': WHATEVER THE INPUT: true; the input reads as it did. -/
def reflowCoverSpec : ChangeSpec := { name := "reflowCover", fn := fun _ => fun
  | [d] => { results := [.lit (.bool true)], args := [d] }
  | _ => none }
def reflowCoverRow : OpenClaim := { program := "ytlnimbnihbcnpaagreatdoor", sum := "5277463ac947ea32862a0a3db47312b9b0e5ded2a883338a88bb6f7b10ece347", func := "bodkin/bodkinlaw29.ReflowCover", spec := "reflowCover", inPlace := ["internal/bytealg.IndexByteString", "internal/bytealg.IndexString", "internal/bytealg.CountString", "internal/abi.NoEscape"], unfollowed := true, recurses := true, named := ["bodkin/utf.most", "internal/bytealg.MaxLen", "bodkin/width.plainZero", "bodkin/width.plainWide"], plainKeys := false, apart := false, laid := [("bodkin/utf.most", laid_bodkin_utf_most), ("bodkin/width.plainZero", laid_bodkin_width_plainZero), ("bodkin/width.plainWide", laid_bodkin_width_plainWide)] }
def ReflowCoverSaid : Prop := reflowCoverRow.holds Tryz.pinned (OpenSpec.ofChange reflowCoverSpec)

/-- ITS FALSE NEIGHBOUR: 'it returns false'. Refute it at one input. -/
def reflowCoverWrong : ChangeSpec := { name := "reflowCover", fn := fun _ => fun
  | [d] => { results := [.lit (.bool false)], args := [d] }
  | _ => none }
def ReflowCoverWrongFalsely : Prop := reflowCoverRow.holds Tryz.pinned (OpenSpec.ofChange reflowCoverWrong)

/- THE SECOND FORM. 'bulk': how many values and letters a reading holds, each counted each time it is reached (what is shared counts as often as it is met; a slice's spare places count too). A statement '..UptoSaid' is the law's where the arguments, and the package variables that the reading takes, are together of bulk at most 1048576: NARROWER than '..Said'. Prove '..Said' where nothing that the law and all that it calls make is longer than what came in: it says more and counts as full. Else prove '..UptoSaid'. A law counts once. -/
mutual
def uptoBulk {H : Type} : DataW H → Nat
  | .lit (.string bytes) => bytes.length + 1
  | .lit _ => 1
  | .nil => 1
  | .ptr d => uptoBulk d + 1
  | .slice elems spare => uptoBulkAll elems + uptoBulkAll spare + 1
  | .agg parts => uptoBulkAll parts + 1
  | .iface _ d => uptoBulk d + 1
  | .map entries => uptoBulkEntries entries + 1
  | .held _ => 1
def uptoBulkAll {H : Type} : List (DataW H) → Nat
  | [] => 0
  | d :: r => uptoBulk d + uptoBulkAll r
def uptoBulkEntries {H : Type} : List (Lit × DataW H) → Nat
  | [] => 0
  | x :: r => uptoBulkEntry x + uptoBulkEntries r
def uptoBulkEntry {H : Type} : Lit × DataW H → Nat
  | (.string bytes, d) => bytes.length + uptoBulk d + 1
  | (_, d) => uptoBulk d + 1
 end
def uptoSmall : (H : Type) → List (DataW H) → Bool := fun _ ds => decide (uptoBulkAll ds ≤ 1048576)
def OpenSpec.upto (s : _root_.Go.ChangeSpec) : _root_.Go.OpenSpec := { _root_.Go.OpenSpec.ofChange s with cond := some uptoSmall }

/-- 'bodkinlaw21.SourceNil', WHERE WHAT IT READS IS OF BULK AT MOST 1048576: true; the input reads as it did. -/
def sourceNilUptoRow : OpenClaim := { program := "ytlnimbnihbcnpaagreatdoor", sum := "5277463ac947ea32862a0a3db47312b9b0e5ded2a883338a88bb6f7b10ece347", func := "bodkin/bodkinlaw21.SourceNil", spec := "sourceNil", inPlace := ["internal/bytealg.CountString", "internal/bytealg.IndexByteString", "internal/bytealg.IndexString", "internal/abi.NoEscape"], unfollowed := true, recurses := true, named := ["internal/bytealg.MaxLen", "bodkin/utf.most"], plainKeys := false, apart := false, laid := [("bodkin/utf.most", laid_bodkin_utf_most)], narrowed := true }
def SourceNilUptoSaid : Prop := sourceNilUptoRow.holds Tryz.pinned (OpenSpec.upto sourceNilSpec)

/-- 'bodkinlaw38.SelectsNil', WHERE WHAT IT READS IS OF BULK AT MOST 1048576: true; the input reads as it did. -/
def selectsNilUptoRow : OpenClaim := { program := "ytlnimbnihbcnpaagreatdoor", sum := "5277463ac947ea32862a0a3db47312b9b0e5ded2a883338a88bb6f7b10ece347", func := "bodkin/bodkinlaw38.SelectsNil", spec := "selectsNil", inPlace := ["internal/bytealg.CountString", "internal/bytealg.IndexByteString", "internal/bytealg.IndexString", "internal/abi.NoEscape"], unfollowed := true, recurses := true, named := ["bodkin/width.plainZero", "bodkin/width.plainWide", "internal/bytealg.MaxLen"], plainKeys := false, apart := false, laid := [("bodkin/width.plainZero", laid_bodkin_width_plainZero), ("bodkin/width.plainWide", laid_bodkin_width_plainWide)], narrowed := true }
def SelectsNilUptoSaid : Prop := selectsNilUptoRow.holds Tryz.pinned (OpenSpec.upto selectsNilSpec)

/-- 'bodkinlaw28.StateNil', WHERE WHAT IT READS IS OF BULK AT MOST 1048576: true; the input reads as it did. -/
def stateNilUptoRow : OpenClaim := { program := "ytlnimbnihbcnpaagreatdoor", sum := "5277463ac947ea32862a0a3db47312b9b0e5ded2a883338a88bb6f7b10ece347", func := "bodkin/bodkinlaw28.StateNil", spec := "stateNil", inPlace := ["internal/bytealg.CountString", "internal/bytealg.IndexByteString", "internal/bytealg.IndexString", "internal/abi.NoEscape"], unfollowed := true, recurses := true, named := ["bodkin/width.plainZero", "bodkin/width.plainWide", "internal/bytealg.MaxLen", "bodkin/utf.most"], plainKeys := false, apart := false, laid := [("bodkin/utf.most", laid_bodkin_utf_most), ("bodkin/width.plainZero", laid_bodkin_width_plainZero), ("bodkin/width.plainWide", laid_bodkin_width_plainWide)], narrowed := true }
def StateNilUptoSaid : Prop := stateNilUptoRow.holds Tryz.pinned (OpenSpec.upto stateNilSpec)

/-- 'bodkinlaw30.ConvertNil', WHERE WHAT IT READS IS OF BULK AT MOST 1048576: true; the input reads as it did. -/
def convertNilUptoRow : OpenClaim := { program := "ytlnimbnihbcnpaagreatdoor", sum := "5277463ac947ea32862a0a3db47312b9b0e5ded2a883338a88bb6f7b10ece347", func := "bodkin/bodkinlaw30.ConvertNil", spec := "convertNil", inPlace := ["internal/bytealg.CountString", "internal/bytealg.IndexByteString", "internal/bytealg.IndexString", "internal/abi.NoEscape"], unfollowed := true, recurses := true, named := ["bodkin/width.plainZero", "bodkin/width.plainWide", "internal/bytealg.MaxLen", "bodkin/utf.most"], plainKeys := false, apart := false, laid := [("bodkin/utf.most", laid_bodkin_utf_most), ("bodkin/width.plainZero", laid_bodkin_width_plainZero), ("bodkin/width.plainWide", laid_bodkin_width_plainWide)], narrowed := true }
def ConvertNilUptoSaid : Prop := convertNilUptoRow.holds Tryz.pinned (OpenSpec.upto convertNilSpec)

/-- 'bodkinlaw26.ModelNil', WHERE WHAT IT READS IS OF BULK AT MOST 1048576: true; the input reads as it did. -/
def modelNilUptoRow : OpenClaim := { program := "ytlnimbnihbcnpaagreatdoor", sum := "5277463ac947ea32862a0a3db47312b9b0e5ded2a883338a88bb6f7b10ece347", func := "bodkin/bodkinlaw26.ModelNil", spec := "modelNil", inPlace := ["internal/bytealg.IndexByteString", "internal/bytealg.IndexString", "internal/abi.NoEscape", "internal/bytealg.MakeNoZero", "internal/bytealg.CountString"], unfollowed := true, recurses := true, named := ["bodkin/utf.most", "internal/bytealg.MaxLen", "bodkin/width.plainZero", "bodkin/width.plainWide"], plainKeys := false, apart := false, laid := [("bodkin/utf.most", laid_bodkin_utf_most), ("bodkin/width.plainZero", laid_bodkin_width_plainZero), ("bodkin/width.plainWide", laid_bodkin_width_plainWide)], narrowed := true }
def ModelNilUptoSaid : Prop := modelNilUptoRow.holds Tryz.pinned (OpenSpec.upto modelNilSpec)

/-- 'bodkinlaw37.MovesClass', WHERE WHAT IT READS IS OF BULK AT MOST 1048576: true; the input reads as it did. -/
def movesClassUptoRow : OpenClaim := { program := "ytlnimbnihbcnpaagreatdoor", sum := "5277463ac947ea32862a0a3db47312b9b0e5ded2a883338a88bb6f7b10ece347", func := "bodkin/bodkinlaw37.MovesClass", spec := "movesClass", inPlace := ["internal/bytealg.IndexByteString", "internal/bytealg.IndexString", "internal/bytealg.CountString", "internal/abi.NoEscape"], unfollowed := true, recurses := true, named := ["bodkin/utf.most", "internal/bytealg.MaxLen", "bodkin/width.plainZero", "bodkin/width.plainWide"], plainKeys := false, apart := false, laid := [("bodkin/utf.most", laid_bodkin_utf_most), ("bodkin/width.plainZero", laid_bodkin_width_plainZero), ("bodkin/width.plainWide", laid_bodkin_width_plainWide)], narrowed := true }
def MovesClassUptoSaid : Prop := movesClassUptoRow.holds Tryz.pinned (OpenSpec.upto movesClassSpec)

/-- 'bodkinlaw37.MovesNil', WHERE WHAT IT READS IS OF BULK AT MOST 1048576: true; the input reads as it did. -/
def movesNilUptoRow : OpenClaim := { program := "ytlnimbnihbcnpaagreatdoor", sum := "5277463ac947ea32862a0a3db47312b9b0e5ded2a883338a88bb6f7b10ece347", func := "bodkin/bodkinlaw37.MovesNil", spec := "movesNil", inPlace := ["internal/bytealg.CountString", "internal/bytealg.IndexByteString", "internal/bytealg.IndexString", "internal/abi.NoEscape"], unfollowed := true, recurses := true, named := ["bodkin/width.plainZero", "bodkin/width.plainWide", "internal/bytealg.MaxLen", "bodkin/utf.most"], plainKeys := false, apart := false, laid := [("bodkin/utf.most", laid_bodkin_utf_most), ("bodkin/width.plainZero", laid_bodkin_width_plainZero), ("bodkin/width.plainWide", laid_bodkin_width_plainWide)], narrowed := true }
def MovesNilUptoSaid : Prop := movesNilUptoRow.holds Tryz.pinned (OpenSpec.upto movesNilSpec)

/-- 'bodkinlaw41.BlocksNil', WHERE WHAT IT READS IS OF BULK AT MOST 1048576: true; the input reads as it did. -/
def blocksNilUptoRow : OpenClaim := { program := "ytlnimbnihbcnpaagreatdoor", sum := "5277463ac947ea32862a0a3db47312b9b0e5ded2a883338a88bb6f7b10ece347", func := "bodkin/bodkinlaw41.BlocksNil", spec := "blocksNil", inPlace := ["internal/bytealg.CountString", "internal/bytealg.IndexByteString", "internal/bytealg.IndexString", "internal/abi.NoEscape"], unfollowed := true, recurses := true, named := ["bodkin/width.plainZero", "bodkin/width.plainWide", "internal/bytealg.MaxLen", "bodkin/utf.most"], plainKeys := false, apart := false, laid := [("bodkin/utf.most", laid_bodkin_utf_most), ("bodkin/width.plainZero", laid_bodkin_width_plainZero), ("bodkin/width.plainWide", laid_bodkin_width_plainWide)], narrowed := true }
def BlocksNilUptoSaid : Prop := blocksNilUptoRow.holds Tryz.pinned (OpenSpec.upto blocksNilSpec)

/-- 'bodkinlaw29.ReflowCover', WHERE WHAT IT READS IS OF BULK AT MOST 1048576: true; the input reads as it did. -/
def reflowCoverUptoRow : OpenClaim := { program := "ytlnimbnihbcnpaagreatdoor", sum := "5277463ac947ea32862a0a3db47312b9b0e5ded2a883338a88bb6f7b10ece347", func := "bodkin/bodkinlaw29.ReflowCover", spec := "reflowCover", inPlace := ["internal/bytealg.IndexByteString", "internal/bytealg.IndexString", "internal/bytealg.CountString", "internal/abi.NoEscape"], unfollowed := true, recurses := true, named := ["bodkin/utf.most", "internal/bytealg.MaxLen", "bodkin/width.plainZero", "bodkin/width.plainWide"], plainKeys := false, apart := false, laid := [("bodkin/utf.most", laid_bodkin_utf_most), ("bodkin/width.plainZero", laid_bodkin_width_plainZero), ("bodkin/width.plainWide", laid_bodkin_width_plainWide)], narrowed := true }
def ReflowCoverUptoSaid : Prop := reflowCoverUptoRow.holds Tryz.pinned (OpenSpec.upto reflowCoverSpec)

end Rows
end Go.Proofs.YtlnimbnihbcnpaaGreatDoor
