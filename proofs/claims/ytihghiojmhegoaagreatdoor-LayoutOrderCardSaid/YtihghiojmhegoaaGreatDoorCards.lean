/-
  DERIVED. GIVEN WITH THE SEED: THE CARDS: each row of YtihghiojmhegoaaGreatDoorRows.lean that lists a variable, with what it lists TIED to the program's text (the seventh form; the later family's looks); each row that meets fmt, with fmt's text TOLD by the authors' own Lean function (tested against real Go, not proved from fmt's source: count such statements apart). THE CARD IS WHAT COUNTS. Prove the row's statement (the work); the ties are given (YtihghiojmhegoaaGreatDoorTie.lean); close each card by the builder's one call (the guide's Derived/Test/ToyasCard.lean, 'card_holds'). Laid BY PROGRAM, IN A SANDBOX (cutbox-door.mjs). By AI agents, Wed Nov 11 2026. No macro, syntax, notation, axiom, sorry.
-/
import Derived.Test.YtihghiojmhegoaaGreatDoorRows
import GoSem.ClaimSeven
namespace Go.Proofs.YtihghiojmhegoaaGreatDoor
namespace Rows

/-- THE TIED CARD OF 'bodkinlaw23.LayoutRows'. -/
def layoutRowsCard : Claim7 := { stood := { row := layoutRowsRow, standIns := [], harness := (true, "8adfe1a44b2d12921742ab5bff559bd1f39c41ccbf89b3f018f1f9c4268c805e"), looks := true }, kinds := [], alts := [], laidByText := true, laidKinds := [.data, .data, .data], laidTests := true, laidLooks := .later }
def LayoutRowsCardSaid : Prop := Claim7.holds Tryz.pinned (.plain (OpenSpec.ofChange layoutRowsSpec)) layoutRowsCard

/-- THE TIED CARD OF 'bodkinlaw23.LayoutKeeps'. -/
def layoutKeepsCard : Claim7 := { stood := { row := layoutKeepsRow, standIns := [], harness := (true, "8adfe1a44b2d12921742ab5bff559bd1f39c41ccbf89b3f018f1f9c4268c805e"), looks := true }, kinds := [], alts := [], laidByText := true, laidKinds := [.data, .data, .data], laidTests := true, laidLooks := .later }
def LayoutKeepsCardSaid : Prop := Claim7.holds Tryz.pinned (.plain (OpenSpec.ofChange layoutKeepsSpec)) layoutKeepsCard

/-- THE TIED CARD OF 'bodkinlaw23.LayoutWide'. -/
def layoutWideCard : Claim7 := { stood := { row := layoutWideRow, standIns := [], harness := (true, "8adfe1a44b2d12921742ab5bff559bd1f39c41ccbf89b3f018f1f9c4268c805e"), looks := true }, kinds := [], alts := [], laidByText := true, laidKinds := [.data, .data, .data], laidTests := true, laidLooks := .later }
def LayoutWideCardSaid : Prop := Claim7.holds Tryz.pinned (.plain (OpenSpec.ofChange layoutWideSpec)) layoutWideCard

/-- THE TIED CARD OF 'bodkinlaw23.LayoutOrder'. -/
def layoutOrderCard : Claim7 := { stood := { row := layoutOrderRow, standIns := [], harness := (true, "8adfe1a44b2d12921742ab5bff559bd1f39c41ccbf89b3f018f1f9c4268c805e"), looks := true }, kinds := [], alts := [], laidByText := true, laidKinds := [.data, .data, .data], laidTests := true, laidLooks := .later }
def LayoutOrderCardSaid : Prop := Claim7.holds Tryz.pinned (.plain (OpenSpec.ofChange layoutOrderSpec)) layoutOrderCard

/-- THE TIED CARD OF 'bodkinlaw23.LayoutLines'. -/
def layoutLinesCard : Claim7 := { stood := { row := layoutLinesRow, standIns := [], harness := (true, "8adfe1a44b2d12921742ab5bff559bd1f39c41ccbf89b3f018f1f9c4268c805e"), looks := true }, kinds := [], alts := [], laidByText := true, laidKinds := [.data, .data, .data], laidTests := true, laidLooks := .later }
def LayoutLinesCardSaid : Prop := Claim7.holds Tryz.pinned (.plain (OpenSpec.ofChange layoutLinesSpec)) layoutLinesCard

/-- THE SECOND FORM's CARD OF 'bodkinlaw23.LayoutRows'. -/
def layoutRowsUptoCard : Claim7 := { stood := { row := layoutRowsUptoRow, standIns := [], harness := (true, "8adfe1a44b2d12921742ab5bff559bd1f39c41ccbf89b3f018f1f9c4268c805e"), looks := true }, kinds := [], alts := [], laidByText := true, laidKinds := [.data, .data, .data], laidTests := true, laidLooks := .later }
def LayoutRowsUptoCardSaid : Prop := Claim7.holds Tryz.pinned (.plain (OpenSpec.upto layoutRowsSpec)) layoutRowsUptoCard

/-- THE SECOND FORM's CARD OF 'bodkinlaw23.LayoutKeeps'. -/
def layoutKeepsUptoCard : Claim7 := { stood := { row := layoutKeepsUptoRow, standIns := [], harness := (true, "8adfe1a44b2d12921742ab5bff559bd1f39c41ccbf89b3f018f1f9c4268c805e"), looks := true }, kinds := [], alts := [], laidByText := true, laidKinds := [.data, .data, .data], laidTests := true, laidLooks := .later }
def LayoutKeepsUptoCardSaid : Prop := Claim7.holds Tryz.pinned (.plain (OpenSpec.upto layoutKeepsSpec)) layoutKeepsUptoCard

/-- THE SECOND FORM's CARD OF 'bodkinlaw23.LayoutWide'. -/
def layoutWideUptoCard : Claim7 := { stood := { row := layoutWideUptoRow, standIns := [], harness := (true, "8adfe1a44b2d12921742ab5bff559bd1f39c41ccbf89b3f018f1f9c4268c805e"), looks := true }, kinds := [], alts := [], laidByText := true, laidKinds := [.data, .data, .data], laidTests := true, laidLooks := .later }
def LayoutWideUptoCardSaid : Prop := Claim7.holds Tryz.pinned (.plain (OpenSpec.upto layoutWideSpec)) layoutWideUptoCard

/-- THE SECOND FORM's CARD OF 'bodkinlaw23.LayoutOrder'. -/
def layoutOrderUptoCard : Claim7 := { stood := { row := layoutOrderUptoRow, standIns := [], harness := (true, "8adfe1a44b2d12921742ab5bff559bd1f39c41ccbf89b3f018f1f9c4268c805e"), looks := true }, kinds := [], alts := [], laidByText := true, laidKinds := [.data, .data, .data], laidTests := true, laidLooks := .later }
def LayoutOrderUptoCardSaid : Prop := Claim7.holds Tryz.pinned (.plain (OpenSpec.upto layoutOrderSpec)) layoutOrderUptoCard

/-- THE SECOND FORM's CARD OF 'bodkinlaw23.LayoutLines'. -/
def layoutLinesUptoCard : Claim7 := { stood := { row := layoutLinesUptoRow, standIns := [], harness := (true, "8adfe1a44b2d12921742ab5bff559bd1f39c41ccbf89b3f018f1f9c4268c805e"), looks := true }, kinds := [], alts := [], laidByText := true, laidKinds := [.data, .data, .data], laidTests := true, laidLooks := .later }
def LayoutLinesUptoCardSaid : Prop := Claim7.holds Tryz.pinned (.plain (OpenSpec.upto layoutLinesSpec)) layoutLinesUptoCard
end Rows
end Go.Proofs.YtihghiojmhegoaaGreatDoor
