/-
  DERIVED. GIVEN WITH THE SEED: THE CARDS: each row of YthnooilghadjkaaGreatDoorRows.lean that lists a variable, with what it lists TIED to the program's text (the seventh form; the later family's looks); each row that meets fmt, with fmt's text TOLD by the authors' own Lean function (tested against real Go, not proved from fmt's source: count such statements apart). THE CARD IS WHAT COUNTS. Prove the row's statement (the work); the ties are given (YthnooilghadjkaaGreatDoorTie.lean); close each card by the builder's one call (the guide's Derived/Test/ToyasCard.lean, 'card_holds'). Laid BY PROGRAM, IN A SANDBOX (cutbox-door.mjs). By AI agents, Wed Nov 11 2026. No macro, syntax, notation, axiom, sorry.
-/
import Derived.Test.YthnooilghadjkaaGreatDoorRows
import GoSem.ClaimSeven
namespace Go.Proofs.YthnooilghadjkaaGreatDoor
namespace Rows

/-- THE TIED CARD OF 'bodkinlaw27.WindowLines'. -/
def windowLinesCard : Claim7 := { stood := { row := windowLinesRow, standIns := [], harness := (true, "ac1fb0ac875ac1d728ef5d6e4c36be33aeccdd79168370d7843b5f56dd3e11c7"), looks := true }, kinds := [], alts := [], laidByText := true, laidKinds := [.data], laidTests := true, laidLooks := .later }
def WindowLinesCardSaid : Prop := Claim7.holds Tryz.pinned (.plain (OpenSpec.ofChange windowLinesSpec)) windowLinesCard

/-- THE TIED CARD OF 'bodkinlaw21.SourceLines'. -/
def sourceLinesCard : Claim7 := { stood := { row := sourceLinesRow, standIns := [], harness := (true, "ac1fb0ac875ac1d728ef5d6e4c36be33aeccdd79168370d7843b5f56dd3e11c7"), looks := true }, kinds := [], alts := [], laidByText := true, laidKinds := [.data], laidTests := true, laidLooks := .later }
def SourceLinesCardSaid : Prop := Claim7.holds Tryz.pinned (.plain (OpenSpec.ofChange sourceLinesSpec)) sourceLinesCard

/-- THE TIED CARD OF 'bodkinlaw21.SourceRow'. -/
def sourceRowCard : Claim7 := { stood := { row := sourceRowRow, standIns := [], harness := (true, "ac1fb0ac875ac1d728ef5d6e4c36be33aeccdd79168370d7843b5f56dd3e11c7"), looks := true }, kinds := [], alts := [], laidByText := true, laidKinds := [.data], laidTests := true, laidLooks := .later }
def SourceRowCardSaid : Prop := Claim7.holds Tryz.pinned (.plain (OpenSpec.ofChange sourceRowSpec)) sourceRowCard

/-- THE TIED CARD OF 'bodkinlaw21.SourceKeeps'. -/
def sourceKeepsCard : Claim7 := { stood := { row := sourceKeepsRow, standIns := [], harness := (true, "ac1fb0ac875ac1d728ef5d6e4c36be33aeccdd79168370d7843b5f56dd3e11c7"), looks := true }, kinds := [], alts := [], laidByText := true, laidKinds := [.data], laidTests := true, laidLooks := .later }
def SourceKeepsCardSaid : Prop := Claim7.holds Tryz.pinned (.plain (OpenSpec.ofChange sourceKeepsSpec)) sourceKeepsCard

/-- THE TIED CARD OF 'bodkinlaw21.SourceAt'. -/
def sourceAtCard : Claim7 := { stood := { row := sourceAtRow, standIns := [], harness := (true, "ac1fb0ac875ac1d728ef5d6e4c36be33aeccdd79168370d7843b5f56dd3e11c7"), looks := true }, kinds := [], alts := [], laidByText := true, laidKinds := [.data], laidTests := true, laidLooks := .later }
def SourceAtCardSaid : Prop := Claim7.holds Tryz.pinned (.plain (OpenSpec.ofChange sourceAtSpec)) sourceAtCard

/-- THE TIED CARD OF 'bodkinlaw27.WindowAll'. -/
def windowAllCard : Claim7 := { stood := { row := windowAllRow, standIns := [], harness := (true, "ac1fb0ac875ac1d728ef5d6e4c36be33aeccdd79168370d7843b5f56dd3e11c7"), looks := true }, kinds := [], alts := [], laidByText := true, laidKinds := [.data], laidTests := true, laidLooks := .later }
def WindowAllCardSaid : Prop := Claim7.holds Tryz.pinned (.plain (OpenSpec.ofChange windowAllSpec)) windowAllCard

/-- THE SECOND FORM's CARD OF 'bodkinlaw27.WindowLines'. -/
def windowLinesUptoCard : Claim7 := { stood := { row := windowLinesUptoRow, standIns := [], harness := (true, "ac1fb0ac875ac1d728ef5d6e4c36be33aeccdd79168370d7843b5f56dd3e11c7"), looks := true }, kinds := [], alts := [], laidByText := true, laidKinds := [.data], laidTests := true, laidLooks := .later }
def WindowLinesUptoCardSaid : Prop := Claim7.holds Tryz.pinned (.plain (OpenSpec.upto windowLinesSpec)) windowLinesUptoCard

/-- THE SECOND FORM's CARD OF 'bodkinlaw21.SourceLines'. -/
def sourceLinesUptoCard : Claim7 := { stood := { row := sourceLinesUptoRow, standIns := [], harness := (true, "ac1fb0ac875ac1d728ef5d6e4c36be33aeccdd79168370d7843b5f56dd3e11c7"), looks := true }, kinds := [], alts := [], laidByText := true, laidKinds := [.data], laidTests := true, laidLooks := .later }
def SourceLinesUptoCardSaid : Prop := Claim7.holds Tryz.pinned (.plain (OpenSpec.upto sourceLinesSpec)) sourceLinesUptoCard

/-- THE SECOND FORM's CARD OF 'bodkinlaw21.SourceRow'. -/
def sourceRowUptoCard : Claim7 := { stood := { row := sourceRowUptoRow, standIns := [], harness := (true, "ac1fb0ac875ac1d728ef5d6e4c36be33aeccdd79168370d7843b5f56dd3e11c7"), looks := true }, kinds := [], alts := [], laidByText := true, laidKinds := [.data], laidTests := true, laidLooks := .later }
def SourceRowUptoCardSaid : Prop := Claim7.holds Tryz.pinned (.plain (OpenSpec.upto sourceRowSpec)) sourceRowUptoCard

/-- THE SECOND FORM's CARD OF 'bodkinlaw21.SourceKeeps'. -/
def sourceKeepsUptoCard : Claim7 := { stood := { row := sourceKeepsUptoRow, standIns := [], harness := (true, "ac1fb0ac875ac1d728ef5d6e4c36be33aeccdd79168370d7843b5f56dd3e11c7"), looks := true }, kinds := [], alts := [], laidByText := true, laidKinds := [.data], laidTests := true, laidLooks := .later }
def SourceKeepsUptoCardSaid : Prop := Claim7.holds Tryz.pinned (.plain (OpenSpec.upto sourceKeepsSpec)) sourceKeepsUptoCard

/-- THE SECOND FORM's CARD OF 'bodkinlaw21.SourceAt'. -/
def sourceAtUptoCard : Claim7 := { stood := { row := sourceAtUptoRow, standIns := [], harness := (true, "ac1fb0ac875ac1d728ef5d6e4c36be33aeccdd79168370d7843b5f56dd3e11c7"), looks := true }, kinds := [], alts := [], laidByText := true, laidKinds := [.data], laidTests := true, laidLooks := .later }
def SourceAtUptoCardSaid : Prop := Claim7.holds Tryz.pinned (.plain (OpenSpec.upto sourceAtSpec)) sourceAtUptoCard

/-- THE SECOND FORM's CARD OF 'bodkinlaw27.WindowAll'. -/
def windowAllUptoCard : Claim7 := { stood := { row := windowAllUptoRow, standIns := [], harness := (true, "ac1fb0ac875ac1d728ef5d6e4c36be33aeccdd79168370d7843b5f56dd3e11c7"), looks := true }, kinds := [], alts := [], laidByText := true, laidKinds := [.data], laidTests := true, laidLooks := .later }
def WindowAllUptoCardSaid : Prop := Claim7.holds Tryz.pinned (.plain (OpenSpec.upto windowAllSpec)) windowAllUptoCard
end Rows
end Go.Proofs.YthnooilghadjkaaGreatDoor
