/-
  DERIVED. GIVEN WITH THE SEED: THE CARDS: each row of YtlnimbnihbcnpaaGreatDoorRows.lean that lists a variable, with what it lists TIED to the program's text (the seventh form; the later family's looks); each row that meets fmt, with fmt's text TOLD by the authors' own Lean function (tested against real Go, not proved from fmt's source: count such statements apart). THE CARD IS WHAT COUNTS. Prove the row's statement (the work); the ties are given (YtlnimbnihbcnpaaGreatDoorTie.lean); close each card by the builder's one call (the guide's Derived/Test/ToyasCard.lean, 'card_holds'). Laid BY PROGRAM, IN A SANDBOX (cutbox-door.mjs). By AI agents, Wed Nov 11 2026. No macro, syntax, notation, axiom, sorry.
-/
import Derived.Test.YtlnimbnihbcnpaaGreatDoorRows
import GoSem.ClaimSeven
namespace Go.Proofs.YtlnimbnihbcnpaaGreatDoor
namespace Rows

/-- THE TIED CARD OF 'bodkinlaw21.SourceNil'. -/
def sourceNilCard : Claim7 := { stood := { row := sourceNilRow, standIns := [], harness := (true, "bd8eb7150ee7de999b3c78ab57184660bd617526138c58911b3c5fa58e98ecaf"), looks := true }, kinds := [], alts := [], laidByText := true, laidKinds := [.data], laidTests := true, laidLooks := .later }
def SourceNilCardSaid : Prop := Claim7.holds Tryz.pinned (.plain (OpenSpec.ofChange sourceNilSpec)) sourceNilCard

/-- THE TIED CARD OF 'bodkinlaw38.SelectsNil'. -/
def selectsNilCard : Claim7 := { stood := { row := selectsNilRow, standIns := [], harness := (true, "bd8eb7150ee7de999b3c78ab57184660bd617526138c58911b3c5fa58e98ecaf"), looks := true }, kinds := [], alts := [], laidByText := true, laidKinds := [.data, .data], laidTests := true, laidLooks := .later }
def SelectsNilCardSaid : Prop := Claim7.holds Tryz.pinned (.plain (OpenSpec.ofChange selectsNilSpec)) selectsNilCard

/-- THE TIED CARD OF 'bodkinlaw28.StateNil'. -/
def stateNilCard : Claim7 := { stood := { row := stateNilRow, standIns := [], harness := (true, "bd8eb7150ee7de999b3c78ab57184660bd617526138c58911b3c5fa58e98ecaf"), looks := true }, kinds := [], alts := [], laidByText := true, laidKinds := [.data, .data, .data], laidTests := true, laidLooks := .later }
def StateNilCardSaid : Prop := Claim7.holds Tryz.pinned (.plain (OpenSpec.ofChange stateNilSpec)) stateNilCard

/-- THE TIED CARD OF 'bodkinlaw30.ConvertNil'. -/
def convertNilCard : Claim7 := { stood := { row := convertNilRow, standIns := [], harness := (true, "bd8eb7150ee7de999b3c78ab57184660bd617526138c58911b3c5fa58e98ecaf"), looks := true }, kinds := [], alts := [], laidByText := true, laidKinds := [.data, .data, .data], laidTests := true, laidLooks := .later }
def ConvertNilCardSaid : Prop := Claim7.holds Tryz.pinned (.plain (OpenSpec.ofChange convertNilSpec)) convertNilCard

/-- THE TIED CARD OF 'bodkinlaw26.ModelNil'. -/
def modelNilCard : Claim7 := { stood := { row := modelNilRow, standIns := [], harness := (true, "bd8eb7150ee7de999b3c78ab57184660bd617526138c58911b3c5fa58e98ecaf"), looks := true }, kinds := [], alts := [], laidByText := true, laidKinds := [.data, .data, .data], laidTests := true, laidLooks := .later }
def ModelNilCardSaid : Prop := Claim7.holds Tryz.pinned (.plain (OpenSpec.ofChange modelNilSpec)) modelNilCard

/-- THE TIED CARD OF 'bodkinlaw37.MovesClass'. -/
def movesClassCard : Claim7 := { stood := { row := movesClassRow, standIns := [], harness := (true, "bd8eb7150ee7de999b3c78ab57184660bd617526138c58911b3c5fa58e98ecaf"), looks := true }, kinds := [], alts := [], laidByText := true, laidKinds := [.data, .data, .data], laidTests := true, laidLooks := .later }
def MovesClassCardSaid : Prop := Claim7.holds Tryz.pinned (.plain (OpenSpec.ofChange movesClassSpec)) movesClassCard

/-- THE TIED CARD OF 'bodkinlaw37.MovesNil'. -/
def movesNilCard : Claim7 := { stood := { row := movesNilRow, standIns := [], harness := (true, "bd8eb7150ee7de999b3c78ab57184660bd617526138c58911b3c5fa58e98ecaf"), looks := true }, kinds := [], alts := [], laidByText := true, laidKinds := [.data, .data, .data], laidTests := true, laidLooks := .later }
def MovesNilCardSaid : Prop := Claim7.holds Tryz.pinned (.plain (OpenSpec.ofChange movesNilSpec)) movesNilCard

/-- THE TIED CARD OF 'bodkinlaw41.BlocksNil'. -/
def blocksNilCard : Claim7 := { stood := { row := blocksNilRow, standIns := [], harness := (true, "bd8eb7150ee7de999b3c78ab57184660bd617526138c58911b3c5fa58e98ecaf"), looks := true }, kinds := [], alts := [], laidByText := true, laidKinds := [.data, .data, .data], laidTests := true, laidLooks := .later }
def BlocksNilCardSaid : Prop := Claim7.holds Tryz.pinned (.plain (OpenSpec.ofChange blocksNilSpec)) blocksNilCard

/-- THE TIED CARD OF 'bodkinlaw29.ReflowCover'. -/
def reflowCoverCard : Claim7 := { stood := { row := reflowCoverRow, standIns := [], harness := (true, "bd8eb7150ee7de999b3c78ab57184660bd617526138c58911b3c5fa58e98ecaf"), looks := true }, kinds := [], alts := [], laidByText := true, laidKinds := [.data, .data, .data], laidTests := true, laidLooks := .later }
def ReflowCoverCardSaid : Prop := Claim7.holds Tryz.pinned (.plain (OpenSpec.ofChange reflowCoverSpec)) reflowCoverCard

/-- THE SECOND FORM's CARD OF 'bodkinlaw21.SourceNil'. -/
def sourceNilUptoCard : Claim7 := { stood := { row := sourceNilUptoRow, standIns := [], harness := (true, "bd8eb7150ee7de999b3c78ab57184660bd617526138c58911b3c5fa58e98ecaf"), looks := true }, kinds := [], alts := [], laidByText := true, laidKinds := [.data], laidTests := true, laidLooks := .later }
def SourceNilUptoCardSaid : Prop := Claim7.holds Tryz.pinned (.plain (OpenSpec.upto sourceNilSpec)) sourceNilUptoCard

/-- THE SECOND FORM's CARD OF 'bodkinlaw38.SelectsNil'. -/
def selectsNilUptoCard : Claim7 := { stood := { row := selectsNilUptoRow, standIns := [], harness := (true, "bd8eb7150ee7de999b3c78ab57184660bd617526138c58911b3c5fa58e98ecaf"), looks := true }, kinds := [], alts := [], laidByText := true, laidKinds := [.data, .data], laidTests := true, laidLooks := .later }
def SelectsNilUptoCardSaid : Prop := Claim7.holds Tryz.pinned (.plain (OpenSpec.upto selectsNilSpec)) selectsNilUptoCard

/-- THE SECOND FORM's CARD OF 'bodkinlaw28.StateNil'. -/
def stateNilUptoCard : Claim7 := { stood := { row := stateNilUptoRow, standIns := [], harness := (true, "bd8eb7150ee7de999b3c78ab57184660bd617526138c58911b3c5fa58e98ecaf"), looks := true }, kinds := [], alts := [], laidByText := true, laidKinds := [.data, .data, .data], laidTests := true, laidLooks := .later }
def StateNilUptoCardSaid : Prop := Claim7.holds Tryz.pinned (.plain (OpenSpec.upto stateNilSpec)) stateNilUptoCard

/-- THE SECOND FORM's CARD OF 'bodkinlaw30.ConvertNil'. -/
def convertNilUptoCard : Claim7 := { stood := { row := convertNilUptoRow, standIns := [], harness := (true, "bd8eb7150ee7de999b3c78ab57184660bd617526138c58911b3c5fa58e98ecaf"), looks := true }, kinds := [], alts := [], laidByText := true, laidKinds := [.data, .data, .data], laidTests := true, laidLooks := .later }
def ConvertNilUptoCardSaid : Prop := Claim7.holds Tryz.pinned (.plain (OpenSpec.upto convertNilSpec)) convertNilUptoCard

/-- THE SECOND FORM's CARD OF 'bodkinlaw26.ModelNil'. -/
def modelNilUptoCard : Claim7 := { stood := { row := modelNilUptoRow, standIns := [], harness := (true, "bd8eb7150ee7de999b3c78ab57184660bd617526138c58911b3c5fa58e98ecaf"), looks := true }, kinds := [], alts := [], laidByText := true, laidKinds := [.data, .data, .data], laidTests := true, laidLooks := .later }
def ModelNilUptoCardSaid : Prop := Claim7.holds Tryz.pinned (.plain (OpenSpec.upto modelNilSpec)) modelNilUptoCard

/-- THE SECOND FORM's CARD OF 'bodkinlaw37.MovesClass'. -/
def movesClassUptoCard : Claim7 := { stood := { row := movesClassUptoRow, standIns := [], harness := (true, "bd8eb7150ee7de999b3c78ab57184660bd617526138c58911b3c5fa58e98ecaf"), looks := true }, kinds := [], alts := [], laidByText := true, laidKinds := [.data, .data, .data], laidTests := true, laidLooks := .later }
def MovesClassUptoCardSaid : Prop := Claim7.holds Tryz.pinned (.plain (OpenSpec.upto movesClassSpec)) movesClassUptoCard

/-- THE SECOND FORM's CARD OF 'bodkinlaw37.MovesNil'. -/
def movesNilUptoCard : Claim7 := { stood := { row := movesNilUptoRow, standIns := [], harness := (true, "bd8eb7150ee7de999b3c78ab57184660bd617526138c58911b3c5fa58e98ecaf"), looks := true }, kinds := [], alts := [], laidByText := true, laidKinds := [.data, .data, .data], laidTests := true, laidLooks := .later }
def MovesNilUptoCardSaid : Prop := Claim7.holds Tryz.pinned (.plain (OpenSpec.upto movesNilSpec)) movesNilUptoCard

/-- THE SECOND FORM's CARD OF 'bodkinlaw41.BlocksNil'. -/
def blocksNilUptoCard : Claim7 := { stood := { row := blocksNilUptoRow, standIns := [], harness := (true, "bd8eb7150ee7de999b3c78ab57184660bd617526138c58911b3c5fa58e98ecaf"), looks := true }, kinds := [], alts := [], laidByText := true, laidKinds := [.data, .data, .data], laidTests := true, laidLooks := .later }
def BlocksNilUptoCardSaid : Prop := Claim7.holds Tryz.pinned (.plain (OpenSpec.upto blocksNilSpec)) blocksNilUptoCard

/-- THE SECOND FORM's CARD OF 'bodkinlaw29.ReflowCover'. -/
def reflowCoverUptoCard : Claim7 := { stood := { row := reflowCoverUptoRow, standIns := [], harness := (true, "bd8eb7150ee7de999b3c78ab57184660bd617526138c58911b3c5fa58e98ecaf"), looks := true }, kinds := [], alts := [], laidByText := true, laidKinds := [.data, .data, .data], laidTests := true, laidLooks := .later }
def ReflowCoverUptoCardSaid : Prop := Claim7.holds Tryz.pinned (.plain (OpenSpec.upto reflowCoverSpec)) reflowCoverUptoCard
end Rows
end Go.Proofs.YtlnimbnihbcnpaaGreatDoor
