/-
  DERIVED. GIVEN WITH THE SEED: THE CARDS: each row of YtabonjploobnnaaGreatDoorRows.lean that lists a variable, with what it lists TIED to the program's text (the seventh form; the later family's looks); each row that meets fmt, with fmt's text TOLD by the authors' own Lean function (tested against real Go, not proved from fmt's source: count such statements apart). THE CARD IS WHAT COUNTS. Prove the row's statement (the work); the ties are given (YtabonjploobnnaaGreatDoorTie.lean); close each card by the builder's one call (the guide's Derived/Test/ToyasCard.lean, 'card_holds'). Laid BY PROGRAM, IN A SANDBOX (cutbox-door.mjs). By AI agents, Wed Nov 11 2026. No macro, syntax, notation, axiom, sorry.
-/
import Derived.Test.YtabonjploobnnaaGreatDoorRows
import GoSem.ClaimSeven
namespace Go.Proofs.YtabonjploobnnaaGreatDoor
namespace Rows

/-- THE TIED CARD OF 'cleanselaw26.VigilMatchesReference'. -/
def vigilMatchesReferenceCard : Claim7 := { stood := { row := vigilMatchesReferenceRow, standIns := [], harness := (true, "ed2a2e952327e86c5aacb70597460b3028b58e74c4e646d506a2c03b4a319d3d"), looks := true }, kinds := [], alts := [], laidByText := true, laidKinds := [.data, .data, .data], laidTests := true, laidLooks := .later }
def VigilMatchesReferenceCardSaid : Prop := Claim7.holds Tryz.pinned (.plain (OpenSpec.ofChange vigilMatchesReferenceSpec)) vigilMatchesReferenceCard

/-- THE TIED CARD OF 'cleanselaw26.VigilOrder'. -/
def vigilOrderCard : Claim7 := { stood := { row := vigilOrderRow, standIns := [], harness := (true, "ed2a2e952327e86c5aacb70597460b3028b58e74c4e646d506a2c03b4a319d3d"), looks := true }, kinds := [], alts := [], laidByText := true, laidKinds := [.data, .data, .data], laidTests := true, laidLooks := .later }
def VigilOrderCardSaid : Prop := Claim7.holds Tryz.pinned (.plain (OpenSpec.ofChange vigilOrderSpec)) vigilOrderCard

/-- THE TIED CARD OF 'cleanselaw26.VigilPut'. -/
def vigilPutCard : Claim7 := { stood := { row := vigilPutRow, standIns := [], harness := (true, "ed2a2e952327e86c5aacb70597460b3028b58e74c4e646d506a2c03b4a319d3d"), looks := true }, kinds := [], alts := [], laidByText := true, laidKinds := [.data, .data, .data], laidTests := true, laidLooks := .later }
def VigilPutCardSaid : Prop := Claim7.holds Tryz.pinned (.plain (OpenSpec.ofChange vigilPutSpec)) vigilPutCard

/-- THE TIED CARD OF 'cleanselaw26.VigilDrop'. -/
def vigilDropCard : Claim7 := { stood := { row := vigilDropRow, standIns := [], harness := (true, "ed2a2e952327e86c5aacb70597460b3028b58e74c4e646d506a2c03b4a319d3d"), looks := true }, kinds := [], alts := [], laidByText := true, laidKinds := [.data, .data, .data], laidTests := true, laidLooks := .later }
def VigilDropCardSaid : Prop := Claim7.holds Tryz.pinned (.plain (OpenSpec.ofChange vigilDropSpec)) vigilDropCard

/-- THE TIED CARD OF 'cleanselaw26.VigilRefuses'. -/
def vigilRefusesCard : Claim7 := { stood := { row := vigilRefusesRow, standIns := [], harness := (true, "ed2a2e952327e86c5aacb70597460b3028b58e74c4e646d506a2c03b4a319d3d"), looks := true }, kinds := [], alts := [], laidByText := true, laidKinds := [.data, .data, .data], laidTests := true, laidLooks := .later }
def VigilRefusesCardSaid : Prop := Claim7.holds Tryz.pinned (.plain (OpenSpec.ofChange vigilRefusesSpec)) vigilRefusesCard

/-- THE TIED CARD OF 'cleanselaw26.VigilScratch'. -/
def vigilScratchCard : Claim7 := { stood := { row := vigilScratchRow, standIns := [], harness := (true, "ed2a2e952327e86c5aacb70597460b3028b58e74c4e646d506a2c03b4a319d3d"), looks := true }, kinds := [], alts := [], laidByText := true, laidKinds := [.data, .data, .data], laidTests := true, laidLooks := .later }
def VigilScratchCardSaid : Prop := Claim7.holds Tryz.pinned (.plain (OpenSpec.ofChange vigilScratchSpec)) vigilScratchCard

/-- THE SECOND FORM's CARD OF 'cleanselaw26.VigilMatchesReference'. -/
def vigilMatchesReferenceUptoCard : Claim7 := { stood := { row := vigilMatchesReferenceUptoRow, standIns := [], harness := (true, "ed2a2e952327e86c5aacb70597460b3028b58e74c4e646d506a2c03b4a319d3d"), looks := true }, kinds := [], alts := [], laidByText := true, laidKinds := [.data, .data, .data], laidTests := true, laidLooks := .later }
def VigilMatchesReferenceUptoCardSaid : Prop := Claim7.holds Tryz.pinned (.plain (OpenSpec.upto vigilMatchesReferenceSpec)) vigilMatchesReferenceUptoCard

/-- THE SECOND FORM's CARD OF 'cleanselaw26.VigilOrder'. -/
def vigilOrderUptoCard : Claim7 := { stood := { row := vigilOrderUptoRow, standIns := [], harness := (true, "ed2a2e952327e86c5aacb70597460b3028b58e74c4e646d506a2c03b4a319d3d"), looks := true }, kinds := [], alts := [], laidByText := true, laidKinds := [.data, .data, .data], laidTests := true, laidLooks := .later }
def VigilOrderUptoCardSaid : Prop := Claim7.holds Tryz.pinned (.plain (OpenSpec.upto vigilOrderSpec)) vigilOrderUptoCard

/-- THE SECOND FORM's CARD OF 'cleanselaw26.VigilPut'. -/
def vigilPutUptoCard : Claim7 := { stood := { row := vigilPutUptoRow, standIns := [], harness := (true, "ed2a2e952327e86c5aacb70597460b3028b58e74c4e646d506a2c03b4a319d3d"), looks := true }, kinds := [], alts := [], laidByText := true, laidKinds := [.data, .data, .data], laidTests := true, laidLooks := .later }
def VigilPutUptoCardSaid : Prop := Claim7.holds Tryz.pinned (.plain (OpenSpec.upto vigilPutSpec)) vigilPutUptoCard

/-- THE SECOND FORM's CARD OF 'cleanselaw26.VigilDrop'. -/
def vigilDropUptoCard : Claim7 := { stood := { row := vigilDropUptoRow, standIns := [], harness := (true, "ed2a2e952327e86c5aacb70597460b3028b58e74c4e646d506a2c03b4a319d3d"), looks := true }, kinds := [], alts := [], laidByText := true, laidKinds := [.data, .data, .data], laidTests := true, laidLooks := .later }
def VigilDropUptoCardSaid : Prop := Claim7.holds Tryz.pinned (.plain (OpenSpec.upto vigilDropSpec)) vigilDropUptoCard

/-- THE SECOND FORM's CARD OF 'cleanselaw26.VigilRefuses'. -/
def vigilRefusesUptoCard : Claim7 := { stood := { row := vigilRefusesUptoRow, standIns := [], harness := (true, "ed2a2e952327e86c5aacb70597460b3028b58e74c4e646d506a2c03b4a319d3d"), looks := true }, kinds := [], alts := [], laidByText := true, laidKinds := [.data, .data, .data], laidTests := true, laidLooks := .later }
def VigilRefusesUptoCardSaid : Prop := Claim7.holds Tryz.pinned (.plain (OpenSpec.upto vigilRefusesSpec)) vigilRefusesUptoCard

/-- THE SECOND FORM's CARD OF 'cleanselaw26.VigilScratch'. -/
def vigilScratchUptoCard : Claim7 := { stood := { row := vigilScratchUptoRow, standIns := [], harness := (true, "ed2a2e952327e86c5aacb70597460b3028b58e74c4e646d506a2c03b4a319d3d"), looks := true }, kinds := [], alts := [], laidByText := true, laidKinds := [.data, .data, .data], laidTests := true, laidLooks := .later }
def VigilScratchUptoCardSaid : Prop := Claim7.holds Tryz.pinned (.plain (OpenSpec.upto vigilScratchSpec)) vigilScratchUptoCard
end Rows
end Go.Proofs.YtabonjploobnnaaGreatDoor
