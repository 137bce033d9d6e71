/-
  DERIVED. GIVEN WITH THE SEED: THE CARDS: each row of YtfojldlbhhigbaaGreatDoorRows.lean that lists a variable, with what it lists TIED to the program's text (the seventh form; the later family's looks); each row that meets fmt, with fmt's text TOLD by the authors' own Lean function (tested against real Go, not proved from fmt's source: count such statements apart). THE CARD IS WHAT COUNTS. Prove the row's statement (the work); the ties are given (YtfojldlbhhigbaaGreatDoorTie.lean); close each card by the builder's one call (the guide's Derived/Test/ToyasCard.lean, 'card_holds'). Laid BY PROGRAM, IN A SANDBOX (cutbox-door.mjs). By AI agents, Wed Nov 11 2026. No macro, syntax, notation, axiom, sorry.
-/
import Derived.Test.YtfojldlbhhigbaaGreatDoorRows
import GoSem.ClaimSeven
namespace Go.Proofs.YtfojldlbhhigbaaGreatDoor
namespace Rows

/-- THE TIED CARD OF 'cleanselaw19.BlockMatchesReference'. -/
def blockMatchesReferenceCard : Claim7 := { stood := { row := blockMatchesReferenceRow, standIns := [], harness := (true, "836a36159fb788fbc02245f0e1864b89a7aadc827f4e32dcd6492827cbf583b9"), looks := true }, kinds := [], alts := [], laidByText := true, laidKinds := [.data, .data, .data], laidTests := true, laidLooks := .later }
def BlockMatchesReferenceCardSaid : Prop := Claim7.holds Tryz.pinned (.plain (OpenSpec.ofChange blockMatchesReferenceSpec)) blockMatchesReferenceCard

/-- THE TIED CARD OF 'cleanselaw19.BlockKeys'. -/
def blockKeysCard : Claim7 := { stood := { row := blockKeysRow, standIns := [], harness := (true, "836a36159fb788fbc02245f0e1864b89a7aadc827f4e32dcd6492827cbf583b9"), looks := true }, kinds := [], alts := [], laidByText := true, laidKinds := [.data, .data, .data], laidTests := true, laidLooks := .later }
def BlockKeysCardSaid : Prop := Claim7.holds Tryz.pinned (.plain (OpenSpec.ofChange blockKeysSpec)) blockKeysCard

/-- THE TIED CARD OF 'cleanselaw19.BlockPairs'. -/
def blockPairsCard : Claim7 := { stood := { row := blockPairsRow, standIns := [], harness := (true, "836a36159fb788fbc02245f0e1864b89a7aadc827f4e32dcd6492827cbf583b9"), looks := true }, kinds := [], alts := [], laidByText := true, laidKinds := [.data, .data, .data], laidTests := true, laidLooks := .later }
def BlockPairsCardSaid : Prop := Claim7.holds Tryz.pinned (.plain (OpenSpec.ofChange blockPairsSpec)) blockPairsCard

/-- THE TIED CARD OF 'cleanselaw19.BlockOrder'. -/
def blockOrderCard : Claim7 := { stood := { row := blockOrderRow, standIns := [], harness := (true, "836a36159fb788fbc02245f0e1864b89a7aadc827f4e32dcd6492827cbf583b9"), looks := true }, kinds := [], alts := [], laidByText := true, laidKinds := [.data, .data, .data], laidTests := true, laidLooks := .later }
def BlockOrderCardSaid : Prop := Claim7.holds Tryz.pinned (.plain (OpenSpec.ofChange blockOrderSpec)) blockOrderCard

/-- THE TIED CARD OF 'cleanselaw19.BlockMore'. -/
def blockMoreCard : Claim7 := { stood := { row := blockMoreRow, standIns := [], harness := (true, "836a36159fb788fbc02245f0e1864b89a7aadc827f4e32dcd6492827cbf583b9"), looks := true }, kinds := [], alts := [], laidByText := true, laidKinds := [.data, .data, .data], laidTests := true, laidLooks := .later }
def BlockMoreCardSaid : Prop := Claim7.holds Tryz.pinned (.plain (OpenSpec.ofChange blockMoreSpec)) blockMoreCard

/-- THE TIED CARD OF 'cleanselaw19.BlockFolds'. -/
def blockFoldsCard : Claim7 := { stood := { row := blockFoldsRow, standIns := [], harness := (true, "836a36159fb788fbc02245f0e1864b89a7aadc827f4e32dcd6492827cbf583b9"), looks := true }, kinds := [], alts := [], laidByText := true, laidKinds := [.data, .data, .data], laidTests := true, laidLooks := .later }
def BlockFoldsCardSaid : Prop := Claim7.holds Tryz.pinned (.plain (OpenSpec.ofChange blockFoldsSpec)) blockFoldsCard

/-- THE TIED CARD OF 'cleanselaw19.BlockTokens'. -/
def blockTokensCard : Claim7 := { stood := { row := blockTokensRow, standIns := [], harness := (true, "836a36159fb788fbc02245f0e1864b89a7aadc827f4e32dcd6492827cbf583b9"), looks := true }, kinds := [], alts := [], laidByText := true, laidKinds := [.data, .data, .data], laidTests := true, laidLooks := .later }
def BlockTokensCardSaid : Prop := Claim7.holds Tryz.pinned (.plain (OpenSpec.ofChange blockTokensSpec)) blockTokensCard

/-- THE SECOND FORM's CARD OF 'cleanselaw19.BlockMatchesReference'. -/
def blockMatchesReferenceUptoCard : Claim7 := { stood := { row := blockMatchesReferenceUptoRow, standIns := [], harness := (true, "836a36159fb788fbc02245f0e1864b89a7aadc827f4e32dcd6492827cbf583b9"), looks := true }, kinds := [], alts := [], laidByText := true, laidKinds := [.data, .data, .data], laidTests := true, laidLooks := .later }
def BlockMatchesReferenceUptoCardSaid : Prop := Claim7.holds Tryz.pinned (.plain (OpenSpec.upto blockMatchesReferenceSpec)) blockMatchesReferenceUptoCard

/-- THE SECOND FORM's CARD OF 'cleanselaw19.BlockKeys'. -/
def blockKeysUptoCard : Claim7 := { stood := { row := blockKeysUptoRow, standIns := [], harness := (true, "836a36159fb788fbc02245f0e1864b89a7aadc827f4e32dcd6492827cbf583b9"), looks := true }, kinds := [], alts := [], laidByText := true, laidKinds := [.data, .data, .data], laidTests := true, laidLooks := .later }
def BlockKeysUptoCardSaid : Prop := Claim7.holds Tryz.pinned (.plain (OpenSpec.upto blockKeysSpec)) blockKeysUptoCard

/-- THE SECOND FORM's CARD OF 'cleanselaw19.BlockPairs'. -/
def blockPairsUptoCard : Claim7 := { stood := { row := blockPairsUptoRow, standIns := [], harness := (true, "836a36159fb788fbc02245f0e1864b89a7aadc827f4e32dcd6492827cbf583b9"), looks := true }, kinds := [], alts := [], laidByText := true, laidKinds := [.data, .data, .data], laidTests := true, laidLooks := .later }
def BlockPairsUptoCardSaid : Prop := Claim7.holds Tryz.pinned (.plain (OpenSpec.upto blockPairsSpec)) blockPairsUptoCard

/-- THE SECOND FORM's CARD OF 'cleanselaw19.BlockOrder'. -/
def blockOrderUptoCard : Claim7 := { stood := { row := blockOrderUptoRow, standIns := [], harness := (true, "836a36159fb788fbc02245f0e1864b89a7aadc827f4e32dcd6492827cbf583b9"), looks := true }, kinds := [], alts := [], laidByText := true, laidKinds := [.data, .data, .data], laidTests := true, laidLooks := .later }
def BlockOrderUptoCardSaid : Prop := Claim7.holds Tryz.pinned (.plain (OpenSpec.upto blockOrderSpec)) blockOrderUptoCard

/-- THE SECOND FORM's CARD OF 'cleanselaw19.BlockMore'. -/
def blockMoreUptoCard : Claim7 := { stood := { row := blockMoreUptoRow, standIns := [], harness := (true, "836a36159fb788fbc02245f0e1864b89a7aadc827f4e32dcd6492827cbf583b9"), looks := true }, kinds := [], alts := [], laidByText := true, laidKinds := [.data, .data, .data], laidTests := true, laidLooks := .later }
def BlockMoreUptoCardSaid : Prop := Claim7.holds Tryz.pinned (.plain (OpenSpec.upto blockMoreSpec)) blockMoreUptoCard

/-- THE SECOND FORM's CARD OF 'cleanselaw19.BlockFolds'. -/
def blockFoldsUptoCard : Claim7 := { stood := { row := blockFoldsUptoRow, standIns := [], harness := (true, "836a36159fb788fbc02245f0e1864b89a7aadc827f4e32dcd6492827cbf583b9"), looks := true }, kinds := [], alts := [], laidByText := true, laidKinds := [.data, .data, .data], laidTests := true, laidLooks := .later }
def BlockFoldsUptoCardSaid : Prop := Claim7.holds Tryz.pinned (.plain (OpenSpec.upto blockFoldsSpec)) blockFoldsUptoCard

/-- THE SECOND FORM's CARD OF 'cleanselaw19.BlockTokens'. -/
def blockTokensUptoCard : Claim7 := { stood := { row := blockTokensUptoRow, standIns := [], harness := (true, "836a36159fb788fbc02245f0e1864b89a7aadc827f4e32dcd6492827cbf583b9"), looks := true }, kinds := [], alts := [], laidByText := true, laidKinds := [.data, .data, .data], laidTests := true, laidLooks := .later }
def BlockTokensUptoCardSaid : Prop := Claim7.holds Tryz.pinned (.plain (OpenSpec.upto blockTokensSpec)) blockTokensUptoCard
end Rows
end Go.Proofs.YtfojldlbhhigbaaGreatDoor
