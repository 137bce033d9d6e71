/-
  DERIVED. GIVEN WITH THE SEED: THE CARDS: each row of YtgaclpkapapjdaaGreatDoorRows.lean that lists a variable, with what it lists TIED to the program's text (the seventh form; the later family's looks); each row that meets fmt, with fmt's text TOLD by the authors' own Lean function (tested against real Go, not proved from fmt's source: count such statements apart). THE CARD IS WHAT COUNTS. Prove the row's statement (the work); the ties are given (YtgaclpkapapjdaaGreatDoorTie.lean); close each card by the builder's one call (the guide's Derived/Test/ToyasCard.lean, 'card_holds'). Laid BY PROGRAM, IN A SANDBOX (cutbox-door.mjs). By AI agents, Wed Nov 11 2026. No macro, syntax, notation, axiom, sorry.
-/
import Derived.Test.YtgaclpkapapjdaaGreatDoorRows
import GoSem.ClaimSeven
namespace Go.Proofs.YtgaclpkapapjdaaGreatDoor
namespace Rows

/-- THE TIED CARD OF 'cleanselaw36.AttackPairs'. -/
def attackPairsCard : Claim7 := { stood := { row := attackPairsRow, standIns := [], harness := (true, "a2111d23d411c929a0d60eedf264e5d0b8da1c5e00bfd76fb3b8ab8d3486519f"), looks := true }, kinds := [], alts := [], laidByText := true, laidKinds := [.data, .data, .data], laidTests := true, laidLooks := .later }
def AttackPairsCardSaid : Prop := Claim7.holds Tryz.pinned (.plain (OpenSpec.ofChange attackPairsSpec)) attackPairsCard

/-- THE TIED CARD OF 'cleanselaw36.AttackNumbers'. -/
def attackNumbersCard : Claim7 := { stood := { row := attackNumbersRow, standIns := [], harness := (true, "a2111d23d411c929a0d60eedf264e5d0b8da1c5e00bfd76fb3b8ab8d3486519f"), looks := true }, kinds := [], alts := [], laidByText := true, laidKinds := [.data, .data, .data], laidTests := true, laidLooks := .later }
def AttackNumbersCardSaid : Prop := Claim7.holds Tryz.pinned (.plain (OpenSpec.ofChange attackNumbersSpec)) attackNumbersCard

/-- THE TIED CARD OF 'cleanselaw36.AttackMatchesReference'. -/
def attackMatchesReferenceCard : Claim7 := { stood := { row := attackMatchesReferenceRow, standIns := [], harness := (true, "a2111d23d411c929a0d60eedf264e5d0b8da1c5e00bfd76fb3b8ab8d3486519f"), looks := true }, kinds := [], alts := [], laidByText := true, laidKinds := [.data, .data, .data], laidTests := true, laidLooks := .later }
def AttackMatchesReferenceCardSaid : Prop := Claim7.holds Tryz.pinned (.plain (OpenSpec.ofChange attackMatchesReferenceSpec)) attackMatchesReferenceCard

/-- THE TIED CARD OF 'cleanselaw36.AttackCloses'. -/
def attackClosesCard : Claim7 := { stood := { row := attackClosesRow, standIns := [], harness := (true, "a2111d23d411c929a0d60eedf264e5d0b8da1c5e00bfd76fb3b8ab8d3486519f"), looks := true }, kinds := [], alts := [], laidByText := true, laidKinds := [.data, .data, .data], laidTests := true, laidLooks := .later }
def AttackClosesCardSaid : Prop := Claim7.holds Tryz.pinned (.plain (OpenSpec.ofChange attackClosesSpec)) attackClosesCard

/-- THE TIED CARD OF 'cleanselaw36.AttackKeys'. -/
def attackKeysCard : Claim7 := { stood := { row := attackKeysRow, standIns := [], harness := (true, "a2111d23d411c929a0d60eedf264e5d0b8da1c5e00bfd76fb3b8ab8d3486519f"), looks := true }, kinds := [], alts := [], laidByText := true, laidKinds := [.data, .data, .data], laidTests := true, laidLooks := .later }
def AttackKeysCardSaid : Prop := Claim7.holds Tryz.pinned (.plain (OpenSpec.ofChange attackKeysSpec)) attackKeysCard

/-- THE TIED CARD OF 'cleanselaw35.PlannerMatchesReference'. -/
def plannerMatchesReferenceCard : Claim7 := { stood := { row := plannerMatchesReferenceRow, standIns := [], harness := (true, "a2111d23d411c929a0d60eedf264e5d0b8da1c5e00bfd76fb3b8ab8d3486519f"), looks := true }, kinds := [], alts := [], laidByText := true, laidKinds := [.data, .data, .data], laidTests := true, laidLooks := .later }
def PlannerMatchesReferenceCardSaid : Prop := Claim7.holds Tryz.pinned (.plain (OpenSpec.ofChange plannerMatchesReferenceSpec)) plannerMatchesReferenceCard

/-- THE TIED CARD OF 'cleanselaw35.PlannerCosts'. -/
def plannerCostsCard : Claim7 := { stood := { row := plannerCostsRow, standIns := [], harness := (true, "a2111d23d411c929a0d60eedf264e5d0b8da1c5e00bfd76fb3b8ab8d3486519f"), looks := true }, kinds := [], alts := [], laidByText := true, laidKinds := [.data, .data, .data], laidTests := true, laidLooks := .later }
def PlannerCostsCardSaid : Prop := Claim7.holds Tryz.pinned (.plain (OpenSpec.ofChange plannerCostsSpec)) plannerCostsCard

/-- THE TIED CARD OF 'cleanselaw35.PlannerStatistics'. -/
def plannerStatisticsCard : Claim7 := { stood := { row := plannerStatisticsRow, standIns := [], harness := (true, "a2111d23d411c929a0d60eedf264e5d0b8da1c5e00bfd76fb3b8ab8d3486519f"), looks := true }, kinds := [], alts := [], laidByText := true, laidKinds := [.data, .data, .data], laidTests := true, laidLooks := .later }
def PlannerStatisticsCardSaid : Prop := Claim7.holds Tryz.pinned (.plain (OpenSpec.ofChange plannerStatisticsSpec)) plannerStatisticsCard

/-- THE TIED CARD OF 'cleanselaw35.PlannerParts'. -/
def plannerPartsCard : Claim7 := { stood := { row := plannerPartsRow, standIns := [], harness := (true, "a2111d23d411c929a0d60eedf264e5d0b8da1c5e00bfd76fb3b8ab8d3486519f"), looks := true }, kinds := [], alts := [], laidByText := true, laidKinds := [.data, .data, .data], laidTests := true, laidLooks := .later }
def PlannerPartsCardSaid : Prop := Claim7.holds Tryz.pinned (.plain (OpenSpec.ofChange plannerPartsSpec)) plannerPartsCard

/-- THE TIED CARD OF 'cleanselaw35.PlannerSelections'. -/
def plannerSelectionsCard : Claim7 := { stood := { row := plannerSelectionsRow, standIns := [], harness := (true, "a2111d23d411c929a0d60eedf264e5d0b8da1c5e00bfd76fb3b8ab8d3486519f"), looks := true }, kinds := [], alts := [], laidByText := true, laidKinds := [.data, .data, .data], laidTests := true, laidLooks := .later }
def PlannerSelectionsCardSaid : Prop := Claim7.holds Tryz.pinned (.plain (OpenSpec.ofChange plannerSelectionsSpec)) plannerSelectionsCard

/-- THE TIED CARD OF 'cleanselaw35.PlannerPushing'. -/
def plannerPushingCard : Claim7 := { stood := { row := plannerPushingRow, standIns := [], harness := (true, "a2111d23d411c929a0d60eedf264e5d0b8da1c5e00bfd76fb3b8ab8d3486519f"), looks := true }, kinds := [], alts := [], laidByText := true, laidKinds := [.data, .data, .data], laidTests := true, laidLooks := .later }
def PlannerPushingCardSaid : Prop := Claim7.holds Tryz.pinned (.plain (OpenSpec.ofChange plannerPushingSpec)) plannerPushingCard

/-- THE SECOND FORM's CARD OF 'cleanselaw36.AttackPairs'. -/
def attackPairsUptoCard : Claim7 := { stood := { row := attackPairsUptoRow, standIns := [], harness := (true, "a2111d23d411c929a0d60eedf264e5d0b8da1c5e00bfd76fb3b8ab8d3486519f"), looks := true }, kinds := [], alts := [], laidByText := true, laidKinds := [.data, .data, .data], laidTests := true, laidLooks := .later }
def AttackPairsUptoCardSaid : Prop := Claim7.holds Tryz.pinned (.plain (OpenSpec.upto attackPairsSpec)) attackPairsUptoCard

/-- THE SECOND FORM's CARD OF 'cleanselaw36.AttackNumbers'. -/
def attackNumbersUptoCard : Claim7 := { stood := { row := attackNumbersUptoRow, standIns := [], harness := (true, "a2111d23d411c929a0d60eedf264e5d0b8da1c5e00bfd76fb3b8ab8d3486519f"), looks := true }, kinds := [], alts := [], laidByText := true, laidKinds := [.data, .data, .data], laidTests := true, laidLooks := .later }
def AttackNumbersUptoCardSaid : Prop := Claim7.holds Tryz.pinned (.plain (OpenSpec.upto attackNumbersSpec)) attackNumbersUptoCard

/-- THE SECOND FORM's CARD OF 'cleanselaw36.AttackMatchesReference'. -/
def attackMatchesReferenceUptoCard : Claim7 := { stood := { row := attackMatchesReferenceUptoRow, standIns := [], harness := (true, "a2111d23d411c929a0d60eedf264e5d0b8da1c5e00bfd76fb3b8ab8d3486519f"), looks := true }, kinds := [], alts := [], laidByText := true, laidKinds := [.data, .data, .data], laidTests := true, laidLooks := .later }
def AttackMatchesReferenceUptoCardSaid : Prop := Claim7.holds Tryz.pinned (.plain (OpenSpec.upto attackMatchesReferenceSpec)) attackMatchesReferenceUptoCard

/-- THE SECOND FORM's CARD OF 'cleanselaw36.AttackCloses'. -/
def attackClosesUptoCard : Claim7 := { stood := { row := attackClosesUptoRow, standIns := [], harness := (true, "a2111d23d411c929a0d60eedf264e5d0b8da1c5e00bfd76fb3b8ab8d3486519f"), looks := true }, kinds := [], alts := [], laidByText := true, laidKinds := [.data, .data, .data], laidTests := true, laidLooks := .later }
def AttackClosesUptoCardSaid : Prop := Claim7.holds Tryz.pinned (.plain (OpenSpec.upto attackClosesSpec)) attackClosesUptoCard

/-- THE SECOND FORM's CARD OF 'cleanselaw36.AttackKeys'. -/
def attackKeysUptoCard : Claim7 := { stood := { row := attackKeysUptoRow, standIns := [], harness := (true, "a2111d23d411c929a0d60eedf264e5d0b8da1c5e00bfd76fb3b8ab8d3486519f"), looks := true }, kinds := [], alts := [], laidByText := true, laidKinds := [.data, .data, .data], laidTests := true, laidLooks := .later }
def AttackKeysUptoCardSaid : Prop := Claim7.holds Tryz.pinned (.plain (OpenSpec.upto attackKeysSpec)) attackKeysUptoCard

/-- THE SECOND FORM's CARD OF 'cleanselaw35.PlannerMatchesReference'. -/
def plannerMatchesReferenceUptoCard : Claim7 := { stood := { row := plannerMatchesReferenceUptoRow, standIns := [], harness := (true, "a2111d23d411c929a0d60eedf264e5d0b8da1c5e00bfd76fb3b8ab8d3486519f"), looks := true }, kinds := [], alts := [], laidByText := true, laidKinds := [.data, .data, .data], laidTests := true, laidLooks := .later }
def PlannerMatchesReferenceUptoCardSaid : Prop := Claim7.holds Tryz.pinned (.plain (OpenSpec.upto plannerMatchesReferenceSpec)) plannerMatchesReferenceUptoCard

/-- THE SECOND FORM's CARD OF 'cleanselaw35.PlannerCosts'. -/
def plannerCostsUptoCard : Claim7 := { stood := { row := plannerCostsUptoRow, standIns := [], harness := (true, "a2111d23d411c929a0d60eedf264e5d0b8da1c5e00bfd76fb3b8ab8d3486519f"), looks := true }, kinds := [], alts := [], laidByText := true, laidKinds := [.data, .data, .data], laidTests := true, laidLooks := .later }
def PlannerCostsUptoCardSaid : Prop := Claim7.holds Tryz.pinned (.plain (OpenSpec.upto plannerCostsSpec)) plannerCostsUptoCard

/-- THE SECOND FORM's CARD OF 'cleanselaw35.PlannerStatistics'. -/
def plannerStatisticsUptoCard : Claim7 := { stood := { row := plannerStatisticsUptoRow, standIns := [], harness := (true, "a2111d23d411c929a0d60eedf264e5d0b8da1c5e00bfd76fb3b8ab8d3486519f"), looks := true }, kinds := [], alts := [], laidByText := true, laidKinds := [.data, .data, .data], laidTests := true, laidLooks := .later }
def PlannerStatisticsUptoCardSaid : Prop := Claim7.holds Tryz.pinned (.plain (OpenSpec.upto plannerStatisticsSpec)) plannerStatisticsUptoCard

/-- THE SECOND FORM's CARD OF 'cleanselaw35.PlannerParts'. -/
def plannerPartsUptoCard : Claim7 := { stood := { row := plannerPartsUptoRow, standIns := [], harness := (true, "a2111d23d411c929a0d60eedf264e5d0b8da1c5e00bfd76fb3b8ab8d3486519f"), looks := true }, kinds := [], alts := [], laidByText := true, laidKinds := [.data, .data, .data], laidTests := true, laidLooks := .later }
def PlannerPartsUptoCardSaid : Prop := Claim7.holds Tryz.pinned (.plain (OpenSpec.upto plannerPartsSpec)) plannerPartsUptoCard

/-- THE SECOND FORM's CARD OF 'cleanselaw35.PlannerSelections'. -/
def plannerSelectionsUptoCard : Claim7 := { stood := { row := plannerSelectionsUptoRow, standIns := [], harness := (true, "a2111d23d411c929a0d60eedf264e5d0b8da1c5e00bfd76fb3b8ab8d3486519f"), looks := true }, kinds := [], alts := [], laidByText := true, laidKinds := [.data, .data, .data], laidTests := true, laidLooks := .later }
def PlannerSelectionsUptoCardSaid : Prop := Claim7.holds Tryz.pinned (.plain (OpenSpec.upto plannerSelectionsSpec)) plannerSelectionsUptoCard

/-- THE SECOND FORM's CARD OF 'cleanselaw35.PlannerPushing'. -/
def plannerPushingUptoCard : Claim7 := { stood := { row := plannerPushingUptoRow, standIns := [], harness := (true, "a2111d23d411c929a0d60eedf264e5d0b8da1c5e00bfd76fb3b8ab8d3486519f"), looks := true }, kinds := [], alts := [], laidByText := true, laidKinds := [.data, .data, .data], laidTests := true, laidLooks := .later }
def PlannerPushingUptoCardSaid : Prop := Claim7.holds Tryz.pinned (.plain (OpenSpec.upto plannerPushingSpec)) plannerPushingUptoCard
end Rows
end Go.Proofs.YtgaclpkapapjdaaGreatDoor
