/-
  DERIVED. GIVEN WITH THE SEED: THE CARDS: each row of YtecikhenhjphfaaGreatDoorRows.lean that lists a variable, with what it lists TIED to the program's text (the seventh form; the later family's looks); each row that meets fmt, with fmt's text TOLD by the authors' own Lean function (tested against real Go, not proved from fmt's source: count such statements apart). THE CARD IS WHAT COUNTS. Prove the row's statement (the work); the ties are given (YtecikhenhjphfaaGreatDoorTie.lean); close each card by the builder's one call (the guide's Derived/Test/ToyasCard.lean, 'card_holds'). Laid BY PROGRAM, IN A SANDBOX (cutbox-door.mjs). By AI agents, Wed Nov 11 2026. No macro, syntax, notation, axiom, sorry.
-/
import Derived.Test.YtecikhenhjphfaaGreatDoorRows
import GoSem.ClaimSeven
namespace Go.Proofs.YtecikhenhjphfaaGreatDoor
namespace Rows

/-- THE TIED CARD OF 'cleanselaw33.AlgebraGrows'. -/
def algebraGrowsCard : Claim7 := { stood := { row := algebraGrowsRow, standIns := [], harness := (true, "4affa9949c429950eb9b09233479ea5327ef8084ece02d8e6b9f85e9e1245533"), looks := true }, kinds := [], alts := [], laidByText := true, laidKinds := [.data, .data, .data], laidTests := true, laidLooks := .later }
def AlgebraGrowsCardSaid : Prop := Claim7.holds Tryz.pinned (.plain (OpenSpec.ofChange algebraGrowsSpec)) algebraGrowsCard

/-- THE TIED CARD OF 'cleanselaw36.AttackMeans'. -/
def attackMeansCard : Claim7 := { stood := { row := attackMeansRow, standIns := [], harness := (true, "4affa9949c429950eb9b09233479ea5327ef8084ece02d8e6b9f85e9e1245533"), looks := true }, kinds := [], alts := [], laidByText := true, laidKinds := [.data, .data, .data], laidTests := true, laidLooks := .later }
def AttackMeansCardSaid : Prop := Claim7.holds Tryz.pinned (.plain (OpenSpec.ofChange attackMeansSpec)) attackMeansCard

/-- THE SECOND FORM's CARD OF 'cleanselaw33.AlgebraGrows'. -/
def algebraGrowsUptoCard : Claim7 := { stood := { row := algebraGrowsUptoRow, standIns := [], harness := (true, "4affa9949c429950eb9b09233479ea5327ef8084ece02d8e6b9f85e9e1245533"), looks := true }, kinds := [], alts := [], laidByText := true, laidKinds := [.data, .data, .data], laidTests := true, laidLooks := .later }
def AlgebraGrowsUptoCardSaid : Prop := Claim7.holds Tryz.pinned (.plain (OpenSpec.upto algebraGrowsSpec)) algebraGrowsUptoCard

/-- THE SECOND FORM's CARD OF 'cleanselaw36.AttackMeans'. -/
def attackMeansUptoCard : Claim7 := { stood := { row := attackMeansUptoRow, standIns := [], harness := (true, "4affa9949c429950eb9b09233479ea5327ef8084ece02d8e6b9f85e9e1245533"), looks := true }, kinds := [], alts := [], laidByText := true, laidKinds := [.data, .data, .data], laidTests := true, laidLooks := .later }
def AttackMeansUptoCardSaid : Prop := Claim7.holds Tryz.pinned (.plain (OpenSpec.upto attackMeansSpec)) attackMeansUptoCard
end Rows
end Go.Proofs.YtecikhenhjphfaaGreatDoor
