/-
  DERIVED. GIVEN WITH THE SEED: THE CARDS: each row of YticgfcbcaalioaaGreatDoorRows.lean that lists a variable, with what it lists TIED to the program's text (the seventh form; the later family's looks); each row that meets fmt, with fmt's text TOLD by the authors' own Lean function (tested against real Go, not proved from fmt's source: count such statements apart). THE CARD IS WHAT COUNTS. Prove the row's statement (the work); the ties are given (YticgfcbcaalioaaGreatDoorTie.lean); close each card by the builder's one call (the guide's Derived/Test/ToyasCard.lean, 'card_holds'). Laid BY PROGRAM, IN A SANDBOX (cutbox-door.mjs). By AI agents, Wed Nov 11 2026. No macro, syntax, notation, axiom, sorry.
-/
import Derived.Test.YticgfcbcaalioaaGreatDoorRows
import GoSem.ClaimSeven
namespace Go.Proofs.YticgfcbcaalioaaGreatDoor
namespace Rows

/-- THE TIED CARD OF 'cleanselaw25.DenialMatchesReference'. -/
def denialMatchesReferenceCard : Claim7 := { stood := { row := denialMatchesReferenceRow, standIns := [], harness := (true, "e343313289ffcad181703a61da14b92e3d0d8151c38963dd9a115dd72033a70b"), looks := false }, kinds := [], alts := [], laidByText := true, laidKinds := [.data, .data, .data], laidTests := true, laidLooks := .later }
def DenialMatchesReferenceCardSaid : Prop := Claim7.holds Tryz.pinned (.plain (OpenSpec.ofChange denialMatchesReferenceSpec)) denialMatchesReferenceCard

/-- THE TIED CARD OF 'cleanselaw25.DenialMinimal'. -/
def denialMinimalCard : Claim7 := { stood := { row := denialMinimalRow, standIns := [], harness := (true, "e343313289ffcad181703a61da14b92e3d0d8151c38963dd9a115dd72033a70b"), looks := false }, kinds := [], alts := [], laidByText := true, laidKinds := [.data, .data, .data], laidTests := true, laidLooks := .later }
def DenialMinimalCardSaid : Prop := Claim7.holds Tryz.pinned (.plain (OpenSpec.ofChange denialMinimalSpec)) denialMinimalCard

/-- THE TIED CARD OF 'cleanselaw25.DenialComplete'. -/
def denialCompleteCard : Claim7 := { stood := { row := denialCompleteRow, standIns := [], harness := (true, "e343313289ffcad181703a61da14b92e3d0d8151c38963dd9a115dd72033a70b"), looks := false }, kinds := [], alts := [], laidByText := true, laidKinds := [.data, .data, .data], laidTests := true, laidLooks := .later }
def DenialCompleteCardSaid : Prop := Claim7.holds Tryz.pinned (.plain (OpenSpec.ofChange denialCompleteSpec)) denialCompleteCard

/-- THE TIED CARD OF 'cleanselaw25.DenialOrder'. -/
def denialOrderCard : Claim7 := { stood := { row := denialOrderRow, standIns := [], harness := (true, "e343313289ffcad181703a61da14b92e3d0d8151c38963dd9a115dd72033a70b"), looks := false }, kinds := [], alts := [], laidByText := true, laidKinds := [.data, .data, .data], laidTests := true, laidLooks := .later }
def DenialOrderCardSaid : Prop := Claim7.holds Tryz.pinned (.plain (OpenSpec.ofChange denialOrderSpec)) denialOrderCard

/-- THE TIED CARD OF 'cleanselaw25.DenialLowers'. -/
def denialLowersCard : Claim7 := { stood := { row := denialLowersRow, standIns := [], harness := (true, "e343313289ffcad181703a61da14b92e3d0d8151c38963dd9a115dd72033a70b"), looks := false }, kinds := [], alts := [], laidByText := true, laidKinds := [.data, .data, .data], laidTests := true, laidLooks := .later }
def DenialLowersCardSaid : Prop := Claim7.holds Tryz.pinned (.plain (OpenSpec.ofChange denialLowersSpec)) denialLowersCard

/-- THE TIED CARD OF 'cleanselaw25.DenialSupport'. -/
def denialSupportCard : Claim7 := { stood := { row := denialSupportRow, standIns := [], harness := (true, "e343313289ffcad181703a61da14b92e3d0d8151c38963dd9a115dd72033a70b"), looks := false }, kinds := [], alts := [], laidByText := true, laidKinds := [.data, .data, .data], laidTests := true, laidLooks := .later }
def DenialSupportCardSaid : Prop := Claim7.holds Tryz.pinned (.plain (OpenSpec.ofChange denialSupportSpec)) denialSupportCard

/-- THE TIED CARD OF 'cleanselaw25.DenialVariants'. -/
def denialVariantsCard : Claim7 := { stood := { row := denialVariantsRow, standIns := [], harness := (true, "e343313289ffcad181703a61da14b92e3d0d8151c38963dd9a115dd72033a70b"), looks := false }, kinds := [], alts := [], laidByText := true, laidKinds := [.data, .data, .data], laidTests := true, laidLooks := .later }
def DenialVariantsCardSaid : Prop := Claim7.holds Tryz.pinned (.plain (OpenSpec.ofChange denialVariantsSpec)) denialVariantsCard

/-- THE SECOND FORM's CARD OF 'cleanselaw25.DenialMatchesReference'. -/
def denialMatchesReferenceUptoCard : Claim7 := { stood := { row := denialMatchesReferenceUptoRow, standIns := [], harness := (true, "e343313289ffcad181703a61da14b92e3d0d8151c38963dd9a115dd72033a70b"), looks := false }, kinds := [], alts := [], laidByText := true, laidKinds := [.data, .data, .data], laidTests := true, laidLooks := .later }
def DenialMatchesReferenceUptoCardSaid : Prop := Claim7.holds Tryz.pinned (.plain (OpenSpec.upto denialMatchesReferenceSpec)) denialMatchesReferenceUptoCard

/-- THE SECOND FORM's CARD OF 'cleanselaw25.DenialMinimal'. -/
def denialMinimalUptoCard : Claim7 := { stood := { row := denialMinimalUptoRow, standIns := [], harness := (true, "e343313289ffcad181703a61da14b92e3d0d8151c38963dd9a115dd72033a70b"), looks := false }, kinds := [], alts := [], laidByText := true, laidKinds := [.data, .data, .data], laidTests := true, laidLooks := .later }
def DenialMinimalUptoCardSaid : Prop := Claim7.holds Tryz.pinned (.plain (OpenSpec.upto denialMinimalSpec)) denialMinimalUptoCard

/-- THE SECOND FORM's CARD OF 'cleanselaw25.DenialComplete'. -/
def denialCompleteUptoCard : Claim7 := { stood := { row := denialCompleteUptoRow, standIns := [], harness := (true, "e343313289ffcad181703a61da14b92e3d0d8151c38963dd9a115dd72033a70b"), looks := false }, kinds := [], alts := [], laidByText := true, laidKinds := [.data, .data, .data], laidTests := true, laidLooks := .later }
def DenialCompleteUptoCardSaid : Prop := Claim7.holds Tryz.pinned (.plain (OpenSpec.upto denialCompleteSpec)) denialCompleteUptoCard

/-- THE SECOND FORM's CARD OF 'cleanselaw25.DenialOrder'. -/
def denialOrderUptoCard : Claim7 := { stood := { row := denialOrderUptoRow, standIns := [], harness := (true, "e343313289ffcad181703a61da14b92e3d0d8151c38963dd9a115dd72033a70b"), looks := false }, kinds := [], alts := [], laidByText := true, laidKinds := [.data, .data, .data], laidTests := true, laidLooks := .later }
def DenialOrderUptoCardSaid : Prop := Claim7.holds Tryz.pinned (.plain (OpenSpec.upto denialOrderSpec)) denialOrderUptoCard

/-- THE SECOND FORM's CARD OF 'cleanselaw25.DenialLowers'. -/
def denialLowersUptoCard : Claim7 := { stood := { row := denialLowersUptoRow, standIns := [], harness := (true, "e343313289ffcad181703a61da14b92e3d0d8151c38963dd9a115dd72033a70b"), looks := false }, kinds := [], alts := [], laidByText := true, laidKinds := [.data, .data, .data], laidTests := true, laidLooks := .later }
def DenialLowersUptoCardSaid : Prop := Claim7.holds Tryz.pinned (.plain (OpenSpec.upto denialLowersSpec)) denialLowersUptoCard

/-- THE SECOND FORM's CARD OF 'cleanselaw25.DenialSupport'. -/
def denialSupportUptoCard : Claim7 := { stood := { row := denialSupportUptoRow, standIns := [], harness := (true, "e343313289ffcad181703a61da14b92e3d0d8151c38963dd9a115dd72033a70b"), looks := false }, kinds := [], alts := [], laidByText := true, laidKinds := [.data, .data, .data], laidTests := true, laidLooks := .later }
def DenialSupportUptoCardSaid : Prop := Claim7.holds Tryz.pinned (.plain (OpenSpec.upto denialSupportSpec)) denialSupportUptoCard

/-- THE SECOND FORM's CARD OF 'cleanselaw25.DenialVariants'. -/
def denialVariantsUptoCard : Claim7 := { stood := { row := denialVariantsUptoRow, standIns := [], harness := (true, "e343313289ffcad181703a61da14b92e3d0d8151c38963dd9a115dd72033a70b"), looks := false }, kinds := [], alts := [], laidByText := true, laidKinds := [.data, .data, .data], laidTests := true, laidLooks := .later }
def DenialVariantsUptoCardSaid : Prop := Claim7.holds Tryz.pinned (.plain (OpenSpec.upto denialVariantsSpec)) denialVariantsUptoCard
end Rows
end Go.Proofs.YticgfcbcaalioaaGreatDoor
