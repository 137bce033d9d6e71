/-
  DERIVED. GIVEN WITH THE SEED: THE CARDS: each row of YtjenebejjamnjaaGreatDoorRows.lean that lists a variable, with what it lists TIED to the program's text (the seventh form; the later family's looks); each row that meets fmt, with fmt's text TOLD by the authors' own Lean function (tested against real Go, not proved from fmt's source: count such statements apart). THE CARD IS WHAT COUNTS. Prove the row's statement (the work); the ties are given (YtjenebejjamnjaaGreatDoorTie.lean); close each card by the builder's one call (the guide's Derived/Test/ToyasCard.lean, 'card_holds'). Laid BY PROGRAM, IN A SANDBOX (cutbox-door.mjs). By AI agents, Wed Nov 11 2026. No macro, syntax, notation, axiom, sorry.
-/
import Derived.Test.YtjenebejjamnjaaGreatDoorRows
import GoSem.ClaimSeven
namespace Go.Proofs.YtjenebejjamnjaaGreatDoor
namespace Rows

/-- THE TIED CARD OF 'cleanselaw37.RewriteMatchesReference'. -/
def rewriteMatchesReferenceCard : Claim7 := { stood := { row := rewriteMatchesReferenceRow, standIns := [], harness := (true, "79a7db9b20df373b3f051b92227a54c304ab967c976af4f199047c26303e19ed"), looks := true }, kinds := [], alts := [], laidByText := true, laidKinds := [.data, .data, .data], laidTests := true, laidLooks := .later }
def RewriteMatchesReferenceCardSaid : Prop := Claim7.holds Tryz.pinned (.plain (OpenSpec.ofChange rewriteMatchesReferenceSpec)) rewriteMatchesReferenceCard

/-- THE TIED CARD OF 'cleanselaw37.RewriteCertain'. -/
def rewriteCertainCard : Claim7 := { stood := { row := rewriteCertainRow, standIns := [], harness := (true, "79a7db9b20df373b3f051b92227a54c304ab967c976af4f199047c26303e19ed"), looks := true }, kinds := [], alts := [], laidByText := true, laidKinds := [.data, .data, .data], laidTests := true, laidLooks := .later }
def RewriteCertainCardSaid : Prop := Claim7.holds Tryz.pinned (.plain (OpenSpec.ofChange rewriteCertainSpec)) rewriteCertainCard

/-- THE TIED CARD OF 'cleanselaw37.RewriteSequence'. -/
def rewriteSequenceCard : Claim7 := { stood := { row := rewriteSequenceRow, standIns := [], harness := (true, "79a7db9b20df373b3f051b92227a54c304ab967c976af4f199047c26303e19ed"), looks := true }, kinds := [], alts := [], laidByText := true, laidKinds := [.data, .data, .data], laidTests := true, laidLooks := .later }
def RewriteSequenceCardSaid : Prop := Claim7.holds Tryz.pinned (.plain (OpenSpec.ofChange rewriteSequenceSpec)) rewriteSequenceCard

/-- THE TIED CARD OF 'cleanselaw37.RewriteConsistent'. -/
def rewriteConsistentCard : Claim7 := { stood := { row := rewriteConsistentRow, standIns := [], harness := (true, "79a7db9b20df373b3f051b92227a54c304ab967c976af4f199047c26303e19ed"), looks := true }, kinds := [], alts := [], laidByText := true, laidKinds := [.data, .data, .data], laidTests := true, laidLooks := .later }
def RewriteConsistentCardSaid : Prop := Claim7.holds Tryz.pinned (.plain (OpenSpec.ofChange rewriteConsistentSpec)) rewriteConsistentCard

/-- THE TIED CARD OF 'cleanselaw37.RewriteFurther'. -/
def rewriteFurtherCard : Claim7 := { stood := { row := rewriteFurtherRow, standIns := [], harness := (true, "79a7db9b20df373b3f051b92227a54c304ab967c976af4f199047c26303e19ed"), looks := true }, kinds := [], alts := [], laidByText := true, laidKinds := [.data, .data, .data], laidTests := true, laidLooks := .later }
def RewriteFurtherCardSaid : Prop := Claim7.holds Tryz.pinned (.plain (OpenSpec.ofChange rewriteFurtherSpec)) rewriteFurtherCard

/-- THE TIED CARD OF 'cleanselaw37.RewriteOne'. -/
def rewriteOneCard : Claim7 := { stood := { row := rewriteOneRow, standIns := [], harness := (true, "79a7db9b20df373b3f051b92227a54c304ab967c976af4f199047c26303e19ed"), looks := true }, kinds := [], alts := [], laidByText := true, laidKinds := [.data, .data, .data], laidTests := true, laidLooks := .later }
def RewriteOneCardSaid : Prop := Claim7.holds Tryz.pinned (.plain (OpenSpec.ofChange rewriteOneSpec)) rewriteOneCard

/-- THE TIED CARD OF 'cleanselaw37.RewriteGrows'. -/
def rewriteGrowsCard : Claim7 := { stood := { row := rewriteGrowsRow, standIns := [], harness := (true, "79a7db9b20df373b3f051b92227a54c304ab967c976af4f199047c26303e19ed"), looks := true }, kinds := [], alts := [], laidByText := true, laidKinds := [.data, .data, .data], laidTests := true, laidLooks := .later }
def RewriteGrowsCardSaid : Prop := Claim7.holds Tryz.pinned (.plain (OpenSpec.ofChange rewriteGrowsSpec)) rewriteGrowsCard

/-- THE TIED CARD OF 'cleanselaw37.RewriteRepairs'. -/
def rewriteRepairsCard : Claim7 := { stood := { row := rewriteRepairsRow, standIns := [], harness := (true, "79a7db9b20df373b3f051b92227a54c304ab967c976af4f199047c26303e19ed"), looks := true }, kinds := [], alts := [], laidByText := true, laidKinds := [.data, .data, .data], laidTests := true, laidLooks := .later }
def RewriteRepairsCardSaid : Prop := Claim7.holds Tryz.pinned (.plain (OpenSpec.ofChange rewriteRepairsSpec)) rewriteRepairsCard

/-- THE SECOND FORM's CARD OF 'cleanselaw37.RewriteMatchesReference'. -/
def rewriteMatchesReferenceUptoCard : Claim7 := { stood := { row := rewriteMatchesReferenceUptoRow, standIns := [], harness := (true, "79a7db9b20df373b3f051b92227a54c304ab967c976af4f199047c26303e19ed"), looks := true }, kinds := [], alts := [], laidByText := true, laidKinds := [.data, .data, .data], laidTests := true, laidLooks := .later }
def RewriteMatchesReferenceUptoCardSaid : Prop := Claim7.holds Tryz.pinned (.plain (OpenSpec.upto rewriteMatchesReferenceSpec)) rewriteMatchesReferenceUptoCard

/-- THE SECOND FORM's CARD OF 'cleanselaw37.RewriteCertain'. -/
def rewriteCertainUptoCard : Claim7 := { stood := { row := rewriteCertainUptoRow, standIns := [], harness := (true, "79a7db9b20df373b3f051b92227a54c304ab967c976af4f199047c26303e19ed"), looks := true }, kinds := [], alts := [], laidByText := true, laidKinds := [.data, .data, .data], laidTests := true, laidLooks := .later }
def RewriteCertainUptoCardSaid : Prop := Claim7.holds Tryz.pinned (.plain (OpenSpec.upto rewriteCertainSpec)) rewriteCertainUptoCard

/-- THE SECOND FORM's CARD OF 'cleanselaw37.RewriteSequence'. -/
def rewriteSequenceUptoCard : Claim7 := { stood := { row := rewriteSequenceUptoRow, standIns := [], harness := (true, "79a7db9b20df373b3f051b92227a54c304ab967c976af4f199047c26303e19ed"), looks := true }, kinds := [], alts := [], laidByText := true, laidKinds := [.data, .data, .data], laidTests := true, laidLooks := .later }
def RewriteSequenceUptoCardSaid : Prop := Claim7.holds Tryz.pinned (.plain (OpenSpec.upto rewriteSequenceSpec)) rewriteSequenceUptoCard

/-- THE SECOND FORM's CARD OF 'cleanselaw37.RewriteConsistent'. -/
def rewriteConsistentUptoCard : Claim7 := { stood := { row := rewriteConsistentUptoRow, standIns := [], harness := (true, "79a7db9b20df373b3f051b92227a54c304ab967c976af4f199047c26303e19ed"), looks := true }, kinds := [], alts := [], laidByText := true, laidKinds := [.data, .data, .data], laidTests := true, laidLooks := .later }
def RewriteConsistentUptoCardSaid : Prop := Claim7.holds Tryz.pinned (.plain (OpenSpec.upto rewriteConsistentSpec)) rewriteConsistentUptoCard

/-- THE SECOND FORM's CARD OF 'cleanselaw37.RewriteFurther'. -/
def rewriteFurtherUptoCard : Claim7 := { stood := { row := rewriteFurtherUptoRow, standIns := [], harness := (true, "79a7db9b20df373b3f051b92227a54c304ab967c976af4f199047c26303e19ed"), looks := true }, kinds := [], alts := [], laidByText := true, laidKinds := [.data, .data, .data], laidTests := true, laidLooks := .later }
def RewriteFurtherUptoCardSaid : Prop := Claim7.holds Tryz.pinned (.plain (OpenSpec.upto rewriteFurtherSpec)) rewriteFurtherUptoCard

/-- THE SECOND FORM's CARD OF 'cleanselaw37.RewriteOne'. -/
def rewriteOneUptoCard : Claim7 := { stood := { row := rewriteOneUptoRow, standIns := [], harness := (true, "79a7db9b20df373b3f051b92227a54c304ab967c976af4f199047c26303e19ed"), looks := true }, kinds := [], alts := [], laidByText := true, laidKinds := [.data, .data, .data], laidTests := true, laidLooks := .later }
def RewriteOneUptoCardSaid : Prop := Claim7.holds Tryz.pinned (.plain (OpenSpec.upto rewriteOneSpec)) rewriteOneUptoCard

/-- THE SECOND FORM's CARD OF 'cleanselaw37.RewriteGrows'. -/
def rewriteGrowsUptoCard : Claim7 := { stood := { row := rewriteGrowsUptoRow, standIns := [], harness := (true, "79a7db9b20df373b3f051b92227a54c304ab967c976af4f199047c26303e19ed"), looks := true }, kinds := [], alts := [], laidByText := true, laidKinds := [.data, .data, .data], laidTests := true, laidLooks := .later }
def RewriteGrowsUptoCardSaid : Prop := Claim7.holds Tryz.pinned (.plain (OpenSpec.upto rewriteGrowsSpec)) rewriteGrowsUptoCard

/-- THE SECOND FORM's CARD OF 'cleanselaw37.RewriteRepairs'. -/
def rewriteRepairsUptoCard : Claim7 := { stood := { row := rewriteRepairsUptoRow, standIns := [], harness := (true, "79a7db9b20df373b3f051b92227a54c304ab967c976af4f199047c26303e19ed"), looks := true }, kinds := [], alts := [], laidByText := true, laidKinds := [.data, .data, .data], laidTests := true, laidLooks := .later }
def RewriteRepairsUptoCardSaid : Prop := Claim7.holds Tryz.pinned (.plain (OpenSpec.upto rewriteRepairsSpec)) rewriteRepairsUptoCard
end Rows
end Go.Proofs.YtjenebejjamnjaaGreatDoor
