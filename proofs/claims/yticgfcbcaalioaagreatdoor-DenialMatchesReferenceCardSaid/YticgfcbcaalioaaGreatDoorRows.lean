/-
  NARROWER THAN 'FOR EVERY INPUT', by the rows' own cells (each row's printed sentence says how): DenialMatchesReference: laid · DenialMinimal: laid · DenialComplete: laid · DenialOrder: laid · DenialLowers: laid · DenialSupport: laid · DenialVariants: laid.
  DERIVED. THE GIVEN ROWS OF THIS SEAT. 7 by the template 'for every input the law returns true; each argument reads behind the call as it read before'; 0 by the template 'total and deterministic' (their statements: YticgfcbcaalioaaGreatDoorTotals.lean).
  GIVEN WITH THE SEED: the statements are not yours to turn. If you find one false, say at which input.
  Laid BY PROGRAM, IN A SANDBOX (cutbox-rows.mjs): the forced cells as the released guide's own fill.sh prints them over the translation df078b3192488392… (all of the seat's roots in one cut). By AI agents, Wed Nov 11 2026. No macro, syntax, notation, axiom, sorry.
-/
import Derived.Test.YticgfcbcaalioaaGreatDoorChecked
import GoSem.Claim
import GoSem.ClaimJoined
import GoSem.ClaimMapViews
import Derived.JoinedTies
import Derived.KernelRfl
namespace Go.Proofs.YticgfcbcaalioaaGreatDoor
/- THE CELL 'sum', in the pinned program and in every row, IS THE sha256 OF THE DUMP (.gsa) THAT YticgfcbcaalioaaGreatDoorProg.lean LOADS. Nothing in Lean hashes anything: it is a label: what it is worth is what the hold of that sum in a sandbox is worth. -/
noncomputable def Tryz.pinned : Pinned := { name := "yticgfcbcaalioaagreatdoor", sum := "df078b319248839262abcc1a78c8fca0cb441fbe7536f451e24d1cd65b5d7dcd", checked := Tryz.checked }
namespace Rows
def none {H : Type} : Left H := { results := [], args := [] }

/- WHAT THE LISTED PACKAGE-LEVEL VARIABLES READ AS WHEN THE CALL BEGINS. Each datum BY PROGRAM (the guide's laid-datum.mjs) off the statement by which the dump's own 'gosem.cut.vars' lays the variable. In a bare row this is a premise. The card (YticgfcbcaalioaaGreatDoorCards.lean) ties it to the program's text. -/
def laid_math_bits_deBruijn32tab {H : Type} : DataW H := .agg [.lit (.int .u8 0), .lit (.int .u8 1), .lit (.int .u8 28), .lit (.int .u8 2), .lit (.int .u8 29), .lit (.int .u8 14), .lit (.int .u8 24), .lit (.int .u8 3), .lit (.int .u8 30), .lit (.int .u8 22), .lit (.int .u8 20), .lit (.int .u8 15), .lit (.int .u8 25), .lit (.int .u8 17), .lit (.int .u8 4), .lit (.int .u8 8), .lit (.int .u8 31), .lit (.int .u8 27), .lit (.int .u8 13), .lit (.int .u8 23), .lit (.int .u8 21), .lit (.int .u8 19), .lit (.int .u8 16), .lit (.int .u8 7), .lit (.int .u8 26), .lit (.int .u8 12), .lit (.int .u8 18), .lit (.int .u8 6), .lit (.int .u8 11), .lit (.int .u8 5), .lit (.int .u8 10), .lit (.int .u8 9)]
def laid_math_bits_deBruijn64tab {H : Type} : DataW H := .agg [.lit (.int .u8 0), .lit (.int .u8 1), .lit (.int .u8 56), .lit (.int .u8 2), .lit (.int .u8 57), .lit (.int .u8 49), .lit (.int .u8 28), .lit (.int .u8 3), .lit (.int .u8 61), .lit (.int .u8 58), .lit (.int .u8 42), .lit (.int .u8 50), .lit (.int .u8 38), .lit (.int .u8 29), .lit (.int .u8 17), .lit (.int .u8 4), .lit (.int .u8 62), .lit (.int .u8 47), .lit (.int .u8 59), .lit (.int .u8 36), .lit (.int .u8 45), .lit (.int .u8 43), .lit (.int .u8 51), .lit (.int .u8 22), .lit (.int .u8 53), .lit (.int .u8 39), .lit (.int .u8 33), .lit (.int .u8 30), .lit (.int .u8 24), .lit (.int .u8 18), .lit (.int .u8 12), .lit (.int .u8 5), .lit (.int .u8 63), .lit (.int .u8 55), .lit (.int .u8 48), .lit (.int .u8 27), .lit (.int .u8 60), .lit (.int .u8 41), .lit (.int .u8 37), .lit (.int .u8 16), .lit (.int .u8 46), .lit (.int .u8 35), .lit (.int .u8 44), .lit (.int .u8 21), .lit (.int .u8 52), .lit (.int .u8 32), .lit (.int .u8 23), .lit (.int .u8 11), .lit (.int .u8 54), .lit (.int .u8 26), .lit (.int .u8 40), .lit (.int .u8 15), .lit (.int .u8 34), .lit (.int .u8 20), .lit (.int .u8 31), .lit (.int .u8 10), .lit (.int .u8 25), .lit (.int .u8 14), .lit (.int .u8 19), .lit (.int .u8 9), .lit (.int .u8 13), .lit (.int .u8 8), .lit (.int .u8 7), .lit (.int .u8 6)]
def laid_internal_strconv_uint64pow10 {H : Type} : DataW H := .agg [.lit (.int .u64 1), .lit (.int .u64 10), .lit (.int .u64 100), .lit (.int .u64 1000), .lit (.int .u64 10000), .lit (.int .u64 100000), .lit (.int .u64 1000000), .lit (.int .u64 10000000), .lit (.int .u64 100000000), .lit (.int .u64 1000000000), .lit (.int .u64 10000000000), .lit (.int .u64 100000000000), .lit (.int .u64 1000000000000), .lit (.int .u64 10000000000000), .lit (.int .u64 100000000000000), .lit (.int .u64 1000000000000000), .lit (.int .u64 10000000000000000), .lit (.int .u64 100000000000000000), .lit (.int .u64 1000000000000000000), .lit (.int .u64 10000000000000000000)]

/-- 'cleanselaw25.DenialMatchesReference': WHATEVER THE INPUT: true; the input reads as it did. -/
def denialMatchesReferenceSpec : ChangeSpec := { name := "denialMatchesReference", fn := fun _ => fun
  | [d1, d2, d3] => { results := [.lit (.bool true)], args := [d1, d2, d3] }
  | _ => none }
def denialMatchesReferenceRow : OpenClaim := { program := "yticgfcbcaalioaagreatdoor", sum := "df078b319248839262abcc1a78c8fca0cb441fbe7536f451e24d1cd65b5d7dcd", func := "cleanse/cleanselaw25.DenialMatchesReference", spec := "denialMatchesReference", unfollowed := true, recurses := true, named := ["internal/strconv.uint64pow10", "math/bits.deBruijn32tab", "math/bits.deBruijn64tab"], apart := false, laid := [("math/bits.deBruijn32tab", laid_math_bits_deBruijn32tab), ("math/bits.deBruijn64tab", laid_math_bits_deBruijn64tab), ("internal/strconv.uint64pow10", laid_internal_strconv_uint64pow10)] }
def DenialMatchesReferenceSaid : Prop := denialMatchesReferenceRow.holds Tryz.pinned (OpenSpec.ofChange denialMatchesReferenceSpec)

/-- ITS FALSE NEIGHBOUR: 'it returns false'. Refute it at one input. -/
def denialMatchesReferenceWrong : ChangeSpec := { name := "denialMatchesReference", fn := fun _ => fun
  | [d1, d2, d3] => { results := [.lit (.bool false)], args := [d1, d2, d3] }
  | _ => none }
def DenialMatchesReferenceWrongFalsely : Prop := denialMatchesReferenceRow.holds Tryz.pinned (OpenSpec.ofChange denialMatchesReferenceWrong)

/-- 'cleanselaw25.DenialMinimal': WHATEVER THE INPUT: true; the input reads as it did. -/
def denialMinimalSpec : ChangeSpec := { name := "denialMinimal", fn := fun _ => fun
  | [d1, d2] => { results := [.lit (.bool true)], args := [d1, d2] }
  | _ => none }
def denialMinimalRow : OpenClaim := { program := "yticgfcbcaalioaagreatdoor", sum := "df078b319248839262abcc1a78c8fca0cb441fbe7536f451e24d1cd65b5d7dcd", func := "cleanse/cleanselaw25.DenialMinimal", spec := "denialMinimal", unfollowed := true, recurses := true, named := ["internal/strconv.uint64pow10", "math/bits.deBruijn32tab", "math/bits.deBruijn64tab"], apart := false, laid := [("math/bits.deBruijn32tab", laid_math_bits_deBruijn32tab), ("math/bits.deBruijn64tab", laid_math_bits_deBruijn64tab), ("internal/strconv.uint64pow10", laid_internal_strconv_uint64pow10)] }
def DenialMinimalSaid : Prop := denialMinimalRow.holds Tryz.pinned (OpenSpec.ofChange denialMinimalSpec)

/-- ITS FALSE NEIGHBOUR: 'it returns false'. Refute it at one input. -/
def denialMinimalWrong : ChangeSpec := { name := "denialMinimal", fn := fun _ => fun
  | [d1, d2] => { results := [.lit (.bool false)], args := [d1, d2] }
  | _ => none }
def DenialMinimalWrongFalsely : Prop := denialMinimalRow.holds Tryz.pinned (OpenSpec.ofChange denialMinimalWrong)

/-- 'cleanselaw25.DenialComplete': WHATEVER THE INPUT: true; the input reads as it did. -/
def denialCompleteSpec : ChangeSpec := { name := "denialComplete", fn := fun _ => fun
  | [d1, d2, d3] => { results := [.lit (.bool true)], args := [d1, d2, d3] }
  | _ => none }
def denialCompleteRow : OpenClaim := { program := "yticgfcbcaalioaagreatdoor", sum := "df078b319248839262abcc1a78c8fca0cb441fbe7536f451e24d1cd65b5d7dcd", func := "cleanse/cleanselaw25.DenialComplete", spec := "denialComplete", unfollowed := true, recurses := true, named := ["internal/strconv.uint64pow10", "math/bits.deBruijn32tab", "math/bits.deBruijn64tab"], apart := false, laid := [("math/bits.deBruijn32tab", laid_math_bits_deBruijn32tab), ("math/bits.deBruijn64tab", laid_math_bits_deBruijn64tab), ("internal/strconv.uint64pow10", laid_internal_strconv_uint64pow10)] }
def DenialCompleteSaid : Prop := denialCompleteRow.holds Tryz.pinned (OpenSpec.ofChange denialCompleteSpec)

/-- ITS FALSE NEIGHBOUR: 'it returns false'. Refute it at one input. -/
def denialCompleteWrong : ChangeSpec := { name := "denialComplete", fn := fun _ => fun
  | [d1, d2, d3] => { results := [.lit (.bool false)], args := [d1, d2, d3] }
  | _ => none }
def DenialCompleteWrongFalsely : Prop := denialCompleteRow.holds Tryz.pinned (OpenSpec.ofChange denialCompleteWrong)

/-- 'cleanselaw25.DenialOrder': WHATEVER THE INPUT: true; the input reads as it did. -/
def denialOrderSpec : ChangeSpec := { name := "denialOrder", fn := fun _ => fun
  | [d1, d2, d3, d4] => { results := [.lit (.bool true)], args := [d1, d2, d3, d4] }
  | _ => none }
def denialOrderRow : OpenClaim := { program := "yticgfcbcaalioaagreatdoor", sum := "df078b319248839262abcc1a78c8fca0cb441fbe7536f451e24d1cd65b5d7dcd", func := "cleanse/cleanselaw25.DenialOrder", spec := "denialOrder", unfollowed := true, recurses := true, named := ["internal/strconv.uint64pow10", "math/bits.deBruijn32tab", "math/bits.deBruijn64tab"], apart := false, laid := [("math/bits.deBruijn32tab", laid_math_bits_deBruijn32tab), ("math/bits.deBruijn64tab", laid_math_bits_deBruijn64tab), ("internal/strconv.uint64pow10", laid_internal_strconv_uint64pow10)] }
def DenialOrderSaid : Prop := denialOrderRow.holds Tryz.pinned (OpenSpec.ofChange denialOrderSpec)

/-- ITS FALSE NEIGHBOUR: 'it returns false'. Refute it at one input. -/
def denialOrderWrong : ChangeSpec := { name := "denialOrder", fn := fun _ => fun
  | [d1, d2, d3, d4] => { results := [.lit (.bool false)], args := [d1, d2, d3, d4] }
  | _ => none }
def DenialOrderWrongFalsely : Prop := denialOrderRow.holds Tryz.pinned (OpenSpec.ofChange denialOrderWrong)

/-- 'cleanselaw25.DenialLowers': WHATEVER THE INPUT: true; the input reads as it did. -/
def denialLowersSpec : ChangeSpec := { name := "denialLowers", fn := fun _ => fun
  | [d1, d2] => { results := [.lit (.bool true)], args := [d1, d2] }
  | _ => none }
def denialLowersRow : OpenClaim := { program := "yticgfcbcaalioaagreatdoor", sum := "df078b319248839262abcc1a78c8fca0cb441fbe7536f451e24d1cd65b5d7dcd", func := "cleanse/cleanselaw25.DenialLowers", spec := "denialLowers", unfollowed := true, recurses := true, named := ["internal/strconv.uint64pow10", "math/bits.deBruijn32tab", "math/bits.deBruijn64tab"], apart := false, laid := [("math/bits.deBruijn32tab", laid_math_bits_deBruijn32tab), ("math/bits.deBruijn64tab", laid_math_bits_deBruijn64tab), ("internal/strconv.uint64pow10", laid_internal_strconv_uint64pow10)] }
def DenialLowersSaid : Prop := denialLowersRow.holds Tryz.pinned (OpenSpec.ofChange denialLowersSpec)

/-- ITS FALSE NEIGHBOUR: 'it returns false'. Refute it at one input. -/
def denialLowersWrong : ChangeSpec := { name := "denialLowers", fn := fun _ => fun
  | [d1, d2] => { results := [.lit (.bool false)], args := [d1, d2] }
  | _ => none }
def DenialLowersWrongFalsely : Prop := denialLowersRow.holds Tryz.pinned (OpenSpec.ofChange denialLowersWrong)

/-- 'cleanselaw25.DenialSupport': WHATEVER THE INPUT: true; the input reads as it did. -/
def denialSupportSpec : ChangeSpec := { name := "denialSupport", fn := fun _ => fun
  | [d1, d2, d3] => { results := [.lit (.bool true)], args := [d1, d2, d3] }
  | _ => none }
def denialSupportRow : OpenClaim := { program := "yticgfcbcaalioaagreatdoor", sum := "df078b319248839262abcc1a78c8fca0cb441fbe7536f451e24d1cd65b5d7dcd", func := "cleanse/cleanselaw25.DenialSupport", spec := "denialSupport", unfollowed := true, recurses := true, named := ["internal/strconv.uint64pow10", "math/bits.deBruijn32tab", "math/bits.deBruijn64tab"], apart := false, laid := [("math/bits.deBruijn32tab", laid_math_bits_deBruijn32tab), ("math/bits.deBruijn64tab", laid_math_bits_deBruijn64tab), ("internal/strconv.uint64pow10", laid_internal_strconv_uint64pow10)] }
def DenialSupportSaid : Prop := denialSupportRow.holds Tryz.pinned (OpenSpec.ofChange denialSupportSpec)

/-- ITS FALSE NEIGHBOUR: 'it returns false'. Refute it at one input. -/
def denialSupportWrong : ChangeSpec := { name := "denialSupport", fn := fun _ => fun
  | [d1, d2, d3] => { results := [.lit (.bool false)], args := [d1, d2, d3] }
  | _ => none }
def DenialSupportWrongFalsely : Prop := denialSupportRow.holds Tryz.pinned (OpenSpec.ofChange denialSupportWrong)

/-- 'cleanselaw25.DenialVariants': WHATEVER THE INPUT: true; the input reads as it did. -/
def denialVariantsSpec : ChangeSpec := { name := "denialVariants", fn := fun _ => fun
  | [d1, d2, d3] => { results := [.lit (.bool true)], args := [d1, d2, d3] }
  | _ => none }
def denialVariantsRow : OpenClaim := { program := "yticgfcbcaalioaagreatdoor", sum := "df078b319248839262abcc1a78c8fca0cb441fbe7536f451e24d1cd65b5d7dcd", func := "cleanse/cleanselaw25.DenialVariants", spec := "denialVariants", unfollowed := true, recurses := true, named := ["internal/strconv.uint64pow10", "math/bits.deBruijn32tab", "math/bits.deBruijn64tab"], apart := false, laid := [("math/bits.deBruijn32tab", laid_math_bits_deBruijn32tab), ("math/bits.deBruijn64tab", laid_math_bits_deBruijn64tab), ("internal/strconv.uint64pow10", laid_internal_strconv_uint64pow10)] }
def DenialVariantsSaid : Prop := denialVariantsRow.holds Tryz.pinned (OpenSpec.ofChange denialVariantsSpec)

/-- ITS FALSE NEIGHBOUR: 'it returns false'. Refute it at one input. -/
def denialVariantsWrong : ChangeSpec := { name := "denialVariants", fn := fun _ => fun
  | [d1, d2, d3] => { results := [.lit (.bool false)], args := [d1, d2, d3] }
  | _ => none }
def DenialVariantsWrongFalsely : Prop := denialVariantsRow.holds Tryz.pinned (OpenSpec.ofChange denialVariantsWrong)

/- THE SECOND FORM. 'bulk': how many values and letters a reading holds, each counted each time it is reached (what is shared counts as often as it is met; a slice's spare places count too). A statement '..UptoSaid' is the law's where the arguments, and the package variables that the reading takes, are together of bulk at most 1048576: NARROWER than '..Said'. Prove '..Said' where nothing that the law and all that it calls make is longer than what came in: it says more and counts as full. Else prove '..UptoSaid'. A law counts once. -/
mutual
def uptoBulk {H : Type} : DataW H → Nat
  | .lit (.string bytes) => bytes.length + 1
  | .lit _ => 1
  | .nil => 1
  | .ptr d => uptoBulk d + 1
  | .slice elems spare => uptoBulkAll elems + uptoBulkAll spare + 1
  | .agg parts => uptoBulkAll parts + 1
  | .iface _ d => uptoBulk d + 1
  | .map entries => uptoBulkEntries entries + 1
  | .held _ => 1
def uptoBulkAll {H : Type} : List (DataW H) → Nat
  | [] => 0
  | d :: r => uptoBulk d + uptoBulkAll r
def uptoBulkEntries {H : Type} : List (Lit × DataW H) → Nat
  | [] => 0
  | x :: r => uptoBulkEntry x + uptoBulkEntries r
def uptoBulkEntry {H : Type} : Lit × DataW H → Nat
  | (.string bytes, d) => bytes.length + uptoBulk d + 1
  | (_, d) => uptoBulk d + 1
 end
def uptoSmall : (H : Type) → List (DataW H) → Bool := fun _ ds => decide (uptoBulkAll ds ≤ 1048576)
def OpenSpec.upto (s : _root_.Go.ChangeSpec) : _root_.Go.OpenSpec := { _root_.Go.OpenSpec.ofChange s with cond := some uptoSmall }

/-- 'cleanselaw25.DenialMatchesReference', WHERE WHAT IT READS IS OF BULK AT MOST 1048576: true; the input reads as it did. -/
def denialMatchesReferenceUptoRow : OpenClaim := { program := "yticgfcbcaalioaagreatdoor", sum := "df078b319248839262abcc1a78c8fca0cb441fbe7536f451e24d1cd65b5d7dcd", func := "cleanse/cleanselaw25.DenialMatchesReference", spec := "denialMatchesReference", unfollowed := true, recurses := true, named := ["internal/strconv.uint64pow10", "math/bits.deBruijn32tab", "math/bits.deBruijn64tab"], apart := false, laid := [("math/bits.deBruijn32tab", laid_math_bits_deBruijn32tab), ("math/bits.deBruijn64tab", laid_math_bits_deBruijn64tab), ("internal/strconv.uint64pow10", laid_internal_strconv_uint64pow10)], narrowed := true }
def DenialMatchesReferenceUptoSaid : Prop := denialMatchesReferenceUptoRow.holds Tryz.pinned (OpenSpec.upto denialMatchesReferenceSpec)

/-- 'cleanselaw25.DenialMinimal', WHERE WHAT IT READS IS OF BULK AT MOST 1048576: true; the input reads as it did. -/
def denialMinimalUptoRow : OpenClaim := { program := "yticgfcbcaalioaagreatdoor", sum := "df078b319248839262abcc1a78c8fca0cb441fbe7536f451e24d1cd65b5d7dcd", func := "cleanse/cleanselaw25.DenialMinimal", spec := "denialMinimal", unfollowed := true, recurses := true, named := ["internal/strconv.uint64pow10", "math/bits.deBruijn32tab", "math/bits.deBruijn64tab"], apart := false, laid := [("math/bits.deBruijn32tab", laid_math_bits_deBruijn32tab), ("math/bits.deBruijn64tab", laid_math_bits_deBruijn64tab), ("internal/strconv.uint64pow10", laid_internal_strconv_uint64pow10)], narrowed := true }
def DenialMinimalUptoSaid : Prop := denialMinimalUptoRow.holds Tryz.pinned (OpenSpec.upto denialMinimalSpec)

/-- 'cleanselaw25.DenialComplete', WHERE WHAT IT READS IS OF BULK AT MOST 1048576: true; the input reads as it did. -/
def denialCompleteUptoRow : OpenClaim := { program := "yticgfcbcaalioaagreatdoor", sum := "df078b319248839262abcc1a78c8fca0cb441fbe7536f451e24d1cd65b5d7dcd", func := "cleanse/cleanselaw25.DenialComplete", spec := "denialComplete", unfollowed := true, recurses := true, named := ["internal/strconv.uint64pow10", "math/bits.deBruijn32tab", "math/bits.deBruijn64tab"], apart := false, laid := [("math/bits.deBruijn32tab", laid_math_bits_deBruijn32tab), ("math/bits.deBruijn64tab", laid_math_bits_deBruijn64tab), ("internal/strconv.uint64pow10", laid_internal_strconv_uint64pow10)], narrowed := true }
def DenialCompleteUptoSaid : Prop := denialCompleteUptoRow.holds Tryz.pinned (OpenSpec.upto denialCompleteSpec)

/-- 'cleanselaw25.DenialOrder', WHERE WHAT IT READS IS OF BULK AT MOST 1048576: true; the input reads as it did. -/
def denialOrderUptoRow : OpenClaim := { program := "yticgfcbcaalioaagreatdoor", sum := "df078b319248839262abcc1a78c8fca0cb441fbe7536f451e24d1cd65b5d7dcd", func := "cleanse/cleanselaw25.DenialOrder", spec := "denialOrder", unfollowed := true, recurses := true, named := ["internal/strconv.uint64pow10", "math/bits.deBruijn32tab", "math/bits.deBruijn64tab"], apart := false, laid := [("math/bits.deBruijn32tab", laid_math_bits_deBruijn32tab), ("math/bits.deBruijn64tab", laid_math_bits_deBruijn64tab), ("internal/strconv.uint64pow10", laid_internal_strconv_uint64pow10)], narrowed := true }
def DenialOrderUptoSaid : Prop := denialOrderUptoRow.holds Tryz.pinned (OpenSpec.upto denialOrderSpec)

/-- 'cleanselaw25.DenialLowers', WHERE WHAT IT READS IS OF BULK AT MOST 1048576: true; the input reads as it did. -/
def denialLowersUptoRow : OpenClaim := { program := "yticgfcbcaalioaagreatdoor", sum := "df078b319248839262abcc1a78c8fca0cb441fbe7536f451e24d1cd65b5d7dcd", func := "cleanse/cleanselaw25.DenialLowers", spec := "denialLowers", unfollowed := true, recurses := true, named := ["internal/strconv.uint64pow10", "math/bits.deBruijn32tab", "math/bits.deBruijn64tab"], apart := false, laid := [("math/bits.deBruijn32tab", laid_math_bits_deBruijn32tab), ("math/bits.deBruijn64tab", laid_math_bits_deBruijn64tab), ("internal/strconv.uint64pow10", laid_internal_strconv_uint64pow10)], narrowed := true }
def DenialLowersUptoSaid : Prop := denialLowersUptoRow.holds Tryz.pinned (OpenSpec.upto denialLowersSpec)

/-- 'cleanselaw25.DenialSupport', WHERE WHAT IT READS IS OF BULK AT MOST 1048576: true; the input reads as it did. -/
def denialSupportUptoRow : OpenClaim := { program := "yticgfcbcaalioaagreatdoor", sum := "df078b319248839262abcc1a78c8fca0cb441fbe7536f451e24d1cd65b5d7dcd", func := "cleanse/cleanselaw25.DenialSupport", spec := "denialSupport", unfollowed := true, recurses := true, named := ["internal/strconv.uint64pow10", "math/bits.deBruijn32tab", "math/bits.deBruijn64tab"], apart := false, laid := [("math/bits.deBruijn32tab", laid_math_bits_deBruijn32tab), ("math/bits.deBruijn64tab", laid_math_bits_deBruijn64tab), ("internal/strconv.uint64pow10", laid_internal_strconv_uint64pow10)], narrowed := true }
def DenialSupportUptoSaid : Prop := denialSupportUptoRow.holds Tryz.pinned (OpenSpec.upto denialSupportSpec)

/-- 'cleanselaw25.DenialVariants', WHERE WHAT IT READS IS OF BULK AT MOST 1048576: true; the input reads as it did. -/
def denialVariantsUptoRow : OpenClaim := { program := "yticgfcbcaalioaagreatdoor", sum := "df078b319248839262abcc1a78c8fca0cb441fbe7536f451e24d1cd65b5d7dcd", func := "cleanse/cleanselaw25.DenialVariants", spec := "denialVariants", unfollowed := true, recurses := true, named := ["internal/strconv.uint64pow10", "math/bits.deBruijn32tab", "math/bits.deBruijn64tab"], apart := false, laid := [("math/bits.deBruijn32tab", laid_math_bits_deBruijn32tab), ("math/bits.deBruijn64tab", laid_math_bits_deBruijn64tab), ("internal/strconv.uint64pow10", laid_internal_strconv_uint64pow10)], narrowed := true }
def DenialVariantsUptoSaid : Prop := denialVariantsUptoRow.holds Tryz.pinned (OpenSpec.upto denialVariantsSpec)

end Rows
end Go.Proofs.YticgfcbcaalioaaGreatDoor
