/- The facts of the row of RewriteMatchesReference. -/
import Derived.Test.YtjenebejjamnjaaGreatDoorUV4
set_option linter.unusedVariables false
set_option linter.unusedSimpArgs false
set_option linter.unusedSectionVars false
namespace Go.Proofs.YtjenebejjamnjaaGreatDoor.rewriteMatchesReference
open Go.ChangeShapes Go.WideShapes Go.ChangeAt Go.RowKit
theorem facts : joinedFacts Tryz.pinned.checked.prog 3 Tryz.f3 (OpenSpec.ofChange Rows.rewriteMatchesReferenceSpec).bare Rows.rewriteMatchesReferenceRow = true := by kernel_rfl
end Go.Proofs.YtjenebejjamnjaaGreatDoor.rewriteMatchesReference
