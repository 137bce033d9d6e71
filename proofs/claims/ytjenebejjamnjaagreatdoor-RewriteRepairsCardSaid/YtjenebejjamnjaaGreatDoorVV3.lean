/- The facts of the row of RewriteRepairs. -/
import Derived.Test.YtjenebejjamnjaaGreatDoorUV3
set_option linter.unusedVariables false
set_option linter.unusedSimpArgs false
set_option linter.unusedSectionVars false
namespace Go.Proofs.YtjenebejjamnjaaGreatDoor.rewriteRepairs
open Go.ChangeShapes Go.WideShapes Go.ChangeAt Go.RowKit
theorem facts : joinedFacts Tryz.pinned.checked.prog 10 Tryz.f10 (OpenSpec.ofChange Rows.rewriteRepairsSpec).bare Rows.rewriteRepairsRow = true := by kernel_rfl
end Go.Proofs.YtjenebejjamnjaaGreatDoor.rewriteRepairs
