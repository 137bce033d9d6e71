/- The facts of the row of PlannerMatchesReference. -/
import Derived.Test.YtgaclpkapapjdaaGreatDoorUP8
set_option linter.unusedVariables false
set_option linter.unusedSimpArgs false
set_option linter.unusedSectionVars false
set_option maxHeartbeats 16000000
namespace Go.Proofs.YtgaclpkapapjdaaGreatDoor.plannerMatchesReference
open Go.ChangeShapes Go.WideShapes Go.ChangeAt Go.RowKit
theorem k1 : Rows.plannerMatchesReferenceRow.wf (OpenSpec.ofChange (OpenSpec.ofChange Rows.plannerMatchesReferenceSpec).bare) = true := by kernel_rfl
theorem k2 : laidOutB Tryz.pinned.checked.prog = true := by kernel_rfl
theorem k3 : mapsRowed Tryz.pinned.checked.prog = true := by kernel_rfl
theorem k7 : (Tryz.pinned.checked.prog.stops == []) = true := by kernel_rfl
theorem k9 : (Tryz.pinned.checked.prog.stopKnobs == []) = true := by kernel_rfl
theorem k10 : (Rows.plannerMatchesReferenceRow.inPlace == Tryz.pinned.checked.prog.inPlace 8) = true := by kernel_rfl
theorem k11 : (Rows.plannerMatchesReferenceRow.unfollowed == Tryz.pinned.checked.prog.unfollowed 8) = true := by kernel_rfl
theorem k12 : (Rows.plannerMatchesReferenceRow.recurses == Tryz.pinned.checked.prog.recurses 8) = true := by kernel_rfl
theorem k13 : (Rows.plannerMatchesReferenceRow.named == Tryz.pinned.checked.prog.varsNamed 8) = true := by kernel_rfl
theorem facts : joinedFacts Tryz.pinned.checked.prog 8 Tryz.f8 (OpenSpec.ofChange Rows.plannerMatchesReferenceSpec).bare Rows.plannerMatchesReferenceRow = true := by
  unfold joinedFacts
  rw [k1, k2, k3, k7, k9, k10, k11, k12, k13]
  kernel_rfl
end Go.Proofs.YtgaclpkapapjdaaGreatDoor.plannerMatchesReference
