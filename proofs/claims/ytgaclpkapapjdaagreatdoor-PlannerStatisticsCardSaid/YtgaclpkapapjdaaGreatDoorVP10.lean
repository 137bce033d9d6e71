/- The facts of the row of PlannerStatistics. -/
import Derived.Test.YtgaclpkapapjdaaGreatDoorUP10
set_option linter.unusedVariables false
set_option linter.unusedSimpArgs false
set_option linter.unusedSectionVars false
namespace Go.Proofs.YtgaclpkapapjdaaGreatDoor.plannerStatistics
open Go.ChangeShapes Go.WideShapes Go.ChangeAt Go.RowKit
theorem k1 : Rows.plannerStatisticsRow.wf (OpenSpec.ofChange (OpenSpec.ofChange Rows.plannerStatisticsSpec).bare) = true := by kernel_rfl
theorem k2 : laidOutB Tryz.pinned.checked.prog = true := by kernel_rfl
theorem k3 : mapsRowed Tryz.pinned.checked.prog = true := by kernel_rfl
theorem k7 : (Tryz.pinned.checked.prog.stops == []) = true := by kernel_rfl
theorem k9 : (Tryz.pinned.checked.prog.stopKnobs == []) = true := by kernel_rfl
theorem k10 : (Rows.plannerStatisticsRow.inPlace == Tryz.pinned.checked.prog.inPlace 10) = true := by kernel_rfl
theorem k11 : (Rows.plannerStatisticsRow.unfollowed == Tryz.pinned.checked.prog.unfollowed 10) = true := by kernel_rfl
theorem k12 : (Rows.plannerStatisticsRow.recurses == Tryz.pinned.checked.prog.recurses 10) = true := by kernel_rfl
theorem k13 : (Rows.plannerStatisticsRow.named == Tryz.pinned.checked.prog.varsNamed 10) = true := by kernel_rfl
theorem facts : joinedFacts Tryz.pinned.checked.prog 10 Tryz.f10 (OpenSpec.ofChange Rows.plannerStatisticsSpec).bare Rows.plannerStatisticsRow = true := by
  unfold joinedFacts
  rw [k1, k2, k3, k7, k9, k10, k11, k12, k13]
  kernel_rfl
end Go.Proofs.YtgaclpkapapjdaaGreatDoor.plannerStatistics
