/- The facts of the row of PlannerCosts. -/
import Derived.Test.YtgaclpkapapjdaaGreatDoorUP9
set_option linter.unusedVariables false
set_option linter.unusedSimpArgs false
set_option linter.unusedSectionVars false
namespace Go.Proofs.YtgaclpkapapjdaaGreatDoor.plannerCosts
open Go.ChangeShapes Go.WideShapes Go.ChangeAt Go.RowKit
theorem k1 : Rows.plannerCostsRow.wf (OpenSpec.ofChange (OpenSpec.ofChange Rows.plannerCostsSpec).bare) = true := by kernel_rfl
theorem k2 : laidOutB Tryz.pinned.checked.prog = true := by kernel_rfl
theorem k3 : mapsRowed Tryz.pinned.checked.prog = true := by kernel_rfl
theorem k7 : (Tryz.pinned.checked.prog.stops == []) = true := by kernel_rfl
theorem k9 : (Tryz.pinned.checked.prog.stopKnobs == []) = true := by kernel_rfl
theorem k10 : (Rows.plannerCostsRow.inPlace == Tryz.pinned.checked.prog.inPlace 9) = true := by kernel_rfl
theorem k11 : (Rows.plannerCostsRow.unfollowed == Tryz.pinned.checked.prog.unfollowed 9) = true := by kernel_rfl
theorem k12 : (Rows.plannerCostsRow.recurses == Tryz.pinned.checked.prog.recurses 9) = true := by kernel_rfl
theorem k13 : (Rows.plannerCostsRow.named == Tryz.pinned.checked.prog.varsNamed 9) = true := by kernel_rfl
theorem facts : joinedFacts Tryz.pinned.checked.prog 9 Tryz.f9 (OpenSpec.ofChange Rows.plannerCostsSpec).bare Rows.plannerCostsRow = true := by
  unfold joinedFacts
  rw [k1, k2, k3, k7, k9, k10, k11, k12, k13]
  kernel_rfl
end Go.Proofs.YtgaclpkapapjdaaGreatDoor.plannerCosts
