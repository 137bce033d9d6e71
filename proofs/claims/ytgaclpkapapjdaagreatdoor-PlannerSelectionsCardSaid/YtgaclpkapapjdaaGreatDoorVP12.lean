/- The facts of the row of PlannerSelections. -/
import Derived.Test.YtgaclpkapapjdaaGreatDoorUP12
set_option linter.unusedVariables false
set_option linter.unusedSimpArgs false
set_option linter.unusedSectionVars false
namespace Go.Proofs.YtgaclpkapapjdaaGreatDoor.plannerSelections
open Go.ChangeShapes Go.WideShapes Go.ChangeAt Go.RowKit
theorem k1 : Rows.plannerSelectionsRow.wf (OpenSpec.ofChange (OpenSpec.ofChange Rows.plannerSelectionsSpec).bare) = true := by kernel_rfl
theorem k2 : laidOutB Tryz.pinned.checked.prog = true := by kernel_rfl
theorem k3 : mapsRowed Tryz.pinned.checked.prog = true := by kernel_rfl
theorem k7 : (Tryz.pinned.checked.prog.stops == []) = true := by kernel_rfl
theorem k9 : (Tryz.pinned.checked.prog.stopKnobs == []) = true := by kernel_rfl
theorem k10 : (Rows.plannerSelectionsRow.inPlace == Tryz.pinned.checked.prog.inPlace 12) = true := by kernel_rfl
theorem k11 : (Rows.plannerSelectionsRow.unfollowed == Tryz.pinned.checked.prog.unfollowed 12) = true := by kernel_rfl
theorem k12 : (Rows.plannerSelectionsRow.recurses == Tryz.pinned.checked.prog.recurses 12) = true := by kernel_rfl
theorem k13 : (Rows.plannerSelectionsRow.named == Tryz.pinned.checked.prog.varsNamed 12) = true := by kernel_rfl
theorem facts : joinedFacts Tryz.pinned.checked.prog 12 Tryz.f12 (OpenSpec.ofChange Rows.plannerSelectionsSpec).bare Rows.plannerSelectionsRow = true := by
  unfold joinedFacts
  rw [k1, k2, k3, k7, k9, k10, k11, k12, k13]
  kernel_rfl
end Go.Proofs.YtgaclpkapapjdaaGreatDoor.plannerSelections
