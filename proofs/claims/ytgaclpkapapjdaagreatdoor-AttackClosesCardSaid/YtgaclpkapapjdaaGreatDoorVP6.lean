/- The facts of the row of AttackCloses. -/
import Derived.Test.YtgaclpkapapjdaaGreatDoorUP6
set_option linter.unusedVariables false
set_option linter.unusedSimpArgs false
set_option linter.unusedSectionVars false
namespace Go.Proofs.YtgaclpkapapjdaaGreatDoor.attackCloses
open Go.ChangeShapes Go.WideShapes Go.ChangeAt Go.RowKit
theorem k1 : Rows.attackClosesRow.wf (OpenSpec.ofChange (OpenSpec.ofChange Rows.attackClosesSpec).bare) = true := by kernel_rfl
theorem k2 : laidOutB Tryz.pinned.checked.prog = true := by kernel_rfl
theorem k3 : mapsRowed Tryz.pinned.checked.prog = true := by kernel_rfl
theorem k7 : (Tryz.pinned.checked.prog.stops == []) = true := by kernel_rfl
theorem k9 : (Tryz.pinned.checked.prog.stopKnobs == []) = true := by kernel_rfl
theorem k10 : (Rows.attackClosesRow.inPlace == Tryz.pinned.checked.prog.inPlace 6) = true := by kernel_rfl
theorem k11 : (Rows.attackClosesRow.unfollowed == Tryz.pinned.checked.prog.unfollowed 6) = true := by kernel_rfl
theorem k12 : (Rows.attackClosesRow.recurses == Tryz.pinned.checked.prog.recurses 6) = true := by kernel_rfl
theorem k13 : (Rows.attackClosesRow.named == Tryz.pinned.checked.prog.varsNamed 6) = true := by kernel_rfl
theorem facts : joinedFacts Tryz.pinned.checked.prog 6 Tryz.f6 (OpenSpec.ofChange Rows.attackClosesSpec).bare Rows.attackClosesRow = true := by
  unfold joinedFacts
  rw [k1, k2, k3, k7, k9, k10, k11, k12, k13]
  kernel_rfl
end Go.Proofs.YtgaclpkapapjdaaGreatDoor.attackCloses
