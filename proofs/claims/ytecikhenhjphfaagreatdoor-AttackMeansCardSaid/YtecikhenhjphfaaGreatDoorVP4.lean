/- The facts of the row of AttackMeans. -/
import Derived.Test.YtecikhenhjphfaaGreatDoorUP4
set_option linter.unusedVariables false
set_option linter.unusedSimpArgs false
set_option linter.unusedSectionVars false
set_option maxHeartbeats 16000000
namespace Go.Proofs.YtecikhenhjphfaaGreatDoor.attackMeans
open Go.ChangeShapes Go.WideShapes Go.ChangeAt Go.RowKit
theorem k1 : Rows.attackMeansRow.wf (OpenSpec.ofChange (OpenSpec.ofChange Rows.attackMeansSpec).bare) = true := by kernel_rfl
theorem k2 : laidOutB Tryz.pinned.checked.prog = true := by kernel_rfl
theorem k3 : mapsRowed Tryz.pinned.checked.prog = true := by kernel_rfl
theorem k7 : (Tryz.pinned.checked.prog.stops == []) = true := by kernel_rfl
theorem k9 : (Tryz.pinned.checked.prog.stopKnobs == []) = true := by kernel_rfl
theorem k10 : (Rows.attackMeansRow.inPlace == Tryz.pinned.checked.prog.inPlace 4) = true := by kernel_rfl
theorem k11 : (Rows.attackMeansRow.unfollowed == Tryz.pinned.checked.prog.unfollowed 4) = true := by kernel_rfl
theorem k12 : (Rows.attackMeansRow.recurses == Tryz.pinned.checked.prog.recurses 4) = true := by kernel_rfl
theorem k13 : (Rows.attackMeansRow.named == Tryz.pinned.checked.prog.varsNamed 4) = true := by kernel_rfl
theorem facts : joinedFacts Tryz.pinned.checked.prog 4 Tryz.f4 (OpenSpec.ofChange Rows.attackMeansSpec).bare Rows.attackMeansRow = true := by
  unfold joinedFacts
  rw [k1, k2, k3, k7, k9, k10, k11, k12, k13]
  kernel_rfl
end Go.Proofs.YtecikhenhjphfaaGreatDoor.attackMeans
