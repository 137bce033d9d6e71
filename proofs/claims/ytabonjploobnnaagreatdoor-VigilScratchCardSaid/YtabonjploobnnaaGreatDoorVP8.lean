/- The facts of the row of VigilScratch. -/
import Derived.Test.YtabonjploobnnaaGreatDoorUP8
set_option linter.unusedVariables false
set_option linter.unusedSimpArgs false
set_option linter.unusedSectionVars false
namespace Go.Proofs.YtabonjploobnnaaGreatDoor.vigilScratch
open Go.ChangeShapes Go.WideShapes Go.ChangeAt Go.RowKit
theorem k1 : Rows.vigilScratchRow.wf (OpenSpec.ofChange (OpenSpec.ofChange Rows.vigilScratchSpec).bare) = true := by kernel_rfl
theorem k2 : laidOutB Tryz.pinned.checked.prog = true := by kernel_rfl
theorem k3 : mapsRowed Tryz.pinned.checked.prog = true := by kernel_rfl
theorem k7 : (Tryz.pinned.checked.prog.stops == []) = true := by kernel_rfl
theorem k9 : (Tryz.pinned.checked.prog.stopKnobs == []) = true := by kernel_rfl
theorem k10 : (Rows.vigilScratchRow.inPlace == Tryz.pinned.checked.prog.inPlace 8) = true := by kernel_rfl
theorem k11 : (Rows.vigilScratchRow.unfollowed == Tryz.pinned.checked.prog.unfollowed 8) = true := by kernel_rfl
theorem k12 : (Rows.vigilScratchRow.recurses == Tryz.pinned.checked.prog.recurses 8) = true := by kernel_rfl
theorem k13 : (Rows.vigilScratchRow.named == Tryz.pinned.checked.prog.varsNamed 8) = true := by kernel_rfl
theorem facts : joinedFacts Tryz.pinned.checked.prog 8 Tryz.f8 (OpenSpec.ofChange Rows.vigilScratchSpec).bare Rows.vigilScratchRow = true := by
  unfold joinedFacts
  rw [k1, k2, k3, k7, k9, k10, k11, k12, k13]
  kernel_rfl
end Go.Proofs.YtabonjploobnnaaGreatDoor.vigilScratch
