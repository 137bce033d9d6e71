/- The facts of the row of VigilMatchesReference. -/
import Derived.Test.YtabonjploobnnaaGreatDoorUP3
set_option linter.unusedVariables false
set_option linter.unusedSimpArgs false
set_option linter.unusedSectionVars false
namespace Go.Proofs.YtabonjploobnnaaGreatDoor.vigilMatchesReference
open Go.ChangeShapes Go.WideShapes Go.ChangeAt Go.RowKit
theorem k1 : Rows.vigilMatchesReferenceRow.wf (OpenSpec.ofChange (OpenSpec.ofChange Rows.vigilMatchesReferenceSpec).bare) = true := by kernel_rfl
theorem k2 : laidOutB Tryz.pinned.checked.prog = true := by kernel_rfl
theorem k3 : mapsRowed Tryz.pinned.checked.prog = true := by kernel_rfl
theorem k7 : (Tryz.pinned.checked.prog.stops == []) = true := by kernel_rfl
theorem k9 : (Tryz.pinned.checked.prog.stopKnobs == []) = true := by kernel_rfl
theorem k10 : (Rows.vigilMatchesReferenceRow.inPlace == Tryz.pinned.checked.prog.inPlace 3) = true := by kernel_rfl
theorem k11 : (Rows.vigilMatchesReferenceRow.unfollowed == Tryz.pinned.checked.prog.unfollowed 3) = true := by kernel_rfl
theorem k12 : (Rows.vigilMatchesReferenceRow.recurses == Tryz.pinned.checked.prog.recurses 3) = true := by kernel_rfl
theorem k13 : (Rows.vigilMatchesReferenceRow.named == Tryz.pinned.checked.prog.varsNamed 3) = true := by kernel_rfl
theorem facts : joinedFacts Tryz.pinned.checked.prog 3 Tryz.f3 (OpenSpec.ofChange Rows.vigilMatchesReferenceSpec).bare Rows.vigilMatchesReferenceRow = true := by
  unfold joinedFacts
  rw [k1, k2, k3, k7, k9, k10, k11, k12, k13]
  kernel_rfl
end Go.Proofs.YtabonjploobnnaaGreatDoor.vigilMatchesReference
