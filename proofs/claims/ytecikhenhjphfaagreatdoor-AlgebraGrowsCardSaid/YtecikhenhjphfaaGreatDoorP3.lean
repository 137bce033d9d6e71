/- For all inputs the law AlgebraGrows answers true: the card. -/
import Derived.Test.YtecikhenhjphfaaGreatDoorVP3
set_option linter.unusedVariables false
set_option linter.unusedSimpArgs false
set_option linter.unusedSectionVars false
namespace Go.Proofs.YtecikhenhjphfaaGreatDoor.algebraGrows
open Go.ChangeShapes Go.WideShapes Go.ChangeAt Go.RowKit
theorem said : Rows.AlgebraGrowsSaid :=
  OpenClaim.holds_of_cond 3 Tryz.f3 rfl rfl rfl rfl rfl rfl rfl ⟨rfl, rfl, rfl, rfl, rfl⟩ rfl rfl rfl rfl rfl (by kernel_rfl) Tryz.func3 facts
    (of_decide_eq_true (by kernel_rfl)) (by unfold Func.isWrapper; first | (rw [if_pos (by decide +kernel)]; kernel_rfl) | (rw [if_neg (by decide +kernel)]; exact ⟨rfl, rfl⟩))
    (fun os started H enc _ F => by rw [OpenClaim.pre_eq_preRow]; exact lifted os started H enc F)
theorem plain (f : FuncId) (fn : Func) (hf : Tryz.pinned.checked.prog.funcNamed "cleanse/cleanselaw33.AlgebraGrows" = some f) (hfn : Tryz.pinned.checked.prog.funcs[f]? = some fn) :
    true = Tryz.pinned.checked.prog.looks [] ∧ ∀ (j : Nat) t, fn.params[j]? = some t → Tryz.pinned.checked.prog.wantsStandIn t = false := by
  obtain rfl : f = 3 := Option.some.inj ((show Tryz.prog.funcNamed "cleanse/cleanselaw33.AlgebraGrows" = some 3 by kernel_rfl).symm.trans hf) |>.symm
  obtain rfl : fn = Tryz.f3 := (Option.some.inj (Tryz.func3.symm.trans hfn)).symm
  refine ⟨noLooks, fun j t ht => ?_⟩
  rw [Tryz.params3] at ht
  have hm : t ∈ #[24, 30, 31, 27, 27] := Array.mem_of_getElem? ht
  simp only [List.mem_toArray, List.mem_cons, List.not_mem_nil, or_false] at hm
  rcases hm with rfl | rfl | rfl | rfl | rfl
  · exact want24
  · exact want30
  · exact want31
  · exact want27
  · exact want27
theorem hw : Rows.algebraGrowsRow.wfByText (OpenSpec.ofChange Rows.algebraGrowsSpec) = true := by kernel_rfl
theorem hm : Tryz.pinned.checked.prog.mainIs = some (Rows.algebraGrowsCard.stood.harness.1, Rows.algebraGrowsCard.stood.harness.2.toList) := by kernel_rfl
theorem hg : false = Rows.algebraGrowsRow.goesBy Tryz.pinned.checked.prog := by kernel_rfl
theorem card : Rows.AlgebraGrowsCardSaid :=
  Claim7.holds_tied_plain_at .later [] _ _ _ _ said (fun _ h => by cases h) hw (fun _ h => by cases h) algebraGrows_row_tie rfl ⟨rfl, rfl⟩ hm rfl plain hg
end Go.Proofs.YtecikhenhjphfaaGreatDoor.algebraGrows
