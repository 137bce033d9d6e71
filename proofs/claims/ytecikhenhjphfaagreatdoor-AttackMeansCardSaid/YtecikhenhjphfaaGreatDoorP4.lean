/- For all inputs the law AttackMeans answers true: the card. -/
import Derived.Test.YtecikhenhjphfaaGreatDoorVP4
set_option linter.unusedVariables false
set_option linter.unusedSimpArgs false
set_option linter.unusedSectionVars false
set_option maxHeartbeats 16000000
namespace Go.Proofs.YtecikhenhjphfaaGreatDoor.attackMeans
open Go.ChangeShapes Go.WideShapes Go.ChangeAt Go.RowKit
theorem said : Rows.AttackMeansSaid :=
  OpenClaim.holds_of_cond 4 Tryz.f4 rfl rfl rfl rfl rfl rfl rfl ⟨rfl, rfl, rfl, rfl, rfl⟩ rfl rfl rfl rfl rfl (by kernel_rfl) Tryz.func4 facts
    (of_decide_eq_true (by kernel_rfl)) (by unfold Func.isWrapper; first | (rw [if_pos (by decide +kernel)]; kernel_rfl) | (rw [if_neg (by decide +kernel)]; exact ⟨rfl, rfl⟩))
    (fun os started H enc _ F => by rw [OpenClaim.pre_eq_preRow]; exact lifted os started H enc F)
theorem plain (f : FuncId) (fn : Func) (hf : Tryz.pinned.checked.prog.funcNamed "cleanse/cleanselaw36.AttackMeans" = some f) (hfn : Tryz.pinned.checked.prog.funcs[f]? = some fn) :
    true = Tryz.pinned.checked.prog.looks [] ∧ ∀ (j : Nat) t, fn.params[j]? = some t → Tryz.pinned.checked.prog.wantsStandIn t = false := by
  obtain rfl : f = 4 := Option.some.inj ((show Tryz.prog.funcNamed "cleanse/cleanselaw36.AttackMeans" = some 4 by kernel_rfl).symm.trans hf) |>.symm
  obtain rfl : fn = Tryz.f4 := (Option.some.inj (Tryz.func4.symm.trans hfn)).symm
  refine ⟨noLooks, fun j t ht => ?_⟩
  rw [Tryz.params4] at ht
  have hm : t ∈ #[24, 30, 35] := Array.mem_of_getElem? ht
  simp only [List.mem_toArray, List.mem_cons, List.not_mem_nil, or_false] at hm
  rcases hm with rfl | rfl | rfl
  · exact want24
  · exact want30
  · exact want35
theorem hw : Rows.attackMeansRow.wfByText (OpenSpec.ofChange Rows.attackMeansSpec) = true := by kernel_rfl
theorem hm : Tryz.pinned.checked.prog.mainIs = some (Rows.attackMeansCard.stood.harness.1, Rows.attackMeansCard.stood.harness.2.toList) := by kernel_rfl
theorem hg : false = Rows.attackMeansRow.goesBy Tryz.pinned.checked.prog := by kernel_rfl
theorem card : Rows.AttackMeansCardSaid :=
  Claim7.holds_tied_plain_at .later [] _ _ _ _ said (fun _ h => by cases h) hw (fun _ h => by cases h) attackMeans_row_tie rfl ⟨rfl, rfl⟩ hm rfl plain hg
end Go.Proofs.YtecikhenhjphfaaGreatDoor.attackMeans
