/- For all inputs the law VigilPut answers true: the card. -/
import Derived.Test.YtabonjploobnnaaGreatDoorVP5
set_option linter.unusedVariables false
set_option linter.unusedSimpArgs false
set_option linter.unusedSectionVars false
namespace Go.Proofs.YtabonjploobnnaaGreatDoor.vigilPut
open Go.ChangeShapes Go.WideShapes Go.ChangeAt Go.RowKit
theorem said : Rows.VigilPutSaid :=
  OpenClaim.holds_of_cond 5 Tryz.f5 rfl rfl rfl rfl rfl rfl rfl ⟨rfl, rfl, rfl, rfl, rfl⟩ rfl rfl rfl rfl rfl (by kernel_rfl) Tryz.func5 facts
    (of_decide_eq_true (by kernel_rfl)) (by unfold Func.isWrapper; first | (rw [if_pos (by decide +kernel)]; kernel_rfl) | (rw [if_neg (by decide +kernel)]; exact ⟨rfl, rfl⟩))
    (fun os started H enc _ F => by rw [OpenClaim.pre_eq_preRow]; exact lifted os started H enc F)
theorem plain (f : FuncId) (fn : Func) (hf : Tryz.pinned.checked.prog.funcNamed "cleanse/cleanselaw26.VigilPut" = some f) (hfn : Tryz.pinned.checked.prog.funcs[f]? = some fn) :
    true = Tryz.pinned.checked.prog.looks [] ∧ ∀ (j : Nat) t, fn.params[j]? = some t → Tryz.pinned.checked.prog.wantsStandIn t = false := by
  obtain rfl : f = 5 := Option.some.inj ((show Tryz.prog.funcNamed "cleanse/cleanselaw26.VigilPut" = some 5 by kernel_rfl).symm.trans hf) |>.symm
  obtain rfl : fn = Tryz.f5 := (Option.some.inj (Tryz.func5.symm.trans hfn)).symm
  refine ⟨noLooks, fun j t ht => ?_⟩
  rw [Tryz.params5] at ht
  have hm : t ∈ #[22, 23, 3, 35] := Array.mem_of_getElem? ht
  simp only [List.mem_toArray, List.mem_cons, List.not_mem_nil, or_false] at hm
  rcases hm with rfl | rfl | rfl | rfl
  · exact want22
  · exact want23
  · exact want3
  · exact want35
theorem hw : Rows.vigilPutRow.wfByText (OpenSpec.ofChange Rows.vigilPutSpec) = true := by kernel_rfl
theorem hm : Tryz.pinned.checked.prog.mainIs = some (Rows.vigilPutCard.stood.harness.1, Rows.vigilPutCard.stood.harness.2.toList) := by kernel_rfl
theorem hg : false = Rows.vigilPutRow.goesBy Tryz.pinned.checked.prog := by kernel_rfl
theorem card : Rows.VigilPutCardSaid :=
  Claim7.holds_tied_plain_at .later [] _ _ _ _ said (fun _ h => by cases h) hw (fun _ h => by cases h) vigilPut_row_tie rfl ⟨rfl, rfl⟩ hm rfl plain hg
end Go.Proofs.YtabonjploobnnaaGreatDoor.vigilPut
