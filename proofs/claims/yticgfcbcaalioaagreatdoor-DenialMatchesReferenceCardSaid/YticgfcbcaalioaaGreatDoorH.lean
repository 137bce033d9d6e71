/- From a contract on representations to the rows. -/
import Derived.Test.YticgfcbcaalioaaGreatDoorG
import Derived.Test.YticgfcbcaalioaaGreatDoorCards
import Derived.Test.YticgfcbcaalioaaGreatDoorTie
import Derived.ProofKit
import Derived.OpenShut
import Derived.Deep.DeepHandedRow
import Derived.Lay
set_option linter.unusedVariables false
set_option linter.unusedSimpArgs false
set_option linter.unusedSectionVars false
/- From a contract on representations to the row. -/
namespace Lg
open Go Go.Proofs
theorem run_true {P : Program} {f : Nat} {As : List Ty} {vs : List Value} {W : World} (sp : Fun1 P f As (tV (.bool true))) (ha : Args (wholeH W) As vs) :
    Calls P f vs.toArray W fun e W' => e = .returned (.bool true) ∧ Go.RowKit.Below W.heap.size W W' := by
  have hc := sp vs (wholeH W) PH.emp PH.emp W ha ⟨PH.disj_emp _, PH.disj_emp _, PH.disj_emp _, wholeH_inw W, (fun b o e => (by cases e)), fun b o e => (by cases e)⟩ rfl
  refine hc.mono ?_
  rintro e W' ⟨x, v, h', m', rfl, l, s, _, hv⟩
  have hv : v = .bool true := hv
  subst hv
  exact ⟨rfl, below_of l.1 s.hw l.2⟩
section
variable {H : Type} {enc : TypeId × Value → H} {P : Program} {W : World} {base : Nat}
theorem arg_sl {α : Type} {t e : Nat} {R : Rp α} {v : Value} {d : DataW H} {p : List MemPlace} (hu : P.underlying t = some (.slice e)) (hR : Rd enc P W t (rSl R)) (hok : Value.okWide P W .any base t v) (h : DataW.Trod enc P W 0 (fun _ => true) true t v d p) :
    ∃ xs, (tSl R xs).p (wholeH W) v := by
  obtain ⟨a, len, cap, rfl⟩ := Go.WideShapes.okWide_slice hu hok
  obtain ⟨fuel, h⟩ := h
  obtain ⟨xs, u, e1, e2⟩ := hR.rd _ _ _ h
  have : Value.slice a len cap = u := by
    have := (List.cons.inj e1).1
    exact this
  exact ⟨xs, this ▸ e2⟩
end
end Lg
namespace Go.Proofs.YticgfcbcaalioaaGreatDoor
open Go.ChangeShapes Go.WideShapes Go.ChangeAt Go.RowKit
theorem own : ownKnob Tryz.prog.godebug = none := by kernel_rfl
theorem laidOut : laidOutB Tryz.prog = true := by kernel_rfl
theorem size22 : (22 : Nat) < Tryz.prog.types.size := of_decide_eq_true (by kernel_rfl)
theorem size23 : (23 : Nat) < Tryz.prog.types.size := of_decide_eq_true (by kernel_rfl)
theorem size47 : (47 : Nat) < Tryz.prog.types.size := of_decide_eq_true (by kernel_rfl)
theorem rec22 : Tryz.prog.readableRec 22 = true := by kernel_rfl
theorem rec23 : Tryz.prog.readableRec 23 = true := by kernel_rfl
theorem rec47 : Tryz.prog.readableRec 47 = true := by kernel_rfl
/-- What the rows list. -/
abbrev laidL : List (String × DataW Unit) := [("math/bits.deBruijn32tab", Rows.laid_math_bits_deBruijn32tab), ("math/bits.deBruijn64tab", Rows.laid_math_bits_deBruijn64tab), ("internal/strconv.uint64pow10", Rows.laid_internal_strconv_uint64pow10)]
noncomputable def laidWorld (os : Os) : World := World.laidAll Tryz.prog os laidL
theorem want22 : Tryz.prog.wantsStandIn 22 = false := by kernel_rfl
theorem want23 : Tryz.prog.wantsStandIn 23 = false := by kernel_rfl
theorem want47 : Tryz.prog.wantsStandIn 47 = false := by kernel_rfl
theorem noLooks : false = Tryz.pinned.checked.prog.looks [] := by kernel_rfl
end Go.Proofs.YticgfcbcaalioaaGreatDoor
