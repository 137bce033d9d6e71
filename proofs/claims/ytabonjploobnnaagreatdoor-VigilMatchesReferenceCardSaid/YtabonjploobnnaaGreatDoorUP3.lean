/- For all inputs the law VigilMatchesReference answers true: the row. -/
import Derived.Test.YtabonjploobnnaaGreatDoorWP3
set_option linter.unusedVariables false
set_option linter.unusedSimpArgs false
set_option linter.unusedSectionVars false
namespace Go.Proofs.YtabonjploobnnaaGreatDoor.vigilMatchesReference
open Go.ChangeShapes Go.WideShapes Go.ChangeAt Go.RowKit
set_option maxRecDepth 100000 in
theorem contract (H : Type) (enc : TypeId × Value → H) (W : World) (base : Nat) (args : Array Value) (ds gs : List (DataW H)) (before : List MemPlace)
    (hval : ∀ (j : Nat) t v, Tryz.f3.params[j]? = some t → args[j]? = some v → Value.okWide Tryz.prog W .any base t v)
    (hz : (DataW.weightsEach Tryz.prog (Tryz.f3.params.toList ++ (OpenSpec.ofChange Rows.vigilMatchesReferenceSpec).bare.plain.varTypes Tryz.prog) (ds ++ gs)).all (· ≤ reachBytes) = true)
    (hL : laidMet Tryz.prog Rows.vigilMatchesReferenceRow.laid W) (hW : DataW.Whole enc Tryz.prog Tryz.f3.params.toList Rows.vigilMatchesReferenceSpec.vars false W args.toList ds gs before) :
    Calls Tryz.prog 3 args W fun e W' => ∃ v, e = .returned v ∧ Rows.vigilMatchesReferenceSpec.post enc Tryz.prog Tryz.f3 false true false false W args v W' := by
  have hW' := hW
  obtain ⟨p, q, hA0, hV, rfl, hfz, hnd⟩ := hW
  have hA : DataW.TrodAll enc Tryz.prog W 0 (fun _ => true) true Tryz.f3.params.toList args.toList ds p := hA0
  rw [Tryz.params3] at hA hval hz
  obtain ⟨v0, vs0, d0, ds0, p0, q0, hargs, rfl, rfl, h0, r0⟩ := trodAll_cons hA
  obtain ⟨v1, vs1, d1, ds1, p1, q1, rfl, rfl, rfl, h1, r1⟩ := trodAll_cons r0
  obtain ⟨rfl, rfl, rfl⟩ := trodAll_nil r1
  obtain rfl : args = #[v0, v1] := by cases args; simp_all
  obtain ⟨rfl, rfl⟩ := trodVars_none hV
  obtain ⟨x0, a0⟩ := Lg.arg_sl Tryz.underlying22 Lg.rd22 (hval 0 22 v0 rfl rfl) h0
  obtain ⟨x1, a1, l1⟩ := Lg.arg_slL Tryz.underlying23 Lg.rd23 (hval 1 23 v1 rfl rfl) h1
  have hl : x1.length * 96 ≤ 140737488351232 := by
    rcases l1 with ⟨_, rfl⟩ | ⟨el, rest, rfl, e1⟩
    · simp
    · have hb := sized_slice hz (j := 1) (t := 23) (e := 37) (elems := el) (spare := rest) rfl rfl Tryz.underlying23
      rw [show Tryz.prog.bytesOf 37 = 96 by kernel_rfl] at hb
      have h2 : reachBytes = 140737488351232 := by decide
      have h3 : el.length * 96 ≤ (el.length + rest.length) * 96 := Nat.mul_le_mul_right _ (by omega)
      omega
  refine (Lg.run_true (Lg.lawMatches_spec x0 x1 hl) (Lg.inv_of (tab_of hL)) (vs := [v0, v1]) ⟨a0, a1, trivial⟩).mono fun e W' ⟨he, hb⟩ => ?_
  subst he
  have e1 : Rows.vigilMatchesReferenceSpec.fn H ([d0, d1] ++ []) = { results := [.lit (.bool true)], args := [d0, d1] } := by simp [Rows.vigilMatchesReferenceSpec]
  refine ⟨_, rfl, _, _, _, [], p0 ++ (p1 ++ []), [], hW', ?_, ?_, ?_, hb.frame _, fun h => by cases h⟩
  · rw [e1]; exact trodAll_mk1 (shut_bool Tryz.underlying4 true)
  · rw [e1, Tryz.params3]
    exact trodAll_cons_mk (hb.trod laidOut rec22 size22 h0 fun x hx => hW'.lt x (by simp [hx])) (trodAll_cons_mk (hb.trod laidOut rec23 size23 h1 fun x hx => hW'.lt x (by simp [hx])) trodAll_mk0)
  · rw [e1]; rfl
noncomputable abbrev args0 : Array Value := #[.slice none 0 0, .slice none 0 0]
theorem reads (os : Os) {H : Type} (enc : TypeId × Value → H) : ∃ places, DataW.whole enc Tryz.prog ((laidWorld os).forCall (fun _ _ => 0) ⟨#[], args0, []⟩).memory Tryz.f3.params.toList Rows.vigilMatchesReferenceSpec.vars false args0.toList 8 = some ([.nil, .nil], [], places) :=
  ⟨[], by kernel_rfl⟩
theorem laid_met (os : Os) : laidMet Tryz.prog Rows.vigilMatchesReferenceRow.laid ((laidWorld os).forCall (fun _ _ => 0) ⟨#[], args0, []⟩).memory :=
  laidMet_laidAll (laid := laidL) args0 (by kernel_rfl) (by kernel_rfl)
set_option maxRecDepth 100000 in
theorem lifted (os : Os) (started : os.Started) (H : Type) (enc : TypeId × Value → H) (F : Stop.Interp) :
    ReturnsInHanded {} Tryz.checked os 3 .any ((OpenSpec.ofChange Rows.vigilMatchesReferenceSpec).preRow enc Tryz.prog Tryz.f3 Rows.vigilMatchesReferenceRow.domain false Rows.vigilMatchesReferenceRow.laid) (((OpenSpec.ofChange Rows.vigilMatchesReferenceSpec).at F).post enc Tryz.prog Tryz.f3 false true false false) := by
  obtain ⟨places, hx⟩ := reads os enc
  refine returnsInHanded_of_row (C := Tryz.checked) (s := OpenSpec.ofChange Rows.vigilMatchesReferenceSpec) own started (by kernel_rfl) Tryz.func3
    (witness_row_at (enc := enc) (C := Tryz.checked) false (laidWorld os) args0 (World.laidAll_os _ _ _) (by kernel_rfl) (by kernel_rfl) (by kernel_rfl)
      (OpenSpec.preRow_of_cond 8 hx (by kernel_rfl) (fun k hk => by cases hk) (by kernel_rfl) (laid_met os))) ?_
  intro W base args ds gs before hval hW _ _ hz hL _ _
  exact contract H enc W base args ds gs before hval hz hL hW
end Go.Proofs.YtabonjploobnnaaGreatDoor.vigilMatchesReference
