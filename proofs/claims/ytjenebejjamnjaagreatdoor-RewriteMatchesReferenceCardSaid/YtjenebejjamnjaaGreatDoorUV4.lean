/- For all inputs the law RewriteMatchesReference answers true: the row. -/
import Derived.Test.YtjenebejjamnjaaGreatDoorXV4
set_option linter.unusedVariables false
set_option linter.unusedSimpArgs false
set_option linter.unusedSectionVars false
namespace Lg
open Go Go.Proofs
/-- A graph that is handed in. -/
theorem arg_gr {H : Type} {enc : TypeId × Value → H} {W : World} {v : Value} {d : DataW H} {p : List MemPlace} (h : DataW.Trod enc Tryz.prog W 0 (fun _ => true) true 30 v d p) :
    ∃ g : GGraph, (rGraph.ty g).p (wholeH W) v ∧ g.Edges.length ≤ 9223372036854775807 := by
  obtain ⟨fuel, h⟩ := h
  obtain ⟨hl, hf⟩ := readStruct so30 h
  obtain ⟨y0, h0⟩ := Rd.at (t := 30) (i := 0) hf rd3 rfl
  obtain ⟨y1, h1⟩ := Rd.at (t := 30) (i := 1) hf rd27 rfl
  obtain ⟨n, z, hz⟩ := hf 2 _ rfl
  obtain ⟨y2, h2⟩ := Rd.rd (Rd.sl ty28 Tryz.underlying28 rd27 (by decide)) _ _ _ hz
  have hb := (sl_len Tryz.underlying28 hz h2).1
  have hr : rGraph.rel (wholeH W) (⟨y0, y1, y2⟩ : GGraph) (Value.cells v).toList := SF.rel_of hl fun i f hi => by
    match i, hi with
    | 0, hi => cases hi; exact h0
    | 1, hi => cases hi; exact h1
    | 2, hi => cases hi; exact h2
    | n + 3, hi => simp [fsGraph] at hi
  refine ⟨⟨y0, y1, y2⟩, rGraph.iff.2 ⟨_, hr, ?_⟩, hb⟩
  have hl2 := rGraph.len hr
  unfold packV
  rw [show rGraph.agg = true from rfl]
  cases v with
  | agg cs => simp [Value.cells]
  | _ => simp [Value.cells] at hl2; exact absurd hl2.symm (by decide)
end Lg
namespace Go.Proofs.YtjenebejjamnjaaGreatDoor.rewriteMatchesReference
open Go.ChangeShapes Go.WideShapes Go.ChangeAt Go.RowKit
set_option maxRecDepth 100000 in
theorem contract (H : Type) (enc : TypeId × Value → H) (W : World) (base : Nat) (args : Array Value) (ds gs : List (DataW H)) (before : List MemPlace)
    (hval : ∀ (j : Nat) t v, Tryz.f3.params[j]? = some t → args[j]? = some v → Value.okWide Tryz.prog W .any base t v)
    (hz : (DataW.weightsEach Tryz.prog (Tryz.f3.params.toList ++ (OpenSpec.ofChange Rows.rewriteMatchesReferenceSpec).bare.plain.varTypes Tryz.prog) (ds ++ gs)).all (· ≤ reachBytes) = true)
    (hL : laidMet Tryz.prog Rows.rewriteMatchesReferenceRow.laid W) (hW : DataW.Whole enc Tryz.prog Tryz.f3.params.toList Rows.rewriteMatchesReferenceSpec.vars false W args.toList ds gs before) :
    Calls Tryz.prog 3 args W fun e W' => ∃ v, e = .returned v ∧ Rows.rewriteMatchesReferenceSpec.post enc Tryz.prog Tryz.f3 false true false false W args v W' := by
  have hW' := hW
  obtain ⟨p, q, hA0, hV, rfl, hfz, hnd⟩ := hW
  have hA : DataW.TrodAll enc Tryz.prog W 0 (fun _ => true) true Tryz.f3.params.toList args.toList ds p := hA0
  rw [Tryz.params3] at hA hval hz
  obtain ⟨v0, vs0, d0, ds0, p0, q0, hargs, rfl, rfl, h0, r0⟩ := trodAll_cons hA
  obtain ⟨v1, vs1, d1, ds1, p1, q1, rfl, rfl, rfl, h1, r1⟩ := trodAll_cons r0
  obtain ⟨v2, vs2, d2, ds2, p2, q2, rfl, rfl, rfl, h2, r2⟩ := trodAll_cons r1
  obtain ⟨v3, vs3, d3, ds3, p3, q3, rfl, rfl, rfl, h3, r3⟩ := trodAll_cons r2
  obtain ⟨rfl, rfl, rfl⟩ := trodAll_nil r3
  obtain rfl : args = #[v0, v1, v2, v3] := by cases args; simp_all
  obtain ⟨rfl, rfl⟩ := trodVars_none hV
  obtain ⟨x0, a0, b0⟩ := Lg.arg_cj h0
  obtain ⟨x1, a1⟩ := Lg.arg_sl Tryz.underlying26 Lg.rd26 (hval 1 26 v1 rfl rfl) h1
  obtain ⟨x2, a2, b2⟩ := Lg.arg_gr h2
  obtain ⟨x3, a3⟩ := Lg.arg_sl Tryz.underlying27 Lg.rd27 (hval 3 27 v3 rfl rfl) h3
  refine (Lg.run_true (Lg.RewriteMatches_spec x0 x1 x2 x3 b0 b2) (Lg.inv_of (tab_of hL)) (vs := [v0, v1, v2, v3]) ⟨a0, a1, a2, a3, trivial⟩).mono fun e W' ⟨he, hb⟩ => ?_
  subst he
  have e1 : Rows.rewriteMatchesReferenceSpec.fn H ([d0, d1, d2, d3] ++ []) = { results := [.lit (.bool true)], args := [d0, d1, d2, d3] } := by simp [Rows.rewriteMatchesReferenceSpec]
  refine ⟨_, rfl, _, _, _, [], p0 ++ (p1 ++ (p2 ++ (p3 ++ []))), [], hW', ?_, ?_, ?_, hb.frame _, fun h => by cases h⟩
  · rw [e1]; exact trodAll_mk1 (shut_bool Tryz.underlying4 true)
  · rw [e1, Tryz.params3]
    exact trodAll_cons_mk (hb.trod laidOut rec25 size25 h0 fun x hx => hW'.lt x (by simp [hx])) (trodAll_cons_mk (hb.trod laidOut rec26 size26 h1 fun x hx => hW'.lt x (by simp [hx])) (trodAll_cons_mk (hb.trod laidOut rec30 size30 h2 fun x hx => hW'.lt x (by simp [hx])) (trodAll_cons_mk (hb.trod laidOut rec27 size27 h3 fun x hx => hW'.lt x (by simp [hx])) trodAll_mk0)))
  · rw [e1]; rfl
noncomputable abbrev args0 : Array Value := #[.agg #[.int .i64 0, .slice none 0 0, .slice none 0 0], .slice none 0 0, .agg #[.int .i64 0, .slice none 0 0, .slice none 0 0], .slice none 0 0]
theorem reads (os : Os) {H : Type} (enc : TypeId × Value → H) : ∃ places, DataW.whole enc Tryz.prog ((laidWorld os).forCall (fun _ _ => 0) ⟨#[], args0, []⟩).memory Tryz.f3.params.toList Rows.rewriteMatchesReferenceSpec.vars false args0.toList 8 = some ([.agg [.lit (.int .i64 0), .nil, .nil], .nil, .agg [.lit (.int .i64 0), .nil, .nil], .nil], [], places) :=
  ⟨[], by kernel_rfl⟩
theorem laid_met (os : Os) : laidMet Tryz.prog Rows.rewriteMatchesReferenceRow.laid ((laidWorld os).forCall (fun _ _ => 0) ⟨#[], args0, []⟩).memory :=
  laidMet_laidAll (laid := laidL) args0 (by kernel_rfl) (by kernel_rfl)
set_option maxRecDepth 100000 in
theorem lifted (os : Os) (started : os.Started) (H : Type) (enc : TypeId × Value → H) (F : Stop.Interp) :
    ReturnsInHanded {} Tryz.checked os 3 .any ((OpenSpec.ofChange Rows.rewriteMatchesReferenceSpec).preRow enc Tryz.prog Tryz.f3 Rows.rewriteMatchesReferenceRow.domain false Rows.rewriteMatchesReferenceRow.laid) (((OpenSpec.ofChange Rows.rewriteMatchesReferenceSpec).at F).post enc Tryz.prog Tryz.f3 false true false false) := by
  obtain ⟨places, hx⟩ := reads os enc
  refine returnsInHanded_of_row (C := Tryz.checked) (s := OpenSpec.ofChange Rows.rewriteMatchesReferenceSpec) own started (by kernel_rfl) Tryz.func3
    (witness_row_at (enc := enc) (C := Tryz.checked) false (laidWorld os) args0 (World.laidAll_os _ _ _) (by kernel_rfl) (by kernel_rfl) (by kernel_rfl)
      (OpenSpec.preRow_of_cond 8 hx (by kernel_rfl) (fun k hk => by cases hk) (by kernel_rfl) (laid_met os))) ?_
  intro W base args ds gs before hval hW _ _ hz hL _ _
  exact contract H enc W base args ds gs before hval hz hL hW
end Go.Proofs.YtjenebejjamnjaaGreatDoor.rewriteMatchesReference
