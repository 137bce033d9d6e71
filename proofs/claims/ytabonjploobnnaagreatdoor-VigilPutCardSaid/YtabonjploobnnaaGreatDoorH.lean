/- A part of the proofs of the laws of cleanselaw26: contracts of functions that the law reaches, and facts about what they compute. -/
import Derived.Test.YtabonjploobnnaaGreatDoorG
import Derived.Test.YtabonjploobnnaaGreatDoorCards
import Derived.Test.YtabonjploobnnaaGreatDoorTie
import Derived.Lib.LaidTab
import Derived.Stop.LaidErr
import Derived.ProofKit
import Derived.OpenShut
import Derived.Deep.DeepHandedRow
import Derived.Lay
set_option linter.unusedVariables false
set_option linter.unusedSimpArgs false
set_option linter.unusedSectionVars false
namespace Lg
open Go Go.Proofs
variable {H : Type} {enc : TypeId × Value → H} {W : World}
theorem rd3 : Rd enc Tryz.prog W 3 rInt := Rd.int ty3 Tryz.underlying3
theorem rd4 : Rd enc Tryz.prog W 4 rBool := Rd.bool ty4 Tryz.underlying4
theorem rd9 : Rd enc Tryz.prog W 9 rStr := Rd.str ty9 Tryz.underlying9
theorem rd33 : Rd enc Tryz.prog W 33 (rSl rInt) := Rd.sl ty33 Tryz.underlying33 rd3 (by decide)
theorem rd91 : Rd enc Tryz.prog W 91 rValue where
  k := ty91.cells W
  rd := fun fuel cs x h => by
    obtain ⟨hl, hf⟩ := readStruct so91 h
    obtain ⟨y0, h0⟩ := Rd.at (t := 91) (i := 0) hf rd3 rfl
    obtain ⟨y1, h1⟩ := Rd.at (t := 91) (i := 1) hf rd3 rfl
    obtain ⟨y2, h2⟩ := Rd.at (t := 91) (i := 2) hf rd9 rfl
    refine ⟨⟨y0, y1, y2⟩, SF.rel_of hl fun i f hi => ?_⟩
    match i, hi with
    | 0, hi => cases hi; exact h0
    | 1, hi => cases hi; exact h1
    | 2, hi => cases hi; exact h2
    | n + 3, hi => simp [fsValue] at hi
theorem rd32 : Rd enc Tryz.prog W 32 (rSl rValue) := Rd.sl ty32 Tryz.underlying32 rd91 (by decide)
theorem rd110 : Rd enc Tryz.prog W 110 rFixed where
  k := ty110.cells W
  rd := fun fuel cs x h => by
    obtain ⟨hl, hf⟩ := readStruct so110 h
    obtain ⟨y0, h0⟩ := Rd.at (t := 110) (i := 0) hf rd3 rfl
    obtain ⟨y1, h1⟩ := Rd.at (t := 110) (i := 1) hf rd91 rfl
    refine ⟨⟨y0, y1⟩, SF.rel_of hl fun i f hi => ?_⟩
    match i, hi with
    | 0, hi => cases hi; exact h0
    | 1, hi => cases hi; exact h1
    | n + 2, hi => simp [fsFixed] at hi
theorem rd56 : Rd enc Tryz.prog W 56 (rSl rFixed) := Rd.sl ty56 Tryz.underlying56 rd110 (by decide)
theorem rd105 : Rd enc Tryz.prog W 105 rSide where
  k := ty105.cells W
  rd := fun fuel cs x h => by
    obtain ⟨hl, hf⟩ := readStruct so105 h
    obtain ⟨y0, h0⟩ := Rd.at (t := 105) (i := 0) hf rd3 rfl
    obtain ⟨y1, h1⟩ := Rd.at (t := 105) (i := 1) hf rd3 rfl
    obtain ⟨y2, h2⟩ := Rd.at (t := 105) (i := 2) hf rd91 rfl
    refine ⟨⟨y0, y1, y2⟩, SF.rel_of hl fun i f hi => ?_⟩
    match i, hi with
    | 0, hi => cases hi; exact h0
    | 1, hi => cases hi; exact h1
    | 2, hi => cases hi; exact h2
    | n + 3, hi => simp [fsSide] at hi
theorem rd107 : Rd enc Tryz.prog W 107 rTest where
  k := ty107.cells W
  rd := fun fuel cs x h => by
    obtain ⟨hl, hf⟩ := readStruct so107 h
    obtain ⟨y0, h0⟩ := Rd.at (t := 107) (i := 0) hf rd105 rfl
    obtain ⟨y1, h1⟩ := Rd.at (t := 107) (i := 1) hf rd3 rfl
    obtain ⟨y2, h2⟩ := Rd.at (t := 107) (i := 2) hf rd105 rfl
    obtain ⟨y3, h3⟩ := Rd.at (t := 107) (i := 3) hf rd3 rfl
    refine ⟨⟨y0, y1, y2, y3⟩, SF.rel_of hl fun i f hi => ?_⟩
    match i, hi with
    | 0, hi => cases hi; exact h0
    | 1, hi => cases hi; exact h1
    | 2, hi => cases hi; exact h2
    | 3, hi => cases hi; exact h3
    | n + 4, hi => simp [fsTest] at hi
theorem rd57 : Rd enc Tryz.prog W 57 (rSl rTest) := Rd.sl ty57 Tryz.underlying57 rd107 (by decide)
theorem rd59 : Rd enc Tryz.prog W 59 rRule where
  k := ty59.cells W
  rd := fun fuel cs x h => by
    obtain ⟨hl, hf⟩ := readStruct so59 h
    obtain ⟨y0, h0⟩ := Rd.at (t := 59) (i := 0) hf rd3 rfl
    obtain ⟨y1, h1⟩ := Rd.at (t := 59) (i := 1) hf rd9 rfl
    obtain ⟨y2, h2⟩ := Rd.at (t := 59) (i := 2) hf rd3 rfl
    obtain ⟨y3, h3⟩ := Rd.at (t := 59) (i := 3) hf rd33 rfl
    obtain ⟨y4, h4⟩ := Rd.at (t := 59) (i := 4) hf rd3 rfl
    obtain ⟨y5, h5⟩ := Rd.at (t := 59) (i := 5) hf rd56 rfl
    obtain ⟨y6, h6⟩ := Rd.at (t := 59) (i := 6) hf rd3 rfl
    obtain ⟨y7, h7⟩ := Rd.at (t := 59) (i := 7) hf rd3 rfl
    obtain ⟨y8, h8⟩ := Rd.at (t := 59) (i := 8) hf rd33 rfl
    obtain ⟨y9, h9⟩ := Rd.at (t := 59) (i := 9) hf rd57 rfl
    refine ⟨⟨y0, y1, y2, y3, y4, y5, y6, y7, y8, y9⟩, SF.rel_of hl fun i f hi => ?_⟩
    match i, hi with
    | 0, hi => cases hi; exact h0
    | 1, hi => cases hi; exact h1
    | 2, hi => cases hi; exact h2
    | 3, hi => cases hi; exact h3
    | 4, hi => cases hi; exact h4
    | 5, hi => cases hi; exact h5
    | 6, hi => cases hi; exact h6
    | 7, hi => cases hi; exact h7
    | 8, hi => cases hi; exact h8
    | 9, hi => cases hi; exact h9
    | n + 10, hi => simp [fsRule] at hi
theorem rd22 : Rd enc Tryz.prog W 22 (rSl rRule) := Rd.sl ty22 Tryz.underlying22 rd59 (by decide)
theorem rd35 : Rd enc Tryz.prog W 35 rFact where
  k := ty35.cells W
  rd := fun fuel cs x h => by
    obtain ⟨hl, hf⟩ := readStruct so35 h
    obtain ⟨y0, h0⟩ := Rd.at (t := 35) (i := 0) hf rd3 rfl
    obtain ⟨y1, h1⟩ := Rd.at (t := 35) (i := 1) hf rd3 rfl
    obtain ⟨y2, h2⟩ := Rd.at (t := 35) (i := 2) hf rd3 rfl
    obtain ⟨y3, h3⟩ := Rd.at (t := 35) (i := 3) hf rd32 rfl
    obtain ⟨y4, h4⟩ := Rd.at (t := 35) (i := 4) hf rd3 rfl
    obtain ⟨y5, h5⟩ := Rd.at (t := 35) (i := 5) hf rd33 rfl
    refine ⟨⟨y0, y1, y2, y3, y4, y5⟩, SF.rel_of hl fun i f hi => ?_⟩
    match i, hi with
    | 0, hi => cases hi; exact h0
    | 1, hi => cases hi; exact h1
    | 2, hi => cases hi; exact h2
    | 3, hi => cases hi; exact h3
    | 4, hi => cases hi; exact h4
    | 5, hi => cases hi; exact h5
    | n + 6, hi => simp [fsFact] at hi
theorem rd37 : Rd enc Tryz.prog W 37 rOp where
  k := ty37.cells W
  rd := fun fuel cs x h => by
    obtain ⟨hl, hf⟩ := readStruct so37 h
    obtain ⟨y0, h0⟩ := Rd.at (t := 37) (i := 0) hf rd4 rfl
    obtain ⟨y1, h1⟩ := Rd.at (t := 37) (i := 1) hf rd3 rfl
    obtain ⟨y2, h2⟩ := Rd.at (t := 37) (i := 2) hf rd35 rfl
    refine ⟨⟨y0, y1, y2⟩, SF.rel_of hl fun i f hi => ?_⟩
    match i, hi with
    | 0, hi => cases hi; exact h0
    | 1, hi => cases hi; exact h1
    | 2, hi => cases hi; exact h2
    | n + 3, hi => simp [fsOp] at hi
theorem rd23 : Rd enc Tryz.prog W 23 (rSl rOp) := Rd.sl ty23 Tryz.underlying23 rd37 (by decide)
open Go Go.Proofs
theorem run_true {P : Program} {f : Nat} {As : List Ty} {vs : List Value} {W : World} (sp : Fun1 P f As (tV (.bool true))) (hi : Inv (wholeH W)) (ha : Args (wholeH W) As vs) :
    Calls P f vs.toArray W fun e W' => e = .returned (.bool true) ∧ Go.RowKit.Below W.heap.size W W' := by
  have hc := sp vs (wholeH W) PH.emp PH.emp W ha ⟨hi, PH.disj_emp _, PH.disj_emp _, PH.disj_emp _, wholeH_inw W, (fun b o e => by cases e), fun b o e => by cases e⟩ rfl
  refine hc.mono ?_
  rintro e W' ⟨x, v, h', m', rfl, l, s, _, hv⟩
  have hv : v = .bool true := hv
  subst hv
  exact ⟨rfl, below_of l.1 s.hw l.2⟩
section
variable {H : Type} {enc : TypeId × Value → H} {P : Program} {W : World} {base : Nat}
theorem arg_sl {α : Type} {t e : Nat} {R : Rp α} {v : Value} {d : DataW H} {p : List MemPlace} (hu : P.underlying t = some (.slice e)) (hR : Rd enc P W t (rSl R)) (hok : Value.okWide P W .any base t v) (h : DataW.Trod enc P W 0 (fun _ => true) true t v d p) :
    ∃ xs, (tSl R xs).p (wholeH W) v := by
  obtain ⟨a, len, cap, rfl⟩ := Go.WideShapes.okWide_slice hu hok
  obtain ⟨fuel, h⟩ := h
  obtain ⟨xs, u, e1, e2⟩ := hR.rd _ _ _ h
  have : Value.slice a len cap = u := by
    have := (List.cons.inj e1).1
    exact this
  exact ⟨xs, this ▸ e2⟩
theorem sl_len {α : Type} {t e : Nat} {R : Rp α} (hu : P.underlying t = some (.slice e)) {fuel : Nat} {cs : List Value} {x : DataW H × List MemPlace} (h : DataW.trod enc P W 0 (fun _ => true) true fuel t cs = some x) {xs : List α} (r : (rSl R).rel (wholeH W) xs cs) :
    xs.length ≤ 9223372036854775807 ∧ (x.1 = .nil ∧ xs = [] ∨ ∃ el rest, x.1 = .slice el rest ∧ el.length = xs.length) := by
  obtain ⟨u, e1, ao, cap, e2, _⟩ := r
  subst e1; subst e2
  rcases DataW.trod_slice hu h with ⟨h1, h2⟩ | ⟨a, len, cap', elems, rest, n, _, h1, h2, _, hlc, hm, hlen, _⟩
  · have h3 := (Value.slice.inj (List.cons.inj h1).1).2.1
    have h4 : xs = [] := List.eq_nil_of_length_eq_zero h3
    subst h4
    exact ⟨by simp, .inl ⟨by rw [h2], rfl⟩⟩
  · have h3 := (Value.slice.inj (List.cons.inj h1).1).2.1
    refine ⟨?_, .inr ⟨elems.map (·.1), rest.map (·.1), by rw [h2], by rw [List.length_map]; omega⟩⟩
    have : maxLen = 9223372036854775807 := by decide
    omega
/-- A slice that is handed in, and how long what was read is. -/
theorem arg_slL {α : Type} {t e : Nat} {R : Rp α} {v : Value} {d : DataW H} {p : List MemPlace} (hu : P.underlying t = some (.slice e)) (hR : Rd enc P W t (rSl R)) (hok : Value.okWide P W .any base t v) (h : DataW.Trod enc P W 0 (fun _ => true) true t v d p) :
    ∃ xs, (tSl R xs).p (wholeH W) v ∧ (d = .nil ∧ xs = [] ∨ ∃ el rest, d = .slice el rest ∧ el.length = xs.length) := by
  obtain ⟨a, len, cap, rfl⟩ := Go.WideShapes.okWide_slice hu hok
  obtain ⟨fuel, h⟩ := h
  obtain ⟨xs, hr⟩ := hR.rd _ _ _ h
  have hl := (sl_len hu h hr).2
  obtain ⟨u, e1, e2⟩ := hr
  have : Value.slice a len cap = u := (List.cons.inj e1).1
  exact ⟨xs, this ▸ e2, hl⟩
/-- A struct that is handed in. -/
theorem arg_st {α : Type} {t : Nat} {R : Rp α} {v : Value} {d : DataW H} {p : List MemPlace} (hR : Rd enc P W t R) (hg : R.agg = true) (hk : R.k ≠ 1) (h : DataW.Trod enc P W 0 (fun _ => true) true t v d p) :
    ∃ x, (R.ty x).p (wholeH W) v := by
  obtain ⟨fuel, h⟩ := h
  obtain ⟨x, r⟩ := hR.rd _ _ _ h
  refine ⟨x, R.iff.2 ⟨_, r, ?_⟩⟩
  have hl := R.len r
  unfold packV
  rw [hg]
  cases v with
  | agg cs => simp [Value.cells]
  | _ => simp [Value.cells] at hl; exact absurd hl.symm hk
theorem arg_str {t : Nat} {v : Value} {d : DataW H} {p : List MemPlace} (hu : P.underlying t = some .string) (hok : Value.okWide P W .any base t v) (h : DataW.Trod enc P W 0 (fun _ => true) true t v d p) :
    ∃ x : ByteArray, (tV (.string x)).p (wholeH W) v := by
  obtain ⟨x, rfl⟩ := Go.WideShapes.okWide_string hu hok
  exact ⟨x, rfl⟩
end
theorem arg_int {H : Type} {enc : TypeId × Value → H} {P : Program} {W : World} {base : Nat} {t : Nat} {v : Value} {d : DataW H} {p : List MemPlace} (hu : P.underlying t = some (.int .i64)) (hok : Value.okWide P W .any base t v) (h : DataW.Trod enc P W 0 (fun _ => true) true t v d p) :
    ∃ n : Int, (tV (.int .i64 n)).p (wholeH W) v := by
  obtain ⟨n, rfl⟩ := Go.WideShapes.okWide_int hu hok
  exact ⟨n, rfl⟩
theorem inv_of {W : World} (h : Lib.TabIs Tryz.prog W "internal/strconv.uint64pow10" .u64 Lib.pow10Tab) : Inv (wholeH W) := by
  have hg : Tryz.prog.globalNamed "internal/strconv.uint64pow10" = some tabG := by kernel_rfl
  unfold Lib.TabIs World.var? at h
  rw [hg] at h
  simp only [Option.bind_some] at h
  unfold Inv wholeH
  cases hb : W.heap[tabG]? with
  | none => rw [hb] at h; cases h
  | some o =>
    rw [hb] at h
    cases o with
    | cells cs e fz => exact ⟨e, fz, by injection h with h; rw [h]; rfl⟩
    | _ => cases h
end Lg
namespace Go.Proofs.YtabonjploobnnaaGreatDoor
open Go.ChangeShapes Go.WideShapes Go.ChangeAt Go.RowKit
theorem own : ownKnob Tryz.prog.godebug = none := by kernel_rfl
theorem laidOut : laidOutB Tryz.prog = true := by kernel_rfl
theorem size22 : (22 : Nat) < Tryz.prog.types.size := of_decide_eq_true (by kernel_rfl)
theorem rec22 : Tryz.prog.readableRec 22 = true := by kernel_rfl
theorem want22 : Tryz.prog.wantsStandIn 22 = false := by kernel_rfl
theorem size23 : (23 : Nat) < Tryz.prog.types.size := of_decide_eq_true (by kernel_rfl)
theorem rec23 : Tryz.prog.readableRec 23 = true := by kernel_rfl
theorem want23 : Tryz.prog.wantsStandIn 23 = false := by kernel_rfl
theorem size3 : (3 : Nat) < Tryz.prog.types.size := of_decide_eq_true (by kernel_rfl)
theorem rec3 : Tryz.prog.readableRec 3 = true := by kernel_rfl
theorem want3 : Tryz.prog.wantsStandIn 3 = false := by kernel_rfl
theorem size5 : (5 : Nat) < Tryz.prog.types.size := of_decide_eq_true (by kernel_rfl)
theorem rec5 : Tryz.prog.readableRec 5 = true := by kernel_rfl
theorem want5 : Tryz.prog.wantsStandIn 5 = false := by kernel_rfl
theorem size35 : (35 : Nat) < Tryz.prog.types.size := of_decide_eq_true (by kernel_rfl)
theorem rec35 : Tryz.prog.readableRec 35 = true := by kernel_rfl
theorem want35 : Tryz.prog.wantsStandIn 35 = false := by kernel_rfl
/-- What the rows list. -/
abbrev laidL : List (String × DataW Unit) := [("math/bits.deBruijn32tab", Rows.laid_math_bits_deBruijn32tab), ("math/bits.deBruijn64tab", Rows.laid_math_bits_deBruijn64tab), ("internal/strconv.uint64pow10", Rows.laid_internal_strconv_uint64pow10)]
noncomputable def laidWorld (os : Os) : World := World.laidAll Tryz.prog os laidL
theorem tab_of {W : World} (h : laidMet Tryz.prog laidL W) : Lib.TabIs Tryz.prog W "internal/strconv.uint64pow10" .u64 Lib.pow10Tab :=
  Lib.tabIs_of_head (g := Lg.tabG) (t := 249) (e := 146) (n := 20) (rest := []) (by kernel_rfl) (by kernel_rfl) Tryz.underlying249 Tryz.underlying146 (by kernel_rfl) (by kernel_rfl) h.tail.tail
theorem noLooks : true = Tryz.pinned.checked.prog.looks [] := by kernel_rfl
end Go.Proofs.YtabonjploobnnaaGreatDoor
