/- A part of the proofs of the laws of cleanselaw26: contracts of functions that the law reaches, and facts about what they compute. -/
import Derived.Test.YtabonjploobnnaaGreatDoorC
import Derived.Lib.UnsafeStr
import Derived.Lib.Builder
import Derived.Laws.Externs
import Derived.Shelf.Sort.Plain
import Derived.Shelf.Slices.In.SortNone
import Derived.Shelf.GgSortFunc.Insertion
import Derived.Laws.CopyRow
set_option linter.unusedVariables false
set_option linter.unusedSimpArgs false
set_option linter.unusedSectionVars false
namespace Lg
open Go Go.Proofs Go.Proofs.Tryz
def bothT (c op : Int) : GTest := ⟨⟨0, c, zValue⟩, op, ⟨1, c, zValue⟩, 0⟩
def fT (f : GFixed) (k : Int) : GTest := ⟨⟨k, f.Col, zValue⟩, 1, ⟨-1, 0, f.Value⟩, 0⟩
def fixT (l : List GFixed) : List GTest := l.flatMap fun f => [fT f 0, fT f 1]
theorem fixT_len (l : List GFixed) : (fixT l).length = 2 * l.length := by
  induction l with
  | nil => rfl
  | cons a l ih => simp [fixT] at ih ⊢; omega
def preT (r : GRule) : List GTest := if r.Kind = 2 then fixT r.Fixed else []
theorem preT_len (r : GRule) : (preT r).length ≤ 2 * r.Fixed.length := by unfold preT; split <;> simp [fixT_len]
def lowT (r : GRule) : List GTest := preT r ++ r.Cols.map (bothT · 1) ++ (if r.Kind = 2 then [bothT r.Col 2] else [])
def lowerR (r : GRule) : List GRule := if r.Kind = 4 then [r] else if r.Kind = 1 ∨ r.Kind = 2 then [{ zRule with Kind := 4, Name := r.Name, Tables := [r.Table, r.Table], Tests := lowT r }] else []
def outW (r : GRule) (v : Value) : GRuleW := { zRuleW with Kind := 4, Name := r.Name, Tables := [r.Table, r.Table], Tests := v }
theorem take_fixT {l : List GFixed} {i : Nat} (h : i < l.length) : fixT (l.take (i + 1)) = fixT (l.take i) ++ [fT (nth l i) 0, fT (nth l i) 1] := by
  rw [takeB h]; simp [fixT]
theorem range_succ_map {α : Type} (f : Int → α) (j : Nat) : (List.range (j + 1)).map (fun k : Nat => f k) = (List.range j).map (fun k : Nat => f k) ++ [f j] := by rw [List.range_succ]; simp
theorem take_succ_map {α β : Type} [Inhabited α] (f : α → β) {l : List α} {i : Nat} (h : i < l.length) : (l.take (i + 1)).map f = (l.take i).map f ++ [f (nth l i)] := by rw [takeB h]; simp
theorem both_spec (c op : Int) : Fun1 prog 54 [tV (.int .i64 c), tV (.int .i64 op)] (rTest.ty (bothT c op)) := by
 refine Spec.enter func54 rfl rfl fun h0 w0 fr0 => ?_
 refine Jr ?_
 refine Jx rfl (step_alloc (fun w => zeroValue107 w) zr107) fun v4 => ?_
 refine JL_nil (Jr (Jm rfl (Js rfl (step_build (x := (⟨0, c, zValue⟩ : GSide)) (zs := [[Value.int .i64 0], [Value.int .i64 0], [Value.int .i64 0, Value.int .i64 0, Value.string ⟨#[]⟩]]) so105 (fun w => zeroValue105 w) ⟨Sr, trivial⟩ ⟨fun _ => rfl, ⟨Sr, rfl⟩, fun _ => ⟨[Value.int .i64 0], _, rfl, rfl, ⟨[Value.int .i64 0], _, rfl, rfl, ⟨[Value.string ⟨#[]⟩], _, rfl, rfl, rfl⟩⟩⟩, trivial⟩) (Jm rfl (Jm rfl ?_)))))
 refine Js rfl (step_build (x := (⟨1, c, zValue⟩ : GSide)) (zs := [[Value.int .i64 0], [Value.int .i64 0], [Value.int .i64 0, Value.int .i64 0, Value.string ⟨#[]⟩]]) so105 (fun w => zeroValue105 w) ⟨Sr, Sr, trivial⟩ ⟨⟨Sr, rfl⟩, ⟨Sr, rfl⟩, fun _ => ⟨[Value.int .i64 0], _, rfl, rfl, ⟨[Value.int .i64 0], _, rfl, rfl, ⟨[Value.string ⟨#[]⟩], _, rfl, rfl, rfl⟩⟩⟩, trivial⟩) (Js rfl (step_build (x := (bothT c op : GTest)) (zs := [[Value.int .i64 0, Value.int .i64 0, Value.int .i64 0, Value.int .i64 0, Value.string ⟨#[]⟩], [Value.int .i64 0], [Value.int .i64 0, Value.int .i64 0, Value.int .i64 0, Value.int .i64 0, Value.string ⟨#[]⟩], [Value.int .i64 0]]) so107 (fun w => zeroValue107 w) ⟨Sr, Sr, Sr, trivial⟩ ⟨⟨Sr, rfl⟩, ⟨Sr, rfl⟩, ⟨Sr, rfl⟩, fun _ => rfl, trivial⟩) ?_)
 refine Ju (step_store_box ty107 Sr Sr zS) fun _ => ?_
 refine JL_freeze (t := 4) (Sel.take (Sel.none _)) Frz.box ?_
 refine JL_nil (J_ret ?_)
 refine K_retv (rv := .cell 4 107) rfl () (.imm ty107 Sr Sr) Sr
theorem Lower_spec (r : GRule) (h1 : r.Fixed.length ≤ 1000000) (h2 : r.Cols.length ≤ 1000000) : Fun1 prog 29 [rRule.ty r] (tSl rRule (lowerR r)) := by
  refine Spec.enter func29 rfl rfl fun h0 w0 fr0 => ?_
  refine Jr ?_
  refine Js rfl (step_box (R := rRule) Sr) ?_
  refine Ja rfl ?_
  refine JL_nil ?_
  refine Jr ?_
  refine Ja rfl ?_
  refine JL_nil ?_
  refine Jr ?_
  refine Js rfl (step_fieldAddr so59 Sr rfl) ?_
  refine Jl rfl ty9 Sr ?_
  refine Js rfl (step_fieldAddr so59 Sr rfl) ?_
  refine Jl rfl ty3 Sr ?_
  refine Js rfl (step_fieldAddr so59 Sr rfl) ?_
  refine Jl rfl ty3 Sr ?_
  refine Js rfl (step_literal (ys := [_, _]) underlying33 el3 ⟨rfl, Sr, rfl, Sr, trivial⟩ rfl (by decide)) ?_
  refine Js rfl (step_build (x := (outW r (.slice none 0 0) : GRuleW)) (zs := [[Value.int .i64 0], [Value.string ⟨#[]⟩], [Value.int .i64 0], [Value.slice none 0 0], [Value.int .i64 0], [Value.slice none 0 0], [Value.int .i64 0], [Value.int .i64 0], [Value.slice none 0 0], [Value.slice none 0 0]]) so59W (fun w => zeroValue59 w) ⟨Sr, Sr, Sr, trivial⟩ ⟨⟨Sr, rfl⟩, ⟨Sr, rfl⟩, fun _ => rfl, fun _ => ⟨_, rfl, none, ⟨0, Nat.le_refl _⟩, rfl, fun q => absurd rfl q⟩, fun _ => rfl, fun _ => ⟨_, rfl, none, ⟨0, Nat.le_refl _⟩, rfl, fun q => absurd rfl q⟩, fun _ => rfl, fun _ => rfl, ⟨Sr, rfl⟩, fun _ => ⟨rfl, rfl⟩, trivial⟩) ?_
  refine Jx rfl (step_alloc (fun w => zeroValue59 w) zr59W) fun v4 => ?_
  refine Ju (step_store_box ty59W Sr Sr zS) fun _ => ?_
  refine JL_nil ?_
  refine K_lsub (LSub.nilown (e := 107) (R := rTest)) ?_
  refine J_seq ?_
  refine Jr ?_
  refine Js rfl (step_fieldAddr so59 Sr rfl) ?_
  refine Jl rfl ty3 Sr ?_
  refine JL_nil ?_
  refine J_block ?_
  refine Jr ?_
  refine Js rfl (step_eql Sr Sr) ?_
  refine Ja rfl ?_
  refine JL_nil ?_
  refine J_cond Sr (fun hc1 => ?_) (fun hc1 => ?_)
  · try simp only [NF] at hc1
    refine Jr ?_
    refine Jl rfl ty59 Sr ?_
    refine Js rfl (step_literal (ys := [_]) underlying22 el59 ⟨rfl, Sr, trivial⟩ rfl (by decide)) ?_
    refine Ja rfl ?_
    refine JL_nil ?_
    refine J_ret ?_
    refine K_drop (Sel.all _) ?_
    refine K_ret1 (t := 2) rfl () ?_
    refine Sub.sl ?_
    simp [lowerR, hc1]
  · try simp only [NF] at hc1
    refine Jr ?_
    refine Js rfl (step_eql Sr Sr) ?_
    refine Ja rfl ?_
    refine JL_nil ?_
    refine J_cond Sr (fun hc2 => ?_) (fun hc2 => ?_)
    · try simp only [NF] at hc2
      refine J_skip ?_
      refine J_seq ?_
      refine Jr ?_
      refine Js rfl (step_fieldAddr so59 Sr rfl) ?_
      refine Jl rfl ty33 Sr ?_
      refine Js rfl (step_len_sl underlying33 Sr) ?_
      refine Jm rfl ?_
      refine JL_nil ?_
      refine J_block ?_
      refine J_loopL (σ := Nat × Value) (fun ⟨i, v⟩ => i ≤ r.Cols.length) (fun ⟨i, v⟩ => upd (upd (upd (upd (upd (upd (upd env0 1 (tPtr rRule r)) 2 (tV (.slice none 0 0))) 3 (tV (.func (.func 54) #[] #[]))) 4 (tAt v4 0)) 54 (tSl rInt r.Cols)) 55 (tV (.int .i64 r.Cols.length))) 56 (tV (.int .i64 i))) (fun ⟨i, v⟩ => [box v4 59 rRuleW (outW r v), own 107 rTest v (preT r ++ (r.Cols.take i).map (bothT · 1))]) (fun ⟨i, v⟩ => r.Cols.length - i) (0, _) (by simp) (zU) (LSub.cons zS SPs.rfl (.c zS (own_eq (by first | (obtain rfl : i = r.Fixed.length := zG; simp_all [preT]; done) | simp_all [preT])) LSub.nil)) ?_
      rintro ⟨i, v⟩ hi
      try dsimp only at hi
      refine Jr ?_
      refine Js rfl (step_lss Sr Sr) ?_
      refine JL_nil ?_
      refine J_seq ?_
      refine J_cond Sr (fun hc3 => ?_) (fun hc3 => ?_)
      · try simp only [NF] at hc3
        have hlt : i < r.Cols.length := by omega
        refine J_skip ?_
        refine J_seq ?_
        refine J_block ?_
        refine Jr ?_
        refine Js rfl (step_indexAddr_sl  underlying33 ty3 Sr Sr rfl (gb (by first | assumption | omega))) ?_
        refine Jl rfl ty3 Sr ?_
        refine Ja rfl ?_
        refine JL_nil ?_
        refine J_draw [⟨0, [4], true⟩, ⟨2, [3], true⟩, ⟨3, [9], true⟩, ⟨4, [62, 63], true⟩, ⟨5, [64], true⟩, ⟨1, [60], false⟩, ⟨6, [61, 65], false⟩, ⟨7, [4], true⟩, ⟨8, [66, 67], false⟩] rfl (by kernel_rfl) ?_
        refine Mf rfl rfl (step_fieldAddr_own so59W Sr rfl) ?_
        refine Mv rfl rfl ?_
        refine Mv rfl rfl ?_
        refine Mf rfl rfl (step_callv0 (aT := [_, _]) Sub.clo0 (both_spec _ _) ⟨Sr, Sr, trivial⟩ call54) ?_
        refine Mf rfl rfl (step_literal (ys := [_]) underlying57 el107 ⟨rfl, Sr, trivial⟩ rfl (by decide)) ?_
        refine JM_look rfl rfl rfl rfl (step_load_fld ty57V59 Sr rfl zS) ?_
        refine JM_stepX rfl rfl rfl rfl (step_append underlying57 el107 Sr Sr zS (by have := preT_len r; simp [fixT_len]; omega) (by have := preT_len r; simp [fixT_len]; omega)) fun v66 => ?_
        refine Mf rfl rfl (step_fieldAddr_own so59W Sr rfl) ?_
        refine JM_stepU rfl rfl rfl (step_store_fld (R := rV) (y' := outW r v66) ty57V59 Sr Sr zS (by exact ⟨rfl, rfl, rfl, rfl, rfl, rfl, rfl, rfl, rfl, fun _ _ q => q, rfl, fun _ h => (by cases h)⟩)) fun _ => ?_
        refine JM_nil ?_
        refine J_region ?_
        refine Js rfl (step_add Sr Sr z6) ?_
        refine Jm rfl ?_
        refine JL_nil ?_
        refine K_againL (σ := Nat × Value) (s := (i, v)) (i + 1, v66) zO (by simp; omega) (zU) (LSub.cons zS SPs.rfl (.c zS (own_eq (by rw [take_succ_map (bothT · 1) hlt, List.append_assoc])) LSub.nil))
      · try simp only [NF] at hc3
        refine J_exit ?_
        refine J_seq ?_
        refine Jr ?_
        refine Js rfl (step_fieldAddr so59 Sr rfl) ?_
        refine Jl rfl ty3 Sr ?_
        refine Js rfl (step_eql Sr Sr) ?_
        refine JL_nil ?_
        refine J_cond Sr (fun hc4 => ?_) (fun hc4 => ?_)
        · try simp only [NF] at hc4
          refine J_draw [⟨0, [4], true⟩, ⟨2, [3], true⟩, ⟨3, [1], true⟩, ⟨4, [75], true⟩, ⟨5, [74, 76], true⟩, ⟨6, [77], true⟩, ⟨1, [72], false⟩, ⟨7, [73, 78], false⟩, ⟨8, [4], true⟩, ⟨9, [79, 80], false⟩] rfl (by kernel_rfl) ?_
          refine Mf rfl rfl (step_fieldAddr_own so59W Sr rfl) ?_
          refine Mv rfl rfl ?_
          refine Mf rfl rfl (step_fieldAddr so59 Sr rfl) ?_
          refine Mf rfl rfl (step_load_ptr ty3 Sr) ?_
          refine Mf rfl rfl (step_callv0 (aT := [_, _]) Sub.clo0 (both_spec _ _) ⟨Sr, Sr, trivial⟩ call54) ?_
          refine Mf rfl rfl (step_literal (ys := [_]) underlying57 el107 ⟨rfl, Sr, trivial⟩ rfl (by decide)) ?_
          refine JM_look rfl rfl rfl rfl (step_load_fld ty57V59 Sr rfl zS) ?_
          refine JM_stepX rfl rfl rfl rfl (step_append underlying57 el107 Sr Sr zS (by have := preT_len r; simp [fixT_len]; omega) (by have := preT_len r; simp [fixT_len]; omega)) fun v79 => ?_
          refine Mf rfl rfl (step_fieldAddr_own so59W Sr rfl) ?_
          refine JM_stepU rfl rfl rfl (step_store_fld (R := rV) (y' := outW r v79) ty57V59 Sr Sr zS (by exact ⟨rfl, rfl, rfl, rfl, rfl, rfl, rfl, rfl, rfl, fun _ _ q => q, rfl, fun _ h => (by cases h)⟩)) fun _ => ?_
          refine JM_nil ?_
          refine Jr ?_
          refine JL_freeze (t := 4) (Sel.all _) (Frz.up (y := (outW r _).up _) fun h h2 cs l hv q => up59W _ l hv q) ?_
          refine Jl rfl ty59 Sr ?_
          refine Js rfl (step_literal (ys := [_]) underlying22 el59 ⟨rfl, Sr, trivial⟩ rfl (by decide)) ?_
          refine Ja rfl ?_
          refine JL_nil ?_
          refine J_ret ?_
          refine K_ret1 (t := 2) rfl () ?_
          refine Sub.sl ?_
          first
            | (exfalso; omega)
            | (have e : i = r.Cols.length := by omega
               simp_all [lowerR, lowT, outW, GRuleW.up, zRule, zRuleW])
        · try simp only [NF] at hc4
          refine J_skip ?_
          refine Jr ?_
          refine JL_freeze (t := 4) (Sel.all _) (Frz.up (y := (outW r _).up _) fun h h2 cs l hv q => up59W _ l hv q) ?_
          refine Jl rfl ty59 Sr ?_
          refine Js rfl (step_literal (ys := [_]) underlying22 el59 ⟨rfl, Sr, trivial⟩ rfl (by decide)) ?_
          refine Ja rfl ?_
          refine JL_nil ?_
          refine J_ret ?_
          refine K_ret1 (t := 2) rfl () ?_
          refine Sub.sl ?_
          first
            | (exfalso; omega)
            | (have e : i = r.Cols.length := by omega
               simp_all [lowerR, lowT, outW, GRuleW.up, zRule, zRuleW])
    · try simp only [NF] at hc2
      refine Jr ?_
      refine Js rfl (step_eql Sr Sr) ?_
      refine Ja rfl ?_
      refine JL_nil ?_
      refine J_cond Sr (fun hc5 => ?_) (fun hc5 => ?_)
      · try simp only [NF] at hc5
        refine Jr ?_
        refine Js rfl (step_fieldAddr so59 Sr rfl) ?_
        refine Jl rfl ty56 Sr ?_
        refine Js rfl (step_len_sl underlying56 Sr) ?_
        refine Jm rfl ?_
        refine JL_nil ?_
        refine J_block ?_
        refine J_loopL (σ := Nat × Value) (fun ⟨i, v⟩ => i ≤ r.Fixed.length) (fun ⟨i, v⟩ => upd (upd (upd (upd (upd (upd (upd env0 1 (tPtr rRule r)) 2 (tV (.slice none 0 0))) 3 (tV (.func (.func 54) #[] #[]))) 4 (tAt v4 0)) 29 (tSl rFixed r.Fixed)) 30 (tV (.int .i64 r.Fixed.length))) 31 (tV (.int .i64 i))) (fun ⟨i, v⟩ => [box v4 59 rRuleW (outW r v), own 107 rTest v (fixT (r.Fixed.take i))]) (fun ⟨i, v⟩ => r.Fixed.length - i) (0, .slice none 0 0) (by simp) (zU) (LSub.cons zS SPs.rfl (.c zS (own_eq (by simp [fixT])) LSub.nil)) ?_
        rintro ⟨i, v⟩ hi
        try dsimp only at hi
        refine Jr ?_
        refine Js rfl (step_lss Sr Sr) ?_
        refine JL_nil ?_
        refine J_seq ?_
        refine J_cond Sr (fun hc6 => ?_) (fun hc6 => ?_)
        · try simp only [NF] at hc6
          have hlt : i < r.Fixed.length := by omega
          refine J_skip ?_
          refine J_seq ?_
          refine J_block ?_
          refine Jr ?_
          refine Js rfl (step_indexAddr_sl  underlying56 ty110 Sr Sr rfl (gb (by first | assumption | omega))) ?_
          refine Jl rfl ty110 Sr ?_
          refine Jx rfl (step_alloc (fun w => zeroValue110 w) zr110) fun v6 => ?_
          refine Ju (step_store_box ty110 Sr Sr zS) fun _ => ?_
          refine JL_freeze (t := 6) (Sel.take (Sel.none _)) Frz.box ?_
          refine JL_nil ?_
          refine Jr ?_
          refine Jm rfl ?_
          refine JL_nil ?_
          refine J_block ?_
          refine J_loopL (σ := Nat × Value) (fun ⟨j, v⟩ => j ≤ 2) (fun ⟨j, v⟩ => upd (upd (upd (upd (upd (upd (upd (upd (upd (upd env0 1 (tPtr rRule r)) 2 (tV (.slice none 0 0))) 3 (tV (.func (.func 54) #[] #[]))) 4 (tAt v4 0)) 6 (tPtr rFixed (nth r.Fixed i))) 29 (tSl rFixed r.Fixed)) 30 (tV (.int .i64 r.Fixed.length))) 31 (tV (.int .i64 i))) 34 (rFixed.ty (nth r.Fixed i))) 35 (tV (.int .i64 j))) (fun ⟨j, v⟩ => [box v4 59 rRuleW (outW r v), own 107 rTest v (fixT (r.Fixed.take i) ++ (List.range j).map (fun k : Nat => fT (nth r.Fixed i) k))]) (fun ⟨j, v⟩ => 2 - j) (0, v) (by simp) (zU) (LSub.cons zS SPs.rfl (.c zS (own_eq (by simp)) LSub.nil)) ?_
          rintro ⟨j, v⟩ hj
          try dsimp only at hj
          refine Jr ?_
          refine Js rfl (step_lss Sr Sr) ?_
          refine JL_nil ?_
          refine J_seq ?_
          refine J_cond Sr (fun hc7 => ?_) (fun hc7 => ?_)
          · try simp only [NF] at hc7
            refine J_skip ?_
            refine J_seq ?_
            refine J_block ?_
            refine Jr ?_
            refine Jm rfl ?_
            refine Ja rfl ?_
            refine JL_nil ?_
            refine J_region ?_
            refine Js rfl (step_fieldAddr_own so59W Sr rfl) ?_
            refine Js rfl (step_load_fld ty57V59 Sr rfl zS) ?_
            refine Jm rfl ?_
            refine Js rfl (step_fieldAddr so110 Sr rfl) ?_
            refine Jl rfl ty3 Sr ?_
            refine Js rfl (step_build (x := (⟨(j : Int), (nth r.Fixed i).Col, zValue⟩ : GSide)) (zs := [[Value.int .i64 0], [Value.int .i64 0], [Value.int .i64 0, Value.int .i64 0, Value.string ⟨#[]⟩]]) so105 (fun w => zeroValue105 w) ⟨Sr, Sr, trivial⟩ ⟨⟨Sr, rfl⟩, ⟨Sr, rfl⟩, fun _ => ⟨[Value.int .i64 0], _, rfl, rfl, ⟨[Value.int .i64 0], _, rfl, rfl, ⟨[Value.string ⟨#[]⟩], _, rfl, rfl, rfl⟩⟩⟩, trivial⟩) ?_
            refine Js rfl (step_fieldAddr so110 Sr rfl) ?_
            refine Jl rfl ty91 Sr ?_
            refine Js rfl (step_build (x := (⟨-1, 0, (nth r.Fixed i).Value⟩ : GSide)) (zs := [[Value.int .i64 0], [Value.int .i64 0], [Value.int .i64 0, Value.int .i64 0, Value.string ⟨#[]⟩]]) so105 (fun w => zeroValue105 w) ⟨Sr, Sr, trivial⟩ ⟨⟨Sr, rfl⟩, fun _ => rfl, ⟨Sr, rfl⟩, trivial⟩) ?_
            refine Js rfl (step_build (x := (fT (nth r.Fixed i) j : GTest)) (zs := [[Value.int .i64 0, Value.int .i64 0, Value.int .i64 0, Value.int .i64 0, Value.string ⟨#[]⟩], [Value.int .i64 0], [Value.int .i64 0, Value.int .i64 0, Value.int .i64 0, Value.int .i64 0, Value.string ⟨#[]⟩], [Value.int .i64 0]]) so107 (fun w => zeroValue107 w) ⟨Sr, Sr, Sr, trivial⟩ ⟨⟨Sr, rfl⟩, ⟨Sr, rfl⟩, ⟨Sr, rfl⟩, fun _ => rfl, trivial⟩) ?_
            refine Js rfl (step_literal (ys := [_]) underlying57 el107 ⟨rfl, Sr, trivial⟩ rfl (by decide)) ?_
            refine Jx rfl (step_append underlying57 el107 Sr Sr zS (by simp [fixT_len]; omega) (by simp [fixT_len]; omega)) fun v49 => ?_
            refine Js rfl (step_fieldAddr_own so59W Sr rfl) ?_
            refine Ju (step_store_fld (R := rV) (y' := outW r v49) ty57V59 Sr Sr zS (by exact ⟨rfl, rfl, rfl, rfl, rfl, rfl, rfl, rfl, rfl, fun _ _ q => q, rfl, fun _ h => (by cases h)⟩)) fun _ => ?_
            refine JL_nil ?_
            refine J_region ?_
            refine Js rfl (step_add Sr Sr z6) ?_
            refine Jm rfl ?_
            refine JL_nil ?_
            refine K_againL (σ := Nat × Value) (s := (j, v)) (j + 1, v49) zO (by simp; omega) (zU) (LSub.cons zS SPs.rfl (.c zS (own_eq (by rw [range_succ_map, List.append_assoc])) LSub.nil))
          · try simp only [NF] at hc7
            refine J_exit ?_
            refine J_region ?_
            refine Js rfl (step_add Sr Sr z6) ?_
            refine Jm rfl ?_
            refine JL_nil ?_
            refine K_againL (σ := Nat × Value) (s := (i, v)) (i + 1, v) zO (by simp; omega) (zU) (LSub.cons zS SPs.rfl (.c zS (own_eq (by obtain rfl : j = 2 := zG; rw [take_fixT hlt]; rfl)) LSub.nil))
        · try simp only [NF] at hc6
          refine J_exit ?_
          refine J_seq ?_
          refine Jr ?_
          refine Js rfl (step_fieldAddr so59 Sr rfl) ?_
          refine Jl rfl ty33 Sr ?_
          refine Js rfl (step_len_sl underlying33 Sr) ?_
          refine Jm rfl ?_
          refine JL_nil ?_
          refine J_block ?_
          refine J_loopL (σ := Nat × Value) (fun ⟨i, v⟩ => i ≤ r.Cols.length) (fun ⟨i, v⟩ => upd (upd (upd (upd (upd (upd (upd env0 1 (tPtr rRule r)) 2 (tV (.slice none 0 0))) 3 (tV (.func (.func 54) #[] #[]))) 4 (tAt v4 0)) 54 (tSl rInt r.Cols)) 55 (tV (.int .i64 r.Cols.length))) 56 (tV (.int .i64 i))) (fun ⟨i, v⟩ => [box v4 59 rRuleW (outW r v), own 107 rTest v (preT r ++ (r.Cols.take i).map (bothT · 1))]) (fun ⟨i, v⟩ => r.Cols.length - i) (0, _) (by simp) (zU) (LSub.cons zS SPs.rfl (.c zS (own_eq (by first | (obtain rfl : i = r.Fixed.length := zG; simp_all [preT]; done) | simp_all [preT])) LSub.nil)) ?_
          rintro ⟨i, v⟩ hi
          try dsimp only at hi
          refine Jr ?_
          refine Js rfl (step_lss Sr Sr) ?_
          refine JL_nil ?_
          refine J_seq ?_
          refine J_cond Sr (fun hc8 => ?_) (fun hc8 => ?_)
          · try simp only [NF] at hc8
            have hlt : i < r.Cols.length := by omega
            refine J_skip ?_
            refine J_seq ?_
            refine J_block ?_
            refine Jr ?_
            refine Js rfl (step_indexAddr_sl  underlying33 ty3 Sr Sr rfl (gb (by first | assumption | omega))) ?_
            refine Jl rfl ty3 Sr ?_
            refine Ja rfl ?_
            refine JL_nil ?_
            refine J_draw [⟨0, [4], true⟩, ⟨2, [3], true⟩, ⟨3, [9], true⟩, ⟨4, [62, 63], true⟩, ⟨5, [64], true⟩, ⟨1, [60], false⟩, ⟨6, [61, 65], false⟩, ⟨7, [4], true⟩, ⟨8, [66, 67], false⟩] rfl (by kernel_rfl) ?_
            refine Mf rfl rfl (step_fieldAddr_own so59W Sr rfl) ?_
            refine Mv rfl rfl ?_
            refine Mv rfl rfl ?_
            refine Mf rfl rfl (step_callv0 (aT := [_, _]) Sub.clo0 (both_spec _ _) ⟨Sr, Sr, trivial⟩ call54) ?_
            refine Mf rfl rfl (step_literal (ys := [_]) underlying57 el107 ⟨rfl, Sr, trivial⟩ rfl (by decide)) ?_
            refine JM_look rfl rfl rfl rfl (step_load_fld ty57V59 Sr rfl zS) ?_
            refine JM_stepX rfl rfl rfl rfl (step_append underlying57 el107 Sr Sr zS (by have := preT_len r; simp [fixT_len]; omega) (by have := preT_len r; simp [fixT_len]; omega)) fun v66 => ?_
            refine Mf rfl rfl (step_fieldAddr_own so59W Sr rfl) ?_
            refine JM_stepU rfl rfl rfl (step_store_fld (R := rV) (y' := outW r v66) ty57V59 Sr Sr zS (by exact ⟨rfl, rfl, rfl, rfl, rfl, rfl, rfl, rfl, rfl, fun _ _ q => q, rfl, fun _ h => (by cases h)⟩)) fun _ => ?_
            refine JM_nil ?_
            refine J_region ?_
            refine Js rfl (step_add Sr Sr z6) ?_
            refine Jm rfl ?_
            refine JL_nil ?_
            refine K_againL (σ := Nat × Value) (s := (i, v)) (i + 1, v66) zO (by simp; omega) (zU) (LSub.cons zS SPs.rfl (.c zS (own_eq (by rw [take_succ_map (bothT · 1) hlt, List.append_assoc])) LSub.nil))
          · try simp only [NF] at hc8
            refine J_exit ?_
            refine J_seq ?_
            refine Jr ?_
            refine Js rfl (step_fieldAddr so59 Sr rfl) ?_
            refine Jl rfl ty3 Sr ?_
            refine Js rfl (step_eql Sr Sr) ?_
            refine JL_nil ?_
            refine J_cond Sr (fun hc9 => ?_) (fun hc9 => ?_)
            · try simp only [NF] at hc9
              refine J_draw [⟨0, [4], true⟩, ⟨2, [3], true⟩, ⟨3, [1], true⟩, ⟨4, [75], true⟩, ⟨5, [74, 76], true⟩, ⟨6, [77], true⟩, ⟨1, [72], false⟩, ⟨7, [73, 78], false⟩, ⟨8, [4], true⟩, ⟨9, [79, 80], false⟩] rfl (by kernel_rfl) ?_
              refine Mf rfl rfl (step_fieldAddr_own so59W Sr rfl) ?_
              refine Mv rfl rfl ?_
              refine Mf rfl rfl (step_fieldAddr so59 Sr rfl) ?_
              refine Mf rfl rfl (step_load_ptr ty3 Sr) ?_
              refine Mf rfl rfl (step_callv0 (aT := [_, _]) Sub.clo0 (both_spec _ _) ⟨Sr, Sr, trivial⟩ call54) ?_
              refine Mf rfl rfl (step_literal (ys := [_]) underlying57 el107 ⟨rfl, Sr, trivial⟩ rfl (by decide)) ?_
              refine JM_look rfl rfl rfl rfl (step_load_fld ty57V59 Sr rfl zS) ?_
              refine JM_stepX rfl rfl rfl rfl (step_append underlying57 el107 Sr Sr zS (by have := preT_len r; simp [fixT_len]; omega) (by have := preT_len r; simp [fixT_len]; omega)) fun v79 => ?_
              refine Mf rfl rfl (step_fieldAddr_own so59W Sr rfl) ?_
              refine JM_stepU rfl rfl rfl (step_store_fld (R := rV) (y' := outW r v79) ty57V59 Sr Sr zS (by exact ⟨rfl, rfl, rfl, rfl, rfl, rfl, rfl, rfl, rfl, fun _ _ q => q, rfl, fun _ h => (by cases h)⟩)) fun _ => ?_
              refine JM_nil ?_
              refine Jr ?_
              refine JL_freeze (t := 4) (Sel.all _) (Frz.up (y := (outW r _).up _) fun h h2 cs l hv q => up59W _ l hv q) ?_
              refine Jl rfl ty59 Sr ?_
              refine Js rfl (step_literal (ys := [_]) underlying22 el59 ⟨rfl, Sr, trivial⟩ rfl (by decide)) ?_
              refine Ja rfl ?_
              refine JL_nil ?_
              refine J_ret ?_
              refine K_ret1 (t := 2) rfl () ?_
              refine Sub.sl ?_
              first
                | (exfalso; omega)
                | (have e : i = r.Cols.length := by omega
                   simp_all [lowerR, lowT, outW, GRuleW.up, zRule, zRuleW])
            · try simp only [NF] at hc9
              refine J_skip ?_
              refine Jr ?_
              refine JL_freeze (t := 4) (Sel.all _) (Frz.up (y := (outW r _).up _) fun h h2 cs l hv q => up59W _ l hv q) ?_
              refine Jl rfl ty59 Sr ?_
              refine Js rfl (step_literal (ys := [_]) underlying22 el59 ⟨rfl, Sr, trivial⟩ rfl (by decide)) ?_
              refine Ja rfl ?_
              refine JL_nil ?_
              refine J_ret ?_
              refine K_ret1 (t := 2) rfl () ?_
              refine Sub.sl ?_
              first
                | (exfalso; omega)
                | (have e : i = r.Cols.length := by omega
                   simp_all [lowerR, lowT, outW, GRuleW.up, zRule, zRuleW])
      · try simp only [NF] at hc5
        refine Jr ?_
        refine Ja rfl ?_
        refine JL_nil ?_
        refine J_ret ?_
        refine K_drop (Sel.all _) ?_
        refine K_ret1 (t := 2) rfl () ?_
        refine Sub.trans Sub.nilsl (Sub.sl ?_)
        simp [lowerR, *]
def okD3 (d : GRule) : Bool := decide (0 < (d.Tables.length : Int)) && decide ((d.Tables.length : Int) ≤ 3)
def loweredR (l : List GRule) : List GRule := l.flatMap fun r => (lowerR r).filter okD3
theorem lowerR_len (r : GRule) : (lowerR r).length ≤ 1 := by unfold lowerR; (repeat' split) <;> simp
theorem loweredR_len (l : List GRule) : (loweredR l).length ≤ l.length := by
  induction l with
  | nil => simp [loweredR]
  | cons a l ih =>
    have h1 := lowerR_len a
    have h2 := List.length_filter_le okD3 (lowerR a)
    simp only [loweredR, List.flatMap_cons, List.length_append, List.length_cons] at ih ⊢
    omega
theorem take_lowered {l : List GRule} {i : Nat} (h : i < l.length) : loweredR (l.take (i + 1)) = loweredR (l.take i) ++ (lowerR (nth l i)).filter okD3 := by rw [takeB h]; simp [loweredR]
theorem take_filter {α : Type} [Inhabited α] (p : α → Bool) {l : List α} {i : Nat} (h : i < l.length) : (l.take (i + 1)).filter p = (l.take i).filter p ++ (if p (nth l i) then [nth l i] else []) := by
  rw [takeB h, List.filter_append]; simp [List.filter_cons]
theorem lowered_spec (rules : List GRule) (hn : rules.length ≤ 1000000) (hr : ∀ r ∈ rules, r.Fixed.length ≤ 1000000 ∧ r.Cols.length ≤ 1000000) : Fun1 prog 72 [tSl rRule rules] (tSl rRule (loweredR rules)) := by
 refine Spec.enter func72 rfl rfl fun h0 w0 fr0 => ?_
 refine Jr (Ja rfl (JL_nil (Jr (Ja rfl (JL_nil ?_)))))
 refine J_seq (Jr (Jm rfl (Js rfl (step_len_sl underlying22 Sr) (Jm rfl (JL_nil ?_)))))
 refine J_block ?_
 refine J_loopL (σ := Nat × Value) (fun ⟨i, v⟩ => i ≤ rules.length) (fun ⟨i, v⟩ => upd (upd (upd (upd (upd env0 2 (tV (.slice none 0 0))) 3 (rV.ty v)) 9 (tSl rRule rules)) 10 (tV (.int .i64 rules.length))) 11 (tV (.int .i64 i))) (fun ⟨i, v⟩ => [own 59 rRule v (loweredR (rules.take i))]) (fun ⟨i, v⟩ => rules.length - i) (0, .slice none 0 0) (by simp) (.u (.u (.u (SubE.upd (Sub.rV rfl) (zU))))) (LSub.nilown) ?_
 rintro ⟨i, v⟩ hi
 try dsimp only at hi
 refine Jr (Js rfl (step_lss Sr Sr) (JL_nil (J_seq ?_)))
 refine J_cond Sr (fun hc1 => ?_) (fun hc1 => ?_)
 ·
  try simp only [NF] at hc1
  have hlt : i < rules.length := by omega
  refine J_skip (J_seq (J_block (Jr ?_)))
  refine Js rfl (step_indexAddr_sl  underlying22 ty59 Sr Sr rfl (gb (by first | assumption | omega))) ?_
  refine Jl rfl ty59 Sr ?_
  refine Jx rfl (step_alloc (fun w => zeroValue59 w) zr59) fun v5 => ?_
  refine Ju (step_store_box ty59 Sr Sr zS) fun _ => ?_
  refine JL_freeze (t := 5) (Sel.take (Sel.none _)) Frz.box ?_
  refine JL_nil (Jr (Jl rfl ty59 Sr (Js rfl (step_call0 (Lower_spec _ (hr _ (nth_mem hlt)).1 (hr _ (nth_mem hlt)).2) ⟨Sr, trivial⟩ call29) (Js rfl (step_len_sl underlying22 Sr) (Jm rfl ?_)))))
  refine JL_nil (J_block ?_)
  refine J_loopL (σ := Nat × Value) (fun ⟨j, v⟩ => j ≤ (lowerR (nth rules i)).length) (fun ⟨j, v⟩ => upd (upd (upd (upd (upd (upd (upd (upd env0 2 (tV (.slice none 0 0))) 3 (rV.ty v)) 9 (tSl rRule rules)) 10 (tV (.int .i64 rules.length))) 11 (tV (.int .i64 i))) 16 (tSl rRule (lowerR (nth rules i)))) 17 (tV (.int .i64 (lowerR (nth rules i)).length))) 18 (tV (.int .i64 j))) (fun ⟨j, v⟩ => [own 59 rRule v (loweredR (rules.take i) ++ ((lowerR (nth rules i)).take j).filter okD3)]) (fun ⟨j, v⟩ => (lowerR (nth rules i)).length - j) (0, v) (by simp) (zU) (.c zS (own_eq (by simp)) LSub.nil) ?_
  rintro ⟨j, v⟩ hj
  try dsimp only at hj
  refine Jr (Js rfl (step_lss Sr Sr) (JL_nil (J_seq ?_)))
  refine J_cond Sr (fun hc2 => ?_) (fun hc2 => ?_)
  ·
   try simp only [NF] at hc2
   have hltj : j < (lowerR (nth rules i)).length := by omega
   have hl1 := lowerR_len (nth rules i)
   refine J_skip (J_seq (J_block (Jr ?_)))
   refine Js rfl (step_indexAddr_sl  underlying22 ty59 Sr Sr rfl (gb (by first | assumption | omega))) ?_
   refine Jl rfl ty59 Sr ?_
   refine Jx rfl (step_alloc (fun w => zeroValue59 w) zr59) fun v7 => ?_
   refine Ju (step_store_box ty59 Sr Sr zS) fun _ => ?_
   refine JL_freeze (t := 7) (Sel.take (Sel.none _)) Frz.box ?_
   refine JL_nil (Jr (Js rfl (step_fieldAddr so59 Sr rfl) (Jl rfl ty33 Sr (Js rfl (step_len_sl underlying33 Sr) (Ja rfl ?_)))))
   refine JL_nil (Jr (Jm rfl (Js rfl (step_lss Sr Sr) (Jm rfl ?_))))
   refine Jk rfl Sr rfl (step_move Sr) ?_
   refine Jg rfl Sr rfl (fun hw => step_leq (Sub.w hw) Sr) (Js rfl (step_pick_and Sr Sr) (JL_nil ?_))
   refine J_cond Sr (fun hc3 => ?_) (fun hc3 => ?_)
   ·
    try simp only [NF] at hc3
    have hok : okD3 (nth (lowerR (nth rules i)) j) = true := by unfold okD3; simp only [Bool.and_eq_true, decide_eq_true_eq]; exact hc3
    refine J_region (Jm rfl (Jl rfl ty59 Sr ?_))
    refine Js rfl (step_literal (ys := [_]) underlying22 el59 ⟨rfl, Sr, trivial⟩ rfl (by decide)) ?_
    refine Jx rfl (step_append underlying22 el59 Sr Sr zS (by have := loweredR_len (rules.take i); have := List.length_filter_le okD3 ((lowerR (nth rules i)).take j); have := lowerR_len (nth rules i); simp at *; omega) (by have := loweredR_len (rules.take i); have := List.length_filter_le okD3 ((lowerR (nth rules i)).take j); have := lowerR_len (nth rules i); simp at *; omega)) fun v34 => ?_
    refine Ja rfl (JL_nil (J_region (Js rfl (step_add Sr Sr z6) (Jm rfl (JL_nil ?_)))))
    refine K_againL (σ := Nat × Value) (s := (j, v)) (j + 1, v34) zO (by simp; omega) (zU) (.c zS (own_eq (by rw [take_filter okD3 hltj, hok, List.append_assoc]; simp)) LSub.nil)
   try simp only [NF] at hc3
   have hok : okD3 (nth (lowerR (nth rules i)) j) = false := by unfold okD3; rw [Bool.and_eq_false_iff]; simp only [decide_eq_false_iff_not]; omega
   refine J_skip (J_region (Js rfl (step_add Sr Sr z6) (Jm rfl (JL_nil ?_))))
   refine K_againL (σ := Nat × Value) (s := (j, v)) (j + 1, v) zO (by simp; omega) (zU) (.c zS (own_eq (by rw [take_filter okD3 hltj, hok]; simp)) LSub.nil)
  try simp only [NF] at hc2
  refine J_exit (J_region (Js rfl (step_add Sr Sr z6) (Jm rfl (JL_nil ?_))))
  refine K_againL (σ := Nat × Value) (s := (i, v)) (i + 1, v) zO (by simp; omega) (zU) (.c zS (own_eq (by obtain rfl : j = (lowerR (nth rules i)).length := zG; rw [take_lowered hlt, List.take_length])) LSub.nil)
 try simp only [NF] at hc1
 refine J_exit (Jr (Jm rfl (Ja rfl (JL_nil (J_ret ?_)))))
 refine K_ret1' (rv := .tmp 2) rfl () (Sel.all _) (.tmp Sr) ?_
 exact Frz.own' (by obtain rfl : i = rules.length := zG; rw [List.take_length])
open Go Go.Proofs Go.Proofs.Tryz
/-- The value of a side, whether there is one, whether it must wait. -/
def sideV (s : GSide) (n : Int) (at_ : List Int) (facts : List GFact) : GValue × Bool × Bool :=
  if s.Var = -1 then (s.Value, true, false)
  else if s.Var < 0 ∨ n ≤ s.Var then (zValue, false, false)
  else if (at_.length : Int) ≤ s.Var then (zValue, true, true)
  else if s.Col < 0 ∨ ((nth facts (nth at_ s.Var.toNat).toNat).Row.length : Int) ≤ s.Col then (zValue, false, false)
  else (nth (nth facts (nth at_ s.Var.toNat).toNat).Row s.Col.toNat, true, false)
def holdsV (t : GTest) (n : Int) (facts : List GFact) (at_ : List Int) : Bool :=
  (sideV t.Left n at_ facts).2.1 && (sideV t.Right n at_ facts).2.1 &&
  (((sideV t.Left n at_ facts).2.2 || (sideV t.Right n at_ facts).2.2) || testV (sideV t.Left n at_ facts).1 t.Op (sideV t.Right n at_ facts).1 t.Add)
def InB (l : List Int) (n : Nat) : Prop := ∀ a ∈ l, 0 ≤ a ∧ a < (n : Int)
theorem holds1_spec (s : GSide) (n : Int) (at_ : List Int) (facts : List GFact) (b : Nat) (l : Bool) (hb : InB at_ facts.length) : Spec (X := Unit) prog 125 [rSide.ty s, tPtr rInt n, tPtr (rSl rInt) at_, tAt b 0, tPtr (rSl rFact) facts] ([box b 4 rBool l]) (fun _ => tTup [rValue.ty (sideV s n at_ facts).1, tV (.bool (sideV s n at_ facts).2.1)]) (fun _ => [box b 4 rBool (l || (sideV s n at_ facts).2.2)]) := by
 refine Spec.enter func125 rfl rfl fun h0 w0 fr0 => ?_
 refine Jr (Js rfl (step_box (R := rSide) Sr) ?_)
 refine Jx rfl (step_alloc (fun w => zeroValue91 w) zr91) fun v6 => ?_
 refine Ja rfl (JL_nil (J_seq (J_block (Jr (Js rfl (step_fieldAddr so105 Sr rfl) ?_)))))
 refine Jl rfl ty3 Sr (Js rfl (step_eql Sr Sr) (Ja rfl (JL_nil ?_)))
 refine J_cond Sr (fun hc1 => ?_) (fun hc1 => ?_)
 ·
  try simp only [NF] at hc1
  refine Jr (Js rfl (step_fieldAddr so105 Sr rfl) (Jl rfl ty91 Sr ?_))
  refine Ju (step_store_box ty91 Sr Sr zS) fun _ => ?_
  refine Ja rfl (JL_nil (J_ret ?_))
  have hs : sideV s n at_ facts = (s.Value, true, false) := by simp [sideV, hc1]
  refine K_lsub (LSub.cons zS SPs.rfl (.c zS (box_eq (y := l || (sideV s n at_ facts).2.2) (by rw [hs]; simp)) LSub.nil)) ?_
  refine K_ret2' (rv := .cell 6 91) (rv' := .tmp 7) rfl () (Sel.take (Sel.skip Sel.nil)) (.cell ty91 Sr (Sel.take (Sel.none _)) Sr) (.tmp Sr) (Frz.sub Sr) (Frz.sub Sr) (Sub.of_eq ?_)
  rw [hs]; rfl
 try simp only [NF] at hc1
 refine Jr (Js rfl (step_fieldAddr so105 Sr rfl) (Jl rfl ty3 Sr (Js rfl (step_lss Sr Sr) (Jm rfl ?_))))
 refine Jk rfl Sr rfl (step_fieldAddr so105 Sr rfl) ?_
 refine Jg rfl Sr rfl (fun hw => step_load_ptr ty3 (Sub.w hw)) ?_
 refine Jk rfl Sr rfl (step_load_ptr ty3 Sr) ?_
 refine Jg rfl Sr rfl (fun hw => step_geq (Sub.w hw) (Sub.w hw)) (Js rfl (step_pick_or Sr Sr) (Ja rfl (JL_nil ?_)))
 refine J_cond Sr (fun hc2 => ?_) (fun hc2 => ?_)
 ·
  try simp only [NF] at hc2
  refine Jr (Js rfl (step_build (x := (zValue : GValue)) (zs := [[Value.int .i64 0], [Value.int .i64 0], [Value.string ⟨#[]⟩]]) so91 (fun w => zeroValue91 w) trivial ⟨fun _ => rfl, fun _ => rfl, fun _ => rfl, trivial⟩) ?_)
  refine Ju (step_store_box ty91 Sr Sr zS) fun _ => ?_
  refine Ja rfl (JL_nil (J_ret ?_))
  have hs : sideV s n at_ facts = (zValue, false, false) := by unfold sideV; rw [if_neg hc1, if_pos hc2]
  refine K_lsub (LSub.cons zS SPs.rfl (.c zS (box_eq (y := l || (sideV s n at_ facts).2.2) (by rw [hs]; simp)) LSub.nil)) ?_
  refine K_ret2' (rv := .cell 6 91) (rv' := .tmp 7) rfl () (Sel.take (Sel.skip Sel.nil)) (.cell ty91 Sr (Sel.take (Sel.none _)) Sr) (.tmp Sr) (Frz.sub Sr) (Frz.sub Sr) (Sub.of_eq ?_)
  rw [hs]; rfl
 try simp only [NF] at hc2
 refine Jr (Js rfl (step_fieldAddr so105 Sr rfl) (Jl rfl ty3 Sr (Jl rfl ty33 Sr (Js rfl (step_len_sl underlying33 Sr) (Js rfl (step_geq Sr Sr) ?_)))))
 refine Ja rfl (JL_nil ?_)
 refine J_cond Sr (fun hc3 => ?_) (fun hc3 => ?_)
 ·
  try simp only [NF] at hc3
  refine Jr ?_
  refine Ju (step_store_box ty4 Sr Sr zS) fun _ => ?_
  refine JL_nil (Jr (Js rfl (step_build (x := (zValue : GValue)) (zs := [[Value.int .i64 0], [Value.int .i64 0], [Value.string ⟨#[]⟩]]) so91 (fun w => zeroValue91 w) trivial ⟨fun _ => rfl, fun _ => rfl, fun _ => rfl, trivial⟩) ?_))
  refine Ju (step_store_box ty91 Sr Sr zS) fun _ => ?_
  refine Ja rfl (JL_nil (J_ret ?_))
  have hs : sideV s n at_ facts = (zValue, true, true) := by unfold sideV; rw [if_neg hc1, if_neg zG, if_pos hc3]
  refine K_lsub (LSub.cons zS SPs.rfl (.c zS (box_eq (y := l || (sideV s n at_ facts).2.2) (by rw [hs]; simp)) LSub.nil)) ?_
  refine K_ret2' (rv := .cell 6 91) (rv' := .tmp 7) rfl () (Sel.take (Sel.skip Sel.nil)) (.cell ty91 Sr (Sel.take (Sel.none _)) Sr) (.tmp Sr) (Frz.sub Sr) (Frz.sub Sr) (Sub.of_eq ?_)
  rw [hs]; rfl
 try simp only [NF] at hc3
 refine J_skip (J_seq ?_)
 have hv0 : ¬ s.Var < 0 := by omega
 have hv1 : s.Var.toNat < at_.length := by omega
 obtain ⟨hf0, hf1⟩ := hb _ (nth_mem hv1)
 refine J_draw [⟨0, [4], true⟩, ⟨1, [2], true⟩, ⟨2, [5], true⟩, ⟨3, [35], true⟩, ⟨4, [34, 36], true⟩, ⟨5, [37], true⟩, ⟨6, [33, 38], true⟩, ⟨7, [39], true⟩, ⟨8, [40], true⟩, ⟨9, [41], true⟩] rfl (by kernel_rfl) ?_
 refine Mf rfl rfl (step_load_ptr ty41 Sr) (Mf rfl rfl (step_load_ptr ty33 Sr) (Mf rfl rfl (step_fieldAddr so105 Sr rfl) (Mf rfl rfl (step_load_ptr ty3 Sr) ?_)))
 refine Mf rfl rfl (step_indexAddr_sl (i := s.Var.toNat) underlying33 ty3 Sr Sr (by show s.Var = _; omega) (gb (by first | assumption | omega))) ?_
 refine Mf rfl rfl (step_load_ptr ty3 Sr) ?_
 refine Mf rfl rfl (step_indexAddr_sl (i := (nth at_ s.Var.toNat).toNat) underlying41 ty35 Sr Sr (by show nth at_ s.Var.toNat = _; omega) (gb (by first | assumption | omega))) ?_
 refine Mf rfl rfl (step_fieldAddr so35 Sr rfl) (Mf rfl rfl (step_load_ptr ty32 Sr) (Mf rfl rfl (step_assign Sr) (JM_nil (J_seq (Jr ?_)))))
 refine Js rfl (step_fieldAddr so105 Sr rfl) (Jl rfl ty3 Sr (Js rfl (step_lss Sr Sr) (Jm rfl ?_)))
 refine Jk rfl Sr rfl (step_fieldAddr so105 Sr rfl) ?_
 refine Jg rfl Sr rfl (fun hw => step_load_ptr ty3 (Sub.w hw)) ?_
 refine Jk rfl Sr rfl (step_move Sr) ?_
 refine Jg rfl Sr rfl (fun hw => step_len_sl underlying32 (Sub.w hw)) (Jg rfl Sr rfl (fun hw => step_geq (Sub.w hw) (Sub.w hw)) (Js rfl (step_pick_or Sr Sr) (JL_nil ?_)))
 refine J_cond Sr (fun hc4 => ?_) (fun hc4 => ?_)
 ·
  try simp only [NF] at hc4
  refine Jr (Js rfl (step_build (x := (zValue : GValue)) (zs := [[Value.int .i64 0], [Value.int .i64 0], [Value.string ⟨#[]⟩]]) so91 (fun w => zeroValue91 w) trivial ⟨fun _ => rfl, fun _ => rfl, fun _ => rfl, trivial⟩) ?_)
  refine Ju (step_store_box ty91 Sr Sr zS) fun _ => ?_
  refine Ja rfl (JL_nil (J_ret ?_))
  have hs : sideV s n at_ facts = (zValue, false, false) := by unfold sideV; rw [if_neg hc1, if_neg zG, if_neg zG, if_pos hc4]
  refine K_lsub (LSub.cons zS SPs.rfl (.c zS (box_eq (y := l || (sideV s n at_ facts).2.2) (by rw [hs]; simp)) LSub.nil)) ?_
  refine K_ret2' (rv := .cell 6 91) (rv' := .tmp 7) rfl () (Sel.take (Sel.skip Sel.nil)) (.cell ty91 Sr (Sel.take (Sel.none _)) Sr) (.tmp Sr) (Frz.sub Sr) (Frz.sub Sr) (Sub.of_eq ?_)
  rw [hs]; rfl
 try simp only [NF] at hc4
 have hc0 : ¬ s.Col < 0 := by omega
 have hc2 : s.Col.toNat < (nth facts (nth at_ s.Var.toNat).toNat).Row.length := by omega
 refine J_skip (Jr (Jm rfl (Js rfl (step_fieldAddr so105 Sr rfl) (Jl rfl ty3 Sr ?_))))
 refine Js rfl (step_indexAddr_sl (i := s.Col.toNat) underlying32 ty91 Sr Sr (by show s.Col = _; omega) (gb zG)) ?_
 refine Jl rfl ty91 Sr ?_
 refine Ju (step_store_box ty91 Sr Sr zS) fun _ => ?_
 refine Ja rfl (JL_nil (J_ret ?_))
 have hs : sideV s n at_ facts = (nth (nth facts (nth at_ s.Var.toNat).toNat).Row s.Col.toNat, true, false) := by unfold sideV; rw [if_neg hc1, if_neg zG, if_neg zG, if_neg zG]
 refine K_lsub (LSub.cons zS SPs.rfl (.c zS (box_eq (y := l || (sideV s n at_ facts).2.2) (by rw [hs]; simp)) LSub.nil)) ?_
 refine K_ret2' (rv := .cell 6 91) (rv' := .tmp 7) rfl () (Sel.take (Sel.skip Sel.nil)) (.cell ty91 Sr (Sel.take (Sel.none _)) Sr) (.tmp Sr) (Frz.sub Sr) (Frz.sub Sr) (Sub.of_eq ?_)
 rw [hs]; rfl
theorem holds_spec (t : GTest) (n : Int) (facts : List GFact) (at_ : List Int) (hb : InB at_ facts.length) : Fun1 prog 102 [rTest.ty t, tV (.int .i64 n), tSl rFact facts, tSl rInt at_] (tV (.bool (holdsV t n facts at_))) := by
 refine Spec.enter func102 rfl rfl fun h0 w0 fr0 => ?_
 refine Jr (Js rfl (step_box (R := rTest) Sr) (Js rfl (step_box (R := rInt) Sr) (Js rfl (step_box (R := (rSl rFact)) Sr) (Js rfl (step_box (R := (rSl rInt)) Sr) (Ja rfl ?_)))))
 refine JL_nil (Jr ?_)
 refine Jx rfl (step_alloc (fun w => zeroValue4 w) zr4) fun v9 => ?_
 refine Ju (step_store_box ty4 Sr Sr zS) fun _ => ?_
 refine JL_nil (Jr (Js rfl (step_makeFunc (As := [_, _, _, _]) ⟨Sr, Sr, Sr, Sr, trivial⟩) (Ja rfl (JL_nil (Jr ?_)))))
 refine Jm rfl (Js rfl (step_fieldAddr so107 Sr rfl) (Jl rfl ty105 Sr ?_))
 refine Jx rfl (step_callv (aT := [_]) Sr zS (holds1_spec _ _ _ _ _ _ hb) ⟨Sr, trivial⟩ call125) fun v20 => ?_
 refine Jm rfl (Js rfl (step_extract Sr rfl) (Js rfl (step_extract Sr rfl) ?_))
 refine Jx rfl (step_alloc (fun w => zeroValue91 w) zr91) fun v11 => ?_
 refine Ju (step_store_box ty91 Sr Sr zS) fun _ => ?_
 refine JL_freeze (t := 11) (Sel.take (Sel.none _)) Frz.box ?_
 refine Ja rfl (JL_nil (Jr (Jm rfl (Js rfl (step_fieldAddr so107 Sr rfl) (Jl rfl ty105 Sr ?_)))))
 refine Jx rfl (step_callv (aT := [_]) Sr zS (holds1_spec _ _ _ _ _ _ hb) ⟨Sr, trivial⟩ call125) fun v27 => ?_
 refine Jm rfl (Js rfl (step_extract Sr rfl) (Js rfl (step_extract Sr rfl) ?_))
 refine Jx rfl (step_alloc (fun w => zeroValue91 w) zr91) fun v13 => ?_
 refine Ju (step_store_box ty91 Sr Sr zS) fun _ => ?_
 refine JL_freeze (t := 13) (Sel.take (Sel.none _)) Frz.box ?_
 refine Ja rfl (JL_nil (Jr (Jm rfl (Jm rfl ?_))))
 refine Jk rfl Sr rfl (step_move Sr) ?_
 refine Js rfl (step_pick_and Sr Sr) (Jm rfl ?_)
 refine Jk rfl Sr rfl (step_load_box ty4 Sr zS) ?_
 refine Jg rfl Sr rfl (fun hw => step_move (Sub.w hw)) ?_
 refine Ji rfl Sr rfl (step_load_ptr ty91 Sr) ?_
 refine Ji rfl Sr rfl (step_fieldAddr so107 Sr rfl) ?_
 refine Jh rfl Sr rfl (fun hw => step_load_ptr ty3 (Sub.w hw)) ?_
 refine Ji rfl Sr rfl (step_load_ptr ty91 Sr) ?_
 refine Ji rfl Sr rfl (step_fieldAddr so107 Sr rfl) ?_
 refine Jh rfl Sr rfl (fun hw => step_load_ptr ty3 (Sub.w hw)) (Jh rfl Sr rfl (fun hw => step_call0 (Test_spec _ _ _ _) ⟨(Sub.w hw), (Sub.w hw), (Sub.w hw), (Sub.w hw), trivial⟩ call88) (Jg rfl Sr rfl (fun hw => step_pick_or (Sub.w hw) (Sub.ww hw)) (Js rfl (step_pick_and Sr Sr) (Ja rfl (JL_nil ?_)))))
 refine J_ret ?_
 refine K_drop (Sel.all _) ?_
 refine K_ret1 (t := 8) rfl () ?_
 refine Sub.bool ?_
 simp [holdsV, Bool.and_assoc]
open Go Go.Proofs Go.Proofs.Tryz
theorem method_rep (b off : Nat) (w : World) : (method (prog.types.size + Made.depth) 246 (.pointer (some ⟨b, off, none⟩)) "Replace").run prog w = .ok (225, .pointer (some ⟨b, off, none⟩)) w := by
  kernel_rfl
theorem step_makeFirst {C : Cx} {E : Env} {L : List SP} {d : Option Nat} {ty : Nat} {pos : String} {af : Array Edge} {g : Option (Nat × Bool)} {f b : Nat} {x : Operand} (hx : Sub (opTy E x) (tAt b 0)) :
    Step1 C ⟨d, .makeFunc (.func f) #[x] #[], ty, pos, af, g⟩ E L (tV (.func (.func f) #[.pointer (some ⟨b, 0, none⟩)] #[])) :=
  Step.of_same (by intro c h; cases h) fun a w h hw fr => by
    have hv : a.eval x = .pointer (some ⟨b, 0, none⟩) := fr.get hx
    exact ⟨_, by simp [execOp, Instr.makeFunc, hv], rfl⟩
theorem Itoa_spec (n : Int) (h : -9223372036854775808 ≤ n ∧ n ≤ 9223372036854775807) : Fun1 prog 116 [tV (.int .i64 n)] (tV (.string (itoaB n))) := itoa_spec Tryz.itoaL (by kernel_rfl) n h.1 h.2
theorem itoaB_size {n : Int} (h : -9223372036854775808 ≤ n ∧ n ≤ 9223372036854775807) : (itoaB n).size ≤ 30 := by
  have hd : ∀ (k u : Nat), u < 10 ^ (k + 1) → Lib.nDigits u ≤ k + 1 := by
    intro k
    induction k with
    | zero => intro u hu; rw [Lib.nDigits_small (by simpa using hu)]; exact Nat.le_refl _
    | succ k ih =>
      intro u hu
      by_cases h10 : u < 10
      · rw [Lib.nDigits_small h10]; omega
      · rw [Lib.nDigits_big h10]
        have := ih (u / 10) (by rw [Nat.pow_succ] at hu; exact Nat.div_lt_of_lt_mul (by rw [Nat.mul_comm]; exact hu))
        omega
  have h2 : (itoaB n).size = (Lib.itoa n).length := by show (List.toArray _).size = _; simp
  rw [h2]
  unfold Lib.itoa
  split
  · rw [List.length_cons, Lib.decDigits_length]
    have := hd 19 n.natAbs (by have : (10 : Nat) ^ (19 + 1) = 100000000000000000000 := by decide
                               omega)
    omega
  · rw [Lib.decDigits_length]
    have := hd 19 n.toNat (by have : (10 : Nat) ^ (19 + 1) = 100000000000000000000 := by decide
                              omega)
    omega
def boolB (b : Bool) : ByteArray := if b then ⟨#[116, 114, 117, 101]⟩ else ⟨#[102, 97, 108, 115, 101]⟩
def nullB : ByteArray := ⟨#[110, 117, 108, 108]⟩
def atB : ByteArray := ⟨#[64]⟩
def quoteB (s : ByteArray) : ByteArray := (⟨#[34]⟩ : ByteArray) ++ ofBytes (escL (bytesOf s)) ++ (⟨#[34]⟩ : ByteArray)
theorem ofBytes_size (cur : List Int) : (ofBytes cur).size = cur.length := by show (List.toArray _).size = _; simp
theorem valid_txt {v : GValue} (h : validV v = true) (hk : v.Kind = 1) : v.Text.size ≤ 200 := by
  unfold validV at h
  simp [hk] at h
  have := h.1; omega
/-- The text of a value. -/
def textV (v : GValue) : ByteArray :=
  if validV v = false then ⟨#[]⟩ else if v.Kind = 1 then quoteB v.Text else if v.Kind = 2 then itoaB v.N else if v.Kind = 3 then atB ++ itoaB v.N else if v.Kind = 4 then boolB (decide (v.N = 1)) else nullB
theorem quote_size (s : ByteArray) : (quoteB s).size ≤ 4 * s.size + 2 := by
  unfold quoteB
  rw [ByteArray.size_append, ByteArray.size_append, ofBytes_size, escL_length, bytesOf_len]
  have h1 := extraL_le (bytesOf s)
  rw [bytesOf_len] at h1
  have h2 : (⟨#[34]⟩ : ByteArray).size = 1 := rfl
  omega
theorem textV_size (v : GValue) : (textV v).size ≤ 1000 := by
  unfold textV
  split
  · exact Nat.zero_le _
  · rename_i hv
    have hv : validV v = true := by simpa using hv
    have hn := valid_N hv
    have := itoaB_size (n := v.N) (by omega)
    split
    · rename_i hk
      have h1 := valid_txt hv hk
      have h2 := quote_size v.Text
      omega
    · repeat' split
      · omega
      · rw [ByteArray.size_append]; have : atB.size = 1 := rfl; omega
      · unfold boolB; split <;> decide
      · decide
theorem Replace_spec (b : Nat) (s : ByteArray) (hs : s.size ≤ 1000000) : Spec (X := Unit) prog 115 [tAt b 0, tV (.string s)] ([box b 213 (rStruct fsRpl) (once 0 0, false, six)]) (fun _ => tV (.string (ofBytes (escL (bytesOf s))))) (fun _ => [box b 213 (rStruct fsRpl) (once 1 0, true, [])]) := by
 refine Spec.enter func115 rfl rfl fun h0 w0 fr0 => ?_
 refine Jr (Ja rfl (JL_nil (Jr (Jm rfl (Js rfl (step_nilCheck Sr) ?_)))))
 refine Js rfl (step_fieldAddr_own so213 Sr rfl) (Jm rfl (Js rfl (step_makeFirst Sr) ?_))
 refine Jx rfl (step_call zS (Do_spec b (buildOnce_spec b)) ⟨Sr, Sr, trivial⟩ call134) fun v10 => ?_
 refine JL_nil (Jr (Jm rfl (Js rfl (step_nilCheck Sr) (Js rfl (step_fieldAddr_own so213 Sr rfl) ?_))))
 refine Js rfl (step_load_fld ty211 Sr rfl zS) ?_
 refine Jm rfl ?_
 refine Jx rfl (step_invoke (A := tPtr (rStruct fsB2) (R3, T3)) Sr (by rintro h u w ⟨b, off, cs, rfl, _⟩; exact method_rep b off w) (Sel.none _) (BsrReplace_spec s hs) ⟨Sr, trivial⟩ call225) fun v16 => ?_
 refine Ja rfl (JL_nil (J_ret ?_))
 refine K_ret1 (t := 4) rfl () Sr
theorem fmtB_spec (b : Bool) : Fun1 prog 137 [tV (.bool b)] (tV (.string (boolB b))) := by
 refine Spec.enter func137 rfl rfl fun h0 w0 fr0 => ?_
 refine Jr (Ja rfl (JL_nil (J_seq (Jr (Jm rfl ?_)))))
 refine JL_nil ?_
 refine J_cond Sr (fun h3 => ?_) (fun h3 => ?_)
 ·
  try simp only [NF] at h3
  refine Jr (Ja rfl (JL_nil (J_ret ?_)))
  refine K_retv (rv := .tmp 2) rfl () (.tmp Sr) (Sub.v (congrArg Value.string ?_))
  simp [boolB, h3]
 try simp only [NF] at h3
 refine J_skip (Jr (Ja rfl (JL_nil (J_ret ?_))))
 refine K_retv (rv := .tmp 2) rfl () (.tmp Sr) (Sub.v (congrArg Value.string ?_))
 simp [boolB, h3]
theorem FormatBool_spec (b : Bool) : Fun1 prog 117 [tV (.bool b)] (tV (.string (boolB b))) := by
 refine Spec.enter func117 rfl rfl fun h0 w0 fr0 => ?_
 refine Jr (Ja rfl (JL_nil (Jr (Jm rfl (Js rfl (step_call0 (fmtB_spec _) ⟨Sr, trivial⟩ call137) ?_)))))
 refine Ja rfl (JL_nil (J_ret ?_))
 exact K_ret1 (t := 2) rfl () Sr
theorem Text_spec (v : GValue) : Fun1 prog 90 [rValue.ty v] (tV (.string (textV v))) := by
 refine Spec.enter func90 rfl rfl fun h0 w0 fr0 => ?_
 refine Jr (Js rfl (step_box (R := rValue) Sr) (Ja rfl (JL_nil (J_seq (Jr ?_)))))
 refine Jl rfl ty91 Sr (Js rfl (step_call0 (Valid_spec _) ⟨Sr, trivial⟩ call109) (Js rfl (step_not Sr) (JL_nil ?_)))
 refine J_cond Sr (fun h5 => ?_) (fun h5 => ?_)
 ·
  try simp only [NF] at h5
  refine Jr (Ja rfl (JL_nil (J_ret ?_)))
  refine K_ret1' (rv := .tmp 2) rfl () (Sel.all _) (.tmp Sr) (Frz.sub (Sub.v (congrArg Value.string ?_)))
  have : validV v = false := by simpa using h5
  rw [textV, if_pos this]
 try simp only [NF] at h5
 have hvv : validV v = true := by simpa using h5
 have hn := valid_N hvv
 have hNr : -9223372036854775808 ≤ v.N ∧ v.N ≤ 9223372036854775807 := by omega
 have his := itoaB_size hNr
 refine J_skip (J_seq (Jr (Js rfl (step_fieldAddr so91 Sr rfl) (Jl rfl ty3 Sr (JL_nil ?_)))))
 refine J_block (Jr (Js rfl (step_eql Sr Sr) (Ja rfl (JL_nil ?_))))
 refine J_cond Sr (fun h8 => ?_) (fun h8 => ?_)
 ·
  try simp only [NF] at h8
  have hts : v.Text.size ≤ 1000000 := by have := valid_txt hvv h8; omega
  have hqs := quote_size v.Text
  have hq1 : (⟨#[34]⟩ : ByteArray).size = 1 := rfl
  have hes : (ofBytes (escL (bytesOf v.Text))).size ≤ 4 * v.Text.size := by unfold quoteB at hqs; rw [ByteArray.size_append, ByteArray.size_append] at hqs; omega
  refine J_seq ?_
  refine J_draw [⟨0, [], true⟩, ⟨2, [1], true⟩, ⟨3, [12], true⟩, ⟨1, [10], false⟩, ⟨4, [11, 13], false⟩, ⟨5, [14], true⟩, ⟨6, [15], true⟩, ⟨7, [16], true⟩] rfl (by kernel_rfl) ?_
  refine Mf rfl rfl (step_literal (ys := [_, _, _, _, _, _]) underlying198 el9 ⟨rfl, Sr, rfl, Sr, rfl, Sr, rfl, Sr, rfl, Sr, rfl, Sr, trivial⟩ rfl (by decide)) ?_
  refine Mf rfl rfl (step_fieldAddr so91 Sr rfl) (Mf rfl rfl (step_load_ptr ty9 Sr) ?_)
  refine JM_stepX rfl rfl rfl rfl (step_call (Sel.none _) (NewReplacer_spec six (by decide) (by decide)) ⟨Sr, trivial⟩ call114) fun b11 => ?_
  refine JM_stepX rfl rfl rfl rfl (step_call zS (Replace_spec b11 v.Text hts) ⟨Sr, Sr, trivial⟩ call115) fun v14 => ?_
  refine Mf rfl rfl (step_add_str Sr Sr zG) ?_
  refine Mf rfl rfl (step_add_str Sr Sr (by rw [ByteArray.size_append]; omega)) ?_
  refine Mf rfl rfl (step_assign Sr) (JM_nil (J_ret ?_))
  refine K_ret1' (rv := .tmp 2) rfl () (Sel.all _) (.tmp Sr) (Frz.sub (Sub.v (congrArg Value.string ?_)))
  rw [textV, if_neg (by rw [hvv]; decide), if_pos h8]; rfl
 try simp only [NF] at h8
 refine Jr (Js rfl (step_eql Sr Sr) (Ja rfl (JL_nil ?_)))
 refine J_cond Sr (fun h17 => ?_) (fun h17 => ?_)
 ·
  try simp only [NF] at h17
  refine Jr (Js rfl (step_fieldAddr so91 Sr rfl) (Jl rfl ty3 Sr (Js rfl (step_call0 (Itoa_spec v.N hNr) ⟨Sr, trivial⟩ call116) (Ja rfl (JL_nil ?_)))))
  refine J_ret ?_
  refine K_ret1' (rv := .tmp 2) rfl () (Sel.all _) (.tmp Sr) (Frz.sub (Sub.v (congrArg Value.string ?_)))
  first | (simp [textV, *]; done) | (simp [textV, *]; rfl)
 try simp only [NF] at h17
 refine Jr (Js rfl (step_eql Sr Sr) (Ja rfl (JL_nil ?_)))
 refine J_cond Sr (fun h22 => ?_) (fun h22 => ?_)
 ·
  try simp only [NF] at h22
  refine Jr (Js rfl (step_fieldAddr so91 Sr rfl) (Jl rfl ty3 Sr (Js rfl (step_call0 (Itoa_spec v.N hNr) ⟨Sr, trivial⟩ call116) ?_)))
  refine Js rfl (step_add_str Sr Sr (by have : (⟨#[64]⟩ : ByteArray).size = 1 := rfl; omega)) ?_
  refine Ja rfl (JL_nil (J_ret ?_))
  refine K_ret1' (rv := .tmp 2) rfl () (Sel.all _) (.tmp Sr) (Frz.sub (Sub.v (congrArg Value.string ?_)))
  first | (simp [textV, *]; done) | (simp [textV, *]; rfl)
 try simp only [NF] at h22
 refine Jr (Js rfl (step_eql Sr Sr) (Ja rfl (JL_nil ?_)))
 refine J_cond Sr (fun h28 => ?_) (fun h28 => ?_)
 ·
  try simp only [NF] at h28
  refine Jr (Js rfl (step_fieldAddr so91 Sr rfl) (Jl rfl ty3 Sr (Js rfl (step_eql Sr Sr) (Js rfl (step_call0 (FormatBool_spec _) ⟨Sr, trivial⟩ call117) (Ja rfl ?_)))))
  refine JL_nil (J_ret ?_)
  refine K_ret1' (rv := .tmp 2) rfl () (Sel.all _) (.tmp Sr) (Frz.sub (Sub.v (congrArg Value.string ?_)))
  first | (simp [textV, *]; done) | (simp [textV, *]; rfl)
 try simp only [NF] at h28
 refine J_skip (Jr (Ja rfl (JL_nil (J_ret ?_))))
 refine K_ret1' (rv := .tmp 2) rfl () (Sel.all _) (.tmp Sr) (Frz.sub (Sub.v (congrArg Value.string ?_)))
 first | (simp [textV, *]; done) | (simp [textV, *]; rfl)
open Go Go.Proofs Go.Proofs.Tryz
theorem ty148V : TyOf prog 148 rV := ⟨fun w => isAgg148 w, fun w => sizeOf148 w⟩
abbrev fsBld : List (SF (Value × Value)) := [⟨Value, 148, rV, Prod.fst⟩, ⟨Value, 149, rV, Prod.snd⟩]
theorem ty151 : TyOf prog 151 (rStruct fsBld) := ⟨fun w => isAgg151 w, fun w => sizeOf151 w⟩
theorem so151 : StructOf prog 151 fsBld := ⟨⟨_, underlying151, ⟨rfl, rfl, ty148V, by decide, ⟨rfl, rfl, ty149V, by decide, trivial⟩⟩⟩, ty151⟩
theorem zr151 : ∀ h, ((rStruct fsBld).ty (.pointer none, .slice none 0 0)).p h (.agg #[.pointer none, .slice none 0 0]) := fun h =>
  ⟨[.pointer none, .slice none 0 0], ⟨[.pointer none], [.slice none 0 0], rfl, ⟨rfl, rfl⟩, ⟨[.slice none 0 0], [], rfl, ⟨rfl, rfl⟩, rfl⟩⟩, rfl⟩
set_option maxRecDepth 100000 in
set_option maxHeartbeats 1600000 in
theorem cc_used (b : Nat) (w : World) (h0 : w.cell? ⟨b, 0, none⟩ = some (.pointer (some ⟨b, 0, none⟩))) :
    Calls prog 113 #[.pointer (some ⟨b, 0, none⟩)] w fun e w' => e = .returned (.tuple #[]) ∧ w' = w := by
  have hne : ∀ (a : Addr) (w : World), (binOp .neq 148 (.pointer (some a)) (.pointer (some a))).run prog w = .ok (.bool false) w := fun a w => by
    obtain ⟨j, hj, _⟩ : ∃ j, prog.info? 151 = some j ∧ j.size = 2 := by
      have : (prog.info? 151).map (·.size) = some 2 := by kernel_rfl
      exact Option.map_eq_some_iff.1 this
    exact Lib.run_neq_ptr_same w a underlying148 hj
  go_enter func113, Tryz.ntmps113
  go_wp2
  go_end0
  exact ⟨rfl, rfl⟩
set_option maxRecDepth 100000 in
set_option maxHeartbeats 1600000 in
theorem cc_fresh (b : Nat) (w : World) (h0 : w.cell? ⟨b, 0, none⟩ = some (.pointer none)) (hsh : w.shape? b = some (151, 2)) (hfz : w.frozen? ⟨b, 0, none⟩ = false) :
    Calls prog 113 #[.pointer (some ⟨b, 0, none⟩)] w fun e w' => e = .returned (.tuple #[]) ∧ w' = w.setCell ⟨b, 0, none⟩ (.pointer (some ⟨b, 0, none⟩)) := by
  obtain ⟨j, hj, hjs⟩ : ∃ j, prog.info? 151 = some j ∧ j.size = 2 := by
    have : (prog.info? 151).map (·.size) = some 2 := by kernel_rfl
    exact Option.map_eq_some_iff.1 this
  have hlies : liesAt prog prog.depth 151 (2 / prog.cellsOf 151) 0 151 1 = true := by kernel_rfl
  go_enter func113, Tryz.ntmps113
  go_wp2
  rw [Lib.run_to_unsafe w ⟨b, 0, none⟩ underlying148 underlying196 hj (by rw [hjs]; decide) hsh (Nat.zero_lt_succ 1)]
  simp only [Result.andThen]
  rw [Oper.upon_value]
  go_wp2
  rw [run_callFunc_extern func133 (by kernel_rfl) (by kernel_rfl) (by kernel_rfl) (e := Extern.AbiNoEscape.same) (by kernel_rfl)]
  rw [Lib.run_noEscape]
  simp only [Result.andThen]
  rw [Oper.upon_value]
  go_wp2
  rw [Lib.run_from_unsafe w ⟨b, 0, none⟩ underlying196 underlying148 hj hsh hlies]
  simp only [Result.andThen]
  rw [Oper.upon_value]
  go_wp2
  go_end0
  exact ⟨rfl, rfl⟩
abbrev bld (b : Nat) (a v : Value) : SP := box b 151 (rStruct fsBld) (a, v)
def FreshB (b : Nat) (a : Value) : Prop := a = .pointer none ∨ a = .pointer (some ⟨b, 0, none⟩)
theorem bld_cells {b : Nat} {a v : Value} {h m : PH} (p : (bld b a v).p h m) : m = PH.one b (.cells #[a, v] 151 (0, 0)) ∧ v.oneCell' = true := by
  obtain ⟨cs, r, rfl⟩ := p
  obtain ⟨c0, _, rfl, r0, c1, _, rfl, r1, rz⟩ := r
  have r0 : c0 = [a] ∧ a.oneCell' = true := r0
  have r1 : c1 = [v] ∧ v.oneCell' = true := r1
  have rz : _ = [] := rz
  obtain ⟨rfl, _⟩ := r0
  obtain ⟨rfl, hv⟩ := r1
  subst rz
  exact ⟨rfl, hv⟩
theorem cells_bld {b : Nat} {a v : Value} {h : PH} (ha : a.oneCell' = true) (hv : v.oneCell' = true) : (bld b a v).p h (PH.one b (.cells #[a, v] 151 (0, 0))) :=
  ⟨[a, v], ⟨[a], [v], rfl, ⟨rfl, ha⟩, ⟨[v], [], rfl, ⟨rfl, hv⟩, rfl⟩⟩, rfl⟩
theorem copyCheck_spec (b : Nat) (a v : Value) (hb : FreshB b a) : Spec (X := Unit) prog 113 [tAt b 0] [bld b a v] (fun _ => tTup []) (fun _ => [bld b (.pointer (some ⟨b, 0, none⟩)) v]) := by
  intro vs h mm r w ha sp st
  match vs, ha with
  | [u1], ⟨a1, _⟩ =>
  have a1 : u1 = .pointer (some ⟨b, 0, none⟩) := a1
  subst a1
  obtain ⟨m1, m2, d12, rfl, hbb, e2⟩ := st
  have e2 : m2 = PH.emp := e2
  subst e2
  obtain ⟨rfl, hv⟩ := bld_cells hbb
  have hw := sp.heap_own
  have hone : ∀ w', (PH.one b (.cells #[.pointer (some ⟨b, 0, none⟩), v] 151 (0, 0))).join PH.emp = PH.one b (.cells #[.pointer (some ⟨b, 0, none⟩), v] 151 (0, 0)) ∧ (w' : World) = w' := fun w' => ⟨PH.join_emp _, rfl⟩
  rcases hb with rfl | rfl
  · refine (cc_fresh b w (by simp [World.cell?, hw]) (by simp [World.shape?, hw]) (by simp [World.frozen?, hw])).mono ?_
    rintro e w' ⟨rfl, rfl⟩
    refine ⟨(), _, h, (PH.one b (.cells #[.pointer (some ⟨b, 0, none⟩), v] 151 (0, 0))).join PH.emp, rfl, HL.same (by exact ⟨rfl, rfl, rfl⟩), Sep.write d12 sp (fun b' hne _ => ?_) ?_, ⟨_, _, PH.one_disj_iff.2 (PH.one_disj_iff.1 d12), rfl, cells_bld rfl hv, rfl⟩, ⟨[], rfl, trivial⟩⟩
    · exact RowKit.Below.heap_setCell _ _ _ _ hne
    · simp only [World.setCell]
      rw [Array.getElem?_modify, if_pos rfl, hw]
      rfl
  · refine (cc_used b w (by simp [World.cell?, hw])).mono ?_
    rintro e w' ⟨rfl, rfl⟩
    exact ⟨(), _, h, _, rfl, HL.refl, sp, ⟨_, _, d12, rfl, hbb, rfl⟩, ⟨[], rfl, trivial⟩⟩
open Go Go.Proofs Go.Proofs.Tryz
theorem bytesOf_append (a b : ByteArray) : bytesOf (a ++ b) = bytesOf a ++ bytesOf b := by
  unfold bytesOf
  rw [ByteArray.data_append]
  simp
section
variable {C : Cx} {E : Env} {L : List SP} {d : Option Nat} {ty : Nat} {pos : String} {af : Array Edge} {g : Option (Nat × Bool)}
theorem step_unsafeString {T U e : Nat} {x y : Operand} {v : Value} {s : ByteArray} {S : List SP} (hu : C.P.underlying T = some (.pointer e)) (he : C.P.cellsOf e = 1) (he5 : e = 5)
    (hx : Sub (opTy E x) (tV (qAt v))) (hy : Sub (opTy E y) (tV (.int .i64 (bytesOf s).length))) (sel : Sel L [own 5 rU8 v (bytesOf s)] S) (hne : s.size ≠ 0) (hsz : s.size ≤ 9223372036854775807) :
    Step C ⟨d, .call { callee := .builtin .unsafeString, args := #[x, y], argTypes := #[T, U] }, ty, pos, af, g⟩ E L (fun _ : Unit => tV (.string s)) (fun _ => S) :=
  Step.of_run (by intro c h; cases h) fun a w h m l sp st fr => by
    have hv : a.eval x = qAt v := fr.get hx
    have hv2 : a.eval y = .int .i64 (bytesOf s).length := fr.get hy
    obtain ⟨m1, m2, d12, rfl, ho, s2⟩ := sel.one.1 st
    have hbl := bytesOf_len s
    rcases ho with ⟨_, q, _⟩ | ⟨b, cap, cur, rfl, rfl, hl, hm, hs, r⟩
    · rw [q] at hbl; simp at hbl; omega
    · have hk : rU8.k = 1 := rfl
      rw [hk, Nat.mul_one] at hs r
      have hb := sp.heap_own
      have hc := relAll_u8.1 r
      have hll : s.data.toList.length = s.size := by simp
      have hcell : ∀ j x, s.data.toList[j]? = some x → w.cell? ((⟨b, 0, none⟩ : Addr).add j) = some (.int .u8 x.toNat) := fun j x hj => by
        rw [addr_add, Nat.zero_add, inw_cells (h := h) hb]
        have hjl : j < (bytesOf s).length := by have := (List.getElem?_eq_some_iff.1 hj).1; omega
        have h1 := congrArg (fun l => l[j]?) hc
        simp only [List.getElem?_take, if_pos hjl, bytesOf, List.map_map, List.getElem?_map, hj, Option.map_some, Function.comp] at h1
        simp at h1
        exact h1.2
      have hr := Lib.run_unsafeString_row (P := C.P) (w := w) T U ty e hu he b cur.size (by simp [World.shape?, hb, he5]) s.data.toList (by intro q; rw [q] at hll; simp at hll; omega) (by omega) (by omega) hcell
      have hst : (⟨s.data.toList.toArray⟩ : ByteArray) = s := by cases s; simp
      rw [hst, hll] at hr
      refine ⟨(), .string s, w.freeze ⟨b, 0, none⟩ s.size, h, m2, ?_, HL.same ?_, ?_, s2, rfl⟩
      · have h2 : a.eval y = .int .i64 (s.size : Int) := by rw [hv2, hbl]
        simp [execOp, resolve, invoke, builtin, hv, h2, hr, qAt]
      · unfold World.freeze
        rw [if_neg hne]
        exact ⟨rfl, rfl, rfl⟩
      · have hoth : ∀ b' : Nat, b' ≠ b → (w.freeze ⟨b, 0, none⟩ s.size).heap[b']? = w.heap[b']? := fun b' hb' => by
          unfold World.freeze
          rw [if_neg hne]
          show (w.heap.modify b _)[b']? = _
          rw [Array.getElem?_modify, if_neg (fun q => hb' q.symm)]
        have hd := PH.disj_join'.1 sp.hm
        have hr2 := PH.disj_join.1 sp.mr
        have ne_of : ∀ {p : PH} {b' : Nat} {o : Obj}, (PH.one b (.cells cur 5 (0, 0))).disj p → p b' = some o → b' ≠ b := fun {p b' o} hdj hp e => by
          subst e
          have := PH.one_disj_iff.1 hdj
          rw [this] at hp; cases hp
        exact ⟨(by first | exact Sep.inv (by assumption) | exact Inv.mono (PH.le_join_left _ _) (Sep.inv (by assumption))), hd.2, sp.hr, hr2.2, fun b' o ho => by rw [hoth b' (ne_of (PH.disj_symm hd.1) ho)]; exact sp.hw b' o ho,
          fun b' o ho => by rw [hoth b' (ne_of d12 ho)]; exact sp.mw b' o (PH.le_join_right d12 _ _ ho), fun b' o ho => by rw [hoth b' (ne_of hr2.1 ho)]; exact sp.rw b' o ho⟩
end
open Go Go.Proofs Go.Proofs.Tryz
section
variable {C : Cx} {E : Env} {L : List SP} {d : Option Nat} {ty : Nat} {pos : String} {af : Array Edge} {g : Option (Nat × Bool)}
theorem K_ownE {α : Type} {k : Act → World → Prop} {e : Nat} {R : Rp α} {v : Value} {xs : List α} {S : List SP} (sel : Sel L [own e R v xs] S) (hne : xs ≠ []) (hk : ∀ g cap, v = .slice (some ⟨g, 0, none⟩) xs.length cap → cap ≠ 0 → K C k E L) : K C k E L :=
  fun a w ⟨n, ds, h, m, l, sp, st, fr⟩ => by
  obtain ⟨m1, m2, d12, em, ho, s2⟩ := sel.one.1 st
  rcases ho with ⟨_, q, _⟩ | ⟨b, cap, cur, e1, _, hl, _⟩
  · exact absurd q hne
  · have hc : cap ≠ 0 := by
      have := List.length_pos_iff.2 hne
      omega
    exact hk b cap e1 hc a w ⟨n, ds, h, m, l, sp, st, fr⟩
theorem step_sliceDataC {T : Nat} {x : Operand} {a : Addr} {n cap : Nat} (hx : Sub (opTy E x) (rV.ty (.slice (some a) n cap))) (hc : cap ≠ 0) :
    Step1 C ⟨d, .call { callee := .builtin .unsafeSliceData, args := #[x], argTypes := #[T] }, ty, pos, af, g⟩ E L (tV (.pointer (some a))) :=
  Step.of_same (by intro c h; cases h) fun ac w h hw f => by
    have hv : ac.eval x = .slice (some a) n cap := (f.get hx).1
    have hr := Lib.run_unsafeSliceData_row (P := C.P) (w := w) #[T] ty a n cap hc
    exact ⟨.pointer (some a), by simp [execOp, resolve, invoke, builtin, hv, hr], rfl⟩
theorem step_lenC {T e : Nat} {x : Operand} {a : Option Addr} {n cap : Nat} (hu : C.P.underlying T = some (.slice e)) (hx : Sub (opTy E x) (rV.ty (.slice a n cap))) :
    Step1 C ⟨d, .call { callee := .builtin .len, args := #[x], argTypes := #[T] }, ty, pos, af, g⟩ E L (tV (.int .i64 n)) :=
  Step.of_same (by intro c h; cases h) fun ac w h hw f => by
    have hv : ac.eval x = .slice a n cap := (f.get hx).1
    exact ⟨.int .i64 n, by simp [execOp, resolve, invoke, builtin, Builtin.len_, hv, run_underlying hu, goInt], rfl⟩
end
theorem WriteString_spec (b : Nat) (a v : Value) (hb : FreshB b a) (s t : ByteArray) (hs : s.size + t.size ≤ 100000000) (ht : 0 < t.size) : Spec (X := Value) prog 89 [tAt b 0, tV (.string t)] ([bld b a v, own 5 rU8 v (bytesOf s)]) (fun v2 => tTup [tV (.int .i64 t.size), tV .nilIface]) (fun v2 => [bld b (.pointer (some ⟨b, 0, none⟩)) v2, own 5 rU8 v2 (bytesOf (s ++ t))]) := by
 refine Spec.enter func89 rfl rfl fun h0 w0 fr0 => ?_
 refine Jr (Ja rfl (Ja rfl (JL_nil (Jr (Jm rfl ?_)))))
 refine Jx rfl (step_call (Sel.take (Sel.none _)) (copyCheck_spec b a v hb) ⟨Sr, trivial⟩ call113) fun v7 => ?_
 refine JL_nil (Jr (Jm rfl (Jm rfl (Js rfl (step_nilCheck Sr) (Js rfl (step_fieldAddr_own so151 Sr rfl) ?_)))))
 refine Js rfl (step_load_fld ty149V Sr rfl zS) ?_
 refine Jm rfl ?_
 refine Jx rfl (step_append_str underlying149 underlying9 el5 Sr Sr (Sel.skip (Sel.take (Sel.none _))) ht (by rw [bytesOf_len]; omega)) fun v14 => ?_
 refine Js rfl (step_nilCheck Sr) (Js rfl (step_fieldAddr_own so151 Sr rfl) ?_)
 refine Ju (step_store_fld (R := rV) (y := ((.pointer (some ⟨b, 0, none⟩), v) : Value × Value)) (y' := ((.pointer (some ⟨b, 0, none⟩), v14) : Value × Value)) ty149V Sr Sr zS ⟨rfl, fun h cs r => r, rfl, by intro g hg; cases hg⟩) fun _ => ?_
 refine JL_nil (Jr (Jm rfl (Js rfl (step_len_str underlying9 Sr) (Ja rfl (Ja rfl ?_)))))
 refine JL_nil (J_ret ?_)
 refine K_lsub (L' := [bld b (.pointer (some ⟨b, 0, none⟩)) v14, own 5 rU8 v14 (bytesOf (s ++ t))]) (.r zS (.c zS (own_eq (bytesOf_append s t).symm) (LSub.nil))) ?_
 refine K_ret2' (rv := .tmp 4) (rv' := .tmp 5) rfl v14 (Sel.none _) (.tmp Sr) (.tmp Sr) (Frz.sub Sr) (Frz.sub Sr) Sr
theorem BString_spec (b : Nat) (a v : Value) (s : ByteArray) (hs : s.size ≠ 0 ∧ s.size ≤ 100000000) : Spec (X := Unit) prog 91 [tAt b 0] ([bld b a v, own 5 rU8 v (bytesOf s)]) (fun _ => tV (.string s)) (fun _ => []) := by
 refine Spec.enter func91 rfl rfl fun h0 w0 fr0 => ?_
 have hbl := bytesOf_len s
 refine Jr (Ja rfl (JL_nil (J_seq ?_)))
 refine K_ownE (Sel.skip (Sel.take (Sel.none _))) (by intro q; rw [q] at hbl; simp at hbl; omega) fun g0 cap hv hc => ?_
 subst hv
 refine K_freeze (t := 0) (Sel.take (Sel.none _)) Frz.box ?_
 refine J_draw [⟨0, [0], true⟩, ⟨1, [3], true⟩, ⟨2, [4], true⟩, ⟨3, [5], true⟩, ⟨4, [6], true⟩, ⟨5, [0], true⟩, ⟨6, [8], true⟩, ⟨7, [9], true⟩, ⟨8, [10], true⟩, ⟨9, [11], true⟩, ⟨10, [7, 12], false⟩, ⟨11, [13], true⟩] rfl (by kernel_rfl) ?_
 refine Mv rfl rfl (Mf rfl rfl (step_nilCheckP Sr) (Mf rfl rfl (step_fieldAddr so151 Sr rfl) (Mf rfl rfl (step_load_ptr ty149V Sr) (Mf rfl rfl (step_sliceDataC Sr hc) (Mv rfl rfl ?_)))))
 refine Mf rfl rfl (step_nilCheckP Sr) (Mf rfl rfl (step_fieldAddr so151 Sr rfl) (Mf rfl rfl (step_load_ptr ty149V Sr) (Mf rfl rfl (step_lenC underlying149 Sr) ?_)))
 refine JM_stepX rfl rfl rfl rfl (step_unsafeString underlying188 (by kernel_rfl) rfl Sr Sr (Sel.take (Sel.none _)) hs.1 zG) fun v13 => ?_
 refine Mf rfl rfl (step_assign Sr) (JM_nil (J_ret ?_))
 refine K_ret1' (rv := .tmp 2) rfl () (Sel.all _) (.tmp Sr) (Frz.sub Sr)
open Go Go.Proofs Go.Proofs.Tryz
section
variable {C : Cx} {E : Env} {L : List SP} {d : Option Nat} {ty : Nat} {pos : String} {af : Array Edge} {g : Option (Nat × Bool)}
theorem step_sliceData0 {T : Nat} {x : Operand} {n cap : Nat} (hx : Sub (opTy E x) (rV.ty (.slice none n cap))) :
    Step1 C ⟨d, .call { callee := .builtin .unsafeSliceData, args := #[x], argTypes := #[T] }, ty, pos, af, g⟩ E L (tV (.pointer none)) :=
  Step.of_same (by intro c h; cases h) fun ac w h hw f => by
    have hv : ac.eval x = .slice none n cap := (f.get hx).1
    have hr := Lib.run_unsafeSliceData_nil (P := C.P) (w := w) #[T] ty n cap
    exact ⟨.pointer none, by simp [execOp, resolve, invoke, builtin, hv, hr], rfl⟩
theorem step_unsafeString0 {T U : Nat} {x y : Operand} (hx : Sub (opTy E x) (tV (.pointer none))) (hy : Sub (opTy E y) (tV (.int .i64 0))) :
    Step1 C ⟨d, .call { callee := .builtin .unsafeString, args := #[x, y], argTypes := #[T, U] }, ty, pos, af, g⟩ E L (tV (.string ⟨#[]⟩)) :=
  Step.of_same (by intro c h; cases h) fun ac w h hw f => by
    have h1 : ac.eval x = .pointer none := f.get hx
    have h2 : ac.eval y = .int .i64 0 := f.get hy
    have hr := Lib.run_unsafeString_none (P := C.P) (w := w) T U ty none
    exact ⟨.string .empty, by simp [execOp, resolve, invoke, builtin, h1, h2, hr], rfl⟩
end
theorem step_arrAddrZ {ro : Option Nat} {N : Nat} {ds : List Deferred} {h0 : PH} {w0 : World} {r : PH} {E : Env} {L : List SP} {d : Option Nat} {ty : Nat} {pos : String} {af : Array Edge} {g : Option (Nat × Bool)} {x y : Operand} {p : Int × Int} {z : Nat} (hz : z < 2) (hx : Sub (opTy E x) (tPtr rA2 p)) (hy : Sub (opTy E y) (tV (.int .i64 (z : Int)))) :
    Step1 ⟨prog, ro, N, ds, h0, w0, r⟩ ⟨d, .indexAddr 111 x y, ty, pos, af, g⟩ E L (tPtr rInt (if z = 0 then p.1 else p.2)) := by
  match z, hz with
  | 0, _ => exact step_arrAddr2 0 hx hy rfl rfl
  | 1, _ => exact step_arrAddr2 1 hx hy rfl rfl
abbrev semiB : ByteArray := ⟨#[59]⟩
abbrev colT (v : GValue) : ByteArray := textV v ++ semiB
def colS (c : Int × Int) (z : Nat) : Int := if z = 0 then c.1 else c.2
def okC (f : GFact) (k : Int) : Bool := (decide (0 ≤ k) && decide (k < (f.Row.length : Int))) && testV (nth f.Row k.toNat) 1 (nth f.Row k.toNat) 0
def txB (f : GFact) (cols : List (Int × Int)) (z : Nat) : Nat → ByteArray
  | 0 => ⟨#[]⟩
  | k + 1 => txB f cols z k ++ (textV (nth f.Row (colS (nth cols k) z).toNat) ++ semiB)
def txOk (f : GFact) (cols : List (Int × Int)) (z : Nat) : Bool := cols.all fun c => okC f (colS c z)
theorem txB_size (f : GFact) (cols : List (Int × Int)) (z : Nat) : ∀ k, (txB f cols z k).size ≤ 1001 * k ∧ k ≤ (txB f cols z k).size
  | 0 => ⟨Nat.le_refl _, Nat.zero_le _⟩
  | k + 1 => by
    have h1 := txB_size f cols z k
    have h2 := textV_size (nth f.Row (colS (nth cols k) z).toNat)
    have h3 : semiB.size = 1 := rfl
    simp only [txB, ByteArray.size_append]
    omega
theorem size0 {s : ByteArray} (h : s.size = 0) : s = ⟨#[]⟩ := by
  cases s with
  | mk d => congr 1; exact Array.eq_empty_of_size_eq_zero h
theorem BString0_spec (b : Nat) (a : Value) : Spec (X := Unit) prog 91 [tAt b 0] ([bld b a (.slice none 0 0), own 5 rU8 (.slice none 0 0) (bytesOf ⟨#[]⟩)]) (fun _ => tV (.string ⟨#[]⟩)) (fun _ => []) := by
 refine Spec.enter func91 rfl rfl fun h0 w0 fr0 => ?_
 refine Jr (Ja rfl (JL_nil (J_seq ?_)))
 refine K_freeze (t := 0) (Sel.take (Sel.none _)) Frz.box ?_
 refine K_drop (Sel.all _) ?_
 refine J_draw [⟨0, [0], true⟩, ⟨1, [3], true⟩, ⟨2, [4], true⟩, ⟨3, [5], true⟩, ⟨4, [6], true⟩, ⟨5, [0], true⟩, ⟨6, [8], true⟩, ⟨7, [9], true⟩, ⟨8, [10], true⟩, ⟨9, [11], true⟩, ⟨10, [7, 12], true⟩, ⟨11, [13], true⟩] rfl (by kernel_rfl) ?_
 refine Mv rfl rfl (Mf rfl rfl (step_nilCheckP Sr) (Mf rfl rfl (step_fieldAddr so151 Sr rfl) (Mf rfl rfl (step_load_ptr ty149V Sr) (Mf rfl rfl (step_sliceData0 Sr) (Mv rfl rfl ?_)))))
 refine Mf rfl rfl (step_nilCheckP Sr) (Mf rfl rfl (step_fieldAddr so151 Sr rfl) (Mf rfl rfl (step_load_ptr ty149V Sr) (Mf rfl rfl (step_lenC underlying149 Sr) (Mf rfl rfl (step_unsafeString0 Sr Sr) (Mf rfl rfl (step_assign Sr) ?_)))))
 refine JM_nil (J_ret ?_)
 refine K_ret1' (rv := .tmp 2) rfl () (Sel.all _) (.tmp Sr) (Frz.sub Sr)
theorem BStringZ_spec (b : Nat) (a v : Value) (s : ByteArray) (hs : s.size ≤ 100000000) (hv : s.size = 0 → v = .slice none 0 0) : Spec (X := Unit) prog 91 [tAt b 0] ([bld b a v, own 5 rU8 v (bytesOf s)]) (fun _ => tV (.string s)) (fun _ => []) := by
  by_cases h : s.size = 0
  · have := size0 h; subst this
    rw [hv h]; exact BString0_spec b a
  · exact BString_spec b a v s ⟨h, hs⟩
theorem texts_spec (f : GFact) (cols : List (Int × Int)) (z : Nat) (hz2 : z < 2) (hl : cols.length ≤ 1000) : Fun1 prog 63 [rFact.ty f, tSl rA2 cols, tV (.int .i64 (z : Int))] (tTup [tV (.string (if txOk f cols z = true then txB f cols z cols.length else ⟨#[]⟩)), tV (.bool (txOk f cols z))]) := by
 refine Spec.enter func63 rfl rfl fun h0 w0 fr0 => ?_
 refine Jr (Js rfl (step_box (R := rFact) Sr) (Ja rfl (Ja rfl (JL_nil (Jr ?_)))))
 refine Jx rfl (step_alloc (R := rStruct fsBld) (z := (.pointer none, .slice none 0 0)) (fun w => zeroValue151 w) zr151) fun b8 => ?_
 refine JL_nil (J_seq (Jr (Jm rfl (Js rfl (step_len_sl underlying72 Sr) (Jm rfl ?_)))))
 refine JL_nil (J_block ?_)
 refine J_loopL (σ := Nat × Value × Value) (fun ⟨i, ap, vb⟩ => (i ≤ cols.length ∧ ∀ q, q < i → okC f (colS (nth cols q) z) = true) ∧ FreshB b8 ap ∧ (i = 0 → vb = .slice none 0 0)) (fun ⟨i, ap, vb⟩ => upd (upd (upd (upd (upd (upd env0 2 (tV (.int .i64 (z : Int)))) 3 (tPtr rFact f)) 8 (tAt b8 0)) 12 (tSl rA2 cols)) 13 (tV (.int .i64 cols.length))) 14 (tV (.int .i64 i))) (fun ⟨i, ap, vb⟩ => [bld b8 ap vb, own 5 rU8 vb (bytesOf (txB f cols z i))]) (fun ⟨i, ap, vb⟩ => cols.length - i) (0, .pointer none, .slice none 0 0) ⟨⟨by omega, fun q hq => by omega⟩, .inl rfl, fun _ => rfl⟩ (zU) (LSub.trans (LSub.nilown (e := 5) (R := rU8)) zL) ?_
 rintro ⟨i, ap, vb⟩ ⟨⟨hi, hall⟩, hfb, hvn⟩
 refine Jr (Js rfl (step_lss Sr Sr) (JL_nil (J_seq ?_)))
 refine J_cond Sr (fun h15 => ?_) (fun h15 => ?_)
 ·
  try simp only [NF] at h15
  have hlt : i < cols.length := by omega
  have hks := txB_size f cols z i
  refine J_skip (J_seq (J_block (Jr ?_)))
  refine Js rfl (step_indexAddr_sl  underlying72 ty111 Sr Sr rfl (gb (by exact hlt))) ?_
  refine Jl rfl ty111 Sr ?_
  refine Jx rfl (step_alloc (fun w => zeroValue111 w) zr111) fun v10 => ?_
  refine Ju (step_store_box ty111 Sr Sr zS) fun _ => ?_
  refine JL_freeze (t := 10) (Sel.take (Sel.none _)) Frz.box ?_
  refine JL_nil (J_seq (J_seq ?_))
  refine J_draw [⟨0, [2], true⟩, ⟨1, [10, 18], true⟩, ⟨2, [19], true⟩, ⟨3, [20], true⟩, ⟨4, [21], true⟩, ⟨5, [2, 22], true⟩, ⟨6, [10, 22, 23], true⟩, ⟨7, [22, 24], true⟩, ⟨8, [3, 22], true⟩, ⟨9, [22, 26], true⟩, ⟨10, [22, 27], true⟩, ⟨11, [22, 25, 28], true⟩, ⟨12, [22, 29], true⟩] rfl (by kernel_rfl) ?_
  refine Mv rfl rfl (Mf rfl rfl (step_arrAddrZ (p := nth cols i) hz2 Sr Sr) (Mf rfl rfl (step_load_ptr ty3 Sr) (Mf rfl rfl (step_lss Sr Sr) (Mv rfl rfl ?_))))
  refine Mk rfl rfl Sr rfl (step_move Sr) ?_
  refine Mg rfl rfl Sr rfl (fun hw => step_arrAddrZ (p := nth cols i) hz2 Sr (Sub.w hw)) (Mg rfl rfl Sr rfl (fun hw => step_load_ptr ty3 (Sub.w hw)) ?_)
  refine Mk rfl rfl Sr rfl (step_fieldAddr so35 Sr rfl) ?_
  refine Mg rfl rfl Sr rfl (fun hw => step_load_ptr ty32 (Sub.w hw)) (Mg rfl rfl Sr rfl (fun hw => step_len_sl underlying32 (Sub.w hw)) (Mg rfl rfl Sr rfl (fun hw => step_geq (Sub.w hw) (Sub.w hw)) (Mf rfl rfl (step_pick_or Sr Sr) (JM_nil ?_))))
  refine J_cond Sr (fun h30 => ?_) (fun h30 => ?_)
  ·
   try simp only [NF] at h30
   have h30 : (colS (nth cols i) z) < 0 ∨ (f.Row.length : Int) ≤ (colS (nth cols i) z) := h30
   refine Jr (Ja rfl (Ja rfl (JL_nil (J_ret ?_))))
   refine K_drop (Sel.all _) ?_
   have hno : txOk f cols z = false := all_dropV (fun c => okC f (colS c z)) hlt (by show okC f (colS (nth cols i) z) = false; simp only [okC]; rcases h30 with q | q <;> simp [show ¬ (0 ≤ (colS (nth cols i) z) ∧ (colS (nth cols i) z) < (f.Row.length : Int)) by omega] <;> omega)
   refine K_ret2' (rv := .tmp 6) (rv' := .tmp 7) rfl () (Sel.all _) (.tmp Sr) (.tmp Sr) (Frz.sub (Sub.v (by rw [hno]; rfl))) (Frz.sub (Sub.v (by rw [hno]))) Sr
  try simp only [NF] at h30
  have h30 : 0 ≤ (colS (nth cols i) z) ∧ (colS (nth cols i) z) < (f.Row.length : Int) := h30
  refine J_skip (J_seq ?_)
  refine J_draw [⟨0, [3], true⟩, ⟨1, [31], true⟩, ⟨2, [2], true⟩, ⟨3, [10, 33], true⟩, ⟨4, [34], true⟩, ⟨5, [32, 35], true⟩, ⟨6, [36], true⟩, ⟨7, [], false⟩, ⟨8, [11, 37], false⟩] rfl (by kernel_rfl) ?_
  refine Mf rfl rfl (step_fieldAddr so35 Sr rfl) (Mf rfl rfl (step_load_ptr ty32 Sr) (Mv rfl rfl (Mf rfl rfl (step_arrAddrZ (p := nth cols i) hz2 Sr Sr) (Mf rfl rfl (step_load_ptr ty3 Sr) ?_))))
  refine Mf rfl rfl (step_indexAddr_sl (i := (colS (nth cols i) z).toNat) underlying32 ty91 Sr Sr (by show (colS (nth cols i) z) = _; omega) (gb (by show (colS (nth cols i) z).toNat < f.Row.length; omega))) ?_
  refine Mf rfl rfl (step_load_ptr ty91 Sr) ?_
  refine JM_stepX rfl rfl rfl rfl (step_alloc (fun w => zeroValue91 w) zr91) fun v11 => ?_
  refine JM_stepU rfl rfl rfl (step_store_box ty91 Sr Sr zS) fun _ => ?_
  refine JM_nil ?_
  refine K_freeze (t := 11) (Sel.take (Sel.none _)) Frz.box ?_
  refine J_seq (Jr (Jl rfl ty91 Sr (Jl rfl ty91 Sr (Js rfl (step_call0 (Test_spec _ _ _ _) ⟨Sr, Sr, Sr, Sr, trivial⟩ call88) (Js rfl (step_not Sr) ?_)))))
  refine JL_nil ?_
  refine J_cond Sr (fun h41 => ?_) (fun h41 => ?_)
  ·
   try simp only [NF] at h41
   refine Jr (Ja rfl (Ja rfl (JL_nil (J_ret ?_))))
   refine K_drop (Sel.all _) ?_
   have hno : txOk f cols z = false := all_dropV (fun c => okC f (colS c z)) hlt (by show okC f (colS (nth cols i) z) = false; simp only [okC]; rw [h41, Bool.and_false])
   refine K_ret2' (rv := .tmp 6) (rv' := .tmp 7) rfl () (Sel.all _) (.tmp Sr) (.tmp Sr) (Frz.sub (Sub.v (by rw [hno]; rfl))) (Frz.sub (Sub.v (by rw [hno]))) Sr
  try simp only [NF] at h41
  refine J_skip (J_region (Jl rfl ty91 Sr (Js rfl (step_call0 (Text_spec (nth f.Row (colS (nth cols i) z).toNat)) ⟨Sr, trivial⟩ call90) ?_)))
  refine Js rfl (step_add_str Sr Sr (by have := textV_size (nth f.Row (colS (nth cols i) z).toNat); have h3 : semiB.size = 1 := rfl; show _ + semiB.size ≤ _; omega)) ?_
  refine Jx rfl (step_call (Sel.all _) (WriteString_spec b8 ap vb hfb (txB f cols z i) (colT (nth f.Row (colS (nth cols i) z).toNat)) (by have := textV_size (nth f.Row (colS (nth cols i) z).toNat); rw [ByteArray.size_append]; have h3 : semiB.size = 1 := rfl; omega) (by rw [ByteArray.size_append]; have h3 : semiB.size = 1 := rfl; omega)) ⟨Sr, Sr, trivial⟩ call89) fun v45 => ?_
  refine JL_nil (J_region (Js rfl (step_add Sr Sr z6) (Jm rfl (JL_nil ?_))))
  refine K_againL (σ := Nat × Value × Value) (s := (i, ap, vb)) (i + 1, .pointer (some ⟨b8, 0, none⟩), v45) zO ?_ (zU) (zL)
  refine ⟨⟨hlt, fun q hq => ?_⟩, .inr rfl, fun q => by omega⟩
  by_cases e : q = i
  ·
   subst e; simp only [okC, Bool.and_eq_true, decide_eq_true_eq]; exact ⟨h30, h41⟩
  exact hall q zG
 try simp only [NF] at h15
 have hge : i = cols.length := by omega
 have hks := txB_size f cols z i
 refine J_exit (Jr ?_)
 refine Jx rfl (step_call (Sel.all _) (BStringZ_spec b8 ap vb (txB f cols z i) zG (fun q => hvn zG)) ⟨Sr, trivial⟩ call91) fun v47 => ?_
 refine Ja rfl (Ja rfl (JL_nil (J_ret ?_)))
 have hyes : txOk f cols z = true := by
    rw [txOk, List.all_eq_true]
    intro c hc
    obtain ⟨q, hq, rfl⟩ := mem_nthV hc
    exact hall q zG
 refine K_ret2' (rv := .tmp 6) (rv' := .tmp 7) rfl () (Sel.all _) (.tmp Sr) (.tmp Sr) (Frz.sub (Sub.v (by rw [if_pos hyes, hge]))) (Frz.sub (Sub.v (by rw [hyes]))) Sr
open Go Go.Proofs Go.Proofs.Tryz
def itoaI (n : Int) : List Int := (Lib.itoa n).map fun c => (c.toNat : Int)
theorem bytes_itoa (n : Int) : bytesOf (itoaB n) = itoaI n := by
  show ((Lib.itoa n).toArray.toList).map _ = _
  simp [itoaI]
theorem nat_inj {a b : UInt8} (h : (a.toNat : Int) = b.toNat) : a = b := UInt8.toNat.inj (by omega)
theorem itoaI_inj {a b : Int} (h : itoaI a = itoaI b) : a = b := by
  have h1 : Lib.itoa a = Lib.itoa b := by
    unfold itoaI at h
    exact List.map_inj_right (fun x y e => nat_inj e) |>.1 h
  have hd := dec_rng a.toNat
  have hd2 := dec_rng b.toNat
  have hn : ∀ {n m : Nat}, Lib.decDigits n ≠ 45 :: Lib.decDigits m := by
    intro n m e
    have := (dec_rng n).1 45 (by rw [e]; simp)
    simp at this
  unfold Lib.itoa at h1
  split at h1 <;> split at h1
  · injection h1 with _ h2
    have := dec_inj h2
    omega
  · exact absurd h1.symm hn
  · exact absurd h1 hn
  · have := dec_inj h1
    omega
theorem itoaI_rng (n : Int) : ∀ c ∈ itoaI n, c = 45 ∨ (48 ≤ c ∧ c ≤ 57) := by
  intro c hc
  unfold itoaI at hc
  obtain ⟨u, hu, rfl⟩ := List.mem_map.1 hc
  unfold Lib.itoa at hu
  split at hu
  · rcases List.mem_cons.1 hu with rfl | hu
    · left; rfl
    · have := (dec_rng _).1 u hu
      right; omega
  · have := (dec_rng _).1 u hu
    right; omega
theorem itoaI_ne (n : Int) : itoaI n ≠ [] := by
  unfold itoaI Lib.itoa
  split
  · simp
  · have := (dec_rng n.toNat).2
    simpa using this
/-- The bytes of a valid value's text. -/
def txL (v : GValue) : List Int := if v.Kind = 1 then 34 :: (escL (bytesOf v.Text) ++ [34]) else if v.Kind = 2 then itoaI v.N else if v.Kind = 3 then 64 :: itoaI v.N else if v.Kind = 4 then (if v.N = 1 then [116, 114, 117, 101] else [102, 97, 108, 115, 101]) else [110, 117, 108, 108]
theorem bytes_of {l : List Int} (h : ∀ x ∈ l, 0 ≤ x ∧ x < 256) : bytesOf (ofBytes l) = l := by
  unfold bytesOf ofBytes
  simp only [List.map_map]
  conv => rhs; rw [← List.map_id l]
  refine List.map_congr_left fun x hx => ?_
  have := h x hx
  simp only [Function.comp, id, UInt8.toNat_ofNat']
  omega
theorem escL_rng {l : List Int} (h : ∀ x ∈ l, 0 ≤ x ∧ x < 256) : ∀ x ∈ escL l, 0 ≤ x ∧ x < 256 := by
  intro x hx
  unfold escL at hx
  obtain ⟨c, hc, hx⟩ := List.mem_flatMap.1 hx
  have := h c hc
  unfold escU at hx
  repeat' split at hx
  all_goals simp at hx; omega
theorem tx_eq {v : GValue} (h : validV v = true) : bytesOf (textV v) = txL v := by
  unfold textV txL
  rw [if_neg (by rw [h]; simp)]
  by_cases h1 : v.Kind = 1
  · rw [if_pos h1, if_pos h1]
    unfold quoteB
    rw [bytesOf_append, bytesOf_append, bytes_of (escL_rng (bytesOf_rng _))]
    rfl
  · rw [if_neg h1, if_neg h1]
    by_cases h2 : v.Kind = 2
    · rw [if_pos h2, if_pos h2]; exact bytes_itoa _
    · rw [if_neg h2, if_neg h2]
      by_cases h3 : v.Kind = 3
      · rw [if_pos h3, if_pos h3, bytesOf_append, bytes_itoa]; rfl
      · rw [if_neg h3, if_neg h3]
        by_cases h4 : v.Kind = 4
        · rw [if_pos h4, if_pos h4]
          by_cases h5 : v.N = 1
          · rw [if_pos h5, decide_eq_true h5]; rfl
          · rw [if_neg h5, decide_eq_false h5]; rfl
        · rw [if_neg h4, if_neg h4]; rfl
theorem bytesOf_inj {a b : ByteArray} (h : bytesOf a = bytesOf b) : a = b := by rw [← ofBytes_bytesOf a, h, ofBytes_bytesOf]
/-- What a valid value is made of. -/
theorem valid_knd {v : GValue} (h : validV v = true) : (v.Kind ≠ 1 → v.Text = ⟨#[]⟩) ∧ (v.Kind = 0 ∨ v.Kind = 1 ∨ v.Kind = 2 ∨ v.Kind = 3 ∨ v.Kind = 4) ∧ (v.Kind = 0 ∨ v.Kind = 1 → v.N = 0) ∧ (v.Kind = 4 → v.N = 0 ∨ v.N = 1) := by
  unfold validV at h
  split at h
  · cases h
  rename_i hn
  refine ⟨fun h1 => Classical.byContradiction fun h2 => hn ⟨h1, h2⟩, ?_⟩
  split at h
  · rename_i h0
    simp at h
    exact ⟨.inl h0, fun _ => by omega, fun e => by omega⟩
  split at h
  · rename_i h1
    split at h
    · cases h
    simp at h
    exact ⟨.inr (.inl h1), fun _ => by omega, fun e => by omega⟩
  split at h
  · rename_i h0 h1 h2
    exact ⟨.inr (.inr (.inl h2)), fun e => by omega, fun e => by omega⟩
  split at h
  · rename_i h0 h1 h2 h3
    exact ⟨.inr (.inr (.inr (.inl h3))), fun e => by omega, fun e => by omega⟩
  split at h
  · rename_i h0 h1 h2 h3 h4
    simp at h
    exact ⟨.inr (.inr (.inr (.inr h4))), fun e => by omega, fun _ => by omega⟩
  · cases h
theorem txL_no {v : GValue} (h1 : v.Kind ≠ 1) : (59 : Int) ∉ txL v ∧ ∃ c r, txL v = c :: r ∧ c ≠ 34 := by
  unfold txL
  rw [if_neg h1]
  by_cases h2 : v.Kind = 2
  · rw [if_pos h2]
    refine ⟨fun hm => by have := itoaI_rng _ _ hm; omega, ?_⟩
    cases e : itoaI v.N with
    | nil => exact absurd e (itoaI_ne _)
    | cons c r => exact ⟨c, r, rfl, by have := itoaI_rng v.N c (by rw [e]; simp); omega⟩
  · rw [if_neg h2]
    by_cases h3 : v.Kind = 3
    · rw [if_pos h3]
      refine ⟨fun hm => ?_, 64, _, rfl, by decide⟩
      rcases List.mem_cons.1 hm with h | h
      · cases h
      · have := itoaI_rng _ _ h; omega
    · rw [if_neg h3]
      by_cases h4 : v.Kind = 4
      · rw [if_pos h4]
        by_cases h5 : v.N = 1
        · rw [if_pos h5]; exact ⟨by decide, 116, _, rfl, by decide⟩
        · rw [if_neg h5]; exact ⟨by decide, 102, _, rfl, by decide⟩
      · rw [if_neg h4]; exact ⟨by decide, 110, _, rfl, by decide⟩
theorem value_ext {v w : GValue} (h1 : v.Kind = w.Kind) (h2 : v.N = w.N) (h3 : v.Text = w.Text) : v = w := by
  cases v; cases w; simp_all
theorem txL_inj {v w : GValue} (hv : validV v = true) (hw : validV w = true) (k1 : v.Kind ≠ 1) (k2 : w.Kind ≠ 1) (h : txL v = txL w) : v = w := by
  obtain ⟨a1, a2, a3, a4⟩ := valid_knd hv
  obtain ⟨b1, b2, b3, b4⟩ := valid_knd hw
  have ht : v.Text = w.Text := by rw [a1 k1, b1 k2]
  have hd : ∀ n : Int, ∀ c r, itoaI n = c :: r → c = 45 ∨ (48 ≤ c ∧ c ≤ 57) := fun n c r e => itoaI_rng n c (by rw [e]; simp)
  unfold txL at h
  rw [if_neg k1, if_neg k2] at h
  rcases a2 with k | k | k | k | k <;> rcases b2 with j | j | j | j | j <;> first | exact absurd k k1 | exact absurd j k2 | skip
  all_goals simp only [k, j] at h
  · exact value_ext (by omega) (by rw [a3 (.inl k), b3 (.inl j)]) ht
  · exfalso; simp at h; have := hd _ _ _ h.symm; omega
  · exfalso; simp at h
  · exfalso; rcases b4 j with e | e <;> simp [e] at h
  · exfalso; simp at h; have := hd _ _ _ h; omega
  · simp at h; exact value_ext (by omega) (itoaI_inj h) ht
  · exfalso; simp at h; have := hd _ _ _ h; omega
  · exfalso; rcases b4 j with e | e <;> simp [e] at h <;> (have := hd _ _ _ h; omega)
  · exfalso; simp at h
  · exfalso; simp at h; have := hd _ _ _ h.symm; omega
  · simp at h; exact value_ext (by omega) (itoaI_inj h) ht
  · exfalso; rcases b4 j with e | e <;> simp [e] at h
  · exfalso; rcases a4 k with e | e <;> simp [e] at h
  · exfalso; rcases a4 k with e | e <;> simp [e] at h <;> (have := hd _ _ _ h.symm; omega)
  · exfalso; rcases a4 k with e | e <;> simp [e] at h
  · rcases a4 k with e | e <;> rcases b4 j with e2 | e2 <;> simp [e, e2] at h <;> exact value_ext (by omega) (by omega) ht
theorem tx_cut {v w : GValue} (hv : validV v = true) (hw : validV w = true) {t t' : List Int} (h : txL v ++ 59 :: t = txL w ++ 59 :: t') : v = w ∧ t = t' := by
  by_cases k1 : v.Kind = 1
  · by_cases k2 : w.Kind = 1
    · unfold txL at h
      rw [if_pos k1, if_pos k2] at h
      simp only [List.cons_append, List.append_assoc, List.nil_append, List.cons.injEq, true_and] at h
      obtain ⟨e1, e2⟩ := esc_cut h
      have := (valid_knd hv).2.2.1 (.inr k1)
      have := (valid_knd hw).2.2.1 (.inr k2)
      simp at e2
      exact ⟨value_ext (by omega) (by omega) (bytesOf_inj e1), e2⟩
    · obtain ⟨_, c, r, e, hc⟩ := txL_no k2
      rw [e] at h
      unfold txL at h
      rw [if_pos k1] at h
      simp at h
      exact absurd h.1.symm hc
  · by_cases k2 : w.Kind = 1
    · obtain ⟨_, c, r, e, hc⟩ := txL_no k1
      rw [e] at h
      unfold txL at h
      rw [if_pos k2] at h
      simp at h
      exact absurd h.1 hc
    · obtain ⟨e1, e2⟩ := cut_at (txL_no k1).1 (txL_no k2).1 h
      exact ⟨txL_inj hv hw k1 k2 e1, e2⟩
theorem ordS_eq0 {a b : ByteArray} (h : ordS a b = 0) : a = b := by
  unfold ordS at h
  by_cases h1 : Op.bytesLess a.toList b.toList = true
  · rw [if_pos h1] at h; omega
  · rw [if_neg h1] at h
    by_cases h2 : (a.toList == b.toList) = true
    · rw [toLs_eq] at h2; simpa using h2
    · exfalso
      have e1 : Op.bytesLess a.toList b.toList = false := Bool.eq_false_iff.2 h1
      have e2 : (a.toList == b.toList) = false := Bool.eq_false_iff.2 h2
      simp [e1, e2] at h
theorem ordS_self (a : ByteArray) : ordS a a = 0 := by
  unfold ordS
  have h : (a.toList == a.toList) = true := by rw [toLs_eq]; simp
  by_cases q : Op.bytesLess a.toList a.toList = true
  · exfalso
    have key : ∀ l : List UInt8, Op.bytesLess l l = false := by
      intro l
      induction l with
      | nil => rfl
      | cons x l ih => simp [Op.bytesLess, ih]
    rw [key] at q; cases q
  · rw [if_neg q, if_pos (by simp [h])]
theorem ordI_eq0 {a b : Int} : ordI a b = 0 ↔ a = b := by
  unfold ordI
  (repeat' split) <;> omega
theorem cmpV_eq0 {a b : GValue} : cmpV a b = 0 ↔ a = b := by
  unfold cmpV
  constructor
  · intro h
    split at h
    · rename_i q; exact absurd h q
    · rename_i q1
      split at h
      · rename_i q; exact absurd h q
      · rename_i q2
        exact value_ext (ordI_eq0.1 (by simpa using q1)) (ordI_eq0.1 (by simpa using q2)) (ordS_eq0 h)
  · rintro rfl
    rw [if_neg (by simp [ordI_eq0]), if_neg (by simp [ordI_eq0])]; exact ordS_self _
/-- Two values that are equal by a test are one value. -/
theorem test_eq {a b : GValue} : testV a 1 b 0 = true ↔ a = b ∧ validV a = true ∧ (a.Kind = 1 ∨ a.Kind = 2 ∨ a.Kind = 3 ∨ a.Kind = 4) := by
  constructor
  · intro h
    unfold testV at h
    split at h
    · cases h
    · rename_i h1
      have hva : validV a = true := by cases e : validV a; exact absurd (.inl e) h1; rfl
      have hvb : validV b = true := by cases e : validV b; exact absurd (.inr (.inl e)) h1; rfl
      have hk : a.Kind = b.Kind := Classical.byContradiction fun e => h1 (.inr (.inr e))
      split at h
      · rename_i h2
        simp only [opHolds, if_true, decide_eq_true_eq, ordI_eq0] at h
        have ta := (valid_knd hva).1 (by omega)
        have tb := (valid_knd hvb).1 (by omega)
        exact ⟨value_ext hk (by omega) (by rw [ta, tb]), hva, by omega⟩
      · split at h
        · rename_i h2
          rw [if_neg (by simp)] at h
          simp only [opHolds, if_true, decide_eq_true_eq] at h
          exact ⟨cmpV_eq0.1 h, hva, by omega⟩
        · cases h
  · rintro ⟨rfl, hv, hk⟩
    unfold testV
    rw [if_neg (by rw [hv]; simp)]
    by_cases h2 : a.Kind = 2 ∨ a.Kind = 3
    · rw [if_pos h2]; simp [opHolds, ordI_eq0]
    · rw [if_neg h2, if_pos (by omega), if_neg (by simp)]
      simp [opHolds, cmpV_eq0]
theorem test_self {a b : GValue} (h : testV a 1 b 0 = true) : testV a 1 a 0 = true ∧ testV b 1 b 0 = true ∧ a = b := by
  obtain ⟨rfl, h1, h2⟩ := test_eq.1 h
  exact ⟨h, h, rfl⟩
/-- The texts of columns, one behind the other. -/
def txR (f : GFact) (z : Nat) (cols : List (Int × Int)) : List Int := cols.flatMap fun c => txL (nth f.Row (colS c z).toNat) ++ [59]
theorem txB_bytes {f : GFact} {cols : List (Int × Int)} {z : Nat} (h : txOk f cols z = true) : ∀ k, k ≤ cols.length → bytesOf (txB f cols z k) = txR f z (cols.take k)
  | 0, _ => rfl
  | k + 1, hk => by
    have hv : validV (nth f.Row (colS (nth cols k) z).toNat) = true := by
      have := (List.all_eq_true.1 h) _ (nth_mem (show k < cols.length by omega))
      simp only [okC, Bool.and_eq_true] at this
      exact (test_eq.1 this.2).2.1
    rw [txB, bytesOf_append, bytesOf_append, txB_bytes h k (by omega), tx_eq hv, takeV (show k < cols.length by omega)]
    simp only [txR, List.flatMap_append, List.flatMap_cons, List.flatMap_nil, List.append_nil]
    rfl
theorem txR_inj {f g : GFact} {z y : Nat} : ∀ {cols : List (Int × Int)}, (∀ c ∈ cols, validV (nth f.Row (colS c z).toNat) = true) → (∀ c ∈ cols, validV (nth g.Row (colS c y).toNat) = true) → (txR f z cols = txR g y cols ↔ ∀ c ∈ cols, nth f.Row (colS c z).toNat = nth g.Row (colS c y).toNat)
  | [], _, _ => by simp [txR]
  | c :: cols, hf, hg => by
    have ih := txR_inj (cols := cols) (fun c hc => hf c (List.mem_cons_of_mem _ hc)) (fun c hc => hg c (List.mem_cons_of_mem _ hc))
    constructor
    · intro h
      have h' : txL (nth f.Row (colS c z).toNat) ++ 59 :: txR f z cols = txL (nth g.Row (colS c y).toNat) ++ 59 :: txR g y cols := by simpa [txR] using h
      obtain ⟨e1, e2⟩ := tx_cut (hf c (List.mem_cons_self ..)) (hg c (List.mem_cons_self ..)) h'
      intro d hd
      rcases List.mem_cons.1 hd with rfl | hd
      · exact e1
      · exact ih.1 e2 d hd
    · intro h
      have e2 := ih.2 fun d hd => h d (List.mem_cons_of_mem _ hd)
      have e1 := h c (List.mem_cons_self ..)
      show txR f z (c :: cols) = txR g y (c :: cols)
      simp only [txR, List.flatMap_cons] at e2 ⊢
      rw [e1, e2]
/-- Columns of facts that are equal, both there. -/
def colEq (x : GFact) (a : Int) (y : GFact) (b : Int) : Bool := ((decide (0 ≤ a) && decide (a < (x.Row.length : Int))) && (decide (0 ≤ b) && decide (b < (y.Row.length : Int)))) && testV (nth x.Row a.toNat) 1 (nth y.Row b.toNat) 0
theorem colEq_iff {x y : GFact} {a b : Int} : colEq x a y b = true ↔ okC x a = true ∧ okC y b = true ∧ nth x.Row a.toNat = nth y.Row b.toNat := by
  simp only [colEq, okC, Bool.and_eq_true, decide_eq_true_eq]
  constructor
  · rintro ⟨⟨h1, h2⟩, h3⟩
    obtain ⟨a1, a2, a3⟩ := test_self h3
    exact ⟨⟨h1, a1⟩, ⟨h2, a2⟩, a3⟩
  · rintro ⟨⟨h1, a1⟩, ⟨h2, a2⟩, a3⟩
    exact ⟨⟨h1, h2⟩, by rw [← a3]; exact a1⟩
/-- Both texts are there and the same exactly if all columns are equal. -/
theorem txB_iff {x y : GFact} {cols : List (Int × Int)} : (txOk x cols 0 = true ∧ txOk y cols 1 = true ∧ txB x cols 0 cols.length = txB y cols 1 cols.length) ↔ ∀ c ∈ cols, colEq x c.1 y c.2 = true := by
  have key : txOk x cols 0 = true → txOk y cols 1 = true → (txB x cols 0 cols.length = txB y cols 1 cols.length ↔ ∀ c ∈ cols, nth x.Row c.1.toNat = nth y.Row c.2.toNat) := by
    intro h1 h2
    have b1 := txB_bytes h1 cols.length (Nat.le_refl _)
    have b2 := txB_bytes h2 cols.length (Nat.le_refl _)
    rw [List.take_length] at b1 b2
    have v1 : ∀ c ∈ cols, validV (nth x.Row (colS c 0).toNat) = true := fun c hc => by
      have := (List.all_eq_true.1 h1) c hc
      simp only [okC, Bool.and_eq_true] at this
      exact (test_eq.1 this.2).2.1
    have v2 : ∀ c ∈ cols, validV (nth y.Row (colS c 1).toNat) = true := fun c hc => by
      have := (List.all_eq_true.1 h2) c hc
      simp only [okC, Bool.and_eq_true] at this
      exact (test_eq.1 this.2).2.1
    have := txR_inj v1 v2
    constructor
    · intro h
      have e : txR x 0 cols = txR y 1 cols := by rw [← b1, ← b2, h]
      exact this.1 e
    · intro h
      exact bytesOf_inj (by rw [b1, b2]; exact this.2 h)
  constructor
  · rintro ⟨h1, h2, h3⟩ c hc
    exact colEq_iff.2 ⟨(List.all_eq_true.1 h1) c hc, (List.all_eq_true.1 h2) c hc, (key h1 h2).1 h3 c hc⟩
  · intro h
    have h1 : txOk x cols 0 = true := List.all_eq_true.2 fun c hc => (colEq_iff.1 (h c hc)).1
    have h2 : txOk y cols 1 = true := List.all_eq_true.2 fun c hc => (colEq_iff.1 (h c hc)).2.1
    exact ⟨h1, h2, (key h1 h2).2 fun c hc => (colEq_iff.1 (h c hc)).2.2⟩
open Go
theorem sortWorld_other {α : Type} [Inhabited α] {enc : α → Value} {w : World} {g off m : Nat} {dk : Array α} {os : Array Obj} {b : Nat} (hb : b < w.heap.size) (hne : b ≠ g) : (Go.Proofs.sortWorld enc w g off m dk os).heap[b]? = w.heap[b]? := by
  show ((Sort.mapBlock (Sort.ahead w m) g _).heap ++ os)[b]? = _
  rw [Array.getElem?_append_left (by simp [Sort.mapBlock, Sort.ahead, hb])]
  simp only [Sort.mapBlock, Sort.ahead, Array.getElem?_modify, Ne.symm hne, if_false]
theorem sortWorld_row {α : Type} [Inhabited α] {enc : α → Value} {w : World} {g off m : Nat} {dk : Array α} {os : Array Obj} {cur : Array Value} {e : Nat} {fz : Nat × Nat} (hb : w.heap[g]? = some (.cells cur e fz)) :
    (Go.Proofs.sortWorld enc w g off m dk os).heap[g]? = some (.cells (Sort.putCells enc off dk cur) e fz) := by
  have hlt := (Array.getElem?_eq_some_iff.1 hb).1
  show ((Sort.mapBlock (Sort.ahead w m) g _).heap ++ os)[g]? = _
  rw [Array.getElem?_append_left (by simp [Sort.mapBlock, Sort.ahead, hlt])]
  simp only [Sort.mapBlock, Sort.ahead, Array.getElem?_modify, if_true, hb, Option.map_some, Sort.onCells]
open Go Go.Proofs Go.Proofs.Tryz
def iota (n : Nat) : List Int := (List.range n).map fun k : Nat => (k : Int)
theorem iota_len (n : Nat) : (iota n).length = n := by simp [iota]
theorem iota_succ (n : Nat) : iota (n + 1) = iota n ++ [(n : Int)] := by simp [iota, List.range_succ]
/-- The index of the first, or -1. -/
def idxI : List Int → Int → Nat → Int
  | [], _, _ => -1
  | a :: l, v, i => if v = a then i else idxI l v (i + 1)
theorem idxI_ge (l : List Int) (v : Int) : ∀ i, (0 ≤ idxI l v i ↔ l.contains v = true) := by
  induction l with
  | nil => intro i; simp [idxI]
  | cons a l ih =>
    intro i
    by_cases h : v = a
    · subst h; simp [idxI]
    · simp only [idxI, if_neg h, ih]; simp [h]
theorem set_fill {n i : Nat} (h : i < n) : (iota i ++ List.replicate (n - i) (0 : Int)).set i (i : Int) = iota (i + 1) ++ List.replicate (n - (i + 1)) 0 := by
  rw [List.set_append_right i (i : Int) (by rw [iota_len]; omega), iota_len, Nat.sub_self, iota_succ, show n - i = (n - (i + 1)) + 1 from by omega, List.replicate_succ]
  simp
theorem Index_spec (l : List Int) (v : Int) (hl : l.length ≤ 1000000000000) : Fun1 prog 68 [tSl rInt l, tV (.int .i64 v)] (tV (.int .i64 (idxI l v 0))) := by
 refine Spec.enter func68 rfl rfl fun h0 w0 fr0 => ?_
 refine Jr (Ja rfl (JL_nil (J_seq (Jr (Jm rfl ?_)))))
 refine Js rfl (step_len_sl underlying33 Sr) (Jm rfl (JL_nil (J_block ?_)))
 refine J_loopL (σ := Nat) (fun i => i ≤ l.length ∧ idxI l v 0 = idxI (l.drop i) v i) (fun i => upd (upd (upd (upd env0 0 (tSl rInt l)) 1 (tV (.int .i64 v))) 7 (tV (.int .i64 l.length))) 8 (tV (.int .i64 i))) (fun i => []) (fun i => l.length - i) 0 ⟨by omega, by simp⟩ (zU) (LSub.rfl) ?_
 rintro i ⟨hi, hv⟩
 refine Jr (Js rfl (step_lss Sr Sr) (JL_nil (J_seq ?_)))
 refine J_cond Sr (fun hc1 => ?_) (fun hc1 => ?_)
 ·
  try simp only [NF] at hc1
  have hlt : i < l.length := by omega
  have hd := dropB hlt
  refine J_skip (J_seq (J_block (Jr (Jm rfl (Ja rfl ?_)))))
  refine JL_nil (Jr (Jm rfl (Jm rfl (Jm rfl ?_))))
  refine Js rfl (step_indexAddr_sl  underlying33 ty3 Sr Sr rfl (gb (by first | assumption | omega))) ?_
  refine Jl rfl ty3 Sr (Js rfl (step_eql Sr Sr) (JL_nil ?_))
  refine J_cond Sr (fun hc2 => ?_) (fun hc2 => ?_)
  ·
   try simp only [NF] at hc2
   have he : v = nth l i := by assumption
   refine Jr (Jm rfl (Ja rfl (JL_nil (J_ret ?_))))
   refine K_ret1 (t := 4) rfl () ?_
   refine Sub.int ?_
   rw [hv, hd]; simp [idxI, he]
  try simp only [NF] at hc2
  have hne : ¬ v = nth l i := by assumption
  refine J_skip (J_region (Js rfl (step_add Sr Sr z6) (Jm rfl (JL_nil ?_))))
  refine K_againL (σ := Nat) (s := i) (i + 1) zO ?_ (zU) (LSub.rfl)
  refine ⟨by omega, ?_⟩
  rw [hv, hd]; simp [idxI, hne]
 try simp only [NF] at hc1
 refine J_exit (Jr (Ja rfl (JL_nil (J_ret ?_))))
 refine K_ret1 (t := 4) rfl () ?_
 refine Sub.int ?_
 rw [hv, List.drop_of_length_le zG]; rfl
theorem Contains__spec (l : List Int) (v : Int) (hl : l.length ≤ 1000000000000) : Fun1 prog 50 [tSl rInt l, tV (.int .i64 v)] (tV (.bool (l.contains v))) := by
 refine Spec.enter func50 rfl rfl fun h0 w0 fr0 => ?_
 refine Jr (Ja rfl (JL_nil (Jr (Jm rfl (Jm rfl ?_)))))
 refine Js rfl (step_call0 (Index_spec _ _ hl) ⟨Sr, Sr, trivial⟩ call68) (Js rfl (step_geq Sr Sr) (Ja rfl (JL_nil (J_ret ?_))))
 refine K_ret1 (t := 4) rfl () ?_
 refine Sub.bool ?_
 rw [Bool.eq_iff_iff, decide_eq_true_eq]; exact idxI_ge l v 0
theorem all_spec (facts : List GFact) (hn : facts.length ≤ 1000000) : Fun1 prog 53 [tSl rFact facts] (tSl rInt (iota facts.length)) := by
 refine Spec.enter func53 rfl rfl fun h0 w0 fr0 => ?_
 refine Jr (Ja rfl (JL_nil (Jr (Jm rfl (Js rfl (step_len_sl underlying41 Sr) ?_)))))
 refine Jx rfl (step_make underlying33 el3 Sr Sr rfl zG zG) fun v => ?_
 refine Ja rfl (JL_nil (J_seq (Jr (Jm rfl ?_))))
 refine Js rfl (step_len_own underlying33 Sr zS) ?_
 refine Jm rfl (JL_nil (J_block ?_))
 refine J_loopL (σ := Nat) (fun i => i ≤ facts.length) (fun i => upd (upd (upd (upd env0 2 (tV (.slice none 0 0))) 3 (rV.ty v)) 9 (tV (.int .i64 facts.length))) 10 (tV (.int .i64 i))) (fun i => [own 3 rInt v (iota i ++ List.replicate (facts.length - i) 0)]) (fun i => facts.length - i) 0 zG (.u (SubE.upd (Sub.int (by simp)) (zU))) (.c zS (own_eq (by simp [iota])) LSub.nil) ?_
 rintro i hi
 refine Jr (Js rfl (step_lss Sr Sr) (JL_nil (J_seq ?_)))
 refine J_cond Sr (fun hc1 => ?_) (fun hc1 => ?_)
 ·
  try simp only [NF] at hc1
  have hlt : i < facts.length := by omega
  refine J_skip (J_seq (J_block (Jr (Jm rfl (Ja rfl ?_)))))
  refine JL_nil (J_region (Jm rfl (Jm rfl (Jm rfl ?_))))
  refine Js rfl (step_indexAddr_own  underlying33 ty3 Sr zS Sr rfl (by simp [iota_len]; omega)) ?_
  refine Ju (step_store_own ty3 Sr Sr zS (by simp [iota_len]; omega)) fun _ => ?_
  refine JL_nil (J_region (Js rfl (step_add Sr Sr z6) (Jm rfl (JL_nil ?_))))
  refine K_againL (σ := Nat) (s := i) (i + 1) zO zG (zU) (.c zS (own_eq (set_fill hlt)) LSub.nil)
 try simp only [NF] at hc1
 refine J_exit (Jr (Jm rfl (Ja rfl (JL_nil (J_ret ?_)))))
 refine K_ret1' (rv := .tmp 2) rfl () (Sel.all _) (.tmp Sr) ?_
 exact Frz.own' (by obtain rfl : i = facts.length := zG; simp)
theorem AppendSeq_spec {gf : Nat} {As : List Ty} {A : List SP} {Ok Fin : List Int → Prop} (it : ItSpec prog gf As A (fun x : Int => [tV (.int .i64 x)]) Ok Fin) (he : ∀ args w, (callFunc gf args).run prog w = .ok (.enter gf args) w) (hb : ∀ p, Ok p → p.length ≤ 1000000) : Spec (X := Value × { xs : List Int // Fin xs }) prog 148 [tV (.slice none 0 0), tClo gf As] (A) (fun z => rV.ty z.1) (fun z => own 3 rInt z.1 z.2.1 :: A) := by
 refine Spec.enter func148 rfl rfl fun h0 w0 fr0 => ?_
 refine Jr ?_
 refine Jx rfl (step_box_own (R := rV) (Sub.rV rfl)) fun v2 => ?_
 refine Ja rfl (JL_nil (J_seq (Jr (Jm rfl (JL_nil ?_)))))
 refine J_block ?_
 refine J_range (A := A) (T := fun x : Int => [tV (.int .i64 x)]) (Ok := Ok) (Fin := Fin) (R := []) (fun xs => SP.ex fun v => stars [box v2 33 rV v, own 3 rInt v xs]) (fun _ _ => SP.pure False) rfl (fun _ => rfl) rfl it Sr he (LSub.ex (.slice none 0 0) (LSub.stars (LSub.cons zS SPs.rfl (LSub.trans (LSub.nilown (e := 3) (R := rInt)) (LSub.of (by simp)))))) ?round1 ?done1 ?stop1
 case round1 =>
  intro l1 rec1 h2 w2 fr2 pre y hle1 hst1 hpd1 hdj1 hok
  refine K_ex fun v => K_stars ?_
  refine J_region (Ja rfl (JL_nil ?_))
  refine K_begin hst1 hdj1 ?_
  refine J_block (J_region ?_)
  refine Js rfl (step_load_box ty33V Sr zS) ?_
  refine Jm rfl ?_
  refine Js rfl (step_literal (ys := [_]) underlying33 el3 ⟨rfl, Sr, trivial⟩ rfl (by decide)) ?_
  refine Jx rfl (step_append underlying33 el3 Sr Sr zS (by have := hb _ hok; simp at this ⊢; omega) (by have := hb _ hok; simp at this ⊢; omega)) fun v11 => ?_
  refine Ju (step_store_box (R := rV) ty33V Sr Sr zS) fun _ => ?_
  refine JL_nil ?_
  refine K_roundN hst1 hpd1 ?_
  refine LSub.cons zS SPs.rfl (LSub.ex _ (LSub.stars (LSub.cons zS SPs.rfl (LSub.cons zS SPs.rfl LSub.nil))))
 case done1 =>
  intro D1 xs hfin
  refine K_ex fun v => K_stars ?_
  refine Jr ?_
  refine Js rfl (step_load_box ty33V Sr zS) ?_
  refine Ja rfl (JL_nil (J_ret ?_))
  refine K_unmark (LSub.cons zS SPs.rfl LSub.rfl) ?_
  refine K_lsub (LSub.of (L' := box v2 33 rV v :: own 3 rInt v xs :: A) (by simp)) ?_
  refine K_ret1' (rv := .tmp 4) rfl (v, ⟨xs, hfin⟩) (S := [box v2 33 rV v]) (Sel.take (Sel.none _)) (.tmp Sr) (Frz.sub Sr)
 case stop1 =>
  intro D1 c1 xs
  refine K_pure fun h => h.elim
open Go
def sortI (xs : List Int) : List Int := xs.mergeSort fun x y => decide (x ≤ y)
theorem sortI_len (xs : List Int) : (sortI xs).length = xs.length := by simp [sortI]
theorem sortInts_spec {P : Program} {ρ : Shelf.Ren} (LL : Go.Proofs.Lays.n189 P ρ) (v : Value) (xs : List Int) (hn : xs.length < 4611686018427387904) :
    Spec (X := Unit) P (ρ.f 189) [rV.ty v] [own 3 rInt v xs] (fun _ => tTup []) (fun _ => [own 3 rInt v (sortI xs)]) := by
  intro vs h m r w ha sp st
  match vs, ha with
  | [u1], ⟨a1, _⟩ =>
  obtain ⟨e1, _⟩ := a1
  subst e1
  obtain ⟨m1, m2, d12, rfl, ho, e3⟩ := st
  rw [stars_nil] at e3; subst e3
  rw [PH.join_emp] at sp
  have none_case : ∀ (p : Option Addr) (cap : Nat), u1 = .slice p 0 cap → xs = [] → Calls P (ρ.f 189) [u1].toArray w (Ret (X := Unit) h w r (fun _ => tTup []) (fun _ => [own 3 rInt u1 (sortI xs)])) := by
    intro p cap hu hx
    subst hu; subst hx
    refine (Go.Proofs.Any.slices_Sort_int_none LL p cap w).mono ?_
    rintro e' w' ⟨rfl, rfl⟩
    exact ⟨(), _, h, m1, rfl, HL.refl, sp, ⟨m1, PH.emp, PH.disj_emp _, (PH.join_emp _).symm, by simpa [sortI] using ho, rfl⟩, ⟨[], rfl, trivial⟩⟩
  rcases ho with ⟨rfl, rfl, rfl⟩ | ⟨g, cap, cur, rfl, rfl, hl, hm, hs, hr⟩
  · exact none_case none 0 rfl rfl
  · by_cases hx : xs = []
    · subst hx; exact none_case _ cap rfl rfl
    · have hk : rInt.k = 1 := rfl
      rw [hk, Nat.mul_one] at hs hr
      rw [relAll_int] at hr
      have hb := sp.mw g _ (PH.one_same _ _)
      have hH : Sort.Holds (Value.int .i64) w g 0 xs.toArray := fun j hj => ⟨by
        rw [Nat.zero_add]; simp only [World.cell?, hb]
        have hj' : j < xs.length := by simpa using hj
        have : (cur.toList.take xs.length)[j]? = some (.int .i64 xs[j]) := by rw [hr]; simp [hj']
        rw [List.getElem?_take, if_pos hj'] at this
        rw [getElem!_pos _ j hj]
        simpa using this, by simp [World.frozen?, hb]⟩
      have hblk : g < w.heap.size := (Array.getElem?_eq_some_iff.1 hb).1
      refine (Go.Proofs.Any.slices_Sort_int LL g 0 cap xs w hH hblk hn).mono ?_
      rintro e' w' ⟨rfl, n, os, rfl⟩
      have hlen := sortI_len xs
      refine ⟨(), _, h, PH.one g (.cells (Sort.putCells (Value.int .i64) 0 (sortI xs).toArray cur) 3 (0, 0)), rfl, HL.same ⟨rfl, rfl, rfl⟩, ?_, ⟨_, PH.emp, PH.disj_emp _, (PH.join_emp _).symm, .inr ⟨g, cap, _, by rw [hlen], rfl, by rw [hlen]; exact hl, hm, ?_, ?_⟩, rfl⟩, ⟨[], rfl, trivial⟩⟩
      · have sp' : Sep h ((PH.one g (.cells cur 3 (0, 0))).join PH.emp) r w := by rw [PH.join_emp]; exact sp
        have := Sep.write (o' := .cells (Sort.putCells (Value.int .i64) 0 (sortI xs).toArray cur) 3 (0, 0)) (PH.disj_emp _) sp' (fun b hne' hb' => sortWorld_other (enc := Value.int .i64) (off := 0) (m := n) (dk := (sortI xs).toArray) (os := os) hb' hne') (sortWorld_row hb)
        rw [PH.join_emp] at this; exact this
      · simp [Sort.putCells, hs, hk]
      · rw [hlen, hk, Nat.mul_one, relAll_int]
        apply List.ext_getElem?
        intro j
        rw [List.getElem?_take]
        split
        · rename_i hj
          have hjc : j < cur.size := by omega
          have hjd : j < (sortI xs).length := by omega
          simp [Sort.putCells, hjc, hjd]
        · rw [List.getElem?_eq_none (by simp [hlen]; omega)]
open Go Go.Proofs Go.Proofs.Tryz
theorem Sort_spec (v : Value) (xs : List Int) (hn : xs.length < 4611686018427387904) : Spec (X := Unit) Tryz.prog 92 [rV.ty v] [own 3 rInt v xs] (fun _ => tTup []) (fun _ => [own 3 rInt v (sortI xs)]) := sortInts_spec Tryz.sortJ v xs hn
open Go
def InE (h : PH) (e : Nat) (v : Value) : Prop := ∀ b off len cap, v = .slice (some ⟨b, off, none⟩) len cap → 0 < len → len ≤ cap ∧ ∃ c fz, h b = some (.cells c e fz)
def tSlE {α : Type} (e : Nat) (R : Rp α) (xs : List α) : Ty where
  p := fun h v => (tSl R xs).p h v ∧ InE h e v
  mono := fun l ⟨a, b⟩ => ⟨(tSl R xs).mono l a, fun b' off len cap e1 e2 => let ⟨hl, c, fz, hb⟩ := b b' off len cap e1 e2; ⟨hl, c, fz, l _ _ hb⟩⟩
def rSlE {α : Type} (e : Nat) (R : Rp α) : Rp (List α) := rT (tSlE e R) (by rintro h x v ⟨⟨ao, cap, rfl, _⟩, _⟩; rfl)
theorem Sub.ofE {α : Type} {e : Nat} {R : Rp α} {xs : List α} : Sub (tSlE e R xs) (tSl R xs) := fun _ _ a => a.1
theorem Sub.slE {α : Type} {e : Nat} {R : Rp α} {xs ys : List α} (h : xs = ys) : Sub (tSlE e R xs) (tSlE e R ys) := h ▸ Sub.rfl
theorem Sub.nilslE {α : Type} {R : Rp α} {e c : Nat} : Sub (tV (.slice none 0 c)) (tSlE e R ([] : List α)) := fun h v ev => ⟨Sub.nilsl h v ev, fun b off len cap e1 _ => by rw [show v = .slice none 0 c from ev] at e1; cases e1⟩
/-- Elements of the same cells, seen more weakly. -/
theorem tSl.weak {α : Type} {R R' : Rp α} {xs : List α} (hk : R'.k = R.k) (hr : ∀ h x cs, R.rel h x cs → R'.rel h x cs) : Sub (tSl R xs) (tSl R' xs) := fun h v ⟨ao, cap, e, H⟩ =>
  ⟨ao, cap, e, fun hn => let ⟨b, off, ea, H'⟩ := H hn; ⟨b, off, ea, fun i x hx => let ⟨cs, H1, r⟩ := H' i x hx; ⟨cs, hk ▸ H1, hr _ _ _ r⟩⟩⟩
theorem Sub.ofEE {α : Type} {e e' : Nat} {R : Rp α} {xs : List (List α)} : Sub (tSlE e (rSlE e' R) xs) (tSl (rSl R) xs) := fun h v a =>
  tSl.weak (R := rSlE e' R) (R' := rSl R) _root_.rfl (fun h x cs ⟨u, e1, e2⟩ => ⟨u, e1, e2.1⟩) h v a.1
theorem Frz.ownE {α : Type} {e : Nat} {R : Rp α} {v : Value} {xs : List α} {S : List SP} : Frz (Lg.own e R v xs :: S) (rV.ty v) (tSlE e R xs) := fun h m u d hs hv => by
  refine ⟨Frz.own h m u d hs hv, ?_⟩
  obtain ⟨m1, m2, d12, em, ho, _⟩ := hs
  subst em; have hv := hv.1; subst hv
  intro b off len cap e1 e2
  rcases ho with ⟨rfl, rfl, rfl⟩ | ⟨g, cap', cur, rfl, rfl, hlc, _, _, _⟩
  · cases e1
  · have e3 := Value.slice.inj e1
    have e4 := congrArg Addr.block (Option.some.inj e3.1)
    simp only at e4
    subst e4
    have hd := PH.disj_join'.1 d
    refine ⟨by rw [← e3.2.1, ← e3.2.2]; exact hlc, cur, (0, 0), PH.le_join_right d _ _ (PH.le_join_left _ _ _ _ (PH.one_same _ _))⟩
open Go
section
variable {C : Cx} {E : Env} {L : List SP} {d : Option Nat} {ty : Nat} {pos : String} {af : Array Edge} {g : Option (Nat × Bool)}
theorem step_literalE {α : Type} {T e bytes len : Nat} {R : Rp α} {z : α} {ps : Array (Nat × Operand)} {ys : List α} (hu : C.P.underlying T = some (.slice e)) (hE : ElT C.P e R bytes z) (hp : PartsE E R ps.toList 0 ys) (hl : len = ys.length) (hs : len * R.k ≤ 16777216) :
    Step1 C ⟨d, .buildSlice T len ps, ty, pos, af, g⟩ E L (tSlE e R ys) :=
  Step.of_run (by intro c h; cases h) fun a w h m l sp st fr => by
    obtain ⟨cs, r, hrun⟩ := run_literal (w := w) hu hE hp hl hs fr
    refine ⟨(), .slice (some ⟨w.heap.size, 0, none⟩) len len, w.alloc (.cells cs.toArray e), h.join (PH.one w.heap.size (.cells cs.toArray e)), m, ?_, HL.imm _ (PH.le_join_left _ _), sp.allocImm _, (stars L).mono (PH.le_join_left _ _) st, ?_⟩
    · simp only [execOp, Sem.run_bind, hrun, Result.andThen_ok]; rfl
    · subst hl
      have hb : (h.join (PH.one w.heap.size (.cells cs.toArray e))) w.heap.size = some (.cells cs.toArray e) := PH.le_join_right (PH.one_disj_new sp.hw _) _ _ (PH.one_same _ _)
      refine ⟨tSl_of_relAll hb (relAll_mono (PH.le_join_left _ _) r) (fun j v hv => by simpa using hv) (Nat.le_refl _), fun b off len cap e1 e2 => ?_⟩
      have e3 := Value.slice.inj e1
      have e4 := congrArg Addr.block (Option.some.inj e3.1)
      simp only at e4
      subst e4
      exact ⟨by rw [← e3.2.1, ← e3.2.2]; exact Nat.le_refl _, _, _, hb⟩
end
open Go Go.Proofs Go.Proofs.Tryz
def triOf (l : List Int) : GTri := ⟨l.getD 0 (-1), l.getD 1 (-1), l.getD 2 (-1)⟩
def setM (xs : List Int) : GTri := triOf (sortI xs)
def memM (t : GTri) : List Int := t.l.filter fun n => decide (0 ≤ n)
def cpyT (t : GTri) (xs : List Int) : GTri := ⟨xs.getD 0 t.a, xs.getD 1 t.b, xs.getD 2 t.c⟩
section
variable {ro : Option Nat} {N : Nat} {ds : List Deferred} {hh : PH} {w0 : World} {r : PH} {E : Env} {L : List SP} {d : Option Nat} {ty : Nat} {pos : String} {af : Array Edge} {g : Option (Nat × Bool)}
theorem step_sliceBoxTri {T b : Nat} (hu : prog.underlying T = some (.array 3 3)) {x : Operand} (hx : Sub (opTy E x) (tAt b 0)) :
    Step1 ⟨prog, ro, N, ds, hh, w0, r⟩ ⟨d, .slice T x none none none, ty, pos, af, g⟩ E L (tV (.slice (some ⟨b, 0, none⟩) 3 3)) :=
  Step.of_same (by intro c h; cases h) fun ac w h hw fr => by
    have hx2 : ac.eval x = .pointer (some ⟨b, 0, none⟩) := fr.get hx
    have z3 := sizeOf3
    exact ⟨_, by simp [execOp, Instr.sliceAt, hx2, run_underlying hu, Instr.sureAddr, Instr.sliceBounds, Sem.run_bind, z3, addr_add], rfl⟩
theorem cpy_cells (t : GTri) : ∀ xs : List Int, 0 < xs.length → xs.length ≤ 3 → (([Value.int .i64 t.a, .int .i64 t.b, .int .i64 t.c].toArray).toList.take 0 ++ xs.map (Value.int .i64 ·) ++ ([Value.int .i64 t.a, .int .i64 t.b, .int .i64 t.c].toArray).toList.drop (0 + (xs.map (Value.int .i64 ·)).length)).toArray = [Value.int .i64 (cpyT t xs).a, .int .i64 (cpyT t xs).b, .int .i64 (cpyT t xs).c].toArray
  | [p], _, _ => rfl
  | [p, q], _, _ => rfl
  | [p, q, s], _, _ => rfl
  | [], h, _ => by simp at h
  | _ :: _ :: _ :: _ :: _, _, h => by simp only [List.length_cons] at h; omega
theorem step_copyTri {b U Tb : Nat} {x y : Operand} {t : GTri} {v : Value} {xs : List Int} {S : List SP} (hx : Sub (opTy E x) (tV (.slice (some ⟨b, 0, none⟩) 3 3))) (hy : Sub (opTy E y) (rV.ty v)) (hL : LSub L (box b Tb rTri t :: own 3 rInt v xs :: S)) (h0 : 0 < xs.length) (h3 : xs.length ≤ 3) :
    Step ⟨prog, ro, N, ds, hh, w0, r⟩ ⟨d, .call { callee := .builtin .copy, args := #[x, y], argTypes := #[33, U] }, ty, pos, af, g⟩ E L (fun _ : Unit => tAny) (fun _ => box b Tb rTri (cpyT t xs) :: own 3 rInt v xs :: S) :=
  Step.of_run (by intro c h; cases h) fun a w h m l sp st fr => by
    have hv : a.eval x = .slice (some ⟨b, 0, none⟩) 3 3 := fr.get hx
    have hyv : a.eval y = v := (fr.get hy).1
    obtain ⟨m1, m2, d12, rfl, ⟨cs, rc, rfl⟩, m3, m4, d34, em, ho, s2⟩ := hL h m st
    subst em
    rcases ho with ⟨_, rfl, _⟩ | ⟨g', cap, cur, e1, rfl, hl, hm, hs, hr⟩
    · simp at h0
    · have hb := sp.heap_own
      have hcs : cs = [.int .i64 t.a, .int .i64 t.b, .int .i64 t.c] := by
        obtain ⟨c0, _, rfl, r0, c1, _, rfl, r1, c2, _, rfl, r2, rz⟩ := rc
        have r0 : c0 = [.int .i64 t.a] := r0
        have r1 : c1 = [.int .i64 t.b] := r1
        have r2 : c2 = [.int .i64 t.c] := r2
        subst r0 r1 r2; rw [show _ = [] from rz]; rfl
      subst hcs
      have hg : w.heap[g']? = some (.cells cur 3 (0, 0)) := sp.mw _ _ (PH.le_join_right d12 _ _ (PH.le_join_left _ _ _ _ (PH.one_same _ _)))
      have hr' := relAll_int.1 hr
      have hsrc : ∀ (j : Nat) u, (xs.map (Value.int .i64 ·))[j]? = some u → w.cell? ((⟨g', 0, none⟩ : Addr).add j) = some u := fun j u hj => by
        rw [addr_add, inw_cells (h := h) hg, Nat.zero_add]
        rw [← hr'] at hj
        rw [List.getElem?_take] at hj
        split at hj
        · exact (show cur[j]? = cur.toList[j]? by simp).trans hj
        · cases hj
      have hrun := run_copy_row (P := prog) w 33 U ty 3 b 0 3 3 ⟨g', 0, none⟩ xs.length cap [Value.int .i64 t.a, .int .i64 t.b, .int .i64 t.c].toArray Tb (xs.map (Value.int .i64 ·)) underlying33 (by kernel_rfl) hb (by rw [List.length_map]; exact (Nat.min_eq_left h3).symm) hsrc (by simpa using h3) (by intro u hu; obtain ⟨z, _, rfl⟩ := List.mem_map.1 hu; rfl)
      refine ⟨(), .int .i64 xs.length, w.setRow b ([Value.int .i64 (cpyT t xs).a, .int .i64 (cpyT t xs).b, .int .i64 (cpyT t xs).c].toArray), h, (PH.one b (.cells _ Tb (0, 0))).join _, ?_, HL.same ⟨rfl, rfl, rfl⟩, Sep.write d12 sp (fun b' hne' _ => setRow_other w b b' _ hne') (setRow_heap w b _ ([Value.int .i64 (cpyT t xs).a, .int .i64 (cpyT t xs).b, .int .i64 (cpyT t xs).c].toArray) Tb _ hb), ?_, trivial⟩
      · subst e1
        have e2 := cpy_cells t xs h0 h3
        rw [e2] at hrun
        simp only [List.length_map] at hrun
        simp [execOp, resolve, invoke, builtin, hv, hyv, hrun, goInt]
      · exact ⟨_, _, PH.one_disj_iff.2 (PH.one_disj_iff.1 d12), rfl, ⟨_, ⟨[Value.int .i64 (cpyT t xs).a], _, rfl, rfl, ⟨[Value.int .i64 (cpyT t xs).b], _, rfl, rfl, ⟨[Value.int .i64 (cpyT t xs).c], _, rfl, rfl, rfl⟩⟩⟩, rfl⟩, _, m4, d34, rfl, .inr ⟨g', cap, cur, e1, rfl, hl, hm, hs, hr⟩, s2⟩
end
theorem sortI_length (xs : List Int) : (sortI xs).length = xs.length := by simp [sortI]
def parts6 : List (List Int) := [[0], [1], [2], [0, 1], [0, 2], [1, 2]]
def partOk (m p : List Int) : Bool := !(decide ((m.length : Int) ≤ p.length) || decide ((m.length : Int) ≤ nth p (p.length - 1)))
def partM (m p : List Int) : List Int := p.map fun i => nth m i.toNat
def partK (m p : List Int) (k : Nat) : List Int := (p.take k).map fun i => nth m i.toNat
theorem partK_succ {m p : List Int} {k : Nat} (h : k < p.length) : partK m p (k + 1) = partK m p k ++ [nth m (nth p k).toNat] := by rw [partK, takeV h]; simp [partK]
def hitM (mp : List (GTri × Bool)) (m p : List Int) : Bool := partOk m p && (mget mp (setM (partM m p))).getD false
def contV (mp : List (GTri × Bool)) (t : GTri) : Bool := parts6.any (hitM mp (memM t))
theorem parts_ok : ∀ i, i < 6 → 0 < (nth parts6 i).length ∧ (nth parts6 i).length ≤ 2 ∧ ∀ j, j < (nth parts6 i).length → 0 ≤ nth (nth parts6 i) j ∧ nth (nth parts6 i) j ≤ nth (nth parts6 i) ((nth parts6 i).length - 1) := by decide
theorem memM_len (t : GTri) : (memM t).length ≤ 3 := Nat.le_trans (List.length_filter_le _ _) (by simp [GTri.l])
def memK (t : GTri) (k : Nat) : List Int := (t.l.take k).filter fun n => decide (0 ≤ n)
theorem memK_succ {t : GTri} {k : Nat} (h : k < 3) : memK t (k + 1) = memK t k ++ (if 0 ≤ nth t.l k then [nth t.l k] else []) := by
  rw [memK, takeV (by simpa [GTri.l] using h), List.filter_append]
  congr 1
  by_cases q : 0 ≤ nth t.l k <;> simp [q]
theorem memK_len (t : GTri) (k : Nat) : (memK t k).length ≤ 3 := Nat.le_trans (List.length_filter_le _ _) (by rw [List.length_take]; simp [GTri.l]; omega)
theorem any_hitV {α : Type} [Inhabited α] {p : α → Bool} {l : List α} {i : Nat} (hi : i < l.length) (hp : p (nth l i) = true) : l.any p = true := List.any_eq_true.2 ⟨_, nth_mem hi, hp⟩
theorem any_noV {α : Type} [Inhabited α] {p : α → Bool} {l : List α} (h : ∀ q, q < l.length → p (nth l q) = false) : l.any p = false := by
  rw [← Bool.not_eq_true, List.any_eq_true]
  rintro ⟨x, hx, hp⟩
  obtain ⟨q, hq, rfl⟩ := mem_nthV hx
  rw [h q hq] at hp; cases hp
theorem setV_spec (v : Value) (xs : List Int) (h0 : 0 < xs.length) (h3 : xs.length ≤ 3) : Spec (X := Unit) prog 64 [rV.ty v] ([own 3 rInt v xs]) (fun _ => rTri.ty (setM xs)) (fun _ => [own 3 rInt v (sortI xs)]) := by
 refine Spec.enter func64 rfl rfl fun h0 w0 fr0 => ?_
 have hsl := sortI_length xs
 refine Jr ?_
 refine Jx rfl (step_alloc (fun w => zeroValue77 w) zr77) fun v2 => ?_
 refine JL_nil (Jr (Js rfl (step_build_tri underlying77 (fun w => zeroValue77 w) Sr Sr Sr) ?_))
 refine Jx rfl (step_alloc (fun w => zeroValue77 w) zr77) fun v3 => ?_
 refine Ju (step_store_box ty77 Sr Sr zS) fun _ => ?_
 refine JL_nil (Jr (Jm rfl ?_))
 refine Jx rfl (step_call zS (Sort_spec v xs zG) ⟨Sr, trivial⟩ call92) fun v6 => ?_
 refine JL_nil (Jr (Js rfl (step_sliceBoxTri underlying77 Sr) (Jm rfl ?_)))
 refine Jx rfl (step_copyTri (U := 33) (Tb := 77) Sr Sr (LSub.cons zS SPs.rfl (LSub.cons zS SPs.rfl LSub.rfl)) zG zG) fun v9 => ?_
 refine JL_nil (Jr ?_)
 refine Js rfl (step_load_box ty77 Sr zS) ?_
 refine Ju (step_store_box ty77 Sr Sr zS) fun _ => ?_
 refine JL_nil (J_ret ?_)
 refine K_ret1' (rv := .cell 2 77) (S := [box v2 77 rTri (setM xs), box v3 77 rTri (setM xs)]) rfl () ?_ (.cell ty77 Sr zS Sr) (Frz.sub Sr)
 exact .take (.take (.skip .nil))
theorem members_spec (t : GTri) : Fun1 prog 34 [rTri.ty t] (tSlE 3 rInt (memM t)) := by
 refine Spec.enter func34 rfl rfl fun h0 w0 fr0 => ?_
 refine Jr (Js rfl (step_box (R := rTri) Sr) (Ja rfl (JL_nil (Jr (Ja rfl ?_)))))
 refine JL_nil (J_seq (Jr (Jl rfl ty77 Sr (Jm rfl (JL_nil ?_)))))
 refine J_block ?_
 refine J_loopL (σ := Nat × Value) (fun ⟨i, u⟩ => i ≤ 3) (fun ⟨i, u⟩ => upd (upd (upd (upd env0 2 (tV (.slice none 0 0))) 3 (rV.ty u)) 6 (rTri.ty t)) 7 (tV (.int .i64 (i : Int)))) (fun ⟨i, u⟩ => [own 3 rInt u (memK t i)]) (fun ⟨i, u⟩ => 3 - i) (0, .slice none 0 0) (by simp) (.u (.u (SubE.upd (Sub.rV rfl) (zU)))) (LSub.nilown) ?_
 rintro ⟨i, u⟩ hi
 try dsimp only at hi
 refine Jr (Js rfl (step_lss Sr Sr) (JL_nil (J_seq ?_)))
 refine J_cond Sr (fun h8 => ?_) (fun h8 => ?_)
 ·
  try simp only [NF] at h8
  refine J_skip (J_seq (J_block (Jr ?_)))
  refine Js rfl (step_index_tri (n := i) underlying77 Sr Sr (by rfl) zG) ?_
  refine Ja rfl (JL_nil (Jr (Jm rfl (Js rfl (step_geq Sr Sr) (JL_nil ?_)))))
  refine J_cond Sr (fun h11 => ?_) (fun h11 => ?_)
  ·
   try simp only [NF] at h11
   refine J_region (Jm rfl (Jm rfl ?_))
   refine Js rfl (step_literal (ys := [_]) underlying33 el3 ⟨rfl, Sr, trivial⟩ rfl (by decide)) ?_
   refine Jx rfl (step_append underlying33 el3 Sr Sr zS (by have := memK_len t i; simp; omega) (by have := memK_len t i; simp; omega)) fun v15 => ?_
   refine Ja rfl (JL_nil (J_region (Js rfl (step_add Sr Sr z6) (Jm rfl (JL_nil ?_)))))
   refine K_againL (σ := Nat × Value) (s := (i, u)) (i + 1, v15) zO zG (SubE.upd (Sub.int (by simp)) (zU)) (.c zS (own_eq (by rw [memK_succ zG, if_pos h11])) (LSub.nil))
  try simp only [NF] at h11
  refine J_skip (J_region (Js rfl (step_add Sr Sr z6) (Jm rfl (JL_nil ?_))))
  refine K_againL (σ := Nat × Value) (s := (i, u)) (i + 1, u) zO zG (SubE.upd (Sub.int (by simp)) (zU)) (.c zS (own_eq (by rw [memK_succ zG, if_neg zG, List.append_nil])) (LSub.nil))
 try simp only [NF] at h8
 obtain rfl : i = 3 := by omega
 refine J_exit (Jr (Jm rfl (Ja rfl (JL_nil (J_ret ?_)))))
 refine K_ret1' (rv := .tmp 2) rfl () (Sel.all _) (.tmp Sr) Frz.ownE
theorem contV_spec (A : SP) (n : Nat) (mp : List (GTri × Bool)) (hv : MapView kvT rBool A (.map (some n)) mp) (t : GTri) : Spec (X := Unit) prog 41 [tV (.map (some n)), rTri.ty t] ([A]) (fun _ => tV (.bool (contV mp t))) (fun _ => [A]) := by
 refine Spec.enter func41 rfl rfl fun h0 w0 fr0 => ?_
 refine Jr (Js rfl (step_box (R := rTri) Sr) (Ja rfl (JL_nil (Jr (Jl rfl ty77 Sr ?_)))))
 refine Js rfl (step_call0 (members_spec _) ⟨Sr, trivial⟩ call34) (Ja rfl (JL_nil (J_seq (Jr ?_))))
 refine Js rfl (step_literal (ys := [0]) underlying33 el3 ⟨rfl, Sr, trivial⟩ rfl (by decide)) ?_
 refine Js rfl (step_literal (ys := [1]) underlying33 el3 ⟨rfl, Sr, trivial⟩ rfl (by decide)) ?_
 refine Js rfl (step_literal (ys := [2]) underlying33 el3 ⟨rfl, Sr, trivial⟩ rfl (by decide)) ?_
 refine Js rfl (step_literal (ys := [0, 1]) underlying33 el3 ⟨rfl, Sr, rfl, Sr, trivial⟩ rfl (by decide)) ?_
 refine Js rfl (step_literal (ys := [0, 2]) underlying33 el3 ⟨rfl, Sr, rfl, Sr, trivial⟩ rfl (by decide)) ?_
 refine Js rfl (step_literal (ys := [1, 2]) underlying33 el3 ⟨rfl, Sr, rfl, Sr, trivial⟩ rfl (by decide)) ?_
 refine Js rfl (step_literal (ys := parts6) underlying45 el33 ⟨rfl, Sr, rfl, Sr, rfl, Sr, rfl, Sr, rfl, Sr, rfl, Sr, trivial⟩ rfl (by decide)) ?_
 refine Js rfl (step_len_sl underlying45 Sr) (Jm rfl (JL_nil (J_block ?_)))
 refine J_loopL (σ := Nat) (fun i => i ≤ 6 ∧ ∀ q, q < i → hitM mp (memM t) (nth parts6 q) = false) (fun i => upd (upd (upd (upd (upd env0 0 (tV (.map (some n)))) 5 (tSlE 3 rInt (memM t))) 19 (tSl (rSl rInt) parts6)) 20 (tV (.int .i64 6))) 21 (tV (.int .i64 i))) (fun i => [A]) (fun i => 6 - i) 0 ⟨by omega, fun q hq => by omega⟩ (zU) (LSub.rfl) ?_
 rintro i ⟨hi, hall⟩
 refine Jr (Js rfl (step_lss Sr Sr) (JL_nil (J_seq ?_)))
 refine J_cond Sr (fun h22 => ?_) (fun h22 => ?_)
 ·
  try simp only [NF] at h22
  have hlt : i < 6 := by omega
  obtain ⟨hp0, hp2, hpj⟩ := parts_ok i hlt
  refine J_skip (J_seq (J_block (Jr ?_)))
  refine Js rfl (step_indexAddr_sl  underlying45 ty33 Sr Sr rfl (gb (by show i < 6; omega))) ?_
  refine Jl rfl ty33 Sr (Ja rfl (JL_nil (J_seq (Jr (Jm rfl ?_)))))
  refine Js rfl (step_len_sl underlying33 Sr) (Jm rfl (Js rfl (step_len_sl underlying33 Sub.ofE) (Js rfl (step_geq Sr Sr) (Jm rfl ?_))))
  refine Jk rfl Sr rfl (step_move Sr) ?_
  refine Jk rfl Sr rfl (step_move Sr) ?_
  refine Jg rfl Sr rfl (fun hw => step_len_sl underlying33 (Sub.w hw)) ?_
  refine Jg rfl Sr rfl (fun hw => step_sub (Sub.w hw) Sr (by have hwq := hw; (try simp only [beqB_t, beqB_f, NF] at hwq); unfold in64; omega)) ?_
  refine Jg rfl Sr rfl (fun hw => step_indexAddr_sl (i := (nth parts6 i).length - 1) underlying33 ty3 (Sub.w hw) (Sub.w hw) (by have hwq := hw; (try simp only [beqB_t, beqB_f, NF] at hwq); have hwq := hw; (try simp only [beqB_t, beqB_f, decide_eq_true_eq, decide_eq_false_iff_not, Bool.and_eq_true, Bool.or_eq_true, Bool.or_eq_false_iff] at hwq); omega) (gb (by have hwq := hw; (try simp only [beqB_t, beqB_f, NF] at hwq); have hwq := hw; (try simp only [beqB_t, beqB_f, decide_eq_true_eq, decide_eq_false_iff_not, Bool.and_eq_true, Bool.or_eq_true, Bool.or_eq_false_iff] at hwq); omega))) ?_
  refine Jg rfl Sr rfl (fun hw => step_load_ptr ty3 (Sub.w hw)) ?_
  refine Jk rfl Sr rfl (step_move Sr) ?_
  refine Jg rfl Sr rfl (fun hw => step_len_sl underlying33 (Sub.trans (Sub.w hw) Sub.ofE)) (Jg rfl Sr rfl (fun hw => step_geq (Sub.w hw) (Sub.w hw)) (Js rfl (step_pick_or Sr Sr) (JL_nil ?_)))
  refine J_cond Sr (fun h40 => ?_) (fun h40 => ?_)
  ·
   try simp only [NF] at h40
   have hno : partOk (memM t) (nth parts6 i) = false := by simp only [partOk, Bool.not_eq_false', Bool.or_eq_true, decide_eq_true_eq]; rcases h40 with q | q <;> omega
   refine J_exit (J_region (Js rfl (step_add Sr Sr z6) (Jm rfl (JL_nil ?_))))
   refine K_againL (σ := Nat) (s := i) (i + 1) zO ?_ (zU) (LSub.rfl)
   refine ⟨by omega, fun q hq => ?_⟩
   by_cases e : q = i
   ·
    subst e; rw [hitM, hno]; rfl
   exact hall q zG
  try simp only [NF] at h40
  have hok : partOk (memM t) (nth parts6 i) = true := by simp only [partOk, Bool.not_eq_true', Bool.or_eq_false_iff, decide_eq_false_iff_not]; constructor <;> omega
  refine J_skip (Jr (Ja rfl (JL_nil (J_seq (Jr ?_)))))
  refine Jm rfl (Js rfl (step_len_sl underlying33 Sr) (Jm rfl (JL_nil (J_block ?_))))
  refine J_loopL (σ := Nat × Value) (fun ⟨j, u⟩ => j ≤ (nth parts6 i).length) (fun ⟨j, u⟩ => upd (upd (upd (upd (upd (upd (upd (upd (upd env0 0 (tV (.map (some n)))) 5 (tSlE 3 rInt (memM t))) 8 (rV.ty u)) 19 (tSl (rSl rInt) parts6)) 20 (tV (.int .i64 6))) 21 (tV (.int .i64 i))) 41 (tSl rInt (nth parts6 i))) 42 (tV (.int .i64 ((nth parts6 i).length : Int)))) 43 (tV (.int .i64 j))) (fun ⟨j, u⟩ => [own 3 rInt u (partK (memM t) (nth parts6 i) j), A]) (fun ⟨j, u⟩ => (nth parts6 i).length - j) (0, .slice none 0 0) (by simp) (.u (.u (.u (.u (.u (.u (SubE.upd (Sub.rV rfl) (zU)))))))) (LSub.nilown) ?_
  rintro ⟨j, u⟩ hj
  try dsimp only at hj
  refine Jr (Js rfl (step_lss Sr Sr) (JL_nil (J_seq ?_)))
  refine J_cond Sr (fun h44 => ?_) (fun h44 => ?_)
  ·
   try simp only [NF] at h44
   have hlj : j < (nth parts6 i).length := by omega
   have hpjj := hpj j hlj
   refine J_skip (J_seq (J_block (Jr ?_)))
   refine Js rfl (step_indexAddr_sl  underlying33 ty3 Sr Sr rfl (gb (by exact hlj))) ?_
   refine Jl rfl ty3 Sr (Ja rfl (JL_nil (J_region (Jm rfl (Jm rfl ?_)))))
   refine Jm rfl (Js rfl (step_indexAddr_sl (i := (nth (nth parts6 i) j).toNat) underlying33 ty3 Sub.ofE Sr zG (gb zG)) (Jl rfl ty3 Sr ?_))
   refine Js rfl (step_literal (ys := [_]) underlying33 el3 ⟨rfl, Sr, trivial⟩ rfl (by decide)) ?_
   refine Jx rfl (step_append underlying33 el3 Sr Sr zS (by rw [partK, List.length_map, List.length_take]; simp; omega) (by rw [partK, List.length_map, List.length_take]; simp; omega)) fun v53 => ?_
   refine Ja rfl (JL_nil (J_region (Js rfl (step_add Sr Sr z6) (Jm rfl (JL_nil ?_)))))
   refine K_againL (σ := Nat × Value) (s := (j, u)) (j + 1, v53) zO zG (zU) (.c zS (own_eq (by rw [partK_succ hlj])) (zL))
  try simp only [NF] at h44
  have hgj : j = (nth parts6 i).length := by omega
  have hpk : partK (memM t) (nth parts6 i) j = partM (memM t) (nth parts6 i) := by rw [partK, List.take_of_length_le zG]; rfl
  refine J_exit (J_seq ?_)
  refine K_lsub (L' := [own 3 rInt u (partM (memM t) (nth parts6 i)), A]) (.c zS (own_eq hpk) zL) ?_
  refine J_region (Jm rfl (Jm rfl ?_))
  refine Jx rfl (step_call zS (setV_spec u (partM (memM t) (nth parts6 i)) (by rw [partM, List.length_map]; omega) (by rw [partM, List.length_map]; omega)) ⟨Sr, trivial⟩ call64) fun v57 => ?_
  refine Js rfl (step_lookupD (kv := kvT) (R := rBool) key77 underlying66 (fun w => zeroValue4 w) zr4 Sr Sub.tri hv zS) ?_
  refine JL_nil ?_
  refine J_cond Sr (fun h58 => ?_) (fun h58 => ?_)
  ·
   try simp only [NF] at h58
   refine Jr (Ja rfl (JL_nil (J_ret ?_)))
   refine K_drop zS ?_
   refine K_retv (rv := .tmp 4) rfl () (.tmp Sr) (Sub.bool ?_)
   exact (any_hitV (p := hitM mp (memM t)) hlt (by rw [hitM, hok, h58]; rfl)).symm
  try simp only [NF] at h58
  refine J_skip (J_region (Js rfl (step_add Sr Sr z6) (Jm rfl (JL_nil ?_))))
  refine K_drop zS ?_
  refine K_againL (σ := Nat) (s := i) (i + 1) zO ?_ (zU) (LSub.rfl)
  refine ⟨by omega, fun q hq => ?_⟩
  by_cases e : q = i
  ·
   subst e; rw [hitM, h58, Bool.and_false]
  exact hall q zG
 try simp only [NF] at h22
 have hge : i = 6 := by omega
 refine J_exit (Jr (Ja rfl (JL_nil (J_ret ?_))))
 refine K_retv (rv := .tmp 4) rfl () (.tmp Sr) (Sub.bool ?_)
 exact (any_noV fun q hq => hall q (by have hq : q < 6 := hq; omega)).symm
open Go Go.Proofs Go.Proofs.Tryz
structure VS where
  rules : List GRule
  pairs : List Gpair
  nP : Nat
  nF : Nat
  nE : Nat
  nI : Nat
  nV : Nat
  pat : List (GTri × Int)
  facts : List (Int × GFact)
  ent : SetL Int
  idx : SetL Gkey
  vio : List (GTri × Bool)
  work : Int
def VS.g (s : VS) : GVigil := { rules := s.rules, pairs := s.pairs, pairAt := .map (some s.nP), facts := .map (some s.nF), entities := .map (some s.nE), index := .map (some s.nI), violations := .map (some s.nV), work := s.work }
abbrev vB (b : Nat) (s : VS) : SP := box b 69 rVigil s.g
abbrev vP (s : VS) : SP := mapD kvT rInt (.map (some s.nP)) s.pat
abbrev vF (s : VS) : SP := mapD kvI rFact (.map (some s.nF)) s.facts
abbrev vE (s : VS) : SP := mapD kvI rV (.map (some s.nE)) (hvals s.ent)
abbrev vS (s : VS) : SP := setsO s.ent
abbrev vI (s : VS) : SP := mapD kvK rV (.map (some s.nI)) (hvals s.idx)
abbrev vX (s : VS) : SP := setsO s.idx
abbrev vV (s : VS) : SP := mapD kvT rBool (.map (some s.nV)) s.vio
theorem K_view {κ β : Type} {kv : κ → Value} {R : Rp β} {A : SP} {v : Value} {m : List (κ × β)} {C : Cx} {k : Act → World → Prop} {E : Env} {L S : List SP} (sel : Sel L [A] S) (hv : MapView kv R A v m)
    (hk : (m.map (·.1)).Nodup → (∃ p, v = .map p) → (v = .map none → m = []) → K C k E L) : K C k E L := fun a w p => by
  obtain ⟨h1, h2, h, mm, l, sp, st, f⟩ := id p
  obtain ⟨m1, m2, d12, rfl, ho, s2⟩ := sel.one.1 st
  obtain ⟨hn, q⟩ := hv h m1 ho
  refine hk hn ?_ ?_ a w p
  · rcases q with ⟨rfl, _⟩ | ⟨r, es, c, rfl, _⟩
    · exact ⟨_, rfl⟩
    · exact ⟨_, rfl⟩
  · intro e
    rcases q with ⟨_, h⟩ | ⟨r, es, c, rfl, _⟩
    · exact h
    · cases e
theorem isNilM_iff {v : Value} (h : ∃ p, v = .map p) : (isNilM v = true ↔ v = .map none) ∧ (isNilM v = false ↔ ∃ n, v = .map (some n)) := by
  obtain ⟨p, rfl⟩ := h
  cases p <;> simp [isNilM]
section
variable {κ γ : Type} [DecidableEq κ] {F : Value → γ → SP} {dv : Value} {dg : γ} {L : List SP}
theorem hput_hput (k : κ) (v w : Value) (x y : γ) : ∀ q : HeldL κ γ, hput (hput q k v x) k w y = hput q k w y
  | [] => by simp [hput]
  | (a, v0, x0) :: q => by
    by_cases h : k = a
    · simp [hput, h]
    · simp only [hput, if_neg h]; rw [hput_hput k v w x y q]
theorem hget_some {k : κ} : ∀ {q : HeldL κ γ}, (hval dv dg q k).1 ≠ dv → (mget (hvals q) k).isSome = true
  | [], h => absurd rfl h
  | (a, v0, x0) :: q, h => by
    by_cases hk : k = a
    · simp [mget, hk]
    · simp only [List.map_cons, mget, if_neg hk]
      exact hget_some (q := q) (by simpa [hval, hk] using h)
/-- What is held under a key, changed where it lies. -/
def hupd (q : HeldL κ γ) (k : κ) (f : γ → γ) : HeldL κ γ := match q with
  | [] => []
  | (a, v, xs) :: q => if k = a then (a, v, f xs) :: q else (a, v, xs) :: hupd q k f
theorem hupd_vals (k : κ) (f : γ → γ) : ∀ q : HeldL κ γ, hvals (hupd q k f) = hvals q
  | [] => rfl
  | (a, v, xs) :: q => by
    by_cases h : k = a
    · simp [hupd, h]
    · simp only [hupd, if_neg h, List.map_cons]; exact congrArg (List.cons _) (hupd_vals k f q)
theorem hval_hupd (k j : κ) (f : γ → γ) (hf : f dg = dg) : ∀ q : HeldL κ γ, hval dv dg (hupd q k f) j = if j = k then ((hval dv dg q k).1, f (hval dv dg q k).2) else hval dv dg q j
  | [] => by by_cases h : j = k <;> simp [hupd, hval, hf]
  | (a, v, xs) :: q => by
    by_cases h : k = a
    · subst h
      by_cases h2 : j = k <;> simp [hupd, hval, h2]
    · by_cases h2 : j = a
      · subst h2
        have : ¬ j = k := fun e => h e.symm
        simp [hupd, hval, h, this]
      · simp only [hupd, if_neg h, hval, if_neg h2]; exact hval_hupd k j f hf q
theorem held_upd (hn : ∀ L, LSub (F dv dg :: L) L) (k : κ) (f : γ → γ) (hf : f dg = dg) : ∀ {q : HeldL κ γ} {L : List SP}, LSub (F (hval dv dg q k).1 (f (hval dv dg q k).2) :: heldO F (hrem q k) :: L) (heldO F (hupd q k f) :: L)
  | [], L => by simp only [hval, hf]; exact hn _
  | (a, v, xs) :: q, L => by
    by_cases h : k = a
    · simp only [hval, hrem, hupd, if_pos h]; exact LSub.push
    · simp only [hval, hrem, hupd, if_neg h]
      exact LSub.trans (LSub.hd LSub.popS) (LSub.trans LSub.sw (LSub.trans (LSub.hd (held_upd hn k f hf)) LSub.push))
end
theorem sets_upd {κ : Type} [DecidableEq κ] (k : κ) (f : List (Int × Bool) → List (Int × Bool)) (hf : f [] = []) {q : SetL κ} {L : List SP} : LSub (setO (sval q k).1 (f (sval q k).2) :: setsO (hrem q k) :: L) (setsO (hupd q k f) :: L) := held_upd (fun _ => mapD.unnil) k f hf
theorem sets_join {κ : Type} [DecidableEq κ] (k : κ) (v : Value) (ys : List (Int × Bool)) {q : SetL κ} {L : List SP} : LSub (setO v ys :: setsO (hrem q k) :: L) (setsO (hput q k v ys) :: L) := held_join k v ys
theorem mapD_eq {κ β : Type} [DecidableEq κ] {kv : κ → Value} {R : Rp β} {v : Value} {m m' : List (κ × β)} (e : m = m') : SPs (mapD kv R v m) (mapD kv R v m') := e ▸ SPs.rfl
theorem setO_eq {v v' : Value} {m m' : List (Int × Bool)} (e1 : v = v') (e : m = m') : SPs (setO v m) (setO v' m') := e1 ▸ e ▸ SPs.rfl
theorem setsO_eq {κ : Type} [DecidableEq κ] {q q' : SetL κ} (e : q = q') : SPs (setsO q) (setsO q') := e ▸ SPs.rfl
/-- A number put into the set under a key; where there was none, a new one (v). -/
def sput {κ : Type} [DecidableEq κ] (q : SetL κ) (k : κ) (v : Value) (n : Int) : SetL κ := hput q k v (mput (sval q k).2 n true)
theorem Spec.pureL {X : Type} {P : Program} {f : Nat} {As : List Ty} {A : SP} {L : List SP} {res : X → Ty} {Lo : X → List SP} {φ : Prop} (hA : ∀ h m, A.p h m → φ) (h : φ → Spec P f As (A :: L) res Lo) : Spec P f As (A :: L) res Lo := fun vs h0 m r w ha sp st => by
  obtain ⟨m1, m2, d, e, a, b⟩ := id st
  exact h (hA _ _ a) vs h0 m r w ha sp st
theorem Spec.exL {X ι : Type} {P : Program} {f : Nat} {As : List Ty} {A : ι → SP} {L : List SP} {res : X → Ty} {Lo : X → List SP} (h : ∀ i, Spec P f As (A i :: L) res Lo) : Spec P f As (SP.ex A :: L) res Lo := fun vs h0 m r w ha sp st => by
  obtain ⟨m1, m2, d, e, ⟨i, a⟩, b⟩ := st
  exact h i vs h0 m r w ha sp ⟨m1, m2, d, e, a, b⟩
theorem Spec.lsub {X : Type} {P : Program} {f : Nat} {As : List Ty} {L L1 : List SP} {res : X → Ty} {Lo : X → List SP} (s : LSub L L1) (h : Spec P f As L1 res Lo) : Spec P f As L res Lo := fun vs h0 m r w ha sp st => h vs h0 m r w ha sp (s _ _ st)
theorem Spec.post {X Y : Type} {P : Program} {f : Nat} {As : List Ty} {L : List SP} {res : X → Ty} {Lo : X → List SP} {res' : Y → Ty} {Lo' : Y → List SP} (F : X → Y) (h1 : ∀ x, Sub (res x) (res' (F x))) (h2 : ∀ x, LSub (Lo x) (Lo' (F x))) (h : Spec P f As L res Lo) : Spec P f As L res' Lo' := fun vs h0 m r w ha sp st => by
  refine (h vs h0 m r w ha sp st).mono ?_
  rintro e w' ⟨x, v, h', m', he, l, s, st', hv⟩
  exact ⟨F x, v, h', m', he, l, s, h2 x _ _ st', h1 x _ _ hv⟩
theorem Spec.pure0 {X : Type} {P : Program} {f : Nat} {As : List Ty} {L : List SP} {φ : Prop} {res : X → Ty} {Lo : X → List SP} (h : φ → Spec P f As L res Lo) : Spec P f As (SP.pure φ :: L) res Lo := fun vs h0 m r w ha sp st => by
  obtain ⟨m1, m2, d, e, ⟨hp, e1⟩, b⟩ := st
  subst e1; rw [PH.emp_join] at e; subst e
  exact h hp vs h0 _ r w ha sp b
theorem LSub.starsL {A L L' : List SP} (h : LSub (A ++ L) L') : LSub (Lg.stars A :: L) L' := fun hh m p => h hh m (stars_append.2 p)
/-! ### Rounds over a map -/
structure RanI {κ β : Type} (m kd : List (κ × β)) : Prop where
  nd : (kd.map (·.1)).Nodup
  sub : ∀ p ∈ kd, p ∈ m
theorem nodup_lenV {α : Type} [DecidableEq α] : ∀ {l r : List α}, l.Nodup → (∀ x ∈ l, x ∈ r) → l.length ≤ r.length
  | [], _, _, _ => Nat.zero_le _
  | a :: l, r, h, hs => by
    have h1 := List.nodup_cons.1 h
    have h2 := nodup_lenV (l := l) (r := r.erase a) h1.2 (fun x hx => (List.mem_erase_of_ne (fun e => h1.1 (by rw [← e]; exact hx))).2 (hs x (List.mem_cons_of_mem _ hx)))
    have h3 := List.length_erase_of_mem (hs a (List.mem_cons_self ..))
    have h4 := List.length_pos_of_mem (hs a (List.mem_cons_self ..))
    simp only [List.length_cons]; omega
section
variable {κ β : Type} [DecidableEq κ] {m kd : List (κ × β)}
theorem RanI.start : RanI m [] := ⟨List.nodup_nil, fun p h => by cases h⟩
theorem RanI.next {p : κ × β} (h : RanI m kd) (hp : p ∈ m ∧ p.1 ∉ kd.map (·.1)) : RanI m (kd ++ [p]) := ⟨by
  rw [List.map_append, List.nodup_append]
  exact ⟨h.nd, by simp, fun a ha b hb e => by simp at hb; subst hb; subst e; exact hp.2 ha⟩, fun q hq => by
  rcases List.mem_append.1 hq with h1 | h1
  · exact h.sub q h1
  · simp at h1; subst h1; exact hp.1⟩
theorem RanI.len (h : RanI m kd) : kd.length ≤ m.length := by
  have := nodup_lenV (l := kd.map (·.1)) (r := m.map (·.1)) h.nd (fun x hx => by
    obtain ⟨p, hp, rfl⟩ := List.mem_map.1 hx
    exact List.mem_map.2 ⟨p, h.sub p hp, rfl⟩)
  simpa using this
theorem keys_inj (hm : (m.map (·.1)).Nodup) {p q : κ × β} (hp : p ∈ m) (hq : q ∈ m) (e : p.1 = q.1) : p = q := by
  have h1 := (mget_mem hm).2 hp
  have h2 := (mget_mem hm).2 hq
  rw [e] at h1
  rw [h1] at h2
  exact Prod.ext e (Option.some.inj h2)
theorem RanI.all (h : RanI m kd) (hm : (m.map (·.1)).Nodup) (ha : ∀ p ∈ m, p.1 ∈ kd.map (·.1)) : ∀ p, p ∈ kd ↔ p ∈ m := fun p => ⟨h.sub p, fun hp => by
  obtain ⟨q, hq, e⟩ := List.mem_map.1 (ha p hp)
  have := keys_inj hm (h.sub q hq) hp e
  subst this; exact hq⟩
theorem ran_snoc {kv : κ → Value} {R : Rp β} {b : Nat} {v : Value} {p : κ × β} {cur : Option (κ × β)} : SPs (ranD kv R b v m (kd.map (·.1) ++ [p.1]) cur) (ranD kv R b v m ((kd ++ [p]).map (·.1)) none) := fun h mm q => by
  have := ranD.weak h mm q
  simpa using this
theorem ran_end {kv : κ → Value} {R : Rp β} {b : Nat} {v : Value} {L : List SP} {k : List κ} {cur : Option (κ × β)} : LSub (ranD kv R b v m k cur :: L) (mapD kv R v m :: junk :: L) := ranD.over
end
open Go Go.Proofs Go.Proofs.Tryz
theorem cloneD_spec (v : Value) (m : List (Int × Bool)) : Spec (X := { z : Value // isNilM z = isNilM v }) prog 37 [tV v] [setO v m] (fun z => tV z.1) (fun z => [setO z.1 m, setO v m]) := by
  intro vs h mm r w ha sp st
  match vs, ha with
  | [u1], ⟨a1, _⟩ =>
  have a1 : u1 = v := a1
  subst a1
  obtain ⟨m1, m2, d12, rfl, ⟨hn, ho⟩, s2⟩ := st
  have s2 : m2 = PH.emp := s2
  subst s2
  rw [PH.join_emp] at sp
  rcases ho with ⟨rfl, rfl, rfl⟩ | ⟨r0, es, c, rfl, rfl, hr, hB⟩
  · refine (AnyW.maps_Clone_nil Tryz.cloneW w).mono ?_
    rintro e w' ⟨rfl, rfl⟩
    exact ⟨⟨.map none, rfl⟩, _, h, PH.emp, rfl, HL.refl, sp, mapD.nil _ _ (mapD.nil _ _ rfl), rfl⟩
  · have hb := sp.mw _ _ (PH.one_same _ _)
    refine (AnyW.maps_Clone Tryz.cloneW r0 _ _ w hb).mono ?_
    rintro e w' ⟨rfl, rfl⟩
    have := sp.allocOwn (.map es.toArray c)
    refine ⟨⟨.map (some w.heap.size), rfl⟩, _, h, _, rfl, HL.own _, this, ?_, rfl⟩
    exact ⟨_, _, PH.disj_symm (PH.one_disj_new sp.mw _), rfl, ⟨hn, .inr ⟨w.heap.size, es, c, rfl, rfl, hr, hB⟩⟩, _, PH.emp, PH.disj_emp _, (PH.join_emp _).symm, ⟨hn, .inr ⟨r0, es, c, rfl, rfl, hr, hB⟩⟩, rfl⟩
def copM (md kd : List (Int × Bool)) : List (Int × Bool) := kd.foldl (fun m p => mput m p.1 p.2) md
theorem copM_snoc (md kd : List (Int × Bool)) (p : Int × Bool) : copM md (kd ++ [p]) = mput (copM md kd) p.1 p.2 := by simp [copM]
structure PairOk (rules : List GRule) (p : Gpair) : Prop where
  r0 : 0 ≤ p.rule
  r1 : p.rule < (rules.length : Int)
  i0 : 0 ≤ p.i
  i1 : p.i < ((nth rules p.rule.toNat).Tables.length : Int)
  j0 : 0 ≤ p.j
  j1 : p.j < ((nth rules p.rule.toNat).Tables.length : Int)
  ij : p.i ≠ p.j
  cl : p.cols.length ≤ 1000
structure RulesOk (rules : List GRule) (pairs : List Gpair) : Prop where
  rl : rules.length ≤ 1000000
  pl : pairs.length ≤ 1000000
  tab : ∀ d ∈ rules, 1 ≤ d.Tables.length ∧ d.Tables.length ≤ 3 ∧ d.Tests.length ≤ 1000
  prs : ∀ p ∈ pairs, PairOk rules p
/-- The key under which a fact looks for others (z = 0) or is found (z = 1). -/
def keyV (rules : List GRule) (pairs : List Gpair) (z n : Nat) (f : GFact) : Option Gkey :=
  if f.Table = nth (nth rules (nth pairs n).rule.toNat).Tables (if z = 0 then (nth pairs n).i else (nth pairs n).j).toNat ∧ txOk f (nth pairs n).cols z = true then some ⟨n, txB f (nth pairs n).cols z (nth pairs n).cols.length⟩ else none
def meetV (s : VS) (n : Nat) (f : GFact) : Value × List (Int × Bool) := match keyV s.rules s.pairs 0 n f with
  | none => (.map none, [])
  | some k => sval s.idx k
def keysV (rules : List GRule) (pairs : List Gpair) (f : GFact) (n : Nat) : List Gkey := (List.range n).filterMap fun n => keyV rules pairs 1 n f
theorem keysV_succ (rules : List GRule) (pairs : List Gpair) (f : GFact) (n : Nat) : keysV rules pairs f (n + 1) = keysV rules pairs f n ++ (keyV rules pairs 1 n f).toList := by
  simp only [keysV, List.range_succ, List.filterMap_append]
  cases h : keyV rules pairs 1 n f <;> simp [List.filterMap, h]
theorem putI_spec (n : Nat) (q : SetL Int) (k : Int) (x : Int) : Spec (X := { w : Nat // isNilM (sval q k).1 = false → (sval q k).1 = .map (some w) }) prog 43 [tV (.map (some n)), tV (.int .i64 k), tV (.int .i64 x)] ([mapD kvI rV (.map (some n)) (hvals q), setsO q]) (fun w => tTup []) (fun w => [mapD kvI rV (.map (some n)) (hvals (sput q k (.map (some w.1)) x)), setsO (sput q k (.map (some w.1)) x)]) := by
 refine Spec.enter func43 rfl rfl fun h0 w0 fr0 => ?_
 refine J_seq (Jr (Jm rfl (Jm rfl ?_)))
 refine Js rfl (step_lookupS (kv := kvI) (q := q) (KeyT.int underlying3) underlying64 (fun w => zeroValue82 w) Sr Sr zS) ?_
 refine JL_lsub (L' := [setO (sval q k).1 (sval q k).2, setsO (hrem q k), mapD kvI rV (.map (some n)) (hvals q)]) (LSub.trans (LSub.cons zS SPs.rfl zL) (sets_split k)) ?_
 refine Js rfl (step_eqnilD (kv := kvI) (R := rBool) underlying82 Sr mapD.view zS) ?_
 refine JL_nil ?_
 refine K_view (kv := kvI) (R := rBool) (A := setO (sval q k).1 (sval q k).2) zS mapD.view fun hnk hvp hnl => ?_
 refine J_cond Sr (fun h9 => ?_) (fun h9 => ?_)
 ·
  try simp only [NF] at h9
  have hv0 := (isNilM_iff hvp).1.1 h9
  have hm0 := hnl hv0
  refine J_region (Jm rfl (Jm rfl ?_))
  refine Jx rfl (step_makeMapD (kv := kvI) (R := rBool)) fun v12 => ?_
  refine Ju (step_mapUpdateD (kv := kvI) (R := rV) (KeyT.int underlying3) underlying64 Sr Sr (Sub.rV rfl) zS) fun _ => ?_
  refine JL_nil ?_
  refine K_lsub (L' := [setO (.map (some v12)) [], setsO (hrem q k), mapD kvI rV (.map (some n)) (hvals (hput q k (.map (some v12)) []))]) (LSub.trans (.c zS (setO_eq hv0 hm0) (LSub.cons zS SPs.rfl (LSub.cons zS SPs.rfl (.c zS (mapD_eq (hvals_put k _ [] q)) LSub.nil)))) mapD.unnil) ?_
  refine J_region (Jm rfl (Jm rfl ?_))
  refine Js rfl (step_lookupS (kv := kvI) (q := (hput q k (.map (some v12)) [])) (KeyT.int underlying3) underlying64 (fun w => zeroValue82 w) Sr Sr zS) ?_
  refine Jm rfl ?_
  refine Ju (step_mapUpdateD (kv := kvI) (R := rBool) (KeyT.int underlying3) underlying82 (Sub.v (by rw [sval, hval_hput, if_pos rfl])) Sr Sr zS) fun _ => ?_
  refine JL_nil ?_
  refine K_lsub (L' := [mapD kvI rV (.map (some n)) (hvals (sput q k (.map (some v12)) x)), setsO (sput q k (.map (some v12)) x)]) (LSub.trans (.c zS (setO_eq (v' := .map (some v12)) (m' := mput (sval q k).2 x true) rfl (by rw [hm0])) (LSub.cons zS SPs.rfl (.c zS (mapD_eq (m' := hvals (sput q k (.map (some v12)) x)) (by rw [sput, ← hvals_put, ← hvals_put])) LSub.nil))) (LSub.trans (sets_join k _ _) zL)) ?_
  exact K_end0 rfl (⟨v12, fun h => by rw [h9] at h; cases h⟩ : { w : Nat // isNilM (sval q k).1 = false → (sval q k).1 = .map (some w) }) Sr
 try simp only [NF] at h9
 obtain ⟨w, hw⟩ := (isNilM_iff hvp).2.1 h9
 refine K_lsub (L' := [setO (.map (some w)) (sval q k).2, setsO (hrem q k), mapD kvI rV (.map (some n)) (hvals q)]) (.c zS (setO_eq hw rfl) zL) ?_
 refine J_skip (J_region (Jm rfl (Jm rfl ?_)))
 refine Js rfl (step_lookupS (kv := kvI) (q := q) (KeyT.int underlying3) underlying64 (fun w => zeroValue82 w) Sr Sr zS) ?_
 refine Jm rfl ?_
 refine Ju (step_mapUpdateD (kv := kvI) (R := rBool) (KeyT.int underlying3) underlying82 (Sub.v hw) Sr Sr zS) fun _ => ?_
 refine JL_nil ?_
 refine K_lsub (L' := [mapD kvI rV (.map (some n)) (hvals (sput q k (.map (some w)) x)), setsO (sput q k (.map (some w)) x)]) (LSub.trans (.c zS (setO_eq (v' := .map (some w)) (m' := mput (sval q k).2 x true) rfl rfl) (LSub.cons zS SPs.rfl (.c zS (mapD_eq (m' := hvals (sput q k (.map (some w)) x)) (hput_vals_same hw (hget_some (by rw [hw]; simp))).symm) LSub.nil))) (LSub.trans (sets_join k _ _) zL)) ?_
 exact K_end0 rfl (⟨w, fun _ => hw⟩ : { w : Nat // isNilM (sval q k).1 = false → (sval q k).1 = .map (some w) }) Sr
theorem putK_spec (n : Nat) (q : SetL Gkey) (k : Gkey) (x : Int) : Spec (X := { w : Nat // isNilM (sval q k).1 = false → (sval q k).1 = .map (some w) }) prog 46 [tV (.map (some n)), rkey.ty k, tV (.int .i64 x)] ([mapD kvK rV (.map (some n)) (hvals q), setsO q]) (fun w => tTup []) (fun w => [mapD kvK rV (.map (some n)) (hvals (sput q k (.map (some w.1)) x)), setsO (sput q k (.map (some w.1)) x)]) := by
 refine Spec.enter func46 rfl rfl fun h0 w0 fr0 => ?_
 refine Jr (Js rfl (step_box (R := rkey) Sr) (JL_nil (J_seq (Jr (Jm rfl ?_)))))
 refine Jl rfl ty95 Sr ?_
 refine Js rfl (step_lookupS (kv := kvK) (q := q) keyK underlying65 (fun w => zeroValue82 w) Sr Sub.key zS) ?_
 refine JL_lsub (L' := [setO (sval q k).1 (sval q k).2, setsO (hrem q k), mapD kvK rV (.map (some n)) (hvals q)]) (LSub.trans (LSub.cons zS SPs.rfl zL) (sets_split k)) ?_
 refine Js rfl (step_eqnilD (kv := kvI) (R := rBool) underlying82 Sr mapD.view zS) ?_
 refine JL_nil ?_
 refine K_view (kv := kvI) (R := rBool) (A := setO (sval q k).1 (sval q k).2) zS mapD.view fun hnk hvp hnl => ?_
 refine J_cond Sr (fun h9 => ?_) (fun h9 => ?_)
 ·
  try simp only [NF] at h9
  have hv0 := (isNilM_iff hvp).1.1 h9
  have hm0 := hnl hv0
  refine J_region (Jm rfl (Jl rfl ty95 Sr ?_))
  refine Jx rfl (step_makeMapD (kv := kvI) (R := rBool)) fun v12 => ?_
  refine Ju (step_mapUpdateD (kv := kvK) (R := rV) keyK underlying65 Sr Sub.key (Sub.rV rfl) zS) fun _ => ?_
  refine JL_nil ?_
  refine K_lsub (L' := [setO (.map (some v12)) [], setsO (hrem q k), mapD kvK rV (.map (some n)) (hvals (hput q k (.map (some v12)) []))]) (LSub.trans (.c zS (setO_eq hv0 hm0) (LSub.cons zS SPs.rfl (LSub.cons zS SPs.rfl (.c zS (mapD_eq (hvals_put k _ [] q)) LSub.nil)))) mapD.unnil) ?_
  refine J_region (Jm rfl (Jl rfl ty95 Sr ?_))
  refine Js rfl (step_lookupS (kv := kvK) (q := (hput q k (.map (some v12)) [])) keyK underlying65 (fun w => zeroValue82 w) Sr Sub.key zS) ?_
  refine Jm rfl ?_
  refine Ju (step_mapUpdateD (kv := kvI) (R := rBool) (KeyT.int underlying3) underlying82 (Sub.v (by rw [sval, hval_hput, if_pos rfl])) Sr Sr zS) fun _ => ?_
  refine JL_nil ?_
  refine K_lsub (L' := [mapD kvK rV (.map (some n)) (hvals (sput q k (.map (some v12)) x)), setsO (sput q k (.map (some v12)) x)]) (LSub.trans (.c zS (setO_eq (v' := .map (some v12)) (m' := mput (sval q k).2 x true) rfl (by rw [hm0])) (LSub.cons zS SPs.rfl (.c zS (mapD_eq (m' := hvals (sput q k (.map (some v12)) x)) (by rw [sput, ← hvals_put, ← hvals_put])) LSub.nil))) (LSub.trans (sets_join k _ _) zL)) ?_
  exact K_end0 rfl (⟨v12, fun h => by rw [h9] at h; cases h⟩ : { w : Nat // isNilM (sval q k).1 = false → (sval q k).1 = .map (some w) }) Sr
 try simp only [NF] at h9
 obtain ⟨w, hw⟩ := (isNilM_iff hvp).2.1 h9
 refine K_lsub (L' := [setO (.map (some w)) (sval q k).2, setsO (hrem q k), mapD kvK rV (.map (some n)) (hvals q)]) (.c zS (setO_eq hw rfl) zL) ?_
 refine J_skip (J_region (Jm rfl (Jl rfl ty95 Sr ?_)))
 refine Js rfl (step_lookupS (kv := kvK) (q := q) keyK underlying65 (fun w => zeroValue82 w) Sr Sub.key zS) ?_
 refine Jm rfl ?_
 refine Ju (step_mapUpdateD (kv := kvI) (R := rBool) (KeyT.int underlying3) underlying82 (Sub.v hw) Sr Sr zS) fun _ => ?_
 refine JL_nil ?_
 refine K_lsub (L' := [mapD kvK rV (.map (some n)) (hvals (sput q k (.map (some w)) x)), setsO (sput q k (.map (some w)) x)]) (LSub.trans (.c zS (setO_eq (v' := .map (some w)) (m' := mput (sval q k).2 x true) rfl rfl) (LSub.cons zS SPs.rfl (.c zS (mapD_eq (m' := hvals (sput q k (.map (some w)) x)) (hput_vals_same hw (hget_some (by rw [hw]; simp))).symm) LSub.nil))) (LSub.trans (sets_join k _ _) zL)) ?_
 exact K_end0 rfl (⟨w, fun _ => hw⟩ : { w : Nat // isNilM (sval q k).1 = false → (sval q k).1 = .map (some w) }) Sr
open Go Go.Proofs Go.Proofs.Tryz
def hasS {κ : Type} [DecidableEq κ] (q : SetL κ) (k : κ) (n : Int) : Prop := n ∈ (sval q k).2.map (·.1)
theorem mput_key {m : List (Int × Bool)} {x n : Int} : n ∈ (mput m x true).map (·.1) ↔ n ∈ m.map (·.1) ∨ n = x := by
  rw [mput_keys]
  split
  · rename_i h
    constructor
    · exact .inl
    · rintro (h1 | rfl)
      · exact h1
      · exact h
  · simp [List.mem_append]
theorem hasS_sput {κ : Type} [DecidableEq κ] {q : SetL κ} {k j : κ} {v : Value} {x n : Int} : hasS (sput q k v x) j n ↔ hasS q j n ∨ (j = k ∧ n = x) := by
  unfold hasS sput
  rw [sval, hval_hput]
  by_cases h : j = k
  · subst h; rw [if_pos rfl]; simp only [true_and]; exact mput_key
  · rw [if_neg h]; simp [h]
structure IdxR {κ : Type} [DecidableEq κ] (q0 : SetL κ) (pre : List κ) (x : Int) (q : SetL κ) : Prop where
  mem : ∀ k n, hasS q k n ↔ hasS q0 k n ∨ (k ∈ pre ∧ n = x)
theorem IdxR.start {κ : Type} [DecidableEq κ] (q0 : SetL κ) (x : Int) : IdxR q0 [] x q0 := ⟨fun k n => by simp⟩
theorem IdxR.next {κ : Type} [DecidableEq κ] {q0 q : SetL κ} {pre : List κ} {x : Int} {k : κ} {v : Value} (h : IdxR q0 pre x q) : IdxR q0 (pre ++ [k]) x (sput q k v x) := ⟨fun j n => by
  rw [hasS_sput, h.mem, List.mem_append, List.mem_singleton]
  constructor
  · rintro ((h1 | ⟨h1, h2⟩) | ⟨h1, h2⟩)
    · exact .inl h1
    · exact .inr ⟨.inl h1, h2⟩
    · exact .inr ⟨.inr h1, h2⟩
  · rintro (h1 | ⟨h1 | h1, h2⟩)
    · exact .inl (.inl h1)
    · exact .inl (.inr ⟨h1, h2⟩)
    · exact .inr ⟨h1, h2⟩⟩
def putM (s : VS) (x : Int) (pre : List Gkey) : SP := SP.ex fun q : SetL Gkey => stars [SP.pure (IdxR s.idx pre x q), mapD kvK rV (.map (some s.nI)) (hvals q), setsO q]
def delS (q : SetL Gkey) (pre : List Gkey) (x : Int) : SetL Gkey := pre.foldl (fun q k => hupd q k fun m => mrem m x) q
theorem delS_snoc (q : SetL Gkey) (pre : List Gkey) (k : Gkey) (x : Int) : delS q (pre ++ [k]) x = hupd (delS q pre x) k fun m => mrem m x := by simp [delS]
def dropM (s : VS) (x : Int) (pre : List Gkey) : SP := stars [mapD kvK rV (.map (some s.nI)) (hvals (delS s.idx pre x)), setsO (delS s.idx pre x)]
theorem copy_spec (n : Nat) (md : List (Int × Bool)) (v : Value) (ms : List (Int × Bool)) : Spec (X := { kd : List (Int × Bool) // ∀ p, p ∈ kd ↔ p ∈ ms }) prog 38 [tV (.map (some n)), tV v] ([setO (.map (some n)) md, setO v ms]) (fun kd => tTup []) (fun kd => [setO (.map (some n)) (copM md kd.1), setO v ms]) := by
 refine Spec.enter func38 rfl rfl fun h0 w0 fr0 => ?_
 refine J_seq ?_
 refine K_view (kv := kvI) (R := rBool) (A := setO v ms) zS mapD.view fun hms _ _ => ?_
 refine J_region (Jm rfl ?_)
 refine Jx rfl (step_rangeD (kv := kvI) (R := rBool) underlying82 Sr zS) fun v7 => ?_
 refine JL_nil (J_block ?_)
 refine J_loopL (σ := List (Int × Bool)) (fun kd => RanI ms kd) (fun kd => upd (upd env0 0 (tV (.map (some n)))) 7 (tAt v7 0)) (fun kd => [ranD kvI rBool v7 v ms (kd.map (·.1)) none, setO (.map (some n)) (copM md kd)]) (fun kd => ms.length - kd.length) [] RanI.start (zU) (zL) ?_
 rintro kd hI
 refine Jr ?_
 refine Jx rfl (step_nextD (kv := kvI) (R := rBool) rfl Sr zS) fun o => ?_
 refine Js rfl (step_extract_next Sr) (JL_nil (J_seq ?_))
 refine J_cond Sr (fun h9 => ?_) (fun h9 => ?_)
 ·
  try simp only [NF] at h9
  obtain ⟨o, ho⟩ := o
  obtain ⟨⟨pk, pv⟩, rfl⟩ : ∃ p, o = some p := by cases o with | none => simp at h9 | some p => exact ⟨p, rfl⟩
  dsimp only at ho
  have hI2 := hI.next ho
  have hln := hI2.len
  simp only [List.length_append, List.length_singleton] at hln
  refine J_skip (J_block (Jr ?_))
  refine Js rfl (step_entryD (kv := kvI) (R := rBool) Sr zS) ?_
  refine Js rfl (step_extract Sr rfl) (Js rfl (step_extract Sr rfl) (Ja rfl (Ja rfl (JL_nil (J_region ?_)))))
  refine Jm rfl (Jm rfl (Jm rfl ?_))
  refine Ju (step_mapUpdateD (kv := kvI) (R := rBool) (KeyT.int underlying3) underlying82 Sr Sr Sr zS) fun _ => ?_
  refine JL_nil ?_
  refine K_againL (σ := List (Int × Bool)) (s := kd) (kd ++ [(pk, pv)]) (by simp only [List.length_append, List.length_singleton]; omega) hI2 (zU) (.c zS (ran_snoc (p := (pk, pv))) (.c zS (mapD_eq (copM_snoc md kd (pk, pv)).symm) (LSub.nil)))
 try simp only [NF] at h9
 obtain ⟨o, ho⟩ := o
 obtain rfl : o = none := by cases o with | none => rfl | some p => simp at h9
 dsimp only at ho
 refine J_exit ?_
 refine K_lsub (L' := [junk, setO (.map (some n)) (copM md kd), setO v ms]) (LSub.trans ran_end zL) ?_
 refine K_drop (Sel.take (Sel.none _)) ?_
 exact K_end0 rfl (⟨kd, fun p => hI.all hms ho p⟩ : { kd : List (Int × Bool) // ∀ p, p ∈ kd ↔ p ∈ ms }) Sr
theorem meeting_spec (b : Nat) (s : VS) (n : Nat) (f : GFact) (hn : n < s.pairs.length) (ho : RulesOk s.rules s.pairs) : Spec (X := Unit) prog 39 [tAt b 0, tV (.int .i64 (n : Int)), rFact.ty f] ([vB b s, vI s]) (fun _ => tV (meetV s n f).1) (fun _ => [vB b s, vI s]) := by
 refine Spec.enter func39 rfl rfl fun h0 w0 fr0 => ?_
 have hp := ho.prs (nth s.pairs n) (nth_mem hn)
 refine Jr (Js rfl (step_box (R := rFact) Sr) (Ja rfl (JL_nil (Jr (Jm rfl ?_)))))
 refine Js rfl (step_nilCheck Sr) (Js rfl (step_fieldAddr_own so69 Sr rfl) ?_)
 refine Js rfl (step_load_fld ty67 Sr rfl zS) ?_
 refine Jm rfl ?_
 refine Js rfl (step_indexAddr_sl (i := n) underlying67 ty75 Sr Sr (by rfl) (gb (by show n < s.pairs.length; exact hn))) ?_
 refine Jl rfl ty75 Sr ?_
 refine Jx rfl (step_alloc (fun w => zeroValue75 w) zr75) fun v7 => ?_
 refine Ju (step_store_box ty75 Sr Sr zS) fun _ => ?_
 refine JL_freeze (t := 7) (Sel.take (Sel.none _)) Frz.box ?_
 refine JL_nil (J_seq (J_seq ?_))
 refine J_draw [⟨0, [5], true⟩, ⟨1, [17], true⟩, ⟨2, [0], true⟩, ⟨3, [19], true⟩, ⟨4, [20], true⟩, ⟨6, [7], true⟩, ⟨7, [23], true⟩, ⟨11, [7], true⟩, ⟨12, [28], true⟩, ⟨5, [21], false⟩, ⟨8, [22, 24], true⟩, ⟨9, [25], true⟩, ⟨10, [26], true⟩, ⟨13, [27, 29], true⟩, ⟨14, [30], true⟩, ⟨15, [18, 31], true⟩] rfl (by kernel_rfl) ?_
 refine Mf rfl rfl (step_fieldAddr so35 Sr rfl) (Mf rfl rfl (step_load_ptr ty3 Sr) (Mv rfl rfl (Mf rfl rfl (step_nilCheck Sr) (Mf rfl rfl (step_fieldAddr_own so69 Sr rfl) (Mf rfl rfl (step_fieldAddr so75 Sr rfl) ?_)))))
 refine Mf rfl rfl (step_load_ptr ty3 Sr) (Mf rfl rfl (step_fieldAddr so75 Sr rfl) (Mf rfl rfl (step_load_ptr ty3 Sr) ?_))
 refine JM_look rfl rfl rfl rfl (step_load_fld ty22 Sr rfl zS) ?_
 refine Mf rfl rfl (step_indexAddr_sl (i := (nth s.pairs n).rule.toNat) underlying22 ty59 Sr Sr (by have := hp.r0; show (nth s.pairs n).rule = _; omega) (gb (by have := hp.r1; have := hp.r0; show _ < s.rules.length; omega))) ?_
 refine Mf rfl rfl (step_fieldAddr so59 Sr rfl) (Mf rfl rfl (step_load_ptr ty33 Sr) ?_)
 refine Mf rfl rfl (step_indexAddr_sl (i := (nth s.pairs n).i.toNat) underlying33 ty3 Sr Sr (by have := hp.i0; show (nth s.pairs n).i = _; omega) (gb (by have := hp.i1; have := hp.i0; show _ < (nth s.rules (nth s.pairs n).rule.toNat).Tables.length; omega))) ?_
 refine Mf rfl rfl (step_load_ptr ty3 Sr) (Mf rfl rfl (step_neq Sr Sr) (JM_nil ?_))
 refine J_cond Sr (fun h32 => ?_) (fun h32 => ?_)
 ·
  try simp only [NF] at h32
  have h32 : ¬ f.Table = nth (nth s.rules (nth s.pairs n).rule.toNat).Tables (nth s.pairs n).i.toNat := h32
  refine Jr (Ja rfl (JL_nil (J_ret ?_)))
  refine K_retv (rv := .tmp 6) rfl () (.tmp Sr) (Sub.v ?_)
  rw [meetV, keyV, if_neg (by rintro ⟨q1, q2⟩; exact h32 q1)]
 try simp only [NF] at h32
 have h32 : f.Table = nth (nth s.rules (nth s.pairs n).rule.toNat).Tables (nth s.pairs n).i.toNat := h32
 refine J_skip (Jr (Jl rfl ty35 Sr (Js rfl (step_fieldAddr so75 Sr rfl) (Jl rfl ty72 Sr ?_))))
 refine Js rfl (step_call0 (texts_spec f (nth s.pairs n).cols 0 (by decide) hp.cl) ⟨Sr, Sr, Sr, trivial⟩ call63) ?_
 refine Jm rfl (Js rfl (step_extract Sr rfl) (Js rfl (step_extract Sr rfl) (Ja rfl (Ja rfl (JL_nil ?_)))))
 refine J_seq (Jr (Jm rfl (Js rfl (step_not Sr) (JL_nil ?_))))
 refine J_cond Sr (fun h41 => ?_) (fun h41 => ?_)
 ·
  try simp only [NF] at h41
  refine Jr (Ja rfl (JL_nil (J_ret ?_)))
  refine K_retv (rv := .tmp 6) rfl () (.tmp Sr) (Sub.v ?_)
  rw [meetV, keyV, if_neg (by rintro ⟨q1, q2⟩; rw [q2] at h41; cases h41)]
 try simp only [NF] at h41
 refine J_skip (Jr (Jm rfl (Js rfl (step_nilCheck Sr) (Js rfl (step_fieldAddr_own so69 Sr rfl) ?_))))
 refine Js rfl (step_load_fld ty65 Sr rfl zS) ?_
 refine Jm rfl (Jm rfl ?_)
 refine Js rfl (step_build (x := (⟨(n : Int), txB f (nth s.pairs n).cols 0 (nth s.pairs n).cols.length⟩ : Gkey)) (zs := [[Value.int .i64 0], [Value.string ⟨#[]⟩]]) so95 (fun w => zeroValue95 w) ⟨Sr, (Sub.v (by rw [if_pos h41])), trivial⟩ ⟨⟨Sr, rfl⟩, ⟨(Sub.v (by rw [if_pos h41])), rfl⟩, trivial⟩) ?_
 refine Js rfl (step_lookupS (kv := kvK) (q := s.idx) keyK underlying65 (fun w => zeroValue82 w) Sub.ofRV Sub.key zS) ?_
 refine Ja rfl (JL_nil (J_ret ?_))
 refine K_retv (rv := .tmp 6) rfl () (.tmp Sr) (Sub.v ?_)
 rw [meetV, keyV, if_pos ⟨h32, h41⟩]
theorem places_spec (b : Nat) (s : VS) (f : GFact) (ho : RulesOk s.rules s.pairs) (M : List Gkey → SP) (gi : Nat) (As : List Ty) (he : ∀ args w, (callFunc gi args).run prog w = .ok (.enter gi args) w) (hg : ∀ pre k, Spec (X := Unit) prog gi ([rkey.ty k] ++ As) [vB b s, M pre] (fun _ => tTup []) (fun _ => [vB b s, M (pre ++ [k])])) : Spec (X := Unit) prog 44 [tAt b 0, rFact.ty f, tClo gi As] ([vB b s, M []]) (fun _ => tTup []) (fun _ => [vB b s, M (keysV s.rules s.pairs f s.pairs.length)]) := by
 refine Spec.enter func44 rfl rfl fun h0 w0 fr0 => ?_
 have hpl := ho.pl
 refine Jr (Js rfl (step_box (R := rFact) Sr) (JL_nil (Jr (Jm rfl (Js rfl (step_nilCheck Sr) ?_)))))
 refine Js rfl (step_fieldAddr_own so69 Sr rfl) ?_
 refine Js rfl (step_load_fld ty67 Sr rfl zS) ?_
 refine Js rfl (step_len_sl underlying67 Sr) (Jm rfl (JL_nil (J_block ?_)))
 refine J_loopL (σ := Nat) (fun i => i ≤ s.pairs.length) (fun i => upd (upd (upd (upd (upd (upd env0 0 (tAt b 0)) 2 (tClo gi As)) 4 (tPtr rFact f)) 13 (tSl rpair s.pairs)) 14 (tV (.int .i64 (s.pairs.length : Int)))) 15 (tV (.int .i64 (i : Int)))) (fun i => [vB b s, M (keysV s.rules s.pairs f i)]) (fun i => s.pairs.length - i) 0 zG (zU) (LSub.rfl) ?_
 rintro i hi
 refine Jr (Js rfl (step_lss Sr Sr) (JL_nil (J_seq ?_)))
 refine J_cond Sr (fun h16 => ?_) (fun h16 => ?_)
 ·
  try simp only [NF] at h16
  have hlt : i < s.pairs.length := by omega
  have hp := ho.prs (nth s.pairs i) (nth_mem hlt)
  refine J_skip (J_seq (J_block (Jr (Jm rfl ?_))))
  refine Js rfl (step_indexAddr_sl  underlying67 ty75 Sr Sr rfl (gb (by show i < s.pairs.length; exact hlt))) ?_
  refine Jl rfl ty75 Sr ?_
  refine Jx rfl (step_alloc (fun w => zeroValue75 w) zr75) fun v7 => ?_
  refine Ja rfl ?_
  refine Ju (step_store_box ty75 Sr Sr zS) fun _ => ?_
  refine JL_freeze (t := 7) (Sel.take (Sel.none _)) Frz.box ?_
  refine JL_nil (J_seq (J_seq ?_))
  refine J_draw [⟨0, [4], true⟩, ⟨1, [20], true⟩, ⟨2, [0], true⟩, ⟨3, [22], true⟩, ⟨4, [23], true⟩, ⟨6, [7], true⟩, ⟨7, [26], true⟩, ⟨11, [7], true⟩, ⟨12, [31], true⟩, ⟨5, [24], false⟩, ⟨8, [25, 27], true⟩, ⟨9, [28], true⟩, ⟨10, [29], true⟩, ⟨13, [30, 32], true⟩, ⟨14, [33], true⟩, ⟨15, [21, 34], true⟩] rfl (by kernel_rfl) ?_
  refine Mf rfl rfl (step_fieldAddr so35 Sr rfl) (Mf rfl rfl (step_load_ptr ty3 Sr) (Mv rfl rfl (Mf rfl rfl (step_nilCheck Sr) (Mf rfl rfl (step_fieldAddr_own so69 Sr rfl) (Mf rfl rfl (step_fieldAddr so75 Sr rfl) ?_)))))
  refine Mf rfl rfl (step_load_ptr ty3 Sr) (Mf rfl rfl (step_fieldAddr so75 Sr rfl) (Mf rfl rfl (step_load_ptr ty3 Sr) ?_))
  refine JM_look rfl rfl rfl rfl (step_load_fld ty22 Sr rfl zS) ?_
  refine Mf rfl rfl (step_indexAddr_sl (i := (nth s.pairs i).rule.toNat) underlying22 ty59 Sr Sr (by have := hp.r0; show (nth s.pairs i).rule = _; omega) (gb (by have := hp.r1; have := hp.r0; show _ < s.rules.length; omega))) ?_
  refine Mf rfl rfl (step_fieldAddr so59 Sr rfl) (Mf rfl rfl (step_load_ptr ty33 Sr) ?_)
  refine Mf rfl rfl (step_indexAddr_sl (i := (nth s.pairs i).j.toNat) underlying33 ty3 Sr Sr (by have := hp.j0; show (nth s.pairs i).j = _; omega) (gb (by have := hp.j1; have := hp.j0; show _ < (nth s.rules (nth s.pairs i).rule.toNat).Tables.length; omega))) ?_
  refine Mf rfl rfl (step_load_ptr ty3 Sr) (Mf rfl rfl (step_neq Sr Sr) (JM_nil ?_))
  refine J_cond Sr (fun h35 => ?_) (fun h35 => ?_)
  ·
   try simp only [NF] at h35
   have h35 : ¬ f.Table = nth (nth s.rules (nth s.pairs i).rule.toNat).Tables (nth s.pairs i).j.toNat := h35
   have hkv : keyV s.rules s.pairs 1 i f = none := by rw [keyV, if_neg]; rintro ⟨q1, q2⟩; exact h35 q1
   refine J_exit (J_region (Js rfl (step_add Sr Sr z6) (Jm rfl (JL_nil ?_))))
   refine K_againL (σ := Nat) (s := i) (i + 1) zO zG (SubE.upd (Sub.int (by simp)) (zU)) (.r zS (.c zS (SPs.of (by rw [keysV_succ, hkv]; simp)) (LSub.nil)))
  try simp only [NF] at h35
  have h35 : f.Table = nth (nth s.rules (nth s.pairs i).rule.toNat).Tables (nth s.pairs i).j.toNat := h35
  refine J_skip (Jr (Jl rfl ty35 Sr (Js rfl (step_fieldAddr so75 Sr rfl) (Jl rfl ty72 Sr ?_))))
  refine Js rfl (step_call0 (texts_spec f (nth s.pairs i).cols 1 (by decide) hp.cl) ⟨Sr, Sr, Sr, trivial⟩ call63) ?_
  refine Jm rfl (Js rfl (step_extract Sr rfl) (Js rfl (step_extract Sr rfl) (Ja rfl (Ja rfl (JL_nil ?_)))))
  refine Jr (Jm rfl (JL_nil ?_))
  refine J_cond Sr (fun h43 => ?_) (fun h43 => ?_)
  ·
   try simp only [NF] at h43
   have hkv : keyV s.rules s.pairs 1 i f = some ⟨(i : Int), txB f (nth s.pairs i).cols 1 (nth s.pairs i).cols.length⟩ := by rw [keyV, if_pos]; exact ⟨h35, h43⟩
   refine J_region (Jm rfl (Jm rfl (Jm rfl ?_)))
   refine Js rfl (step_build (x := (⟨(i : Int), txB f (nth s.pairs i).cols 1 (nth s.pairs i).cols.length⟩ : Gkey)) (zs := [[Value.int .i64 0], [Value.string ⟨#[]⟩]]) so95 (fun w => zeroValue95 w) ⟨Sr, (Sub.v (by rw [if_pos h43])), trivial⟩ ⟨⟨Sr, rfl⟩, ⟨(Sub.v (by rw [if_pos h43])), rfl⟩, trivial⟩) ?_
   refine Jx rfl (step_callv (aT := [_]) Sr (Sel.all _) (hg _ ⟨(i : Int), txB f (nth s.pairs i).cols 1 (nth s.pairs i).cols.length⟩) ⟨Sr, trivial⟩ he) fun v48 => ?_
   refine JL_nil (J_region (Js rfl (step_add Sr Sr z6) (Jm rfl (JL_nil ?_))))
   refine K_againL (σ := Nat) (s := i) (i + 1) zO zG (SubE.upd (Sub.int (by simp)) (zU)) (.r zS (.c zS (SPs.of (by rw [keysV_succ, hkv]; rfl)) (LSub.nil)))
  try simp only [NF] at h43
  have hkv : keyV s.rules s.pairs 1 i f = none := by rw [keyV, if_neg]; rintro ⟨q1, q2⟩; rw [q2] at h43; cases h43
  refine J_skip (J_region (Js rfl (step_add Sr Sr z6) (Jm rfl (JL_nil ?_))))
  refine K_againL (σ := Nat) (s := i) (i + 1) zO zG (SubE.upd (Sub.int (by simp)) (zU)) (.r zS (.c zS (SPs.of (by rw [keysV_succ, hkv]; simp)) (LSub.nil)))
 try simp only [NF] at h16
 obtain rfl : i = s.pairs.length := by omega
 refine J_exit ?_
 refine K_end0 rfl () Sr
theorem putClo_spec (b : Nat) (s : VS) (q : SetL Gkey) (k : Gkey) (x : Int) : Spec (X := { w : Nat // isNilM (sval q k).1 = false → (sval q k).1 = .map (some w) }) prog 45 [rkey.ty k, tPtr rPt b, tPtr rInt x] ([vB b s, mapD kvK rV (.map (some s.nI)) (hvals q), setsO q]) (fun w => tTup []) (fun w => [mapD kvK rV (.map (some s.nI)) (hvals (sput q k (.map (some w.1)) x)), setsO (sput q k (.map (some w.1)) x), vB b s]) := by
 refine Spec.enter func45 rfl rfl fun h0 w0 fr0 => ?_
 refine Jr (Js rfl (step_box (R := rkey) Sr) (JL_nil ?_))
 refine J_draw [⟨0, [1], true⟩, ⟨1, [4], true⟩, ⟨2, [5], true⟩, ⟨4, [3], true⟩, ⟨5, [2], true⟩, ⟨3, [6], false⟩, ⟨6, [7, 8, 9], false⟩] rfl (by kernel_rfl) ?_
 refine Mf rfl rfl (step_load_ptr ty26 Sr) (Mf rfl rfl (step_nilCheck Sr) (Mf rfl rfl (step_fieldAddr_own so69 Sr rfl) (Mf rfl rfl (step_load_ptr ty95 Sr) (Mf rfl rfl (step_load_ptr ty3 Sr) ?_))))
 refine JM_look rfl rfl rfl rfl (step_load_fld ty65 Sr rfl zS) ?_
 refine JM_stepX rfl rfl rfl rfl (step_call (.skip (.all _)) (putK_spec s.nI q k x) ⟨Sub.ofRV, Sr, Sr, trivial⟩ call46) fun v10 => ?_
 refine JM_nil ?_
 exact K_end0 rfl v10 Sr
theorem dropClo_spec (b : Nat) (s : VS) (q : SetL Gkey) (k : Gkey) (x : Int) : Spec (X := Unit) prog 49 [rkey.ty k, tPtr rPt b, tPtr rInt x] ([vB b s, mapD kvK rV (.map (some s.nI)) (hvals q), setsO q]) (fun _ => tTup []) (fun _ => [vB b s, mapD kvK rV (.map (some s.nI)) (hvals (hupd q k fun m => mrem m x)), setsO (hupd q k fun m => mrem m x)]) := by
 refine Spec.enter func49 rfl rfl fun h0 w0 fr0 => ?_
 refine Jr (Js rfl (step_box (R := rkey) Sr) (JL_nil ?_))
 refine K_lsub (L' := [setO (sval q k).1 (sval q k).2, setsO (hrem q k), vB b s, mapD kvK rV (.map (some s.nI)) (hvals q)]) (LSub.trans (LSub.cons zS SPs.rfl zL) (sets_split k)) ?_
 refine J_draw [⟨0, [1], true⟩, ⟨1, [4], true⟩, ⟨2, [5], true⟩, ⟨4, [3], true⟩, ⟨6, [2], true⟩, ⟨3, [6], false⟩, ⟨5, [7, 8], false⟩, ⟨7, [9, 10], false⟩] rfl (by kernel_rfl) ?_
 refine Mf rfl rfl (step_load_ptr ty26 Sr) (Mf rfl rfl (step_nilCheck Sr) (Mf rfl rfl (step_fieldAddr_own so69 Sr rfl) (Mf rfl rfl (step_load_ptr ty95 Sr) (Mf rfl rfl (step_load_ptr ty3 Sr) ?_))))
 refine JM_look rfl rfl rfl rfl (step_load_fld ty65 Sr rfl zS) ?_
 refine JM_look rfl rfl rfl rfl (step_lookupS (kv := kvK) (q := q) keyK underlying65 (fun w => zeroValue82 w) Sub.ofRV Sub.key zS) ?_
 refine JM_stepU rfl rfl rfl (step_deleteD (kv := kvI) (R := rBool) (KeyT.int underlying3) underlying82 Sr Sr zS) fun _ => ?_
 refine JM_nil ?_
 refine K_lsub (L' := [vB b s, mapD kvK rV (.map (some s.nI)) (hvals (hupd q k fun m => mrem m x)), setsO (hupd q k fun m => mrem m x)]) (LSub.trans (LSub.cons zS SPs.rfl (LSub.cons zS SPs.rfl (LSub.cons zS SPs.rfl (.c zS (mapD_eq (hupd_vals k (fun m => mrem m x) q).symm) LSub.nil)))) (LSub.trans (sets_upd k (fun m => mrem m x) rfl) zL)) ?_
 exact K_end0 rfl () Sr
theorem putClo2_spec (b : Nat) (s : VS) (x : Int) (pre : List Gkey) (k : Gkey) : Spec (X := Unit) prog 45 ([rkey.ty k] ++ [tPtr rPt b, tPtr rInt x]) [vB b s, putM s x pre] (fun _ => tTup []) (fun _ => [vB b s, putM s x (pre ++ [k])]) := by
  refine Spec.lsub (L1 := [putM s x pre, vB b s]) zL (Spec.exL fun q => Spec.lsub (LSub.starsL LSub.rfl) (Spec.pure0 fun hR => Spec.lsub (L1 := [vB b s, mapD kvK rV (.map (some s.nI)) (hvals q), setsO q]) zL (Spec.post (fun _ => ()) (fun _ => Sr) (fun w => ?_) (putClo_spec b s q k x))))
  refine LSub.trans (B := [putM s x (pre ++ [k]), vB b s]) (LSub.ex (sput q k (.map (some w.1)) x) (LSub.stars (LSub.pure hR.next zL))) zL
theorem dropClo2_spec (b : Nat) (s : VS) (x : Int) (pre : List Gkey) (k : Gkey) : Spec (X := Unit) prog 49 ([rkey.ty k] ++ [tPtr rPt b, tPtr rInt x]) [vB b s, dropM s x pre] (fun _ => tTup []) (fun _ => [vB b s, dropM s x (pre ++ [k])]) := by
  refine Spec.lsub (L1 := [dropM s x pre, vB b s]) zL (Spec.lsub (LSub.starsL LSub.rfl) (Spec.lsub (L1 := [vB b s, mapD kvK rV (.map (some s.nI)) (hvals (delS s.idx pre x)), setsO (delS s.idx pre x)]) zL (Spec.post (fun _ => ()) (fun _ => Sr) (fun w => ?_) (dropClo_spec b s (delS s.idx pre x) k x))))
  refine LSub.trans (B := [dropM s x (pre ++ [k]), vB b s]) (LSub.stars (LSub.cons zS (mapD_eq (by rw [delS_snoc])) (LSub.cons zS (setsO_eq (by rw [delS_snoc])) zL))) zL
open Go
def PermK (k : Env → List SP → Prop) : Prop := ∀ E L L', L.Perm L' → k E L → k E L'
theorem upd_comm {E : Env} {d e : Nat} {A B : Ty} (h : d ≠ e) : upd (upd E d A) e B = upd (upd E e B) d A := by
  have := updO_comm (E := E) (d := some d) (e := some e) (A := A) (B := B) (natBeq_ne h)
  simpa [updO] using this
theorem restr_upd {ts : List Nat} {E : Env} {d : Nat} {A : Ty} (h : memN d ts = false) : restr ts (upd E d A) = restr ts E := by
  have := restr_updO (ts := ts) (E := E) (d := some d) (A := A) (by simpa [inO] using h)
  simpa [updO] using this
section
variable {C : Cx} {ops : Array Oper} {k : Env → List SP → Prop}
end
theorem LSub.of_perm {L L' : List SP} (p : L.Perm L') : LSub L L' := by
  induction p with
  | nil => exact LSub.rfl
  | cons x _ ih => exact LSub.head ih
  | swap x y l => exact LSub.swap
  | trans _ _ h1 h2 => exact LSub.trans h1 h2
open Go
/-- What is changed: which operation, what it looks at, where its value goes, what it takes, what is known of its value, what it leaves. -/
structure Al2 where
  i : Nat
  ts : List Nat
  d : Nat
  I : SP
  A : Value → Ty
  M : Value → SP
def AlOk2 (C : Cx) (ops : Array Oper) (E : Env) (a : Al2) : Prop := ∃ o, ops[a.i]? = some o ∧ o.dst = some a.d ∧ Nat.blt a.d C.N = true ∧ o.guard = none ∧ ∀ L, Step (X := Value) C o (restr a.ts E) (a.I :: L) a.A (fun v => a.M v :: L)
def Als2 (C : Cx) (ops : Array Oper) (k : Env → List SP → Prop) : List Al2 → Env → List SP → Prop
  | [], E, L => k E L
  | a :: als, E, L => AlOk2 C ops E a ∧ ∀ v, Als2 C ops k als (upd E a.d (a.A v)) (a.M v :: L)
def indA2 (a b : Al2) : Bool := !Nat.beq a.i b.i && !memN a.d b.ts && !memN b.d a.ts && !Nat.beq a.d b.d
def indAs2 : List Al2 → Bool
  | [] => true
  | a :: l => l.all (indA2 a) && indAs2 l
/-- A first part of what is owned that some operations look at. -/
def pre0 (F : List SP) : Nat → List SP
  | 0 => []
  | _ + 1 => F
def JF (C : Cx) (ops : Array Oper) (F : List SP) (k : Env → List SP → Prop) : List It3 → Env → List SP → Prop
  | [], E, L => k E L
  | x :: its, E, L => ∃ o A, ops[x.i]? = some o ∧ ltO o.dst C.N = true ∧ (∀ L, StepG C ops o (restr x.ts E) (pre0 F x.c ++ L) A) ∧ JF C ops F k its (updO E o.dst A) L
section
variable {C : Cx} {ops : Array Oper} {F : List SP} {k : Env → List SP → Prop} {its : List It3} {E : Env} {L : List SP} {i : Nat} {ts : List Nat} {o : Oper}
theorem JF_nil (h : k E L) : JF C ops F k [] E L := h
theorem JF_step {A : Ty} {d : Nat} (ho : ops.toList[i]? = some o) (hg : o.guard = none) (hd : o.dst = some d) (hN : Nat.blt d C.N = true) (hs : ∀ L, Step1 C o (restr ts E) L A)
    (hk : JF C ops F k its (upd E d A) L) : JF C ops F k (⟨i, ts, 0⟩ :: its) E L :=
  ⟨o, A, by simpa using ho, by rw [hd]; exact hN, fun L => .inl ⟨hg, hs L⟩, by rw [hd]; exact hk⟩
theorem JF_look {A : Ty} {d : Nat} (ho : ops.toList[i]? = some o) (hg : o.guard = none) (hd : o.dst = some d) (hN : Nat.blt d C.N = true) (hs : ∀ L, Step1 C o (restr ts E) (F ++ L) A)
    (hk : JF C ops F k its (upd E d A) L) : JF C ops F k (⟨i, ts, 1⟩ :: its) E L :=
  ⟨o, A, by simpa using ho, by rw [hd]; exact hN, fun L => .inl ⟨hg, hs L⟩, by rw [hd]; exact hk⟩
end
section
variable {C : Cx} {ops : Array Oper} {F : List SP} {k : Env → List SP → Prop}
theorem AlOk2.same {E : Env} {a : Al2} {d : Nat} {A : Ty} (h : memN d a.ts = false) : AlOk2 C ops (upd E d A) a ↔ AlOk2 C ops E a := by
  unfold AlOk2; rw [restr_upd h]
theorem Als2.perm (hk : PermK k) : ∀ {als : List Al2} {E : Env} {L L' : List SP}, L.Perm L' → Als2 C ops k als E L → Als2 C ops k als E L'
  | [], _, _, _, p, h => hk _ _ _ p h
  | a :: als, E, L, L', p, ⟨h1, h2⟩ => ⟨h1, fun v => Als2.perm hk (List.Perm.cons _ p) (h2 v)⟩
theorem Als2.pull (hk : PermK k) : ∀ {l1 : List Al2} {b : Al2} {l2 : List Al2} {E : Env} {L : List SP}, (∀ a ∈ l1, indA2 a b = true) → Als2 C ops k (l1 ++ b :: l2) E L → Als2 C ops k (b :: (l1 ++ l2)) E L
  | [], _, _, _, _, _, h => h
  | a :: l1, b, l2, E, L, hp, ⟨h1, h2⟩ => by
    have hab := hp a (by simp)
    simp only [indA2, Bool.and_eq_true, Bool.not_eq_true'] at hab
    obtain ⟨⟨⟨p1, p2⟩, p3⟩, p4⟩ := hab
    have p4 : a.d ≠ b.d := fun e => by rw [e] at p4; simp at p4
    have ih := fun v => Als2.pull hk (fun x hx => hp x (by simp [hx])) (h2 v)
    refine ⟨(AlOk2.same p2).1 (ih default).1, fun v => ⟨(AlOk2.same p3).2 h1, fun u => ?_⟩⟩
    have := (ih u).2 v
    rw [upd_comm p4] at this
    exact Als2.perm hk (List.Perm.swap _ _ _) this
theorem JF_lay {k' : Env → List SP → Prop} {b : Al2} : ∀ {its : List It3} {E : Env} {L : List SP}, (∀ x ∈ its, memN b.d x.ts = false ∧ inO (dstOf ops.toList x.i) b.ts = false ∧ eqO (some b.d) (dstOf ops.toList x.i) = false) →
    (∀ E L, k E L → AlOk2 C ops E b ∧ ∀ v, k' (upd E b.d (b.A v)) (b.M v :: L)) → JF C ops F k its E L → AlOk2 C ops E b ∧ ∀ v, JF C ops F k' its (upd E b.d (b.A v)) (b.M v :: L)
  | [], E, L, _, hk, h => hk E L h
  | x :: its, E, L, hp, hk, h => by
    obtain ⟨o, A, h1, h2, h3, h4⟩ := h
    obtain ⟨p1, p2, p3⟩ := hp x (by simp)
    have hd : dstOf ops.toList x.i = o.dst := by simp [dstOf, h1]
    simp only [hd] at p2 p3
    obtain ⟨g1, g2⟩ := JF_lay (fun x hx => hp x (by simp [hx])) hk h4
    refine ⟨?_, fun v => ⟨o, A, h1, h2, fun L => ?_, ?_⟩⟩
    · obtain ⟨ob, q1, q2, q3, q4, q5⟩ := g1
      rw [restr_updO p2] at q5
      exact ⟨ob, q1, q2, q3, q4, q5⟩
    · rw [restr_upd p1]; exact h3 L
    · have := g2 v
      have e : upd (updO E o.dst A) b.d (b.A v) = updO (upd E b.d (b.A v)) o.dst A := by
        have := updO_comm (E := E) (d := some b.d) (e := o.dst) (A := b.A v) (B := A) p3
        simpa [updO] using this.symm
      rw [e] at this
      exact this
theorem JF_pull : ∀ {l1 : List It3} {b : It3} {l2 : List It3} {E : Env} {L : List SP},
    (∀ a ∈ l1, okPair3 (plOf3 ops.toList a) (plOf3 ops.toList b) = true) → (∀ a ∈ l1, a.i ∉ aftOf ops.toList b.i) → JF C ops F k (l1 ++ b :: l2) E L → JF C ops F k (b :: (l1 ++ l2)) E L
  | [], _, _, _, _, _, _, h => h
  | xa :: l1, xb, l2, E, L, hp, hn, h => by
    obtain ⟨oa, A, ha, hla, hsa, hk⟩ := h
    have ih := JF_pull (fun a m => hp a (by simp [m])) (fun a m => hn a (by simp [m])) hk
    have hpair := hp xa (by simp)
    have hna := hn xa (by simp)
    have hda : dstOf ops.toList xa.i = oa.dst := by simp [dstOf, ha]
    have hpair' : inO oa.dst xb.ts = false ∧ inO (dstOf ops.toList xb.i) xa.ts = false ∧ eqO oa.dst (dstOf ops.toList xb.i) = false := by
      simp only [okPair3, plOf3, hda, Bool.and_eq_true, Bool.or_eq_true, Bool.not_eq_true', memN_iff] at hpair
      rcases hpair.2 with q | q
      · exact absurd q hna
      · exact ⟨q.1.1, q.1.2, q.2⟩
    obtain ⟨p1, p2, p3⟩ := hpair'
    obtain ⟨ob, B, hb, hlb, hsb, hkb⟩ := ih
    have hdb : dstOf ops.toList xb.i = ob.dst := by simp [dstOf, hb]
    rw [hdb] at p2 p3
    refine ⟨ob, B, hb, hlb, fun L => (hsb L).same (restr_updO p1), oa, A, ha, hla, fun L => (hsa L).same (restr_updO p2).symm, ?_⟩
    rw [updO_comm p3] at hkb
    exact hkb
/-- What is behind, up to the order of what is owned. -/
def upP (k : Env → List SP → Prop) : Env → List SP → Prop := fun E L => ∃ L0, L.Perm L0 ∧ k E L0
theorem upP_perm : PermK (upP k) := fun E L L' p ⟨L0, q, h⟩ => ⟨L0, p.symm.trans q, h⟩
theorem JF_out : ∀ {its : List It3} {E : Env} {L : List SP}, JF C ops F (upP k) its E L → ∃ L0, L.Perm L0 ∧ JF C ops F k its E L0
  | [], _, _, h => h
  | x :: its, E, L, ⟨o, A, h1, h2, h3, h4⟩ => by
    obtain ⟨L0, p, h5⟩ := JF_out h4
    exact ⟨L0, p, o, A, h1, h2, h3, h5⟩
theorem JF_JX {tail : List It3} : ∀ {its : List It3} {E : Env} {L : List SP}, (∀ x ∈ its, x.c ≤ 1) → JF C ops F (fun E L => JX C ops k tail E (F ++ L)) its E L → JX C ops k (its ++ tail) E (F ++ L)
  | [], _, _, _, h => h
  | ⟨i, ts, 0⟩ :: its, E, L, hc, ⟨o, A, h1, h2, h3, h4⟩ => ⟨o, A, h1, h2, h3, JF_JX (fun x hx => hc x (by simp [hx])) h4⟩
  | ⟨i, ts, 1⟩ :: its, E, L, hc, ⟨o, A, h1, h2, h3, h4⟩ => ⟨o, A, h1, h2, h3 L, JF_JX (fun x hx => hc x (by simp [hx])) h4⟩
  | ⟨i, ts, c + 2⟩ :: its, E, L, hc, _ => by have := hc ⟨i, ts, c + 2⟩ (by simp); simp at this
end
def okAl2 (ops : List Oper) (frees tail : List It3) (a : Al2) : Bool :=
  (aftOf ops a.i).all (Nat.blt · a.i) && Nat.blt a.i ops.length &&
  (frees.all fun x => !memN a.d x.ts && (memN x.i (aftOf ops a.i) || !inO (dstOf ops x.i) a.ts) && !eqO (some a.d) (dstOf ops x.i) && !Nat.beq a.i x.i) &&
  (tail.all fun x => !Nat.beq a.i x.i && (memN a.i (aftOf ops x.i) || (aftOf ops x.i).any fun r => tail.any fun y => Nat.beq r y.i))
def okZ (ops : List Oper) (frees : List It3) (als : List Al2) (tail : List It3) : Bool :=
  let pls := (frees ++ tail).map (plOf3 ops)
  okPls3 pls && (pls.all fun p => p.aft.all (Nat.blt · p.i)) && ((frees ++ tail).all fun x => Nat.blt x.i ops.length) && (frees.all fun x => Nat.ble x.c 1) &&
  (List.range ops.length).all (fun i => ((frees ++ tail).any fun x => Nat.beq i x.i) || als.any fun a => Nat.beq i a.i) &&
  indAs2 als && als.all (okAl2 ops frees tail)
theorem okPls3_back : ∀ {l1 l2 : List Pl3}, okPls3 (l1 ++ l2) = true → okPls3 l2 = true
  | [], _, h => h
  | a :: l1, l2, h => by
    simp only [List.cons_append, okPls3, Bool.and_eq_true] at h
    exact okPls3_back h.2
theorem pls3_ne {ops : List Oper} {l1 l2 : List It3} {b : It3} (h : okPls3 ((l1 ++ b :: l2).map (plOf3 ops)) = true) : ∀ x ∈ l1 ++ l2, x.i ≠ b.i := fun x hx e => by
  rw [List.map_append, List.map_cons] at h
  rcases List.mem_append.1 hx with hx | hx
  · have := okPls3_pair h (plOf3 ops x) (List.mem_map_of_mem hx)
    simp only [okPair3, plOf3, Bool.and_eq_true, Bool.not_eq_true'] at this
    rw [e] at this; simp at this
  · have := okPls3_back h
    simp only [okPls3, Bool.and_eq_true, List.all_eq_true] at this
    have := this.1.1 _ (List.mem_map_of_mem hx)
    simp only [okPair3, plOf3, Bool.and_eq_true, Bool.not_eq_true'] at this
    rw [e] at this; simp at this
theorem indAs2_sub {b : Al2} {l2 : List Al2} : ∀ {l1 : List Al2}, indAs2 (l1 ++ b :: l2) = true → indAs2 (l1 ++ l2) = true ∧ (∀ x ∈ l1 ++ l2, x.i ≠ b.i) ∧ ∀ a ∈ l1, indA2 a b = true
  | [], h => by
    simp only [List.nil_append, indAs2, Bool.and_eq_true, List.all_eq_true] at h
    refine ⟨h.2, fun x hx e => ?_, fun a ha => by cases ha⟩
    have := h.1 x hx
    simp only [indA2, Bool.and_eq_true, Bool.not_eq_true'] at this
    rw [e] at this; simp at this
  | a :: l1, h => by
    simp only [List.cons_append, indAs2, Bool.and_eq_true, List.all_eq_true] at h ⊢
    obtain ⟨h1, h2, h3⟩ := indAs2_sub h.2
    refine ⟨⟨fun x hx => h.1 x ?_, h1⟩, fun x hx e => ?_, fun x hx => ?_⟩
    · rcases List.mem_append.1 hx with hx | hx <;> simp [hx]
    · rcases List.mem_cons.1 hx with rfl | hx
      · have := h.1 b (by simp)
        simp only [indA2, Bool.and_eq_true, Bool.not_eq_true'] at this
        rw [e] at this; simp at this
      · exact h2 x hx e
    · rcases List.mem_cons.1 hx with rfl | hx
      · exact h.1 b (by simp)
      · exact h3 x hx
theorem wpAny_JZ {C : Cx} {ops : Array Oper} {F : List SP} {Q : Exit → Act → World → Prop} {tail : List It3} : ∀ (fuel : Nat) (frees : List It3) (als : List Al2) (listed : Array Bool) (E : Env) (L : List SP), frees.length + als.length + tail.length ≤ fuel → listed.size = ops.size →
    (∀ i, i < ops.size → (listed.getD i true = false ↔ (∃ x ∈ frees ++ tail, x.i = i) ∨ ∃ a ∈ als, a.i = i)) → okPls3 ((frees ++ tail).map (plOf3 ops.toList)) = true → (∀ x ∈ frees ++ tail, x.i < ops.size ∧ ∀ e ∈ aftOf ops.toList x.i, e < x.i) → (∀ x ∈ frees, x.c ≤ 1) → indAs2 als = true → (∀ a ∈ als, okAl2 ops.toList frees tail a = true) →
    JF C ops F (Als2 C ops (upP fun E' L' => JX C ops (fun E' L' => K C (Q .normal) E' L') tail E' (F ++ L')) als) frees E L → K C (fun a w => wpAnyIn (Fw C.ro) 0 C.P .any ops Q fuel listed a w) E (F ++ (als.map (·.I) ++ L)) := by
  intro fuel
  induction fuel with
  | zero =>
    intro frees als listed E L hlen hsz hin hok hlt hc hi hal hJ
    have h1 : frees = [] := List.length_eq_zero_iff.1 (by omega)
    have h2 : als = [] := List.length_eq_zero_iff.1 (by omega)
    have h3 : tail = [] := List.length_eq_zero_iff.1 (by omega)
    subst h1; subst h2; subst h3
    obtain ⟨L0, p, hJ⟩ := hJ
    exact K_lsub (LSub.of_perm (List.Perm.append_left F p)) (wpAny_JX 0 [] listed E (F ++ L0) (by simp) hsz (fun i h => by rw [hin i h]; simp) rfl (fun x hx => by cases hx) hJ)
  | succ fuel ih =>
    intro frees als listed E L hlen hsz hin hok hlt hc hi hal hJ
    match als, hlen, hin, hi, hal, hJ with
    | [], hlen, hin, hi, hal, hJ =>
      obtain ⟨L0, p, hJ⟩ := JF_out hJ
      exact K_lsub (LSub.of_perm (List.Perm.append_left F p)) (wpAny_JX (fuel + 1) (frees ++ tail) listed E (F ++ L0) (by simp at hlen ⊢; omega) hsz (fun i h => by rw [hin i h]; simp) hok hlt (JF_JX hc hJ))
    | a0 :: als0, hlen, hin, hi, hal, hJ =>
      generalize hals : a0 :: als0 = als at *
      have ha0 : a0 ∈ als := by rw [← hals]; simp
      have hall : ∀ a ∈ als, a.i < ops.size ∧ ∀ e ∈ aftOf ops.toList a.i, e < a.i := fun a ha => by
        have := hal a ha
        simp only [okAl2, Bool.and_eq_true, List.all_eq_true] at this
        exact ⟨by simpa using this.1.1.2, fun e he => by simpa using this.1.1.1 e he⟩
      intro a w p
      refine ⟨fun hr => ?_, fun i hii => ?_⟩
      · exfalso
        have hall2 : ∀ i, i < ops.size → listed.getD i true = true := by
          intro i
          induction i using Nat.strongRecOn with
          | _ i ihi =>
            intro hilt
            cases hl : listed.getD i true with
            | true => rfl
            | false =>
              have ho : ops[i]? = some ops[i] := Array.getElem?_eq_getElem hilt
              have h1 : ∀ e ∈ aftOf ops.toList i, e < i := by
                rcases (hin i hilt).1 hl with ⟨x, hx, hxi⟩ | ⟨x, hx, hxi⟩
                · have := (hlt x hx).2; rwa [hxi] at this
                · have := (hall x hx).2; rwa [hxi] at this
              have hm : i ∈ Region.ready .any ops listed := mem_ready.2 ⟨hilt, hl, _, ho, fun e he => by
                have he' : e < i := h1 e (by simpa [aftOf, hilt] using he)
                rw [getD_any (by omega) false true]
                exact ihi e he' (by omega)⟩
              rw [hr] at hm; cases hm
        have h1 := (hall a0 ha0).1
        have := (hin a0.i h1).2 (.inr ⟨a0, ha0, rfl⟩)
        rw [hall2 a0.i h1] at this; cases this
      · obtain ⟨hlti, hnl, o, ho, haft⟩ := mem_ready.1 hii
        have haft' : aftOf ops.toList i = aftN o := by
          have : ops.toList[i]? = some o := by simpa using ho
          simp only [aftOf, this]
        have hno : ∀ j, j < ops.size → listed.getD j true = false → j ∉ aftOf ops.toList i := fun j hj hl hm => by
          rw [haft'] at hm
          have h1 := haft _ hm
          rw [getD_any (by omega) true false, h1] at hl; cases hl
        rcases (hin i hlti).1 hnl with ⟨b, hb, hbi⟩ | ⟨b, hb, hbi⟩
        · rcases List.mem_append.1 hb with hb | hb
          · obtain ⟨l1, l2, rfl⟩ := List.append_of_mem hb
            have hmap : (l1 ++ b :: l2 ++ tail).map (plOf3 ops.toList) = l1.map (plOf3 ops.toList) ++ plOf3 ops.toList b :: (l2 ++ tail).map (plOf3 ops.toList) := by simp
            have hpair : ∀ x ∈ l1, okPair3 (plOf3 ops.toList x) (plOf3 ops.toList b) = true := fun x hx => okPls3_pair (hmap ▸ hok) _ (List.mem_map_of_mem hx)
            have hleft : ∀ x ∈ l1, x.i ∉ aftOf ops.toList b.i := fun x hx => by
              rw [hbi]; exact hno x.i (hlt x (by simp [hx])).1 ((hin x.i (hlt x (by simp [hx])).1).2 (.inl ⟨x, by simp [hx], rfl⟩))
            have hne := pls3_ne (ops := ops.toList) (l1 := l1) (b := b) (l2 := l2 ++ tail) (by simpa using hok)
            have hJ' := JF_pull hpair hleft hJ
            obtain ⟨o', A, ho2, hl, hs, hk⟩ := hJ'
            subst hbi
            have hna : ∀ x ∈ als, x.i ≠ b.i := fun x hx e => by
              have := hal x hx
              simp only [okAl2, Bool.and_eq_true, List.all_eq_true] at this
              have := (this.1.2 b (by simp)).2
              rw [e] at this; simp at this
            have hs' : StepG C ops o' (restr b.ts E) (F ++ (als.map (·.I) ++ L)) A := by
              match e : b.c with
              | 0 => have := hs (F ++ (als.map (·.I) ++ L)); rw [e] at this; exact this
              | c + 1 => have := hs (als.map (·.I) ++ L); rw [e] at this; exact this
            refine hs'.op ho2 hl ?_ a w p
            refine ih (l1 ++ l2) als _ _ L (by simp only [List.length_append, List.length_cons] at hlen ⊢; omega) (by simpa using hsz) (fun j hj => ?_) ?_ (fun x hx => hlt x ?_) (fun x hx => hc x (by rcases List.mem_append.1 hx with hx | hx <;> simp [hx])) hi (fun x hx => ?_) hk
            · by_cases hji : b.i = j
              · subst hji
                rw [getD_set_same (by omega)]
                constructor
                · intro h; cases h
                · rintro (⟨x, hx, e⟩ | ⟨x, hx, e⟩)
                  · exact absurd e (hne x (by simpa [List.append_assoc] using hx))
                  · exact absurd e (hna x hx)
              · rw [getD_set_ne hji, hin j hj]
                constructor
                · rintro (⟨x, hx, e⟩ | h)
                  · refine .inl ⟨x, ?_, e⟩
                    simp only [List.mem_append, List.mem_cons] at hx ⊢
                    rcases hx with (hx | rfl | hx) | hx
                    · exact .inl (.inl hx)
                    · exact absurd e hji
                    · exact .inl (.inr hx)
                    · exact .inr hx
                  · exact .inr h
                · rintro (⟨x, hx, e⟩ | h)
                  · refine .inl ⟨x, ?_, e⟩
                    simp only [List.mem_append, List.mem_cons] at hx ⊢
                    rcases hx with (hx | hx) | hx
                    · exact .inl (.inl hx)
                    · exact .inl (.inr (.inr hx))
                    · exact .inr hx
                  · exact .inr h
            · have h3 := okPls3_sub (hmap ▸ hok) (fun x hx => (List.mem_map.1 hx).elim fun y hy => hy.2 ▸ hc y (by simp [hy.1])) (fun x hx => (List.mem_map.1 hx).elim fun y hy => hy.2 ▸ hleft y hy.1)
              simpa using h3
            · simp only [List.mem_append, List.mem_cons] at hx ⊢
              rcases hx with (hx | hx) | hx
              · exact .inl (.inl hx)
              · exact .inl (.inr (.inr hx))
              · exact .inr hx
            · have := hal x hx
              simp only [okAl2, Bool.and_eq_true, List.all_eq_true] at this ⊢
              refine ⟨⟨this.1.1, fun y hy => this.1.2 y ?_⟩, this.2⟩
              rcases List.mem_append.1 hy with hy | hy <;> simp [hy]
          · exfalso
            have := hal a0 ha0
            simp only [okAl2, Bool.and_eq_true, List.all_eq_true] at this
            have := (this.2 b hb).2
            rw [hbi] at this
            simp only [Bool.or_eq_true, List.any_eq_true] at this
            rcases this with q | ⟨r, hr, y, hy, e⟩
            · exact hno a0.i (hall a0 ha0).1 ((hin a0.i (hall a0 ha0).1).2 (.inr ⟨a0, ha0, rfl⟩)) (memN_iff.1 q)
            · have e := Nat.eq_of_beq_eq_true e
              subst e
              have hyl := (hlt y (by simp [hy])).1
              exact hno y.i hyl ((hin y.i hyl).2 (.inl ⟨y, by simp [hy], rfl⟩)) hr
        · have hbo := hal b hb
          simp only [okAl2, Bool.and_eq_true, List.all_eq_true] at hbo
          obtain ⟨l1, l2, hl12⟩ := List.append_of_mem hb
          rw [hl12] at hi
          obtain ⟨hi2, hne, hpA⟩ := indAs2_sub hi
          obtain ⟨hAl, hnext⟩ := JF_lay (C := C) (ops := ops) (F := F) (b := b) (k' := Als2 C ops (upP fun E' L' => JX C ops (fun E' L' => K C (Q .normal) E' L') tail E' (F ++ L')) (l1 ++ l2)) (its := frees) (fun x hx => by
            have hq := hbo.1.2 x hx
            simp only [Bool.and_eq_true, Bool.or_eq_true, Bool.not_eq_true'] at hq
            refine ⟨hq.1.1.1, ?_, hq.1.2⟩
            rcases hq.1.1.2 with q | q
            · exfalso
              have hxl := (hlt x (by simp [hx])).1
              rw [hbi] at q
              exact hno x.i hxl ((hin x.i hxl).2 (.inl ⟨x, by simp [hx], rfl⟩)) (memN_iff.1 q)
            · exact q) (fun E L h => by rw [hl12] at h; exact Als2.pull upP_perm hpA h) hJ
          obtain ⟨ob, q1, q2, q3, q4, q5⟩ := hAl
          rw [hbi, ho] at q1
          cases q1
          have hperm : (F ++ (als.map (·.I) ++ L)).Perm (b.I :: (F ++ ((l1 ++ l2).map (·.I) ++ L))) := by
            rw [hl12]
            simp only [List.map_append, List.map_cons]
            refine (List.Perm.append_left F ?_).trans List.perm_middle
            rw [List.append_assoc, List.append_assoc]
            exact List.perm_middle
          obtain ⟨n, ds, h, m, l, sp, st, fr⟩ := p.lsub (LSub.of_perm hperm)
          have hwt : Region.wanted o (yielded ops a.tmps) = true := by simp [Region.wanted, q4]
          unfold wpOpIn
          simp only [ho]
          rw [if_pos hwt]
          refine q5 (F ++ ((l1 ++ l2).map (·.I) ++ L)) a w h m n l sp st (fr.sub restr_sub) _ Q fun v v' w' h' m' l' sp' st' hv => ?_
          have hrest := ih frees (l1 ++ l2) (listed.setIfInBounds i true) (upd E b.d (b.A v)) (b.M v :: L) (by rw [hl12] at hlen; simp only [List.length_append, List.length_cons] at hlen ⊢; omega) (by simpa using hsz) (fun j hj => ?_) hok hlt hc hi2 (fun x hx => hal x (by
            rw [hl12]
            rcases List.mem_append.1 hx with hx | hx <;> simp [hx])) (hnext v)
          · have hperm2 : (b.M v :: (F ++ ((l1 ++ l2).map (·.I) ++ L))).Perm (F ++ ((l1 ++ l2).map (·.I) ++ b.M v :: L)) := by
              have e1 : F ++ ((l1 ++ l2).map (·.I) ++ b.M v :: L) = (F ++ (l1 ++ l2).map (·.I)) ++ b.M v :: L := by simp
              have e2 : b.M v :: (F ++ ((l1 ++ l2).map (·.I) ++ L)) = b.M v :: ((F ++ (l1 ++ l2).map (·.I)) ++ L) := by simp
              rw [e1, e2]
              exact List.perm_middle.symm
            have hpre : Pre C (updO E o.dst (b.A v)) (b.M v :: (F ++ ((l1 ++ l2).map (·.I) ++ L))) (a.put o.dst v') w' :=
              ⟨by rw [put_size]; exact n, by rw [put_defers]; exact ds, h', m', HL.trans l l', sp', st', (fr.mono l'.1).putO (by rw [n, q2]; exact q3) hv⟩
            have hpre2 := hpre.lsub (LSub.of_perm hperm2)
            rw [q2] at hpre2 ⊢
            exact hrest _ _ hpre2
          · by_cases hji : i = j
            · subst hji
              rw [getD_set_same (by omega)]
              constructor
              · intro h; cases h
              · rintro (⟨x, hx, e⟩ | ⟨x, hx, e⟩)
                · exfalso
                  rcases List.mem_append.1 hx with hx | hx
                  · have := (hbo.1.2 x hx).2
                    rw [hbi, e] at this; simp at this
                  · have := (hbo.2 x hx).1
                    rw [hbi, e] at this; simp at this
                · exact absurd (e.trans hbi.symm) (hne x hx)
            · rw [getD_set_ne hji, hin j hj, hl12]
              constructor
              · rintro (h | ⟨x, hx, e⟩)
                · exact .inl h
                · rcases List.mem_append.1 hx with hx | hx
                  · exact .inr ⟨x, by simp [hx], e⟩
                  · rcases List.mem_cons.1 hx with rfl | hx
                    · exact absurd (hbi.symm.trans e) hji
                    · exact .inr ⟨x, by simp [hx], e⟩
              · rintro (h | ⟨x, hx, e⟩)
                · exact .inl h
                · refine .inr ⟨x, ?_, e⟩
                  rcases List.mem_append.1 hx with hx | hx <;> simp [hx]
theorem J_drawZ {C : Cx} {id : Nat} {ops : Array Oper} (F : List SP) (frees : List It3) (als : List Al2) (tail : List It3) {Q : Exit → Act → World → Prop} {E : Env} {L0 L : List SP} (hL : LSub L0 (F ++ (als.map (·.I) ++ L))) (hmix : C.P.follows .mixedOrders = true) (hok : okZ ops.toList frees als tail = true) (hn : frees.length + als.length + tail.length ≤ ops.size)
    (hJ : JF C ops F (Als2 C ops (upP fun E' L' => JX C ops (fun E' L' => K C (Q .normal) E' L') tail E' (F ++ L')) als) frees E L) : J C (.region id ops true) Q E L0 := fun a w p => by
  refine wpIn_region_draw (fun t => ?_)
  simp only [Region.schedule, hmix, Bool.true_or, if_true]
  refine wpAnyIn_sound ops.size t _ a _ ?_
  simp only [okZ, Bool.and_eq_true, List.all_eq_true, List.any_eq_true, Bool.or_eq_true] at hok
  obtain ⟨⟨⟨⟨⟨⟨h1, h2⟩, h3⟩, h3c⟩, h4⟩, h5⟩, h6⟩ := hok
  refine K_lsub hL (wpAny_JZ ops.size frees als _ E L hn (by simp) (fun i hi => ?_) h1 (fun x hx => ⟨by have := h3 x hx; simpa using this, fun e he => ?_⟩) (fun x hx => by have := h3c x hx; simpa using this) h5 h6 hJ) a _ ?_
  · constructor
    · intro _
      rcases h4 i (by simpa using hi) with ⟨x, hx, e⟩ | ⟨x, hx, e⟩
      · exact .inl ⟨x, hx, (Nat.eq_of_beq_eq_true e).symm⟩
      · exact .inr ⟨x, hx, (Nat.eq_of_beq_eq_true e).symm⟩
    · intro _; simp [Array.getD_eq_getD_getElem?, hi]
  · have := h2 _ (List.mem_map_of_mem hx) e he
    simpa [plOf3] using this
  · obtain ⟨hsz, hds, h, m, hl, sp, st, fr⟩ := p
    exact ⟨hsz, hds, h, m, hl.trans (HL.same (Same.drew _)), ⟨(by first | exact Sep.inv (by assumption) | exact Inv.mono (PH.le_join_left _ _) (Sep.inv (by assumption))), sp.hm, sp.hr, sp.mr, sp.hw, sp.mw, sp.rw⟩, st, fr⟩
theorem upP_in {k : Env → List SP → Prop} {E : Env} {L : List SP} (h : k E L) : upP k E L := ⟨L, List.Perm.refl _, h⟩
open Go
section
variable {C : Cx} {E : Env} {L : List SP} {d : Option Nat} {ty : Nat} {pos : String} {af : Array Edge} {g : Option (Nat × Bool)}
end
/-- A ghost taken as another. -/
theorem Step.emb {X Y : Type} {C : Cx} {o : Oper} {E : Env} {L : List SP} {A : X → Ty} {L' : X → List SP} {A' : Y → Ty} {M' : Y → List SP} (f : X → Y) (h : Step C o E L A L') (hA : ∀ x, A' (f x) = A x) (hM : ∀ x, M' (f x) = L' x) : Step C o E L A' M' := fun a w hp m n l sp st fr next Q hk =>
  h a w hp m n l sp st fr next Q fun x v w' h' m' l' sp' st' hv => hk (f x) v w' h' m' l' sp' (by rw [hM]; exact st') (by rw [hA]; exact hv)
theorem Step.empty {X : Type} {C : Cx} {o : Oper} {E : Env} {L : List SP} {A : X → Ty} {L' : X → List SP} (h : Step C o E L A L') : Step C o E (SP.emp :: L) A L' := fun a w hp m n l sp st fr next Q hk =>
  h a w hp m n l sp (by
    obtain ⟨m1, m2, _, rfl, e, s2⟩ := st
    have e : m1 = PH.emp := e
    subst e; rw [PH.emp_join]; exact s2) fr next Q hk
theorem LSub.emp {L : List SP} : LSub L (SP.emp :: L) := fun h m st => ⟨PH.emp, m, PH.disj_emp_left m, (PH.emp_join m).symm, _root_.rfl, st⟩
/-- The block that a value points to. -/
def vN : Value → Nat
  | .pointer (some p) => p.block
  | _ => 0
def ptrV (n : Nat) : Value := .pointer (some ⟨n, 0, none⟩)
theorem Frz.ownV {α : Type} {e : Nat} {R : Rp α} {v : Value} {xs : List α} {S : List SP} : Frz (Lg.own e R v xs :: S) (tV v) (tSl R xs) := fun h m u d hs hu => by
  have hvo : v.oneCell' = true := by
    obtain ⟨m3, m4, _, _, ho, _⟩ := hs
    rcases ho with ⟨rfl, _⟩ | ⟨g, cap, cur, rfl, _⟩ <;> rfl
  have hu : u = v := hu
  exact Frz.own h m u d hs ⟨hu, hvo⟩
open Go
section
variable {C : Cx} {E : Env} {L : List SP} {d : Option Nat} {ty : Nat} {pos : String} {af : Array Edge} {g : Option (Nat × Bool)}
theorem step_field {α : Type} {T n : Nat} {fs : List (SF α)} {x : Operand} {y : α} {f : SF α} (S : StructOf C.P T fs) (hx : Sub (opTy E x) ((rStruct fs).ty y)) (hf : fs[n]? = some f) :
    Step1 C ⟨d, .field T x n, ty, pos, af, g⟩ E L (f.R.ty (f.get y)) :=
  Step.of_same (by intro c h; cases h) fun a w h hw fr => by
    obtain ⟨cs, r, hv⟩ := fr.get hx
    have hv : a.eval x = .agg cs.toArray := hv
    obtain ⟨fls, hu, hl⟩ := S.lays
    obtain ⟨fl, h1, h2, h3, h4, h5⟩ := hl.get hf
    have h1' : fls[n]? = some fl := by simpa using h1
    rw [Nat.zero_add] at h3
    obtain ⟨c, rc, hc⟩ := SF.rel_field r hf
    have hcl := f.R.len rc
    refine ⟨packV f.R.agg c, ?_, f.R.pack rc⟩
    have hpt : (part fl.type cs.toArray fl.offset).run C.P w = .ok (packV f.R.agg c) w := by
      unfold part
      rw [h2, h3]
      have hbd : SF.off fs n + f.R.k ≤ cs.length := by
        have := hc (f.R.k - 1) (c[f.R.k - 1]'(by omega)) (List.getElem?_eq_getElem (by omega))
        have := (List.getElem?_eq_some_iff.1 this).1
        omega
      cases hg : f.R.agg with
      | true =>
        have he : cs.toArray.extract (SF.off fs n) (SF.off fs n + f.R.k) = c.toArray := by
          rw [List.extract_toArray]
          congr 1
          refine List.ext_getElem? fun i => ?_
          simp only [List.getElem?_take, List.getElem?_drop]
          by_cases hi : i < f.R.k
          · rw [if_pos (by omega), hc i (c[i]'(by omega)) (List.getElem?_eq_getElem (by omega)), List.getElem?_eq_getElem (by omega)]
          · rw [if_neg (by omega), List.getElem?_eq_none (by omega)]
        have ha := h4.agg w
        rw [hg] at ha
        simp only [Sem.run_bind, ha, Result.andThen_ok, h4.size, if_true, packV]
        simp [he]
      | false =>
        have hk := f.R.scalar hg
        have ha := h4.agg w
        rw [hg] at ha
        match c, hcl, hc with
        | [u], _, hc =>
          have := hc 0 u rfl
          simp only [Nat.add_zero] at this
          simp [Sem.run_bind, ha, packV, this]
        | [], hcl, _ => simp [hk] at hcl
        | _ :: _ :: _, hcl, _ => simp [hk] at hcl
    simp [execOp, Instr.field, hv, run_underlying hu, h1', asAgg, hpt]
end
/-- Own memory S, of which a part is made immutable, is then F. -/
def Frz2 (S : List SP) (F : SP) : Prop := ∀ h m : PH, h.disj m → (stars S).p h m → ∃ m1 m2 : PH, m1.disj m2 ∧ m = m1.join m2 ∧ F.p (h.join m1) m2
theorem Frz2.box {α α' : Type} {b T : Nat} {fs : List (SF α)} {fs' : List (SF α')} {x : α} {y : α'} {S : List SP} (hup : ∀ h m cs, h.disj m → (stars S).p h m → SF.rel h x fs cs → SF.rel (h.join m) y fs' cs) :
    Frz2 (Lg.box b T (rStruct fs) x :: S) (Lg.box b T (rStruct fs') y) := fun h m d ⟨m1, m2, d12, e0, ⟨cs, r, e1⟩, hs⟩ => by
  subst e0
  have hd := PH.disj_join'.1 d
  exact ⟨m2, m1, PH.disj_symm d12, PH.join_comm d12, cs, hup h m2 cs hd.2 hs r, e1⟩
theorem K_frz2 {C : Cx} {k : Act → World → Prop} {E : Env} {L S R : List SP} {F : SP} (sel : Sel L S R) (f : Frz2 S F) (hk : K C k E (F :: R)) : K C k E L :=
  fun a w ⟨n, ds, h, m, l, sp, st, fr⟩ => by
  obtain ⟨m1, m2, d12, rfl, s1, s2⟩ := sel.stars.1 st
  have hd := PH.disj_join'.1 sp.hm
  obtain ⟨a1, a2, da, rfl, hF⟩ := f h m1 hd.1 s1
  have hle := PH.le_join_left h a1
  have hdj := PH.disj_join'.1 (PH.disj_symm d12)
  rw [PH.join_assoc] at sp
  have hda : a1.disj (a2.join m2) := PH.disj_join'.2 ⟨da, PH.disj_symm hdj.1⟩
  refine hk a w ⟨n, ds, h.join a1, a2.join m2, HL.trans l ⟨hle, Same.refl _⟩, sp.freeze hda, ⟨a2, m2, PH.disj_symm hdj.2, rfl, hF, (stars R).mono hle s2⟩, fun u => (E u).mono hle (fr u)⟩
end Lg
