/- For all inputs the law DenialMatchesReference answers true: the card. -/
import Derived.Test.YticgfcbcaalioaaGreatDoorV3a
set_option linter.unusedVariables false
set_option linter.unusedSimpArgs false
set_option linter.unusedSectionVars false
namespace Lg
open Go Go.Proofs


def sideR (s : GSide) (at_ : List Int) (facts : List GFact) : GValue × Bool :=
  if s.Var = -1 then (s.Value, true)
  else if s.Var < 0 ∨ (at_.length : Int) ≤ s.Var then (zValue, false)
  else if s.Col < 0 ∨ ((nth facts (nth at_ s.Var.toNat).toNat).Row.length : Int) ≤ s.Col then (zValue, false)
  else (nth (nth facts (nth at_ s.Var.toNat).toNat).Row s.Col.toNat, true)
theorem sideR_eq (s : GSide) (at_ : List Int) (facts : List GFact) : sideV s at_.length at_ facts = ((sideR s at_ facts).1, (sideR s at_ facts).2, false) := by
  unfold sideV sideR
  by_cases h1 : s.Var = -1
  · rw [if_pos h1, if_pos h1]
  rw [if_neg h1, if_neg h1]
  by_cases h2 : s.Var < 0 ∨ (at_.length : Int) ≤ s.Var
  · rw [if_pos h2, if_pos h2]
  rw [if_neg h2, if_neg h2, if_neg (fun q => h2 (.inr q))]
  split <;> rfl
def tstR (facts : List GFact) (at_ : List Int) (t : GTest) : Bool := ((sideR t.Left at_ facts).2 && (sideR t.Right at_ facts).2) && testV (sideR t.Left at_ facts).1 t.Op (sideR t.Right at_ facts).1 t.Add
theorem tstR_eq (facts : List GFact) (at_ : List Int) (t : GTest) : tstR facts at_ t = holdsV t at_.length facts at_ := by
  unfold tstR holdsV
  rw [sideR_eq, sideR_eq]
  simp
def tabB (d : GRule) (facts : List GFact) (at_ : List Int) : Bool := (List.range at_.length).all fun i => decide ((nth facts (nth at_ i).toNat).Table = nth d.Tables i)
def holdsR (d : GRule) (facts : List GFact) (at_ : List Int) : Bool := tabB d facts at_ && d.Tests.all (tstR facts at_)
def violM (d : GRule) (facts : List GFact) (set : List Int) : Nat → List Int → Bool
  | 0, at_ => holdsR d facts at_
  | n + 1, at_ => set.any fun c => !at_.contains c && violM d facts set n (at_ ++ [c])
theorem any_range_stop {n i : Nat} {p : Nat → Bool} (hi : i < n) (hp : p i = false) : ((List.range n).all p) = false := by
  rw [← Bool.not_eq_true, List.all_eq_true]
  intro h
  rw [h i (List.mem_range.2 hi)] at hp; cases hp
theorem all_drop {α : Type} [Inhabited α] (p : α → Bool) {l : List α} {i : Nat} (hi : i < l.length) (hp : p (nth l i) = false) : l.all p = false := by
  rw [← Bool.not_eq_true, List.all_eq_true]
  intro h
  rw [h _ (nth_mem hi)] at hp; cases hp
theorem any_take_succ {α : Type} [Inhabited α] (p : α → Bool) {l : List α} {j : Nat} (h : j < l.length) : (l.take (j + 1)).any p = ((l.take j).any p || p (nth l j)) := by rw [takeB h, List.any_append]; simp
theorem any_hit {α : Type} [Inhabited α] {p : α → Bool} {l : List α} {i : Nat} (hi : i < l.length) (hp : p (nth l i) = true) : l.any p = true := List.any_eq_true.2 ⟨_, nth_mem hi, hp⟩

theorem side_spec (s : GSide) (facts : List GFact) (at_ : List Int) (hb : InB at_ facts.length) : Fun1 Tryz.prog 105 [rSide.ty s, tSl rFact facts, tSl rInt at_] (tTup [rValue.ty (sideR s at_ facts).1, tV (.bool (sideR s at_ facts).2)]) := by
  refine Spec.enter Tryz.func105 rfl rfl fun h0 w0 fr0 => ?_
  refine J_seq ?_
  refine J_region ?_
  refine JL_step rfl rfl rfl (step_box (R := rSide) Sub.rfl) ?_
  refine JL_stepX rfl rfl rfl (step_alloc (fun w => Tryz.zeroValue60 w) zr60) fun v6 => ?_
  refine JL_step rfl rfl rfl (step_assign Sub.rfl) ?_
  refine JL_nil ?_
  refine J_seq ?_
  refine J_seq ?_
  refine J_region ?_
  refine JL_step rfl rfl rfl (step_fieldAddr so62 Sub.rfl rfl) ?_
  refine JL_step rfl rfl rfl (step_load_ptr ty3 Sub.rfl) ?_
  refine JL_step rfl rfl rfl (step_eql Sub.rfl Sub.rfl) ?_
  refine JL_nil ?_
  refine J_cond Sub.rfl (fun h11 => ?_) (fun h11 => ?_)
  · try simp only [decide_eq_true_eq, decide_eq_false_iff_not, Bool.and_eq_true, Bool.or_eq_true, Bool.and_eq_false_iff, Bool.or_eq_false_iff, Bool.not_eq_true', Bool.not_eq_false', Int.not_lt, Int.not_le, Bool.not_true, Bool.not_false] at h11
    refine J_seq ?_
    refine J_region ?_
    refine JL_step rfl rfl rfl (step_fieldAddr so62 Sub.rfl rfl) ?_
    refine JL_step rfl rfl rfl (step_load_ptr ty60 Sub.rfl) ?_
    refine JL_stepU rfl rfl (step_store_box ty60 Sub.rfl Sub.rfl (by first | exact Sel.take (Sel.none _) | exact Sel.skip (Sel.take (Sel.none _)) | exact Sel.skip (Sel.skip (Sel.take (Sel.none _))) | exact Sel.skip (Sel.skip (Sel.skip (Sel.take (Sel.none _)))) | exact Sel.skip (Sel.skip (Sel.skip (Sel.skip (Sel.take (Sel.none _))))))) fun _ => ?_
    refine JL_step rfl rfl rfl (step_assign Sub.rfl) ?_
    refine JL_nil ?_
    refine J_ret ?_
    refine K_ret2' (rv := .cell 6 60) (rv' := .tmp 7) rfl () (Sel.all _) (.cell ty60 Sub.rfl (by first | exact Sel.take (Sel.none _) | exact Sel.skip (Sel.take (Sel.none _)) | exact Sel.skip (Sel.skip (Sel.take (Sel.none _))) | exact Sel.skip (Sel.skip (Sel.skip (Sel.take (Sel.none _)))) | exact Sel.skip (Sel.skip (Sel.skip (Sel.skip (Sel.take (Sel.none _)))))) Sub.rfl) (.tmp Sub.rfl) (Frz.sub ?_) (Frz.sub ?_) Sub.rfl
    · rw [sideR, if_pos h11]; exact Sub.rfl
    · rw [sideR, if_pos h11]; exact Sub.rfl
  · try simp only [decide_eq_true_eq, decide_eq_false_iff_not, Bool.and_eq_true, Bool.or_eq_true, Bool.and_eq_false_iff, Bool.or_eq_false_iff, Bool.not_eq_true', Bool.not_eq_false', Int.not_lt, Int.not_le, Bool.not_true, Bool.not_false] at h11
    refine J_skip ?_
    refine J_seq ?_
    refine J_seq ?_
    refine J_region ?_
    refine JL_step rfl rfl rfl (step_fieldAddr so62 Sub.rfl rfl) ?_
    refine JL_step rfl rfl rfl (step_load_ptr ty3 Sub.rfl) ?_
    refine JL_step rfl rfl rfl (step_lss Sub.rfl Sub.rfl) ?_
    refine JL_step rfl rfl rfl (step_move Sub.rfl) ?_
    refine JL_stepG rfl rfl rfl (Gd.plain Sub.rfl) rfl rfl (fun hw => step_fieldAddr so62 Sub.rfl rfl) ?_
    refine JL_stepG rfl rfl rfl (Gd.plain Sub.rfl) rfl rfl (fun hw => step_load_ptr ty3 (Sub.w hw)) ?_
    refine JL_stepG rfl rfl rfl (Gd.plain Sub.rfl) rfl rfl (fun hw => step_move Sub.rfl) ?_
    refine JL_stepG rfl rfl rfl (Gd.plain Sub.rfl) rfl rfl (fun hw => step_len_sl Tryz.underlying24 (Sub.w hw)) ?_
    refine JL_stepG rfl rfl rfl (Gd.plain Sub.rfl) rfl rfl (fun hw => step_geq (Sub.w hw) (Sub.w hw)) ?_
    refine JL_step rfl rfl rfl (step_pick_or Sub.rfl Sub.rfl) ?_
    refine JL_nil ?_
    refine J_cond Sub.rfl (fun h23 => ?_) (fun h23 => ?_)
    · try simp only [decide_eq_true_eq, decide_eq_false_iff_not, Bool.and_eq_true, Bool.or_eq_true, Bool.and_eq_false_iff, Bool.or_eq_false_iff, Bool.not_eq_true', Bool.not_eq_false', Int.not_lt, Int.not_le, Bool.not_true, Bool.not_false] at h23
      refine J_seq ?_
      refine J_region ?_
      refine JL_step rfl rfl rfl (step_build (x := (zValue : GValue)) (zs := [[Value.int .i64 0], [Value.int .i64 0], [Value.string ⟨#[]⟩]]) so60 (fun w => Tryz.zeroValue60 w) trivial ⟨fun _ => rfl, fun _ => rfl, fun _ => rfl, trivial⟩) ?_
      refine JL_stepU rfl rfl (step_store_box ty60 Sub.rfl Sub.rfl (by first | exact Sel.take (Sel.none _) | exact Sel.skip (Sel.take (Sel.none _)) | exact Sel.skip (Sel.skip (Sel.take (Sel.none _))) | exact Sel.skip (Sel.skip (Sel.skip (Sel.take (Sel.none _)))) | exact Sel.skip (Sel.skip (Sel.skip (Sel.skip (Sel.take (Sel.none _))))))) fun _ => ?_
      refine JL_step rfl rfl rfl (step_assign Sub.rfl) ?_
      refine JL_nil ?_
      refine J_ret ?_
      refine K_ret2' (rv := .cell 6 60) (rv' := .tmp 7) rfl () (Sel.all _) (.cell ty60 Sub.rfl (by first | exact Sel.take (Sel.none _) | exact Sel.skip (Sel.take (Sel.none _)) | exact Sel.skip (Sel.skip (Sel.take (Sel.none _))) | exact Sel.skip (Sel.skip (Sel.skip (Sel.take (Sel.none _)))) | exact Sel.skip (Sel.skip (Sel.skip (Sel.skip (Sel.take (Sel.none _)))))) Sub.rfl) (.tmp Sub.rfl) (Frz.sub ?_) (Frz.sub ?_) Sub.rfl
      · rw [sideR, if_neg h11, if_pos h23]; exact Sub.rfl
      · rw [sideR, if_neg h11, if_pos h23]; exact Sub.rfl
    · try simp only [decide_eq_true_eq, decide_eq_false_iff_not, Bool.and_eq_true, Bool.or_eq_true, Bool.and_eq_false_iff, Bool.or_eq_false_iff, Bool.not_eq_true', Bool.not_eq_false', Int.not_lt, Int.not_le, Bool.not_true, Bool.not_false] at h23
      have hv : s.Var.toNat < at_.length := by omega
      have hn2 : ¬ (s.Var < 0 ∨ (at_.length : Int) ≤ s.Var) := by omega
      have hbv := hb _ (nth_mem hv)
      refine J_skip ?_
      refine J_seq ?_
      refine J_region ?_
      refine JL_step rfl rfl rfl (step_move Sub.rfl) ?_
      refine JL_step rfl rfl rfl (step_move Sub.rfl) ?_
      refine JL_step rfl rfl rfl (step_fieldAddr so62 Sub.rfl rfl) ?_
      refine JL_step rfl rfl rfl (step_load_ptr ty3 Sub.rfl) ?_
      refine JL_step rfl rfl rfl (step_indexAddr_sl (i := s.Var.toNat) Tryz.underlying24 ty3 Sub.rfl Sub.rfl ?sg1 (gb ?sg2)) ?_
      case sg1 => show s.Var = _; omega
      case sg2 => omega
      refine JL_step rfl rfl rfl (step_load_ptr ty3 Sub.rfl) ?_
      refine JL_step rfl rfl rfl (step_indexAddr_sl (i := (nth at_ s.Var.toNat).toNat) Tryz.underlying23 ty54 Sub.rfl Sub.rfl ?sg1 (gb ?sg2)) ?_
      case sg1 => show (nth at_ s.Var.toNat) = _; omega
      case sg2 => omega
      refine JL_step rfl rfl rfl (step_fieldAddr so54 Sub.rfl rfl) ?_
      refine JL_step rfl rfl rfl (step_load_ptr ty52 Sub.rfl) ?_
      refine JL_step rfl rfl rfl (step_assign Sub.rfl) ?_
      refine JL_nil ?_
      refine J_seq ?_
      refine J_seq ?_
      refine J_region ?_
      refine JL_step rfl rfl rfl (step_fieldAddr so62 Sub.rfl rfl) ?_
      refine JL_step rfl rfl rfl (step_load_ptr ty3 Sub.rfl) ?_
      refine JL_step rfl rfl rfl (step_lss Sub.rfl Sub.rfl) ?_
      refine JL_step rfl rfl rfl (step_move Sub.rfl) ?_
      refine JL_stepG rfl rfl rfl (Gd.plain Sub.rfl) rfl rfl (fun hw => step_fieldAddr so62 Sub.rfl rfl) ?_
      refine JL_stepG rfl rfl rfl (Gd.plain Sub.rfl) rfl rfl (fun hw => step_load_ptr ty3 (Sub.w hw)) ?_
      refine JL_stepG rfl rfl rfl (Gd.plain Sub.rfl) rfl rfl (fun hw => step_move Sub.rfl) ?_
      refine JL_stepG rfl rfl rfl (Gd.plain Sub.rfl) rfl rfl (fun hw => step_len_sl Tryz.underlying52 (Sub.w hw)) ?_
      refine JL_stepG rfl rfl rfl (Gd.plain Sub.rfl) rfl rfl (fun hw => step_geq (Sub.w hw) (Sub.w hw)) ?_
      refine JL_step rfl rfl rfl (step_pick_or Sub.rfl Sub.rfl) ?_
      refine JL_nil ?_
      refine J_cond Sub.rfl (fun h43 => ?_) (fun h43 => ?_)
      · try simp only [decide_eq_true_eq, decide_eq_false_iff_not, Bool.and_eq_true, Bool.or_eq_true, Bool.and_eq_false_iff, Bool.or_eq_false_iff, Bool.not_eq_true', Bool.not_eq_false', Int.not_lt, Int.not_le, Bool.not_true, Bool.not_false] at h43
        refine J_seq ?_
        refine J_region ?_
        refine JL_step rfl rfl rfl (step_build (x := (zValue : GValue)) (zs := [[Value.int .i64 0], [Value.int .i64 0], [Value.string ⟨#[]⟩]]) so60 (fun w => Tryz.zeroValue60 w) trivial ⟨fun _ => rfl, fun _ => rfl, fun _ => rfl, trivial⟩) ?_
        refine JL_stepU rfl rfl (step_store_box ty60 Sub.rfl Sub.rfl (by first | exact Sel.take (Sel.none _) | exact Sel.skip (Sel.take (Sel.none _)) | exact Sel.skip (Sel.skip (Sel.take (Sel.none _))) | exact Sel.skip (Sel.skip (Sel.skip (Sel.take (Sel.none _)))) | exact Sel.skip (Sel.skip (Sel.skip (Sel.skip (Sel.take (Sel.none _))))))) fun _ => ?_
        refine JL_step rfl rfl rfl (step_assign Sub.rfl) ?_
        refine JL_nil ?_
        refine J_ret ?_
        refine K_ret2' (rv := .cell 6 60) (rv' := .tmp 7) rfl () (Sel.all _) (.cell ty60 Sub.rfl (by first | exact Sel.take (Sel.none _) | exact Sel.skip (Sel.take (Sel.none _)) | exact Sel.skip (Sel.skip (Sel.take (Sel.none _))) | exact Sel.skip (Sel.skip (Sel.skip (Sel.take (Sel.none _)))) | exact Sel.skip (Sel.skip (Sel.skip (Sel.skip (Sel.take (Sel.none _)))))) Sub.rfl) (.tmp Sub.rfl) (Frz.sub ?_) (Frz.sub ?_) Sub.rfl
        · rw [sideR, if_neg h11, if_neg hn2, if_pos h43]; exact Sub.rfl
        · rw [sideR, if_neg h11, if_neg hn2, if_pos h43]; exact Sub.rfl
      · try simp only [decide_eq_true_eq, decide_eq_false_iff_not, Bool.and_eq_true, Bool.or_eq_true, Bool.and_eq_false_iff, Bool.or_eq_false_iff, Bool.not_eq_true', Bool.not_eq_false', Int.not_lt, Int.not_le, Bool.not_true, Bool.not_false] at h43
        have hn3 : ¬ (s.Col < 0 ∨ ((nth facts (nth at_ s.Var.toNat).toNat).Row.length : Int) ≤ s.Col) := by omega
        refine J_skip ?_
        refine J_seq ?_
        refine J_region ?_
        refine JL_step rfl rfl rfl (step_move Sub.rfl) ?_
        refine JL_step rfl rfl rfl (step_fieldAddr so62 Sub.rfl rfl) ?_
        refine JL_step rfl rfl rfl (step_load_ptr ty3 Sub.rfl) ?_
        refine JL_step rfl rfl rfl (step_indexAddr_sl (i := s.Col.toNat) Tryz.underlying52 ty60 Sub.rfl Sub.rfl ?sg1 (gb ?sg2)) ?_
        case sg1 => show s.Col = _; omega
        case sg2 => show s.Col.toNat < (nth facts (nth at_ s.Var.toNat).toNat).Row.length; omega
        refine JL_step rfl rfl rfl (step_load_ptr ty60 Sub.rfl) ?_
        refine JL_stepU rfl rfl (step_store_box ty60 Sub.rfl Sub.rfl (by first | exact Sel.take (Sel.none _) | exact Sel.skip (Sel.take (Sel.none _)) | exact Sel.skip (Sel.skip (Sel.take (Sel.none _))) | exact Sel.skip (Sel.skip (Sel.skip (Sel.take (Sel.none _)))) | exact Sel.skip (Sel.skip (Sel.skip (Sel.skip (Sel.take (Sel.none _))))))) fun _ => ?_
        refine JL_step rfl rfl rfl (step_assign Sub.rfl) ?_
        refine JL_nil ?_
        refine J_ret ?_
        refine K_ret2' (rv := .cell 6 60) (rv' := .tmp 7) rfl () (Sel.all _) (.cell ty60 Sub.rfl (by first | exact Sel.take (Sel.none _) | exact Sel.skip (Sel.take (Sel.none _)) | exact Sel.skip (Sel.skip (Sel.take (Sel.none _))) | exact Sel.skip (Sel.skip (Sel.skip (Sel.take (Sel.none _)))) | exact Sel.skip (Sel.skip (Sel.skip (Sel.skip (Sel.take (Sel.none _)))))) Sub.rfl) (.tmp Sub.rfl) (Frz.sub ?_) (Frz.sub ?_) Sub.rfl
        · rw [sideR, if_neg h11, if_neg hn2, if_neg hn3]; exact Sub.rfl
        · rw [sideR, if_neg h11, if_neg hn2, if_neg hn3]; exact Sub.rfl
theorem holdsR_spec (d : GRule) (facts : List GFact) (at_ : List Int) (hb : InB at_ facts.length) (hl : at_.length ≤ d.Tables.length) (hal : at_.length ≤ 1000000) (hte : d.Tests.length ≤ 4000000) : Fun1 Tryz.prog 82 [rRule.ty d, tSl rFact facts, tSl rInt at_] (tV (.bool (holdsR d facts at_))) := by
  refine Spec.enter Tryz.func82 rfl rfl fun h0 w0 fr0 => ?_
  refine J_seq ?_
  refine J_region ?_
  refine JL_step rfl rfl rfl (step_box (R := rRule) Sub.rfl) ?_
  refine JL_step rfl rfl rfl (step_assign Sub.rfl) ?_
  refine JL_nil ?_
  refine J_seq ?_
  refine J_seq ?_
  refine J_region ?_
  refine JL_step rfl rfl rfl (step_assign Sub.rfl) ?_
  refine JL_nil ?_
  refine J_block ?_
  refine J_loopL (σ := Nat) (fun i => i ≤ at_.length ∧ ∀ q, q < i → decide ((nth facts (nth at_ q).toNat).Table = nth d.Tables q) = true) (fun i => upd (upd (upd (upd env0 1 (tSl rFact facts)) 2 (tSl rInt at_)) 3 (tPtr rRule d)) 7 (tV (.int .i64 i))) (fun i => []) (fun i => at_.length - i) 0 ⟨by omega, fun q hq => by omega⟩ (SubE.upd Sub.rfl (SubE.upd Sub.rfl (SubE.upd Sub.rfl (SubE.upd Sub.rfl SubE.any)))) (LSub.rfl) ?_
  rintro i ⟨hi, hv⟩
  refine J_seq ?_
  refine J_seq ?_
  refine J_region ?_
  refine JL_step rfl rfl rfl (step_move Sub.rfl) ?_
  refine JL_step rfl rfl rfl (step_move Sub.rfl) ?_
  refine JL_step rfl rfl rfl (step_len_sl Tryz.underlying24 Sub.rfl) ?_
  refine JL_step rfl rfl rfl (step_lss Sub.rfl Sub.rfl) ?_
  refine JL_nil ?_
  refine J_cond Sub.rfl (fun h17 => ?_) (fun h17 => ?_)
  · try simp only [decide_eq_true_eq, decide_eq_false_iff_not, Bool.and_eq_true, Bool.or_eq_true, Bool.and_eq_false_iff, Bool.or_eq_false_iff, Bool.not_eq_true', Bool.not_eq_false', Int.not_lt, Int.not_le, Bool.not_true, Bool.not_false] at h17
    have hlt : i < at_.length := by omega
    have hbv := hb _ (nth_mem hlt)
    refine J_skip ?_
    refine J_seq ?_
    refine J_block ?_
    refine J_seq ?_
    refine J_draw [⟨0, [1], true⟩, ⟨1, [2], true⟩, ⟨2, [7], true⟩, ⟨3, [21, 22], true⟩, ⟨4, [23], true⟩, ⟨5, [20, 24], true⟩, ⟨6, [25], true⟩, ⟨7, [26], true⟩, ⟨8, [3], true⟩, ⟨9, [28], true⟩, ⟨10, [7], true⟩, ⟨11, [29, 30], true⟩, ⟨12, [31], true⟩, ⟨13, [27, 32], true⟩] rfl (by kernel_rfl) ?_
    refine JM_step rfl rfl rfl rfl (fun _ => step_move Sub.rfl) ?_
    refine JM_step rfl rfl rfl rfl (fun _ => step_move Sub.rfl) ?_
    refine JM_step rfl rfl rfl rfl (fun _ => step_move Sub.rfl) ?_
    refine JM_step rfl rfl rfl rfl (fun _ => step_indexAddr_sl  Tryz.underlying24 ty3 Sub.rfl Sub.rfl rfl (gb ?sg1)) ?_
    case sg1 => exact hlt
    refine JM_step rfl rfl rfl rfl (fun _ => step_load_ptr ty3 Sub.rfl) ?_
    refine JM_step rfl rfl rfl rfl (fun _ => step_indexAddr_sl (i := (nth at_ i).toNat) Tryz.underlying23 ty54 Sub.rfl Sub.rfl ?sg1 (gb ?sg2)) ?_
    case sg1 => show (nth at_ i) = _; omega
    case sg2 => omega
    refine JM_step rfl rfl rfl rfl (fun _ => step_fieldAddr so54 Sub.rfl rfl) ?_
    refine JM_step rfl rfl rfl rfl (fun _ => step_load_ptr ty3 Sub.rfl) ?_
    refine JM_step rfl rfl rfl rfl (fun _ => step_fieldAddr so32 Sub.rfl rfl) ?_
    refine JM_step rfl rfl rfl rfl (fun _ => step_load_ptr ty24 Sub.rfl) ?_
    refine JM_step rfl rfl rfl rfl (fun _ => step_move Sub.rfl) ?_
    refine JM_step rfl rfl rfl rfl (fun _ => step_indexAddr_sl  Tryz.underlying24 ty3 Sub.rfl Sub.rfl rfl (gb ?sg1)) ?_
    case sg1 => show i < d.Tables.length; omega
    refine JM_step rfl rfl rfl rfl (fun _ => step_load_ptr ty3 Sub.rfl) ?_
    refine JM_step rfl rfl rfl rfl (fun _ => step_neq Sub.rfl Sub.rfl) ?_
    refine JM_nil ?_
    refine J_cond Sub.rfl (fun h33 => ?_) (fun h33 => ?_)
    · try simp only [decide_eq_true_eq, decide_eq_false_iff_not, Bool.and_eq_true, Bool.or_eq_true, Bool.and_eq_false_iff, Bool.or_eq_false_iff, Bool.not_eq_true', Bool.not_eq_false', Int.not_lt, Int.not_le, Bool.not_true, Bool.not_false] at h33
      refine J_seq ?_
      refine J_region ?_
      refine JL_step rfl rfl rfl (step_assign Sub.rfl) ?_
      refine JL_nil ?_
      refine J_ret ?_
      refine K_retv (rv := .tmp 6) rfl () (.tmp Sub.rfl) (Sub.bool ?_)
      have hb2 : tabB d facts at_ = false := any_range_stop hlt (by simpa using h33)
      rw [holdsR, hb2]; rfl
    · try simp only [decide_eq_true_eq, decide_eq_false_iff_not, Bool.and_eq_true, Bool.or_eq_true, Bool.and_eq_false_iff, Bool.or_eq_false_iff, Bool.not_eq_true', Bool.not_eq_false', Int.not_lt, Int.not_le, Bool.not_true, Bool.not_false] at h33
      refine J_skip ?_
      refine J_region ?_
      refine JL_step rfl rfl rfl (step_move Sub.rfl) ?_
      refine JL_step rfl rfl rfl (step_add Sub.rfl Sub.rfl ?sg1) ?_
      case sg1 => unfold in64; omega
      refine JL_step rfl rfl rfl (step_assign Sub.rfl) ?_
      refine JL_nil ?_
      refine K_againL (σ := Nat) (s := i) (i + 1) (by first | omega | (dsimp only; omega) | (simp_all; omega)) ?_ (SubE.upd Sub.rfl (SubE.upd Sub.rfl (SubE.upd Sub.rfl (SubE.upd Sub.rfl SubE.any)))) (LSub.rfl)
      refine ⟨by omega, fun q hq => ?_⟩
      by_cases e : q = i
      · subst e; simpa using h33
      · exact hv q (by omega)
  · try simp only [decide_eq_true_eq, decide_eq_false_iff_not, Bool.and_eq_true, Bool.or_eq_true, Bool.and_eq_false_iff, Bool.or_eq_false_iff, Bool.not_eq_true', Bool.not_eq_false', Int.not_lt, Int.not_le, Bool.not_true, Bool.not_false] at h17
    refine J_exit ?_
    refine J_seq ?_
    refine J_seq ?_
    refine J_region ?_
    refine JL_step rfl rfl rfl (step_assign Sub.rfl) ?_
    refine JL_nil ?_
    refine J_block ?_
    refine J_loopL (σ := Nat) (fun j => j ≤ d.Tests.length ∧ ∀ q, q < j → tstR facts at_ (nth d.Tests q) = true) (fun j => upd (upd (upd (upd env0 1 (tSl rFact facts)) 2 (tSl rInt at_)) 3 (tPtr rRule d)) 8 (tV (.int .i64 j))) (fun j => []) (fun j => d.Tests.length - j) 0 ⟨by omega, fun q hq => by omega⟩ (SubE.upd Sub.rfl (SubE.upd Sub.rfl (SubE.upd Sub.rfl (SubE.upd Sub.rfl SubE.any)))) (LSub.rfl) ?_
    rintro j ⟨hj, hw2⟩
    refine J_seq ?_
    refine J_seq ?_
    refine J_region ?_
    refine JL_step rfl rfl rfl (step_move Sub.rfl) ?_
    refine JL_step rfl rfl rfl (step_fieldAddr so32 Sub.rfl rfl) ?_
    refine JL_step rfl rfl rfl (step_load_ptr ty30 Sub.rfl) ?_
    refine JL_step rfl rfl rfl (step_len_sl Tryz.underlying30 Sub.rfl) ?_
    refine JL_step rfl rfl rfl (step_lss Sub.rfl Sub.rfl) ?_
    refine JL_nil ?_
    refine J_cond Sub.rfl (fun h38 => ?_) (fun h38 => ?_)
    · try simp only [decide_eq_true_eq, decide_eq_false_iff_not, Bool.and_eq_true, Bool.or_eq_true, Bool.and_eq_false_iff, Bool.or_eq_false_iff, Bool.not_eq_true', Bool.not_eq_false', Int.not_lt, Int.not_le, Bool.not_true, Bool.not_false] at h38
      have hlj : j < d.Tests.length := by omega
      refine J_skip ?_
      refine J_seq ?_
      refine J_block ?_
      refine J_seq ?_
      refine J_region ?_
      refine JL_step rfl rfl rfl (step_fieldAddr so32 Sub.rfl rfl) ?_
      refine JL_step rfl rfl rfl (step_load_ptr ty30 Sub.rfl) ?_
      refine JL_step rfl rfl rfl (step_move Sub.rfl) ?_
      refine JL_step rfl rfl rfl (step_indexAddr_sl  Tryz.underlying30 ty66 Sub.rfl Sub.rfl rfl (gb ?sg1)) ?_
      case sg1 => show j < d.Tests.length; exact hlj
      refine JL_step rfl rfl rfl (step_load_ptr ty66 Sub.rfl) ?_
      refine JL_stepX rfl rfl rfl (step_alloc (fun w => Tryz.zeroValue66 w) zr66) fun v9 => ?_
      refine JL_stepU rfl rfl (step_store_box ty66 Sub.rfl Sub.rfl (by first | exact Sel.take (Sel.none _) | exact Sel.skip (Sel.take (Sel.none _)) | exact Sel.skip (Sel.skip (Sel.take (Sel.none _))) | exact Sel.skip (Sel.skip (Sel.skip (Sel.take (Sel.none _)))) | exact Sel.skip (Sel.skip (Sel.skip (Sel.skip (Sel.take (Sel.none _))))))) fun _ => ?_
      refine JL_freeze (t := 9) (Sel.take (Sel.none _)) Frz.box ?_
      refine JL_nil ?_
      refine J_seq ?_
      refine J_region ?_
      refine JL_step rfl rfl rfl (step_fieldAddr so66 Sub.rfl rfl) ?_
      refine JL_step rfl rfl rfl (step_load_ptr ty62 Sub.rfl) ?_
      refine JL_step rfl rfl rfl (step_move Sub.rfl) ?_
      refine JL_step rfl rfl rfl (step_move Sub.rfl) ?_
      refine JL_step rfl rfl rfl (step_call0 (side_spec _ _ _ hb) ⟨Sub.rfl, Sub.rfl, Sub.rfl, trivial⟩ Tryz.call105) ?_
      refine JL_step rfl rfl rfl (step_move Sub.rfl) ?_
      refine JL_step rfl rfl rfl (step_extract Sub.rfl rfl) ?_
      refine JL_step rfl rfl rfl (step_extract Sub.rfl rfl) ?_
      refine JL_stepX rfl rfl rfl (step_alloc (fun w => Tryz.zeroValue60 w) zr60) fun v10 => ?_
      refine JL_stepU rfl rfl (step_store_box ty60 Sub.rfl Sub.rfl (by first | exact Sel.take (Sel.none _) | exact Sel.skip (Sel.take (Sel.none _)) | exact Sel.skip (Sel.skip (Sel.take (Sel.none _))) | exact Sel.skip (Sel.skip (Sel.skip (Sel.take (Sel.none _)))) | exact Sel.skip (Sel.skip (Sel.skip (Sel.skip (Sel.take (Sel.none _))))))) fun _ => ?_
      refine JL_freeze (t := 10) (Sel.take (Sel.none _)) Frz.box ?_
      refine JL_step rfl rfl rfl (step_assign Sub.rfl) ?_
      refine JL_nil ?_
      refine J_seq ?_
      refine J_region ?_
      refine JL_step rfl rfl rfl (step_fieldAddr so66 Sub.rfl rfl) ?_
      refine JL_step rfl rfl rfl (step_load_ptr ty62 Sub.rfl) ?_
      refine JL_step rfl rfl rfl (step_move Sub.rfl) ?_
      refine JL_step rfl rfl rfl (step_move Sub.rfl) ?_
      refine JL_step rfl rfl rfl (step_call0 (side_spec _ _ _ hb) ⟨Sub.rfl, Sub.rfl, Sub.rfl, trivial⟩ Tryz.call105) ?_
      refine JL_step rfl rfl rfl (step_move Sub.rfl) ?_
      refine JL_step rfl rfl rfl (step_extract Sub.rfl rfl) ?_
      refine JL_step rfl rfl rfl (step_extract Sub.rfl rfl) ?_
      refine JL_stepX rfl rfl rfl (step_alloc (fun w => Tryz.zeroValue60 w) zr60) fun v12 => ?_
      refine JL_stepU rfl rfl (step_store_box ty60 Sub.rfl Sub.rfl (by first | exact Sel.take (Sel.none _) | exact Sel.skip (Sel.take (Sel.none _)) | exact Sel.skip (Sel.skip (Sel.take (Sel.none _))) | exact Sel.skip (Sel.skip (Sel.skip (Sel.take (Sel.none _)))) | exact Sel.skip (Sel.skip (Sel.skip (Sel.skip (Sel.take (Sel.none _))))))) fun _ => ?_
      refine JL_freeze (t := 12) (Sel.take (Sel.none _)) Frz.box ?_
      refine JL_step rfl rfl rfl (step_assign Sub.rfl) ?_
      refine JL_nil ?_
      refine J_seq ?_
      refine J_region ?_
      refine JL_step rfl rfl rfl (step_move Sub.rfl) ?_
      refine JL_step rfl rfl rfl (step_not Sub.rfl) ?_
      refine JL_step rfl rfl rfl (step_move Sub.rfl) ?_
      refine JL_stepG rfl rfl rfl (Gd.plain Sub.rfl) rfl rfl (fun hw => step_move Sub.rfl) ?_
      refine JL_stepG rfl rfl rfl (Gd.plain Sub.rfl) rfl rfl (fun hw => step_not (Sub.w hw)) ?_
      refine JL_step rfl rfl rfl (step_pick_or Sub.rfl Sub.rfl) ?_
      refine JL_step rfl rfl rfl (step_move Sub.rfl) ?_
      refine JL_stepG rfl rfl rfl (Gd.plain Sub.rfl) rfl rfl (fun hw => step_load_ptr ty60 Sub.rfl) ?_
      refine JL_stepG rfl rfl rfl (Gd.plain Sub.rfl) rfl rfl (fun hw => step_fieldAddr so66 Sub.rfl rfl) ?_
      refine JL_stepG rfl rfl rfl (Gd.plain Sub.rfl) rfl rfl (fun hw => step_load_ptr ty3 (Sub.w hw)) ?_
      refine JL_stepG rfl rfl rfl (Gd.plain Sub.rfl) rfl rfl (fun hw => step_load_ptr ty60 Sub.rfl) ?_
      refine JL_stepG rfl rfl rfl (Gd.plain Sub.rfl) rfl rfl (fun hw => step_fieldAddr so66 Sub.rfl rfl) ?_
      refine JL_stepG rfl rfl rfl (Gd.plain Sub.rfl) rfl rfl (fun hw => step_load_ptr ty3 (Sub.w hw)) ?_
      refine JL_stepG rfl rfl rfl (Gd.plain Sub.rfl) rfl rfl (fun hw => step_call0 (TestR_spec _ _ _ _) ⟨(Sub.w hw), (Sub.w hw), (Sub.w hw), (Sub.w hw), trivial⟩ Tryz.call50) ?_
      refine JL_stepG rfl rfl rfl (Gd.plain Sub.rfl) rfl rfl (fun hw => step_not (Sub.w hw)) ?_
      refine JL_step rfl rfl rfl (step_pick_or Sub.rfl Sub.rfl) ?_
      refine JL_nil ?_
      refine J_cond Sub.rfl (fun h77 => ?_) (fun h77 => ?_)
      · try simp only [decide_eq_true_eq, decide_eq_false_iff_not, Bool.and_eq_true, Bool.or_eq_true, Bool.and_eq_false_iff, Bool.or_eq_false_iff, Bool.not_eq_true', Bool.not_eq_false', Int.not_lt, Int.not_le, Bool.not_true, Bool.not_false] at h77
        refine J_seq ?_
        refine J_region ?_
        refine JL_step rfl rfl rfl (step_assign Sub.rfl) ?_
        refine JL_nil ?_
        refine J_ret ?_
        refine K_retv (rv := .tmp 6) rfl () (.tmp Sub.rfl) (Sub.bool ?_)
        have hb2 : tstR facts at_ (nth d.Tests j) = false := by simp only [tstR]; rcases h77 with (h | h) | h <;> simp [h]
        rw [holdsR, all_drop _ hlj hb2, Bool.and_false]
      · try simp only [decide_eq_true_eq, decide_eq_false_iff_not, Bool.and_eq_true, Bool.or_eq_true, Bool.and_eq_false_iff, Bool.or_eq_false_iff, Bool.not_eq_true', Bool.not_eq_false', Int.not_lt, Int.not_le, Bool.not_true, Bool.not_false] at h77
        refine J_skip ?_
        refine J_region ?_
        refine JL_step rfl rfl rfl (step_move Sub.rfl) ?_
        refine JL_step rfl rfl rfl (step_add Sub.rfl Sub.rfl ?sg1) ?_
        case sg1 => unfold in64; omega
        refine JL_step rfl rfl rfl (step_assign Sub.rfl) ?_
        refine JL_nil ?_
        refine K_againL (σ := Nat) (s := j) (j + 1) (by first | omega | (dsimp only; omega) | (simp_all; omega)) ?_ (SubE.upd Sub.rfl (SubE.upd Sub.rfl (SubE.upd Sub.rfl (SubE.upd Sub.rfl SubE.any)))) (LSub.rfl)
        refine ⟨by omega, fun q hq => ?_⟩
        by_cases e : q = j
        · subst e; simp only [tstR]; simp_all
        · exact hw2 q (by omega)
    · try simp only [decide_eq_true_eq, decide_eq_false_iff_not, Bool.and_eq_true, Bool.or_eq_true, Bool.and_eq_false_iff, Bool.or_eq_false_iff, Bool.not_eq_true', Bool.not_eq_false', Int.not_lt, Int.not_le, Bool.not_true, Bool.not_false] at h38
      refine J_exit ?_
      refine J_seq ?_
      refine J_region ?_
      refine JL_step rfl rfl rfl (step_assign Sub.rfl) ?_
      refine JL_nil ?_
      refine J_ret ?_
      refine K_retv (rv := .tmp 6) rfl () (.tmp Sub.rfl) (Sub.bool ?_)
      have h1 : tabB d facts at_ = true := by
        simp only [tabB, List.all_eq_true, List.mem_range]
        exact fun q hq => hv q (by omega)
      have h2 : d.Tests.all (tstR facts at_) = true := by
        rw [List.all_eq_true]
        intro t ht
        obtain ⟨q, hq, rfl⟩ := mem_nth ht
        exact hw2 q (by omega)
      rw [holdsR, h1, h2]; rfl
theorem viol0_spec (d : GRule) (facts : List GFact) (set : List Int) (hs : InB set facts.length) (hsl : set.length ≤ 1000000) (htl : d.Tables.length ≤ 1000) (hte : d.Tests.length ≤ 4000000) (at_ : List Int) (hn : at_.length = d.Tables.length) (hb : InB at_ facts.length) : Fun1 Tryz.prog 62 [rRule.ty d, tSl rFact facts, tSl rInt set, tSl rInt at_] (tV (.bool (violM d facts set 0 at_))) := by
  refine Spec.enter Tryz.func62 rfl rfl fun h0 w0 fr0 => ?_
  refine J_seq ?_
  refine J_region ?_
  refine JL_step rfl rfl rfl (step_box (R := rRule) Sub.rfl) ?_
  refine JL_step rfl rfl rfl (step_assign Sub.rfl) ?_
  refine JL_nil ?_
  refine J_seq ?_
  refine J_seq ?_
  refine J_region ?_
  refine JL_step rfl rfl rfl (step_move Sub.rfl) ?_
  refine JL_step rfl rfl rfl (step_len_sl Tryz.underlying24 Sub.rfl) ?_
  refine JL_step rfl rfl rfl (step_fieldAddr so32 Sub.rfl rfl) ?_
  refine JL_step rfl rfl rfl (step_load_ptr ty24 Sub.rfl) ?_
  refine JL_step rfl rfl rfl (step_len_sl Tryz.underlying24 Sub.rfl) ?_
  refine JL_step rfl rfl rfl (step_eql Sub.rfl Sub.rfl) ?_
  refine JL_nil ?_
  refine J_cond Sub.rfl (fun h15 => ?_) (fun h15 => ?_)
  · try simp only [decide_eq_true_eq, decide_eq_false_iff_not, Bool.and_eq_true, Bool.or_eq_true, Bool.and_eq_false_iff, Bool.or_eq_false_iff, Bool.not_eq_true', Bool.not_eq_false', Int.not_lt, Int.not_le, Bool.not_true, Bool.not_false] at h15
    refine J_seq ?_
    refine J_region ?_
    refine JL_step rfl rfl rfl (step_load_ptr ty32 Sub.rfl) ?_
    refine JL_step rfl rfl rfl (step_move Sub.rfl) ?_
    refine JL_step rfl rfl rfl (step_move Sub.rfl) ?_
    refine JL_step rfl rfl rfl (step_call0 (holdsR_spec _ _ _ hb (by omega) (by omega) hte) ⟨Sub.rfl, Sub.rfl, Sub.rfl, trivial⟩ Tryz.call82) ?_
    refine JL_step rfl rfl rfl (step_assign Sub.rfl) ?_
    refine JL_nil ?_
    refine J_ret ?_
    refine K_retv (rv := .tmp 8) rfl () (.tmp Sub.rfl) Sub.rfl
  · try simp only [decide_eq_true_eq, decide_eq_false_iff_not, Bool.and_eq_true, Bool.or_eq_true, Bool.and_eq_false_iff, Bool.or_eq_false_iff, Bool.not_eq_true', Bool.not_eq_false', Int.not_lt, Int.not_le, Bool.not_true, Bool.not_false] at h15
    exfalso; omega
theorem violS_spec (d : GRule) (facts : List GFact) (set : List Int) (hs : InB set facts.length) (hsl : set.length ≤ 1000000) (htl : d.Tables.length ≤ 1000) (hte : d.Tests.length ≤ 4000000) (n : Nat) (IH : ∀ at_ : List Int, at_.length + n = d.Tables.length → InB at_ facts.length → Fun1 Tryz.prog 62 [rRule.ty d, tSl rFact facts, tSl rInt set, tSl rInt at_] (tV (.bool (violM d facts set n at_)))) (at_ : List Int) (hn : at_.length + (n + 1) = d.Tables.length) (hb : InB at_ facts.length) : Fun1 Tryz.prog 62 [rRule.ty d, tSl rFact facts, tSl rInt set, tSl rInt at_] (tV (.bool (violM d facts set (n + 1) at_))) := by
  refine Spec.enter Tryz.func62 rfl rfl fun h0 w0 fr0 => ?_
  refine J_seq ?_
  refine J_region ?_
  refine JL_step rfl rfl rfl (step_box (R := rRule) Sub.rfl) ?_
  refine JL_step rfl rfl rfl (step_assign Sub.rfl) ?_
  refine JL_nil ?_
  refine J_seq ?_
  refine J_seq ?_
  refine J_region ?_
  refine JL_step rfl rfl rfl (step_move Sub.rfl) ?_
  refine JL_step rfl rfl rfl (step_len_sl Tryz.underlying24 Sub.rfl) ?_
  refine JL_step rfl rfl rfl (step_fieldAddr so32 Sub.rfl rfl) ?_
  refine JL_step rfl rfl rfl (step_load_ptr ty24 Sub.rfl) ?_
  refine JL_step rfl rfl rfl (step_len_sl Tryz.underlying24 Sub.rfl) ?_
  refine JL_step rfl rfl rfl (step_eql Sub.rfl Sub.rfl) ?_
  refine JL_nil ?_
  refine J_cond Sub.rfl (fun h15 => ?_) (fun h15 => ?_)
  · try simp only [decide_eq_true_eq, decide_eq_false_iff_not, Bool.and_eq_true, Bool.or_eq_true, Bool.and_eq_false_iff, Bool.or_eq_false_iff, Bool.not_eq_true', Bool.not_eq_false', Int.not_lt, Int.not_le, Bool.not_true, Bool.not_false] at h15
    exfalso; omega
  · try simp only [decide_eq_true_eq, decide_eq_false_iff_not, Bool.and_eq_true, Bool.or_eq_true, Bool.and_eq_false_iff, Bool.or_eq_false_iff, Bool.not_eq_true', Bool.not_eq_false', Int.not_lt, Int.not_le, Bool.not_true, Bool.not_false] at h15
    refine J_skip ?_
    refine J_seq ?_
    refine J_seq ?_
    refine J_region ?_
    refine JL_step rfl rfl rfl (step_assign Sub.rfl) ?_
    refine JL_nil ?_
    refine J_block ?_
    refine J_loopL (σ := Nat) (fun i => i ≤ set.length ∧ (set.take i).any (fun c => !at_.contains c && violM d facts set n (at_ ++ [c])) = false) (fun i => upd (upd (upd (upd (upd env0 1 (tSl rFact facts)) 2 (tSl rInt set)) 3 (tSl rInt at_)) 4 (tPtr rRule d)) 9 (tV (.int .i64 i))) (fun i => []) (fun i => set.length - i) 0 ⟨by omega, by simp⟩ (SubE.upd Sub.rfl (SubE.upd Sub.rfl (SubE.upd Sub.rfl (SubE.upd Sub.rfl (SubE.upd Sub.rfl SubE.any))))) (LSub.rfl) ?_
    rintro i ⟨hi, hv⟩
    refine J_seq ?_
    refine J_seq ?_
    refine J_region ?_
    refine JL_step rfl rfl rfl (step_move Sub.rfl) ?_
    refine JL_step rfl rfl rfl (step_move Sub.rfl) ?_
    refine JL_step rfl rfl rfl (step_len_sl Tryz.underlying24 Sub.rfl) ?_
    refine JL_step rfl rfl rfl (step_lss Sub.rfl Sub.rfl) ?_
    refine JL_nil ?_
    refine J_cond Sub.rfl (fun h23 => ?_) (fun h23 => ?_)
    · try simp only [decide_eq_true_eq, decide_eq_false_iff_not, Bool.and_eq_true, Bool.or_eq_true, Bool.and_eq_false_iff, Bool.or_eq_false_iff, Bool.not_eq_true', Bool.not_eq_false', Int.not_lt, Int.not_le, Bool.not_true, Bool.not_false] at h23
      have hlt : i < set.length := by omega
      obtain ⟨hc0, hc1⟩ := hs _ (nth_mem hlt)
      refine J_skip ?_
      refine J_seq ?_
      refine J_block ?_
      refine J_seq ?_
      refine J_seq ?_
      refine J_region ?_
      refine JL_step rfl rfl rfl (step_move Sub.rfl) ?_
      refine JL_step rfl rfl rfl (step_move Sub.rfl) ?_
      refine JL_step rfl rfl rfl (step_move Sub.rfl) ?_
      refine JL_step rfl rfl rfl (step_indexAddr_sl  Tryz.underlying24 ty3 Sub.rfl Sub.rfl rfl (gb ?sg1)) ?_
      case sg1 => exact hlt
      refine JL_step rfl rfl rfl (step_load_ptr ty3 Sub.rfl) ?_
      refine JL_step rfl rfl rfl (step_call0 (In_spec _ _ (by omega)) ⟨Sub.rfl, Sub.rfl, trivial⟩ Tryz.call29) ?_
      refine JL_nil ?_
      refine J_cond Sub.rfl (fun h31 => ?_) (fun h31 => ?_)
      · try simp only [decide_eq_true_eq, decide_eq_false_iff_not, Bool.and_eq_true, Bool.or_eq_true, Bool.and_eq_false_iff, Bool.or_eq_false_iff, Bool.not_eq_true', Bool.not_eq_false', Int.not_lt, Int.not_le, Bool.not_true, Bool.not_false] at h31
        refine J_exit ?_
        refine J_region ?_
        refine JL_step rfl rfl rfl (step_move Sub.rfl) ?_
        refine JL_step rfl rfl rfl (step_add Sub.rfl Sub.rfl ?sg1) ?_
        case sg1 => unfold in64; omega
        refine JL_step rfl rfl rfl (step_assign Sub.rfl) ?_
        refine JL_nil ?_
        refine K_againL (σ := Nat) (s := i) (i + 1) (by first | omega | (dsimp only; omega) | (simp_all; omega)) ?_ (SubE.upd Sub.rfl (SubE.upd Sub.rfl (SubE.upd Sub.rfl (SubE.upd Sub.rfl (SubE.upd Sub.rfl SubE.any))))) (LSub.rfl)
        refine ⟨by omega, ?_⟩
        rw [any_take_succ _ hlt, hv]; simp only [h31]; rfl
      · try simp only [decide_eq_true_eq, decide_eq_false_iff_not, Bool.and_eq_true, Bool.or_eq_true, Bool.and_eq_false_iff, Bool.or_eq_false_iff, Bool.not_eq_true', Bool.not_eq_false', Int.not_lt, Int.not_le, Bool.not_true, Bool.not_false] at h31
        refine J_skip ?_
        refine J_seq ?_
        refine J_draw [⟨0, [4], true⟩, ⟨1, [1], true⟩, ⟨2, [2], true⟩, ⟨4, [3], true⟩, ⟨6, [2], true⟩, ⟨7, [9], true⟩, ⟨8, [38, 39], true⟩, ⟨9, [40], true⟩, ⟨10, [41], true⟩, ⟨3, [], false⟩, ⟨5, [35, 36], false⟩, ⟨11, [37, 42], false⟩, ⟨12, [32, 33, 34, 43], false⟩] rfl (by kernel_rfl) ?_
        refine JM_step rfl rfl rfl rfl (fun _ => step_load_ptr ty32 Sub.rfl) ?_
        refine JM_step rfl rfl rfl rfl (fun _ => step_move Sub.rfl) ?_
        refine JM_step rfl rfl rfl rfl (fun _ => step_move Sub.rfl) ?_
        refine JM_step rfl rfl rfl rfl (fun _ => step_move Sub.rfl) ?_
        refine JM_step rfl rfl rfl rfl (fun _ => step_move Sub.rfl) ?_
        refine JM_step rfl rfl rfl rfl (fun _ => step_move Sub.rfl) ?_
        refine JM_step rfl rfl rfl rfl (fun _ => step_indexAddr_sl  Tryz.underlying24 ty3 Sub.rfl Sub.rfl rfl (gb ?sg1)) ?_
        case sg1 => exact hlt
        refine JM_step rfl rfl rfl rfl (fun _ => step_load_ptr ty3 Sub.rfl) ?_
        refine JM_step rfl rfl rfl rfl (fun _ => step_literal (ys := [_]) Tryz.underlying24 el3 ⟨rfl, Sub.rfl, trivial⟩ rfl (by decide)) ?_
        refine JM_stepX rfl rfl rfl rfl (step_literal_own (ys := []) Tryz.underlying24 el3 trivial rfl (by decide)) fun v35 => ?_
        refine JM_stepX rfl rfl rfl rfl (step_append Tryz.underlying24 el3 Sub.rfl Sub.rfl (by first | exact Sel.take (Sel.none _) | exact Sel.skip (Sel.take (Sel.none _)) | exact Sel.skip (Sel.skip (Sel.take (Sel.none _))) | exact Sel.skip (Sel.skip (Sel.skip (Sel.take (Sel.none _)))) | exact Sel.skip (Sel.skip (Sel.skip (Sel.skip (Sel.take (Sel.none _)))))) (by simp; omega) (by simp; omega)) fun v37 => ?_
        refine JM_stepX rfl rfl rfl rfl (step_append Tryz.underlying24 el3 Sub.rfl Sub.rfl (by first | exact Sel.take (Sel.none _) | exact Sel.skip (Sel.take (Sel.none _)) | exact Sel.skip (Sel.skip (Sel.take (Sel.none _))) | exact Sel.skip (Sel.skip (Sel.skip (Sel.take (Sel.none _)))) | exact Sel.skip (Sel.skip (Sel.skip (Sel.skip (Sel.take (Sel.none _)))))) (by simp; omega) (by simp; omega)) fun v43 => ?_
        refine JM_look rfl rfl rfl rfl (step_call_look (Sel.take (Sel.none _)) (IH (at_ ++ [(nth set i)]) (by simp; omega) (InB_snoc hb hc0 hc1)) (fun _ => Flat.v _) ⟨Frz.sub Sub.rfl, Frz.sub Sub.rfl, Frz.sub Sub.rfl, Frz.own' (by simp), trivial⟩ Tryz.call62) ?_
        refine JM_nil ?_
        refine J_cond Sub.rfl (fun h44 => ?_) (fun h44 => ?_)
        · try simp only [decide_eq_true_eq, decide_eq_false_iff_not, Bool.and_eq_true, Bool.or_eq_true, Bool.and_eq_false_iff, Bool.or_eq_false_iff, Bool.not_eq_true', Bool.not_eq_false', Int.not_lt, Int.not_le, Bool.not_true, Bool.not_false] at h44
          refine J_seq ?_
          refine J_region ?_
          refine JL_step rfl rfl rfl (step_assign Sub.rfl) ?_
          refine JL_nil ?_
          refine J_ret ?_
          refine K_drop (Sel.all _) ?_
          refine K_retv (rv := .tmp 8) rfl () (.tmp Sub.rfl) (Sub.bool ?_)
          exact (any_hit (p := (fun c => !at_.contains c && violM d facts set n (at_ ++ [c]))) hlt (by simp only [h31, h44]; rfl)).symm
        · try simp only [decide_eq_true_eq, decide_eq_false_iff_not, Bool.and_eq_true, Bool.or_eq_true, Bool.and_eq_false_iff, Bool.or_eq_false_iff, Bool.not_eq_true', Bool.not_eq_false', Int.not_lt, Int.not_le, Bool.not_true, Bool.not_false] at h44
          refine J_skip ?_
          refine J_region ?_
          refine JL_step rfl rfl rfl (step_move Sub.rfl) ?_
          refine JL_step rfl rfl rfl (step_add Sub.rfl Sub.rfl ?sg1) ?_
          case sg1 => unfold in64; omega
          refine JL_step rfl rfl rfl (step_assign Sub.rfl) ?_
          refine JL_nil ?_
          refine K_drop (Sel.all _) ?_
          refine K_againL (σ := Nat) (s := i) (i + 1) (by first | omega | (dsimp only; omega) | (simp_all; omega)) ?_ (SubE.upd Sub.rfl (SubE.upd Sub.rfl (SubE.upd Sub.rfl (SubE.upd Sub.rfl (SubE.upd Sub.rfl SubE.any))))) (LSub.rfl)
          refine ⟨by omega, ?_⟩
          rw [any_take_succ _ hlt, hv]; simp only [h44, Bool.and_false]; rfl
    · try simp only [decide_eq_true_eq, decide_eq_false_iff_not, Bool.and_eq_true, Bool.or_eq_true, Bool.and_eq_false_iff, Bool.or_eq_false_iff, Bool.not_eq_true', Bool.not_eq_false', Int.not_lt, Int.not_le, Bool.not_true, Bool.not_false] at h23
      refine J_exit ?_
      refine J_seq ?_
      refine J_region ?_
      refine JL_step rfl rfl rfl (step_assign Sub.rfl) ?_
      refine JL_nil ?_
      refine J_ret ?_
      refine K_retv (rv := .tmp 8) rfl () (.tmp Sub.rfl) (Sub.bool ?_)
      rw [List.take_of_length_le (by omega)] at hv
      exact hv.symm
theorem viol_spec (d : GRule) (facts : List GFact) (set : List Int) (hs : InB set facts.length) (hsl : set.length ≤ 1000000) (htl : d.Tables.length ≤ 1000) (hte : d.Tests.length ≤ 4000000) (n : Nat) :
    ∀ at_ : List Int, at_.length + n = d.Tables.length → InB at_ facts.length → Fun1 Tryz.prog 62 [rRule.ty d, tSl rFact facts, tSl rInt set, tSl rInt at_] (tV (.bool (violM d facts set n at_))) := by
  induction n with
  | zero => exact fun at_ h1 h2 => viol0_spec d facts set hs hsl htl hte at_ h1 h2
  | succ n ih => exact fun at_ h1 h2 => violS_spec d facts set hs hsl htl hte n ih at_ h1 h2

end Lg

namespace Lg
open Go Go.Proofs


def pairP (facts : List GFact) (set : List Int) (i k : Nat) : Bool := exclB (nth facts (nth set i).toNat) (nth facts (nth set k).toNat)
def ruleB (facts : List GFact) (set : List Int) (r : GRule) : Bool :=
  ((decide (((lowerR r).length : Int) = 1) && decide (((nth (lowerR r) 0).Tables.length : Int) ≥ 1)) && decide (((nth (lowerR r) 0).Tables.length : Int) ≤ 3)) && violM (nth (lowerR r) 0) facts set (nth (lowerR r) 0).Tables.length []
/-- Two of the set exclude each other. -/
def clashP (facts : List GFact) (set : List Int) : Prop := ∃ i k, k < i ∧ i < set.length ∧ pairP facts set i k = true
noncomputable def goodM (rules : List GRule) (facts : List GFact) (set : List Int) : Bool := @decide (¬ clashP facts set ∧ rules.any (ruleB facts set) = false) (Classical.propDecidable _)
theorem goodM_iff {rules : List GRule} {facts : List GFact} {set : List Int} : goodM rules facts set = true ↔ ¬ clashP facts set ∧ rules.any (ruleB facts set) = false := by
  unfold goodM; exact @decide_eq_true_iff _ (Classical.propDecidable _)
theorem goodM_no {rules : List GRule} {facts : List GFact} {set : List Int} (h : ¬ (¬ clashP facts set ∧ rules.any (ruleB facts set) = false)) : goodM rules facts set = false := by
  rw [← Bool.not_eq_true, goodM_iff]; exact h
theorem lowerR_tests {r : GRule} (hr : r.Fixed.length ≤ 1000000 ∧ r.Cols.length ≤ 1000000) (ht : r.Tests.length ≤ 900000) : ∀ d ∈ lowerR r, d.Tests.length ≤ 4000000 := fun d hd => by
  have := (lowerR_deny hd).2
  omega

theorem good_spec (rules : List GRule) (facts : List GFact) (set : List Int) (hs : InB set facts.length) (hsl : set.length ≤ 1000000) (hr : ∀ r ∈ rules, (r.Fixed.length ≤ 1000000 ∧ r.Cols.length ≤ 1000000) ∧ r.Tests.length ≤ 900000) (hrl : rules.length ≤ 1000000) : Fun1 Tryz.prog 41 [tSl rRule rules, tSl rFact facts, tSl rInt set] (tV (.bool (goodM rules facts set))) := by
  refine Spec.enter Tryz.func41 rfl rfl fun h0 w0 fr0 => ?_
  refine J_seq ?_
  refine J_region ?_
  refine JL_step rfl rfl rfl (step_assign Sub.rfl) ?_
  refine JL_nil ?_
  refine J_seq ?_
  refine J_seq ?_
  refine J_region ?_
  refine JL_step rfl rfl rfl (step_assign Sub.rfl) ?_
  refine JL_nil ?_
  refine J_block ?_
  refine J_loopL (σ := Nat) (fun i => i ≤ set.length ∧ ∀ a b, b < a → a < i → pairP facts set a b = false) (fun i => upd (upd (upd (upd env0 0 (tSl rRule rules)) 1 (tSl rFact facts)) 2 (tSl rInt set)) 7 (tV (.int .i64 i))) (fun i => []) (fun i => set.length - i) 0 ⟨by omega, fun a b h1 h2 => by omega⟩ (SubE.upd Sub.rfl (SubE.upd Sub.rfl (SubE.upd Sub.rfl (SubE.upd Sub.rfl SubE.any)))) (LSub.rfl) ?_
  rintro i ⟨hi, hv⟩
  refine J_seq ?_
  refine J_seq ?_
  refine J_region ?_
  refine JL_step rfl rfl rfl (step_move Sub.rfl) ?_
  refine JL_step rfl rfl rfl (step_move Sub.rfl) ?_
  refine JL_step rfl rfl rfl (step_len_sl Tryz.underlying24 Sub.rfl) ?_
  refine JL_step rfl rfl rfl (step_lss Sub.rfl Sub.rfl) ?_
  refine JL_nil ?_
  refine J_cond Sub.rfl (fun h14 => ?_) (fun h14 => ?_)
  · try simp only [decide_eq_true_eq, decide_eq_false_iff_not, Bool.and_eq_true, Bool.or_eq_true, Bool.and_eq_false_iff, Bool.or_eq_false_iff, Bool.not_eq_true', Bool.not_eq_false', Int.not_lt, Int.not_le, Bool.not_true, Bool.not_false] at h14
    have hlt : i < set.length := by omega
    have hbi := hs _ (nth_mem hlt)
    refine J_skip ?_
    refine J_seq ?_
    refine J_block ?_
    refine J_seq ?_
    refine J_region ?_
    refine JL_step rfl rfl rfl (step_assign Sub.rfl) ?_
    refine JL_nil ?_
    refine J_block ?_
    refine J_loopL (σ := Nat) (fun k => k ≤ i ∧ ∀ b, b < k → pairP facts set i b = false) (fun k => upd (upd (upd (upd (upd (upd (upd env0 0 (tSl rRule rules)) 1 (tSl rFact facts)) 2 (tSl rInt set)) 7 (tV (.int .i64 i))) 8 (tV (.int .i64 k))) 11 (tV (.int .i64 i))) 12 (tSl rInt set)) (fun k => []) (fun k => i - k) 0 ⟨by omega, fun b h => by omega⟩ (SubE.upd Sub.rfl (SubE.upd Sub.rfl (SubE.upd Sub.rfl (SubE.upd Sub.rfl (SubE.upd Sub.rfl (SubE.upd Sub.rfl (SubE.upd Sub.rfl SubE.any))))))) (LSub.rfl) ?_
    rintro k ⟨hk, hv2⟩
    refine J_seq ?_
    refine J_seq ?_
    refine J_region ?_
    refine JL_step rfl rfl rfl (step_move Sub.rfl) ?_
    refine JL_step rfl rfl rfl (step_move Sub.rfl) ?_
    refine JL_step rfl rfl rfl (step_lss Sub.rfl Sub.rfl) ?_
    refine JL_nil ?_
    refine J_cond Sub.rfl (fun h19 => ?_) (fun h19 => ?_)
    · try simp only [decide_eq_true_eq, decide_eq_false_iff_not, Bool.and_eq_true, Bool.or_eq_true, Bool.and_eq_false_iff, Bool.or_eq_false_iff, Bool.not_eq_true', Bool.not_eq_false', Int.not_lt, Int.not_le, Bool.not_true, Bool.not_false] at h19
      have hlk : k < i := by omega
      have hlk2 : k < set.length := by omega
      have hbk := hs _ (nth_mem hlk2)
      refine J_skip ?_
      refine J_seq ?_
      refine J_block ?_
      refine J_seq ?_
      refine J_draw [⟨0, [1], true⟩, ⟨1, [2], true⟩, ⟨2, [7], true⟩, ⟨3, [23, 24], true⟩, ⟨4, [25], true⟩, ⟨5, [22, 26], true⟩, ⟨6, [27], true⟩, ⟨7, [1], true⟩, ⟨8, [2], true⟩, ⟨9, [8], true⟩, ⟨10, [30, 31], true⟩, ⟨11, [32], true⟩, ⟨12, [29, 33], true⟩, ⟨13, [34], true⟩, ⟨14, [28, 35], true⟩] rfl (by kernel_rfl) ?_
      refine JM_step rfl rfl rfl rfl (fun _ => step_move Sub.rfl) ?_
      refine JM_step rfl rfl rfl rfl (fun _ => step_move Sub.rfl) ?_
      refine JM_step rfl rfl rfl rfl (fun _ => step_move Sub.rfl) ?_
      refine JM_step rfl rfl rfl rfl (fun _ => step_indexAddr_sl  Tryz.underlying24 ty3 Sub.rfl Sub.rfl rfl (gb ?sg1)) ?_
      case sg1 => exact hlt
      refine JM_step rfl rfl rfl rfl (fun _ => step_load_ptr ty3 Sub.rfl) ?_
      refine JM_step rfl rfl rfl rfl (fun _ => step_indexAddr_sl (i := (nth set i).toNat) Tryz.underlying23 ty54 Sub.rfl Sub.rfl ?sg1 (gb ?sg2)) ?_
      case sg1 => show nth set i = _; omega
      case sg2 => omega
      refine JM_step rfl rfl rfl rfl (fun _ => step_load_ptr ty54 Sub.rfl) ?_
      refine JM_step rfl rfl rfl rfl (fun _ => step_move Sub.rfl) ?_
      refine JM_step rfl rfl rfl rfl (fun _ => step_move Sub.rfl) ?_
      refine JM_step rfl rfl rfl rfl (fun _ => step_move Sub.rfl) ?_
      refine JM_step rfl rfl rfl rfl (fun _ => step_indexAddr_sl  Tryz.underlying24 ty3 Sub.rfl Sub.rfl rfl (gb ?sg1)) ?_
      case sg1 => exact hlk2
      refine JM_step rfl rfl rfl rfl (fun _ => step_load_ptr ty3 Sub.rfl) ?_
      refine JM_step rfl rfl rfl rfl (fun _ => step_indexAddr_sl (i := (nth set k).toNat) Tryz.underlying23 ty54 Sub.rfl Sub.rfl ?sg1 (gb ?sg2)) ?_
      case sg1 => show nth set k = _; omega
      case sg2 => omega
      refine JM_step rfl rfl rfl rfl (fun _ => step_load_ptr ty54 Sub.rfl) ?_
      refine JM_step rfl rfl rfl rfl (fun _ => step_call0 (exclude_spec _ _) ⟨Sub.rfl, Sub.rfl, trivial⟩ Tryz.call61) ?_
      refine JM_nil ?_
      refine J_cond Sub.rfl (fun h36 => ?_) (fun h36 => ?_)
      · try simp only [decide_eq_true_eq, decide_eq_false_iff_not, Bool.and_eq_true, Bool.or_eq_true, Bool.and_eq_false_iff, Bool.or_eq_false_iff, Bool.not_eq_true', Bool.not_eq_false', Int.not_lt, Int.not_le, Bool.not_true, Bool.not_false] at h36
        refine J_seq ?_
        refine J_region ?_
        refine JL_step rfl rfl rfl (step_assign Sub.rfl) ?_
        refine JL_nil ?_
        refine J_ret ?_
        refine K_retv (rv := .tmp 6) rfl () (.tmp Sub.rfl) (Sub.bool ?_)
        exact (goodM_no fun q => q.1 ⟨i, k, hlk, hlt, h36⟩).symm
      · try simp only [decide_eq_true_eq, decide_eq_false_iff_not, Bool.and_eq_true, Bool.or_eq_true, Bool.and_eq_false_iff, Bool.or_eq_false_iff, Bool.not_eq_true', Bool.not_eq_false', Int.not_lt, Int.not_le, Bool.not_true, Bool.not_false] at h36
        refine J_skip ?_
        refine J_region ?_
        refine JL_step rfl rfl rfl (step_move Sub.rfl) ?_
        refine JL_step rfl rfl rfl (step_add Sub.rfl Sub.rfl ?sg1) ?_
        case sg1 => unfold in64; omega
        refine JL_step rfl rfl rfl (step_assign Sub.rfl) ?_
        refine JL_nil ?_
        refine K_againL (σ := Nat) (s := k) (k + 1) (by first | omega | (dsimp only; omega) | (simp_all; omega)) ?_ (SubE.upd Sub.rfl (SubE.upd Sub.rfl (SubE.upd Sub.rfl (SubE.upd Sub.rfl (SubE.upd Sub.rfl (SubE.upd Sub.rfl (SubE.upd Sub.rfl SubE.any))))))) (LSub.rfl)
        refine ⟨by omega, fun b hb => ?_⟩
        by_cases e : b = k
        · subst e; exact h36
        · exact hv2 b (by omega)
    · try simp only [decide_eq_true_eq, decide_eq_false_iff_not, Bool.and_eq_true, Bool.or_eq_true, Bool.and_eq_false_iff, Bool.or_eq_false_iff, Bool.not_eq_true', Bool.not_eq_false', Int.not_lt, Int.not_le, Bool.not_true, Bool.not_false] at h19
      refine J_exit ?_
      refine J_region ?_
      refine JL_step rfl rfl rfl (step_move Sub.rfl) ?_
      refine JL_step rfl rfl rfl (step_add Sub.rfl Sub.rfl ?sg1) ?_
      case sg1 => unfold in64; omega
      refine JL_step rfl rfl rfl (step_assign Sub.rfl) ?_
      refine JL_nil ?_
      refine K_againL (σ := Nat) (s := i) (i + 1) (by first | omega | (dsimp only; omega) | (simp_all; omega)) ?_ (SubE.upd Sub.rfl (SubE.upd Sub.rfl (SubE.upd Sub.rfl (SubE.upd Sub.rfl SubE.any)))) (LSub.rfl)
      refine ⟨by omega, fun a b h1 h2 => ?_⟩
      by_cases e : a = i
      · subst e; exact hv2 b (by omega)
      · exact hv a b h1 (by omega)
  · try simp only [decide_eq_true_eq, decide_eq_false_iff_not, Bool.and_eq_true, Bool.or_eq_true, Bool.and_eq_false_iff, Bool.or_eq_false_iff, Bool.not_eq_true', Bool.not_eq_false', Int.not_lt, Int.not_le, Bool.not_true, Bool.not_false] at h14
    refine J_exit ?_
    refine J_seq ?_
    refine J_seq ?_
    refine J_region ?_
    refine JL_step rfl rfl rfl (step_assign Sub.rfl) ?_
    refine JL_nil ?_
    refine J_block ?_
    refine J_loopL (σ := Nat) (fun q => q ≤ rules.length ∧ (rules.take q).any (ruleB facts set) = false) (fun q => upd (upd (upd (upd env0 0 (tSl rRule rules)) 1 (tSl rFact facts)) 2 (tSl rInt set)) 9 (tV (.int .i64 q))) (fun q => []) (fun q => rules.length - q) 0 ⟨by omega, by simp⟩ (SubE.upd Sub.rfl (SubE.upd Sub.rfl (SubE.upd Sub.rfl (SubE.upd Sub.rfl SubE.any)))) (LSub.rfl) ?_
    rintro q ⟨hq, hv3⟩
    refine J_seq ?_
    refine J_seq ?_
    refine J_region ?_
    refine JL_step rfl rfl rfl (step_move Sub.rfl) ?_
    refine JL_step rfl rfl rfl (step_move Sub.rfl) ?_
    refine JL_step rfl rfl rfl (step_len_sl Tryz.underlying22 Sub.rfl) ?_
    refine JL_step rfl rfl rfl (step_lss Sub.rfl Sub.rfl) ?_
    refine JL_nil ?_
    refine J_cond Sub.rfl (fun h40 => ?_) (fun h40 => ?_)
    · try simp only [decide_eq_true_eq, decide_eq_false_iff_not, Bool.and_eq_true, Bool.or_eq_true, Bool.and_eq_false_iff, Bool.or_eq_false_iff, Bool.not_eq_true', Bool.not_eq_false', Int.not_lt, Int.not_le, Bool.not_true, Bool.not_false] at h40
      have hlq : q < rules.length := by omega
      have hrq := hr _ (nth_mem hlq)
      refine J_skip ?_
      refine J_seq ?_
      refine J_block ?_
      refine J_seq ?_
      refine J_region ?_
      refine JL_step rfl rfl rfl (step_move Sub.rfl) ?_
      refine JL_step rfl rfl rfl (step_move Sub.rfl) ?_
      refine JL_step rfl rfl rfl (step_indexAddr_sl  Tryz.underlying22 ty32 Sub.rfl Sub.rfl rfl (gb ?sg1)) ?_
      case sg1 => exact hlq
      refine JL_step rfl rfl rfl (step_load_ptr ty32 Sub.rfl) ?_
      refine JL_step rfl rfl rfl (step_call0 (LowerR_spec (nth rules q) hrq.1.1 hrq.1.2) ⟨Sub.rfl, trivial⟩ Tryz.call14) ?_
      refine JL_step rfl rfl rfl (step_assign Sub.rfl) ?_
      refine JL_nil ?_
      refine J_seq ?_
      refine J_region ?_
      refine JL_step rfl rfl rfl (step_move Sub.rfl) ?_
      refine JL_step rfl rfl rfl (step_len_sl Tryz.underlying22 Sub.rfl) ?_
      refine JL_step rfl rfl rfl (step_eql Sub.rfl Sub.rfl) ?_
      refine JL_step rfl rfl rfl (step_move Sub.rfl) ?_
      refine JL_stepG rfl rfl rfl (Gd.plain Sub.rfl) rfl rfl (fun hw => step_move Sub.rfl) ?_
      refine JL_stepG rfl rfl rfl (Gd.plain Sub.rfl) rfl rfl (fun hw => step_indexAddr_sl (i := 0) Tryz.underlying22 ty32 (Sub.w hw) Sub.rfl ?sg1 (gb ?sg2)) ?_
      case sg1 => have hwq := hw; (try simp only [beqB_t, beqB_f, decide_eq_true_eq, decide_eq_false_iff_not, Bool.and_eq_true, Bool.or_eq_true, Bool.and_eq_false_iff, Bool.or_eq_false_iff, Bool.not_eq_true', Bool.not_eq_false', Int.not_lt, Int.not_le, Bool.not_true, Bool.not_false] at hwq); rfl
      case sg2 => have hwq := hw; (try simp only [beqB_t, beqB_f, decide_eq_true_eq, decide_eq_false_iff_not, Bool.and_eq_true, Bool.or_eq_true, Bool.and_eq_false_iff, Bool.or_eq_false_iff, Bool.not_eq_true', Bool.not_eq_false', Int.not_lt, Int.not_le, Bool.not_true, Bool.not_false] at hwq); omega
      refine JL_stepG rfl rfl rfl (Gd.plain Sub.rfl) rfl rfl (fun hw => step_fieldAddr so32 (Sub.w hw) rfl) ?_
      refine JL_stepG rfl rfl rfl (Gd.plain Sub.rfl) rfl rfl (fun hw => step_load_ptr ty24 (Sub.w hw)) ?_
      refine JL_stepG rfl rfl rfl (Gd.plain Sub.rfl) rfl rfl (fun hw => step_len_sl Tryz.underlying24 (Sub.w hw)) ?_
      refine JL_stepG rfl rfl rfl (Gd.plain Sub.rfl) rfl rfl (fun hw => step_geq (Sub.w hw) Sub.rfl) ?_
      refine JL_step rfl rfl rfl (step_pick_and Sub.rfl Sub.rfl) ?_
      refine JL_step rfl rfl rfl (step_move Sub.rfl) ?_
      refine JL_stepG rfl rfl rfl (Gd.plain Sub.rfl) rfl rfl (fun hw => step_move Sub.rfl) ?_
      refine JL_stepG rfl rfl rfl (Gd.plain Sub.rfl) rfl rfl (fun hw => step_indexAddr_sl (i := 0) Tryz.underlying22 ty32 (Sub.w hw) Sub.rfl ?sg1 (gb ?sg2)) ?_
      case sg1 => have hwq := hw; (try simp only [beqB_t, beqB_f, decide_eq_true_eq, decide_eq_false_iff_not, Bool.and_eq_true, Bool.or_eq_true, Bool.and_eq_false_iff, Bool.or_eq_false_iff, Bool.not_eq_true', Bool.not_eq_false', Int.not_lt, Int.not_le, Bool.not_true, Bool.not_false] at hwq); rfl
      case sg2 => have hwq := hw; (try simp only [beqB_t, beqB_f, decide_eq_true_eq, decide_eq_false_iff_not, Bool.and_eq_true, Bool.or_eq_true, Bool.and_eq_false_iff, Bool.or_eq_false_iff, Bool.not_eq_true', Bool.not_eq_false', Int.not_lt, Int.not_le, Bool.not_true, Bool.not_false] at hwq); omega
      refine JL_stepG rfl rfl rfl (Gd.plain Sub.rfl) rfl rfl (fun hw => step_fieldAddr so32 (Sub.w hw) rfl) ?_
      refine JL_stepG rfl rfl rfl (Gd.plain Sub.rfl) rfl rfl (fun hw => step_load_ptr ty24 (Sub.w hw)) ?_
      refine JL_stepG rfl rfl rfl (Gd.plain Sub.rfl) rfl rfl (fun hw => step_len_sl Tryz.underlying24 (Sub.w hw)) ?_
      refine JL_stepG rfl rfl rfl (Gd.plain Sub.rfl) rfl rfl (fun hw => step_leq (Sub.w hw) Sub.rfl) ?_
      refine JL_step rfl rfl rfl (step_pick_and Sub.rfl Sub.rfl) ?_
      refine JL_step rfl rfl rfl (step_move Sub.rfl) ?_
      refine JL_stepG rfl rfl rfl (Gd.plain Sub.rfl) rfl rfl (fun hw => step_move Sub.rfl) ?_
      refine JL_stepG rfl rfl rfl (Gd.plain Sub.rfl) rfl rfl (fun hw => step_indexAddr_sl (i := 0) Tryz.underlying22 ty32 (Sub.w hw) Sub.rfl ?sg1 (gb ?sg2)) ?_
      case sg1 => have hwq := hw; (try simp only [beqB_t, beqB_f, decide_eq_true_eq, decide_eq_false_iff_not, Bool.and_eq_true, Bool.or_eq_true, Bool.and_eq_false_iff, Bool.or_eq_false_iff, Bool.not_eq_true', Bool.not_eq_false', Int.not_lt, Int.not_le, Bool.not_true, Bool.not_false] at hwq); rfl
      case sg2 => have hwq := hw; (try simp only [beqB_t, beqB_f, decide_eq_true_eq, decide_eq_false_iff_not, Bool.and_eq_true, Bool.or_eq_true, Bool.and_eq_false_iff, Bool.or_eq_false_iff, Bool.not_eq_true', Bool.not_eq_false', Int.not_lt, Int.not_le, Bool.not_true, Bool.not_false] at hwq); omega
      refine JL_stepG rfl rfl rfl (Gd.plain Sub.rfl) rfl rfl (fun hw => step_load_ptr ty32 (Sub.w hw)) ?_
      refine JL_stepG rfl rfl rfl (Gd.plain Sub.rfl) rfl rfl (fun hw => step_move Sub.rfl) ?_
      refine JL_stepG rfl rfl rfl (Gd.plain Sub.rfl) rfl rfl (fun hw => step_move Sub.rfl) ?_
      refine JL_stepG rfl rfl rfl (Gd.plain Sub.rfl) rfl rfl (fun hw => step_call0 (viol_spec (nth (lowerR (nth rules q)) 0) facts set hs hsl (by have hq := hw; simp only [beqB_t, beqB_f, Bool.and_eq_true, decide_eq_true_eq] at hq; omega) (lowerR_tests hrq.1 hrq.2 _ (nth_mem (by have hq := hw; simp only [beqB_t, beqB_f, Bool.and_eq_true, decide_eq_true_eq] at hq; omega))) (nth (lowerR (nth rules q)) 0).Tables.length [] (by simp) (fun a h => by cases h)) ⟨Sub.w hw, Sub.w hw, Sub.w hw, Sub.nilsl, trivial⟩ Tryz.call62) ?_
      refine JL_step rfl rfl rfl (step_pick_and Sub.rfl Sub.rfl) ?_
      refine JL_nil ?_
      refine J_cond Sub.rfl (fun h74 => ?_) (fun h74 => ?_)
      · try simp only [decide_eq_true_eq, decide_eq_false_iff_not, Bool.and_eq_true, Bool.or_eq_true, Bool.and_eq_false_iff, Bool.or_eq_false_iff, Bool.not_eq_true', Bool.not_eq_false', Int.not_lt, Int.not_le, Bool.not_true, Bool.not_false] at h74
        refine J_seq ?_
        refine J_region ?_
        refine JL_step rfl rfl rfl (step_assign Sub.rfl) ?_
        refine JL_nil ?_
        refine J_ret ?_
        refine K_retv (rv := .tmp 6) rfl () (.tmp Sub.rfl) (Sub.bool ?_)
        have hrb : ruleB facts set (nth rules q) = true := by simp only [ruleB]; simp_all
        exact (goodM_no fun q2 => by rw [any_hit hlq hrb] at q2; cases q2.2).symm
      · try simp only [decide_eq_true_eq, decide_eq_false_iff_not, Bool.and_eq_true, Bool.or_eq_true, Bool.and_eq_false_iff, Bool.or_eq_false_iff, Bool.not_eq_true', Bool.not_eq_false', Int.not_lt, Int.not_le, Bool.not_true, Bool.not_false] at h74
        refine J_skip ?_
        refine J_region ?_
        refine JL_step rfl rfl rfl (step_move Sub.rfl) ?_
        refine JL_step rfl rfl rfl (step_add Sub.rfl Sub.rfl ?sg1) ?_
        case sg1 => unfold in64; omega
        refine JL_step rfl rfl rfl (step_assign Sub.rfl) ?_
        refine JL_nil ?_
        have hrb : ruleB facts set (nth rules q) = false := by simp only [ruleB]; rcases h74 with ((h | h) | h) | h <;> simp [h] <;> (intros; omega)
        refine K_againL (σ := Nat) (s := q) (q + 1) (by first | omega | (dsimp only; omega) | (simp_all; omega)) ?_ (SubE.upd Sub.rfl (SubE.upd Sub.rfl (SubE.upd Sub.rfl (SubE.upd Sub.rfl SubE.any)))) (LSub.rfl)
        refine ⟨by omega, ?_⟩
        rw [any_take_succ _ hlq, hv3, hrb]; rfl
    · try simp only [decide_eq_true_eq, decide_eq_false_iff_not, Bool.and_eq_true, Bool.or_eq_true, Bool.and_eq_false_iff, Bool.or_eq_false_iff, Bool.not_eq_true', Bool.not_eq_false', Int.not_lt, Int.not_le, Bool.not_true, Bool.not_false] at h40
      refine J_exit ?_
      refine J_seq ?_
      refine J_region ?_
      refine JL_step rfl rfl rfl (step_assign Sub.rfl) ?_
      refine JL_nil ?_
      refine J_ret ?_
      refine K_retv (rv := .tmp 6) rfl () (.tmp Sub.rfl) (Sub.bool ?_)
      refine (goodM_iff.2 ⟨?_, ?_⟩).symm
      · rintro ⟨a, b, h1, h2, h3⟩
        rw [hv a b h1 (by omega)] at h3; cases h3
      · rw [List.take_of_length_le (by omega)] at hv3; exact hv3
theorem ConsistentR_spec (rules : List GRule) (facts : List GFact) (set : List Int) (hsl : set.length ≤ 1000000) (hr : ∀ r ∈ rules, (r.Fixed.length ≤ 1000000 ∧ r.Cols.length ≤ 1000000) ∧ r.Tests.length ≤ 900000) (hrl : rules.length ≤ 1000000) : Fun1 Tryz.prog 25 [tSl rRule rules, tSl rFact facts, tSl rInt set] (tV (.bool (isSet set facts.length && goodM rules facts set))) := by
  refine Spec.enter Tryz.func25 rfl rfl fun h0 w0 fr0 => ?_
  refine J_seq ?_
  refine J_region ?_
  refine JL_step rfl rfl rfl (step_assign Sub.rfl) ?_
  refine JL_nil ?_
  refine J_seq ?_
  refine J_region ?_
  refine JL_step rfl rfl rfl (step_move Sub.rfl) ?_
  refine JL_step rfl rfl rfl (step_move Sub.rfl) ?_
  refine JL_step rfl rfl rfl (step_len_sl Tryz.underlying23 Sub.rfl) ?_
  refine JL_step rfl rfl rfl (step_call0 (Set_spec _ _ (by omega)) ⟨Sub.rfl, Sub.rfl, trivial⟩ Tryz.call39) ?_
  refine JL_step rfl rfl rfl (step_move Sub.rfl) ?_
  refine JL_stepG rfl rfl rfl (Gd.plain Sub.rfl) rfl rfl (fun hw => step_move Sub.rfl) ?_
  refine JL_stepG rfl rfl rfl (Gd.plain Sub.rfl) rfl rfl (fun hw => step_move Sub.rfl) ?_
  refine JL_stepG rfl rfl rfl (Gd.plain Sub.rfl) rfl rfl (fun hw => step_move Sub.rfl) ?_
  refine JL_stepG rfl rfl rfl (Gd.plain Sub.rfl) rfl rfl (fun hw => step_call0 (good_spec _ _ _ (isSetFrom_InB (by have hq := hw; simp only [beqB_t] at hq; exact hq)) hsl hr hrl) ⟨(Sub.w hw), (Sub.w hw), (Sub.w hw), trivial⟩ Tryz.call41) ?_
  refine JL_step rfl rfl rfl (step_pick_and Sub.rfl Sub.rfl) ?_
  refine JL_step rfl rfl rfl (step_assign Sub.rfl) ?_
  refine JL_nil ?_
  refine J_ret ?_
  refine K_retv (rv := .tmp 6) rfl () (.tmp Sub.rfl) Sub.rfl
end Lg

/- Pure theory: the reference's notion of a consistent set is the same. -/
namespace Lg
open Go Go.Proofs
theorem pre_nth {p l : List Int} (h : p <+: l) {i : Nat} (hi : i < p.length) : nth l i = nth p i := by
  obtain ⟨t, rfl⟩ := h
  exact nth_append_left hi
/-- A side at a beginning: it waits, or it is as at the whole. -/
theorem side_pre {s : GSide} {n : Int} {p l : List Int} {facts : List GFact} (h : p <+: l) (hn : (l.length : Int) = n) (hk : (sideV s n l facts).2.1 = true) :
    (sideV s n p facts).2.1 = true ∧ ((sideV s n p facts).2.2 = true ∨ sideV s n p facts = sideV s n l facts) := by
  unfold sideV at hk ⊢
  by_cases h1 : s.Var = -1
  · rw [if_pos h1, if_pos h1]; exact ⟨rfl, .inr rfl⟩
  rw [if_neg h1] at hk ⊢
  rw [if_neg h1]
  by_cases h2 : s.Var < 0 ∨ n ≤ s.Var
  · rw [if_pos h2] at hk; cases hk
  rw [if_neg h2] at hk ⊢
  rw [if_neg h2]
  have hl : ¬ (l.length : Int) ≤ s.Var := by omega
  rw [if_neg hl] at hk ⊢
  by_cases h3 : (p.length : Int) ≤ s.Var
  · rw [if_pos h3]; exact ⟨rfl, .inl rfl⟩
  rw [if_neg h3, ← pre_nth h (show s.Var.toNat < p.length by omega)]
  exact ⟨hk, .inr rfl⟩
theorem holds_pre {t : GTest} {n : Int} {p l : List Int} {facts : List GFact} (h : p <+: l) (hn : (l.length : Int) = n) (hk : holdsV t n facts l = true) : holdsV t n facts p = true := by
  simp only [holdsV, Bool.and_eq_true, Bool.or_eq_true] at hk ⊢
  obtain ⟨⟨h1, h2⟩, h3⟩ := hk
  obtain ⟨a1, a2⟩ := side_pre h hn h1
  obtain ⟨b1, b2⟩ := side_pre h hn h2
  refine ⟨⟨a1, b1⟩, ?_⟩
  rcases a2 with a2 | a2
  · exact .inl (.inl a2)
  · rcases b2 with b2 | b2
    · exact .inl (.inr b2)
    · rw [a2, b2]; exact h3
theorem tab_iff {d : GRule} {facts : List GFact} {at_ : List Int} : tabB d facts at_ = true ↔ ∀ i, i < at_.length → (nth facts (nth at_ i).toNat).Table = nth d.Tables i := by
  simp [tabB, List.all_eq_true]
theorem holdsR_iff {d : GRule} {facts : List GFact} {at_ : List Int} (hl : at_.length = d.Tables.length) : holdsR d facts at_ = true ↔ tabB d facts at_ = true ∧ okT d facts at_ = true := by
  rw [holdsR, Bool.and_eq_true]
  have : tstR facts at_ = fun t => holdsV t d.Tables.length facts at_ := funext fun t => by rw [tstR_eq, hl]
  rw [this]; rfl
theorem viol_full {d : GRule} {facts : List GFact} {set : List Int} : ∀ {n : Nat} {at_ : List Int}, violM d facts set n at_ = true → ∃ at', at_ <+: at' ∧ at'.length = at_.length + n ∧ holdsR d facts at' = true
  | 0, at_, h => ⟨at_, List.prefix_refl _, rfl, h⟩
  | n + 1, at_, h => by
    simp only [violM, List.any_eq_true, Bool.and_eq_true] at h
    obtain ⟨c, _, _, h2⟩ := h
    obtain ⟨at', q1, q2, q3⟩ := viol_full h2
    exact ⟨at', (List.prefix_append _ _).trans q1, by rw [q2]; simp; omega, q3⟩
theorem viol_path {d : GRule} {facts : List GFact} {set : List Int} (h1 : 1 ≤ d.Tables.length) : ∀ {n : Nat} {at_ : List Int}, at_.length + n = d.Tables.length → tabB d facts at_ = true → (at_ ≠ [] → okT d facts at_ = true) → (violM d facts set n at_ = true ↔ ∃ at', path d facts set n at_ at')
  | 0, at_, hl, ht, ho => by
    have hne : at_ ≠ [] := fun e => by rw [e] at hl; simp at hl; omega
    constructor
    · intro _; exact ⟨at_, rfl⟩
    · intro _; exact (holdsR_iff (by omega)).2 ⟨ht, ho hne⟩
  | n + 1, at_, hl, ht, ho => by
    have key : ∀ c, c ∉ at_ → violM d facts set n (at_ ++ [c]) = true → cand d facts at_ c = true := by
      intro c hc hv
      obtain ⟨at', q1, q2, q3⟩ := viol_full hv
      have hlen : at'.length = d.Tables.length := by rw [q2]; simp; omega
      obtain ⟨q4, q5⟩ := (holdsR_iff hlen).1 q3
      have e1 : nth at' at_.length = c := by
        rw [pre_nth q1 (by simp), nth_get (by simp)]; simp
      have e2 := tab_iff.1 q4 at_.length (by omega)
      rw [e1] at e2
      simp only [cand, Bool.and_eq_true, decide_eq_true_eq, Bool.not_eq_true']
      refine ⟨⟨e2, ?_⟩, ?_⟩
      · rw [← Bool.not_eq_true, List.contains_iff_mem]; exact hc
      · simp only [okT, List.all_eq_true] at q5 ⊢
        exact fun t hm => holds_pre q1 (by rw [hlen]) (q5 t hm)
    have ext : ∀ c, cand d facts at_ c = true → tabB d facts (at_ ++ [c]) = true ∧ okT d facts (at_ ++ [c]) = true := by
      intro c hc
      simp only [cand, Bool.and_eq_true, decide_eq_true_eq] at hc
      refine ⟨tab_iff.2 fun i hi => ?_, hc.2⟩
      rcases Nat.lt_or_ge i at_.length with q | q
      · rw [nth_append_left q]; exact tab_iff.1 ht i q
      · have : i = at_.length := by simp at hi; omega
        subst this
        have e : nth (at_ ++ [c]) at_.length = c := by rw [nth_get (by simp)]; simp
        rw [e]; exact hc.1.1
    simp only [violM, List.any_eq_true, Bool.and_eq_true, path]
    constructor
    · rintro ⟨c, hc, hn, hv⟩
      have hnc : c ∉ at_ := by
        intro hm
        rw [List.contains_iff_mem.2 hm] at hn; cases hn
      have hcd := key c hnc hv
      obtain ⟨e1, e2⟩ := ext c hcd
      obtain ⟨at', hp⟩ := (viol_path h1 (by simp; omega) e1 fun _ => e2).1 hv
      exact ⟨at', c, hc, hcd, hp⟩
    · rintro ⟨at', c, hc, hcd, hp⟩
      obtain ⟨e1, e2⟩ := ext c hcd
      refine ⟨c, hc, ?_, (viol_path h1 (by simp; omega) e1 fun _ => e2).2 ⟨at', hp⟩⟩
      simp only [cand, Bool.and_eq_true] at hcd
      exact hcd.1.2
theorem rules_bad {rules : List GRule} {facts : List GFact} {set : List Int} : rules.any (ruleB facts set) = true ↔ ∃ d ∈ loweredR rules, ∃ at', path d facts set d.Tables.length [] at' := by
  rw [List.any_eq_true]
  constructor
  · rintro ⟨r, hr, h⟩
    simp only [ruleB, Bool.and_eq_true, decide_eq_true_eq] at h
    obtain ⟨⟨⟨h1, h2⟩, h3⟩, h4⟩ := h
    have hm : nth (lowerR r) 0 ∈ lowerR r := nth_mem (by omega)
    refine ⟨nth (lowerR r) 0, List.mem_flatMap.2 ⟨r, hr, List.mem_filter.2 ⟨hm, by simp only [okD3, Bool.and_eq_true, decide_eq_true_eq]; omega⟩⟩, ?_⟩
    exact (viol_path (by omega) (by simp) (by simp [tabB]) (fun q => absurd rfl q)).1 h4
  · rintro ⟨d, hd, at', hp⟩
    obtain ⟨r, hr, hd⟩ := List.mem_flatMap.1 hd
    obtain ⟨h1, h2⟩ := List.mem_filter.1 hd
    simp only [okD3, Bool.and_eq_true, decide_eq_true_eq] at h2
    refine ⟨r, hr, ?_⟩
    have hl := lowerR_len r
    have e : lowerR r = [d] := by
      match h : lowerR r, hl with
      | [], _ => rw [h] at h1; cases h1
      | [x], _ => rw [h] at h1; rw [List.mem_singleton.1 h1]
    have e0 : nth (lowerR r) 0 = d := by rw [e]; rfl
    simp only [ruleB, e0, Bool.and_eq_true, decide_eq_true_eq]
    refine ⟨⟨⟨by rw [e]; rfl, by omega⟩, by omega⟩, ?_⟩
    exact (viol_path (by omega) (by simp) (by simp [tabB]) (fun q => absurd rfl q)).2 ⟨at', hp⟩
theorem mem_index {l : List Int} {x : Int} (h : x ∈ l) : ∃ i, i < l.length ∧ nth l i = x := mem_nth h
theorem clash_iff {facts : List GFact} {set : List Int} (hs : Srt set) : clashP facts set ↔ ∃ b c, b ∈ set ∧ c ∈ set ∧ b < c ∧ ent facts b = ent facts c ∧ exP facts b c = true := by
  constructor
  · rintro ⟨i, k, h1, h2, h3⟩
    simp only [pairP, exclB, Bool.and_eq_true, decide_eq_true_eq] at h3
    exact ⟨nth set k, nth set i, nth_mem (by omega), nth_mem h2, srt_nth' hs h1 h2, h3.1.symm, h3.2⟩
  · rintro ⟨b, c, hb, hc, hlt, h1, h2⟩
    obtain ⟨k, hk, rfl⟩ := mem_index hb
    obtain ⟨i, hi, rfl⟩ := mem_index hc
    have hki : k < i := by
      rcases Nat.lt_trichotomy k i with q | q | q
      · exact q
      · subst q; omega
      · have := srt_nth' hs q hk; omega
    refine ⟨i, k, hki, hi, ?_⟩
    simp only [pairP, exclB, Bool.and_eq_true, decide_eq_true_eq]
    exact ⟨h1.symm, h2⟩
where
  srt_nth' {l : List Int} (h : Srt l) {i k : Nat} (hk : k < i) (hi : i < l.length) : nth l k < nth l i := by
    rw [nth_get hi, nth_get (show k < l.length by omega)]
    exact List.pairwise_iff_getElem.1 h k i (by omega) hi hk
/-- A good set has no witness in it. -/
theorem good_iff {rules : List GRule} {facts : List GFact} {set : List Int} (hs : Srt set) (hin : ∀ x ∈ set, 0 ≤ x ∧ x < (facts.length : Int)) : goodM rules facts set = true ↔ ∀ s ∈ allW rules facts, ¬ ∀ x ∈ s, x ∈ set := by
  have hsub : ∀ x ∈ set, x ∈ iota facts.length := fun x hx => iota_mem_iff.2 (hin x hx)
  rw [goodM_iff]
  constructor
  · rintro ⟨h1, h2⟩ s hsw hins
    have hw := (wits_sub (iota_srt _) hs hsub).2 ⟨hsw, hins⟩
    rcases (wits_iff hs).1 hw with ⟨b, c, q1, q2, q3, q4, q5, _⟩ | ⟨d, hd, at', hp, _⟩
    · exact h1 ((clash_iff hs).2 ⟨b, c, q1, q2, q3, q4, q5⟩)
    · have := rules_bad.2 ⟨d, hd, at', hp⟩
      rw [h2] at this; cases this
  · intro h
    constructor
    · intro hc
      obtain ⟨b, c, q1, q2, q3, q4, q5⟩ := (clash_iff hs).1 hc
      have hw := (wits_iff (rules := rules) hs).2 (.inl ⟨b, c, q1, q2, q3, q4, q5, rfl⟩)
      obtain ⟨a1, a2⟩ := (wits_sub (iota_srt _) hs hsub).1 hw
      exact h _ a1 a2
    · rw [← Bool.not_eq_true, rules_bad]
      rintro ⟨d, hd, at', hp⟩
      have hw := (wits_iff (rules := rules) hs).2 (.inr ⟨d, hd, at', hp, rfl⟩)
      obtain ⟨a1, a2⟩ := (wits_sub (iota_srt _) hs hsub).1 hw
      exact h _ a1 a2
theorem consR_eq (rules : List GRule) (facts : List GFact) (set : List Int) : (isSet set facts.length && goodM rules facts set) = consM rules facts set := by
  rw [Bool.eq_iff_iff, Bool.and_eq_true, consM_iff, isSet_iff]
  constructor
  · rintro ⟨h1, h2⟩; exact ⟨h1, (good_iff h1.1 h1.2).1 h2⟩
  · rintro ⟨h1, h2⟩; exact ⟨h1, (good_iff h1.1 h1.2).2 h2⟩
/-- A set of size s + 1 is a violation exactly if no smaller one is in it and it is not good. -/
theorem vio_size {rules : List GRule} {facts : List GFact} (H : VHyp rules facts) {x : List Int} {s : Nat} (hx : isSet x facts.length = true) (hl : x.length = s + 1) :
    ((∀ y ∈ vioM rules facts, y.length ≤ s → ¬ ∀ z ∈ y, z ∈ x) ∧ goodM rules facts x = false) ↔ x ∈ vioM rules facts := by
  have hx' := isSet_iff.1 hx
  constructor
  · rintro ⟨h1, h2⟩
    have h3 : ¬ ∀ s ∈ allW rules facts, ¬ ∀ z ∈ s, z ∈ x := fun q => by rw [(good_iff hx'.1 hx'.2).2 q] at h2; cases h2
    have h4 : ∃ u ∈ allW rules facts, ∀ z ∈ u, z ∈ x := Classical.byContradiction fun q => h3 fun u hu hz => q ⟨u, hu, hz⟩
    obtain ⟨u, hu, hz⟩ := h4
    obtain ⟨v, hv, hvu⟩ := minM_below (okt_all H) hu (wits_ok (iota_srt _) hu).1
    have hvx : ∀ z ∈ v, z ∈ x := fun z hzv => hz z (hvu.subset hzv)
    have hvs := srt_sub (vio_w H hv).2.2.2.1 hx'.1 hvx
    have hle := hvs.length_le
    have hgt : ¬ v.length ≤ s := fun q => h1 v hv q hvx
    have : v = x := hvs.eq_of_length_le (by omega)
    exact this ▸ hv
  · intro h
    refine ⟨fun y hy hys hyx => ?_, ?_⟩
    · have hsub := srt_sub (vio_w H hy).2.2.2.1 hx'.1 hyx
      exact ((minM_iff (okt_all H)).1 h).2 y hsub (vio_w H hy).2.1 (fun e => by rw [e] at hys; omega) (vio_w H hy).1
    · rw [← Bool.not_eq_true, good_iff hx'.1 hx'.2]
      exact fun q => q x (vio_w H h).1 fun z hz => hz
end Lg

/- Pure theory: sets of one, two and three facts, by size, that contain no smaller violation. -/
namespace Lg
open Go Go.Proofs
abbrev pos3 (i k m : Nat) : Nat := (i * 13 + k) * 13 + m
abbrev set3 (s i k m : Nat) : List Int := ([(i : Int), (k : Int), (m : Int)] : List Int).take s
theorem set3_len {s i k m : Nat} (hs : s ≤ 3) : (set3 s i k m).length = s := by simp [set3]; omega
def okS (rules : List GRule) (facts : List GFact) (s i k m : Nat) : Prop := ¬ (s < 3 ∧ k < m ∨ s < 2 ∧ i < k) ∧ set3 s i k m ∈ vioM rules facts
structure FnP (rules : List GRule) (facts : List GFact) (s : Nat) (F : List (List Int)) (i k m : Nat) : Prop where
  nd : F.Nodup
  len : F.length ≤ pos3 i k m
  mem : ∀ x, x ∈ F ↔ ∃ i' k' m', i' ≤ k' ∧ k' ≤ m' ∧ m' < facts.length ∧ pos3 i' k' m' < pos3 i k m ∧ okS rules facts s i' k' m' ∧ x = set3 s i' k' m'
theorem set3_inj {rules : List GRule} {facts : List GFact} {s i k m i' k' m' : Nat} (h1 : 1 ≤ s) (h3 : s ≤ 3) (a1 : i ≤ k) (a2 : k ≤ m) (b1 : i' ≤ k') (b2 : k' ≤ m') (ha : okS rules facts s i k m) (hb : okS rules facts s i' k' m') (e : set3 s i k m = set3 s i' k' m') : i' = i ∧ k' = k ∧ m' = m := by
  have ha := ha.1
  have hb := hb.1
  have : s = 1 ∨ s = 2 ∨ s = 3 := by omega
  rcases this with rfl | rfl | rfl
  · simp [set3] at e; omega
  · simp [set3] at e; omega
  · simp [set3] at e; omega
theorem pos_K {i k n i' k' m' : Nat} (hn : n ≤ 12) (hk : k < n) (hi : i ≤ k) (q1 : i' ≤ k') (q2 : k' ≤ m') (q3 : m' < n) : pos3 i' k' m' < pos3 i k n ↔ pos3 i' k' m' < pos3 i (k + 1) (k + 1) := by
  simp only [pos3]
  rcases Nat.lt_trichotomy i' i with h | h | h
  · omega
  · subst h
    rcases Nat.lt_trichotomy k' k with h | h | h
    · omega
    · subst h; omega
    · omega
  · omega
theorem pos_I {i n i' k' m' : Nat} (hn : n ≤ 12) (hi : i < n) (q1 : i' ≤ k') (q2 : k' ≤ m') (q3 : m' < n) : pos3 i' k' m' < pos3 i n n ↔ pos3 i' k' m' < pos3 (i + 1) (i + 1) (i + 1) := by
  simp only [pos3]
  rcases Nat.lt_trichotomy i' i with h | h | h
  · omega
  · omega
  · omega
theorem pos_M {i k m n i' k' m' : Nat} (hn : n ≤ 12) (hk : k ≤ m) (hm : m < n) (hi : i ≤ k) (q1 : i' ≤ k') (q2 : k' ≤ m') (q3 : m' < n) : pos3 i' k' m' < pos3 i k (m + 1) ↔ pos3 i' k' m' < pos3 i k m ∨ i' = i ∧ k' = k ∧ m' = m := by
  simp only [pos3]
  omega
section
variable {rules : List GRule} {facts : List GFact} {s : Nat} {F : List (List Int)} {i k m : Nat}
theorem FnP.start : FnP rules facts s [] 0 0 0 where
  nd := List.nodup_nil
  len := Nat.zero_le _
  mem := fun x => ⟨fun h => (by cases h), fun ⟨i', k', m', _, _, _, h, _⟩ => by simp only [pos3] at h; omega⟩
theorem FnP.move {i2 k2 m2 : Nat} (h : FnP rules facts s F i k m) (hp : pos3 i k m ≤ pos3 i2 k2 m2) (he : ∀ i' k' m', i' ≤ k' → k' ≤ m' → m' < facts.length → okS rules facts s i' k' m' → (pos3 i' k' m' < pos3 i k m ↔ pos3 i' k' m' < pos3 i2 k2 m2)) : FnP rules facts s F i2 k2 m2 where
  nd := h.nd
  len := Nat.le_trans h.len hp
  mem := fun x => by
    rw [h.mem]
    refine exists_congr fun i' => exists_congr fun k' => exists_congr fun m' => ?_
    constructor
    · rintro ⟨q1, q2, q3, q4, q5, q6⟩
      exact ⟨q1, q2, q3, (he _ _ _ q1 q2 q3 q5).1 q4, q5, q6⟩
    · rintro ⟨q1, q2, q3, q4, q5, q6⟩
      exact ⟨q1, q2, q3, (he _ _ _ q1 q2 q3 q5).2 q4, q5, q6⟩
theorem FnP.toK (h : FnP rules facts s F i k m) (hn : facts.length ≤ 12) (hi : i ≤ k) (hk : k < facts.length) (hm : m = facts.length) : FnP rules facts s F i (k + 1) (k + 1) := by
  subst hm
  exact h.move (by simp only [pos3]; omega) fun i' k' m' q1 q2 q3 _ => pos_K hn hk hi q1 q2 q3
theorem FnP.toI (h : FnP rules facts s F i k k) (hn : facts.length ≤ 12) (hi : i < facts.length) (hk : k = facts.length) : FnP rules facts s F (i + 1) (i + 1) (i + 1) := by
  subst hk
  exact h.move (by simp only [pos3]; omega) fun i' k' m' q1 q2 q3 _ => pos_I hn hi q1 q2 q3
theorem FnP.skip (h : FnP rules facts s F i k m) (hn : facts.length ≤ 12) (hi : i ≤ k) (hk : k ≤ m) (hm : m < facts.length) (hno : ¬ okS rules facts s i k m) : FnP rules facts s F i k (m + 1) :=
  h.move (by simp only [pos3]; omega) fun i' k' m' q1 q2 q3 q4 => by
    rw [pos_M hn hk hm hi q1 q2 q3]
    constructor
    · exact .inl
    · rintro (q | ⟨rfl, rfl, rfl⟩)
      · exact q
      · exact absurd q4 hno
theorem FnP.add (h : FnP rules facts s F i k m) (h1 : 1 ≤ s) (h3 : s ≤ 3) (hn : facts.length ≤ 12) (hi : i ≤ k) (hk : k ≤ m) (hm : m < facts.length) (hok : okS rules facts s i k m) : FnP rules facts s (F ++ [set3 s i k m]) i k (m + 1) where
  nd := by
    refine List.nodup_append.2 ⟨h.nd, by simp, fun x hx y hy e => ?_⟩
    rw [List.mem_singleton.1 hy] at e
    subst e
    obtain ⟨i', k', m', q1, q2, q3, q4, q5, q6⟩ := (h.mem _).1 hx
    obtain ⟨rfl, rfl, rfl⟩ := set3_inj h1 h3 hi hk q1 q2 hok q5 q6
    omega
  len := by have := h.len; simp only [List.length_append, List.length_singleton, pos3] at *; omega
  mem := fun x => by
    rw [List.mem_append, List.mem_singleton, h.mem]
    constructor
    · rintro (⟨i', k', m', q1, q2, q3, q4, q5, q6⟩ | rfl)
      · exact ⟨i', k', m', q1, q2, q3, by simp only [pos3] at *; omega, q5, q6⟩
      · exact ⟨i, k, m, hi, hk, hm, by simp only [pos3]; omega, hok, rfl⟩
    · rintro ⟨i', k', m', q1, q2, q3, q4, q5, q6⟩
      rcases (pos_M hn hk hm hi q1 q2 q3).1 q4 with q | ⟨rfl, rfl, rfl⟩
      · exact .inl ⟨i', k', m', q1, q2, q3, q, q5, q6⟩
      · exact .inr q6
end
structure SmP (rules : List GRule) (facts : List GFact) (s : Nat) (small : List (List Int)) : Prop where
  nd : small.Nodup
  len : small.length ≤ (s - 1) * 3000
  mem : ∀ x, x ∈ small ↔ x ∈ vioM rules facts ∧ x.length < s
section
variable {rules : List GRule} {facts : List GFact} {s : Nat} {small F : List (List Int)} {i k m : Nat}
theorem SmP.start (H : VHyp rules facts) : SmP rules facts 1 [] where
  nd := List.nodup_nil
  len := Nat.zero_le _
  mem := fun x => ⟨fun h => (by cases h), fun ⟨h1, h2⟩ => by
    exfalso
    have := (vio_w H h1).2.1
    have : x = [] := List.length_eq_zero_iff.1 (by omega)
    contradiction⟩
theorem SmP.le3 (h : SmP rules facts s small) (H : VHyp rules facts) : ∀ x ∈ small, x.length ≤ 3 := fun x hx => (vio_w H ((h.mem x).1 hx).1).2.2.1
/-- A violation as a triple. -/
theorem vio_triple (H : VHyp rules facts) {x : List Int} (hx : x ∈ vioM rules facts) : ∃ i' k' m', i' ≤ k' ∧ k' ≤ m' ∧ m' < facts.length ∧ okS rules facts x.length i' k' m' ∧ x = set3 x.length i' k' m' := by
  obtain ⟨_, h1, h2, h3, h4⟩ := vio_w H hx
  match x, h1, h2, h3, h4, hx with
  | [], h1, _, _, _, _ => exact absurd rfl h1
  | [a], _, _, _, h4, hx =>
    have := h4 a (by simp)
    have e : a = ((a.toNat : Nat) : Int) := by omega
    refine ⟨a.toNat, a.toNat, a.toNat, Nat.le_refl _, Nat.le_refl _, by omega, ⟨by simp, ?_⟩, ?_⟩
    · show [((a.toNat : Nat) : Int)] ∈ _; rw [← e]; exact hx
    · show [a] = [((a.toNat : Nat) : Int)]; rw [← e]
  | [a, b], _, _, h3, h4, hx =>
    have ha := h4 a (by simp)
    have hb := h4 b (by simp)
    have hab : a < b := by simpa [Srt] using h3
    have e : a = ((a.toNat : Nat) : Int) := by omega
    have e2 : b = ((b.toNat : Nat) : Int) := by omega
    refine ⟨a.toNat, b.toNat, b.toNat, by omega, Nat.le_refl _, by omega, ⟨by simp, ?_⟩, ?_⟩
    · show [((a.toNat : Nat) : Int), ((b.toNat : Nat) : Int)] ∈ _; rw [← e, ← e2]; exact hx
    · show [a, b] = [((a.toNat : Nat) : Int), ((b.toNat : Nat) : Int)]; rw [← e, ← e2]
  | [a, b, c], _, _, h3, h4, hx =>
    have ha := h4 a (by simp)
    have hb := h4 b (by simp)
    have hc := h4 c (by simp)
    have hab : (a < b ∧ a < c) ∧ b < c := by simpa [Srt] using h3
    have e : a = ((a.toNat : Nat) : Int) := by omega
    have e2 : b = ((b.toNat : Nat) : Int) := by omega
    have e3 : c = ((c.toNat : Nat) : Int) := by omega
    refine ⟨a.toNat, b.toNat, c.toNat, by omega, by omega, by omega, ⟨by simp, ?_⟩, ?_⟩
    · show [((a.toNat : Nat) : Int), ((b.toNat : Nat) : Int), ((c.toNat : Nat) : Int)] ∈ _; rw [← e, ← e2, ← e3]; exact hx
    · show [a, b, c] = [((a.toNat : Nat) : Int), ((b.toNat : Nat) : Int), ((c.toNat : Nat) : Int)]; rw [← e, ← e2, ← e3]
  | a :: b :: c :: d :: t, _, h2, _, _, _ => exact absurd h2 (by simp)
theorem SmP.next (h : SmP rules facts s small) (H : VHyp rules facts) (h1 : 1 ≤ s) (h3 : s ≤ 3) (hn : facts.length ≤ 12) (hF : FnP rules facts s F i i i) (hi : i = facts.length) : SmP rules facts (s + 1) (small ++ F) := by
  have hm : ∀ x, x ∈ F ↔ x ∈ vioM rules facts ∧ x.length = s := fun x => by
    rw [hF.mem]
    constructor
    · rintro ⟨i', k', m', q1, q2, q3, q4, q5, rfl⟩
      exact ⟨q5.2, set3_len h3⟩
    · rintro ⟨q1, q2⟩
      obtain ⟨i', k', m', a1, a2, a3, a4, a5⟩ := vio_triple H q1
      rw [q2] at a4 a5
      exact ⟨i', k', m', a1, a2, a3, by subst hi; simp only [pos3]; omega, a4, a5⟩
  refine ⟨List.nodup_append.2 ⟨h.nd, hF.nd, fun x hx y hy e => ?_⟩, ?_, fun x => ?_⟩
  · subst e
    have := ((h.mem x).1 hx).2
    have := ((hm x).1 hy).2
    omega
  · have a := h.len
    have b := hF.len
    simp only [List.length_append, pos3] at *
    have : (i * 13 + i) * 13 + i ≤ 3000 := by omega
    have : (s + 1 - 1) * 3000 = (s - 1) * 3000 + 3000 := by omega
    omega
  · rw [List.mem_append, h.mem, hm]
    constructor
    · rintro (⟨q1, q2⟩ | ⟨q1, q2⟩)
      · exact ⟨q1, by omega⟩
      · exact ⟨q1, by omega⟩
    · rintro ⟨q1, q2⟩
      by_cases e : x.length = s
      · exact .inr ⟨q1, e⟩
      · exact .inl ⟨q1, by omega⟩
theorem SmP.perm (h : SmP rules facts s small) (H : VHyp rules facts) (hs : s = 4) : small.Perm (vioM rules facts) := by
  refine (List.perm_ext_iff_of_nodup h.nd (minM_nodup _)).2 fun x => ?_
  rw [h.mem]
  exact ⟨fun q => q.1, fun q => ⟨q, by have := (vio_w H q).2.2.1; omega⟩⟩
theorem vio_sorted (rules : List GRule) (facts : List GFact) : sortL (vioM rules facts) = vioM rules facts := by
  refine sortedL_unique (sortL_perm _) (sortL_sorted _) ?_
  show (minM _).Pairwise _
  exact sortL_sorted _
theorem SmP.done (h : SmP rules facts s small) (H : VHyp rules facts) (hs : s = 4) : sortL small = vioM rules facts := by
  rw [← vio_sorted rules facts]
  exact sortedL_unique ((sortL_perm _).trans ((h.perm H hs).trans (sortL_perm _).symm)) (sortL_sorted _) (sortL_sorted _)
abbrev hasB (l : List (List Int)) (set : List Int) : Bool := l.any fun b => b.all fun x => set.contains x
theorem hasB_f {l : List (List Int)} {set : List Int} : hasB l set = false ↔ ∀ y ∈ l, ¬ ∀ z ∈ y, z ∈ set := by
  rw [← Bool.not_eq_true]
  simp only [hasB, List.any_eq_true, List.all_eq_true, List.contains_iff_mem, not_exists, not_and]
theorem SmP.iff (h : SmP rules facts s small) (H : VHyp rules facts) (h1 : 1 ≤ s) (h3 : s ≤ 3) (hset : isSet (set3 s i k m) facts.length = true) : (hasB small (set3 s i k m) = false ∧ goodM rules facts (set3 s i k m) = false) ↔ set3 s i k m ∈ vioM rules facts := by
  obtain ⟨s', rfl⟩ : ∃ s', s = s' + 1 := ⟨s - 1, by omega⟩
  rw [← vio_size H hset (set3_len h3), hasB_f]
  constructor
  · rintro ⟨q1, q2⟩; exact ⟨fun y hy hl => q1 y ((h.mem y).2 ⟨hy, by omega⟩), q2⟩
  · rintro ⟨q1, q2⟩; exact ⟨fun y hy => q1 y ((h.mem y).1 hy).1 (by have := ((h.mem y).1 hy).2; omega), q2⟩
theorem SmP.no (h : SmP rules facts s small) (H : VHyp rules facts) (h1 : 1 ≤ s) (h3 : s ≤ 3) (hc : ((((s : Int) < 3 ∧ (k : Int) < m ∨ (s : Int) < 2 ∧ (i : Int) < k) ∨ isSet (set3 s i k m) facts.length = false) ∨ hasB small (set3 s i k m) = true) ∨ goodM rules facts (set3 s i k m) = true) : ¬ okS rules facts s i k m := by
  rintro ⟨q1, q2⟩
  have hset : isSet (set3 s i k m) facts.length = true := isSet_iff.2 ⟨(vio_w H q2).2.2.2.1, (vio_w H q2).2.2.2.2⟩
  obtain ⟨a, b⟩ := (h.iff H h1 h3 hset).2 q2
  rw [hset, a, b] at hc
  simp at hc
  omega
theorem SmP.yes (h : SmP rules facts s small) (H : VHyp rules facts) (h1 : 1 ≤ s) (h3 : s ≤ 3) (hc : ((¬ ((s : Int) < 3 ∧ (k : Int) < m ∨ (s : Int) < 2 ∧ (i : Int) < k) ∧ isSet (set3 s i k m) facts.length = true) ∧ hasB small (set3 s i k m) = false) ∧ goodM rules facts (set3 s i k m) = false) : okS rules facts s i k m :=
  ⟨by omega, (h.iff H h1 h3 hc.1.1.2).1 ⟨hc.1.2, hc.2⟩⟩
end
end Lg

namespace Lg
open Go Go.Proofs

theorem ViolationsR_spec (rules : List GRule) (facts : List GFact) (H : VHyp rules facts) (hn : facts.length ≤ 12) (hr : ∀ r ∈ rules, (r.Fixed.length ≤ 1000000 ∧ r.Cols.length ≤ 1000000) ∧ r.Tests.length ≤ 900000) : Fun1 Tryz.prog 16 [tSl rRule rules, tSl rFact facts] (tTup [tSl (rSl rInt) (vioM rules facts), tV (.int .i64 0)]) := by
  refine Spec.enter Tryz.func16 rfl rfl fun h0 w0 fr0 => ?_
  have hrl := H.rl
  refine J_seq ?_
  refine J_region ?_
  refine JL_step rfl rfl rfl (step_assign Sub.rfl) ?_
  refine JL_step rfl rfl rfl (step_assign Sub.rfl) ?_
  refine JL_nil ?_
  refine J_seq ?_
  refine J_seq ?_
  refine J_region ?_
  refine JL_step rfl rfl rfl (step_move Sub.rfl) ?_
  refine JL_step rfl rfl rfl (step_len_sl Tryz.underlying23 Sub.rfl) ?_
  refine JL_step rfl rfl rfl (step_gtr Sub.rfl Sub.rfl) ?_
  refine JL_nil ?_
  refine J_cond Sub.rfl (fun h16 => ?_) (fun h16 => ?_)
  · try simp only [decide_eq_true_eq, decide_eq_false_iff_not, Bool.and_eq_true, Bool.or_eq_true, Bool.and_eq_false_iff, Bool.or_eq_false_iff, Bool.not_eq_true', Bool.not_eq_false', Int.not_lt, Int.not_le, Bool.not_true, Bool.not_false] at h16
    exfalso; omega
  · try simp only [decide_eq_true_eq, decide_eq_false_iff_not, Bool.and_eq_true, Bool.or_eq_true, Bool.and_eq_false_iff, Bool.or_eq_false_iff, Bool.not_eq_true', Bool.not_eq_false', Int.not_lt, Int.not_le, Bool.not_true, Bool.not_false] at h16
    refine J_skip ?_
    refine J_seq ?_
    refine J_region ?_
    refine JL_step rfl rfl rfl (step_assign Sub.rfl) ?_
    refine JL_nil ?_
    refine J_seq ?_
    refine J_region ?_
    refine JL_step rfl rfl rfl (step_move Sub.rfl) ?_
    refine JL_step rfl rfl rfl (step_len_sl Tryz.underlying23 Sub.rfl) ?_
    refine JL_step rfl rfl rfl (step_assign Sub.rfl) ?_
    refine JL_nil ?_
    refine J_seq ?_
    refine J_seq ?_
    refine J_region ?_
    refine JL_step rfl rfl rfl (step_assign Sub.rfl) ?_
    refine JL_nil ?_
    refine J_block ?_
    refine J_loopL (σ := Nat × List (List Int) × Value) (fun ⟨s, small, vs⟩ => 1 ≤ s ∧ s ≤ 4 ∧ SmP rules facts s small) (fun ⟨s, small, vs⟩ => upd (upd (upd (upd (upd (upd (upd env0 0 (tSl rRule rules)) 1 (tSl rFact facts)) 4 (tV (.slice none 0 0))) 5 (tV (.int .i64 0))) 6 (rV.ty vs)) 7 (tV (.int .i64 facts.length))) 8 (tV (.int .i64 s))) (fun ⟨s, small, vs⟩ => [own 24 (rSl rInt) vs small]) (fun ⟨s, small, vs⟩ => 4 - s) (1, [], .slice none 0 0) ⟨by decide, by decide, SmP.start H⟩ (SubE.upd Sub.rfl (SubE.upd Sub.rfl (SubE.upd (Sub.rV rfl) (SubE.upd Sub.rfl (SubE.upd Sub.rfl (SubE.upd Sub.rfl (SubE.upd Sub.rfl SubE.any))))))) (LSub.nilown) ?_
    rintro ⟨s, small, vs⟩ ⟨hs1, hs4, hv⟩
    refine J_seq ?_
    refine J_seq ?_
    refine J_region ?_
    refine JL_step rfl rfl rfl (step_move Sub.rfl) ?_
    refine JL_step rfl rfl rfl (step_leq Sub.rfl Sub.rfl) ?_
    refine JL_nil ?_
    refine J_cond Sub.rfl (fun h20 => ?_) (fun h20 => ?_)
    · try simp only [decide_eq_true_eq, decide_eq_false_iff_not, Bool.and_eq_true, Bool.or_eq_true, Bool.and_eq_false_iff, Bool.or_eq_false_iff, Bool.not_eq_true', Bool.not_eq_false', Int.not_lt, Int.not_le, Bool.not_true, Bool.not_false] at h20
      have hs3 : s ≤ 3 := by omega
      have hsm := hv.len
      have hsl3 := hv.le3 H
      refine J_skip ?_
      refine J_seq ?_
      refine J_block ?_
      refine J_seq ?_
      refine J_region ?_
      refine JL_step rfl rfl rfl (step_assign Sub.rfl) ?_
      refine JL_nil ?_
      refine K_lsub (LSub.cons (by first | exact Sel.take (Sel.none _) | exact Sel.skip (Sel.take (Sel.none _)) | exact Sel.skip (Sel.skip (Sel.take (Sel.none _))) | exact Sel.skip (Sel.skip (Sel.skip (Sel.take (Sel.none _)))) | exact Sel.skip (Sel.skip (Sel.skip (Sel.skip (Sel.take (Sel.none _)))))) (SPs.rfl) (LSub.nilown (e := 24) (R := rSl rInt))) ?_
      refine J_seq ?_
      refine J_seq ?_
      refine J_region ?_
      refine JL_step rfl rfl rfl (step_assign Sub.rfl) ?_
      refine JL_nil ?_
      refine J_block ?_
      refine J_loopL (σ := Nat × List (List Int) × Value) (fun ⟨i, F, vF⟩ => i ≤ facts.length ∧ FnP rules facts s F i i i) (fun ⟨i, F, vF⟩ => upd (upd (upd (upd (upd (upd (upd (upd (upd (upd env0 0 (tSl rRule rules)) 1 (tSl rFact facts)) 4 (tV (.slice none 0 0))) 5 (tV (.int .i64 0))) 6 (rV.ty vs)) 7 (tV (.int .i64 facts.length))) 8 (tV (.int .i64 s))) 9 (rV.ty vF)) 10 (tV (.int .i64 i))) 19 (tV (.int .i64 s))) (fun ⟨i, F, vF⟩ => [own 24 (rSl rInt) vs small, own 24 (rSl rInt) vF F]) (fun ⟨i, F, vF⟩ => facts.length - i) (0, [], .slice none 0 0) ⟨by omega, FnP.start⟩ (SubE.upd Sub.rfl (SubE.upd Sub.rfl (SubE.upd (Sub.rV rfl) (SubE.upd Sub.rfl (SubE.upd Sub.rfl (SubE.upd Sub.rfl (SubE.upd Sub.rfl (SubE.upd Sub.rfl (SubE.upd Sub.rfl (SubE.upd Sub.rfl SubE.any)))))))))) (LSub.cons (by first | exact Sel.take (Sel.none _) | exact Sel.skip (Sel.take (Sel.none _)) | exact Sel.skip (Sel.skip (Sel.take (Sel.none _))) | exact Sel.skip (Sel.skip (Sel.skip (Sel.take (Sel.none _)))) | exact Sel.skip (Sel.skip (Sel.skip (Sel.skip (Sel.take (Sel.none _)))))) (SPs.rfl) (LSub.cons (by first | exact Sel.take (Sel.none _) | exact Sel.skip (Sel.take (Sel.none _)) | exact Sel.skip (Sel.skip (Sel.take (Sel.none _))) | exact Sel.skip (Sel.skip (Sel.skip (Sel.take (Sel.none _)))) | exact Sel.skip (Sel.skip (Sel.skip (Sel.skip (Sel.take (Sel.none _)))))) (SPs.rfl) (LSub.nil))) ?_
      rintro ⟨i, F, vF⟩ ⟨hi, hF⟩
      refine J_seq ?_
      refine J_seq ?_
      refine J_region ?_
      refine JL_step rfl rfl rfl (step_move Sub.rfl) ?_
      refine JL_step rfl rfl rfl (step_move Sub.rfl) ?_
      refine JL_step rfl rfl rfl (step_lss Sub.rfl Sub.rfl) ?_
      refine JL_nil ?_
      refine J_cond Sub.rfl (fun h25 => ?_) (fun h25 => ?_)
      · try simp only [decide_eq_true_eq, decide_eq_false_iff_not, Bool.and_eq_true, Bool.or_eq_true, Bool.and_eq_false_iff, Bool.or_eq_false_iff, Bool.not_eq_true', Bool.not_eq_false', Int.not_lt, Int.not_le, Bool.not_true, Bool.not_false] at h25
        have hin : i < facts.length := by omega
        refine J_skip ?_
        refine J_seq ?_
        refine J_block ?_
        refine J_seq ?_
        refine J_region ?_
        refine JL_step rfl rfl rfl (step_move Sub.rfl) ?_
        refine JL_step rfl rfl rfl (step_assign Sub.rfl) ?_
        refine JL_nil ?_
        refine J_block ?_
        refine J_loopL (σ := Nat × List (List Int) × Value) (fun ⟨k, G, vG⟩ => i ≤ k ∧ k ≤ facts.length ∧ FnP rules facts s G i k k) (fun ⟨k, G, vG⟩ => upd (upd (upd (upd (upd (upd (upd (upd (upd (upd (upd (upd (upd (upd env0 0 (tSl rRule rules)) 1 (tSl rFact facts)) 4 (tV (.slice none 0 0))) 5 (tV (.int .i64 0))) 6 (rV.ty vs)) 7 (tV (.int .i64 facts.length))) 8 (tV (.int .i64 s))) 9 (rV.ty vG)) 10 (tV (.int .i64 i))) 11 (tV (.int .i64 k))) 19 (tV (.int .i64 s))) 23 (tV (.int .i64 i))) 24 (tV (.int .i64 facts.length))) 28 (tV (.int .i64 i))) (fun ⟨k, G, vG⟩ => [own 24 (rSl rInt) vs small, own 24 (rSl rInt) vG G]) (fun ⟨k, G, vG⟩ => facts.length - k) (i, F, vF) ⟨by omega, hi, hF⟩ (SubE.upd Sub.rfl (SubE.upd Sub.rfl (SubE.upd Sub.rfl (SubE.upd Sub.rfl (SubE.upd Sub.rfl (SubE.upd Sub.rfl (SubE.upd Sub.rfl (SubE.upd Sub.rfl (SubE.upd Sub.rfl (SubE.upd Sub.rfl (SubE.upd Sub.rfl (SubE.upd Sub.rfl (SubE.upd Sub.rfl (SubE.upd Sub.rfl SubE.any)))))))))))))) (LSub.cons (by first | exact Sel.take (Sel.none _) | exact Sel.skip (Sel.take (Sel.none _)) | exact Sel.skip (Sel.skip (Sel.take (Sel.none _))) | exact Sel.skip (Sel.skip (Sel.skip (Sel.take (Sel.none _)))) | exact Sel.skip (Sel.skip (Sel.skip (Sel.skip (Sel.take (Sel.none _)))))) (SPs.rfl) (LSub.cons (by first | exact Sel.take (Sel.none _) | exact Sel.skip (Sel.take (Sel.none _)) | exact Sel.skip (Sel.skip (Sel.take (Sel.none _))) | exact Sel.skip (Sel.skip (Sel.skip (Sel.take (Sel.none _)))) | exact Sel.skip (Sel.skip (Sel.skip (Sel.skip (Sel.take (Sel.none _)))))) (SPs.rfl) (LSub.nil))) ?_
        rintro ⟨k, G, vG⟩ ⟨hik, hk, hG⟩
        refine J_seq ?_
        refine J_seq ?_
        refine J_region ?_
        refine JL_step rfl rfl rfl (step_move Sub.rfl) ?_
        refine JL_step rfl rfl rfl (step_move Sub.rfl) ?_
        refine JL_step rfl rfl rfl (step_lss Sub.rfl Sub.rfl) ?_
        refine JL_nil ?_
        refine J_cond Sub.rfl (fun h31 => ?_) (fun h31 => ?_)
        · try simp only [decide_eq_true_eq, decide_eq_false_iff_not, Bool.and_eq_true, Bool.or_eq_true, Bool.and_eq_false_iff, Bool.or_eq_false_iff, Bool.not_eq_true', Bool.not_eq_false', Int.not_lt, Int.not_le, Bool.not_true, Bool.not_false] at h31
          have hkn : k < facts.length := by omega
          refine J_skip ?_
          refine J_seq ?_
          refine J_block ?_
          refine J_seq ?_
          refine J_region ?_
          refine JL_step rfl rfl rfl (step_move Sub.rfl) ?_
          refine JL_step rfl rfl rfl (step_assign Sub.rfl) ?_
          refine JL_nil ?_
          refine J_block ?_
          refine J_loopL (σ := Nat × List (List Int) × Value) (fun ⟨m, K, vK⟩ => k ≤ m ∧ m ≤ facts.length ∧ FnP rules facts s K i k m) (fun ⟨m, K, vK⟩ => upd (upd (upd (upd (upd (upd (upd (upd (upd (upd (upd (upd (upd (upd (upd (upd (upd (upd env0 0 (tSl rRule rules)) 1 (tSl rFact facts)) 4 (tV (.slice none 0 0))) 5 (tV (.int .i64 0))) 6 (rV.ty vs)) 7 (tV (.int .i64 facts.length))) 8 (tV (.int .i64 s))) 9 (rV.ty vK)) 10 (tV (.int .i64 i))) 11 (tV (.int .i64 k))) 12 (tV (.int .i64 m))) 19 (tV (.int .i64 s))) 23 (tV (.int .i64 i))) 24 (tV (.int .i64 facts.length))) 28 (tV (.int .i64 i))) 29 (tV (.int .i64 k))) 30 (tV (.int .i64 facts.length))) 34 (tV (.int .i64 k))) (fun ⟨m, K, vK⟩ => [own 24 (rSl rInt) vs small, own 24 (rSl rInt) vK K]) (fun ⟨m, K, vK⟩ => facts.length - m) (k, G, vG) ⟨by omega, hk, hG⟩ (SubE.upd Sub.rfl (SubE.upd Sub.rfl (SubE.upd Sub.rfl (SubE.upd Sub.rfl (SubE.upd Sub.rfl (SubE.upd Sub.rfl (SubE.upd Sub.rfl (SubE.upd Sub.rfl (SubE.upd Sub.rfl (SubE.upd Sub.rfl (SubE.upd Sub.rfl (SubE.upd Sub.rfl (SubE.upd Sub.rfl (SubE.upd Sub.rfl (SubE.upd Sub.rfl (SubE.upd Sub.rfl (SubE.upd Sub.rfl (SubE.upd Sub.rfl SubE.any)))))))))))))))))) (LSub.cons (by first | exact Sel.take (Sel.none _) | exact Sel.skip (Sel.take (Sel.none _)) | exact Sel.skip (Sel.skip (Sel.take (Sel.none _))) | exact Sel.skip (Sel.skip (Sel.skip (Sel.take (Sel.none _)))) | exact Sel.skip (Sel.skip (Sel.skip (Sel.skip (Sel.take (Sel.none _)))))) (SPs.rfl) (LSub.cons (by first | exact Sel.take (Sel.none _) | exact Sel.skip (Sel.take (Sel.none _)) | exact Sel.skip (Sel.skip (Sel.take (Sel.none _))) | exact Sel.skip (Sel.skip (Sel.skip (Sel.take (Sel.none _)))) | exact Sel.skip (Sel.skip (Sel.skip (Sel.skip (Sel.take (Sel.none _)))))) (SPs.rfl) (LSub.nil))) ?_
          rintro ⟨m, K, vK⟩ ⟨hkm, hm, hK⟩
          refine J_seq ?_
          refine J_seq ?_
          refine J_region ?_
          refine JL_step rfl rfl rfl (step_move Sub.rfl) ?_
          refine JL_step rfl rfl rfl (step_move Sub.rfl) ?_
          refine JL_step rfl rfl rfl (step_lss Sub.rfl Sub.rfl) ?_
          refine JL_nil ?_
          refine J_cond Sub.rfl (fun h37 => ?_) (fun h37 => ?_)
          · try simp only [decide_eq_true_eq, decide_eq_false_iff_not, Bool.and_eq_true, Bool.or_eq_true, Bool.and_eq_false_iff, Bool.or_eq_false_iff, Bool.not_eq_true', Bool.not_eq_false', Int.not_lt, Int.not_le, Bool.not_true, Bool.not_false] at h37
            have hmn : m < facts.length := by omega
            refine J_skip ?_
            refine J_seq ?_
            refine J_block ?_
            refine J_seq ?_
            refine J_region ?_
            refine JL_step rfl rfl rfl (step_move Sub.rfl) ?_
            refine JL_step rfl rfl rfl (step_move Sub.rfl) ?_
            refine JL_step rfl rfl rfl (step_move Sub.rfl) ?_
            refine JL_step rfl rfl rfl (step_literalE (ys := [(i : Int), (k : Int), (m : Int)]) Tryz.underlying24 el3 ⟨rfl, Sub.rfl, rfl, Sub.rfl, rfl, Sub.rfl, trivial⟩ rfl (by decide)) ?_
            refine JL_step rfl rfl rfl (step_move Sub.rfl) ?_
            refine JL_step rfl rfl rfl (step_slice_toE (n := s) Tryz.underlying24 ty3 Sub.rfl Sub.rfl rfl (by simp) (by simpa using hs3)) ?_
            refine JL_step rfl rfl rfl (step_assign Sub.rfl) ?_
            refine JL_nil ?_
            refine J_seq ?_
            refine J_seq ?_
            refine J_region ?_
            refine JL_step rfl rfl rfl (step_move Sub.rfl) ?_
            refine JL_step rfl rfl rfl (step_lss Sub.rfl Sub.rfl) ?_
            refine JL_step rfl rfl rfl (step_move Sub.rfl) ?_
            refine JL_stepG rfl rfl rfl (Gd.plain Sub.rfl) rfl rfl (fun hw => step_move Sub.rfl) ?_
            refine JL_stepG rfl rfl rfl (Gd.plain Sub.rfl) rfl rfl (fun hw => step_move Sub.rfl) ?_
            refine JL_stepG rfl rfl rfl (Gd.plain Sub.rfl) rfl rfl (fun hw => step_gtr (Sub.w hw) (Sub.w hw)) ?_
            refine JL_step rfl rfl rfl (step_pick_and Sub.rfl Sub.rfl) ?_
            refine JL_step rfl rfl rfl (step_move Sub.rfl) ?_
            refine JL_stepG rfl rfl rfl (Gd.plain Sub.rfl) rfl rfl (fun hw => step_move Sub.rfl) ?_
            refine JL_stepG rfl rfl rfl (Gd.plain Sub.rfl) rfl rfl (fun hw => step_lss (Sub.w hw) Sub.rfl) ?_
            refine JL_stepG rfl rfl rfl (Gd.plain Sub.rfl) rfl rfl (fun hw => step_move (Sub.w hw)) ?_
            refine JL_stepG rfl rfl rfl (Gd.nest Sub.rfl) rfl rfl (fun hw => step_move Sub.rfl) ?_
            refine JL_stepG rfl rfl rfl (Gd.nest Sub.rfl) rfl rfl (fun hw => step_move Sub.rfl) ?_
            refine JL_stepG rfl rfl rfl (Gd.nest Sub.rfl) rfl rfl (fun hw => step_gtr (Sub.w hw) (Sub.w hw)) ?_
            refine JL_stepG rfl rfl rfl (Gd.plain Sub.rfl) rfl rfl (fun hw => step_pick_and (Sub.w hw) (Sub.ww hw)) ?_
            refine JL_step rfl rfl rfl (step_pick_or Sub.rfl Sub.rfl) ?_
            refine JL_step rfl rfl rfl (step_move Sub.rfl) ?_
            refine JL_stepG rfl rfl rfl (Gd.plain Sub.rfl) rfl rfl (fun hw => step_move Sub.rfl) ?_
            refine JL_stepG rfl rfl rfl (Gd.plain Sub.rfl) rfl rfl (fun hw => step_move Sub.rfl) ?_
            refine JL_stepG rfl rfl rfl (Gd.plain Sub.rfl) rfl rfl (fun hw => step_call0 (Set_spec (set3 s i k m) _ (by rw [set3_len hs3]; omega)) ⟨(Sub.w hw), (Sub.w hw), trivial⟩ Tryz.call39) ?_
            refine JL_stepG rfl rfl rfl (Gd.plain Sub.rfl) rfl rfl (fun hw => step_not (Sub.w hw)) ?_
            refine JL_step rfl rfl rfl (step_pick_or Sub.rfl Sub.rfl) ?_
            refine JL_step rfl rfl rfl (step_move Sub.rfl) ?_
            refine JL_stepG rfl rfl rfl (Gd.plain Sub.rfl) rfl rfl (fun hw => step_move Sub.rfl) ?_
            refine JL_stepG rfl rfl rfl (Gd.plain Sub.rfl) rfl rfl (fun hw => step_move Sub.rfl) ?_
            refine JL_stepG rfl rfl rfl (Gd.plain Sub.rfl) rfl rfl (fun hw => step_call_look (Sel.take (Sel.none _)) (has_spec small (set3 s i k m) (by omega) (by rw [set3_len hs3]; omega) (fun x hx => Nat.le_trans (hsl3 x hx) (by decide))) (fun _ => Flat.v _) ⟨(Frz.w hw Frz.own), (Frz.sub (Sub.w hw)), trivial⟩ Tryz.call40) ?_
            refine JL_step rfl rfl rfl (step_pick_or Sub.rfl Sub.rfl) ?_
            refine JL_step rfl rfl rfl (step_move Sub.rfl) ?_
            refine JL_stepG rfl rfl rfl (Gd.plain Sub.rfl) rfl rfl (fun hw => step_move Sub.rfl) ?_
            refine JL_stepG rfl rfl rfl (Gd.plain Sub.rfl) rfl rfl (fun hw => step_move Sub.rfl) ?_
            refine JL_stepG rfl rfl rfl (Gd.plain Sub.rfl) rfl rfl (fun hw => step_move Sub.rfl) ?_
            refine JL_stepG rfl rfl rfl (Gd.plain Sub.rfl) rfl rfl (fun hw => step_call0 (good_spec rules facts (set3 s i k m) (isSetFrom_InB (by have hq := hw; simp only [beqB_t, beqB_f, Bool.not_eq_true', Bool.or_eq_false_iff, Bool.not_eq_false'] at hq; exact hq.1.2)) (by rw [set3_len hs3]; omega) hr hrl) ⟨(Sub.w hw), (Sub.w hw), (Sub.w hw), trivial⟩ Tryz.call41) ?_
            refine JL_step rfl rfl rfl (step_pick_or Sub.rfl Sub.rfl) ?_
            refine JL_nil ?_
            refine J_cond Sub.rfl (fun h78 => ?_) (fun h78 => ?_)
            · try simp only [decide_eq_true_eq, decide_eq_false_iff_not, Bool.and_eq_true, Bool.or_eq_true, Bool.and_eq_false_iff, Bool.or_eq_false_iff, Bool.not_eq_true', Bool.not_eq_false', Int.not_lt, Int.not_le, Bool.not_true, Bool.not_false] at h78
              have hno : ¬ okS rules facts s i k m := hv.no H hs1 hs3 h78
              refine J_exit ?_
              refine J_region ?_
              refine JL_step rfl rfl rfl (step_move Sub.rfl) ?_
              refine JL_step rfl rfl rfl (step_add Sub.rfl Sub.rfl ?sg1) ?_
              case sg1 => unfold in64; omega
              refine JL_step rfl rfl rfl (step_assign Sub.rfl) ?_
              refine JL_nil ?_
              refine K_againL (σ := Nat × List (List Int) × Value) (s := (m, K, vK)) (m + 1, K, vK) (by first | omega | (dsimp only; omega) | (simp_all; omega)) ⟨by omega, by omega, hK.skip hn hik hkm hmn hno⟩ (SubE.upd Sub.rfl (SubE.upd Sub.rfl (SubE.upd Sub.rfl (SubE.upd Sub.rfl (SubE.upd Sub.rfl (SubE.upd Sub.rfl (SubE.upd Sub.rfl (SubE.upd Sub.rfl (SubE.upd Sub.rfl (SubE.upd Sub.rfl (SubE.upd Sub.rfl (SubE.upd Sub.rfl (SubE.upd Sub.rfl (SubE.upd Sub.rfl (SubE.upd Sub.rfl (SubE.upd Sub.rfl (SubE.upd Sub.rfl (SubE.upd Sub.rfl SubE.any)))))))))))))))))) (LSub.cons (by first | exact Sel.take (Sel.none _) | exact Sel.skip (Sel.take (Sel.none _)) | exact Sel.skip (Sel.skip (Sel.take (Sel.none _))) | exact Sel.skip (Sel.skip (Sel.skip (Sel.take (Sel.none _)))) | exact Sel.skip (Sel.skip (Sel.skip (Sel.skip (Sel.take (Sel.none _)))))) (SPs.rfl) (LSub.cons (by first | exact Sel.take (Sel.none _) | exact Sel.skip (Sel.take (Sel.none _)) | exact Sel.skip (Sel.skip (Sel.take (Sel.none _))) | exact Sel.skip (Sel.skip (Sel.skip (Sel.take (Sel.none _)))) | exact Sel.skip (Sel.skip (Sel.skip (Sel.skip (Sel.take (Sel.none _)))))) (SPs.rfl) (LSub.nil)))
            · try simp only [decide_eq_true_eq, decide_eq_false_iff_not, Bool.and_eq_true, Bool.or_eq_true, Bool.and_eq_false_iff, Bool.or_eq_false_iff, Bool.not_eq_true', Bool.not_eq_false', Int.not_lt, Int.not_le, Bool.not_true, Bool.not_false] at h78
              have hyes : okS rules facts s i k m := hv.yes H hs1 hs3 ⟨⟨⟨by have := h78.1.1.1; omega, h78.1.1.2⟩, h78.1.2⟩, h78.2⟩
              refine J_skip ?_
              refine J_region ?_
              have hKl : K.length ≤ 3000 := by have := hK.len; simp only [pos3] at this; omega
              refine JL_step rfl rfl rfl (step_move Sub.rfl) ?_
              refine JL_stepX rfl rfl rfl (step_literal_own (ys := []) Tryz.underlying24 el3 trivial rfl (by decide)) fun v80 => ?_
              refine JL_step rfl rfl rfl (step_move Sub.rfl) ?_
              refine JL_stepX rfl rfl rfl (step_append Tryz.underlying24 el3 Sub.rfl Sub.rfl (by first | exact Sel.take (Sel.none _) | exact Sel.skip (Sel.take (Sel.none _)) | exact Sel.skip (Sel.skip (Sel.take (Sel.none _))) | exact Sel.skip (Sel.skip (Sel.skip (Sel.take (Sel.none _)))) | exact Sel.skip (Sel.skip (Sel.skip (Sel.skip (Sel.take (Sel.none _)))))) (by rw [set3_len hs3]; simp; omega) (by rw [set3_len hs3]; simp; omega)) fun v82 => ?_
              refine JL_freeze (t := 82) (Sel.take (Sel.none _)) Frz.own ?_
              refine JL_step rfl rfl rfl (step_literal (ys := [_]) Tryz.underlying33 el24 ⟨rfl, Sub.rfl, trivial⟩ rfl (by decide)) ?_
              refine JL_stepX rfl rfl rfl (step_append Tryz.underlying33 el24 Sub.rfl Sub.rfl (by first | exact Sel.take (Sel.none _) | exact Sel.skip (Sel.take (Sel.none _)) | exact Sel.skip (Sel.skip (Sel.take (Sel.none _))) | exact Sel.skip (Sel.skip (Sel.skip (Sel.take (Sel.none _)))) | exact Sel.skip (Sel.skip (Sel.skip (Sel.skip (Sel.take (Sel.none _)))))) (by simp; omega) (by simp; omega)) fun v84 => ?_
              refine JL_step rfl rfl rfl (step_assign Sub.rfl) ?_
              refine JL_nil ?_
              refine J_region ?_
              refine JL_step rfl rfl rfl (step_move Sub.rfl) ?_
              refine JL_step rfl rfl rfl (step_add Sub.rfl Sub.rfl ?sg1) ?_
              case sg1 => unfold in64; omega
              refine JL_step rfl rfl rfl (step_assign Sub.rfl) ?_
              refine JL_nil ?_
              refine K_againL (σ := Nat × List (List Int) × Value) (s := (m, K, vK)) (m + 1, K ++ [(set3 s i k m)], v84) (by first | omega | (dsimp only; omega) | (simp_all; omega)) ⟨by omega, by omega, hK.add hs1 hs3 hn hik hkm hmn hyes⟩ (SubE.upd Sub.rfl (SubE.upd Sub.rfl (SubE.upd Sub.rfl (SubE.upd Sub.rfl (SubE.upd Sub.rfl (SubE.upd Sub.rfl (SubE.upd Sub.rfl (SubE.upd Sub.rfl (SubE.upd Sub.rfl (SubE.upd Sub.rfl (SubE.upd Sub.rfl (SubE.upd Sub.rfl (SubE.upd Sub.rfl (SubE.upd Sub.rfl (SubE.upd Sub.rfl (SubE.upd Sub.rfl (SubE.upd Sub.rfl (SubE.upd Sub.rfl SubE.any)))))))))))))))))) (LSub.cons (by first | exact Sel.take (Sel.none _) | exact Sel.skip (Sel.take (Sel.none _)) | exact Sel.skip (Sel.skip (Sel.take (Sel.none _))) | exact Sel.skip (Sel.skip (Sel.skip (Sel.take (Sel.none _)))) | exact Sel.skip (Sel.skip (Sel.skip (Sel.skip (Sel.take (Sel.none _)))))) (SPs.rfl) (LSub.cons (by first | exact Sel.take (Sel.none _) | exact Sel.skip (Sel.take (Sel.none _)) | exact Sel.skip (Sel.skip (Sel.take (Sel.none _))) | exact Sel.skip (Sel.skip (Sel.skip (Sel.take (Sel.none _)))) | exact Sel.skip (Sel.skip (Sel.skip (Sel.skip (Sel.take (Sel.none _)))))) (SPs.rfl) (LSub.nil)))
          · try simp only [decide_eq_true_eq, decide_eq_false_iff_not, Bool.and_eq_true, Bool.or_eq_true, Bool.and_eq_false_iff, Bool.or_eq_false_iff, Bool.not_eq_true', Bool.not_eq_false', Int.not_lt, Int.not_le, Bool.not_true, Bool.not_false] at h37
            refine J_exit ?_
            refine J_region ?_
            refine JL_step rfl rfl rfl (step_move Sub.rfl) ?_
            refine JL_step rfl rfl rfl (step_add Sub.rfl Sub.rfl ?sg1) ?_
            case sg1 => unfold in64; omega
            refine JL_step rfl rfl rfl (step_assign Sub.rfl) ?_
            refine JL_nil ?_
            refine K_againL (σ := Nat × List (List Int) × Value) (s := (k, G, vG)) (k + 1, K, vK) (by first | omega | (dsimp only; omega) | (simp_all; omega)) ⟨by omega, by omega, hK.toK hn hik hkn (by omega)⟩ (SubE.upd Sub.rfl (SubE.upd Sub.rfl (SubE.upd Sub.rfl (SubE.upd Sub.rfl (SubE.upd Sub.rfl (SubE.upd Sub.rfl (SubE.upd Sub.rfl (SubE.upd Sub.rfl (SubE.upd Sub.rfl (SubE.upd Sub.rfl (SubE.upd Sub.rfl (SubE.upd Sub.rfl (SubE.upd Sub.rfl (SubE.upd Sub.rfl SubE.any)))))))))))))) (LSub.cons (by first | exact Sel.take (Sel.none _) | exact Sel.skip (Sel.take (Sel.none _)) | exact Sel.skip (Sel.skip (Sel.take (Sel.none _))) | exact Sel.skip (Sel.skip (Sel.skip (Sel.take (Sel.none _)))) | exact Sel.skip (Sel.skip (Sel.skip (Sel.skip (Sel.take (Sel.none _)))))) (SPs.rfl) (LSub.cons (by first | exact Sel.take (Sel.none _) | exact Sel.skip (Sel.take (Sel.none _)) | exact Sel.skip (Sel.skip (Sel.take (Sel.none _))) | exact Sel.skip (Sel.skip (Sel.skip (Sel.take (Sel.none _)))) | exact Sel.skip (Sel.skip (Sel.skip (Sel.skip (Sel.take (Sel.none _)))))) (SPs.rfl) (LSub.nil)))
        · try simp only [decide_eq_true_eq, decide_eq_false_iff_not, Bool.and_eq_true, Bool.or_eq_true, Bool.and_eq_false_iff, Bool.or_eq_false_iff, Bool.not_eq_true', Bool.not_eq_false', Int.not_lt, Int.not_le, Bool.not_true, Bool.not_false] at h31
          refine J_exit ?_
          refine J_region ?_
          refine JL_step rfl rfl rfl (step_move Sub.rfl) ?_
          refine JL_step rfl rfl rfl (step_add Sub.rfl Sub.rfl ?sg1) ?_
          case sg1 => unfold in64; omega
          refine JL_step rfl rfl rfl (step_assign Sub.rfl) ?_
          refine JL_nil ?_
          refine K_againL (σ := Nat × List (List Int) × Value) (s := (i, F, vF)) (i + 1, G, vG) (by first | omega | (dsimp only; omega) | (simp_all; omega)) ⟨by omega, hG.toI hn hin (by omega)⟩ (SubE.upd Sub.rfl (SubE.upd Sub.rfl (SubE.upd Sub.rfl (SubE.upd Sub.rfl (SubE.upd Sub.rfl (SubE.upd Sub.rfl (SubE.upd Sub.rfl (SubE.upd Sub.rfl (SubE.upd Sub.rfl (SubE.upd Sub.rfl SubE.any)))))))))) (LSub.cons (by first | exact Sel.take (Sel.none _) | exact Sel.skip (Sel.take (Sel.none _)) | exact Sel.skip (Sel.skip (Sel.take (Sel.none _))) | exact Sel.skip (Sel.skip (Sel.skip (Sel.take (Sel.none _)))) | exact Sel.skip (Sel.skip (Sel.skip (Sel.skip (Sel.take (Sel.none _)))))) (SPs.rfl) (LSub.cons (by first | exact Sel.take (Sel.none _) | exact Sel.skip (Sel.take (Sel.none _)) | exact Sel.skip (Sel.skip (Sel.take (Sel.none _))) | exact Sel.skip (Sel.skip (Sel.skip (Sel.take (Sel.none _)))) | exact Sel.skip (Sel.skip (Sel.skip (Sel.skip (Sel.take (Sel.none _)))))) (SPs.rfl) (LSub.nil)))
      · try simp only [decide_eq_true_eq, decide_eq_false_iff_not, Bool.and_eq_true, Bool.or_eq_true, Bool.and_eq_false_iff, Bool.or_eq_false_iff, Bool.not_eq_true', Bool.not_eq_false', Int.not_lt, Int.not_le, Bool.not_true, Bool.not_false] at h25
        refine J_exit ?_
        refine J_region ?_
        have hFl : F.length ≤ 3000 := by have := hF.len; simp only [pos3] at this; omega
        refine JL_freeze (t := 9) (Sel.skip (Sel.take (Sel.none _))) Frz.own ?_
        refine JL_step rfl rfl rfl (step_move Sub.rfl) ?_
        refine JL_step rfl rfl rfl (step_move Sub.rfl) ?_
        refine JL_stepX rfl rfl rfl (step_append Tryz.underlying33 el24 Sub.rfl Sub.rfl (by first | exact Sel.take (Sel.none _) | exact Sel.skip (Sel.take (Sel.none _)) | exact Sel.skip (Sel.skip (Sel.take (Sel.none _))) | exact Sel.skip (Sel.skip (Sel.skip (Sel.take (Sel.none _)))) | exact Sel.skip (Sel.skip (Sel.skip (Sel.skip (Sel.take (Sel.none _)))))) (by omega) (by omega)) fun v87 => ?_
        refine JL_step rfl rfl rfl (step_assign Sub.rfl) ?_
        refine JL_nil ?_
        refine J_region ?_
        refine JL_step rfl rfl rfl (step_move Sub.rfl) ?_
        refine JL_step rfl rfl rfl (step_add Sub.rfl Sub.rfl ?sg1) ?_
        case sg1 => unfold in64; omega
        refine JL_step rfl rfl rfl (step_assign Sub.rfl) ?_
        refine JL_nil ?_
        refine K_againL (σ := Nat × List (List Int) × Value) (s := (s, small, vs)) (s + 1, small ++ F, v87) (by first | omega | (dsimp only; omega) | (simp_all; omega)) ⟨by omega, by omega, hv.next H hs1 hs3 hn hF (by omega)⟩ (SubE.upd Sub.rfl (SubE.upd Sub.rfl (SubE.upd Sub.rfl (SubE.upd Sub.rfl (SubE.upd Sub.rfl (SubE.upd Sub.rfl (SubE.upd Sub.rfl SubE.any))))))) (LSub.cons (by first | exact Sel.take (Sel.none _) | exact Sel.skip (Sel.take (Sel.none _)) | exact Sel.skip (Sel.skip (Sel.take (Sel.none _))) | exact Sel.skip (Sel.skip (Sel.skip (Sel.take (Sel.none _)))) | exact Sel.skip (Sel.skip (Sel.skip (Sel.skip (Sel.take (Sel.none _)))))) (SPs.rfl) (LSub.nil))
    · try simp only [decide_eq_true_eq, decide_eq_false_iff_not, Bool.and_eq_true, Bool.or_eq_true, Bool.and_eq_false_iff, Bool.or_eq_false_iff, Bool.not_eq_true', Bool.not_eq_false', Int.not_lt, Int.not_le, Bool.not_true, Bool.not_false] at h20
      have hs4 : s = 4 := by omega
      refine J_exit ?_
      refine J_seq ?_
      refine J_seq ?_
      refine J_region ?_
      refine JL_step rfl rfl rfl (step_move Sub.rfl) ?_
      refine JL_step rfl rfl rfl (step_len_own Tryz.underlying33 Sub.rfl (by first | exact Sel.take (Sel.none _) | exact Sel.skip (Sel.take (Sel.none _)) | exact Sel.skip (Sel.skip (Sel.take (Sel.none _))) | exact Sel.skip (Sel.skip (Sel.skip (Sel.take (Sel.none _)))) | exact Sel.skip (Sel.skip (Sel.skip (Sel.skip (Sel.take (Sel.none _))))))) ?_
      refine JL_step rfl rfl rfl (step_gtr Sub.rfl Sub.rfl) ?_
      refine JL_nil ?_
      refine J_cond Sub.rfl (fun h90 => ?_) (fun h90 => ?_)
      · try simp only [decide_eq_true_eq, decide_eq_false_iff_not, Bool.and_eq_true, Bool.or_eq_true, Bool.and_eq_false_iff, Bool.or_eq_false_iff, Bool.not_eq_true', Bool.not_eq_false', Int.not_lt, Int.not_le, Bool.not_true, Bool.not_false] at h90
        exfalso; have := (hv.perm H (by omega)).length_eq; have := vio_len H; omega
      · try simp only [decide_eq_true_eq, decide_eq_false_iff_not, Bool.and_eq_true, Bool.or_eq_true, Bool.and_eq_false_iff, Bool.or_eq_false_iff, Bool.not_eq_true', Bool.not_eq_false', Int.not_lt, Int.not_le, Bool.not_true, Bool.not_false] at h90
        refine J_skip ?_
        refine J_seq ?_
        refine J_region ?_
        refine JL_freeze (t := 6) (Sel.take (Sel.none _)) Frz.own ?_
        refine JL_step rfl rfl rfl (step_move Sub.rfl) ?_
        refine JL_step rfl rfl rfl (step_call0 (Sorted__spec small (by have := (hv.perm H (by omega)).length_eq; have := vio_len H; omega) (fun x hx => Nat.le_trans (hv.le3 H x hx) (by decide))) ⟨Sub.rfl, trivial⟩ Tryz.call31) ?_
        refine JL_step rfl rfl rfl (step_assign Sub.rfl) ?_
        refine JL_step rfl rfl rfl (step_assign Sub.rfl) ?_
        refine JL_nil ?_
        refine J_ret ?_
        refine K_ret2' (rv := .tmp 4) (rv' := .tmp 5) rfl () (Sel.all _) (.tmp Sub.rfl) (.tmp Sub.rfl) (Frz.sub ?_) (Frz.sub ?_) Sub.rfl
        · rw [hv.done H (by omega)]; exact Sub.rfl
        · exact Sub.rfl
end Lg

namespace Lg
open Go Go.Proofs


theorem dInv2_next {rules : List GRule} {facts : List GFact} {gs gs2 gs3 : List Bool} {q i : Nat} {c2 c3 : Bool} (h : dInv2 rules facts gs q c2 gs2) (hq : q < rules.length) (h4 : dInv4 facts (nth rules q) c2 gs2 i c3 gs3) (h0 : (nth rules q).Kind ≠ 3 → i = 0) (hi : ¬ (i < facts.length ∧ (nth rules q).Kind = 3)) : dInv2 rules facts gs (q + 1) c3 gs3 := by
  by_cases hk : (nth rules q).Kind = 3
  · exact dInv2_rule h hq hk h4 (fun q => hi ⟨q, hk⟩)
  · have := h0 hk
    subst this
    have e := h4.2.2
    have e : (c3, gs3) = (c2, gs2) := e
    obtain ⟨rfl, rfl⟩ := Prod.mk.inj e
    exact dInv2_skip h hq hk
def fndB (facts : List GFact) (d : GRule) (gs : List Bool) (v : GValue) (m : Nat) : Bool := (List.range m).any fun j : Nat => offB facts d gs v (j : Int)
theorem fndB_succ (facts : List GFact) (d : GRule) (gs : List Bool) (v : GValue) (m : Nat) : fndB facts d gs v (m + 1) = (fndB facts d gs v m || (!nth gs m && decide ((nth facts m).Table = d.Other) && testV v 1 (colM (nth facts m) d.OtherCol) 0)) := by
  simp only [fndB, List.range_succ, List.any_append, List.any_cons, List.any_nil, Bool.or_false, offB, Int.toNat_natCast]
  congr 2
  exact Bool.and_comm _ _
theorem fndB_all (facts : List GFact) (d : GRule) (gs : List Bool) (v : GValue) : fndB facts d gs v facts.length = (iota facts.length).any (offB facts d gs v) := by
  simp only [fndB, iota, List.any_map]; rfl
def danT (gs : List Bool) (k : Nat) : List Int := (iota k).filter fun i => nth gs i.toNat
theorem danT_succ (gs : List Bool) (k : Nat) : danT gs (k + 1) = danT gs k ++ (if nth gs k = true then [(k : Int)] else []) := by
  simp only [danT, iota_succ, List.filter_append, List.filter_cons, List.filter_nil, Int.toNat_natCast]
theorem danT_len (gs : List Bool) (k : Nat) : (danT gs k).length ≤ k := by
  refine Nat.le_trans (List.length_filter_le _ _) ?_
  rw [iota_len]; exact Nat.le_refl _
theorem danT_all (rules : List GRule) (facts : List GFact) : danT (goneM rules facts) facts.length = danM rules facts := by
  simp only [danT, danM, delL]
  congr 1
  funext i
  simp

theorem DanglingR_spec (rules : List GRule) (facts : List GFact) (hrl : rules.length ≤ 1000000) (hfl : facts.length ≤ 1000000) : Fun1 Tryz.prog 23 [tSl rRule rules, tSl rFact facts] (tSl rInt (danM rules facts)) := by
  refine Spec.enter Tryz.func23 rfl rfl fun h0 w0 fr0 => ?_
  refine J_seq ?_
  refine J_region ?_
  refine JL_step rfl rfl rfl (step_assign Sub.rfl) ?_
  refine JL_nil ?_
  refine J_seq ?_
  refine J_region ?_
  refine JL_step rfl rfl rfl (step_move Sub.rfl) ?_
  refine JL_step rfl rfl rfl (step_len_sl Tryz.underlying23 Sub.rfl) ?_
  refine JL_stepX rfl rfl rfl (step_make Tryz.underlying47 el4 Sub.rfl Sub.rfl rfl (by omega) (by omega)) fun v17 => ?_
  refine JL_step rfl rfl rfl (step_assign Sub.rfl) ?_
  refine JL_nil ?_
  refine J_seq ?_
  refine J_seq ?_
  refine J_region ?_
  refine JL_step rfl rfl rfl (step_assign Sub.rfl) ?_
  refine JL_nil ?_
  refine J_block ?_
  refine J_loopL (σ := Bool × List Bool × Nat) (fun ⟨c, gs, k⟩ => dInv0 rules facts c gs k) (fun ⟨c, gs, k⟩ => upd (upd (upd (upd (upd env0 0 (tSl rRule rules)) 1 (tSl rFact facts)) 4 (tV (.slice none 0 0))) 5 (rV.ty v17)) 6 (tV (.bool c))) (fun ⟨c, gs, k⟩ => [own 4 rBool v17 gs]) (fun ⟨c, gs, k⟩ => 2 * cntF gs + (if c = true then 1 else 0)) (true, List.replicate facts.length false, facts.length + 1) (dInv0_start rules facts) (SubE.upd Sub.rfl (SubE.upd Sub.rfl (SubE.upd Sub.rfl (SubE.upd Sub.rfl (SubE.upd Sub.rfl SubE.any))))) (LSub.rfl) ?_
  rintro ⟨c, gs, k⟩ hv
  try dsimp only at hv
  refine J_seq ?_
  refine J_seq ?_
  refine J_region ?_
  refine JL_step rfl rfl rfl (step_move Sub.rfl) ?_
  refine JL_nil ?_
  refine J_cond Sub.rfl (fun h18 => ?_) (fun h18 => ?_)
  · try simp only [decide_eq_true_eq, decide_eq_false_iff_not, Bool.and_eq_true, Bool.or_eq_true, Bool.and_eq_false_iff, Bool.or_eq_false_iff, Bool.not_eq_true', Bool.not_eq_false', Int.not_lt, Int.not_le, Bool.not_true, Bool.not_false] at h18
    refine J_skip ?_
    refine J_block ?_
    refine J_seq ?_
    refine J_region ?_
    refine JL_step rfl rfl rfl (step_assign Sub.rfl) ?_
    refine JL_nil ?_
    refine J_seq ?_
    refine J_region ?_
    refine JL_step rfl rfl rfl (step_assign Sub.rfl) ?_
    refine JL_nil ?_
    refine J_block ?_
    refine J_loopL (σ := Nat × Bool × List Bool) (fun ⟨q, c2, gs2⟩ => dInv2 rules facts gs q c2 gs2) (fun ⟨q, c2, gs2⟩ => upd (upd (upd (upd (upd (upd (upd env0 0 (tSl rRule rules)) 1 (tSl rFact facts)) 4 (tV (.slice none 0 0))) 5 (rV.ty v17)) 6 (tV (.bool c2))) 7 (tV (.int .i64 q))) 18 (tV (.bool c))) (fun ⟨q, c2, gs2⟩ => [own 4 rBool v17 gs2]) (fun ⟨q, c2, gs2⟩ => rules.length - q) (0, false, gs) (dInv2_start hv.1) (SubE.upd Sub.rfl (SubE.upd Sub.rfl (SubE.upd Sub.rfl (SubE.upd Sub.rfl (SubE.upd Sub.rfl (SubE.upd Sub.rfl (SubE.upd Sub.rfl SubE.any))))))) (LSub.rfl) ?_
    rintro ⟨q, c2, gs2⟩ hi2
    try dsimp only at hi2
    refine J_seq ?_
    refine J_seq ?_
    refine J_region ?_
    refine JL_step rfl rfl rfl (step_move Sub.rfl) ?_
    refine JL_step rfl rfl rfl (step_move Sub.rfl) ?_
    refine JL_step rfl rfl rfl (step_len_sl Tryz.underlying22 Sub.rfl) ?_
    refine JL_step rfl rfl rfl (step_lss Sub.rfl Sub.rfl) ?_
    refine JL_nil ?_
    refine J_cond Sub.rfl (fun h22 => ?_) (fun h22 => ?_)
    · try simp only [decide_eq_true_eq, decide_eq_false_iff_not, Bool.and_eq_true, Bool.or_eq_true, Bool.and_eq_false_iff, Bool.or_eq_false_iff, Bool.not_eq_true', Bool.not_eq_false', Int.not_lt, Int.not_le, Bool.not_true, Bool.not_false] at h22
      have hq : q < rules.length := by omega
      refine J_skip ?_
      refine J_seq ?_
      refine J_block ?_
      refine J_seq ?_
      refine J_region ?_
      refine JL_step rfl rfl rfl (step_move Sub.rfl) ?_
      refine JL_step rfl rfl rfl (step_move Sub.rfl) ?_
      refine JL_step rfl rfl rfl (step_indexAddr_sl  Tryz.underlying22 ty32 Sub.rfl Sub.rfl rfl (gb ?sg1)) ?_
      case sg1 => first | assumption | omega
      refine JL_step rfl rfl rfl (step_load_ptr ty32 Sub.rfl) ?_
      refine JL_stepX rfl rfl rfl (step_alloc (fun w => Tryz.zeroValue32 w) zr32) fun v8 => ?_
      refine JL_stepU rfl rfl (step_store_box ty32 Sub.rfl Sub.rfl (by first | exact Sel.take (Sel.none _) | exact Sel.skip (Sel.take (Sel.none _)) | exact Sel.skip (Sel.skip (Sel.take (Sel.none _))) | exact Sel.skip (Sel.skip (Sel.skip (Sel.take (Sel.none _)))) | exact Sel.skip (Sel.skip (Sel.skip (Sel.skip (Sel.take (Sel.none _))))))) fun _ => ?_
      refine JL_freeze (t := 8) (Sel.take (Sel.none _)) Frz.box ?_
      refine JL_nil ?_
      refine J_seq ?_
      refine J_region ?_
      refine JL_step rfl rfl rfl (step_assign Sub.rfl) ?_
      refine JL_nil ?_
      refine J_block ?_
      refine J_loopL (σ := Nat × Bool × List Bool) (fun ⟨i, c3, gs3⟩ => dInv4 facts (nth rules q) c2 gs2 i c3 gs3 ∧ ((nth rules q).Kind ≠ 3 → i = 0)) (fun ⟨i, c3, gs3⟩ => upd (upd (upd (upd (upd (upd (upd (upd (upd (upd (upd (upd (upd (upd env0 0 (tSl rRule rules)) 1 (tSl rFact facts)) 4 (tV (.slice none 0 0))) 5 (rV.ty v17)) 6 (tV (.bool c3))) 7 (tV (.int .i64 q))) 8 (tPtr rRule (nth rules q))) 9 (tV (.int .i64 i))) 18 (tV (.bool c))) 19 (tV (.int .i64 q))) 20 (tSl rRule rules)) 25 (tSl rRule rules)) 26 (tV (.int .i64 q))) 28 (rRule.ty (nth rules q))) (fun ⟨i, c3, gs3⟩ => [own 4 rBool v17 gs3]) (fun ⟨i, c3, gs3⟩ => facts.length - i) (0, c2, gs2) ⟨dInv4_start hi2.2.1, fun _ => rfl⟩ (SubE.upd Sub.rfl (SubE.upd Sub.rfl (SubE.upd Sub.rfl (SubE.upd Sub.rfl (SubE.upd Sub.rfl (SubE.upd Sub.rfl (SubE.upd Sub.rfl (SubE.upd Sub.rfl (SubE.upd Sub.rfl (SubE.upd Sub.rfl (SubE.upd Sub.rfl (SubE.upd Sub.rfl (SubE.upd Sub.rfl (SubE.upd Sub.rfl SubE.any)))))))))))))) (LSub.rfl) ?_
      rintro ⟨i, c3, gs3⟩ hi
      try dsimp only at hi
      refine J_seq ?_
      refine J_seq ?_
      refine J_region ?_
      refine JL_step rfl rfl rfl (step_move Sub.rfl) ?_
      refine JL_step rfl rfl rfl (step_move Sub.rfl) ?_
      refine JL_step rfl rfl rfl (step_len_sl Tryz.underlying23 Sub.rfl) ?_
      refine JL_step rfl rfl rfl (step_lss Sub.rfl Sub.rfl) ?_
      refine JL_step rfl rfl rfl (step_move Sub.rfl) ?_
      refine JL_stepG rfl rfl rfl (Gd.plain Sub.rfl) rfl rfl (fun hw => step_fieldAddr so32 Sub.rfl rfl) ?_
      refine JL_stepG rfl rfl rfl (Gd.plain Sub.rfl) rfl rfl (fun hw => step_load_ptr ty3 (Sub.w hw)) ?_
      refine JL_stepG rfl rfl rfl (Gd.plain Sub.rfl) rfl rfl (fun hw => step_eql (Sub.w hw) Sub.rfl) ?_
      refine JL_step rfl rfl rfl (step_pick_and Sub.rfl Sub.rfl) ?_
      refine JL_nil ?_
      refine J_cond Sub.rfl (fun h37 => ?_) (fun h37 => ?_)
      · try simp only [decide_eq_true_eq, decide_eq_false_iff_not, Bool.and_eq_true, Bool.or_eq_true, Bool.and_eq_false_iff, Bool.or_eq_false_iff, Bool.not_eq_true', Bool.not_eq_false', Int.not_lt, Int.not_le, Bool.not_true, Bool.not_false] at h37
        have hlt : i < facts.length := by have h37 : (i : Int) < facts.length ∧ (nth rules q).Kind = 3 := h37; omega
        have hK : (nth rules q).Kind = 3 := h37.2
        have hgl := hi.1.2.1
        refine J_skip ?_
        refine J_seq ?_
        refine J_block ?_
        refine J_seq ?_
        refine J_draw [⟨0, [1], true⟩, ⟨1, [9], true⟩, ⟨2, [40, 41], true⟩, ⟨3, [42], true⟩, ⟨4, [8], true⟩, ⟨5, [44], true⟩, ⟨6, [43, 45], true⟩, ⟨7, [], false⟩, ⟨8, [10, 46], false⟩] rfl (by kernel_rfl) ?_
        refine JM_step rfl rfl rfl rfl (fun _ => step_move Sub.rfl) ?_
        refine JM_step rfl rfl rfl rfl (fun _ => step_move Sub.rfl) ?_
        refine JM_step rfl rfl rfl rfl (fun _ => step_indexAddr_sl  Tryz.underlying23 ty54 Sub.rfl Sub.rfl rfl (gb ?sg1)) ?_
        case sg1 => first | assumption | omega
        refine JM_step rfl rfl rfl rfl (fun _ => step_load_ptr ty54 Sub.rfl) ?_
        refine JM_step rfl rfl rfl rfl (fun _ => step_fieldAddr so32 Sub.rfl rfl) ?_
        refine JM_step rfl rfl rfl rfl (fun _ => step_load_ptr ty3 Sub.rfl) ?_
        refine JM_step rfl rfl rfl rfl (fun _ => step_call0 (valueR_spec _ _) ⟨Sub.rfl, Sub.rfl, trivial⟩ Tryz.call49) ?_
        refine JM_stepX rfl rfl rfl rfl (step_alloc (fun w => Tryz.zeroValue60 w) zr60) fun v10 => ?_
        refine JM_stepU rfl rfl rfl (step_store_box ty60 Sub.rfl Sub.rfl (by first | exact Sel.take (Sel.none _) | exact Sel.skip (Sel.take (Sel.none _)) | exact Sel.skip (Sel.skip (Sel.take (Sel.none _))) | exact Sel.skip (Sel.skip (Sel.skip (Sel.take (Sel.none _)))) | exact Sel.skip (Sel.skip (Sel.skip (Sel.skip (Sel.take (Sel.none _))))))) fun _ => ?_
        refine JM_nil ?_
        refine J_seq ?_
        refine J_seq ?_
        refine K_freeze (t := 10) (Sel.take (Sel.none _)) Frz.box ?_
        refine J_drawN [⟨0, [5], true⟩, ⟨1, [9], true⟩, ⟨2, [47, 48], true⟩, ⟨3, [49], true⟩, ⟨4, [50], true⟩, ⟨5, [1, 51], true⟩, ⟨6, [9, 51], true⟩, ⟨7, [51, 52, 53], true⟩, ⟨8, [51, 54], true⟩, ⟨9, [51, 55], true⟩, ⟨10, [8, 51], true⟩, ⟨11, [51, 57], true⟩, ⟨12, [51, 56, 58], true⟩, ⟨13, [51, 59], true⟩, ⟨14, [60], true⟩, ⟨15, [10, 61], true⟩, ⟨16, [61, 62], true⟩, ⟨17, [61, 63], true⟩, ⟨18, [61, 64], true⟩] rfl (by kernel_rfl) rfl ?_
        refine JN_step rfl rfl rfl rfl (step_move Sub.rfl) ?_
        refine JN_step rfl rfl rfl rfl (step_move Sub.rfl) ?_
        refine JN_step rfl rfl rfl rfl (step_indexAddr_own  Tryz.underlying47 ty4 Sub.rfl (by first | exact Sel.take (Sel.none _) | exact Sel.skip (Sel.take (Sel.none _)) | exact Sel.skip (Sel.skip (Sel.take (Sel.none _))) | exact Sel.skip (Sel.skip (Sel.skip (Sel.take (Sel.none _)))) | exact Sel.skip (Sel.skip (Sel.skip (Sel.skip (Sel.take (Sel.none _)))))) Sub.rfl rfl ?sg1) ?_
        case sg1 => first | assumption | omega
        refine JN_step rfl rfl rfl rfl (step_load_own ty4 Sub.rfl (by first | exact Sel.take (Sel.none _) | exact Sel.skip (Sel.take (Sel.none _)) | exact Sel.skip (Sel.skip (Sel.take (Sel.none _))) | exact Sel.skip (Sel.skip (Sel.skip (Sel.take (Sel.none _)))) | exact Sel.skip (Sel.skip (Sel.skip (Sel.skip (Sel.take (Sel.none _)))))) (gb ?sg1)) ?_
        case sg1 => first | assumption | omega
        refine JN_step rfl rfl rfl rfl (step_move Sub.rfl) ?_
        refine JN_stepG rfl rfl rfl rfl (Gd.plain Sub.rfl) rfl rfl (fun hw => step_move Sub.rfl) ?_
        refine JN_stepG rfl rfl rfl rfl (Gd.plain Sub.rfl) rfl rfl (fun hw => step_move Sub.rfl) ?_
        refine JN_stepG rfl rfl rfl rfl (Gd.plain Sub.rfl) rfl rfl (fun hw => step_indexAddr_sl  Tryz.underlying23 ty54 (Sub.w hw) (Sub.w hw) rfl (gb ?sg1)) ?_
        case sg1 => have hwq := hw; (try simp only [beqB_t, beqB_f, decide_eq_true_eq, decide_eq_false_iff_not, Bool.and_eq_true, Bool.or_eq_true, Bool.and_eq_false_iff, Bool.or_eq_false_iff, Bool.not_eq_true', Bool.not_eq_false', Int.not_lt, Int.not_le, Bool.not_true, Bool.not_false] at hwq); first | assumption | omega
        refine JN_stepG rfl rfl rfl rfl (Gd.plain Sub.rfl) rfl rfl (fun hw => step_fieldAddr so54 (Sub.w hw) rfl) ?_
        refine JN_stepG rfl rfl rfl rfl (Gd.plain Sub.rfl) rfl rfl (fun hw => step_load_ptr ty3 (Sub.w hw)) ?_
        refine JN_stepG rfl rfl rfl rfl (Gd.plain Sub.rfl) rfl rfl (fun hw => step_fieldAddr so32 Sub.rfl rfl) ?_
        refine JN_stepG rfl rfl rfl rfl (Gd.plain Sub.rfl) rfl rfl (fun hw => step_load_ptr ty3 (Sub.w hw)) ?_
        refine JN_stepG rfl rfl rfl rfl (Gd.plain Sub.rfl) rfl rfl (fun hw => step_neq (Sub.w hw) (Sub.w hw)) ?_
        refine JN_step rfl rfl rfl rfl (step_pick_or Sub.rfl Sub.rfl) ?_
        refine JN_step rfl rfl rfl rfl (step_move Sub.rfl) ?_
        refine JN_stepG rfl rfl rfl rfl (Gd.plain Sub.rfl) rfl rfl (fun hw => step_fieldAddr so60 Sub.rfl rfl) ?_
        refine JN_stepG rfl rfl rfl rfl (Gd.plain Sub.rfl) rfl rfl (fun hw => step_load_ptr ty3 (Sub.w hw)) ?_
        refine JN_stepG rfl rfl rfl rfl (Gd.plain Sub.rfl) rfl rfl (fun hw => step_eql (Sub.w hw) Sub.rfl) ?_
        refine JN_step rfl rfl rfl rfl (step_pick_or Sub.rfl Sub.rfl) ?_
        refine JN_nil ?_
        refine J_cond Sub.rfl (fun h65 => ?_) (fun h65 => ?_)
        · try simp only [decide_eq_true_eq, decide_eq_false_iff_not, Bool.and_eq_true, Bool.or_eq_true, Bool.and_eq_false_iff, Bool.or_eq_false_iff, Bool.not_eq_true', Bool.not_eq_false', Int.not_lt, Int.not_le, Bool.not_true, Bool.not_false] at h65
          refine J_exit ?_
          refine J_region ?_
          refine JL_step rfl rfl rfl (step_move Sub.rfl) ?_
          refine JL_step rfl rfl rfl (step_add Sub.rfl Sub.rfl ?sg1) ?_
          case sg1 => unfold in64; omega
          refine JL_step rfl rfl rfl (step_assign Sub.rfl) ?_
          refine JL_nil ?_
          have hsk : dSkip facts (nth rules q) gs3 i = true := by simp only [dSkip, Bool.or_eq_true, Bool.not_eq_true', decide_eq_true_eq, decide_eq_false_iff_not]; exact h65.imp_left Or.symm
          refine K_againL (σ := Nat × Bool × List Bool) (s := (i, c3, gs3)) (i + 1, c3, gs3) (by first | omega | (dsimp only; omega) | (simp_all; omega)) ⟨dInv4_step hi.1 hlt (dStep_skip hsk), fun q => absurd hK q⟩ (SubE.upd Sub.rfl (SubE.upd Sub.rfl (SubE.upd Sub.rfl (SubE.upd Sub.rfl (SubE.upd Sub.rfl (SubE.upd Sub.rfl (SubE.upd Sub.rfl (SubE.upd Sub.rfl (SubE.upd Sub.rfl (SubE.upd Sub.rfl (SubE.upd Sub.rfl (SubE.upd Sub.rfl (SubE.upd Sub.rfl (SubE.upd Sub.rfl SubE.any)))))))))))))) (LSub.rfl)
        · try simp only [decide_eq_true_eq, decide_eq_false_iff_not, Bool.and_eq_true, Bool.or_eq_true, Bool.and_eq_false_iff, Bool.or_eq_false_iff, Bool.not_eq_true', Bool.not_eq_false', Int.not_lt, Int.not_le, Bool.not_true, Bool.not_false] at h65
          refine J_skip ?_
          refine J_seq ?_
          refine J_region ?_
          refine JL_step rfl rfl rfl (step_assign Sub.rfl) ?_
          refine JL_nil ?_
          refine J_seq ?_
          refine J_seq ?_
          refine J_region ?_
          refine JL_step rfl rfl rfl (step_assign Sub.rfl) ?_
          refine JL_nil ?_
          refine J_block ?_
          refine J_loopL (σ := Nat × Bool) (fun ⟨m, fd⟩ => m ≤ facts.length ∧ fd = fndB facts (nth rules q) gs3 (colM (nth facts i) (nth rules q).Col) m) (fun ⟨m, fd⟩ => upd (upd (upd (upd (upd (upd (upd (upd (upd (upd (upd (upd (upd (upd (upd (upd (upd (upd (upd (upd (upd (upd (upd (upd (upd env0 0 (tSl rRule rules)) 1 (tSl rFact facts)) 4 (tV (.slice none 0 0))) 5 (rV.ty v17)) 6 (tV (.bool c3))) 7 (tV (.int .i64 q))) 8 (tPtr rRule (nth rules q))) 9 (tV (.int .i64 i))) 10 (tPtr rValue (colM (nth facts i) (nth rules q).Col))) 11 (tV (.bool fd))) 12 (tV (.int .i64 m))) 18 (tV (.bool c))) 19 (tV (.int .i64 q))) 20 (tSl rRule rules)) 25 (tSl rRule rules)) 26 (tV (.int .i64 q))) 28 (rRule.ty (nth rules q))) 29 (tV (.int .i64 i))) 30 (tSl rFact facts)) 40 (tSl rFact facts)) 41 (tV (.int .i64 i))) 43 (rFact.ty (nth facts i))) 46 (rValue.ty (colM (nth facts i) (nth rules q).Col))) 47 (rV.ty v17)) 48 (tV (.int .i64 i))) (fun ⟨m, fd⟩ => [own 4 rBool v17 gs3]) (fun ⟨m, fd⟩ => facts.length - m) (0, false) ⟨by omega, rfl⟩ (SubE.upd Sub.rfl (SubE.upd Sub.rfl (SubE.upd Sub.rfl (SubE.upd Sub.rfl (SubE.upd Sub.rfl (SubE.upd Sub.rfl (SubE.upd Sub.rfl (SubE.upd Sub.rfl (SubE.upd Sub.rfl (SubE.upd Sub.rfl (SubE.upd Sub.rfl (SubE.upd Sub.rfl (SubE.upd Sub.rfl (SubE.upd Sub.rfl (SubE.upd Sub.rfl (SubE.upd Sub.rfl (SubE.upd Sub.rfl (SubE.upd Sub.rfl (SubE.upd Sub.rfl (SubE.upd Sub.rfl (SubE.upd Sub.rfl (SubE.upd Sub.rfl (SubE.upd Sub.rfl (SubE.upd Sub.rfl (SubE.upd Sub.rfl SubE.any))))))))))))))))))))))))) (LSub.rfl) ?_
          rintro ⟨m, fd⟩ ⟨hm, hfd⟩
          refine J_seq ?_
          refine J_seq ?_
          refine J_region ?_
          refine JL_step rfl rfl rfl (step_move Sub.rfl) ?_
          refine JL_step rfl rfl rfl (step_move Sub.rfl) ?_
          refine JL_step rfl rfl rfl (step_len_sl Tryz.underlying23 Sub.rfl) ?_
          refine JL_step rfl rfl rfl (step_lss Sub.rfl Sub.rfl) ?_
          refine JL_nil ?_
          refine J_cond Sub.rfl (fun h69 => ?_) (fun h69 => ?_)
          · try simp only [decide_eq_true_eq, decide_eq_false_iff_not, Bool.and_eq_true, Bool.or_eq_true, Bool.and_eq_false_iff, Bool.or_eq_false_iff, Bool.not_eq_true', Bool.not_eq_false', Int.not_lt, Int.not_le, Bool.not_true, Bool.not_false] at h69
            have hlm : m < facts.length := by omega
            refine J_skip ?_
            refine J_seq ?_
            refine J_block ?_
            refine J_drawN [⟨0, [11], true⟩, ⟨1, [72], true⟩, ⟨2, [5, 73], true⟩, ⟨3, [12, 73], true⟩, ⟨4, [73, 74, 75], true⟩, ⟨5, [73, 76], true⟩, ⟨6, [73, 77], true⟩, ⟨7, [73, 78], true⟩, ⟨8, [1, 79], true⟩, ⟨9, [12, 79], true⟩, ⟨10, [79, 80, 81], true⟩, ⟨11, [79, 82], true⟩, ⟨12, [79, 83], true⟩, ⟨13, [8, 79], true⟩, ⟨14, [79, 85], true⟩, ⟨15, [79, 84, 86], true⟩, ⟨16, [73, 79, 87], true⟩, ⟨17, [73, 88], true⟩, ⟨18, [10, 89], true⟩, ⟨19, [1, 89], true⟩, ⟨20, [12, 89], true⟩, ⟨21, [89, 91, 92], true⟩, ⟨22, [89, 93], true⟩, ⟨23, [8, 89], true⟩, ⟨24, [89, 95], true⟩, ⟨25, [89, 94, 96], true⟩, ⟨26, [89, 90, 97], true⟩, ⟨27, [73, 89, 98], true⟩, ⟨28, [73, 99], true⟩, ⟨29, [100], true⟩] rfl (by kernel_rfl) rfl ?_
            refine JN_step rfl rfl rfl rfl (step_move Sub.rfl) ?_
            refine JN_step rfl rfl rfl rfl (step_move Sub.rfl) ?_
            refine JN_stepG rfl rfl rfl rfl (Gd.plain Sub.rfl) rfl rfl (fun hw => step_move Sub.rfl) ?_
            refine JN_stepG rfl rfl rfl rfl (Gd.plain Sub.rfl) rfl rfl (fun hw => step_move Sub.rfl) ?_
            refine JN_stepG rfl rfl rfl rfl (Gd.plain Sub.rfl) rfl rfl (fun hw => step_indexAddr_own  Tryz.underlying47 ty4 (Sub.w hw) (by first | exact Sel.take (Sel.none _) | exact Sel.skip (Sel.take (Sel.none _)) | exact Sel.skip (Sel.skip (Sel.take (Sel.none _))) | exact Sel.skip (Sel.skip (Sel.skip (Sel.take (Sel.none _)))) | exact Sel.skip (Sel.skip (Sel.skip (Sel.skip (Sel.take (Sel.none _)))))) (Sub.w hw) rfl ?sg1) ?_
            case sg1 => have hwq := hw; (try simp only [beqB_t, beqB_f, decide_eq_true_eq, decide_eq_false_iff_not, Bool.and_eq_true, Bool.or_eq_true, Bool.and_eq_false_iff, Bool.or_eq_false_iff, Bool.not_eq_true', Bool.not_eq_false', Int.not_lt, Int.not_le, Bool.not_true, Bool.not_false] at hwq); first | assumption | omega
            refine JN_stepG rfl rfl rfl rfl (Gd.plain Sub.rfl) rfl rfl (fun hw => step_load_own ty4 (Sub.w hw) (by first | exact Sel.take (Sel.none _) | exact Sel.skip (Sel.take (Sel.none _)) | exact Sel.skip (Sel.skip (Sel.take (Sel.none _))) | exact Sel.skip (Sel.skip (Sel.skip (Sel.take (Sel.none _)))) | exact Sel.skip (Sel.skip (Sel.skip (Sel.skip (Sel.take (Sel.none _)))))) (gb ?sg1)) ?_
            case sg1 => have hwq := hw; (try simp only [beqB_t, beqB_f, decide_eq_true_eq, decide_eq_false_iff_not, Bool.and_eq_true, Bool.or_eq_true, Bool.and_eq_false_iff, Bool.or_eq_false_iff, Bool.not_eq_true', Bool.not_eq_false', Int.not_lt, Int.not_le, Bool.not_true, Bool.not_false] at hwq); first | assumption | omega
            refine JN_stepG rfl rfl rfl rfl (Gd.plain Sub.rfl) rfl rfl (fun hw => step_not (Sub.w hw)) ?_
            refine JN_stepG rfl rfl rfl rfl (Gd.plain Sub.rfl) rfl rfl (fun hw => step_move (Sub.w hw)) ?_
            refine JN_stepG rfl rfl rfl rfl (Gd.nest Sub.rfl) rfl rfl (fun hw => step_move Sub.rfl) ?_
            refine JN_stepG rfl rfl rfl rfl (Gd.nest Sub.rfl) rfl rfl (fun hw => step_move Sub.rfl) ?_
            refine JN_stepG rfl rfl rfl rfl (Gd.nest Sub.rfl) rfl rfl (fun hw => step_indexAddr_sl  Tryz.underlying23 ty54 (Sub.w hw) (Sub.w hw) rfl (gb ?sg1)) ?_
            case sg1 => have hwq := hw; (try simp only [beqB_t, beqB_f, decide_eq_true_eq, decide_eq_false_iff_not, Bool.and_eq_true, Bool.or_eq_true, Bool.and_eq_false_iff, Bool.or_eq_false_iff, Bool.not_eq_true', Bool.not_eq_false', Int.not_lt, Int.not_le, Bool.not_true, Bool.not_false] at hwq); first | assumption | omega
            refine JN_stepG rfl rfl rfl rfl (Gd.nest Sub.rfl) rfl rfl (fun hw => step_fieldAddr so54 (Sub.w hw) rfl) ?_
            refine JN_stepG rfl rfl rfl rfl (Gd.nest Sub.rfl) rfl rfl (fun hw => step_load_ptr ty3 (Sub.w hw)) ?_
            refine JN_stepG rfl rfl rfl rfl (Gd.nest Sub.rfl) rfl rfl (fun hw => step_fieldAddr so32 Sub.rfl rfl) ?_
            refine JN_stepG rfl rfl rfl rfl (Gd.nest Sub.rfl) rfl rfl (fun hw => step_load_ptr ty3 (Sub.w hw)) ?_
            refine JN_stepG rfl rfl rfl rfl (Gd.nest Sub.rfl) rfl rfl (fun hw => step_eql (Sub.w hw) (Sub.w hw)) ?_
            refine JN_stepG rfl rfl rfl rfl (Gd.plain Sub.rfl) rfl rfl (fun hw => step_pick_and (Sub.w hw) (Sub.ww hw)) ?_
            refine JN_stepG rfl rfl rfl rfl (Gd.plain Sub.rfl) rfl rfl (fun hw => step_move (Sub.w hw)) ?_
            refine JN_stepG rfl rfl rfl rfl (Gd.nest Sub.rfl) rfl rfl (fun hw => step_load_ptr ty60 Sub.rfl) ?_
            refine JN_stepG rfl rfl rfl rfl (Gd.nest Sub.rfl) rfl rfl (fun hw => step_move Sub.rfl) ?_
            refine JN_stepG rfl rfl rfl rfl (Gd.nest Sub.rfl) rfl rfl (fun hw => step_move Sub.rfl) ?_
            refine JN_stepG rfl rfl rfl rfl (Gd.nest Sub.rfl) rfl rfl (fun hw => step_indexAddr_sl  Tryz.underlying23 ty54 (Sub.w hw) (Sub.w hw) rfl (gb ?sg1)) ?_
            case sg1 => have hwq := hw; (try simp only [beqB_t, beqB_f, decide_eq_true_eq, decide_eq_false_iff_not, Bool.and_eq_true, Bool.or_eq_true, Bool.and_eq_false_iff, Bool.or_eq_false_iff, Bool.not_eq_true', Bool.not_eq_false', Int.not_lt, Int.not_le, Bool.not_true, Bool.not_false] at hwq); first | assumption | omega
            refine JN_stepG rfl rfl rfl rfl (Gd.nest Sub.rfl) rfl rfl (fun hw => step_load_ptr ty54 (Sub.w hw)) ?_
            refine JN_stepG rfl rfl rfl rfl (Gd.nest Sub.rfl) rfl rfl (fun hw => step_fieldAddr so32 Sub.rfl rfl) ?_
            refine JN_stepG rfl rfl rfl rfl (Gd.nest Sub.rfl) rfl rfl (fun hw => step_load_ptr ty3 (Sub.w hw)) ?_
            refine JN_stepG rfl rfl rfl rfl (Gd.nest Sub.rfl) rfl rfl (fun hw => step_call0 (valueR_spec _ _) ⟨(Sub.w hw), (Sub.w hw), trivial⟩ Tryz.call49) ?_
            refine JN_stepG rfl rfl rfl rfl (Gd.nest Sub.rfl) rfl rfl (fun hw => step_call0 (TestR_spec _ _ _ _) ⟨(Sub.w hw), Sub.rfl, (Sub.w hw), Sub.rfl, trivial⟩ Tryz.call50) ?_
            refine JN_stepG rfl rfl rfl rfl (Gd.plain Sub.rfl) rfl rfl (fun hw => step_pick_and (Sub.w hw) (Sub.ww hw)) ?_
            refine JN_step rfl rfl rfl rfl (step_pick_or Sub.rfl Sub.rfl) ?_
            refine JN_step rfl rfl rfl rfl (step_assign Sub.rfl) ?_
            refine JN_nil ?_
            refine J_region ?_
            refine JL_step rfl rfl rfl (step_move Sub.rfl) ?_
            refine JL_step rfl rfl rfl (step_add Sub.rfl Sub.rfl ?sg1) ?_
            case sg1 => unfold in64; omega
            refine JL_step rfl rfl rfl (step_assign Sub.rfl) ?_
            refine JL_nil ?_
            refine K_againL (σ := Nat × Bool) (s := (m, fd)) (m + 1, fndB facts (nth rules q) gs3 (colM (nth facts i) (nth rules q).Col) (m + 1)) (by first | omega | (dsimp only; omega) | (simp_all; omega)) ⟨by omega, rfl⟩ (SubE.upd Sub.rfl (SubE.upd Sub.rfl (SubE.upd Sub.rfl (SubE.upd Sub.rfl (SubE.upd Sub.rfl (SubE.upd Sub.rfl (SubE.upd Sub.rfl (SubE.upd Sub.rfl (SubE.upd Sub.rfl (SubE.upd Sub.rfl (SubE.upd Sub.rfl (SubE.upd Sub.rfl (SubE.upd Sub.rfl (SubE.upd Sub.rfl (SubE.upd Sub.rfl (SubE.upd (Sub.bool (by rw [fndB_succ, hfd])) (SubE.upd Sub.rfl (SubE.upd Sub.rfl (SubE.upd Sub.rfl (SubE.upd Sub.rfl (SubE.upd Sub.rfl (SubE.upd Sub.rfl (SubE.upd Sub.rfl (SubE.upd Sub.rfl (SubE.upd Sub.rfl SubE.any))))))))))))))))))))))))) (LSub.rfl)
          · try simp only [decide_eq_true_eq, decide_eq_false_iff_not, Bool.and_eq_true, Bool.or_eq_true, Bool.and_eq_false_iff, Bool.or_eq_false_iff, Bool.not_eq_true', Bool.not_eq_false', Int.not_lt, Int.not_le, Bool.not_true, Bool.not_false] at h69
            refine J_exit ?_
            refine J_seq ?_
            refine J_region ?_
            have hm2 : fd = fndB facts (nth rules q) gs3 (colM (nth facts i) (nth rules q).Col) facts.length := by rw [hfd]; congr 1; omega
            refine JL_step rfl rfl rfl (step_move Sub.rfl) ?_
            refine JL_step rfl rfl rfl (step_not Sub.rfl) ?_
            refine JL_nil ?_
            refine J_cond Sub.rfl (fun h102 => ?_) (fun h102 => ?_)
            · try simp only [decide_eq_true_eq, decide_eq_false_iff_not, Bool.and_eq_true, Bool.or_eq_true, Bool.and_eq_false_iff, Bool.or_eq_false_iff, Bool.not_eq_true', Bool.not_eq_false', Int.not_lt, Int.not_le, Bool.not_true, Bool.not_false] at h102
              refine J_seq ?_
              refine J_region ?_
              refine JL_step rfl rfl rfl (step_move Sub.rfl) ?_
              refine JL_step rfl rfl rfl (step_move Sub.rfl) ?_
              refine JL_step rfl rfl rfl (step_indexAddr_own  Tryz.underlying47 ty4 Sub.rfl (by first | exact Sel.take (Sel.none _) | exact Sel.skip (Sel.take (Sel.none _)) | exact Sel.skip (Sel.skip (Sel.take (Sel.none _))) | exact Sel.skip (Sel.skip (Sel.skip (Sel.take (Sel.none _)))) | exact Sel.skip (Sel.skip (Sel.skip (Sel.skip (Sel.take (Sel.none _)))))) Sub.rfl rfl ?sg1) ?_
              case sg1 => first | assumption | omega
              refine JL_stepU rfl rfl (step_store_own ty4 Sub.rfl Sub.rfl (by first | exact Sel.take (Sel.none _) | exact Sel.skip (Sel.take (Sel.none _)) | exact Sel.skip (Sel.skip (Sel.take (Sel.none _))) | exact Sel.skip (Sel.skip (Sel.skip (Sel.take (Sel.none _)))) | exact Sel.skip (Sel.skip (Sel.skip (Sel.skip (Sel.take (Sel.none _)))))) ?sg1) fun _ => ?_
              case sg1 => first | assumption | omega
              refine JL_nil ?_
              refine J_region ?_
              refine JL_step rfl rfl rfl (step_assign Sub.rfl) ?_
              refine JL_nil ?_
              refine J_region ?_
              refine JL_step rfl rfl rfl (step_move Sub.rfl) ?_
              refine JL_step rfl rfl rfl (step_add Sub.rfl Sub.rfl ?sg1) ?_
              case sg1 => unfold in64; omega
              refine JL_step rfl rfl rfl (step_assign Sub.rfl) ?_
              refine JL_nil ?_
              have hsk : dSkip facts (nth rules q) gs3 i = false := by simp only [dSkip]; simp_all
              have hany : (iota facts.length).any (offB facts (nth rules q) gs3 (colM (nth facts i) (nth rules q).Col)) = false := by rw [← fndB_all, ← hm2]; exact h102
              refine K_againL (σ := Nat × Bool × List Bool) (s := (i, c3, gs3)) (i + 1, true, gs3.set i true) (by first | omega | (dsimp only; omega) | (simp_all; omega)) ⟨dInv4_step hi.1 hlt (dStep_put hsk hany), fun q => absurd hK q⟩ (SubE.upd Sub.rfl (SubE.upd Sub.rfl (SubE.upd Sub.rfl (SubE.upd Sub.rfl (SubE.upd Sub.rfl (SubE.upd Sub.rfl (SubE.upd Sub.rfl (SubE.upd Sub.rfl (SubE.upd Sub.rfl (SubE.upd Sub.rfl (SubE.upd Sub.rfl (SubE.upd Sub.rfl (SubE.upd Sub.rfl (SubE.upd Sub.rfl SubE.any)))))))))))))) (LSub.rfl)
            · try simp only [decide_eq_true_eq, decide_eq_false_iff_not, Bool.and_eq_true, Bool.or_eq_true, Bool.and_eq_false_iff, Bool.or_eq_false_iff, Bool.not_eq_true', Bool.not_eq_false', Int.not_lt, Int.not_le, Bool.not_true, Bool.not_false] at h102
              refine J_skip ?_
              refine J_region ?_
              refine JL_step rfl rfl rfl (step_move Sub.rfl) ?_
              refine JL_step rfl rfl rfl (step_add Sub.rfl Sub.rfl ?sg1) ?_
              case sg1 => unfold in64; omega
              refine JL_step rfl rfl rfl (step_assign Sub.rfl) ?_
              refine JL_nil ?_
              have hsk : dSkip facts (nth rules q) gs3 i = false := by simp only [dSkip]; simp_all
              have hany : (iota facts.length).any (offB facts (nth rules q) gs3 (colM (nth facts i) (nth rules q).Col)) = true := by rw [← fndB_all, ← hm2]; exact h102
              refine K_againL (σ := Nat × Bool × List Bool) (s := (i, c3, gs3)) (i + 1, c3, gs3) (by first | omega | (dsimp only; omega) | (simp_all; omega)) ⟨dInv4_step hi.1 hlt (dStep_stay hsk hany), fun q => absurd hK q⟩ (SubE.upd Sub.rfl (SubE.upd Sub.rfl (SubE.upd Sub.rfl (SubE.upd Sub.rfl (SubE.upd Sub.rfl (SubE.upd Sub.rfl (SubE.upd Sub.rfl (SubE.upd Sub.rfl (SubE.upd Sub.rfl (SubE.upd Sub.rfl (SubE.upd Sub.rfl (SubE.upd Sub.rfl (SubE.upd Sub.rfl (SubE.upd Sub.rfl SubE.any)))))))))))))) (LSub.rfl)
      · try simp only [decide_eq_true_eq, decide_eq_false_iff_not, Bool.and_eq_true, Bool.or_eq_true, Bool.and_eq_false_iff, Bool.or_eq_false_iff, Bool.not_eq_true', Bool.not_eq_false', Int.not_lt, Int.not_le, Bool.not_true, Bool.not_false] at h37
        have hno : ¬ (i < facts.length ∧ (nth rules q).Kind = 3) := by have h37 : (facts.length : Int) ≤ i ∨ ¬ (nth rules q).Kind = 3 := h37; omega
        refine J_exit ?_
        refine J_region ?_
        refine JL_step rfl rfl rfl (step_move Sub.rfl) ?_
        refine JL_step rfl rfl rfl (step_add Sub.rfl Sub.rfl ?sg1) ?_
        case sg1 => unfold in64; omega
        refine JL_step rfl rfl rfl (step_assign Sub.rfl) ?_
        refine JL_nil ?_
        refine K_againL (σ := Nat × Bool × List Bool) (s := (q, c2, gs2)) (q + 1, c3, gs3) (by first | omega | (dsimp only; omega) | (simp_all; omega)) (dInv2_next hi2 hq hi.1 hi.2 hno) (SubE.upd Sub.rfl (SubE.upd Sub.rfl (SubE.upd Sub.rfl (SubE.upd Sub.rfl (SubE.upd Sub.rfl (SubE.upd Sub.rfl (SubE.upd Sub.rfl SubE.any))))))) (LSub.rfl)
    · try simp only [decide_eq_true_eq, decide_eq_false_iff_not, Bool.and_eq_true, Bool.or_eq_true, Bool.and_eq_false_iff, Bool.or_eq_false_iff, Bool.not_eq_true', Bool.not_eq_false', Int.not_lt, Int.not_le, Bool.not_true, Bool.not_false] at h22
      refine J_exit ?_
      have hend := dInv0_again (h18 ▸ hv) (dInv2_end hi2 (by omega))
      refine K_againL (σ := Bool × List Bool × Nat) (s := (c, gs, k)) (c2, gs2, k - 1) (by have := hend.2; rw [h18]; simp only [if_true]; exact this) hend.1 (SubE.upd Sub.rfl (SubE.upd Sub.rfl (SubE.upd Sub.rfl (SubE.upd Sub.rfl (SubE.upd Sub.rfl SubE.any))))) (LSub.rfl)
  · try simp only [decide_eq_true_eq, decide_eq_false_iff_not, Bool.and_eq_true, Bool.or_eq_true, Bool.and_eq_false_iff, Bool.or_eq_false_iff, Bool.not_eq_true', Bool.not_eq_false', Int.not_lt, Int.not_le, Bool.not_true, Bool.not_false] at h18
    refine J_exit ?_
    refine J_seq ?_
    refine J_region ?_
    have hg : gs = goneM rules facts := hv.2.2 (by simpa using h18)
    have hgl : gs.length = facts.length := hv.1
    refine JL_step rfl rfl rfl (step_assign Sub.rfl) ?_
    refine JL_nil ?_
    refine J_seq ?_
    refine J_seq ?_
    refine J_region ?_
    refine JL_step rfl rfl rfl (step_assign Sub.rfl) ?_
    refine JL_nil ?_
    refine J_block ?_
    refine J_loopL (σ := Nat × Value) (fun ⟨j, v⟩ => j ≤ facts.length) (fun ⟨j, v⟩ => upd (upd (upd (upd env0 4 (tV (.slice none 0 0))) 5 (rV.ty v17)) 13 (rV.ty v)) 14 (tV (.int .i64 j))) (fun ⟨j, v⟩ => [own 4 rBool v17 gs, own 3 rInt v (danT gs j)]) (fun ⟨j, v⟩ => facts.length - j) (0, .slice none 0 0) (by simp) (SubE.upd Sub.rfl (SubE.upd (Sub.rV rfl) (SubE.upd Sub.rfl (SubE.upd Sub.rfl SubE.any)))) (LSub.cons (by first | exact Sel.take (Sel.none _) | exact Sel.skip (Sel.take (Sel.none _)) | exact Sel.skip (Sel.skip (Sel.take (Sel.none _))) | exact Sel.skip (Sel.skip (Sel.skip (Sel.take (Sel.none _)))) | exact Sel.skip (Sel.skip (Sel.skip (Sel.skip (Sel.take (Sel.none _)))))) (SPs.rfl) (LSub.nilown)) ?_
    rintro ⟨j, v⟩ hj
    try dsimp only at hj
    have hdl := danT_len gs j
    refine J_seq ?_
    refine J_seq ?_
    refine J_region ?_
    refine JL_step rfl rfl rfl (step_move Sub.rfl) ?_
    refine JL_step rfl rfl rfl (step_move Sub.rfl) ?_
    refine JL_step rfl rfl rfl (step_len_own Tryz.underlying47 Sub.rfl (by first | exact Sel.take (Sel.none _) | exact Sel.skip (Sel.take (Sel.none _)) | exact Sel.skip (Sel.skip (Sel.take (Sel.none _))) | exact Sel.skip (Sel.skip (Sel.skip (Sel.take (Sel.none _)))) | exact Sel.skip (Sel.skip (Sel.skip (Sel.skip (Sel.take (Sel.none _))))))) ?_
    refine JL_step rfl rfl rfl (step_lss Sub.rfl Sub.rfl) ?_
    refine JL_nil ?_
    refine J_cond Sub.rfl (fun h109 => ?_) (fun h109 => ?_)
    · try simp only [decide_eq_true_eq, decide_eq_false_iff_not, Bool.and_eq_true, Bool.or_eq_true, Bool.and_eq_false_iff, Bool.or_eq_false_iff, Bool.not_eq_true', Bool.not_eq_false', Int.not_lt, Int.not_le, Bool.not_true, Bool.not_false] at h109
      have hlk : j < gs.length := by omega
      refine J_skip ?_
      refine J_seq ?_
      refine J_block ?_
      refine J_seq ?_
      refine J_region ?_
      refine JL_step rfl rfl rfl (step_move Sub.rfl) ?_
      refine JL_step rfl rfl rfl (step_move Sub.rfl) ?_
      refine JL_step rfl rfl rfl (step_indexAddr_own  Tryz.underlying47 ty4 Sub.rfl (by first | exact Sel.take (Sel.none _) | exact Sel.skip (Sel.take (Sel.none _)) | exact Sel.skip (Sel.skip (Sel.take (Sel.none _))) | exact Sel.skip (Sel.skip (Sel.skip (Sel.take (Sel.none _)))) | exact Sel.skip (Sel.skip (Sel.skip (Sel.skip (Sel.take (Sel.none _)))))) Sub.rfl rfl ?sg1) ?_
      case sg1 => first | assumption | omega
      refine JL_step rfl rfl rfl (step_load_own ty4 Sub.rfl (by first | exact Sel.take (Sel.none _) | exact Sel.skip (Sel.take (Sel.none _)) | exact Sel.skip (Sel.skip (Sel.take (Sel.none _))) | exact Sel.skip (Sel.skip (Sel.skip (Sel.take (Sel.none _)))) | exact Sel.skip (Sel.skip (Sel.skip (Sel.skip (Sel.take (Sel.none _)))))) (gb ?sg1)) ?_
      case sg1 => first | assumption | omega
      refine JL_nil ?_
      refine J_cond Sub.rfl (fun h115 => ?_) (fun h115 => ?_)
      · try simp only [decide_eq_true_eq, decide_eq_false_iff_not, Bool.and_eq_true, Bool.or_eq_true, Bool.and_eq_false_iff, Bool.or_eq_false_iff, Bool.not_eq_true', Bool.not_eq_false', Int.not_lt, Int.not_le, Bool.not_true, Bool.not_false] at h115
        refine J_region ?_
        refine JL_step rfl rfl rfl (step_move Sub.rfl) ?_
        refine JL_step rfl rfl rfl (step_move Sub.rfl) ?_
        refine JL_step rfl rfl rfl (step_literal (ys := [_]) Tryz.underlying24 el3 ⟨rfl, Sub.rfl, trivial⟩ rfl (by decide)) ?_
        refine JL_stepX rfl rfl rfl (step_append Tryz.underlying24 el3 Sub.rfl Sub.rfl (by first | exact Sel.take (Sel.none _) | exact Sel.skip (Sel.take (Sel.none _)) | exact Sel.skip (Sel.skip (Sel.take (Sel.none _))) | exact Sel.skip (Sel.skip (Sel.skip (Sel.take (Sel.none _)))) | exact Sel.skip (Sel.skip (Sel.skip (Sel.skip (Sel.take (Sel.none _)))))) (by simp; omega) (by simp; omega)) fun v119 => ?_
        refine JL_step rfl rfl rfl (step_assign Sub.rfl) ?_
        refine JL_nil ?_
        refine J_region ?_
        refine JL_step rfl rfl rfl (step_move Sub.rfl) ?_
        refine JL_step rfl rfl rfl (step_add Sub.rfl Sub.rfl ?sg1) ?_
        case sg1 => unfold in64; omega
        refine JL_step rfl rfl rfl (step_assign Sub.rfl) ?_
        refine JL_nil ?_
        refine K_againL (σ := Nat × Value) (s := (j, v)) (j + 1, v119) (by first | omega | (dsimp only; omega) | (simp_all; omega)) (by omega) (SubE.upd Sub.rfl (SubE.upd Sub.rfl (SubE.upd Sub.rfl (SubE.upd Sub.rfl SubE.any)))) (LSub.cons (by first | exact Sel.take (Sel.none _) | exact Sel.skip (Sel.take (Sel.none _)) | exact Sel.skip (Sel.skip (Sel.take (Sel.none _))) | exact Sel.skip (Sel.skip (Sel.skip (Sel.take (Sel.none _)))) | exact Sel.skip (Sel.skip (Sel.skip (Sel.skip (Sel.take (Sel.none _)))))) (SPs.rfl) (LSub.cons (by first | exact Sel.take (Sel.none _) | exact Sel.skip (Sel.take (Sel.none _)) | exact Sel.skip (Sel.skip (Sel.take (Sel.none _))) | exact Sel.skip (Sel.skip (Sel.skip (Sel.take (Sel.none _)))) | exact Sel.skip (Sel.skip (Sel.skip (Sel.skip (Sel.take (Sel.none _)))))) (own_eq (by rw [danT_succ, if_pos h115])) (LSub.nil)))
      · try simp only [decide_eq_true_eq, decide_eq_false_iff_not, Bool.and_eq_true, Bool.or_eq_true, Bool.and_eq_false_iff, Bool.or_eq_false_iff, Bool.not_eq_true', Bool.not_eq_false', Int.not_lt, Int.not_le, Bool.not_true, Bool.not_false] at h115
        refine J_skip ?_
        refine J_region ?_
        refine JL_step rfl rfl rfl (step_move Sub.rfl) ?_
        refine JL_step rfl rfl rfl (step_add Sub.rfl Sub.rfl ?sg1) ?_
        case sg1 => unfold in64; omega
        refine JL_step rfl rfl rfl (step_assign Sub.rfl) ?_
        refine JL_nil ?_
        refine K_againL (σ := Nat × Value) (s := (j, v)) (j + 1, v) (by first | omega | (dsimp only; omega) | (simp_all; omega)) (by omega) (SubE.upd Sub.rfl (SubE.upd Sub.rfl (SubE.upd Sub.rfl (SubE.upd Sub.rfl SubE.any)))) (LSub.cons (by first | exact Sel.take (Sel.none _) | exact Sel.skip (Sel.take (Sel.none _)) | exact Sel.skip (Sel.skip (Sel.take (Sel.none _))) | exact Sel.skip (Sel.skip (Sel.skip (Sel.take (Sel.none _)))) | exact Sel.skip (Sel.skip (Sel.skip (Sel.skip (Sel.take (Sel.none _)))))) (SPs.rfl) (LSub.cons (by first | exact Sel.take (Sel.none _) | exact Sel.skip (Sel.take (Sel.none _)) | exact Sel.skip (Sel.skip (Sel.take (Sel.none _))) | exact Sel.skip (Sel.skip (Sel.skip (Sel.take (Sel.none _)))) | exact Sel.skip (Sel.skip (Sel.skip (Sel.skip (Sel.take (Sel.none _)))))) (own_eq (by rw [danT_succ, if_neg (by rw [h115]; decide)]; simp)) (LSub.nil)))
    · try simp only [decide_eq_true_eq, decide_eq_false_iff_not, Bool.and_eq_true, Bool.or_eq_true, Bool.and_eq_false_iff, Bool.or_eq_false_iff, Bool.not_eq_true', Bool.not_eq_false', Int.not_lt, Int.not_le, Bool.not_true, Bool.not_false] at h109
      refine J_exit ?_
      refine J_seq ?_
      refine J_region ?_
      refine JL_freeze (t := 13) (Sel.skip (Sel.take (Sel.none _))) (Frz.own' (ys := danM rules facts) (by subst hg; rw [show j = facts.length by omega, danT_all])) ?_
      refine JL_step rfl rfl rfl (step_move Sub.rfl) ?_
      refine JL_step rfl rfl rfl (step_assign Sub.rfl) ?_
      refine JL_nil ?_
      refine J_ret ?_
      refine K_ret1' (rv := .tmp 4) rfl () (Sel.all _) (.tmp Sub.rfl) (Frz.sub Sub.rfl)
end Lg

/- The beginning of one's own slice, looked at. -/
namespace Lg
open Go
def preV : Value → Nat → Value
  | .slice ao _ cap, n => .slice ao n cap
  | v, _ => v
section
variable {C : Cx} {E : Env} {L : List SP} {d : Option Nat} {ty : Nat} {pos : String} {af : Array Edge} {g : Option (Nat × Bool)}
theorem step_slice_pre {α : Type} {T e n : Nat} {R : Rp α} {x y : Operand} {v : Value} {xs : List α} {S : List SP} {k : IntKind} {i : Int} (hu : C.P.underlying T = some (.slice e)) (hR : TyOf C.P e R)
    (hx : Sub (opTy E x) (rV.ty v)) (hy : Sub (opTy E y) (tV (.int k i))) (hi : i = n) (sel : Sel L [own e R v xs] S) (hn : n ≤ xs.length) :
    Step1 C ⟨d, .slice T x none (some y) none, ty, pos, af, g⟩ E L (rV.ty (preV v n)) :=
  Step.of_run (by intro c h; cases h) fun a w h m l sp st fr => by
    have hv : a.eval x = v := (fr.get hx).1
    have h2 : a.eval y = .int k i := fr.get hy
    subst hi
    have st0 := st
    obtain ⟨m1, m2, d12, rfl, ho, s2⟩ := sel.one.1 st
    rcases ho with ⟨rfl, rfl, rfl⟩ | ⟨b, cap, cur, rfl, rfl, hl, hm, hs, r⟩
    · have hn0 : n = 0 := by simpa using hn
      subst hn0
      refine ⟨(), .slice none 0 0, w, h, _, ?_, HL.refl, sp, st0, ⟨rfl, rfl⟩⟩
      simp [execOp, Instr.sliceAt, run_underlying hu, hv, h2, Instr.slice, Instr.sliceBounds, Instr.sliceBound, asIntOf, hR.size]
    · have hnc : (n : Int) ≤ cap := by omega
      refine ⟨(), .slice (some ⟨b, 0, none⟩) n cap, w, h, _, ?_, HL.refl, sp, st0, ⟨rfl, rfl⟩⟩
      simp [execOp, Instr.sliceAt, run_underlying hu, hv, h2, Instr.slice, Instr.sliceBounds, Instr.sliceBound, asIntOf, hR.size, show n ≤ cap by omega]
      intro _; rw [addr_add]
end
theorem Frz.pre {α : Type} {e n : Nat} {R : Rp α} {v : Value} {xs : List α} {S : List SP} (hn : n ≤ xs.length) : Frz (Lg.own e R v xs :: S) (rV.ty (preV v n)) (tSl R (xs.take n)) := fun h m u d ⟨m1, m2, d12, em, ho, _⟩ hv => by
  subst em; have hv := hv.1; subst hv
  rcases ho with ⟨rfl, rfl, rfl⟩ | ⟨g, cap, cur, rfl, rfl, hl, _, hs, r⟩
  · have hn0 : n = 0 := by simpa using hn
    subst hn0
    exact ⟨none, 0, rfl, fun h => absurd rfl h⟩
  · have hd := PH.disj_join'.1 d
    have r' := relAll_take n r
    rw [List.take_take, Nat.min_eq_left (Nat.mul_le_mul_right _ hn)] at r'
    have := tSl_of_relAll (h := h.join ((PH.one g (.cells cur e (0, 0))).join m2)) (off := 0) (cap := cap) (c := cur) (e := e) (fz := (0, 0)) (b := g) (PH.le_join_right d _ _ (PH.le_join_left _ _ _ _ (PH.one_same _ _))) (relAll_mono (PH.le_join_left _ _) r') (fun j v hv => by
      rw [List.getElem?_take] at hv
      split at hv
      · simpa using hv
      · cases hv)
    rwa [List.length_take, Nat.min_eq_left hn] at this
end Lg

namespace Lg
open Go Go.Proofs


abbrev sglT (dan : List Int) : List (List Int) := dan.map fun d => [d]
abbrev freeT (dan : List Int) (vio : List (List Int)) : List (List Int) := vio.filter fun x => !hasB (sglT dan) x
theorem sgl_has {dan x : List Int} : hasB (sglT dan) x = false ↔ ∀ d ∈ dan, d ∉ x := by
  rw [hasB_f]
  constructor
  · intro h d hd hx; exact h [d] (List.mem_map_of_mem hd) (by simpa using hx)
  · intro h y hy hz
    obtain ⟨d, hd, rfl⟩ := List.mem_map.1 hy
    exact h d hd (hz d (by simp))
theorem danM_nodup (rules : List GRule) (facts : List GFact) : (danM rules facts).Nodup := by
  refine List.Pairwise.filter _ ?_
  exact (iota_srt facts.length).imp fun h e => by omega
theorem sgl_sub {t : List Int} {d : Int} (h : t.Sublist [d]) (hne : t ≠ []) : t = [d] := by
  have := h.length_le
  have h2 := List.length_pos_iff.2 hne
  exact h.eq_of_length (by simp at this ⊢; omega)
theorem conR_perm {rules : List GRule} {facts : List GFact} (H : VHyp rules facts) : (sglT (danM rules facts) ++ freeT (danM rules facts) (vioM rules facts)).Perm (minM (edgM rules facts)) := by
  refine (List.perm_ext_iff_of_nodup ?_ (minM_nodup _)).2 fun x => ?_
  · refine List.nodup_append.2 ⟨?_, List.Pairwise.filter _ (minM_nodup _), fun x hx y hy e => ?_⟩
    · rw [List.nodup_iff_pairwise_ne, List.pairwise_map]
      exact (danM_nodup rules facts).imp fun h e => h (by simpa using e)
    · subst e
      obtain ⟨d, hd, rfl⟩ := List.mem_map.1 hx
      have := (List.mem_filter.1 hy).2
      rw [Bool.not_eq_true', sgl_has] at this
      exact this d hd (by simp)
  · rw [minM_iff (edgM_in H), List.mem_append]
    show _ ↔ x ∈ sglT _ ++ vioM rules facts ∧ Least (sglT _ ++ vioM rules facts) x
    rw [List.mem_append]
    constructor
    · rintro (hx | hx)
      · refine ⟨.inl hx, fun t ht hne hnx _ => ?_⟩
        obtain ⟨d, hd, rfl⟩ := List.mem_map.1 hx
        exact hnx (sgl_sub ht hne)
      · obtain ⟨h1, h2⟩ := List.mem_filter.1 hx
        rw [Bool.not_eq_true', sgl_has] at h2
        refine ⟨.inr h1, fun t ht hne hnx hm => ?_⟩
        rcases List.mem_append.1 hm with hm | hm
        · obtain ⟨d, hd, rfl⟩ := List.mem_map.1 hm
          exact h2 d hd (ht.subset (by simp))
        · exact ((minM_iff (okt_all H)).1 h1).2 t ht hne hnx (vio_w H hm).1
    · rintro ⟨hx | hx, hl⟩
      · exact .inl hx
      · by_cases hs : ∃ d ∈ danM rules facts, d ∈ x
        · obtain ⟨d, hd, hdx⟩ := hs
          have hm : [d] ∈ sglT (danM rules facts) := List.mem_map_of_mem hd
          by_cases e : [d] = x
          · exact .inl (e ▸ hm)
          · exact absurd (List.mem_append_left _ hm) (hl [d] (List.singleton_sublist.2 hdx) (by simp) e)
        · refine .inr (List.mem_filter.2 ⟨hx, ?_⟩)
          rw [Bool.not_eq_true', sgl_has]
          exact fun d hd hdx => hs ⟨d, hd, hdx⟩
theorem conR_eq {rules : List GRule} {facts : List GFact} (H : VHyp rules facts) : sortL (sglT (danM rules facts) ++ freeT (danM rules facts) (vioM rules facts)) = minM (edgM rules facts) := by
  refine sortedL_unique ((sortL_perm _).trans (conR_perm H)) (sortL_sorted _) ?_
  unfold minM
  exact sortL_sorted _
theorem free_succ {dan : List Int} {vio : List (List Int)} {q : Nat} (h : q < vio.length) : freeT dan (vio.take (q + 1)) = freeT dan (vio.take q) ++ (if hasB (sglT dan) (nth vio q) = true then [] else [nth vio q]) := by
  rw [takeB h, freeT, List.filter_append]
  rw [List.filter_cons]
  cases hh : hasB (sglT dan) (nth vio q) <;> rfl
theorem free_len (dan : List Int) (vio : List (List Int)) (q : Nat) : (freeT dan (vio.take q)).length ≤ vio.length := by
  refine Nat.le_trans (List.length_filter_le _ _) ?_
  rw [List.length_take]; omega

theorem ConflictsR_spec (rules : List GRule) (facts : List GFact) (H : VHyp rules facts) (hn : facts.length ≤ 12) (hr : ∀ r ∈ rules, (r.Fixed.length ≤ 1000000 ∧ r.Cols.length ≤ 1000000) ∧ r.Tests.length ≤ 900000) : Fun1 Tryz.prog 18 [tSl rRule rules, tSl rFact facts] (tTup [rGraph.ty (confG rules facts), tV (.int .i64 (confE facts))]) := by
  refine Spec.enter Tryz.func18 rfl rfl fun h0 w0 fr0 => ?_
  have hrl := H.rl
  have hdl := danM_len rules facts
  have hvl := vio_len H
  have hvl3 := vio_len3 H
  refine J_seq ?_
  refine J_region ?_
  refine JL_stepX rfl rfl rfl (step_alloc (fun w => Tryz.zeroValue38 w) zr38) fun v4 => ?_
  refine JL_step rfl rfl rfl (step_assign Sub.rfl) ?_
  refine JL_nil ?_
  refine J_seq ?_
  refine J_seq ?_
  refine J_region ?_
  refine JL_step rfl rfl rfl (step_move Sub.rfl) ?_
  refine JL_step rfl rfl rfl (step_len_sl Tryz.underlying23 Sub.rfl) ?_
  refine JL_step rfl rfl rfl (step_gtr Sub.rfl Sub.rfl) ?_
  refine JL_nil ?_
  refine J_cond Sub.rfl (fun h16 => ?_) (fun h16 => ?_)
  · try simp only [decide_eq_true_eq, decide_eq_false_iff_not, Bool.and_eq_true, Bool.or_eq_true, Bool.and_eq_false_iff, Bool.or_eq_false_iff, Bool.not_eq_true', Bool.not_eq_false', Int.not_lt, Int.not_le, Bool.not_true, Bool.not_false] at h16
    exfalso; omega
  · try simp only [decide_eq_true_eq, decide_eq_false_iff_not, Bool.and_eq_true, Bool.or_eq_true, Bool.and_eq_false_iff, Bool.or_eq_false_iff, Bool.not_eq_true', Bool.not_eq_false', Int.not_lt, Int.not_le, Bool.not_true, Bool.not_false] at h16
    refine J_skip ?_
    refine J_seq ?_
    refine J_region ?_
    refine JL_step rfl rfl rfl (step_move Sub.rfl) ?_
    refine JL_step rfl rfl rfl (step_len_sl Tryz.underlying23 Sub.rfl) ?_
    refine JL_step rfl rfl rfl (step_build (x := (⟨facts.length, .slice none 0 0, []⟩ : GGraphW)) (zs := [[Value.int .i64 0], [Value.slice none 0 0], [Value.slice none 0 0]]) so38W (fun w => Tryz.zeroValue38 w) ⟨Sub.rfl, trivial⟩ ⟨⟨Sub.rfl, rfl⟩, fun _ => ⟨rfl, rfl⟩, fun _ => ⟨_, rfl, none, 0, rfl, fun q => absurd rfl q⟩, trivial⟩) ?_
    refine JL_stepX rfl rfl rfl (step_alloc (fun w => Tryz.zeroValue38 w) zr38W) fun v6 => ?_
    refine JL_stepU rfl rfl (step_store_box ty38W Sub.rfl Sub.rfl (by first | exact Sel.take (Sel.none _) | exact Sel.skip (Sel.take (Sel.none _)) | exact Sel.skip (Sel.skip (Sel.take (Sel.none _))) | exact Sel.skip (Sel.skip (Sel.skip (Sel.take (Sel.none _)))) | exact Sel.skip (Sel.skip (Sel.skip (Sel.skip (Sel.take (Sel.none _))))))) fun _ => ?_
    refine JL_nil ?_
    refine K_lsub (LSub.nilown (e := 3) (R := rInt)) ?_
    refine J_seq ?_
    refine J_seq ?_
    refine J_region ?_
    refine JL_step rfl rfl rfl (step_assign Sub.rfl) ?_
    refine JL_nil ?_
    refine J_block ?_
    refine J_loopL (σ := Nat × Value) (fun ⟨i, v⟩ => i ≤ facts.length ∧ ∀ f ∈ facts.take i, badC f = false) (fun ⟨i, v⟩ => upd (upd (upd (upd (upd env0 0 (tSl rRule rules)) 1 (tSl rFact facts)) 4 (tAt v4 0)) 6 (tAt v6 0)) 7 (tV (.int .i64 i))) (fun ⟨i, v⟩ => [box v4 38 rGraph zGraph, box v6 38 rGraphW (⟨facts.length, v, []⟩ : GGraphW), own 3 rInt v ((facts.take i).map GFact.Cost)]) (fun ⟨i, v⟩ => facts.length - i) (0, .slice none 0 0) ⟨by simp, by simp⟩ (SubE.upd Sub.rfl (SubE.upd Sub.rfl (SubE.upd Sub.rfl (SubE.upd Sub.rfl (SubE.upd Sub.rfl SubE.any))))) (LSub.cons (by first | exact Sel.take (Sel.none _) | exact Sel.skip (Sel.take (Sel.none _)) | exact Sel.skip (Sel.skip (Sel.take (Sel.none _))) | exact Sel.skip (Sel.skip (Sel.skip (Sel.take (Sel.none _)))) | exact Sel.skip (Sel.skip (Sel.skip (Sel.skip (Sel.take (Sel.none _)))))) (SPs.rfl) (LSub.cons (by first | exact Sel.take (Sel.none _) | exact Sel.skip (Sel.take (Sel.none _)) | exact Sel.skip (Sel.skip (Sel.take (Sel.none _))) | exact Sel.skip (Sel.skip (Sel.skip (Sel.take (Sel.none _)))) | exact Sel.skip (Sel.skip (Sel.skip (Sel.skip (Sel.take (Sel.none _)))))) (SPs.rfl) (LSub.cons (by first | exact Sel.take (Sel.none _) | exact Sel.skip (Sel.take (Sel.none _)) | exact Sel.skip (Sel.skip (Sel.take (Sel.none _))) | exact Sel.skip (Sel.skip (Sel.skip (Sel.take (Sel.none _)))) | exact Sel.skip (Sel.skip (Sel.skip (Sel.skip (Sel.take (Sel.none _)))))) (own_eq (by simp)) (LSub.nil)))) ?_
    rintro ⟨i, v⟩ ⟨hi, hv⟩
    refine J_seq ?_
    refine J_seq ?_
    refine J_region ?_
    refine JL_step rfl rfl rfl (step_move Sub.rfl) ?_
    refine JL_step rfl rfl rfl (step_move Sub.rfl) ?_
    refine JL_step rfl rfl rfl (step_len_sl Tryz.underlying23 Sub.rfl) ?_
    refine JL_step rfl rfl rfl (step_lss Sub.rfl Sub.rfl) ?_
    refine JL_nil ?_
    refine J_cond Sub.rfl (fun h24 => ?_) (fun h24 => ?_)
    · try simp only [decide_eq_true_eq, decide_eq_false_iff_not, Bool.and_eq_true, Bool.or_eq_true, Bool.and_eq_false_iff, Bool.or_eq_false_iff, Bool.not_eq_true', Bool.not_eq_false', Int.not_lt, Int.not_le, Bool.not_true, Bool.not_false] at h24
      have hlt : i < facts.length := by omega
      refine J_skip ?_
      refine J_seq ?_
      refine J_block ?_
      refine J_seq ?_
      refine J_seq ?_
      refine J_region ?_
      refine JL_step rfl rfl rfl (step_move Sub.rfl) ?_
      refine JL_step rfl rfl rfl (step_move Sub.rfl) ?_
      refine JL_step rfl rfl rfl (step_indexAddr_sl  Tryz.underlying23 ty54 Sub.rfl Sub.rfl rfl (gb ?sg1)) ?_
      case sg1 => first | assumption | omega
      refine JL_step rfl rfl rfl (step_fieldAddr so54 Sub.rfl rfl) ?_
      refine JL_step rfl rfl rfl (step_load_ptr ty3 Sub.rfl) ?_
      refine JL_step rfl rfl rfl (step_lss Sub.rfl Sub.rfl) ?_
      refine JL_step rfl rfl rfl (step_move Sub.rfl) ?_
      refine JL_stepG rfl rfl rfl (Gd.plain Sub.rfl) rfl rfl (fun hw => step_move Sub.rfl) ?_
      refine JL_stepG rfl rfl rfl (Gd.plain Sub.rfl) rfl rfl (fun hw => step_move Sub.rfl) ?_
      refine JL_stepG rfl rfl rfl (Gd.plain Sub.rfl) rfl rfl (fun hw => step_indexAddr_sl  Tryz.underlying23 ty54 (Sub.w hw) (Sub.w hw) rfl (gb ?sg1)) ?_
      case sg1 => have hwq := hw; (try simp only [beqB_t, beqB_f, decide_eq_true_eq, decide_eq_false_iff_not, Bool.and_eq_true, Bool.or_eq_true, Bool.and_eq_false_iff, Bool.or_eq_false_iff, Bool.not_eq_true', Bool.not_eq_false', Int.not_lt, Int.not_le, Bool.not_true, Bool.not_false] at hwq); first | assumption | omega
      refine JL_stepG rfl rfl rfl (Gd.plain Sub.rfl) rfl rfl (fun hw => step_fieldAddr so54 (Sub.w hw) rfl) ?_
      refine JL_stepG rfl rfl rfl (Gd.plain Sub.rfl) rfl rfl (fun hw => step_load_ptr ty3 (Sub.w hw)) ?_
      refine JL_stepG rfl rfl rfl (Gd.plain Sub.rfl) rfl rfl (fun hw => step_gtr (Sub.w hw) Sub.rfl) ?_
      refine JL_step rfl rfl rfl (step_pick_or Sub.rfl Sub.rfl) ?_
      refine JL_nil ?_
      refine J_cond Sub.rfl (fun h40 => ?_) (fun h40 => ?_)
      · try simp only [decide_eq_true_eq, decide_eq_false_iff_not, Bool.and_eq_true, Bool.or_eq_true, Bool.and_eq_false_iff, Bool.or_eq_false_iff, Bool.not_eq_true', Bool.not_eq_false', Int.not_lt, Int.not_le, Bool.not_true, Bool.not_false] at h40
        have hb : facts.any badC = true := any_at hlt (by simp only [badC, Bool.or_eq_true, decide_eq_true_eq]; omega)
        refine J_seq ?_
        refine J_region ?_
        refine JL_step rfl rfl rfl (step_build (x := (zGraph : GGraph)) (zs := [[Value.int .i64 0], [Value.slice none 0 0], [Value.slice none 0 0]]) so38 (fun w => Tryz.zeroValue38 w) trivial ⟨fun _ => rfl, fun _ => ⟨_, rfl, none, 0, rfl, fun q => absurd rfl q⟩, fun _ => ⟨_, rfl, none, 0, rfl, fun q => absurd rfl q⟩, trivial⟩) ?_
        refine JL_stepU rfl rfl (step_store_box ty38 Sub.rfl Sub.rfl (by first | exact Sel.take (Sel.none _) | exact Sel.skip (Sel.take (Sel.none _)) | exact Sel.skip (Sel.skip (Sel.take (Sel.none _))) | exact Sel.skip (Sel.skip (Sel.skip (Sel.take (Sel.none _)))) | exact Sel.skip (Sel.skip (Sel.skip (Sel.skip (Sel.take (Sel.none _))))))) fun _ => ?_
        refine JL_step rfl rfl rfl (step_assign Sub.rfl) ?_
        refine JL_nil ?_
        refine J_ret ?_
        refine K_ret2' (rv := .cell 4 38) (rv' := .tmp 5) rfl () (Sel.all _) (.cell ty38 Sub.rfl (by first | exact Sel.take (Sel.none _) | exact Sel.skip (Sel.take (Sel.none _)) | exact Sel.skip (Sel.skip (Sel.take (Sel.none _))) | exact Sel.skip (Sel.skip (Sel.skip (Sel.take (Sel.none _)))) | exact Sel.skip (Sel.skip (Sel.skip (Sel.skip (Sel.take (Sel.none _)))))) Sub.rfl) (.tmp Sub.rfl) (Frz.sub ?_) (Frz.sub ?_) Sub.rfl
        · rw [show confG rules facts = zGraph from if_pos hb]; exact Sub.rfl
        · rw [show confE facts = 1 from if_pos hb]; exact Sub.rfl
      · try simp only [decide_eq_true_eq, decide_eq_false_iff_not, Bool.and_eq_true, Bool.or_eq_true, Bool.and_eq_false_iff, Bool.or_eq_false_iff, Bool.not_eq_true', Bool.not_eq_false', Int.not_lt, Int.not_le, Bool.not_true, Bool.not_false] at h40
        have hb : badC (nth facts i) = false := by simp only [badC, Bool.or_eq_false_iff, decide_eq_false_iff_not]; omega
        refine J_skip ?_
        refine J_draw [⟨0, [6], true⟩, ⟨2, [1], true⟩, ⟨3, [7], true⟩, ⟨4, [44, 45], true⟩, ⟨5, [46], true⟩, ⟨6, [47], true⟩, ⟨7, [48], true⟩, ⟨1, [42], false⟩, ⟨8, [43, 49], false⟩, ⟨9, [6], true⟩, ⟨10, [50, 51], false⟩] rfl (by kernel_rfl) ?_
        refine JM_step rfl rfl rfl rfl (fun _ => step_fieldAddr_own so38W Sub.rfl rfl) ?_
        refine JM_step rfl rfl rfl rfl (fun _ => step_move Sub.rfl) ?_
        refine JM_step rfl rfl rfl rfl (fun _ => step_move Sub.rfl) ?_
        refine JM_step rfl rfl rfl rfl (fun _ => step_indexAddr_sl  Tryz.underlying23 ty54 Sub.rfl Sub.rfl rfl (gb ?sg1)) ?_
        case sg1 => first | assumption | omega
        refine JM_step rfl rfl rfl rfl (fun _ => step_fieldAddr so54 Sub.rfl rfl) ?_
        refine JM_step rfl rfl rfl rfl (fun _ => step_load_ptr ty3 Sub.rfl) ?_
        refine JM_step rfl rfl rfl rfl (fun _ => step_literal (ys := [_]) Tryz.underlying24 el3 ⟨rfl, Sub.rfl, trivial⟩ rfl (by decide)) ?_
        refine JM_look rfl rfl rfl rfl (step_load_fld ty24V38 Sub.rfl rfl (by first | exact Sel.take (Sel.none _) | exact Sel.skip (Sel.take (Sel.none _)) | exact Sel.skip (Sel.skip (Sel.take (Sel.none _))) | exact Sel.skip (Sel.skip (Sel.skip (Sel.take (Sel.none _)))) | exact Sel.skip (Sel.skip (Sel.skip (Sel.skip (Sel.take (Sel.none _))))))) ?_
        refine JM_stepX rfl rfl rfl rfl (step_append Tryz.underlying24 el3 Sub.rfl Sub.rfl (by first | exact Sel.take (Sel.none _) | exact Sel.skip (Sel.take (Sel.none _)) | exact Sel.skip (Sel.skip (Sel.take (Sel.none _))) | exact Sel.skip (Sel.skip (Sel.skip (Sel.take (Sel.none _)))) | exact Sel.skip (Sel.skip (Sel.skip (Sel.skip (Sel.take (Sel.none _)))))) (by simp; omega) (by simp; omega)) fun v50 => ?_
        refine JM_step rfl rfl rfl rfl (fun _ => step_fieldAddr_own so38W Sub.rfl rfl) ?_
        refine JM_stepU rfl rfl rfl (step_store_fld (R := rV) (y' := (⟨facts.length, v50, []⟩ : GGraphW)) ty24V38 Sub.rfl Sub.rfl (by first | exact Sel.take (Sel.none _) | exact Sel.skip (Sel.take (Sel.none _)) | exact Sel.skip (Sel.skip (Sel.take (Sel.none _))) | exact Sel.skip (Sel.skip (Sel.skip (Sel.take (Sel.none _)))) | exact Sel.skip (Sel.skip (Sel.skip (Sel.skip (Sel.take (Sel.none _)))))) ?sg1) fun _ => ?_
        case sg1 => exact ⟨rfl, fun _ _ q => q, rfl, by intro g hg; rcases List.mem_singleton.1 hg with rfl; rfl⟩
        refine JM_nil ?_
        refine J_region ?_
        refine JL_step rfl rfl rfl (step_move Sub.rfl) ?_
        refine JL_step rfl rfl rfl (step_add Sub.rfl Sub.rfl ?sg1) ?_
        case sg1 => unfold in64; omega
        refine JL_step rfl rfl rfl (step_assign Sub.rfl) ?_
        refine JL_nil ?_
        refine K_againL (σ := Nat × Value) (s := (i, v)) (i + 1, v50) (by first | omega | (dsimp only; omega) | (simp_all; omega)) ⟨by omega, by intro f hf; rw [takeB hlt] at hf; rcases List.mem_append.1 hf with hf | hf; exact hv f hf; rw [List.mem_singleton.1 hf]; exact hb⟩ (SubE.upd Sub.rfl (SubE.upd Sub.rfl (SubE.upd Sub.rfl (SubE.upd Sub.rfl (SubE.upd Sub.rfl SubE.any))))) (LSub.cons (by first | exact Sel.take (Sel.none _) | exact Sel.skip (Sel.take (Sel.none _)) | exact Sel.skip (Sel.skip (Sel.take (Sel.none _))) | exact Sel.skip (Sel.skip (Sel.skip (Sel.take (Sel.none _)))) | exact Sel.skip (Sel.skip (Sel.skip (Sel.skip (Sel.take (Sel.none _)))))) (SPs.rfl) (LSub.cons (by first | exact Sel.take (Sel.none _) | exact Sel.skip (Sel.take (Sel.none _)) | exact Sel.skip (Sel.skip (Sel.take (Sel.none _))) | exact Sel.skip (Sel.skip (Sel.skip (Sel.take (Sel.none _)))) | exact Sel.skip (Sel.skip (Sel.skip (Sel.skip (Sel.take (Sel.none _)))))) (SPs.rfl) (LSub.cons (by first | exact Sel.take (Sel.none _) | exact Sel.skip (Sel.take (Sel.none _)) | exact Sel.skip (Sel.skip (Sel.take (Sel.none _))) | exact Sel.skip (Sel.skip (Sel.skip (Sel.take (Sel.none _)))) | exact Sel.skip (Sel.skip (Sel.skip (Sel.skip (Sel.take (Sel.none _)))))) (own_eq (by rw [take_succ_map GFact.Cost hlt])) (LSub.nil))))
    · try simp only [decide_eq_true_eq, decide_eq_false_iff_not, Bool.and_eq_true, Bool.or_eq_true, Bool.and_eq_false_iff, Bool.or_eq_false_iff, Bool.not_eq_true', Bool.not_eq_false', Int.not_lt, Int.not_le, Bool.not_true, Bool.not_false] at h24
      refine J_exit ?_
      refine J_seq ?_
      refine J_region ?_
      refine JL_step rfl rfl rfl (step_move Sub.rfl) ?_
      refine JL_step rfl rfl rfl (step_move Sub.rfl) ?_
      refine JL_step rfl rfl rfl (step_call0 (ViolationsR_spec rules facts H hn hr) ⟨Sub.rfl, Sub.rfl, trivial⟩ Tryz.call16) ?_
      refine JL_step rfl rfl rfl (step_move Sub.rfl) ?_
      refine JL_step rfl rfl rfl (step_extract Sub.rfl rfl) ?_
      refine JL_step rfl rfl rfl (step_extract Sub.rfl rfl) ?_
      refine JL_step rfl rfl rfl (step_assign Sub.rfl) ?_
      refine JL_step rfl rfl rfl (step_assign Sub.rfl) ?_
      refine JL_nil ?_
      refine J_seq ?_
      refine J_seq ?_
      refine J_region ?_
      refine JL_step rfl rfl rfl (step_move Sub.rfl) ?_
      refine JL_step rfl rfl rfl (step_neq Sub.rfl Sub.rfl) ?_
      refine JL_nil ?_
      refine J_cond Sub.rfl (fun h59 => ?_) (fun h59 => ?_)
      · try simp only [decide_eq_true_eq, decide_eq_false_iff_not, Bool.and_eq_true, Bool.or_eq_true, Bool.and_eq_false_iff, Bool.or_eq_false_iff, Bool.not_eq_true', Bool.not_eq_false', Int.not_lt, Int.not_le, Bool.not_true, Bool.not_false] at h59
        exact absurd trivial h59
      · try simp only [decide_eq_true_eq, decide_eq_false_iff_not, Bool.and_eq_true, Bool.or_eq_true, Bool.and_eq_false_iff, Bool.or_eq_false_iff, Bool.not_eq_true', Bool.not_eq_false', Int.not_lt, Int.not_le, Bool.not_true, Bool.not_false] at h59
        refine J_skip ?_
        refine J_seq ?_
        refine J_region ?_
        refine JL_step rfl rfl rfl (step_move Sub.rfl) ?_
        refine JL_step rfl rfl rfl (step_move Sub.rfl) ?_
        refine JL_step rfl rfl rfl (step_call0 (DanglingR_spec rules facts H.rl (by omega)) ⟨Sub.rfl, Sub.rfl, trivial⟩ Tryz.call23) ?_
        refine JL_step rfl rfl rfl (step_assign Sub.rfl) ?_
        refine JL_nil ?_
        refine J_seq ?_
        refine J_region ?_
        refine JL_step rfl rfl rfl (step_assign Sub.rfl) ?_
        refine JL_nil ?_
        refine J_seq ?_
        refine J_seq ?_
        refine J_region ?_
        refine JL_step rfl rfl rfl (step_assign Sub.rfl) ?_
        refine JL_nil ?_
        refine J_block ?_
        refine J_loopL (σ := Nat × Value) (fun ⟨q, u⟩ => q ≤ (danM rules facts).length) (fun ⟨q, u⟩ => upd (upd (upd (upd (upd (upd env0 4 (tAt v4 0)) 6 (tAt v6 0)) 8 (tSl (rSl rInt) (vioM rules facts))) 10 (tSl rInt (danM rules facts))) 11 (rV.ty u)) 12 (tV (.int .i64 q))) (fun ⟨q, u⟩ => [box v4 38 rGraph zGraph, box v6 38 rGraphW (⟨facts.length, v, []⟩ : GGraphW), own 3 rInt v ((facts.take i).map GFact.Cost), own 24 (rSl rInt) u (sglT ((danM rules facts).take q))]) (fun ⟨q, u⟩ => (danM rules facts).length - q) (0, .slice none 0 0) (by simp) (SubE.upd Sub.rfl (SubE.upd (Sub.rV rfl) (SubE.upd Sub.rfl (SubE.upd Sub.rfl (SubE.upd Sub.rfl (SubE.upd Sub.rfl SubE.any)))))) (LSub.cons (by first | exact Sel.take (Sel.none _) | exact Sel.skip (Sel.take (Sel.none _)) | exact Sel.skip (Sel.skip (Sel.take (Sel.none _))) | exact Sel.skip (Sel.skip (Sel.skip (Sel.take (Sel.none _)))) | exact Sel.skip (Sel.skip (Sel.skip (Sel.skip (Sel.take (Sel.none _)))))) (SPs.rfl) (LSub.cons (by first | exact Sel.take (Sel.none _) | exact Sel.skip (Sel.take (Sel.none _)) | exact Sel.skip (Sel.skip (Sel.take (Sel.none _))) | exact Sel.skip (Sel.skip (Sel.skip (Sel.take (Sel.none _)))) | exact Sel.skip (Sel.skip (Sel.skip (Sel.skip (Sel.take (Sel.none _)))))) (SPs.rfl) (LSub.cons (by first | exact Sel.take (Sel.none _) | exact Sel.skip (Sel.take (Sel.none _)) | exact Sel.skip (Sel.skip (Sel.take (Sel.none _))) | exact Sel.skip (Sel.skip (Sel.skip (Sel.take (Sel.none _)))) | exact Sel.skip (Sel.skip (Sel.skip (Sel.skip (Sel.take (Sel.none _)))))) (SPs.rfl) (LSub.nilown)))) ?_
        rintro ⟨q, u⟩ hq
        try dsimp only at hq
        refine J_seq ?_
        refine J_seq ?_
        refine J_region ?_
        refine JL_step rfl rfl rfl (step_move Sub.rfl) ?_
        refine JL_step rfl rfl rfl (step_move Sub.rfl) ?_
        refine JL_step rfl rfl rfl (step_len_sl Tryz.underlying24 Sub.rfl) ?_
        refine JL_step rfl rfl rfl (step_lss Sub.rfl Sub.rfl) ?_
        refine JL_nil ?_
        refine J_cond Sub.rfl (fun h68 => ?_) (fun h68 => ?_)
        · try simp only [decide_eq_true_eq, decide_eq_false_iff_not, Bool.and_eq_true, Bool.or_eq_true, Bool.and_eq_false_iff, Bool.or_eq_false_iff, Bool.not_eq_true', Bool.not_eq_false', Int.not_lt, Int.not_le, Bool.not_true, Bool.not_false] at h68
          have hlq : q < (danM rules facts).length := by omega
          refine J_skip ?_
          refine J_seq ?_
          refine J_block ?_
          refine J_region ?_
          refine JL_step rfl rfl rfl (step_move Sub.rfl) ?_
          refine JL_step rfl rfl rfl (step_move Sub.rfl) ?_
          refine JL_step rfl rfl rfl (step_move Sub.rfl) ?_
          refine JL_step rfl rfl rfl (step_indexAddr_sl  Tryz.underlying24 ty3 Sub.rfl Sub.rfl rfl (gb ?sg1)) ?_
          case sg1 => first | assumption | omega
          refine JL_step rfl rfl rfl (step_load_ptr ty3 Sub.rfl) ?_
          refine JL_step rfl rfl rfl (step_literal (ys := [_]) Tryz.underlying24 el3 ⟨rfl, Sub.rfl, trivial⟩ rfl (by decide)) ?_
          refine JL_step rfl rfl rfl (step_literal (ys := [_]) Tryz.underlying33 el24 ⟨rfl, Sub.rfl, trivial⟩ rfl (by decide)) ?_
          refine JL_stepX rfl rfl rfl (step_append Tryz.underlying33 el24 Sub.rfl Sub.rfl (by first | exact Sel.take (Sel.none _) | exact Sel.skip (Sel.take (Sel.none _)) | exact Sel.skip (Sel.skip (Sel.take (Sel.none _))) | exact Sel.skip (Sel.skip (Sel.skip (Sel.take (Sel.none _)))) | exact Sel.skip (Sel.skip (Sel.skip (Sel.skip (Sel.take (Sel.none _)))))) (by simp; omega) (by simp; omega)) fun v78 => ?_
          refine JL_step rfl rfl rfl (step_assign Sub.rfl) ?_
          refine JL_nil ?_
          refine J_region ?_
          refine JL_step rfl rfl rfl (step_move Sub.rfl) ?_
          refine JL_step rfl rfl rfl (step_add Sub.rfl Sub.rfl ?sg1) ?_
          case sg1 => unfold in64; omega
          refine JL_step rfl rfl rfl (step_assign Sub.rfl) ?_
          refine JL_nil ?_
          refine K_againL (σ := Nat × Value) (s := (q, u)) (q + 1, v78) (by first | omega | (dsimp only; omega) | (simp_all; omega)) (by omega) (SubE.upd Sub.rfl (SubE.upd Sub.rfl (SubE.upd Sub.rfl (SubE.upd Sub.rfl (SubE.upd Sub.rfl (SubE.upd Sub.rfl SubE.any)))))) (LSub.cons (by first | exact Sel.take (Sel.none _) | exact Sel.skip (Sel.take (Sel.none _)) | exact Sel.skip (Sel.skip (Sel.take (Sel.none _))) | exact Sel.skip (Sel.skip (Sel.skip (Sel.take (Sel.none _)))) | exact Sel.skip (Sel.skip (Sel.skip (Sel.skip (Sel.take (Sel.none _)))))) (SPs.rfl) (LSub.cons (by first | exact Sel.take (Sel.none _) | exact Sel.skip (Sel.take (Sel.none _)) | exact Sel.skip (Sel.skip (Sel.take (Sel.none _))) | exact Sel.skip (Sel.skip (Sel.skip (Sel.take (Sel.none _)))) | exact Sel.skip (Sel.skip (Sel.skip (Sel.skip (Sel.take (Sel.none _)))))) (SPs.rfl) (LSub.cons (by first | exact Sel.take (Sel.none _) | exact Sel.skip (Sel.take (Sel.none _)) | exact Sel.skip (Sel.skip (Sel.take (Sel.none _))) | exact Sel.skip (Sel.skip (Sel.skip (Sel.take (Sel.none _)))) | exact Sel.skip (Sel.skip (Sel.skip (Sel.skip (Sel.take (Sel.none _)))))) (SPs.rfl) (LSub.cons (by first | exact Sel.take (Sel.none _) | exact Sel.skip (Sel.take (Sel.none _)) | exact Sel.skip (Sel.skip (Sel.take (Sel.none _))) | exact Sel.skip (Sel.skip (Sel.skip (Sel.take (Sel.none _)))) | exact Sel.skip (Sel.skip (Sel.skip (Sel.skip (Sel.take (Sel.none _)))))) (own_eq (take_succ_map (fun d => [d]) hlq).symm) (LSub.nil)))))
        · try simp only [decide_eq_true_eq, decide_eq_false_iff_not, Bool.and_eq_true, Bool.or_eq_true, Bool.and_eq_false_iff, Bool.or_eq_false_iff, Bool.not_eq_true', Bool.not_eq_false', Int.not_lt, Int.not_le, Bool.not_true, Bool.not_false] at h68
          refine J_exit ?_
          refine J_seq ?_
          refine J_seq ?_
          refine J_region ?_
          refine JL_step rfl rfl rfl (step_assign Sub.rfl) ?_
          refine JL_nil ?_
          refine J_block ?_
          refine J_loopL (σ := Nat × Value) (fun ⟨p, u2⟩ => p ≤ (vioM rules facts).length) (fun ⟨p, u2⟩ => upd (upd (upd (upd (upd (upd env0 4 (tAt v4 0)) 6 (tAt v6 0)) 8 (tSl (rSl rInt) (vioM rules facts))) 10 (tSl rInt (danM rules facts))) 11 (rV.ty u2)) 13 (tV (.int .i64 p))) (fun ⟨p, u2⟩ => [box v4 38 rGraph zGraph, box v6 38 rGraphW (⟨facts.length, v, []⟩ : GGraphW), own 3 rInt v ((facts.take i).map GFact.Cost), own 24 (rSl rInt) u2 (sglT (danM rules facts) ++ freeT (danM rules facts) ((vioM rules facts).take p))]) (fun ⟨p, u2⟩ => (vioM rules facts).length - p) (0, u) (by simp) (SubE.upd Sub.rfl (SubE.upd Sub.rfl (SubE.upd Sub.rfl (SubE.upd Sub.rfl (SubE.upd Sub.rfl (SubE.upd Sub.rfl SubE.any)))))) (LSub.cons (by first | exact Sel.take (Sel.none _) | exact Sel.skip (Sel.take (Sel.none _)) | exact Sel.skip (Sel.skip (Sel.take (Sel.none _))) | exact Sel.skip (Sel.skip (Sel.skip (Sel.take (Sel.none _)))) | exact Sel.skip (Sel.skip (Sel.skip (Sel.skip (Sel.take (Sel.none _)))))) (SPs.rfl) (LSub.cons (by first | exact Sel.take (Sel.none _) | exact Sel.skip (Sel.take (Sel.none _)) | exact Sel.skip (Sel.skip (Sel.take (Sel.none _))) | exact Sel.skip (Sel.skip (Sel.skip (Sel.take (Sel.none _)))) | exact Sel.skip (Sel.skip (Sel.skip (Sel.skip (Sel.take (Sel.none _)))))) (SPs.rfl) (LSub.cons (by first | exact Sel.take (Sel.none _) | exact Sel.skip (Sel.take (Sel.none _)) | exact Sel.skip (Sel.skip (Sel.take (Sel.none _))) | exact Sel.skip (Sel.skip (Sel.skip (Sel.take (Sel.none _)))) | exact Sel.skip (Sel.skip (Sel.skip (Sel.skip (Sel.take (Sel.none _)))))) (SPs.rfl) (LSub.cons (by first | exact Sel.take (Sel.none _) | exact Sel.skip (Sel.take (Sel.none _)) | exact Sel.skip (Sel.skip (Sel.take (Sel.none _))) | exact Sel.skip (Sel.skip (Sel.skip (Sel.take (Sel.none _)))) | exact Sel.skip (Sel.skip (Sel.skip (Sel.skip (Sel.take (Sel.none _)))))) (own_eq (by obtain rfl : q = (danM rules facts).length := (by omega); rw [List.take_length]; simp)) (LSub.nil))))) ?_
          rintro ⟨p, u2⟩ hp
          try dsimp only at hp
          refine J_seq ?_
          refine J_seq ?_
          refine J_region ?_
          refine JL_step rfl rfl rfl (step_move Sub.rfl) ?_
          refine JL_step rfl rfl rfl (step_move Sub.rfl) ?_
          refine JL_step rfl rfl rfl (step_len_sl Tryz.underlying33 Sub.rfl) ?_
          refine JL_step rfl rfl rfl (step_lss Sub.rfl Sub.rfl) ?_
          refine JL_nil ?_
          refine J_cond Sub.rfl (fun h82 => ?_) (fun h82 => ?_)
          · try simp only [decide_eq_true_eq, decide_eq_false_iff_not, Bool.and_eq_true, Bool.or_eq_true, Bool.and_eq_false_iff, Bool.or_eq_false_iff, Bool.not_eq_true', Bool.not_eq_false', Int.not_lt, Int.not_le, Bool.not_true, Bool.not_false] at h82
            have hlp : p < (vioM rules facts).length := by omega
            have hfl := free_len (danM rules facts) (vioM rules facts) p
            have hal : ∀ x ∈ (sglT (danM rules facts) ++ freeT (danM rules facts) ((vioM rules facts).take p)), x.length ≤ 3 := fun x hx => (List.mem_append.1 hx).elim (fun h => by obtain ⟨d, _, rfl⟩ := List.mem_map.1 h; simp) (fun h => hvl3 _ (List.mem_of_mem_take (List.mem_filter.1 h).1))
            refine J_skip ?_
            refine J_seq ?_
            refine J_block ?_
            refine J_seq ?_
            refine J_drawN [⟨0, [11], true⟩, ⟨1, [10], true⟩, ⟨2, [86], true⟩, ⟨4, [8], true⟩, ⟨5, [13], true⟩, ⟨6, [89, 90], true⟩, ⟨7, [91], true⟩, ⟨3, [85, 87], true⟩, ⟨8, [88, 92], true⟩, ⟨9, [93], true⟩] rfl (by kernel_rfl) rfl ?_
            refine JN_step rfl rfl rfl rfl (step_move Sub.rfl) ?_
            refine JN_step rfl rfl rfl rfl (step_move Sub.rfl) ?_
            refine JN_step rfl rfl rfl rfl (step_len_sl Tryz.underlying24 Sub.rfl) ?_
            refine JN_step rfl rfl rfl rfl (step_move Sub.rfl) ?_
            refine JN_step rfl rfl rfl rfl (step_move Sub.rfl) ?_
            refine JN_step rfl rfl rfl rfl (step_indexAddr_sl  Tryz.underlying33 ty24 Sub.rfl Sub.rfl rfl (gb ?sg1)) ?_
            case sg1 => first | assumption | omega
            refine JN_step rfl rfl rfl rfl (step_load_ptr ty24 Sub.rfl) ?_
            refine JN_step rfl rfl rfl rfl (step_slice_pre (n := (danM rules facts).length) Tryz.underlying33 ty24 Sub.rfl Sub.rfl rfl (Sel.skip (Sel.skip (Sel.skip (Sel.take (Sel.none _))))) (by simp)) ?_
            refine JN_step rfl rfl rfl rfl (step_call_look (Sel.skip (Sel.skip (Sel.skip (Sel.take (Sel.none _))))) (has_spec (List.take (danM rules facts).length (sglT (danM rules facts) ++ freeT (danM rules facts) ((vioM rules facts).take p))) (nth (vioM rules facts) p) (by simp; omega) (Nat.le_trans (hvl3 _ (nth_mem hlp)) (by decide)) (fun x hx => Nat.le_trans (hal x (List.mem_of_mem_take hx)) (by decide))) (fun _ => Flat.v _) ⟨(Frz.pre (by simp)), (Frz.sub Sub.rfl), trivial⟩ Tryz.call40) ?_
            refine JN_step rfl rfl rfl rfl (step_not Sub.rfl) ?_
            refine JN_nil ?_
            refine J_cond Sub.rfl (fun h94 => ?_) (fun h94 => ?_)
            · try simp only [decide_eq_true_eq, decide_eq_false_iff_not, Bool.and_eq_true, Bool.or_eq_true, Bool.and_eq_false_iff, Bool.or_eq_false_iff, Bool.not_eq_true', Bool.not_eq_false', Int.not_lt, Int.not_le, Bool.not_true, Bool.not_false] at h94
              have hh : hasB (sglT (danM rules facts)) (nth (vioM rules facts) p) = false := by rw [List.take_left' (by simp)] at h94; exact h94
              refine J_region ?_
              refine JL_step rfl rfl rfl (step_move Sub.rfl) ?_
              refine JL_step rfl rfl rfl (step_move Sub.rfl) ?_
              refine JL_step rfl rfl rfl (step_move Sub.rfl) ?_
              refine JL_step rfl rfl rfl (step_indexAddr_sl  Tryz.underlying33 ty24 Sub.rfl Sub.rfl rfl (gb ?sg1)) ?_
              case sg1 => first | assumption | omega
              refine JL_step rfl rfl rfl (step_load_ptr ty24 Sub.rfl) ?_
              refine JL_step rfl rfl rfl (step_literal (ys := [_]) Tryz.underlying33 el24 ⟨rfl, Sub.rfl, trivial⟩ rfl (by decide)) ?_
              refine JL_stepX rfl rfl rfl (step_append Tryz.underlying33 el24 Sub.rfl Sub.rfl (by first | exact Sel.take (Sel.none _) | exact Sel.skip (Sel.take (Sel.none _)) | exact Sel.skip (Sel.skip (Sel.take (Sel.none _))) | exact Sel.skip (Sel.skip (Sel.skip (Sel.take (Sel.none _)))) | exact Sel.skip (Sel.skip (Sel.skip (Sel.skip (Sel.take (Sel.none _)))))) (by simp at hfl ⊢; omega) (by simp at hfl ⊢; omega)) fun v101 => ?_
              refine JL_step rfl rfl rfl (step_assign Sub.rfl) ?_
              refine JL_nil ?_
              refine J_region ?_
              refine JL_step rfl rfl rfl (step_move Sub.rfl) ?_
              refine JL_step rfl rfl rfl (step_add Sub.rfl Sub.rfl ?sg1) ?_
              case sg1 => unfold in64; omega
              refine JL_step rfl rfl rfl (step_assign Sub.rfl) ?_
              refine JL_nil ?_
              refine K_againL (σ := Nat × Value) (s := (p, u2)) (p + 1, v101) (by first | omega | (dsimp only; omega) | (simp_all; omega)) (by omega) (SubE.upd Sub.rfl (SubE.upd Sub.rfl (SubE.upd Sub.rfl (SubE.upd Sub.rfl (SubE.upd Sub.rfl (SubE.upd Sub.rfl SubE.any)))))) (LSub.cons (by first | exact Sel.take (Sel.none _) | exact Sel.skip (Sel.take (Sel.none _)) | exact Sel.skip (Sel.skip (Sel.take (Sel.none _))) | exact Sel.skip (Sel.skip (Sel.skip (Sel.take (Sel.none _)))) | exact Sel.skip (Sel.skip (Sel.skip (Sel.skip (Sel.take (Sel.none _)))))) (SPs.rfl) (LSub.cons (by first | exact Sel.take (Sel.none _) | exact Sel.skip (Sel.take (Sel.none _)) | exact Sel.skip (Sel.skip (Sel.take (Sel.none _))) | exact Sel.skip (Sel.skip (Sel.skip (Sel.take (Sel.none _)))) | exact Sel.skip (Sel.skip (Sel.skip (Sel.skip (Sel.take (Sel.none _)))))) (SPs.rfl) (LSub.cons (by first | exact Sel.take (Sel.none _) | exact Sel.skip (Sel.take (Sel.none _)) | exact Sel.skip (Sel.skip (Sel.take (Sel.none _))) | exact Sel.skip (Sel.skip (Sel.skip (Sel.take (Sel.none _)))) | exact Sel.skip (Sel.skip (Sel.skip (Sel.skip (Sel.take (Sel.none _)))))) (SPs.rfl) (LSub.cons (by first | exact Sel.take (Sel.none _) | exact Sel.skip (Sel.take (Sel.none _)) | exact Sel.skip (Sel.skip (Sel.take (Sel.none _))) | exact Sel.skip (Sel.skip (Sel.skip (Sel.take (Sel.none _)))) | exact Sel.skip (Sel.skip (Sel.skip (Sel.skip (Sel.take (Sel.none _)))))) (own_eq (by rw [free_succ hlp, if_neg (by rw [hh]; decide), List.append_assoc])) (LSub.nil)))))
            · try simp only [decide_eq_true_eq, decide_eq_false_iff_not, Bool.and_eq_true, Bool.or_eq_true, Bool.and_eq_false_iff, Bool.or_eq_false_iff, Bool.not_eq_true', Bool.not_eq_false', Int.not_lt, Int.not_le, Bool.not_true, Bool.not_false] at h94
              have hh : hasB (sglT (danM rules facts)) (nth (vioM rules facts) p) = true := by rw [List.take_left' (by simp)] at h94; exact h94
              refine J_skip ?_
              refine J_region ?_
              refine JL_step rfl rfl rfl (step_move Sub.rfl) ?_
              refine JL_step rfl rfl rfl (step_add Sub.rfl Sub.rfl ?sg1) ?_
              case sg1 => unfold in64; omega
              refine JL_step rfl rfl rfl (step_assign Sub.rfl) ?_
              refine JL_nil ?_
              refine K_againL (σ := Nat × Value) (s := (p, u2)) (p + 1, u2) (by first | omega | (dsimp only; omega) | (simp_all; omega)) (by omega) (SubE.upd Sub.rfl (SubE.upd Sub.rfl (SubE.upd Sub.rfl (SubE.upd Sub.rfl (SubE.upd Sub.rfl (SubE.upd Sub.rfl SubE.any)))))) (LSub.cons (by first | exact Sel.take (Sel.none _) | exact Sel.skip (Sel.take (Sel.none _)) | exact Sel.skip (Sel.skip (Sel.take (Sel.none _))) | exact Sel.skip (Sel.skip (Sel.skip (Sel.take (Sel.none _)))) | exact Sel.skip (Sel.skip (Sel.skip (Sel.skip (Sel.take (Sel.none _)))))) (SPs.rfl) (LSub.cons (by first | exact Sel.take (Sel.none _) | exact Sel.skip (Sel.take (Sel.none _)) | exact Sel.skip (Sel.skip (Sel.take (Sel.none _))) | exact Sel.skip (Sel.skip (Sel.skip (Sel.take (Sel.none _)))) | exact Sel.skip (Sel.skip (Sel.skip (Sel.skip (Sel.take (Sel.none _)))))) (SPs.rfl) (LSub.cons (by first | exact Sel.take (Sel.none _) | exact Sel.skip (Sel.take (Sel.none _)) | exact Sel.skip (Sel.skip (Sel.take (Sel.none _))) | exact Sel.skip (Sel.skip (Sel.skip (Sel.take (Sel.none _)))) | exact Sel.skip (Sel.skip (Sel.skip (Sel.skip (Sel.take (Sel.none _)))))) (SPs.rfl) (LSub.cons (by first | exact Sel.take (Sel.none _) | exact Sel.skip (Sel.take (Sel.none _)) | exact Sel.skip (Sel.skip (Sel.take (Sel.none _))) | exact Sel.skip (Sel.skip (Sel.skip (Sel.take (Sel.none _)))) | exact Sel.skip (Sel.skip (Sel.skip (Sel.skip (Sel.take (Sel.none _)))))) (own_eq (by rw [free_succ hlp, if_pos hh, List.append_nil])) (LSub.nil)))))
          · try simp only [decide_eq_true_eq, decide_eq_false_iff_not, Bool.and_eq_true, Bool.or_eq_true, Bool.and_eq_false_iff, Bool.or_eq_false_iff, Bool.not_eq_true', Bool.not_eq_false', Int.not_lt, Int.not_le, Bool.not_true, Bool.not_false] at h82
            refine J_exit ?_
            refine J_seq ?_
            refine J_region ?_
            have hpe : p = (vioM rules facts).length := by omega
            have hfe : sglT (danM rules facts) ++ freeT (danM rules facts) ((vioM rules facts).take p) = sglT (danM rules facts) ++ freeT (danM rules facts) (vioM rules facts) := by rw [hpe, List.take_length]
            have hel : (sglT (danM rules facts) ++ freeT (danM rules facts) (vioM rules facts)).length ≤ 1000000 := by have := free_len (danM rules facts) (vioM rules facts) p; rw [← hfe]; simp at this ⊢; omega
            have hal : ∀ x ∈ (sglT (danM rules facts) ++ freeT (danM rules facts) (vioM rules facts)), x.length ≤ 3 := fun x hx => (List.mem_append.1 hx).elim (fun h => by obtain ⟨d, _, rfl⟩ := List.mem_map.1 h; simp) (fun h => hvl3 _ (List.mem_filter.1 h).1)
            refine JL_freeze (t := 11) (Sel.skip (Sel.skip (Sel.skip (Sel.take (Sel.none _))))) (Frz.own' hfe) ?_
            refine JL_step rfl rfl rfl (step_move Sub.rfl) ?_
            refine JL_step rfl rfl rfl (step_call0 (Sorted__spec (sglT (danM rules facts) ++ freeT (danM rules facts) (vioM rules facts)) hel (fun x hx => Nat.le_trans (hal x hx) (by decide))) ⟨Sub.rfl, trivial⟩ Tryz.call31) ?_
            refine JL_step rfl rfl rfl (step_fieldAddr_own so38W Sub.rfl rfl) ?_
            refine JL_stepU rfl rfl (step_store_fld (R := (rSl (rSl rInt))) (y' := (⟨facts.length, v, sortL (sglT (danM rules facts) ++ freeT (danM rules facts) (vioM rules facts))⟩ : GGraphW)) ty33 Sub.rfl Sub.rfl (by first | exact Sel.take (Sel.none _) | exact Sel.skip (Sel.take (Sel.none _)) | exact Sel.skip (Sel.skip (Sel.take (Sel.none _))) | exact Sel.skip (Sel.skip (Sel.skip (Sel.take (Sel.none _)))) | exact Sel.skip (Sel.skip (Sel.skip (Sel.skip (Sel.take (Sel.none _)))))) ?sg1) fun _ => ?_
            case sg1 => exact ⟨rfl, rfl, fun _ _ q => q, rfl, fun _ h => (by cases h)⟩
            refine JL_nil ?_
            refine J_seq ?_
            refine J_region ?_
            refine JL_freeze (t := 6) (Sel.take (Sel.skip (Sel.take (Sel.none _)))) (Frz.up (y := (⟨facts.length, v, sortL (sglT (danM rules facts) ++ freeT (danM rules facts) (vioM rules facts))⟩ : GGraphW).up _) fun h h2 cs l hv q => up38W _ l hv q) ?_
            refine JL_step rfl rfl rfl (step_load_ptr ty38 Sub.rfl) ?_
            refine JL_stepU rfl rfl (step_store_box ty38 Sub.rfl Sub.rfl (by first | exact Sel.take (Sel.none _) | exact Sel.skip (Sel.take (Sel.none _)) | exact Sel.skip (Sel.skip (Sel.take (Sel.none _))) | exact Sel.skip (Sel.skip (Sel.skip (Sel.take (Sel.none _)))) | exact Sel.skip (Sel.skip (Sel.skip (Sel.skip (Sel.take (Sel.none _))))))) fun _ => ?_
            refine JL_step rfl rfl rfl (step_assign Sub.rfl) ?_
            refine JL_nil ?_
            refine J_ret ?_
            have hb : ¬ facts.any badC = true := by
              intro h; obtain ⟨f, hf, hx⟩ := List.any_eq_true.1 h; rw [List.take_of_length_le (by omega)] at hv; rw [hv f hf] at hx; cases hx
            refine K_ret2' (rv := .cell 4 38) (rv' := .tmp 5) rfl () (Sel.all _) (.cell ty38 Sub.rfl (by first | exact Sel.take (Sel.none _) | exact Sel.skip (Sel.take (Sel.none _)) | exact Sel.skip (Sel.skip (Sel.take (Sel.none _))) | exact Sel.skip (Sel.skip (Sel.skip (Sel.take (Sel.none _)))) | exact Sel.skip (Sel.skip (Sel.skip (Sel.skip (Sel.take (Sel.none _)))))) Sub.rfl) (.tmp Sub.rfl) (Frz.sub ?_) (Frz.sub ?_) Sub.rfl
            · rw [show confG rules facts = ⟨facts.length, facts.map GFact.Cost, minM (edgM rules facts)⟩ from if_neg hb, ← conR_eq H]; obtain rfl : i = facts.length := (by omega); rw [List.take_length]; exact Sub.rfl
            · rw [show confE facts = 0 from if_neg hb]; exact Sub.rfl
end Lg

/- Structs compared with themselves. -/
namespace Lg
open Go Go.Proofs
section
variable {C : Cx} {E : Env} {L : List SP} {d : Option Nat} {ty : Nat} {pos : String} {af : Array Edge} {g : Option (Nat × Bool)}
theorem step_neq_same {T U : Nat} {x y : Operand} {cs : Array Value} (hx : Sub (opTy E x) (tV (.agg cs))) (hy : Sub (opTy E y) (tV (.agg cs))) (hm : C.P.eqGuardType C.P.depth T = false)
    (hr : ∀ w, (Op.equalIn 10000 T (.agg cs) (.agg cs)).run C.P w = .ok true w) : Step1 C ⟨d, .binOp .neq T x y U, ty, pos, af, g⟩ E L (tV (.bool false)) :=
  Step.of_same (by intro c h; cases h) fun ac w h hw f => ⟨.bool false, by
    have h1 : ac.eval x = .agg cs := f.get hx
    have h2 : ac.eval y = .agg cs := f.get hy
    have he : ∀ w, (eqGuard .neq T x y (.agg cs) (.agg cs)).run C.P w = .ok () w := fun w => run_eqGuard_agg w .neq T x y cs cs hm
    simp [execOp, h1, h2, Sem.run_bind, he, run_neq_struct, hr], rfl⟩
end
def cValue (v : GValue) : List Value := [.int .i64 v.Kind, .int .i64 v.N, .string v.Text]
def cSide (s : GSide) : List Value := [.int .i64 s.Var, .int .i64 s.Col] ++ cValue s.Value
def cFixed (f : GFixed) : Array Value := #[.int .i64 f.Col, .int .i64 f.Value.Kind, .int .i64 f.Value.N, .string f.Value.Text]
def cTest (t : GTest) : Array Value := #[.int .i64 t.Left.Var, .int .i64 t.Left.Col, .int .i64 t.Left.Value.Kind, .int .i64 t.Left.Value.N, .string t.Left.Value.Text, .int .i64 t.Op, .int .i64 t.Right.Var, .int .i64 t.Right.Col, .int .i64 t.Right.Value.Kind, .int .i64 t.Right.Value.N, .string t.Right.Value.Text, .int .i64 t.Add]
theorem value_cells {h : PH} {x : GValue} {cs : List Value} (r : rValue.rel h x cs) : cs = cValue x := by
  obtain ⟨c0, _, rfl, r0, c1, _, rfl, r1, c2, _, rfl, r2, rz⟩ := r
  have r0 : c0 = [.int .i64 x.Kind] := r0
  have r1 : c1 = [.int .i64 x.N] := r1
  have r2 : c2 = [.string x.Text] := r2
  subst r0 r1 r2; rw [show _ = [] from rz]; rfl
theorem side_cells {h : PH} {x : GSide} {cs : List Value} (r : rSide.rel h x cs) : cs = cSide x := by
  obtain ⟨c0, _, rfl, r0, c1, _, rfl, r1, c2, _, rfl, r2, rz⟩ := r
  have r0 : c0 = [.int .i64 x.Var] := r0
  have r1 : c1 = [.int .i64 x.Col] := r1
  have r2 := value_cells r2
  subst r0 r1 r2; rw [show _ = [] from rz]; simp [cSide]
theorem sub_fixed {x : GFixed} : Sub (rFixed.ty x) (tV (.agg (cFixed x))) := fun h v r => by
  obtain ⟨cs, r, rfl⟩ := r
  obtain ⟨c0, _, rfl, r0, c1, _, rfl, r1, rz⟩ := r
  have r0 : c0 = [.int .i64 x.Col] := r0
  have r1 := value_cells r1
  subst r0 r1; rw [show _ = [] from rz]; rfl
theorem sub_test {x : GTest} : Sub (rTest.ty x) (tV (.agg (cTest x))) := fun h v r => by
  obtain ⟨cs, r, rfl⟩ := r
  obtain ⟨c0, _, rfl, r0, c1, _, rfl, r1, c2, _, rfl, r2, c3, _, rfl, r3, rz⟩ := r
  have r0 := side_cells r0
  have r1 : c1 = [.int .i64 x.Op] := r1
  have r2 := side_cells r2
  have r3 : c3 = [.int .i64 x.Add] := r3
  subst r0 r1 r2 r3; rw [show _ = [] from rz]; rfl
theorem eq_fixed (x : GFixed) (w : World) : (Op.equalIn 10000 64 (.agg (cFixed x)) (.agg (cFixed x))).run Tryz.prog w = .ok true w := by
  have u3 := Tryz.underlying3
  have u9 := Tryz.underlying9
  have u60 := Tryz.underlying60
  have a3 := Tryz.isAgg3
  have a9 := Tryz.isAgg9
  have a60 := Tryz.isAgg60
  have z3 := Tryz.sizeOf3
  have z9 := Tryz.sizeOf9
  have z60 := Tryz.sizeOf60
  have hS : Tryz.prog.underlying 64 = some (.struct (Tryz.prog.fieldsOf 64)) := by kernel_rfl
  have hp : Tryz.prog.stoodInHeld 64 = false := by kernel_rfl
  have hS6 : Tryz.prog.underlying 60 = some (.struct (Tryz.prog.fieldsOf 60)) := by kernel_rfl
  have hp6 : Tryz.prog.stoodInHeld 60 = false := by kernel_rfl
  have hV : ∀ (a b : Int) (s : ByteArray) w, (Op.equalIn 9999 60 (.agg #[.int .i64 a, .int .i64 b, .string s]) (.agg #[.int .i64 a, .int .i64 b, .string s])).run Tryz.prog w = .ok true w := fun a b s w => by
    rw [show (9999 : Nat) = 9998 + 1 from rfl, run_equalIn_agg w 9998 60 _ _ hS6 hp6]
    simp only [Program.fieldsOf, Tryz.underlying60]
    go_simp
  simp only [cFixed]
  rw [show (10000 : Nat) = 9999 + 1 from rfl, run_equalIn_agg w 9999 64 _ _ hS hp]
  simp only [Program.fieldsOf, Tryz.underlying64]
  go_simp
theorem eq_test (x : GTest) (w : World) : (Op.equalIn 10000 66 (.agg (cTest x)) (.agg (cTest x))).run Tryz.prog w = .ok true w := by
  have u3 := Tryz.underlying3
  have u9 := Tryz.underlying9
  have u60 := Tryz.underlying60
  have u62 := Tryz.underlying62
  have a3 := Tryz.isAgg3
  have a9 := Tryz.isAgg9
  have a60 := Tryz.isAgg60
  have a62 := Tryz.isAgg62
  have z3 := Tryz.sizeOf3
  have z9 := Tryz.sizeOf9
  have z60 := Tryz.sizeOf60
  have z62 := Tryz.sizeOf62
  have hS : Tryz.prog.underlying 66 = some (.struct (Tryz.prog.fieldsOf 66)) := by kernel_rfl
  have hp : Tryz.prog.stoodInHeld 66 = false := by kernel_rfl
  have hS2 : Tryz.prog.underlying 62 = some (.struct (Tryz.prog.fieldsOf 62)) := by kernel_rfl
  have hp2 : Tryz.prog.stoodInHeld 62 = false := by kernel_rfl
  have hS6 : Tryz.prog.underlying 60 = some (.struct (Tryz.prog.fieldsOf 60)) := by kernel_rfl
  have hp6 : Tryz.prog.stoodInHeld 60 = false := by kernel_rfl
  have hV : ∀ (a b : Int) (s : ByteArray) w, (Op.equalIn 9998 60 (.agg #[.int .i64 a, .int .i64 b, .string s]) (.agg #[.int .i64 a, .int .i64 b, .string s])).run Tryz.prog w = .ok true w := fun a b s w => by
    rw [show (9998 : Nat) = 9997 + 1 from rfl, run_equalIn_agg w 9997 60 _ _ hS6 hp6]
    simp only [Program.fieldsOf, Tryz.underlying60]
    go_simp
  have hD : ∀ (c e a b : Int) (s : ByteArray) w, (Op.equalIn 9999 62 (.agg #[.int .i64 c, .int .i64 e, .int .i64 a, .int .i64 b, .string s]) (.agg #[.int .i64 c, .int .i64 e, .int .i64 a, .int .i64 b, .string s])).run Tryz.prog w = .ok true w := fun c e a b s w => by
    rw [show (9999 : Nat) = 9998 + 1 from rfl, run_equalIn_agg w 9998 62 _ _ hS2 hp2]
    simp only [Program.fieldsOf, Tryz.underlying62]
    go_simp
  simp only [cTest]
  rw [show (10000 : Nat) = 9999 + 1 from rfl, run_equalIn_agg w 9999 66 _ _ hS hp]
  simp only [Program.fieldsOf, Tryz.underlying66]
  go_simp
theorem ge_fixed : Tryz.prog.eqGuardType Tryz.prog.depth 64 = false := by kernel_rfl
theorem ge_test : Tryz.prog.eqGuardType Tryz.prog.depth 66 = false := by kernel_rfl
end Lg

namespace Lg
open Go Go.Proofs


theorem intsB_self (l : List Int) : intsB l l = true := intsB_iff.2 rfl
theorem lowerR_ct {r d : GRule} (h : d ∈ lowerR r) : d.Cols.length ≤ r.Cols.length + 2 ∧ d.Tables.length ≤ r.Tables.length + 2 := by
  unfold lowerR at h
  split at h
  · rw [List.mem_singleton.1 h]; omega
  · split at h
    · rw [List.mem_singleton.1 h]; simp [zRule]
    · cases h
theorem sub_graph {G : GGraph} : Sub (rGraphE.ty G) (rGraph.ty G) := fun h v r => by
  obtain ⟨cs, r, rfl⟩ := r
  obtain ⟨c0, _, rfl, r0, c1, _, rfl, r1, c2, _, rfl, r2, rz⟩ := r
  obtain ⟨v1, e1, p1⟩ := r1
  obtain ⟨v2, e2, p2⟩ := r2
  exact ⟨_, ⟨c0, _, rfl, r0, ⟨c1, _, rfl, ⟨v1, e1, Sub.ofE _ _ p1⟩, ⟨c2, _, rfl, ⟨v2, e2, Sub.ofEE _ _ p2⟩, rz⟩⟩⟩, rfl⟩

theorem RulesR_spec (l : List GRule) (hl : l.length ≤ 1000000) (hb : ∀ r ∈ l, (r.Cols.length ≤ 1000000000000 ∧ r.Tables.length ≤ 1000000000000) ∧ r.Fixed.length ≤ 1000000000000 ∧ r.Tests.length ≤ 1000000000000) : Fun1 Tryz.prog 12 [tSl rRule l, tSl rRule l] (tV (.bool true)) := by
  refine Spec.enter Tryz.func12 rfl rfl fun h0 w0 fr0 => ?_
  refine J_seq ?_
  refine J_region ?_
  refine JL_step rfl rfl rfl (step_assign Sub.rfl) ?_
  refine JL_nil ?_
  refine J_seq ?_
  refine J_seq ?_
  refine J_region ?_
  refine JL_step rfl rfl rfl (step_move Sub.rfl) ?_
  refine JL_step rfl rfl rfl (step_len_sl Tryz.underlying22 Sub.rfl) ?_
  refine JL_step rfl rfl rfl (step_move Sub.rfl) ?_
  refine JL_step rfl rfl rfl (step_len_sl Tryz.underlying22 Sub.rfl) ?_
  refine JL_step rfl rfl rfl (step_neq Sub.rfl Sub.rfl) ?_
  refine JL_nil ?_
  refine J_cond Sub.rfl (fun h12 => ?_) (fun h12 => ?_)
  · try simp only [decide_eq_true_eq, decide_eq_false_iff_not, Bool.and_eq_true, Bool.or_eq_true, Bool.and_eq_false_iff, Bool.or_eq_false_iff, Bool.not_eq_true', Bool.not_eq_false', Int.not_lt, Int.not_le, Bool.not_true, Bool.not_false] at h12
    exfalso; exact absurd trivial h12
  · try simp only [decide_eq_true_eq, decide_eq_false_iff_not, Bool.and_eq_true, Bool.or_eq_true, Bool.and_eq_false_iff, Bool.or_eq_false_iff, Bool.not_eq_true', Bool.not_eq_false', Int.not_lt, Int.not_le, Bool.not_true, Bool.not_false] at h12
    refine J_skip ?_
    refine J_seq ?_
    refine J_seq ?_
    refine J_region ?_
    refine JL_step rfl rfl rfl (step_assign Sub.rfl) ?_
    refine JL_nil ?_
    refine J_block ?_
    refine J_loopL (σ := Nat) (fun i => i ≤ l.length) (fun i => upd (upd (upd env0 0 (tSl rRule l)) 1 (tSl rRule l)) 5 (tV (.int .i64 i))) (fun i => []) (fun i => l.length - i) 0 (by omega) (SubE.upd Sub.rfl (SubE.upd Sub.rfl (SubE.upd Sub.rfl SubE.any))) (LSub.rfl) ?_
    rintro i hi
    refine J_seq ?_
    refine J_seq ?_
    refine J_region ?_
    refine JL_step rfl rfl rfl (step_move Sub.rfl) ?_
    refine JL_step rfl rfl rfl (step_move Sub.rfl) ?_
    refine JL_step rfl rfl rfl (step_len_sl Tryz.underlying22 Sub.rfl) ?_
    refine JL_step rfl rfl rfl (step_lss Sub.rfl Sub.rfl) ?_
    refine JL_nil ?_
    refine J_cond Sub.rfl (fun h16 => ?_) (fun h16 => ?_)
    · try simp only [decide_eq_true_eq, decide_eq_false_iff_not, Bool.and_eq_true, Bool.or_eq_true, Bool.and_eq_false_iff, Bool.or_eq_false_iff, Bool.not_eq_true', Bool.not_eq_false', Int.not_lt, Int.not_le, Bool.not_true, Bool.not_false] at h16
      have hlt : i < l.length := by omega
      have hbi := hb _ (nth_mem hlt)
      refine J_skip ?_
      refine J_seq ?_
      refine J_block ?_
      refine J_seq ?_
      refine J_seq ?_
      refine J_draw [⟨0, [0], true⟩, ⟨1, [5], true⟩, ⟨2, [19, 20], true⟩, ⟨3, [21], true⟩, ⟨4, [22], true⟩, ⟨5, [1], true⟩, ⟨6, [5], true⟩, ⟨7, [24, 25], true⟩, ⟨8, [26], true⟩, ⟨9, [27], true⟩, ⟨10, [23, 28], true⟩, ⟨11, [29], true⟩, ⟨12, [0, 30], true⟩, ⟨13, [5, 30], true⟩, ⟨14, [30, 31, 32], true⟩, ⟨15, [30, 33], true⟩, ⟨16, [30, 34], true⟩, ⟨17, [1, 30], true⟩, ⟨18, [5, 30], true⟩, ⟨19, [30, 36, 37], true⟩, ⟨20, [30, 38], true⟩, ⟨21, [30, 39], true⟩, ⟨22, [30, 35, 40], true⟩, ⟨23, [30, 41], true⟩, ⟨24, [42], true⟩, ⟨25, [0, 43], true⟩, ⟨26, [5, 43], true⟩, ⟨27, [43, 44, 45], true⟩, ⟨28, [43, 46], true⟩, ⟨29, [43, 47], true⟩, ⟨30, [1, 43], true⟩, ⟨31, [5, 43], true⟩, ⟨32, [43, 49, 50], true⟩, ⟨33, [43, 51], true⟩, ⟨34, [43, 52], true⟩, ⟨35, [43, 48, 53], true⟩, ⟨36, [43, 54], true⟩, ⟨37, [55], true⟩, ⟨38, [0, 56], true⟩, ⟨39, [5, 56], true⟩, ⟨40, [56, 57, 58], true⟩, ⟨41, [56, 59], true⟩, ⟨42, [56, 60], true⟩, ⟨43, [1, 56], true⟩, ⟨44, [5, 56], true⟩, ⟨45, [56, 62, 63], true⟩, ⟨46, [56, 64], true⟩, ⟨47, [56, 65], true⟩, ⟨48, [56, 61, 66], true⟩, ⟨49, [56, 67], true⟩, ⟨50, [68], true⟩, ⟨51, [0, 69], true⟩, ⟨52, [5, 69], true⟩, ⟨53, [69, 70, 71], true⟩, ⟨54, [69, 72], true⟩, ⟨55, [69, 73], true⟩, ⟨56, [1, 69], true⟩, ⟨57, [5, 69], true⟩, ⟨58, [69, 75, 76], true⟩, ⟨59, [69, 77], true⟩, ⟨60, [69, 78], true⟩, ⟨61, [69, 74, 79], true⟩, ⟨62, [69, 80], true⟩, ⟨63, [81], true⟩, ⟨64, [0, 82], true⟩, ⟨65, [5, 82], true⟩, ⟨66, [82, 83, 84], true⟩, ⟨67, [82, 85], true⟩, ⟨68, [82, 86], true⟩, ⟨69, [1, 82], true⟩, ⟨70, [5, 82], true⟩, ⟨71, [82, 88, 89], true⟩, ⟨72, [82, 90], true⟩, ⟨73, [82, 91], true⟩, ⟨74, [82, 87, 92], true⟩, ⟨75, [82, 93], true⟩, ⟨76, [94], true⟩, ⟨77, [0, 95], true⟩, ⟨78, [5, 95], true⟩, ⟨79, [95, 96, 97], true⟩, ⟨80, [95, 98], true⟩, ⟨81, [95, 99], true⟩, ⟨82, [1, 95], true⟩, ⟨83, [5, 95], true⟩, ⟨84, [95, 101, 102], true⟩, ⟨85, [95, 103], true⟩, ⟨86, [95, 104], true⟩, ⟨87, [95, 100, 105], true⟩, ⟨88, [95, 106], true⟩, ⟨89, [95, 107], true⟩, ⟨90, [108], true⟩, ⟨91, [0, 109], true⟩, ⟨92, [5, 109], true⟩, ⟨93, [109, 110, 111], true⟩, ⟨94, [109, 112], true⟩, ⟨95, [109, 113], true⟩, ⟨96, [109, 114], true⟩, ⟨97, [1, 109], true⟩, ⟨98, [5, 109], true⟩, ⟨99, [109, 116, 117], true⟩, ⟨100, [109, 118], true⟩, ⟨101, [109, 119], true⟩, ⟨102, [109, 120], true⟩, ⟨103, [109, 115, 121], true⟩, ⟨104, [109, 122], true⟩, ⟨105, [123], true⟩, ⟨106, [0, 124], true⟩, ⟨107, [5, 124], true⟩, ⟨108, [124, 125, 126], true⟩, ⟨109, [124, 127], true⟩, ⟨110, [124, 128], true⟩, ⟨111, [1, 124], true⟩, ⟨112, [5, 124], true⟩, ⟨113, [124, 130, 131], true⟩, ⟨114, [124, 132], true⟩, ⟨115, [124, 133], true⟩, ⟨116, [124, 129, 134], true⟩, ⟨117, [124, 135], true⟩, ⟨118, [124, 136], true⟩, ⟨119, [137], true⟩, ⟨120, [0, 138], true⟩, ⟨121, [5, 138], true⟩, ⟨122, [138, 139, 140], true⟩, ⟨123, [138, 141], true⟩, ⟨124, [138, 142], true⟩, ⟨125, [138, 143], true⟩, ⟨126, [1, 138], true⟩, ⟨127, [5, 138], true⟩, ⟨128, [138, 145, 146], true⟩, ⟨129, [138, 147], true⟩, ⟨130, [138, 148], true⟩, ⟨131, [138, 149], true⟩, ⟨132, [138, 144, 150], true⟩, ⟨133, [138, 151], true⟩] rfl (by kernel_rfl) ?_
      refine JM_step rfl rfl rfl rfl (fun _ => step_move Sub.rfl) ?_
      refine JM_step rfl rfl rfl rfl (fun _ => step_move Sub.rfl) ?_
      refine JM_step rfl rfl rfl rfl (fun _ => step_indexAddr_sl  Tryz.underlying22 ty32 Sub.rfl Sub.rfl rfl (gb ?sg1)) ?_
      case sg1 => first | assumption | omega
      refine JM_step rfl rfl rfl rfl (fun _ => step_fieldAddr so32 Sub.rfl rfl) ?_
      refine JM_step rfl rfl rfl rfl (fun _ => step_load_ptr ty3 Sub.rfl) ?_
      refine JM_step rfl rfl rfl rfl (fun _ => step_move Sub.rfl) ?_
      refine JM_step rfl rfl rfl rfl (fun _ => step_move Sub.rfl) ?_
      refine JM_step rfl rfl rfl rfl (fun _ => step_indexAddr_sl  Tryz.underlying22 ty32 Sub.rfl Sub.rfl rfl (gb ?sg1)) ?_
      case sg1 => first | assumption | omega
      refine JM_step rfl rfl rfl rfl (fun _ => step_fieldAddr so32 Sub.rfl rfl) ?_
      refine JM_step rfl rfl rfl rfl (fun _ => step_load_ptr ty3 Sub.rfl) ?_
      refine JM_step rfl rfl rfl rfl (fun _ => step_neq Sub.rfl Sub.rfl) ?_
      refine JM_step rfl rfl rfl rfl (fun _ => step_move Sub.rfl) ?_
      refine JM_stepG rfl rfl rfl rfl (Gd.plain Sub.rfl) rfl rfl (fun hw _ => step_move Sub.rfl) ?_
      refine JM_stepG rfl rfl rfl rfl (Gd.plain Sub.rfl) rfl rfl (fun hw _ => step_move Sub.rfl) ?_
      refine JM_stepG rfl rfl rfl rfl (Gd.plain Sub.rfl) rfl rfl (fun hw _ => step_indexAddr_sl  Tryz.underlying22 ty32 (Sub.w hw) (Sub.w hw) rfl (gb ?sg1)) ?_
      case sg1 => have hwq := hw; (try simp only [beqB_t, beqB_f, decide_eq_true_eq, decide_eq_false_iff_not, Bool.and_eq_true, Bool.or_eq_true, Bool.and_eq_false_iff, Bool.or_eq_false_iff, Bool.not_eq_true', Bool.not_eq_false', Int.not_lt, Int.not_le, Bool.not_true, Bool.not_false] at hwq); first | assumption | omega
      refine JM_stepG rfl rfl rfl rfl (Gd.plain Sub.rfl) rfl rfl (fun hw _ => step_fieldAddr so32 (Sub.w hw) rfl) ?_
      refine JM_stepG rfl rfl rfl rfl (Gd.plain Sub.rfl) rfl rfl (fun hw _ => step_load_ptr ty9 (Sub.w hw)) ?_
      refine JM_stepG rfl rfl rfl rfl (Gd.plain Sub.rfl) rfl rfl (fun hw _ => step_move Sub.rfl) ?_
      refine JM_stepG rfl rfl rfl rfl (Gd.plain Sub.rfl) rfl rfl (fun hw _ => step_move Sub.rfl) ?_
      refine JM_stepG rfl rfl rfl rfl (Gd.plain Sub.rfl) rfl rfl (fun hw _ => step_indexAddr_sl  Tryz.underlying22 ty32 (Sub.w hw) (Sub.w hw) rfl (gb ?sg1)) ?_
      case sg1 => have hwq := hw; (try simp only [beqB_t, beqB_f, decide_eq_true_eq, decide_eq_false_iff_not, Bool.and_eq_true, Bool.or_eq_true, Bool.and_eq_false_iff, Bool.or_eq_false_iff, Bool.not_eq_true', Bool.not_eq_false', Int.not_lt, Int.not_le, Bool.not_true, Bool.not_false] at hwq); first | assumption | omega
      refine JM_stepG rfl rfl rfl rfl (Gd.plain Sub.rfl) rfl rfl (fun hw _ => step_fieldAddr so32 (Sub.w hw) rfl) ?_
      refine JM_stepG rfl rfl rfl rfl (Gd.plain Sub.rfl) rfl rfl (fun hw _ => step_load_ptr ty9 (Sub.w hw)) ?_
      refine JM_stepG rfl rfl rfl rfl (Gd.plain Sub.rfl) rfl rfl (fun hw _ => step_neq_str (Sub.w hw) (Sub.w hw)) ?_
      refine JM_step rfl rfl rfl rfl (fun _ => step_pick_or Sub.rfl Sub.rfl) ?_
      refine JM_step rfl rfl rfl rfl (fun _ => step_move Sub.rfl) ?_
      refine JM_stepG rfl rfl rfl rfl (Gd.plain Sub.rfl) rfl rfl (fun hw _ => step_move Sub.rfl) ?_
      refine JM_stepG rfl rfl rfl rfl (Gd.plain Sub.rfl) rfl rfl (fun hw _ => step_move Sub.rfl) ?_
      refine JM_stepG rfl rfl rfl rfl (Gd.plain Sub.rfl) rfl rfl (fun hw _ => step_indexAddr_sl  Tryz.underlying22 ty32 (Sub.w hw) (Sub.w hw) rfl (gb ?sg1)) ?_
      case sg1 => have hwq := hw; (try simp only [beqB_t, beqB_f, decide_eq_true_eq, decide_eq_false_iff_not, Bool.and_eq_true, Bool.or_eq_true, Bool.and_eq_false_iff, Bool.or_eq_false_iff, Bool.not_eq_true', Bool.not_eq_false', Int.not_lt, Int.not_le, Bool.not_true, Bool.not_false] at hwq); first | assumption | omega
      refine JM_stepG rfl rfl rfl rfl (Gd.plain Sub.rfl) rfl rfl (fun hw _ => step_fieldAddr so32 (Sub.w hw) rfl) ?_
      refine JM_stepG rfl rfl rfl rfl (Gd.plain Sub.rfl) rfl rfl (fun hw _ => step_load_ptr ty3 (Sub.w hw)) ?_
      refine JM_stepG rfl rfl rfl rfl (Gd.plain Sub.rfl) rfl rfl (fun hw _ => step_move Sub.rfl) ?_
      refine JM_stepG rfl rfl rfl rfl (Gd.plain Sub.rfl) rfl rfl (fun hw _ => step_move Sub.rfl) ?_
      refine JM_stepG rfl rfl rfl rfl (Gd.plain Sub.rfl) rfl rfl (fun hw _ => step_indexAddr_sl  Tryz.underlying22 ty32 (Sub.w hw) (Sub.w hw) rfl (gb ?sg1)) ?_
      case sg1 => have hwq := hw; (try simp only [beqB_t, beqB_f, decide_eq_true_eq, decide_eq_false_iff_not, Bool.and_eq_true, Bool.or_eq_true, Bool.and_eq_false_iff, Bool.or_eq_false_iff, Bool.not_eq_true', Bool.not_eq_false', Int.not_lt, Int.not_le, Bool.not_true, Bool.not_false] at hwq); first | assumption | omega
      refine JM_stepG rfl rfl rfl rfl (Gd.plain Sub.rfl) rfl rfl (fun hw _ => step_fieldAddr so32 (Sub.w hw) rfl) ?_
      refine JM_stepG rfl rfl rfl rfl (Gd.plain Sub.rfl) rfl rfl (fun hw _ => step_load_ptr ty3 (Sub.w hw)) ?_
      refine JM_stepG rfl rfl rfl rfl (Gd.plain Sub.rfl) rfl rfl (fun hw _ => step_neq (Sub.w hw) (Sub.w hw)) ?_
      refine JM_step rfl rfl rfl rfl (fun _ => step_pick_or Sub.rfl Sub.rfl) ?_
      refine JM_step rfl rfl rfl rfl (fun _ => step_move Sub.rfl) ?_
      refine JM_stepG rfl rfl rfl rfl (Gd.plain Sub.rfl) rfl rfl (fun hw _ => step_move Sub.rfl) ?_
      refine JM_stepG rfl rfl rfl rfl (Gd.plain Sub.rfl) rfl rfl (fun hw _ => step_move Sub.rfl) ?_
      refine JM_stepG rfl rfl rfl rfl (Gd.plain Sub.rfl) rfl rfl (fun hw _ => step_indexAddr_sl  Tryz.underlying22 ty32 (Sub.w hw) (Sub.w hw) rfl (gb ?sg1)) ?_
      case sg1 => have hwq := hw; (try simp only [beqB_t, beqB_f, decide_eq_true_eq, decide_eq_false_iff_not, Bool.and_eq_true, Bool.or_eq_true, Bool.and_eq_false_iff, Bool.or_eq_false_iff, Bool.not_eq_true', Bool.not_eq_false', Int.not_lt, Int.not_le, Bool.not_true, Bool.not_false] at hwq); first | assumption | omega
      refine JM_stepG rfl rfl rfl rfl (Gd.plain Sub.rfl) rfl rfl (fun hw _ => step_fieldAddr so32 (Sub.w hw) rfl) ?_
      refine JM_stepG rfl rfl rfl rfl (Gd.plain Sub.rfl) rfl rfl (fun hw _ => step_load_ptr ty3 (Sub.w hw)) ?_
      refine JM_stepG rfl rfl rfl rfl (Gd.plain Sub.rfl) rfl rfl (fun hw _ => step_move Sub.rfl) ?_
      refine JM_stepG rfl rfl rfl rfl (Gd.plain Sub.rfl) rfl rfl (fun hw _ => step_move Sub.rfl) ?_
      refine JM_stepG rfl rfl rfl rfl (Gd.plain Sub.rfl) rfl rfl (fun hw _ => step_indexAddr_sl  Tryz.underlying22 ty32 (Sub.w hw) (Sub.w hw) rfl (gb ?sg1)) ?_
      case sg1 => have hwq := hw; (try simp only [beqB_t, beqB_f, decide_eq_true_eq, decide_eq_false_iff_not, Bool.and_eq_true, Bool.or_eq_true, Bool.and_eq_false_iff, Bool.or_eq_false_iff, Bool.not_eq_true', Bool.not_eq_false', Int.not_lt, Int.not_le, Bool.not_true, Bool.not_false] at hwq); first | assumption | omega
      refine JM_stepG rfl rfl rfl rfl (Gd.plain Sub.rfl) rfl rfl (fun hw _ => step_fieldAddr so32 (Sub.w hw) rfl) ?_
      refine JM_stepG rfl rfl rfl rfl (Gd.plain Sub.rfl) rfl rfl (fun hw _ => step_load_ptr ty3 (Sub.w hw)) ?_
      refine JM_stepG rfl rfl rfl rfl (Gd.plain Sub.rfl) rfl rfl (fun hw _ => step_neq (Sub.w hw) (Sub.w hw)) ?_
      refine JM_step rfl rfl rfl rfl (fun _ => step_pick_or Sub.rfl Sub.rfl) ?_
      refine JM_step rfl rfl rfl rfl (fun _ => step_move Sub.rfl) ?_
      refine JM_stepG rfl rfl rfl rfl (Gd.plain Sub.rfl) rfl rfl (fun hw _ => step_move Sub.rfl) ?_
      refine JM_stepG rfl rfl rfl rfl (Gd.plain Sub.rfl) rfl rfl (fun hw _ => step_move Sub.rfl) ?_
      refine JM_stepG rfl rfl rfl rfl (Gd.plain Sub.rfl) rfl rfl (fun hw _ => step_indexAddr_sl  Tryz.underlying22 ty32 (Sub.w hw) (Sub.w hw) rfl (gb ?sg1)) ?_
      case sg1 => have hwq := hw; (try simp only [beqB_t, beqB_f, decide_eq_true_eq, decide_eq_false_iff_not, Bool.and_eq_true, Bool.or_eq_true, Bool.and_eq_false_iff, Bool.or_eq_false_iff, Bool.not_eq_true', Bool.not_eq_false', Int.not_lt, Int.not_le, Bool.not_true, Bool.not_false] at hwq); first | assumption | omega
      refine JM_stepG rfl rfl rfl rfl (Gd.plain Sub.rfl) rfl rfl (fun hw _ => step_fieldAddr so32 (Sub.w hw) rfl) ?_
      refine JM_stepG rfl rfl rfl rfl (Gd.plain Sub.rfl) rfl rfl (fun hw _ => step_load_ptr ty3 (Sub.w hw)) ?_
      refine JM_stepG rfl rfl rfl rfl (Gd.plain Sub.rfl) rfl rfl (fun hw _ => step_move Sub.rfl) ?_
      refine JM_stepG rfl rfl rfl rfl (Gd.plain Sub.rfl) rfl rfl (fun hw _ => step_move Sub.rfl) ?_
      refine JM_stepG rfl rfl rfl rfl (Gd.plain Sub.rfl) rfl rfl (fun hw _ => step_indexAddr_sl  Tryz.underlying22 ty32 (Sub.w hw) (Sub.w hw) rfl (gb ?sg1)) ?_
      case sg1 => have hwq := hw; (try simp only [beqB_t, beqB_f, decide_eq_true_eq, decide_eq_false_iff_not, Bool.and_eq_true, Bool.or_eq_true, Bool.and_eq_false_iff, Bool.or_eq_false_iff, Bool.not_eq_true', Bool.not_eq_false', Int.not_lt, Int.not_le, Bool.not_true, Bool.not_false] at hwq); first | assumption | omega
      refine JM_stepG rfl rfl rfl rfl (Gd.plain Sub.rfl) rfl rfl (fun hw _ => step_fieldAddr so32 (Sub.w hw) rfl) ?_
      refine JM_stepG rfl rfl rfl rfl (Gd.plain Sub.rfl) rfl rfl (fun hw _ => step_load_ptr ty3 (Sub.w hw)) ?_
      refine JM_stepG rfl rfl rfl rfl (Gd.plain Sub.rfl) rfl rfl (fun hw _ => step_neq (Sub.w hw) (Sub.w hw)) ?_
      refine JM_step rfl rfl rfl rfl (fun _ => step_pick_or Sub.rfl Sub.rfl) ?_
      refine JM_step rfl rfl rfl rfl (fun _ => step_move Sub.rfl) ?_
      refine JM_stepG rfl rfl rfl rfl (Gd.plain Sub.rfl) rfl rfl (fun hw _ => step_move Sub.rfl) ?_
      refine JM_stepG rfl rfl rfl rfl (Gd.plain Sub.rfl) rfl rfl (fun hw _ => step_move Sub.rfl) ?_
      refine JM_stepG rfl rfl rfl rfl (Gd.plain Sub.rfl) rfl rfl (fun hw _ => step_indexAddr_sl  Tryz.underlying22 ty32 (Sub.w hw) (Sub.w hw) rfl (gb ?sg1)) ?_
      case sg1 => have hwq := hw; (try simp only [beqB_t, beqB_f, decide_eq_true_eq, decide_eq_false_iff_not, Bool.and_eq_true, Bool.or_eq_true, Bool.and_eq_false_iff, Bool.or_eq_false_iff, Bool.not_eq_true', Bool.not_eq_false', Int.not_lt, Int.not_le, Bool.not_true, Bool.not_false] at hwq); first | assumption | omega
      refine JM_stepG rfl rfl rfl rfl (Gd.plain Sub.rfl) rfl rfl (fun hw _ => step_fieldAddr so32 (Sub.w hw) rfl) ?_
      refine JM_stepG rfl rfl rfl rfl (Gd.plain Sub.rfl) rfl rfl (fun hw _ => step_load_ptr ty3 (Sub.w hw)) ?_
      refine JM_stepG rfl rfl rfl rfl (Gd.plain Sub.rfl) rfl rfl (fun hw _ => step_move Sub.rfl) ?_
      refine JM_stepG rfl rfl rfl rfl (Gd.plain Sub.rfl) rfl rfl (fun hw _ => step_move Sub.rfl) ?_
      refine JM_stepG rfl rfl rfl rfl (Gd.plain Sub.rfl) rfl rfl (fun hw _ => step_indexAddr_sl  Tryz.underlying22 ty32 (Sub.w hw) (Sub.w hw) rfl (gb ?sg1)) ?_
      case sg1 => have hwq := hw; (try simp only [beqB_t, beqB_f, decide_eq_true_eq, decide_eq_false_iff_not, Bool.and_eq_true, Bool.or_eq_true, Bool.and_eq_false_iff, Bool.or_eq_false_iff, Bool.not_eq_true', Bool.not_eq_false', Int.not_lt, Int.not_le, Bool.not_true, Bool.not_false] at hwq); first | assumption | omega
      refine JM_stepG rfl rfl rfl rfl (Gd.plain Sub.rfl) rfl rfl (fun hw _ => step_fieldAddr so32 (Sub.w hw) rfl) ?_
      refine JM_stepG rfl rfl rfl rfl (Gd.plain Sub.rfl) rfl rfl (fun hw _ => step_load_ptr ty3 (Sub.w hw)) ?_
      refine JM_stepG rfl rfl rfl rfl (Gd.plain Sub.rfl) rfl rfl (fun hw _ => step_neq (Sub.w hw) (Sub.w hw)) ?_
      refine JM_step rfl rfl rfl rfl (fun _ => step_pick_or Sub.rfl Sub.rfl) ?_
      refine JM_step rfl rfl rfl rfl (fun _ => step_move Sub.rfl) ?_
      refine JM_stepG rfl rfl rfl rfl (Gd.plain Sub.rfl) rfl rfl (fun hw _ => step_move Sub.rfl) ?_
      refine JM_stepG rfl rfl rfl rfl (Gd.plain Sub.rfl) rfl rfl (fun hw _ => step_move Sub.rfl) ?_
      refine JM_stepG rfl rfl rfl rfl (Gd.plain Sub.rfl) rfl rfl (fun hw _ => step_indexAddr_sl  Tryz.underlying22 ty32 (Sub.w hw) (Sub.w hw) rfl (gb ?sg1)) ?_
      case sg1 => have hwq := hw; (try simp only [beqB_t, beqB_f, decide_eq_true_eq, decide_eq_false_iff_not, Bool.and_eq_true, Bool.or_eq_true, Bool.and_eq_false_iff, Bool.or_eq_false_iff, Bool.not_eq_true', Bool.not_eq_false', Int.not_lt, Int.not_le, Bool.not_true, Bool.not_false] at hwq); first | assumption | omega
      refine JM_stepG rfl rfl rfl rfl (Gd.plain Sub.rfl) rfl rfl (fun hw _ => step_fieldAddr so32 (Sub.w hw) rfl) ?_
      refine JM_stepG rfl rfl rfl rfl (Gd.plain Sub.rfl) rfl rfl (fun hw _ => step_load_ptr ty24 (Sub.w hw)) ?_
      refine JM_stepG rfl rfl rfl rfl (Gd.plain Sub.rfl) rfl rfl (fun hw _ => step_move Sub.rfl) ?_
      refine JM_stepG rfl rfl rfl rfl (Gd.plain Sub.rfl) rfl rfl (fun hw _ => step_move Sub.rfl) ?_
      refine JM_stepG rfl rfl rfl rfl (Gd.plain Sub.rfl) rfl rfl (fun hw _ => step_indexAddr_sl  Tryz.underlying22 ty32 (Sub.w hw) (Sub.w hw) rfl (gb ?sg1)) ?_
      case sg1 => have hwq := hw; (try simp only [beqB_t, beqB_f, decide_eq_true_eq, decide_eq_false_iff_not, Bool.and_eq_true, Bool.or_eq_true, Bool.and_eq_false_iff, Bool.or_eq_false_iff, Bool.not_eq_true', Bool.not_eq_false', Int.not_lt, Int.not_le, Bool.not_true, Bool.not_false] at hwq); first | assumption | omega
      refine JM_stepG rfl rfl rfl rfl (Gd.plain Sub.rfl) rfl rfl (fun hw _ => step_fieldAddr so32 (Sub.w hw) rfl) ?_
      refine JM_stepG rfl rfl rfl rfl (Gd.plain Sub.rfl) rfl rfl (fun hw _ => step_load_ptr ty24 (Sub.w hw)) ?_
      refine JM_stepG rfl rfl rfl rfl (Gd.plain Sub.rfl) rfl rfl (fun hw _ => step_call0 (Ints_spec (nth l i).Cols (nth l i).Cols hbi.1.1 hbi.1.1) ⟨(Sub.w hw), (Sub.w hw), trivial⟩ Tryz.call21) ?_
      refine JM_stepG rfl rfl rfl rfl (Gd.plain Sub.rfl) rfl rfl (fun hw _ => step_not (Sub.w hw)) ?_
      refine JM_step rfl rfl rfl rfl (fun _ => step_pick_or Sub.rfl Sub.rfl) ?_
      refine JM_step rfl rfl rfl rfl (fun _ => step_move Sub.rfl) ?_
      refine JM_stepG rfl rfl rfl rfl (Gd.plain Sub.rfl) rfl rfl (fun hw _ => step_move Sub.rfl) ?_
      refine JM_stepG rfl rfl rfl rfl (Gd.plain Sub.rfl) rfl rfl (fun hw _ => step_move Sub.rfl) ?_
      refine JM_stepG rfl rfl rfl rfl (Gd.plain Sub.rfl) rfl rfl (fun hw _ => step_indexAddr_sl  Tryz.underlying22 ty32 (Sub.w hw) (Sub.w hw) rfl (gb ?sg1)) ?_
      case sg1 => have hwq := hw; (try simp only [beqB_t, beqB_f, decide_eq_true_eq, decide_eq_false_iff_not, Bool.and_eq_true, Bool.or_eq_true, Bool.and_eq_false_iff, Bool.or_eq_false_iff, Bool.not_eq_true', Bool.not_eq_false', Int.not_lt, Int.not_le, Bool.not_true, Bool.not_false] at hwq); first | assumption | omega
      refine JM_stepG rfl rfl rfl rfl (Gd.plain Sub.rfl) rfl rfl (fun hw _ => step_fieldAddr so32 (Sub.w hw) rfl) ?_
      refine JM_stepG rfl rfl rfl rfl (Gd.plain Sub.rfl) rfl rfl (fun hw _ => step_load_ptr ty29 (Sub.w hw)) ?_
      refine JM_stepG rfl rfl rfl rfl (Gd.plain Sub.rfl) rfl rfl (fun hw _ => step_len_sl Tryz.underlying29 (Sub.w hw)) ?_
      refine JM_stepG rfl rfl rfl rfl (Gd.plain Sub.rfl) rfl rfl (fun hw _ => step_move Sub.rfl) ?_
      refine JM_stepG rfl rfl rfl rfl (Gd.plain Sub.rfl) rfl rfl (fun hw _ => step_move Sub.rfl) ?_
      refine JM_stepG rfl rfl rfl rfl (Gd.plain Sub.rfl) rfl rfl (fun hw _ => step_indexAddr_sl  Tryz.underlying22 ty32 (Sub.w hw) (Sub.w hw) rfl (gb ?sg1)) ?_
      case sg1 => have hwq := hw; (try simp only [beqB_t, beqB_f, decide_eq_true_eq, decide_eq_false_iff_not, Bool.and_eq_true, Bool.or_eq_true, Bool.and_eq_false_iff, Bool.or_eq_false_iff, Bool.not_eq_true', Bool.not_eq_false', Int.not_lt, Int.not_le, Bool.not_true, Bool.not_false] at hwq); first | assumption | omega
      refine JM_stepG rfl rfl rfl rfl (Gd.plain Sub.rfl) rfl rfl (fun hw _ => step_fieldAddr so32 (Sub.w hw) rfl) ?_
      refine JM_stepG rfl rfl rfl rfl (Gd.plain Sub.rfl) rfl rfl (fun hw _ => step_load_ptr ty29 (Sub.w hw)) ?_
      refine JM_stepG rfl rfl rfl rfl (Gd.plain Sub.rfl) rfl rfl (fun hw _ => step_len_sl Tryz.underlying29 (Sub.w hw)) ?_
      refine JM_stepG rfl rfl rfl rfl (Gd.plain Sub.rfl) rfl rfl (fun hw _ => step_neq (Sub.w hw) (Sub.w hw)) ?_
      refine JM_step rfl rfl rfl rfl (fun _ => step_pick_or Sub.rfl Sub.rfl) ?_
      refine JM_step rfl rfl rfl rfl (fun _ => step_move Sub.rfl) ?_
      refine JM_stepG rfl rfl rfl rfl (Gd.plain Sub.rfl) rfl rfl (fun hw _ => step_move Sub.rfl) ?_
      refine JM_stepG rfl rfl rfl rfl (Gd.plain Sub.rfl) rfl rfl (fun hw _ => step_move Sub.rfl) ?_
      refine JM_stepG rfl rfl rfl rfl (Gd.plain Sub.rfl) rfl rfl (fun hw _ => step_indexAddr_sl  Tryz.underlying22 ty32 (Sub.w hw) (Sub.w hw) rfl (gb ?sg1)) ?_
      case sg1 => have hwq := hw; (try simp only [beqB_t, beqB_f, decide_eq_true_eq, decide_eq_false_iff_not, Bool.and_eq_true, Bool.or_eq_true, Bool.and_eq_false_iff, Bool.or_eq_false_iff, Bool.not_eq_true', Bool.not_eq_false', Int.not_lt, Int.not_le, Bool.not_true, Bool.not_false] at hwq); first | assumption | omega
      refine JM_stepG rfl rfl rfl rfl (Gd.plain Sub.rfl) rfl rfl (fun hw _ => step_fieldAddr so32 (Sub.w hw) rfl) ?_
      refine JM_stepG rfl rfl rfl rfl (Gd.plain Sub.rfl) rfl rfl (fun hw _ => step_load_ptr ty24 (Sub.w hw)) ?_
      refine JM_stepG rfl rfl rfl rfl (Gd.plain Sub.rfl) rfl rfl (fun hw _ => step_move Sub.rfl) ?_
      refine JM_stepG rfl rfl rfl rfl (Gd.plain Sub.rfl) rfl rfl (fun hw _ => step_move Sub.rfl) ?_
      refine JM_stepG rfl rfl rfl rfl (Gd.plain Sub.rfl) rfl rfl (fun hw _ => step_indexAddr_sl  Tryz.underlying22 ty32 (Sub.w hw) (Sub.w hw) rfl (gb ?sg1)) ?_
      case sg1 => have hwq := hw; (try simp only [beqB_t, beqB_f, decide_eq_true_eq, decide_eq_false_iff_not, Bool.and_eq_true, Bool.or_eq_true, Bool.and_eq_false_iff, Bool.or_eq_false_iff, Bool.not_eq_true', Bool.not_eq_false', Int.not_lt, Int.not_le, Bool.not_true, Bool.not_false] at hwq); first | assumption | omega
      refine JM_stepG rfl rfl rfl rfl (Gd.plain Sub.rfl) rfl rfl (fun hw _ => step_fieldAddr so32 (Sub.w hw) rfl) ?_
      refine JM_stepG rfl rfl rfl rfl (Gd.plain Sub.rfl) rfl rfl (fun hw _ => step_load_ptr ty24 (Sub.w hw)) ?_
      refine JM_stepG rfl rfl rfl rfl (Gd.plain Sub.rfl) rfl rfl (fun hw _ => step_call0 (Ints_spec (nth l i).Tables (nth l i).Tables hbi.1.2 hbi.1.2) ⟨(Sub.w hw), (Sub.w hw), trivial⟩ Tryz.call21) ?_
      refine JM_stepG rfl rfl rfl rfl (Gd.plain Sub.rfl) rfl rfl (fun hw _ => step_not (Sub.w hw)) ?_
      refine JM_step rfl rfl rfl rfl (fun _ => step_pick_or Sub.rfl Sub.rfl) ?_
      refine JM_step rfl rfl rfl rfl (fun _ => step_move Sub.rfl) ?_
      refine JM_stepG rfl rfl rfl rfl (Gd.plain Sub.rfl) rfl rfl (fun hw _ => step_move Sub.rfl) ?_
      refine JM_stepG rfl rfl rfl rfl (Gd.plain Sub.rfl) rfl rfl (fun hw _ => step_move Sub.rfl) ?_
      refine JM_stepG rfl rfl rfl rfl (Gd.plain Sub.rfl) rfl rfl (fun hw _ => step_indexAddr_sl  Tryz.underlying22 ty32 (Sub.w hw) (Sub.w hw) rfl (gb ?sg1)) ?_
      case sg1 => have hwq := hw; (try simp only [beqB_t, beqB_f, decide_eq_true_eq, decide_eq_false_iff_not, Bool.and_eq_true, Bool.or_eq_true, Bool.and_eq_false_iff, Bool.or_eq_false_iff, Bool.not_eq_true', Bool.not_eq_false', Int.not_lt, Int.not_le, Bool.not_true, Bool.not_false] at hwq); first | assumption | omega
      refine JM_stepG rfl rfl rfl rfl (Gd.plain Sub.rfl) rfl rfl (fun hw _ => step_fieldAddr so32 (Sub.w hw) rfl) ?_
      refine JM_stepG rfl rfl rfl rfl (Gd.plain Sub.rfl) rfl rfl (fun hw _ => step_load_ptr ty30 (Sub.w hw)) ?_
      refine JM_stepG rfl rfl rfl rfl (Gd.plain Sub.rfl) rfl rfl (fun hw _ => step_len_sl Tryz.underlying30 (Sub.w hw)) ?_
      refine JM_stepG rfl rfl rfl rfl (Gd.plain Sub.rfl) rfl rfl (fun hw _ => step_move Sub.rfl) ?_
      refine JM_stepG rfl rfl rfl rfl (Gd.plain Sub.rfl) rfl rfl (fun hw _ => step_move Sub.rfl) ?_
      refine JM_stepG rfl rfl rfl rfl (Gd.plain Sub.rfl) rfl rfl (fun hw _ => step_indexAddr_sl  Tryz.underlying22 ty32 (Sub.w hw) (Sub.w hw) rfl (gb ?sg1)) ?_
      case sg1 => have hwq := hw; (try simp only [beqB_t, beqB_f, decide_eq_true_eq, decide_eq_false_iff_not, Bool.and_eq_true, Bool.or_eq_true, Bool.and_eq_false_iff, Bool.or_eq_false_iff, Bool.not_eq_true', Bool.not_eq_false', Int.not_lt, Int.not_le, Bool.not_true, Bool.not_false] at hwq); first | assumption | omega
      refine JM_stepG rfl rfl rfl rfl (Gd.plain Sub.rfl) rfl rfl (fun hw _ => step_fieldAddr so32 (Sub.w hw) rfl) ?_
      refine JM_stepG rfl rfl rfl rfl (Gd.plain Sub.rfl) rfl rfl (fun hw _ => step_load_ptr ty30 (Sub.w hw)) ?_
      refine JM_stepG rfl rfl rfl rfl (Gd.plain Sub.rfl) rfl rfl (fun hw _ => step_len_sl Tryz.underlying30 (Sub.w hw)) ?_
      refine JM_stepG rfl rfl rfl rfl (Gd.plain Sub.rfl) rfl rfl (fun hw _ => step_neq (Sub.w hw) (Sub.w hw)) ?_
      refine JM_step rfl rfl rfl rfl (fun _ => step_pick_or Sub.rfl Sub.rfl) ?_
      refine JM_nil ?_
      refine J_cond Sub.rfl (fun h152 => ?_) (fun h152 => ?_)
      · try simp only [decide_eq_true_eq, decide_eq_false_iff_not, Bool.and_eq_true, Bool.or_eq_true, Bool.and_eq_false_iff, Bool.or_eq_false_iff, Bool.not_eq_true', Bool.not_eq_false', Int.not_lt, Int.not_le, Bool.not_true, Bool.not_false] at h152
        exfalso; simp [intsB_self] at h152
      · try simp only [decide_eq_true_eq, decide_eq_false_iff_not, Bool.and_eq_true, Bool.or_eq_true, Bool.and_eq_false_iff, Bool.or_eq_false_iff, Bool.not_eq_true', Bool.not_eq_false', Int.not_lt, Int.not_le, Bool.not_true, Bool.not_false] at h152
        refine J_skip ?_
        refine J_seq ?_
        refine J_seq ?_
        refine J_region ?_
        refine JL_step rfl rfl rfl (step_assign Sub.rfl) ?_
        refine JL_nil ?_
        refine J_block ?_
        refine J_loopL (σ := Nat) (fun k => k ≤ (nth l i).Fixed.length) (fun k => upd (upd (upd (upd (upd (upd (upd (upd (upd (upd env0 0 (tSl rRule l)) 1 (tSl rRule l)) 5 (tV (.int .i64 i))) 6 (tV (.int .i64 k))) 13 (tV (.int .i64 i))) 14 (tSl rRule l)) 19 (tSl rRule l)) 20 (tV (.int .i64 i))) 24 (tSl rRule l)) 25 (tV (.int .i64 i))) (fun k => []) (fun k => (nth l i).Fixed.length - k) 0 (by omega) (SubE.upd Sub.rfl (SubE.upd Sub.rfl (SubE.upd Sub.rfl (SubE.upd Sub.rfl (SubE.upd Sub.rfl (SubE.upd Sub.rfl (SubE.upd Sub.rfl (SubE.upd Sub.rfl (SubE.upd Sub.rfl (SubE.upd Sub.rfl SubE.any)))))))))) (LSub.rfl) ?_
        rintro k hk
        refine J_seq ?_
        refine J_seq ?_
        refine J_region ?_
        refine JL_step rfl rfl rfl (step_move Sub.rfl) ?_
        refine JL_step rfl rfl rfl (step_move Sub.rfl) ?_
        refine JL_step rfl rfl rfl (step_move Sub.rfl) ?_
        refine JL_step rfl rfl rfl (step_indexAddr_sl  Tryz.underlying22 ty32 Sub.rfl Sub.rfl rfl (gb ?sg1)) ?_
        case sg1 => first | assumption | omega
        refine JL_step rfl rfl rfl (step_fieldAddr so32 Sub.rfl rfl) ?_
        refine JL_step rfl rfl rfl (step_load_ptr ty29 Sub.rfl) ?_
        refine JL_step rfl rfl rfl (step_len_sl Tryz.underlying29 Sub.rfl) ?_
        refine JL_step rfl rfl rfl (step_lss Sub.rfl Sub.rfl) ?_
        refine JL_nil ?_
        refine J_cond Sub.rfl (fun h160 => ?_) (fun h160 => ?_)
        · try simp only [decide_eq_true_eq, decide_eq_false_iff_not, Bool.and_eq_true, Bool.or_eq_true, Bool.and_eq_false_iff, Bool.or_eq_false_iff, Bool.not_eq_true', Bool.not_eq_false', Int.not_lt, Int.not_le, Bool.not_true, Bool.not_false] at h160
          have hlk : k < (nth l i).Fixed.length := by have h160 : (k : Int) < (nth l i).Fixed.length := h160; omega
          refine J_skip ?_
          refine J_seq ?_
          refine J_block ?_
          refine J_seq ?_
          refine J_draw [⟨0, [0], true⟩, ⟨1, [5], true⟩, ⟨2, [163, 164], true⟩, ⟨3, [165], true⟩, ⟨4, [166], true⟩, ⟨5, [6], true⟩, ⟨6, [167, 168], true⟩, ⟨7, [169], true⟩, ⟨8, [1], true⟩, ⟨9, [5], true⟩, ⟨10, [171, 172], true⟩, ⟨11, [173], true⟩, ⟨12, [174], true⟩, ⟨13, [6], true⟩, ⟨14, [175, 176], true⟩, ⟨15, [177], true⟩, ⟨16, [170, 178], true⟩] rfl (by kernel_rfl) ?_
          refine JM_step rfl rfl rfl rfl (fun _ => step_move Sub.rfl) ?_
          refine JM_step rfl rfl rfl rfl (fun _ => step_move Sub.rfl) ?_
          refine JM_step rfl rfl rfl rfl (fun _ => step_indexAddr_sl  Tryz.underlying22 ty32 Sub.rfl Sub.rfl rfl (gb ?sg1)) ?_
          case sg1 => first | assumption | omega
          refine JM_step rfl rfl rfl rfl (fun _ => step_fieldAddr so32 Sub.rfl rfl) ?_
          refine JM_step rfl rfl rfl rfl (fun _ => step_load_ptr ty29 Sub.rfl) ?_
          refine JM_step rfl rfl rfl rfl (fun _ => step_move Sub.rfl) ?_
          refine JM_step rfl rfl rfl rfl (fun _ => step_indexAddr_sl  Tryz.underlying29 ty64 Sub.rfl Sub.rfl rfl (gb ?sg1)) ?_
          case sg1 => exact hlk
          refine JM_step rfl rfl rfl rfl (fun _ => step_load_ptr ty64 Sub.rfl) ?_
          refine JM_step rfl rfl rfl rfl (fun _ => step_move Sub.rfl) ?_
          refine JM_step rfl rfl rfl rfl (fun _ => step_move Sub.rfl) ?_
          refine JM_step rfl rfl rfl rfl (fun _ => step_indexAddr_sl  Tryz.underlying22 ty32 Sub.rfl Sub.rfl rfl (gb ?sg1)) ?_
          case sg1 => first | assumption | omega
          refine JM_step rfl rfl rfl rfl (fun _ => step_fieldAddr so32 Sub.rfl rfl) ?_
          refine JM_step rfl rfl rfl rfl (fun _ => step_load_ptr ty29 Sub.rfl) ?_
          refine JM_step rfl rfl rfl rfl (fun _ => step_move Sub.rfl) ?_
          refine JM_step rfl rfl rfl rfl (fun _ => step_indexAddr_sl  Tryz.underlying29 ty64 Sub.rfl Sub.rfl rfl (gb ?sg1)) ?_
          case sg1 => exact hlk
          refine JM_step rfl rfl rfl rfl (fun _ => step_load_ptr ty64 Sub.rfl) ?_
          refine JM_step rfl rfl rfl rfl (fun _ => step_neq_same (cs := cFixed (nth (nth l i).Fixed k)) sub_fixed sub_fixed ge_fixed (eq_fixed _)) ?_
          refine JM_nil ?_
          refine J_cond Sub.rfl (fun h179 => ?_) (fun h179 => ?_)
          · try simp only [decide_eq_true_eq, decide_eq_false_iff_not, Bool.and_eq_true, Bool.or_eq_true, Bool.and_eq_false_iff, Bool.or_eq_false_iff, Bool.not_eq_true', Bool.not_eq_false', Int.not_lt, Int.not_le, Bool.not_true, Bool.not_false] at h179
            cases h179
          · try simp only [decide_eq_true_eq, decide_eq_false_iff_not, Bool.and_eq_true, Bool.or_eq_true, Bool.and_eq_false_iff, Bool.or_eq_false_iff, Bool.not_eq_true', Bool.not_eq_false', Int.not_lt, Int.not_le, Bool.not_true, Bool.not_false] at h179
            refine J_skip ?_
            refine J_region ?_
            refine JL_step rfl rfl rfl (step_move Sub.rfl) ?_
            refine JL_step rfl rfl rfl (step_add Sub.rfl Sub.rfl ?sg1) ?_
            case sg1 => unfold in64; omega
            refine JL_step rfl rfl rfl (step_assign Sub.rfl) ?_
            refine JL_nil ?_
            refine K_againL (σ := Nat) (s := k) (k + 1) (by first | omega | (dsimp only; omega) | (simp_all; omega)) (by omega) (SubE.upd Sub.rfl (SubE.upd Sub.rfl (SubE.upd Sub.rfl (SubE.upd Sub.rfl (SubE.upd Sub.rfl (SubE.upd Sub.rfl (SubE.upd Sub.rfl (SubE.upd Sub.rfl (SubE.upd Sub.rfl (SubE.upd Sub.rfl SubE.any)))))))))) (LSub.rfl)
        · try simp only [decide_eq_true_eq, decide_eq_false_iff_not, Bool.and_eq_true, Bool.or_eq_true, Bool.and_eq_false_iff, Bool.or_eq_false_iff, Bool.not_eq_true', Bool.not_eq_false', Int.not_lt, Int.not_le, Bool.not_true, Bool.not_false] at h160
          refine J_exit ?_
          refine J_seq ?_
          refine J_region ?_
          refine JL_step rfl rfl rfl (step_assign Sub.rfl) ?_
          refine JL_nil ?_
          refine J_block ?_
          refine J_loopL (σ := Nat) (fun m => m ≤ (nth l i).Tests.length) (fun m => upd (upd (upd (upd (upd (upd (upd (upd (upd (upd (upd (upd (upd (upd env0 0 (tSl rRule l)) 1 (tSl rRule l)) 5 (tV (.int .i64 i))) 6 (tV (.int .i64 k))) 7 (tV (.int .i64 m))) 13 (tV (.int .i64 i))) 14 (tSl rRule l)) 19 (tSl rRule l)) 20 (tV (.int .i64 i))) 24 (tSl rRule l)) 25 (tV (.int .i64 i))) 153 (tV (.int .i64 k))) 154 (tSl rRule l)) 155 (tV (.int .i64 i))) (fun m => []) (fun m => (nth l i).Tests.length - m) 0 (by omega) (SubE.upd Sub.rfl (SubE.upd Sub.rfl (SubE.upd Sub.rfl (SubE.upd Sub.rfl (SubE.upd Sub.rfl (SubE.upd Sub.rfl (SubE.upd Sub.rfl (SubE.upd Sub.rfl (SubE.upd Sub.rfl (SubE.upd Sub.rfl (SubE.upd Sub.rfl (SubE.upd Sub.rfl (SubE.upd Sub.rfl (SubE.upd Sub.rfl SubE.any)))))))))))))) (LSub.rfl) ?_
          rintro m hm
          refine J_seq ?_
          refine J_seq ?_
          refine J_region ?_
          refine JL_step rfl rfl rfl (step_move Sub.rfl) ?_
          refine JL_step rfl rfl rfl (step_move Sub.rfl) ?_
          refine JL_step rfl rfl rfl (step_move Sub.rfl) ?_
          refine JL_step rfl rfl rfl (step_indexAddr_sl  Tryz.underlying22 ty32 Sub.rfl Sub.rfl rfl (gb ?sg1)) ?_
          case sg1 => first | assumption | omega
          refine JL_step rfl rfl rfl (step_fieldAddr so32 Sub.rfl rfl) ?_
          refine JL_step rfl rfl rfl (step_load_ptr ty30 Sub.rfl) ?_
          refine JL_step rfl rfl rfl (step_len_sl Tryz.underlying30 Sub.rfl) ?_
          refine JL_step rfl rfl rfl (step_lss Sub.rfl Sub.rfl) ?_
          refine JL_nil ?_
          refine J_cond Sub.rfl (fun h187 => ?_) (fun h187 => ?_)
          · try simp only [decide_eq_true_eq, decide_eq_false_iff_not, Bool.and_eq_true, Bool.or_eq_true, Bool.and_eq_false_iff, Bool.or_eq_false_iff, Bool.not_eq_true', Bool.not_eq_false', Int.not_lt, Int.not_le, Bool.not_true, Bool.not_false] at h187
            have hlm : m < (nth l i).Tests.length := by have h187 : (m : Int) < (nth l i).Tests.length := h187; omega
            refine J_skip ?_
            refine J_seq ?_
            refine J_block ?_
            refine J_seq ?_
            refine J_draw [⟨0, [0], true⟩, ⟨1, [5], true⟩, ⟨2, [190, 191], true⟩, ⟨3, [192], true⟩, ⟨4, [193], true⟩, ⟨5, [7], true⟩, ⟨6, [194, 195], true⟩, ⟨7, [196], true⟩, ⟨8, [1], true⟩, ⟨9, [5], true⟩, ⟨10, [198, 199], true⟩, ⟨11, [200], true⟩, ⟨12, [201], true⟩, ⟨13, [7], true⟩, ⟨14, [202, 203], true⟩, ⟨15, [204], true⟩, ⟨16, [197, 205], true⟩] rfl (by kernel_rfl) ?_
            refine JM_step rfl rfl rfl rfl (fun _ => step_move Sub.rfl) ?_
            refine JM_step rfl rfl rfl rfl (fun _ => step_move Sub.rfl) ?_
            refine JM_step rfl rfl rfl rfl (fun _ => step_indexAddr_sl  Tryz.underlying22 ty32 Sub.rfl Sub.rfl rfl (gb ?sg1)) ?_
            case sg1 => first | assumption | omega
            refine JM_step rfl rfl rfl rfl (fun _ => step_fieldAddr so32 Sub.rfl rfl) ?_
            refine JM_step rfl rfl rfl rfl (fun _ => step_load_ptr ty30 Sub.rfl) ?_
            refine JM_step rfl rfl rfl rfl (fun _ => step_move Sub.rfl) ?_
            refine JM_step rfl rfl rfl rfl (fun _ => step_indexAddr_sl  Tryz.underlying30 ty66 Sub.rfl Sub.rfl rfl (gb ?sg1)) ?_
            case sg1 => exact hlm
            refine JM_step rfl rfl rfl rfl (fun _ => step_load_ptr ty66 Sub.rfl) ?_
            refine JM_step rfl rfl rfl rfl (fun _ => step_move Sub.rfl) ?_
            refine JM_step rfl rfl rfl rfl (fun _ => step_move Sub.rfl) ?_
            refine JM_step rfl rfl rfl rfl (fun _ => step_indexAddr_sl  Tryz.underlying22 ty32 Sub.rfl Sub.rfl rfl (gb ?sg1)) ?_
            case sg1 => first | assumption | omega
            refine JM_step rfl rfl rfl rfl (fun _ => step_fieldAddr so32 Sub.rfl rfl) ?_
            refine JM_step rfl rfl rfl rfl (fun _ => step_load_ptr ty30 Sub.rfl) ?_
            refine JM_step rfl rfl rfl rfl (fun _ => step_move Sub.rfl) ?_
            refine JM_step rfl rfl rfl rfl (fun _ => step_indexAddr_sl  Tryz.underlying30 ty66 Sub.rfl Sub.rfl rfl (gb ?sg1)) ?_
            case sg1 => exact hlm
            refine JM_step rfl rfl rfl rfl (fun _ => step_load_ptr ty66 Sub.rfl) ?_
            refine JM_step rfl rfl rfl rfl (fun _ => step_neq_same (cs := cTest (nth (nth l i).Tests m)) sub_test sub_test ge_test (eq_test _)) ?_
            refine JM_nil ?_
            refine J_cond Sub.rfl (fun h206 => ?_) (fun h206 => ?_)
            · try simp only [decide_eq_true_eq, decide_eq_false_iff_not, Bool.and_eq_true, Bool.or_eq_true, Bool.and_eq_false_iff, Bool.or_eq_false_iff, Bool.not_eq_true', Bool.not_eq_false', Int.not_lt, Int.not_le, Bool.not_true, Bool.not_false] at h206
              cases h206
            · try simp only [decide_eq_true_eq, decide_eq_false_iff_not, Bool.and_eq_true, Bool.or_eq_true, Bool.and_eq_false_iff, Bool.or_eq_false_iff, Bool.not_eq_true', Bool.not_eq_false', Int.not_lt, Int.not_le, Bool.not_true, Bool.not_false] at h206
              refine J_skip ?_
              refine J_region ?_
              refine JL_step rfl rfl rfl (step_move Sub.rfl) ?_
              refine JL_step rfl rfl rfl (step_add Sub.rfl Sub.rfl ?sg1) ?_
              case sg1 => unfold in64; omega
              refine JL_step rfl rfl rfl (step_assign Sub.rfl) ?_
              refine JL_nil ?_
              refine K_againL (σ := Nat) (s := m) (m + 1) (by first | omega | (dsimp only; omega) | (simp_all; omega)) (by omega) (SubE.upd Sub.rfl (SubE.upd Sub.rfl (SubE.upd Sub.rfl (SubE.upd Sub.rfl (SubE.upd Sub.rfl (SubE.upd Sub.rfl (SubE.upd Sub.rfl (SubE.upd Sub.rfl (SubE.upd Sub.rfl (SubE.upd Sub.rfl (SubE.upd Sub.rfl (SubE.upd Sub.rfl (SubE.upd Sub.rfl (SubE.upd Sub.rfl SubE.any)))))))))))))) (LSub.rfl)
          · try simp only [decide_eq_true_eq, decide_eq_false_iff_not, Bool.and_eq_true, Bool.or_eq_true, Bool.and_eq_false_iff, Bool.or_eq_false_iff, Bool.not_eq_true', Bool.not_eq_false', Int.not_lt, Int.not_le, Bool.not_true, Bool.not_false] at h187
            refine J_exit ?_
            refine J_region ?_
            refine JL_step rfl rfl rfl (step_move Sub.rfl) ?_
            refine JL_step rfl rfl rfl (step_add Sub.rfl Sub.rfl ?sg1) ?_
            case sg1 => unfold in64; omega
            refine JL_step rfl rfl rfl (step_assign Sub.rfl) ?_
            refine JL_nil ?_
            refine K_againL (σ := Nat) (s := i) (i + 1) (by first | omega | (dsimp only; omega) | (simp_all; omega)) (by omega) (SubE.upd Sub.rfl (SubE.upd Sub.rfl (SubE.upd Sub.rfl SubE.any))) (LSub.rfl)
    · try simp only [decide_eq_true_eq, decide_eq_false_iff_not, Bool.and_eq_true, Bool.or_eq_true, Bool.and_eq_false_iff, Bool.or_eq_false_iff, Bool.not_eq_true', Bool.not_eq_false', Int.not_lt, Int.not_le, Bool.not_true, Bool.not_false] at h16
      refine J_exit ?_
      refine J_seq ?_
      refine J_region ?_
      refine JL_step rfl rfl rfl (step_assign Sub.rfl) ?_
      refine JL_nil ?_
      refine J_ret ?_
      refine K_retv (rv := .tmp 4) rfl () (.tmp Sub.rfl) (Sub.bool ?_)
      rfl
theorem SameR_spec (a b : GGraph) (h1 : a.Cost.length ≤ 1000000000000) (h2 : b.Cost.length ≤ 1000000000000) (h3 : a.Edges.length ≤ 1000000000000) (h4 : b.Edges.length ≤ 1000000000000) (h5 : ∀ x ∈ a.Edges, x.length ≤ 1000000000000) (h6 : ∀ x ∈ b.Edges, x.length ≤ 1000000000000) : Fun1 Tryz.prog 20 [rGraph.ty a, rGraph.ty b] (tV (.bool (decide (a.N = b.N) && intsB a.Cost b.Cost && setsB a.Edges b.Edges))) := by
  refine Spec.enter Tryz.func20 rfl rfl fun h0 w0 fr0 => ?_
  refine J_seq ?_
  refine J_region ?_
  refine JL_step rfl rfl rfl (step_box (R := rGraph) Sub.rfl) ?_
  refine JL_step rfl rfl rfl (step_box (R := rGraph) Sub.rfl) ?_
  refine JL_step rfl rfl rfl (step_assign Sub.rfl) ?_
  refine JL_nil ?_
  refine J_seq ?_
  refine J_region ?_
  refine JL_step rfl rfl rfl (step_fieldAddr so38 Sub.rfl rfl) ?_
  refine JL_step rfl rfl rfl (step_load_ptr ty3 Sub.rfl) ?_
  refine JL_step rfl rfl rfl (step_fieldAddr so38 Sub.rfl rfl) ?_
  refine JL_step rfl rfl rfl (step_load_ptr ty3 Sub.rfl) ?_
  refine JL_step rfl rfl rfl (step_eql Sub.rfl Sub.rfl) ?_
  refine JL_step rfl rfl rfl (step_move Sub.rfl) ?_
  refine JL_stepG rfl rfl rfl (Gd.plain Sub.rfl) rfl rfl (fun hw => step_fieldAddr so38 Sub.rfl rfl) ?_
  refine JL_stepG rfl rfl rfl (Gd.plain Sub.rfl) rfl rfl (fun hw => step_load_ptr ty24 (Sub.w hw)) ?_
  refine JL_stepG rfl rfl rfl (Gd.plain Sub.rfl) rfl rfl (fun hw => step_fieldAddr so38 Sub.rfl rfl) ?_
  refine JL_stepG rfl rfl rfl (Gd.plain Sub.rfl) rfl rfl (fun hw => step_load_ptr ty24 (Sub.w hw)) ?_
  refine JL_stepG rfl rfl rfl (Gd.plain Sub.rfl) rfl rfl (fun hw => step_call0 (Ints_spec _ _ h1 h2) ⟨(Sub.w hw), (Sub.w hw), trivial⟩ Tryz.call21) ?_
  refine JL_step rfl rfl rfl (step_pick_and Sub.rfl Sub.rfl) ?_
  refine JL_step rfl rfl rfl (step_move Sub.rfl) ?_
  refine JL_stepG rfl rfl rfl (Gd.plain Sub.rfl) rfl rfl (fun hw => step_fieldAddr so38 Sub.rfl rfl) ?_
  refine JL_stepG rfl rfl rfl (Gd.plain Sub.rfl) rfl rfl (fun hw => step_load_ptr ty33 (Sub.w hw)) ?_
  refine JL_stepG rfl rfl rfl (Gd.plain Sub.rfl) rfl rfl (fun hw => step_fieldAddr so38 Sub.rfl rfl) ?_
  refine JL_stepG rfl rfl rfl (Gd.plain Sub.rfl) rfl rfl (fun hw => step_load_ptr ty33 (Sub.w hw)) ?_
  refine JL_stepG rfl rfl rfl (Gd.plain Sub.rfl) rfl rfl (fun hw => step_call0 (Sets_spec _ _ h3 h4 h5 h6) ⟨(Sub.w hw), (Sub.w hw), trivial⟩ Tryz.call19) ?_
  refine JL_step rfl rfl rfl (step_pick_and Sub.rfl Sub.rfl) ?_
  refine JL_step rfl rfl rfl (step_assign Sub.rfl) ?_
  refine JL_nil ?_
  refine J_ret ?_
  refine K_retv (rv := .tmp 4) rfl () (.tmp Sub.rfl) Sub.rfl
end Lg

namespace Lg
open Go Go.Proofs


theorem low_ok2 {rules : List GRule} {facts : List GFact} (HP : FewP rules facts) {r : GRule} (hr : r ∈ rules) : ∀ d ∈ lowerR r, (d.Cols.length ≤ 1000000000000 ∧ d.Tables.length ≤ 1000000000000) ∧ d.Fixed.length ≤ 1000000000000 ∧ d.Tests.length ≤ 1000000000000 := fun d hd => by
  have h1 := lowerR_ct hd
  have h2 := lowerR_deny hd
  have h3 := HP.rr r hr
  omega
theorem same_self (G : GGraph) : (decide (G.N = G.N) && intsB G.Cost G.Cost && setsB G.Edges G.Edges) = true := by
  rw [intsB_iff.2 rfl, setsB_iff.2 rfl]; simp
theorem cost_len {rules : List GRule} {facts : List GFact} : (confG rules facts).Cost.length ≤ facts.length := by
  unfold confG
  split
  · simp [zGraph]
  · simp

theorem MatchesReference_spec (rules : List GRule) (facts : List GFact) (set : List Int) : Fun1 Tryz.prog 3 [tSl rRule rules, tSl rFact facts, tSl rInt set] (tV (.bool true)) := by
  refine Spec.enter Tryz.func3 rfl rfl fun h0 w0 fr0 => ?_
  refine J_seq ?_
  refine J_region ?_
  refine JL_step rfl rfl rfl (step_assign Sub.rfl) ?_
  refine JL_nil ?_
  refine J_seq ?_
  refine J_region ?_
  refine JL_step rfl rfl rfl (step_call0 (head_spec) trivial Tryz.call10) ?_
  refine JL_step rfl rfl rfl (step_assign Sub.rfl) ?_
  refine JL_nil ?_
  refine J_seq ?_
  refine J_seq ?_
  refine J_region ?_
  refine JL_step rfl rfl rfl (step_move Sub.rfl) ?_
  refine JL_step rfl rfl rfl (step_move Sub.rfl) ?_
  refine JL_step rfl rfl rfl (step_call0 (Few_spec _ _ _ (by omega)) ⟨Sub.rfl, Sub.rfl, Sub.rfl, trivial⟩ Tryz.call11) ?_
  refine JL_step rfl rfl rfl (step_not Sub.rfl) ?_
  refine JL_step rfl rfl rfl (step_move Sub.rfl) ?_
  refine JL_stepG rfl rfl rfl (Gd.plain Sub.rfl) rfl rfl (fun hw => step_move Sub.rfl) ?_
  refine JL_stepG rfl rfl rfl (Gd.plain Sub.rfl) rfl rfl (fun hw => step_len_sl Tryz.underlying24 (Sub.w hw)) ?_
  refine JL_stepG rfl rfl rfl (Gd.plain Sub.rfl) rfl rfl (fun hw => step_gtr (Sub.w hw) Sub.rfl) ?_
  refine JL_step rfl rfl rfl (step_pick_or Sub.rfl Sub.rfl) ?_
  refine JL_nil ?_
  refine J_cond Sub.rfl (fun h27 => ?_) (fun h27 => ?_)
  · try simp only [decide_eq_true_eq, decide_eq_false_iff_not, Bool.and_eq_true, Bool.or_eq_true, Bool.and_eq_false_iff, Bool.or_eq_false_iff, Bool.not_eq_true', Bool.not_eq_false', Int.not_lt, Int.not_le, Bool.not_true, Bool.not_false] at h27
    refine J_seq ?_
    refine J_region ?_
    refine JL_step rfl rfl rfl (step_move Sub.rfl) ?_
    refine JL_step rfl rfl rfl (step_assign Sub.rfl) ?_
    refine JL_nil ?_
    refine J_ret ?_
    refine K_retv (rv := .tmp 6) rfl () (.tmp Sub.rfl) (Sub.bool ?_)
    rfl
  · try simp only [decide_eq_true_eq, decide_eq_false_iff_not, Bool.and_eq_true, Bool.or_eq_true, Bool.and_eq_false_iff, Bool.or_eq_false_iff, Bool.not_eq_true', Bool.not_eq_false', Int.not_lt, Int.not_le, Bool.not_true, Bool.not_false] at h27
    have HP := FewP.of h27.1
    have H := VHyp.few HP
    have hfl := HP.fl
    have hrl := HP.rl
    have hsl : set.length ≤ 20 := by omega
    have hdl := danM_len rules facts
    have hr : ∀ r ∈ rules, (r.Fixed.length ≤ 1000000 ∧ r.Cols.length ≤ 1000000) ∧ r.Tests.length ≤ 900000 := fun r h => by have := HP.rr r h; omega
    refine J_skip ?_
    refine J_seq ?_
    refine J_seq ?_
    refine J_region ?_
    refine JL_step rfl rfl rfl (step_assign Sub.rfl) ?_
    refine JL_nil ?_
    refine J_block ?_
    refine J_loopL (σ := Nat) (fun i => i ≤ rules.length) (fun i => upd (upd (upd (upd (upd env0 0 (tSl rRule rules)) 1 (tSl rFact facts)) 2 (tSl rInt set)) 7 (tV (.bool true))) 8 (tV (.int .i64 i))) (fun i => []) (fun i => rules.length - i) 0 (by omega) (SubE.upd Sub.rfl (SubE.upd Sub.rfl (SubE.upd Sub.rfl (SubE.upd Sub.rfl (SubE.upd Sub.rfl SubE.any))))) (LSub.rfl) ?_
    rintro i hi
    refine J_seq ?_
    refine J_seq ?_
    refine J_region ?_
    refine JL_step rfl rfl rfl (step_move Sub.rfl) ?_
    refine JL_step rfl rfl rfl (step_move Sub.rfl) ?_
    refine JL_step rfl rfl rfl (step_len_sl Tryz.underlying22 Sub.rfl) ?_
    refine JL_step rfl rfl rfl (step_lss Sub.rfl Sub.rfl) ?_
    refine JL_nil ?_
    refine J_cond Sub.rfl (fun h32 => ?_) (fun h32 => ?_)
    · try simp only [decide_eq_true_eq, decide_eq_false_iff_not, Bool.and_eq_true, Bool.or_eq_true, Bool.and_eq_false_iff, Bool.or_eq_false_iff, Bool.not_eq_true', Bool.not_eq_false', Int.not_lt, Int.not_le, Bool.not_true, Bool.not_false] at h32
      have hlt : i < rules.length := by omega
      refine J_skip ?_
      refine J_seq ?_
      refine J_block ?_
      refine J_seq ?_
      refine J_draw [⟨0, [0], true⟩, ⟨1, [8], true⟩, ⟨2, [35, 36], true⟩, ⟨3, [37], true⟩, ⟨4, [38], true⟩, ⟨5, [0], true⟩, ⟨6, [8], true⟩, ⟨7, [40, 41], true⟩, ⟨8, [42], true⟩, ⟨9, [43], true⟩, ⟨10, [39, 44], true⟩, ⟨11, [45], true⟩] rfl (by kernel_rfl) ?_
      refine JM_step rfl rfl rfl rfl (fun _ => step_move Sub.rfl) ?_
      refine JM_step rfl rfl rfl rfl (fun _ => step_move Sub.rfl) ?_
      refine JM_step rfl rfl rfl rfl (fun _ => step_indexAddr_sl  Tryz.underlying22 ty32 Sub.rfl Sub.rfl rfl (gb ?sg1)) ?_
      case sg1 => first | assumption | omega
      refine JM_step rfl rfl rfl rfl (fun _ => step_load_ptr ty32 Sub.rfl) ?_
      refine JM_step rfl rfl rfl rfl (fun _ => step_call0 (Lower_spec (nth rules i) (by have := HP.rr _ (nth_mem hlt); omega) (by have := HP.rr _ (nth_mem hlt); omega)) ⟨Sub.rfl, trivial⟩ Tryz.call13) ?_
      refine JM_step rfl rfl rfl rfl (fun _ => step_move Sub.rfl) ?_
      refine JM_step rfl rfl rfl rfl (fun _ => step_move Sub.rfl) ?_
      refine JM_step rfl rfl rfl rfl (fun _ => step_indexAddr_sl  Tryz.underlying22 ty32 Sub.rfl Sub.rfl rfl (gb ?sg1)) ?_
      case sg1 => first | assumption | omega
      refine JM_step rfl rfl rfl rfl (fun _ => step_load_ptr ty32 Sub.rfl) ?_
      refine JM_step rfl rfl rfl rfl (fun _ => step_call0 (LowerR_spec (nth rules i) (by have := HP.rr _ (nth_mem hlt); omega) (by have := HP.rr _ (nth_mem hlt); omega)) ⟨Sub.rfl, trivial⟩ Tryz.call14) ?_
      refine JM_step rfl rfl rfl rfl (fun _ => step_call0 (RulesR_spec (lowerR (nth rules i)) (Nat.le_trans (lowerR_len _) (by decide)) (low_ok2 HP (nth_mem hlt))) ⟨Sub.rfl, Sub.rfl, trivial⟩ Tryz.call12) ?_
      refine JM_step rfl rfl rfl rfl (fun _ => step_not Sub.rfl) ?_
      refine JM_nil ?_
      refine J_cond Sub.rfl (fun h46 => ?_) (fun h46 => ?_)
      · try simp only [decide_eq_true_eq, decide_eq_false_iff_not, Bool.and_eq_true, Bool.or_eq_true, Bool.and_eq_false_iff, Bool.or_eq_false_iff, Bool.not_eq_true', Bool.not_eq_false', Int.not_lt, Int.not_le, Bool.not_true, Bool.not_false] at h46
        cases h46
      · try simp only [decide_eq_true_eq, decide_eq_false_iff_not, Bool.and_eq_true, Bool.or_eq_true, Bool.and_eq_false_iff, Bool.or_eq_false_iff, Bool.not_eq_true', Bool.not_eq_false', Int.not_lt, Int.not_le, Bool.not_true, Bool.not_false] at h46
        refine J_skip ?_
        refine J_region ?_
        refine JL_step rfl rfl rfl (step_move Sub.rfl) ?_
        refine JL_step rfl rfl rfl (step_add Sub.rfl Sub.rfl ?sg1) ?_
        case sg1 => unfold in64; omega
        refine JL_step rfl rfl rfl (step_assign Sub.rfl) ?_
        refine JL_nil ?_
        refine K_againL (σ := Nat) (s := i) (i + 1) (by first | omega | (dsimp only; omega) | (simp_all; omega)) (by omega) (SubE.upd Sub.rfl (SubE.upd Sub.rfl (SubE.upd Sub.rfl (SubE.upd Sub.rfl (SubE.upd Sub.rfl SubE.any))))) (LSub.rfl)
    · try simp only [decide_eq_true_eq, decide_eq_false_iff_not, Bool.and_eq_true, Bool.or_eq_true, Bool.and_eq_false_iff, Bool.or_eq_false_iff, Bool.not_eq_true', Bool.not_eq_false', Int.not_lt, Int.not_le, Bool.not_true, Bool.not_false] at h32
      refine J_exit ?_
      refine J_seq ?_
      refine J_region ?_
      refine JL_step rfl rfl rfl (step_move Sub.rfl) ?_
      refine JL_step rfl rfl rfl (step_move Sub.rfl) ?_
      refine JL_step rfl rfl rfl (step_call0 (Viol_spec H) ⟨Sub.rfl, Sub.rfl, trivial⟩ Tryz.call15) ?_
      refine JL_step rfl rfl rfl (step_move Sub.rfl) ?_
      refine JL_step rfl rfl rfl (step_extract Sub.rfl rfl) ?_
      refine JL_step rfl rfl rfl (step_extract Sub.rfl rfl) ?_
      refine JL_step rfl rfl rfl (step_assign Sub.rfl) ?_
      refine JL_step rfl rfl rfl (step_assign Sub.rfl) ?_
      refine JL_nil ?_
      refine J_seq ?_
      refine J_region ?_
      refine JL_step rfl rfl rfl (step_move Sub.rfl) ?_
      refine JL_step rfl rfl rfl (step_move Sub.rfl) ?_
      refine JL_step rfl rfl rfl (step_call0 (ViolationsR_spec rules facts H hfl hr) ⟨Sub.rfl, Sub.rfl, trivial⟩ Tryz.call16) ?_
      refine JL_step rfl rfl rfl (step_move Sub.rfl) ?_
      refine JL_step rfl rfl rfl (step_extract Sub.rfl rfl) ?_
      refine JL_step rfl rfl rfl (step_extract Sub.rfl rfl) ?_
      refine JL_step rfl rfl rfl (step_assign Sub.rfl) ?_
      refine JL_step rfl rfl rfl (step_assign Sub.rfl) ?_
      refine JL_nil ?_
      refine J_seq ?_
      refine J_region ?_
      refine JL_step rfl rfl rfl (step_move Sub.rfl) ?_
      refine JL_step rfl rfl rfl (step_move Sub.rfl) ?_
      refine JL_step rfl rfl rfl (step_call0 (Conflicts_spec rules facts H) ⟨Sub.rfl, Sub.rfl, trivial⟩ Tryz.call17) ?_
      refine JL_step rfl rfl rfl (step_move Sub.rfl) ?_
      refine JL_step rfl rfl rfl (step_extract Sub.rfl rfl) ?_
      refine JL_step rfl rfl rfl (step_extract Sub.rfl rfl) ?_
      refine JL_stepX rfl rfl rfl (step_alloc (fun w => Tryz.zeroValue38 w) zr38) fun v13 => ?_
      refine JL_stepU rfl rfl (step_store_box ty38 Sub.rfl (Sub.trans Sub.rfl sub_graph) (by first | exact Sel.take (Sel.none _) | exact Sel.skip (Sel.take (Sel.none _)) | exact Sel.skip (Sel.skip (Sel.take (Sel.none _))) | exact Sel.skip (Sel.skip (Sel.skip (Sel.take (Sel.none _)))) | exact Sel.skip (Sel.skip (Sel.skip (Sel.skip (Sel.take (Sel.none _))))))) fun _ => ?_
      refine JL_freeze (t := 13) (Sel.take (Sel.none _)) Frz.box ?_
      refine JL_step rfl rfl rfl (step_assign Sub.rfl) ?_
      refine JL_nil ?_
      refine J_seq ?_
      refine J_region ?_
      refine JL_step rfl rfl rfl (step_move Sub.rfl) ?_
      refine JL_step rfl rfl rfl (step_move Sub.rfl) ?_
      refine JL_step rfl rfl rfl (step_call0 (ConflictsR_spec rules facts H hfl hr) ⟨Sub.rfl, Sub.rfl, trivial⟩ Tryz.call18) ?_
      refine JL_step rfl rfl rfl (step_move Sub.rfl) ?_
      refine JL_step rfl rfl rfl (step_extract Sub.rfl rfl) ?_
      refine JL_step rfl rfl rfl (step_extract Sub.rfl rfl) ?_
      refine JL_stepX rfl rfl rfl (step_alloc (fun w => Tryz.zeroValue38 w) zr38) fun v15 => ?_
      refine JL_stepU rfl rfl (step_store_box ty38 Sub.rfl Sub.rfl (by first | exact Sel.take (Sel.none _) | exact Sel.skip (Sel.take (Sel.none _)) | exact Sel.skip (Sel.skip (Sel.take (Sel.none _))) | exact Sel.skip (Sel.skip (Sel.skip (Sel.take (Sel.none _)))) | exact Sel.skip (Sel.skip (Sel.skip (Sel.skip (Sel.take (Sel.none _))))))) fun _ => ?_
      refine JL_freeze (t := 15) (Sel.take (Sel.none _)) Frz.box ?_
      refine JL_step rfl rfl rfl (step_assign Sub.rfl) ?_
      refine JL_nil ?_
      refine J_seq ?_
      refine J_region ?_
      refine JL_step rfl rfl rfl (step_move Sub.rfl) ?_
      refine JL_step rfl rfl rfl (step_move Sub.rfl) ?_
      refine JL_step rfl rfl rfl (step_eql Sub.rfl Sub.rfl) ?_
      refine JL_step rfl rfl rfl (step_move Sub.rfl) ?_
      refine JL_stepG rfl rfl rfl (Gd.plain Sub.rfl) rfl rfl (fun hw => step_move Sub.rfl) ?_
      refine JL_stepG rfl rfl rfl (Gd.plain Sub.rfl) rfl rfl (fun hw => step_move Sub.rfl) ?_
      refine JL_stepG rfl rfl rfl (Gd.plain Sub.rfl) rfl rfl (fun hw => step_call0 (Sets_spec _ _ (Nat.le_trans (vio_len H) (by omega)) (Nat.le_trans (vio_len H) (by omega)) (fun x hx => Nat.le_trans (vio_len3 H x hx) (by omega)) (fun x hx => Nat.le_trans (vio_len3 H x hx) (by omega))) ⟨(Sub.trans (Sub.w hw) Sub.ofEE), Sub.w hw, trivial⟩ Tryz.call19) ?_
      refine JL_step rfl rfl rfl (step_pick_and Sub.rfl Sub.rfl) ?_
      refine JL_step rfl rfl rfl (step_move Sub.rfl) ?_
      refine JL_stepG rfl rfl rfl (Gd.plain Sub.rfl) rfl rfl (fun hw => step_move Sub.rfl) ?_
      refine JL_stepG rfl rfl rfl (Gd.plain Sub.rfl) rfl rfl (fun hw => step_move Sub.rfl) ?_
      refine JL_stepG rfl rfl rfl (Gd.plain Sub.rfl) rfl rfl (fun hw => step_eql (Sub.w hw) (Sub.w hw)) ?_
      refine JL_step rfl rfl rfl (step_pick_and Sub.rfl Sub.rfl) ?_
      refine JL_step rfl rfl rfl (step_move Sub.rfl) ?_
      refine JL_stepG rfl rfl rfl (Gd.plain Sub.rfl) rfl rfl (fun hw => step_load_ptr ty38 Sub.rfl) ?_
      refine JL_stepG rfl rfl rfl (Gd.plain Sub.rfl) rfl rfl (fun hw => step_load_ptr ty38 Sub.rfl) ?_
      refine JL_stepG rfl rfl rfl (Gd.plain Sub.rfl) rfl rfl (fun hw => step_call0 (SameR_spec (confG rules facts) (confG rules facts) (Nat.le_trans cost_len (by omega)) (Nat.le_trans cost_len (by omega)) (Nat.le_trans (conf_len H).1 (by omega)) (Nat.le_trans (conf_len H).1 (by omega)) (fun x hx => Nat.le_trans ((conf_len H).2 x hx) (by omega)) (fun x hx => Nat.le_trans ((conf_len H).2 x hx) (by omega))) ⟨(Sub.w hw), (Sub.w hw), trivial⟩ Tryz.call20) ?_
      refine JL_step rfl rfl rfl (step_pick_and Sub.rfl Sub.rfl) ?_
      refine JL_step rfl rfl rfl (step_assign Sub.rfl) ?_
      refine JL_nil ?_
      refine J_seq ?_
      refine J_region ?_
      refine JL_step rfl rfl rfl (step_move Sub.rfl) ?_
      refine JL_step rfl rfl rfl (step_move Sub.rfl) ?_
      refine JL_stepG rfl rfl rfl (Gd.plain Sub.rfl) rfl rfl (fun hw => step_move Sub.rfl) ?_
      refine JL_step rfl rfl rfl (step_pick_and Sub.rfl Sub.rfl) ?_
      refine JL_step rfl rfl rfl (step_move Sub.rfl) ?_
      refine JL_stepG rfl rfl rfl (Gd.plain Sub.rfl) rfl rfl (fun hw => step_move Sub.rfl) ?_
      refine JL_stepG rfl rfl rfl (Gd.plain Sub.rfl) rfl rfl (fun hw => step_move Sub.rfl) ?_
      refine JL_stepG rfl rfl rfl (Gd.plain Sub.rfl) rfl rfl (fun hw => step_call0 (Dangling_spec rules facts (by omega) (by omega)) ⟨(Sub.w hw), (Sub.w hw), trivial⟩ Tryz.call22) ?_
      refine JL_stepG rfl rfl rfl (Gd.plain Sub.rfl) rfl rfl (fun hw => step_move Sub.rfl) ?_
      refine JL_stepG rfl rfl rfl (Gd.plain Sub.rfl) rfl rfl (fun hw => step_move Sub.rfl) ?_
      refine JL_stepG rfl rfl rfl (Gd.plain Sub.rfl) rfl rfl (fun hw => step_call0 (DanglingR_spec rules facts (by omega) (by omega)) ⟨(Sub.w hw), (Sub.w hw), trivial⟩ Tryz.call23) ?_
      refine JL_stepG rfl rfl rfl (Gd.plain Sub.rfl) rfl rfl (fun hw => step_call0 (Ints_spec (danM rules facts) (danM rules facts) (by omega) (by omega)) ⟨(Sub.trans (Sub.w hw) Sub.ofE), Sub.w hw, trivial⟩ Tryz.call21) ?_
      refine JL_step rfl rfl rfl (step_pick_and Sub.rfl Sub.rfl) ?_
      refine JL_step rfl rfl rfl (step_move Sub.rfl) ?_
      refine JL_stepG rfl rfl rfl (Gd.plain Sub.rfl) rfl rfl (fun hw => step_move Sub.rfl) ?_
      refine JL_stepG rfl rfl rfl (Gd.plain Sub.rfl) rfl rfl (fun hw => step_move Sub.rfl) ?_
      refine JL_stepG rfl rfl rfl (Gd.plain Sub.rfl) rfl rfl (fun hw => step_move Sub.rfl) ?_
      refine JL_stepG rfl rfl rfl (Gd.plain Sub.rfl) rfl rfl (fun hw => step_call0 (Consistent_spec rules facts set (by omega) (by omega) H.ru) ⟨(Sub.w hw), (Sub.w hw), (Sub.w hw), trivial⟩ Tryz.call24) ?_
      refine JL_stepG rfl rfl rfl (Gd.plain Sub.rfl) rfl rfl (fun hw => step_move Sub.rfl) ?_
      refine JL_stepG rfl rfl rfl (Gd.plain Sub.rfl) rfl rfl (fun hw => step_move Sub.rfl) ?_
      refine JL_stepG rfl rfl rfl (Gd.plain Sub.rfl) rfl rfl (fun hw => step_move Sub.rfl) ?_
      refine JL_stepG rfl rfl rfl (Gd.plain Sub.rfl) rfl rfl (fun hw => step_call0 (ConsistentR_spec rules facts set (by omega) hr H.rl) ⟨(Sub.w hw), (Sub.w hw), (Sub.w hw), trivial⟩ Tryz.call25) ?_
      refine JL_stepG rfl rfl rfl (Gd.plain Sub.rfl) rfl rfl (fun hw => step_eql_bool Tryz.underlying4 (Sub.w hw) (Sub.w hw)) ?_
      refine JL_step rfl rfl rfl (step_pick_and Sub.rfl Sub.rfl) ?_
      refine JL_step rfl rfl rfl (step_assign Sub.rfl) ?_
      refine JL_nil ?_
      refine J_ret ?_
      refine K_retv (rv := .tmp 6) rfl () (.tmp Sub.rfl) (Sub.bool ?_)
      rw [consR_eq, same_self, setsB_iff.2 rfl, intsB_iff.2 rfl]; simp
end Lg

/- DenialMatchesReference: the card. -/
namespace Go.Proofs.YticgfcbcaalioaaGreatDoor.denialMatchesReference
open Go.ChangeShapes Go.WideShapes Go.ChangeAt Go.RowKit
theorem size24 : (24 : Nat) < Tryz.prog.types.size := of_decide_eq_true (by kernel_rfl)
theorem rec24 : Tryz.prog.readableRec 24 = true := by kernel_rfl
theorem want24 : Tryz.prog.wantsStandIn 24 = false := by kernel_rfl
set_option maxRecDepth 100000 in
theorem contract (H : Type) (enc : TypeId × Value → H) (W : World) (base : Nat) (args : Array Value) (ds gs : List (DataW H)) (before : List MemPlace)
    (hval : ∀ (j : Nat) t v, Tryz.f3.params[j]? = some t → args[j]? = some v → Value.okWide Tryz.prog W .any base t v)
    (hW : DataW.Whole enc Tryz.prog Tryz.f3.params.toList Rows.denialMatchesReferenceSpec.vars false W args.toList ds gs before) :
    Calls Tryz.prog 3 args W fun e W' => ∃ v, e = .returned v ∧ Rows.denialMatchesReferenceSpec.post enc Tryz.prog Tryz.f3 false true false false W args v W' := by
  have hW' := hW
  obtain ⟨p, q, hA0, hV, rfl, hfz, hnd⟩ := hW
  have hA : DataW.TrodAll enc Tryz.prog W 0 (fun _ => true) true Tryz.f3.params.toList args.toList ds p := hA0
  rw [Tryz.params3] at hA hval
  obtain ⟨v0, v1, v2, d0, d1, d2, p0, p1, p2, rfl, rfl, rfl, h0, h1, h2⟩ := trodAll_three hA
  obtain ⟨rfl, rfl⟩ := trodVars_none hV
  obtain ⟨rules, a0⟩ := Lg.arg_sl Tryz.underlying22 Lg.rd22 (hval 0 22 v0 rfl rfl) h0
  obtain ⟨facts, a1⟩ := Lg.arg_sl Tryz.underlying23 Lg.rd23 (hval 1 23 v1 rfl rfl) h1
  obtain ⟨which, a2⟩ := Lg.arg_sl Tryz.underlying24 Lg.rd24 (hval 2 24 v2 rfl rfl) h2
  refine (Lg.run_true (Lg.MatchesReference_spec rules facts which) (vs := [v0, v1, v2]) ⟨a0, a1, a2, trivial⟩).mono fun e W' ⟨he, hb⟩ => ?_
  subst he
  have e1 : Rows.denialMatchesReferenceSpec.fn H ([d0, d1, d2] ++ []) = { results := [.lit (.bool true)], args := [d0, d1, d2] } := by simp [Rows.denialMatchesReferenceSpec]
  refine ⟨_, rfl, _, _, _, [], p0 ++ (p1 ++ p2), [], hW', ?_, ?_, ?_, hb.frame _, fun h => by cases h⟩
  · rw [e1]; exact trodAll_mk1 (shut_bool Tryz.underlying4 true)
  · rw [e1, Tryz.params3]
    exact trodAll_mk3 (hb.trod laidOut rec22 size22 h0 fun x hx => hW'.lt x (by simp [hx])) (hb.trod laidOut rec23 size23 h1 fun x hx => hW'.lt x (by simp [hx])) (hb.trod laidOut rec24 size24 h2 fun x hx => hW'.lt x (by simp [hx]))
  · rw [e1]; rfl
noncomputable abbrev args0 : Array Value := #[.slice none 0 0, .slice none 0 0, .slice none 0 0]
theorem reads (os : Os) {H : Type} (enc : TypeId × Value → H) : ∃ places, DataW.whole enc Tryz.prog ((laidWorld os).forCall (fun _ _ => 0) ⟨#[], args0, []⟩).memory Tryz.f3.params.toList Rows.denialMatchesReferenceSpec.vars false args0.toList 8 = some ([.nil, .nil, .nil], [], places) :=
  ⟨[], by kernel_rfl⟩
theorem laid_met (os : Os) : laidMet Tryz.prog Rows.denialMatchesReferenceRow.laid ((laidWorld os).forCall (fun _ _ => 0) ⟨#[], args0, []⟩).memory :=
  laidMet_laidAll (laid := laidL) args0 (by kernel_rfl) (by kernel_rfl)
set_option maxRecDepth 100000 in
theorem lifted (os : Os) (started : os.Started) (H : Type) (enc : TypeId × Value → H) (F : Stop.Interp) :
    ReturnsInHanded {} Tryz.checked os 3 .any ((OpenSpec.ofChange Rows.denialMatchesReferenceSpec).preRow enc Tryz.prog Tryz.f3 Rows.denialMatchesReferenceRow.domain false Rows.denialMatchesReferenceRow.laid) (((OpenSpec.ofChange Rows.denialMatchesReferenceSpec).at F).post enc Tryz.prog Tryz.f3 false true false false) := by
  obtain ⟨places, hx⟩ := reads os enc
  refine returnsInHanded_of_row (C := Tryz.checked) (s := OpenSpec.ofChange Rows.denialMatchesReferenceSpec) own started (by kernel_rfl) Tryz.func3
    (witness_row_at (enc := enc) (C := Tryz.checked) false (laidWorld os) args0 (World.laidAll_os _ _ _) (by kernel_rfl) (by kernel_rfl) (by kernel_rfl)
      (OpenSpec.preRow_of_cond 8 hx (by kernel_rfl) (fun k hk => by cases hk) (by kernel_rfl) (laid_met os))) ?_
  intro W base args ds gs before hval hW _ _ _ hL _ _
  exact contract H enc W base args ds gs before hval hW
theorem said : Rows.DenialMatchesReferenceSaid :=
  OpenClaim.holds_of_cond 3 Tryz.f3 rfl rfl rfl rfl rfl rfl rfl ⟨rfl, rfl, rfl, rfl, rfl⟩ rfl rfl rfl rfl rfl (by kernel_rfl) Tryz.func3 (by kernel_rfl)
    (of_decide_eq_true (by kernel_rfl)) (by unfold Func.isWrapper; first | (rw [if_pos (by decide +kernel)]; kernel_rfl) | (rw [if_neg (by decide +kernel)]; exact ⟨rfl, rfl⟩))
    (fun os started H enc _ F => by rw [OpenClaim.pre_eq_preRow]; exact lifted os started H enc F)
theorem plain (f : FuncId) (fn : Func) (hf : Tryz.pinned.checked.prog.funcNamed "cleanse/cleanselaw25.DenialMatchesReference" = some f) (hfn : Tryz.pinned.checked.prog.funcs[f]? = some fn) :
    false = Tryz.pinned.checked.prog.looks [] ∧ ∀ (j : Nat) t, fn.params[j]? = some t → Tryz.pinned.checked.prog.wantsStandIn t = false := by
  obtain rfl : f = 3 := Option.some.inj ((show Tryz.prog.funcNamed "cleanse/cleanselaw25.DenialMatchesReference" = some 3 by kernel_rfl).symm.trans hf) |>.symm
  obtain rfl : fn = Tryz.f3 := (Option.some.inj (Tryz.func3.symm.trans hfn)).symm
  refine ⟨noLooks, fun j t ht => ?_⟩
  rw [Tryz.params3] at ht
  have hm : t ∈ #[22, 23, 24] := Array.mem_of_getElem? ht
  simp only [List.mem_toArray, List.mem_cons, List.not_mem_nil, or_false] at hm
  rcases hm with rfl | rfl | rfl
  · exact want22
  · exact want23
  · exact want24
theorem card : Rows.DenialMatchesReferenceCardSaid :=
  Claim7.holds_tied_plain_at .later [] _ _ _ _ said (fun _ h => by cases h) (by kernel_rfl) (fun _ h => by cases h) denialMatchesReference_row_tie rfl ⟨rfl, rfl⟩ (by kernel_rfl) rfl plain (by kernel_rfl)
end Go.Proofs.YticgfcbcaalioaaGreatDoor.denialMatchesReference
