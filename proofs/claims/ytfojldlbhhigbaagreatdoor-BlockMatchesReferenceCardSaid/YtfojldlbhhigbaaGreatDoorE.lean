/- Walks of words, sketch and value. -/
import Derived.Test.YtfojldlbhhigbaaGreatDoorD
set_option linter.unusedVariables false
set_option linter.unusedSimpArgs false
set_option linter.unusedSectionVars false
namespace Lg
open Go Go.Proofs


theorem ty72Y {α : Type} {T : α → List Ty} {Ok : List α → Prop} {M Mx : List α → SP} : TyOf Tryz.prog 72 (rY Tryz.prog T Ok M Mx) := ⟨fun w => Tryz.isAgg72 w, fun w => Tryz.sizeOf72 w⟩
abbrev tStr : ByteArray → List Ty := fun x => [tV (.string x)]
def okP {α : Type} (tot : List α) : List α → Prop := fun l => l <+: tot
theorem take_succ_map {α β : Type} [Inhabited α] (f : α → β) {l : List α} {i : Nat} (h : i < l.length) : (l.take (i + 1)).map f = (l.take i).map f ++ [f (nth l i)] := by rw [takeB h]; simp
/-- A letter in lower case or a digit; else 0. -/
def lowI (c : Int) : Int := if 65 ≤ c ∧ c ≤ 90 then c + 32 else if (97 ≤ c ∧ c ≤ 122) ∨ (48 ≤ c ∧ c ≤ 57) then c else 0
def wOf (cur : List Int) : List ByteArray := if cur = [] then [] else [ofBytes cur]
def wStep (st : List ByteArray × List Int) (c : Int) : List ByteArray × List Int := if lowI c = 0 then (st.1 ++ wOf st.2, []) else (st.1, st.2 ++ [lowI c])
def wst (l : List Int) : List ByteArray × List Int := l.foldl wStep ([], [])
def wordsL (l : List Int) : List ByteArray := (wst l).1 ++ wOf (wst l).2
def wordsM (s : ByteArray) : List ByteArray := wordsL (bytesOf s)
theorem wst_succ {l : List Int} {i : Nat} (h : i < l.length) : wst (l.take (i + 1)) = wStep (wst (l.take i)) (nth l i) := by
  rw [takeB h, wst, List.foldl_append]; rfl
theorem wst_mono : ∀ (m l : List Int), (wst l).1 <+: (wst (l ++ m)).1
  | [], l => by rw [List.append_nil]; exact List.prefix_refl _
  | c :: m, l => by
    have ih := wst_mono m (l ++ [c])
    rw [List.append_assoc] at ih
    refine List.IsPrefix.trans ?_ ih
    have : wst (l ++ [c]) = wStep (wst l) c := by rw [wst, List.foldl_append]; rfl
    rw [this]
    unfold wStep
    split
    · exact List.prefix_append _ _
    · exact List.prefix_refl _
theorem wst_pre {l : List Int} {i : Nat} : (wst (l.take i)).1 <+: wordsL l := by
  have := wst_mono (l.drop i) (l.take i)
  rw [List.take_append_drop] at this
  exact this.trans (List.prefix_append _ _)
theorem wst_len {l : List Int} : ∀ {i : Nat}, (wst (l.take i)).2.length ≤ i ∧ (wst (l.take i)).1.length ≤ i
  | 0 => by simp [wst]
  | i + 1 => by
    have ih := wst_len (l := l) (i := i)
    by_cases h : i < l.length
    · rw [wst_succ h]
      unfold wStep wOf
      split
      · simp only [List.length_append, List.length_nil]
        split <;> simp <;> omega
      · simp; omega
    · rw [List.take_of_length_le (by omega)]
      rw [List.take_of_length_le (by omega)] at ih
      omega
/-- What is there after a flush. -/
def flSP (M Mx : List ByteArray → SP) (pre : List ByteArray) (cur : List Int) (b : Bool) : SP := if b then M (pre ++ wOf cur) else if cur = [] then SP.pure False else Mx (pre ++ wOf cur)
theorem ofBytes_ne {cur : List Int} : ofBytes cur = ⟨#[]⟩ ↔ cur = [] := by
  constructor
  · intro h
    have := congrArg ByteArray.data h
    simp [ofBytes] at this
    exact this
  · rintro rfl; rfl

theorem lower_spec (c : Int) (hc : 0 ≤ c ∧ c < 256) : Fun1 Tryz.prog 84 [tV (.int .u8 c)] (tV (.int .u8 (lowI c))) := by
  refine Spec.enter Tryz.func84 rfl rfl fun h0 w0 fr0 => ?_
  refine J_seq ?_
  refine J_region ?_
  refine JL_step rfl rfl rfl (step_assign Sub.rfl) ?_
  refine JL_nil ?_
  refine J_seq ?_
  refine J_block ?_
  refine J_seq ?_
  refine J_region ?_
  refine JL_step rfl rfl rfl (step_move Sub.rfl) ?_
  refine JL_step rfl rfl rfl (step_geq Sub.rfl Sub.rfl) ?_
  refine JL_step rfl rfl rfl (step_move Sub.rfl) ?_
  refine JL_stepG rfl rfl rfl (Gd.plain Sub.rfl) rfl rfl (fun hw => step_move Sub.rfl) ?_
  refine JL_stepG rfl rfl rfl (Gd.plain Sub.rfl) rfl rfl (fun hw => step_leq (Sub.w hw) Sub.rfl) ?_
  refine JL_step rfl rfl rfl (step_pick_and Sub.rfl Sub.rfl) ?_
  refine JL_step rfl rfl rfl (step_assign Sub.rfl) ?_
  refine JL_nil ?_
  refine J_cond Sub.rfl (fun h3 => ?_) (fun h3 => ?_)
  · try simp only [decide_eq_true_eq, decide_eq_false_iff_not, Bool.and_eq_true, Bool.or_eq_true, Bool.and_eq_false_iff, Bool.or_eq_false_iff, Bool.not_eq_true', Bool.not_eq_false', Int.not_lt, Int.not_le, Bool.not_true, Bool.not_false] at h3
    refine J_seq ?_
    refine J_region ?_
    refine JL_step rfl rfl rfl (step_move Sub.rfl) ?_
    refine JL_step rfl rfl rfl (step_sub8 (m := c - 65) Sub.rfl Sub.rfl ?sg1) ?_
    case sg1 => simp [IntKind.wrap, IntKind.bits, IntKind.signed]; omega
    refine JL_step rfl rfl rfl (step_add8 (m := c + 32) Sub.rfl Sub.rfl ?sg1) ?_
    case sg1 => simp [IntKind.wrap, IntKind.bits, IntKind.signed]; omega
    refine JL_step rfl rfl rfl (step_assign Sub.rfl) ?_
    refine JL_nil ?_
    refine J_ret ?_
    refine K_ret1 (t := 2) rfl () ?_
    refine Sub.v ?_
    simp [lowI, h3]
  · try simp only [decide_eq_true_eq, decide_eq_false_iff_not, Bool.and_eq_true, Bool.or_eq_true, Bool.and_eq_false_iff, Bool.or_eq_false_iff, Bool.not_eq_true', Bool.not_eq_false', Int.not_lt, Int.not_le, Bool.not_true, Bool.not_false] at h3
    refine J_seq ?_
    refine J_seq ?_
    refine J_region ?_
    refine JL_step rfl rfl rfl (step_move Sub.rfl) ?_
    refine JL_step rfl rfl rfl (step_geq Sub.rfl Sub.rfl) ?_
    refine JL_step rfl rfl rfl (step_move Sub.rfl) ?_
    refine JL_stepG rfl rfl rfl (Gd.plain Sub.rfl) rfl rfl (fun hw => step_move Sub.rfl) ?_
    refine JL_stepG rfl rfl rfl (Gd.plain Sub.rfl) rfl rfl (fun hw => step_leq (Sub.w hw) Sub.rfl) ?_
    refine JL_step rfl rfl rfl (step_pick_and Sub.rfl Sub.rfl) ?_
    refine JL_step rfl rfl rfl (step_assign Sub.rfl) ?_
    refine JL_nil ?_
    refine J_cond Sub.rfl (fun h13 => ?_) (fun h13 => ?_)
    · try simp only [decide_eq_true_eq, decide_eq_false_iff_not, Bool.and_eq_true, Bool.or_eq_true, Bool.and_eq_false_iff, Bool.or_eq_false_iff, Bool.not_eq_true', Bool.not_eq_false', Int.not_lt, Int.not_le, Bool.not_true, Bool.not_false] at h13
      refine J_skip ?_
      refine J_cond Sub.rfl (fun h13 => ?_) (fun h13 => ?_)
      · try simp only [decide_eq_true_eq, decide_eq_false_iff_not, Bool.and_eq_true, Bool.or_eq_true, Bool.and_eq_false_iff, Bool.or_eq_false_iff, Bool.not_eq_true', Bool.not_eq_false', Int.not_lt, Int.not_le, Bool.not_true, Bool.not_false] at h13
        refine J_seq ?_
        refine J_region ?_
        refine JL_step rfl rfl rfl (step_move Sub.rfl) ?_
        refine JL_step rfl rfl rfl (step_assign Sub.rfl) ?_
        refine JL_nil ?_
        refine J_ret ?_
        refine K_ret1 (t := 2) rfl () ?_
        refine Sub.v ?_
        have h1 : ¬ (65 ≤ c ∧ c ≤ 90) := by omega
        simp only [lowI, if_neg h1]; rw [if_pos (by omega)]
      · try simp only [decide_eq_true_eq, decide_eq_false_iff_not, Bool.and_eq_true, Bool.or_eq_true, Bool.and_eq_false_iff, Bool.or_eq_false_iff, Bool.not_eq_true', Bool.not_eq_false', Int.not_lt, Int.not_le, Bool.not_true, Bool.not_false] at h13
        first | contradiction | omega | (simp_all; done)
    · try simp only [decide_eq_true_eq, decide_eq_false_iff_not, Bool.and_eq_true, Bool.or_eq_true, Bool.and_eq_false_iff, Bool.or_eq_false_iff, Bool.not_eq_true', Bool.not_eq_false', Int.not_lt, Int.not_le, Bool.not_true, Bool.not_false] at h13
      refine J_region ?_
      refine JL_step rfl rfl rfl (step_move Sub.rfl) ?_
      refine JL_step rfl rfl rfl (step_geq Sub.rfl Sub.rfl) ?_
      refine JL_step rfl rfl rfl (step_move Sub.rfl) ?_
      refine JL_stepG rfl rfl rfl (Gd.plain Sub.rfl) rfl rfl (fun hw => step_move Sub.rfl) ?_
      refine JL_stepG rfl rfl rfl (Gd.plain Sub.rfl) rfl rfl (fun hw => step_leq (Sub.w hw) Sub.rfl) ?_
      refine JL_step rfl rfl rfl (step_pick_and Sub.rfl Sub.rfl) ?_
      refine JL_step rfl rfl rfl (step_assign Sub.rfl) ?_
      refine JL_nil ?_
      refine J_cond Sub.rfl (fun h13 => ?_) (fun h13 => ?_)
      · try simp only [decide_eq_true_eq, decide_eq_false_iff_not, Bool.and_eq_true, Bool.or_eq_true, Bool.and_eq_false_iff, Bool.or_eq_false_iff, Bool.not_eq_true', Bool.not_eq_false', Int.not_lt, Int.not_le, Bool.not_true, Bool.not_false] at h13
        refine J_seq ?_
        refine J_region ?_
        refine JL_step rfl rfl rfl (step_move Sub.rfl) ?_
        refine JL_step rfl rfl rfl (step_assign Sub.rfl) ?_
        refine JL_nil ?_
        refine J_ret ?_
        refine K_ret1 (t := 2) rfl () ?_
        refine Sub.v ?_
        have h1 : ¬ (65 ≤ c ∧ c ≤ 90) := by omega
        simp only [lowI, if_neg h1]; rw [if_pos (by omega)]
      · try simp only [decide_eq_true_eq, decide_eq_false_iff_not, Bool.and_eq_true, Bool.or_eq_true, Bool.and_eq_false_iff, Bool.or_eq_false_iff, Bool.not_eq_true', Bool.not_eq_false', Int.not_lt, Int.not_le, Bool.not_true, Bool.not_false] at h13
        refine J_skip ?_
        refine J_seq ?_
        refine J_region ?_
        refine JL_step rfl rfl rfl (step_assign Sub.rfl) ?_
        refine JL_nil ?_
        refine J_ret ?_
        refine K_ret1 (t := 2) rfl () ?_
        refine Sub.v ?_
        have h1 : ¬ (65 ≤ c ∧ c ≤ 90) := by omega
        simp only [lowI, if_neg h1]; rw [if_neg (by omega)]
theorem flush_spec (text : ByteArray) (M Mx : List ByteArray → SP) (b : Nat) (v : Value) (cur : List Int) (pre : List ByteArray) (hok : cur ≠ [] → pre ++ [ofBytes cur] <+: wordsM text) : Spec (X := Bool × Value) Tryz.prog 83 [tAt b 0, tPtr (rY Tryz.prog tStr (okP (wordsM text)) M Mx) ()] ([box b 117 rV v, own 5 rU8 v cur, M pre]) (fun x => tV (.bool x.1)) (fun x => [box b 117 rV x.2, own 5 rU8 x.2 [], flSP M Mx pre cur x.1]) := by
  refine Spec.enter Tryz.func83 rfl rfl fun h0 w0 fr0 => ?_
  refine J_seq ?_
  refine J_region ?_
  refine JL_step rfl rfl rfl (step_assign Sub.rfl) ?_
  refine JL_nil ?_
  refine J_seq ?_
  refine J_region ?_
  refine JL_step rfl rfl rfl (step_load_box ty117V Sub.rfl (by first | exact Sel.take (Sel.none _) | exact Sel.skip (Sel.take (Sel.none _)) | exact Sel.skip (Sel.skip (Sel.take (Sel.none _))) | exact Sel.skip (Sel.skip (Sel.skip (Sel.take (Sel.none _)))) | exact Sel.skip (Sel.skip (Sel.skip (Sel.skip (Sel.take (Sel.none _))))))) ?_
  refine JL_step rfl rfl rfl (step_convert_str Tryz.underlying117 Tryz.underlying5 Tryz.underlying9 Sub.rfl (by first | exact Sel.take (Sel.none _) | exact Sel.skip (Sel.take (Sel.none _)) | exact Sel.skip (Sel.skip (Sel.take (Sel.none _))) | exact Sel.skip (Sel.skip (Sel.skip (Sel.take (Sel.none _)))) | exact Sel.skip (Sel.skip (Sel.skip (Sel.skip (Sel.take (Sel.none _))))))) ?_
  refine JL_step rfl rfl rfl (step_assign Sub.rfl) ?_
  refine JL_nil ?_
  refine J_seq ?_
  refine J_region ?_
  refine JL_step rfl rfl rfl (step_load_box ty117V Sub.rfl (by first | exact Sel.take (Sel.none _) | exact Sel.skip (Sel.take (Sel.none _)) | exact Sel.skip (Sel.skip (Sel.take (Sel.none _))) | exact Sel.skip (Sel.skip (Sel.skip (Sel.take (Sel.none _)))) | exact Sel.skip (Sel.skip (Sel.skip (Sel.skip (Sel.take (Sel.none _))))))) ?_
  refine JL_stepX rfl rfl rfl (step_slice_own (n := 0) Tryz.underlying117 ty5 Sub.rfl Sub.rfl ?sg1 (by first | exact Sel.take (Sel.none _) | exact Sel.skip (Sel.take (Sel.none _)) | exact Sel.skip (Sel.skip (Sel.take (Sel.none _))) | exact Sel.skip (Sel.skip (Sel.skip (Sel.take (Sel.none _)))) | exact Sel.skip (Sel.skip (Sel.skip (Sel.skip (Sel.take (Sel.none _)))))) ?sg2) fun v7 => ?_
  case sg1 => rfl
  case sg2 => omega
  refine JL_stepU rfl rfl (step_store_box (R := rV) ty117V Sub.rfl Sub.rfl (by first | exact Sel.take (Sel.none _) | exact Sel.skip (Sel.take (Sel.none _)) | exact Sel.skip (Sel.skip (Sel.take (Sel.none _))) | exact Sel.skip (Sel.skip (Sel.skip (Sel.take (Sel.none _)))) | exact Sel.skip (Sel.skip (Sel.skip (Sel.skip (Sel.take (Sel.none _))))))) fun _ => ?_
  refine JL_nil ?_
  refine J_seq ?_
  refine J_region ?_
  refine JL_step rfl rfl rfl (step_move Sub.rfl) ?_
  refine JL_step rfl rfl rfl (step_eql_str Sub.rfl Sub.rfl) ?_
  refine JL_step rfl rfl rfl (step_move Sub.rfl) ?_
  refine JL_stepG rfl rfl rfl (Gd.plain Sub.rfl) rfl rfl (fun hw => step_load_ptr ty72Y Sub.rfl) ?_
  refine JL_stepG rfl rfl rfl (Gd.plain Sub.rfl) rfl rfl (fun hw => step_move Sub.rfl) ?_
  refine JL_stepGX (tV (.bool false)) rfl rfl rfl (Gd.plain Sub.rfl) rfl rfl (fun hw => step_yield (T := tStr) (Ok := okP (wordsM text)) (M := M) (Mx := Mx) (pre := pre) (y := ofBytes cur) (Sub.w hw) ?sg1 ?sg2 (by first | exact Sel.take (Sel.none _) | exact Sel.skip (Sel.take (Sel.none _)) | exact Sel.skip (Sel.skip (Sel.take (Sel.none _))) | exact Sel.skip (Sel.skip (Sel.skip (Sel.take (Sel.none _)))) | exact Sel.skip (Sel.skip (Sel.skip (Sel.skip (Sel.take (Sel.none _))))))) (fun hw v13 => ?_) (fun hw => ?_)
  case sg1 => have hwq := hw; (try simp only [beqB_t, beqB_f, decide_eq_true_eq, decide_eq_false_iff_not, Bool.and_eq_true, Bool.or_eq_true, Bool.and_eq_false_iff, Bool.or_eq_false_iff, Bool.not_eq_true', Bool.not_eq_false', Int.not_lt, Int.not_le, Bool.not_true, Bool.not_false] at hwq); exact hok (fun e => by have hq := hw; simp only [beqB_f, Bool.not_eq_true', decide_eq_false_iff_not] at hq; exact hq (ofBytes_ne.2 e))
  case sg2 => have hwq := hw; (try simp only [beqB_t, beqB_f, decide_eq_true_eq, decide_eq_false_iff_not, Bool.and_eq_true, Bool.or_eq_true, Bool.and_eq_false_iff, Bool.or_eq_false_iff, Bool.not_eq_true', Bool.not_eq_false', Int.not_lt, Int.not_le, Bool.not_true, Bool.not_false] at hwq); exact ⟨(Sub.w hw), trivial⟩
  · skip
    have hne : cur ≠ [] := fun e => by have hq := hw; simp only [beqB_f, Bool.not_eq_true', decide_eq_false_iff_not] at hq; exact hq (ofBytes_ne.2 e)
    have hn0 : ofBytes cur ≠ ⟨#[]⟩ := fun e => hne (ofBytes_ne.1 e)
    have hwo : wOf cur = [ofBytes cur] := if_neg hne
    cases v13
    · skip
      refine JL_step rfl rfl rfl (step_pick_or Sub.rfl Sub.rfl) ?_
      refine JL_step rfl rfl rfl (step_assign Sub.rfl) ?_
      refine JL_nil ?_
      refine J_ret ?_
      refine K_lsub (L' := [box b 117 rV v7, own 5 rU8 v7 [], flSP M Mx pre cur false]) (LSub.cons (by first | exact Sel.take (Sel.none _) | exact Sel.skip (Sel.take (Sel.none _)) | exact Sel.skip (Sel.skip (Sel.take (Sel.none _))) | exact Sel.skip (Sel.skip (Sel.skip (Sel.take (Sel.none _)))) | exact Sel.skip (Sel.skip (Sel.skip (Sel.skip (Sel.take (Sel.none _)))))) (SPs.rfl) (LSub.cons (by first | exact Sel.take (Sel.none _) | exact Sel.skip (Sel.take (Sel.none _)) | exact Sel.skip (Sel.skip (Sel.take (Sel.none _))) | exact Sel.skip (Sel.skip (Sel.skip (Sel.take (Sel.none _)))) | exact Sel.skip (Sel.skip (Sel.skip (Sel.skip (Sel.take (Sel.none _)))))) (own_eq (by simp)) (LSub.cons (by first | exact Sel.take (Sel.none _) | exact Sel.skip (Sel.take (Sel.none _)) | exact Sel.skip (Sel.skip (Sel.take (Sel.none _))) | exact Sel.skip (Sel.skip (Sel.skip (Sel.take (Sel.none _)))) | exact Sel.skip (Sel.skip (Sel.skip (Sel.skip (Sel.take (Sel.none _)))))) (SPs.of (by simp [flSP, hne, hwo])) (LSub.nil)))) ?_
      refine K_retv (rv := .tmp 2) rfl (false, v7) (.tmp Sub.rfl) (Sub.bool ?_)
      simp [hn0]
    · skip
      refine JL_step rfl rfl rfl (step_pick_or Sub.rfl Sub.rfl) ?_
      refine JL_step rfl rfl rfl (step_assign Sub.rfl) ?_
      refine JL_nil ?_
      refine J_ret ?_
      refine K_lsub (L' := [box b 117 rV v7, own 5 rU8 v7 [], flSP M Mx pre cur true]) (LSub.cons (by first | exact Sel.take (Sel.none _) | exact Sel.skip (Sel.take (Sel.none _)) | exact Sel.skip (Sel.skip (Sel.take (Sel.none _))) | exact Sel.skip (Sel.skip (Sel.skip (Sel.take (Sel.none _)))) | exact Sel.skip (Sel.skip (Sel.skip (Sel.skip (Sel.take (Sel.none _)))))) (SPs.rfl) (LSub.cons (by first | exact Sel.take (Sel.none _) | exact Sel.skip (Sel.take (Sel.none _)) | exact Sel.skip (Sel.skip (Sel.take (Sel.none _))) | exact Sel.skip (Sel.skip (Sel.skip (Sel.take (Sel.none _)))) | exact Sel.skip (Sel.skip (Sel.skip (Sel.skip (Sel.take (Sel.none _)))))) (own_eq (by simp)) (LSub.cons (by first | exact Sel.take (Sel.none _) | exact Sel.skip (Sel.take (Sel.none _)) | exact Sel.skip (Sel.skip (Sel.take (Sel.none _))) | exact Sel.skip (Sel.skip (Sel.skip (Sel.take (Sel.none _)))) | exact Sel.skip (Sel.skip (Sel.skip (Sel.skip (Sel.take (Sel.none _)))))) (SPs.of (by simp [flSP, hne, hwo])) (LSub.nil)))) ?_
      refine K_retv (rv := .tmp 2) rfl (true, v7) (.tmp Sub.rfl) (Sub.bool ?_)
      simp
  · skip
    have hcur : cur = [] := ofBytes_ne.1 (by have hq := beqB_no.1 hw; simpa using hq)
    refine JL_step rfl rfl rfl (step_pick_or Sub.rfl Sub.rfl) ?_
    refine JL_step rfl rfl rfl (step_assign Sub.rfl) ?_
    refine JL_nil ?_
    refine J_ret ?_
    refine K_lsub (L' := [box b 117 rV v7, own 5 rU8 v7 [], flSP M Mx pre cur true]) (LSub.cons (by first | exact Sel.take (Sel.none _) | exact Sel.skip (Sel.take (Sel.none _)) | exact Sel.skip (Sel.skip (Sel.take (Sel.none _))) | exact Sel.skip (Sel.skip (Sel.skip (Sel.take (Sel.none _)))) | exact Sel.skip (Sel.skip (Sel.skip (Sel.skip (Sel.take (Sel.none _)))))) (SPs.rfl) (LSub.cons (by first | exact Sel.take (Sel.none _) | exact Sel.skip (Sel.take (Sel.none _)) | exact Sel.skip (Sel.skip (Sel.take (Sel.none _))) | exact Sel.skip (Sel.skip (Sel.skip (Sel.take (Sel.none _)))) | exact Sel.skip (Sel.skip (Sel.skip (Sel.skip (Sel.take (Sel.none _)))))) (own_eq (by simp)) (LSub.cons (by first | exact Sel.take (Sel.none _) | exact Sel.skip (Sel.take (Sel.none _)) | exact Sel.skip (Sel.skip (Sel.take (Sel.none _))) | exact Sel.skip (Sel.skip (Sel.skip (Sel.take (Sel.none _)))) | exact Sel.skip (Sel.skip (Sel.skip (Sel.skip (Sel.take (Sel.none _)))))) (SPs.of (by simp [flSP, hcur, wOf])) (LSub.nil)))) ?_
    refine K_retv (rv := .tmp 2) rfl (true, v7) (.tmp Sub.rfl) (Sub.bool ?_)
    have h0 := ofBytes_ne.2 hcur
    simp [h0]
end Lg

namespace Lg
open Go Go.Proofs


theorem bytesOf_rng (s : ByteArray) : ∀ c ∈ bytesOf s, 0 ≤ c ∧ c < 256 := fun c hc => by
  simp only [bytesOf, List.mem_map] at hc
  obtain ⟨b, _, rfl⟩ := hc
  have := b.toNat_lt
  omega
theorem wst_at {l : List Int} {i : Nat} (h : i < l.length) (hz : lowI (nth l i) = 0) : wst (l.take (i + 1)) = ((wst (l.take i)).1 ++ wOf (wst (l.take i)).2, []) := by
  rw [wst_succ h, wStep, if_pos hz]
theorem wst_at' {l : List Int} {i : Nat} (h : i < l.length) (hz : lowI (nth l i) ≠ 0) : wst (l.take (i + 1)) = ((wst (l.take i)).1, (wst (l.take i)).2 ++ [lowI (nth l i)]) := by
  rw [wst_succ h, wStep, if_neg hz]
theorem wst_ok {l : List Int} {i : Nat} (h : i < l.length) (hz : lowI (nth l i) = 0) (hne : (wst (l.take i)).2 ≠ []) : (wst (l.take i)).1 ++ [ofBytes (wst (l.take i)).2] <+: wordsL l := by
  have := wst_pre (l := l) (i := i + 1)
  rw [wst_at h hz] at this
  simpa [wOf, hne] using this
theorem wst_okL {l : List Int} (hne : (wst l).2 ≠ []) : (wst l).1 ++ [ofBytes (wst l).2] <+: wordsL l := by
  simp only [wordsL, wOf, if_neg hne]; exact List.prefix_refl _

theorem all1_spec (text : ByteArray) (hsz : text.size ≤ 1000000000) : ItSpec Tryz.prog 82 [tPtr rStr text] [] (tStr) (okP (wordsM text)) (fun p => p = wordsM text) := by
  intro M Mx
  refine Spec.enter Tryz.func82 rfl rfl fun h0 w0 fr0 => ?_
  have hbl := bytesOf_len text
  refine J_seq ?_
  refine J_region ?_
  refine JL_step rfl rfl rfl (step_box (R := rY Tryz.prog tStr (okP (wordsM text)) M Mx) (y := ()) Sub.rfl) ?_
  refine JL_nil ?_
  refine J_seq ?_
  refine J_region ?_
  refine JL_stepX rfl rfl rfl (step_alloc (R := rV) (z := Value.slice none 0 0) (fun w => Tryz.zeroValue117 w) (fun _ => ⟨rfl, rfl⟩)) fun v3 => ?_
  refine JL_nil ?_
  refine K_lsub (LSub.nilown (e := 5) (R := rU8)) ?_
  refine J_seq ?_
  refine J_region ?_
  refine JL_step rfl rfl rfl (step_makeFunc (As := [_, _]) ⟨Sub.rfl, Sub.rfl, trivial⟩) ?_
  refine JL_step rfl rfl rfl (step_assign Sub.rfl) ?_
  refine JL_nil ?_
  refine J_seq ?_
  refine J_seq ?_
  refine J_region ?_
  refine JL_step rfl rfl rfl (step_load_ptr ty9 Sub.rfl) ?_
  refine JL_step rfl rfl rfl (step_len_str Tryz.underlying9 Sub.rfl) ?_
  refine JL_step rfl rfl rfl (step_move Sub.rfl) ?_
  refine JL_nil ?_
  refine J_block ?_
  refine J_loopL (σ := Nat × Value) (fun ⟨i, v⟩ => i ≤ (bytesOf text).length) (fun ⟨i, v⟩ => upd (upd (upd (upd (upd env0 1 (tPtr rStr text)) 3 (tAt v3 0)) 4 (tClo 83 [tAt v3 0, tPtr (rY Tryz.prog tStr (okP (wordsM text)) M Mx) ()])) 9 (tV (.int .i64 text.size))) 10 (tV (.int .i64 i))) (fun ⟨i, v⟩ => [box v3 117 rV v, own 5 rU8 v (wst ((bytesOf text).take i)).2, M (wst ((bytesOf text).take i)).1]) (fun ⟨i, v⟩ => (bytesOf text).length - i) (0, .slice none 0 0) (by omega) (SubE.upd Sub.rfl (SubE.upd Sub.rfl (SubE.upd Sub.rfl (SubE.upd Sub.rfl (SubE.upd Sub.rfl SubE.any))))) (LSub.cons (by first | exact Sel.take (Sel.none _) | exact Sel.skip (Sel.take (Sel.none _)) | exact Sel.skip (Sel.skip (Sel.take (Sel.none _))) | exact Sel.skip (Sel.skip (Sel.skip (Sel.take (Sel.none _)))) | exact Sel.skip (Sel.skip (Sel.skip (Sel.skip (Sel.take (Sel.none _)))))) (SPs.rfl) (LSub.cons (by first | exact Sel.take (Sel.none _) | exact Sel.skip (Sel.take (Sel.none _)) | exact Sel.skip (Sel.skip (Sel.take (Sel.none _))) | exact Sel.skip (Sel.skip (Sel.skip (Sel.take (Sel.none _)))) | exact Sel.skip (Sel.skip (Sel.skip (Sel.skip (Sel.take (Sel.none _)))))) (SPs.rfl) (LSub.cons (by first | exact Sel.take (Sel.none _) | exact Sel.skip (Sel.take (Sel.none _)) | exact Sel.skip (Sel.skip (Sel.take (Sel.none _))) | exact Sel.skip (Sel.skip (Sel.skip (Sel.take (Sel.none _)))) | exact Sel.skip (Sel.skip (Sel.skip (Sel.skip (Sel.take (Sel.none _)))))) (SPs.of rfl) (LSub.nil)))) ?_
  rintro ⟨i, v⟩ hi
  try dsimp only at hi
  refine J_seq ?_
  refine J_region ?_
  refine JL_step rfl rfl rfl (step_lss Sub.rfl Sub.rfl) ?_
  refine JL_nil ?_
  refine J_seq ?_
  refine J_cond Sub.rfl (fun h11 => ?_) (fun h11 => ?_)
  · try simp only [decide_eq_true_eq, decide_eq_false_iff_not, Bool.and_eq_true, Bool.or_eq_true, Bool.and_eq_false_iff, Bool.or_eq_false_iff, Bool.not_eq_true', Bool.not_eq_false', Int.not_lt, Int.not_le, Bool.not_true, Bool.not_false] at h11
    have hlt : i < (bytesOf text).length := by omega
    have hrg := bytesOf_rng text _ (nth_mem hlt)
    have hwl := wst_len (l := (bytesOf text)) (i := i)
    refine J_skip ?_
    refine J_seq ?_
    refine J_block ?_
    refine J_seq ?_
    refine J_region ?_
    refine JL_step rfl rfl rfl (step_move Sub.rfl) ?_
    refine JL_step rfl rfl rfl (step_assign Sub.rfl) ?_
    refine JL_nil ?_
    refine J_seq ?_
    refine J_region ?_
    refine JL_step rfl rfl rfl (step_load_ptr ty9 Sub.rfl) ?_
    refine JL_step rfl rfl rfl (step_move Sub.rfl) ?_
    refine JL_step rfl rfl rfl (step_index_str (i := i) Tryz.underlying9 Sub.rfl Sub.rfl ?sg1 ?sg2) ?_
    case sg1 => rfl
    case sg2 => omega
    refine JL_step rfl rfl rfl (step_call0 (lower_spec _ hrg) ⟨Sub.rfl, trivial⟩ Tryz.call84) ?_
    refine JL_step rfl rfl rfl (step_assign Sub.rfl) ?_
    refine JL_nil ?_
    refine J_seq ?_
    refine J_region ?_
    refine JL_step rfl rfl rfl (step_move Sub.rfl) ?_
    refine JL_step rfl rfl rfl (step_neq Sub.rfl Sub.rfl) ?_
    refine JL_nil ?_
    refine J_cond Sub.rfl (fun h18 => ?_) (fun h18 => ?_)
    · try simp only [decide_eq_true_eq, decide_eq_false_iff_not, Bool.and_eq_true, Bool.or_eq_true, Bool.and_eq_false_iff, Bool.or_eq_false_iff, Bool.not_eq_true', Bool.not_eq_false', Int.not_lt, Int.not_le, Bool.not_true, Bool.not_false] at h18
      refine J_region ?_
      refine JL_step rfl rfl rfl (step_load_box ty117V Sub.rfl (by first | exact Sel.take (Sel.none _) | exact Sel.skip (Sel.take (Sel.none _)) | exact Sel.skip (Sel.skip (Sel.take (Sel.none _))) | exact Sel.skip (Sel.skip (Sel.skip (Sel.take (Sel.none _)))) | exact Sel.skip (Sel.skip (Sel.skip (Sel.skip (Sel.take (Sel.none _))))))) ?_
      refine JL_step rfl rfl rfl (step_move Sub.rfl) ?_
      refine JL_step rfl rfl rfl (step_literal (ys := [_]) Tryz.underlying117 el5 ⟨rfl, Sub.rfl, trivial⟩ rfl (by decide)) ?_
      refine JL_stepX rfl rfl rfl (step_append Tryz.underlying117 el5 Sub.rfl Sub.rfl (by first | exact Sel.take (Sel.none _) | exact Sel.skip (Sel.take (Sel.none _)) | exact Sel.skip (Sel.skip (Sel.take (Sel.none _))) | exact Sel.skip (Sel.skip (Sel.skip (Sel.take (Sel.none _)))) | exact Sel.skip (Sel.skip (Sel.skip (Sel.skip (Sel.take (Sel.none _)))))) (by simp; omega) (by simp; omega)) fun v22 => ?_
      refine JL_stepU rfl rfl (step_store_box (R := rV) ty117V Sub.rfl Sub.rfl (by first | exact Sel.take (Sel.none _) | exact Sel.skip (Sel.take (Sel.none _)) | exact Sel.skip (Sel.skip (Sel.take (Sel.none _))) | exact Sel.skip (Sel.skip (Sel.skip (Sel.take (Sel.none _)))) | exact Sel.skip (Sel.skip (Sel.skip (Sel.skip (Sel.take (Sel.none _))))))) fun _ => ?_
      refine JL_nil ?_
      refine J_region ?_
      refine JL_step rfl rfl rfl (step_add Sub.rfl Sub.rfl ?sg1) ?_
      case sg1 => unfold in64; omega
      refine JL_step rfl rfl rfl (step_move Sub.rfl) ?_
      refine JL_nil ?_
      refine K_againL (σ := Nat × Value) (s := (i, v)) (i + 1, v22) (by first | omega | (dsimp only; omega) | (simp_all; omega)) (by omega) (SubE.upd Sub.rfl (SubE.upd Sub.rfl (SubE.upd Sub.rfl (SubE.upd Sub.rfl (SubE.upd Sub.rfl SubE.any))))) (LSub.cons (by first | exact Sel.take (Sel.none _) | exact Sel.skip (Sel.take (Sel.none _)) | exact Sel.skip (Sel.skip (Sel.take (Sel.none _))) | exact Sel.skip (Sel.skip (Sel.skip (Sel.take (Sel.none _)))) | exact Sel.skip (Sel.skip (Sel.skip (Sel.skip (Sel.take (Sel.none _)))))) (SPs.rfl) (LSub.cons (by first | exact Sel.take (Sel.none _) | exact Sel.skip (Sel.take (Sel.none _)) | exact Sel.skip (Sel.skip (Sel.take (Sel.none _))) | exact Sel.skip (Sel.skip (Sel.skip (Sel.take (Sel.none _)))) | exact Sel.skip (Sel.skip (Sel.skip (Sel.skip (Sel.take (Sel.none _)))))) (own_eq (by rw [wst_at' hlt h18])) (LSub.cons (by first | exact Sel.take (Sel.none _) | exact Sel.skip (Sel.take (Sel.none _)) | exact Sel.skip (Sel.skip (Sel.take (Sel.none _))) | exact Sel.skip (Sel.skip (Sel.skip (Sel.take (Sel.none _)))) | exact Sel.skip (Sel.skip (Sel.skip (Sel.skip (Sel.take (Sel.none _)))))) (SPs.of (by rw [wst_at' hlt h18])) (LSub.nil))))
    · try simp only [decide_eq_true_eq, decide_eq_false_iff_not, Bool.and_eq_true, Bool.or_eq_true, Bool.and_eq_false_iff, Bool.or_eq_false_iff, Bool.not_eq_true', Bool.not_eq_false', Int.not_lt, Int.not_le, Bool.not_true, Bool.not_false] at h18
      refine J_seq ?_
      refine J_region ?_
      refine JL_step rfl rfl rfl (step_move Sub.rfl) ?_
      refine JL_stepX rfl rfl rfl (step_callv (aT := []) Sub.rfl (Sel.all _) (flush_spec text M Mx v3 v (wst ((bytesOf text).take i)).2 (wst ((bytesOf text).take i)).1 (fun hne => wst_ok hlt h18 hne)) trivial Tryz.call83) fun x24 => ?_
      refine JL_step rfl rfl rfl (step_not Sub.rfl) ?_
      refine JL_nil ?_
      refine J_cond Sub.rfl (fun h25 => ?_) (fun h25 => ?_)
      · try simp only [decide_eq_true_eq, decide_eq_false_iff_not, Bool.and_eq_true, Bool.or_eq_true, Bool.and_eq_false_iff, Bool.or_eq_false_iff, Bool.not_eq_true', Bool.not_eq_false', Int.not_lt, Int.not_le, Bool.not_true, Bool.not_false] at h25
        refine J_ret ?_
        obtain ⟨b24, u24⟩ := x24
        by_cases hce : (wst ((bytesOf text).take i)).2 = []
        · refine K_lsub (L' := [SP.pure False, box v3 117 rV u24, own 5 rU8 u24 []]) (LSub.cons (Sel.skip (Sel.skip (Sel.take (Sel.none _)))) (SPs.of (by first | (simp only [flSP]; simp_all; done) | simp_all [flSP])) (LSub.cons (by first | exact Sel.take (Sel.none _) | exact Sel.skip (Sel.take (Sel.none _)) | exact Sel.skip (Sel.skip (Sel.take (Sel.none _))) | exact Sel.skip (Sel.skip (Sel.skip (Sel.take (Sel.none _)))) | exact Sel.skip (Sel.skip (Sel.skip (Sel.skip (Sel.take (Sel.none _)))))) (SPs.rfl) (LSub.cons (by first | exact Sel.take (Sel.none _) | exact Sel.skip (Sel.take (Sel.none _)) | exact Sel.skip (Sel.skip (Sel.take (Sel.none _))) | exact Sel.skip (Sel.skip (Sel.skip (Sel.take (Sel.none _)))) | exact Sel.skip (Sel.skip (Sel.skip (Sel.skip (Sel.take (Sel.none _)))))) (SPs.rfl) (LSub.nil)))) ?_
          exact K_pure fun h => h.elim
        · refine K_lsub (L' := [box v3 117 rV u24, own 5 rU8 u24 [], Mx ((wst ((bytesOf text).take i)).1 ++ wOf (wst ((bytesOf text).take i)).2)]) (LSub.cons (by first | exact Sel.take (Sel.none _) | exact Sel.skip (Sel.take (Sel.none _)) | exact Sel.skip (Sel.skip (Sel.take (Sel.none _))) | exact Sel.skip (Sel.skip (Sel.skip (Sel.take (Sel.none _)))) | exact Sel.skip (Sel.skip (Sel.skip (Sel.skip (Sel.take (Sel.none _)))))) (SPs.rfl) (LSub.cons (by first | exact Sel.take (Sel.none _) | exact Sel.skip (Sel.take (Sel.none _)) | exact Sel.skip (Sel.skip (Sel.take (Sel.none _))) | exact Sel.skip (Sel.skip (Sel.skip (Sel.take (Sel.none _)))) | exact Sel.skip (Sel.skip (Sel.skip (Sel.skip (Sel.take (Sel.none _)))))) (SPs.rfl) (LSub.cons (by first | exact Sel.take (Sel.none _) | exact Sel.skip (Sel.take (Sel.none _)) | exact Sel.skip (Sel.skip (Sel.take (Sel.none _))) | exact Sel.skip (Sel.skip (Sel.skip (Sel.take (Sel.none _)))) | exact Sel.skip (Sel.skip (Sel.skip (Sel.skip (Sel.take (Sel.none _)))))) (SPs.of (by first | (simp only [flSP]; simp_all; done) | simp_all [flSP])) (LSub.nil)))) ?_
          refine K_drop (Sel.take (Sel.take (Sel.none _))) ?_
          refine K_itStop (Fin := fun p => p = wordsM text) (M := M) (Mx := Mx) (A := []) ?_ ((wst ((bytesOf text).take i)).1 ++ wOf (wst ((bytesOf text).take i)).2) ?_
          · rfl
          · exact LSub.of rfl
      · try simp only [decide_eq_true_eq, decide_eq_false_iff_not, Bool.and_eq_true, Bool.or_eq_true, Bool.and_eq_false_iff, Bool.or_eq_false_iff, Bool.not_eq_true', Bool.not_eq_false', Int.not_lt, Int.not_le, Bool.not_true, Bool.not_false] at h25
        refine J_skip ?_
        refine J_region ?_
        refine JL_step rfl rfl rfl (step_add Sub.rfl Sub.rfl ?sg1) ?_
        case sg1 => unfold in64; omega
        refine JL_step rfl rfl rfl (step_move Sub.rfl) ?_
        refine JL_nil ?_
        refine K_againL (σ := Nat × Value) (s := (i, v)) (i + 1, x24.2) (by first | omega | (dsimp only; omega) | (simp_all; omega)) (by omega) (SubE.upd Sub.rfl (SubE.upd Sub.rfl (SubE.upd Sub.rfl (SubE.upd Sub.rfl (SubE.upd Sub.rfl SubE.any))))) (LSub.cons (by first | exact Sel.take (Sel.none _) | exact Sel.skip (Sel.take (Sel.none _)) | exact Sel.skip (Sel.skip (Sel.take (Sel.none _))) | exact Sel.skip (Sel.skip (Sel.skip (Sel.take (Sel.none _)))) | exact Sel.skip (Sel.skip (Sel.skip (Sel.skip (Sel.take (Sel.none _)))))) (SPs.rfl) (LSub.cons (by first | exact Sel.take (Sel.none _) | exact Sel.skip (Sel.take (Sel.none _)) | exact Sel.skip (Sel.skip (Sel.take (Sel.none _))) | exact Sel.skip (Sel.skip (Sel.skip (Sel.take (Sel.none _)))) | exact Sel.skip (Sel.skip (Sel.skip (Sel.skip (Sel.take (Sel.none _)))))) (own_eq (by rw [wst_at hlt h18])) (LSub.cons (by first | exact Sel.take (Sel.none _) | exact Sel.skip (Sel.take (Sel.none _)) | exact Sel.skip (Sel.skip (Sel.take (Sel.none _))) | exact Sel.skip (Sel.skip (Sel.skip (Sel.take (Sel.none _)))) | exact Sel.skip (Sel.skip (Sel.skip (Sel.skip (Sel.take (Sel.none _)))))) (SPs.of (by rw [wst_at hlt h18]; simp [flSP, h25])) (LSub.nil))))
  · try simp only [decide_eq_true_eq, decide_eq_false_iff_not, Bool.and_eq_true, Bool.or_eq_true, Bool.and_eq_false_iff, Bool.or_eq_false_iff, Bool.not_eq_true', Bool.not_eq_false', Int.not_lt, Int.not_le, Bool.not_true, Bool.not_false] at h11
    have hie : ((bytesOf text).take i) = (bytesOf text) := List.take_of_length_le (by omega)
    refine J_exit ?_
    refine K_lsub (L' := [box v3 117 rV v, own 5 rU8 v (wst (bytesOf text)).2, M (wst (bytesOf text)).1]) (LSub.cons (by first | exact Sel.take (Sel.none _) | exact Sel.skip (Sel.take (Sel.none _)) | exact Sel.skip (Sel.skip (Sel.take (Sel.none _))) | exact Sel.skip (Sel.skip (Sel.skip (Sel.take (Sel.none _)))) | exact Sel.skip (Sel.skip (Sel.skip (Sel.skip (Sel.take (Sel.none _)))))) (SPs.rfl) (LSub.cons (by first | exact Sel.take (Sel.none _) | exact Sel.skip (Sel.take (Sel.none _)) | exact Sel.skip (Sel.skip (Sel.take (Sel.none _))) | exact Sel.skip (Sel.skip (Sel.skip (Sel.take (Sel.none _)))) | exact Sel.skip (Sel.skip (Sel.skip (Sel.skip (Sel.take (Sel.none _)))))) (own_eq (by rw [hie])) (LSub.cons (by first | exact Sel.take (Sel.none _) | exact Sel.skip (Sel.take (Sel.none _)) | exact Sel.skip (Sel.skip (Sel.take (Sel.none _))) | exact Sel.skip (Sel.skip (Sel.skip (Sel.take (Sel.none _)))) | exact Sel.skip (Sel.skip (Sel.skip (Sel.skip (Sel.take (Sel.none _)))))) (SPs.of (by rw [hie])) (LSub.nil)))) ?_
    refine J_region ?_
    refine JL_step rfl rfl rfl (step_move Sub.rfl) ?_
    refine JL_stepX rfl rfl rfl (step_callv (aT := []) Sub.rfl (Sel.all _) (flush_spec text M Mx v3 v (wst (bytesOf text)).2 (wst (bytesOf text)).1 (fun hne => wst_okL hne)) trivial Tryz.call83) fun x28 => ?_
    refine JL_nil ?_
    obtain ⟨b28, u28⟩ := x28
    cases b28
    · by_cases hce : (wst (bytesOf text)).2 = []
      · refine K_lsub (L' := [SP.pure False, box v3 117 rV u28, own 5 rU8 u28 []]) (LSub.cons (Sel.skip (Sel.skip (Sel.take (Sel.none _)))) (SPs.of (by simp [flSP, hce])) (LSub.cons (by first | exact Sel.take (Sel.none _) | exact Sel.skip (Sel.take (Sel.none _)) | exact Sel.skip (Sel.skip (Sel.take (Sel.none _))) | exact Sel.skip (Sel.skip (Sel.skip (Sel.take (Sel.none _)))) | exact Sel.skip (Sel.skip (Sel.skip (Sel.skip (Sel.take (Sel.none _)))))) (SPs.rfl) (LSub.cons (by first | exact Sel.take (Sel.none _) | exact Sel.skip (Sel.take (Sel.none _)) | exact Sel.skip (Sel.skip (Sel.take (Sel.none _))) | exact Sel.skip (Sel.skip (Sel.skip (Sel.take (Sel.none _)))) | exact Sel.skip (Sel.skip (Sel.skip (Sel.skip (Sel.take (Sel.none _)))))) (SPs.rfl) (LSub.nil)))) ?_
        exact K_pure fun h => h.elim
      · refine K_lsub (L' := [box v3 117 rV u28, own 5 rU8 u28 [], Mx (wordsM text)]) (LSub.cons (by first | exact Sel.take (Sel.none _) | exact Sel.skip (Sel.take (Sel.none _)) | exact Sel.skip (Sel.skip (Sel.take (Sel.none _))) | exact Sel.skip (Sel.skip (Sel.skip (Sel.take (Sel.none _)))) | exact Sel.skip (Sel.skip (Sel.skip (Sel.skip (Sel.take (Sel.none _)))))) (SPs.rfl) (LSub.cons (by first | exact Sel.take (Sel.none _) | exact Sel.skip (Sel.take (Sel.none _)) | exact Sel.skip (Sel.skip (Sel.take (Sel.none _))) | exact Sel.skip (Sel.skip (Sel.skip (Sel.take (Sel.none _)))) | exact Sel.skip (Sel.skip (Sel.skip (Sel.skip (Sel.take (Sel.none _)))))) (SPs.rfl) (LSub.cons (by first | exact Sel.take (Sel.none _) | exact Sel.skip (Sel.take (Sel.none _)) | exact Sel.skip (Sel.skip (Sel.take (Sel.none _))) | exact Sel.skip (Sel.skip (Sel.skip (Sel.take (Sel.none _)))) | exact Sel.skip (Sel.skip (Sel.skip (Sel.skip (Sel.take (Sel.none _)))))) (SPs.of (by simp [flSP, hce, wordsM, wordsL])) (LSub.nil)))) ?_
        refine K_drop (Sel.take (Sel.take (Sel.none _))) ?_
        refine K_endRet (K_itStop (Fin := fun p => p = wordsM text) (M := M) (Mx := Mx) (A := []) ?_ (wordsM text) ?_)
        · rfl
        · exact LSub.of rfl
    · refine K_lsub (L' := [box v3 117 rV u28, own 5 rU8 u28 [], M (wordsM text)]) (LSub.cons (by first | exact Sel.take (Sel.none _) | exact Sel.skip (Sel.take (Sel.none _)) | exact Sel.skip (Sel.skip (Sel.take (Sel.none _))) | exact Sel.skip (Sel.skip (Sel.skip (Sel.take (Sel.none _)))) | exact Sel.skip (Sel.skip (Sel.skip (Sel.skip (Sel.take (Sel.none _)))))) (SPs.rfl) (LSub.cons (by first | exact Sel.take (Sel.none _) | exact Sel.skip (Sel.take (Sel.none _)) | exact Sel.skip (Sel.skip (Sel.take (Sel.none _))) | exact Sel.skip (Sel.skip (Sel.skip (Sel.take (Sel.none _)))) | exact Sel.skip (Sel.skip (Sel.skip (Sel.skip (Sel.take (Sel.none _)))))) (SPs.rfl) (LSub.cons (by first | exact Sel.take (Sel.none _) | exact Sel.skip (Sel.take (Sel.none _)) | exact Sel.skip (Sel.skip (Sel.take (Sel.none _))) | exact Sel.skip (Sel.skip (Sel.skip (Sel.take (Sel.none _)))) | exact Sel.skip (Sel.skip (Sel.skip (Sel.skip (Sel.take (Sel.none _)))))) (SPs.of (by simp [flSP, wordsM, wordsL])) (LSub.nil)))) ?_
      refine K_drop (Sel.take (Sel.take (Sel.none _))) ?_
      refine K_endRet (K_itDone (Fin := fun p => p = wordsM text) (M := M) (Mx := Mx) (A := []) ?_ (wordsM text) rfl ?_)
      · rfl
      · exact LSub.of rfl
theorem all_spec (text : ByteArray) : Fun1 Tryz.prog 50 [tV (.string text)] (tClo 82 [tPtr rStr text]) := by
  refine Spec.enter Tryz.func50 rfl rfl fun h0 w0 fr0 => ?_
  refine J_seq ?_
  refine J_region ?_
  refine JL_step rfl rfl rfl (step_box (R := rStr) Sub.rfl) ?_
  refine JL_step rfl rfl rfl (step_assign Sub.rfl) ?_
  refine JL_nil ?_
  refine J_seq ?_
  refine J_region ?_
  refine JL_step rfl rfl rfl (step_makeFunc (As := [_]) ⟨Sub.rfl, trivial⟩) ?_
  refine JL_step rfl rfl rfl (step_assign Sub.rfl) ?_
  refine JL_nil ?_
  refine J_ret ?_
  exact K_ret1 (t := 2) rfl () Sub.rfl
end Lg

namespace Lg
open Go Go.Proofs


theorem joinX : Go.Proofs.Builder.Extra Tryz.prog Tryz.joinL_ren where
  sizeBuilder := by kernel_rfl
  liesBuilder := by kernel_rfl
  t5 := Tryz.underlying5
  a5 := Tryz.isAgg5
  z5 := Tryz.sizeOf5
  v5 := Tryz.zeroValue5
  infoByte := by kernel_rfl
  cellsByte := by kernel_rfl
  sizeByte := by kernel_rfl
  neB5 := by decide
theorem Join_spec (xs : List ByteArray) (sep : ByteArray) (hN : xs.length ≤ 140737488355328) (hlen : (joinB xs sep).size ≤ 140737488355328) : Fun1 Tryz.prog 48 [tSlC rStr xs, tV (.string sep)] (tV (.string (joinB xs sep))) := join_spec Tryz.joinL joinX xs sep hN hlen
def sizes (xs : List ByteArray) : Nat := (xs.map ByteArray.size).sum
theorem sizes_append (xs ys : List ByteArray) : sizes (xs ++ ys) = sizes xs + sizes ys := by simp [sizes]
theorem ofBytes_size (cur : List Int) : (ofBytes cur).size = cur.length := by show (List.toArray _).size = _; simp
theorem wOf_sizes (cur : List Int) : sizes (wOf cur) = cur.length ∧ (wOf cur).length ≤ 1 ∧ (cur = [] → wOf cur = []) := by
  unfold wOf
  split
  · rename_i h; subst h; simp [sizes]
  · rename_i h; exact ⟨by simp [sizes, ofBytes_size], by simp, fun q => absurd q h⟩
theorem wst_sizes : ∀ (n : Nat) (l : List Int), l.length = n → sizes (wst l).1 + (wst l).1.length + (wst l).2.length ≤ l.length
  | 0, l, h => by rw [List.length_eq_zero_iff.1 h]; simp [wst, sizes]
  | n + 1, l, h => by
    obtain ⟨l', c, rfl⟩ : ∃ l' c, l = l' ++ [c] := ⟨l.dropLast, l.getLast (by intro q; rw [q] at h; simp at h), (List.dropLast_concat_getLast _).symm⟩
    have ih := wst_sizes n l' (by simpa using h)
    have : wst (l' ++ [c]) = wStep (wst l') c := by rw [wst, List.foldl_append]; rfl
    rw [this]
    have hw := wOf_sizes (wst l').2
    unfold wStep
    split
    · simp only [sizes_append, List.length_append, List.length_nil, List.length_singleton]
      omega
    · simp only [List.length_append, List.length_singleton]; omega
theorem words_sizes (s : ByteArray) : sizes (wordsM s) + (wordsM s).length ≤ s.size + 1 := by
  have h := wst_sizes _ (bytesOf s) rfl
  have hw := wOf_sizes (wst (bytesOf s)).2
  rw [bytesOf_len] at h
  simp only [wordsM, wordsL, sizes_append, List.length_append]
  omega
theorem joinB_size (xs : List ByteArray) (sep : ByteArray) : (joinB xs sep).size + sep.size ≤ sizes xs + sep.size * (xs.length + 1) ∧ (joinB xs sep).size ≤ sizes xs + sep.size * xs.length := by
  have e : ∀ l : List UInt8, (toB l).size = l.length := fun l => by show (List.toArray _).size = _; simp
  have hs : ∀ b : ByteArray, (ofB b).length = b.size := fun b => by show b.data.toList.length = _; simp
  have hl : ∀ r : List ByteArray, Lib.lens (r.map ofB) = sizes r := fun r => by
    simp only [Lib.lens, sizes, List.map_map]
    congr 1
  match xs with
  | [] => rw [joinB, List.map_nil, Lib.join_nil, e]; simp [sizes]
  | x :: r =>
    have h1 := Lib.join_length (ofB x) (r.map ofB) (ofB sep)
    have h2 := hl (x :: r)
    rw [List.map_cons] at h2
    rw [joinB, List.map_cons, e, h1, h2, hs, List.length_map]
    simp only [List.length_cons]
    have : sep.size * (r.length + 1) = sep.size * r.length + sep.size := Nat.mul_succ _ _
    have : sep.size * (r.length + 1 + 1) = sep.size * (r.length + 1) + sep.size := Nat.mul_succ _ _
    omega
def blank : ByteArray := ⟨#[32]⟩
def foldB (s : ByteArray) : ByteArray := joinB (wordsM s) blank
theorem foldB_size (s : ByteArray) : (foldB s).size ≤ s.size + 1 := by
  have h1 := words_sizes s
  have h2 := (joinB_size (wordsM s) blank).2
  have : blank.size = 1 := rfl
  rw [this, Nat.one_mul] at h2
  unfold foldB
  omega

theorem AppendSeq_spec {gf : Nat} {As : List Ty} {A : List SP} {Ok Fin : List ByteArray → Prop} (it : ItSpec Tryz.prog gf As A tStr Ok Fin) (he : ∀ args w, (callFunc gf args).run Tryz.prog w = .ok (.enter gf args) w) (hb : ∀ p, Ok p → p.length ≤ 1000000000) : Spec (X := Value × { xs : List ByteArray // Fin xs }) Tryz.prog 81 [tV (.slice none 0 0), tClo gf As] (A) (fun z => rV.ty z.1) (fun z => own 9 rStr z.1 z.2.1 :: A) := by
  refine Spec.enter Tryz.func81 rfl rfl fun h0 w0 fr0 => ?_
  refine J_seq ?_
  refine J_region ?_
  refine JL_stepX rfl rfl rfl (step_box_own (R := rV) (Sub.rV rfl)) fun v2 => ?_
  refine JL_step rfl rfl rfl (step_assign Sub.rfl) ?_
  refine JL_nil ?_
  refine J_seq ?_
  refine J_seq ?_
  refine J_region ?_
  refine JL_step rfl rfl rfl (step_move Sub.rfl) ?_
  refine JL_nil ?_
  refine J_block ?_
  refine J_range (A := A) (T := tStr) (Ok := Ok) (Fin := Fin) (R := []) (fun xs => SP.ex fun v => stars [box v2 32 rV v, own 9 rStr v xs]) (fun _ _ => SP.pure False) rfl (fun _ => rfl) rfl it Sub.rfl he (LSub.ex (.slice none 0 0) (LSub.stars (LSub.cons (by first | exact Sel.take (Sel.none _) | exact Sel.skip (Sel.take (Sel.none _)) | exact Sel.skip (Sel.skip (Sel.take (Sel.none _))) | exact Sel.skip (Sel.skip (Sel.skip (Sel.take (Sel.none _)))) | exact Sel.skip (Sel.skip (Sel.skip (Sel.skip (Sel.take (Sel.none _)))))) SPs.rfl (LSub.trans (LSub.nilown (e := 9) (R := rStr)) (LSub.of (by simp)))))) ?round1 ?done1 ?stop1
  case round1 =>
    intro l1 rec1 h2 w2 fr2 pre y hle1 hst1 hpd1 hdj1 hok
    refine K_ex fun v => K_stars ?_
    refine J_region ?_
    refine JL_step rfl rfl rfl (step_assign Sub.rfl) ?_
    refine JL_nil ?_
    refine K_begin hst1 hdj1 ?_
    refine J_block ?_
    refine J_region ?_
    refine JL_step rfl rfl rfl (step_load_box ty32V Sub.rfl (by first | exact Sel.take (Sel.none _) | exact Sel.skip (Sel.take (Sel.none _)) | exact Sel.skip (Sel.skip (Sel.take (Sel.none _))) | exact Sel.skip (Sel.skip (Sel.skip (Sel.take (Sel.none _)))) | exact Sel.skip (Sel.skip (Sel.skip (Sel.skip (Sel.take (Sel.none _))))))) ?_
    refine JL_step rfl rfl rfl (step_move Sub.rfl) ?_
    refine JL_step rfl rfl rfl (step_literal (ys := [_]) Tryz.underlying32 el9 ⟨rfl, Sub.rfl, trivial⟩ rfl (by decide)) ?_
    refine JL_stepX rfl rfl rfl (step_append Tryz.underlying32 el9 Sub.rfl Sub.rfl (by first | exact Sel.take (Sel.none _) | exact Sel.skip (Sel.take (Sel.none _)) | exact Sel.skip (Sel.skip (Sel.take (Sel.none _))) | exact Sel.skip (Sel.skip (Sel.skip (Sel.take (Sel.none _)))) | exact Sel.skip (Sel.skip (Sel.skip (Sel.skip (Sel.take (Sel.none _)))))) (by have := hb _ hok; simp at this ⊢; omega) (by have := hb _ hok; simp at this ⊢; omega)) fun v11 => ?_
    refine JL_stepU rfl rfl (step_store_box (R := rV) ty32V Sub.rfl Sub.rfl (by first | exact Sel.take (Sel.none _) | exact Sel.skip (Sel.take (Sel.none _)) | exact Sel.skip (Sel.skip (Sel.take (Sel.none _))) | exact Sel.skip (Sel.skip (Sel.skip (Sel.take (Sel.none _)))) | exact Sel.skip (Sel.skip (Sel.skip (Sel.skip (Sel.take (Sel.none _))))))) fun _ => ?_
    refine JL_nil ?_
    refine K_roundN hst1 hpd1 ?_
    refine LSub.cons (by first | exact Sel.take (Sel.none _) | exact Sel.skip (Sel.take (Sel.none _)) | exact Sel.skip (Sel.skip (Sel.take (Sel.none _))) | exact Sel.skip (Sel.skip (Sel.skip (Sel.take (Sel.none _)))) | exact Sel.skip (Sel.skip (Sel.skip (Sel.skip (Sel.take (Sel.none _)))))) SPs.rfl (LSub.ex _ (LSub.stars (LSub.cons (by first | exact Sel.take (Sel.none _) | exact Sel.skip (Sel.take (Sel.none _)) | exact Sel.skip (Sel.skip (Sel.take (Sel.none _))) | exact Sel.skip (Sel.skip (Sel.skip (Sel.take (Sel.none _)))) | exact Sel.skip (Sel.skip (Sel.skip (Sel.skip (Sel.take (Sel.none _)))))) SPs.rfl (LSub.cons (by first | exact Sel.take (Sel.none _) | exact Sel.skip (Sel.take (Sel.none _)) | exact Sel.skip (Sel.skip (Sel.take (Sel.none _))) | exact Sel.skip (Sel.skip (Sel.skip (Sel.take (Sel.none _)))) | exact Sel.skip (Sel.skip (Sel.skip (Sel.skip (Sel.take (Sel.none _)))))) SPs.rfl LSub.nil))))
  case done1 =>
    intro D1 xs hfin
    refine K_ex fun v => K_stars ?_
    refine J_seq ?_
    refine J_region ?_
    refine JL_step rfl rfl rfl (step_load_box ty32V Sub.rfl (by first | exact Sel.take (Sel.none _) | exact Sel.skip (Sel.take (Sel.none _)) | exact Sel.skip (Sel.skip (Sel.take (Sel.none _))) | exact Sel.skip (Sel.skip (Sel.skip (Sel.take (Sel.none _)))) | exact Sel.skip (Sel.skip (Sel.skip (Sel.skip (Sel.take (Sel.none _))))))) ?_
    refine JL_step rfl rfl rfl (step_assign Sub.rfl) ?_
    refine JL_nil ?_
    refine J_ret ?_
    refine K_unmark (LSub.cons (by first | exact Sel.take (Sel.none _) | exact Sel.skip (Sel.take (Sel.none _)) | exact Sel.skip (Sel.skip (Sel.take (Sel.none _))) | exact Sel.skip (Sel.skip (Sel.skip (Sel.take (Sel.none _)))) | exact Sel.skip (Sel.skip (Sel.skip (Sel.skip (Sel.take (Sel.none _)))))) SPs.rfl LSub.rfl) ?_
    refine K_lsub (LSub.of (L' := box v2 32 rV v :: own 9 rStr v xs :: A) (by simp)) ?_
    refine K_ret1' (rv := .tmp 4) rfl (v, ⟨xs, hfin⟩) (S := [box v2 32 rV v]) (Sel.take (Sel.none _)) (.tmp Sub.rfl) (Frz.sub Sub.rfl)
  case stop1 =>
    intro D1 c1 xs
    refine K_pure fun h => h.elim
theorem Collect_spec {gf : Nat} {As : List Ty} {A : List SP} {Ok Fin : List ByteArray → Prop} (it : ItSpec Tryz.prog gf As A tStr Ok Fin) (he : ∀ args w, (callFunc gf args).run Tryz.prog w = .ok (.enter gf args) w) (hb : ∀ p, Ok p → p.length ≤ 1000000000) : Spec (X := Value × { xs : List ByteArray // Fin xs }) Tryz.prog 49 [tClo gf As] (A) (fun z => rV.ty z.1) (fun z => own 9 rStr z.1 z.2.1 :: A) := by
  refine Spec.enter Tryz.func49 rfl rfl fun h0 w0 fr0 => ?_
  refine J_seq ?_
  refine J_region ?_
  refine JL_step rfl rfl rfl (step_assign Sub.rfl) ?_
  refine JL_nil ?_
  refine J_seq ?_
  refine J_region ?_
  refine JL_step rfl rfl rfl (step_move Sub.rfl) ?_
  refine JL_stepX rfl rfl rfl (step_call (Sel.all _) (AppendSeq_spec it he hb) ⟨Sub.rfl, Sub.rfl, trivial⟩ Tryz.call81) fun z => ?_
  refine JL_step rfl rfl rfl (step_assign Sub.rfl) ?_
  refine JL_nil ?_
  refine J_ret ?_
  refine K_lsub (LSub.of (L' := own 9 rStr z.1 z.2.1 :: A) (by simp)) ?_
  refine K_retv (rv := .tmp 2) rfl z (.tmp Sub.rfl) Sub.rfl
theorem Fold_spec (text : ByteArray) (hsz : text.size ≤ 100000000) : Fun1 Tryz.prog 23 [tV (.string text)] (tV (.string (foldB text))) := by
  refine Spec.enter Tryz.func23 rfl rfl fun h0 w0 fr0 => ?_
  have hws := words_sizes text
  have hjs := foldB_size text
  refine J_seq ?_
  refine J_region ?_
  refine JL_step rfl rfl rfl (step_assign Sub.rfl) ?_
  refine JL_nil ?_
  refine J_seq ?_
  refine J_region ?_
  refine JL_step rfl rfl rfl (step_move Sub.rfl) ?_
  refine JL_step rfl rfl rfl (step_call0 (all_spec text) ⟨Sub.rfl, trivial⟩ Tryz.call50) ?_
  refine JL_stepX rfl rfl rfl (step_call (Sel.none _) (Collect_spec (all1_spec text (by omega)) Tryz.call82 (fun p hp => by have := hp.length_le; omega)) ⟨Sub.rfl, trivial⟩ Tryz.call49) fun z => ?_
  obtain ⟨v5, xs, hxs⟩ := z
  have hxs : xs = wordsM text := hxs
  subst hxs
  refine JL_freeze (t := 5) (Sel.take (Sel.none _)) Frz.ownC ?_
  refine JL_step rfl rfl rfl (step_call0 (Join_spec (wordsM text) blank (by omega) (Nat.le_trans hjs (by omega))) ⟨Sub.rfl, Sub.rfl, trivial⟩ Tryz.call48) ?_
  refine JL_step rfl rfl rfl (step_assign Sub.rfl) ?_
  refine JL_nil ?_
  refine J_ret ?_
  refine K_ret1 (t := 2) rfl () Sub.rfl
end Lg

namespace Lg
open Go Go.Proofs


section
variable {κ β : Type}
def keysAt (m : List (κ × β)) (dn : List Nat) : List κ := (dn.filterMap fun i => m[i]?).map (·.1)
theorem keysAt_snoc {m : List (κ × β)} {dn : List Nat} {i : Nat} {k : κ} {s : β} (h : m[i]? = some (k, s)) : keysAt m (dn ++ [i]) = keysAt m dn ++ [k] := by simp [keysAt, h]
theorem nodup_sub_len : ∀ {l : List Nat}, l.Nodup → ∀ {r : List Nat}, (∀ a ∈ l, a ∈ r) → l.length ≤ r.length
  | [], _, r, _ => Nat.zero_le _
  | a :: l, hd, r, hs => by
    have hd' := List.nodup_cons.1 hd
    have ha := hs a (by simp)
    have := nodup_sub_len hd'.2 (r := r.erase a) (fun b hb => (List.mem_erase_of_ne (by intro e; subst e; exact hd'.1 hb)).2 (hs b (by simp [hb])))
    rw [List.length_erase_of_mem ha] at this
    have hp : 0 < r.length := List.length_pos_of_mem ha
    simp only [List.length_cons]
    omega
theorem nodup_lt_len {n : Nat} {l : List Nat} (hd : l.Nodup) (hl : ∀ a ∈ l, a < n) : l.length ≤ n := by
  have := nodup_sub_len hd (r := List.range n) (fun a ha => List.mem_range.2 (hl a ha))
  simpa using this
theorem range_get (m : List (κ × β)) : ((List.range m.length).filterMap fun i => m[i]?) = m := by
  have h : ∀ k (l : List (κ × β)), k = l.length → ((List.range k).filterMap fun i => (l)[i]?) = l := by
    intro k
    induction k with
    | zero => intro l e; have := List.eq_nil_of_length_eq_zero e.symm; subst this; rfl
    | succ k ih =>
      intro l e
      obtain ⟨l', a, rfl⟩ : ∃ l' a, l = l' ++ [a] := ⟨l.dropLast, l.getLast (by intro h; rw [h] at e; simp at e), (List.dropLast_concat_getLast _).symm⟩
      have e' : k = l'.length := by simp at e; exact e
      rw [List.range_succ, List.filterMap_append]
      have := ih l' e'
      have h2 : ((List.range k).filterMap fun i => (l' ++ [a])[i]?) = (List.range k).filterMap fun i => l'[i]? := by
        have h3 : ∀ (r : List Nat), (∀ i ∈ r, i < l'.length) → (r.filterMap fun i => (l' ++ [a])[i]?) = r.filterMap fun i => l'[i]? := by
          intro r
          induction r with
          | nil => intro _; rfl
          | cons i r ihr =>
            intro hr
            simp only [List.filterMap_cons]
            rw [List.getElem?_append_left (hr i (by simp)), ihr (fun j hj => hr j (by simp [hj]))]
        exact h3 _ (fun i hi => by have := List.mem_range.1 hi; omega)
      rw [h2, this]
      simp [e']
  exact h _ m rfl
theorem keysAt_perm {m : List (κ × β)} {dn : List Nat} (hd : dn.Nodup) (hl : ∀ a ∈ dn, a < m.length) (hc : ∀ i, i < m.length → i ∈ dn) : (keysAt m dn).Perm (m.map (·.1)) := by
  have hp : dn.Perm (List.range m.length) := (List.perm_ext_iff_of_nodup hd List.nodup_range).2 fun a => ⟨fun h => List.mem_range.2 (hl a h), fun h => hc a (List.mem_range.1 h)⟩
  have := ((hp.filterMap fun i => m[i]?).map (·.1))
  rw [range_get] at this
  exact this
theorem keysAt_len (m : List (κ × β)) (dn : List Nat) : (keysAt m dn).length ≤ dn.length := by
  unfold keysAt
  rw [List.length_map]
  exact List.length_filterMap_le _ _
end
theorem leL_tot (a b : List UInt8) : (decide (a ≤ b) || decide (b ≤ a)) = true := by
  simp only [Bool.or_eq_true, decide_eq_true_eq]; exact List.le_total a b
theorem leL_trans (a b c : List UInt8) (h1 : decide (a ≤ b) = true) (h2 : decide (b ≤ c) = true) : decide (a ≤ c) = true := by
  simp only [decide_eq_true_eq] at *; exact List.le_trans h1 h2
theorem sortS_perm {xs ys : List ByteArray} (h : xs.Perm ys) : sortS xs = sortS ys := by
  unfold sortS
  congr 1
  have p : ((xs.map ofB).mergeSort fun x y => decide (x ≤ y)).Perm ((ys.map ofB).mergeSort fun x y => decide (x ≤ y)) := (List.mergeSort_perm _ _).trans ((h.map ofB).trans (List.mergeSort_perm _ _).symm)
  have s1 := List.pairwise_mergeSort leL_trans leL_tot (xs.map ofB)
  have s2 := List.pairwise_mergeSort leL_trans leL_tot (ys.map ofB)
  refine p.eq_of_pairwise (le := fun a b => decide (a ≤ b) = true) ?_ s1 s2
  intro a b _ _ h1 h2
  simp only [decide_eq_true_eq] at h1 h2
  exact List.le_antisymm h1 h2
/-- The set of some strings, as a map. -/
def setM (xs : List ByteArray) : List (ByteArray × Bool) := xs.foldl (fun m s => mput m s true) []
theorem setM_snoc (xs : List ByteArray) (s : ByteArray) : setM (xs ++ [s]) = mput (setM xs) s true := by simp [setM, List.foldl_append]
theorem setM_len (xs : List ByteArray) : (setM xs).length ≤ xs.length := by
  have h : ∀ (ys : List ByteArray) (m : List (ByteArray × Bool)), (ys.foldl (fun m s => mput m s true) m).length ≤ m.length + ys.length := by
    intro ys
    induction ys with
    | nil => intro m; simp
    | cons y ys ih =>
      intro m
      have h1 := ih (mput m y true)
      have h2 := mput_length_le m y true
      simp only [List.foldl_cons, List.length_cons]
      omega
  have := h xs []
  simpa [setM] using this
/-- The tokens of a text. -/
def tokM (s : ByteArray) : List ByteArray := sortS ((setM (wordsM s)).map (·.1))

theorem sorted_spec (v : Value) (m : List (ByteArray × Bool)) (hm : m.length ≤ 1000000000) : Spec (X := Unit) Tryz.prog 52 [rV.ty v] ([mapOwn kvS rBool v m]) (fun _ => tSlC rStr (sortS (m.map (·.1)))) (fun _ => [mapOwn kvS rBool v m]) := by
  refine Spec.enter Tryz.func52 rfl rfl fun h0 w0 fr0 => ?_
  refine J_seq ?_
  refine J_region ?_
  refine JL_step rfl rfl rfl (step_assign Sub.rfl) ?_
  refine JL_nil ?_
  refine J_seq ?_
  refine J_region ?_
  refine JL_step rfl rfl rfl (step_assign Sub.rfl) ?_
  refine JL_nil ?_
  refine K_lsub (LSub.nilown (e := 9) (R := rStr)) ?_
  refine J_seq ?_
  refine J_seq ?_
  refine J_region ?_
  refine JL_step rfl rfl rfl (step_move Sub.rfl) ?_
  refine JL_stepX rfl rfl rfl (step_range_map (kv := kvS) (R := rBool) Tryz.underlying99 Sub.ofRV (by first | exact Sel.take (Sel.none _) | exact Sel.skip (Sel.take (Sel.none _)) | exact Sel.skip (Sel.skip (Sel.take (Sel.none _))) | exact Sel.skip (Sel.skip (Sel.skip (Sel.take (Sel.none _)))) | exact Sel.skip (Sel.skip (Sel.skip (Sel.skip (Sel.take (Sel.none _))))))) fun v6 => ?_
  refine JL_nil ?_
  refine J_block ?_
  refine J_loopL (σ := List Nat × Value) (fun ⟨dn, vo⟩ => dn.Nodup ∧ ∀ a ∈ dn, a < m.length) (fun ⟨dn, vo⟩ => upd (upd (upd env0 2 (tV (.slice none 0 0))) 3 (rV.ty vo)) 6 (tAt v6 0)) (fun ⟨dn, vo⟩ => [itOwn v6 v m.length dn, mapOwn kvS rBool v m, own 9 rStr vo (keysAt m dn)]) (fun ⟨dn, vo⟩ => m.length - dn.length) ([], .slice none 0 0) ⟨by simp, by simp⟩ (SubE.upd Sub.rfl (SubE.upd (Sub.rV rfl) (SubE.upd Sub.rfl SubE.any))) (LSub.cons (by first | exact Sel.take (Sel.none _) | exact Sel.skip (Sel.take (Sel.none _)) | exact Sel.skip (Sel.skip (Sel.take (Sel.none _))) | exact Sel.skip (Sel.skip (Sel.skip (Sel.take (Sel.none _)))) | exact Sel.skip (Sel.skip (Sel.skip (Sel.skip (Sel.take (Sel.none _)))))) (SPs.rfl) (LSub.cons (by first | exact Sel.take (Sel.none _) | exact Sel.skip (Sel.take (Sel.none _)) | exact Sel.skip (Sel.skip (Sel.take (Sel.none _))) | exact Sel.skip (Sel.skip (Sel.skip (Sel.take (Sel.none _)))) | exact Sel.skip (Sel.skip (Sel.skip (Sel.skip (Sel.take (Sel.none _)))))) (SPs.rfl) (LSub.cons (by first | exact Sel.take (Sel.none _) | exact Sel.skip (Sel.take (Sel.none _)) | exact Sel.skip (Sel.skip (Sel.take (Sel.none _))) | exact Sel.skip (Sel.skip (Sel.skip (Sel.take (Sel.none _)))) | exact Sel.skip (Sel.skip (Sel.skip (Sel.skip (Sel.take (Sel.none _)))))) (SPs.rfl) (LSub.nil)))) ?_
  rintro ⟨dn, vo⟩ ⟨hnd, hdlt⟩
  refine J_seq ?_
  refine J_region ?_
  refine JL_stepX rfl rfl rfl (step_next rfl Sub.rfl LSub.rfl) fun o => ?_
  refine JL_step rfl rfl rfl (step_extract_next Sub.rfl) ?_
  refine JL_nil ?_
  refine J_seq ?_
  refine J_cond Sub.rfl (fun h8 => ?_) (fun h8 => ?_)
  · try simp only [decide_eq_true_eq, decide_eq_false_iff_not, Bool.and_eq_true, Bool.or_eq_true, Bool.and_eq_false_iff, Bool.or_eq_false_iff, Bool.not_eq_true', Bool.not_eq_false', Int.not_lt, Int.not_le, Bool.not_true, Bool.not_false] at h8
    obtain ⟨o, ho⟩ := o
    obtain ⟨i, rfl⟩ := Option.isSome_iff_exists.1 h8
    dsimp only at ho
    obtain ⟨hil, hid⟩ := ho
    obtain ⟨⟨nm, s⟩, hms⟩ : ∃ q, m[i]? = some q := ⟨_, List.getElem?_eq_getElem hil⟩
    have hnd2 : (dn ++ [i]).Nodup := List.nodup_append.2 ⟨hnd, by simp, by intro a ha b hb e; simp at hb; subst hb; subst e; exact hid ha⟩
    have hlt2 : ∀ a ∈ dn ++ [i], a < m.length := by intro a ha; rcases List.mem_append.1 ha with h | h; exact hdlt a h; simp at h; subst h; exact hil
    have hdl := nodup_lt_len hnd2 hlt2
    simp only [List.length_append, List.length_cons, List.length_nil] at hdl
    have hol := keysAt_len m dn
    refine J_skip ?_
    refine J_block ?_
    refine J_seq ?_
    refine J_region ?_
    refine JL_step rfl rfl rfl (step_entry Sub.rfl LSub.rfl hms) ?_
    refine JL_step rfl rfl rfl (step_extract Sub.rfl rfl) ?_
    refine JL_step rfl rfl rfl (step_assign Sub.rfl) ?_
    refine JL_nil ?_
    refine J_region ?_
    refine JL_step rfl rfl rfl (step_move Sub.rfl) ?_
    refine JL_step rfl rfl rfl (step_move Sub.rfl) ?_
    refine JL_step rfl rfl rfl (step_literal (ys := [_]) Tryz.underlying32 el9 ⟨rfl, Sub.rfl, trivial⟩ rfl (by decide)) ?_
    refine JL_stepX rfl rfl rfl (step_append Tryz.underlying32 el9 Sub.rfl Sub.rfl (by first | exact Sel.take (Sel.none _) | exact Sel.skip (Sel.take (Sel.none _)) | exact Sel.skip (Sel.skip (Sel.take (Sel.none _))) | exact Sel.skip (Sel.skip (Sel.skip (Sel.take (Sel.none _)))) | exact Sel.skip (Sel.skip (Sel.skip (Sel.skip (Sel.take (Sel.none _)))))) (by simp; omega) (by simp; omega)) fun v14 => ?_
    refine JL_step rfl rfl rfl (step_assign Sub.rfl) ?_
    refine JL_nil ?_
    refine K_againL (σ := List Nat × Value) (s := (dn, vo)) (dn ++ [i], v14) (by simp; omega) ⟨hnd2, hlt2⟩ (SubE.upd Sub.rfl (SubE.upd Sub.rfl (SubE.upd Sub.rfl SubE.any))) (LSub.cons (by first | exact Sel.take (Sel.none _) | exact Sel.skip (Sel.take (Sel.none _)) | exact Sel.skip (Sel.skip (Sel.take (Sel.none _))) | exact Sel.skip (Sel.skip (Sel.skip (Sel.take (Sel.none _)))) | exact Sel.skip (Sel.skip (Sel.skip (Sel.skip (Sel.take (Sel.none _)))))) (SPs.rfl) (LSub.cons (by first | exact Sel.take (Sel.none _) | exact Sel.skip (Sel.take (Sel.none _)) | exact Sel.skip (Sel.skip (Sel.take (Sel.none _))) | exact Sel.skip (Sel.skip (Sel.skip (Sel.take (Sel.none _)))) | exact Sel.skip (Sel.skip (Sel.skip (Sel.skip (Sel.take (Sel.none _)))))) (SPs.rfl) (LSub.cons (by first | exact Sel.take (Sel.none _) | exact Sel.skip (Sel.take (Sel.none _)) | exact Sel.skip (Sel.skip (Sel.take (Sel.none _))) | exact Sel.skip (Sel.skip (Sel.skip (Sel.take (Sel.none _)))) | exact Sel.skip (Sel.skip (Sel.skip (Sel.skip (Sel.take (Sel.none _)))))) (own_eq (by rw [keysAt_snoc hms])) (LSub.nil))))
  · try simp only [decide_eq_true_eq, decide_eq_false_iff_not, Bool.and_eq_true, Bool.or_eq_true, Bool.and_eq_false_iff, Bool.or_eq_false_iff, Bool.not_eq_true', Bool.not_eq_false', Int.not_lt, Int.not_le, Bool.not_true, Bool.not_false] at h8
    obtain ⟨o, ho⟩ := o
    obtain rfl : o = none := by simpa using h8
    dsimp only at ho
    have hperm := keysAt_perm hnd hdlt ho
    have hol := keysAt_len m dn
    have hdl := nodup_lt_len hnd hdlt
    refine J_exit ?_
    refine J_seq ?_
    refine J_region ?_
    refine JL_step rfl rfl rfl (step_move Sub.rfl) ?_
    refine JL_stepX rfl rfl rfl (step_call (Sel.skip (Sel.skip (Sel.take (Sel.none _)))) (sortStr_spec Tryz.sortSJ vo (keysAt m dn) (by omega)) ⟨Sub.rfl, trivial⟩ Tryz.call85) fun v16 => ?_
    refine JL_nil ?_
    refine J_seq ?_
    refine J_region ?_
    refine JL_freeze (t := 3) (Sel.take (Sel.none _)) Frz.ownC ?_
    refine JL_step rfl rfl rfl (step_move Sub.rfl) ?_
    refine JL_step rfl rfl rfl (step_assign Sub.rfl) ?_
    refine JL_nil ?_
    refine J_ret ?_
    refine K_drop (Sel.take (Sel.none _)) ?_
    refine K_ret1' (rv := .tmp 2) rfl () (Sel.none _) (.tmp Sub.rfl) (Frz.sub ?_)
    rw [sortS_perm hperm]; exact Sub.rfl
theorem Tokens_spec (text : ByteArray) (hsz : text.size ≤ 100000000) : Fun1 Tryz.prog 27 [tV (.string text)] (tSlC rStr (tokM text)) := by
  refine Spec.enter Tryz.func27 rfl rfl fun h0 w0 fr0 => ?_
  have hws := words_sizes text
  have hsl := setM_len (wordsM text)
  refine J_seq ?_
  refine J_region ?_
  refine JL_step rfl rfl rfl (step_assign Sub.rfl) ?_
  refine JL_nil ?_
  refine J_seq ?_
  refine J_region ?_
  refine JL_stepX rfl rfl rfl (step_makeMapV (kv := kvS) (R := rBool)) fun v5 => ?_
  refine JL_stepX rfl rfl rfl (step_alloc (R := rV) (z := Value.map none) (fun w => Tryz.zeroValue99 w) (fun _ => ⟨rfl, rfl⟩)) fun v3 => ?_
  refine JL_stepU rfl rfl (step_store_box (R := rV) ty99 Sub.rfl Sub.rfl (by first | exact Sel.take (Sel.none _) | exact Sel.skip (Sel.take (Sel.none _)) | exact Sel.skip (Sel.skip (Sel.take (Sel.none _))) | exact Sel.skip (Sel.skip (Sel.skip (Sel.take (Sel.none _)))) | exact Sel.skip (Sel.skip (Sel.skip (Sel.skip (Sel.take (Sel.none _))))))) fun _ => ?_
  refine JL_nil ?_
  refine K_freeze (t := 3) (Sel.take (Sel.none _)) Frz.box ?_
  refine J_seq ?_
  refine J_seq ?_
  refine J_region ?_
  refine JL_step rfl rfl rfl (step_move Sub.rfl) ?_
  refine JL_step rfl rfl rfl (step_call0 (all_spec text) ⟨Sub.rfl, trivial⟩ Tryz.call50) ?_
  refine JL_nil ?_
  refine J_block ?_
  refine J_range (A := []) (T := tStr) (Ok := okP (wordsM text)) (Fin := fun p => p = wordsM text) (R := []) (fun xs => mapOwn kvS rBool v5 (setM xs)) (fun _ _ => SP.pure False) rfl (fun _ => rfl) rfl (all1_spec text (by omega)) Sub.rfl Tryz.call82 (LSub.rfl) ?round1 ?done1 ?stop1
  case round1 =>
    intro l1 rec1 h2 w2 fr2 pre y hle1 hst1 hpd1 hdj1 hok
    refine J_region ?_
    refine JL_step rfl rfl rfl (step_assign Sub.rfl) ?_
    refine JL_nil ?_
    refine K_begin hst1 hdj1 ?_
    refine J_block ?_
    refine J_region ?_
    refine JL_step rfl rfl rfl (step_load_ptr ty99 Sub.rfl) ?_
    refine JL_step rfl rfl rfl (step_move Sub.rfl) ?_
    refine JL_stepU rfl rfl (step_mapUpdate (kv := kvS) (R := rBool) (KeyT.str Tryz.underlying9) Tryz.underlying99 Sub.ofRV Sub.rfl Sub.rfl (by first | exact Sel.take (Sel.none _) | exact Sel.skip (Sel.take (Sel.none _)) | exact Sel.skip (Sel.skip (Sel.take (Sel.none _))) | exact Sel.skip (Sel.skip (Sel.skip (Sel.take (Sel.none _)))) | exact Sel.skip (Sel.skip (Sel.skip (Sel.skip (Sel.take (Sel.none _))))))) fun _ => ?_
    refine JL_nil ?_
    refine K_roundN hst1 hpd1 ?_
    exact LSub.cons (by first | exact Sel.take (Sel.none _) | exact Sel.skip (Sel.take (Sel.none _)) | exact Sel.skip (Sel.skip (Sel.take (Sel.none _))) | exact Sel.skip (Sel.skip (Sel.skip (Sel.take (Sel.none _)))) | exact Sel.skip (Sel.skip (Sel.skip (Sel.skip (Sel.take (Sel.none _)))))) (SPs.rfl) (LSub.cons (by first | exact Sel.take (Sel.none _) | exact Sel.skip (Sel.take (Sel.none _)) | exact Sel.skip (Sel.skip (Sel.take (Sel.none _))) | exact Sel.skip (Sel.skip (Sel.skip (Sel.take (Sel.none _)))) | exact Sel.skip (Sel.skip (Sel.skip (Sel.skip (Sel.take (Sel.none _)))))) (SPs.of (by rw [setM_snoc])) (LSub.nil))
  case done1 =>
    intro D1 xs hfin
    have hfin : xs = wordsM text := hfin
    subst xs
    refine J_seq ?_
    refine J_region ?_
    refine JL_step rfl rfl rfl (step_load_ptr ty99 Sub.rfl) ?_
    refine JL_stepX rfl rfl rfl (step_call (by first | exact Sel.take (Sel.none _) | exact Sel.skip (Sel.take (Sel.none _)) | exact Sel.skip (Sel.skip (Sel.take (Sel.none _))) | exact Sel.skip (Sel.skip (Sel.skip (Sel.take (Sel.none _)))) | exact Sel.skip (Sel.skip (Sel.skip (Sel.skip (Sel.take (Sel.none _)))))) (sorted_spec v5 (setM (wordsM text)) (by omega)) ⟨Sub.rfl, trivial⟩ Tryz.call52) fun v12 => ?_
    refine JL_step rfl rfl rfl (step_assign Sub.rfl) ?_
    refine JL_nil ?_
    refine J_ret ?_
    refine K_unmark (LSub.cons (by first | exact Sel.take (Sel.none _) | exact Sel.skip (Sel.take (Sel.none _)) | exact Sel.skip (Sel.skip (Sel.take (Sel.none _))) | exact Sel.skip (Sel.skip (Sel.skip (Sel.take (Sel.none _)))) | exact Sel.skip (Sel.skip (Sel.skip (Sel.skip (Sel.take (Sel.none _)))))) SPs.rfl LSub.rfl) ?_
    refine K_ret1' (rv := .tmp 2) rfl () (Sel.all _) (.tmp Sub.rfl) (Frz.sub Sub.rfl)
  case stop1 =>
    intro D1 c1 xs
    refine K_pure fun h => h.elim
end Lg

namespace Lg
open Go Go.Proofs


theorem Itoa_spec (n : Int) (h : -9223372036854775808 ≤ n ∧ n ≤ 9223372036854775807) : Fun1 Tryz.prog 62 [tV (.int .i64 n)] (tV (.string (itoaB n))) := itoa_spec Tryz.itoaL (by kernel_rfl) n h.1 h.2
theorem itoaB_size {n : Int} (h : -9223372036854775808 ≤ n ∧ n ≤ 9223372036854775807) : (itoaB n).size ≤ 30 := by
  have hd : ∀ (k u : Nat), u < 10 ^ (k + 1) → Lib.nDigits u ≤ k + 1 := by
    intro k
    induction k with
    | zero => intro u hu; rw [Lib.nDigits_small (by simpa using hu)]; exact Nat.le_refl _
    | succ k ih =>
      intro u hu
      by_cases h10 : u < 10
      · rw [Lib.nDigits_small h10]; omega
      · rw [Lib.nDigits_big h10]
        have := ih (u / 10) (by rw [Nat.pow_succ] at hu; exact Nat.div_lt_of_lt_mul (by rw [Nat.mul_comm]; exact hu))
        omega
  have h2 : (itoaB n).size = (Lib.itoa n).length := by show (List.toArray _).size = _; simp
  rw [h2]
  unfold Lib.itoa
  split
  · rw [List.length_cons, Lib.decDigits_length]
    have := hd 19 n.natAbs (by have : (10 : Nat) ^ (19 + 1) = 100000000000000000000 := by decide
                               omega)
    omega
  · rw [Lib.decDigits_length]
    have := hd 19 n.toNat (by have : (10 : Nat) ^ (19 + 1) = 100000000000000000000 := by decide
                              omega)
    omega
def hStep (f h b : Int) : Int := (h * f + b + 1) % (2147483647 : Int)
def hFac (st : Int) : Int := 16807 + st % 1000003
def hashM (s : ByteArray) (seed : Int) : Int := ((bytesOf s).foldl (hStep (hFac (seed % (2147483647 : Int)))) (seed % (2147483647 : Int)) * 48271 + 11) % (2147483647 : Int)
theorem hFold_rng {f : Int} : ∀ (l : List Int) (h : Int), 0 ≤ h ∧ h < (2147483647 : Int) → 0 ≤ l.foldl (hStep f) h ∧ l.foldl (hStep f) h < (2147483647 : Int)
  | [], h, hh => hh
  | b :: l, h, hh => hFold_rng l _ ⟨Int.emod_nonneg _ (by decide), Int.emod_lt_of_pos _ (by decide)⟩
theorem hashM_rng (s : ByteArray) (seed : Int) : 0 ≤ hashM s seed ∧ hashM s seed < (2147483647 : Int) := ⟨Int.emod_nonneg _ (by decide), Int.emod_lt_of_pos _ (by decide)⟩
theorem mul_rng {h f : Int} (h1 : 0 ≤ h ∧ h < (2147483647 : Int)) (h2 : 0 ≤ f ∧ f ≤ 1100000) : 0 ≤ h * f ∧ h * f ≤ 2362232011700000 := by
  have a := Int.mul_nonneg h1.1 h2.1
  have b : h * f ≤ 2147483647 * 1100000 := Int.mul_le_mul (by omega) h2.2 h2.1 (by decide)
  omega
def leastM (seed : Int) : List ByteArray → Int
  | [] => -1
  | t :: ts => ts.foldl (fun b x => if hashM x seed < b then hashM x seed else b) (hashM t seed)
theorem least_rng (seed : Int) (l : List ByteArray) : -1 ≤ leastM seed l ∧ leastM seed l < (2147483647 : Int) := by
  cases l with
  | nil => simp [leastM]
  | cons t ts =>
    have : ∀ (ts : List ByteArray) (h : Int), 0 ≤ h ∧ h < (2147483647 : Int) → 0 ≤ ts.foldl (fun b x => if hashM x seed < b then hashM x seed else b) h ∧ ts.foldl (fun b x => if hashM x seed < b then hashM x seed else b) h < (2147483647 : Int) := by
      intro ts
      induction ts with
      | nil => intro h hh; exact hh
      | cons x ts ih =>
        intro h hh
        refine ih _ ?_
        dsimp only
        split
        · exact hashM_rng x seed
        · exact hh
    have := this ts _ (hashM_rng t seed)
    simp only [leastM]; omega
def badN (n : Int) : Prop := n < 1 ∨ 64 < n
instance (n : Int) : Decidable (badN n) := inferInstanceAs (Decidable (_ ∨ _))
def mkM (tokens : List ByteArray) (n : Int) : List Int := if badN n then [] else (List.range n.toNat).map fun i : Nat => leastM i tokens
def mkE (n : Int) : Int := if badN n then 1 else 0
theorem fill_set {α : Type} (f : Nat → α) (z : α) {n i : Nat} (h : i < n) : ((List.range i).map f ++ List.replicate (n - i) z).set i (f i) = (List.range (i + 1)).map f ++ List.replicate (n - (i + 1)) z := by
  rw [List.set_append_right i (f i) (by simp), show n - i = (n - (i + 1)) + 1 from by omega, List.replicate_succ, List.range_succ]
  simp
def findI (p : Int → Bool) : Int → List Int → Int
  | _, [] => -1
  | i, x :: l => if p x then i else findI p (i + 1) l
theorem findI_bd (p : Int → Bool) : ∀ (l : List Int) (i : Int), 0 ≤ i → -1 ≤ findI p i l ∧ findI p i l < i + l.length ∧ (0 ≤ findI p i l ↔ l.any p = true)
  | [], i, h => by simp [findI]; omega
  | x :: l, i, h => by
    have ih := findI_bd p l (i + 1) (by omega)
    simp only [findI, List.length_cons, List.any_cons]
    by_cases hx : p x = true
    · simp [hx]; omega
    · simp only [hx, Bool.false_or]
      simp only [Bool.false_eq_true, if_false]
      refine ⟨ih.1, by have := ih.2.1; omega, ih.2.2⟩
def offR2 (low high n : Int) : Bool := decide (n < low) || decide (n > high)
def rightB (l : List Int) : Bool := if (l.length : Int) = 0 ∨ (l.length : Int) > 64 then false else if nth l 0 = -1 then !l.any (offR2 (-1) (-1)) else !l.any (offR2 0 2147483646)
def colon : ByteArray := ⟨#[58]⟩
def dot : ByteArray := ⟨#[46]⟩
def partsM (sk : List Int) (rows b : Nat) : List ByteArray := (List.range rows).map fun i => itoaB (nth sk (b * rows + i))
def bandM (sk : List Int) (rows b : Nat) : ByteArray := itoaB b ++ colon ++ joinB (partsM sk rows b) dot
def bandBad (sk : List Int) (rows : Int) : Bool := !rightB sk || decide (rows < 1) || decide (rows > (sk.length : Int)) || !decide ((sk.length : Int) % rows = 0)
def bandsM (sk : List Int) (rows : Int) : List ByteArray := if bandBad sk rows = true then [] else if nth sk 0 = -1 then [] else (List.range (sk.length / rows.toNat)).map (bandM sk rows.toNat)
def bandsE (sk : List Int) (rows : Int) : Int := if bandBad sk rows = true then 1 else 0

theorem mod_spec (n : Int) (hn : 0 ≤ n ∧ n ≤ 4611686018427387904) : Fun1 Tryz.prog 147 [tV (.int .i64 n)] (tV (.int .i64 (n % (2147483647 : Int)))) := by
  refine Spec.enter Tryz.func147 rfl rfl fun h0 w0 fr0 => ?_
  have h1 := Int.emod_nonneg n (show (2147483647 : Int) ≠ 0 by decide)
  have h2 := Int.emod_lt_of_pos n (show (0 : Int) < 2147483647 by decide)
  refine J_seq ?_
  refine J_region ?_
  refine JL_step rfl rfl rfl (step_assign Sub.rfl) ?_
  refine JL_nil ?_
  refine J_seq ?_
  refine J_region ?_
  refine JL_step rfl rfl rfl (step_move Sub.rfl) ?_
  refine JL_step rfl rfl rfl (step_rem Sub.rfl Sub.rfl ?sg1 ?sg2) ?_
  case sg1 => exact hn.1
  case sg2 => decide
  refine JL_step rfl rfl rfl (step_add Sub.rfl Sub.rfl ?sg1) ?_
  case sg1 => unfold in64; omega
  refine JL_step rfl rfl rfl (step_rem Sub.rfl Sub.rfl ?sg1 ?sg2) ?_
  case sg1 => omega
  case sg2 => decide
  refine JL_step rfl rfl rfl (step_assign Sub.rfl) ?_
  refine JL_nil ?_
  refine J_ret ?_
  refine K_ret1 (t := 2) rfl () ?_
  refine Sub.int ?_
  rw [Int.add_emod_right]; exact Int.emod_emod_of_dvd _ (Int.dvd_refl _)
theorem Hash_spec (text : ByteArray) (hsz : text.size ≤ 1000000000) (seed : Int) (hs : 0 ≤ seed ∧ seed ≤ 1000000) : Fun1 Tryz.prog 121 [tV (.string text), tV (.int .i64 seed)] (tV (.int .i64 (hashM text seed))) := by
  refine Spec.enter Tryz.func121 rfl rfl fun h0 w0 fr0 => ?_
  have hbl := bytesOf_len text
  have hst : 0 ≤ (seed % (2147483647 : Int)) ∧ (seed % (2147483647 : Int)) < (2147483647 : Int) := ⟨Int.emod_nonneg _ (by decide), Int.emod_lt_of_pos _ (by decide)⟩
  have hf : 0 ≤ (seed % (2147483647 : Int)) % 1000003 ∧ (seed % (2147483647 : Int)) % 1000003 < 1000003 := ⟨Int.emod_nonneg _ (by decide), Int.emod_lt_of_pos _ (by decide)⟩
  have hfc : hFac (seed % (2147483647 : Int)) = 16807 + (seed % (2147483647 : Int)) % 1000003 := rfl
  refine J_seq ?_
  refine J_region ?_
  refine JL_step rfl rfl rfl (step_assign Sub.rfl) ?_
  refine JL_nil ?_
  refine J_seq ?_
  refine J_region ?_
  refine JL_step rfl rfl rfl (step_assign Sub.rfl) ?_
  refine JL_nil ?_
  refine J_seq ?_
  refine J_region ?_
  refine JL_step rfl rfl rfl (step_move Sub.rfl) ?_
  refine JL_step rfl rfl rfl (step_move Sub.rfl) ?_
  refine JL_step rfl rfl rfl (step_callv0 (aT := [_]) Sub.clo0 (mod_spec _ ⟨by omega, by omega⟩) ⟨Sub.rfl, trivial⟩ Tryz.call147) ?_
  refine JL_step rfl rfl rfl (step_assign Sub.rfl) ?_
  refine JL_nil ?_
  refine J_seq ?_
  refine J_region ?_
  refine JL_step rfl rfl rfl (step_move Sub.rfl) ?_
  refine JL_step rfl rfl rfl (step_rem Sub.rfl Sub.rfl ?sg1 ?sg2) ?_
  case sg1 => omega
  case sg2 => decide
  refine JL_step rfl rfl rfl (step_add Sub.rfl Sub.rfl ?sg1) ?_
  case sg1 => unfold in64; omega
  refine JL_step rfl rfl rfl (step_assign Sub.rfl) ?_
  refine JL_nil ?_
  refine J_seq ?_
  refine J_region ?_
  refine JL_step rfl rfl rfl (step_move Sub.rfl) ?_
  refine JL_step rfl rfl rfl (step_assign Sub.rfl) ?_
  refine JL_nil ?_
  refine J_seq ?_
  refine J_seq ?_
  refine J_region ?_
  refine JL_step rfl rfl rfl (step_move Sub.rfl) ?_
  refine JL_step rfl rfl rfl (step_convert_bytes Tryz.underlying9 Tryz.underlying117 Tryz.underlying5 Sub.rfl) ?_
  refine JL_step rfl rfl rfl (step_len_sl Tryz.underlying117 Sub.rfl) ?_
  refine JL_step rfl rfl rfl (step_move Sub.rfl) ?_
  refine JL_nil ?_
  refine J_block ?_
  refine J_loopL (σ := Nat) (fun i => i ≤ (bytesOf text).length) (fun i => upd (upd (upd (upd (upd (upd (upd env0 4 (tV (.int .i64 0))) 5 (tV (.func (.func 147) #[] #[]))) 7 (tV (.int .i64 (hFac (seed % (2147483647 : Int)))))) 8 (tV (.int .i64 (((bytesOf text).take i).foldl (hStep (hFac (seed % (2147483647 : Int)))) (seed % (2147483647 : Int)))))) 19 (tSl rU8 (bytesOf text))) 20 (tV (.int .i64 (bytesOf text).length))) 21 (tV (.int .i64 i))) (fun i => []) (fun i => (bytesOf text).length - i) 0 (by omega) (SubE.upd Sub.rfl (SubE.upd Sub.rfl (SubE.upd Sub.rfl (SubE.upd Sub.rfl (SubE.upd Sub.rfl (SubE.upd Sub.rfl (SubE.upd Sub.rfl SubE.any))))))) (LSub.rfl) ?_
  rintro i hi
  refine J_seq ?_
  refine J_region ?_
  refine JL_step rfl rfl rfl (step_lss Sub.rfl Sub.rfl) ?_
  refine JL_nil ?_
  refine J_seq ?_
  refine J_cond Sub.rfl (fun h22 => ?_) (fun h22 => ?_)
  · try simp only [decide_eq_true_eq, decide_eq_false_iff_not, Bool.and_eq_true, Bool.or_eq_true, Bool.and_eq_false_iff, Bool.or_eq_false_iff, Bool.not_eq_true', Bool.not_eq_false', Int.not_lt, Int.not_le, Bool.not_true, Bool.not_false] at h22
    have hlt : i < (bytesOf text).length := by omega
    have hrg := bytesOf_rng text _ (nth_mem hlt)
    have hh := hFold_rng (f := hFac (seed % (2147483647 : Int))) ((bytesOf text).take i) (seed % (2147483647 : Int)) hst
    have hm := mul_rng hh (f := hFac (seed % (2147483647 : Int))) ⟨by omega, by omega⟩
    refine J_skip ?_
    refine J_seq ?_
    refine J_block ?_
    refine J_seq ?_
    refine J_region ?_
    refine JL_step rfl rfl rfl (step_indexAddr_sl  Tryz.underlying117 ty5 Sub.rfl Sub.rfl rfl (gb ?sg1)) ?_
    case sg1 => first | assumption | omega
    refine JL_step rfl rfl rfl (step_load_ptr ty5 Sub.rfl) ?_
    refine JL_step rfl rfl rfl (step_assign Sub.rfl) ?_
    refine JL_nil ?_
    refine J_region ?_
    refine JL_step rfl rfl rfl (step_move Sub.rfl) ?_
    refine JL_step rfl rfl rfl (step_move Sub.rfl) ?_
    refine JL_step rfl rfl rfl (step_move Sub.rfl) ?_
    refine JL_step rfl rfl rfl (step_mul Sub.rfl Sub.rfl ?sg1) ?_
    case sg1 => unfold in64; omega
    refine JL_step rfl rfl rfl (step_move Sub.rfl) ?_
    refine JL_step rfl rfl rfl (step_convert_int (m := nth (bytesOf text) i) Tryz.underlying5 Tryz.underlying3 Sub.rfl ?sg1) ?_
    case sg1 => simp [IntKind.wrap, IntKind.bits, IntKind.signed]; omega
    refine JL_step rfl rfl rfl (step_add Sub.rfl Sub.rfl ?sg1) ?_
    case sg1 => unfold in64; omega
    refine JL_step rfl rfl rfl (step_add Sub.rfl Sub.rfl ?sg1) ?_
    case sg1 => unfold in64; omega
    refine JL_step rfl rfl rfl (step_callv0 (aT := [_]) Sub.clo0 (mod_spec _ ⟨by omega, by omega⟩) ⟨Sub.rfl, trivial⟩ Tryz.call147) ?_
    refine JL_step rfl rfl rfl (step_assign Sub.rfl) ?_
    refine JL_nil ?_
    refine J_region ?_
    refine JL_step rfl rfl rfl (step_add Sub.rfl Sub.rfl ?sg1) ?_
    case sg1 => unfold in64; omega
    refine JL_step rfl rfl rfl (step_move Sub.rfl) ?_
    refine JL_nil ?_
    refine K_againL (σ := Nat) (s := i) (i + 1) (by first | omega | (dsimp only; omega) | (simp_all; omega)) (by omega) (SubE.upd Sub.rfl (SubE.upd Sub.rfl (SubE.upd Sub.rfl (SubE.upd (Sub.int (by rw [takeB hlt, List.foldl_append]; rfl)) (SubE.upd Sub.rfl (SubE.upd Sub.rfl (SubE.upd Sub.rfl SubE.any))))))) (LSub.rfl)
  · try simp only [decide_eq_true_eq, decide_eq_false_iff_not, Bool.and_eq_true, Bool.or_eq_true, Bool.and_eq_false_iff, Bool.or_eq_false_iff, Bool.not_eq_true', Bool.not_eq_false', Int.not_lt, Int.not_le, Bool.not_true, Bool.not_false] at h22
    have hh := hFold_rng (f := hFac (seed % (2147483647 : Int))) (bytesOf text) (seed % (2147483647 : Int)) hst
    have hie : (bytesOf text).take i = bytesOf text := List.take_of_length_le (by omega)
    skip
    refine J_exit ?_
    refine J_seq ?_
    have hh2 := hFold_rng (f := hFac (seed % (2147483647 : Int))) ((bytesOf text).take i) (seed % (2147483647 : Int)) hst
    refine J_region ?_
    refine JL_step rfl rfl rfl (step_move Sub.rfl) ?_
    refine JL_step rfl rfl rfl (step_move Sub.rfl) ?_
    refine JL_step rfl rfl rfl (step_mul Sub.rfl Sub.rfl ?sg1) ?_
    case sg1 => unfold in64; omega
    refine JL_step rfl rfl rfl (step_add Sub.rfl Sub.rfl ?sg1) ?_
    case sg1 => unfold in64; omega
    refine JL_step rfl rfl rfl (step_callv0 (aT := [_]) Sub.clo0 (mod_spec _ ⟨by omega, by omega⟩) ⟨Sub.rfl, trivial⟩ Tryz.call147) ?_
    refine JL_step rfl rfl rfl (step_assign Sub.rfl) ?_
    refine JL_nil ?_
    refine J_ret ?_
    refine K_ret1 (t := 4) rfl () ?_
    refine Sub.int ?_
    rw [hie]; rfl
theorem least_spec (seed : Int) (hs : 0 ≤ seed ∧ seed ≤ 1000000) (tokens : List ByteArray) (ht : ∀ t ∈ tokens, t.size ≤ 1000000000) (hl : tokens.length ≤ 1000000000) : Fun1 Tryz.prog 86 [tV (.int .i64 seed), tSlC rStr tokens] (tV (.int .i64 (leastM seed tokens))) := by
  refine Spec.enter Tryz.func86 rfl rfl fun h0 w0 fr0 => ?_
  refine J_seq ?_
  refine J_region ?_
  refine JL_step rfl rfl rfl (step_assign Sub.rfl) ?_
  refine JL_nil ?_
  refine J_seq ?_
  refine J_seq ?_
  refine J_region ?_
  refine JL_step rfl rfl rfl (step_move Sub.rfl) ?_
  refine JL_step rfl rfl rfl (step_len_sl Tryz.underlying32 Sub.ofC) ?_
  refine JL_step rfl rfl rfl (step_eql Sub.rfl Sub.rfl) ?_
  refine JL_nil ?_
  refine J_cond Sub.rfl (fun h10 => ?_) (fun h10 => ?_)
  · try simp only [decide_eq_true_eq, decide_eq_false_iff_not, Bool.and_eq_true, Bool.or_eq_true, Bool.and_eq_false_iff, Bool.or_eq_false_iff, Bool.not_eq_true', Bool.not_eq_false', Int.not_lt, Int.not_le, Bool.not_true, Bool.not_false] at h10
    refine J_seq ?_
    refine J_region ?_
    refine JL_step rfl rfl rfl (step_assign Sub.rfl) ?_
    refine JL_nil ?_
    refine J_ret ?_
    refine K_ret1 (t := 4) rfl () ?_
    refine Sub.int ?_
    have : tokens = [] := List.length_eq_zero_iff.1 (by omega)
    rw [this]; rfl
  · try simp only [decide_eq_true_eq, decide_eq_false_iff_not, Bool.and_eq_true, Bool.or_eq_true, Bool.and_eq_false_iff, Bool.or_eq_false_iff, Bool.not_eq_true', Bool.not_eq_false', Int.not_lt, Int.not_le, Bool.not_true, Bool.not_false] at h10
    obtain ⟨t0, ts, rfl⟩ : ∃ t0 ts, tokens = t0 :: ts := by cases tokens with | nil => simp at h10 | cons a b => exact ⟨a, b, rfl⟩
    have ht0 := ht t0 (by simp)
    have hl2 : ts.length ≤ 1000000000 := by simp at hl; omega
    refine J_skip ?_
    refine J_seq ?_
    refine J_region ?_
    refine JL_step rfl rfl rfl (step_move Sub.rfl) ?_
    refine JL_step rfl rfl rfl (step_indexAddr_sl (i := 0) Tryz.underlying32 ty9 Sub.ofC Sub.rfl ?sg1 (gb ?sg2)) ?_
    case sg1 => rfl
    case sg2 => simp
    refine JL_step rfl rfl rfl (step_load_ptr ty9 Sub.rfl) ?_
    refine JL_step rfl rfl rfl (step_move Sub.rfl) ?_
    refine JL_step rfl rfl rfl (step_call0 (Hash_spec t0 ht0 seed hs) ⟨Sub.rfl, Sub.rfl, trivial⟩ Tryz.call121) ?_
    refine JL_step rfl rfl rfl (step_assign Sub.rfl) ?_
    refine JL_nil ?_
    refine J_seq ?_
    refine J_seq ?_
    refine J_region ?_
    refine JL_step rfl rfl rfl (step_move Sub.rfl) ?_
    refine JL_step rfl rfl rfl (step_slice_fromC (n := 1) Tryz.underlying32 ty9 rfl Sub.rfl Sub.rfl rfl (by simp)) ?_
    refine JL_step rfl rfl rfl (step_len_sl Tryz.underlying32 Sub.ofC) ?_
    refine JL_step rfl rfl rfl (step_move Sub.rfl) ?_
    refine JL_nil ?_
    refine J_block ?_
    refine J_loopL (σ := Nat) (fun i => i ≤ ts.length) (fun i => upd (upd (upd (upd (upd (upd env0 0 (tV (.int .i64 seed))) 4 (tV (.int .i64 0))) 5 (tV (.int .i64 (leastM seed (t0 :: ts.take i))))) 17 (tSlC rStr ts)) 18 (tV (.int .i64 ts.length))) 19 (tV (.int .i64 i))) (fun i => []) (fun i => ts.length - i) 0 (by omega) (SubE.upd Sub.rfl (SubE.upd Sub.rfl (SubE.upd Sub.rfl (SubE.upd Sub.rfl (SubE.upd Sub.rfl (SubE.upd Sub.rfl SubE.any)))))) (LSub.rfl) ?_
    rintro i hi
    refine J_seq ?_
    refine J_region ?_
    refine JL_step rfl rfl rfl (step_lss Sub.rfl Sub.rfl) ?_
    refine JL_nil ?_
    refine J_seq ?_
    refine J_cond Sub.rfl (fun h20 => ?_) (fun h20 => ?_)
    · try simp only [decide_eq_true_eq, decide_eq_false_iff_not, Bool.and_eq_true, Bool.or_eq_true, Bool.and_eq_false_iff, Bool.or_eq_false_iff, Bool.not_eq_true', Bool.not_eq_false', Int.not_lt, Int.not_le, Bool.not_true, Bool.not_false] at h20
      have hlt : i < ts.length := by simp at h20; omega
      have hti := ht (nth ts i) (List.mem_cons_of_mem _ (nth_mem hlt))
      refine J_skip ?_
      refine J_seq ?_
      refine J_block ?_
      refine J_seq ?_
      refine J_region ?_
      refine JL_step rfl rfl rfl (step_indexAddr_sl  Tryz.underlying32 ty9 Sub.ofC Sub.rfl rfl (gb ?sg1)) ?_
      case sg1 => exact hlt
      refine JL_step rfl rfl rfl (step_load_ptr ty9 Sub.rfl) ?_
      refine JL_step rfl rfl rfl (step_assign Sub.rfl) ?_
      refine JL_nil ?_
      refine J_region ?_
      refine JL_step rfl rfl rfl (step_move Sub.rfl) ?_
      refine JL_step rfl rfl rfl (step_move Sub.rfl) ?_
      refine JL_step rfl rfl rfl (step_move Sub.rfl) ?_
      refine JL_step rfl rfl rfl (step_call0 (Hash_spec _ hti seed hs) ⟨Sub.rfl, Sub.rfl, trivial⟩ Tryz.call121) ?_
      refine JL_step rfl rfl rfl (step_min Sub.rfl Sub.rfl) ?_
      refine JL_step rfl rfl rfl (step_assign Sub.rfl) ?_
      refine JL_nil ?_
      refine J_region ?_
      refine JL_step rfl rfl rfl (step_add Sub.rfl Sub.rfl ?sg1) ?_
      case sg1 => unfold in64; omega
      refine JL_step rfl rfl rfl (step_move Sub.rfl) ?_
      refine JL_nil ?_
      refine K_againL (σ := Nat) (s := i) (i + 1) (by first | omega | (dsimp only; omega) | (simp_all; omega)) (by omega) (SubE.upd Sub.rfl (SubE.upd Sub.rfl (SubE.upd Sub.rfl (SubE.upd (Sub.int (by simp only [leastM]; rw [takeB hlt, List.foldl_append]; rfl)) (SubE.upd Sub.rfl (SubE.upd Sub.rfl SubE.any)))))) (LSub.rfl)
    · try simp only [decide_eq_true_eq, decide_eq_false_iff_not, Bool.and_eq_true, Bool.or_eq_true, Bool.and_eq_false_iff, Bool.or_eq_false_iff, Bool.not_eq_true', Bool.not_eq_false', Int.not_lt, Int.not_le, Bool.not_true, Bool.not_false] at h20
      refine J_exit ?_
      refine J_seq ?_
      refine J_region ?_
      refine JL_step rfl rfl rfl (step_move Sub.rfl) ?_
      refine JL_step rfl rfl rfl (step_assign Sub.rfl) ?_
      refine JL_nil ?_
      refine J_ret ?_
      refine K_ret1 (t := 4) rfl () ?_
      refine Sub.int ?_
      rw [show i = ts.length by simp at h20; omega, List.take_length]
theorem Make_spec (tokens : List ByteArray) (n : Int) (ht : ∀ t ∈ tokens, t.size ≤ 1000000000) (hl : tokens.length ≤ 1000000000) : Fun1 Tryz.prog 57 [tSlC rStr tokens, tV (.int .i64 n)] (tTup [tSl rInt (mkM tokens n), tV (.int .i64 (mkE n))]) := by
  refine Spec.enter Tryz.func57 rfl rfl fun h0 w0 fr0 => ?_
  refine J_seq ?_
  refine J_region ?_
  refine JL_step rfl rfl rfl (step_assign Sub.rfl) ?_
  refine JL_step rfl rfl rfl (step_assign Sub.rfl) ?_
  refine JL_nil ?_
  refine J_seq ?_
  refine J_seq ?_
  refine J_region ?_
  refine JL_step rfl rfl rfl (step_move Sub.rfl) ?_
  refine JL_step rfl rfl rfl (step_lss Sub.rfl Sub.rfl) ?_
  refine JL_step rfl rfl rfl (step_move Sub.rfl) ?_
  refine JL_stepG rfl rfl rfl (Gd.plain Sub.rfl) rfl rfl (fun hw => step_move Sub.rfl) ?_
  refine JL_stepG rfl rfl rfl (Gd.plain Sub.rfl) rfl rfl (fun hw => step_gtr (Sub.w hw) Sub.rfl) ?_
  refine JL_step rfl rfl rfl (step_pick_or Sub.rfl Sub.rfl) ?_
  refine JL_nil ?_
  refine J_cond Sub.rfl (fun h13 => ?_) (fun h13 => ?_)
  · try simp only [decide_eq_true_eq, decide_eq_false_iff_not, Bool.and_eq_true, Bool.or_eq_true, Bool.and_eq_false_iff, Bool.or_eq_false_iff, Bool.not_eq_true', Bool.not_eq_false', Int.not_lt, Int.not_le, Bool.not_true, Bool.not_false] at h13
    refine J_seq ?_
    refine J_region ?_
    refine JL_step rfl rfl rfl (step_assign Sub.rfl) ?_
    refine JL_step rfl rfl rfl (step_assign Sub.rfl) ?_
    refine JL_nil ?_
    refine J_ret ?_
    refine K_ret2' (rv := .tmp 4) (rv' := .tmp 5) rfl () (Sel.all _) (.tmp Sub.rfl) (.tmp Sub.rfl) (Frz.sub ?_) (Frz.sub ?_) Sub.rfl
    · rw [mkM, if_pos (show badN n from h13)]; exact Sub.nilsl
    · rw [mkE, if_pos (show badN n from h13)]; exact Sub.rfl
  · try simp only [decide_eq_true_eq, decide_eq_false_iff_not, Bool.and_eq_true, Bool.or_eq_true, Bool.and_eq_false_iff, Bool.or_eq_false_iff, Bool.not_eq_true', Bool.not_eq_false', Int.not_lt, Int.not_le, Bool.not_true, Bool.not_false] at h13
    have hnb : ¬ badN n := by unfold badN; omega
    obtain ⟨k, rfl⟩ : ∃ k : Nat, n = k := ⟨n.toNat, by omega⟩
    refine J_skip ?_
    refine J_seq ?_
    refine J_region ?_
    refine JL_step rfl rfl rfl (step_move Sub.rfl) ?_
    refine JL_stepX rfl rfl rfl (step_make Tryz.underlying40 el3 Sub.rfl Sub.rfl rfl (by omega) (by omega)) fun v15 => ?_
    refine JL_step rfl rfl rfl (step_assign Sub.rfl) ?_
    refine JL_nil ?_
    refine J_seq ?_
    refine J_seq ?_
    refine J_region ?_
    refine JL_step rfl rfl rfl (step_move Sub.rfl) ?_
    refine JL_step rfl rfl rfl (step_move Sub.rfl) ?_
    refine JL_nil ?_
    refine J_block ?_
    refine J_loopL (σ := Nat) (fun i => i ≤ k) (fun i => upd (upd (upd (upd (upd (upd env0 0 (tSlC rStr tokens)) 4 (tV (.slice none 0 0))) 5 (tV (.int .i64 0))) 6 (rV.ty v15)) 16 (tV (.int .i64 (k : Int)))) 17 (tV (.int .i64 i))) (fun i => [own 3 rInt v15 ((List.range i).map (fun j : Nat => leastM j tokens) ++ List.replicate (k - i) 0)]) (fun i => k - i) 0 (by omega) (SubE.upd Sub.rfl (SubE.upd Sub.rfl (SubE.upd Sub.rfl (SubE.upd Sub.rfl (SubE.upd Sub.rfl (SubE.upd Sub.rfl SubE.any)))))) (LSub.cons (by first | exact Sel.take (Sel.none _) | exact Sel.skip (Sel.take (Sel.none _)) | exact Sel.skip (Sel.skip (Sel.take (Sel.none _))) | exact Sel.skip (Sel.skip (Sel.skip (Sel.take (Sel.none _)))) | exact Sel.skip (Sel.skip (Sel.skip (Sel.skip (Sel.take (Sel.none _)))))) (own_eq (by simp)) (LSub.nil)) ?_
    rintro i hi
    refine J_seq ?_
    refine J_region ?_
    refine JL_step rfl rfl rfl (step_lss Sub.rfl Sub.rfl) ?_
    refine JL_nil ?_
    refine J_seq ?_
    refine J_cond Sub.rfl (fun h18 => ?_) (fun h18 => ?_)
    · try simp only [decide_eq_true_eq, decide_eq_false_iff_not, Bool.and_eq_true, Bool.or_eq_true, Bool.and_eq_false_iff, Bool.or_eq_false_iff, Bool.not_eq_true', Bool.not_eq_false', Int.not_lt, Int.not_le, Bool.not_true, Bool.not_false] at h18
      have hlt : i < k := by omega
      refine J_skip ?_
      refine J_seq ?_
      refine J_block ?_
      refine J_seq ?_
      refine J_region ?_
      refine JL_step rfl rfl rfl (step_move Sub.rfl) ?_
      refine JL_step rfl rfl rfl (step_assign Sub.rfl) ?_
      refine JL_nil ?_
      refine J_region ?_
      refine JL_step rfl rfl rfl (step_move Sub.rfl) ?_
      refine JL_step rfl rfl rfl (step_move Sub.rfl) ?_
      refine JL_step rfl rfl rfl (step_move Sub.rfl) ?_
      refine JL_step rfl rfl rfl (step_move Sub.rfl) ?_
      refine JL_step rfl rfl rfl (step_call0 (least_spec _ ⟨by omega, by omega⟩ tokens ht hl) ⟨Sub.rfl, Sub.rfl, trivial⟩ Tryz.call86) ?_
      refine JL_step rfl rfl rfl (step_indexAddr_own  Tryz.underlying40 ty3 Sub.rfl (by first | exact Sel.take (Sel.none _) | exact Sel.skip (Sel.take (Sel.none _)) | exact Sel.skip (Sel.skip (Sel.take (Sel.none _))) | exact Sel.skip (Sel.skip (Sel.skip (Sel.take (Sel.none _)))) | exact Sel.skip (Sel.skip (Sel.skip (Sel.skip (Sel.take (Sel.none _)))))) Sub.rfl rfl ?sg1) ?_
      case sg1 => simp; omega
      refine JL_stepU rfl rfl (step_store_own ty3 Sub.rfl Sub.rfl (by first | exact Sel.take (Sel.none _) | exact Sel.skip (Sel.take (Sel.none _)) | exact Sel.skip (Sel.skip (Sel.take (Sel.none _))) | exact Sel.skip (Sel.skip (Sel.skip (Sel.take (Sel.none _)))) | exact Sel.skip (Sel.skip (Sel.skip (Sel.skip (Sel.take (Sel.none _)))))) ?sg1) fun _ => ?_
      case sg1 => simp; omega
      refine JL_nil ?_
      refine J_region ?_
      refine JL_step rfl rfl rfl (step_add Sub.rfl Sub.rfl ?sg1) ?_
      case sg1 => unfold in64; omega
      refine JL_step rfl rfl rfl (step_move Sub.rfl) ?_
      refine JL_nil ?_
      refine K_againL (σ := Nat) (s := i) (i + 1) (by first | omega | (dsimp only; omega) | (simp_all; omega)) (by omega) (SubE.upd Sub.rfl (SubE.upd Sub.rfl (SubE.upd Sub.rfl (SubE.upd Sub.rfl (SubE.upd Sub.rfl (SubE.upd Sub.rfl SubE.any)))))) (LSub.cons (by first | exact Sel.take (Sel.none _) | exact Sel.skip (Sel.take (Sel.none _)) | exact Sel.skip (Sel.skip (Sel.take (Sel.none _))) | exact Sel.skip (Sel.skip (Sel.skip (Sel.take (Sel.none _)))) | exact Sel.skip (Sel.skip (Sel.skip (Sel.skip (Sel.take (Sel.none _)))))) (own_eq (fill_set (fun j : Nat => leastM j tokens) 0 hlt)) (LSub.nil))
    · try simp only [decide_eq_true_eq, decide_eq_false_iff_not, Bool.and_eq_true, Bool.or_eq_true, Bool.and_eq_false_iff, Bool.or_eq_false_iff, Bool.not_eq_true', Bool.not_eq_false', Int.not_lt, Int.not_le, Bool.not_true, Bool.not_false] at h18
      refine J_exit ?_
      refine J_seq ?_
      refine J_region ?_
      refine JL_step rfl rfl rfl (step_move Sub.rfl) ?_
      refine JL_step rfl rfl rfl (step_assign Sub.rfl) ?_
      refine JL_step rfl rfl rfl (step_assign Sub.rfl) ?_
      refine JL_nil ?_
      refine J_ret ?_
      refine K_ret2' (rv := .tmp 4) (rv' := .tmp 5) rfl () (Sel.all _) (.tmp Sub.rfl) (.tmp Sub.rfl) (Frz.own' ?_) (Frz.sub ?_) Sub.rfl
      · rw [mkM, if_neg hnb, show i = k by omega]; simp
      · rw [mkE, if_neg hnb]; exact Sub.rfl
end Lg

namespace Lg
open Go Go.Proofs


theorem parts_size (sk : List Int) (rows b : Nat) (h : ∀ x ∈ sk, -9223372036854775808 ≤ x ∧ x ≤ 9223372036854775807) (hb : ∀ i, i < rows → b * rows + i < sk.length) : sizes (partsM sk rows b) ≤ 30 * rows := by
  unfold partsM
  have : ∀ n, n ≤ rows → sizes ((List.range n).map fun i => itoaB (nth sk (b * rows + i))) ≤ 30 * n := by
    intro n
    induction n with
    | zero => intro _; simp [sizes]
    | succ n ih =>
      intro hn
      rw [List.range_succ, List.map_append, sizes_append]
      have h1 := ih (by omega)
      have h2 := itoaB_size (h _ (nth_mem (hb n (by omega))))
      have h3 : sizes [itoaB (nth sk (b * rows + n))] = (itoaB (nth sk (b * rows + n))).size := by simp [sizes]
      simp only [List.map_cons, List.map_nil]
      omega
  exact this rows (Nat.le_refl _)
theorem right_rng {l : List Int} (h : rightB l = true) : 0 < l.length ∧ l.length ≤ 64 ∧ ∀ x ∈ l, -1 ≤ x ∧ x ≤ 2147483646 := by
  unfold rightB at h
  split at h
  · cases h
  · rename_i hn
    refine ⟨by omega, by omega, fun x hx => ?_⟩
    split at h
    · simp only [Bool.not_eq_true', List.any_eq_false, offR2, Bool.or_eq_true, decide_eq_true_eq] at h
      have := h x hx; omega
    · simp only [Bool.not_eq_true', List.any_eq_false, offR2, Bool.or_eq_true, decide_eq_true_eq] at h
      have := h x hx; omega
theorem band_lt {n rows b i : Nat} (hb : b < n / rows) (hi : i < rows) : b * rows + i < n := by
  have h1 : (b + 1) * rows ≤ n := by
    have := Nat.mul_le_mul_right rows (show b + 1 ≤ n / rows by omega)
    exact Nat.le_trans this (Nat.div_mul_le_self n rows)
  rw [Nat.add_mul, Nat.one_mul] at h1
  omega

theorem empty_spec (l : List Int) (hl : 0 < l.length) : Fun1 Tryz.prog 88 [tSl rInt l] (tV (.bool (decide (nth l 0 = -1)))) := by
  refine Spec.enter Tryz.func88 rfl rfl fun h0 w0 fr0 => ?_
  refine J_seq ?_
  refine J_region ?_
  refine JL_step rfl rfl rfl (step_assign Sub.rfl) ?_
  refine JL_nil ?_
  refine J_seq ?_
  refine J_region ?_
  refine JL_step rfl rfl rfl (step_move Sub.rfl) ?_
  refine JL_step rfl rfl rfl (step_indexAddr_sl (i := 0) Tryz.underlying40 ty3 Sub.rfl Sub.rfl ?sg1 (gb ?sg2)) ?_
  case sg1 => rfl
  case sg2 => exact hl
  refine JL_step rfl rfl rfl (step_load_ptr ty3 Sub.rfl) ?_
  refine JL_step rfl rfl rfl (step_eql Sub.rfl Sub.rfl) ?_
  refine JL_step rfl rfl rfl (step_assign Sub.rfl) ?_
  refine JL_nil ?_
  refine J_ret ?_
  refine K_ret1 (t := 2) rfl () Sub.rfl
theorem offR_spec (low high n : Int) : Fun1 Tryz.prog 123 [tV (.int .i64 n), tPtr rInt low, tPtr rInt high] (tV (.bool (offR2 low high n))) := by
  refine Spec.enter Tryz.func123 rfl rfl fun h0 w0 fr0 => ?_
  refine J_seq ?_
  refine J_region ?_
  refine JL_step rfl rfl rfl (step_assign Sub.rfl) ?_
  refine JL_nil ?_
  refine J_seq ?_
  refine J_region ?_
  refine JL_step rfl rfl rfl (step_move Sub.rfl) ?_
  refine JL_step rfl rfl rfl (step_load_ptr ty3 Sub.rfl) ?_
  refine JL_step rfl rfl rfl (step_lss Sub.rfl Sub.rfl) ?_
  refine JL_step rfl rfl rfl (step_move Sub.rfl) ?_
  refine JL_stepG rfl rfl rfl (Gd.plain Sub.rfl) rfl rfl (fun hw => step_move Sub.rfl) ?_
  refine JL_stepG rfl rfl rfl (Gd.plain Sub.rfl) rfl rfl (fun hw => step_load_ptr ty3 Sub.rfl) ?_
  refine JL_stepG rfl rfl rfl (Gd.plain Sub.rfl) rfl rfl (fun hw => step_gtr (Sub.w hw) (Sub.w hw)) ?_
  refine JL_step rfl rfl rfl (step_pick_or Sub.rfl Sub.rfl) ?_
  refine JL_step rfl rfl rfl (step_assign Sub.rfl) ?_
  refine JL_nil ?_
  refine J_ret ?_
  refine K_ret1 (t := 4) rfl () Sub.rfl
theorem IndexFunc_spec (l : List Int) (hl : l.length ≤ 1000000000000) (gi : Nat) (As : List Ty) (p : Int → Bool) (hp : ∀ x ∈ l, Fun1 Tryz.prog gi ([tV (.int .i64 x)] ++ As) (tV (.bool (p x)))) (he : ∀ args w, (callFunc gi args).run Tryz.prog w = .ok (.enter gi args) w) : Fun1 Tryz.prog 148 [tSl rInt l, tClo gi As] (tV (.int .i64 (findI p 0 l))) := by
  refine Spec.enter Tryz.func148 rfl rfl fun h0 w0 fr0 => ?_
  refine J_seq ?_
  refine J_region ?_
  refine JL_step rfl rfl rfl (step_assign Sub.rfl) ?_
  refine JL_nil ?_
  refine J_seq ?_
  refine J_seq ?_
  refine J_region ?_
  refine JL_step rfl rfl rfl (step_move Sub.rfl) ?_
  refine JL_step rfl rfl rfl (step_len_sl Tryz.underlying40 Sub.rfl) ?_
  refine JL_step rfl rfl rfl (step_move Sub.rfl) ?_
  refine JL_nil ?_
  refine J_block ?_
  refine J_loopL (σ := Nat) (fun i => i ≤ l.length ∧ findI p 0 l = findI p i (l.drop i)) (fun i => upd (upd (upd (upd env0 0 (tSl rInt l)) 1 (tClo gi As)) 7 (tV (.int .i64 l.length))) 8 (tV (.int .i64 i))) (fun i => []) (fun i => l.length - i) 0 ⟨by omega, by simp⟩ (SubE.upd Sub.rfl (SubE.upd Sub.rfl (SubE.upd Sub.rfl (SubE.upd Sub.rfl SubE.any)))) (LSub.rfl) ?_
  rintro i ⟨hi, hv⟩
  refine J_seq ?_
  refine J_region ?_
  refine JL_step rfl rfl rfl (step_lss Sub.rfl Sub.rfl) ?_
  refine JL_nil ?_
  refine J_seq ?_
  refine J_cond Sub.rfl (fun h9 => ?_) (fun h9 => ?_)
  · try simp only [decide_eq_true_eq, decide_eq_false_iff_not, Bool.and_eq_true, Bool.or_eq_true, Bool.and_eq_false_iff, Bool.or_eq_false_iff, Bool.not_eq_true', Bool.not_eq_false', Int.not_lt, Int.not_le, Bool.not_true, Bool.not_false] at h9
    have hlt : i < l.length := by omega
    have hd := dropB hlt
    refine J_skip ?_
    refine J_seq ?_
    refine J_block ?_
    refine J_seq ?_
    refine J_region ?_
    refine JL_step rfl rfl rfl (step_move Sub.rfl) ?_
    refine JL_step rfl rfl rfl (step_assign Sub.rfl) ?_
    refine JL_nil ?_
    refine J_seq ?_
    refine J_region ?_
    refine JL_step rfl rfl rfl (step_move Sub.rfl) ?_
    refine JL_step rfl rfl rfl (step_move Sub.rfl) ?_
    refine JL_step rfl rfl rfl (step_move Sub.rfl) ?_
    refine JL_step rfl rfl rfl (step_indexAddr_sl  Tryz.underlying40 ty3 Sub.rfl Sub.rfl rfl (gb ?sg1)) ?_
    case sg1 => first | assumption | omega
    refine JL_step rfl rfl rfl (step_load_ptr ty3 Sub.rfl) ?_
    refine JL_step rfl rfl rfl (step_callv0 (aT := [_]) Sub.rfl (hp _ (nth_mem hlt)) ⟨Sub.rfl, trivial⟩ he) ?_
    refine JL_nil ?_
    refine J_cond Sub.rfl (fun h16 => ?_) (fun h16 => ?_)
    · try simp only [decide_eq_true_eq, decide_eq_false_iff_not, Bool.and_eq_true, Bool.or_eq_true, Bool.and_eq_false_iff, Bool.or_eq_false_iff, Bool.not_eq_true', Bool.not_eq_false', Int.not_lt, Int.not_le, Bool.not_true, Bool.not_false] at h16
      refine J_seq ?_
      refine J_region ?_
      refine JL_step rfl rfl rfl (step_move Sub.rfl) ?_
      refine JL_step rfl rfl rfl (step_assign Sub.rfl) ?_
      refine JL_nil ?_
      refine J_ret ?_
      refine K_retv (rv := .tmp 4) rfl () (.tmp Sub.rfl) (Sub.int ?_)
      rw [hv, hd]; simp only [findI]; rw [if_pos h16]
    · try simp only [decide_eq_true_eq, decide_eq_false_iff_not, Bool.and_eq_true, Bool.or_eq_true, Bool.and_eq_false_iff, Bool.or_eq_false_iff, Bool.not_eq_true', Bool.not_eq_false', Int.not_lt, Int.not_le, Bool.not_true, Bool.not_false] at h16
      refine J_skip ?_
      refine J_region ?_
      refine JL_step rfl rfl rfl (step_add Sub.rfl Sub.rfl ?sg1) ?_
      case sg1 => unfold in64; omega
      refine JL_step rfl rfl rfl (step_move Sub.rfl) ?_
      refine JL_nil ?_
      refine K_againL (σ := Nat) (s := i) (i + 1) (by first | omega | (dsimp only; omega) | (simp_all; omega)) ?_ (SubE.upd Sub.rfl (SubE.upd Sub.rfl (SubE.upd Sub.rfl (SubE.upd Sub.rfl SubE.any)))) (LSub.rfl)
      refine ⟨by omega, ?_⟩
      rw [hv, hd]; simp only [findI]; rw [if_neg (by simp [h16])]; simp
  · try simp only [decide_eq_true_eq, decide_eq_false_iff_not, Bool.and_eq_true, Bool.or_eq_true, Bool.and_eq_false_iff, Bool.or_eq_false_iff, Bool.not_eq_true', Bool.not_eq_false', Int.not_lt, Int.not_le, Bool.not_true, Bool.not_false] at h9
    refine J_exit ?_
    refine J_seq ?_
    refine J_region ?_
    refine JL_step rfl rfl rfl (step_assign Sub.rfl) ?_
    refine JL_nil ?_
    refine J_ret ?_
    refine K_retv (rv := .tmp 4) rfl () (.tmp Sub.rfl) (Sub.int ?_)
    rw [hv, List.drop_of_length_le (by omega)]; rfl
theorem ContainsFunc_spec (l : List Int) (hl : l.length ≤ 1000000000000) (gi : Nat) (As : List Ty) (p : Int → Bool) (hp : ∀ x ∈ l, Fun1 Tryz.prog gi ([tV (.int .i64 x)] ++ As) (tV (.bool (p x)))) (he : ∀ args w, (callFunc gi args).run Tryz.prog w = .ok (.enter gi args) w) : Fun1 Tryz.prog 122 [tSl rInt l, tClo gi As] (tV (.bool (l.any p))) := by
  refine Spec.enter Tryz.func122 rfl rfl fun h0 w0 fr0 => ?_
  refine J_seq ?_
  refine J_region ?_
  refine JL_step rfl rfl rfl (step_assign Sub.rfl) ?_
  refine JL_nil ?_
  refine J_seq ?_
  refine J_region ?_
  refine JL_step rfl rfl rfl (step_move Sub.rfl) ?_
  refine JL_step rfl rfl rfl (step_move Sub.rfl) ?_
  refine JL_step rfl rfl rfl (step_call0 (IndexFunc_spec l hl gi As p hp he) ⟨Sub.rfl, Sub.rfl, trivial⟩ Tryz.call148) ?_
  refine JL_step rfl rfl rfl (step_geq Sub.rfl Sub.rfl) ?_
  refine JL_step rfl rfl rfl (step_assign Sub.rfl) ?_
  refine JL_nil ?_
  refine J_ret ?_
  refine K_retv (rv := .tmp 4) rfl () (.tmp Sub.rfl) (Sub.bool ?_)
  have hq := (findI_bd p l 0 (by omega)).2.2
  by_cases ha : l.any p = true
  · rw [ha]; simp; exact hq.2 ha
  · simp only [Bool.not_eq_true] at ha; rw [ha]; simp; have : ¬ 0 ≤ findI p 0 l := (fun h => by rw [hq.1 h] at ha; cases ha)
    omega
theorem right_spec (l : List Int) (hl : l.length ≤ 1000000000000) : Fun1 Tryz.prog 87 [tSl rInt l] (tV (.bool (rightB l))) := by
  refine Spec.enter Tryz.func87 rfl rfl fun h0 w0 fr0 => ?_
  refine J_seq ?_
  refine J_region ?_
  refine JL_step rfl rfl rfl (step_assign Sub.rfl) ?_
  refine JL_nil ?_
  refine J_seq ?_
  refine J_seq ?_
  refine J_region ?_
  refine JL_step rfl rfl rfl (step_move Sub.rfl) ?_
  refine JL_step rfl rfl rfl (step_len_sl Tryz.underlying40 Sub.rfl) ?_
  refine JL_step rfl rfl rfl (step_eql Sub.rfl Sub.rfl) ?_
  refine JL_step rfl rfl rfl (step_move Sub.rfl) ?_
  refine JL_stepG rfl rfl rfl (Gd.plain Sub.rfl) rfl rfl (fun hw => step_move Sub.rfl) ?_
  refine JL_stepG rfl rfl rfl (Gd.plain Sub.rfl) rfl rfl (fun hw => step_len_sl Tryz.underlying40 (Sub.w hw)) ?_
  refine JL_stepG rfl rfl rfl (Gd.plain Sub.rfl) rfl rfl (fun hw => step_gtr (Sub.w hw) Sub.rfl) ?_
  refine JL_step rfl rfl rfl (step_pick_or Sub.rfl Sub.rfl) ?_
  refine JL_nil ?_
  refine J_cond Sub.rfl (fun h12 => ?_) (fun h12 => ?_)
  · try simp only [decide_eq_true_eq, decide_eq_false_iff_not, Bool.and_eq_true, Bool.or_eq_true, Bool.and_eq_false_iff, Bool.or_eq_false_iff, Bool.not_eq_true', Bool.not_eq_false', Int.not_lt, Int.not_le, Bool.not_true, Bool.not_false] at h12
    refine J_seq ?_
    refine J_region ?_
    refine JL_step rfl rfl rfl (step_assign Sub.rfl) ?_
    refine JL_nil ?_
    refine J_ret ?_
    refine K_ret1 (t := 2) rfl () ?_
    refine Sub.bool ?_
    rw [rightB, if_pos h12]
  · try simp only [decide_eq_true_eq, decide_eq_false_iff_not, Bool.and_eq_true, Bool.or_eq_true, Bool.and_eq_false_iff, Bool.or_eq_false_iff, Bool.not_eq_true', Bool.not_eq_false', Int.not_lt, Int.not_le, Bool.not_true, Bool.not_false] at h12
    refine J_skip ?_
    refine J_seq ?_
    refine J_region ?_
    refine JL_stepX rfl rfl rfl (step_alloc (fun w => Tryz.zeroValue3 w) zr3) fun v3 => ?_
    refine JL_stepX rfl rfl rfl (step_alloc (fun w => Tryz.zeroValue3 w) zr3) fun v4 => ?_
    refine JL_stepU rfl rfl (step_store_box ty3 Sub.rfl Sub.rfl (by first | exact Sel.take (Sel.none _) | exact Sel.skip (Sel.take (Sel.none _)) | exact Sel.skip (Sel.skip (Sel.take (Sel.none _))) | exact Sel.skip (Sel.skip (Sel.skip (Sel.take (Sel.none _)))) | exact Sel.skip (Sel.skip (Sel.skip (Sel.skip (Sel.take (Sel.none _))))))) fun _ => ?_
    refine JL_stepU rfl rfl (step_store_box ty3 Sub.rfl Sub.rfl (by first | exact Sel.take (Sel.none _) | exact Sel.skip (Sel.take (Sel.none _)) | exact Sel.skip (Sel.skip (Sel.take (Sel.none _))) | exact Sel.skip (Sel.skip (Sel.skip (Sel.take (Sel.none _)))) | exact Sel.skip (Sel.skip (Sel.skip (Sel.skip (Sel.take (Sel.none _))))))) fun _ => ?_
    refine JL_nil ?_
    refine J_seq ?_
    refine J_seq ?_
    refine J_region ?_
    refine JL_step rfl rfl rfl (step_move Sub.rfl) ?_
    refine JL_step rfl rfl rfl (step_call0 (empty_spec _ (by omega)) ⟨Sub.rfl, trivial⟩ Tryz.call88) ?_
    refine JL_nil ?_
    refine J_cond Sub.rfl (fun h14 => ?_) (fun h14 => ?_)
    · try simp only [decide_eq_true_eq, decide_eq_false_iff_not, Bool.and_eq_true, Bool.or_eq_true, Bool.and_eq_false_iff, Bool.or_eq_false_iff, Bool.not_eq_true', Bool.not_eq_false', Int.not_lt, Int.not_le, Bool.not_true, Bool.not_false] at h14
      refine J_region ?_
      refine JL_stepU rfl rfl (step_store_box ty3 Sub.rfl Sub.rfl (by first | exact Sel.take (Sel.none _) | exact Sel.skip (Sel.take (Sel.none _)) | exact Sel.skip (Sel.skip (Sel.take (Sel.none _))) | exact Sel.skip (Sel.skip (Sel.skip (Sel.take (Sel.none _)))) | exact Sel.skip (Sel.skip (Sel.skip (Sel.skip (Sel.take (Sel.none _))))))) fun _ => ?_
      refine JL_stepU rfl rfl (step_store_box ty3 Sub.rfl Sub.rfl (by first | exact Sel.take (Sel.none _) | exact Sel.skip (Sel.take (Sel.none _)) | exact Sel.skip (Sel.skip (Sel.take (Sel.none _))) | exact Sel.skip (Sel.skip (Sel.skip (Sel.take (Sel.none _)))) | exact Sel.skip (Sel.skip (Sel.skip (Sel.skip (Sel.take (Sel.none _))))))) fun _ => ?_
      refine JL_nil ?_
      refine J_seq ?_
      refine J_region ?_
      refine JL_freeze (t := 3) (Sel.skip (Sel.take (Sel.none _))) Frz.box ?_
      refine JL_freeze (t := 4) (Sel.take (Sel.none _)) Frz.box ?_
      refine JL_step rfl rfl rfl (step_move Sub.rfl) ?_
      refine JL_step rfl rfl rfl (step_makeFunc (As := [_, _]) ⟨Sub.rfl, Sub.rfl, trivial⟩) ?_
      refine JL_step rfl rfl rfl (step_call0 (ContainsFunc_spec l hl 123 _ _ (fun x _ => offR_spec _ _ x) Tryz.call123) ⟨Sub.rfl, Sub.rfl, trivial⟩ Tryz.call122) ?_
      refine JL_step rfl rfl rfl (step_not Sub.rfl) ?_
      refine JL_step rfl rfl rfl (step_assign Sub.rfl) ?_
      refine JL_nil ?_
      refine J_ret ?_
      refine K_ret1 (t := 2) rfl () ?_
      refine Sub.bool ?_
      rw [rightB, if_neg (by omega), if_pos h14]
    · try simp only [decide_eq_true_eq, decide_eq_false_iff_not, Bool.and_eq_true, Bool.or_eq_true, Bool.and_eq_false_iff, Bool.or_eq_false_iff, Bool.not_eq_true', Bool.not_eq_false', Int.not_lt, Int.not_le, Bool.not_true, Bool.not_false] at h14
      refine J_skip ?_
      refine J_seq ?_
      refine J_region ?_
      refine JL_freeze (t := 3) (Sel.skip (Sel.take (Sel.none _))) Frz.box ?_
      refine JL_freeze (t := 4) (Sel.take (Sel.none _)) Frz.box ?_
      refine JL_step rfl rfl rfl (step_move Sub.rfl) ?_
      refine JL_step rfl rfl rfl (step_makeFunc (As := [_, _]) ⟨Sub.rfl, Sub.rfl, trivial⟩) ?_
      refine JL_step rfl rfl rfl (step_call0 (ContainsFunc_spec l hl 123 _ _ (fun x _ => offR_spec _ _ x) Tryz.call123) ⟨Sub.rfl, Sub.rfl, trivial⟩ Tryz.call122) ?_
      refine JL_step rfl rfl rfl (step_not Sub.rfl) ?_
      refine JL_step rfl rfl rfl (step_assign Sub.rfl) ?_
      refine JL_nil ?_
      refine J_ret ?_
      refine K_ret1 (t := 2) rfl () ?_
      refine Sub.bool ?_
      rw [rightB, if_neg (by omega), if_neg h14]
theorem Bands_spec (sk : List Int) (rows : Int) (hl : sk.length ≤ 1000000000000) : Fun1 Tryz.prog 58 [tSl rInt sk, tV (.int .i64 rows)] (tTup [tSl rStr (bandsM sk rows), tV (.int .i64 (bandsE sk rows))]) := by
  refine Spec.enter Tryz.func58 rfl rfl fun h0 w0 fr0 => ?_
  refine J_seq ?_
  refine J_region ?_
  refine JL_step rfl rfl rfl (step_assign Sub.rfl) ?_
  refine JL_step rfl rfl rfl (step_assign Sub.rfl) ?_
  refine JL_nil ?_
  refine J_seq ?_
  refine J_seq ?_
  refine J_region ?_
  refine JL_step rfl rfl rfl (step_move Sub.rfl) ?_
  refine JL_step rfl rfl rfl (step_call0 (right_spec _ hl) ⟨Sub.rfl, trivial⟩ Tryz.call87) ?_
  refine JL_step rfl rfl rfl (step_not Sub.rfl) ?_
  refine JL_step rfl rfl rfl (step_move Sub.rfl) ?_
  refine JL_stepG rfl rfl rfl (Gd.plain Sub.rfl) rfl rfl (fun hw => step_move Sub.rfl) ?_
  refine JL_stepG rfl rfl rfl (Gd.plain Sub.rfl) rfl rfl (fun hw => step_lss (Sub.w hw) Sub.rfl) ?_
  refine JL_step rfl rfl rfl (step_pick_or Sub.rfl Sub.rfl) ?_
  refine JL_step rfl rfl rfl (step_move Sub.rfl) ?_
  refine JL_stepG rfl rfl rfl (Gd.plain Sub.rfl) rfl rfl (fun hw => step_move Sub.rfl) ?_
  refine JL_stepG rfl rfl rfl (Gd.plain Sub.rfl) rfl rfl (fun hw => step_move Sub.rfl) ?_
  refine JL_stepG rfl rfl rfl (Gd.plain Sub.rfl) rfl rfl (fun hw => step_len_sl Tryz.underlying40 (Sub.w hw)) ?_
  refine JL_stepG rfl rfl rfl (Gd.plain Sub.rfl) rfl rfl (fun hw => step_gtr (Sub.w hw) (Sub.w hw)) ?_
  refine JL_step rfl rfl rfl (step_pick_or Sub.rfl Sub.rfl) ?_
  refine JL_step rfl rfl rfl (step_move Sub.rfl) ?_
  refine JL_stepG rfl rfl rfl (Gd.plain Sub.rfl) rfl rfl (fun hw => step_move Sub.rfl) ?_
  refine JL_stepG rfl rfl rfl (Gd.plain Sub.rfl) rfl rfl (fun hw => step_len_sl Tryz.underlying40 (Sub.w hw)) ?_
  refine JL_stepG rfl rfl rfl (Gd.plain Sub.rfl) rfl rfl (fun hw => step_move Sub.rfl) ?_
  refine JL_stepG rfl rfl rfl (Gd.plain Sub.rfl) rfl rfl (fun hw => step_rem (Sub.w hw) (Sub.w hw) ?sg1 ?sg2) ?_
  case sg1 => have hwq := hw; (try simp only [beqB_t, beqB_f, decide_eq_true_eq, decide_eq_false_iff_not, Bool.and_eq_true, Bool.or_eq_true, Bool.and_eq_false_iff, Bool.or_eq_false_iff, Bool.not_eq_true', Bool.not_eq_false', Int.not_lt, Int.not_le, Bool.not_true, Bool.not_false] at hwq); skip; omega
  case sg2 => have hwq := hw; (try simp only [beqB_t, beqB_f, decide_eq_true_eq, decide_eq_false_iff_not, Bool.and_eq_true, Bool.or_eq_true, Bool.and_eq_false_iff, Bool.or_eq_false_iff, Bool.not_eq_true', Bool.not_eq_false', Int.not_lt, Int.not_le, Bool.not_true, Bool.not_false] at hwq); skip; omega
  refine JL_stepG rfl rfl rfl (Gd.plain Sub.rfl) rfl rfl (fun hw => step_neq (Sub.w hw) Sub.rfl) ?_
  refine JL_step rfl rfl rfl (step_pick_or Sub.rfl Sub.rfl) ?_
  refine JL_nil ?_
  refine J_cond Sub.rfl (fun h29 => ?_) (fun h29 => ?_)
  · try simp only [decide_eq_true_eq, decide_eq_false_iff_not, Bool.and_eq_true, Bool.or_eq_true, Bool.and_eq_false_iff, Bool.or_eq_false_iff, Bool.not_eq_true', Bool.not_eq_false', Int.not_lt, Int.not_le, Bool.not_true, Bool.not_false] at h29
    have hbad : bandBad sk rows = true := by simp only [bandBad]; simp_all
    refine J_seq ?_
    refine J_region ?_
    refine JL_step rfl rfl rfl (step_assign Sub.rfl) ?_
    refine JL_step rfl rfl rfl (step_assign Sub.rfl) ?_
    refine JL_nil ?_
    refine J_ret ?_
    refine K_ret2' (rv := .tmp 4) (rv' := .tmp 5) rfl () (Sel.all _) (.tmp Sub.rfl) (.tmp Sub.rfl) (Frz.sub ?_) (Frz.sub ?_) Sub.rfl
    · rw [bandsM, if_pos hbad]; exact Sub.nilsl
    · rw [bandsE, if_pos hbad]; exact Sub.rfl
  · try simp only [decide_eq_true_eq, decide_eq_false_iff_not, Bool.and_eq_true, Bool.or_eq_true, Bool.and_eq_false_iff, Bool.or_eq_false_iff, Bool.not_eq_true', Bool.not_eq_false', Int.not_lt, Int.not_le, Bool.not_true, Bool.not_false] at h29
    have hrB : rightB sk = true := by simp_all
    obtain ⟨hr1, hr2, hr3⟩ := right_rng hrB
    have hbad : bandBad sk rows = false := by simp only [bandBad]; simp_all
    obtain ⟨k, rfl⟩ : ∃ k : Nat, rows = k := ⟨rows.toNat, by omega⟩
    have hk : 0 < k ∧ k ≤ sk.length := by omega
    have hdl := Nat.div_le_self sk.length k
    have hqd : 0 ≤ (sk.length : Int) / (k : Int) ∧ (sk.length : Int) / (k : Int) ≤ sk.length := ⟨Int.ediv_nonneg (Int.natCast_nonneg _) (Int.natCast_nonneg _), Int.ediv_le_self _ (Int.natCast_nonneg _)⟩
    refine J_skip ?_
    refine J_seq ?_
    refine J_seq ?_
    refine J_region ?_
    refine JL_step rfl rfl rfl (step_move Sub.rfl) ?_
    refine JL_step rfl rfl rfl (step_call0 (empty_spec _ hr1) ⟨Sub.rfl, trivial⟩ Tryz.call88) ?_
    refine JL_nil ?_
    refine J_cond Sub.rfl (fun h31 => ?_) (fun h31 => ?_)
    · try simp only [decide_eq_true_eq, decide_eq_false_iff_not, Bool.and_eq_true, Bool.or_eq_true, Bool.and_eq_false_iff, Bool.or_eq_false_iff, Bool.not_eq_true', Bool.not_eq_false', Int.not_lt, Int.not_le, Bool.not_true, Bool.not_false] at h31
      refine J_seq ?_
      refine J_region ?_
      refine JL_step rfl rfl rfl (step_assign Sub.rfl) ?_
      refine JL_step rfl rfl rfl (step_assign Sub.rfl) ?_
      refine JL_nil ?_
      refine J_ret ?_
      refine K_ret2' (rv := .tmp 4) (rv' := .tmp 5) rfl () (Sel.all _) (.tmp Sub.rfl) (.tmp Sub.rfl) (Frz.sub ?_) (Frz.sub ?_) Sub.rfl
      · rw [bandsM, if_neg (by rw [hbad]; decide), if_pos h31]; exact Sub.nilsl
      · rw [bandsE, if_neg (by rw [hbad]; decide)]; exact Sub.rfl
    · try simp only [decide_eq_true_eq, decide_eq_false_iff_not, Bool.and_eq_true, Bool.or_eq_true, Bool.and_eq_false_iff, Bool.or_eq_false_iff, Bool.not_eq_true', Bool.not_eq_false', Int.not_lt, Int.not_le, Bool.not_true, Bool.not_false] at h31
      refine J_skip ?_
      refine J_seq ?_
      refine J_region ?_
      refine JL_step rfl rfl rfl (step_assign Sub.rfl) ?_
      refine JL_nil ?_
      refine J_seq ?_
      refine J_seq ?_
      refine J_region ?_
      refine JL_step rfl rfl rfl (step_move Sub.rfl) ?_
      refine JL_step rfl rfl rfl (step_len_sl Tryz.underlying40 Sub.rfl) ?_
      refine JL_step rfl rfl rfl (step_move Sub.rfl) ?_
      refine JL_step rfl rfl rfl (step_quo Sub.rfl Sub.rfl ?sg1 ?sg2 ?sg3) ?_
      case sg1 => omega
      case sg2 => omega
      case sg3 => unfold in64; omega
      refine JL_step rfl rfl rfl (step_move Sub.rfl) ?_
      refine JL_nil ?_
      refine J_block ?_
      refine J_loopL (σ := Nat × Value) (fun ⟨b, v⟩ => b ≤ (sk.length / k)) (fun ⟨b, v⟩ => upd (upd (upd (upd (upd (upd (upd env0 0 (tSl rInt sk)) 1 (tV (.int .i64 (k : Int)))) 4 (tV (.slice none 0 0))) 5 (tV (.int .i64 0))) 6 (rV.ty v)) 35 (tV (.int .i64 ((sk.length : Int) / k)))) 36 (tV (.int .i64 b))) (fun ⟨b, v⟩ => [own 9 rStr v ((List.range b).map (bandM sk k))]) (fun ⟨b, v⟩ => (sk.length / k) - b) (0, .slice none 0 0) (by omega) (SubE.upd Sub.rfl (SubE.upd Sub.rfl (SubE.upd (Sub.rV rfl) (SubE.upd Sub.rfl (SubE.upd Sub.rfl (SubE.upd Sub.rfl (SubE.upd Sub.rfl SubE.any))))))) (LSub.nilown) ?_
      rintro ⟨b, v⟩ hb0
      try dsimp only at hb0
      refine J_seq ?_
      refine J_region ?_
      refine JL_step rfl rfl rfl (step_lss Sub.rfl Sub.rfl) ?_
      refine JL_nil ?_
      refine J_seq ?_
      refine J_cond Sub.rfl (fun h37 => ?_) (fun h37 => ?_)
      · try simp only [decide_eq_true_eq, decide_eq_false_iff_not, Bool.and_eq_true, Bool.or_eq_true, Bool.and_eq_false_iff, Bool.or_eq_false_iff, Bool.not_eq_true', Bool.not_eq_false', Int.not_lt, Int.not_le, Bool.not_true, Bool.not_false] at h37
        have hbl : b < (sk.length / k) := by have h37 : (b : Int) < (sk.length : Int) / k := h37; rw [← Int.natCast_ediv] at h37; omega
        have hbr : -9223372036854775808 ≤ (b : Int) ∧ (b : Int) ≤ 9223372036854775807 := by omega
        refine J_skip ?_
        refine J_seq ?_
        refine J_block ?_
        refine J_seq ?_
        refine J_region ?_
        refine JL_step rfl rfl rfl (step_move Sub.rfl) ?_
        refine JL_step rfl rfl rfl (step_assign Sub.rfl) ?_
        refine JL_nil ?_
        refine J_seq ?_
        refine J_region ?_
        refine JL_step rfl rfl rfl (step_move Sub.rfl) ?_
        refine JL_stepX rfl rfl rfl (step_make Tryz.underlying32 el9 Sub.rfl Sub.rfl rfl (by omega) (by omega)) fun v40 => ?_
        refine JL_step rfl rfl rfl (step_assign Sub.rfl) ?_
        refine JL_nil ?_
        refine J_seq ?_
        refine J_seq ?_
        refine J_region ?_
        refine JL_step rfl rfl rfl (step_move Sub.rfl) ?_
        refine JL_step rfl rfl rfl (step_move Sub.rfl) ?_
        refine JL_nil ?_
        refine J_block ?_
        refine J_loopL (σ := Nat) (fun i => i ≤ k) (fun i => upd (upd (upd (upd (upd (upd (upd (upd (upd (upd (upd (upd (upd (upd env0 0 (tSl rInt sk)) 1 (tV (.int .i64 (k : Int)))) 4 (tV (.slice none 0 0))) 5 (tV (.int .i64 0))) 6 (rV.ty v)) 7 (tV (.int .i64 b))) 8 (rV.ty v40)) 35 (tV (.int .i64 ((sk.length : Int) / k)))) 36 (tV (.int .i64 b))) 38 (tV (.int .i64 b))) 39 (tV (.int .i64 (k : Int)))) 40 (rV.ty v40)) 41 (tV (.int .i64 (k : Int)))) 42 (tV (.int .i64 i))) (fun i => [own 9 rStr v40 ((List.range i).map (fun j => itoaB (nth sk (b * k + j))) ++ List.replicate (k - i) ⟨#[]⟩), own 9 rStr v ((List.range b).map (bandM sk k))]) (fun i => k - i) 0 (by omega) (SubE.upd Sub.rfl (SubE.upd Sub.rfl (SubE.upd Sub.rfl (SubE.upd Sub.rfl (SubE.upd Sub.rfl (SubE.upd Sub.rfl (SubE.upd Sub.rfl (SubE.upd Sub.rfl (SubE.upd Sub.rfl (SubE.upd Sub.rfl (SubE.upd Sub.rfl (SubE.upd Sub.rfl (SubE.upd Sub.rfl (SubE.upd Sub.rfl SubE.any)))))))))))))) (LSub.cons (by first | exact Sel.take (Sel.none _) | exact Sel.skip (Sel.take (Sel.none _)) | exact Sel.skip (Sel.skip (Sel.take (Sel.none _))) | exact Sel.skip (Sel.skip (Sel.skip (Sel.take (Sel.none _)))) | exact Sel.skip (Sel.skip (Sel.skip (Sel.skip (Sel.take (Sel.none _)))))) (own_eq (by simp)) (LSub.cons (by first | exact Sel.take (Sel.none _) | exact Sel.skip (Sel.take (Sel.none _)) | exact Sel.skip (Sel.skip (Sel.take (Sel.none _))) | exact Sel.skip (Sel.skip (Sel.skip (Sel.take (Sel.none _)))) | exact Sel.skip (Sel.skip (Sel.skip (Sel.skip (Sel.take (Sel.none _)))))) (SPs.rfl) (LSub.nil))) ?_
        rintro i hi
        refine J_seq ?_
        refine J_region ?_
        refine JL_step rfl rfl rfl (step_lss Sub.rfl Sub.rfl) ?_
        refine JL_nil ?_
        refine J_seq ?_
        refine J_cond Sub.rfl (fun h43 => ?_) (fun h43 => ?_)
        · try simp only [decide_eq_true_eq, decide_eq_false_iff_not, Bool.and_eq_true, Bool.or_eq_true, Bool.and_eq_false_iff, Bool.or_eq_false_iff, Bool.not_eq_true', Bool.not_eq_false', Int.not_lt, Int.not_le, Bool.not_true, Bool.not_false] at h43
          have hil : i < k := by omega
          refine J_skip ?_
          refine J_seq ?_
          refine J_block ?_
          refine J_seq ?_
          refine J_region ?_
          refine JL_step rfl rfl rfl (step_move Sub.rfl) ?_
          refine JL_step rfl rfl rfl (step_assign Sub.rfl) ?_
          refine JL_nil ?_
          refine J_region ?_
          refine JL_step rfl rfl rfl (step_move Sub.rfl) ?_
          refine JL_step rfl rfl rfl (step_move Sub.rfl) ?_
          refine JL_step rfl rfl rfl (step_move Sub.rfl) ?_
          refine JL_step rfl rfl rfl (step_move Sub.rfl) ?_
          refine JL_step rfl rfl rfl (step_move Sub.rfl) ?_
          refine JL_step rfl rfl rfl (step_mul Sub.rfl Sub.rfl (by unfold in64; have := band_lt (i := 0) hbl (by omega); have e : ((b : Int) * (k : Int)) = ((b * k : Nat) : Int) := (Int.natCast_mul b k).symm; omega)) ?_
          refine JL_step rfl rfl rfl (step_move Sub.rfl) ?_
          refine JL_step rfl rfl rfl (step_add Sub.rfl Sub.rfl (by unfold in64; have := band_lt (i := i) hbl hil; have e : ((b : Int) * (k : Int)) = ((b * k : Nat) : Int) := (Int.natCast_mul b k).symm; omega)) ?_
          refine JL_step rfl rfl rfl (step_indexAddr_sl (i := b * k + i) Tryz.underlying40 ty3 Sub.rfl Sub.rfl ?sg1 (gb ?sg2)) ?_
          case sg1 => show ((b : Int) * (k : Int)) + i = _; rw [Int.natCast_add, Int.natCast_mul]
          case sg2 => exact band_lt hbl hil
          refine JL_step rfl rfl rfl (step_load_ptr ty3 Sub.rfl) ?_
          refine JL_step rfl rfl rfl (step_call0 (Itoa_spec _ (by have := hr3 _ (nth_mem (band_lt hbl hil)); omega)) ⟨Sub.rfl, trivial⟩ Tryz.call62) ?_
          refine JL_step rfl rfl rfl (step_indexAddr_own  Tryz.underlying32 ty9 Sub.rfl (by first | exact Sel.take (Sel.none _) | exact Sel.skip (Sel.take (Sel.none _)) | exact Sel.skip (Sel.skip (Sel.take (Sel.none _))) | exact Sel.skip (Sel.skip (Sel.skip (Sel.take (Sel.none _)))) | exact Sel.skip (Sel.skip (Sel.skip (Sel.skip (Sel.take (Sel.none _)))))) Sub.rfl rfl ?sg1) ?_
          case sg1 => simp; omega
          refine JL_stepU rfl rfl (step_store_own ty9 Sub.rfl Sub.rfl (by first | exact Sel.take (Sel.none _) | exact Sel.skip (Sel.take (Sel.none _)) | exact Sel.skip (Sel.skip (Sel.take (Sel.none _))) | exact Sel.skip (Sel.skip (Sel.skip (Sel.take (Sel.none _)))) | exact Sel.skip (Sel.skip (Sel.skip (Sel.skip (Sel.take (Sel.none _)))))) ?sg1) fun _ => ?_
          case sg1 => simp; omega
          refine JL_nil ?_
          refine J_region ?_
          refine JL_step rfl rfl rfl (step_add Sub.rfl Sub.rfl ?sg1) ?_
          case sg1 => unfold in64; omega
          refine JL_step rfl rfl rfl (step_move Sub.rfl) ?_
          refine JL_nil ?_
          refine K_againL (σ := Nat) (s := i) (i + 1) (by first | omega | (dsimp only; omega) | (simp_all; omega)) (by omega) (SubE.upd Sub.rfl (SubE.upd Sub.rfl (SubE.upd Sub.rfl (SubE.upd Sub.rfl (SubE.upd Sub.rfl (SubE.upd Sub.rfl (SubE.upd Sub.rfl (SubE.upd Sub.rfl (SubE.upd Sub.rfl (SubE.upd Sub.rfl (SubE.upd Sub.rfl (SubE.upd Sub.rfl (SubE.upd Sub.rfl (SubE.upd Sub.rfl SubE.any)))))))))))))) (LSub.cons (by first | exact Sel.take (Sel.none _) | exact Sel.skip (Sel.take (Sel.none _)) | exact Sel.skip (Sel.skip (Sel.take (Sel.none _))) | exact Sel.skip (Sel.skip (Sel.skip (Sel.take (Sel.none _)))) | exact Sel.skip (Sel.skip (Sel.skip (Sel.skip (Sel.take (Sel.none _)))))) (own_eq (fill_set (fun j => itoaB (nth sk (b * k + j))) ⟨#[]⟩ hil)) (LSub.cons (by first | exact Sel.take (Sel.none _) | exact Sel.skip (Sel.take (Sel.none _)) | exact Sel.skip (Sel.skip (Sel.take (Sel.none _))) | exact Sel.skip (Sel.skip (Sel.skip (Sel.take (Sel.none _)))) | exact Sel.skip (Sel.skip (Sel.skip (Sel.skip (Sel.take (Sel.none _)))))) (SPs.rfl) (LSub.nil)))
        · try simp only [decide_eq_true_eq, decide_eq_false_iff_not, Bool.and_eq_true, Bool.or_eq_true, Bool.and_eq_false_iff, Bool.or_eq_false_iff, Bool.not_eq_true', Bool.not_eq_false', Int.not_lt, Int.not_le, Bool.not_true, Bool.not_false] at h43
          refine J_exit ?_
          refine J_region ?_
          have hps := parts_size sk k b (fun x hx => by have := hr3 x hx; omega) (fun i hi => band_lt hbl hi)
          have hjs := (joinB_size (partsM sk k b) dot).2
          have hpl : (partsM sk k b).length = k := by simp [partsM]
          have hds : dot.size = 1 := rfl
          rw [hpl, hds, Nat.one_mul] at hjs
          refine JL_step rfl rfl rfl (step_move Sub.rfl) ?_
          refine JL_step rfl rfl rfl (step_move Sub.rfl) ?_
          refine JL_step rfl rfl rfl (step_call0 (Itoa_spec _ hbr) ⟨Sub.rfl, trivial⟩ Tryz.call62) ?_
          refine JL_step rfl rfl rfl (step_add_str Sub.rfl Sub.rfl ?sg1) ?_
          case sg1 => have := itoaB_size hbr; have : (⟨#[58]⟩ : ByteArray).size = 1 := rfl; omega
          refine JL_freeze (t := 8) (A' := tSlC rStr (partsM sk k b)) (Sel.take (Sel.none _)) (fun h m u d hs hv => by have := Frz.ownC h m u d hs hv; rw [show (List.range i).map (fun j => itoaB (nth sk (b * k + j))) ++ List.replicate (k - i) ⟨#[]⟩ = partsM sk k b by rw [show i = k by omega]; simp [partsM]] at this; exact this) ?_
          refine JL_step rfl rfl rfl (step_move Sub.rfl) ?_
          refine JL_step rfl rfl rfl (step_call0 (Join_spec (partsM sk k b) dot (by simp [partsM]; omega) (by omega)) ⟨Sub.rfl, Sub.rfl, trivial⟩ Tryz.call48) ?_
          refine JL_step rfl rfl rfl (step_add_str Sub.rfl Sub.rfl ?sg1) ?_
          case sg1 => have h1 := itoaB_size hbr; have : (⟨#[58]⟩ : ByteArray).size = 1 := rfl; rw [ByteArray.size_append]; omega
          refine JL_step rfl rfl rfl (step_literal (ys := [_]) Tryz.underlying32 el9 ⟨rfl, Sub.rfl, trivial⟩ rfl (by decide)) ?_
          refine JL_stepX rfl rfl rfl (step_append Tryz.underlying32 el9 Sub.rfl Sub.rfl (by first | exact Sel.take (Sel.none _) | exact Sel.skip (Sel.take (Sel.none _)) | exact Sel.skip (Sel.skip (Sel.take (Sel.none _))) | exact Sel.skip (Sel.skip (Sel.skip (Sel.take (Sel.none _)))) | exact Sel.skip (Sel.skip (Sel.skip (Sel.skip (Sel.take (Sel.none _)))))) (by simp; omega) (by simp; omega)) fun v66 => ?_
          refine JL_step rfl rfl rfl (step_assign Sub.rfl) ?_
          refine JL_nil ?_
          refine J_region ?_
          refine JL_step rfl rfl rfl (step_add Sub.rfl Sub.rfl ?sg1) ?_
          case sg1 => unfold in64; omega
          refine JL_step rfl rfl rfl (step_move Sub.rfl) ?_
          refine JL_nil ?_
          refine K_againL (σ := Nat × Value) (s := (b, v)) (b + 1, v66) (by first | omega | (dsimp only; omega) | (simp_all; omega)) (by omega) (SubE.upd Sub.rfl (SubE.upd Sub.rfl (SubE.upd Sub.rfl (SubE.upd Sub.rfl (SubE.upd Sub.rfl (SubE.upd Sub.rfl (SubE.upd Sub.rfl SubE.any))))))) (LSub.cons (by first | exact Sel.take (Sel.none _) | exact Sel.skip (Sel.take (Sel.none _)) | exact Sel.skip (Sel.skip (Sel.take (Sel.none _))) | exact Sel.skip (Sel.skip (Sel.skip (Sel.take (Sel.none _)))) | exact Sel.skip (Sel.skip (Sel.skip (Sel.skip (Sel.take (Sel.none _)))))) (own_eq (by rw [List.range_succ, List.map_append]; rfl)) (LSub.nil))
      · try simp only [decide_eq_true_eq, decide_eq_false_iff_not, Bool.and_eq_true, Bool.or_eq_true, Bool.and_eq_false_iff, Bool.or_eq_false_iff, Bool.not_eq_true', Bool.not_eq_false', Int.not_lt, Int.not_le, Bool.not_true, Bool.not_false] at h37
        have hbe : ¬ b < (sk.length / k) := by have h37 : (sk.length : Int) / k ≤ b := h37; rw [← Int.natCast_ediv] at h37; omega
        refine J_exit ?_
        refine J_seq ?_
        refine J_region ?_
        refine JL_step rfl rfl rfl (step_move Sub.rfl) ?_
        refine JL_step rfl rfl rfl (step_assign Sub.rfl) ?_
        refine JL_step rfl rfl rfl (step_assign Sub.rfl) ?_
        refine JL_nil ?_
        refine J_ret ?_
        refine K_ret2' (rv := .tmp 4) (rv' := .tmp 5) rfl () (Sel.all _) (.tmp Sub.rfl) (.tmp Sub.rfl) (Frz.own' ?_) (Frz.sub ?_) Sub.rfl
        · rw [bandsM, if_neg (by rw [hbad]; decide), if_neg h31, show b = sk.length / k by omega]; rfl
        · rw [bandsE, if_neg (by rw [hbad]; decide)]; exact Sub.rfl
end Lg

namespace Lg
open Go Go.Proofs


def validV (v : GValue) : Bool :=
  if v.Kind ≠ 1 ∧ v.Text ≠ ⟨#[]⟩ then false
  else if v.Kind = 0 then decide (0 ≤ v.N) && decide (v.N ≤ 0)
  else if v.Kind = 1 then (if 200 < (v.Text.size : Int) then false else decide (0 ≤ v.N) && decide (v.N ≤ 0))
  else if v.Kind = 2 then decide (-1000000000 ≤ v.N) && decide (v.N ≤ 1000000000)
  else if v.Kind = 3 then decide (0 ≤ v.N) && decide (v.N ≤ 73048)
  else if v.Kind = 4 then decide (0 ≤ v.N) && decide (v.N ≤ 1)
  else false
theorem valid_N {v : GValue} (h : validV v = true) : -1000000000 ≤ v.N ∧ v.N ≤ 1000000000 := by
  unfold validV at h
  repeat' split at h
  all_goals simp at h
  all_goals omega
def boolB (b : Bool) : ByteArray := if b then ⟨#[116, 114, 117, 101]⟩ else ⟨#[102, 97, 108, 115, 101]⟩
def nullB : ByteArray := ⟨#[110, 117, 108, 108]⟩
def atB : ByteArray := ⟨#[64]⟩
/-- The text of a value that is no text. -/
def textV (v : GValue) : ByteArray :=
  if validV v = false then ⟨#[]⟩ else if v.Kind = 2 then itoaB v.N else if v.Kind = 3 then atB ++ itoaB v.N else if v.Kind = 4 then boolB (decide (v.N = 1)) else nullB
theorem textV_size (v : GValue) : (textV v).size ≤ 40 := by
  unfold textV
  split
  · exact Nat.zero_le _
  · rename_i hv
    have hn := valid_N (v := v) (by simpa using hv)
    have := itoaB_size (n := v.N) (by omega)
    repeat' split
    · omega
    · rw [ByteArray.size_append]; have : atB.size = 1 := rfl; omega
    · unfold boolB; split <;> decide
    · decide

theorem Valid_spec (v : GValue) : Fun1 Tryz.prog 59 [rValue.ty v] (tV (.bool (validV v))) := by
  refine Spec.enter Tryz.func59 rfl rfl fun h0 w0 fr0 => ?_
  refine J_seq ?_
  refine J_region ?_
  refine JL_step rfl rfl rfl (step_box (R := rValue) Sub.rfl) ?_
  refine JL_step rfl rfl rfl (step_assign Sub.rfl) ?_
  refine JL_nil ?_
  refine J_seq ?_
  refine J_seq ?_
  refine J_region ?_
  refine JL_step rfl rfl rfl (step_fieldAddr so47 Sub.rfl rfl) ?_
  refine JL_step rfl rfl rfl (step_load_ptr ty3 Sub.rfl) ?_
  refine JL_step rfl rfl rfl (step_neq Sub.rfl Sub.rfl) ?_
  refine JL_step rfl rfl rfl (step_move Sub.rfl) ?_
  refine JL_stepG rfl rfl rfl (Gd.plain Sub.rfl) rfl rfl (fun hw => step_fieldAddr so47 Sub.rfl rfl) ?_
  refine JL_stepG rfl rfl rfl (Gd.plain Sub.rfl) rfl rfl (fun hw => step_load_ptr ty9 (Sub.w hw)) ?_
  refine JL_stepG rfl rfl rfl (Gd.plain Sub.rfl) rfl rfl (fun hw => step_neq_str (Sub.w hw) Sub.rfl) ?_
  refine JL_step rfl rfl rfl (step_pick_and Sub.rfl Sub.rfl) ?_
  refine JL_nil ?_
  refine J_cond Sub.rfl (fun hc1 => ?_) (fun hc1 => ?_)
  · try simp only [decide_eq_true_eq, decide_eq_false_iff_not, Bool.and_eq_true, Bool.or_eq_true, Bool.and_eq_false_iff, Bool.or_eq_false_iff, Bool.not_eq_true', Bool.not_eq_false', Int.not_lt, Int.not_le, Bool.not_true, Bool.not_false] at hc1
    refine J_seq ?_
    refine J_region ?_
    refine JL_step rfl rfl rfl (step_assign Sub.rfl) ?_
    refine JL_nil ?_
    refine J_ret ?_
    refine K_ret1 (t := 2) rfl () ?_
    refine Sub.bool ?_
    simp [validV, hc1]
  · try simp only [decide_eq_true_eq, decide_eq_false_iff_not, Bool.and_eq_true, Bool.or_eq_true, Bool.and_eq_false_iff, Bool.or_eq_false_iff, Bool.not_eq_true', Bool.not_eq_false', Int.not_lt, Int.not_le, Bool.not_true, Bool.not_false] at hc1
    refine J_skip ?_
    refine J_seq ?_
    refine J_region ?_
    refine JL_step rfl rfl rfl (step_assign Sub.rfl) ?_
    refine JL_step rfl rfl rfl (step_assign Sub.rfl) ?_
    refine JL_nil ?_
    refine J_seq ?_
    refine J_seq ?_
    refine J_region ?_
    refine JL_step rfl rfl rfl (step_fieldAddr so47 Sub.rfl rfl) ?_
    refine JL_step rfl rfl rfl (step_load_ptr ty3 Sub.rfl) ?_
    refine JL_nil ?_
    refine J_block ?_
    refine J_seq ?_
    refine J_region ?_
    refine JL_step rfl rfl rfl (step_eql Sub.rfl Sub.rfl) ?_
    refine JL_step rfl rfl rfl (step_assign Sub.rfl) ?_
    refine JL_nil ?_
    refine J_cond Sub.rfl (fun hc2 => ?_) (fun hc2 => ?_)
    · try simp only [decide_eq_true_eq, decide_eq_false_iff_not, Bool.and_eq_true, Bool.or_eq_true, Bool.and_eq_false_iff, Bool.or_eq_false_iff, Bool.not_eq_true', Bool.not_eq_false', Int.not_lt, Int.not_le, Bool.not_true, Bool.not_false] at hc2
      refine J_skip ?_
      refine J_seq ?_
      refine J_region ?_
      refine JL_step rfl rfl rfl (step_move Sub.rfl) ?_
      refine JL_step rfl rfl rfl (step_fieldAddr so47 Sub.rfl rfl) ?_
      refine JL_step rfl rfl rfl (step_load_ptr ty3 Sub.rfl) ?_
      refine JL_step rfl rfl rfl (step_leq Sub.rfl Sub.rfl) ?_
      refine JL_step rfl rfl rfl (step_move Sub.rfl) ?_
      refine JL_stepG rfl rfl rfl (Gd.plain Sub.rfl) rfl rfl (fun hw => step_fieldAddr so47 Sub.rfl rfl) ?_
      refine JL_stepG rfl rfl rfl (Gd.plain Sub.rfl) rfl rfl (fun hw => step_load_ptr ty3 (Sub.w hw)) ?_
      refine JL_stepG rfl rfl rfl (Gd.plain Sub.rfl) rfl rfl (fun hw => step_move Sub.rfl) ?_
      refine JL_stepG rfl rfl rfl (Gd.plain Sub.rfl) rfl rfl (fun hw => step_leq (Sub.w hw) (Sub.w hw)) ?_
      refine JL_step rfl rfl rfl (step_pick_and Sub.rfl Sub.rfl) ?_
      refine JL_step rfl rfl rfl (step_assign Sub.rfl) ?_
      refine JL_nil ?_
      refine J_ret ?_
      refine K_ret1 (t := 2) rfl () ?_
      refine Sub.bool ?_
      have h1 : ¬ (v.Kind ≠ 1 ∧ v.Text ≠ ⟨#[]⟩) := by rintro ⟨p, q⟩; rcases hc1 with hc1 | hc1 <;> contradiction
      simp only [validV, if_neg h1]
      simp [*]
    · try simp only [decide_eq_true_eq, decide_eq_false_iff_not, Bool.and_eq_true, Bool.or_eq_true, Bool.and_eq_false_iff, Bool.or_eq_false_iff, Bool.not_eq_true', Bool.not_eq_false', Int.not_lt, Int.not_le, Bool.not_true, Bool.not_false] at hc2
      refine J_seq ?_
      refine J_region ?_
      refine JL_step rfl rfl rfl (step_eql Sub.rfl Sub.rfl) ?_
      refine JL_step rfl rfl rfl (step_assign Sub.rfl) ?_
      refine JL_nil ?_
      refine J_cond Sub.rfl (fun hc3 => ?_) (fun hc3 => ?_)
      · try simp only [decide_eq_true_eq, decide_eq_false_iff_not, Bool.and_eq_true, Bool.or_eq_true, Bool.and_eq_false_iff, Bool.or_eq_false_iff, Bool.not_eq_true', Bool.not_eq_false', Int.not_lt, Int.not_le, Bool.not_true, Bool.not_false] at hc3
        refine J_seq ?_
        refine J_region ?_
        refine JL_step rfl rfl rfl (step_fieldAddr so47 Sub.rfl rfl) ?_
        refine JL_step rfl rfl rfl (step_load_ptr ty9 Sub.rfl) ?_
        refine JL_step rfl rfl rfl (step_len_str Tryz.underlying9 Sub.rfl) ?_
        refine JL_step rfl rfl rfl (step_gtr Sub.rfl Sub.rfl) ?_
        refine JL_nil ?_
        refine J_cond Sub.rfl (fun hc4 => ?_) (fun hc4 => ?_)
        · try simp only [decide_eq_true_eq, decide_eq_false_iff_not, Bool.and_eq_true, Bool.or_eq_true, Bool.and_eq_false_iff, Bool.or_eq_false_iff, Bool.not_eq_true', Bool.not_eq_false', Int.not_lt, Int.not_le, Bool.not_true, Bool.not_false] at hc4
          refine J_seq ?_
          refine J_region ?_
          refine JL_step rfl rfl rfl (step_assign Sub.rfl) ?_
          refine JL_nil ?_
          refine J_ret ?_
          refine K_ret1 (t := 2) rfl () ?_
          refine Sub.bool ?_
          have h1 : ¬ (v.Kind ≠ 1 ∧ v.Text ≠ ⟨#[]⟩) := by rintro ⟨p, q⟩; rcases hc1 with hc1 | hc1 <;> contradiction
          simp only [validV, if_neg h1]
          first | (simp [*]; done) | (simp_all; omega)
        · try simp only [decide_eq_true_eq, decide_eq_false_iff_not, Bool.and_eq_true, Bool.or_eq_true, Bool.and_eq_false_iff, Bool.or_eq_false_iff, Bool.not_eq_true', Bool.not_eq_false', Int.not_lt, Int.not_le, Bool.not_true, Bool.not_false] at hc4
          refine J_skip ?_
          refine J_seq ?_
          refine J_region ?_
          refine JL_step rfl rfl rfl (step_move Sub.rfl) ?_
          refine JL_step rfl rfl rfl (step_fieldAddr so47 Sub.rfl rfl) ?_
          refine JL_step rfl rfl rfl (step_load_ptr ty3 Sub.rfl) ?_
          refine JL_step rfl rfl rfl (step_leq Sub.rfl Sub.rfl) ?_
          refine JL_step rfl rfl rfl (step_move Sub.rfl) ?_
          refine JL_stepG rfl rfl rfl (Gd.plain Sub.rfl) rfl rfl (fun hw => step_fieldAddr so47 Sub.rfl rfl) ?_
          refine JL_stepG rfl rfl rfl (Gd.plain Sub.rfl) rfl rfl (fun hw => step_load_ptr ty3 (Sub.w hw)) ?_
          refine JL_stepG rfl rfl rfl (Gd.plain Sub.rfl) rfl rfl (fun hw => step_move Sub.rfl) ?_
          refine JL_stepG rfl rfl rfl (Gd.plain Sub.rfl) rfl rfl (fun hw => step_leq (Sub.w hw) (Sub.w hw)) ?_
          refine JL_step rfl rfl rfl (step_pick_and Sub.rfl Sub.rfl) ?_
          refine JL_step rfl rfl rfl (step_assign Sub.rfl) ?_
          refine JL_nil ?_
          refine J_ret ?_
          refine K_ret1 (t := 2) rfl () ?_
          refine Sub.bool ?_
          have h1 : ¬ (v.Kind ≠ 1 ∧ v.Text ≠ ⟨#[]⟩) := by rintro ⟨p, q⟩; rcases hc1 with hc1 | hc1 <;> contradiction
          simp only [validV, if_neg h1]
          first | (simp [*]; done) | (simp_all; omega)
      · try simp only [decide_eq_true_eq, decide_eq_false_iff_not, Bool.and_eq_true, Bool.or_eq_true, Bool.and_eq_false_iff, Bool.or_eq_false_iff, Bool.not_eq_true', Bool.not_eq_false', Int.not_lt, Int.not_le, Bool.not_true, Bool.not_false] at hc3
        refine J_seq ?_
        refine J_region ?_
        refine JL_step rfl rfl rfl (step_eql Sub.rfl Sub.rfl) ?_
        refine JL_step rfl rfl rfl (step_assign Sub.rfl) ?_
        refine JL_nil ?_
        refine J_cond Sub.rfl (fun hc5 => ?_) (fun hc5 => ?_)
        · try simp only [decide_eq_true_eq, decide_eq_false_iff_not, Bool.and_eq_true, Bool.or_eq_true, Bool.and_eq_false_iff, Bool.or_eq_false_iff, Bool.not_eq_true', Bool.not_eq_false', Int.not_lt, Int.not_le, Bool.not_true, Bool.not_false] at hc5
          refine J_region ?_
          refine JL_step rfl rfl rfl (step_assign Sub.rfl) ?_
          refine JL_step rfl rfl rfl (step_assign Sub.rfl) ?_
          refine JL_nil ?_
          refine J_seq ?_
          refine J_region ?_
          refine JL_step rfl rfl rfl (step_move Sub.rfl) ?_
          refine JL_step rfl rfl rfl (step_fieldAddr so47 Sub.rfl rfl) ?_
          refine JL_step rfl rfl rfl (step_load_ptr ty3 Sub.rfl) ?_
          refine JL_step rfl rfl rfl (step_leq Sub.rfl Sub.rfl) ?_
          refine JL_step rfl rfl rfl (step_move Sub.rfl) ?_
          refine JL_stepG rfl rfl rfl (Gd.plain Sub.rfl) rfl rfl (fun hw => step_fieldAddr so47 Sub.rfl rfl) ?_
          refine JL_stepG rfl rfl rfl (Gd.plain Sub.rfl) rfl rfl (fun hw => step_load_ptr ty3 (Sub.w hw)) ?_
          refine JL_stepG rfl rfl rfl (Gd.plain Sub.rfl) rfl rfl (fun hw => step_move Sub.rfl) ?_
          refine JL_stepG rfl rfl rfl (Gd.plain Sub.rfl) rfl rfl (fun hw => step_leq (Sub.w hw) (Sub.w hw)) ?_
          refine JL_step rfl rfl rfl (step_pick_and Sub.rfl Sub.rfl) ?_
          refine JL_step rfl rfl rfl (step_assign Sub.rfl) ?_
          refine JL_nil ?_
          refine J_ret ?_
          refine K_ret1 (t := 2) rfl () ?_
          refine Sub.bool ?_
          have h1 : ¬ (v.Kind ≠ 1 ∧ v.Text ≠ ⟨#[]⟩) := by rintro ⟨p, q⟩; rcases hc1 with hc1 | hc1 <;> contradiction
          simp only [validV, if_neg h1]
          first | (simp [*]; done) | (simp_all; omega)
        · try simp only [decide_eq_true_eq, decide_eq_false_iff_not, Bool.and_eq_true, Bool.or_eq_true, Bool.and_eq_false_iff, Bool.or_eq_false_iff, Bool.not_eq_true', Bool.not_eq_false', Int.not_lt, Int.not_le, Bool.not_true, Bool.not_false] at hc5
          refine J_seq ?_
          refine J_region ?_
          refine JL_step rfl rfl rfl (step_eql Sub.rfl Sub.rfl) ?_
          refine JL_step rfl rfl rfl (step_assign Sub.rfl) ?_
          refine JL_nil ?_
          refine J_cond Sub.rfl (fun hc6 => ?_) (fun hc6 => ?_)
          · try simp only [decide_eq_true_eq, decide_eq_false_iff_not, Bool.and_eq_true, Bool.or_eq_true, Bool.and_eq_false_iff, Bool.or_eq_false_iff, Bool.not_eq_true', Bool.not_eq_false', Int.not_lt, Int.not_le, Bool.not_true, Bool.not_false] at hc6
            refine J_region ?_
            refine JL_step rfl rfl rfl (step_assign Sub.rfl) ?_
            refine JL_nil ?_
            refine J_seq ?_
            refine J_region ?_
            refine JL_step rfl rfl rfl (step_move Sub.rfl) ?_
            refine JL_step rfl rfl rfl (step_fieldAddr so47 Sub.rfl rfl) ?_
            refine JL_step rfl rfl rfl (step_load_ptr ty3 Sub.rfl) ?_
            refine JL_step rfl rfl rfl (step_leq Sub.rfl Sub.rfl) ?_
            refine JL_step rfl rfl rfl (step_move Sub.rfl) ?_
            refine JL_stepG rfl rfl rfl (Gd.plain Sub.rfl) rfl rfl (fun hw => step_fieldAddr so47 Sub.rfl rfl) ?_
            refine JL_stepG rfl rfl rfl (Gd.plain Sub.rfl) rfl rfl (fun hw => step_load_ptr ty3 (Sub.w hw)) ?_
            refine JL_stepG rfl rfl rfl (Gd.plain Sub.rfl) rfl rfl (fun hw => step_move Sub.rfl) ?_
            refine JL_stepG rfl rfl rfl (Gd.plain Sub.rfl) rfl rfl (fun hw => step_leq (Sub.w hw) (Sub.w hw)) ?_
            refine JL_step rfl rfl rfl (step_pick_and Sub.rfl Sub.rfl) ?_
            refine JL_step rfl rfl rfl (step_assign Sub.rfl) ?_
            refine JL_nil ?_
            refine J_ret ?_
            refine K_ret1 (t := 2) rfl () ?_
            refine Sub.bool ?_
            have h1 : ¬ (v.Kind ≠ 1 ∧ v.Text ≠ ⟨#[]⟩) := by rintro ⟨p, q⟩; rcases hc1 with hc1 | hc1 <;> contradiction
            simp only [validV, if_neg h1]
            first | (simp [*]; done) | (simp_all; omega)
          · try simp only [decide_eq_true_eq, decide_eq_false_iff_not, Bool.and_eq_true, Bool.or_eq_true, Bool.and_eq_false_iff, Bool.or_eq_false_iff, Bool.not_eq_true', Bool.not_eq_false', Int.not_lt, Int.not_le, Bool.not_true, Bool.not_false] at hc6
            refine J_seq ?_
            refine J_region ?_
            refine JL_step rfl rfl rfl (step_eql Sub.rfl Sub.rfl) ?_
            refine JL_step rfl rfl rfl (step_assign Sub.rfl) ?_
            refine JL_nil ?_
            refine J_cond Sub.rfl (fun hc7 => ?_) (fun hc7 => ?_)
            · try simp only [decide_eq_true_eq, decide_eq_false_iff_not, Bool.and_eq_true, Bool.or_eq_true, Bool.and_eq_false_iff, Bool.or_eq_false_iff, Bool.not_eq_true', Bool.not_eq_false', Int.not_lt, Int.not_le, Bool.not_true, Bool.not_false] at hc7
              refine J_region ?_
              refine JL_step rfl rfl rfl (step_assign Sub.rfl) ?_
              refine JL_nil ?_
              refine J_seq ?_
              refine J_region ?_
              refine JL_step rfl rfl rfl (step_move Sub.rfl) ?_
              refine JL_step rfl rfl rfl (step_fieldAddr so47 Sub.rfl rfl) ?_
              refine JL_step rfl rfl rfl (step_load_ptr ty3 Sub.rfl) ?_
              refine JL_step rfl rfl rfl (step_leq Sub.rfl Sub.rfl) ?_
              refine JL_step rfl rfl rfl (step_move Sub.rfl) ?_
              refine JL_stepG rfl rfl rfl (Gd.plain Sub.rfl) rfl rfl (fun hw => step_fieldAddr so47 Sub.rfl rfl) ?_
              refine JL_stepG rfl rfl rfl (Gd.plain Sub.rfl) rfl rfl (fun hw => step_load_ptr ty3 (Sub.w hw)) ?_
              refine JL_stepG rfl rfl rfl (Gd.plain Sub.rfl) rfl rfl (fun hw => step_move Sub.rfl) ?_
              refine JL_stepG rfl rfl rfl (Gd.plain Sub.rfl) rfl rfl (fun hw => step_leq (Sub.w hw) (Sub.w hw)) ?_
              refine JL_step rfl rfl rfl (step_pick_and Sub.rfl Sub.rfl) ?_
              refine JL_step rfl rfl rfl (step_assign Sub.rfl) ?_
              refine JL_nil ?_
              refine J_ret ?_
              refine K_ret1 (t := 2) rfl () ?_
              refine Sub.bool ?_
              have h1 : ¬ (v.Kind ≠ 1 ∧ v.Text ≠ ⟨#[]⟩) := by rintro ⟨p, q⟩; rcases hc1 with hc1 | hc1 <;> contradiction
              simp only [validV, if_neg h1]
              first | (simp [*]; done) | (simp_all; omega)
            · try simp only [decide_eq_true_eq, decide_eq_false_iff_not, Bool.and_eq_true, Bool.or_eq_true, Bool.and_eq_false_iff, Bool.or_eq_false_iff, Bool.not_eq_true', Bool.not_eq_false', Int.not_lt, Int.not_le, Bool.not_true, Bool.not_false] at hc7
              refine J_seq ?_
              refine J_region ?_
              refine JL_step rfl rfl rfl (step_assign Sub.rfl) ?_
              refine JL_nil ?_
              refine J_ret ?_
              refine K_ret1 (t := 2) rfl () ?_
              refine Sub.bool ?_
              have h1 : ¬ (v.Kind ≠ 1 ∧ v.Text ≠ ⟨#[]⟩) := by rintro ⟨p, q⟩; rcases hc1 with hc1 | hc1 <;> contradiction
              simp only [validV, if_neg h1]
              first | (simp [*]; done) | (simp_all; omega)
theorem fmtB_spec (b : Bool) : Fun1 Tryz.prog 92 [tV (.bool b)] (tV (.string (boolB b))) := by
  refine Spec.enter Tryz.func92 rfl rfl fun h0 w0 fr0 => ?_
  refine J_seq ?_
  refine J_region ?_
  refine JL_step rfl rfl rfl (step_assign Sub.rfl) ?_
  refine JL_nil ?_
  refine J_seq ?_
  refine J_seq ?_
  refine J_region ?_
  refine JL_step rfl rfl rfl (step_move Sub.rfl) ?_
  refine JL_nil ?_
  refine J_cond Sub.rfl (fun h3 => ?_) (fun h3 => ?_)
  · try simp only [decide_eq_true_eq, decide_eq_false_iff_not, Bool.and_eq_true, Bool.or_eq_true, Bool.and_eq_false_iff, Bool.or_eq_false_iff, Bool.not_eq_true', Bool.not_eq_false', Int.not_lt, Int.not_le, Bool.not_true, Bool.not_false] at h3
    refine J_seq ?_
    refine J_region ?_
    refine JL_step rfl rfl rfl (step_assign Sub.rfl) ?_
    refine JL_nil ?_
    refine J_ret ?_
    refine K_retv (rv := .tmp 2) rfl () (.tmp Sub.rfl) (Sub.v (congrArg Value.string ?_))
    simp [boolB, h3]
  · try simp only [decide_eq_true_eq, decide_eq_false_iff_not, Bool.and_eq_true, Bool.or_eq_true, Bool.and_eq_false_iff, Bool.or_eq_false_iff, Bool.not_eq_true', Bool.not_eq_false', Int.not_lt, Int.not_le, Bool.not_true, Bool.not_false] at h3
    refine J_skip ?_
    refine J_seq ?_
    refine J_region ?_
    refine JL_step rfl rfl rfl (step_assign Sub.rfl) ?_
    refine JL_nil ?_
    refine J_ret ?_
    refine K_retv (rv := .tmp 2) rfl () (.tmp Sub.rfl) (Sub.v (congrArg Value.string ?_))
    simp [boolB, h3]
theorem FormatBool_spec (b : Bool) : Fun1 Tryz.prog 63 [tV (.bool b)] (tV (.string (boolB b))) := by
  refine Spec.enter Tryz.func63 rfl rfl fun h0 w0 fr0 => ?_
  refine J_seq ?_
  refine J_region ?_
  refine JL_step rfl rfl rfl (step_assign Sub.rfl) ?_
  refine JL_nil ?_
  refine J_seq ?_
  refine J_region ?_
  refine JL_step rfl rfl rfl (step_move Sub.rfl) ?_
  refine JL_step rfl rfl rfl (step_call0 (fmtB_spec _) ⟨Sub.rfl, trivial⟩ Tryz.call92) ?_
  refine JL_step rfl rfl rfl (step_assign Sub.rfl) ?_
  refine JL_nil ?_
  refine J_ret ?_
  exact K_ret1 (t := 2) rfl () Sub.rfl
theorem Text_spec (v : GValue) (hk : v.Kind ≠ 1) : Fun1 Tryz.prog 29 [rValue.ty v] (tV (.string (textV v))) := by
  refine Spec.enter Tryz.func29 rfl rfl fun h0 w0 fr0 => ?_
  refine J_seq ?_
  refine J_region ?_
  refine JL_step rfl rfl rfl (step_box (R := rValue) Sub.rfl) ?_
  refine JL_step rfl rfl rfl (step_assign Sub.rfl) ?_
  refine JL_nil ?_
  refine J_seq ?_
  refine J_seq ?_
  refine J_region ?_
  refine JL_step rfl rfl rfl (step_load_ptr ty47 Sub.rfl) ?_
  refine JL_step rfl rfl rfl (step_call0 (Valid_spec _) ⟨Sub.rfl, trivial⟩ Tryz.call59) ?_
  refine JL_step rfl rfl rfl (step_not Sub.rfl) ?_
  refine JL_nil ?_
  refine J_cond Sub.rfl (fun h5 => ?_) (fun h5 => ?_)
  · try simp only [decide_eq_true_eq, decide_eq_false_iff_not, Bool.and_eq_true, Bool.or_eq_true, Bool.and_eq_false_iff, Bool.or_eq_false_iff, Bool.not_eq_true', Bool.not_eq_false', Int.not_lt, Int.not_le, Bool.not_true, Bool.not_false] at h5
    refine J_seq ?_
    refine J_region ?_
    refine JL_step rfl rfl rfl (step_assign Sub.rfl) ?_
    refine JL_nil ?_
    refine J_ret ?_
    refine K_retv (rv := .tmp 2) rfl () (.tmp Sub.rfl) (Sub.v (congrArg Value.string ?_))
    have : validV v = false := by simpa using h5
    rw [textV, if_pos this]
  · try simp only [decide_eq_true_eq, decide_eq_false_iff_not, Bool.and_eq_true, Bool.or_eq_true, Bool.and_eq_false_iff, Bool.or_eq_false_iff, Bool.not_eq_true', Bool.not_eq_false', Int.not_lt, Int.not_le, Bool.not_true, Bool.not_false] at h5
    have hvv : validV v = true := by simpa using h5
    have hn := valid_N hvv
    have hNr : -9223372036854775808 ≤ v.N ∧ v.N ≤ 9223372036854775807 := by omega
    have his := itoaB_size hNr
    refine J_skip ?_
    refine J_seq ?_
    refine J_seq ?_
    refine J_region ?_
    refine JL_step rfl rfl rfl (step_fieldAddr so47 Sub.rfl rfl) ?_
    refine JL_step rfl rfl rfl (step_load_ptr ty3 Sub.rfl) ?_
    refine JL_nil ?_
    refine J_block ?_
    refine J_seq ?_
    refine J_region ?_
    refine JL_step rfl rfl rfl (step_eql Sub.rfl Sub.rfl) ?_
    refine JL_step rfl rfl rfl (step_assign Sub.rfl) ?_
    refine JL_nil ?_
    refine J_cond Sub.rfl (fun h8 => ?_) (fun h8 => ?_)
    · try simp only [decide_eq_true_eq, decide_eq_false_iff_not, Bool.and_eq_true, Bool.or_eq_true, Bool.and_eq_false_iff, Bool.or_eq_false_iff, Bool.not_eq_true', Bool.not_eq_false', Int.not_lt, Int.not_le, Bool.not_true, Bool.not_false] at h8
      exact absurd h8 hk
    · try simp only [decide_eq_true_eq, decide_eq_false_iff_not, Bool.and_eq_true, Bool.or_eq_true, Bool.and_eq_false_iff, Bool.or_eq_false_iff, Bool.not_eq_true', Bool.not_eq_false', Int.not_lt, Int.not_le, Bool.not_true, Bool.not_false] at h8
      refine J_seq ?_
      refine J_region ?_
      refine JL_step rfl rfl rfl (step_eql Sub.rfl Sub.rfl) ?_
      refine JL_step rfl rfl rfl (step_assign Sub.rfl) ?_
      refine JL_nil ?_
      refine J_cond Sub.rfl (fun h17 => ?_) (fun h17 => ?_)
      · try simp only [decide_eq_true_eq, decide_eq_false_iff_not, Bool.and_eq_true, Bool.or_eq_true, Bool.and_eq_false_iff, Bool.or_eq_false_iff, Bool.not_eq_true', Bool.not_eq_false', Int.not_lt, Int.not_le, Bool.not_true, Bool.not_false] at h17
        refine J_seq ?_
        refine J_region ?_
        refine JL_step rfl rfl rfl (step_fieldAddr so47 Sub.rfl rfl) ?_
        refine JL_step rfl rfl rfl (step_load_ptr ty3 Sub.rfl) ?_
        refine JL_step rfl rfl rfl (step_call0 (Itoa_spec v.N hNr) ⟨Sub.rfl, trivial⟩ Tryz.call62) ?_
        refine JL_step rfl rfl rfl (step_assign Sub.rfl) ?_
        refine JL_nil ?_
        refine J_ret ?_
        refine K_retv (rv := .tmp 2) rfl () (.tmp Sub.rfl) (Sub.v (congrArg Value.string ?_))
        first | (simp [textV, *]; done) | (simp [textV, *]; rfl)
      · try simp only [decide_eq_true_eq, decide_eq_false_iff_not, Bool.and_eq_true, Bool.or_eq_true, Bool.and_eq_false_iff, Bool.or_eq_false_iff, Bool.not_eq_true', Bool.not_eq_false', Int.not_lt, Int.not_le, Bool.not_true, Bool.not_false] at h17
        refine J_seq ?_
        refine J_region ?_
        refine JL_step rfl rfl rfl (step_eql Sub.rfl Sub.rfl) ?_
        refine JL_step rfl rfl rfl (step_assign Sub.rfl) ?_
        refine JL_nil ?_
        refine J_cond Sub.rfl (fun h22 => ?_) (fun h22 => ?_)
        · try simp only [decide_eq_true_eq, decide_eq_false_iff_not, Bool.and_eq_true, Bool.or_eq_true, Bool.and_eq_false_iff, Bool.or_eq_false_iff, Bool.not_eq_true', Bool.not_eq_false', Int.not_lt, Int.not_le, Bool.not_true, Bool.not_false] at h22
          refine J_seq ?_
          refine J_region ?_
          refine JL_step rfl rfl rfl (step_fieldAddr so47 Sub.rfl rfl) ?_
          refine JL_step rfl rfl rfl (step_load_ptr ty3 Sub.rfl) ?_
          refine JL_step rfl rfl rfl (step_call0 (Itoa_spec v.N hNr) ⟨Sub.rfl, trivial⟩ Tryz.call62) ?_
          refine JL_step rfl rfl rfl (step_add_str Sub.rfl Sub.rfl ?sg1) ?_
          case sg1 => have : (⟨#[64]⟩ : ByteArray).size = 1 := rfl; omega
          refine JL_step rfl rfl rfl (step_assign Sub.rfl) ?_
          refine JL_nil ?_
          refine J_ret ?_
          refine K_retv (rv := .tmp 2) rfl () (.tmp Sub.rfl) (Sub.v (congrArg Value.string ?_))
          first | (simp [textV, *]; done) | (simp [textV, *]; rfl)
        · try simp only [decide_eq_true_eq, decide_eq_false_iff_not, Bool.and_eq_true, Bool.or_eq_true, Bool.and_eq_false_iff, Bool.or_eq_false_iff, Bool.not_eq_true', Bool.not_eq_false', Int.not_lt, Int.not_le, Bool.not_true, Bool.not_false] at h22
          refine J_seq ?_
          refine J_region ?_
          refine JL_step rfl rfl rfl (step_eql Sub.rfl Sub.rfl) ?_
          refine JL_step rfl rfl rfl (step_assign Sub.rfl) ?_
          refine JL_nil ?_
          refine J_cond Sub.rfl (fun h28 => ?_) (fun h28 => ?_)
          · try simp only [decide_eq_true_eq, decide_eq_false_iff_not, Bool.and_eq_true, Bool.or_eq_true, Bool.and_eq_false_iff, Bool.or_eq_false_iff, Bool.not_eq_true', Bool.not_eq_false', Int.not_lt, Int.not_le, Bool.not_true, Bool.not_false] at h28
            refine J_seq ?_
            refine J_region ?_
            refine JL_step rfl rfl rfl (step_fieldAddr so47 Sub.rfl rfl) ?_
            refine JL_step rfl rfl rfl (step_load_ptr ty3 Sub.rfl) ?_
            refine JL_step rfl rfl rfl (step_eql Sub.rfl Sub.rfl) ?_
            refine JL_step rfl rfl rfl (step_call0 (FormatBool_spec _) ⟨Sub.rfl, trivial⟩ Tryz.call63) ?_
            refine JL_step rfl rfl rfl (step_assign Sub.rfl) ?_
            refine JL_nil ?_
            refine J_ret ?_
            refine K_retv (rv := .tmp 2) rfl () (.tmp Sub.rfl) (Sub.v (congrArg Value.string ?_))
            first | (simp [textV, *]; done) | (simp [textV, *]; rfl)
          · try simp only [decide_eq_true_eq, decide_eq_false_iff_not, Bool.and_eq_true, Bool.or_eq_true, Bool.and_eq_false_iff, Bool.or_eq_false_iff, Bool.not_eq_true', Bool.not_eq_false', Int.not_lt, Int.not_le, Bool.not_true, Bool.not_false] at h28
            refine J_skip ?_
            refine J_seq ?_
            refine J_region ?_
            refine JL_step rfl rfl rfl (step_assign Sub.rfl) ?_
            refine JL_nil ?_
            refine J_ret ?_
            refine K_retv (rv := .tmp 2) rfl () (.tmp Sub.rfl) (Sub.v (congrArg Value.string ?_))
            first | (simp [textV, *]; done) | (simp [textV, *]; rfl)
end Lg
