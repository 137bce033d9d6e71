/- For all inputs the law RewriteGrows answers true: the card. -/
import Derived.Test.YtjenebejjamnjaaGreatDoorG
set_option linter.unusedVariables false
set_option linter.unusedSimpArgs false
set_option linter.unusedSectionVars false
namespace Lg
open Go Go.Proofs


theorem selP_t {q : GConj} {facts : List GFact} {one : List Int} {i : Nat} (hlt : i < one.length) (h : selP q facts (nth one i) = true) : (one.take (i + 1)).filter (selP q facts) = (one.take i).filter (selP q facts) ++ [nth one i] := by
  rw [takeB hlt, List.filter_append]; simp [h]
theorem selP_f {q : GConj} {facts : List GFact} {one : List Int} {i : Nat} (hlt : i < one.length) (h : selP q facts (nth one i) = false) : (one.take (i + 1)).filter (selP q facts) = (one.take i).filter (selP q facts) := by
  rw [takeB hlt, List.filter_append]; simp [h]

theorem sel_no {q : GConj} {facts : List GFact} {x : Int} (h : ((x < 0 ∨ (facts.length : Int) ≤ x) ∨ sameM q (nth facts x.toNat) (nth facts x.toNat) = false)) : selP q facts x = false := by
  unfold selP
  rcases h with (h | h) | h
  · rw [decide_eq_false (by omega)]; rfl
  · rw [decide_eq_false (p := x < (facts.length : Int)) (by omega)]; simp
  · rw [h]; simp
set_option maxHeartbeats 4000000 in
theorem Grows_t_spec (q : GConj) (facts : List GFact) (one two : List Int) (hq : q.Atoms.length ≤ 9223372036854775807) (hA : holdsM q facts one = true) : Fun1 Tryz.prog 9 [rConj.ty q, tSl rFact facts, tSl rInt one, tSl rInt two] (tV (.bool true)) := by
  refine Spec.enter Tryz.func9 rfl rfl fun h0 w0 fr0 => ?_
  refine J_seq ?_
  refine J_region ?_
  refine JL_step rfl rfl rfl (step_box (R := rConj) Sub.rfl) ?_
  refine JL_step rfl rfl rfl (step_assign Sub.rfl) ?_
  refine JL_nil ?_
  refine J_seq ?_
  refine J_region ?_
  refine JL_step rfl rfl rfl (step_call0 (head_spec) trivial Tryz.call11) ?_
  refine JL_step rfl rfl rfl (step_assign Sub.rfl) ?_
  refine JL_nil ?_
  refine J_seq ?_
  refine J_seq ?_
  refine J_region ?_
  refine JL_step rfl rfl rfl (step_load_ptr ty25 Sub.rfl) ?_
  refine JL_step rfl rfl rfl (step_move Sub.rfl) ?_
  refine JL_step rfl rfl rfl (step_call0 (Small_spec q facts 12 (by omega) hq) ⟨Sub.rfl, Sub.rfl, Sub.rfl, trivial⟩ Tryz.call12) ?_
  refine JL_step rfl rfl rfl (step_not Sub.rfl) ?_
  refine JL_step rfl rfl rfl (step_move Sub.rfl) ?_
  refine JL_stepG rfl rfl rfl (Gd.plain Sub.rfl) rfl rfl (fun hw => step_move Sub.rfl) ?_
  refine JL_stepG rfl rfl rfl (Gd.plain Sub.rfl) rfl rfl (fun hw => step_len_sl Tryz.underlying27 (Sub.w hw)) ?_
  refine JL_stepG rfl rfl rfl (Gd.plain Sub.rfl) rfl rfl (fun hw => step_gtr (Sub.w hw) Sub.rfl) ?_
  refine JL_step rfl rfl rfl (step_pick_or Sub.rfl Sub.rfl) ?_
  refine JL_step rfl rfl rfl (step_move Sub.rfl) ?_
  refine JL_stepG rfl rfl rfl (Gd.plain Sub.rfl) rfl rfl (fun hw => step_move Sub.rfl) ?_
  refine JL_stepG rfl rfl rfl (Gd.plain Sub.rfl) rfl rfl (fun hw => step_len_sl Tryz.underlying27 (Sub.w hw)) ?_
  refine JL_stepG rfl rfl rfl (Gd.plain Sub.rfl) rfl rfl (fun hw => step_gtr (Sub.w hw) Sub.rfl) ?_
  refine JL_step rfl rfl rfl (step_pick_or Sub.rfl Sub.rfl) ?_
  refine JL_nil ?_
  refine J_cond Sub.rfl (fun h27 => ?_) (fun h27 => ?_)
  · try simp only [decide_eq_true_eq, decide_eq_false_iff_not, Bool.and_eq_true, Bool.or_eq_true, Bool.and_eq_false_iff, Bool.or_eq_false_iff, Bool.not_eq_true', Bool.not_eq_false', Int.not_lt, Int.not_le, Bool.not_true, Bool.not_false] at h27
    refine J_seq ?_
    refine J_region ?_
    refine JL_step rfl rfl rfl (step_move Sub.rfl) ?_
    refine JL_step rfl rfl rfl (step_assign Sub.rfl) ?_
    refine JL_nil ?_
    refine J_ret ?_
    refine K_ret1 (t := 8) rfl () Sub.rfl
  · try simp only [decide_eq_true_eq, decide_eq_false_iff_not, Bool.and_eq_true, Bool.or_eq_true, Bool.and_eq_false_iff, Bool.or_eq_false_iff, Bool.not_eq_true', Bool.not_eq_false', Int.not_lt, Int.not_le, Bool.not_true, Bool.not_false] at h27
    obtain ⟨⟨hsm, h20⟩, h21⟩ := h27
    have hsa := small_atoms hsm
    have hsb := small_bd hsm
    refine J_skip ?_
    refine J_seq ?_
    refine J_region ?_
    refine JL_step rfl rfl rfl (step_load_ptr ty25 Sub.rfl) ?_
    refine JL_step rfl rfl rfl (step_move Sub.rfl) ?_
    refine JL_step rfl rfl rfl (step_move Sub.rfl) ?_
    refine JL_step rfl rfl rfl (step_call0 (Holds_spec q facts one (by omega) (by omega)) ⟨Sub.rfl, Sub.rfl, Sub.rfl, trivial⟩ Tryz.call18) ?_
    refine JL_step rfl rfl rfl (step_assign Sub.rfl) ?_
    refine JL_nil ?_
    refine J_seq ?_
    refine J_region ?_
    refine JL_step rfl rfl rfl (step_assign Sub.rfl) ?_
    refine JL_nil ?_
    refine J_seq ?_
    refine J_seq ?_
    refine J_region ?_
    refine JL_step rfl rfl rfl (step_assign Sub.rfl) ?_
    refine JL_nil ?_
    refine J_block ?_
    refine J_loopL (σ := Nat × Value) (fun ⟨i, vo⟩ => i ≤ one.length) (fun ⟨i, vo⟩ => upd (upd (upd (upd (upd (upd (upd (upd (upd env0 1 (tSl rFact facts)) 2 (tSl rInt one)) 3 (tSl rInt two)) 4 (tPtr rConj q)) 8 (tV (.bool false))) 9 (tV (.bool true))) 10 (tV (.bool (holdsM q facts one)))) 11 (rV.ty vo)) 12 (tV (.int .i64 i))) (fun ⟨i, vo⟩ => [own 3 rInt vo ((one.take i).filter (selP q facts))]) (fun ⟨i, vo⟩ => one.length - i) (0, .slice none 0 0) (Nat.zero_le _) (SubE.upd Sub.rfl (SubE.upd (Sub.rV rfl) (SubE.upd Sub.rfl (SubE.upd Sub.rfl (SubE.upd Sub.rfl (SubE.upd Sub.rfl (SubE.upd Sub.rfl (SubE.upd Sub.rfl (SubE.upd Sub.rfl SubE.any))))))))) (LSub.nilown) ?_
    rintro ⟨i, vo⟩ hi
    try dsimp only at hi
    refine J_seq ?_
    refine J_seq ?_
    refine J_region ?_
    refine JL_step rfl rfl rfl (step_move Sub.rfl) ?_
    refine JL_step rfl rfl rfl (step_move Sub.rfl) ?_
    refine JL_step rfl rfl rfl (step_len_sl Tryz.underlying27 Sub.rfl) ?_
    refine JL_step rfl rfl rfl (step_lss Sub.rfl Sub.rfl) ?_
    refine JL_nil ?_
    refine J_cond Sub.rfl (fun h36 => ?_) (fun h36 => ?_)
    · try simp only [decide_eq_true_eq, decide_eq_false_iff_not, Bool.and_eq_true, Bool.or_eq_true, Bool.and_eq_false_iff, Bool.or_eq_false_iff, Bool.not_eq_true', Bool.not_eq_false', Int.not_lt, Int.not_le, Bool.not_true, Bool.not_false] at h36
      have hlt : i < one.length := by omega
      have hfl := List.length_filter_le (selP q facts) (one.take i)
      have htl := List.length_take_le i one
      refine J_skip ?_
      refine J_seq ?_
      refine J_block ?_
      refine J_seq ?_
      refine J_draw [⟨0, [2], true⟩, ⟨1, [12], true⟩, ⟨2, [39, 40], true⟩, ⟨3, [41], true⟩, ⟨4, [42], true⟩, ⟨5, [43], true⟩, ⟨6, [2, 44], true⟩, ⟨7, [12, 44], true⟩, ⟨8, [44, 45, 46], true⟩, ⟨9, [44, 47], true⟩, ⟨10, [1, 44], true⟩, ⟨11, [44, 49], true⟩, ⟨12, [44, 48, 50], true⟩, ⟨13, [44, 51], true⟩, ⟨14, [52], true⟩, ⟨15, [4, 53], true⟩, ⟨16, [1, 53], true⟩, ⟨17, [2, 53], true⟩, ⟨18, [12, 53], true⟩, ⟨19, [53, 56, 57], true⟩, ⟨20, [53, 58], true⟩, ⟨21, [53, 55, 59], true⟩, ⟨22, [53, 60], true⟩, ⟨23, [1, 53], true⟩, ⟨24, [2, 53], true⟩, ⟨25, [12, 53], true⟩, ⟨26, [53, 63, 64], true⟩, ⟨27, [53, 65], true⟩, ⟨28, [53, 62, 66], true⟩, ⟨29, [53, 67], true⟩, ⟨30, [53, 54, 61, 68], true⟩, ⟨31, [53, 69], true⟩] rfl (by kernel_rfl) ?_
      refine JM_step rfl rfl rfl rfl (fun _ => step_move Sub.rfl) ?_
      refine JM_step rfl rfl rfl rfl (fun _ => step_move Sub.rfl) ?_
      refine JM_step rfl rfl rfl rfl (fun _ => step_indexAddr_sl  Tryz.underlying27 ty3 Sub.rfl Sub.rfl rfl (gb ?sg1)) ?_
      case sg1 => exact hlt
      refine JM_step rfl rfl rfl rfl (fun _ => step_load_ptr ty3 Sub.rfl) ?_
      refine JM_step rfl rfl rfl rfl (fun _ => step_geq Sub.rfl Sub.rfl) ?_
      refine JM_step rfl rfl rfl rfl (fun _ => step_move Sub.rfl) ?_
      refine JM_stepG rfl rfl rfl rfl (Gd.plain Sub.rfl) rfl rfl (fun hw _ => step_move Sub.rfl) ?_
      refine JM_stepG rfl rfl rfl rfl (Gd.plain Sub.rfl) rfl rfl (fun hw _ => step_move Sub.rfl) ?_
      refine JM_stepG rfl rfl rfl rfl (Gd.plain Sub.rfl) rfl rfl (fun hw _ => step_indexAddr_sl (i := i) Tryz.underlying27 ty3 (Sub.w hw) (Sub.w hw) ?sg1 (gb ?sg2)) ?_
      case sg1 => have hwq := hw; (try simp only [beqB_t, beqB_f, decide_eq_true_eq, decide_eq_false_iff_not, Bool.and_eq_true, Bool.or_eq_true, Bool.and_eq_false_iff, Bool.or_eq_false_iff, Bool.not_eq_true', Bool.not_eq_false', Int.not_lt, Int.not_le, Bool.not_true, Bool.not_false] at hwq); rfl
      case sg2 => have hwq := hw; (try simp only [beqB_t, beqB_f, decide_eq_true_eq, decide_eq_false_iff_not, Bool.and_eq_true, Bool.or_eq_true, Bool.and_eq_false_iff, Bool.or_eq_false_iff, Bool.not_eq_true', Bool.not_eq_false', Int.not_lt, Int.not_le, Bool.not_true, Bool.not_false] at hwq); exact hlt
      refine JM_stepG rfl rfl rfl rfl (Gd.plain Sub.rfl) rfl rfl (fun hw _ => step_load_ptr ty3 (Sub.w hw)) ?_
      refine JM_stepG rfl rfl rfl rfl (Gd.plain Sub.rfl) rfl rfl (fun hw _ => step_move Sub.rfl) ?_
      refine JM_stepG rfl rfl rfl rfl (Gd.plain Sub.rfl) rfl rfl (fun hw _ => step_len_sl Tryz.underlying26 (Sub.w hw)) ?_
      refine JM_stepG rfl rfl rfl rfl (Gd.plain Sub.rfl) rfl rfl (fun hw _ => step_lss (Sub.w hw) (Sub.w hw)) ?_
      refine JM_step rfl rfl rfl rfl (fun _ => step_pick_and Sub.rfl Sub.rfl) ?_
      refine JM_step rfl rfl rfl rfl (fun _ => step_move Sub.rfl) ?_
      refine JM_stepG rfl rfl rfl rfl (Gd.plain Sub.rfl) rfl rfl (fun hw _ => step_load_ptr ty25 Sub.rfl) ?_
      refine JM_stepG rfl rfl rfl rfl (Gd.plain Sub.rfl) rfl rfl (fun hw _ => step_move Sub.rfl) ?_
      refine JM_stepG rfl rfl rfl rfl (Gd.plain Sub.rfl) rfl rfl (fun hw _ => step_move Sub.rfl) ?_
      refine JM_stepG rfl rfl rfl rfl (Gd.plain Sub.rfl) rfl rfl (fun hw _ => step_move Sub.rfl) ?_
      refine JM_stepG rfl rfl rfl rfl (Gd.plain Sub.rfl) rfl rfl (fun hw _ => step_indexAddr_sl (i := i) Tryz.underlying27 ty3 (Sub.w hw) (Sub.w hw) ?sg1 (gb ?sg2)) ?_
      case sg1 => have hwq := hw; (try simp only [beqB_t, beqB_f, decide_eq_true_eq, decide_eq_false_iff_not, Bool.and_eq_true, Bool.or_eq_true, Bool.and_eq_false_iff, Bool.or_eq_false_iff, Bool.not_eq_true', Bool.not_eq_false', Int.not_lt, Int.not_le, Bool.not_true, Bool.not_false] at hwq); rfl
      case sg2 => have hwq := hw; (try simp only [beqB_t, beqB_f, decide_eq_true_eq, decide_eq_false_iff_not, Bool.and_eq_true, Bool.or_eq_true, Bool.and_eq_false_iff, Bool.or_eq_false_iff, Bool.not_eq_true', Bool.not_eq_false', Int.not_lt, Int.not_le, Bool.not_true, Bool.not_false] at hwq); exact hlt
      refine JM_stepG rfl rfl rfl rfl (Gd.plain Sub.rfl) rfl rfl (fun hw _ => step_load_ptr ty3 (Sub.w hw)) ?_
      refine JM_stepG rfl rfl rfl rfl (Gd.plain Sub.rfl) rfl rfl (fun hw _ => step_indexAddr_sl (i := (nth one i).toNat) Tryz.underlying26 ty45 (Sub.w hw) (Sub.w hw) ?sg1 (gb ?sg2)) ?_
      case sg1 => have hwq := hw; (try simp only [beqB_t, beqB_f, decide_eq_true_eq, decide_eq_false_iff_not, Bool.and_eq_true, Bool.or_eq_true, Bool.and_eq_false_iff, Bool.or_eq_false_iff, Bool.not_eq_true', Bool.not_eq_false', Int.not_lt, Int.not_le, Bool.not_true, Bool.not_false] at hwq); omega
      case sg2 => have hwq := hw; (try simp only [beqB_t, beqB_f, decide_eq_true_eq, decide_eq_false_iff_not, Bool.and_eq_true, Bool.or_eq_true, Bool.and_eq_false_iff, Bool.or_eq_false_iff, Bool.not_eq_true', Bool.not_eq_false', Int.not_lt, Int.not_le, Bool.not_true, Bool.not_false] at hwq); omega
      refine JM_stepG rfl rfl rfl rfl (Gd.plain Sub.rfl) rfl rfl (fun hw _ => step_load_ptr ty45 (Sub.w hw)) ?_
      refine JM_stepG rfl rfl rfl rfl (Gd.plain Sub.rfl) rfl rfl (fun hw _ => step_move Sub.rfl) ?_
      refine JM_stepG rfl rfl rfl rfl (Gd.plain Sub.rfl) rfl rfl (fun hw _ => step_move Sub.rfl) ?_
      refine JM_stepG rfl rfl rfl rfl (Gd.plain Sub.rfl) rfl rfl (fun hw _ => step_move Sub.rfl) ?_
      refine JM_stepG rfl rfl rfl rfl (Gd.plain Sub.rfl) rfl rfl (fun hw _ => step_indexAddr_sl (i := i) Tryz.underlying27 ty3 (Sub.w hw) (Sub.w hw) ?sg1 (gb ?sg2)) ?_
      case sg1 => have hwq := hw; (try simp only [beqB_t, beqB_f, decide_eq_true_eq, decide_eq_false_iff_not, Bool.and_eq_true, Bool.or_eq_true, Bool.and_eq_false_iff, Bool.or_eq_false_iff, Bool.not_eq_true', Bool.not_eq_false', Int.not_lt, Int.not_le, Bool.not_true, Bool.not_false] at hwq); rfl
      case sg2 => have hwq := hw; (try simp only [beqB_t, beqB_f, decide_eq_true_eq, decide_eq_false_iff_not, Bool.and_eq_true, Bool.or_eq_true, Bool.and_eq_false_iff, Bool.or_eq_false_iff, Bool.not_eq_true', Bool.not_eq_false', Int.not_lt, Int.not_le, Bool.not_true, Bool.not_false] at hwq); exact hlt
      refine JM_stepG rfl rfl rfl rfl (Gd.plain Sub.rfl) rfl rfl (fun hw _ => step_load_ptr ty3 (Sub.w hw)) ?_
      refine JM_stepG rfl rfl rfl rfl (Gd.plain Sub.rfl) rfl rfl (fun hw _ => step_indexAddr_sl (i := (nth one i).toNat) Tryz.underlying26 ty45 (Sub.w hw) (Sub.w hw) ?sg1 (gb ?sg2)) ?_
      case sg1 => have hwq := hw; (try simp only [beqB_t, beqB_f, decide_eq_true_eq, decide_eq_false_iff_not, Bool.and_eq_true, Bool.or_eq_true, Bool.and_eq_false_iff, Bool.or_eq_false_iff, Bool.not_eq_true', Bool.not_eq_false', Int.not_lt, Int.not_le, Bool.not_true, Bool.not_false] at hwq); omega
      case sg2 => have hwq := hw; (try simp only [beqB_t, beqB_f, decide_eq_true_eq, decide_eq_false_iff_not, Bool.and_eq_true, Bool.or_eq_true, Bool.and_eq_false_iff, Bool.or_eq_false_iff, Bool.not_eq_true', Bool.not_eq_false', Int.not_lt, Int.not_le, Bool.not_true, Bool.not_false] at hwq); omega
      refine JM_stepG rfl rfl rfl rfl (Gd.plain Sub.rfl) rfl rfl (fun hw _ => step_load_ptr ty45 (Sub.w hw)) ?_
      refine JM_stepG rfl rfl rfl rfl (Gd.plain Sub.rfl) rfl rfl (fun hw _ => step_call0 (same_spec q (nth facts (nth one i).toNat) (nth facts (nth one i).toNat) hsa.1 hsa.2) ⟨(Sub.w hw), (Sub.w hw), (Sub.w hw), trivial⟩ Tryz.call22) ?_
      refine JM_step rfl rfl rfl rfl (fun _ => step_pick_and Sub.rfl Sub.rfl) ?_
      refine JM_nil ?_
      refine J_cond Sub.rfl (fun h70 => ?_) (fun h70 => ?_)
      · try simp only [decide_eq_true_eq, decide_eq_false_iff_not, Bool.and_eq_true, Bool.or_eq_true, Bool.and_eq_false_iff, Bool.or_eq_false_iff, Bool.not_eq_true', Bool.not_eq_false', Int.not_lt, Int.not_le, Bool.not_true, Bool.not_false] at h70
        have hsel : selP q facts (nth one i) = true := by unfold selP; simp only [Bool.and_eq_true, decide_eq_true_eq]; exact h70
        refine J_region ?_
        refine JL_step rfl rfl rfl (step_move Sub.rfl) ?_
        refine JL_step rfl rfl rfl (step_move Sub.rfl) ?_
        refine JL_step rfl rfl rfl (step_move Sub.rfl) ?_
        refine JL_step rfl rfl rfl (step_indexAddr_sl  Tryz.underlying27 ty3 Sub.rfl Sub.rfl rfl (gb ?sg1)) ?_
        case sg1 => exact hlt
        refine JL_step rfl rfl rfl (step_load_ptr ty3 Sub.rfl) ?_
        refine JL_step rfl rfl rfl (step_literal (ys := [_]) Tryz.underlying27 el3 ⟨rfl, Sub.rfl, trivial⟩ rfl (by decide)) ?_
        refine JL_stepX rfl rfl rfl (step_append Tryz.underlying27 el3 Sub.rfl Sub.rfl (by first | exact Sel.take (Sel.none _) | exact Sel.skip (Sel.take (Sel.none _)) | exact Sel.skip (Sel.skip (Sel.take (Sel.none _))) | exact Sel.skip (Sel.skip (Sel.skip (Sel.take (Sel.none _)))) | exact Sel.skip (Sel.skip (Sel.skip (Sel.skip (Sel.take (Sel.none _)))))) (by simp; omega) (by simp; omega)) fun u77 => ?_
        refine JL_step rfl rfl rfl (step_assign Sub.rfl) ?_
        refine JL_nil ?_
        refine J_region ?_
        refine JL_step rfl rfl rfl (step_move Sub.rfl) ?_
        refine JL_step rfl rfl rfl (step_add Sub.rfl Sub.rfl ?sg1) ?_
        case sg1 => unfold in64; omega
        refine JL_step rfl rfl rfl (step_assign Sub.rfl) ?_
        refine JL_nil ?_
        refine K_againL (σ := Nat × Value) (s := (i, vo)) (i + 1, u77) (by first | omega | (dsimp only; omega) | (simp_all; omega)) hlt (SubE.upd Sub.rfl (SubE.upd Sub.rfl (SubE.upd Sub.rfl (SubE.upd Sub.rfl (SubE.upd Sub.rfl (SubE.upd Sub.rfl (SubE.upd Sub.rfl (SubE.upd Sub.rfl (SubE.upd Sub.rfl SubE.any))))))))) (LSub.cons (by first | exact Sel.take (Sel.none _) | exact Sel.skip (Sel.take (Sel.none _)) | exact Sel.skip (Sel.skip (Sel.take (Sel.none _))) | exact Sel.skip (Sel.skip (Sel.skip (Sel.take (Sel.none _)))) | exact Sel.skip (Sel.skip (Sel.skip (Sel.skip (Sel.take (Sel.none _)))))) (SPs.of (by rw [selP_t hlt hsel])) (LSub.nil))
      · try simp only [decide_eq_true_eq, decide_eq_false_iff_not, Bool.and_eq_true, Bool.or_eq_true, Bool.and_eq_false_iff, Bool.or_eq_false_iff, Bool.not_eq_true', Bool.not_eq_false', Int.not_lt, Int.not_le, Bool.not_true, Bool.not_false] at h70
        have hsel : selP q facts (nth one i) = false := sel_no h70
        refine J_skip ?_
        refine J_region ?_
        refine JL_step rfl rfl rfl (step_move Sub.rfl) ?_
        refine JL_step rfl rfl rfl (step_add Sub.rfl Sub.rfl ?sg1) ?_
        case sg1 => unfold in64; omega
        refine JL_step rfl rfl rfl (step_assign Sub.rfl) ?_
        refine JL_nil ?_
        refine K_againL (σ := Nat × Value) (s := (i, vo)) (i + 1, vo) (by first | omega | (dsimp only; omega) | (simp_all; omega)) hlt (SubE.upd Sub.rfl (SubE.upd Sub.rfl (SubE.upd Sub.rfl (SubE.upd Sub.rfl (SubE.upd Sub.rfl (SubE.upd Sub.rfl (SubE.upd Sub.rfl (SubE.upd Sub.rfl (SubE.upd Sub.rfl SubE.any))))))))) (LSub.cons (by first | exact Sel.take (Sel.none _) | exact Sel.skip (Sel.take (Sel.none _)) | exact Sel.skip (Sel.skip (Sel.take (Sel.none _))) | exact Sel.skip (Sel.skip (Sel.skip (Sel.take (Sel.none _)))) | exact Sel.skip (Sel.skip (Sel.skip (Sel.skip (Sel.take (Sel.none _)))))) (SPs.of (by rw [selP_f hlt hsel])) (LSub.nil))
    · try simp only [decide_eq_true_eq, decide_eq_false_iff_not, Bool.and_eq_true, Bool.or_eq_true, Bool.and_eq_false_iff, Bool.or_eq_false_iff, Bool.not_eq_true', Bool.not_eq_false', Int.not_lt, Int.not_le, Bool.not_true, Bool.not_false] at h36
      refine J_exit ?_
      refine J_seq ?_
      refine K_freeze (t := 11) (A' := tSl rInt (one.filter (selP q facts))) (Sel.take (Sel.none _)) (Frz.own' (by rw [List.take_of_length_le (by omega)])) ?_
      refine J_draw [⟨0, [9], true⟩, ⟨1, [78], true⟩, ⟨2, [10, 79], true⟩, ⟨3, [79, 80], true⟩, ⟨4, [79, 81], true⟩, ⟨5, [4, 82], true⟩, ⟨6, [1, 82], true⟩, ⟨8, [2, 82], true⟩, ⟨10, [3, 82], true⟩, ⟨7, [82], false⟩, ⟨9, [82, 85, 86], false⟩, ⟨11, [82, 87, 88], false⟩, ⟨12, [82, 83, 84, 89], false⟩, ⟨13, [79, 82, 90], true⟩, ⟨14, [79, 91], true⟩, ⟨15, [92], true⟩, ⟨16, [4, 93], true⟩, ⟨17, [1, 93], true⟩, ⟨18, [11, 93], true⟩, ⟨19, [93, 94, 95, 96], true⟩, ⟨20, [10, 93], true⟩, ⟨21, [93, 97, 98], true⟩, ⟨22, [93, 99], true⟩, ⟨23, [100], true⟩] rfl (by kernel_rfl) ?_
      refine JM_step rfl rfl rfl rfl (fun _ => step_move Sub.rfl) ?_
      refine JM_step rfl rfl rfl rfl (fun _ => step_move Sub.rfl) ?_
      refine JM_stepG rfl rfl rfl rfl (Gd.plain Sub.rfl) rfl rfl (fun hw _ => step_move Sub.rfl) ?_
      refine JM_stepG rfl rfl rfl rfl (Gd.plain Sub.rfl) rfl rfl (fun hw _ => step_not (Sub.w hw)) ?_
      refine JM_stepG rfl rfl rfl rfl (Gd.plain Sub.rfl) rfl rfl (fun hw _ => step_move (Sub.w hw)) ?_
      refine JM_stepG rfl rfl rfl rfl (Gd.cast (u := true) (by show (beqB true true && beqB (!holdsM q facts one) false) = true; rw [hA]; rfl) (Gd.nest Sub.rfl)) rfl rfl (fun hw _ => step_load_ptr ty25 Sub.rfl) ?_
      refine JM_stepG rfl rfl rfl rfl (Gd.cast (u := true) (by show (beqB true true && beqB (!holdsM q facts one) false) = true; rw [hA]; rfl) (Gd.nest Sub.rfl)) rfl rfl (fun hw _ => step_move Sub.rfl) ?_
      refine JM_stepG rfl rfl rfl rfl (Gd.cast (u := true) (by show (beqB true true && beqB (!holdsM q facts one) false) = true; rw [hA]; rfl) (Gd.nest Sub.rfl)) rfl rfl (fun hw _ => step_move Sub.rfl) ?_
      refine JM_stepG rfl rfl rfl rfl (Gd.cast (u := true) (by show (beqB true true && beqB (!holdsM q facts one) false) = true; rw [hA]; rfl) (Gd.nest Sub.rfl)) rfl rfl (fun hw _ => step_move Sub.rfl) ?_
      refine JM_stepXG rfl rfl rfl rfl (Gd.cast (by show (beqB true true && beqB (!holdsM q facts one) false) = true; rw [hA]; rfl) (Gd.nest Sub.rfl)) rfl rfl (step_literal_own (ys := []) Tryz.underlying27 el3 trivial rfl (by decide)) fun u85 => ?_
      refine JM_stepXG rfl rfl rfl rfl (Gd.cast (by show (beqB true true && beqB (!holdsM q facts one) false) = true; rw [hA]; rfl) (Gd.nest Sub.rfl)) rfl rfl (step_append Tryz.underlying27 el3 Sub.rfl (Sub.w rfl) (by first | exact Sel.take (Sel.none _) | exact Sel.skip (Sel.take (Sel.none _)) | exact Sel.skip (Sel.skip (Sel.take (Sel.none _))) | exact Sel.skip (Sel.skip (Sel.skip (Sel.take (Sel.none _)))) | exact Sel.skip (Sel.skip (Sel.skip (Sel.skip (Sel.take (Sel.none _)))))) (by simp; omega) (by simp; omega)) fun u87 => ?_
      refine JM_stepXG rfl rfl rfl rfl (Gd.cast (by show (beqB true true && beqB (!holdsM q facts one) false) = true; rw [hA]; rfl) (Gd.nest Sub.rfl)) rfl rfl (step_append Tryz.underlying27 el3 Sub.rfl (Sub.w rfl) (by first | exact Sel.take (Sel.none _) | exact Sel.skip (Sel.take (Sel.none _)) | exact Sel.skip (Sel.skip (Sel.take (Sel.none _))) | exact Sel.skip (Sel.skip (Sel.skip (Sel.take (Sel.none _)))) | exact Sel.skip (Sel.skip (Sel.skip (Sel.skip (Sel.take (Sel.none _)))))) (by simp; omega) (by simp; omega)) fun u89 => ?_
      refine JM_lookG rfl rfl rfl rfl (Gd.cast (u := true) (by show (beqB true true && beqB (!holdsM q facts one) false) = true; rw [hA]; rfl) (Gd.nest Sub.rfl)) rfl rfl (fun hw => step_call_look (Sel.take (Sel.none _)) (Holds_spec q facts (one ++ two) (by omega) (by rw [List.length_append]; omega)) (fun _ => Flat.v _) ⟨(Frz.sub (Sub.w hw)), (Frz.sub (Sub.w hw)), (Frz.own), trivial⟩ Tryz.call18) ?_
      refine JM_stepG rfl rfl rfl rfl (Gd.plain Sub.rfl) rfl rfl (fun hw _ => step_pick_or (Sub.w hw) (Sub.wt (by show beqB (!holdsM q facts one) false = true; rw [hA]; rfl))) ?_
      refine JM_step rfl rfl rfl rfl (fun _ => step_pick_and Sub.rfl Sub.rfl) ?_
      refine JM_step rfl rfl rfl rfl (fun _ => step_move Sub.rfl) ?_
      refine JM_stepG rfl rfl rfl rfl (Gd.plain Sub.rfl) rfl rfl (fun hw _ => step_load_ptr ty25 Sub.rfl) ?_
      refine JM_stepG rfl rfl rfl rfl (Gd.plain Sub.rfl) rfl rfl (fun hw _ => step_move Sub.rfl) ?_
      refine JM_stepG rfl rfl rfl rfl (Gd.plain Sub.rfl) rfl rfl (fun hw _ => step_move Sub.rfl) ?_
      refine JM_stepG rfl rfl rfl rfl (Gd.plain Sub.rfl) rfl rfl (fun hw _ => step_call0 (Holds_spec q facts (one.filter (selP q facts)) (by omega) (by have := List.length_filter_le (selP q facts) one; omega)) ⟨(Sub.w hw), (Sub.w hw), (Sub.w hw), trivial⟩ Tryz.call18) ?_
      refine JM_stepG rfl rfl rfl rfl (Gd.plain Sub.rfl) rfl rfl (fun hw _ => step_move Sub.rfl) ?_
      refine JM_stepG rfl rfl rfl rfl (Gd.plain Sub.rfl) rfl rfl (fun hw _ => step_eql_bool Tryz.underlying4 (Sub.w hw) (Sub.w hw)) ?_
      refine JM_step rfl rfl rfl rfl (fun _ => step_pick_and Sub.rfl Sub.rfl) ?_
      refine JM_step rfl rfl rfl rfl (fun _ => step_assign Sub.rfl) ?_
      refine JM_nil ?_
      refine J_ret ?_
      refine K_drop (Sel.all _) ?_
      refine K_ret1 (t := 8) rfl () ?_
      refine Sub.bool ?_
      have h1 : holdsM q facts ((one.filter (selP q facts))) = true := by rw [holds_sel]; exact hA
      have h2 : holdsM q facts (one ++ two) = true := holds_mono (fun x hx => List.mem_append_left _ hx) hA
      show (true && (!holdsM q facts one || holdsM q facts (one ++ two)) && decide (holdsM q facts (one.filter (selP q facts)) = holdsM q facts one)) = true
      rw [h1, h2, hA]; rfl
set_option maxHeartbeats 4000000 in
theorem Grows_f_spec (q : GConj) (facts : List GFact) (one two : List Int) (hq : q.Atoms.length ≤ 9223372036854775807) (hA : holdsM q facts one = false) : Fun1 Tryz.prog 9 [rConj.ty q, tSl rFact facts, tSl rInt one, tSl rInt two] (tV (.bool true)) := by
  refine Spec.enter Tryz.func9 rfl rfl fun h0 w0 fr0 => ?_
  refine J_seq ?_
  refine J_region ?_
  refine JL_step rfl rfl rfl (step_box (R := rConj) Sub.rfl) ?_
  refine JL_step rfl rfl rfl (step_assign Sub.rfl) ?_
  refine JL_nil ?_
  refine J_seq ?_
  refine J_region ?_
  refine JL_step rfl rfl rfl (step_call0 (head_spec) trivial Tryz.call11) ?_
  refine JL_step rfl rfl rfl (step_assign Sub.rfl) ?_
  refine JL_nil ?_
  refine J_seq ?_
  refine J_seq ?_
  refine J_region ?_
  refine JL_step rfl rfl rfl (step_load_ptr ty25 Sub.rfl) ?_
  refine JL_step rfl rfl rfl (step_move Sub.rfl) ?_
  refine JL_step rfl rfl rfl (step_call0 (Small_spec q facts 12 (by omega) hq) ⟨Sub.rfl, Sub.rfl, Sub.rfl, trivial⟩ Tryz.call12) ?_
  refine JL_step rfl rfl rfl (step_not Sub.rfl) ?_
  refine JL_step rfl rfl rfl (step_move Sub.rfl) ?_
  refine JL_stepG rfl rfl rfl (Gd.plain Sub.rfl) rfl rfl (fun hw => step_move Sub.rfl) ?_
  refine JL_stepG rfl rfl rfl (Gd.plain Sub.rfl) rfl rfl (fun hw => step_len_sl Tryz.underlying27 (Sub.w hw)) ?_
  refine JL_stepG rfl rfl rfl (Gd.plain Sub.rfl) rfl rfl (fun hw => step_gtr (Sub.w hw) Sub.rfl) ?_
  refine JL_step rfl rfl rfl (step_pick_or Sub.rfl Sub.rfl) ?_
  refine JL_step rfl rfl rfl (step_move Sub.rfl) ?_
  refine JL_stepG rfl rfl rfl (Gd.plain Sub.rfl) rfl rfl (fun hw => step_move Sub.rfl) ?_
  refine JL_stepG rfl rfl rfl (Gd.plain Sub.rfl) rfl rfl (fun hw => step_len_sl Tryz.underlying27 (Sub.w hw)) ?_
  refine JL_stepG rfl rfl rfl (Gd.plain Sub.rfl) rfl rfl (fun hw => step_gtr (Sub.w hw) Sub.rfl) ?_
  refine JL_step rfl rfl rfl (step_pick_or Sub.rfl Sub.rfl) ?_
  refine JL_nil ?_
  refine J_cond Sub.rfl (fun h27 => ?_) (fun h27 => ?_)
  · try simp only [decide_eq_true_eq, decide_eq_false_iff_not, Bool.and_eq_true, Bool.or_eq_true, Bool.and_eq_false_iff, Bool.or_eq_false_iff, Bool.not_eq_true', Bool.not_eq_false', Int.not_lt, Int.not_le, Bool.not_true, Bool.not_false] at h27
    refine J_seq ?_
    refine J_region ?_
    refine JL_step rfl rfl rfl (step_move Sub.rfl) ?_
    refine JL_step rfl rfl rfl (step_assign Sub.rfl) ?_
    refine JL_nil ?_
    refine J_ret ?_
    refine K_ret1 (t := 8) rfl () Sub.rfl
  · try simp only [decide_eq_true_eq, decide_eq_false_iff_not, Bool.and_eq_true, Bool.or_eq_true, Bool.and_eq_false_iff, Bool.or_eq_false_iff, Bool.not_eq_true', Bool.not_eq_false', Int.not_lt, Int.not_le, Bool.not_true, Bool.not_false] at h27
    obtain ⟨⟨hsm, h20⟩, h21⟩ := h27
    have hsa := small_atoms hsm
    have hsb := small_bd hsm
    refine J_skip ?_
    refine J_seq ?_
    refine J_region ?_
    refine JL_step rfl rfl rfl (step_load_ptr ty25 Sub.rfl) ?_
    refine JL_step rfl rfl rfl (step_move Sub.rfl) ?_
    refine JL_step rfl rfl rfl (step_move Sub.rfl) ?_
    refine JL_step rfl rfl rfl (step_call0 (Holds_spec q facts one (by omega) (by omega)) ⟨Sub.rfl, Sub.rfl, Sub.rfl, trivial⟩ Tryz.call18) ?_
    refine JL_step rfl rfl rfl (step_assign Sub.rfl) ?_
    refine JL_nil ?_
    refine J_seq ?_
    refine J_region ?_
    refine JL_step rfl rfl rfl (step_assign Sub.rfl) ?_
    refine JL_nil ?_
    refine J_seq ?_
    refine J_seq ?_
    refine J_region ?_
    refine JL_step rfl rfl rfl (step_assign Sub.rfl) ?_
    refine JL_nil ?_
    refine J_block ?_
    refine J_loopL (σ := Nat × Value) (fun ⟨i, vo⟩ => i ≤ one.length) (fun ⟨i, vo⟩ => upd (upd (upd (upd (upd (upd (upd (upd (upd env0 1 (tSl rFact facts)) 2 (tSl rInt one)) 3 (tSl rInt two)) 4 (tPtr rConj q)) 8 (tV (.bool false))) 9 (tV (.bool true))) 10 (tV (.bool (holdsM q facts one)))) 11 (rV.ty vo)) 12 (tV (.int .i64 i))) (fun ⟨i, vo⟩ => [own 3 rInt vo ((one.take i).filter (selP q facts))]) (fun ⟨i, vo⟩ => one.length - i) (0, .slice none 0 0) (Nat.zero_le _) (SubE.upd Sub.rfl (SubE.upd (Sub.rV rfl) (SubE.upd Sub.rfl (SubE.upd Sub.rfl (SubE.upd Sub.rfl (SubE.upd Sub.rfl (SubE.upd Sub.rfl (SubE.upd Sub.rfl (SubE.upd Sub.rfl SubE.any))))))))) (LSub.nilown) ?_
    rintro ⟨i, vo⟩ hi
    try dsimp only at hi
    refine J_seq ?_
    refine J_seq ?_
    refine J_region ?_
    refine JL_step rfl rfl rfl (step_move Sub.rfl) ?_
    refine JL_step rfl rfl rfl (step_move Sub.rfl) ?_
    refine JL_step rfl rfl rfl (step_len_sl Tryz.underlying27 Sub.rfl) ?_
    refine JL_step rfl rfl rfl (step_lss Sub.rfl Sub.rfl) ?_
    refine JL_nil ?_
    refine J_cond Sub.rfl (fun h36 => ?_) (fun h36 => ?_)
    · try simp only [decide_eq_true_eq, decide_eq_false_iff_not, Bool.and_eq_true, Bool.or_eq_true, Bool.and_eq_false_iff, Bool.or_eq_false_iff, Bool.not_eq_true', Bool.not_eq_false', Int.not_lt, Int.not_le, Bool.not_true, Bool.not_false] at h36
      have hlt : i < one.length := by omega
      have hfl := List.length_filter_le (selP q facts) (one.take i)
      have htl := List.length_take_le i one
      refine J_skip ?_
      refine J_seq ?_
      refine J_block ?_
      refine J_seq ?_
      refine J_draw [⟨0, [2], true⟩, ⟨1, [12], true⟩, ⟨2, [39, 40], true⟩, ⟨3, [41], true⟩, ⟨4, [42], true⟩, ⟨5, [43], true⟩, ⟨6, [2, 44], true⟩, ⟨7, [12, 44], true⟩, ⟨8, [44, 45, 46], true⟩, ⟨9, [44, 47], true⟩, ⟨10, [1, 44], true⟩, ⟨11, [44, 49], true⟩, ⟨12, [44, 48, 50], true⟩, ⟨13, [44, 51], true⟩, ⟨14, [52], true⟩, ⟨15, [4, 53], true⟩, ⟨16, [1, 53], true⟩, ⟨17, [2, 53], true⟩, ⟨18, [12, 53], true⟩, ⟨19, [53, 56, 57], true⟩, ⟨20, [53, 58], true⟩, ⟨21, [53, 55, 59], true⟩, ⟨22, [53, 60], true⟩, ⟨23, [1, 53], true⟩, ⟨24, [2, 53], true⟩, ⟨25, [12, 53], true⟩, ⟨26, [53, 63, 64], true⟩, ⟨27, [53, 65], true⟩, ⟨28, [53, 62, 66], true⟩, ⟨29, [53, 67], true⟩, ⟨30, [53, 54, 61, 68], true⟩, ⟨31, [53, 69], true⟩] rfl (by kernel_rfl) ?_
      refine JM_step rfl rfl rfl rfl (fun _ => step_move Sub.rfl) ?_
      refine JM_step rfl rfl rfl rfl (fun _ => step_move Sub.rfl) ?_
      refine JM_step rfl rfl rfl rfl (fun _ => step_indexAddr_sl  Tryz.underlying27 ty3 Sub.rfl Sub.rfl rfl (gb ?sg1)) ?_
      case sg1 => exact hlt
      refine JM_step rfl rfl rfl rfl (fun _ => step_load_ptr ty3 Sub.rfl) ?_
      refine JM_step rfl rfl rfl rfl (fun _ => step_geq Sub.rfl Sub.rfl) ?_
      refine JM_step rfl rfl rfl rfl (fun _ => step_move Sub.rfl) ?_
      refine JM_stepG rfl rfl rfl rfl (Gd.plain Sub.rfl) rfl rfl (fun hw _ => step_move Sub.rfl) ?_
      refine JM_stepG rfl rfl rfl rfl (Gd.plain Sub.rfl) rfl rfl (fun hw _ => step_move Sub.rfl) ?_
      refine JM_stepG rfl rfl rfl rfl (Gd.plain Sub.rfl) rfl rfl (fun hw _ => step_indexAddr_sl (i := i) Tryz.underlying27 ty3 (Sub.w hw) (Sub.w hw) ?sg1 (gb ?sg2)) ?_
      case sg1 => have hwq := hw; (try simp only [beqB_t, beqB_f, decide_eq_true_eq, decide_eq_false_iff_not, Bool.and_eq_true, Bool.or_eq_true, Bool.and_eq_false_iff, Bool.or_eq_false_iff, Bool.not_eq_true', Bool.not_eq_false', Int.not_lt, Int.not_le, Bool.not_true, Bool.not_false] at hwq); rfl
      case sg2 => have hwq := hw; (try simp only [beqB_t, beqB_f, decide_eq_true_eq, decide_eq_false_iff_not, Bool.and_eq_true, Bool.or_eq_true, Bool.and_eq_false_iff, Bool.or_eq_false_iff, Bool.not_eq_true', Bool.not_eq_false', Int.not_lt, Int.not_le, Bool.not_true, Bool.not_false] at hwq); exact hlt
      refine JM_stepG rfl rfl rfl rfl (Gd.plain Sub.rfl) rfl rfl (fun hw _ => step_load_ptr ty3 (Sub.w hw)) ?_
      refine JM_stepG rfl rfl rfl rfl (Gd.plain Sub.rfl) rfl rfl (fun hw _ => step_move Sub.rfl) ?_
      refine JM_stepG rfl rfl rfl rfl (Gd.plain Sub.rfl) rfl rfl (fun hw _ => step_len_sl Tryz.underlying26 (Sub.w hw)) ?_
      refine JM_stepG rfl rfl rfl rfl (Gd.plain Sub.rfl) rfl rfl (fun hw _ => step_lss (Sub.w hw) (Sub.w hw)) ?_
      refine JM_step rfl rfl rfl rfl (fun _ => step_pick_and Sub.rfl Sub.rfl) ?_
      refine JM_step rfl rfl rfl rfl (fun _ => step_move Sub.rfl) ?_
      refine JM_stepG rfl rfl rfl rfl (Gd.plain Sub.rfl) rfl rfl (fun hw _ => step_load_ptr ty25 Sub.rfl) ?_
      refine JM_stepG rfl rfl rfl rfl (Gd.plain Sub.rfl) rfl rfl (fun hw _ => step_move Sub.rfl) ?_
      refine JM_stepG rfl rfl rfl rfl (Gd.plain Sub.rfl) rfl rfl (fun hw _ => step_move Sub.rfl) ?_
      refine JM_stepG rfl rfl rfl rfl (Gd.plain Sub.rfl) rfl rfl (fun hw _ => step_move Sub.rfl) ?_
      refine JM_stepG rfl rfl rfl rfl (Gd.plain Sub.rfl) rfl rfl (fun hw _ => step_indexAddr_sl (i := i) Tryz.underlying27 ty3 (Sub.w hw) (Sub.w hw) ?sg1 (gb ?sg2)) ?_
      case sg1 => have hwq := hw; (try simp only [beqB_t, beqB_f, decide_eq_true_eq, decide_eq_false_iff_not, Bool.and_eq_true, Bool.or_eq_true, Bool.and_eq_false_iff, Bool.or_eq_false_iff, Bool.not_eq_true', Bool.not_eq_false', Int.not_lt, Int.not_le, Bool.not_true, Bool.not_false] at hwq); rfl
      case sg2 => have hwq := hw; (try simp only [beqB_t, beqB_f, decide_eq_true_eq, decide_eq_false_iff_not, Bool.and_eq_true, Bool.or_eq_true, Bool.and_eq_false_iff, Bool.or_eq_false_iff, Bool.not_eq_true', Bool.not_eq_false', Int.not_lt, Int.not_le, Bool.not_true, Bool.not_false] at hwq); exact hlt
      refine JM_stepG rfl rfl rfl rfl (Gd.plain Sub.rfl) rfl rfl (fun hw _ => step_load_ptr ty3 (Sub.w hw)) ?_
      refine JM_stepG rfl rfl rfl rfl (Gd.plain Sub.rfl) rfl rfl (fun hw _ => step_indexAddr_sl (i := (nth one i).toNat) Tryz.underlying26 ty45 (Sub.w hw) (Sub.w hw) ?sg1 (gb ?sg2)) ?_
      case sg1 => have hwq := hw; (try simp only [beqB_t, beqB_f, decide_eq_true_eq, decide_eq_false_iff_not, Bool.and_eq_true, Bool.or_eq_true, Bool.and_eq_false_iff, Bool.or_eq_false_iff, Bool.not_eq_true', Bool.not_eq_false', Int.not_lt, Int.not_le, Bool.not_true, Bool.not_false] at hwq); omega
      case sg2 => have hwq := hw; (try simp only [beqB_t, beqB_f, decide_eq_true_eq, decide_eq_false_iff_not, Bool.and_eq_true, Bool.or_eq_true, Bool.and_eq_false_iff, Bool.or_eq_false_iff, Bool.not_eq_true', Bool.not_eq_false', Int.not_lt, Int.not_le, Bool.not_true, Bool.not_false] at hwq); omega
      refine JM_stepG rfl rfl rfl rfl (Gd.plain Sub.rfl) rfl rfl (fun hw _ => step_load_ptr ty45 (Sub.w hw)) ?_
      refine JM_stepG rfl rfl rfl rfl (Gd.plain Sub.rfl) rfl rfl (fun hw _ => step_move Sub.rfl) ?_
      refine JM_stepG rfl rfl rfl rfl (Gd.plain Sub.rfl) rfl rfl (fun hw _ => step_move Sub.rfl) ?_
      refine JM_stepG rfl rfl rfl rfl (Gd.plain Sub.rfl) rfl rfl (fun hw _ => step_move Sub.rfl) ?_
      refine JM_stepG rfl rfl rfl rfl (Gd.plain Sub.rfl) rfl rfl (fun hw _ => step_indexAddr_sl (i := i) Tryz.underlying27 ty3 (Sub.w hw) (Sub.w hw) ?sg1 (gb ?sg2)) ?_
      case sg1 => have hwq := hw; (try simp only [beqB_t, beqB_f, decide_eq_true_eq, decide_eq_false_iff_not, Bool.and_eq_true, Bool.or_eq_true, Bool.and_eq_false_iff, Bool.or_eq_false_iff, Bool.not_eq_true', Bool.not_eq_false', Int.not_lt, Int.not_le, Bool.not_true, Bool.not_false] at hwq); rfl
      case sg2 => have hwq := hw; (try simp only [beqB_t, beqB_f, decide_eq_true_eq, decide_eq_false_iff_not, Bool.and_eq_true, Bool.or_eq_true, Bool.and_eq_false_iff, Bool.or_eq_false_iff, Bool.not_eq_true', Bool.not_eq_false', Int.not_lt, Int.not_le, Bool.not_true, Bool.not_false] at hwq); exact hlt
      refine JM_stepG rfl rfl rfl rfl (Gd.plain Sub.rfl) rfl rfl (fun hw _ => step_load_ptr ty3 (Sub.w hw)) ?_
      refine JM_stepG rfl rfl rfl rfl (Gd.plain Sub.rfl) rfl rfl (fun hw _ => step_indexAddr_sl (i := (nth one i).toNat) Tryz.underlying26 ty45 (Sub.w hw) (Sub.w hw) ?sg1 (gb ?sg2)) ?_
      case sg1 => have hwq := hw; (try simp only [beqB_t, beqB_f, decide_eq_true_eq, decide_eq_false_iff_not, Bool.and_eq_true, Bool.or_eq_true, Bool.and_eq_false_iff, Bool.or_eq_false_iff, Bool.not_eq_true', Bool.not_eq_false', Int.not_lt, Int.not_le, Bool.not_true, Bool.not_false] at hwq); omega
      case sg2 => have hwq := hw; (try simp only [beqB_t, beqB_f, decide_eq_true_eq, decide_eq_false_iff_not, Bool.and_eq_true, Bool.or_eq_true, Bool.and_eq_false_iff, Bool.or_eq_false_iff, Bool.not_eq_true', Bool.not_eq_false', Int.not_lt, Int.not_le, Bool.not_true, Bool.not_false] at hwq); omega
      refine JM_stepG rfl rfl rfl rfl (Gd.plain Sub.rfl) rfl rfl (fun hw _ => step_load_ptr ty45 (Sub.w hw)) ?_
      refine JM_stepG rfl rfl rfl rfl (Gd.plain Sub.rfl) rfl rfl (fun hw _ => step_call0 (same_spec q (nth facts (nth one i).toNat) (nth facts (nth one i).toNat) hsa.1 hsa.2) ⟨(Sub.w hw), (Sub.w hw), (Sub.w hw), trivial⟩ Tryz.call22) ?_
      refine JM_step rfl rfl rfl rfl (fun _ => step_pick_and Sub.rfl Sub.rfl) ?_
      refine JM_nil ?_
      refine J_cond Sub.rfl (fun h70 => ?_) (fun h70 => ?_)
      · try simp only [decide_eq_true_eq, decide_eq_false_iff_not, Bool.and_eq_true, Bool.or_eq_true, Bool.and_eq_false_iff, Bool.or_eq_false_iff, Bool.not_eq_true', Bool.not_eq_false', Int.not_lt, Int.not_le, Bool.not_true, Bool.not_false] at h70
        have hsel : selP q facts (nth one i) = true := by unfold selP; simp only [Bool.and_eq_true, decide_eq_true_eq]; exact h70
        refine J_region ?_
        refine JL_step rfl rfl rfl (step_move Sub.rfl) ?_
        refine JL_step rfl rfl rfl (step_move Sub.rfl) ?_
        refine JL_step rfl rfl rfl (step_move Sub.rfl) ?_
        refine JL_step rfl rfl rfl (step_indexAddr_sl  Tryz.underlying27 ty3 Sub.rfl Sub.rfl rfl (gb ?sg1)) ?_
        case sg1 => exact hlt
        refine JL_step rfl rfl rfl (step_load_ptr ty3 Sub.rfl) ?_
        refine JL_step rfl rfl rfl (step_literal (ys := [_]) Tryz.underlying27 el3 ⟨rfl, Sub.rfl, trivial⟩ rfl (by decide)) ?_
        refine JL_stepX rfl rfl rfl (step_append Tryz.underlying27 el3 Sub.rfl Sub.rfl (by first | exact Sel.take (Sel.none _) | exact Sel.skip (Sel.take (Sel.none _)) | exact Sel.skip (Sel.skip (Sel.take (Sel.none _))) | exact Sel.skip (Sel.skip (Sel.skip (Sel.take (Sel.none _)))) | exact Sel.skip (Sel.skip (Sel.skip (Sel.skip (Sel.take (Sel.none _)))))) (by simp; omega) (by simp; omega)) fun u77 => ?_
        refine JL_step rfl rfl rfl (step_assign Sub.rfl) ?_
        refine JL_nil ?_
        refine J_region ?_
        refine JL_step rfl rfl rfl (step_move Sub.rfl) ?_
        refine JL_step rfl rfl rfl (step_add Sub.rfl Sub.rfl ?sg1) ?_
        case sg1 => unfold in64; omega
        refine JL_step rfl rfl rfl (step_assign Sub.rfl) ?_
        refine JL_nil ?_
        refine K_againL (σ := Nat × Value) (s := (i, vo)) (i + 1, u77) (by first | omega | (dsimp only; omega) | (simp_all; omega)) hlt (SubE.upd Sub.rfl (SubE.upd Sub.rfl (SubE.upd Sub.rfl (SubE.upd Sub.rfl (SubE.upd Sub.rfl (SubE.upd Sub.rfl (SubE.upd Sub.rfl (SubE.upd Sub.rfl (SubE.upd Sub.rfl SubE.any))))))))) (LSub.cons (by first | exact Sel.take (Sel.none _) | exact Sel.skip (Sel.take (Sel.none _)) | exact Sel.skip (Sel.skip (Sel.take (Sel.none _))) | exact Sel.skip (Sel.skip (Sel.skip (Sel.take (Sel.none _)))) | exact Sel.skip (Sel.skip (Sel.skip (Sel.skip (Sel.take (Sel.none _)))))) (SPs.of (by rw [selP_t hlt hsel])) (LSub.nil))
      · try simp only [decide_eq_true_eq, decide_eq_false_iff_not, Bool.and_eq_true, Bool.or_eq_true, Bool.and_eq_false_iff, Bool.or_eq_false_iff, Bool.not_eq_true', Bool.not_eq_false', Int.not_lt, Int.not_le, Bool.not_true, Bool.not_false] at h70
        have hsel : selP q facts (nth one i) = false := sel_no h70
        refine J_skip ?_
        refine J_region ?_
        refine JL_step rfl rfl rfl (step_move Sub.rfl) ?_
        refine JL_step rfl rfl rfl (step_add Sub.rfl Sub.rfl ?sg1) ?_
        case sg1 => unfold in64; omega
        refine JL_step rfl rfl rfl (step_assign Sub.rfl) ?_
        refine JL_nil ?_
        refine K_againL (σ := Nat × Value) (s := (i, vo)) (i + 1, vo) (by first | omega | (dsimp only; omega) | (simp_all; omega)) hlt (SubE.upd Sub.rfl (SubE.upd Sub.rfl (SubE.upd Sub.rfl (SubE.upd Sub.rfl (SubE.upd Sub.rfl (SubE.upd Sub.rfl (SubE.upd Sub.rfl (SubE.upd Sub.rfl (SubE.upd Sub.rfl SubE.any))))))))) (LSub.cons (by first | exact Sel.take (Sel.none _) | exact Sel.skip (Sel.take (Sel.none _)) | exact Sel.skip (Sel.skip (Sel.take (Sel.none _))) | exact Sel.skip (Sel.skip (Sel.skip (Sel.take (Sel.none _)))) | exact Sel.skip (Sel.skip (Sel.skip (Sel.skip (Sel.take (Sel.none _)))))) (SPs.of (by rw [selP_f hlt hsel])) (LSub.nil))
    · try simp only [decide_eq_true_eq, decide_eq_false_iff_not, Bool.and_eq_true, Bool.or_eq_true, Bool.and_eq_false_iff, Bool.or_eq_false_iff, Bool.not_eq_true', Bool.not_eq_false', Int.not_lt, Int.not_le, Bool.not_true, Bool.not_false] at h36
      refine J_exit ?_
      refine J_seq ?_
      refine K_freeze (t := 11) (A' := tSl rInt (one.filter (selP q facts))) (Sel.take (Sel.none _)) (Frz.own' (by rw [List.take_of_length_le (by omega)])) ?_
      refine J_draw [⟨0, [9], true⟩, ⟨1, [78], true⟩, ⟨2, [10, 79], true⟩, ⟨3, [79, 80], true⟩, ⟨4, [79, 81], true⟩, ⟨5, [4, 82], true⟩, ⟨6, [1, 82], true⟩, ⟨7, [82], true⟩, ⟨8, [2, 82], true⟩, ⟨9, [82, 85, 86], true⟩, ⟨10, [3, 82], true⟩, ⟨11, [82, 87, 88], true⟩, ⟨12, [82, 83, 84, 89], true⟩, ⟨13, [79, 82, 90], true⟩, ⟨14, [79, 91], true⟩, ⟨15, [92], true⟩, ⟨16, [4, 93], true⟩, ⟨17, [1, 93], true⟩, ⟨18, [11, 93], true⟩, ⟨19, [93, 94, 95, 96], true⟩, ⟨20, [10, 93], true⟩, ⟨21, [93, 97, 98], true⟩, ⟨22, [93, 99], true⟩, ⟨23, [100], true⟩] rfl (by kernel_rfl) ?_
      refine JM_step rfl rfl rfl rfl (fun _ => step_move Sub.rfl) ?_
      refine JM_step rfl rfl rfl rfl (fun _ => step_move Sub.rfl) ?_
      refine JM_stepG rfl rfl rfl rfl (Gd.plain Sub.rfl) rfl rfl (fun hw _ => step_move Sub.rfl) ?_
      refine JM_stepG rfl rfl rfl rfl (Gd.plain Sub.rfl) rfl rfl (fun hw _ => step_not (Sub.w hw)) ?_
      refine JM_stepG rfl rfl rfl rfl (Gd.plain Sub.rfl) rfl rfl (fun hw _ => step_move (Sub.w hw)) ?_
      refine JM_stepG (w := false) (B := tAny) rfl rfl rfl rfl (Gd.cast (by show (beqB true true && beqB (!holdsM q facts one) false) = false; rw [hA]; rfl) (Gd.nest Sub.rfl)) rfl rfl (fun hw _ => by cases hw) ?_
      refine JM_stepG (w := false) (B := tAny) rfl rfl rfl rfl (Gd.cast (by show (beqB true true && beqB (!holdsM q facts one) false) = false; rw [hA]; rfl) (Gd.nest Sub.rfl)) rfl rfl (fun hw _ => by cases hw) ?_
      refine JM_stepG (w := false) (B := tAny) rfl rfl rfl rfl (Gd.cast (by show (beqB true true && beqB (!holdsM q facts one) false) = false; rw [hA]; rfl) (Gd.nest Sub.rfl)) rfl rfl (fun hw _ => by cases hw) ?_
      refine JM_stepG (w := false) (B := tAny) rfl rfl rfl rfl (Gd.cast (by show (beqB true true && beqB (!holdsM q facts one) false) = false; rw [hA]; rfl) (Gd.nest Sub.rfl)) rfl rfl (fun hw _ => by cases hw) ?_
      refine JM_stepG (w := false) (B := tAny) rfl rfl rfl rfl (Gd.cast (by show (beqB true true && beqB (!holdsM q facts one) false) = false; rw [hA]; rfl) (Gd.nest Sub.rfl)) rfl rfl (fun hw _ => by cases hw) ?_
      refine JM_stepG (w := false) (B := tAny) rfl rfl rfl rfl (Gd.cast (by show (beqB true true && beqB (!holdsM q facts one) false) = false; rw [hA]; rfl) (Gd.nest Sub.rfl)) rfl rfl (fun hw _ => by cases hw) ?_
      refine JM_stepG (w := false) (B := tAny) rfl rfl rfl rfl (Gd.cast (by show (beqB true true && beqB (!holdsM q facts one) false) = false; rw [hA]; rfl) (Gd.nest Sub.rfl)) rfl rfl (fun hw _ => by cases hw) ?_
      refine JM_stepG (w := false) (B := tAny) rfl rfl rfl rfl (Gd.cast (by show (beqB true true && beqB (!holdsM q facts one) false) = false; rw [hA]; rfl) (Gd.nest Sub.rfl)) rfl rfl (fun hw _ => by cases hw) ?_
      refine JM_stepG rfl rfl rfl rfl (Gd.plain Sub.rfl) rfl rfl (fun hw _ => step_pick_or (Sub.w hw) (Sub.wf (A := tV (.bool false)) (by show beqB (!holdsM q facts one) false = false; rw [hA]; rfl))) ?_
      refine JM_step rfl rfl rfl rfl (fun _ => step_pick_and Sub.rfl Sub.rfl) ?_
      refine JM_step rfl rfl rfl rfl (fun _ => step_move Sub.rfl) ?_
      refine JM_stepG rfl rfl rfl rfl (Gd.plain Sub.rfl) rfl rfl (fun hw _ => step_load_ptr ty25 Sub.rfl) ?_
      refine JM_stepG rfl rfl rfl rfl (Gd.plain Sub.rfl) rfl rfl (fun hw _ => step_move Sub.rfl) ?_
      refine JM_stepG rfl rfl rfl rfl (Gd.plain Sub.rfl) rfl rfl (fun hw _ => step_move Sub.rfl) ?_
      refine JM_stepG rfl rfl rfl rfl (Gd.plain Sub.rfl) rfl rfl (fun hw _ => step_call0 (Holds_spec q facts (one.filter (selP q facts)) (by omega) (by have := List.length_filter_le (selP q facts) one; omega)) ⟨(Sub.w hw), (Sub.w hw), (Sub.w hw), trivial⟩ Tryz.call18) ?_
      refine JM_stepG rfl rfl rfl rfl (Gd.plain Sub.rfl) rfl rfl (fun hw _ => step_move Sub.rfl) ?_
      refine JM_stepG rfl rfl rfl rfl (Gd.plain Sub.rfl) rfl rfl (fun hw _ => step_eql_bool Tryz.underlying4 (Sub.w hw) (Sub.w hw)) ?_
      refine JM_step rfl rfl rfl rfl (fun _ => step_pick_and Sub.rfl Sub.rfl) ?_
      refine JM_step rfl rfl rfl rfl (fun _ => step_assign Sub.rfl) ?_
      refine JM_nil ?_
      refine J_ret ?_
      refine K_ret1 (t := 8) rfl () ?_
      refine Sub.bool ?_
      have h1 : holdsM q facts ((one.filter (selP q facts))) = false := by rw [holds_sel]; exact hA
      show (true && (!holdsM q facts one || false) && decide (holdsM q facts (one.filter (selP q facts)) = holdsM q facts one)) = true
      rw [h1, hA]; rfl
theorem RewriteGrows_law (q : GConj) (facts : List GFact) (one two : List Int) (hq : q.Atoms.length ≤ 9223372036854775807) : Fun1 Tryz.prog 9 [rConj.ty q, tSl rFact facts, tSl rInt one, tSl rInt two] (tV (.bool true)) := by
  cases hA : holdsM q facts one with
  | true => exact Grows_t_spec q facts one two hq hA
  | false => exact Grows_f_spec q facts one two hq hA
end Lg

/- RewriteGrows: the card. -/
namespace Go.Proofs.YtjenebejjamnjaaGreatDoor.rewriteGrows
open Go.ChangeShapes Go.WideShapes Go.ChangeAt Go.RowKit
set_option maxRecDepth 100000 in
theorem contract (H : Type) (enc : TypeId × Value → H) (W : World) (base : Nat) (args : Array Value) (ds gs : List (DataW H)) (before : List MemPlace)
    (hval : ∀ (j : Nat) t v, Tryz.f9.params[j]? = some t → args[j]? = some v → Value.okWide Tryz.prog W .any base t v)
    (hz : (DataW.weightsEach Tryz.prog (Tryz.f9.params.toList ++ (OpenSpec.ofChange Rows.rewriteGrowsSpec).bare.plain.varTypes Tryz.prog) (ds ++ gs)).all (· ≤ reachBytes) = true)
    (hL : laidMet Tryz.prog Rows.rewriteGrowsRow.laid W) (hW : DataW.Whole enc Tryz.prog Tryz.f9.params.toList Rows.rewriteGrowsSpec.vars false W args.toList ds gs before) :
    Calls Tryz.prog 9 args W fun e W' => ∃ v, e = .returned v ∧ Rows.rewriteGrowsSpec.post enc Tryz.prog Tryz.f9 false true false false W args v W' := by
  have hW' := hW
  obtain ⟨p, q, hA0, hV, rfl, hfz, hnd⟩ := hW
  have hA : DataW.TrodAll enc Tryz.prog W 0 (fun _ => true) true Tryz.f9.params.toList args.toList ds p := hA0
  rw [Tryz.params9] at hA hval hz
  obtain ⟨v0, vs0, d0, ds0, p0, q0, hargs, rfl, rfl, h0, r0⟩ := trodAll_cons hA
  obtain ⟨v1, vs1, d1, ds1, p1, q1, rfl, rfl, rfl, h1, r1⟩ := trodAll_cons r0
  obtain ⟨v2, vs2, d2, ds2, p2, q2, rfl, rfl, rfl, h2, r2⟩ := trodAll_cons r1
  obtain ⟨v3, vs3, d3, ds3, p3, q3, rfl, rfl, rfl, h3, r3⟩ := trodAll_cons r2
  obtain ⟨rfl, rfl, rfl⟩ := trodAll_nil r3
  obtain rfl : args = #[v0, v1, v2, v3] := by cases args; simp_all
  obtain ⟨rfl, rfl⟩ := trodVars_none hV
  obtain ⟨x0, a0, b0⟩ := Lg.arg_cj h0
  obtain ⟨x1, a1⟩ := Lg.arg_sl Tryz.underlying26 Lg.rd26 (hval 1 26 v1 rfl rfl) h1
  obtain ⟨x2, a2⟩ := Lg.arg_sl Tryz.underlying27 Lg.rd27 (hval 2 27 v2 rfl rfl) h2
  obtain ⟨x3, a3⟩ := Lg.arg_sl Tryz.underlying27 Lg.rd27 (hval 3 27 v3 rfl rfl) h3
  refine (Lg.run_true (Lg.RewriteGrows_law x0 x1 x2 x3 b0) (Lg.inv_of (tab_of hL)) (vs := [v0, v1, v2, v3]) ⟨a0, a1, a2, a3, trivial⟩).mono fun e W' ⟨he, hb⟩ => ?_
  subst he
  have e1 : Rows.rewriteGrowsSpec.fn H ([d0, d1, d2, d3] ++ []) = { results := [.lit (.bool true)], args := [d0, d1, d2, d3] } := by simp [Rows.rewriteGrowsSpec]
  refine ⟨_, rfl, _, _, _, [], p0 ++ (p1 ++ (p2 ++ (p3 ++ []))), [], hW', ?_, ?_, ?_, hb.frame _, fun h => by cases h⟩
  · rw [e1]; exact trodAll_mk1 (shut_bool Tryz.underlying4 true)
  · rw [e1, Tryz.params9]
    exact trodAll_cons_mk (hb.trod laidOut rec25 size25 h0 fun x hx => hW'.lt x (by simp [hx])) (trodAll_cons_mk (hb.trod laidOut rec26 size26 h1 fun x hx => hW'.lt x (by simp [hx])) (trodAll_cons_mk (hb.trod laidOut rec27 size27 h2 fun x hx => hW'.lt x (by simp [hx])) (trodAll_cons_mk (hb.trod laidOut rec27 size27 h3 fun x hx => hW'.lt x (by simp [hx])) trodAll_mk0)))
  · rw [e1]; rfl
noncomputable abbrev args0 : Array Value := #[.agg #[.int .i64 0, .slice none 0 0, .slice none 0 0], .slice none 0 0, .slice none 0 0, .slice none 0 0]
theorem reads (os : Os) {H : Type} (enc : TypeId × Value → H) : ∃ places, DataW.whole enc Tryz.prog ((laidWorld os).forCall (fun _ _ => 0) ⟨#[], args0, []⟩).memory Tryz.f9.params.toList Rows.rewriteGrowsSpec.vars false args0.toList 8 = some ([.agg [.lit (.int .i64 0), .nil, .nil], .nil, .nil, .nil], [], places) :=
  ⟨[], by kernel_rfl⟩
theorem laid_met (os : Os) : laidMet Tryz.prog Rows.rewriteGrowsRow.laid ((laidWorld os).forCall (fun _ _ => 0) ⟨#[], args0, []⟩).memory :=
  laidMet_laidAll (laid := laidL) args0 (by kernel_rfl) (by kernel_rfl)
set_option maxRecDepth 100000 in
theorem lifted (os : Os) (started : os.Started) (H : Type) (enc : TypeId × Value → H) (F : Stop.Interp) :
    ReturnsInHanded {} Tryz.checked os 9 .any ((OpenSpec.ofChange Rows.rewriteGrowsSpec).preRow enc Tryz.prog Tryz.f9 Rows.rewriteGrowsRow.domain false Rows.rewriteGrowsRow.laid) (((OpenSpec.ofChange Rows.rewriteGrowsSpec).at F).post enc Tryz.prog Tryz.f9 false true false false) := by
  obtain ⟨places, hx⟩ := reads os enc
  refine returnsInHanded_of_row (C := Tryz.checked) (s := OpenSpec.ofChange Rows.rewriteGrowsSpec) own started (by kernel_rfl) Tryz.func9
    (witness_row_at (enc := enc) (C := Tryz.checked) false (laidWorld os) args0 (World.laidAll_os _ _ _) (by kernel_rfl) (by kernel_rfl) (by kernel_rfl)
      (OpenSpec.preRow_of_cond 8 hx (by kernel_rfl) (fun k hk => by cases hk) (by kernel_rfl) (laid_met os))) ?_
  intro W base args ds gs before hval hW _ _ hz hL _ _
  exact contract H enc W base args ds gs before hval hz hL hW
theorem said : Rows.RewriteGrowsSaid :=
  OpenClaim.holds_of_cond 9 Tryz.f9 rfl rfl rfl rfl rfl rfl rfl ⟨rfl, rfl, rfl, rfl, rfl⟩ rfl rfl rfl rfl rfl (by kernel_rfl) Tryz.func9 (by kernel_rfl)
    (of_decide_eq_true (by kernel_rfl)) (by unfold Func.isWrapper; first | (rw [if_pos (by decide +kernel)]; kernel_rfl) | (rw [if_neg (by decide +kernel)]; exact ⟨rfl, rfl⟩))
    (fun os started H enc _ F => by rw [OpenClaim.pre_eq_preRow]; exact lifted os started H enc F)
theorem plain (f : FuncId) (fn : Func) (hf : Tryz.pinned.checked.prog.funcNamed "cleanse/cleanselaw37.RewriteGrows" = some f) (hfn : Tryz.pinned.checked.prog.funcs[f]? = some fn) :
    true = Tryz.pinned.checked.prog.looks [] ∧ ∀ (j : Nat) t, fn.params[j]? = some t → Tryz.pinned.checked.prog.wantsStandIn t = false := by
  obtain rfl : f = 9 := Option.some.inj ((show Tryz.prog.funcNamed "cleanse/cleanselaw37.RewriteGrows" = some 9 by kernel_rfl).symm.trans hf) |>.symm
  obtain rfl : fn = Tryz.f9 := (Option.some.inj (Tryz.func9.symm.trans hfn)).symm
  refine ⟨noLooks, fun j t ht => ?_⟩
  rw [Tryz.params9] at ht
  have hm : t ∈ #[25, 26, 27, 27] := Array.mem_of_getElem? ht
  simp only [List.mem_toArray, List.mem_cons, List.not_mem_nil, or_false] at hm
  rcases hm with rfl | rfl | rfl | rfl
  · exact want25
  · exact want26
  · exact want27
  · exact want27
theorem card : Rows.RewriteGrowsCardSaid :=
  Claim7.holds_tied_plain_at .later [] _ _ _ _ said (fun _ h => by cases h) (by kernel_rfl) (fun _ h => by cases h) rewriteGrows_row_tie rfl ⟨rfl, rfl⟩ (by kernel_rfl) rfl plain (by kernel_rfl)
end Go.Proofs.YtjenebejjamnjaaGreatDoor.rewriteGrows
