/- Walks and pure theory for this law, the first part. -/
import Derived.Test.YticgfcbcaalioaaGreatDoorH
import Derived.Laws.StructEq
set_option linter.unusedVariables false
set_option linter.unusedSimpArgs false
set_option linter.unusedSectionVars false
namespace Lg
open Go Go.Proofs


theorem someL_srt (n : Nat) (which : List Bool) : Srt (someL n which) := by
  unfold someL someT
  refine List.Pairwise.map _ (fun a b h => ?_) (List.pairwise_lt_range.filter _)
  exact_mod_cast h
theorem someL_in {n : Nat} {which : List Bool} {x : Int} (h : x ∈ someL n which) : 0 ≤ x ∧ x < n := by
  obtain ⟨j, hj, rfl⟩ := List.mem_map.1 h
  have := List.mem_range.1 (List.mem_filter.1 hj).1
  omega
theorem srt_nth {l : List Int} (h : Srt l) {i k : Nat} (hk : k < i) (hi : i < l.length) : nth l k < nth l i := by
  rw [nth_get hi, nth_get (show k < l.length by omega)]
  exact List.pairwise_iff_getElem.1 h k i (by omega) hi hk
theorem someL_len {n : Nat} {which : List Bool} : (someL n which).length ≤ n := by
  have := someT_len which (min n which.length)
  exact Nat.le_trans this (by omega)
/-- Two facts of one entity in a set, not both of variant -1. -/
theorem clash_not {rules : List GRule} {facts : List GFact} {set : List Int} (hs : Srt set) (hin : ∀ x ∈ set, 0 ≤ x ∧ x < (facts.length : Int)) {i k : Nat} (hi : i < set.length) (hk : k < i)
    (h : (decide ((nth facts (nth set i).toNat).Entity = (nth facts (nth set k).toNat).Entity) && (!decide ((nth facts (nth set i).toNat).Variant = -1) || !decide ((nth facts (nth set k).toNat).Variant = -1))) = true) : consM rules facts set = false := by
  have hk2 : k < set.length := by omega
  have hm1 := nth_mem hi
  have hm2 := nth_mem hk2
  rw [← Bool.not_eq_true, consM_iff]
  rintro ⟨_, h2⟩
  rw [Bool.and_eq_true, decide_eq_true_eq] at h
  refine h2 [nth set k, nth set i] ((wits_iff (iota_srt _)).2 (.inl ⟨_, _, iota_mem_iff.2 (hin _ hm2), iota_mem_iff.2 (hin _ hm1), srt_nth hs hk hi, h.1.symm, h.2, rfl⟩)) ?_
  intro x hx
  simp only [List.mem_cons, List.not_mem_nil, or_false] at hx
  rcases hx with rfl | rfl <;> assumption

theorem Variants_spec (rules : List GRule) (facts : List GFact) (which : List Bool) : Fun1 Tryz.prog 9 [tSl rRule rules, tSl rFact facts, tSl rBool which] (tV (.bool true)) := by
  refine Spec.enter Tryz.func9 rfl rfl fun h0 w0 fr0 => ?_
  refine J_seq ?_
  refine J_region ?_
  refine JL_step rfl rfl rfl (step_assign Sub.rfl) ?_
  refine JL_nil ?_
  refine J_seq ?_
  refine J_region ?_
  refine JL_step rfl rfl rfl (step_call0 (head_spec) trivial Tryz.call10) ?_
  refine JL_step rfl rfl rfl (step_assign Sub.rfl) ?_
  refine JL_nil ?_
  refine J_seq ?_
  refine J_seq ?_
  refine J_region ?_
  refine JL_step rfl rfl rfl (step_move Sub.rfl) ?_
  refine JL_step rfl rfl rfl (step_move Sub.rfl) ?_
  refine JL_step rfl rfl rfl (step_call0 (Few_spec _ _ _ (by omega)) ⟨Sub.rfl, Sub.rfl, Sub.rfl, trivial⟩ Tryz.call11) ?_
  refine JL_step rfl rfl rfl (step_not Sub.rfl) ?_
  refine JL_nil ?_
  refine J_cond Sub.rfl (fun h18 => ?_) (fun h18 => ?_)
  · try simp only [decide_eq_true_eq, decide_eq_false_iff_not, Bool.and_eq_true, Bool.or_eq_true, Bool.and_eq_false_iff, Bool.or_eq_false_iff, Bool.not_eq_true', Bool.not_eq_false', Int.not_lt, Int.not_le, Bool.not_true, Bool.not_false] at h18
    refine J_seq ?_
    refine J_region ?_
    refine JL_step rfl rfl rfl (step_move Sub.rfl) ?_
    refine JL_step rfl rfl rfl (step_assign Sub.rfl) ?_
    refine JL_nil ?_
    refine J_ret ?_
    refine K_retv (rv := .tmp 6) rfl () (.tmp Sub.rfl) (Sub.bool ?_)
    rfl
  · try simp only [decide_eq_true_eq, decide_eq_false_iff_not, Bool.and_eq_true, Bool.or_eq_true, Bool.and_eq_false_iff, Bool.or_eq_false_iff, Bool.not_eq_true', Bool.not_eq_false', Int.not_lt, Int.not_le, Bool.not_true, Bool.not_false] at h18
    have HP := FewP.of h18
    have H := VHyp.few HP
    have hfl := HP.fl
    have hsl : (someL facts.length which).length ≤ facts.length := someL_len
    refine J_skip ?_
    refine J_seq ?_
    refine J_region ?_
    refine JL_step rfl rfl rfl (step_move Sub.rfl) ?_
    refine JL_step rfl rfl rfl (step_len_sl Tryz.underlying23 Sub.rfl) ?_
    refine JL_step rfl rfl rfl (step_move Sub.rfl) ?_
    refine JL_step rfl rfl rfl (step_call0 (some_spec _ _ (by omega)) ⟨Sub.rfl, Sub.rfl, trivial⟩ Tryz.call27) ?_
    refine JL_step rfl rfl rfl (step_assign Sub.rfl) ?_
    refine JL_nil ?_
    refine J_seq ?_
    refine J_region ?_
    refine JL_step rfl rfl rfl (step_assign Sub.rfl) ?_
    refine JL_nil ?_
    refine J_seq ?_
    refine J_seq ?_
    refine J_region ?_
    refine JL_step rfl rfl rfl (step_assign Sub.rfl) ?_
    refine JL_nil ?_
    refine J_block ?_
    refine J_loopL (σ := Nat × Bool) (fun ⟨i, c⟩ => i ≤ (someL facts.length which).length ∧ (c = true → consM rules facts (someL facts.length which) = false)) (fun ⟨i, c⟩ => upd (upd (upd (upd (upd (upd (upd env0 0 (tSl rRule rules)) 1 (tSl rFact facts)) 6 (tV (.bool false))) 7 (tV (.bool true))) 8 (tSl rInt (someL facts.length which))) 9 (tV (.bool c))) 10 (tV (.int .i64 i))) (fun ⟨i, c⟩ => []) (fun ⟨i, c⟩ => (someL facts.length which).length - i) (0, false) ⟨by simp, by simp⟩ (SubE.upd Sub.rfl (SubE.upd Sub.rfl (SubE.upd Sub.rfl (SubE.upd Sub.rfl (SubE.upd Sub.rfl (SubE.upd Sub.rfl (SubE.upd Sub.rfl SubE.any))))))) (LSub.rfl) ?_
    rintro ⟨i, c⟩ ⟨hi, hv⟩
    refine J_seq ?_
    refine J_seq ?_
    refine J_region ?_
    refine JL_step rfl rfl rfl (step_move Sub.rfl) ?_
    refine JL_step rfl rfl rfl (step_move Sub.rfl) ?_
    refine JL_step rfl rfl rfl (step_len_sl Tryz.underlying24 Sub.rfl) ?_
    refine JL_step rfl rfl rfl (step_lss Sub.rfl Sub.rfl) ?_
    refine JL_nil ?_
    refine J_cond Sub.rfl (fun h27 => ?_) (fun h27 => ?_)
    · try simp only [decide_eq_true_eq, decide_eq_false_iff_not, Bool.and_eq_true, Bool.or_eq_true, Bool.and_eq_false_iff, Bool.or_eq_false_iff, Bool.not_eq_true', Bool.not_eq_false', Int.not_lt, Int.not_le, Bool.not_true, Bool.not_false] at h27
      have hlt : i < (someL facts.length which).length := by omega
      have hbi := someL_in (nth_mem hlt)
      refine J_skip ?_
      refine J_seq ?_
      refine J_block ?_
      refine J_seq ?_
      refine J_region ?_
      refine JL_step rfl rfl rfl (step_assign Sub.rfl) ?_
      refine JL_nil ?_
      refine J_block ?_
      refine J_loopL (σ := Nat × Bool) (fun ⟨k, c2⟩ => k ≤ i ∧ (c2 = true → consM rules facts (someL facts.length which) = false)) (fun ⟨k, c2⟩ => upd (upd (upd (upd (upd (upd (upd (upd (upd (upd env0 0 (tSl rRule rules)) 1 (tSl rFact facts)) 6 (tV (.bool false))) 7 (tV (.bool true))) 8 (tSl rInt (someL facts.length which))) 9 (tV (.bool c2))) 10 (tV (.int .i64 i))) 11 (tV (.int .i64 k))) 24 (tV (.int .i64 i))) 25 (tSl rInt (someL facts.length which))) (fun ⟨k, c2⟩ => []) (fun ⟨k, c2⟩ => i - k) (0, c) ⟨by simp, hv⟩ (SubE.upd Sub.rfl (SubE.upd Sub.rfl (SubE.upd Sub.rfl (SubE.upd Sub.rfl (SubE.upd Sub.rfl (SubE.upd Sub.rfl (SubE.upd Sub.rfl (SubE.upd Sub.rfl (SubE.upd Sub.rfl (SubE.upd Sub.rfl SubE.any)))))))))) (LSub.rfl) ?_
      rintro ⟨k, c2⟩ ⟨hi2, hv2⟩
      refine J_seq ?_
      refine J_seq ?_
      refine J_region ?_
      refine JL_step rfl rfl rfl (step_move Sub.rfl) ?_
      refine JL_step rfl rfl rfl (step_move Sub.rfl) ?_
      refine JL_step rfl rfl rfl (step_lss Sub.rfl Sub.rfl) ?_
      refine JL_nil ?_
      refine J_cond Sub.rfl (fun h32 => ?_) (fun h32 => ?_)
      · try simp only [decide_eq_true_eq, decide_eq_false_iff_not, Bool.and_eq_true, Bool.or_eq_true, Bool.and_eq_false_iff, Bool.or_eq_false_iff, Bool.not_eq_true', Bool.not_eq_false', Int.not_lt, Int.not_le, Bool.not_true, Bool.not_false] at h32
        have hlk : k < i := by omega
        have hlk2 : k < (someL facts.length which).length := by omega
        have hbk := someL_in (nth_mem hlk2)
        refine J_skip ?_
        refine J_seq ?_
        refine J_block ?_
        refine J_seq ?_
        refine J_region ?_
        refine JL_step rfl rfl rfl (step_move Sub.rfl) ?_
        refine JL_step rfl rfl rfl (step_move Sub.rfl) ?_
        refine JL_step rfl rfl rfl (step_move Sub.rfl) ?_
        refine JL_step rfl rfl rfl (step_indexAddr_sl  Tryz.underlying24 ty3 Sub.rfl Sub.rfl rfl (gb ?sg1)) ?_
        case sg1 => first | assumption | omega
        refine JL_step rfl rfl rfl (step_load_ptr ty3 Sub.rfl) ?_
        refine JL_step rfl rfl rfl (step_indexAddr_sl (i := (nth (someL facts.length which) i).toNat) Tryz.underlying23 ty54 Sub.rfl Sub.rfl ?sg1 (gb ?sg2)) ?_
        case sg1 => show nth (someL facts.length which) i = _; omega
        case sg2 => omega
        refine JL_step rfl rfl rfl (step_load_ptr ty54 Sub.rfl) ?_
        refine JL_stepX rfl rfl rfl (step_alloc (fun w => Tryz.zeroValue54 w) zr54) fun v12 => ?_
        refine JL_stepU rfl rfl (step_store_box ty54 Sub.rfl Sub.rfl (by first | exact Sel.take (Sel.none _) | exact Sel.skip (Sel.take (Sel.none _)) | exact Sel.skip (Sel.skip (Sel.take (Sel.none _))) | exact Sel.skip (Sel.skip (Sel.skip (Sel.take (Sel.none _)))) | exact Sel.skip (Sel.skip (Sel.skip (Sel.skip (Sel.take (Sel.none _))))))) fun _ => ?_
        refine JL_freeze (t := 12) (Sel.take (Sel.none _)) Frz.box ?_
        refine JL_nil ?_
        refine J_seq ?_
        refine J_region ?_
        refine JL_step rfl rfl rfl (step_move Sub.rfl) ?_
        refine JL_step rfl rfl rfl (step_move Sub.rfl) ?_
        refine JL_step rfl rfl rfl (step_move Sub.rfl) ?_
        refine JL_step rfl rfl rfl (step_indexAddr_sl  Tryz.underlying24 ty3 Sub.rfl Sub.rfl rfl (gb ?sg1)) ?_
        case sg1 => first | assumption | omega
        refine JL_step rfl rfl rfl (step_load_ptr ty3 Sub.rfl) ?_
        refine JL_step rfl rfl rfl (step_indexAddr_sl (i := (nth (someL facts.length which) k).toNat) Tryz.underlying23 ty54 Sub.rfl Sub.rfl ?sg1 (gb ?sg2)) ?_
        case sg1 => show nth (someL facts.length which) k = _; omega
        case sg2 => omega
        refine JL_step rfl rfl rfl (step_load_ptr ty54 Sub.rfl) ?_
        refine JL_stepX rfl rfl rfl (step_alloc (fun w => Tryz.zeroValue54 w) zr54) fun v13 => ?_
        refine JL_stepU rfl rfl (step_store_box ty54 Sub.rfl Sub.rfl (by first | exact Sel.take (Sel.none _) | exact Sel.skip (Sel.take (Sel.none _)) | exact Sel.skip (Sel.skip (Sel.take (Sel.none _))) | exact Sel.skip (Sel.skip (Sel.skip (Sel.take (Sel.none _)))) | exact Sel.skip (Sel.skip (Sel.skip (Sel.skip (Sel.take (Sel.none _))))))) fun _ => ?_
        refine JL_freeze (t := 13) (Sel.take (Sel.none _)) Frz.box ?_
        refine JL_nil ?_
        refine J_region ?_
        refine JL_step rfl rfl rfl (step_move Sub.rfl) ?_
        refine JL_step rfl rfl rfl (step_move Sub.rfl) ?_
        refine JL_stepG rfl rfl rfl (Gd.plain Sub.rfl) rfl rfl (fun hw => step_fieldAddr so54 Sub.rfl rfl) ?_
        refine JL_stepG rfl rfl rfl (Gd.plain Sub.rfl) rfl rfl (fun hw => step_load_ptr ty3 (Sub.w hw)) ?_
        refine JL_stepG rfl rfl rfl (Gd.plain Sub.rfl) rfl rfl (fun hw => step_fieldAddr so54 Sub.rfl rfl) ?_
        refine JL_stepG rfl rfl rfl (Gd.plain Sub.rfl) rfl rfl (fun hw => step_load_ptr ty3 (Sub.w hw)) ?_
        refine JL_stepG rfl rfl rfl (Gd.plain Sub.rfl) rfl rfl (fun hw => step_eql (Sub.w hw) (Sub.w hw)) ?_
        refine JL_stepG rfl rfl rfl (Gd.plain Sub.rfl) rfl rfl (fun hw => step_move (Sub.w hw)) ?_
        refine JL_stepG rfl rfl rfl (Gd.nest Sub.rfl) rfl rfl (fun hw => step_fieldAddr so54 Sub.rfl rfl) ?_
        refine JL_stepG rfl rfl rfl (Gd.nest Sub.rfl) rfl rfl (fun hw => step_load_ptr ty3 (Sub.w hw)) ?_
        refine JL_stepG rfl rfl rfl (Gd.nest Sub.rfl) rfl rfl (fun hw => step_neq (Sub.w hw) Sub.rfl) ?_
        refine JL_stepG rfl rfl rfl (Gd.nest Sub.rfl) rfl rfl (fun hw => step_move (Sub.w hw)) ?_
        refine JL_stepG rfl rfl rfl (Gd.nest Sub.rfl) rfl rfl (fun hw => step_fieldAddr so54 Sub.rfl rfl) ?_
        refine JL_stepG rfl rfl rfl (Gd.nest Sub.rfl) rfl rfl (fun hw => step_load_ptr ty3 (Sub.w hw)) ?_
        refine JL_stepG rfl rfl rfl (Gd.nest Sub.rfl) rfl rfl (fun hw => step_neq (Sub.w hw) Sub.rfl) ?_
        refine JL_stepG rfl rfl rfl (Gd.nest Sub.rfl) rfl rfl (fun hw => step_pick_or (Sub.w hw) (Sub.ww hw)) ?_
        refine JL_stepG rfl rfl rfl (Gd.plain Sub.rfl) rfl rfl (fun hw => step_pick_and (Sub.w hw) (Sub.ww hw)) ?_
        refine JL_step rfl rfl rfl (step_pick_or Sub.rfl Sub.rfl) ?_
        refine JL_step rfl rfl rfl (step_assign Sub.rfl) ?_
        refine JL_nil ?_
        refine J_region ?_
        refine JL_step rfl rfl rfl (step_move Sub.rfl) ?_
        refine JL_step rfl rfl rfl (step_add Sub.rfl Sub.rfl ?sg1) ?_
        case sg1 => unfold in64; omega
        refine JL_step rfl rfl rfl (step_assign Sub.rfl) ?_
        refine JL_nil ?_
        refine K_againL (σ := Nat × Bool) (s := (k, c2)) (k + 1, c2 || (decide ((nth facts (nth (someL facts.length which) i).toNat).Entity = (nth facts (nth (someL facts.length which) k).toNat).Entity) && (!decide ((nth facts (nth (someL facts.length which) i).toNat).Variant = -1) || !decide ((nth facts (nth (someL facts.length which) k).toNat).Variant = -1)))) (by first | omega | (dsimp only; omega) | (simp_all; omega)) ⟨by omega, fun h => by rw [Bool.or_eq_true] at h; rcases h with h | h; exact hv2 h; exact clash_not (someL_srt _ _) (fun x hx => someL_in hx) hlt hlk h⟩ (SubE.upd Sub.rfl (SubE.upd Sub.rfl (SubE.upd Sub.rfl (SubE.upd Sub.rfl (SubE.upd Sub.rfl (SubE.upd Sub.rfl (SubE.upd Sub.rfl (SubE.upd Sub.rfl (SubE.upd Sub.rfl (SubE.upd Sub.rfl SubE.any)))))))))) (LSub.rfl)
      · try simp only [decide_eq_true_eq, decide_eq_false_iff_not, Bool.and_eq_true, Bool.or_eq_true, Bool.and_eq_false_iff, Bool.or_eq_false_iff, Bool.not_eq_true', Bool.not_eq_false', Int.not_lt, Int.not_le, Bool.not_true, Bool.not_false] at h32
        refine J_exit ?_
        refine J_region ?_
        refine JL_step rfl rfl rfl (step_move Sub.rfl) ?_
        refine JL_step rfl rfl rfl (step_add Sub.rfl Sub.rfl ?sg1) ?_
        case sg1 => unfold in64; omega
        refine JL_step rfl rfl rfl (step_assign Sub.rfl) ?_
        refine JL_nil ?_
        refine K_againL (σ := Nat × Bool) (s := (i, c)) (i + 1, c2) (by first | omega | (dsimp only; omega) | (simp_all; omega)) ⟨by omega, hv2⟩ (SubE.upd Sub.rfl (SubE.upd Sub.rfl (SubE.upd Sub.rfl (SubE.upd Sub.rfl (SubE.upd Sub.rfl (SubE.upd Sub.rfl (SubE.upd Sub.rfl SubE.any))))))) (LSub.rfl)
    · try simp only [decide_eq_true_eq, decide_eq_false_iff_not, Bool.and_eq_true, Bool.or_eq_true, Bool.and_eq_false_iff, Bool.or_eq_false_iff, Bool.not_eq_true', Bool.not_eq_false', Int.not_lt, Int.not_le, Bool.not_true, Bool.not_false] at h27
      refine J_exit ?_
      refine J_seq ?_
      refine J_region ?_
      refine JL_step rfl rfl rfl (step_move Sub.rfl) ?_
      refine JL_step rfl rfl rfl (step_move Sub.rfl) ?_
      refine JL_stepG rfl rfl rfl (Gd.plain Sub.rfl) rfl rfl (fun hw => step_move Sub.rfl) ?_
      refine JL_stepG rfl rfl rfl (Gd.plain Sub.rfl) rfl rfl (fun hw => step_not (Sub.w hw)) ?_
      refine JL_stepG rfl rfl rfl (Gd.plain Sub.rfl) rfl rfl (fun hw => step_move (Sub.w hw)) ?_
      refine JL_stepG rfl rfl rfl (Gd.nest Sub.rfl) rfl rfl (fun hw => step_move Sub.rfl) ?_
      refine JL_stepG rfl rfl rfl (Gd.nest Sub.rfl) rfl rfl (fun hw => step_move Sub.rfl) ?_
      refine JL_stepG rfl rfl rfl (Gd.nest Sub.rfl) rfl rfl (fun hw => step_move Sub.rfl) ?_
      refine JL_stepG rfl rfl rfl (Gd.nest Sub.rfl) rfl rfl (fun hw => step_call0 (Consistent_spec _ _ _ (by omega) (by omega) H.ru) ⟨(Sub.w hw), (Sub.w hw), (Sub.w hw), trivial⟩ Tryz.call24) ?_
      refine JL_stepG rfl rfl rfl (Gd.nest Sub.rfl) rfl rfl (fun hw => step_not (Sub.w hw)) ?_
      refine JL_stepG rfl rfl rfl (Gd.plain Sub.rfl) rfl rfl (fun hw => step_pick_or (Sub.w hw) (Sub.ww hw)) ?_
      refine JL_step rfl rfl rfl (step_pick_and Sub.rfl Sub.rfl) ?_
      refine JL_step rfl rfl rfl (step_assign Sub.rfl) ?_
      refine JL_nil ?_
      refine J_ret ?_
      refine K_retv (rv := .tmp 6) rfl () (.tmp Sub.rfl) (Sub.bool ?_)
      cases c with
      | false => rfl
      | true => rw [hv rfl]; rfl
end Lg

namespace Lg
open Go Go.Proofs


abbrev lowAll (rules : List GRule) : List GRule := rules.flatMap lowerR
theorem lowerR_deny {r d : GRule} (h : d ∈ lowerR r) : d.Kind = 4 ∧ (d.Cols.length ≤ r.Cols.length ∧ d.Fixed.length ≤ r.Fixed.length ∧ d.Tests.length ≤ r.Tests.length + 2 * r.Fixed.length + r.Cols.length + 1) := by
  unfold lowerR at h
  split at h
  · rw [List.mem_singleton.1 h]; omega
  · split at h
    · rw [List.mem_singleton.1 h]
      have := preT_len r
      refine ⟨rfl, by simp [zRule], by simp [zRule], ?_⟩
      simp only [lowT, List.length_append, List.length_map]
      split <;> simp <;> omega
    · cases h
theorem lowerR_idem {r d : GRule} (h : d ∈ lowerR r) : lowerR d = [d] := by
  unfold lowerR; rw [if_pos (lowerR_deny h).1]
theorem loweredR_low (rules : List GRule) : loweredR (lowAll rules) = loweredR rules := by
  unfold loweredR lowAll
  rw [List.flatMap_assoc]
  congr 1
  funext r
  have h1 := lowerR_len r
  match h : lowerR r, h1 with
  | [], _ => rfl
  | [d], _ =>
    have : lowerR d = [d] := lowerR_idem (r := r) (by rw [h]; simp)
    simp [this]
theorem lowAll_len (rules : List GRule) : (lowAll rules).length ≤ rules.length := by
  have := flat_len lowerR 1 rules fun r _ => lowerR_len r
  simpa using this
theorem vio_low (rules : List GRule) (facts : List GFact) : vioM (lowAll rules) facts = vioM rules facts := by
  unfold vioM wits; rw [loweredR_low]
theorem VHyp.low {rules : List GRule} {facts : List GFact} (h : FewP rules facts) : VHyp (lowAll rules) facts :=
  VHyp.of (Nat.le_trans (lowAll_len rules) h.rl) h.fl fun d hd => by
    obtain ⟨r, hr, hd⟩ := List.mem_flatMap.1 hd
    have := (lowerR_deny hd).2
    have := h.rr r hr
    omega
theorem low_ok (r : GRule) : (decide ((lowerR r).length > (1 : Int)) || (decide (((lowerR r).length : Int) = 1) && !decide ((nth (lowerR r) 0).Kind = 4))) = false := by
  have h1 := lowerR_len r
  match h : lowerR r, h1 with
  | [], _ => rfl
  | [d], _ =>
    have := (lowerR_deny (r := r) (d := d) (by rw [h]; simp)).1
    show (decide ((1 : Int) > 1) || (decide ((1 : Int) = 1) && !decide (d.Kind = 4))) = false
    rw [this]; rfl

theorem Lowers_spec (rules : List GRule) (facts : List GFact) : Fun1 Tryz.prog 7 [tSl rRule rules, tSl rFact facts] (tV (.bool true)) := by
  refine Spec.enter Tryz.func7 rfl rfl fun h0 w0 fr0 => ?_
  refine J_seq ?_
  refine J_region ?_
  refine JL_step rfl rfl rfl (step_assign Sub.rfl) ?_
  refine JL_nil ?_
  refine J_seq ?_
  refine J_region ?_
  refine JL_step rfl rfl rfl (step_call0 (head_spec) trivial Tryz.call10) ?_
  refine JL_step rfl rfl rfl (step_assign Sub.rfl) ?_
  refine JL_nil ?_
  refine J_seq ?_
  refine J_seq ?_
  refine J_region ?_
  refine JL_step rfl rfl rfl (step_move Sub.rfl) ?_
  refine JL_step rfl rfl rfl (step_move Sub.rfl) ?_
  refine JL_step rfl rfl rfl (step_call0 (Few_spec _ _ _ (by omega)) ⟨Sub.rfl, Sub.rfl, Sub.rfl, trivial⟩ Tryz.call11) ?_
  refine JL_step rfl rfl rfl (step_not Sub.rfl) ?_
  refine JL_nil ?_
  refine J_cond Sub.rfl (fun h17 => ?_) (fun h17 => ?_)
  · try simp only [decide_eq_true_eq, decide_eq_false_iff_not, Bool.and_eq_true, Bool.or_eq_true, Bool.and_eq_false_iff, Bool.or_eq_false_iff, Bool.not_eq_true', Bool.not_eq_false', Int.not_lt, Int.not_le, Bool.not_true, Bool.not_false] at h17
    refine J_seq ?_
    refine J_region ?_
    refine JL_step rfl rfl rfl (step_move Sub.rfl) ?_
    refine JL_step rfl rfl rfl (step_assign Sub.rfl) ?_
    refine JL_nil ?_
    refine J_ret ?_
    refine K_retv (rv := .tmp 4) rfl () (.tmp Sub.rfl) (Sub.bool ?_)
    rfl
  · try simp only [decide_eq_true_eq, decide_eq_false_iff_not, Bool.and_eq_true, Bool.or_eq_true, Bool.and_eq_false_iff, Bool.or_eq_false_iff, Bool.not_eq_true', Bool.not_eq_false', Int.not_lt, Int.not_le, Bool.not_true, Bool.not_false] at h17
    have HP := FewP.of h17
    have H := VHyp.few HP
    have HL := VHyp.low HP
    have hfl := HP.fl
    have hrl := HP.rl
    refine J_skip ?_
    refine J_seq ?_
    refine J_region ?_
    refine JL_step rfl rfl rfl (step_assign Sub.rfl) ?_
    refine JL_nil ?_
    refine J_seq ?_
    refine J_seq ?_
    refine J_region ?_
    refine JL_step rfl rfl rfl (step_assign Sub.rfl) ?_
    refine JL_nil ?_
    refine J_block ?_
    refine J_loopL (σ := Nat × Value) (fun ⟨i, v⟩ => i ≤ rules.length) (fun ⟨i, v⟩ => upd (upd (upd (upd (upd env0 0 (tSl rRule rules)) 1 (tSl rFact facts)) 5 (tV (.bool true))) 6 (rV.ty v)) 7 (tV (.int .i64 i))) (fun ⟨i, v⟩ => [own 32 rRule v ((rules.take i).flatMap lowerR)]) (fun ⟨i, v⟩ => rules.length - i) (0, .slice none 0 0) (by simp) (SubE.upd Sub.rfl (SubE.upd (Sub.rV rfl) (SubE.upd Sub.rfl (SubE.upd Sub.rfl (SubE.upd Sub.rfl SubE.any))))) (LSub.nilown) ?_
    rintro ⟨i, v⟩ hi
    try dsimp only at hi
    refine J_seq ?_
    refine J_seq ?_
    refine J_region ?_
    refine JL_step rfl rfl rfl (step_move Sub.rfl) ?_
    refine JL_step rfl rfl rfl (step_move Sub.rfl) ?_
    refine JL_step rfl rfl rfl (step_len_sl Tryz.underlying22 Sub.rfl) ?_
    refine JL_step rfl rfl rfl (step_lss Sub.rfl Sub.rfl) ?_
    refine JL_nil ?_
    refine J_cond Sub.rfl (fun h22 => ?_) (fun h22 => ?_)
    · try simp only [decide_eq_true_eq, decide_eq_false_iff_not, Bool.and_eq_true, Bool.or_eq_true, Bool.and_eq_false_iff, Bool.or_eq_false_iff, Bool.not_eq_true', Bool.not_eq_false', Int.not_lt, Int.not_le, Bool.not_true, Bool.not_false] at h22
      have hlt : i < rules.length := by omega
      have hle := lowerR_len (nth rules i)
      have hll : ((rules.take i).flatMap lowerR).length ≤ 6 := Nat.le_trans (lowAll_len (rules.take i)) (by simp; omega)
      refine J_skip ?_
      refine J_seq ?_
      refine J_block ?_
      refine J_seq ?_
      refine J_region ?_
      refine JL_step rfl rfl rfl (step_move Sub.rfl) ?_
      refine JL_step rfl rfl rfl (step_move Sub.rfl) ?_
      refine JL_step rfl rfl rfl (step_indexAddr_sl  Tryz.underlying22 ty32 Sub.rfl Sub.rfl rfl (gb ?sg1)) ?_
      case sg1 => first | assumption | omega
      refine JL_step rfl rfl rfl (step_load_ptr ty32 Sub.rfl) ?_
      refine JL_step rfl rfl rfl (step_call0 (Lower_spec (nth rules i) (by have := HP.rr _ (nth_mem hlt); omega) (by have := HP.rr _ (nth_mem hlt); omega)) ⟨Sub.rfl, trivial⟩ Tryz.call13) ?_
      refine JL_step rfl rfl rfl (step_assign Sub.rfl) ?_
      refine JL_nil ?_
      refine J_seq ?_
      refine J_seq ?_
      refine J_region ?_
      refine JL_step rfl rfl rfl (step_move Sub.rfl) ?_
      refine JL_step rfl rfl rfl (step_len_sl Tryz.underlying22 Sub.rfl) ?_
      refine JL_step rfl rfl rfl (step_gtr Sub.rfl Sub.rfl) ?_
      refine JL_step rfl rfl rfl (step_move Sub.rfl) ?_
      refine JL_stepG rfl rfl rfl (Gd.plain Sub.rfl) rfl rfl (fun hw => step_move Sub.rfl) ?_
      refine JL_stepG rfl rfl rfl (Gd.plain Sub.rfl) rfl rfl (fun hw => step_len_sl Tryz.underlying22 (Sub.w hw)) ?_
      refine JL_stepG rfl rfl rfl (Gd.plain Sub.rfl) rfl rfl (fun hw => step_eql (Sub.w hw) Sub.rfl) ?_
      refine JL_stepG rfl rfl rfl (Gd.plain Sub.rfl) rfl rfl (fun hw => step_move (Sub.w hw)) ?_
      refine JL_stepG rfl rfl rfl (Gd.nest Sub.rfl) rfl rfl (fun hw => step_move Sub.rfl) ?_
      refine JL_stepG rfl rfl rfl (Gd.nest Sub.rfl) rfl rfl (fun hw => step_indexAddr_sl (i := 0) Tryz.underlying22 ty32 (Sub.w hw) Sub.rfl ?sg1 (gb ?sg2)) ?_
      case sg1 => have hwq := hw; (try simp only [beqB_t, beqB_f, decide_eq_true_eq, decide_eq_false_iff_not, Bool.and_eq_true, Bool.or_eq_true, Bool.and_eq_false_iff, Bool.or_eq_false_iff, Bool.not_eq_true', Bool.not_eq_false', Int.not_lt, Int.not_le, Bool.not_true, Bool.not_false] at hwq); rfl
      case sg2 => have hwq := hw; (try simp only [beqB_t, beqB_f, decide_eq_true_eq, decide_eq_false_iff_not, Bool.and_eq_true, Bool.or_eq_true, Bool.and_eq_false_iff, Bool.or_eq_false_iff, Bool.not_eq_true', Bool.not_eq_false', Int.not_lt, Int.not_le, Bool.not_true, Bool.not_false] at hwq); omega
      refine JL_stepG rfl rfl rfl (Gd.nest Sub.rfl) rfl rfl (fun hw => step_fieldAddr so32 (Sub.w hw) rfl) ?_
      refine JL_stepG rfl rfl rfl (Gd.nest Sub.rfl) rfl rfl (fun hw => step_load_ptr ty3 (Sub.w hw)) ?_
      refine JL_stepG rfl rfl rfl (Gd.nest Sub.rfl) rfl rfl (fun hw => step_neq (Sub.w hw) Sub.rfl) ?_
      refine JL_stepG rfl rfl rfl (Gd.plain Sub.rfl) rfl rfl (fun hw => step_pick_and (Sub.w hw) (Sub.ww hw)) ?_
      refine JL_step rfl rfl rfl (step_pick_or Sub.rfl Sub.rfl) ?_
      refine JL_nil ?_
      refine J_cond Sub.rfl (fun h44 => ?_) (fun h44 => ?_)
      · try simp only [decide_eq_true_eq, decide_eq_false_iff_not, Bool.and_eq_true, Bool.or_eq_true, Bool.and_eq_false_iff, Bool.or_eq_false_iff, Bool.not_eq_true', Bool.not_eq_false', Int.not_lt, Int.not_le, Bool.not_true, Bool.not_false] at h44
        exfalso; have hlo := low_ok (nth rules i); simp only [Bool.or_eq_false_iff, Bool.and_eq_false_iff, decide_eq_false_iff_not, Bool.not_eq_false', decide_eq_true_eq] at hlo; rcases h44 with h44 | ⟨q1, q2⟩; exact hlo.1 h44; rcases hlo.2 with q | q; exact q q1; exact q2 q
      · try simp only [decide_eq_true_eq, decide_eq_false_iff_not, Bool.and_eq_true, Bool.or_eq_true, Bool.and_eq_false_iff, Bool.or_eq_false_iff, Bool.not_eq_true', Bool.not_eq_false', Int.not_lt, Int.not_le, Bool.not_true, Bool.not_false] at h44
        refine J_skip ?_
        refine J_region ?_
        refine JL_step rfl rfl rfl (step_move Sub.rfl) ?_
        refine JL_step rfl rfl rfl (step_move Sub.rfl) ?_
        refine JL_stepX rfl rfl rfl (step_append Tryz.underlying22 el32 Sub.rfl Sub.rfl (by first | exact Sel.take (Sel.none _) | exact Sel.skip (Sel.take (Sel.none _)) | exact Sel.skip (Sel.skip (Sel.take (Sel.none _))) | exact Sel.skip (Sel.skip (Sel.skip (Sel.take (Sel.none _)))) | exact Sel.skip (Sel.skip (Sel.skip (Sel.skip (Sel.take (Sel.none _)))))) (by omega) (by omega)) fun v47 => ?_
        refine JL_step rfl rfl rfl (step_assign Sub.rfl) ?_
        refine JL_nil ?_
        refine J_region ?_
        refine JL_step rfl rfl rfl (step_move Sub.rfl) ?_
        refine JL_step rfl rfl rfl (step_add Sub.rfl Sub.rfl ?sg1) ?_
        case sg1 => unfold in64; omega
        refine JL_step rfl rfl rfl (step_assign Sub.rfl) ?_
        refine JL_nil ?_
        refine K_againL (σ := Nat × Value) (s := (i, v)) (i + 1, v47) (by first | omega | (dsimp only; omega) | (simp_all; omega)) (by omega) (SubE.upd Sub.rfl (SubE.upd Sub.rfl (SubE.upd Sub.rfl (SubE.upd Sub.rfl (SubE.upd Sub.rfl SubE.any))))) (LSub.cons (by first | exact Sel.take (Sel.none _) | exact Sel.skip (Sel.take (Sel.none _)) | exact Sel.skip (Sel.skip (Sel.take (Sel.none _))) | exact Sel.skip (Sel.skip (Sel.skip (Sel.take (Sel.none _)))) | exact Sel.skip (Sel.skip (Sel.skip (Sel.skip (Sel.take (Sel.none _)))))) (own_eq (by rw [takeB hlt]; simp)) LSub.nil)
    · try simp only [decide_eq_true_eq, decide_eq_false_iff_not, Bool.and_eq_true, Bool.or_eq_true, Bool.and_eq_false_iff, Bool.or_eq_false_iff, Bool.not_eq_true', Bool.not_eq_false', Int.not_lt, Int.not_le, Bool.not_true, Bool.not_false] at h22
      refine J_exit ?_
      refine J_seq ?_
      refine J_region ?_
      refine JL_freeze (t := 6) (Sel.all _) (Frz.own' (ys := lowAll rules) (by obtain rfl : i = rules.length := (by omega); rw [List.take_length])) ?_
      refine JL_step rfl rfl rfl (step_move Sub.rfl) ?_
      refine JL_step rfl rfl rfl (step_move Sub.rfl) ?_
      refine JL_step rfl rfl rfl (step_call0 (Viol_spec H) ⟨Sub.rfl, Sub.rfl, trivial⟩ Tryz.call15) ?_
      refine JL_step rfl rfl rfl (step_move Sub.rfl) ?_
      refine JL_step rfl rfl rfl (step_extract Sub.rfl rfl) ?_
      refine JL_step rfl rfl rfl (step_extract Sub.rfl rfl) ?_
      refine JL_step rfl rfl rfl (step_assign Sub.rfl) ?_
      refine JL_step rfl rfl rfl (step_assign Sub.rfl) ?_
      refine JL_nil ?_
      refine J_seq ?_
      refine J_region ?_
      refine JL_step rfl rfl rfl (step_move Sub.rfl) ?_
      refine JL_step rfl rfl rfl (step_move Sub.rfl) ?_
      refine JL_step rfl rfl rfl (step_call0 (Viol_spec HL) ⟨Sub.rfl, Sub.rfl, trivial⟩ Tryz.call15) ?_
      refine JL_step rfl rfl rfl (step_move Sub.rfl) ?_
      refine JL_step rfl rfl rfl (step_extract Sub.rfl rfl) ?_
      refine JL_step rfl rfl rfl (step_extract Sub.rfl rfl) ?_
      refine JL_step rfl rfl rfl (step_assign Sub.rfl) ?_
      refine JL_step rfl rfl rfl (step_assign Sub.rfl) ?_
      refine JL_nil ?_
      refine J_seq ?_
      refine J_region ?_
      refine JL_step rfl rfl rfl (step_move Sub.rfl) ?_
      refine JL_step rfl rfl rfl (step_move Sub.rfl) ?_
      refine JL_stepG rfl rfl rfl (Gd.plain Sub.rfl) rfl rfl (fun hw => step_move Sub.rfl) ?_
      refine JL_stepG rfl rfl rfl (Gd.plain Sub.rfl) rfl rfl (fun hw => step_move Sub.rfl) ?_
      refine JL_stepG rfl rfl rfl (Gd.plain Sub.rfl) rfl rfl (fun hw => step_eql (Sub.w hw) (Sub.w hw)) ?_
      refine JL_step rfl rfl rfl (step_pick_and Sub.rfl Sub.rfl) ?_
      refine JL_step rfl rfl rfl (step_move Sub.rfl) ?_
      refine JL_stepG rfl rfl rfl (Gd.plain Sub.rfl) rfl rfl (fun hw => step_move Sub.rfl) ?_
      refine JL_stepG rfl rfl rfl (Gd.plain Sub.rfl) rfl rfl (fun hw => step_move Sub.rfl) ?_
      refine JL_stepG rfl rfl rfl (Gd.plain Sub.rfl) rfl rfl (fun hw => step_call0 (Sets_spec _ _ (Nat.le_trans (vio_len H) (by omega)) (Nat.le_trans (vio_len HL) (by omega)) (fun x hx => Nat.le_trans (vio_len3 H x hx) (by omega)) (fun x hx => Nat.le_trans (vio_len3 HL x hx) (by omega))) ⟨Sub.trans (Sub.w hw) Sub.ofEE, Sub.trans (Sub.w hw) Sub.ofEE, trivial⟩ Tryz.call19) ?_
      refine JL_step rfl rfl rfl (step_pick_and Sub.rfl Sub.rfl) ?_
      refine JL_step rfl rfl rfl (step_assign Sub.rfl) ?_
      refine JL_nil ?_
      refine J_ret ?_
      refine K_retv (rv := .tmp 4) rfl () (.tmp Sub.rfl) (Sub.bool ?_)
      rw [vio_low, setsB_iff.2 rfl]; rfl
end Lg

/- Pure theory: Dangling. -/
namespace Lg
open Go Go.Proofs

/-- A fold whose first component never falls back: where it ends false, nothing was done. -/
theorem fold_still {α : Type} {f : Bool × List Bool → α → Bool × List Bool} {ok : List Bool → α → Prop} (hf : ∀ s x, (f s x).1 = false → f s x = s ∧ ok s.2 x) : ∀ (l : List α) (s : Bool × List Bool), (l.foldl f s).1 = false → l.foldl f s = s ∧ ∀ x ∈ l, ok s.2 x
  | [], s, _ => ⟨rfl, fun _ h => by cases h⟩
  | x :: l, s, h => by
    obtain ⟨h1, h2⟩ := fold_still hf l (f s x) h
    rw [List.foldl_cons] at h
    rw [h1] at h
    obtain ⟨h3, h4⟩ := hf s x h
    refine ⟨by rw [List.foldl_cons, h1, h3], fun y hy => ?_⟩
    rcases List.mem_cons.1 hy with rfl | hy
    · exact h4
    · have := h2 y hy
      rwa [h3] at this
theorem fold_inv {α σ : Type} {f : σ → α → σ} {I : σ → Prop} : ∀ (l : List α) (s : σ), (∀ s x, x ∈ l → I s → I (f s x)) → I s → I (l.foldl f s)
  | [], s, _, h => h
  | x :: l, s, hf, h => fold_inv l (f s x) (fun s y hy => hf s y (by simp [hy])) (hf s x (by simp) h)
def okI (facts : List GFact) (d : GRule) (gs : List Bool) (i : Nat) : Prop := dSkip facts d gs i = true ∨ ((iota facts.length).any (offB facts d gs (colM (nth facts i) d.Col))) = true
theorem dStep_still {facts : List GFact} {d : GRule} (s : Bool × List Bool) (i : Nat) (h : (dStep facts d s i).1 = false) : dStep facts d s i = s ∧ okI facts d s.2 i := by
  unfold dStep at h ⊢
  by_cases h1 : dSkip facts d s.2 i = true
  · rw [if_pos h1]; exact ⟨rfl, .inl h1⟩
  · rw [if_neg h1] at h ⊢
    by_cases h2 : ((iota facts.length).any (offB facts d s.2 (colM (nth facts i) d.Col))) = true
    · rw [if_pos h2]; exact ⟨rfl, .inr h2⟩
    · rw [if_neg h2] at h; cases h
def okRule (facts : List GFact) (gs : List Bool) (d : GRule) : Prop := d.Kind = 3 → ∀ i, i < facts.length → okI facts d gs i
theorem dRule_still {facts : List GFact} (s : Bool × List Bool) (d : GRule) (h : (dRule facts s d).1 = false) : dRule facts s d = s ∧ okRule facts s.2 d := by
  unfold dRule at h ⊢
  by_cases hk : d.Kind = 3
  · rw [if_pos hk] at h ⊢
    obtain ⟨h1, h2⟩ := fold_still (ok := fun gs i => okI facts d gs i) (fun s x => dStep_still s x) _ _ h
    exact ⟨h1, fun _ i hi => h2 i (List.mem_range.2 hi)⟩
  · rw [if_neg hk]; exact ⟨rfl, fun q => absurd q hk⟩
theorem dRound_still {rules : List GRule} {facts : List GFact} {gs : List Bool} (h : (dRound rules facts gs).1 = false) : dRound rules facts gs = (false, gs) ∧ ∀ d ∈ rules, okRule facts gs d :=
  fold_still (ok := fun gs d => okRule facts gs d) (fun s x => dRule_still s x) rules (false, gs) h
theorem dRun_still {rules : List GRule} {facts : List GFact} : ∀ (k : Nat) (gs : List Bool), gs.length = facts.length → cntF gs < k → (dRun rules facts k gs).length = facts.length ∧ dRound rules facts (dRun rules facts k gs) = (false, dRun rules facts k gs)
  | 0, gs, _, h => absurd h (by omega)
  | k + 1, gs, hl, h => by
    have hr := dRules_rel rules (false, gs) hl
    have e : dRun rules facts (k + 1) gs = if (dRound rules facts gs).1 = true then dRun rules facts k (dRound rules facts gs).2 else (dRound rules facts gs).2 := rfl
    by_cases hc : (dRound rules facts gs).1 = true
    · rw [e, if_pos hc]
      have hlt : cntF (dRound rules facts gs).2 < cntF gs := by
        rcases hr.2.2 hc with q | q
        · cases q
        · exact q
      exact dRun_still k _ (hr.1.trans hl) (by omega)
    · rw [e, if_neg hc]
      have hf : (dRound rules facts gs).1 = false := by simpa using hc
      have h1 := (dRound_still hf).1
      rw [h1]
      exact ⟨hl, h1⟩
theorem gone_len (rules : List GRule) (facts : List GFact) : (goneM rules facts).length = facts.length := (dRun_still _ _ (by simp) (by rw [cntF_rep]; omega)).1
theorem gone_ok (rules : List GRule) (facts : List GFact) : ∀ d ∈ rules, okRule facts (goneM rules facts) d := by
  have h := (dRun_still (rules := rules) (facts := facts) (facts.length + 1) (List.replicate facts.length false) (by simp) (by rw [cntF_rep]; omega)).2
  exact (dRound_still (rules := rules) (facts := facts) (gs := goneM rules facts) (by rw [goneM, h])).2
/-- Rule d asks a fact f for another one that offers its value. -/
def Asks (d : GRule) (f : GFact) : Prop := d.Kind = 3 ∧ f.Table = d.Table ∧ (colM f d.Col).Kind ≠ 0
def Offers (d : GRule) (f g : GFact) : Prop := g.Table = d.Other ∧ testV (colM f d.Col) 1 (colM g d.OtherCol) 0 = true
/-- A set of facts in which each finds what its rules ask for. -/
def Held (rules : List GRule) (facts : List GFact) (S : Nat → Prop) : Prop := ∀ i, i < facts.length → S i → ∀ d ∈ rules, Asks d (nth facts i) → ∃ k, k < facts.length ∧ S k ∧ Offers d (nth facts i) (nth facts k)
theorem offB_iff {facts : List GFact} {d : GRule} {gs : List Bool} {v : GValue} : ((iota facts.length).any (offB facts d gs v)) = true ↔ ∃ k, k < facts.length ∧ (nth facts k).Table = d.Other ∧ nth gs k = false ∧ testV v 1 (colM (nth facts k) d.OtherCol) 0 = true := by
  rw [List.any_eq_true]
  constructor
  · rintro ⟨x, hx, h⟩
    have := iota_mem hx
    simp only [offB, Bool.and_eq_true, decide_eq_true_eq, Bool.not_eq_true'] at h
    exact ⟨x.toNat, by omega, h.1.1, h.1.2, h.2⟩
  · rintro ⟨k, hk, h1, h2, h3⟩
    refine ⟨(k : Int), iota_mem_iff.2 (by omega), ?_⟩
    simp only [offB, Bool.and_eq_true, decide_eq_true_eq, Bool.not_eq_true', Int.toNat_natCast]
    exact ⟨⟨h1, h2⟩, h3⟩
theorem skip_iff {facts : List GFact} {d : GRule} {gs : List Bool} {i : Nat} : dSkip facts d gs i = true ↔ (nth facts i).Table ≠ d.Table ∨ nth gs i = true ∨ (colM (nth facts i) d.Col).Kind = 0 := by
  simp only [dSkip, Bool.or_eq_true, Bool.not_eq_true', decide_eq_false_iff_not, decide_eq_true_eq, or_assoc, ne_eq]
/-- Who is left finds what it asks for. -/
theorem gone_held (rules : List GRule) (facts : List GFact) : Held rules facts fun i => nth (goneM rules facts) i = false := by
  intro i hi hs d hd ha
  rcases gone_ok rules facts d hd ha.1 i hi with h | h
  · rcases skip_iff.1 h with h | h | h
    · exact absurd ha.2.1 h
    · rw [hs] at h; cases h
    · exact absurd h ha.2.2
  · obtain ⟨k, hk, h1, h2, h3⟩ := offB_iff.1 h
    exact ⟨k, hk, h2, h1, h3⟩
/-- And whoever finds what he asks for is left. -/
theorem held_left {rules : List GRule} {facts : List GFact} {S : Nat → Prop} (hS : Held rules facts S) : ∀ i, i < facts.length → S i → nth (goneM rules facts) i = false := by
  let I : List Bool → Prop := fun gs => gs.length = facts.length ∧ ∀ i, i < facts.length → S i → nth gs i = false
  have hstep : ∀ (d : GRule), d ∈ rules → d.Kind = 3 → ∀ (s : Bool × List Bool) (i : Nat), i < facts.length → I s.2 → I (dStep facts d s i).2 := by
    intro d hd hk s i hi ⟨hl, hI⟩
    unfold dStep
    by_cases h1 : dSkip facts d s.2 i = true
    · rw [if_pos h1]; exact ⟨hl, hI⟩
    · rw [if_neg h1]
      by_cases h2 : ((iota facts.length).any (offB facts d s.2 (colM (nth facts i) d.Col))) = true
      · rw [if_pos h2]; exact ⟨hl, hI⟩
      · rw [if_neg h2]
        refine ⟨by simp [hl], fun j hj hs => ?_⟩
        rw [nth_set (by omega)]
        by_cases e : i = j
        · exfalso
          subst e
          rw [skip_iff] at h1
          have h1' : (nth facts i).Table = d.Table ∧ (colM (nth facts i) d.Col).Kind ≠ 0 := ⟨Classical.byContradiction fun q => h1 (.inl q), fun q => h1 (.inr (.inr q))⟩
          obtain ⟨k, hk1, hk2, hk3⟩ := hS i hi hs d hd ⟨hk, h1'.1, h1'.2⟩
          exact h2 (offB_iff.2 ⟨k, hk1, hk3.1, hI k hk1 hk2, hk3.2⟩)
        · rw [if_neg e]; exact hI j hj hs
  have hrule : ∀ (d : GRule), d ∈ rules → ∀ (s : Bool × List Bool), I s.2 → I (dRule facts s d).2 := by
    intro d hd s hs
    unfold dRule
    by_cases hk : d.Kind = 3
    · rw [if_pos hk]
      exact fold_inv (I := fun s => I s.2) _ _ (fun s i hi hI => hstep d hd hk s i (List.mem_range.1 hi) hI) hs
    · rw [if_neg hk]; exact hs
  have hround : ∀ gs, I gs → I (dRound rules facts gs).2 := fun gs hI => fold_inv (I := fun s => I s.2) rules (false, gs) (fun s d hd hs => hrule d hd s hs) hI
  have hrun : ∀ k gs, I gs → I (dRun rules facts k gs) := by
    intro k
    induction k with
    | zero => exact fun gs h => h
    | succ k ih =>
      intro gs h
      have h2 := hround gs h
      show I (if (dRound rules facts gs).1 = true then dRun rules facts k (dRound rules facts gs).2 else (dRound rules facts gs).2)
      split
      · exact ih _ h2
      · exact h2
  have := hrun (facts.length + 1) (List.replicate facts.length false) ⟨by simp, fun i hi _ => by rw [nth_get (by simpa using hi)]; simp⟩
  exact fun i hi hs => this.2 i hi hs
theorem danM_iff {rules : List GRule} {facts : List GFact} {x : Int} : x ∈ danM rules facts ↔ (0 ≤ x ∧ x < facts.length) ∧ nth (goneM rules facts) x.toNat = true := by
  rw [danM, List.mem_filter, iota_mem_iff]
  simp
theorem danM_srt (rules : List GRule) (facts : List GFact) : Srt (danM rules facts) := (iota_srt _).filter _
/-- All of a list find what they ask for. -/
def AllHeld (rules : List GRule) (L : List GFact) : Prop := ∀ f ∈ L, ∀ d ∈ rules, Asks d f → ∃ g ∈ L, Offers d f g
theorem mem_nth {α : Type} [Inhabited α] {l : List α} {x : α} (h : x ∈ l) : ∃ i, i < l.length ∧ nth l i = x := by
  obtain ⟨i, hi, e⟩ := List.getElem_of_mem h
  exact ⟨i, hi, by rw [nth_get hi]; exact e⟩
theorem danM_nil {rules : List GRule} {L : List GFact} : danM rules L = [] ↔ AllHeld rules L := by
  constructor
  · intro h f hf d hd ha
    obtain ⟨i, hi, rfl⟩ := mem_nth hf
    have hn : ∀ j, j < L.length → nth (goneM rules L) j = false := fun j hj => by
      cases hg : nth (goneM rules L) j with
      | false => rfl
      | true =>
        have : (j : Int) ∈ danM rules L := danM_iff.2 ⟨by omega, by simpa using hg⟩
        rw [h] at this; cases this
    obtain ⟨k, hk, _, h2⟩ := gone_held rules L i hi (hn i hi) d hd ha
    exact ⟨_, nth_mem hk, h2⟩
  · intro h
    have := held_left (rules := rules) (facts := L) (S := fun _ => True) (fun i hi _ d hd ha => by
      obtain ⟨g, hg, ho⟩ := h _ (nth_mem hi) d hd ha
      obtain ⟨k, hk, rfl⟩ := mem_nth hg
      exact ⟨k, hk, trivial, ho⟩)
    refine List.eq_nil_iff_forall_not_mem.2 fun x hx => ?_
    obtain ⟨h1, h2⟩ := danM_iff.1 hx
    rw [this x.toNat (by omega) trivial] at h2
    cases h2
/-- The facts at some places. -/
def pick (facts : List GFact) (p : Nat → Bool) (n : Nat) : List GFact := ((List.range n).filter p).map (nth facts)
theorem pick_succ (facts : List GFact) (p : Nat → Bool) (n : Nat) : pick facts p (n + 1) = pick facts p n ++ if p n = true then [nth facts n] else [] := by
  unfold pick
  rw [List.range_succ, List.filter_append, List.map_append]
  by_cases h : p n = true <;> simp [h]
theorem pick_len (facts : List GFact) (p : Nat → Bool) (n : Nat) : (pick facts p n).length ≤ n := by
  unfold pick
  rw [List.length_map]
  exact Nat.le_trans (List.length_filter_le _ _) (by simp)
theorem pick_mem {facts : List GFact} {p : Nat → Bool} {n : Nat} {f : GFact} : f ∈ pick facts p n ↔ ∃ i, i < n ∧ p i = true ∧ nth facts i = f := by
  simp [pick, List.mem_map, List.mem_filter, and_assoc]
theorem rest_held (rules : List GRule) (facts : List GFact) : danM rules (pick facts (fun i => !(danM rules facts).contains (i : Int)) facts.length) = [] := by
  rw [danM_nil]
  intro f hf d hd ha
  obtain ⟨i, hi, hp, rfl⟩ := pick_mem.1 hf
  have key : ∀ j, j < facts.length → ((!(danM rules facts).contains (j : Int)) = true ↔ nth (goneM rules facts) j = false) := by
    intro j hj
    rw [Bool.not_eq_true', ← Bool.not_eq_true, List.contains_iff_mem, danM_iff, Int.toNat_natCast]
    cases nth (goneM rules facts) j with
    | false => simp
    | true =>
      constructor
      · intro h; exact absurd ⟨⟨by omega, by omega⟩, rfl⟩ h
      · intro h; cases h
  obtain ⟨k, hk, h1, h2⟩ := gone_held rules facts i hi ((key i hi).1 hp) d hd ha
  exact ⟨_, pick_mem.2 ⟨k, hk, (key k hk).2 h1, rfl⟩, h2⟩
theorem part_held {rules : List GRule} {facts : List GFact} {q : Nat → Bool} (h : danM rules (pick facts q facts.length) = []) : ∀ i, i < facts.length → q i = true → (i : Int) ∉ danM rules facts := by
  rw [danM_nil] at h
  have := held_left (rules := rules) (facts := facts) (S := fun i => q i = true) (fun i hi hs d hd ha => by
    obtain ⟨g, hg, ho⟩ := h _ (pick_mem.2 ⟨i, hi, hs, rfl⟩) d hd ha
    obtain ⟨k, hk, hq, rfl⟩ := pick_mem.1 hg
    exact ⟨k, hk, hq, ho⟩)
  intro i hi hs hd
  have h2 := (danM_iff.1 hd).2
  rw [Int.toNat_natCast, this i hi hs] at h2
  cases h2
end Lg

/- Pure theory: each violation is least. -/
namespace Lg
open Go Go.Proofs
theorem srt_sub : ∀ {s t : List Int}, Srt s → Srt t → (∀ x ∈ s, x ∈ t) → s.Sublist t
  | [], t, _, _, _ => List.nil_sublist t
  | a :: s, [], _, _, h => absurd (h a (by simp)) (by simp)
  | a :: s, b :: t, hs, ht, h => by
    have hs' := List.pairwise_cons.1 hs
    have ht' := List.pairwise_cons.1 ht
    by_cases e : a = b
    · subst e
      refine (srt_sub hs'.2 ht'.2 fun x hx => ?_).cons_cons a
      rcases List.mem_cons.1 (h x (by simp [hx])) with q | q
      · have := hs'.1 x hx; omega
      · exact q
    · refine (srt_sub hs ht'.2 fun x hx => ?_).cons b
      have ha : a ∈ t := by
        rcases List.mem_cons.1 (h a (by simp)) with q | q
        · exact absurd q e
        · exact q
      have hab := ht'.1 a ha
      rcases List.mem_cons.1 (h x hx) with q | q
      · rcases List.mem_cons.1 hx with q2 | q2
        · omega
        · have := hs'.1 x q2; omega
      · exact q
theorem okt_all {rules : List GRule} {facts : List GFact} (H : VHyp rules facts) : Okt (allW rules facts) := H.hw
theorem vio_w {rules : List GRule} {facts : List GFact} (H : VHyp rules facts) {v : List Int} (h : v ∈ vioM rules facts) : v ∈ allW rules facts ∧ v ≠ [] ∧ v.length ≤ 3 ∧ Srt v ∧ ∀ x ∈ v, 0 ≤ x ∧ x < (facts.length : Int) := by
  have h1 := minM_mem h
  obtain ⟨a, b, c, d⟩ := wits_ok (iota_srt _) h1
  exact ⟨h1, a, b, c, fun x hx => iota_mem (d x hx)⟩
theorem vio_not {rules : List GRule} {facts : List GFact} (H : VHyp rules facts) {v : List Int} (h : v ∈ vioM rules facts) : consM rules facts v = false := by
  rw [← Bool.not_eq_true, consM_iff]
  rintro ⟨_, h2⟩
  exact h2 v (vio_w H h).1 fun x hx => hx
theorem vio_rest {rules : List GRule} {facts : List GFact} (H : VHyp rules facts) {v : List Int} (h : v ∈ vioM rules facts) {k : Nat} (hk : k < v.length) : consM rules facts (v.take k ++ v.drop (k + 1)) = true := by
  obtain ⟨h1, h2, h3, h4, h5⟩ := vio_w H h
  have hsub : (v.take k ++ v.drop (k + 1)).Sublist v := by
    conv => rhs; rw [← List.take_append_drop k v]
    refine List.Sublist.append (List.Sublist.refl _) ?_
    rw [dropB hk]
    exact List.sublist_cons_self _ _
  have hlen : (v.take k ++ v.drop (k + 1)).length < v.length := by simp; omega
  have hsrt : Srt (v.take k ++ v.drop (k + 1)) := List.Pairwise.sublist hsub h4
  rw [consM_iff]
  refine ⟨⟨hsrt, fun x hx => h5 x (hsub.subset hx)⟩, fun s hs hin => ?_⟩
  obtain ⟨q1, _, q3, _⟩ := wits_ok (iota_srt _) hs
  have hss := (srt_sub q3 hsrt hin)
  have hle := hss.length_le
  exact ((minM_iff (okt_all H)).1 h).2 s (hss.trans hsub) q1 (fun e => by rw [e] at hle; omega) hs
theorem vio_less {rules : List GRule} {facts : List GFact} {i : Nat} (h0 : 0 < i) (hi : i < (vioM rules facts).length) : ltL (nth (vioM rules facts) (i - 1)) (nth (vioM rules facts) i) = true := by
  rw [ltL_iff, nth_get hi, nth_get (show i - 1 < _ by omega)]
  exact List.pairwise_iff_getElem.1 (minM_strict _) _ _ _ _ (by omega)
theorem min_ok {rules : List GRule} {facts : List GFact} (H : VHyp rules facts) {i : Nat} (hi : i < (vioM rules facts).length) :
    (((decide (((nth (vioM rules facts) i).length : Int) < 1) || decide (((nth (vioM rules facts) i).length : Int) > 3)) || consM rules facts (nth (vioM rules facts) i)) || (decide ((i : Int) > 0) && !ltL (nth (vioM rules facts) (i - 1)) (nth (vioM rules facts) i))) = false := by
  have hm := nth_mem hi
  obtain ⟨h1, h2, h3, _⟩ := vio_w H hm
  have h4 := List.length_pos_iff.2 h2
  rw [vio_not H hm]
  by_cases h0 : 0 < i
  · rw [vio_less h0 hi]
    simp; omega
  · have : i = 0 := by omega
    subst this
    simp; omega
end Lg

/- Pure theory: consistent, violations, edges. -/
namespace Lg
open Go Go.Proofs
abbrev cts (l : List (List Int)) (set : List Int) : Bool := l.any fun b => b.all fun x => set.contains x
theorem cts_iff {l : List (List Int)} {set : List Int} : cts l set = true ↔ ∃ b ∈ l, ∀ x ∈ b, x ∈ set := by
  simp [cts, List.any_eq_true, List.all_eq_true]
/-- The minimal sets serve as well as all. -/
theorem cts_min {tot : List (List Int)} (ht : Okt tot) (hne : ∀ s ∈ tot, s ≠ []) {set : List Int} : cts (minM tot) set = cts tot set := by
  rw [Bool.eq_iff_iff, cts_iff, cts_iff]
  constructor
  · rintro ⟨b, hb, h⟩; exact ⟨b, minM_mem hb, h⟩
  · rintro ⟨b, hb, h⟩
    obtain ⟨t, h1, h2⟩ := minM_below ht hb (hne b hb)
    exact ⟨t, h1, fun x hx => h x (h2.subset hx)⟩
theorem cons_cts {rules : List GRule} {facts : List GFact} (H : VHyp rules facts) {set : List Int} (hs : Srt set) (hin : ∀ x ∈ set, 0 ≤ x ∧ x < (facts.length : Int)) : consM rules facts set = !cts (vioM rules facts) set := by
  have e : cts (vioM rules facts) set = cts (allW rules facts) set := cts_min (okt_all H) fun s hs => (wits_ok (iota_srt _) hs).1
  rw [e]
  cases hc : cts (allW rules facts) set with
  | true =>
    obtain ⟨b, hb, h⟩ := cts_iff.1 hc
    rw [Bool.not_true, ← Bool.not_eq_true, consM_iff]
    exact fun h2 => h2.2 b hb h
  | false =>
    rw [Bool.not_false, consM_iff]
    refine ⟨⟨hs, hin⟩, fun s hs h => ?_⟩
    have : cts (allW rules facts) set = true := cts_iff.2 ⟨s, hs, h⟩
    rw [hc] at this; cases this
theorem edg_cts {rules : List GRule} {facts : List GFact} (H : VHyp rules facts) {set : List Int} (hs : Srt set) (hin : ∀ x ∈ set, 0 ≤ x ∧ x < (facts.length : Int)) :
    cts (minM (edgM rules facts)) set = (!consM rules facts set || (danM rules facts).any fun x => set.contains x) := by
  rw [cons_cts H hs hin, Bool.not_not, cts_min (edgM_in H) (fun s hs => by
    rcases List.mem_append.1 hs with h | h
    · obtain ⟨d, _, rfl⟩ := List.mem_map.1 h; simp
    · exact (vio_w H h).2.1)]
  simp only [edgM, edgT, cts, List.any_append, List.any_map, Function.comp_def, List.all_cons, List.all_nil, Bool.and_true]
  rw [Bool.or_comm]
theorem conf_len {rules : List GRule} {facts : List GFact} (H : VHyp rules facts) : (confG rules facts).Edges.length ≤ 20100 ∧ ∀ x ∈ (confG rules facts).Edges, x.length ≤ 3 := by
  unfold confG
  split
  · exact ⟨by simp [zGraph], fun x hx => by simp [zGraph] at hx⟩
  · exact ⟨Nat.le_trans (minM_len _) (edgM_len H), fun x hx => (edgM_in H x (minM_mem hx)).1⟩
/-- What the law asks at its end. -/
theorem comp_end {rules : List GRule} {facts : List GFact} (H : VHyp rules facts) {set : List Int} (hs : Srt set) (hin : ∀ x ∈ set, 0 ≤ x ∧ x < (facts.length : Int)) :
    (true && (decide (confE facts = 1) || ((decide (confE facts = 0) && decide ((confG rules facts).N = (facts.length : Int))) && (cts (confG rules facts).Edges set == (!consM rules facts set || (danM rules facts).any fun x => set.contains x))))) = true := by
  by_cases hb : facts.any badC = true
  · have : confE facts = 1 := if_pos hb
    rw [this]; rfl
  · have h1 : confE facts = 0 := if_neg hb
    have h2 : confG rules facts = ⟨facts.length, facts.map GFact.Cost, minM (edgM rules facts)⟩ := if_neg hb
    rw [h1, h2, ← edg_cts H hs hin]
    simp
end Lg

/- Regions that draw their order and change no own memory: own memory may be looked at in any order. -/
namespace Lg
open Go
def JN (C : Cx) (ops : Array Oper) (k : Env → Prop) (L : List SP) : List It → Env → Prop
  | [], E => k E
  | ⟨i, ts, _⟩ :: its, E => ∃ o A, ops[i]? = some o ∧ ltO o.dst C.N = true ∧ StepG C ops o (restr ts E) L A ∧ JN C ops k L its (updO E o.dst A)
section
variable {C : Cx} {ops : Array Oper} {k : Env → Prop} {its : List It} {E : Env} {L : List SP} {i : Nat} {ts : List Nat} {f : Bool} {o : Oper}
theorem JN_nil (h : k E) : JN C ops k L [] E := h
theorem JN_step {A : Ty} {d : Nat} (ho : ops.toList[i]? = some o) (hg : o.guard = none) (hd : o.dst = some d) (hN : Nat.blt d C.N = true) (hs : Step1 C o (restr ts E) L A)
    (hk : JN C ops k L its (upd E d A)) : JN C ops k L (⟨i, ts, f⟩ :: its) E :=
  ⟨o, A, by simpa using ho, by rw [hd]; exact hN, .inl ⟨hg, hs⟩, by rw [hd]; exact hk⟩
theorem JN_stepG {B : Ty} {d j t : Nat} {b w : Bool} {og : Oper} (ho : ops.toList[i]? = some o) (hg : o.guard = some (j, b)) (hj : ops.toList[j]? = some og) (ht : og.dst = some t) (hc : Gd (restr ts E t) b w) (hd : o.dst = some d) (hN : Nat.blt d C.N = true)
    (hs : w = true → Step1 C o (restr ts E) L B) (hk : JN C ops k L its (upd E d (tW w B))) : JN C ops k L (⟨i, ts, f⟩ :: its) E :=
  ⟨o, tW w B, by simpa using ho, by rw [hd]; exact hN, .inr ⟨j, b, og, t, w, B, hg, by simpa using hj, ht, hc, rfl, hs⟩, by rw [hd]; exact hk⟩
end
theorem JN_pull {C : Cx} {ops : Array Oper} {k : Env → Prop} {L : List SP} : ∀ {l1 : List It} {b : It} {l2 : List It} {E : Env},
    (∀ a ∈ l1, okPair (plOf ops.toList a) (plOf ops.toList b) = true) → (∀ a ∈ l1, a.i ∉ aftOf ops.toList b.i) → JN C ops k L (l1 ++ b :: l2) E → JN C ops k L (b :: (l1 ++ l2)) E
  | [], _, _, _, _, _, h => h
  | ⟨ia, ta, fa⟩ :: l1, ⟨ib, tb, fb⟩, l2, E, hp, hn, h => by
    obtain ⟨oa, A, ha, hla, hsa, hk⟩ := h
    have ih := JN_pull (fun a m => hp a (by simp [m])) (fun a m => hn a (by simp [m])) hk
    have hpair := hp ⟨ia, ta, fa⟩ (by simp)
    have hna := hn ⟨ia, ta, fa⟩ (by simp)
    have hda : dstOf ops.toList ia = oa.dst := by simp [dstOf, ha]
    have hpair' : inO oa.dst tb = false ∧ inO (dstOf ops.toList ib) ta = false ∧ eqO oa.dst (dstOf ops.toList ib) = false := by
      simp only [okPair, plOf, hda, Bool.and_eq_true, Bool.or_eq_true, Bool.not_eq_true', memN_iff] at hpair
      rcases hpair.2 with q | q
      · exact absurd q hna
      · exact ⟨q.1.1, q.1.2, q.2⟩
    obtain ⟨p1, p2, p3⟩ := hpair'
    obtain ⟨ob, B, hb, hlb, hsb, hkb⟩ := ih
    have hdb : dstOf ops.toList ib = ob.dst := by simp [dstOf, hb]
    rw [hdb] at p2 p3
    refine ⟨ob, B, hb, hlb, hsb.same (restr_updO p1), oa, A, ha, hla, hsa.same (restr_updO p2).symm, ?_⟩
    rw [updO_comm p3] at hkb
    exact hkb
theorem wpAny_JN {C : Cx} {ops : Array Oper} {Q : Exit → Act → World → Prop} {L : List SP} : ∀ (fuel : Nat) (its : List It) (listed : Array Bool) (E : Env), its.length ≤ fuel → listed.size = ops.size →
    (∀ i, i < ops.size → (listed.getD i true = false ↔ ∃ x ∈ its, x.i = i)) → okPls (its.map (plOf ops.toList)) = true → (∀ x ∈ its, x.i < ops.size ∧ ∀ e ∈ aftOf ops.toList x.i, e < x.i) →
    (∀ x ∈ its, x.free = true) → JN C ops (fun E' => K C (Q .normal) E' L) L its E → K C (fun a w => wpAnyIn (Fw C.ro) 0 C.P .any ops Q fuel listed a w) E L := by
  intro fuel
  induction fuel with
  | zero =>
    intro its listed E hlen hsz hin _ _ _ hJ
    have : its = [] := List.length_eq_zero_iff.1 (by omega)
    subst this
    intro a w p
    refine ⟨?_, hJ a w p⟩
    rw [List.eq_nil_iff_forall_not_mem]
    intro i hi
    obtain ⟨h1, h2, _⟩ := mem_ready.1 hi
    obtain ⟨x, hx, _⟩ := (hin i h1).1 h2
    cases hx
  | succ fuel ih =>
    intro its listed E hlen hsz hin hok hlt hfr hJ
    -- if nothing is ready, nothing is left
    have hdone : Region.ready .any ops listed = [] → its = [] := by
      intro hr
      have hall : ∀ i, i < ops.size → listed.getD i true = true := by
        intro i
        induction i using Nat.strongRecOn with
        | _ i ihi =>
          intro hi
          cases hl : listed.getD i true with
          | true => rfl
          | false =>
            have ho : ops[i]? = some ops[i] := Array.getElem?_eq_getElem hi
            obtain ⟨x, hx, hxi⟩ := (hin i hi).1 hl
            have h1 := (hlt x hx).2
            rw [hxi] at h1
            have hm : i ∈ Region.ready .any ops listed := mem_ready.2 ⟨hi, hl, _, ho, fun e he => by
              have he' : e < i := h1 e (by simpa [aftOf, hi] using he)
              rw [getD_any (by omega) false true]
              exact ihi e he' (by omega)⟩
            rw [hr] at hm; cases hm
      match its with
      | [] => rfl
      | x :: _ =>
        have h1 := (hlt x (by simp)).1
        have := (hin x.i h1).2 ⟨x, by simp, rfl⟩
        rw [hall x.i h1] at this; cases this
    intro a w p
    refine ⟨fun hr => ?_, fun i hi => ?_⟩
    · have := hdone hr
      subst this
      exact hJ a w p
    · obtain ⟨hlti, hnl, o, ho, haft⟩ := mem_ready.1 hi
      obtain ⟨b, hb, hbi⟩ := (hin i hlti).1 hnl
      obtain ⟨l1, l2, rfl⟩ := List.append_of_mem hb
      have hoi : ops.toList[b.i]? = some o := by rw [hbi]; simpa using ho
      have haft' : aftOf ops.toList b.i = aftN o := by simp only [aftOf, hoi]
      -- what is left is not listed
      have hleft : ∀ x ∈ l1 ++ b :: l2, x.i ∉ aftOf ops.toList b.i := fun x hx hm => by
        rw [haft'] at hm
        have h1 := haft _ hm
        have h2 := (hlt x hx).1
        have h3 := (hin x.i h2).2 ⟨x, hx, rfl⟩
        rw [getD_any (by omega) true false, h1] at h3; cases h3
      rw [List.map_append, List.map_cons] at hok
      have hpair : ∀ a ∈ l1, okPair (plOf ops.toList a) (plOf ops.toList b) = true := fun a ha => okPls_pair hok _ (List.mem_map_of_mem ha)
      have hfree : ∀ a ∈ l1, a.free = true := fun x hx => hfr x (by simp [hx])
      have hJ' := JN_pull hpair (fun a ha => hleft a (by simp [ha])) hJ
      have hsub : ∀ x ∈ l1 ++ l2, x ∈ l1 ++ b :: l2 := fun x hx => by
        rcases List.mem_append.1 hx with hx | hx <;> simp [hx]
      have hpairs : ∀ x ∈ l1 ++ l2, x.i ≠ b.i := fun x hx => by
        rcases List.mem_append.1 hx with hx | hx
        · have := hpair x hx
          simp only [okPair, plOf, Bool.and_eq_true, Bool.not_eq_true'] at this
          intro e; rw [e] at this; simp at this
        · have h2 : ∀ {l1 : List Pl} {b : Pl} {l2 : List Pl}, okPls (l1 ++ b :: l2) = true → okPls (b :: l2) = true := by
            intro l1
            induction l1 with
            | nil => intro b l2 h; exact h
            | cons c l1 ih => intro b l2 h; simp only [List.cons_append, okPls, Bool.and_eq_true] at h; exact ih h.2
          have := h2 hok
          simp only [okPls, Bool.and_eq_true, List.all_eq_true] at this
          have := this.1.1 _ (List.mem_map_of_mem hx)
          simp only [okPair, plOf, Bool.and_eq_true, Bool.not_eq_true'] at this
          intro e; rw [e] at this; simp at this
      have rest : ∀ E', JN C ops (fun E' => K C (Q .normal) E' L) L (l1 ++ l2) E' → K C (fun a w => wpAnyIn (Fw C.ro) 0 C.P .any ops Q fuel (listed.setIfInBounds i true) a w) E' L := by
        intro E' hk
        refine ih (l1 ++ l2) _ E' (by simp only [List.length_append, List.length_cons] at hlen ⊢; omega) (by simpa using hsz) (fun j hj => ?_) (by
          rw [List.map_append]
          exact okPls_sub hok fun x hx => (List.mem_map.1 hx).elim fun y hy => hy.2 ▸ hfree y hy.1) (fun x hx => hlt x (hsub x hx)) (fun x hx => hfr x (hsub x hx)) hk
        by_cases hji : i = j
        · subst hji
          rw [getD_set_same (by omega)]
          constructor
          · intro h; cases h
          · rintro ⟨x, hx, e⟩
            exact absurd (e.trans hbi.symm) (hpairs x hx)
        · rw [getD_set_ne hji, hin j hj]
          constructor
          · rintro ⟨x, hx, e⟩
            refine ⟨x, ?_, e⟩
            rcases List.mem_append.1 hx with hx | hx
            · simp [hx]
            · rcases List.mem_cons.1 hx with rfl | hx
              · exact absurd (hbi.symm.trans e) hji
              · simp [hx]
          · rintro ⟨x, hx, e⟩
            exact ⟨x, hsub x hx, e⟩
      obtain ⟨bi, tb, fb⟩ := b
      simp only at hbi hoi
      subst hbi
      have ho' : ops[bi]? = some o := ho
      obtain ⟨o', A, ho2, hl, hs, hk⟩ := hJ'
      rw [ho'] at ho2; cases ho2
      exact hs.op ho' hl (rest _ hk) a w p

theorem J_drawN {C : Cx} {id : Nat} {ops : Array Oper} (its : List It) {Q : Exit → Act → World → Prop} {E : Env} {L : List SP} (hmix : C.P.follows .mixedOrders = true) (hok : okM ops.toList its = true) (hfr : its.all (·.free) = true)
    (hJ : JN C ops (fun E' => K C (Q .normal) E' L) L its E) : J C (.region id ops true) Q E L := fun a w p => by
  refine wpIn_region_draw (fun t => ?_)
  simp only [Region.schedule, hmix, Bool.true_or, if_true]
  refine wpAnyIn_sound ops.size t _ a _ ?_
  simp only [okM, Bool.and_eq_true, List.all_eq_true, List.any_eq_true] at hok
  obtain ⟨⟨⟨h1, h2⟩, h3⟩, h4⟩ := hok
  have h5 : ∀ x ∈ its, x.i < ops.size := fun x hx => by have := h4 x hx; simpa using this
  have hnd : (its.map (·.i)).Nodup := by
    have : ∀ {l : List It}, okPls (l.map (plOf ops.toList)) = true → (l.map (·.i)).Nodup := by
      intro l
      induction l with
      | nil => intro _; simp
      | cons x l ih =>
        intro h
        simp only [List.map_cons, okPls, Bool.and_eq_true, List.all_eq_true] at h
        simp only [List.map_cons, List.nodup_cons]
        refine ⟨fun hm => ?_, ih h.2⟩
        obtain ⟨y, hy, e⟩ := List.mem_map.1 hm
        have := h.1.1 _ (List.mem_map_of_mem hy)
        simp only [okPair, plOf, Bool.and_eq_true, Bool.not_eq_true'] at this
        rw [e] at this; simp at this
    exact this h1
  have hlen : its.length ≤ ops.size := by
    have := nodup_le hnd (n := ops.size) (fun i hi => by
      obtain ⟨x, hx, rfl⟩ := List.mem_map.1 hi
      exact h5 x hx)
    simpa using this
  refine wpAny_JN ops.size its _ E hlen (by simp) (fun i hi => ?_) h1 (fun x hx => ⟨h5 x hx, fun e he => ?_⟩) (fun x hx => List.all_eq_true.1 hfr x hx) hJ a _ ?_
  · constructor
    · intro _
      obtain ⟨x, hx, e⟩ := h3 i (by simpa using hi)
      exact ⟨x, hx, (Nat.eq_of_beq_eq_true e).symm⟩
    · intro _; simp [Array.getD_eq_getD_getElem?, hi]
  · have := h2 _ (List.mem_map_of_mem hx) e he
    simpa [plOf] using this
  · obtain ⟨hsz, hds, h, m, hl, sp, st, fr⟩ := p
    exact ⟨hsz, hds, h, m, hl.trans (HL.same (Same.drew _)), ⟨sp.hm, sp.hr, sp.mr, sp.hw, sp.mw, sp.rw⟩, st, fr⟩
end Lg

namespace Lg
open Go Go.Proofs


abbrev leL (a b : List Int) : Prop := cmpL a b ≤ 0
theorem leL_trans {a b c : List Int} (h1 : leL a b) (h2 : leL b c) : leL a c := (cmpL_trans a b c h1 h2).1
theorem leL_not {a b : List Int} (h : ltL a b = false) : leL b a := by
  have h1 : ¬ cmpL a b < 0 := fun q => by rw [(ltL_iff a b).2 q] at h; cases h
  have := cmpL_anti a b
  show cmpL b a ≤ 0
  omega
theorem leL_of {a b : List Int} (h : ltL a b = true) : leL a b := by
  have := (ltL_iff a b).1 h
  show cmpL a b ≤ 0
  omega
def swapL (out : List (List Int)) (k : Nat) : List (List Int) := (out.set k (nth out (k - 1))).set (k - 1) (nth out k)
theorem swap_perm {out : List (List Int)} {k : Nat} (h0 : 0 < k) (hk : k < out.length) : (swapL out k).Perm out := by
  unfold swapL
  rw [nth_get hk, nth_get (show k - 1 < out.length by omega)]
  exact List.set_set_perm hk (by omega)
theorem swap_nth {out : List (List Int)} {k j : Nat} (h0 : 0 < k) (hk : k < out.length) (hj : j < out.length) : nth (swapL out k) j = if j = k - 1 then nth out k else if j = k then nth out (k - 1) else nth out j := by
  unfold swapL
  rw [nth_set (by simpa using hj), nth_set hj]
  by_cases e1 : k - 1 = j
  · subst e1; simp
  · rw [if_neg e1, if_neg (Ne.symm e1)]
    by_cases e2 : k = j
    · subst e2; simp
    · rw [if_neg e2, if_neg (Ne.symm e2)]
def sInv (l out : List (List Int)) (i : Nat) : Prop := out.Perm l ∧ ∀ a b, a < b → b < i → b < out.length → leL (nth out a) (nth out b)
def kInv (l out : List (List Int)) (i k : Nat) : Prop := out.Perm l ∧ k ≤ i ∧ i < out.length ∧ ∀ a b, a < b → b ≤ i → b ≠ k → leL (nth out a) (nth out b)
theorem kInv_start {l out : List (List Int)} {i : Nat} (h : sInv l out i) (hi : i < out.length) : kInv l out i i := ⟨h.1, Nat.le_refl _, hi, fun a b h1 h2 h3 => h.2 a b h1 (by omega) (by omega)⟩
theorem kInv_step {l out : List (List Int)} {i k : Nat} (h : kInv l out i k) (h0 : 0 < k) (hlt : ltL (nth out k) (nth out (k - 1)) = true) : kInv l (swapL out k) i (k - 1) := by
  obtain ⟨h1, h2, h3, h4⟩ := h
  have hk : k < out.length := by omega
  have hp := swap_perm h0 hk
  refine ⟨hp.trans h1, by omega, by rw [hp.length_eq]; exact h3, fun a b q1 q2 q3 => ?_⟩
  rw [swap_nth h0 hk (show a < _ by omega), swap_nth h0 hk (show b < _ by omega)]
  by_cases eb : b = k
  · subst eb
    rw [if_neg (show ¬ b = b - 1 by omega), if_pos rfl]
    by_cases ea : a = b - 1
    · rw [if_pos ea]; exact leL_of hlt
    · rw [if_neg ea, if_neg (by omega)]; exact h4 a (b - 1) (by omega) (by omega) (by omega)
  · rw [if_neg q3, if_neg eb]
    by_cases ea : a = k - 1
    · rw [if_pos ea]; exact h4 k b (by omega) q2 eb
    · rw [if_neg ea]
      by_cases ea2 : a = k
      · rw [if_pos ea2]; exact h4 (k - 1) b (by omega) q2 eb
      · rw [if_neg ea2]; exact h4 a b q1 q2 eb
theorem kInv_end {l out : List (List Int)} {i k : Nat} (h : kInv l out i k) (hs : ¬ 0 < k ∨ ltL (nth out k) (nth out (k - 1)) = false) : sInv l out (i + 1) := by
  obtain ⟨h1, h2, h3, h4⟩ := h
  refine ⟨h1, fun a b q1 q2 q3 => ?_⟩
  by_cases eb : b = k
  · subst eb
    rcases hs with hs | hs
    · omega
    · have h5 := leL_not hs
      by_cases ea : a = b - 1
      · rw [ea]; exact h5
      · exact leL_trans (h4 a (b - 1) (by omega) (by omega) (by omega)) h5
  · exact h4 a b q1 (by omega) eb
theorem sInv_done {l out : List (List Int)} {i : Nat} (h : sInv l out i) (hi : out.length ≤ i) : out = sortL l := by
  refine sortedL_unique (h.1.trans (sortL_perm l).symm) ?_ (sortL_sorted l)
  refine List.pairwise_iff_getElem.2 fun a b ha hb hab => ?_
  have := h.2 a b hab (by omega) hb
  rw [nth_get ha, nth_get hb] at this
  have h2 := cmpL_anti out[a] out[b]
  have this : cmpL out[a] out[b] ≤ 0 := this
  simp only [ltOf, decide_eq_false_iff_not]
  omega

theorem Sorted__spec (l : List (List Int)) (hl : l.length ≤ 1000000) (hle : ∀ x ∈ l, x.length ≤ 1000000000000) : Fun1 Tryz.prog 31 [tSl (rSl rInt) l] (tSl (rSl rInt) (sortL l)) := by
  refine Spec.enter Tryz.func31 rfl rfl fun h0 w0 fr0 => ?_
  refine J_seq ?_
  refine J_region ?_
  refine JL_step rfl rfl rfl (step_assign Sub.rfl) ?_
  refine JL_nil ?_
  refine J_seq ?_
  refine J_region ?_
  refine JL_stepX rfl rfl rfl (step_literal_own (ys := []) Tryz.underlying33 el24 trivial rfl (by decide)) fun v7 => ?_
  refine JL_step rfl rfl rfl (step_move Sub.rfl) ?_
  refine JL_stepX rfl rfl rfl (step_append Tryz.underlying33 el24 Sub.rfl Sub.rfl (by first | exact Sel.take (Sel.none _) | exact Sel.skip (Sel.take (Sel.none _)) | exact Sel.skip (Sel.skip (Sel.take (Sel.none _))) | exact Sel.skip (Sel.skip (Sel.skip (Sel.take (Sel.none _)))) | exact Sel.skip (Sel.skip (Sel.skip (Sel.skip (Sel.take (Sel.none _)))))) (by simp; omega) (by simp; omega)) fun v9 => ?_
  refine JL_step rfl rfl rfl (step_assign Sub.rfl) ?_
  refine JL_nil ?_
  refine J_seq ?_
  refine J_seq ?_
  refine J_region ?_
  refine JL_step rfl rfl rfl (step_assign Sub.rfl) ?_
  refine JL_nil ?_
  refine J_block ?_
  refine J_loopL (σ := Nat × List (List Int)) (fun ⟨i, out⟩ => 1 ≤ i ∧ sInv l out i) (fun ⟨i, out⟩ => upd (upd (upd env0 2 (tV (.slice none 0 0))) 3 (rV.ty v9)) 4 (tV (.int .i64 i))) (fun ⟨i, out⟩ => [own 24 (rSl rInt) v9 out]) (fun ⟨i, out⟩ => l.length - i) (1, l) ⟨by omega, List.Perm.refl _, fun a b h1 h2 _ => by omega⟩ (SubE.upd Sub.rfl (SubE.upd Sub.rfl (SubE.upd Sub.rfl SubE.any))) (LSub.cons (by first | exact Sel.take (Sel.none _) | exact Sel.skip (Sel.take (Sel.none _)) | exact Sel.skip (Sel.skip (Sel.take (Sel.none _))) | exact Sel.skip (Sel.skip (Sel.skip (Sel.take (Sel.none _)))) | exact Sel.skip (Sel.skip (Sel.skip (Sel.skip (Sel.take (Sel.none _)))))) (own_eq (by simp)) (LSub.nil)) ?_
  rintro ⟨i, out⟩ ⟨hi, hv⟩
  have hol := hv.1.length_eq
  refine J_seq ?_
  refine J_seq ?_
  refine J_region ?_
  refine JL_step rfl rfl rfl (step_move Sub.rfl) ?_
  refine JL_step rfl rfl rfl (step_move Sub.rfl) ?_
  refine JL_step rfl rfl rfl (step_len_own Tryz.underlying33 Sub.rfl (by first | exact Sel.take (Sel.none _) | exact Sel.skip (Sel.take (Sel.none _)) | exact Sel.skip (Sel.skip (Sel.take (Sel.none _))) | exact Sel.skip (Sel.skip (Sel.skip (Sel.take (Sel.none _)))) | exact Sel.skip (Sel.skip (Sel.skip (Sel.skip (Sel.take (Sel.none _))))))) ?_
  refine JL_step rfl rfl rfl (step_lss Sub.rfl Sub.rfl) ?_
  refine JL_nil ?_
  refine J_cond Sub.rfl (fun h13 => ?_) (fun h13 => ?_)
  · try simp only [decide_eq_true_eq, decide_eq_false_iff_not, Bool.and_eq_true, Bool.or_eq_true, Bool.and_eq_false_iff, Bool.or_eq_false_iff, Bool.not_eq_true', Bool.not_eq_false', Int.not_lt, Int.not_le, Bool.not_true, Bool.not_false] at h13
    have hlt : i < out.length := by omega
    refine J_skip ?_
    refine J_seq ?_
    refine J_block ?_
    refine J_seq ?_
    refine J_region ?_
    refine JL_step rfl rfl rfl (step_move Sub.rfl) ?_
    refine JL_step rfl rfl rfl (step_assign Sub.rfl) ?_
    refine JL_nil ?_
    refine J_block ?_
    refine J_loopL (σ := Nat × List (List Int)) (fun ⟨k, out2⟩ => kInv l out2 i k) (fun ⟨k, out2⟩ => upd (upd (upd (upd (upd (upd (upd env0 2 (tV (.slice none 0 0))) 3 (rV.ty v9)) 4 (tV (.int .i64 i))) 5 (tV (.int .i64 k))) 10 (tV (.int .i64 i))) 11 (rV.ty v9)) 16 (tV (.int .i64 i))) (fun ⟨k, out2⟩ => [own 24 (rSl rInt) v9 out2]) (fun ⟨k, out2⟩ => k) (i, out) (kInv_start hv hlt) (SubE.upd Sub.rfl (SubE.upd Sub.rfl (SubE.upd Sub.rfl (SubE.upd Sub.rfl (SubE.upd Sub.rfl (SubE.upd Sub.rfl (SubE.upd Sub.rfl SubE.any))))))) (LSub.rfl) ?_
    rintro ⟨k, out2⟩ hk
    try dsimp only at hk
    refine J_seq ?_
    refine J_seq ?_
    have hkl : k < out2.length := by have := hk.2.1; have := hk.2.2.1; omega
    have hb2 : ∀ j, j < out2.length → (nth out2 j).length ≤ 1000000000000 := fun j hj => hle _ (hk.1.mem_iff.1 (nth_mem hj))
    have hol2 := hk.1.length_eq
    refine J_drawN [⟨0, [5], true⟩, ⟨1, [17], true⟩, ⟨2, [18], true⟩, ⟨3, [3, 19], true⟩, ⟨4, [5, 19], true⟩, ⟨7, [3, 19], true⟩, ⟨8, [5, 19], true⟩, ⟨9, [19, 25], true⟩, ⟨5, [19, 20, 21], true⟩, ⟨6, [19, 22], true⟩, ⟨10, [19, 24, 26], true⟩, ⟨11, [19, 27], true⟩, ⟨12, [19, 23, 28], true⟩, ⟨13, [19, 29], true⟩] rfl (by kernel_rfl) rfl ?_
    refine JN_step rfl rfl rfl rfl (step_move Sub.rfl) ?_
    refine JN_step rfl rfl rfl rfl (step_gtr Sub.rfl Sub.rfl) ?_
    refine JN_step rfl rfl rfl rfl (step_move Sub.rfl) ?_
    refine JN_stepG rfl rfl rfl rfl (Gd.plain Sub.rfl) rfl rfl (fun hw => step_move Sub.rfl) ?_
    refine JN_stepG rfl rfl rfl rfl (Gd.plain Sub.rfl) rfl rfl (fun hw => step_move Sub.rfl) ?_
    refine JN_stepG rfl rfl rfl rfl (Gd.plain Sub.rfl) rfl rfl (fun hw => step_move Sub.rfl) ?_
    refine JN_stepG rfl rfl rfl rfl (Gd.plain Sub.rfl) rfl rfl (fun hw => step_move Sub.rfl) ?_
    refine JN_stepG rfl rfl rfl rfl (Gd.plain Sub.rfl) rfl rfl (fun hw => step_sub (Sub.w hw) Sub.rfl ?sg1) ?_
    case sg1 => have hwq := hw; (try simp only [beqB_t, beqB_f, decide_eq_true_eq, decide_eq_false_iff_not, Bool.and_eq_true, Bool.or_eq_true, Bool.and_eq_false_iff, Bool.or_eq_false_iff, Bool.not_eq_true', Bool.not_eq_false', Int.not_lt, Int.not_le, Bool.not_true, Bool.not_false] at hwq); unfold in64; omega
    refine JN_stepG rfl rfl rfl rfl (Gd.plain Sub.rfl) rfl rfl (fun hw => step_indexAddr_own  Tryz.underlying33 ty24 (Sub.w hw) (by first | exact Sel.take (Sel.none _) | exact Sel.skip (Sel.take (Sel.none _)) | exact Sel.skip (Sel.skip (Sel.take (Sel.none _))) | exact Sel.skip (Sel.skip (Sel.skip (Sel.take (Sel.none _)))) | exact Sel.skip (Sel.skip (Sel.skip (Sel.skip (Sel.take (Sel.none _)))))) (Sub.w hw) rfl ?sg1) ?_
    case sg1 => have hwq := hw; (try simp only [beqB_t, beqB_f, decide_eq_true_eq, decide_eq_false_iff_not, Bool.and_eq_true, Bool.or_eq_true, Bool.and_eq_false_iff, Bool.or_eq_false_iff, Bool.not_eq_true', Bool.not_eq_false', Int.not_lt, Int.not_le, Bool.not_true, Bool.not_false] at hwq); omega
    refine JN_stepG rfl rfl rfl rfl (Gd.plain Sub.rfl) rfl rfl (fun hw => step_load_own ty24 (Sub.w hw) (by first | exact Sel.take (Sel.none _) | exact Sel.skip (Sel.take (Sel.none _)) | exact Sel.skip (Sel.skip (Sel.take (Sel.none _))) | exact Sel.skip (Sel.skip (Sel.skip (Sel.take (Sel.none _)))) | exact Sel.skip (Sel.skip (Sel.skip (Sel.skip (Sel.take (Sel.none _)))))) (gb ?sg1)) ?_
    case sg1 => have hwq := hw; (try simp only [beqB_t, beqB_f, decide_eq_true_eq, decide_eq_false_iff_not, Bool.and_eq_true, Bool.or_eq_true, Bool.and_eq_false_iff, Bool.or_eq_false_iff, Bool.not_eq_true', Bool.not_eq_false', Int.not_lt, Int.not_le, Bool.not_true, Bool.not_false] at hwq); omega
    refine JN_stepG rfl rfl rfl rfl (Gd.plain Sub.rfl) rfl rfl (fun hw => step_indexAddr_own (i := k - 1) Tryz.underlying33 ty24 (Sub.w hw) (by first | exact Sel.take (Sel.none _) | exact Sel.skip (Sel.take (Sel.none _)) | exact Sel.skip (Sel.skip (Sel.take (Sel.none _))) | exact Sel.skip (Sel.skip (Sel.skip (Sel.take (Sel.none _)))) | exact Sel.skip (Sel.skip (Sel.skip (Sel.skip (Sel.take (Sel.none _)))))) (Sub.w hw) ?sg1 ?sg2) ?_
    case sg1 => have hwq := hw; (try simp only [beqB_t, beqB_f, decide_eq_true_eq, decide_eq_false_iff_not, Bool.and_eq_true, Bool.or_eq_true, Bool.and_eq_false_iff, Bool.or_eq_false_iff, Bool.not_eq_true', Bool.not_eq_false', Int.not_lt, Int.not_le, Bool.not_true, Bool.not_false] at hwq); omega
    case sg2 => have hwq := hw; (try simp only [beqB_t, beqB_f, decide_eq_true_eq, decide_eq_false_iff_not, Bool.and_eq_true, Bool.or_eq_true, Bool.and_eq_false_iff, Bool.or_eq_false_iff, Bool.not_eq_true', Bool.not_eq_false', Int.not_lt, Int.not_le, Bool.not_true, Bool.not_false] at hwq); omega
    refine JN_stepG rfl rfl rfl rfl (Gd.plain Sub.rfl) rfl rfl (fun hw => step_load_own ty24 (Sub.w hw) (by first | exact Sel.take (Sel.none _) | exact Sel.skip (Sel.take (Sel.none _)) | exact Sel.skip (Sel.skip (Sel.take (Sel.none _))) | exact Sel.skip (Sel.skip (Sel.skip (Sel.take (Sel.none _)))) | exact Sel.skip (Sel.skip (Sel.skip (Sel.skip (Sel.take (Sel.none _)))))) (gb ?sg1)) ?_
    case sg1 => have hwq := hw; (try simp only [beqB_t, beqB_f, decide_eq_true_eq, decide_eq_false_iff_not, Bool.and_eq_true, Bool.or_eq_true, Bool.and_eq_false_iff, Bool.or_eq_false_iff, Bool.not_eq_true', Bool.not_eq_false', Int.not_lt, Int.not_le, Bool.not_true, Bool.not_false] at hwq); omega
    refine JN_stepG rfl rfl rfl rfl (Gd.plain Sub.rfl) rfl rfl (fun hw => step_call0 (Less_spec _ _ (hb2 k hkl) (hb2 (k - 1) (by omega))) ⟨(Sub.w hw), (Sub.w hw), trivial⟩ Tryz.call26) ?_
    refine JN_step rfl rfl rfl rfl (step_pick_and Sub.rfl Sub.rfl) ?_
    refine JN_nil ?_
    refine J_cond Sub.rfl (fun h30 => ?_) (fun h30 => ?_)
    · try simp only [decide_eq_true_eq, decide_eq_false_iff_not, Bool.and_eq_true, Bool.or_eq_true, Bool.and_eq_false_iff, Bool.or_eq_false_iff, Bool.not_eq_true', Bool.not_eq_false', Int.not_lt, Int.not_le, Bool.not_true, Bool.not_false] at h30
      have hk0 : 0 < k := by omega
      refine J_skip ?_
      refine J_seq ?_
      refine J_block ?_
      refine J_seq ?_
      refine J_region ?_
      refine JL_step rfl rfl rfl (step_move Sub.rfl) ?_
      refine JL_step rfl rfl rfl (step_move Sub.rfl) ?_
      refine JL_step rfl rfl rfl (step_indexAddr_own  Tryz.underlying33 ty24 Sub.rfl (by first | exact Sel.take (Sel.none _) | exact Sel.skip (Sel.take (Sel.none _)) | exact Sel.skip (Sel.skip (Sel.take (Sel.none _))) | exact Sel.skip (Sel.skip (Sel.skip (Sel.take (Sel.none _)))) | exact Sel.skip (Sel.skip (Sel.skip (Sel.skip (Sel.take (Sel.none _)))))) Sub.rfl rfl ?sg1) ?_
      case sg1 => first | assumption | omega
      refine JL_step rfl rfl rfl (step_load_own ty24 Sub.rfl (by first | exact Sel.take (Sel.none _) | exact Sel.skip (Sel.take (Sel.none _)) | exact Sel.skip (Sel.skip (Sel.take (Sel.none _))) | exact Sel.skip (Sel.skip (Sel.skip (Sel.take (Sel.none _)))) | exact Sel.skip (Sel.skip (Sel.skip (Sel.skip (Sel.take (Sel.none _)))))) (gb ?sg1)) ?_
      case sg1 => first | assumption | omega
      refine JL_step rfl rfl rfl (step_assign Sub.rfl) ?_
      refine JL_nil ?_
      refine J_seq ?_
      refine J_region ?_
      refine JL_step rfl rfl rfl (step_move Sub.rfl) ?_
      refine JL_step rfl rfl rfl (step_move Sub.rfl) ?_
      refine JL_step rfl rfl rfl (step_move Sub.rfl) ?_
      refine JL_step rfl rfl rfl (step_move Sub.rfl) ?_
      refine JL_step rfl rfl rfl (step_sub Sub.rfl Sub.rfl ?sg1) ?_
      case sg1 => unfold in64; omega
      refine JL_step rfl rfl rfl (step_indexAddr_own (i := k - 1) Tryz.underlying33 ty24 Sub.rfl (by first | exact Sel.take (Sel.none _) | exact Sel.skip (Sel.take (Sel.none _)) | exact Sel.skip (Sel.skip (Sel.take (Sel.none _))) | exact Sel.skip (Sel.skip (Sel.skip (Sel.take (Sel.none _)))) | exact Sel.skip (Sel.skip (Sel.skip (Sel.skip (Sel.take (Sel.none _)))))) Sub.rfl ?sg1 ?sg2) ?_
      case sg1 => omega
      case sg2 => omega
      refine JL_step rfl rfl rfl (step_load_own ty24 Sub.rfl (by first | exact Sel.take (Sel.none _) | exact Sel.skip (Sel.take (Sel.none _)) | exact Sel.skip (Sel.skip (Sel.take (Sel.none _))) | exact Sel.skip (Sel.skip (Sel.skip (Sel.take (Sel.none _)))) | exact Sel.skip (Sel.skip (Sel.skip (Sel.skip (Sel.take (Sel.none _)))))) (gb ?sg1)) ?_
      case sg1 => first | assumption | omega
      refine JL_step rfl rfl rfl (step_indexAddr_own  Tryz.underlying33 ty24 Sub.rfl (by first | exact Sel.take (Sel.none _) | exact Sel.skip (Sel.take (Sel.none _)) | exact Sel.skip (Sel.skip (Sel.take (Sel.none _))) | exact Sel.skip (Sel.skip (Sel.skip (Sel.take (Sel.none _)))) | exact Sel.skip (Sel.skip (Sel.skip (Sel.skip (Sel.take (Sel.none _)))))) Sub.rfl rfl ?sg1) ?_
      case sg1 => omega
      refine JL_stepU rfl rfl (step_store_own ty24 Sub.rfl Sub.rfl (by first | exact Sel.take (Sel.none _) | exact Sel.skip (Sel.take (Sel.none _)) | exact Sel.skip (Sel.skip (Sel.take (Sel.none _))) | exact Sel.skip (Sel.skip (Sel.skip (Sel.take (Sel.none _)))) | exact Sel.skip (Sel.skip (Sel.skip (Sel.skip (Sel.take (Sel.none _)))))) ?sg1) fun _ => ?_
      case sg1 => omega
      refine JL_nil ?_
      refine J_region ?_
      refine JL_step rfl rfl rfl (step_move Sub.rfl) ?_
      refine JL_step rfl rfl rfl (step_move Sub.rfl) ?_
      refine JL_step rfl rfl rfl (step_sub Sub.rfl Sub.rfl ?sg1) ?_
      case sg1 => unfold in64; omega
      refine JL_step rfl rfl rfl (step_move Sub.rfl) ?_
      refine JL_step rfl rfl rfl (step_indexAddr_own (i := k - 1) Tryz.underlying33 ty24 Sub.rfl (by first | exact Sel.take (Sel.none _) | exact Sel.skip (Sel.take (Sel.none _)) | exact Sel.skip (Sel.skip (Sel.take (Sel.none _))) | exact Sel.skip (Sel.skip (Sel.skip (Sel.take (Sel.none _)))) | exact Sel.skip (Sel.skip (Sel.skip (Sel.skip (Sel.take (Sel.none _)))))) Sub.rfl ?sg1 ?sg2) ?_
      case sg1 => omega
      case sg2 => rw [List.length_set]; omega
      refine JL_stepU rfl rfl (step_store_own ty24 Sub.rfl Sub.rfl (by first | exact Sel.take (Sel.none _) | exact Sel.skip (Sel.take (Sel.none _)) | exact Sel.skip (Sel.skip (Sel.take (Sel.none _))) | exact Sel.skip (Sel.skip (Sel.skip (Sel.take (Sel.none _)))) | exact Sel.skip (Sel.skip (Sel.skip (Sel.skip (Sel.take (Sel.none _)))))) ?sg1) fun _ => ?_
      case sg1 => rw [List.length_set]; omega
      refine JL_nil ?_
      refine J_region ?_
      refine JL_step rfl rfl rfl (step_move Sub.rfl) ?_
      refine JL_step rfl rfl rfl (step_sub Sub.rfl Sub.rfl ?sg1) ?_
      case sg1 => unfold in64; omega
      refine JL_step rfl rfl rfl (step_assign Sub.rfl) ?_
      refine JL_nil ?_
      refine K_againL (σ := Nat × List (List Int)) (s := (k, out2)) (k - 1, swapL out2 k) (by first | omega | (dsimp only; omega) | (simp_all; omega)) (kInv_step hk hk0 h30.2) (SubE.upd Sub.rfl (SubE.upd Sub.rfl (SubE.upd Sub.rfl (SubE.upd (Sub.int (by omega)) (SubE.upd Sub.rfl (SubE.upd Sub.rfl (SubE.upd Sub.rfl SubE.any))))))) (LSub.rfl)
    · try simp only [decide_eq_true_eq, decide_eq_false_iff_not, Bool.and_eq_true, Bool.or_eq_true, Bool.and_eq_false_iff, Bool.or_eq_false_iff, Bool.not_eq_true', Bool.not_eq_false', Int.not_lt, Int.not_le, Bool.not_true, Bool.not_false] at h30
      refine J_exit ?_
      refine J_region ?_
      refine JL_step rfl rfl rfl (step_move Sub.rfl) ?_
      refine JL_step rfl rfl rfl (step_add Sub.rfl Sub.rfl ?sg1) ?_
      case sg1 => unfold in64; omega
      refine JL_step rfl rfl rfl (step_assign Sub.rfl) ?_
      refine JL_nil ?_
      refine K_againL (σ := Nat × List (List Int)) (s := (i, out)) (i + 1, out2) (by first | omega | (dsimp only; omega) | (simp_all; omega)) ⟨by omega, kInv_end hk (by rcases h30 with h | h; exact .inl (by omega); exact .inr h)⟩ (SubE.upd Sub.rfl (SubE.upd Sub.rfl (SubE.upd Sub.rfl SubE.any))) (LSub.rfl)
  · try simp only [decide_eq_true_eq, decide_eq_false_iff_not, Bool.and_eq_true, Bool.or_eq_true, Bool.and_eq_false_iff, Bool.or_eq_false_iff, Bool.not_eq_true', Bool.not_eq_false', Int.not_lt, Int.not_le, Bool.not_true, Bool.not_false] at h13
    refine J_exit ?_
    refine J_seq ?_
    refine J_region ?_
    refine JL_step rfl rfl rfl (step_move Sub.rfl) ?_
    refine JL_step rfl rfl rfl (step_assign Sub.rfl) ?_
    refine JL_nil ?_
    refine J_ret ?_
    refine K_ret1' (rv := .tmp 2) rfl () (Sel.all _) (.tmp Sub.rfl) (Frz.own' (sInv_done hv (by omega)))
end Lg

/- Slices whose capacity is known to be enough; the remainder; equality of truth values. -/
namespace Lg
open Go
def tSlC {α : Type} (R : Rp α) (xs : List α) : Ty where
  p := fun h v => (tSl R xs).p h v ∧ ∀ ao len cap, v = .slice ao len cap → len ≤ cap
  mono := fun l ⟨a, b⟩ => ⟨(tSl R xs).mono l a, b⟩
theorem Sub.ofC {α : Type} {R : Rp α} {xs : List α} : Sub (tSlC R xs) (tSl R xs) := fun _ _ a => a.1
section
variable {C : Cx} {E : Env} {L : List SP} {d : Option Nat} {ty : Nat} {pos : String} {af : Array Edge} {g : Option (Nat × Bool)}
theorem step_slice_toC {α : Type} {T e n : Nat} {R : Rp α} {x y : Operand} {xs : List α} {k : IntKind} {i : Int} (hu : C.P.underlying T = some (.slice e)) (hR : TyOf C.P e R)
    (hx : Sub (opTy E x) (tSlC R xs)) (hy : Sub (opTy E y) (tV (.int k i))) (hi : i = n) (hn : n ≤ xs.length) :
    Step1 C ⟨d, .slice T x none (some y) none, ty, pos, af, g⟩ E L (tSl R (xs.take n)) :=
  Step.of_run (by intro c h; cases h) fun a w h m l sp st fr => by
    obtain ⟨⟨ao, cap, hv, H⟩, hC⟩ := fr.get hx
    have hlc := hC _ _ _ hv
    have h2 : a.eval y = .int k i := fr.get hy
    subst hi
    refine ⟨(), .slice (if cap = 0 then ao else ao.map (·.add 0)) n cap, w, h, _, ?_, HL.refl, sp, st, ⟨_, cap, by rw [List.length_take, Nat.min_eq_left hn], fun hne => ?_⟩⟩
    · simp [execOp, Instr.sliceAt, run_underlying hu, hv, h2, Instr.slice, Instr.sliceBounds, Instr.sliceBound, asIntOf, hR.size, show n ≤ cap by omega]
    · have h0 : 0 < n := by
        rcases Nat.eq_zero_or_pos n with q | q
        · subst q; exact absurd (by simp) hne
        · exact q
      obtain ⟨b, off, ea, H'⟩ := H (fun e => by rw [e] at hn; simp at hn; omega)
      refine ⟨b, off, by rw [if_neg (by omega), ea]; simp [addr_add], fun j z hz => H' j z ?_⟩
      rw [List.getElem?_take] at hz
      split at hz
      · exact hz
      · cases hz
theorem step_rem {T U : Nat} {x y : Operand} {a b : Int} (hx : Sub (opTy E x) (tV (.int .i64 a))) (hy : Sub (opTy E y) (tV (.int .i64 b))) (ha : 0 ≤ a) (hb : 0 < b) :
    Step1 C ⟨d, .binOp .rem T x y U, ty, pos, af, g⟩ E L (tV (.int .i64 (a % b))) := step_int hx hy (fun P w => by
  have h1 : a.tmod b = a % b := Int.tmod_eq_emod_of_nonneg ha
  have h2 : ¬ b = 0 := by omega
  simp [binOp, Op.intDiv, h1, h2])
theorem step_eql_bool {T U : Nat} {x y : Operand} {a b : Bool} (hu : C.P.underlying T = some .bool) (hx : Sub (opTy E x) (tV (.bool a))) (hy : Sub (opTy E y) (tV (.bool b))) :
    Step1 C ⟨d, .binOp .eql T x y U, ty, pos, af, g⟩ E L (tV (.bool (a == b))) := step_int_bool hx hy (fun w => by
  have h1 := run_equalIn_bool' (P := C.P) w 9999 T a b hu
  have h2 : (Op.equal T (.bool a) (.bool b)).run C.P w = .ok (a == b) w := h1
  simp [binOp, h2])
theorem step_neq_bool {T U : Nat} {x y : Operand} {a b : Bool} (hu : C.P.underlying T = some .bool) (hx : Sub (opTy E x) (tV (.bool a))) (hy : Sub (opTy E y) (tV (.bool b))) :
    Step1 C ⟨d, .binOp .neq T x y U, ty, pos, af, g⟩ E L (tV (.bool (!(a == b)))) := step_int_bool hx hy (fun w => by
  have h1 := run_equalIn_bool' (P := C.P) w 9999 T a b hu
  have h2 : (Op.equal T (.bool a) (.bool b)).run C.P w = .ok (a == b) w := h1
  simp [binOp, h2, bne])
end
/-- An argument that is a slice, its capacity known. -/
theorem arg_slC {H : Type} {enc : TypeId × Value → H} {P : Program} {W : World} {base : Nat} {α : Type} {t e : Nat} {R : Rp α} {v : Value} {d : DataW H} {p : List MemPlace} (hu : P.underlying t = some (.slice e)) (hR : Rd enc P W t (rSl R)) (hok : Value.okWide P W .any base t v) (h : DataW.Trod enc P W 0 (fun _ => true) true t v d p) :
    ∃ xs, (tSlC R xs).p (wholeH W) v := by
  obtain ⟨a, len, cap, rfl⟩ := Go.WideShapes.okWide_slice hu hok
  obtain ⟨fuel, h⟩ := h
  have hlc : len ≤ cap := by
    rcases DataW.trod_slice hu h with ⟨e1, _⟩ | ⟨a', len', cap', _, _, _, _, e1, _, _, q, _⟩
    · have := Value.slice.inj (List.cons.inj e1).1
      omega
    · have := Value.slice.inj (List.cons.inj e1).1
      omega
  obtain ⟨xs, u, e1, e2⟩ := hR.rd _ _ _ h
  have : Value.slice a len cap = u := (List.cons.inj e1).1
  refine ⟨xs, this ▸ e2, fun ao l c e => ?_⟩
  have := Value.slice.inj e
  omega
theorem arg_u8 {H : Type} {enc : TypeId × Value → H} {P : Program} {W : World} {base : Nat} {t : Nat} {v : Value} {d : DataW H} {p : List MemPlace} (hu : P.underlying t = some (.int .u8)) (hok : Value.okWide P W .any base t v) (h : DataW.Trod enc P W 0 (fun _ => true) true t v d p) :
    ∃ n : Int, (tV (.int .u8 n)).p (wholeH W) v ∧ 0 ≤ n ∧ n < 256 := by
  obtain ⟨n, rfl⟩ := Go.WideShapes.okWide_int hu hok
  obtain ⟨fuel, h⟩ := h
  obtain ⟨m, e1, _, hw⟩ := DataW.trod_int hu h
  have e2 : n = m := by
    have := (List.cons.inj e1).1
    injection this
  subst e2
  refine ⟨n, rfl, ?_⟩
  simp only [Lit.wf, Bool.and_eq_true, decide_eq_true_eq] at hw
  have h1 : IntKind.u8.min = 0 := by rfl
  have h2 : IntKind.u8.max = 255 := by rfl
  omega
end Lg

namespace Lg
open Go Go.Proofs


def validR (v : GValue) : Bool :=
  if v.Kind = 0 then decide (v.N = 0) && decide (v.Text = ⟨#[]⟩)
  else if v.Kind = 1 then decide (v.N = 0) && decide ((v.Text.size : Int) ≤ 200)
  else if v.Kind = 2 then (decide (v.N ≥ -1000000000) && decide (v.N ≤ 1000000000)) && decide (v.Text = ⟨#[]⟩)
  else if v.Kind = 3 then (decide (v.N ≥ 0) && decide (v.N ≤ 73048)) && decide (v.Text = ⟨#[]⟩)
  else if v.Kind = 4 then (decide (v.N = 0) || decide (v.N = 1)) && decide (v.Text = ⟨#[]⟩)
  else false
theorem validR_eq (v : GValue) : validR v = validV v := by
  unfold validR validV
  by_cases ht : v.Text = ⟨#[]⟩
  · have hs : v.Text.size = 0 := by rw [ht]; rfl
    have h1 : ¬ (v.Kind ≠ 1 ∧ v.Text ≠ ⟨#[]⟩) := fun q => q.2 ht
    have h2 : ¬ ((200 : Int) < (v.Text.size : Int)) := by omega
    rw [if_neg h1, if_neg h2]
    simp only [show decide (v.Text = ⟨#[]⟩) = true from decide_eq_true ht, Bool.and_true]
    rw [Bool.eq_iff_iff]
    (repeat' split) <;> simp <;> omega
  · by_cases hk : v.Kind = 1
    · have h1 : ¬ (v.Kind ≠ 1 ∧ v.Text ≠ ⟨#[]⟩) := fun q => q.1 hk
      rw [if_neg h1]
      simp only [hk]
      by_cases h2 : (200 : Int) < (v.Text.size : Int)
      · simp [h2] <;> omega
      · rw [Bool.eq_iff_iff]; simp [h2] <;> omega
    · rw [if_pos (⟨hk, ht⟩ : v.Kind ≠ 1 ∧ v.Text ≠ ⟨#[]⟩)]
      simp [ht, hk]
def testR (a : GValue) (op : Int) (b : GValue) (add : Int) : Bool :=
  if validV a = false ∨ validV b = false ∨ a.Kind ≠ b.Kind ∨ a.Kind = 0 then false
  else if add ≠ 0 ∧ a.Kind ≠ 2 ∧ a.Kind ≠ 3 then false
  else opHolds op (if a.Kind = 1 then cmpV a b else ordI (a.N - b.N) add)
theorem valid_kind {v : GValue} (h : validV v = true) : 0 ≤ v.Kind ∧ v.Kind ≤ 4 ∧ (v.Kind ≠ 1 → v.Text = ⟨#[]⟩) := by
  rw [← validR_eq] at h
  unfold validR at h
  repeat' split at h
  all_goals simp at h
  all_goals refine ⟨by omega, by omega, fun _ => ?_⟩
  all_goals first | (exact h.2) | (exfalso; omega)
theorem testR_eq (a : GValue) (op : Int) (b : GValue) (add : Int) : testR a op b add = testV a op b add := by
  unfold testR testV
  by_cases h1 : validV a = false ∨ validV b = false ∨ a.Kind ≠ b.Kind
  · rw [if_pos h1, if_pos (by rcases h1 with h | h | h <;> simp [h])]
  · have hva : validV a = true := by simp only [not_or] at h1; simpa using h1.1
    have hvb : validV b = true := by simp only [not_or] at h1; simpa using h1.2.1
    have hk : a.Kind = b.Kind := Classical.byContradiction fun q => h1 (.inr (.inr q))
    obtain ⟨k1, k2, k3⟩ := valid_kind hva
    obtain ⟨_, _, k4⟩ := valid_kind hvb
    rw [if_neg h1]
    by_cases h0 : a.Kind = 0
    · rw [if_pos (by simp [h0])]
      simp [h0]
    · rw [if_neg (by simp only [not_or]; exact ⟨by simp [hva], by simp [hvb], fun q => q hk, h0⟩)]
      by_cases h23 : a.Kind = 2 ∨ a.Kind = 3
      · rw [if_pos h23, if_neg (by rintro ⟨_, q2, q3⟩; rcases h23 with q | q; exact q2 q; exact q3 q), if_neg (by omega)]
      · have h14 : a.Kind = 1 ∨ a.Kind = 4 := by omega
        rw [if_neg h23, if_pos h14]
        by_cases ha : add = 0
        · subst ha
          rw [if_neg (show ¬ ((0 : Int) ≠ 0 ∧ a.Kind ≠ 2 ∧ a.Kind ≠ 3) from fun q => q.1 rfl), if_neg (show ¬ ((0 : Int) ≠ 0) from fun q => q rfl)]
          rcases h14 with h | h
          · rw [if_pos h]
          · rw [if_neg (by omega)]
            have e1 := k3 (by omega)
            have e2 := k4 (by omega)
            have : cmpV a b = ordI (a.N - b.N) 0 := by
              unfold cmpV
              rw [if_neg (by rw [hk]; simp [ordI])]
              have hs : ordS a.Text b.Text = 0 := by rw [e1, e2]; decide +kernel
              rw [hs]
              unfold ordI
              (repeat' split) <;> omega
            rw [this]
        · rw [if_pos ⟨ha, by omega, by omega⟩, if_pos ha]

theorem ValidR_spec (v : GValue) : Fun1 Tryz.prog 68 [rValue.ty v] (tV (.bool (validV v))) := by
  refine Spec.enter Tryz.func68 rfl rfl fun h0 w0 fr0 => ?_
  refine J_seq ?_
  refine J_region ?_
  refine JL_step rfl rfl rfl (step_box (R := rValue) Sub.rfl) ?_
  refine JL_step rfl rfl rfl (step_assign Sub.rfl) ?_
  refine JL_nil ?_
  refine J_seq ?_
  refine J_seq ?_
  refine J_region ?_
  refine JL_step rfl rfl rfl (step_fieldAddr so60 Sub.rfl rfl) ?_
  refine JL_step rfl rfl rfl (step_load_ptr ty3 Sub.rfl) ?_
  refine JL_nil ?_
  refine J_block ?_
  refine J_seq ?_
  refine J_region ?_
  refine JL_step rfl rfl rfl (step_eql Sub.rfl Sub.rfl) ?_
  refine JL_step rfl rfl rfl (step_assign Sub.rfl) ?_
  refine JL_nil ?_
  refine J_cond Sub.rfl (fun hc1 => ?_) (fun hc1 => ?_)
  · try simp only [decide_eq_true_eq, decide_eq_false_iff_not, Bool.and_eq_true, Bool.or_eq_true, Bool.and_eq_false_iff, Bool.or_eq_false_iff, Bool.not_eq_true', Bool.not_eq_false', Int.not_lt, Int.not_le, Bool.not_true, Bool.not_false] at hc1
    refine J_seq ?_
    refine J_region ?_
    refine JL_step rfl rfl rfl (step_fieldAddr so60 Sub.rfl rfl) ?_
    refine JL_step rfl rfl rfl (step_load_ptr ty3 Sub.rfl) ?_
    refine JL_step rfl rfl rfl (step_eql Sub.rfl Sub.rfl) ?_
    refine JL_step rfl rfl rfl (step_move Sub.rfl) ?_
    refine JL_stepG rfl rfl rfl (Gd.plain Sub.rfl) rfl rfl (fun hw => step_fieldAddr so60 Sub.rfl rfl) ?_
    refine JL_stepG rfl rfl rfl (Gd.plain Sub.rfl) rfl rfl (fun hw => step_load_ptr ty9 (Sub.w hw)) ?_
    refine JL_stepG rfl rfl rfl (Gd.plain Sub.rfl) rfl rfl (fun hw => step_eql_str (Sub.w hw) Sub.rfl) ?_
    refine JL_step rfl rfl rfl (step_pick_and Sub.rfl Sub.rfl) ?_
    refine JL_step rfl rfl rfl (step_assign Sub.rfl) ?_
    refine JL_nil ?_
    refine J_ret ?_
    refine K_retv (rv := .tmp 2) rfl () (.tmp Sub.rfl) (Sub.bool ?_)
    rw [← validR_eq]; simp only [validR, *]; simp
  · try simp only [decide_eq_true_eq, decide_eq_false_iff_not, Bool.and_eq_true, Bool.or_eq_true, Bool.and_eq_false_iff, Bool.or_eq_false_iff, Bool.not_eq_true', Bool.not_eq_false', Int.not_lt, Int.not_le, Bool.not_true, Bool.not_false] at hc1
    refine J_seq ?_
    refine J_region ?_
    refine JL_step rfl rfl rfl (step_eql Sub.rfl Sub.rfl) ?_
    refine JL_step rfl rfl rfl (step_assign Sub.rfl) ?_
    refine JL_nil ?_
    refine J_cond Sub.rfl (fun hc2 => ?_) (fun hc2 => ?_)
    · try simp only [decide_eq_true_eq, decide_eq_false_iff_not, Bool.and_eq_true, Bool.or_eq_true, Bool.and_eq_false_iff, Bool.or_eq_false_iff, Bool.not_eq_true', Bool.not_eq_false', Int.not_lt, Int.not_le, Bool.not_true, Bool.not_false] at hc2
      refine J_seq ?_
      refine J_region ?_
      refine JL_step rfl rfl rfl (step_fieldAddr so60 Sub.rfl rfl) ?_
      refine JL_step rfl rfl rfl (step_load_ptr ty3 Sub.rfl) ?_
      refine JL_step rfl rfl rfl (step_eql Sub.rfl Sub.rfl) ?_
      refine JL_step rfl rfl rfl (step_move Sub.rfl) ?_
      refine JL_stepG rfl rfl rfl (Gd.plain Sub.rfl) rfl rfl (fun hw => step_fieldAddr so60 Sub.rfl rfl) ?_
      refine JL_stepG rfl rfl rfl (Gd.plain Sub.rfl) rfl rfl (fun hw => step_load_ptr ty9 (Sub.w hw)) ?_
      refine JL_stepG rfl rfl rfl (Gd.plain Sub.rfl) rfl rfl (fun hw => step_len_str Tryz.underlying9 (Sub.w hw)) ?_
      refine JL_stepG rfl rfl rfl (Gd.plain Sub.rfl) rfl rfl (fun hw => step_leq (Sub.w hw) Sub.rfl) ?_
      refine JL_step rfl rfl rfl (step_pick_and Sub.rfl Sub.rfl) ?_
      refine JL_step rfl rfl rfl (step_assign Sub.rfl) ?_
      refine JL_nil ?_
      refine J_ret ?_
      refine K_retv (rv := .tmp 2) rfl () (.tmp Sub.rfl) (Sub.bool ?_)
      rw [← validR_eq]; simp only [validR, *]; simp
    · try simp only [decide_eq_true_eq, decide_eq_false_iff_not, Bool.and_eq_true, Bool.or_eq_true, Bool.and_eq_false_iff, Bool.or_eq_false_iff, Bool.not_eq_true', Bool.not_eq_false', Int.not_lt, Int.not_le, Bool.not_true, Bool.not_false] at hc2
      refine J_seq ?_
      refine J_region ?_
      refine JL_step rfl rfl rfl (step_eql Sub.rfl Sub.rfl) ?_
      refine JL_step rfl rfl rfl (step_assign Sub.rfl) ?_
      refine JL_nil ?_
      refine J_cond Sub.rfl (fun hc3 => ?_) (fun hc3 => ?_)
      · try simp only [decide_eq_true_eq, decide_eq_false_iff_not, Bool.and_eq_true, Bool.or_eq_true, Bool.and_eq_false_iff, Bool.or_eq_false_iff, Bool.not_eq_true', Bool.not_eq_false', Int.not_lt, Int.not_le, Bool.not_true, Bool.not_false] at hc3
        refine J_seq ?_
        refine J_region ?_
        refine JL_step rfl rfl rfl (step_fieldAddr so60 Sub.rfl rfl) ?_
        refine JL_step rfl rfl rfl (step_load_ptr ty3 Sub.rfl) ?_
        refine JL_step rfl rfl rfl (step_geq Sub.rfl Sub.rfl) ?_
        refine JL_step rfl rfl rfl (step_move Sub.rfl) ?_
        refine JL_stepG rfl rfl rfl (Gd.plain Sub.rfl) rfl rfl (fun hw => step_fieldAddr so60 Sub.rfl rfl) ?_
        refine JL_stepG rfl rfl rfl (Gd.plain Sub.rfl) rfl rfl (fun hw => step_load_ptr ty3 (Sub.w hw)) ?_
        refine JL_stepG rfl rfl rfl (Gd.plain Sub.rfl) rfl rfl (fun hw => step_leq (Sub.w hw) Sub.rfl) ?_
        refine JL_step rfl rfl rfl (step_pick_and Sub.rfl Sub.rfl) ?_
        refine JL_step rfl rfl rfl (step_move Sub.rfl) ?_
        refine JL_stepG rfl rfl rfl (Gd.plain Sub.rfl) rfl rfl (fun hw => step_fieldAddr so60 Sub.rfl rfl) ?_
        refine JL_stepG rfl rfl rfl (Gd.plain Sub.rfl) rfl rfl (fun hw => step_load_ptr ty9 (Sub.w hw)) ?_
        refine JL_stepG rfl rfl rfl (Gd.plain Sub.rfl) rfl rfl (fun hw => step_eql_str (Sub.w hw) Sub.rfl) ?_
        refine JL_step rfl rfl rfl (step_pick_and Sub.rfl Sub.rfl) ?_
        refine JL_step rfl rfl rfl (step_assign Sub.rfl) ?_
        refine JL_nil ?_
        refine J_ret ?_
        refine K_retv (rv := .tmp 2) rfl () (.tmp Sub.rfl) (Sub.bool ?_)
        rw [← validR_eq]; simp only [validR, *]; simp
      · try simp only [decide_eq_true_eq, decide_eq_false_iff_not, Bool.and_eq_true, Bool.or_eq_true, Bool.and_eq_false_iff, Bool.or_eq_false_iff, Bool.not_eq_true', Bool.not_eq_false', Int.not_lt, Int.not_le, Bool.not_true, Bool.not_false] at hc3
        refine J_seq ?_
        refine J_region ?_
        refine JL_step rfl rfl rfl (step_eql Sub.rfl Sub.rfl) ?_
        refine JL_step rfl rfl rfl (step_assign Sub.rfl) ?_
        refine JL_nil ?_
        refine J_cond Sub.rfl (fun hc4 => ?_) (fun hc4 => ?_)
        · try simp only [decide_eq_true_eq, decide_eq_false_iff_not, Bool.and_eq_true, Bool.or_eq_true, Bool.and_eq_false_iff, Bool.or_eq_false_iff, Bool.not_eq_true', Bool.not_eq_false', Int.not_lt, Int.not_le, Bool.not_true, Bool.not_false] at hc4
          refine J_seq ?_
          refine J_region ?_
          refine JL_step rfl rfl rfl (step_fieldAddr so60 Sub.rfl rfl) ?_
          refine JL_step rfl rfl rfl (step_load_ptr ty3 Sub.rfl) ?_
          refine JL_step rfl rfl rfl (step_geq Sub.rfl Sub.rfl) ?_
          refine JL_step rfl rfl rfl (step_move Sub.rfl) ?_
          refine JL_stepG rfl rfl rfl (Gd.plain Sub.rfl) rfl rfl (fun hw => step_fieldAddr so60 Sub.rfl rfl) ?_
          refine JL_stepG rfl rfl rfl (Gd.plain Sub.rfl) rfl rfl (fun hw => step_load_ptr ty3 (Sub.w hw)) ?_
          refine JL_stepG rfl rfl rfl (Gd.plain Sub.rfl) rfl rfl (fun hw => step_leq (Sub.w hw) Sub.rfl) ?_
          refine JL_step rfl rfl rfl (step_pick_and Sub.rfl Sub.rfl) ?_
          refine JL_step rfl rfl rfl (step_move Sub.rfl) ?_
          refine JL_stepG rfl rfl rfl (Gd.plain Sub.rfl) rfl rfl (fun hw => step_fieldAddr so60 Sub.rfl rfl) ?_
          refine JL_stepG rfl rfl rfl (Gd.plain Sub.rfl) rfl rfl (fun hw => step_load_ptr ty9 (Sub.w hw)) ?_
          refine JL_stepG rfl rfl rfl (Gd.plain Sub.rfl) rfl rfl (fun hw => step_eql_str (Sub.w hw) Sub.rfl) ?_
          refine JL_step rfl rfl rfl (step_pick_and Sub.rfl Sub.rfl) ?_
          refine JL_step rfl rfl rfl (step_assign Sub.rfl) ?_
          refine JL_nil ?_
          refine J_ret ?_
          refine K_retv (rv := .tmp 2) rfl () (.tmp Sub.rfl) (Sub.bool ?_)
          rw [← validR_eq]; simp only [validR, *]; simp
        · try simp only [decide_eq_true_eq, decide_eq_false_iff_not, Bool.and_eq_true, Bool.or_eq_true, Bool.and_eq_false_iff, Bool.or_eq_false_iff, Bool.not_eq_true', Bool.not_eq_false', Int.not_lt, Int.not_le, Bool.not_true, Bool.not_false] at hc4
          refine J_seq ?_
          refine J_region ?_
          refine JL_step rfl rfl rfl (step_eql Sub.rfl Sub.rfl) ?_
          refine JL_step rfl rfl rfl (step_assign Sub.rfl) ?_
          refine JL_nil ?_
          refine J_cond Sub.rfl (fun hc5 => ?_) (fun hc5 => ?_)
          · try simp only [decide_eq_true_eq, decide_eq_false_iff_not, Bool.and_eq_true, Bool.or_eq_true, Bool.and_eq_false_iff, Bool.or_eq_false_iff, Bool.not_eq_true', Bool.not_eq_false', Int.not_lt, Int.not_le, Bool.not_true, Bool.not_false] at hc5
            refine J_seq ?_
            refine J_region ?_
            refine JL_step rfl rfl rfl (step_fieldAddr so60 Sub.rfl rfl) ?_
            refine JL_step rfl rfl rfl (step_load_ptr ty3 Sub.rfl) ?_
            refine JL_step rfl rfl rfl (step_eql Sub.rfl Sub.rfl) ?_
            refine JL_step rfl rfl rfl (step_move Sub.rfl) ?_
            refine JL_stepG rfl rfl rfl (Gd.plain Sub.rfl) rfl rfl (fun hw => step_fieldAddr so60 Sub.rfl rfl) ?_
            refine JL_stepG rfl rfl rfl (Gd.plain Sub.rfl) rfl rfl (fun hw => step_load_ptr ty3 (Sub.w hw)) ?_
            refine JL_stepG rfl rfl rfl (Gd.plain Sub.rfl) rfl rfl (fun hw => step_eql (Sub.w hw) Sub.rfl) ?_
            refine JL_step rfl rfl rfl (step_pick_or Sub.rfl Sub.rfl) ?_
            refine JL_step rfl rfl rfl (step_move Sub.rfl) ?_
            refine JL_stepG rfl rfl rfl (Gd.plain Sub.rfl) rfl rfl (fun hw => step_fieldAddr so60 Sub.rfl rfl) ?_
            refine JL_stepG rfl rfl rfl (Gd.plain Sub.rfl) rfl rfl (fun hw => step_load_ptr ty9 (Sub.w hw)) ?_
            refine JL_stepG rfl rfl rfl (Gd.plain Sub.rfl) rfl rfl (fun hw => step_eql_str (Sub.w hw) Sub.rfl) ?_
            refine JL_step rfl rfl rfl (step_pick_and Sub.rfl Sub.rfl) ?_
            refine JL_step rfl rfl rfl (step_assign Sub.rfl) ?_
            refine JL_nil ?_
            refine J_ret ?_
            refine K_retv (rv := .tmp 2) rfl () (.tmp Sub.rfl) (Sub.bool ?_)
            rw [← validR_eq]; simp only [validR, *]; simp
          · try simp only [decide_eq_true_eq, decide_eq_false_iff_not, Bool.and_eq_true, Bool.or_eq_true, Bool.and_eq_false_iff, Bool.or_eq_false_iff, Bool.not_eq_true', Bool.not_eq_false', Int.not_lt, Int.not_le, Bool.not_true, Bool.not_false] at hc5
            refine J_skip ?_
            refine J_seq ?_
            refine J_region ?_
            refine JL_step rfl rfl rfl (step_assign Sub.rfl) ?_
            refine JL_nil ?_
            refine J_ret ?_
            refine K_retv (rv := .tmp 2) rfl () (.tmp Sub.rfl) (Sub.bool ?_)
            rw [← validR_eq]; simp only [validR, *]; simp
theorem sign_spec (a b : Int) : Fun1 Tryz.prog 69 [tV (.int .i64 a), tV (.int .i64 b)] (tV (.int .i64 (ordI a b))) := by
  refine Spec.enter Tryz.func69 rfl rfl fun h0 w0 fr0 => ?_
  refine J_seq ?_
  refine J_region ?_
  refine JL_step rfl rfl rfl (step_assign Sub.rfl) ?_
  refine JL_nil ?_
  refine J_seq ?_
  refine J_seq ?_
  refine J_region ?_
  refine JL_step rfl rfl rfl (step_move Sub.rfl) ?_
  refine JL_step rfl rfl rfl (step_move Sub.rfl) ?_
  refine JL_step rfl rfl rfl (step_lss Sub.rfl Sub.rfl) ?_
  refine JL_nil ?_
  refine J_cond Sub.rfl (fun hc1 => ?_) (fun hc1 => ?_)
  · try simp only [decide_eq_true_eq, decide_eq_false_iff_not, Bool.and_eq_true, Bool.or_eq_true, Bool.and_eq_false_iff, Bool.or_eq_false_iff, Bool.not_eq_true', Bool.not_eq_false', Int.not_lt, Int.not_le, Bool.not_true, Bool.not_false] at hc1
    refine J_seq ?_
    refine J_region ?_
    refine JL_step rfl rfl rfl (step_assign Sub.rfl) ?_
    refine JL_nil ?_
    refine J_ret ?_
    refine K_retv (rv := .tmp 4) rfl () (.tmp Sub.rfl) (Sub.int ?_)
    simp [ordI, hc1]
  · try simp only [decide_eq_true_eq, decide_eq_false_iff_not, Bool.and_eq_true, Bool.or_eq_true, Bool.and_eq_false_iff, Bool.or_eq_false_iff, Bool.not_eq_true', Bool.not_eq_false', Int.not_lt, Int.not_le, Bool.not_true, Bool.not_false] at hc1
    refine J_skip ?_
    refine J_seq ?_
    refine J_seq ?_
    refine J_region ?_
    refine JL_step rfl rfl rfl (step_move Sub.rfl) ?_
    refine JL_step rfl rfl rfl (step_move Sub.rfl) ?_
    refine JL_step rfl rfl rfl (step_gtr Sub.rfl Sub.rfl) ?_
    refine JL_nil ?_
    refine J_cond Sub.rfl (fun hc2 => ?_) (fun hc2 => ?_)
    · try simp only [decide_eq_true_eq, decide_eq_false_iff_not, Bool.and_eq_true, Bool.or_eq_true, Bool.and_eq_false_iff, Bool.or_eq_false_iff, Bool.not_eq_true', Bool.not_eq_false', Int.not_lt, Int.not_le, Bool.not_true, Bool.not_false] at hc2
      refine J_seq ?_
      refine J_region ?_
      refine JL_step rfl rfl rfl (step_assign Sub.rfl) ?_
      refine JL_nil ?_
      refine J_ret ?_
      refine K_retv (rv := .tmp 4) rfl () (.tmp Sub.rfl) (Sub.int ?_)
      have : ¬ a < b := by omega
      simp [ordI, this]; omega
    · try simp only [decide_eq_true_eq, decide_eq_false_iff_not, Bool.and_eq_true, Bool.or_eq_true, Bool.and_eq_false_iff, Bool.or_eq_false_iff, Bool.not_eq_true', Bool.not_eq_false', Int.not_lt, Int.not_le, Bool.not_true, Bool.not_false] at hc2
      refine J_skip ?_
      refine J_seq ?_
      refine J_region ?_
      refine JL_step rfl rfl rfl (step_assign Sub.rfl) ?_
      refine JL_nil ?_
      refine J_ret ?_
      refine K_retv (rv := .tmp 4) rfl () (.tmp Sub.rfl) (Sub.int ?_)
      have h1 : ¬ a < b := by omega
      have h2 : ¬ b < a := by omega
      simp [ordI, h1, h2]
theorem CompareR_spec (a b : GValue) : Fun1 Tryz.prog 70 [rValue.ty a, rValue.ty b] (tV (.int .i64 (cmpV a b))) := by
  refine Spec.enter Tryz.func70 rfl rfl fun h0 w0 fr0 => ?_
  refine J_seq ?_
  refine J_region ?_
  refine JL_step rfl rfl rfl (step_box (R := rValue) Sub.rfl) ?_
  refine JL_step rfl rfl rfl (step_box (R := rValue) Sub.rfl) ?_
  refine JL_step rfl rfl rfl (step_assign Sub.rfl) ?_
  refine JL_nil ?_
  refine J_seq ?_
  refine J_seq ?_
  refine J_region ?_
  refine JL_step rfl rfl rfl (step_fieldAddr so60 Sub.rfl rfl) ?_
  refine JL_step rfl rfl rfl (step_load_ptr ty3 Sub.rfl) ?_
  refine JL_step rfl rfl rfl (step_fieldAddr so60 Sub.rfl rfl) ?_
  refine JL_step rfl rfl rfl (step_load_ptr ty3 Sub.rfl) ?_
  refine JL_step rfl rfl rfl (step_neq Sub.rfl Sub.rfl) ?_
  refine JL_nil ?_
  refine J_cond Sub.rfl (fun h9 => ?_) (fun h9 => ?_)
  · try simp only [decide_eq_true_eq, decide_eq_false_iff_not, Bool.and_eq_true, Bool.or_eq_true, Bool.and_eq_false_iff, Bool.or_eq_false_iff, Bool.not_eq_true', Bool.not_eq_false', Int.not_lt, Int.not_le, Bool.not_true, Bool.not_false] at h9
    refine J_seq ?_
    refine J_region ?_
    refine JL_step rfl rfl rfl (step_fieldAddr so60 Sub.rfl rfl) ?_
    refine JL_step rfl rfl rfl (step_load_ptr ty3 Sub.rfl) ?_
    refine JL_step rfl rfl rfl (step_fieldAddr so60 Sub.rfl rfl) ?_
    refine JL_step rfl rfl rfl (step_load_ptr ty3 Sub.rfl) ?_
    refine JL_step rfl rfl rfl (step_call0 (sign_spec _ _) ⟨Sub.rfl, Sub.rfl, trivial⟩ Tryz.call69) ?_
    refine JL_step rfl rfl rfl (step_assign Sub.rfl) ?_
    refine JL_nil ?_
    refine J_ret ?_
    refine K_retv (rv := .tmp 4) rfl () (.tmp Sub.rfl) (Sub.int ?_)
    have : ordI a.Kind b.Kind ≠ 0 := fun e => h9 (ordI_zero.1 e)
    simp [cmpV, this]
  · try simp only [decide_eq_true_eq, decide_eq_false_iff_not, Bool.and_eq_true, Bool.or_eq_true, Bool.and_eq_false_iff, Bool.or_eq_false_iff, Bool.not_eq_true', Bool.not_eq_false', Int.not_lt, Int.not_le, Bool.not_true, Bool.not_false] at h9
    refine J_skip ?_
    refine J_seq ?_
    refine J_seq ?_
    refine J_region ?_
    refine JL_step rfl rfl rfl (step_fieldAddr so60 Sub.rfl rfl) ?_
    refine JL_step rfl rfl rfl (step_load_ptr ty3 Sub.rfl) ?_
    refine JL_step rfl rfl rfl (step_fieldAddr so60 Sub.rfl rfl) ?_
    refine JL_step rfl rfl rfl (step_load_ptr ty3 Sub.rfl) ?_
    refine JL_step rfl rfl rfl (step_neq Sub.rfl Sub.rfl) ?_
    refine JL_nil ?_
    refine J_cond Sub.rfl (fun h19 => ?_) (fun h19 => ?_)
    · try simp only [decide_eq_true_eq, decide_eq_false_iff_not, Bool.and_eq_true, Bool.or_eq_true, Bool.and_eq_false_iff, Bool.or_eq_false_iff, Bool.not_eq_true', Bool.not_eq_false', Int.not_lt, Int.not_le, Bool.not_true, Bool.not_false] at h19
      refine J_seq ?_
      refine J_region ?_
      refine JL_step rfl rfl rfl (step_fieldAddr so60 Sub.rfl rfl) ?_
      refine JL_step rfl rfl rfl (step_load_ptr ty3 Sub.rfl) ?_
      refine JL_step rfl rfl rfl (step_fieldAddr so60 Sub.rfl rfl) ?_
      refine JL_step rfl rfl rfl (step_load_ptr ty3 Sub.rfl) ?_
      refine JL_step rfl rfl rfl (step_call0 (sign_spec _ _) ⟨Sub.rfl, Sub.rfl, trivial⟩ Tryz.call69) ?_
      refine JL_step rfl rfl rfl (step_assign Sub.rfl) ?_
      refine JL_nil ?_
      refine J_ret ?_
      refine K_retv (rv := .tmp 4) rfl () (.tmp Sub.rfl) (Sub.int ?_)
      have h1 : ordI a.Kind b.Kind = 0 := ordI_zero.2 (by simpa using h9)
      have h2 : ordI a.N b.N ≠ 0 := fun e => h19 (ordI_zero.1 e)
      simp [cmpV, h1, h2]
    · try simp only [decide_eq_true_eq, decide_eq_false_iff_not, Bool.and_eq_true, Bool.or_eq_true, Bool.and_eq_false_iff, Bool.or_eq_false_iff, Bool.not_eq_true', Bool.not_eq_false', Int.not_lt, Int.not_le, Bool.not_true, Bool.not_false] at h19
      refine J_skip ?_
      refine J_seq ?_
      refine J_seq ?_
      refine J_region ?_
      refine JL_step rfl rfl rfl (step_fieldAddr so60 Sub.rfl rfl) ?_
      refine JL_step rfl rfl rfl (step_load_ptr ty9 Sub.rfl) ?_
      refine JL_step rfl rfl rfl (step_fieldAddr so60 Sub.rfl rfl) ?_
      refine JL_step rfl rfl rfl (step_load_ptr ty9 Sub.rfl) ?_
      refine JL_step rfl rfl rfl (step_lss_str Sub.rfl Sub.rfl) ?_
      refine JL_nil ?_
      refine J_cond Sub.rfl (fun h29 => ?_) (fun h29 => ?_)
      · try simp only [decide_eq_true_eq, decide_eq_false_iff_not, Bool.and_eq_true, Bool.or_eq_true, Bool.and_eq_false_iff, Bool.or_eq_false_iff, Bool.not_eq_true', Bool.not_eq_false', Int.not_lt, Int.not_le, Bool.not_true, Bool.not_false] at h29
        refine J_seq ?_
        refine J_region ?_
        refine JL_step rfl rfl rfl (step_assign Sub.rfl) ?_
        refine JL_nil ?_
        refine J_ret ?_
        refine K_retv (rv := .tmp 4) rfl () (.tmp Sub.rfl) (Sub.int ?_)
        have h1 : ordI a.Kind b.Kind = 0 := ordI_zero.2 (by simpa using h9)
        have h2 : ordI a.N b.N = 0 := ordI_zero.2 (by simpa using h19)
        simp only [cmpV, h1, h2, ordS]; simp_all
      · try simp only [decide_eq_true_eq, decide_eq_false_iff_not, Bool.and_eq_true, Bool.or_eq_true, Bool.and_eq_false_iff, Bool.or_eq_false_iff, Bool.not_eq_true', Bool.not_eq_false', Int.not_lt, Int.not_le, Bool.not_true, Bool.not_false] at h29
        refine J_skip ?_
        refine J_seq ?_
        refine J_seq ?_
        refine J_region ?_
        refine JL_step rfl rfl rfl (step_fieldAddr so60 Sub.rfl rfl) ?_
        refine JL_step rfl rfl rfl (step_load_ptr ty9 Sub.rfl) ?_
        refine JL_step rfl rfl rfl (step_fieldAddr so60 Sub.rfl rfl) ?_
        refine JL_step rfl rfl rfl (step_load_ptr ty9 Sub.rfl) ?_
        refine JL_step rfl rfl rfl (step_gtr_str Sub.rfl Sub.rfl) ?_
        refine JL_nil ?_
        refine J_cond Sub.rfl (fun h34 => ?_) (fun h34 => ?_)
        · try simp only [decide_eq_true_eq, decide_eq_false_iff_not, Bool.and_eq_true, Bool.or_eq_true, Bool.and_eq_false_iff, Bool.or_eq_false_iff, Bool.not_eq_true', Bool.not_eq_false', Int.not_lt, Int.not_le, Bool.not_true, Bool.not_false] at h34
          refine J_seq ?_
          refine J_region ?_
          refine JL_step rfl rfl rfl (step_assign Sub.rfl) ?_
          refine JL_nil ?_
          refine J_ret ?_
          refine K_retv (rv := .tmp 4) rfl () (.tmp Sub.rfl) (Sub.int ?_)
          have h1 : ordI a.Kind b.Kind = 0 := ordI_zero.2 (by simpa using h9)
          have h2 : ordI a.N b.N = 0 := ordI_zero.2 (by simpa using h19)
          simp only [cmpV, h1, h2, ordS]; simp_all
        · try simp only [decide_eq_true_eq, decide_eq_false_iff_not, Bool.and_eq_true, Bool.or_eq_true, Bool.and_eq_false_iff, Bool.or_eq_false_iff, Bool.not_eq_true', Bool.not_eq_false', Int.not_lt, Int.not_le, Bool.not_true, Bool.not_false] at h34
          refine J_skip ?_
          refine J_seq ?_
          refine J_region ?_
          refine JL_step rfl rfl rfl (step_assign Sub.rfl) ?_
          refine JL_nil ?_
          refine J_ret ?_
          refine K_retv (rv := .tmp 4) rfl () (.tmp Sub.rfl) (Sub.int ?_)
          have h1 : ordI a.Kind b.Kind = 0 := ordI_zero.2 (by simpa using h9)
          have h2 : ordI a.N b.N = 0 := ordI_zero.2 (by simpa using h19)
          simp only [cmpV, h1, h2, ordS]; simp_all
theorem TestR_spec (a b : GValue) (op add : Int) : Fun1 Tryz.prog 50 [rValue.ty a, tV (.int .i64 op), rValue.ty b, tV (.int .i64 add)] (tV (.bool (testV a op b add))) := by
  refine Spec.enter Tryz.func50 rfl rfl fun h0 w0 fr0 => ?_
  refine J_seq ?_
  refine J_region ?_
  refine JL_step rfl rfl rfl (step_box (R := rValue) Sub.rfl) ?_
  refine JL_step rfl rfl rfl (step_box (R := rValue) Sub.rfl) ?_
  refine JL_step rfl rfl rfl (step_assign Sub.rfl) ?_
  refine JL_nil ?_
  refine J_seq ?_
  refine J_seq ?_
  refine J_region ?_
  refine JL_step rfl rfl rfl (step_load_ptr ty60 Sub.rfl) ?_
  refine JL_step rfl rfl rfl (step_call0 (ValidR_spec _) ⟨Sub.rfl, trivial⟩ Tryz.call68) ?_
  refine JL_step rfl rfl rfl (step_not Sub.rfl) ?_
  refine JL_step rfl rfl rfl (step_move Sub.rfl) ?_
  refine JL_stepG rfl rfl rfl (Gd.plain Sub.rfl) rfl rfl (fun hw => step_load_ptr ty60 Sub.rfl) ?_
  refine JL_stepG rfl rfl rfl (Gd.plain Sub.rfl) rfl rfl (fun hw => step_call0 (ValidR_spec _) ⟨(Sub.w hw), trivial⟩ Tryz.call68) ?_
  refine JL_stepG rfl rfl rfl (Gd.plain Sub.rfl) rfl rfl (fun hw => step_not (Sub.w hw)) ?_
  refine JL_step rfl rfl rfl (step_pick_or Sub.rfl Sub.rfl) ?_
  refine JL_step rfl rfl rfl (step_move Sub.rfl) ?_
  refine JL_stepG rfl rfl rfl (Gd.plain Sub.rfl) rfl rfl (fun hw => step_fieldAddr so60 Sub.rfl rfl) ?_
  refine JL_stepG rfl rfl rfl (Gd.plain Sub.rfl) rfl rfl (fun hw => step_load_ptr ty3 (Sub.w hw)) ?_
  refine JL_stepG rfl rfl rfl (Gd.plain Sub.rfl) rfl rfl (fun hw => step_fieldAddr so60 Sub.rfl rfl) ?_
  refine JL_stepG rfl rfl rfl (Gd.plain Sub.rfl) rfl rfl (fun hw => step_load_ptr ty3 (Sub.w hw)) ?_
  refine JL_stepG rfl rfl rfl (Gd.plain Sub.rfl) rfl rfl (fun hw => step_neq (Sub.w hw) (Sub.w hw)) ?_
  refine JL_step rfl rfl rfl (step_pick_or Sub.rfl Sub.rfl) ?_
  refine JL_step rfl rfl rfl (step_move Sub.rfl) ?_
  refine JL_stepG rfl rfl rfl (Gd.plain Sub.rfl) rfl rfl (fun hw => step_fieldAddr so60 Sub.rfl rfl) ?_
  refine JL_stepG rfl rfl rfl (Gd.plain Sub.rfl) rfl rfl (fun hw => step_load_ptr ty3 (Sub.w hw)) ?_
  refine JL_stepG rfl rfl rfl (Gd.plain Sub.rfl) rfl rfl (fun hw => step_eql (Sub.w hw) Sub.rfl) ?_
  refine JL_step rfl rfl rfl (step_pick_or Sub.rfl Sub.rfl) ?_
  refine JL_nil ?_
  refine J_cond Sub.rfl (fun h29 => ?_) (fun h29 => ?_)
  · try simp only [decide_eq_true_eq, decide_eq_false_iff_not, Bool.and_eq_true, Bool.or_eq_true, Bool.and_eq_false_iff, Bool.or_eq_false_iff, Bool.not_eq_true', Bool.not_eq_false', Int.not_lt, Int.not_le, Bool.not_true, Bool.not_false] at h29
    refine J_seq ?_
    refine J_region ?_
    refine JL_step rfl rfl rfl (step_assign Sub.rfl) ?_
    refine JL_nil ?_
    refine J_ret ?_
    refine K_retv (rv := .tmp 8) rfl () (.tmp Sub.rfl) (Sub.bool ?_)
    rw [← testR_eq]
    have : validV a = false ∨ validV b = false ∨ a.Kind ≠ b.Kind ∨ a.Kind = 0 := by simp_all [or_assoc]
    rw [testR, if_pos this]
  · try simp only [decide_eq_true_eq, decide_eq_false_iff_not, Bool.and_eq_true, Bool.or_eq_true, Bool.and_eq_false_iff, Bool.or_eq_false_iff, Bool.not_eq_true', Bool.not_eq_false', Int.not_lt, Int.not_le, Bool.not_true, Bool.not_false] at h29
    have hva : validV a = true := by simp_all
    have hvb : validV b = true := by simp_all
    have hn1 : ¬ (validV a = false ∨ validV b = false ∨ a.Kind ≠ b.Kind ∨ a.Kind = 0) := by rintro (q | q | q | q) <;> simp_all
    refine J_skip ?_
    refine J_seq ?_
    refine J_seq ?_
    refine J_region ?_
    refine JL_step rfl rfl rfl (step_move Sub.rfl) ?_
    refine JL_step rfl rfl rfl (step_neq Sub.rfl Sub.rfl) ?_
    refine JL_step rfl rfl rfl (step_move Sub.rfl) ?_
    refine JL_stepG rfl rfl rfl (Gd.plain Sub.rfl) rfl rfl (fun hw => step_fieldAddr so60 Sub.rfl rfl) ?_
    refine JL_stepG rfl rfl rfl (Gd.plain Sub.rfl) rfl rfl (fun hw => step_load_ptr ty3 (Sub.w hw)) ?_
    refine JL_stepG rfl rfl rfl (Gd.plain Sub.rfl) rfl rfl (fun hw => step_neq (Sub.w hw) Sub.rfl) ?_
    refine JL_step rfl rfl rfl (step_pick_and Sub.rfl Sub.rfl) ?_
    refine JL_step rfl rfl rfl (step_move Sub.rfl) ?_
    refine JL_stepG rfl rfl rfl (Gd.plain Sub.rfl) rfl rfl (fun hw => step_fieldAddr so60 Sub.rfl rfl) ?_
    refine JL_stepG rfl rfl rfl (Gd.plain Sub.rfl) rfl rfl (fun hw => step_load_ptr ty3 (Sub.w hw)) ?_
    refine JL_stepG rfl rfl rfl (Gd.plain Sub.rfl) rfl rfl (fun hw => step_neq (Sub.w hw) Sub.rfl) ?_
    refine JL_step rfl rfl rfl (step_pick_and Sub.rfl Sub.rfl) ?_
    refine JL_nil ?_
    refine J_cond Sub.rfl (fun h41 => ?_) (fun h41 => ?_)
    · try simp only [decide_eq_true_eq, decide_eq_false_iff_not, Bool.and_eq_true, Bool.or_eq_true, Bool.and_eq_false_iff, Bool.or_eq_false_iff, Bool.not_eq_true', Bool.not_eq_false', Int.not_lt, Int.not_le, Bool.not_true, Bool.not_false] at h41
      refine J_seq ?_
      refine J_region ?_
      refine JL_step rfl rfl rfl (step_assign Sub.rfl) ?_
      refine JL_nil ?_
      refine J_ret ?_
      refine K_retv (rv := .tmp 8) rfl () (.tmp Sub.rfl) (Sub.bool ?_)
      rw [← testR_eq, testR, if_neg hn1, if_pos (by simp_all)]
    · try simp only [decide_eq_true_eq, decide_eq_false_iff_not, Bool.and_eq_true, Bool.or_eq_true, Bool.and_eq_false_iff, Bool.or_eq_false_iff, Bool.not_eq_true', Bool.not_eq_false', Int.not_lt, Int.not_le, Bool.not_true, Bool.not_false] at h41
      have hn2 : ¬ (add ≠ 0 ∧ a.Kind ≠ 2 ∧ a.Kind ≠ 3) := by rintro ⟨q1, q2, q3⟩; simp_all
      refine J_skip ?_
      refine J_seq ?_
      refine J_region ?_
      refine JL_step rfl rfl rfl (step_fieldAddr so60 Sub.rfl rfl) ?_
      refine JL_step rfl rfl rfl (step_load_ptr ty3 Sub.rfl) ?_
      refine JL_step rfl rfl rfl (step_fieldAddr so60 Sub.rfl rfl) ?_
      refine JL_step rfl rfl rfl (step_load_ptr ty3 Sub.rfl) ?_
      refine JL_step rfl rfl rfl (step_sub Sub.rfl Sub.rfl (in64_sub hva hvb)) ?_
      refine JL_step rfl rfl rfl (step_move Sub.rfl) ?_
      refine JL_step rfl rfl rfl (step_call0 (sign_spec _ _) ⟨Sub.rfl, Sub.rfl, trivial⟩ Tryz.call69) ?_
      refine JL_step rfl rfl rfl (step_assign Sub.rfl) ?_
      refine JL_nil ?_
      refine J_seq ?_
      refine J_seq ?_
      refine J_region ?_
      refine JL_step rfl rfl rfl (step_fieldAddr so60 Sub.rfl rfl) ?_
      refine JL_step rfl rfl rfl (step_load_ptr ty3 Sub.rfl) ?_
      refine JL_step rfl rfl rfl (step_eql Sub.rfl Sub.rfl) ?_
      refine JL_nil ?_
      refine J_cond Sub.rfl (fun h51 => ?_) (fun h51 => ?_)
      · try simp only [decide_eq_true_eq, decide_eq_false_iff_not, Bool.and_eq_true, Bool.or_eq_true, Bool.and_eq_false_iff, Bool.or_eq_false_iff, Bool.not_eq_true', Bool.not_eq_false', Int.not_lt, Int.not_le, Bool.not_true, Bool.not_false] at h51
        refine J_region ?_
        refine JL_step rfl rfl rfl (step_load_ptr ty60 Sub.rfl) ?_
        refine JL_step rfl rfl rfl (step_load_ptr ty60 Sub.rfl) ?_
        refine JL_step rfl rfl rfl (step_call0 (CompareR_spec _ _) ⟨Sub.rfl, Sub.rfl, trivial⟩ Tryz.call70) ?_
        refine JL_step rfl rfl rfl (step_assign Sub.rfl) ?_
        refine JL_nil ?_
        refine J_seq ?_
        refine J_seq ?_
        refine J_region ?_
        refine JL_step rfl rfl rfl (step_move Sub.rfl) ?_
        refine JL_nil ?_
        refine J_block ?_
        refine J_seq ?_
        refine J_region ?_
        refine JL_step rfl rfl rfl (step_eql Sub.rfl Sub.rfl) ?_
        refine JL_step rfl rfl rfl (step_assign Sub.rfl) ?_
        refine JL_nil ?_
        refine J_cond Sub.rfl (fun hc4 => ?_) (fun hc4 => ?_)
        · try simp only [decide_eq_true_eq, decide_eq_false_iff_not, Bool.and_eq_true, Bool.or_eq_true, Bool.and_eq_false_iff, Bool.or_eq_false_iff, Bool.not_eq_true', Bool.not_eq_false', Int.not_lt, Int.not_le, Bool.not_true, Bool.not_false] at hc4
          refine J_seq ?_
          refine J_region ?_
          refine JL_step rfl rfl rfl (step_move Sub.rfl) ?_
          refine JL_step rfl rfl rfl (step_eql Sub.rfl Sub.rfl) ?_
          refine JL_step rfl rfl rfl (step_assign Sub.rfl) ?_
          refine JL_nil ?_
          refine J_ret ?_
          refine K_retv (rv := .tmp 8) rfl () (.tmp Sub.rfl) (Sub.bool ?_)
          rw [← testR_eq]
          simp only [testR, if_neg hn1, if_neg hn2, opHolds]; simp_all
        · try simp only [decide_eq_true_eq, decide_eq_false_iff_not, Bool.and_eq_true, Bool.or_eq_true, Bool.and_eq_false_iff, Bool.or_eq_false_iff, Bool.not_eq_true', Bool.not_eq_false', Int.not_lt, Int.not_le, Bool.not_true, Bool.not_false] at hc4
          refine J_seq ?_
          refine J_region ?_
          refine JL_step rfl rfl rfl (step_eql Sub.rfl Sub.rfl) ?_
          refine JL_step rfl rfl rfl (step_assign Sub.rfl) ?_
          refine JL_nil ?_
          refine J_cond Sub.rfl (fun hc5 => ?_) (fun hc5 => ?_)
          · try simp only [decide_eq_true_eq, decide_eq_false_iff_not, Bool.and_eq_true, Bool.or_eq_true, Bool.and_eq_false_iff, Bool.or_eq_false_iff, Bool.not_eq_true', Bool.not_eq_false', Int.not_lt, Int.not_le, Bool.not_true, Bool.not_false] at hc5
            refine J_seq ?_
            refine J_region ?_
            refine JL_step rfl rfl rfl (step_move Sub.rfl) ?_
            refine JL_step rfl rfl rfl (step_neq Sub.rfl Sub.rfl) ?_
            refine JL_step rfl rfl rfl (step_assign Sub.rfl) ?_
            refine JL_nil ?_
            refine J_ret ?_
            refine K_retv (rv := .tmp 8) rfl () (.tmp Sub.rfl) (Sub.bool ?_)
            rw [← testR_eq]
            simp only [testR, if_neg hn1, if_neg hn2, opHolds]; simp_all
          · try simp only [decide_eq_true_eq, decide_eq_false_iff_not, Bool.and_eq_true, Bool.or_eq_true, Bool.and_eq_false_iff, Bool.or_eq_false_iff, Bool.not_eq_true', Bool.not_eq_false', Int.not_lt, Int.not_le, Bool.not_true, Bool.not_false] at hc5
            refine J_seq ?_
            refine J_region ?_
            refine JL_step rfl rfl rfl (step_eql Sub.rfl Sub.rfl) ?_
            refine JL_step rfl rfl rfl (step_assign Sub.rfl) ?_
            refine JL_nil ?_
            refine J_cond Sub.rfl (fun hc6 => ?_) (fun hc6 => ?_)
            · try simp only [decide_eq_true_eq, decide_eq_false_iff_not, Bool.and_eq_true, Bool.or_eq_true, Bool.and_eq_false_iff, Bool.or_eq_false_iff, Bool.not_eq_true', Bool.not_eq_false', Int.not_lt, Int.not_le, Bool.not_true, Bool.not_false] at hc6
              refine J_seq ?_
              refine J_region ?_
              refine JL_step rfl rfl rfl (step_move Sub.rfl) ?_
              refine JL_step rfl rfl rfl (step_lss Sub.rfl Sub.rfl) ?_
              refine JL_step rfl rfl rfl (step_assign Sub.rfl) ?_
              refine JL_nil ?_
              refine J_ret ?_
              refine K_retv (rv := .tmp 8) rfl () (.tmp Sub.rfl) (Sub.bool ?_)
              rw [← testR_eq]
              simp only [testR, if_neg hn1, if_neg hn2, opHolds]; simp_all
            · try simp only [decide_eq_true_eq, decide_eq_false_iff_not, Bool.and_eq_true, Bool.or_eq_true, Bool.and_eq_false_iff, Bool.or_eq_false_iff, Bool.not_eq_true', Bool.not_eq_false', Int.not_lt, Int.not_le, Bool.not_true, Bool.not_false] at hc6
              refine J_seq ?_
              refine J_region ?_
              refine JL_step rfl rfl rfl (step_eql Sub.rfl Sub.rfl) ?_
              refine JL_step rfl rfl rfl (step_assign Sub.rfl) ?_
              refine JL_nil ?_
              refine J_cond Sub.rfl (fun hc7 => ?_) (fun hc7 => ?_)
              · try simp only [decide_eq_true_eq, decide_eq_false_iff_not, Bool.and_eq_true, Bool.or_eq_true, Bool.and_eq_false_iff, Bool.or_eq_false_iff, Bool.not_eq_true', Bool.not_eq_false', Int.not_lt, Int.not_le, Bool.not_true, Bool.not_false] at hc7
                refine J_seq ?_
                refine J_region ?_
                refine JL_step rfl rfl rfl (step_move Sub.rfl) ?_
                refine JL_step rfl rfl rfl (step_leq Sub.rfl Sub.rfl) ?_
                refine JL_step rfl rfl rfl (step_assign Sub.rfl) ?_
                refine JL_nil ?_
                refine J_ret ?_
                refine K_retv (rv := .tmp 8) rfl () (.tmp Sub.rfl) (Sub.bool ?_)
                rw [← testR_eq]
                simp only [testR, if_neg hn1, if_neg hn2, opHolds]; simp_all
              · try simp only [decide_eq_true_eq, decide_eq_false_iff_not, Bool.and_eq_true, Bool.or_eq_true, Bool.and_eq_false_iff, Bool.or_eq_false_iff, Bool.not_eq_true', Bool.not_eq_false', Int.not_lt, Int.not_le, Bool.not_true, Bool.not_false] at hc7
                refine J_skip ?_
                refine J_seq ?_
                refine J_region ?_
                refine JL_step rfl rfl rfl (step_assign Sub.rfl) ?_
                refine JL_nil ?_
                refine J_ret ?_
                refine K_retv (rv := .tmp 8) rfl () (.tmp Sub.rfl) (Sub.bool ?_)
                rw [← testR_eq]
                simp only [testR, if_neg hn1, if_neg hn2, opHolds]; simp_all
      · try simp only [decide_eq_true_eq, decide_eq_false_iff_not, Bool.and_eq_true, Bool.or_eq_true, Bool.and_eq_false_iff, Bool.or_eq_false_iff, Bool.not_eq_true', Bool.not_eq_false', Int.not_lt, Int.not_le, Bool.not_true, Bool.not_false] at h51
        refine J_skip ?_
        refine J_seq ?_
        refine J_seq ?_
        refine J_region ?_
        refine JL_step rfl rfl rfl (step_move Sub.rfl) ?_
        refine JL_nil ?_
        refine J_block ?_
        refine J_seq ?_
        refine J_region ?_
        refine JL_step rfl rfl rfl (step_eql Sub.rfl Sub.rfl) ?_
        refine JL_step rfl rfl rfl (step_assign Sub.rfl) ?_
        refine JL_nil ?_
        refine J_cond Sub.rfl (fun hc8 => ?_) (fun hc8 => ?_)
        · try simp only [decide_eq_true_eq, decide_eq_false_iff_not, Bool.and_eq_true, Bool.or_eq_true, Bool.and_eq_false_iff, Bool.or_eq_false_iff, Bool.not_eq_true', Bool.not_eq_false', Int.not_lt, Int.not_le, Bool.not_true, Bool.not_false] at hc8
          refine J_seq ?_
          refine J_region ?_
          refine JL_step rfl rfl rfl (step_move Sub.rfl) ?_
          refine JL_step rfl rfl rfl (step_eql Sub.rfl Sub.rfl) ?_
          refine JL_step rfl rfl rfl (step_assign Sub.rfl) ?_
          refine JL_nil ?_
          refine J_ret ?_
          refine K_retv (rv := .tmp 8) rfl () (.tmp Sub.rfl) (Sub.bool ?_)
          rw [← testR_eq]
          simp only [testR, if_neg hn1, if_neg hn2, opHolds]; simp_all
        · try simp only [decide_eq_true_eq, decide_eq_false_iff_not, Bool.and_eq_true, Bool.or_eq_true, Bool.and_eq_false_iff, Bool.or_eq_false_iff, Bool.not_eq_true', Bool.not_eq_false', Int.not_lt, Int.not_le, Bool.not_true, Bool.not_false] at hc8
          refine J_seq ?_
          refine J_region ?_
          refine JL_step rfl rfl rfl (step_eql Sub.rfl Sub.rfl) ?_
          refine JL_step rfl rfl rfl (step_assign Sub.rfl) ?_
          refine JL_nil ?_
          refine J_cond Sub.rfl (fun hc9 => ?_) (fun hc9 => ?_)
          · try simp only [decide_eq_true_eq, decide_eq_false_iff_not, Bool.and_eq_true, Bool.or_eq_true, Bool.and_eq_false_iff, Bool.or_eq_false_iff, Bool.not_eq_true', Bool.not_eq_false', Int.not_lt, Int.not_le, Bool.not_true, Bool.not_false] at hc9
            refine J_seq ?_
            refine J_region ?_
            refine JL_step rfl rfl rfl (step_move Sub.rfl) ?_
            refine JL_step rfl rfl rfl (step_neq Sub.rfl Sub.rfl) ?_
            refine JL_step rfl rfl rfl (step_assign Sub.rfl) ?_
            refine JL_nil ?_
            refine J_ret ?_
            refine K_retv (rv := .tmp 8) rfl () (.tmp Sub.rfl) (Sub.bool ?_)
            rw [← testR_eq]
            simp only [testR, if_neg hn1, if_neg hn2, opHolds]; simp_all
          · try simp only [decide_eq_true_eq, decide_eq_false_iff_not, Bool.and_eq_true, Bool.or_eq_true, Bool.and_eq_false_iff, Bool.or_eq_false_iff, Bool.not_eq_true', Bool.not_eq_false', Int.not_lt, Int.not_le, Bool.not_true, Bool.not_false] at hc9
            refine J_seq ?_
            refine J_region ?_
            refine JL_step rfl rfl rfl (step_eql Sub.rfl Sub.rfl) ?_
            refine JL_step rfl rfl rfl (step_assign Sub.rfl) ?_
            refine JL_nil ?_
            refine J_cond Sub.rfl (fun hc10 => ?_) (fun hc10 => ?_)
            · try simp only [decide_eq_true_eq, decide_eq_false_iff_not, Bool.and_eq_true, Bool.or_eq_true, Bool.and_eq_false_iff, Bool.or_eq_false_iff, Bool.not_eq_true', Bool.not_eq_false', Int.not_lt, Int.not_le, Bool.not_true, Bool.not_false] at hc10
              refine J_seq ?_
              refine J_region ?_
              refine JL_step rfl rfl rfl (step_move Sub.rfl) ?_
              refine JL_step rfl rfl rfl (step_lss Sub.rfl Sub.rfl) ?_
              refine JL_step rfl rfl rfl (step_assign Sub.rfl) ?_
              refine JL_nil ?_
              refine J_ret ?_
              refine K_retv (rv := .tmp 8) rfl () (.tmp Sub.rfl) (Sub.bool ?_)
              rw [← testR_eq]
              simp only [testR, if_neg hn1, if_neg hn2, opHolds]; simp_all
            · try simp only [decide_eq_true_eq, decide_eq_false_iff_not, Bool.and_eq_true, Bool.or_eq_true, Bool.and_eq_false_iff, Bool.or_eq_false_iff, Bool.not_eq_true', Bool.not_eq_false', Int.not_lt, Int.not_le, Bool.not_true, Bool.not_false] at hc10
              refine J_seq ?_
              refine J_region ?_
              refine JL_step rfl rfl rfl (step_eql Sub.rfl Sub.rfl) ?_
              refine JL_step rfl rfl rfl (step_assign Sub.rfl) ?_
              refine JL_nil ?_
              refine J_cond Sub.rfl (fun hc11 => ?_) (fun hc11 => ?_)
              · try simp only [decide_eq_true_eq, decide_eq_false_iff_not, Bool.and_eq_true, Bool.or_eq_true, Bool.and_eq_false_iff, Bool.or_eq_false_iff, Bool.not_eq_true', Bool.not_eq_false', Int.not_lt, Int.not_le, Bool.not_true, Bool.not_false] at hc11
                refine J_seq ?_
                refine J_region ?_
                refine JL_step rfl rfl rfl (step_move Sub.rfl) ?_
                refine JL_step rfl rfl rfl (step_leq Sub.rfl Sub.rfl) ?_
                refine JL_step rfl rfl rfl (step_assign Sub.rfl) ?_
                refine JL_nil ?_
                refine J_ret ?_
                refine K_retv (rv := .tmp 8) rfl () (.tmp Sub.rfl) (Sub.bool ?_)
                rw [← testR_eq]
                simp only [testR, if_neg hn1, if_neg hn2, opHolds]; simp_all
              · try simp only [decide_eq_true_eq, decide_eq_false_iff_not, Bool.and_eq_true, Bool.or_eq_true, Bool.and_eq_false_iff, Bool.or_eq_false_iff, Bool.not_eq_true', Bool.not_eq_false', Int.not_lt, Int.not_le, Bool.not_true, Bool.not_false] at hc11
                refine J_skip ?_
                refine J_seq ?_
                refine J_region ?_
                refine JL_step rfl rfl rfl (step_assign Sub.rfl) ?_
                refine JL_nil ?_
                refine J_ret ?_
                refine K_retv (rv := .tmp 8) rfl () (.tmp Sub.rfl) (Sub.bool ?_)
                rw [← testR_eq]
                simp only [testR, if_neg hn1, if_neg hn2, opHolds]; simp_all
end Lg

namespace Lg
open Go Go.Proofs


def exclB (a b : GFact) : Bool := decide (a.Entity = b.Entity) && (!decide (a.Variant = -1) || !decide (b.Variant = -1))

theorem columnT_spec (c op : Int) : Fun1 Tryz.prog 35 [tV (.int .i64 c), tV (.int .i64 op)] (rTest.ty (bothT c op)) := by
  refine Spec.enter Tryz.func35 rfl rfl fun h0 w0 fr0 => ?_
  refine J_seq ?_
  refine J_region ?_
  refine JL_stepX rfl rfl rfl (step_alloc (fun w => Tryz.zeroValue66 w) zr66) fun v4 => ?_
  refine JL_nil ?_
  refine J_seq ?_
  refine J_region ?_
  refine JL_step rfl rfl rfl (step_move Sub.rfl) ?_
  refine JL_step rfl rfl rfl (step_build (x := (⟨0, c, zValue⟩ : GSide)) (zs := [[Value.int .i64 0], [Value.int .i64 0], [Value.int .i64 0, Value.int .i64 0, Value.string ⟨#[]⟩]]) so62 (fun w => Tryz.zeroValue62 w) ⟨Sub.rfl, trivial⟩ ⟨fun _ => rfl, ⟨Sub.rfl, rfl⟩, fun _ => ⟨[Value.int .i64 0], _, rfl, rfl, ⟨[Value.int .i64 0], _, rfl, rfl, ⟨[Value.string ⟨#[]⟩], _, rfl, rfl, rfl⟩⟩⟩, trivial⟩) ?_
  refine JL_step rfl rfl rfl (step_move Sub.rfl) ?_
  refine JL_step rfl rfl rfl (step_move Sub.rfl) ?_
  refine JL_step rfl rfl rfl (step_build (x := (⟨1, c, zValue⟩ : GSide)) (zs := [[Value.int .i64 0], [Value.int .i64 0], [Value.int .i64 0, Value.int .i64 0, Value.string ⟨#[]⟩]]) so62 (fun w => Tryz.zeroValue62 w) ⟨Sub.rfl, Sub.rfl, trivial⟩ ⟨⟨Sub.rfl, rfl⟩, ⟨Sub.rfl, rfl⟩, fun _ => ⟨[Value.int .i64 0], _, rfl, rfl, ⟨[Value.int .i64 0], _, rfl, rfl, ⟨[Value.string ⟨#[]⟩], _, rfl, rfl, rfl⟩⟩⟩, trivial⟩) ?_
  refine JL_step rfl rfl rfl (step_build (x := (bothT c op : GTest)) (zs := [[Value.int .i64 0, Value.int .i64 0, Value.int .i64 0, Value.int .i64 0, Value.string ⟨#[]⟩], [Value.int .i64 0], [Value.int .i64 0, Value.int .i64 0, Value.int .i64 0, Value.int .i64 0, Value.string ⟨#[]⟩], [Value.int .i64 0]]) so66 (fun w => Tryz.zeroValue66 w) ⟨Sub.rfl, Sub.rfl, Sub.rfl, trivial⟩ ⟨⟨Sub.rfl, rfl⟩, ⟨Sub.rfl, rfl⟩, ⟨Sub.rfl, rfl⟩, fun _ => rfl, trivial⟩) ?_
  refine JL_stepU rfl rfl (step_store_box ty66 Sub.rfl Sub.rfl (by first | exact Sel.take (Sel.none _) | exact Sel.skip (Sel.take (Sel.none _)) | exact Sel.skip (Sel.skip (Sel.take (Sel.none _))) | exact Sel.skip (Sel.skip (Sel.skip (Sel.take (Sel.none _)))) | exact Sel.skip (Sel.skip (Sel.skip (Sel.skip (Sel.take (Sel.none _))))))) fun _ => ?_
  refine JL_freeze (t := 4) (Sel.take (Sel.none _)) Frz.box ?_
  refine JL_nil ?_
  refine J_ret ?_
  refine K_retv (rv := .cell 4 66) rfl () (.imm ty66 Sub.rfl Sub.rfl) Sub.rfl
theorem valueR_spec (f : GFact) (c : Int) : Fun1 Tryz.prog 49 [rFact.ty f, tV (.int .i64 c)] (rValue.ty (colM f c)) := by
  refine Spec.enter Tryz.func49 rfl rfl fun h0 w0 fr0 => ?_
  refine J_seq ?_
  refine J_region ?_
  refine JL_step rfl rfl rfl (step_box (R := rFact) Sub.rfl) ?_
  refine JL_stepX rfl rfl rfl (step_alloc (fun w => Tryz.zeroValue60 w) zr60) fun v4 => ?_
  refine JL_nil ?_
  refine J_seq ?_
  refine J_seq ?_
  refine J_region ?_
  refine JL_step rfl rfl rfl (step_move Sub.rfl) ?_
  refine JL_step rfl rfl rfl (step_lss Sub.rfl Sub.rfl) ?_
  refine JL_step rfl rfl rfl (step_move Sub.rfl) ?_
  refine JL_stepG rfl rfl rfl (Gd.plain Sub.rfl) rfl rfl (fun hw => step_move Sub.rfl) ?_
  refine JL_stepG rfl rfl rfl (Gd.plain Sub.rfl) rfl rfl (fun hw => step_fieldAddr so54 Sub.rfl rfl) ?_
  refine JL_stepG rfl rfl rfl (Gd.plain Sub.rfl) rfl rfl (fun hw => step_load_ptr ty52 (Sub.w hw)) ?_
  refine JL_stepG rfl rfl rfl (Gd.plain Sub.rfl) rfl rfl (fun hw => step_len_sl Tryz.underlying52 (Sub.w hw)) ?_
  refine JL_stepG rfl rfl rfl (Gd.plain Sub.rfl) rfl rfl (fun hw => step_geq (Sub.w hw) (Sub.w hw)) ?_
  refine JL_step rfl rfl rfl (step_pick_or Sub.rfl Sub.rfl) ?_
  refine JL_nil ?_
  refine J_cond Sub.rfl (fun h13 => ?_) (fun h13 => ?_)
  · try simp only [decide_eq_true_eq, decide_eq_false_iff_not, Bool.and_eq_true, Bool.or_eq_true, Bool.and_eq_false_iff, Bool.or_eq_false_iff, Bool.not_eq_true', Bool.not_eq_false', Int.not_lt, Int.not_le, Bool.not_true, Bool.not_false] at h13
    refine J_seq ?_
    refine J_region ?_
    refine JL_step rfl rfl rfl (step_build (x := (zValue : GValue)) (zs := [[Value.int .i64 0], [Value.int .i64 0], [Value.string ⟨#[]⟩]]) so60 (fun w => Tryz.zeroValue60 w) trivial ⟨fun _ => rfl, fun _ => rfl, fun _ => rfl, trivial⟩) ?_
    refine JL_stepU rfl rfl (step_store_box ty60 Sub.rfl Sub.rfl (by first | exact Sel.take (Sel.none _) | exact Sel.skip (Sel.take (Sel.none _)) | exact Sel.skip (Sel.skip (Sel.take (Sel.none _))) | exact Sel.skip (Sel.skip (Sel.skip (Sel.take (Sel.none _)))) | exact Sel.skip (Sel.skip (Sel.skip (Sel.skip (Sel.take (Sel.none _))))))) fun _ => ?_
    refine JL_nil ?_
    refine J_ret ?_
    refine K_ret1' (rv := .cell 4 60) rfl () (Sel.all _) (.cell ty60 Sub.rfl (by first | exact Sel.take (Sel.none _) | exact Sel.skip (Sel.take (Sel.none _)) | exact Sel.skip (Sel.skip (Sel.take (Sel.none _))) | exact Sel.skip (Sel.skip (Sel.skip (Sel.take (Sel.none _)))) | exact Sel.skip (Sel.skip (Sel.skip (Sel.skip (Sel.take (Sel.none _)))))) Sub.rfl) (Frz.sub ?_)
    unfold colM; rw [if_pos h13]; exact Sub.rfl
  · try simp only [decide_eq_true_eq, decide_eq_false_iff_not, Bool.and_eq_true, Bool.or_eq_true, Bool.and_eq_false_iff, Bool.or_eq_false_iff, Bool.not_eq_true', Bool.not_eq_false', Int.not_lt, Int.not_le, Bool.not_true, Bool.not_false] at h13
    refine J_skip ?_
    refine J_seq ?_
    refine J_region ?_
    refine JL_step rfl rfl rfl (step_fieldAddr so54 Sub.rfl rfl) ?_
    refine JL_step rfl rfl rfl (step_load_ptr ty52 Sub.rfl) ?_
    refine JL_step rfl rfl rfl (step_move Sub.rfl) ?_
    refine JL_step rfl rfl rfl (step_indexAddr_sl (i := c.toNat) Tryz.underlying52 ty60 Sub.rfl Sub.rfl ?sg1 (gb ?sg2)) ?_
    case sg1 => show c = _; omega
    case sg2 => show c.toNat < f.Row.length; omega
    refine JL_step rfl rfl rfl (step_load_ptr ty60 Sub.rfl) ?_
    refine JL_stepU rfl rfl (step_store_box ty60 Sub.rfl Sub.rfl (by first | exact Sel.take (Sel.none _) | exact Sel.skip (Sel.take (Sel.none _)) | exact Sel.skip (Sel.skip (Sel.take (Sel.none _))) | exact Sel.skip (Sel.skip (Sel.skip (Sel.take (Sel.none _)))) | exact Sel.skip (Sel.skip (Sel.skip (Sel.skip (Sel.take (Sel.none _))))))) fun _ => ?_
    refine JL_nil ?_
    refine J_ret ?_
    refine K_ret1' (rv := .cell 4 60) rfl () (Sel.all _) (.cell ty60 Sub.rfl (by first | exact Sel.take (Sel.none _) | exact Sel.skip (Sel.take (Sel.none _)) | exact Sel.skip (Sel.skip (Sel.take (Sel.none _))) | exact Sel.skip (Sel.skip (Sel.skip (Sel.take (Sel.none _)))) | exact Sel.skip (Sel.skip (Sel.skip (Sel.skip (Sel.take (Sel.none _)))))) Sub.rfl) (Frz.sub ?_)
    have hn : ¬ (c < 0 ∨ (f.Row.length : Int) ≤ c) := by omega
    unfold colM; rw [if_neg hn]; exact Sub.rfl
theorem exclude_spec (a b : GFact) : Fun1 Tryz.prog 61 [rFact.ty a, rFact.ty b] (tV (.bool (exclB a b))) := by
  refine Spec.enter Tryz.func61 rfl rfl fun h0 w0 fr0 => ?_
  refine J_seq ?_
  refine J_region ?_
  refine JL_step rfl rfl rfl (step_box (R := rFact) Sub.rfl) ?_
  refine JL_step rfl rfl rfl (step_box (R := rFact) Sub.rfl) ?_
  refine JL_step rfl rfl rfl (step_assign Sub.rfl) ?_
  refine JL_nil ?_
  refine J_seq ?_
  refine J_region ?_
  refine JL_step rfl rfl rfl (step_fieldAddr so54 Sub.rfl rfl) ?_
  refine JL_step rfl rfl rfl (step_load_ptr ty3 Sub.rfl) ?_
  refine JL_step rfl rfl rfl (step_fieldAddr so54 Sub.rfl rfl) ?_
  refine JL_step rfl rfl rfl (step_load_ptr ty3 Sub.rfl) ?_
  refine JL_step rfl rfl rfl (step_eql Sub.rfl Sub.rfl) ?_
  refine JL_step rfl rfl rfl (step_move Sub.rfl) ?_
  refine JL_stepG rfl rfl rfl (Gd.plain Sub.rfl) rfl rfl (fun hw => step_fieldAddr so54 Sub.rfl rfl) ?_
  refine JL_stepG rfl rfl rfl (Gd.plain Sub.rfl) rfl rfl (fun hw => step_load_ptr ty3 (Sub.w hw)) ?_
  refine JL_stepG rfl rfl rfl (Gd.plain Sub.rfl) rfl rfl (fun hw => step_neq (Sub.w hw) Sub.rfl) ?_
  refine JL_stepG rfl rfl rfl (Gd.plain Sub.rfl) rfl rfl (fun hw => step_move (Sub.w hw)) ?_
  refine JL_stepG rfl rfl rfl (Gd.nest Sub.rfl) rfl rfl (fun hw => step_fieldAddr so54 Sub.rfl rfl) ?_
  refine JL_stepG rfl rfl rfl (Gd.nest Sub.rfl) rfl rfl (fun hw => step_load_ptr ty3 (Sub.w hw)) ?_
  refine JL_stepG rfl rfl rfl (Gd.nest Sub.rfl) rfl rfl (fun hw => step_neq (Sub.w hw) Sub.rfl) ?_
  refine JL_stepG rfl rfl rfl (Gd.plain Sub.rfl) rfl rfl (fun hw => step_pick_or (Sub.w hw) (Sub.ww hw)) ?_
  refine JL_step rfl rfl rfl (step_pick_and Sub.rfl Sub.rfl) ?_
  refine JL_step rfl rfl rfl (step_assign Sub.rfl) ?_
  refine JL_nil ?_
  refine J_ret ?_
  refine K_retv (rv := .tmp 4) rfl () (.tmp Sub.rfl) Sub.rfl
theorem LowerR_spec (r : GRule) (h1 : r.Fixed.length ≤ 1000000) (h2 : r.Cols.length ≤ 1000000) : Fun1 Tryz.prog 14 [rRule.ty r] (tSl rRule (lowerR r)) := by
  refine Spec.enter Tryz.func14 rfl rfl fun h0 w0 fr0 => ?_
  refine J_seq ?_
  refine J_region ?_
  refine JL_step rfl rfl rfl (step_box (R := rRule) Sub.rfl) ?_
  refine JL_step rfl rfl rfl (step_assign Sub.rfl) ?_
  refine JL_nil ?_
  refine J_seq ?_
  refine J_seq ?_
  refine J_region ?_
  refine JL_step rfl rfl rfl (step_fieldAddr so32 Sub.rfl rfl) ?_
  refine JL_step rfl rfl rfl (step_load_ptr ty3 Sub.rfl) ?_
  refine JL_step rfl rfl rfl (step_eql Sub.rfl Sub.rfl) ?_
  refine JL_nil ?_
  refine J_cond Sub.rfl (fun h9 => ?_) (fun h9 => ?_)
  · try simp only [decide_eq_true_eq, decide_eq_false_iff_not, Bool.and_eq_true, Bool.or_eq_true, Bool.and_eq_false_iff, Bool.or_eq_false_iff, Bool.not_eq_true', Bool.not_eq_false', Int.not_lt, Int.not_le, Bool.not_true, Bool.not_false] at h9
    refine J_seq ?_
    refine J_region ?_
    refine JL_step rfl rfl rfl (step_load_ptr ty32 Sub.rfl) ?_
    refine JL_step rfl rfl rfl (step_literal (ys := [_]) Tryz.underlying22 el32 ⟨rfl, Sub.rfl, trivial⟩ rfl (by decide)) ?_
    refine JL_step rfl rfl rfl (step_assign Sub.rfl) ?_
    refine JL_nil ?_
    refine J_ret ?_
    refine K_ret1 (t := 2) rfl () ?_
    refine Sub.sl ?_
    simp [lowerR, h9]
  · try simp only [decide_eq_true_eq, decide_eq_false_iff_not, Bool.and_eq_true, Bool.or_eq_true, Bool.and_eq_false_iff, Bool.or_eq_false_iff, Bool.not_eq_true', Bool.not_eq_false', Int.not_lt, Int.not_le, Bool.not_true, Bool.not_false] at h9
    refine J_skip ?_
    refine J_seq ?_
    refine J_seq ?_
    refine J_region ?_
    refine JL_step rfl rfl rfl (step_fieldAddr so32 Sub.rfl rfl) ?_
    refine JL_step rfl rfl rfl (step_load_ptr ty3 Sub.rfl) ?_
    refine JL_step rfl rfl rfl (step_neq Sub.rfl Sub.rfl) ?_
    refine JL_step rfl rfl rfl (step_move Sub.rfl) ?_
    refine JL_stepG rfl rfl rfl (Gd.plain Sub.rfl) rfl rfl (fun hw => step_fieldAddr so32 Sub.rfl rfl) ?_
    refine JL_stepG rfl rfl rfl (Gd.plain Sub.rfl) rfl rfl (fun hw => step_load_ptr ty3 (Sub.w hw)) ?_
    refine JL_stepG rfl rfl rfl (Gd.plain Sub.rfl) rfl rfl (fun hw => step_neq (Sub.w hw) Sub.rfl) ?_
    refine JL_step rfl rfl rfl (step_pick_and Sub.rfl Sub.rfl) ?_
    refine JL_nil ?_
    refine J_cond Sub.rfl (fun h19 => ?_) (fun h19 => ?_)
    · try simp only [decide_eq_true_eq, decide_eq_false_iff_not, Bool.and_eq_true, Bool.or_eq_true, Bool.and_eq_false_iff, Bool.or_eq_false_iff, Bool.not_eq_true', Bool.not_eq_false', Int.not_lt, Int.not_le, Bool.not_true, Bool.not_false] at h19
      refine J_seq ?_
      refine J_region ?_
      refine JL_step rfl rfl rfl (step_assign Sub.rfl) ?_
      refine JL_nil ?_
      refine J_ret ?_
      refine K_ret1 (t := 2) rfl () ?_
      refine Sub.trans Sub.nilsl (Sub.sl ?_)
      simp [lowerR, *]
    · try simp only [decide_eq_true_eq, decide_eq_false_iff_not, Bool.and_eq_true, Bool.or_eq_true, Bool.and_eq_false_iff, Bool.or_eq_false_iff, Bool.not_eq_true', Bool.not_eq_false', Int.not_lt, Int.not_le, Bool.not_true, Bool.not_false] at h19
      refine J_skip ?_
      refine J_seq ?_
      refine J_region ?_
      refine JL_step rfl rfl rfl (step_fieldAddr so32 Sub.rfl rfl) ?_
      refine JL_step rfl rfl rfl (step_load_ptr ty9 Sub.rfl) ?_
      refine JL_step rfl rfl rfl (step_fieldAddr so32 Sub.rfl rfl) ?_
      refine JL_step rfl rfl rfl (step_load_ptr ty3 Sub.rfl) ?_
      refine JL_step rfl rfl rfl (step_fieldAddr so32 Sub.rfl rfl) ?_
      refine JL_step rfl rfl rfl (step_load_ptr ty3 Sub.rfl) ?_
      refine JL_step rfl rfl rfl (step_literal (ys := [_, _]) Tryz.underlying24 el3 ⟨rfl, Sub.rfl, rfl, Sub.rfl, trivial⟩ rfl (by decide)) ?_
      refine JL_step rfl rfl rfl (step_build (x := (outW r (.slice none 0 0) : GRuleW)) (zs := [[Value.int .i64 0], [Value.string ⟨#[]⟩], [Value.int .i64 0], [Value.slice none 0 0], [Value.int .i64 0], [Value.slice none 0 0], [Value.int .i64 0], [Value.int .i64 0], [Value.slice none 0 0], [Value.slice none 0 0]]) so32W (fun w => Tryz.zeroValue32 w) ⟨Sub.rfl, Sub.rfl, Sub.rfl, trivial⟩ ⟨⟨Sub.rfl, rfl⟩, ⟨Sub.rfl, rfl⟩, fun _ => rfl, fun _ => ⟨_, rfl, none, 0, rfl, fun q => absurd rfl q⟩, fun _ => rfl, fun _ => ⟨_, rfl, none, 0, rfl, fun q => absurd rfl q⟩, fun _ => rfl, fun _ => rfl, ⟨Sub.rfl, rfl⟩, fun _ => ⟨rfl, rfl⟩, trivial⟩) ?_
      refine JL_stepX rfl rfl rfl (step_alloc (fun w => Tryz.zeroValue32 w) zr32W) fun v3 => ?_
      refine JL_stepU rfl rfl (step_store_box ty32W Sub.rfl Sub.rfl (by first | exact Sel.take (Sel.none _) | exact Sel.skip (Sel.take (Sel.none _)) | exact Sel.skip (Sel.skip (Sel.take (Sel.none _))) | exact Sel.skip (Sel.skip (Sel.skip (Sel.take (Sel.none _)))) | exact Sel.skip (Sel.skip (Sel.skip (Sel.skip (Sel.take (Sel.none _))))))) fun _ => ?_
      refine JL_nil ?_
      refine K_lsub (LSub.nilown (e := 66) (R := rTest)) ?_
      refine J_seq ?_
      refine J_seq ?_
      refine J_region ?_
      refine JL_step rfl rfl rfl (step_fieldAddr so32 Sub.rfl rfl) ?_
      refine JL_step rfl rfl rfl (step_load_ptr ty3 Sub.rfl) ?_
      refine JL_step rfl rfl rfl (step_eql Sub.rfl Sub.rfl) ?_
      refine JL_nil ?_
      refine J_cond Sub.rfl (fun h30 => ?_) (fun h30 => ?_)
      · try simp only [decide_eq_true_eq, decide_eq_false_iff_not, Bool.and_eq_true, Bool.or_eq_true, Bool.and_eq_false_iff, Bool.or_eq_false_iff, Bool.not_eq_true', Bool.not_eq_false', Int.not_lt, Int.not_le, Bool.not_true, Bool.not_false] at h30
        refine J_seq ?_
        refine J_region ?_
        refine JL_step rfl rfl rfl (step_assign Sub.rfl) ?_
        refine JL_nil ?_
        refine J_block ?_
        refine J_loopL (σ := Nat × Value) (fun ⟨i, v⟩ => i ≤ r.Fixed.length) (fun ⟨i, v⟩ => upd (upd (upd (upd env0 1 (tPtr rRule r)) 2 (tV (.slice none 0 0))) 3 (tAt v3 0)) 4 (tV (.int .i64 i))) (fun ⟨i, v⟩ => [box v3 32 rRuleW (outW r v), own 66 rTest v (fixT (r.Fixed.take i))]) (fun ⟨i, v⟩ => r.Fixed.length - i) (0, .slice none 0 0) (by simp) (SubE.upd Sub.rfl (SubE.upd Sub.rfl (SubE.upd Sub.rfl (SubE.upd Sub.rfl SubE.any)))) (LSub.cons (by first | exact Sel.take (Sel.none _) | exact Sel.skip (Sel.take (Sel.none _)) | exact Sel.skip (Sel.skip (Sel.take (Sel.none _))) | exact Sel.skip (Sel.skip (Sel.skip (Sel.take (Sel.none _)))) | exact Sel.skip (Sel.skip (Sel.skip (Sel.skip (Sel.take (Sel.none _)))))) SPs.rfl (LSub.cons (by first | exact Sel.take (Sel.none _) | exact Sel.skip (Sel.take (Sel.none _)) | exact Sel.skip (Sel.skip (Sel.take (Sel.none _))) | exact Sel.skip (Sel.skip (Sel.skip (Sel.take (Sel.none _)))) | exact Sel.skip (Sel.skip (Sel.skip (Sel.skip (Sel.take (Sel.none _)))))) (own_eq (by simp [fixT])) LSub.nil)) ?_
        rintro ⟨i, v⟩ hi
        try dsimp only at hi
        refine J_seq ?_
        refine J_seq ?_
        refine J_region ?_
        refine JL_step rfl rfl rfl (step_move Sub.rfl) ?_
        refine JL_step rfl rfl rfl (step_fieldAddr so32 Sub.rfl rfl) ?_
        refine JL_step rfl rfl rfl (step_load_ptr ty29 Sub.rfl) ?_
        refine JL_step rfl rfl rfl (step_len_sl Tryz.underlying29 Sub.rfl) ?_
        refine JL_step rfl rfl rfl (step_lss Sub.rfl Sub.rfl) ?_
        refine JL_nil ?_
        refine J_cond Sub.rfl (fun h35 => ?_) (fun h35 => ?_)
        · try simp only [decide_eq_true_eq, decide_eq_false_iff_not, Bool.and_eq_true, Bool.or_eq_true, Bool.and_eq_false_iff, Bool.or_eq_false_iff, Bool.not_eq_true', Bool.not_eq_false', Int.not_lt, Int.not_le, Bool.not_true, Bool.not_false] at h35
          have hlt : i < r.Fixed.length := by omega
          refine J_skip ?_
          refine J_seq ?_
          refine J_block ?_
          refine J_seq ?_
          refine J_region ?_
          refine JL_step rfl rfl rfl (step_assign Sub.rfl) ?_
          refine JL_nil ?_
          refine J_block ?_
          refine J_loopL (σ := Nat × Value) (fun ⟨j, v⟩ => j ≤ 2) (fun ⟨j, v⟩ => upd (upd (upd (upd (upd (upd env0 1 (tPtr rRule r)) 2 (tV (.slice none 0 0))) 3 (tAt v3 0)) 4 (tV (.int .i64 i))) 5 (tV (.int .i64 j))) 31 (tV (.int .i64 i))) (fun ⟨j, v⟩ => [box v3 32 rRuleW (outW r v), own 66 rTest v (fixT (r.Fixed.take i) ++ (List.range j).map (fun k : Nat => fT (nth r.Fixed i) k))]) (fun ⟨j, v⟩ => 2 - j) (0, v) (by simp) (SubE.upd Sub.rfl (SubE.upd Sub.rfl (SubE.upd Sub.rfl (SubE.upd Sub.rfl (SubE.upd Sub.rfl (SubE.upd Sub.rfl SubE.any)))))) (LSub.cons (by first | exact Sel.take (Sel.none _) | exact Sel.skip (Sel.take (Sel.none _)) | exact Sel.skip (Sel.skip (Sel.take (Sel.none _))) | exact Sel.skip (Sel.skip (Sel.skip (Sel.take (Sel.none _)))) | exact Sel.skip (Sel.skip (Sel.skip (Sel.skip (Sel.take (Sel.none _)))))) SPs.rfl (LSub.cons (by first | exact Sel.take (Sel.none _) | exact Sel.skip (Sel.take (Sel.none _)) | exact Sel.skip (Sel.skip (Sel.take (Sel.none _))) | exact Sel.skip (Sel.skip (Sel.skip (Sel.take (Sel.none _)))) | exact Sel.skip (Sel.skip (Sel.skip (Sel.skip (Sel.take (Sel.none _)))))) (own_eq (by simp)) LSub.nil)) ?_
          rintro ⟨j, v⟩ hj
          try dsimp only at hj
          refine J_seq ?_
          refine J_seq ?_
          refine J_region ?_
          refine JL_step rfl rfl rfl (step_move Sub.rfl) ?_
          refine JL_step rfl rfl rfl (step_lss Sub.rfl Sub.rfl) ?_
          refine JL_nil ?_
          refine J_cond Sub.rfl (fun h39 => ?_) (fun h39 => ?_)
          · try simp only [decide_eq_true_eq, decide_eq_false_iff_not, Bool.and_eq_true, Bool.or_eq_true, Bool.and_eq_false_iff, Bool.or_eq_false_iff, Bool.not_eq_true', Bool.not_eq_false', Int.not_lt, Int.not_le, Bool.not_true, Bool.not_false] at h39
            refine J_skip ?_
            refine J_seq ?_
            refine J_block ?_
            refine J_draw [⟨0, [3], true⟩, ⟨2, [5], true⟩, ⟨3, [1], true⟩, ⟨4, [45], true⟩, ⟨5, [4], true⟩, ⟨6, [46, 47], true⟩, ⟨7, [48], true⟩, ⟨8, [49], true⟩, ⟨9, [44, 50], true⟩, ⟨10, [1], true⟩, ⟨11, [52], true⟩, ⟨12, [4], true⟩, ⟨13, [53, 54], true⟩, ⟨14, [55], true⟩, ⟨15, [56], true⟩, ⟨16, [57], true⟩, ⟨17, [51, 58], true⟩, ⟨18, [59], true⟩, ⟨1, [42], false⟩, ⟨19, [43, 60], false⟩, ⟨20, [3], true⟩, ⟨21, [61, 62], false⟩] rfl (by kernel_rfl) ?_
            refine JM_step rfl rfl rfl rfl (fun _ => step_fieldAddr_own so32W Sub.rfl rfl) ?_
            refine JM_step rfl rfl rfl rfl (fun _ => step_move Sub.rfl) ?_
            refine JM_step rfl rfl rfl rfl (fun _ => step_fieldAddr so32 Sub.rfl rfl) ?_
            refine JM_step rfl rfl rfl rfl (fun _ => step_load_ptr ty29 Sub.rfl) ?_
            refine JM_step rfl rfl rfl rfl (fun _ => step_move Sub.rfl) ?_
            refine JM_step rfl rfl rfl rfl (fun _ => step_indexAddr_sl  Tryz.underlying29 ty64 Sub.rfl Sub.rfl rfl (gb ?sg1)) ?_
            case sg1 => first | assumption | omega
            refine JM_step rfl rfl rfl rfl (fun _ => step_fieldAddr so64 Sub.rfl rfl) ?_
            refine JM_step rfl rfl rfl rfl (fun _ => step_load_ptr ty3 Sub.rfl) ?_
            refine JM_step rfl rfl rfl rfl (fun _ => step_build (x := (⟨(j : Int), (nth r.Fixed i).Col, zValue⟩ : GSide)) (zs := [[Value.int .i64 0], [Value.int .i64 0], [Value.int .i64 0, Value.int .i64 0, Value.string ⟨#[]⟩]]) so62 (fun w => Tryz.zeroValue62 w) ⟨Sub.rfl, Sub.rfl, trivial⟩ ⟨⟨Sub.rfl, rfl⟩, ⟨Sub.rfl, rfl⟩, fun _ => ⟨[Value.int .i64 0], _, rfl, rfl, ⟨[Value.int .i64 0], _, rfl, rfl, ⟨[Value.string ⟨#[]⟩], _, rfl, rfl, rfl⟩⟩⟩, trivial⟩) ?_
            refine JM_step rfl rfl rfl rfl (fun _ => step_fieldAddr so32 Sub.rfl rfl) ?_
            refine JM_step rfl rfl rfl rfl (fun _ => step_load_ptr ty29 Sub.rfl) ?_
            refine JM_step rfl rfl rfl rfl (fun _ => step_move Sub.rfl) ?_
            refine JM_step rfl rfl rfl rfl (fun _ => step_indexAddr_sl  Tryz.underlying29 ty64 Sub.rfl Sub.rfl rfl (gb ?sg1)) ?_
            case sg1 => first | assumption | omega
            refine JM_step rfl rfl rfl rfl (fun _ => step_fieldAddr so64 Sub.rfl rfl) ?_
            refine JM_step rfl rfl rfl rfl (fun _ => step_load_ptr ty60 Sub.rfl) ?_
            refine JM_step rfl rfl rfl rfl (fun _ => step_build (x := (⟨-1, 0, (nth r.Fixed i).Value⟩ : GSide)) (zs := [[Value.int .i64 0], [Value.int .i64 0], [Value.int .i64 0, Value.int .i64 0, Value.string ⟨#[]⟩]]) so62 (fun w => Tryz.zeroValue62 w) ⟨Sub.rfl, Sub.rfl, trivial⟩ ⟨⟨Sub.rfl, rfl⟩, fun _ => rfl, ⟨Sub.rfl, rfl⟩, trivial⟩) ?_
            refine JM_step rfl rfl rfl rfl (fun _ => step_build (x := (fT (nth r.Fixed i) j : GTest)) (zs := [[Value.int .i64 0, Value.int .i64 0, Value.int .i64 0, Value.int .i64 0, Value.string ⟨#[]⟩], [Value.int .i64 0], [Value.int .i64 0, Value.int .i64 0, Value.int .i64 0, Value.int .i64 0, Value.string ⟨#[]⟩], [Value.int .i64 0]]) so66 (fun w => Tryz.zeroValue66 w) ⟨Sub.rfl, Sub.rfl, Sub.rfl, trivial⟩ ⟨⟨Sub.rfl, rfl⟩, ⟨Sub.rfl, rfl⟩, ⟨Sub.rfl, rfl⟩, fun _ => rfl, trivial⟩) ?_
            refine JM_step rfl rfl rfl rfl (fun _ => step_literal (ys := [_]) Tryz.underlying30 el66 ⟨rfl, Sub.rfl, trivial⟩ rfl (by decide)) ?_
            refine JM_look rfl rfl rfl rfl (step_load_fld ty30V32 Sub.rfl rfl (by first | exact Sel.take (Sel.none _) | exact Sel.skip (Sel.take (Sel.none _)) | exact Sel.skip (Sel.skip (Sel.take (Sel.none _))) | exact Sel.skip (Sel.skip (Sel.skip (Sel.take (Sel.none _)))) | exact Sel.skip (Sel.skip (Sel.skip (Sel.skip (Sel.take (Sel.none _))))))) ?_
            refine JM_stepX rfl rfl rfl rfl (step_append Tryz.underlying30 el66 Sub.rfl Sub.rfl (by first | exact Sel.take (Sel.none _) | exact Sel.skip (Sel.take (Sel.none _)) | exact Sel.skip (Sel.skip (Sel.take (Sel.none _))) | exact Sel.skip (Sel.skip (Sel.skip (Sel.take (Sel.none _)))) | exact Sel.skip (Sel.skip (Sel.skip (Sel.skip (Sel.take (Sel.none _)))))) (by simp [fixT_len]; omega) (by simp [fixT_len]; omega)) fun v61 => ?_
            refine JM_step rfl rfl rfl rfl (fun _ => step_fieldAddr_own so32W Sub.rfl rfl) ?_
            refine JM_stepU rfl rfl rfl (step_store_fld (R := rV) (y' := outW r v61) ty30V32 Sub.rfl Sub.rfl (by first | exact Sel.take (Sel.none _) | exact Sel.skip (Sel.take (Sel.none _)) | exact Sel.skip (Sel.skip (Sel.take (Sel.none _))) | exact Sel.skip (Sel.skip (Sel.skip (Sel.take (Sel.none _)))) | exact Sel.skip (Sel.skip (Sel.skip (Sel.skip (Sel.take (Sel.none _)))))) ?sg1) fun _ => ?_
            case sg1 => exact ⟨rfl, rfl, rfl, rfl, rfl, rfl, rfl, rfl, rfl, fun _ _ q => q, rfl, fun _ h => (by cases h)⟩
            refine JM_nil ?_
            refine J_region ?_
            refine JL_step rfl rfl rfl (step_move Sub.rfl) ?_
            refine JL_step rfl rfl rfl (step_add Sub.rfl Sub.rfl ?sg1) ?_
            case sg1 => unfold in64; omega
            refine JL_step rfl rfl rfl (step_assign Sub.rfl) ?_
            refine JL_nil ?_
            refine K_againL (σ := Nat × Value) (s := (j, v)) (j + 1, v61) (by first | omega | (dsimp only; omega) | (simp_all; omega)) (by simp; omega) (SubE.upd Sub.rfl (SubE.upd Sub.rfl (SubE.upd Sub.rfl (SubE.upd Sub.rfl (SubE.upd Sub.rfl (SubE.upd Sub.rfl SubE.any)))))) (LSub.cons (by first | exact Sel.take (Sel.none _) | exact Sel.skip (Sel.take (Sel.none _)) | exact Sel.skip (Sel.skip (Sel.take (Sel.none _))) | exact Sel.skip (Sel.skip (Sel.skip (Sel.take (Sel.none _)))) | exact Sel.skip (Sel.skip (Sel.skip (Sel.skip (Sel.take (Sel.none _)))))) SPs.rfl (LSub.cons (by first | exact Sel.take (Sel.none _) | exact Sel.skip (Sel.take (Sel.none _)) | exact Sel.skip (Sel.skip (Sel.take (Sel.none _))) | exact Sel.skip (Sel.skip (Sel.skip (Sel.take (Sel.none _)))) | exact Sel.skip (Sel.skip (Sel.skip (Sel.skip (Sel.take (Sel.none _)))))) (own_eq (by rw [range_succ_map, List.append_assoc])) LSub.nil))
          · try simp only [decide_eq_true_eq, decide_eq_false_iff_not, Bool.and_eq_true, Bool.or_eq_true, Bool.and_eq_false_iff, Bool.or_eq_false_iff, Bool.not_eq_true', Bool.not_eq_false', Int.not_lt, Int.not_le, Bool.not_true, Bool.not_false] at h39
            refine J_exit ?_
            refine J_region ?_
            refine JL_step rfl rfl rfl (step_move Sub.rfl) ?_
            refine JL_step rfl rfl rfl (step_add Sub.rfl Sub.rfl ?sg1) ?_
            case sg1 => unfold in64; omega
            refine JL_step rfl rfl rfl (step_assign Sub.rfl) ?_
            refine JL_nil ?_
            refine K_againL (σ := Nat × Value) (s := (i, v)) (i + 1, v) (by first | omega | (dsimp only; omega) | (simp_all; omega)) (by simp; omega) (SubE.upd Sub.rfl (SubE.upd Sub.rfl (SubE.upd Sub.rfl (SubE.upd Sub.rfl SubE.any)))) (LSub.cons (by first | exact Sel.take (Sel.none _) | exact Sel.skip (Sel.take (Sel.none _)) | exact Sel.skip (Sel.skip (Sel.take (Sel.none _))) | exact Sel.skip (Sel.skip (Sel.skip (Sel.take (Sel.none _)))) | exact Sel.skip (Sel.skip (Sel.skip (Sel.skip (Sel.take (Sel.none _)))))) SPs.rfl (LSub.cons (by first | exact Sel.take (Sel.none _) | exact Sel.skip (Sel.take (Sel.none _)) | exact Sel.skip (Sel.skip (Sel.take (Sel.none _))) | exact Sel.skip (Sel.skip (Sel.skip (Sel.take (Sel.none _)))) | exact Sel.skip (Sel.skip (Sel.skip (Sel.skip (Sel.take (Sel.none _)))))) (own_eq (by obtain rfl : j = 2 := (by omega); rw [take_fixT hlt]; rfl)) LSub.nil))
        · try simp only [decide_eq_true_eq, decide_eq_false_iff_not, Bool.and_eq_true, Bool.or_eq_true, Bool.and_eq_false_iff, Bool.or_eq_false_iff, Bool.not_eq_true', Bool.not_eq_false', Int.not_lt, Int.not_le, Bool.not_true, Bool.not_false] at h35
          refine J_exit ?_
          refine J_seq ?_
          refine J_seq ?_
          refine J_region ?_
          refine JL_step rfl rfl rfl (step_assign Sub.rfl) ?_
          refine JL_nil ?_
          refine J_block ?_
          refine J_loopL (σ := Nat × Value) (fun ⟨q, v⟩ => q ≤ r.Cols.length) (fun ⟨q, v⟩ => upd (upd (upd (upd env0 1 (tPtr rRule r)) 2 (tV (.slice none 0 0))) 3 (tAt v3 0)) 6 (tV (.int .i64 q))) (fun ⟨q, v⟩ => [box v3 32 rRuleW (outW r v), own 66 rTest v (preT r ++ (r.Cols.take q).map (bothT · 1))]) (fun ⟨q, v⟩ => r.Cols.length - q) (0, _) (by simp) (SubE.upd Sub.rfl (SubE.upd Sub.rfl (SubE.upd Sub.rfl (SubE.upd Sub.rfl SubE.any)))) (LSub.cons (by first | exact Sel.take (Sel.none _) | exact Sel.skip (Sel.take (Sel.none _)) | exact Sel.skip (Sel.skip (Sel.take (Sel.none _))) | exact Sel.skip (Sel.skip (Sel.skip (Sel.take (Sel.none _)))) | exact Sel.skip (Sel.skip (Sel.skip (Sel.skip (Sel.take (Sel.none _)))))) SPs.rfl (LSub.cons (by first | exact Sel.take (Sel.none _) | exact Sel.skip (Sel.take (Sel.none _)) | exact Sel.skip (Sel.skip (Sel.take (Sel.none _))) | exact Sel.skip (Sel.skip (Sel.skip (Sel.take (Sel.none _)))) | exact Sel.skip (Sel.skip (Sel.skip (Sel.skip (Sel.take (Sel.none _)))))) (own_eq (by first | (obtain rfl : i = r.Fixed.length := (by omega); simp_all [preT]; done) | simp_all [preT])) LSub.nil)) ?_
          rintro ⟨q, v⟩ hq
          try dsimp only at hq
          refine J_seq ?_
          refine J_seq ?_
          refine J_region ?_
          refine JL_step rfl rfl rfl (step_move Sub.rfl) ?_
          refine JL_step rfl rfl rfl (step_fieldAddr so32 Sub.rfl rfl) ?_
          refine JL_step rfl rfl rfl (step_load_ptr ty24 Sub.rfl) ?_
          refine JL_step rfl rfl rfl (step_len_sl Tryz.underlying24 Sub.rfl) ?_
          refine JL_step rfl rfl rfl (step_lss Sub.rfl Sub.rfl) ?_
          refine JL_nil ?_
          refine J_cond Sub.rfl (fun h67 => ?_) (fun h67 => ?_)
          · try simp only [decide_eq_true_eq, decide_eq_false_iff_not, Bool.and_eq_true, Bool.or_eq_true, Bool.and_eq_false_iff, Bool.or_eq_false_iff, Bool.not_eq_true', Bool.not_eq_false', Int.not_lt, Int.not_le, Bool.not_true, Bool.not_false] at h67
            have hlt : q < r.Cols.length := by omega
            refine J_skip ?_
            refine J_seq ?_
            refine J_block ?_
            refine J_draw [⟨0, [3], true⟩, ⟨2, [1], true⟩, ⟨3, [72], true⟩, ⟨4, [6], true⟩, ⟨5, [73, 74], true⟩, ⟨6, [75], true⟩, ⟨7, [76], true⟩, ⟨8, [77], true⟩, ⟨1, [70], false⟩, ⟨9, [71, 78], false⟩, ⟨10, [3], true⟩, ⟨11, [79, 80], false⟩] rfl (by kernel_rfl) ?_
            refine JM_step rfl rfl rfl rfl (fun _ => step_fieldAddr_own so32W Sub.rfl rfl) ?_
            refine JM_step rfl rfl rfl rfl (fun _ => step_fieldAddr so32 Sub.rfl rfl) ?_
            refine JM_step rfl rfl rfl rfl (fun _ => step_load_ptr ty24 Sub.rfl) ?_
            refine JM_step rfl rfl rfl rfl (fun _ => step_move Sub.rfl) ?_
            refine JM_step rfl rfl rfl rfl (fun _ => step_indexAddr_sl  Tryz.underlying24 ty3 Sub.rfl Sub.rfl rfl (gb ?sg1)) ?_
            case sg1 => first | assumption | omega
            refine JM_step rfl rfl rfl rfl (fun _ => step_load_ptr ty3 Sub.rfl) ?_
            refine JM_step rfl rfl rfl rfl (fun _ => step_call0 (columnT_spec _ _) ⟨Sub.rfl, Sub.rfl, trivial⟩ Tryz.call35) ?_
            refine JM_step rfl rfl rfl rfl (fun _ => step_literal (ys := [_]) Tryz.underlying30 el66 ⟨rfl, Sub.rfl, trivial⟩ rfl (by decide)) ?_
            refine JM_look rfl rfl rfl rfl (step_load_fld ty30V32 Sub.rfl rfl (by first | exact Sel.take (Sel.none _) | exact Sel.skip (Sel.take (Sel.none _)) | exact Sel.skip (Sel.skip (Sel.take (Sel.none _))) | exact Sel.skip (Sel.skip (Sel.skip (Sel.take (Sel.none _)))) | exact Sel.skip (Sel.skip (Sel.skip (Sel.skip (Sel.take (Sel.none _))))))) ?_
            refine JM_stepX rfl rfl rfl rfl (step_append Tryz.underlying30 el66 Sub.rfl Sub.rfl (by first | exact Sel.take (Sel.none _) | exact Sel.skip (Sel.take (Sel.none _)) | exact Sel.skip (Sel.skip (Sel.take (Sel.none _))) | exact Sel.skip (Sel.skip (Sel.skip (Sel.take (Sel.none _)))) | exact Sel.skip (Sel.skip (Sel.skip (Sel.skip (Sel.take (Sel.none _)))))) (by have := preT_len r; simp [fixT_len]; omega) (by have := preT_len r; simp [fixT_len]; omega)) fun v79 => ?_
            refine JM_step rfl rfl rfl rfl (fun _ => step_fieldAddr_own so32W Sub.rfl rfl) ?_
            refine JM_stepU rfl rfl rfl (step_store_fld (R := rV) (y' := outW r v79) ty30V32 Sub.rfl Sub.rfl (by first | exact Sel.take (Sel.none _) | exact Sel.skip (Sel.take (Sel.none _)) | exact Sel.skip (Sel.skip (Sel.take (Sel.none _))) | exact Sel.skip (Sel.skip (Sel.skip (Sel.take (Sel.none _)))) | exact Sel.skip (Sel.skip (Sel.skip (Sel.skip (Sel.take (Sel.none _)))))) ?sg1) fun _ => ?_
            case sg1 => exact ⟨rfl, rfl, rfl, rfl, rfl, rfl, rfl, rfl, rfl, fun _ _ q => q, rfl, fun _ h => (by cases h)⟩
            refine JM_nil ?_
            refine J_region ?_
            refine JL_step rfl rfl rfl (step_move Sub.rfl) ?_
            refine JL_step rfl rfl rfl (step_add Sub.rfl Sub.rfl ?sg1) ?_
            case sg1 => unfold in64; omega
            refine JL_step rfl rfl rfl (step_assign Sub.rfl) ?_
            refine JL_nil ?_
            refine K_againL (σ := Nat × Value) (s := (q, v)) (q + 1, v79) (by first | omega | (dsimp only; omega) | (simp_all; omega)) (by simp; omega) (SubE.upd Sub.rfl (SubE.upd Sub.rfl (SubE.upd Sub.rfl (SubE.upd Sub.rfl SubE.any)))) (LSub.cons (by first | exact Sel.take (Sel.none _) | exact Sel.skip (Sel.take (Sel.none _)) | exact Sel.skip (Sel.skip (Sel.take (Sel.none _))) | exact Sel.skip (Sel.skip (Sel.skip (Sel.take (Sel.none _)))) | exact Sel.skip (Sel.skip (Sel.skip (Sel.skip (Sel.take (Sel.none _)))))) SPs.rfl (LSub.cons (by first | exact Sel.take (Sel.none _) | exact Sel.skip (Sel.take (Sel.none _)) | exact Sel.skip (Sel.skip (Sel.take (Sel.none _))) | exact Sel.skip (Sel.skip (Sel.skip (Sel.take (Sel.none _)))) | exact Sel.skip (Sel.skip (Sel.skip (Sel.skip (Sel.take (Sel.none _)))))) (own_eq (by rw [take_succ_map (bothT · 1) hlt, List.append_assoc])) LSub.nil))
          · try simp only [decide_eq_true_eq, decide_eq_false_iff_not, Bool.and_eq_true, Bool.or_eq_true, Bool.and_eq_false_iff, Bool.or_eq_false_iff, Bool.not_eq_true', Bool.not_eq_false', Int.not_lt, Int.not_le, Bool.not_true, Bool.not_false] at h67
            refine J_exit ?_
            refine J_seq ?_
            refine J_seq ?_
            refine J_region ?_
            refine JL_step rfl rfl rfl (step_fieldAddr so32 Sub.rfl rfl) ?_
            refine JL_step rfl rfl rfl (step_load_ptr ty3 Sub.rfl) ?_
            refine JL_step rfl rfl rfl (step_eql Sub.rfl Sub.rfl) ?_
            refine JL_nil ?_
            refine J_cond Sub.rfl (fun h83 => ?_) (fun h83 => ?_)
            · try simp only [decide_eq_true_eq, decide_eq_false_iff_not, Bool.and_eq_true, Bool.or_eq_true, Bool.and_eq_false_iff, Bool.or_eq_false_iff, Bool.not_eq_true', Bool.not_eq_false', Int.not_lt, Int.not_le, Bool.not_true, Bool.not_false] at h83
              refine J_draw [⟨0, [3], true⟩, ⟨2, [1], true⟩, ⟨3, [86], true⟩, ⟨4, [87], true⟩, ⟨5, [88], true⟩, ⟨1, [84], false⟩, ⟨6, [85, 89], false⟩, ⟨7, [3], true⟩, ⟨8, [90, 91], false⟩] rfl (by kernel_rfl) ?_
              refine JM_step rfl rfl rfl rfl (fun _ => step_fieldAddr_own so32W Sub.rfl rfl) ?_
              refine JM_step rfl rfl rfl rfl (fun _ => step_fieldAddr so32 Sub.rfl rfl) ?_
              refine JM_step rfl rfl rfl rfl (fun _ => step_load_ptr ty3 Sub.rfl) ?_
              refine JM_step rfl rfl rfl rfl (fun _ => step_call0 (columnT_spec _ _) ⟨Sub.rfl, Sub.rfl, trivial⟩ Tryz.call35) ?_
              refine JM_step rfl rfl rfl rfl (fun _ => step_literal (ys := [_]) Tryz.underlying30 el66 ⟨rfl, Sub.rfl, trivial⟩ rfl (by decide)) ?_
              refine JM_look rfl rfl rfl rfl (step_load_fld ty30V32 Sub.rfl rfl (by first | exact Sel.take (Sel.none _) | exact Sel.skip (Sel.take (Sel.none _)) | exact Sel.skip (Sel.skip (Sel.take (Sel.none _))) | exact Sel.skip (Sel.skip (Sel.skip (Sel.take (Sel.none _)))) | exact Sel.skip (Sel.skip (Sel.skip (Sel.skip (Sel.take (Sel.none _))))))) ?_
              refine JM_stepX rfl rfl rfl rfl (step_append Tryz.underlying30 el66 Sub.rfl Sub.rfl (by first | exact Sel.take (Sel.none _) | exact Sel.skip (Sel.take (Sel.none _)) | exact Sel.skip (Sel.skip (Sel.take (Sel.none _))) | exact Sel.skip (Sel.skip (Sel.skip (Sel.take (Sel.none _)))) | exact Sel.skip (Sel.skip (Sel.skip (Sel.skip (Sel.take (Sel.none _)))))) (by have := preT_len r; simp [fixT_len]; omega) (by have := preT_len r; simp [fixT_len]; omega)) fun v90 => ?_
              refine JM_step rfl rfl rfl rfl (fun _ => step_fieldAddr_own so32W Sub.rfl rfl) ?_
              refine JM_stepU rfl rfl rfl (step_store_fld (R := rV) (y' := outW r v90) ty30V32 Sub.rfl Sub.rfl (by first | exact Sel.take (Sel.none _) | exact Sel.skip (Sel.take (Sel.none _)) | exact Sel.skip (Sel.skip (Sel.take (Sel.none _))) | exact Sel.skip (Sel.skip (Sel.skip (Sel.take (Sel.none _)))) | exact Sel.skip (Sel.skip (Sel.skip (Sel.skip (Sel.take (Sel.none _)))))) ?sg1) fun _ => ?_
              case sg1 => exact ⟨rfl, rfl, rfl, rfl, rfl, rfl, rfl, rfl, rfl, fun _ _ q => q, rfl, fun _ h => (by cases h)⟩
              refine JM_nil ?_
              refine J_seq ?_
              refine J_region ?_
              refine JL_freeze (t := 3) (Sel.all _) (Frz.up (y := (outW r _).up _) fun h h2 cs l hv q => up32W _ l hv q) ?_
              refine JL_step rfl rfl rfl (step_load_ptr ty32 Sub.rfl) ?_
              refine JL_step rfl rfl rfl (step_literal (ys := [_]) Tryz.underlying22 el32 ⟨rfl, Sub.rfl, trivial⟩ rfl (by decide)) ?_
              refine JL_step rfl rfl rfl (step_assign Sub.rfl) ?_
              refine JL_nil ?_
              refine J_ret ?_
              refine K_ret1 (t := 2) rfl () ?_
              refine Sub.sl ?_
              have e : q = r.Cols.length := by omega
              have e12 : r.Kind = 1 ∨ r.Kind = 2 := by omega
              simp_all [lowerR, lowT, outW, GRuleW.up, zRule, zRuleW]
            · try simp only [decide_eq_true_eq, decide_eq_false_iff_not, Bool.and_eq_true, Bool.or_eq_true, Bool.and_eq_false_iff, Bool.or_eq_false_iff, Bool.not_eq_true', Bool.not_eq_false', Int.not_lt, Int.not_le, Bool.not_true, Bool.not_false] at h83
              refine J_skip ?_
              refine J_seq ?_
              refine J_region ?_
              refine JL_freeze (t := 3) (Sel.all _) (Frz.up (y := (outW r _).up _) fun h h2 cs l hv q => up32W _ l hv q) ?_
              refine JL_step rfl rfl rfl (step_load_ptr ty32 Sub.rfl) ?_
              refine JL_step rfl rfl rfl (step_literal (ys := [_]) Tryz.underlying22 el32 ⟨rfl, Sub.rfl, trivial⟩ rfl (by decide)) ?_
              refine JL_step rfl rfl rfl (step_assign Sub.rfl) ?_
              refine JL_nil ?_
              refine J_ret ?_
              refine K_ret1 (t := 2) rfl () ?_
              refine Sub.sl ?_
              have e : q = r.Cols.length := by omega
              have e12 : r.Kind = 1 ∨ r.Kind = 2 := by omega
              simp_all [lowerR, lowT, outW, GRuleW.up, zRule, zRuleW]
      · try simp only [decide_eq_true_eq, decide_eq_false_iff_not, Bool.and_eq_true, Bool.or_eq_true, Bool.and_eq_false_iff, Bool.or_eq_false_iff, Bool.not_eq_true', Bool.not_eq_false', Int.not_lt, Int.not_le, Bool.not_true, Bool.not_false] at h30
        refine J_skip ?_
        refine J_seq ?_
        refine J_seq ?_
        refine J_region ?_
        refine JL_step rfl rfl rfl (step_assign Sub.rfl) ?_
        refine JL_nil ?_
        refine J_block ?_
        refine J_loopL (σ := Nat × Value) (fun ⟨q, v⟩ => q ≤ r.Cols.length) (fun ⟨q, v⟩ => upd (upd (upd (upd env0 1 (tPtr rRule r)) 2 (tV (.slice none 0 0))) 3 (tAt v3 0)) 6 (tV (.int .i64 q))) (fun ⟨q, v⟩ => [box v3 32 rRuleW (outW r v), own 66 rTest v (preT r ++ (r.Cols.take q).map (bothT · 1))]) (fun ⟨q, v⟩ => r.Cols.length - q) (0, _) (by simp) (SubE.upd Sub.rfl (SubE.upd Sub.rfl (SubE.upd Sub.rfl (SubE.upd Sub.rfl SubE.any)))) (LSub.cons (by first | exact Sel.take (Sel.none _) | exact Sel.skip (Sel.take (Sel.none _)) | exact Sel.skip (Sel.skip (Sel.take (Sel.none _))) | exact Sel.skip (Sel.skip (Sel.skip (Sel.take (Sel.none _)))) | exact Sel.skip (Sel.skip (Sel.skip (Sel.skip (Sel.take (Sel.none _)))))) SPs.rfl (LSub.cons (by first | exact Sel.take (Sel.none _) | exact Sel.skip (Sel.take (Sel.none _)) | exact Sel.skip (Sel.skip (Sel.take (Sel.none _))) | exact Sel.skip (Sel.skip (Sel.skip (Sel.take (Sel.none _)))) | exact Sel.skip (Sel.skip (Sel.skip (Sel.skip (Sel.take (Sel.none _)))))) (own_eq (by first | (obtain rfl : i = r.Fixed.length := (by omega); simp_all [preT]; done) | simp_all [preT])) LSub.nil)) ?_
        rintro ⟨q, v⟩ hq
        try dsimp only at hq
        refine J_seq ?_
        refine J_seq ?_
        refine J_region ?_
        refine JL_step rfl rfl rfl (step_move Sub.rfl) ?_
        refine JL_step rfl rfl rfl (step_fieldAddr so32 Sub.rfl rfl) ?_
        refine JL_step rfl rfl rfl (step_load_ptr ty24 Sub.rfl) ?_
        refine JL_step rfl rfl rfl (step_len_sl Tryz.underlying24 Sub.rfl) ?_
        refine JL_step rfl rfl rfl (step_lss Sub.rfl Sub.rfl) ?_
        refine JL_nil ?_
        refine J_cond Sub.rfl (fun h67 => ?_) (fun h67 => ?_)
        · try simp only [decide_eq_true_eq, decide_eq_false_iff_not, Bool.and_eq_true, Bool.or_eq_true, Bool.and_eq_false_iff, Bool.or_eq_false_iff, Bool.not_eq_true', Bool.not_eq_false', Int.not_lt, Int.not_le, Bool.not_true, Bool.not_false] at h67
          have hlt : q < r.Cols.length := by omega
          refine J_skip ?_
          refine J_seq ?_
          refine J_block ?_
          refine J_draw [⟨0, [3], true⟩, ⟨2, [1], true⟩, ⟨3, [72], true⟩, ⟨4, [6], true⟩, ⟨5, [73, 74], true⟩, ⟨6, [75], true⟩, ⟨7, [76], true⟩, ⟨8, [77], true⟩, ⟨1, [70], false⟩, ⟨9, [71, 78], false⟩, ⟨10, [3], true⟩, ⟨11, [79, 80], false⟩] rfl (by kernel_rfl) ?_
          refine JM_step rfl rfl rfl rfl (fun _ => step_fieldAddr_own so32W Sub.rfl rfl) ?_
          refine JM_step rfl rfl rfl rfl (fun _ => step_fieldAddr so32 Sub.rfl rfl) ?_
          refine JM_step rfl rfl rfl rfl (fun _ => step_load_ptr ty24 Sub.rfl) ?_
          refine JM_step rfl rfl rfl rfl (fun _ => step_move Sub.rfl) ?_
          refine JM_step rfl rfl rfl rfl (fun _ => step_indexAddr_sl  Tryz.underlying24 ty3 Sub.rfl Sub.rfl rfl (gb ?sg1)) ?_
          case sg1 => first | assumption | omega
          refine JM_step rfl rfl rfl rfl (fun _ => step_load_ptr ty3 Sub.rfl) ?_
          refine JM_step rfl rfl rfl rfl (fun _ => step_call0 (columnT_spec _ _) ⟨Sub.rfl, Sub.rfl, trivial⟩ Tryz.call35) ?_
          refine JM_step rfl rfl rfl rfl (fun _ => step_literal (ys := [_]) Tryz.underlying30 el66 ⟨rfl, Sub.rfl, trivial⟩ rfl (by decide)) ?_
          refine JM_look rfl rfl rfl rfl (step_load_fld ty30V32 Sub.rfl rfl (by first | exact Sel.take (Sel.none _) | exact Sel.skip (Sel.take (Sel.none _)) | exact Sel.skip (Sel.skip (Sel.take (Sel.none _))) | exact Sel.skip (Sel.skip (Sel.skip (Sel.take (Sel.none _)))) | exact Sel.skip (Sel.skip (Sel.skip (Sel.skip (Sel.take (Sel.none _))))))) ?_
          refine JM_stepX rfl rfl rfl rfl (step_append Tryz.underlying30 el66 Sub.rfl Sub.rfl (by first | exact Sel.take (Sel.none _) | exact Sel.skip (Sel.take (Sel.none _)) | exact Sel.skip (Sel.skip (Sel.take (Sel.none _))) | exact Sel.skip (Sel.skip (Sel.skip (Sel.take (Sel.none _)))) | exact Sel.skip (Sel.skip (Sel.skip (Sel.skip (Sel.take (Sel.none _)))))) (by have := preT_len r; simp [fixT_len]; omega) (by have := preT_len r; simp [fixT_len]; omega)) fun v79 => ?_
          refine JM_step rfl rfl rfl rfl (fun _ => step_fieldAddr_own so32W Sub.rfl rfl) ?_
          refine JM_stepU rfl rfl rfl (step_store_fld (R := rV) (y' := outW r v79) ty30V32 Sub.rfl Sub.rfl (by first | exact Sel.take (Sel.none _) | exact Sel.skip (Sel.take (Sel.none _)) | exact Sel.skip (Sel.skip (Sel.take (Sel.none _))) | exact Sel.skip (Sel.skip (Sel.skip (Sel.take (Sel.none _)))) | exact Sel.skip (Sel.skip (Sel.skip (Sel.skip (Sel.take (Sel.none _)))))) ?sg1) fun _ => ?_
          case sg1 => exact ⟨rfl, rfl, rfl, rfl, rfl, rfl, rfl, rfl, rfl, fun _ _ q => q, rfl, fun _ h => (by cases h)⟩
          refine JM_nil ?_
          refine J_region ?_
          refine JL_step rfl rfl rfl (step_move Sub.rfl) ?_
          refine JL_step rfl rfl rfl (step_add Sub.rfl Sub.rfl ?sg1) ?_
          case sg1 => unfold in64; omega
          refine JL_step rfl rfl rfl (step_assign Sub.rfl) ?_
          refine JL_nil ?_
          refine K_againL (σ := Nat × Value) (s := (q, v)) (q + 1, v79) (by first | omega | (dsimp only; omega) | (simp_all; omega)) (by simp; omega) (SubE.upd Sub.rfl (SubE.upd Sub.rfl (SubE.upd Sub.rfl (SubE.upd Sub.rfl SubE.any)))) (LSub.cons (by first | exact Sel.take (Sel.none _) | exact Sel.skip (Sel.take (Sel.none _)) | exact Sel.skip (Sel.skip (Sel.take (Sel.none _))) | exact Sel.skip (Sel.skip (Sel.skip (Sel.take (Sel.none _)))) | exact Sel.skip (Sel.skip (Sel.skip (Sel.skip (Sel.take (Sel.none _)))))) SPs.rfl (LSub.cons (by first | exact Sel.take (Sel.none _) | exact Sel.skip (Sel.take (Sel.none _)) | exact Sel.skip (Sel.skip (Sel.take (Sel.none _))) | exact Sel.skip (Sel.skip (Sel.skip (Sel.take (Sel.none _)))) | exact Sel.skip (Sel.skip (Sel.skip (Sel.skip (Sel.take (Sel.none _)))))) (own_eq (by rw [take_succ_map (bothT · 1) hlt, List.append_assoc])) LSub.nil))
        · try simp only [decide_eq_true_eq, decide_eq_false_iff_not, Bool.and_eq_true, Bool.or_eq_true, Bool.and_eq_false_iff, Bool.or_eq_false_iff, Bool.not_eq_true', Bool.not_eq_false', Int.not_lt, Int.not_le, Bool.not_true, Bool.not_false] at h67
          refine J_exit ?_
          refine J_seq ?_
          refine J_seq ?_
          refine J_region ?_
          refine JL_step rfl rfl rfl (step_fieldAddr so32 Sub.rfl rfl) ?_
          refine JL_step rfl rfl rfl (step_load_ptr ty3 Sub.rfl) ?_
          refine JL_step rfl rfl rfl (step_eql Sub.rfl Sub.rfl) ?_
          refine JL_nil ?_
          refine J_cond Sub.rfl (fun h83 => ?_) (fun h83 => ?_)
          · try simp only [decide_eq_true_eq, decide_eq_false_iff_not, Bool.and_eq_true, Bool.or_eq_true, Bool.and_eq_false_iff, Bool.or_eq_false_iff, Bool.not_eq_true', Bool.not_eq_false', Int.not_lt, Int.not_le, Bool.not_true, Bool.not_false] at h83
            refine J_draw [⟨0, [3], true⟩, ⟨2, [1], true⟩, ⟨3, [86], true⟩, ⟨4, [87], true⟩, ⟨5, [88], true⟩, ⟨1, [84], false⟩, ⟨6, [85, 89], false⟩, ⟨7, [3], true⟩, ⟨8, [90, 91], false⟩] rfl (by kernel_rfl) ?_
            refine JM_step rfl rfl rfl rfl (fun _ => step_fieldAddr_own so32W Sub.rfl rfl) ?_
            refine JM_step rfl rfl rfl rfl (fun _ => step_fieldAddr so32 Sub.rfl rfl) ?_
            refine JM_step rfl rfl rfl rfl (fun _ => step_load_ptr ty3 Sub.rfl) ?_
            refine JM_step rfl rfl rfl rfl (fun _ => step_call0 (columnT_spec _ _) ⟨Sub.rfl, Sub.rfl, trivial⟩ Tryz.call35) ?_
            refine JM_step rfl rfl rfl rfl (fun _ => step_literal (ys := [_]) Tryz.underlying30 el66 ⟨rfl, Sub.rfl, trivial⟩ rfl (by decide)) ?_
            refine JM_look rfl rfl rfl rfl (step_load_fld ty30V32 Sub.rfl rfl (by first | exact Sel.take (Sel.none _) | exact Sel.skip (Sel.take (Sel.none _)) | exact Sel.skip (Sel.skip (Sel.take (Sel.none _))) | exact Sel.skip (Sel.skip (Sel.skip (Sel.take (Sel.none _)))) | exact Sel.skip (Sel.skip (Sel.skip (Sel.skip (Sel.take (Sel.none _))))))) ?_
            refine JM_stepX rfl rfl rfl rfl (step_append Tryz.underlying30 el66 Sub.rfl Sub.rfl (by first | exact Sel.take (Sel.none _) | exact Sel.skip (Sel.take (Sel.none _)) | exact Sel.skip (Sel.skip (Sel.take (Sel.none _))) | exact Sel.skip (Sel.skip (Sel.skip (Sel.take (Sel.none _)))) | exact Sel.skip (Sel.skip (Sel.skip (Sel.skip (Sel.take (Sel.none _)))))) (by have := preT_len r; simp [fixT_len]; omega) (by have := preT_len r; simp [fixT_len]; omega)) fun v90 => ?_
            refine JM_step rfl rfl rfl rfl (fun _ => step_fieldAddr_own so32W Sub.rfl rfl) ?_
            refine JM_stepU rfl rfl rfl (step_store_fld (R := rV) (y' := outW r v90) ty30V32 Sub.rfl Sub.rfl (by first | exact Sel.take (Sel.none _) | exact Sel.skip (Sel.take (Sel.none _)) | exact Sel.skip (Sel.skip (Sel.take (Sel.none _))) | exact Sel.skip (Sel.skip (Sel.skip (Sel.take (Sel.none _)))) | exact Sel.skip (Sel.skip (Sel.skip (Sel.skip (Sel.take (Sel.none _)))))) ?sg1) fun _ => ?_
            case sg1 => exact ⟨rfl, rfl, rfl, rfl, rfl, rfl, rfl, rfl, rfl, fun _ _ q => q, rfl, fun _ h => (by cases h)⟩
            refine JM_nil ?_
            refine J_seq ?_
            refine J_region ?_
            refine JL_freeze (t := 3) (Sel.all _) (Frz.up (y := (outW r _).up _) fun h h2 cs l hv q => up32W _ l hv q) ?_
            refine JL_step rfl rfl rfl (step_load_ptr ty32 Sub.rfl) ?_
            refine JL_step rfl rfl rfl (step_literal (ys := [_]) Tryz.underlying22 el32 ⟨rfl, Sub.rfl, trivial⟩ rfl (by decide)) ?_
            refine JL_step rfl rfl rfl (step_assign Sub.rfl) ?_
            refine JL_nil ?_
            refine J_ret ?_
            refine K_ret1 (t := 2) rfl () ?_
            refine Sub.sl ?_
            have e : q = r.Cols.length := by omega
            have e12 : r.Kind = 1 ∨ r.Kind = 2 := by omega
            simp_all [lowerR, lowT, outW, GRuleW.up, zRule, zRuleW]
          · try simp only [decide_eq_true_eq, decide_eq_false_iff_not, Bool.and_eq_true, Bool.or_eq_true, Bool.and_eq_false_iff, Bool.or_eq_false_iff, Bool.not_eq_true', Bool.not_eq_false', Int.not_lt, Int.not_le, Bool.not_true, Bool.not_false] at h83
            refine J_skip ?_
            refine J_seq ?_
            refine J_region ?_
            refine JL_freeze (t := 3) (Sel.all _) (Frz.up (y := (outW r _).up _) fun h h2 cs l hv q => up32W _ l hv q) ?_
            refine JL_step rfl rfl rfl (step_load_ptr ty32 Sub.rfl) ?_
            refine JL_step rfl rfl rfl (step_literal (ys := [_]) Tryz.underlying22 el32 ⟨rfl, Sub.rfl, trivial⟩ rfl (by decide)) ?_
            refine JL_step rfl rfl rfl (step_assign Sub.rfl) ?_
            refine JL_nil ?_
            refine J_ret ?_
            refine K_ret1 (t := 2) rfl () ?_
            refine Sub.sl ?_
            have e : q = r.Cols.length := by omega
            have e12 : r.Kind = 1 ∨ r.Kind = 2 := by omega
            simp_all [lowerR, lowT, outW, GRuleW.up, zRule, zRuleW]
end Lg
