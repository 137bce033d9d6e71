/- For all inputs the law DenialComplete answers true: the card. -/
import Derived.Test.YticgfcbcaalioaaGreatDoorH
set_option linter.unusedVariables false
set_option linter.unusedSimpArgs false
set_option linter.unusedSectionVars false
namespace Lg
open Go Go.Proofs


theorem someL_srt (n : Nat) (which : List Bool) : Srt (someL n which) := by
  unfold someL someT
  refine List.Pairwise.map _ (fun a b h => ?_) (List.pairwise_lt_range.filter _)
  exact_mod_cast h
theorem someL_in {n : Nat} {which : List Bool} {x : Int} (h : x ∈ someL n which) : 0 ≤ x ∧ x < n := by
  obtain ⟨j, hj, rfl⟩ := List.mem_map.1 h
  have := List.mem_range.1 (List.mem_filter.1 hj).1
  omega
theorem srt_nth {l : List Int} (h : Srt l) {i k : Nat} (hk : k < i) (hi : i < l.length) : nth l k < nth l i := by
  rw [nth_get hi, nth_get (show k < l.length by omega)]
  exact List.pairwise_iff_getElem.1 h k i (by omega) hi hk
theorem someL_len {n : Nat} {which : List Bool} : (someL n which).length ≤ n := by
  have := someT_len which (min n which.length)
  exact Nat.le_trans this (by omega)
/-- Two facts of one entity in a set, not both of variant -1. -/
theorem clash_not {rules : List GRule} {facts : List GFact} {set : List Int} (hs : Srt set) (hin : ∀ x ∈ set, 0 ≤ x ∧ x < (facts.length : Int)) {i k : Nat} (hi : i < set.length) (hk : k < i)
    (h : (decide ((nth facts (nth set i).toNat).Entity = (nth facts (nth set k).toNat).Entity) && (!decide ((nth facts (nth set i).toNat).Variant = -1) || !decide ((nth facts (nth set k).toNat).Variant = -1))) = true) : consM rules facts set = false := by
  have hk2 : k < set.length := by omega
  have hm1 := nth_mem hi
  have hm2 := nth_mem hk2
  rw [← Bool.not_eq_true, consM_iff]
  rintro ⟨_, h2⟩
  rw [Bool.and_eq_true, decide_eq_true_eq] at h
  refine h2 [nth set k, nth set i] ((wits_iff (iota_srt _)).2 (.inl ⟨_, _, iota_mem_iff.2 (hin _ hm2), iota_mem_iff.2 (hin _ hm1), srt_nth hs hk hi, h.1.symm, h.2, rfl⟩)) ?_
  intro x hx
  simp only [List.mem_cons, List.not_mem_nil, or_false] at hx
  rcases hx with rfl | rfl <;> assumption

theorem Variants_spec (rules : List GRule) (facts : List GFact) (which : List Bool) : Fun1 Tryz.prog 9 [tSl rRule rules, tSl rFact facts, tSl rBool which] (tV (.bool true)) := by
  refine Spec.enter Tryz.func9 rfl rfl fun h0 w0 fr0 => ?_
  refine J_seq ?_
  refine J_region ?_
  refine JL_step rfl rfl rfl (step_assign Sub.rfl) ?_
  refine JL_nil ?_
  refine J_seq ?_
  refine J_region ?_
  refine JL_step rfl rfl rfl (step_call0 (head_spec) trivial Tryz.call10) ?_
  refine JL_step rfl rfl rfl (step_assign Sub.rfl) ?_
  refine JL_nil ?_
  refine J_seq ?_
  refine J_seq ?_
  refine J_region ?_
  refine JL_step rfl rfl rfl (step_move Sub.rfl) ?_
  refine JL_step rfl rfl rfl (step_move Sub.rfl) ?_
  refine JL_step rfl rfl rfl (step_call0 (Few_spec _ _ _ (by omega)) ⟨Sub.rfl, Sub.rfl, Sub.rfl, trivial⟩ Tryz.call11) ?_
  refine JL_step rfl rfl rfl (step_not Sub.rfl) ?_
  refine JL_nil ?_
  refine J_cond Sub.rfl (fun h18 => ?_) (fun h18 => ?_)
  · try simp only [decide_eq_true_eq, decide_eq_false_iff_not, Bool.and_eq_true, Bool.or_eq_true, Bool.and_eq_false_iff, Bool.or_eq_false_iff, Bool.not_eq_true', Bool.not_eq_false', Int.not_lt, Int.not_le, Bool.not_true, Bool.not_false] at h18
    refine J_seq ?_
    refine J_region ?_
    refine JL_step rfl rfl rfl (step_move Sub.rfl) ?_
    refine JL_step rfl rfl rfl (step_assign Sub.rfl) ?_
    refine JL_nil ?_
    refine J_ret ?_
    refine K_retv (rv := .tmp 6) rfl () (.tmp Sub.rfl) (Sub.bool ?_)
    rfl
  · try simp only [decide_eq_true_eq, decide_eq_false_iff_not, Bool.and_eq_true, Bool.or_eq_true, Bool.and_eq_false_iff, Bool.or_eq_false_iff, Bool.not_eq_true', Bool.not_eq_false', Int.not_lt, Int.not_le, Bool.not_true, Bool.not_false] at h18
    have HP := FewP.of h18
    have H := VHyp.few HP
    have hfl := HP.fl
    have hsl : (someL facts.length which).length ≤ facts.length := someL_len
    refine J_skip ?_
    refine J_seq ?_
    refine J_region ?_
    refine JL_step rfl rfl rfl (step_move Sub.rfl) ?_
    refine JL_step rfl rfl rfl (step_len_sl Tryz.underlying23 Sub.rfl) ?_
    refine JL_step rfl rfl rfl (step_move Sub.rfl) ?_
    refine JL_step rfl rfl rfl (step_call0 (some_spec _ _ (by omega)) ⟨Sub.rfl, Sub.rfl, trivial⟩ Tryz.call27) ?_
    refine JL_step rfl rfl rfl (step_assign Sub.rfl) ?_
    refine JL_nil ?_
    refine J_seq ?_
    refine J_region ?_
    refine JL_step rfl rfl rfl (step_assign Sub.rfl) ?_
    refine JL_nil ?_
    refine J_seq ?_
    refine J_seq ?_
    refine J_region ?_
    refine JL_step rfl rfl rfl (step_assign Sub.rfl) ?_
    refine JL_nil ?_
    refine J_block ?_
    refine J_loopL (σ := Nat × Bool) (fun ⟨i, c⟩ => i ≤ (someL facts.length which).length ∧ (c = true → consM rules facts (someL facts.length which) = false)) (fun ⟨i, c⟩ => upd (upd (upd (upd (upd (upd (upd env0 0 (tSl rRule rules)) 1 (tSl rFact facts)) 6 (tV (.bool false))) 7 (tV (.bool true))) 8 (tSl rInt (someL facts.length which))) 9 (tV (.bool c))) 10 (tV (.int .i64 i))) (fun ⟨i, c⟩ => []) (fun ⟨i, c⟩ => (someL facts.length which).length - i) (0, false) ⟨by simp, by simp⟩ (SubE.upd Sub.rfl (SubE.upd Sub.rfl (SubE.upd Sub.rfl (SubE.upd Sub.rfl (SubE.upd Sub.rfl (SubE.upd Sub.rfl (SubE.upd Sub.rfl SubE.any))))))) (LSub.rfl) ?_
    rintro ⟨i, c⟩ ⟨hi, hv⟩
    refine J_seq ?_
    refine J_seq ?_
    refine J_region ?_
    refine JL_step rfl rfl rfl (step_move Sub.rfl) ?_
    refine JL_step rfl rfl rfl (step_move Sub.rfl) ?_
    refine JL_step rfl rfl rfl (step_len_sl Tryz.underlying24 Sub.rfl) ?_
    refine JL_step rfl rfl rfl (step_lss Sub.rfl Sub.rfl) ?_
    refine JL_nil ?_
    refine J_cond Sub.rfl (fun h27 => ?_) (fun h27 => ?_)
    · try simp only [decide_eq_true_eq, decide_eq_false_iff_not, Bool.and_eq_true, Bool.or_eq_true, Bool.and_eq_false_iff, Bool.or_eq_false_iff, Bool.not_eq_true', Bool.not_eq_false', Int.not_lt, Int.not_le, Bool.not_true, Bool.not_false] at h27
      have hlt : i < (someL facts.length which).length := by omega
      have hbi := someL_in (nth_mem hlt)
      refine J_skip ?_
      refine J_seq ?_
      refine J_block ?_
      refine J_seq ?_
      refine J_region ?_
      refine JL_step rfl rfl rfl (step_assign Sub.rfl) ?_
      refine JL_nil ?_
      refine J_block ?_
      refine J_loopL (σ := Nat × Bool) (fun ⟨k, c2⟩ => k ≤ i ∧ (c2 = true → consM rules facts (someL facts.length which) = false)) (fun ⟨k, c2⟩ => upd (upd (upd (upd (upd (upd (upd (upd (upd (upd env0 0 (tSl rRule rules)) 1 (tSl rFact facts)) 6 (tV (.bool false))) 7 (tV (.bool true))) 8 (tSl rInt (someL facts.length which))) 9 (tV (.bool c2))) 10 (tV (.int .i64 i))) 11 (tV (.int .i64 k))) 24 (tV (.int .i64 i))) 25 (tSl rInt (someL facts.length which))) (fun ⟨k, c2⟩ => []) (fun ⟨k, c2⟩ => i - k) (0, c) ⟨by simp, hv⟩ (SubE.upd Sub.rfl (SubE.upd Sub.rfl (SubE.upd Sub.rfl (SubE.upd Sub.rfl (SubE.upd Sub.rfl (SubE.upd Sub.rfl (SubE.upd Sub.rfl (SubE.upd Sub.rfl (SubE.upd Sub.rfl (SubE.upd Sub.rfl SubE.any)))))))))) (LSub.rfl) ?_
      rintro ⟨k, c2⟩ ⟨hi2, hv2⟩
      refine J_seq ?_
      refine J_seq ?_
      refine J_region ?_
      refine JL_step rfl rfl rfl (step_move Sub.rfl) ?_
      refine JL_step rfl rfl rfl (step_move Sub.rfl) ?_
      refine JL_step rfl rfl rfl (step_lss Sub.rfl Sub.rfl) ?_
      refine JL_nil ?_
      refine J_cond Sub.rfl (fun h32 => ?_) (fun h32 => ?_)
      · try simp only [decide_eq_true_eq, decide_eq_false_iff_not, Bool.and_eq_true, Bool.or_eq_true, Bool.and_eq_false_iff, Bool.or_eq_false_iff, Bool.not_eq_true', Bool.not_eq_false', Int.not_lt, Int.not_le, Bool.not_true, Bool.not_false] at h32
        have hlk : k < i := by omega
        have hlk2 : k < (someL facts.length which).length := by omega
        have hbk := someL_in (nth_mem hlk2)
        refine J_skip ?_
        refine J_seq ?_
        refine J_block ?_
        refine J_seq ?_
        refine J_region ?_
        refine JL_step rfl rfl rfl (step_move Sub.rfl) ?_
        refine JL_step rfl rfl rfl (step_move Sub.rfl) ?_
        refine JL_step rfl rfl rfl (step_move Sub.rfl) ?_
        refine JL_step rfl rfl rfl (step_indexAddr_sl  Tryz.underlying24 ty3 Sub.rfl Sub.rfl rfl (gb ?sg1)) ?_
        case sg1 => first | assumption | omega
        refine JL_step rfl rfl rfl (step_load_ptr ty3 Sub.rfl) ?_
        refine JL_step rfl rfl rfl (step_indexAddr_sl (i := (nth (someL facts.length which) i).toNat) Tryz.underlying23 ty54 Sub.rfl Sub.rfl ?sg1 (gb ?sg2)) ?_
        case sg1 => show nth (someL facts.length which) i = _; omega
        case sg2 => omega
        refine JL_step rfl rfl rfl (step_load_ptr ty54 Sub.rfl) ?_
        refine JL_stepX rfl rfl rfl (step_alloc (fun w => Tryz.zeroValue54 w) zr54) fun v12 => ?_
        refine JL_stepU rfl rfl (step_store_box ty54 Sub.rfl Sub.rfl (by first | exact Sel.take (Sel.none _) | exact Sel.skip (Sel.take (Sel.none _)) | exact Sel.skip (Sel.skip (Sel.take (Sel.none _))) | exact Sel.skip (Sel.skip (Sel.skip (Sel.take (Sel.none _)))) | exact Sel.skip (Sel.skip (Sel.skip (Sel.skip (Sel.take (Sel.none _))))))) fun _ => ?_
        refine JL_freeze (t := 12) (Sel.take (Sel.none _)) Frz.box ?_
        refine JL_nil ?_
        refine J_seq ?_
        refine J_region ?_
        refine JL_step rfl rfl rfl (step_move Sub.rfl) ?_
        refine JL_step rfl rfl rfl (step_move Sub.rfl) ?_
        refine JL_step rfl rfl rfl (step_move Sub.rfl) ?_
        refine JL_step rfl rfl rfl (step_indexAddr_sl  Tryz.underlying24 ty3 Sub.rfl Sub.rfl rfl (gb ?sg1)) ?_
        case sg1 => first | assumption | omega
        refine JL_step rfl rfl rfl (step_load_ptr ty3 Sub.rfl) ?_
        refine JL_step rfl rfl rfl (step_indexAddr_sl (i := (nth (someL facts.length which) k).toNat) Tryz.underlying23 ty54 Sub.rfl Sub.rfl ?sg1 (gb ?sg2)) ?_
        case sg1 => show nth (someL facts.length which) k = _; omega
        case sg2 => omega
        refine JL_step rfl rfl rfl (step_load_ptr ty54 Sub.rfl) ?_
        refine JL_stepX rfl rfl rfl (step_alloc (fun w => Tryz.zeroValue54 w) zr54) fun v13 => ?_
        refine JL_stepU rfl rfl (step_store_box ty54 Sub.rfl Sub.rfl (by first | exact Sel.take (Sel.none _) | exact Sel.skip (Sel.take (Sel.none _)) | exact Sel.skip (Sel.skip (Sel.take (Sel.none _))) | exact Sel.skip (Sel.skip (Sel.skip (Sel.take (Sel.none _)))) | exact Sel.skip (Sel.skip (Sel.skip (Sel.skip (Sel.take (Sel.none _))))))) fun _ => ?_
        refine JL_freeze (t := 13) (Sel.take (Sel.none _)) Frz.box ?_
        refine JL_nil ?_
        refine J_region ?_
        refine JL_step rfl rfl rfl (step_move Sub.rfl) ?_
        refine JL_step rfl rfl rfl (step_move Sub.rfl) ?_
        refine JL_stepG rfl rfl rfl (Gd.plain Sub.rfl) rfl rfl (fun hw => step_fieldAddr so54 Sub.rfl rfl) ?_
        refine JL_stepG rfl rfl rfl (Gd.plain Sub.rfl) rfl rfl (fun hw => step_load_ptr ty3 (Sub.w hw)) ?_
        refine JL_stepG rfl rfl rfl (Gd.plain Sub.rfl) rfl rfl (fun hw => step_fieldAddr so54 Sub.rfl rfl) ?_
        refine JL_stepG rfl rfl rfl (Gd.plain Sub.rfl) rfl rfl (fun hw => step_load_ptr ty3 (Sub.w hw)) ?_
        refine JL_stepG rfl rfl rfl (Gd.plain Sub.rfl) rfl rfl (fun hw => step_eql (Sub.w hw) (Sub.w hw)) ?_
        refine JL_stepG rfl rfl rfl (Gd.plain Sub.rfl) rfl rfl (fun hw => step_move (Sub.w hw)) ?_
        refine JL_stepG rfl rfl rfl (Gd.nest Sub.rfl) rfl rfl (fun hw => step_fieldAddr so54 Sub.rfl rfl) ?_
        refine JL_stepG rfl rfl rfl (Gd.nest Sub.rfl) rfl rfl (fun hw => step_load_ptr ty3 (Sub.w hw)) ?_
        refine JL_stepG rfl rfl rfl (Gd.nest Sub.rfl) rfl rfl (fun hw => step_neq (Sub.w hw) Sub.rfl) ?_
        refine JL_stepG rfl rfl rfl (Gd.nest Sub.rfl) rfl rfl (fun hw => step_move (Sub.w hw)) ?_
        refine JL_stepG rfl rfl rfl (Gd.nest Sub.rfl) rfl rfl (fun hw => step_fieldAddr so54 Sub.rfl rfl) ?_
        refine JL_stepG rfl rfl rfl (Gd.nest Sub.rfl) rfl rfl (fun hw => step_load_ptr ty3 (Sub.w hw)) ?_
        refine JL_stepG rfl rfl rfl (Gd.nest Sub.rfl) rfl rfl (fun hw => step_neq (Sub.w hw) Sub.rfl) ?_
        refine JL_stepG rfl rfl rfl (Gd.nest Sub.rfl) rfl rfl (fun hw => step_pick_or (Sub.w hw) (Sub.ww hw)) ?_
        refine JL_stepG rfl rfl rfl (Gd.plain Sub.rfl) rfl rfl (fun hw => step_pick_and (Sub.w hw) (Sub.ww hw)) ?_
        refine JL_step rfl rfl rfl (step_pick_or Sub.rfl Sub.rfl) ?_
        refine JL_step rfl rfl rfl (step_assign Sub.rfl) ?_
        refine JL_nil ?_
        refine J_region ?_
        refine JL_step rfl rfl rfl (step_move Sub.rfl) ?_
        refine JL_step rfl rfl rfl (step_add Sub.rfl Sub.rfl ?sg1) ?_
        case sg1 => unfold in64; omega
        refine JL_step rfl rfl rfl (step_assign Sub.rfl) ?_
        refine JL_nil ?_
        refine K_againL (σ := Nat × Bool) (s := (k, c2)) (k + 1, c2 || (decide ((nth facts (nth (someL facts.length which) i).toNat).Entity = (nth facts (nth (someL facts.length which) k).toNat).Entity) && (!decide ((nth facts (nth (someL facts.length which) i).toNat).Variant = -1) || !decide ((nth facts (nth (someL facts.length which) k).toNat).Variant = -1)))) (by first | omega | (dsimp only; omega) | (simp_all; omega)) ⟨by omega, fun h => by rw [Bool.or_eq_true] at h; rcases h with h | h; exact hv2 h; exact clash_not (someL_srt _ _) (fun x hx => someL_in hx) hlt hlk h⟩ (SubE.upd Sub.rfl (SubE.upd Sub.rfl (SubE.upd Sub.rfl (SubE.upd Sub.rfl (SubE.upd Sub.rfl (SubE.upd Sub.rfl (SubE.upd Sub.rfl (SubE.upd Sub.rfl (SubE.upd Sub.rfl (SubE.upd Sub.rfl SubE.any)))))))))) (LSub.rfl)
      · try simp only [decide_eq_true_eq, decide_eq_false_iff_not, Bool.and_eq_true, Bool.or_eq_true, Bool.and_eq_false_iff, Bool.or_eq_false_iff, Bool.not_eq_true', Bool.not_eq_false', Int.not_lt, Int.not_le, Bool.not_true, Bool.not_false] at h32
        refine J_exit ?_
        refine J_region ?_
        refine JL_step rfl rfl rfl (step_move Sub.rfl) ?_
        refine JL_step rfl rfl rfl (step_add Sub.rfl Sub.rfl ?sg1) ?_
        case sg1 => unfold in64; omega
        refine JL_step rfl rfl rfl (step_assign Sub.rfl) ?_
        refine JL_nil ?_
        refine K_againL (σ := Nat × Bool) (s := (i, c)) (i + 1, c2) (by first | omega | (dsimp only; omega) | (simp_all; omega)) ⟨by omega, hv2⟩ (SubE.upd Sub.rfl (SubE.upd Sub.rfl (SubE.upd Sub.rfl (SubE.upd Sub.rfl (SubE.upd Sub.rfl (SubE.upd Sub.rfl (SubE.upd Sub.rfl SubE.any))))))) (LSub.rfl)
    · try simp only [decide_eq_true_eq, decide_eq_false_iff_not, Bool.and_eq_true, Bool.or_eq_true, Bool.and_eq_false_iff, Bool.or_eq_false_iff, Bool.not_eq_true', Bool.not_eq_false', Int.not_lt, Int.not_le, Bool.not_true, Bool.not_false] at h27
      refine J_exit ?_
      refine J_seq ?_
      refine J_region ?_
      refine JL_step rfl rfl rfl (step_move Sub.rfl) ?_
      refine JL_step rfl rfl rfl (step_move Sub.rfl) ?_
      refine JL_stepG rfl rfl rfl (Gd.plain Sub.rfl) rfl rfl (fun hw => step_move Sub.rfl) ?_
      refine JL_stepG rfl rfl rfl (Gd.plain Sub.rfl) rfl rfl (fun hw => step_not (Sub.w hw)) ?_
      refine JL_stepG rfl rfl rfl (Gd.plain Sub.rfl) rfl rfl (fun hw => step_move (Sub.w hw)) ?_
      refine JL_stepG rfl rfl rfl (Gd.nest Sub.rfl) rfl rfl (fun hw => step_move Sub.rfl) ?_
      refine JL_stepG rfl rfl rfl (Gd.nest Sub.rfl) rfl rfl (fun hw => step_move Sub.rfl) ?_
      refine JL_stepG rfl rfl rfl (Gd.nest Sub.rfl) rfl rfl (fun hw => step_move Sub.rfl) ?_
      refine JL_stepG rfl rfl rfl (Gd.nest Sub.rfl) rfl rfl (fun hw => step_call0 (Consistent_spec _ _ _ (by omega) (by omega) H.ru) ⟨(Sub.w hw), (Sub.w hw), (Sub.w hw), trivial⟩ Tryz.call24) ?_
      refine JL_stepG rfl rfl rfl (Gd.nest Sub.rfl) rfl rfl (fun hw => step_not (Sub.w hw)) ?_
      refine JL_stepG rfl rfl rfl (Gd.plain Sub.rfl) rfl rfl (fun hw => step_pick_or (Sub.w hw) (Sub.ww hw)) ?_
      refine JL_step rfl rfl rfl (step_pick_and Sub.rfl Sub.rfl) ?_
      refine JL_step rfl rfl rfl (step_assign Sub.rfl) ?_
      refine JL_nil ?_
      refine J_ret ?_
      refine K_retv (rv := .tmp 6) rfl () (.tmp Sub.rfl) (Sub.bool ?_)
      cases c with
      | false => rfl
      | true => rw [hv rfl]; rfl
end Lg

/- Pure theory: each violation is least. -/
namespace Lg
open Go Go.Proofs
theorem srt_sub : ∀ {s t : List Int}, Srt s → Srt t → (∀ x ∈ s, x ∈ t) → s.Sublist t
  | [], t, _, _, _ => List.nil_sublist t
  | a :: s, [], _, _, h => absurd (h a (by simp)) (by simp)
  | a :: s, b :: t, hs, ht, h => by
    have hs' := List.pairwise_cons.1 hs
    have ht' := List.pairwise_cons.1 ht
    by_cases e : a = b
    · subst e
      refine (srt_sub hs'.2 ht'.2 fun x hx => ?_).cons_cons a
      rcases List.mem_cons.1 (h x (by simp [hx])) with q | q
      · have := hs'.1 x hx; omega
      · exact q
    · refine (srt_sub hs ht'.2 fun x hx => ?_).cons b
      have ha : a ∈ t := by
        rcases List.mem_cons.1 (h a (by simp)) with q | q
        · exact absurd q e
        · exact q
      have hab := ht'.1 a ha
      rcases List.mem_cons.1 (h x hx) with q | q
      · rcases List.mem_cons.1 hx with q2 | q2
        · omega
        · have := hs'.1 x q2; omega
      · exact q
theorem okt_all {rules : List GRule} {facts : List GFact} (H : VHyp rules facts) : Okt (allW rules facts) := H.hw
theorem vio_w {rules : List GRule} {facts : List GFact} (H : VHyp rules facts) {v : List Int} (h : v ∈ vioM rules facts) : v ∈ allW rules facts ∧ v ≠ [] ∧ v.length ≤ 3 ∧ Srt v ∧ ∀ x ∈ v, 0 ≤ x ∧ x < (facts.length : Int) := by
  have h1 := minM_mem h
  obtain ⟨a, b, c, d⟩ := wits_ok (iota_srt _) h1
  exact ⟨h1, a, b, c, fun x hx => iota_mem (d x hx)⟩
theorem vio_not {rules : List GRule} {facts : List GFact} (H : VHyp rules facts) {v : List Int} (h : v ∈ vioM rules facts) : consM rules facts v = false := by
  rw [← Bool.not_eq_true, consM_iff]
  rintro ⟨_, h2⟩
  exact h2 v (vio_w H h).1 fun x hx => hx
theorem vio_rest {rules : List GRule} {facts : List GFact} (H : VHyp rules facts) {v : List Int} (h : v ∈ vioM rules facts) {k : Nat} (hk : k < v.length) : consM rules facts (v.take k ++ v.drop (k + 1)) = true := by
  obtain ⟨h1, h2, h3, h4, h5⟩ := vio_w H h
  have hsub : (v.take k ++ v.drop (k + 1)).Sublist v := by
    conv => rhs; rw [← List.take_append_drop k v]
    refine List.Sublist.append (List.Sublist.refl _) ?_
    rw [dropB hk]
    exact List.sublist_cons_self _ _
  have hlen : (v.take k ++ v.drop (k + 1)).length < v.length := by simp; omega
  have hsrt : Srt (v.take k ++ v.drop (k + 1)) := List.Pairwise.sublist hsub h4
  rw [consM_iff]
  refine ⟨⟨hsrt, fun x hx => h5 x (hsub.subset hx)⟩, fun s hs hin => ?_⟩
  obtain ⟨q1, _, q3, _⟩ := wits_ok (iota_srt _) hs
  have hss := (srt_sub q3 hsrt hin)
  have hle := hss.length_le
  exact ((minM_iff (okt_all H)).1 h).2 s (hss.trans hsub) q1 (fun e => by rw [e] at hle; omega) hs
theorem vio_less {rules : List GRule} {facts : List GFact} {i : Nat} (h0 : 0 < i) (hi : i < (vioM rules facts).length) : ltL (nth (vioM rules facts) (i - 1)) (nth (vioM rules facts) i) = true := by
  rw [ltL_iff, nth_get hi, nth_get (show i - 1 < _ by omega)]
  exact List.pairwise_iff_getElem.1 (minM_strict _) _ _ _ _ (by omega)
theorem min_ok {rules : List GRule} {facts : List GFact} (H : VHyp rules facts) {i : Nat} (hi : i < (vioM rules facts).length) :
    (((decide (((nth (vioM rules facts) i).length : Int) < 1) || decide (((nth (vioM rules facts) i).length : Int) > 3)) || consM rules facts (nth (vioM rules facts) i)) || (decide ((i : Int) > 0) && !ltL (nth (vioM rules facts) (i - 1)) (nth (vioM rules facts) i))) = false := by
  have hm := nth_mem hi
  obtain ⟨h1, h2, h3, _⟩ := vio_w H hm
  have h4 := List.length_pos_iff.2 h2
  rw [vio_not H hm]
  by_cases h0 : 0 < i
  · rw [vio_less h0 hi]
    simp; omega
  · have : i = 0 := by omega
    subst this
    simp; omega
end Lg

/- Pure theory: consistent, violations, edges. -/
namespace Lg
open Go Go.Proofs
abbrev cts (l : List (List Int)) (set : List Int) : Bool := l.any fun b => b.all fun x => set.contains x
theorem cts_iff {l : List (List Int)} {set : List Int} : cts l set = true ↔ ∃ b ∈ l, ∀ x ∈ b, x ∈ set := by
  simp [cts, List.any_eq_true, List.all_eq_true]
/-- The minimal sets serve as well as all. -/
theorem cts_min {tot : List (List Int)} (ht : Okt tot) (hne : ∀ s ∈ tot, s ≠ []) {set : List Int} : cts (minM tot) set = cts tot set := by
  rw [Bool.eq_iff_iff, cts_iff, cts_iff]
  constructor
  · rintro ⟨b, hb, h⟩; exact ⟨b, minM_mem hb, h⟩
  · rintro ⟨b, hb, h⟩
    obtain ⟨t, h1, h2⟩ := minM_below ht hb (hne b hb)
    exact ⟨t, h1, fun x hx => h x (h2.subset hx)⟩
theorem cons_cts {rules : List GRule} {facts : List GFact} (H : VHyp rules facts) {set : List Int} (hs : Srt set) (hin : ∀ x ∈ set, 0 ≤ x ∧ x < (facts.length : Int)) : consM rules facts set = !cts (vioM rules facts) set := by
  have e : cts (vioM rules facts) set = cts (allW rules facts) set := cts_min (okt_all H) fun s hs => (wits_ok (iota_srt _) hs).1
  rw [e]
  cases hc : cts (allW rules facts) set with
  | true =>
    obtain ⟨b, hb, h⟩ := cts_iff.1 hc
    rw [Bool.not_true, ← Bool.not_eq_true, consM_iff]
    exact fun h2 => h2.2 b hb h
  | false =>
    rw [Bool.not_false, consM_iff]
    refine ⟨⟨hs, hin⟩, fun s hs h => ?_⟩
    have : cts (allW rules facts) set = true := cts_iff.2 ⟨s, hs, h⟩
    rw [hc] at this; cases this
theorem edg_cts {rules : List GRule} {facts : List GFact} (H : VHyp rules facts) {set : List Int} (hs : Srt set) (hin : ∀ x ∈ set, 0 ≤ x ∧ x < (facts.length : Int)) :
    cts (minM (edgM rules facts)) set = (!consM rules facts set || (danM rules facts).any fun x => set.contains x) := by
  rw [cons_cts H hs hin, Bool.not_not, cts_min (edgM_in H) (fun s hs => by
    rcases List.mem_append.1 hs with h | h
    · obtain ⟨d, _, rfl⟩ := List.mem_map.1 h; simp
    · exact (vio_w H h).2.1)]
  simp only [edgM, edgT, cts, List.any_append, List.any_map, Function.comp_def, List.all_cons, List.all_nil, Bool.and_true]
  rw [Bool.or_comm]
theorem conf_len {rules : List GRule} {facts : List GFact} (H : VHyp rules facts) : (confG rules facts).Edges.length ≤ 20100 ∧ ∀ x ∈ (confG rules facts).Edges, x.length ≤ 3 := by
  unfold confG
  split
  · exact ⟨by simp [zGraph], fun x hx => by simp [zGraph] at hx⟩
  · exact ⟨Nat.le_trans (minM_len _) (edgM_len H), fun x hx => (edgM_in H x (minM_mem hx)).1⟩
/-- What the law asks at its end. -/
theorem comp_end {rules : List GRule} {facts : List GFact} (H : VHyp rules facts) {set : List Int} (hs : Srt set) (hin : ∀ x ∈ set, 0 ≤ x ∧ x < (facts.length : Int)) :
    (true && (decide (confE facts = 1) || ((decide (confE facts = 0) && decide ((confG rules facts).N = (facts.length : Int))) && (cts (confG rules facts).Edges set == (!consM rules facts set || (danM rules facts).any fun x => set.contains x))))) = true := by
  by_cases hb : facts.any badC = true
  · have : confE facts = 1 := if_pos hb
    rw [this]; rfl
  · have h1 : confE facts = 0 := if_neg hb
    have h2 : confG rules facts = ⟨facts.length, facts.map GFact.Cost, minM (edgM rules facts)⟩ := if_neg hb
    rw [h1, h2, ← edg_cts H hs hin]
    simp
end Lg

namespace Lg
open Go Go.Proofs


theorem step_eql_bool {C : Cx} {E : Env} {L : List SP} {d : Option Nat} {ty : Nat} {pos : String} {af : Array Edge} {g : Option (Nat × Bool)} {T U : Nat} {x y : Operand} {a b : Bool} (hu : C.P.underlying T = some .bool) (hx : Sub (opTy E x) (tV (.bool a))) (hy : Sub (opTy E y) (tV (.bool b))) :
    Step1 C ⟨d, .binOp .eql T x y U, ty, pos, af, g⟩ E L (tV (.bool (a == b))) := step_int_bool hx hy (fun w => by
  have h1 := run_equalIn_bool' (P := C.P) w 9999 T a b hu
  have h2 : (Op.equal T (.bool a) (.bool b)).run C.P w = .ok (a == b) w := h1
  simp [binOp, h2])

theorem Complete_spec (rules : List GRule) (facts : List GFact) (which : List Bool) : Fun1 Tryz.prog 5 [tSl rRule rules, tSl rFact facts, tSl rBool which] (tV (.bool true)) := by
  refine Spec.enter Tryz.func5 rfl rfl fun h0 w0 fr0 => ?_
  refine J_seq ?_
  refine J_region ?_
  refine JL_step rfl rfl rfl (step_assign Sub.rfl) ?_
  refine JL_nil ?_
  refine J_seq ?_
  refine J_region ?_
  refine JL_step rfl rfl rfl (step_call0 (head_spec) trivial Tryz.call10) ?_
  refine JL_step rfl rfl rfl (step_assign Sub.rfl) ?_
  refine JL_nil ?_
  refine J_seq ?_
  refine J_seq ?_
  refine J_region ?_
  refine JL_step rfl rfl rfl (step_move Sub.rfl) ?_
  refine JL_step rfl rfl rfl (step_move Sub.rfl) ?_
  refine JL_step rfl rfl rfl (step_call0 (Few_spec _ _ _ (by omega)) ⟨Sub.rfl, Sub.rfl, Sub.rfl, trivial⟩ Tryz.call11) ?_
  refine JL_step rfl rfl rfl (step_not Sub.rfl) ?_
  refine JL_nil ?_
  refine J_cond Sub.rfl (fun h21 => ?_) (fun h21 => ?_)
  · try simp only [decide_eq_true_eq, decide_eq_false_iff_not, Bool.and_eq_true, Bool.or_eq_true, Bool.and_eq_false_iff, Bool.or_eq_false_iff, Bool.not_eq_true', Bool.not_eq_false', Int.not_lt, Int.not_le, Bool.not_true, Bool.not_false] at h21
    refine J_seq ?_
    refine J_region ?_
    refine JL_step rfl rfl rfl (step_move Sub.rfl) ?_
    refine JL_step rfl rfl rfl (step_assign Sub.rfl) ?_
    refine JL_nil ?_
    refine J_ret ?_
    refine K_retv (rv := .tmp 6) rfl () (.tmp Sub.rfl) (Sub.bool ?_)
    rfl
  · try simp only [decide_eq_true_eq, decide_eq_false_iff_not, Bool.and_eq_true, Bool.or_eq_true, Bool.and_eq_false_iff, Bool.or_eq_false_iff, Bool.not_eq_true', Bool.not_eq_false', Int.not_lt, Int.not_le, Bool.not_true, Bool.not_false] at h21
    have HP := FewP.of h21
    have H := VHyp.few HP
    have hfl := HP.fl
    have hrl := HP.rl
    have hsl : (someL facts.length which).length ≤ facts.length := someL_len
    have hss := someL_srt facts.length which
    have hsi : ∀ x ∈ (someL facts.length which), 0 ≤ x ∧ x < (facts.length : Int) := fun x hx => someL_in hx
    have hdl := danM_len rules facts
    refine J_skip ?_
    refine J_seq ?_
    refine J_region ?_
    refine JL_step rfl rfl rfl (step_move Sub.rfl) ?_
    refine JL_step rfl rfl rfl (step_len_sl Tryz.underlying23 Sub.rfl) ?_
    refine JL_step rfl rfl rfl (step_move Sub.rfl) ?_
    refine JL_step rfl rfl rfl (step_call0 (some_spec _ _ (by omega)) ⟨Sub.rfl, Sub.rfl, trivial⟩ Tryz.call27) ?_
    refine JL_step rfl rfl rfl (step_assign Sub.rfl) ?_
    refine JL_nil ?_
    refine J_seq ?_
    refine J_region ?_
    refine JL_step rfl rfl rfl (step_move Sub.rfl) ?_
    refine JL_step rfl rfl rfl (step_move Sub.rfl) ?_
    refine JL_step rfl rfl rfl (step_call0 (Viol_spec H) ⟨Sub.rfl, Sub.rfl, trivial⟩ Tryz.call15) ?_
    refine JL_step rfl rfl rfl (step_move Sub.rfl) ?_
    refine JL_step rfl rfl rfl (step_extract Sub.rfl rfl) ?_
    refine JL_step rfl rfl rfl (step_extract Sub.rfl rfl) ?_
    refine JL_step rfl rfl rfl (step_assign Sub.rfl) ?_
    refine JL_step rfl rfl rfl (step_assign Sub.rfl) ?_
    refine JL_nil ?_
    refine J_seq ?_
    refine J_region ?_
    refine JL_step rfl rfl rfl (step_move Sub.rfl) ?_
    refine JL_step rfl rfl rfl (step_move Sub.rfl) ?_
    refine JL_step rfl rfl rfl (step_move Sub.rfl) ?_
    refine JL_step rfl rfl rfl (step_call0 (Consistent_spec _ _ _ (by omega) (by omega) H.ru) ⟨Sub.rfl, Sub.rfl, Sub.rfl, trivial⟩ Tryz.call24) ?_
    refine JL_step rfl rfl rfl (step_assign Sub.rfl) ?_
    refine JL_nil ?_
    refine J_seq ?_
    refine J_seq ?_
    refine J_region ?_
    refine JL_step rfl rfl rfl (step_move Sub.rfl) ?_
    refine JL_step rfl rfl rfl (step_neq Sub.rfl Sub.rfl) ?_
    refine JL_step rfl rfl rfl (step_move Sub.rfl) ?_
    refine JL_stepG rfl rfl rfl (Gd.plain Sub.rfl) rfl rfl (fun hw => step_move Sub.rfl) ?_
    refine JL_stepG rfl rfl rfl (Gd.plain Sub.rfl) rfl rfl (fun hw => step_move Sub.rfl) ?_
    refine JL_stepG rfl rfl rfl (Gd.plain Sub.rfl) rfl rfl (fun hw => step_move Sub.rfl) ?_
    refine JL_stepG rfl rfl rfl (Gd.plain Sub.rfl) rfl rfl (fun hw => step_call0 (contains_spec _ _ (Nat.le_trans (vio_len H) (by omega)) (by omega) (fun x hx => Nat.le_trans (vio_len3 H x hx) (by omega))) ⟨(Sub.trans (Sub.w hw) Sub.ofEE), Sub.w hw, trivial⟩ Tryz.call28) ?_
    refine JL_stepG rfl rfl rfl (Gd.plain Sub.rfl) rfl rfl (fun hw => step_eql_bool Tryz.underlying4 (Sub.w hw) (Sub.w hw)) ?_
    refine JL_step rfl rfl rfl (step_pick_or Sub.rfl Sub.rfl) ?_
    refine JL_nil ?_
    refine J_cond Sub.rfl (fun h45 => ?_) (fun h45 => ?_)
    · try simp only [decide_eq_true_eq, decide_eq_false_iff_not, Bool.and_eq_true, Bool.or_eq_true, Bool.and_eq_false_iff, Bool.or_eq_false_iff, Bool.not_eq_true', Bool.not_eq_false', Int.not_lt, Int.not_le, Bool.not_true, Bool.not_false] at h45
      exfalso; have hcc := cons_cts H hss hsi; simp only [cts] at hcc; rw [hcc] at h45; simp at h45
    · try simp only [decide_eq_true_eq, decide_eq_false_iff_not, Bool.and_eq_true, Bool.or_eq_true, Bool.and_eq_false_iff, Bool.or_eq_false_iff, Bool.not_eq_true', Bool.not_eq_false', Int.not_lt, Int.not_le, Bool.not_true, Bool.not_false] at h45
      refine J_skip ?_
      refine J_seq ?_
      refine J_region ?_
      refine JL_step rfl rfl rfl (step_move Sub.rfl) ?_
      refine JL_step rfl rfl rfl (step_move Sub.rfl) ?_
      refine JL_step rfl rfl rfl (step_call0 (Conflicts_spec rules facts H) ⟨Sub.rfl, Sub.rfl, trivial⟩ Tryz.call17) ?_
      refine JL_step rfl rfl rfl (step_move Sub.rfl) ?_
      refine JL_step rfl rfl rfl (step_extract Sub.rfl rfl) ?_
      refine JL_step rfl rfl rfl (step_extract Sub.rfl rfl) ?_
      refine JL_stepX rfl rfl rfl (step_alloc (fun w => Tryz.zeroValue38 w) zr38E) fun v12 => ?_
      refine JL_stepU rfl rfl (step_store_box ty38E Sub.rfl Sub.rfl (by first | exact Sel.take (Sel.none _) | exact Sel.skip (Sel.take (Sel.none _)) | exact Sel.skip (Sel.skip (Sel.take (Sel.none _))) | exact Sel.skip (Sel.skip (Sel.skip (Sel.take (Sel.none _)))) | exact Sel.skip (Sel.skip (Sel.skip (Sel.skip (Sel.take (Sel.none _))))))) fun _ => ?_
      refine JL_freeze (t := 12) (Sel.take (Sel.none _)) Frz.box ?_
      refine JL_step rfl rfl rfl (step_assign Sub.rfl) ?_
      refine JL_nil ?_
      refine J_seq ?_
      refine J_region ?_
      refine JL_step rfl rfl rfl (step_move Sub.rfl) ?_
      refine JL_step rfl rfl rfl (step_move Sub.rfl) ?_
      refine JL_step rfl rfl rfl (step_call0 (Dangling_spec _ _ (by omega) (by omega)) ⟨Sub.rfl, Sub.rfl, trivial⟩ Tryz.call22) ?_
      refine JL_step rfl rfl rfl (step_assign Sub.rfl) ?_
      refine JL_nil ?_
      refine J_seq ?_
      refine J_region ?_
      refine JL_step rfl rfl rfl (step_assign Sub.rfl) ?_
      refine JL_nil ?_
      refine J_seq ?_
      refine J_seq ?_
      refine J_region ?_
      refine JL_step rfl rfl rfl (step_assign Sub.rfl) ?_
      refine JL_nil ?_
      refine J_block ?_
      refine J_loopL (σ := Nat × Bool) (fun ⟨i, b⟩ => i ≤ (danM rules facts).length ∧ b = ((danM rules facts).take i).any fun x => (someL facts.length which).contains x) (fun ⟨i, b⟩ => upd (upd (upd (upd (upd (upd (upd (upd (upd (upd env0 1 (tSl rFact facts)) 6 (tV (.bool false))) 7 (tV (.bool true))) 8 (tSl rInt (someL facts.length which))) 11 (tV (.bool (consM rules facts (someL facts.length which))))) 12 (tPtr rGraphE (confG rules facts))) 13 (tV (.int .i64 (confE facts)))) 14 (tSlE 3 rInt (danM rules facts))) 15 (tV (.bool b))) 16 (tV (.int .i64 i))) (fun ⟨i, b⟩ => []) (fun ⟨i, b⟩ => (danM rules facts).length - i) (0, false) ⟨by omega, by simp⟩ (SubE.upd Sub.rfl (SubE.upd Sub.rfl (SubE.upd Sub.rfl (SubE.upd Sub.rfl (SubE.upd Sub.rfl (SubE.upd Sub.rfl (SubE.upd Sub.rfl (SubE.upd Sub.rfl (SubE.upd Sub.rfl (SubE.upd Sub.rfl SubE.any)))))))))) (LSub.rfl) ?_
      rintro ⟨i, b⟩ ⟨hi, hv⟩
      refine J_seq ?_
      refine J_seq ?_
      refine J_region ?_
      refine JL_step rfl rfl rfl (step_move Sub.rfl) ?_
      refine JL_step rfl rfl rfl (step_move Sub.rfl) ?_
      refine JL_step rfl rfl rfl (step_len_sl Tryz.underlying24 Sub.ofE) ?_
      refine JL_step rfl rfl rfl (step_lss Sub.rfl Sub.rfl) ?_
      refine JL_nil ?_
      refine J_cond Sub.rfl (fun h58 => ?_) (fun h58 => ?_)
      · try simp only [decide_eq_true_eq, decide_eq_false_iff_not, Bool.and_eq_true, Bool.or_eq_true, Bool.and_eq_false_iff, Bool.or_eq_false_iff, Bool.not_eq_true', Bool.not_eq_false', Int.not_lt, Int.not_le, Bool.not_true, Bool.not_false] at h58
        have hlt : i < (danM rules facts).length := by omega
        refine J_skip ?_
        refine J_seq ?_
        refine J_block ?_
        refine J_region ?_
        refine JL_step rfl rfl rfl (step_move Sub.rfl) ?_
        refine JL_step rfl rfl rfl (step_move Sub.rfl) ?_
        refine JL_stepG rfl rfl rfl (Gd.plain Sub.rfl) rfl rfl (fun hw => step_move Sub.rfl) ?_
        refine JL_stepG rfl rfl rfl (Gd.plain Sub.rfl) rfl rfl (fun hw => step_move Sub.rfl) ?_
        refine JL_stepG rfl rfl rfl (Gd.plain Sub.rfl) rfl rfl (fun hw => step_move Sub.rfl) ?_
        refine JL_stepG rfl rfl rfl (Gd.plain Sub.rfl) rfl rfl (fun hw => step_indexAddr_sl Tryz.underlying24 ty3 (Sub.trans (Sub.w hw) Sub.ofE) (Sub.w hw) rfl (gb hlt)) ?_
        refine JL_stepG rfl rfl rfl (Gd.plain Sub.rfl) rfl rfl (fun hw => step_load_ptr ty3 (Sub.w hw)) ?_
        refine JL_stepG rfl rfl rfl (Gd.plain Sub.rfl) rfl rfl (fun hw => step_call0 (In_spec _ _ (by omega)) ⟨(Sub.w hw), (Sub.w hw), trivial⟩ Tryz.call29) ?_
        refine JL_step rfl rfl rfl (step_pick_or Sub.rfl Sub.rfl) ?_
        refine JL_step rfl rfl rfl (step_assign Sub.rfl) ?_
        refine JL_nil ?_
        refine J_region ?_
        refine JL_step rfl rfl rfl (step_move Sub.rfl) ?_
        refine JL_step rfl rfl rfl (step_add Sub.rfl Sub.rfl ?sg1) ?_
        case sg1 => unfold in64; omega
        refine JL_step rfl rfl rfl (step_assign Sub.rfl) ?_
        refine JL_nil ?_
        refine K_againL (σ := Nat × Bool) (s := (i, b)) (i + 1, b || (someL facts.length which).contains (nth (danM rules facts) i)) (by first | omega | (dsimp only; omega) | (simp_all; omega)) ⟨by omega, by rw [takeB hlt, List.any_append, ← hv]; simp⟩ (SubE.upd Sub.rfl (SubE.upd Sub.rfl (SubE.upd Sub.rfl (SubE.upd Sub.rfl (SubE.upd Sub.rfl (SubE.upd Sub.rfl (SubE.upd Sub.rfl (SubE.upd Sub.rfl (SubE.upd Sub.rfl (SubE.upd Sub.rfl SubE.any)))))))))) (LSub.rfl)
      · try simp only [decide_eq_true_eq, decide_eq_false_iff_not, Bool.and_eq_true, Bool.or_eq_true, Bool.and_eq_false_iff, Bool.or_eq_false_iff, Bool.not_eq_true', Bool.not_eq_false', Int.not_lt, Int.not_le, Bool.not_true, Bool.not_false] at h58
        refine J_exit ?_
        refine J_seq ?_
        refine J_region ?_
        refine JL_step rfl rfl rfl (step_move Sub.rfl) ?_
        refine JL_step rfl rfl rfl (step_move Sub.rfl) ?_
        refine JL_stepG rfl rfl rfl (Gd.plain Sub.rfl) rfl rfl (fun hw => step_move Sub.rfl) ?_
        refine JL_stepG rfl rfl rfl (Gd.plain Sub.rfl) rfl rfl (fun hw => step_eql (Sub.w hw) Sub.rfl) ?_
        refine JL_stepG rfl rfl rfl (Gd.plain Sub.rfl) rfl rfl (fun hw => step_move (Sub.w hw)) ?_
        refine JL_stepG rfl rfl rfl (Gd.nest Sub.rfl) rfl rfl (fun hw => step_move Sub.rfl) ?_
        refine JL_stepG rfl rfl rfl (Gd.nest Sub.rfl) rfl rfl (fun hw => step_eql (Sub.w hw) Sub.rfl) ?_
        refine JL_stepG rfl rfl rfl (Gd.nest Sub.rfl) rfl rfl (fun hw => step_move (Sub.w hw)) ?_
        refine JL_stepG rfl rfl rfl (Gd.nest Sub.rfl) rfl rfl (fun hw => step_fieldAddr so38E Sub.rfl rfl) ?_
        refine JL_stepG rfl rfl rfl (Gd.nest Sub.rfl) rfl rfl (fun hw => step_load_ptr ty3 (Sub.w hw)) ?_
        refine JL_stepG rfl rfl rfl (Gd.nest Sub.rfl) rfl rfl (fun hw => step_move Sub.rfl) ?_
        refine JL_stepG rfl rfl rfl (Gd.nest Sub.rfl) rfl rfl (fun hw => step_len_sl Tryz.underlying23 (Sub.w hw)) ?_
        refine JL_stepG rfl rfl rfl (Gd.nest Sub.rfl) rfl rfl (fun hw => step_eql (Sub.w hw) (Sub.w hw)) ?_
        refine JL_stepG rfl rfl rfl (Gd.nest Sub.rfl) rfl rfl (fun hw => step_pick_and (Sub.w hw) (Sub.ww hw)) ?_
        refine JL_stepG rfl rfl rfl (Gd.nest Sub.rfl) rfl rfl (fun hw => step_move (Sub.w hw)) ?_
        refine JL_stepG rfl rfl rfl (Gd.nest Sub.rfl) rfl rfl (fun hw => step_fieldAddr so38E Sub.rfl rfl) ?_
        refine JL_stepG rfl rfl rfl (Gd.nest Sub.rfl) rfl rfl (fun hw => step_load_ptr ty33E (Sub.w hw)) ?_
        refine JL_stepG rfl rfl rfl (Gd.nest Sub.rfl) rfl rfl (fun hw => step_move Sub.rfl) ?_
        refine JL_stepG rfl rfl rfl (Gd.nest Sub.rfl) rfl rfl (fun hw => step_call0 (contains_spec (confG rules facts).Edges _ (Nat.le_trans (conf_len H).1 (by omega)) (by omega) (fun x hx => Nat.le_trans ((conf_len H).2 x hx) (by omega))) ⟨(Sub.trans (Sub.w hw) Sub.ofEE), Sub.w hw, trivial⟩ Tryz.call28) ?_
        refine JL_stepG rfl rfl rfl (Gd.nest Sub.rfl) rfl rfl (fun hw => step_move Sub.rfl) ?_
        refine JL_stepG rfl rfl rfl (Gd.nest Sub.rfl) rfl rfl (fun hw => step_not (Sub.w hw)) ?_
        refine JL_stepG rfl rfl rfl (Gd.nest Sub.rfl) rfl rfl (fun hw => step_move (Sub.w hw)) ?_
        refine JL_stepG rfl rfl rfl (Gd.nest Sub.rfl) rfl rfl (fun hw => step_move Sub.rfl) ?_
        refine JL_stepG rfl rfl rfl (Gd.nest Sub.rfl) rfl rfl (fun hw => step_pick_or (Sub.w hw) (Sub.ww hw)) ?_
        refine JL_stepG rfl rfl rfl (Gd.nest Sub.rfl) rfl rfl (fun hw => step_eql_bool Tryz.underlying4 (Sub.w hw) (Sub.w hw)) ?_
        refine JL_stepG rfl rfl rfl (Gd.nest Sub.rfl) rfl rfl (fun hw => step_pick_and (Sub.w hw) (Sub.ww hw)) ?_
        refine JL_stepG rfl rfl rfl (Gd.plain Sub.rfl) rfl rfl (fun hw => step_pick_or (Sub.w hw) (Sub.ww hw)) ?_
        refine JL_step rfl rfl rfl (step_pick_and Sub.rfl Sub.rfl) ?_
        refine JL_step rfl rfl rfl (step_assign Sub.rfl) ?_
        refine JL_nil ?_
        refine J_ret ?_
        refine K_retv (rv := .tmp 6) rfl () (.tmp Sub.rfl) (Sub.bool ?_)
        obtain rfl : i = (danM rules facts).length := by omega
        rw [List.take_length] at hv
        rw [hv]
        exact comp_end H hss hsi
end Lg

/- DenialComplete: the card. -/
namespace Go.Proofs.YticgfcbcaalioaaGreatDoor.denialComplete
open Go.ChangeShapes Go.WideShapes Go.ChangeAt Go.RowKit
set_option maxRecDepth 100000 in
theorem contract (H : Type) (enc : TypeId × Value → H) (W : World) (base : Nat) (args : Array Value) (ds gs : List (DataW H)) (before : List MemPlace)
    (hval : ∀ (j : Nat) t v, Tryz.f5.params[j]? = some t → args[j]? = some v → Value.okWide Tryz.prog W .any base t v)
    (hW : DataW.Whole enc Tryz.prog Tryz.f5.params.toList Rows.denialCompleteSpec.vars false W args.toList ds gs before) :
    Calls Tryz.prog 5 args W fun e W' => ∃ v, e = .returned v ∧ Rows.denialCompleteSpec.post enc Tryz.prog Tryz.f5 false true false false W args v W' := by
  have hW' := hW
  obtain ⟨p, q, hA0, hV, rfl, hfz, hnd⟩ := hW
  have hA : DataW.TrodAll enc Tryz.prog W 0 (fun _ => true) true Tryz.f5.params.toList args.toList ds p := hA0
  rw [Tryz.params5] at hA hval
  obtain ⟨v0, v1, v2, d0, d1, d2, p0, p1, p2, rfl, rfl, rfl, h0, h1, h2⟩ := trodAll_three hA
  obtain ⟨rfl, rfl⟩ := trodVars_none hV
  obtain ⟨rules, a0⟩ := Lg.arg_sl Tryz.underlying22 Lg.rd22 (hval 0 22 v0 rfl rfl) h0
  obtain ⟨facts, a1⟩ := Lg.arg_sl Tryz.underlying23 Lg.rd23 (hval 1 23 v1 rfl rfl) h1
  obtain ⟨which, a2⟩ := Lg.arg_sl Tryz.underlying47 Lg.rd47 (hval 2 47 v2 rfl rfl) h2
  refine (Lg.run_true (Lg.Complete_spec rules facts which) (vs := [v0, v1, v2]) ⟨a0, a1, a2, trivial⟩).mono fun e W' ⟨he, hb⟩ => ?_
  subst he
  have e1 : Rows.denialCompleteSpec.fn H ([d0, d1, d2] ++ []) = { results := [.lit (.bool true)], args := [d0, d1, d2] } := by simp [Rows.denialCompleteSpec]
  refine ⟨_, rfl, _, _, _, [], p0 ++ (p1 ++ p2), [], hW', ?_, ?_, ?_, hb.frame _, fun h => by cases h⟩
  · rw [e1]; exact trodAll_mk1 (shut_bool Tryz.underlying4 true)
  · rw [e1, Tryz.params5]
    exact trodAll_mk3 (hb.trod laidOut rec22 size22 h0 fun x hx => hW'.lt x (by simp [hx])) (hb.trod laidOut rec23 size23 h1 fun x hx => hW'.lt x (by simp [hx])) (hb.trod laidOut rec47 size47 h2 fun x hx => hW'.lt x (by simp [hx]))
  · rw [e1]; rfl
noncomputable abbrev args0 : Array Value := #[.slice none 0 0, .slice none 0 0, .slice none 0 0]
theorem reads (os : Os) {H : Type} (enc : TypeId × Value → H) : ∃ places, DataW.whole enc Tryz.prog ((laidWorld os).forCall (fun _ _ => 0) ⟨#[], args0, []⟩).memory Tryz.f5.params.toList Rows.denialCompleteSpec.vars false args0.toList 8 = some ([.nil, .nil, .nil], [], places) :=
  ⟨[], by kernel_rfl⟩
theorem laid_met (os : Os) : laidMet Tryz.prog Rows.denialCompleteRow.laid ((laidWorld os).forCall (fun _ _ => 0) ⟨#[], args0, []⟩).memory :=
  laidMet_laidAll (laid := laidL) args0 (by kernel_rfl) (by kernel_rfl)
set_option maxRecDepth 100000 in
theorem lifted (os : Os) (started : os.Started) (H : Type) (enc : TypeId × Value → H) (F : Stop.Interp) :
    ReturnsInHanded {} Tryz.checked os 5 .any ((OpenSpec.ofChange Rows.denialCompleteSpec).preRow enc Tryz.prog Tryz.f5 Rows.denialCompleteRow.domain false Rows.denialCompleteRow.laid) (((OpenSpec.ofChange Rows.denialCompleteSpec).at F).post enc Tryz.prog Tryz.f5 false true false false) := by
  obtain ⟨places, hx⟩ := reads os enc
  refine returnsInHanded_of_row (C := Tryz.checked) (s := OpenSpec.ofChange Rows.denialCompleteSpec) own started (by kernel_rfl) Tryz.func5
    (witness_row_at (enc := enc) (C := Tryz.checked) false (laidWorld os) args0 (World.laidAll_os _ _ _) (by kernel_rfl) (by kernel_rfl) (by kernel_rfl)
      (OpenSpec.preRow_of_cond 8 hx (by kernel_rfl) (fun k hk => by cases hk) (by kernel_rfl) (laid_met os))) ?_
  intro W base args ds gs before hval hW _ _ _ hL _ _
  exact contract H enc W base args ds gs before hval hW
theorem said : Rows.DenialCompleteSaid :=
  OpenClaim.holds_of_cond 5 Tryz.f5 rfl rfl rfl rfl rfl rfl rfl ⟨rfl, rfl, rfl, rfl, rfl⟩ rfl rfl rfl rfl rfl (by kernel_rfl) Tryz.func5 (by kernel_rfl)
    (of_decide_eq_true (by kernel_rfl)) (by unfold Func.isWrapper; first | (rw [if_pos (by decide +kernel)]; kernel_rfl) | (rw [if_neg (by decide +kernel)]; exact ⟨rfl, rfl⟩))
    (fun os started H enc _ F => by rw [OpenClaim.pre_eq_preRow]; exact lifted os started H enc F)
theorem plain (f : FuncId) (fn : Func) (hf : Tryz.pinned.checked.prog.funcNamed "cleanse/cleanselaw25.DenialComplete" = some f) (hfn : Tryz.pinned.checked.prog.funcs[f]? = some fn) :
    false = Tryz.pinned.checked.prog.looks [] ∧ ∀ (j : Nat) t, fn.params[j]? = some t → Tryz.pinned.checked.prog.wantsStandIn t = false := by
  obtain rfl : f = 5 := Option.some.inj ((show Tryz.prog.funcNamed "cleanse/cleanselaw25.DenialComplete" = some 5 by kernel_rfl).symm.trans hf) |>.symm
  obtain rfl : fn = Tryz.f5 := (Option.some.inj (Tryz.func5.symm.trans hfn)).symm
  refine ⟨noLooks, fun j t ht => ?_⟩
  rw [Tryz.params5] at ht
  have hm : t ∈ #[22, 23, 47] := Array.mem_of_getElem? ht
  simp only [List.mem_toArray, List.mem_cons, List.not_mem_nil, or_false] at hm
  rcases hm with rfl | rfl | rfl
  · exact want22
  · exact want23
  · exact want47
theorem card : Rows.DenialCompleteCardSaid :=
  Claim7.holds_tied_plain_at .later [] _ _ _ _ said (fun _ h => by cases h) (by kernel_rfl) (fun _ h => by cases h) denialComplete_row_tie rfl ⟨rfl, rfl⟩ (by kernel_rfl) rfl plain (by kernel_rfl)
end Go.Proofs.YticgfcbcaalioaaGreatDoor.denialComplete
