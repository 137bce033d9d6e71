/- For all inputs the law DenialMinimal answers true: the card. -/
import Derived.Test.YticgfcbcaalioaaGreatDoorH
set_option linter.unusedVariables false
set_option linter.unusedSimpArgs false
set_option linter.unusedSectionVars false
/- Pure theory: each violation is least. -/
namespace Lg
open Go Go.Proofs
theorem srt_sub : ∀ {s t : List Int}, Srt s → Srt t → (∀ x ∈ s, x ∈ t) → s.Sublist t
  | [], t, _, _, _ => List.nil_sublist t
  | a :: s, [], _, _, h => absurd (h a (by simp)) (by simp)
  | a :: s, b :: t, hs, ht, h => by
    have hs' := List.pairwise_cons.1 hs
    have ht' := List.pairwise_cons.1 ht
    by_cases e : a = b
    · subst e
      refine (srt_sub hs'.2 ht'.2 fun x hx => ?_).cons_cons a
      rcases List.mem_cons.1 (h x (by simp [hx])) with q | q
      · have := hs'.1 x hx; omega
      · exact q
    · refine (srt_sub hs ht'.2 fun x hx => ?_).cons b
      have ha : a ∈ t := by
        rcases List.mem_cons.1 (h a (by simp)) with q | q
        · exact absurd q e
        · exact q
      have hab := ht'.1 a ha
      rcases List.mem_cons.1 (h x hx) with q | q
      · rcases List.mem_cons.1 hx with q2 | q2
        · omega
        · have := hs'.1 x q2; omega
      · exact q
theorem okt_all {rules : List GRule} {facts : List GFact} (H : VHyp rules facts) : Okt (allW rules facts) := H.hw
theorem vio_w {rules : List GRule} {facts : List GFact} (H : VHyp rules facts) {v : List Int} (h : v ∈ vioM rules facts) : v ∈ allW rules facts ∧ v ≠ [] ∧ v.length ≤ 3 ∧ Srt v ∧ ∀ x ∈ v, 0 ≤ x ∧ x < (facts.length : Int) := by
  have h1 := minM_mem h
  obtain ⟨a, b, c, d⟩ := wits_ok (iota_srt _) h1
  exact ⟨h1, a, b, c, fun x hx => iota_mem (d x hx)⟩
theorem vio_not {rules : List GRule} {facts : List GFact} (H : VHyp rules facts) {v : List Int} (h : v ∈ vioM rules facts) : consM rules facts v = false := by
  rw [← Bool.not_eq_true, consM_iff]
  rintro ⟨_, h2⟩
  exact h2 v (vio_w H h).1 fun x hx => hx
theorem vio_rest {rules : List GRule} {facts : List GFact} (H : VHyp rules facts) {v : List Int} (h : v ∈ vioM rules facts) {k : Nat} (hk : k < v.length) : consM rules facts (v.take k ++ v.drop (k + 1)) = true := by
  obtain ⟨h1, h2, h3, h4, h5⟩ := vio_w H h
  have hsub : (v.take k ++ v.drop (k + 1)).Sublist v := by
    conv => rhs; rw [← List.take_append_drop k v]
    refine List.Sublist.append (List.Sublist.refl _) ?_
    rw [dropB hk]
    exact List.sublist_cons_self _ _
  have hlen : (v.take k ++ v.drop (k + 1)).length < v.length := by simp; omega
  have hsrt : Srt (v.take k ++ v.drop (k + 1)) := List.Pairwise.sublist hsub h4
  rw [consM_iff]
  refine ⟨⟨hsrt, fun x hx => h5 x (hsub.subset hx)⟩, fun s hs hin => ?_⟩
  obtain ⟨q1, _, q3, _⟩ := wits_ok (iota_srt _) hs
  have hss := (srt_sub q3 hsrt hin)
  have hle := hss.length_le
  exact ((minM_iff (okt_all H)).1 h).2 s (hss.trans hsub) q1 (fun e => by rw [e] at hle; omega) hs
theorem vio_less {rules : List GRule} {facts : List GFact} {i : Nat} (h0 : 0 < i) (hi : i < (vioM rules facts).length) : ltL (nth (vioM rules facts) (i - 1)) (nth (vioM rules facts) i) = true := by
  rw [ltL_iff, nth_get hi, nth_get (show i - 1 < _ by omega)]
  exact List.pairwise_iff_getElem.1 (minM_strict _) _ _ _ _ (by omega)
theorem min_ok {rules : List GRule} {facts : List GFact} (H : VHyp rules facts) {i : Nat} (hi : i < (vioM rules facts).length) :
    (((decide (((nth (vioM rules facts) i).length : Int) < 1) || decide (((nth (vioM rules facts) i).length : Int) > 3)) || consM rules facts (nth (vioM rules facts) i)) || (decide ((i : Int) > 0) && !ltL (nth (vioM rules facts) (i - 1)) (nth (vioM rules facts) i))) = false := by
  have hm := nth_mem hi
  obtain ⟨h1, h2, h3, _⟩ := vio_w H hm
  have h4 := List.length_pos_iff.2 h2
  rw [vio_not H hm]
  by_cases h0 : 0 < i
  · rw [vio_less h0 hi]
    simp; omega
  · have : i = 0 := by omega
    subst this
    simp; omega
end Lg

namespace Lg
open Go Go.Proofs


theorem max0 {i : Nat} (h : 0 < i) : (if (0 : Int) > (i : Int) - 1 then (0 : Int) else (i : Int) - 1) = ((i - 1 : Nat) : Int) := by rw [if_neg (by omega)]; omega
theorem step_max {C : Cx} {E : Env} {L : List SP} {d : Option Nat} {ty : Nat} {pos : String} {af : Array Edge} {g : Option (Nat × Bool)} {T U : Nat} {x y : Operand} {k k' : IntKind} {a b : Int} (hx : Sub (opTy E x) (tV (.int k a))) (hy : Sub (opTy E y) (tV (.int k' b))) :
    Step1 C ⟨d, .call { callee := .builtin .max, args := #[x, y], argTypes := #[T, U] }, ty, pos, af, g⟩ E L (tV (.int k (if b > a then b else a))) :=
  Step.of_same (by intro c h; cases h) fun a' w h hw f => by
    have h1 : a'.eval x = .int k a := f.get hx
    have h2 : a'.eval y = .int k' b := f.get hy
    refine ⟨.int k (if b > a then b else a), ?_, rfl⟩
    simp [execOp, resolve, invoke, builtin, Builtin.max_, Builtin.max2, h1, h2]
    try split <;> simp_all

theorem Minimal_spec (rules : List GRule) (facts : List GFact) : Fun1 Tryz.prog 4 [tSl rRule rules, tSl rFact facts] (tV (.bool true)) := by
  refine Spec.enter Tryz.func4 rfl rfl fun h0 w0 fr0 => ?_
  refine J_seq ?_
  refine J_region ?_
  refine JL_step rfl rfl rfl (step_assign Sub.rfl) ?_
  refine JL_nil ?_
  refine J_seq ?_
  refine J_region ?_
  refine JL_step rfl rfl rfl (step_call0 (head_spec) trivial Tryz.call10) ?_
  refine JL_step rfl rfl rfl (step_assign Sub.rfl) ?_
  refine JL_nil ?_
  refine J_seq ?_
  refine J_seq ?_
  refine J_region ?_
  refine JL_step rfl rfl rfl (step_move Sub.rfl) ?_
  refine JL_step rfl rfl rfl (step_move Sub.rfl) ?_
  refine JL_step rfl rfl rfl (step_call0 (Few_spec _ _ _ (by omega)) ⟨Sub.rfl, Sub.rfl, Sub.rfl, trivial⟩ Tryz.call11) ?_
  refine JL_step rfl rfl rfl (step_not Sub.rfl) ?_
  refine JL_nil ?_
  refine J_cond Sub.rfl (fun h15 => ?_) (fun h15 => ?_)
  · try simp only [decide_eq_true_eq, decide_eq_false_iff_not, Bool.and_eq_true, Bool.or_eq_true, Bool.and_eq_false_iff, Bool.or_eq_false_iff, Bool.not_eq_true', Bool.not_eq_false', Int.not_lt, Int.not_le, Bool.not_true, Bool.not_false] at h15
    refine J_seq ?_
    refine J_region ?_
    refine JL_step rfl rfl rfl (step_move Sub.rfl) ?_
    refine JL_step rfl rfl rfl (step_assign Sub.rfl) ?_
    refine JL_nil ?_
    refine J_ret ?_
    refine K_retv (rv := .tmp 4) rfl () (.tmp Sub.rfl) (Sub.bool ?_)
    rfl
  · try simp only [decide_eq_true_eq, decide_eq_false_iff_not, Bool.and_eq_true, Bool.or_eq_true, Bool.and_eq_false_iff, Bool.or_eq_false_iff, Bool.not_eq_true', Bool.not_eq_false', Int.not_lt, Int.not_le, Bool.not_true, Bool.not_false] at h15
    have HP := FewP.of h15
    have H := VHyp.few HP
    have hfl := HP.fl
    have hrl := HP.rl
    have hv3 : ∀ i, i < (vioM rules facts).length → (nth (vioM rules facts) i).length ≤ 3 := fun i hi => vio_len3 H _ (nth_mem hi)
    refine J_skip ?_
    refine J_seq ?_
    refine J_region ?_
    refine JL_step rfl rfl rfl (step_move Sub.rfl) ?_
    refine JL_step rfl rfl rfl (step_move Sub.rfl) ?_
    refine JL_step rfl rfl rfl (step_call0 (Viol_spec H) ⟨Sub.rfl, Sub.rfl, trivial⟩ Tryz.call15) ?_
    refine JL_step rfl rfl rfl (step_move Sub.rfl) ?_
    refine JL_step rfl rfl rfl (step_extract Sub.rfl rfl) ?_
    refine JL_step rfl rfl rfl (step_extract Sub.rfl rfl) ?_
    refine JL_step rfl rfl rfl (step_assign Sub.rfl) ?_
    refine JL_step rfl rfl rfl (step_assign Sub.rfl) ?_
    refine JL_nil ?_
    refine J_seq ?_
    refine J_seq ?_
    refine J_region ?_
    refine JL_step rfl rfl rfl (step_assign Sub.rfl) ?_
    refine JL_nil ?_
    refine J_block ?_
    refine J_loopL (σ := Nat) (fun i => i ≤ (vioM rules facts).length) (fun i => upd (upd (upd (upd (upd (upd env0 0 (tSl rRule rules)) 1 (tSl rFact facts)) 5 (tV (.bool true))) 6 (tSlE 24 rI2 (vioM rules facts))) 7 (tV (.int .i64 0))) 8 (tV (.int .i64 i))) (fun i => []) (fun i => (vioM rules facts).length - i) 0 (by omega) (SubE.upd Sub.rfl (SubE.upd Sub.rfl (SubE.upd Sub.rfl (SubE.upd Sub.rfl (SubE.upd Sub.rfl (SubE.upd Sub.rfl SubE.any)))))) (LSub.rfl) ?_
    rintro i hi
    refine J_seq ?_
    refine J_seq ?_
    refine J_region ?_
    refine JL_step rfl rfl rfl (step_move Sub.rfl) ?_
    refine JL_step rfl rfl rfl (step_move Sub.rfl) ?_
    refine JL_step rfl rfl rfl (step_len_sl Tryz.underlying33 Sub.ofE) ?_
    refine JL_step rfl rfl rfl (step_lss Sub.rfl Sub.rfl) ?_
    refine JL_nil ?_
    refine J_cond Sub.rfl (fun h26 => ?_) (fun h26 => ?_)
    · try simp only [decide_eq_true_eq, decide_eq_false_iff_not, Bool.and_eq_true, Bool.or_eq_true, Bool.and_eq_false_iff, Bool.or_eq_false_iff, Bool.not_eq_true', Bool.not_eq_false', Int.not_lt, Int.not_le, Bool.not_true, Bool.not_false] at h26
      have hlt : i < (vioM rules facts).length := by omega
      have hm := nth_mem hlt
      have hvl := vio_len H
      have hpos := List.length_pos_iff.2 (vio_w H hm).2.1
      have hvi := hv3 i hlt
      refine J_skip ?_
      refine J_seq ?_
      refine J_block ?_
      refine J_seq ?_
      refine J_seq ?_
      refine J_draw [⟨0, [6], true⟩, ⟨1, [8], true⟩, ⟨2, [29, 30], true⟩, ⟨3, [31], true⟩, ⟨4, [32], true⟩, ⟨5, [33], true⟩, ⟨6, [34], true⟩, ⟨7, [6, 35], true⟩, ⟨8, [8, 35], true⟩, ⟨9, [35, 36, 37], true⟩, ⟨10, [35, 38], true⟩, ⟨11, [35, 39], true⟩, ⟨12, [35, 40], true⟩, ⟨13, [35, 41], true⟩, ⟨14, [42], true⟩, ⟨15, [0, 43], true⟩, ⟨16, [1, 43], true⟩, ⟨17, [6, 43], true⟩, ⟨18, [8, 43], true⟩, ⟨19, [43, 46, 47], true⟩, ⟨20, [43, 48], true⟩, ⟨21, [43, 44, 45, 49], true⟩, ⟨22, [43, 50], true⟩, ⟨23, [51], true⟩, ⟨24, [8, 52], true⟩, ⟨25, [52, 53], true⟩, ⟨26, [52, 54], true⟩, ⟨27, [6, 55], true⟩, ⟨28, [8, 55], true⟩, ⟨29, [55, 57], true⟩, ⟨30, [55, 58], true⟩, ⟨31, [55, 56, 59], true⟩, ⟨32, [55, 60], true⟩, ⟨33, [6, 55], true⟩, ⟨34, [8, 55], true⟩, ⟨35, [55, 62, 63], true⟩, ⟨36, [55, 64], true⟩, ⟨37, [55, 61, 65], true⟩, ⟨38, [55, 66], true⟩, ⟨39, [52, 55, 67], true⟩, ⟨40, [52, 68], true⟩] rfl (by kernel_rfl) ?_
      refine JM_step rfl rfl rfl rfl (fun _ => step_move Sub.rfl) ?_
      refine JM_step rfl rfl rfl rfl (fun _ => step_move Sub.rfl) ?_
      refine JM_step rfl rfl rfl rfl (fun _ => step_indexAddr_sl  Tryz.underlying33 ty24E Sub.ofE Sub.rfl rfl (gb ?sg1)) ?_
      case sg1 => first | assumption | omega
      refine JM_step rfl rfl rfl rfl (fun _ => step_load_ptr ty24E Sub.rfl) ?_
      refine JM_step rfl rfl rfl rfl (fun _ => step_len_sl Tryz.underlying24 Sub.ofE) ?_
      refine JM_step rfl rfl rfl rfl (fun _ => step_lss Sub.rfl Sub.rfl) ?_
      refine JM_step rfl rfl rfl rfl (fun _ => step_move Sub.rfl) ?_
      refine JM_stepG rfl rfl rfl rfl (Gd.plain Sub.rfl) rfl rfl (fun hw _ => step_move Sub.rfl) ?_
      refine JM_stepG rfl rfl rfl rfl (Gd.plain Sub.rfl) rfl rfl (fun hw _ => step_move Sub.rfl) ?_
      refine JM_stepG rfl rfl rfl rfl (Gd.plain Sub.rfl) rfl rfl (fun hw _ => step_indexAddr_sl (i := i) Tryz.underlying33 ty24E (Sub.trans (Sub.w hw) Sub.ofE) (Sub.w hw) rfl (gb hlt)) ?_
      refine JM_stepG rfl rfl rfl rfl (Gd.plain Sub.rfl) rfl rfl (fun hw _ => step_load_ptr ty24E (Sub.w hw)) ?_
      refine JM_stepG rfl rfl rfl rfl (Gd.plain Sub.rfl) rfl rfl (fun hw _ => step_len_sl Tryz.underlying24 (Sub.trans (Sub.w hw) Sub.ofE)) ?_
      refine JM_stepG rfl rfl rfl rfl (Gd.plain Sub.rfl) rfl rfl (fun hw _ => step_gtr (Sub.w hw) Sub.rfl) ?_
      refine JM_step rfl rfl rfl rfl (fun _ => step_pick_or Sub.rfl Sub.rfl) ?_
      refine JM_step rfl rfl rfl rfl (fun _ => step_move Sub.rfl) ?_
      refine JM_stepG rfl rfl rfl rfl (Gd.plain Sub.rfl) rfl rfl (fun hw _ => step_move Sub.rfl) ?_
      refine JM_stepG rfl rfl rfl rfl (Gd.plain Sub.rfl) rfl rfl (fun hw _ => step_move Sub.rfl) ?_
      refine JM_stepG rfl rfl rfl rfl (Gd.plain Sub.rfl) rfl rfl (fun hw _ => step_move Sub.rfl) ?_
      refine JM_stepG rfl rfl rfl rfl (Gd.plain Sub.rfl) rfl rfl (fun hw _ => step_move Sub.rfl) ?_
      refine JM_stepG rfl rfl rfl rfl (Gd.plain Sub.rfl) rfl rfl (fun hw _ => step_indexAddr_sl (i := i) Tryz.underlying33 ty24E (Sub.trans (Sub.w hw) Sub.ofE) (Sub.w hw) rfl (gb hlt)) ?_
      refine JM_stepG rfl rfl rfl rfl (Gd.plain Sub.rfl) rfl rfl (fun hw _ => step_load_ptr ty24E (Sub.w hw)) ?_
      refine JM_stepG rfl rfl rfl rfl (Gd.plain Sub.rfl) rfl rfl (fun hw _ => step_call0 (Consistent_spec _ _ _ (by omega) (by omega) H.ru) ⟨Sub.w hw, Sub.w hw, (Sub.trans (Sub.w hw) Sub.ofE), trivial⟩ Tryz.call24) ?_
      refine JM_step rfl rfl rfl rfl (fun _ => step_pick_or Sub.rfl Sub.rfl) ?_
      refine JM_step rfl rfl rfl rfl (fun _ => step_move Sub.rfl) ?_
      refine JM_stepG rfl rfl rfl rfl (Gd.plain Sub.rfl) rfl rfl (fun hw _ => step_move Sub.rfl) ?_
      refine JM_stepG rfl rfl rfl rfl (Gd.plain Sub.rfl) rfl rfl (fun hw _ => step_gtr (Sub.w hw) Sub.rfl) ?_
      refine JM_stepG rfl rfl rfl rfl (Gd.plain Sub.rfl) rfl rfl (fun hw _ => step_move (Sub.w hw)) ?_
      refine JM_stepG rfl rfl rfl rfl (Gd.nest Sub.rfl) rfl rfl (fun hw _ => step_move Sub.rfl) ?_
      refine JM_stepG rfl rfl rfl rfl (Gd.nest Sub.rfl) rfl rfl (fun hw _ => step_move Sub.rfl) ?_
      refine JM_stepG rfl rfl rfl rfl (Gd.nest Sub.rfl) rfl rfl (fun hw _ => step_sub (Sub.w hw) Sub.rfl ?sg1) ?_
      case sg1 => have hwq := hw; (try simp only [beqB_t, beqB_f, decide_eq_true_eq, decide_eq_false_iff_not, Bool.and_eq_true, Bool.or_eq_true, Bool.and_eq_false_iff, Bool.or_eq_false_iff, Bool.not_eq_true', Bool.not_eq_false', Int.not_lt, Int.not_le, Bool.not_true, Bool.not_false] at hwq); unfold in64; omega
      refine JM_stepG rfl rfl rfl rfl (Gd.nest Sub.rfl) rfl rfl (fun hw _ => step_max (Sub.w hw) Sub.rfl) ?_
      refine JM_stepG rfl rfl rfl rfl (Gd.nest Sub.rfl) rfl rfl (fun hw _ => step_indexAddr_sl (i := i - 1) Tryz.underlying33 ty24E (Sub.trans (Sub.w hw) Sub.ofE) (Sub.w hw) (by have hq := hw; simp only [beqB_t, beqB_f, Bool.and_eq_true, decide_eq_true_eq] at hq; exact max0 (by omega)) (gb (show i - 1 < _ by omega))) ?_
      refine JM_stepG rfl rfl rfl rfl (Gd.nest Sub.rfl) rfl rfl (fun hw _ => step_load_ptr ty24E (Sub.w hw)) ?_
      refine JM_stepG rfl rfl rfl rfl (Gd.nest Sub.rfl) rfl rfl (fun hw _ => step_move Sub.rfl) ?_
      refine JM_stepG rfl rfl rfl rfl (Gd.nest Sub.rfl) rfl rfl (fun hw _ => step_move Sub.rfl) ?_
      refine JM_stepG rfl rfl rfl rfl (Gd.nest Sub.rfl) rfl rfl (fun hw _ => step_indexAddr_sl (i := i) Tryz.underlying33 ty24E (Sub.trans (Sub.w hw) Sub.ofE) (Sub.w hw) rfl (gb hlt)) ?_
      refine JM_stepG rfl rfl rfl rfl (Gd.nest Sub.rfl) rfl rfl (fun hw _ => step_load_ptr ty24E (Sub.w hw)) ?_
      refine JM_stepG rfl rfl rfl rfl (Gd.nest Sub.rfl) rfl rfl (fun hw _ => step_call0 (Less_spec _ _ (by have := hv3 (i - 1) (by omega); omega) (by have := hv3 i hlt; omega)) ⟨(Sub.trans (Sub.w hw) Sub.ofE), (Sub.trans (Sub.w hw) Sub.ofE), trivial⟩ Tryz.call26) ?_
      refine JM_stepG rfl rfl rfl rfl (Gd.nest Sub.rfl) rfl rfl (fun hw _ => step_not (Sub.w hw)) ?_
      refine JM_stepG rfl rfl rfl rfl (Gd.plain Sub.rfl) rfl rfl (fun hw _ => step_pick_and (Sub.w hw) (Sub.ww hw)) ?_
      refine JM_step rfl rfl rfl rfl (fun _ => step_pick_or Sub.rfl Sub.rfl) ?_
      refine JM_nil ?_
      refine J_cond Sub.rfl (fun h69 => ?_) (fun h69 => ?_)
      · try simp only [decide_eq_true_eq, decide_eq_false_iff_not, Bool.and_eq_true, Bool.or_eq_true, Bool.and_eq_false_iff, Bool.or_eq_false_iff, Bool.not_eq_true', Bool.not_eq_false', Int.not_lt, Int.not_le, Bool.not_true, Bool.not_false] at h69
        exfalso; have hlo := min_ok H hlt; simp only [Bool.or_eq_false_iff, Bool.and_eq_false_iff, decide_eq_false_iff_not, Bool.not_eq_false', decide_eq_true_eq] at hlo; first | (simp_all; done) | (simp_all; omega)
      · try simp only [decide_eq_true_eq, decide_eq_false_iff_not, Bool.and_eq_true, Bool.or_eq_true, Bool.and_eq_false_iff, Bool.or_eq_false_iff, Bool.not_eq_true', Bool.not_eq_false', Int.not_lt, Int.not_le, Bool.not_true, Bool.not_false] at h69
        refine J_skip ?_
        refine J_seq ?_
        refine J_region ?_
        refine JL_step rfl rfl rfl (step_assign Sub.rfl) ?_
        refine JL_nil ?_
        refine J_block ?_
        refine J_loopL (σ := Nat) (fun k => k ≤ (nth (vioM rules facts) i).length) (fun k => upd (upd (upd (upd (upd (upd (upd (upd (upd (upd (upd (upd env0 0 (tSl rRule rules)) 1 (tSl rFact facts)) 5 (tV (.bool true))) 6 (tSlE 24 rI2 (vioM rules facts))) 7 (tV (.int .i64 0))) 8 (tV (.int .i64 i))) 9 (tV (.int .i64 k))) 23 (tV (.int .i64 i))) 24 (tSlE 24 rI2 (vioM rules facts))) 29 (tSlE 24 rI2 (vioM rules facts))) 30 (tV (.int .i64 i))) 32 (tSlE 3 rInt (nth (vioM rules facts) i))) (fun k => []) (fun k => (nth (vioM rules facts) i).length - k) 0 (by omega) (SubE.upd Sub.rfl (SubE.upd Sub.rfl (SubE.upd Sub.rfl (SubE.upd Sub.rfl (SubE.upd Sub.rfl (SubE.upd Sub.rfl (SubE.upd Sub.rfl (SubE.upd Sub.rfl (SubE.upd Sub.rfl (SubE.upd Sub.rfl (SubE.upd Sub.rfl (SubE.upd Sub.rfl SubE.any)))))))))))) (LSub.rfl) ?_
        rintro k hk
        refine J_seq ?_
        refine J_seq ?_
        refine J_region ?_
        refine JL_step rfl rfl rfl (step_move Sub.rfl) ?_
        refine JL_step rfl rfl rfl (step_move Sub.rfl) ?_
        refine JL_step rfl rfl rfl (step_move Sub.rfl) ?_
        refine JL_step rfl rfl rfl (step_indexAddr_sl  Tryz.underlying33 ty24E Sub.ofE Sub.rfl rfl (gb ?sg1)) ?_
        case sg1 => first | assumption | omega
        refine JL_step rfl rfl rfl (step_load_ptr ty24E Sub.rfl) ?_
        refine JL_step rfl rfl rfl (step_len_sl Tryz.underlying24 Sub.ofE) ?_
        refine JL_step rfl rfl rfl (step_lss Sub.rfl Sub.rfl) ?_
        refine JL_nil ?_
        refine J_cond Sub.rfl (fun h76 => ?_) (fun h76 => ?_)
        · try simp only [decide_eq_true_eq, decide_eq_false_iff_not, Bool.and_eq_true, Bool.or_eq_true, Bool.and_eq_false_iff, Bool.or_eq_false_iff, Bool.not_eq_true', Bool.not_eq_false', Int.not_lt, Int.not_le, Bool.not_true, Bool.not_false] at h76
          have hlk : k < (nth (vioM rules facts) i).length := by omega
          refine J_skip ?_
          refine J_seq ?_
          refine J_block ?_
          refine J_seq ?_
          refine J_draw [⟨1, [6], true⟩, ⟨2, [8], true⟩, ⟨3, [80, 81], true⟩, ⟨4, [82], true⟩, ⟨5, [9], true⟩, ⟨6, [83, 84], true⟩, ⟨8, [6], true⟩, ⟨9, [8], true⟩, ⟨10, [87, 88], true⟩, ⟨11, [89], true⟩, ⟨12, [9], true⟩, ⟨13, [91], true⟩, ⟨14, [90, 92], true⟩, ⟨0, [], false⟩, ⟨7, [79, 85], false⟩, ⟨15, [86, 93], false⟩, ⟨16, [94], true⟩] rfl (by kernel_rfl) ?_
          refine JM_step rfl rfl rfl rfl (fun _ => step_move Sub.rfl) ?_
          refine JM_step rfl rfl rfl rfl (fun _ => step_move Sub.rfl) ?_
          refine JM_step rfl rfl rfl rfl (fun _ => step_indexAddr_sl  Tryz.underlying33 ty24E Sub.ofE Sub.rfl rfl (gb ?sg1)) ?_
          case sg1 => first | assumption | omega
          refine JM_step rfl rfl rfl rfl (fun _ => step_load_ptr ty24E Sub.rfl) ?_
          refine JM_step rfl rfl rfl rfl (fun _ => step_move Sub.rfl) ?_
          refine JM_step rfl rfl rfl rfl (fun _ => step_slice_toE (n := k) Tryz.underlying24 ty3 Sub.rfl Sub.rfl rfl (by omega) (by omega)) ?_
          refine JM_step rfl rfl rfl rfl (fun _ => step_move Sub.rfl) ?_
          refine JM_step rfl rfl rfl rfl (fun _ => step_move Sub.rfl) ?_
          refine JM_step rfl rfl rfl rfl (fun _ => step_indexAddr_sl  Tryz.underlying33 ty24E Sub.ofE Sub.rfl rfl (gb ?sg1)) ?_
          case sg1 => first | assumption | omega
          refine JM_step rfl rfl rfl rfl (fun _ => step_load_ptr ty24E Sub.rfl) ?_
          refine JM_step rfl rfl rfl rfl (fun _ => step_move Sub.rfl) ?_
          refine JM_step rfl rfl rfl rfl (fun _ => step_add Sub.rfl Sub.rfl ?sg1) ?_
          case sg1 => unfold in64; omega
          refine JM_step rfl rfl rfl rfl (fun _ => step_slice_fromE (n := k + 1) Tryz.underlying24 ty3 Sub.rfl Sub.rfl (by omega) (by omega) (by omega)) ?_
          refine JM_stepX rfl rfl rfl rfl (step_literal_own (ys := []) Tryz.underlying24 el3 trivial rfl (by decide)) fun v79 => ?_
          refine JM_stepX rfl rfl rfl rfl (step_append Tryz.underlying24 el3 Sub.rfl Sub.rfl (by first | exact Sel.take (Sel.none _) | exact Sel.skip (Sel.take (Sel.none _)) | exact Sel.skip (Sel.skip (Sel.take (Sel.none _))) | exact Sel.skip (Sel.skip (Sel.skip (Sel.take (Sel.none _)))) | exact Sel.skip (Sel.skip (Sel.skip (Sel.skip (Sel.take (Sel.none _)))))) (by have := hv3 i hlt; simp; omega) (by have := hv3 i hlt; simp; omega)) fun v86 => ?_
          refine JM_stepX rfl rfl rfl rfl (step_append Tryz.underlying24 el3 Sub.rfl Sub.rfl (by first | exact Sel.take (Sel.none _) | exact Sel.skip (Sel.take (Sel.none _)) | exact Sel.skip (Sel.skip (Sel.take (Sel.none _))) | exact Sel.skip (Sel.skip (Sel.skip (Sel.take (Sel.none _)))) | exact Sel.skip (Sel.skip (Sel.skip (Sel.skip (Sel.take (Sel.none _)))))) (by have := hv3 i hlt; simp; omega) (by have := hv3 i hlt; simp; omega)) fun v94 => ?_
          refine JM_step rfl rfl rfl rfl (fun _ => step_assign Sub.rfl) ?_
          refine JM_nil ?_
          refine J_seq ?_
          refine J_region ?_
          refine JL_step rfl rfl rfl (step_move Sub.rfl) ?_
          refine JL_step rfl rfl rfl (step_move Sub.rfl) ?_
          refine JL_step rfl rfl rfl (step_move Sub.rfl) ?_
          refine JL_step rfl rfl rfl (step_call_look (Sel.take (Sel.none _)) (Consistent_spec _ _ _ (by have := hv3 i hlt; simp; omega) (by omega) H.ru) (fun _ => Flat.v _) ⟨(Frz.sub Sub.rfl), (Frz.sub Sub.rfl), (Frz.own), trivial⟩ Tryz.call24) ?_
          refine JL_step rfl rfl rfl (step_not Sub.rfl) ?_
          refine JL_nil ?_
          refine J_cond Sub.rfl (fun h99 => ?_) (fun h99 => ?_)
          · try simp only [decide_eq_true_eq, decide_eq_false_iff_not, Bool.and_eq_true, Bool.or_eq_true, Bool.and_eq_false_iff, Bool.or_eq_false_iff, Bool.not_eq_true', Bool.not_eq_false', Int.not_lt, Int.not_le, Bool.not_true, Bool.not_false] at h99
            exfalso; rw [List.nil_append, vio_rest H hm hlk] at h99; cases h99
          · try simp only [decide_eq_true_eq, decide_eq_false_iff_not, Bool.and_eq_true, Bool.or_eq_true, Bool.and_eq_false_iff, Bool.or_eq_false_iff, Bool.not_eq_true', Bool.not_eq_false', Int.not_lt, Int.not_le, Bool.not_true, Bool.not_false] at h99
            refine J_skip ?_
            refine J_region ?_
            refine JL_step rfl rfl rfl (step_move Sub.rfl) ?_
            refine JL_step rfl rfl rfl (step_add Sub.rfl Sub.rfl ?sg1) ?_
            case sg1 => unfold in64; omega
            refine JL_step rfl rfl rfl (step_assign Sub.rfl) ?_
            refine JL_nil ?_
            refine K_drop (Sel.all _) ?_
            refine K_againL (σ := Nat) (s := k) (k + 1) (by first | omega | (dsimp only; omega) | (simp_all; omega)) (by omega) (SubE.upd Sub.rfl (SubE.upd Sub.rfl (SubE.upd Sub.rfl (SubE.upd Sub.rfl (SubE.upd Sub.rfl (SubE.upd Sub.rfl (SubE.upd Sub.rfl (SubE.upd Sub.rfl (SubE.upd Sub.rfl (SubE.upd Sub.rfl (SubE.upd Sub.rfl (SubE.upd Sub.rfl SubE.any)))))))))))) (LSub.rfl)
        · try simp only [decide_eq_true_eq, decide_eq_false_iff_not, Bool.and_eq_true, Bool.or_eq_true, Bool.and_eq_false_iff, Bool.or_eq_false_iff, Bool.not_eq_true', Bool.not_eq_false', Int.not_lt, Int.not_le, Bool.not_true, Bool.not_false] at h76
          refine J_exit ?_
          refine J_region ?_
          refine JL_step rfl rfl rfl (step_move Sub.rfl) ?_
          refine JL_step rfl rfl rfl (step_add Sub.rfl Sub.rfl ?sg1) ?_
          case sg1 => unfold in64; omega
          refine JL_step rfl rfl rfl (step_assign Sub.rfl) ?_
          refine JL_nil ?_
          refine K_againL (σ := Nat) (s := i) (i + 1) (by first | omega | (dsimp only; omega) | (simp_all; omega)) (by omega) (SubE.upd Sub.rfl (SubE.upd Sub.rfl (SubE.upd Sub.rfl (SubE.upd Sub.rfl (SubE.upd Sub.rfl (SubE.upd Sub.rfl SubE.any)))))) (LSub.rfl)
    · try simp only [decide_eq_true_eq, decide_eq_false_iff_not, Bool.and_eq_true, Bool.or_eq_true, Bool.and_eq_false_iff, Bool.or_eq_false_iff, Bool.not_eq_true', Bool.not_eq_false', Int.not_lt, Int.not_le, Bool.not_true, Bool.not_false] at h26
      refine J_exit ?_
      refine J_seq ?_
      refine J_region ?_
      refine JL_step rfl rfl rfl (step_move Sub.rfl) ?_
      refine JL_step rfl rfl rfl (step_move Sub.rfl) ?_
      refine JL_stepG rfl rfl rfl (Gd.plain Sub.rfl) rfl rfl (fun hw => step_move Sub.rfl) ?_
      refine JL_stepG rfl rfl rfl (Gd.plain Sub.rfl) rfl rfl (fun hw => step_eql (Sub.w hw) Sub.rfl) ?_
      refine JL_step rfl rfl rfl (step_pick_and Sub.rfl Sub.rfl) ?_
      refine JL_step rfl rfl rfl (step_assign Sub.rfl) ?_
      refine JL_nil ?_
      refine J_ret ?_
      refine K_retv (rv := .tmp 4) rfl () (.tmp Sub.rfl) (Sub.bool ?_)
      rfl
end Lg

/- DenialMinimal: the card. -/
namespace Go.Proofs.YticgfcbcaalioaaGreatDoor.denialMinimal
open Go.ChangeShapes Go.WideShapes Go.ChangeAt Go.RowKit
set_option maxRecDepth 100000 in
theorem contract (H : Type) (enc : TypeId × Value → H) (W : World) (base : Nat) (args : Array Value) (ds gs : List (DataW H)) (before : List MemPlace)
    (hval : ∀ (j : Nat) t v, Tryz.f4.params[j]? = some t → args[j]? = some v → Value.okWide Tryz.prog W .any base t v)
    (hW : DataW.Whole enc Tryz.prog Tryz.f4.params.toList Rows.denialMinimalSpec.vars false W args.toList ds gs before) :
    Calls Tryz.prog 4 args W fun e W' => ∃ v, e = .returned v ∧ Rows.denialMinimalSpec.post enc Tryz.prog Tryz.f4 false true false false W args v W' := by
  have hW' := hW
  obtain ⟨p, q, hA0, hV, rfl, hfz, hnd⟩ := hW
  have hA : DataW.TrodAll enc Tryz.prog W 0 (fun _ => true) true Tryz.f4.params.toList args.toList ds p := hA0
  rw [Tryz.params4] at hA hval
  obtain ⟨v0, v1, d0, d1, p0, p1, rfl, rfl, rfl, h0, h1⟩ := trodAll_two hA
  obtain ⟨rfl, rfl⟩ := trodVars_none hV
  obtain ⟨rules, a0⟩ := Lg.arg_sl Tryz.underlying22 Lg.rd22 (hval 0 22 v0 rfl rfl) h0
  obtain ⟨facts, a1⟩ := Lg.arg_sl Tryz.underlying23 Lg.rd23 (hval 1 23 v1 rfl rfl) h1
  refine (Lg.run_true (Lg.Minimal_spec rules facts) (vs := [v0, v1]) ⟨a0, a1, trivial⟩).mono fun e W' ⟨he, hb⟩ => ?_
  subst he
  have e1 : Rows.denialMinimalSpec.fn H ([d0, d1] ++ []) = { results := [.lit (.bool true)], args := [d0, d1] } := by simp [Rows.denialMinimalSpec]
  refine ⟨_, rfl, _, _, _, [], p0 ++ p1, [], hW', ?_, ?_, ?_, hb.frame _, fun h => by cases h⟩
  · rw [e1]; exact trodAll_mk1 (shut_bool Tryz.underlying4 true)
  · rw [e1, Tryz.params4]
    exact trodAll_mk2 (hb.trod laidOut rec22 size22 h0 fun x hx => hW'.lt x (by simp [hx])) (hb.trod laidOut rec23 size23 h1 fun x hx => hW'.lt x (by simp [hx]))
  · rw [e1]; rfl
noncomputable abbrev args0 : Array Value := #[.slice none 0 0, .slice none 0 0]
theorem reads (os : Os) {H : Type} (enc : TypeId × Value → H) : ∃ places, DataW.whole enc Tryz.prog ((laidWorld os).forCall (fun _ _ => 0) ⟨#[], args0, []⟩).memory Tryz.f4.params.toList Rows.denialMinimalSpec.vars false args0.toList 8 = some ([.nil, .nil], [], places) :=
  ⟨[], by kernel_rfl⟩
theorem laid_met (os : Os) : laidMet Tryz.prog Rows.denialMinimalRow.laid ((laidWorld os).forCall (fun _ _ => 0) ⟨#[], args0, []⟩).memory :=
  laidMet_laidAll (laid := laidL) args0 (by kernel_rfl) (by kernel_rfl)
set_option maxRecDepth 100000 in
theorem lifted (os : Os) (started : os.Started) (H : Type) (enc : TypeId × Value → H) (F : Stop.Interp) :
    ReturnsInHanded {} Tryz.checked os 4 .any ((OpenSpec.ofChange Rows.denialMinimalSpec).preRow enc Tryz.prog Tryz.f4 Rows.denialMinimalRow.domain false Rows.denialMinimalRow.laid) (((OpenSpec.ofChange Rows.denialMinimalSpec).at F).post enc Tryz.prog Tryz.f4 false true false false) := by
  obtain ⟨places, hx⟩ := reads os enc
  refine returnsInHanded_of_row (C := Tryz.checked) (s := OpenSpec.ofChange Rows.denialMinimalSpec) own started (by kernel_rfl) Tryz.func4
    (witness_row_at (enc := enc) (C := Tryz.checked) false (laidWorld os) args0 (World.laidAll_os _ _ _) (by kernel_rfl) (by kernel_rfl) (by kernel_rfl)
      (OpenSpec.preRow_of_cond 8 hx (by kernel_rfl) (fun k hk => by cases hk) (by kernel_rfl) (laid_met os))) ?_
  intro W base args ds gs before hval hW _ _ _ hL _ _
  exact contract H enc W base args ds gs before hval hW
theorem said : Rows.DenialMinimalSaid :=
  OpenClaim.holds_of_cond 4 Tryz.f4 rfl rfl rfl rfl rfl rfl rfl ⟨rfl, rfl, rfl, rfl, rfl⟩ rfl rfl rfl rfl rfl (by kernel_rfl) Tryz.func4 (by kernel_rfl)
    (of_decide_eq_true (by kernel_rfl)) (by unfold Func.isWrapper; first | (rw [if_pos (by decide +kernel)]; kernel_rfl) | (rw [if_neg (by decide +kernel)]; exact ⟨rfl, rfl⟩))
    (fun os started H enc _ F => by rw [OpenClaim.pre_eq_preRow]; exact lifted os started H enc F)
theorem plain (f : FuncId) (fn : Func) (hf : Tryz.pinned.checked.prog.funcNamed "cleanse/cleanselaw25.DenialMinimal" = some f) (hfn : Tryz.pinned.checked.prog.funcs[f]? = some fn) :
    false = Tryz.pinned.checked.prog.looks [] ∧ ∀ (j : Nat) t, fn.params[j]? = some t → Tryz.pinned.checked.prog.wantsStandIn t = false := by
  obtain rfl : f = 4 := Option.some.inj ((show Tryz.prog.funcNamed "cleanse/cleanselaw25.DenialMinimal" = some 4 by kernel_rfl).symm.trans hf) |>.symm
  obtain rfl : fn = Tryz.f4 := (Option.some.inj (Tryz.func4.symm.trans hfn)).symm
  refine ⟨noLooks, fun j t ht => ?_⟩
  rw [Tryz.params4] at ht
  have hm : t ∈ #[22, 23] := Array.mem_of_getElem? ht
  simp only [List.mem_toArray, List.mem_cons, List.not_mem_nil, or_false] at hm
  rcases hm with rfl | rfl
  · exact want22
  · exact want23
theorem card : Rows.DenialMinimalCardSaid :=
  Claim7.holds_tied_plain_at .later [] _ _ _ _ said (fun _ h => by cases h) (by kernel_rfl) (fun _ h => by cases h) denialMinimal_row_tie rfl ⟨rfl, rfl⟩ (by kernel_rfl) rfl plain (by kernel_rfl)
end Go.Proofs.YticgfcbcaalioaaGreatDoor.denialMinimal
