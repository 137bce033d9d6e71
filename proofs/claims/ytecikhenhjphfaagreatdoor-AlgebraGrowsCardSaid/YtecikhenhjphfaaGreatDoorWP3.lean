/- The walk and the plain law of AlgebraGrows. -/
import Derived.Test.YtecikhenhjphfaaGreatDoorF
set_option linter.unusedVariables false
set_option linter.unusedSimpArgs false
set_option linter.unusedSectionVars false
namespace Lg
open Go Go.Proofs Go.Proofs.Tryz
theorem evR_nth {s : GSchema} (n : Nat) {p : GPlan} (hp : PlSz n p) {ts : List (List LV)} (hl : ∀ t ∈ ts, t.length ≤ 4000) (h : evOk s n p ts = true) : evR s n p ts = evV ts n p ∧ (∀ r ∈ evV ts n p, r.length ≤ 4398046511104) ∧ (evV ts n p).length ≤ 4000 := by
  refine ⟨by rw [evR, if_pos h], ?_⟩
  have h2 := h
  unfold evOk evalOk at h2
  simp only [Bool.and_eq_true, decide_eq_true_eq] at h2
  obtain ⟨⟨⟨hv, hn⟩, ht⟩, hb⟩ := h2
  unfold vldM at hv
  simp only [Bool.and_eq_true] at hv
  have hE := ev_ok (tb_ok (by omega) ht hl) n 12 p hv.2 hb
  exact ⟨fun r hr => by have := hE.row r hr; have := evA_le hp hb; omega, hE.len⟩
set_option maxHeartbeats 8000000 in
theorem lawGrows_spec (s : GSchema) (hn : ∀ t ∈ s.Tables, ∀ x ∈ namesL t.Attrs, x.size ≤ 9223372036854775807) (n : Nat) (p : GPlan) (hpl : PlLen n p) (hd : Dep n p) (facts : List GFact) (hr : ∀ f ∈ facts, f.Row.length ≤ 4398046511104) (one two : List Int) : Fun1 prog 3 [rSchema.ty s, (rPlan n).ty p, tSl rFact facts, tSl rInt one, tSl rInt two] (tV (.bool true)) := by
 refine Spec.enter func3 rfl rfl fun h0 w0 fr0 => ?_
 refine Jr (Js rfl (step_box (R := rSchema) Sr) (Js rfl (step_box (R := (rPlan n)) Sr) (Ja rfl (JL_nil (Jr ?_)))))
 refine Js rfl (step_call0 (head33_spec ) trivial call5) (Ja rfl (JL_nil (J_seq (Jr (Jl rfl ty24 Sr ?_)))))
 refine Jl rfl ty30 Sr ?_
 refine Js rfl (step_call0 (rSmall_spec s n p hpl [] 0 (fun t ht => by cases ht)) ⟨Sr, Sr, Sub.nilsl, Sr, trivial⟩ call6) ?_
 refine Js rfl (step_not Sr) (Jm rfl ?_)
 refine Jk rfl Sr rfl (step_load_ptr ty30 Sr) ?_
 refine Jg rfl Sr rfl (fun hw => step_call0 (rcnt_spec n p hpl) ⟨(Sub.w hw), trivial⟩ call7) (Jg rfl Sr rfl (fun hw => step_gtr (Sub.w hw) Sr) (Js rfl (step_pick_or Sr Sr) (Jm rfl ?_)))
 refine Jk rfl Sr rfl (step_move Sr) ?_
 refine Jg rfl Sr rfl (fun hw => step_len_sl underlying31 (Sub.w hw)) (Jg rfl Sr rfl (fun hw => step_gtr (Sub.w hw) Sr) (Js rfl (step_pick_or Sr Sr) (Jm rfl ?_)))
 refine Jk rfl Sr rfl (step_move Sr) ?_
 refine Jg rfl Sr rfl (fun hw => step_len_sl underlying27 (Sub.w hw)) (Jg rfl Sr rfl (fun hw => step_gtr (Sub.w hw) Sr) (Js rfl (step_pick_or Sr Sr) (Jm rfl ?_)))
 refine Jk rfl Sr rfl (step_move Sr) ?_
 refine Jg rfl Sr rfl (fun hw => step_len_sl underlying27 (Sub.w hw)) (Jg rfl Sr rfl (fun hw => step_gtr (Sub.w hw) Sr) (Js rfl (step_pick_or Sr Sr) (JL_nil ?_)))
 refine J_cond Sr (fun h46 => ?_) (fun h46 => ?_)
 ·
  try simp only [NF] at h46
  refine Jr (Jm rfl (Ja rfl (JL_nil (J_ret ?_))))
  refine K_ret1 (t := 10) rfl () Sr
 try simp only [NF] at h46
 obtain ⟨⟨⟨⟨hsm, hcn⟩, hfl⟩, hol⟩, htl⟩ := h46
 have hfl : facts.length ≤ 40 := by omega
 have hol : one.length ≤ 40 := by omega
 have htl : two.length ≤ 40 := by omega
 have hsm2 := hsm
 unfold smallM at hsm2
 simp only [Bool.and_eq_true, decide_eq_true_eq] at hsm2
 obtain ⟨⟨⟨⟨hss, _⟩, hna⟩, _⟩, _⟩ := hsm2
 have hz : SchSz s := sm_sz hss hn
 have hp : PlSz n p := (nar_sz hd hna hpl).1
 have hN : s.Tables.length ≤ 1000000 := by
  have h2 := hss
  unfold smS at h2
  simp only [Bool.and_eq_true, decide_eq_true_eq] at h2
  omega
 refine J_skip (Jr ?_)
 refine Jx rfl (step_literal_own (ys := []) underlying27 el3 trivial rfl (by decide)) fun v48 => ?_
 refine Jm rfl ?_
 refine Jx rfl (step_append underlying27 el3 Sr Sr zS (by simp; omega) (by simp; omega)) fun v50 => ?_
 refine Jm rfl ?_
 refine Jx rfl (step_append underlying27 el3 Sr Sr zS (by simp; omega) (by simp; omega)) fun v52 => ?_
 refine Ja rfl (JL_nil ?_)
 refine K_freeze (t := 12) (A' := tSl rInt (one ++ two)) (Sel.take (Sel.none _)) (Frz.own' (by simp)) ?_
 refine Jr (Jl rfl ty24 Sr (Jm rfl (Jm rfl (Js rfl (step_call0 (Tables_spec s hN facts zG hr one zG) ⟨Sr, Sr, Sr, trivial⟩ call8) (Ja rfl ?_)))))
 refine JL_nil (Jr (Jl rfl ty24 Sr (Jm rfl (Jm rfl (Js rfl (step_call0 (Tables_spec s hN facts zG hr two zG) ⟨Sr, Sr, Sr, trivial⟩ call8) ?_)))))
 refine Ja rfl (JL_nil (Jr (Jl rfl ty24 Sr (Jm rfl (Jm rfl ?_)))))
 refine Js rfl (step_call0 (Tables_spec s hN facts zG hr (one ++ two) (by rw [List.length_append]; omega)) ⟨Sr, Sr, Sr, trivial⟩ call8) ?_
 refine Ja rfl (JL_nil (J_seq (Jr (Jm rfl (Js rfl (step_len_sl underlying35 Sr) ?_)))))
 refine Js rfl (step_fieldAddr so24 Sr rfl) (Jl rfl ty22 Sr (Js rfl (step_len_sl underlying22 Sr) (Js rfl (step_neq Sr Sr) (Jm rfl ?_))))
 refine Jk rfl Sr rfl (step_move Sr) ?_
 refine Jg rfl Sr rfl (fun hw => step_len_sl underlying35 (Sub.w hw)) ?_
 refine Jk rfl Sr rfl (step_move Sr) ?_
 refine Jg rfl Sr rfl (fun hw => step_len_sl underlying35 (Sub.w hw)) (Jg rfl Sr rfl (fun hw => step_neq (Sub.w hw) (Sub.w hw)) (Js rfl (step_pick_or Sr Sr) (Jm rfl ?_)))
 refine Jk rfl Sr rfl (step_move Sr) ?_
 refine Jg rfl Sr rfl (fun hw => step_len_sl underlying35 (Sub.w hw)) ?_
 refine Jk rfl Sr rfl (step_move Sr) ?_
 refine Jg rfl Sr rfl (fun hw => step_len_sl underlying35 (Sub.w hw)) (Jg rfl Sr rfl (fun hw => step_neq (Sub.w hw) (Sub.w hw)) (Js rfl (step_pick_or Sr Sr) (JL_nil ?_)))
 refine J_cond Sr (fun h84 => ?_) (fun h84 => ?_)
 ·
  try simp only [NF] at h84
  exfalso; simp [tables_len] at h84
 try simp only [NF] at h84
 refine J_skip (J_seq (Jr (Ja rfl (JL_nil (J_block ?_)))))
 refine J_loopL (σ := Nat) (fun i => i ≤ (tablesM s.Tables.length facts one).length) (fun i => upd (upd (upd (upd (upd (upd (upd env0 5 (tPtr rSchema s)) 6 (tPtr (rPlan n) p)) 11 (tV (.bool true))) 13 (tSl (rSl (rSl rValue)) (tablesM s.Tables.length facts one))) 14 (tSl (rSl (rSl rValue)) (tablesM s.Tables.length facts two))) 15 (tSl (rSl (rSl rValue)) (tablesM s.Tables.length facts (one ++ two)))) 16 (tV (.int .i64 i))) (fun i => []) (fun i => (tablesM s.Tables.length facts one).length - i) 0 (Nat.zero_le _) (zU) (LSub.rfl) ?_
 rintro i hil
 refine J_seq (Jr (Jm rfl (Jm rfl (Js rfl (step_len_sl underlying35 Sr) (Js rfl (step_lss Sr Sr) ?_)))))
 refine JL_nil ?_
 refine J_cond Sr (fun h88 => ?_) (fun h88 => ?_)
 ·
  try simp only [NF] at h88
  have hlt : i < (tablesM s.Tables.length facts one).length := by omega
  have hlN : i < s.Tables.length := by rw [tables_len] at hlt; exact hlt
  have hba := tables_big _ (nth_mem hlt)
  have hbb := tables_big _ (nth_mem (show i < (tablesM s.Tables.length facts two).length by rw [tables_len]; exact hlN))
  have hrow : ∀ r ∈ (nth (tablesM s.Tables.length facts one) i ++ nth (tablesM s.Tables.length facts two) i), r.length ≤ 4398046511104 := fun r h => (List.mem_append.1 h).elim (tables_row hr _ (nth_mem hlt) r) (tables_row hr _ (nth_mem (show i < (tablesM s.Tables.length facts two).length by rw [tables_len]; exact hlN)) r)
  have hapl : (nth (tablesM s.Tables.length facts one) i ++ nth (tablesM s.Tables.length facts two) i).length ≤ 80 := by rw [List.length_append]; omega
  have hrowc : ∀ r ∈ nth (tablesM s.Tables.length facts (one ++ two)) i, r.length ≤ 4398046511104 := tables_row hr _ (nth_mem (by rw [tables_len]; exact hlN))
  refine J_skip (J_seq (J_block (J_seq ?_)))
  refine J_draw [⟨1, [13], true⟩, ⟨2, [16], true⟩, ⟨3, [92, 93], true⟩, ⟨4, [94], true⟩, ⟨6, [14], true⟩, ⟨7, [16], true⟩, ⟨8, [97, 98], true⟩, ⟨9, [99], true⟩, ⟨12, [15], true⟩, ⟨13, [16], true⟩, ⟨14, [103, 104], true⟩, ⟨15, [105], true⟩, ⟨0, [], false⟩, ⟨5, [91, 95], false⟩, ⟨10, [96, 100], false⟩, ⟨11, [101], false⟩, ⟨16, [102, 106], true⟩, ⟨17, [107], true⟩] rfl (by kernel_rfl) ?_
  refine Mv rfl rfl (Mv rfl rfl ?_)
  refine Mf rfl rfl (step_indexAddr_sl (i := i) underlying35 ty38 Sr Sr (by rfl) (gb (by exact hlt))) ?_
  refine Mf rfl rfl (step_load_ptr ty38 Sr) (Mv rfl rfl (Mv rfl rfl ?_))
  refine Mf rfl rfl (step_indexAddr_sl (i := i) underlying35 ty38 Sr Sr (by rfl) (gb (by rw [tables_len]; exact hlN))) ?_
  refine Mf rfl rfl (step_load_ptr ty38 Sr) (Mv rfl rfl (Mv rfl rfl ?_))
  refine Mf rfl rfl (step_indexAddr_sl (i := i) underlying35 ty38 Sr Sr (by rfl) (gb (by rw [tables_len]; exact hlN))) ?_
  refine Mf rfl rfl (step_load_ptr ty38 Sr) ?_
  refine JM_stepX rfl rfl rfl rfl (step_literal_own (ys := []) underlying38 el45 trivial rfl (by decide)) fun v91 => ?_
  refine JM_stepX rfl rfl rfl rfl (step_append underlying38 el45 Sr Sr zS (by simp; omega) (by simp; omega)) fun v96 => ?_
  refine JM_stepX rfl rfl rfl rfl (step_append underlying38 el45 Sr Sr zS (by simp; omega) (by simp; omega)) fun v101 => ?_
  refine JM_stepX rfl rfl rfl rfl (step_call_eat (Sel.take (Sel.none _)) (rrows_spec 1000 (nth (tablesM s.Tables.length facts one) i ++ nth (tablesM s.Tables.length facts two) i) zG zG hrow) ⟨Frz.own' (by simp), trivial⟩ call10) fun v102 => ?_
  refine Mf rfl rfl (step_call0 (SameRows_spec _ _ (by have := (rrows_ok 1000 (nth (tablesM s.Tables.length facts one) i ++ nth (tablesM s.Tables.length facts two) i) zG).2.1; omega) hrowc) ⟨Sr, Sr, trivial⟩ call9) ?_
  refine Mf rfl rfl (step_not Sr) (JM_nil ?_)
  refine J_cond Sr (fun h108 => ?_) (fun h108 => ?_)
  ·
   try simp only [NF] at h108
   exfalso; rw [tab_both hlN zG] at h108; simp at h108
  try simp only [NF] at h108
  refine J_skip (J_region (Jm rfl (Js rfl (step_add Sr Sr z6) (Ja rfl (JL_nil ?_)))))
  refine K_againL (σ := Nat) (s := i) (i + 1) zO zG (zU) (LSub.rfl)
 try simp only [NF] at h88
 refine J_exit (Jr (Jl rfl ty24 Sr (Jl rfl ty30 Sr (Jm rfl ?_))))
 refine Jx rfl (step_call (Sel.none _) (Eval_spec s hz n p hp (tablesM s.Tables.length facts one) (fun t ht => by have := tables_big t ht; (try simp only [List.length_append] at this); omega) (tables_row hr)) ⟨Sr, Sr, Sr, trivial⟩ call11) fun c113 => ?_
 refine Jm rfl (Js rfl (step_extract Sr rfl) (Js rfl (step_extract Sr rfl) (Ja rfl (Ja rfl (JL_nil ?_)))))
 refine Jr (Jl rfl ty24 Sr (Jl rfl ty30 Sr (Jm rfl ?_)))
 refine Jx rfl (step_call (Sel.none _) (Eval_spec s hz n p hp (tablesM s.Tables.length facts (one ++ two)) (fun t ht => by have := tables_big t ht; (try simp only [List.length_append] at this); omega) (tables_row hr)) ⟨Sr, Sr, Sr, trivial⟩ call11) fun c120 => ?_
 refine Jm rfl (Js rfl (step_extract Sr rfl) (Js rfl (step_extract Sr rfl) (Ja rfl (Ja rfl (JL_nil ?_)))))
 refine J_seq (Jr (Jm rfl (Js rfl (step_neq Sr Sr) (Jm rfl ?_))))
 refine Jk rfl Sr rfl (step_move Sr) ?_
 refine Jg rfl Sr rfl (fun hw => step_neq (Sub.w hw) Sr) (Js rfl (step_pick_or Sr Sr) (Jm rfl ?_))
 refine Jk rfl Sr rfl (step_load_ptr ty30 Sr) ?_
 refine Jg rfl Sr rfl (fun hw => step_call0 (mono_spec n p hp) ⟨(Sub.w hw), trivial⟩ call12) (Jg rfl Sr rfl (fun hw => step_not (Sub.w hw)) (Js rfl (step_pick_or Sr Sr) (Jm rfl ?_)))
 refine Jk rfl Sr rfl (step_move Sr) ?_
 refine Jg rfl Sr rfl (fun hw => step_len_sl underlying38 (Sub.w hw)) (Jg rfl Sr rfl (fun hw => step_gtr (Sub.w hw) Sr) (Js rfl (step_pick_or Sr Sr) (JL_nil ?_)))
 refine J_cond Sr (fun h138 => ?_) (fun h138 => ?_)
 ·
  try simp only [NF] at h138
  refine Jr (Jm rfl (Ja rfl (JL_nil (J_ret ?_))))
  refine K_ret1 (t := 10) rfl () Sr
 try simp only [NF] at h138
 obtain ⟨⟨⟨hc1, hc2⟩, hmo⟩, hyl⟩ := h138
 have ho1 : evOk s n p (tablesM s.Tables.length facts one) = true := c113.2.1.1 hc1
 have ho2 : evOk s n p (tablesM s.Tables.length facts (one ++ two)) = true := c120.2.1.1 hc2
 obtain ⟨ex, hxr, hxl⟩ := evR_nth n hp (fun t ht => by have := tables_big t ht; omega) ho1
 obtain ⟨ey, hyr, hyl2⟩ := evR_nth n hp (fun t ht => by have := tables_big t ht; (try simp only [List.length_append] at this); omega) ho2
 rw [← ex] at hxr hxl
 rw [← ey] at hyr hyl2
 have hg := grow_law (s := s) (facts := facts) (one := one) (two := two) ho1 hmo
 rw [← ex, ← ey] at hg
 refine J_skip (J_seq (Jr (Ja rfl (JL_nil (J_block ?_)))))
 refine J_loopL (σ := Nat) (fun i => i ≤ (evR s n p (tablesM s.Tables.length facts one)).length) (fun i => upd (upd (upd (upd env0 11 (tV (.bool true))) 17 (tSl (rSl rValue) (evR s n p (tablesM s.Tables.length facts one)))) 19 (tSl (rSl rValue) (evR s n p (tablesM s.Tables.length facts (one ++ two))))) 21 (tV (.int .i64 i))) (fun i => []) (fun i => (evR s n p (tablesM s.Tables.length facts one)).length - i) 0 (Nat.zero_le _) (zU) (LSub.rfl) ?_
 rintro i hil
 refine J_seq (Jr (Jm rfl (Jm rfl (Js rfl (step_len_sl underlying38 Sr) (Js rfl (step_lss Sr Sr) ?_)))))
 refine JL_nil ?_
 refine J_cond Sr (fun h143 => ?_) (fun h143 => ?_)
 ·
  try simp only [NF] at h143
  have hlt : i < (evR s n p (tablesM s.Tables.length facts one)).length := by omega
  refine J_skip (J_seq (J_block (Jr (Jm rfl (Jm rfl ?_)))))
  refine Jm rfl ?_
  refine Js rfl (step_indexAddr_sl (i := i) underlying38 ty45 Sr Sr (by rfl) (gb (by exact hlt))) ?_
  refine Jl rfl ty45 Sr (Js rfl (step_call0 (In33_spec _ _ zG (hxr _ (nth_mem hlt))) ⟨Sr, Sr, trivial⟩ call13) (Js rfl (step_not Sr) (JL_nil ?_)))
  refine J_cond Sr (fun h152 => ?_) (fun h152 => ?_)
  ·
   try simp only [NF] at h152
   exfalso; have := hg _ (nth_mem hlt); simp [this] at h152
  try simp only [NF] at h152
  refine J_skip (J_region (Jm rfl (Js rfl (step_add Sr Sr z6) (Ja rfl (JL_nil ?_)))))
  refine K_againL (σ := Nat) (s := i) (i + 1) zO zG (zU) (LSub.rfl)
 try simp only [NF] at h143
 refine J_exit (Jr (Jm rfl (Ja rfl (JL_nil (J_ret ?_)))))
 refine K_ret1 (t := 10) rfl () Sr
end Lg
