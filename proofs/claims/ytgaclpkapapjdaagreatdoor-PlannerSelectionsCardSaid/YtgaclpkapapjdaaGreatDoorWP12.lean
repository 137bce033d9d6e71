/- The walk and the plain law of PlannerSelections. -/
import Derived.Test.YtgaclpkapapjdaaGreatDoorF
set_option linter.unusedVariables false
set_option linter.unusedSimpArgs false
set_option linter.unusedSectionVars false
namespace Lg
open Go Go.Proofs Go.Proofs.Tryz
set_option maxHeartbeats 4000000 in
theorem lawParts_spec (s : GSchema) (hn : ∀ t ∈ s.Tables, ∀ x ∈ namesL t.Attrs, x.size ≤ 9223372036854775807) (p : GPlan) (hpl : PlLenE p) (st : GStats) (hdl : st.Distinct.length ≤ 9223372036854775807) : Fun1 prog 11 [rSchema.ty s, rPlS.ty p, rStats.ty st] (tV (.bool true)) := by
 refine Spec.enter func11 rfl rfl fun h0 w0 fr0 => ?_
 refine Jr (Js rfl (step_box (R := rSchema) Sr) (Js rfl (step_box (R := rPlS) Sr) (Js rfl (step_box (R := rStats) Sr) (Ja rfl (JL_nil ?_)))))
 refine Jr (Js rfl (step_call0 (head35_spec ) trivial call34) (Ja rfl (JL_nil (J_seq (Jr ?_)))))
 refine Jl rfl ty41 Sr (Jl rfl ty46E Sr ?_)
 refine Js rfl (step_call0 (SmallE_spec s p hpl [] 0 (fun t ht => by cases ht)) ⟨Sr, Sr, Sub.nilsl, Sr, trivial⟩ call19) ?_
 refine Js rfl (step_not Sr) (Jm rfl ?_)
 refine Jk rfl Sr rfl (step_load_ptr ty60 Sr) ?_
 refine Jg rfl Sr rfl (fun hw => step_call0 (rFew35_spec st hdl) ⟨(Sub.w hw), trivial⟩ call35) (Jg rfl Sr rfl (fun hw => step_not (Sub.w hw)) (Js rfl (step_pick_or Sr Sr) (JL_nil ?_)))
 refine J_cond Sr (fun h28 => ?_) (fun h28 => ?_)
 ·
  try simp only [NF] at h28
  refine Jr (Jm rfl (Ja rfl (JL_nil (J_ret ?_))))
  refine K_ret1 (t := 6) rfl () (Sub.bool ?_)
  rfl
 try simp only [NF] at h28
 obtain ⟨hse, hfw⟩ : smallE s p [] 0 = true ∧ fewP st = true := by simpa using h28
 obtain ⟨hsm, _, _⟩ := small_in hse hn hpl
 obtain ⟨_, hd30, hda⟩ := fewp_in hfw
 have hsd : ∀ d ∈ st.Distinct, d.length ≤ 1000000000000 := fun d hd => by have := hda d hd; omega
 have hst1 : ∀ t ∈ s.Tables, t.Attrs.length ≤ 1000 := fun t ht => Nat.le_trans (hsm.t t ht) zG
 have hq0 := hsm.q
 have hpa := hsm.a
 have hkl := (hq0.z 1).1
 have hz1 : PSz (renP p p.Attrs) := psz_one hq0.z (by simp) zG zG
 have hz2 : PSz (renP (renP p p.Attrs) p.Attrs) := psz_one hz1 (by simp) zG (by show p.Attrs.length ≤ _; omega)
 refine J_skip (Jr (Jl rfl ty41 Sr (Jl rfl ty46E Sr (Jl rfl ty60 Sr (Js rfl (step_call0 (EstimateE_spec s hsm.z (depP p) p (dep_dep _) hq0.z st hsd) ⟨Sr, Sr, Sr, trivial⟩ call38) ?_)))))
 refine Jm rfl (Js rfl (step_extract Sr rfl) (Js rfl (step_extract Sr rfl) (Ja rfl (Ja rfl (JL_nil ?_)))))
 refine J_seq (Jr (Jm rfl (Js rfl (step_neq Sr Sr) (JL_nil ?_))))
 refine J_cond Sr (fun h38 => ?_) (fun h38 => ?_)
 ·
  try simp only [NF] at h38
  refine Jr (Jm rfl (Ja rfl (JL_nil (J_ret ?_))))
  refine K_ret1 (t := 6) rfl () (Sub.bool ?_)
  rfl
 try simp only [NF] at h38
 have hr : prightM s p st = true := right_of_err (by simpa using h38)
 refine J_skip (J_seq (Jr (Ja rfl (JL_nil (J_block ?_)))))
 refine J_loopL (σ := Nat) (fun i => i ≤ p.Kids.length) (fun i => upd (upd (upd (upd (upd (upd env0 3 (tPtr rSchema s)) 4 (tPtr rPlS p)) 5 (tPtr rStats st)) 7 (tV (.bool true))) 8 (tV (.int .i64 (estE s p st)))) 10 (tV (.int .i64 i))) (fun i => []) (fun i => p.Kids.length - i) 0 (by exact Nat.zero_le _) (zU) (LSub.rfl) ?_
 rintro i hi
 refine J_seq (Jr (Jm rfl (Js rfl (step_fieldAddr so46E Sr rfl) (Jl rfl ty42E Sr (Js rfl (step_len_sl underlying42 Sr) ?_)))))
 refine Js rfl (step_lss Sr Sr) (JL_nil ?_)
 refine J_cond Sr (fun h44 => ?_) (fun h44 => ?_)
 ·
  try simp only [NF] at h44
  have hlt : i < p.Kids.length := by omega
  have hkr := kid_right hr (nth_mem hlt)
  have hkc := kid_cost hr hsm.t hq0.z (nth_mem hlt)
  have hke := (err_t hkr).1
  refine J_skip (J_seq (J_block (J_seq ?_)))
  refine J_draw [⟨0, [3], true⟩, ⟨1, [4], true⟩, ⟨2, [49], true⟩, ⟨3, [10], true⟩, ⟨4, [50, 51], true⟩, ⟨5, [52], true⟩, ⟨6, [5], true⟩, ⟨7, [48, 53, 54], true⟩, ⟨8, [55], true⟩, ⟨9, [47], true⟩, ⟨10, [47], true⟩, ⟨11, [56], true⟩, ⟨12, [57], true⟩] rfl (by kernel_rfl) ?_
  refine Mf rfl rfl (step_load_ptr ty41 Sr) (Mf rfl rfl (step_fieldAddr so46E Sr rfl) (Mf rfl rfl (step_load_ptr ty42E Sr) (Mv rfl rfl (Mf rfl rfl (step_indexAddr_sl (i := i) underlying42 ty46P Sr Sr rfl (gb hlt)) (Mf rfl rfl (step_load_ptr ty46E Sub.pps) ?_)))))
  refine Mf rfl rfl (step_load_ptr ty60 Sr) (Mf rfl rfl (step_call0 (EstimateE_spec s hsm.z (depP (nth p.Kids i)) (nth p.Kids i) (dep_dep _) (psz_kid hq0.z (nth_mem hlt)).1 st hsd) ⟨Sr, Sr, Sr, trivial⟩ call38) (Mv rfl rfl (Mf rfl rfl (step_extract Sr rfl) (Mf rfl rfl (step_extract Sr rfl) (Mf rfl rfl (step_assign Sr) ?_)))))
  refine Mf rfl rfl (step_assign Sr) (JM_nil (Jr (Jm rfl (Js rfl (step_neq Sr Sr) (Jm rfl ?_)))))
  refine Jk rfl Sr rfl (step_move Sr) ?_
  refine Jk rfl Sr rfl (step_move Sr) ?_
  refine Jg rfl Sr rfl (fun hw => step_gtr (Sub.w hw) (Sub.w hw)) (Js rfl (step_pick_or Sr Sr) (JL_nil ?_))
  refine J_cond Sr (fun h64 => ?_) (fun h64 => ?_)
  ·
   try simp only [NF] at h64
   exfalso; rcases h64 with h64 | h64; exact h64 hke; simp only [estE] at hkc h64; omega
  try simp only [NF] at h64
  refine J_skip (J_region (Jm rfl (Js rfl (step_add Sr Sr z6) (Ja rfl (JL_nil ?_)))))
  refine K_againL (σ := Nat) (s := i) (i + 1) zO zG (zU) (LSub.rfl)
 try simp only [NF] at h44
 refine J_exit (J_seq (Jr (Js rfl (step_fieldAddr so46E Sr rfl) (Jl rfl ty44 Sr (Js rfl (step_len_sl underlying44 Sr) ?_)))))
 refine Js rfl (step_eql Sr Sr) (JL_nil ?_)
 refine J_cond Sr (fun h68 => ?_) (fun h68 => ?_)
 ·
  try simp only [NF] at h68
  refine Jr (Jm rfl (Ja rfl (JL_nil (J_ret ?_))))
  refine K_ret1 (t := 6) rfl () (Sub.bool ?_)
  rfl
 try simp only [NF] at h68
 refine J_skip (Jr (Jl rfl ty46E Sr ?_))
 refine Js rfl (step_literal (ys := [p]) underlying42 el46E ⟨rfl, Sr, trivial⟩ rfl (by decide)) ?_
 refine Js rfl (step_fieldAddr so46E Sr rfl) (Jl rfl ty44 Sr (Js rfl (step_build (x := (GPl.mk 7 0 [p] [] [] 0 0 p.Attrs : GPlan)) (zs := [[Value.int .i64 0], [Value.int .i64 0], [Value.slice none 0 0], [Value.slice none 0 0], [Value.slice none 0 0], [Value.int .i64 0], [Value.int .i64 0], [Value.slice none 0 0]]) so46E (fun w => zeroValue46 w) ⟨Sr, Sub.spe, Sr, trivial⟩ ⟨⟨Sr, rfl⟩, fun _ => rfl, ⟨Sub.spe, rfl⟩, fun _ => ⟨_, rfl, none, ⟨0, Nat.le_refl _⟩, rfl, fun q => absurd rfl q⟩, fun _ => ⟨_, rfl, none, ⟨0, Nat.le_refl _⟩, rfl, fun q => absurd rfl q⟩, fun _ => rfl, fun _ => rfl, ⟨Sr, rfl⟩, trivial⟩) ?_))
 refine Jx rfl (step_alloc (fun w => zeroValue46 w) zr46E) fun b13 => ?_
 refine Ju (step_store_box ty46E Sr Sr zS) fun _ => ?_
 refine JL_freeze (t := 13) (Sel.take (Sel.none _)) Frz.box ?_
 refine JL_nil (Jr (Jl rfl ty46E Sr ?_))
 refine Js rfl (step_literal (ys := [(renP p p.Attrs)]) underlying42 el46E ⟨rfl, Sr, trivial⟩ rfl (by decide)) ?_
 refine Js rfl (step_fieldAddr so46E Sr rfl) (Jl rfl ty44 Sr (Js rfl (step_build (x := (GPl.mk 7 0 [(renP p p.Attrs)] [] [] 0 0 p.Attrs : GPlan)) (zs := [[Value.int .i64 0], [Value.int .i64 0], [Value.slice none 0 0], [Value.slice none 0 0], [Value.slice none 0 0], [Value.int .i64 0], [Value.int .i64 0], [Value.slice none 0 0]]) so46E (fun w => zeroValue46 w) ⟨Sr, Sub.spe, Sr, trivial⟩ ⟨⟨Sr, rfl⟩, fun _ => rfl, ⟨Sub.spe, rfl⟩, fun _ => ⟨_, rfl, none, ⟨0, Nat.le_refl _⟩, rfl, fun q => absurd rfl q⟩, fun _ => ⟨_, rfl, none, ⟨0, Nat.le_refl _⟩, rfl, fun q => absurd rfl q⟩, fun _ => rfl, fun _ => rfl, ⟨Sr, rfl⟩, trivial⟩) ?_))
 refine Jx rfl (step_alloc (fun w => zeroValue46 w) zr46E) fun b14 => ?_
 refine Ju (step_store_box ty46E Sr Sr zS) fun _ => ?_
 refine JL_freeze (t := 14) (Sel.take (Sel.none _)) Frz.box ?_
 refine JL_nil (Jr (Jl rfl ty41 Sr (Jl rfl ty46E Sr (Jl rfl ty60 Sr (Js rfl (step_call0 (EstimateE_spec s hsm.z (depP (renP p p.Attrs)) (renP p p.Attrs) (dep_dep _) hz1 st hsd) ⟨Sr, Sr, Sr, trivial⟩ call38) ?_)))))
 refine Jm rfl (Js rfl (step_extract Sr rfl) (Js rfl (step_extract Sr rfl) (Ja rfl (Ja rfl (JL_nil ?_)))))
 refine Jr (Jl rfl ty41 Sr (Jl rfl ty46E Sr (Jl rfl ty60 Sr (Js rfl (step_call0 (EstimateE_spec s hsm.z (depP (renP (renP p p.Attrs) p.Attrs)) (renP (renP p p.Attrs) p.Attrs) (dep_dep _) hz2 st hsd) ⟨Sr, Sr, Sr, trivial⟩ call38) (Jm rfl ?_)))))
 refine Js rfl (step_extract Sr rfl) (Js rfl (step_extract Sr rfl) (Ja rfl (Ja rfl (JL_nil (Jr ?_)))))
 refine Jm rfl (Jm rfl ?_)
 refine Jk rfl Sr rfl (step_move Sr) ?_
 refine Jg rfl Sr rfl (fun hw => step_neq (Sub.w hw) Sr) (Jg rfl Sr rfl (fun hw => step_move (Sub.w hw)) ?_)
 refine Ji rfl Sr rfl (step_move Sr) ?_
 refine Jh rfl Sr rfl (fun hw => step_neq (Sub.w hw) Sr) (Jg rfl Sr rfl (fun hw => step_pick_or (Sub.w hw) (Sub.ww hw)) (Jg rfl Sr rfl (fun hw => step_move (Sub.w hw)) ?_))
 refine Ji rfl Sr rfl (step_move Sr) ?_
 refine Jh rfl Sr rfl (fun hw => step_eql (Sub.w hw) Sr) (Jg rfl Sr rfl (fun hw => step_pick_or (Sub.w hw) (Sub.ww hw)) (Jg rfl Sr rfl (fun hw => step_move (Sub.w hw)) ?_))
 refine Ji rfl Sr rfl (step_move Sr) ?_
 refine Ji rfl Sr rfl (step_move Sr) ?_
 refine Jh rfl Sr rfl (fun hw => step_sub (Sub.w hw) (Sub.w hw) (by have h1 := est_all (renP (renP p p.Attrs) p.Attrs) st hsm.t hz2; have h2 := est_all (renP p p.Attrs) st hsm.t hz1; show in64 (estE s (renP (renP p p.Attrs) p.Attrs) st - estE s (renP p p.Attrs) st); unfold in64; omega)) ?_
 refine Ji rfl Sr rfl (step_move Sr) ?_
 refine Ji rfl Sr rfl (step_move Sr) ?_
 refine Jh rfl Sr rfl (fun hw => step_sub (Sub.w hw) (Sub.w hw) (by have h1 := est_all p st hsm.t hq0.z; have h2 := est_all (renP p p.Attrs) st hsm.t hz1; show in64 (estE s (renP p p.Attrs) st - estE s p st); unfold in64; omega)) ?_
 refine Jh rfl Sr rfl (fun hw => step_eql (Sub.w hw) (Sub.w hw)) (Jg rfl Sr rfl (fun hw => step_pick_or (Sub.w hw) (Sub.ww hw)) (Js rfl (step_pick_and Sr Sr) (Ja rfl (JL_nil (J_ret ?_)))))
 refine K_ret1 (t := 6) rfl () (Sub.bool ?_)
 rcases err_cases s (renP p p.Attrs) st with ⟨q1, e1, _⟩ | ⟨_, _, e1, _⟩
 ·
  rcases err_cases s (renP (renP p p.Attrs) p.Attrs) st with ⟨q2, e2, _⟩ | ⟨_, _, e2, _⟩
  ·
   have hl := parts_law hr q1 q2 hsm.t hq0.z hz1
   simp only [estE] at hl
   rw [Bool.true_and, Bool.or_eq_true, Bool.or_eq_true, decide_eq_true_eq, decide_eq_true_eq]
   rcases hl with hl | hl
   ·
    exact .inl (.inr hl)
   exact .inr hl
  simp [e2]
 simp [e1]
set_option maxHeartbeats 8000000 in
theorem lawSelections_spec (s : GSchema) (hn : ∀ t ∈ s.Tables, ∀ x ∈ namesL t.Attrs, x.size ≤ 9223372036854775807) (table : Int) (st : GStats) (hdl : st.Distinct.length ≤ 9223372036854775807) (one two : List GTest) : Fun1 prog 12 [rSchema.ty s, tV (.int .i64 table), rStats.ty st, tSl rTest one, tSl rTest two] (tV (.bool true)) := by
 refine Spec.enter func12 rfl rfl fun h0 w0 fr0 => ?_
 refine Jr (Js rfl (step_box (R := rSchema) Sr) (Js rfl (step_box (R := rStats) Sr) (Ja rfl (JL_nil (Jr ?_)))))
 refine Js rfl (step_call0 (head35_spec ) trivial call34) (Ja rfl (JL_nil (J_seq (Jr (Jl rfl ty41 Sr ?_)))))
 refine Js rfl (step_build (x := (GPl.zero : GPlan)) (zs := [[Value.int .i64 0], [Value.int .i64 0], [Value.slice none 0 0], [Value.slice none 0 0], [Value.slice none 0 0], [Value.int .i64 0], [Value.int .i64 0], [Value.slice none 0 0]]) so46E (fun w => zeroValue46 w) trivial ⟨fun _ => rfl, fun _ => rfl, fun _ => ⟨_, rfl, none, ⟨0, Nat.le_refl _⟩, rfl, fun q => absurd rfl q⟩, fun _ => ⟨_, rfl, none, ⟨0, Nat.le_refl _⟩, rfl, fun q => absurd rfl q⟩, fun _ => ⟨_, rfl, none, ⟨0, Nat.le_refl _⟩, rfl, fun q => absurd rfl q⟩, fun _ => rfl, fun _ => rfl, fun _ => ⟨_, rfl, none, ⟨0, Nat.le_refl _⟩, rfl, fun q => absurd rfl q⟩, trivial⟩) ?_
 refine Js rfl (step_call0 (SmallE_spec s GPl.zero len_zero [] 0 (fun t ht => by cases ht)) ⟨Sr, Sr, Sub.nilsl, Sr, trivial⟩ call19) ?_
 refine Js rfl (step_not Sr) (Jm rfl ?_)
 refine Jk rfl Sr rfl (step_load_ptr ty60 Sr) ?_
 refine Jg rfl Sr rfl (fun hw => step_call0 (rFew35_spec st hdl) ⟨(Sub.w hw), trivial⟩ call35) (Jg rfl Sr rfl (fun hw => step_not (Sub.w hw)) (Js rfl (step_pick_or Sr Sr) (Jm rfl ?_)))
 refine Jk rfl Sr rfl (step_move Sr) ?_
 refine Jg rfl Sr rfl (fun hw => step_len_sl underlying43 (Sub.w hw)) (Jg rfl Sr rfl (fun hw => step_gtr (Sub.w hw) Sr) (Js rfl (step_pick_or Sr Sr) (Jm rfl ?_)))
 refine Jk rfl Sr rfl (step_move Sr) ?_
 refine Jg rfl Sr rfl (fun hw => step_len_sl underlying43 (Sub.w hw)) (Jg rfl Sr rfl (fun hw => step_gtr (Sub.w hw) Sr) (Js rfl (step_pick_or Sr Sr) (Jm rfl ?_)))
 refine Jk rfl Sr rfl (step_move Sr) ?_
 refine Jg rfl Sr rfl (fun hw => step_lss (Sub.w hw) Sr) (Js rfl (step_pick_or Sr Sr) (Jm rfl ?_))
 refine Jk rfl Sr rfl (step_move Sr) ?_
 refine Jk rfl Sr rfl (step_fieldAddr so41 Sr rfl) ?_
 refine Jg rfl Sr rfl (fun hw => step_load_ptr ty39 (Sub.w hw)) (Jg rfl Sr rfl (fun hw => step_len_sl underlying39 (Sub.w hw)) (Jg rfl Sr rfl (fun hw => step_geq (Sub.w hw) (Sub.w hw)) (Js rfl (step_pick_or Sr Sr) (Jm rfl ?_))))
 refine Jk rfl Sr rfl (step_move Sr) ?_
 refine Jk rfl Sr rfl (step_fieldAddr so60 Sr rfl) ?_
 refine Jg rfl Sr rfl (fun hw => step_load_ptr ty36 (Sub.w hw)) (Jg rfl Sr rfl (fun hw => step_len_sl underlying36 (Sub.w hw)) (Jg rfl Sr rfl (fun hw => step_geq (Sub.w hw) (Sub.w hw)) (Js rfl (step_pick_or Sr Sr) (JL_nil ?_))))
 refine J_cond Sr (fun h55 => ?_) (fun h55 => ?_)
 ·
  try simp only [NF] at h55
  refine Jr (Jm rfl (Ja rfl (JL_nil (J_ret ?_))))
  refine K_ret1 (t := 10) rfl () (Sub.bool ?_)
  rfl
 try simp only [NF] at h55
 obtain ⟨⟨⟨⟨⟨⟨hse, hfw⟩, hl1⟩, hl2⟩, ht0⟩, ht1⟩, ht2⟩ : ((((((smallE s GPl.zero [] 0 = true ∧ fewP st = true) ∧ (one.length : Int) ≤ 20) ∧ (two.length : Int) ≤ 20) ∧ 0 ≤ table) ∧ table < s.Tables.length) ∧ table < st.Rows.length) := by simpa [and_assoc, Int.not_lt] using h55
 obtain ⟨hsm, _, _⟩ := small_in hse hn len_zero
 obtain ⟨_, hd30, hda⟩ := fewp_in hfw
 have hsd : ∀ d ∈ st.Distinct, d.length ≤ 1000000000000 := fun d hd => by have := hda d hd; omega
 have hta : (nth s.Tables table.toNat).Attrs.length ≤ 20 := hsm.t _ (nth_mem zG)
 have hzt : PSz (tabP table (nth s.Tables table.toNat).Attrs) := psz_leaf zG
 have hz1 : PSz (selP (tabP table (nth s.Tables table.toNat).Attrs) one (nth s.Tables table.toNat).Attrs) := psz_one hzt zG zG (by show (nth s.Tables table.toNat).Attrs.length ≤ _; omega)
 have hz2 : PSz (selP (tabP table (nth s.Tables table.toNat).Attrs) (one ++ two) (nth s.Tables table.toNat).Attrs) := psz_one hzt (by rw [List.length_append]; omega) zG (by show (nth s.Tables table.toNat).Attrs.length ≤ _; omega)
 refine J_skip (Jr (Jm rfl (Js rfl (step_fieldAddr so41 Sr rfl) (Jl rfl ty39 Sr (Jm rfl ?_)))))
 refine Js rfl (step_indexAddr_sl (i := table.toNat) underlying39 ty76 Sr Sr zG (gb (by show _ < s.Tables.length; omega))) ?_
 refine Js rfl (step_fieldAddr so76 Sr rfl) (Jl rfl ty44 Sr (Js rfl (step_build (x := (GPl.mk 1 table [] [] [] 0 0 (nth s.Tables table.toNat).Attrs : GPlan)) (zs := [[Value.int .i64 0], [Value.int .i64 0], [Value.slice none 0 0], [Value.slice none 0 0], [Value.slice none 0 0], [Value.int .i64 0], [Value.int .i64 0], [Value.slice none 0 0]]) so46E (fun w => zeroValue46 w) ⟨Sr, Sr, Sr, trivial⟩ ⟨⟨Sr, rfl⟩, ⟨Sr, rfl⟩, fun _ => ⟨_, rfl, none, ⟨0, Nat.le_refl _⟩, rfl, fun q => absurd rfl q⟩, fun _ => ⟨_, rfl, none, ⟨0, Nat.le_refl _⟩, rfl, fun q => absurd rfl q⟩, fun _ => ⟨_, rfl, none, ⟨0, Nat.le_refl _⟩, rfl, fun q => absurd rfl q⟩, fun _ => rfl, fun _ => rfl, ⟨Sr, rfl⟩, trivial⟩) ?_))
 refine Jx rfl (step_alloc (fun w => zeroValue46 w) zr46E) fun b12 => ?_
 refine Ju (step_store_box ty46E Sr Sr zS) fun _ => ?_
 refine JL_freeze (t := 12) (Sel.take (Sel.none _)) Frz.box ?_
 refine JL_nil (Jr (Jl rfl ty41 Sr (Jl rfl ty46E Sr ?_)))
 refine Js rfl (step_literal (ys := [(tabP table (nth s.Tables table.toNat).Attrs)]) underlying42 el46E ⟨rfl, Sr, trivial⟩ rfl (by decide)) ?_
 refine Jm rfl (Js rfl (step_fieldAddr so46E Sr rfl) (Jl rfl ty44 Sr (Js rfl (step_build (x := (GPl.mk 2 0 [(tabP table (nth s.Tables table.toNat).Attrs)] one [] 0 0 (nth s.Tables table.toNat).Attrs : GPlan)) (zs := [[Value.int .i64 0], [Value.int .i64 0], [Value.slice none 0 0], [Value.slice none 0 0], [Value.slice none 0 0], [Value.int .i64 0], [Value.int .i64 0], [Value.slice none 0 0]]) so46E (fun w => zeroValue46 w) ⟨Sr, Sub.spe, Sr, Sr, trivial⟩ ⟨⟨Sr, rfl⟩, fun _ => rfl, ⟨Sub.spe, rfl⟩, ⟨Sr, rfl⟩, fun _ => ⟨_, rfl, none, ⟨0, Nat.le_refl _⟩, rfl, fun q => absurd rfl q⟩, fun _ => rfl, fun _ => rfl, ⟨Sr, rfl⟩, trivial⟩) (Jl rfl ty60 Sr (Js rfl (step_call0 (EstimateE_spec s hsm.z (depP (selP (tabP table (nth s.Tables table.toNat).Attrs) one (nth s.Tables table.toNat).Attrs)) (selP (tabP table (nth s.Tables table.toNat).Attrs) one (nth s.Tables table.toNat).Attrs) (dep_dep _) hz1 st hsd) ⟨Sr, Sr, Sr, trivial⟩ call38) ?_)))))
 refine Jm rfl (Js rfl (step_extract Sr rfl) (Js rfl (step_extract Sr rfl) (Ja rfl (Ja rfl (JL_nil ?_)))))
 refine J_seq ?_
 refine J_draw [⟨0, [5], true⟩, ⟨1, [12], true⟩, ⟨2, [79], true⟩, ⟨4, [3], true⟩, ⟨6, [4], true⟩, ⟨8, [12], true⟩, ⟨9, [86], true⟩, ⟨11, [7], true⟩, ⟨3, [], false⟩, ⟨5, [81, 82], false⟩, ⟨7, [83, 84], false⟩, ⟨10, [80, 85, 87], true⟩, ⟨12, [78, 88, 89], true⟩, ⟨13, [90], true⟩, ⟨14, [77], true⟩, ⟨15, [77], true⟩, ⟨16, [91], true⟩, ⟨17, [92], true⟩] rfl (by kernel_rfl) ?_
 refine Mf rfl rfl (step_load_ptr ty41 Sr) (Mf rfl rfl (step_load_ptr ty46E Sr) ?_)
 refine Mf rfl rfl (step_literal (ys := [(tabP table (nth s.Tables table.toNat).Attrs)]) underlying42 el46E ⟨rfl, Sr, trivial⟩ rfl (by decide)) ?_
 refine Mv rfl rfl (Mv rfl rfl (Mf rfl rfl (step_fieldAddr so46E Sr rfl) (Mf rfl rfl (step_load_ptr ty44 Sr) (Mf rfl rfl (step_load_ptr ty60 Sr) ?_))))
 refine JM_stepX rfl rfl rfl rfl (step_literal_own (ys := ([] : List GTest)) underlying43 el93 trivial rfl (by decide)) fun v81 => ?_
 refine JM_stepX rfl rfl rfl rfl (step_append underlying43 el93 Sr Sr zS (by simp only [List.length_nil]; omega) (by simp only [List.length_nil]; omega)) fun v83 => ?_
 refine JM_stepX rfl rfl rfl rfl ((Step.frz (R := []) (S := fun x => own 93 rTest x ([] ++ one ++ two)) (B := tSl rTest (one ++ two)) (step_append underlying43 el93 Sr Sr zS (by simp only [List.length_append, List.length_nil]; omega) (by simp only [List.length_append, List.length_nil]; omega)) (fun x => Frz.own' rfl))) fun _ => ?_
 refine Mf rfl rfl (step_build (x := (GPl.mk 2 0 [(tabP table (nth s.Tables table.toNat).Attrs)] (one ++ two) [] 0 0 (nth s.Tables table.toNat).Attrs : GPlan)) (zs := [[Value.int .i64 0], [Value.int .i64 0], [Value.slice none 0 0], [Value.slice none 0 0], [Value.slice none 0 0], [Value.int .i64 0], [Value.int .i64 0], [Value.slice none 0 0]]) so46E (fun w => zeroValue46 w) ⟨Sr, Sub.spe, Sr, Sr, trivial⟩ ⟨⟨Sr, rfl⟩, fun _ => rfl, ⟨Sub.spe, rfl⟩, ⟨Sr, rfl⟩, fun _ => ⟨_, rfl, none, ⟨0, Nat.le_refl _⟩, rfl, fun q => absurd rfl q⟩, fun _ => rfl, fun _ => rfl, ⟨Sr, rfl⟩, trivial⟩) (Mf rfl rfl (step_call0 (EstimateE_spec s hsm.z (depP (selP (tabP table (nth s.Tables table.toNat).Attrs) (one ++ two) (nth s.Tables table.toNat).Attrs)) (selP (tabP table (nth s.Tables table.toNat).Attrs) (one ++ two) (nth s.Tables table.toNat).Attrs) (dep_dep _) hz2 st hsd) ⟨Sr, Sr, Sr, trivial⟩ call38) (Mv rfl rfl (Mf rfl rfl (step_extract Sr rfl) (Mf rfl rfl (step_extract Sr rfl) (Mf rfl rfl (step_assign Sr) ?_)))))
 refine Mf rfl rfl (step_assign Sr) (JM_nil (J_seq (Jr (Jm rfl (Js rfl (step_neq Sr Sr) ?_)))))
 refine JL_nil ?_
 refine J_cond Sr (fun h94 => ?_) (fun h94 => ?_)
 ·
  try simp only [NF] at h94
  refine Jr (Jm rfl (Ja rfl (JL_nil (J_ret ?_))))
  refine K_ret1 (t := 10) rfl () (Sub.bool ?_)
  rfl
 try simp only [NF] at h94
 have hr : prightM s (selP (tabP table (nth s.Tables table.toNat).Attrs) one (nth s.Tables table.toNat).Attrs) st = true := right_of_err (by simpa using h94)
 have hlaw := select_law (one := one) (two := two) hr zG
 refine J_skip (Jr (Js rfl (step_fieldAddr so60 Sr rfl) (Jl rfl ty36 Sr (Jm rfl ?_))))
 refine Js rfl (step_indexAddr_sl (i := table.toNat) underlying36 ty3 Sr Sr zG (gb (by show _ < st.Rows.length; omega))) ?_
 refine Jl rfl ty3 Sr (Ja rfl (JL_nil (Jr (Jm rfl (Jm rfl ?_)))))
 refine Jk rfl Sr rfl (step_move Sr) ?_
 refine Jk rfl Sr rfl (step_move Sr) ?_
 refine Jg rfl Sr rfl (fun hw => step_geq (Sub.w hw) (Sub.w hw)) (Js rfl (step_pick_and Sr Sr) (Jm rfl ?_))
 refine Jk rfl Sr rfl (step_move Sr) ?_
 refine Jk rfl Sr rfl (step_move Sr) ?_
 refine Jg rfl Sr rfl (fun hw => step_mul Sr (Sub.w hw) (by have := hlaw.1.1; have := hlaw.1.2; show in64 (2 * nth st.Rows table.toNat); unfold in64; omega)) ?_
 refine Jg rfl Sr rfl (fun hw => step_minI (Sub.w hw) Sr) (Jg rfl Sr rfl (fun hw => step_leq (Sub.w hw) (Sub.w hw)) (Js rfl (step_pick_and Sr Sr) (Jm rfl ?_)))
 refine Jk rfl Sr rfl (step_move Sr) ?_
 refine Jg rfl Sr rfl (fun hw => step_neq (Sub.w hw) Sr) (Jg rfl Sr rfl (fun hw => step_move (Sub.w hw)) ?_)
 refine Ji rfl Sr rfl (step_move Sr) ?_
 refine Ji rfl Sr rfl (step_move Sr) ?_
 refine Jh rfl Sr rfl (fun hw => step_geq (Sub.w hw) (Sub.w hw)) (Jh rfl Sr rfl (fun hw => step_move (Sub.w hw)) ?_)
 refine Ji rfl Sr rfl (step_move Sr) ?_
 refine Ji rfl Sr rfl (step_move Sr) ?_
 refine Jh rfl Sr rfl (fun hw => step_leq (Sub.w hw) (Sub.w hw)) (Jh rfl Sr rfl (fun hw => step_pick_and (Sub.w hw) (Sub.ww hw)) (Jg rfl Sr rfl (fun hw => step_pick_or (Sub.w hw) (Sub.ww hw)) (Js rfl (step_pick_and Sr Sr) (Ja rfl (JL_nil ?_)))))
 refine J_ret ?_
 refine K_ret1 (t := 10) rfl () (Sub.bool ?_)
 obtain ⟨hu, l1, l2, l3⟩ := hlaw
 simp only [estE] at l1 l2 l3
 rcases err_cases s (selP (tabP table (nth s.Tables table.toNat).Attrs) (one ++ two) (nth s.Tables table.toNat).Attrs) st with ⟨q2, e2, _⟩ | ⟨_, _, e2, _⟩
 ·
  obtain ⟨m1, m2⟩ := l3 q2
  simp [l1, l2, m1, m2]
 simp [l1, l2, e2]
end Lg
