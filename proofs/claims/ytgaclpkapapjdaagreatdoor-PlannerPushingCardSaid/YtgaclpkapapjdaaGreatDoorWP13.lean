/- The walk and the plain law of PlannerPushing. -/
import Derived.Test.YtgaclpkapapjdaaGreatDoorF
set_option linter.unusedVariables false
set_option linter.unusedSimpArgs false
set_option linter.unusedSectionVars false
namespace Lg
open Go Go.Proofs Go.Proofs.Tryz
theorem onPl_spec (k : GPlan) (l : List GTest) : Fun1 prog 44 [rPlS.ty k, tSl rTest l] (rPlS.ty (onP k l)) := by
 refine Spec.enter func44 rfl rfl fun h0 w0 fr0 => ?_
 refine Jr (Js rfl (step_box (R := rPlS) Sr) ?_)
 refine Jx rfl (step_alloc (fun w => zeroValue46 w) zr46E) fun b4 => ?_
 refine JL_nil (Jr (Jl rfl ty46E Sr ?_))
 refine Js rfl (step_literal (ys := [k]) underlying42 el46E ⟨rfl, Sr, trivial⟩ rfl (by decide)) ?_
 refine Jm rfl (Js rfl (step_fieldAddr so46E Sr rfl) (Jl rfl ty44 Sr (Js rfl (step_build (x := (GPl.mk 2 0 [k] l [] 0 0 k.Attrs : GPlan)) (zs := [[Value.int .i64 0], [Value.int .i64 0], [Value.slice none 0 0], [Value.slice none 0 0], [Value.slice none 0 0], [Value.int .i64 0], [Value.int .i64 0], [Value.slice none 0 0]]) so46E (fun w => zeroValue46 w) ⟨Sr, Sub.spe, Sr, Sr, trivial⟩ ⟨⟨Sr, rfl⟩, fun _ => rfl, ⟨Sub.spe, rfl⟩, ⟨Sr, rfl⟩, fun _ => ⟨_, rfl, none, ⟨0, Nat.le_refl _⟩, rfl, fun q => absurd rfl q⟩, fun _ => rfl, fun _ => rfl, ⟨Sr, rfl⟩, trivial⟩) ?_)))
 refine Ju (step_store_box ty46E Sr Sr zS) fun _ => ?_
 refine JL_nil (J_ret ?_)
 refine K_ret1' (rv := .cell 4 46) rfl () (Sel.all _) (.cell (R := rPlS) ty46E Sr zS Sr) (Frz.sub Sr)
theorem rePl_spec (k : GPlan) : Fun1 prog 45 [rPlS.ty k] (rPlS.ty (reP k)) := by
 refine Spec.enter func45 rfl rfl fun h0 w0 fr0 => ?_
 refine Jr (Js rfl (step_box (R := rPlS) Sr) ?_)
 refine Jx rfl (step_alloc (fun w => zeroValue46 w) zr46E) fun b2 => ?_
 refine JL_nil (Jr (Jl rfl ty46E Sr ?_))
 refine Js rfl (step_literal (ys := [k]) underlying42 el46E ⟨rfl, Sr, trivial⟩ rfl (by decide)) ?_
 refine Js rfl (step_fieldAddr so46E Sr rfl) (Jl rfl ty44 Sr (Js rfl (step_build (x := (GPl.mk 7 0 [k] [] [] 0 0 k.Attrs : GPlan)) (zs := [[Value.int .i64 0], [Value.int .i64 0], [Value.slice none 0 0], [Value.slice none 0 0], [Value.slice none 0 0], [Value.int .i64 0], [Value.int .i64 0], [Value.slice none 0 0]]) so46E (fun w => zeroValue46 w) ⟨Sr, Sub.spe, Sr, trivial⟩ ⟨⟨Sr, rfl⟩, fun _ => rfl, ⟨Sub.spe, rfl⟩, fun _ => ⟨_, rfl, none, ⟨0, Nat.le_refl _⟩, rfl, fun q => absurd rfl q⟩, fun _ => ⟨_, rfl, none, ⟨0, Nat.le_refl _⟩, rfl, fun q => absurd rfl q⟩, fun _ => rfl, fun _ => rfl, ⟨Sr, rfl⟩, trivial⟩) ?_))
 refine Ju (step_store_box ty46E Sr Sr zS) fun _ => ?_
 refine JL_nil (J_ret ?_)
 refine K_ret1' (rv := .cell 2 46) rfl () (Sel.all _) (.cell (R := rPlS) ty46E Sr zS Sr) (Frz.sub Sr)
theorem unPl_spec (a b : GPlan) : Fun1 prog 46 [rPlS.ty a, rPlS.ty b] (rPlS.ty (unP a b)) := by
 refine Spec.enter func46 rfl rfl fun h0 w0 fr0 => ?_
 refine Jr (Js rfl (step_box (R := rPlS) Sr) (Js rfl (step_box (R := rPlS) Sr) ?_))
 refine Jx rfl (step_alloc (fun w => zeroValue46 w) zr46E) fun b4 => ?_
 refine JL_nil (Jr (Jl rfl ty46E Sr (Jl rfl ty46E Sr ?_)))
 refine Js rfl (step_literal (ys := [a, b]) underlying42 el46E ⟨rfl, Sr, rfl, Sr, trivial⟩ rfl (by decide)) ?_
 refine Js rfl (step_fieldAddr so46E Sr rfl) (Jl rfl ty44 Sr (Js rfl (step_build (x := (GPl.mk 5 0 [a, b] [] [] 0 0 a.Attrs : GPlan)) (zs := [[Value.int .i64 0], [Value.int .i64 0], [Value.slice none 0 0], [Value.slice none 0 0], [Value.slice none 0 0], [Value.int .i64 0], [Value.int .i64 0], [Value.slice none 0 0]]) so46E (fun w => zeroValue46 w) ⟨Sr, Sub.spe, Sr, trivial⟩ ⟨⟨Sr, rfl⟩, fun _ => rfl, ⟨Sub.spe, rfl⟩, fun _ => ⟨_, rfl, none, ⟨0, Nat.le_refl _⟩, rfl, fun q => absurd rfl q⟩, fun _ => ⟨_, rfl, none, ⟨0, Nat.le_refl _⟩, rfl, fun q => absurd rfl q⟩, fun _ => rfl, fun _ => rfl, ⟨Sr, rfl⟩, trivial⟩) ?_))
 refine Ju (step_store_box ty46E Sr Sr zS) fun _ => ?_
 refine JL_nil (J_ret ?_)
 refine K_ret1' (rv := .cell 4 46) rfl () (Sel.all _) (.cell (R := rPlS) ty46E Sr zS Sr) (Frz.sub Sr)
set_option maxHeartbeats 8000000 in
theorem lawPushing_spec (s : GSchema) (hn : ∀ t ∈ s.Tables, ∀ x ∈ namesL t.Attrs, x.size ≤ 9223372036854775807) (p : GPlan) (hpl : PlLenE p) (q : GPlan) (hql : PlLenE q) (st : GStats) (hdl : st.Distinct.length ≤ 9223372036854775807) (tests more : List GTest) : Fun1 prog 13 [rSchema.ty s, rPlS.ty p, rPlS.ty q, rStats.ty st, tSl rTest tests, tSl rTest more] (tV (.bool true)) := by
 refine Spec.enter func13 rfl rfl fun h0 w0 fr0 => ?_
 refine Jr (Js rfl (step_box (R := rSchema) Sr) (Js rfl (step_box (R := rPlS) Sr) (Js rfl (step_box (R := rPlS) Sr) (Js rfl (step_box (R := rStats) Sr) (Ja rfl ?_)))))
 refine JL_nil (Jr (Js rfl (step_call0 (head35_spec ) trivial call34) (Ja rfl (JL_nil (J_seq ?_)))))
 refine Jr (Jl rfl ty41 Sr (Jl rfl ty46E Sr ?_))
 refine Js rfl (step_call0 (SmallE_spec s p hpl [] 0 (fun t ht => by cases ht)) ⟨Sr, Sr, Sub.nilsl, Sr, trivial⟩ call19) ?_
 refine Js rfl (step_not Sr) (Jm rfl ?_)
 refine Jk rfl Sr rfl (step_load_ptr ty41 Sr) ?_
 refine Jk rfl Sr rfl (step_load_ptr ty46E Sr) ?_
 refine Jg rfl Sr rfl (fun hw => step_call0 (SmallE_spec s q hql [] 0 (fun t ht => by cases ht)) ⟨Sub.w hw, Sub.w hw, Sub.nilsl, Sr, trivial⟩ call19) ?_
 refine Jg rfl Sr rfl (fun hw => step_not (Sub.w hw)) (Js rfl (step_pick_or Sr Sr) (Jm rfl ?_))
 refine Jk rfl Sr rfl (step_load_ptr ty60 Sr) ?_
 refine Jg rfl Sr rfl (fun hw => step_call0 (rFew35_spec st hdl) ⟨(Sub.w hw), trivial⟩ call35) (Jg rfl Sr rfl (fun hw => step_not (Sub.w hw)) (Js rfl (step_pick_or Sr Sr) (Jm rfl ?_)))
 refine Jk rfl Sr rfl (step_move Sr) ?_
 refine Jg rfl Sr rfl (fun hw => step_len_sl underlying43 (Sub.w hw)) (Jg rfl Sr rfl (fun hw => step_gtr (Sub.w hw) Sr) (Js rfl (step_pick_or Sr Sr) (Jm rfl ?_)))
 refine Jk rfl Sr rfl (step_move Sr) ?_
 refine Jg rfl Sr rfl (fun hw => step_len_sl underlying43 (Sub.w hw)) (Jg rfl Sr rfl (fun hw => step_gtr (Sub.w hw) Sr) (Js rfl (step_pick_or Sr Sr) (Jm rfl ?_)))
 refine Jk rfl Sr rfl (step_fieldAddr so46E Sr rfl) ?_
 refine Jg rfl Sr rfl (fun hw => step_load_ptr ty44 (Sub.w hw)) (Jg rfl Sr rfl (fun hw => step_len_sl underlying44 (Sub.w hw)) (Jg rfl Sr rfl (fun hw => step_eql (Sub.w hw) Sr) (Js rfl (step_pick_or Sr Sr) (JL_nil ?_))))
 refine J_cond Sr (fun h55 => ?_) (fun h55 => ?_)
 ·
  try simp only [NF] at h55
  refine Jr (Jm rfl (Ja rfl (JL_nil (J_ret ?_))))
  refine K_ret1 (t := 12) rfl () (Sub.bool ?_)
  rfl
 try simp only [NF] at h55
 obtain ⟨hse, hsq, hfw, hl1, hl2, hpa⟩ : smallE s p [] 0 = true ∧ smallE s q [] 0 = true ∧ fewP st = true ∧ (tests.length : Int) ≤ 20 ∧ (more.length : Int) ≤ 20 ∧ ¬ p.Attrs = [] := by simpa [and_assoc, Int.not_lt] using h55
 obtain ⟨hsm, _, _⟩ := small_in hse hn hpl
 obtain ⟨hsmq, _, _⟩ := small_in hsq hn hql
 obtain ⟨_, hd30, hda⟩ := fewp_in hfw
 have hsd : ∀ d ∈ st.Distinct, d.length ≤ 1000000000000 := fun d hd => by have := hda d hd; omega
 have hst1 : ∀ t ∈ s.Tables, t.Attrs.length ≤ 1000 := fun t ht => Nat.le_trans (hsm.t t ht) zG
 have hok := hilo_ok (more := more) (ts := tests) hsm hsmq zG zG
 refine J_skip (Jr (Ja rfl (JL_nil (Jr (Ja rfl ?_)))))
 refine JL_nil (Jr (Ja rfl (JL_nil (J_seq ?_))))
 refine J_draw [⟨0, [14], true⟩, ⟨1, [14], true⟩, ⟨2, [7], true⟩, ⟨3, [4], true⟩, ⟨4, [58, 59, 60], true⟩, ⟨5, [5], true⟩, ⟨6, [57, 61, 62], true⟩, ⟨7, [14], true⟩, ⟨8, [15], true⟩, ⟨9, [7], true⟩, ⟨10, [65, 66], true⟩, ⟨11, [4], true⟩, ⟨12, [64, 67, 68], true⟩, ⟨13, [14], true⟩, ⟨14, [16], true⟩, ⟨15, [7], true⟩, ⟨16, [8], true⟩, ⟨17, [71, 72, 73], true⟩, ⟨18, [4], true⟩, ⟨19, [70, 74, 75], true⟩, ⟨20, [63, 69, 76], true⟩, ⟨21, [77], true⟩] rfl (by kernel_rfl) ?_
 refine Mv rfl rfl (Mv rfl rfl (Mf rfl rfl (step_load_ptr ty46E Sr) (Mv rfl rfl (Mf rfl rfl (step_callv0 (aT := [_, _]) Sub.clo0 (onPl_spec p tests) ⟨Sr, Sr, trivial⟩ call44) (Mv rfl rfl ?_)))))
 refine Mf rfl rfl (step_callv0 (aT := [_, _]) Sub.clo0 (onPl_spec (onP p tests) more) ⟨Sr, Sr, trivial⟩ call44) (Mv rfl rfl (Mv rfl rfl (Mf rfl rfl (step_load_ptr ty46E Sr) (Mf rfl rfl (step_callv0 (aT := [_]) Sub.clo0 (rePl_spec p) ⟨Sr, trivial⟩ call45) (Mv rfl rfl ?_)))))
 refine Mf rfl rfl (step_callv0 (aT := [_, _]) Sub.clo0 (onPl_spec (reP p) tests) ⟨Sr, Sr, trivial⟩ call44) (Mv rfl rfl (Mv rfl rfl (Mf rfl rfl (step_load_ptr ty46E Sr) (Mf rfl rfl (step_load_ptr ty46E Sr) (Mf rfl rfl (step_callv0 (aT := [_, _]) Sub.clo0 (unPl_spec p q) ⟨Sr, Sr, trivial⟩ call46) ?_)))))
 refine Mv rfl rfl (Mf rfl rfl (step_callv0 (aT := [_, _]) Sub.clo0 (onPl_spec (unP p q) tests) ⟨Sr, Sr, trivial⟩ call44) ?_)
 refine Mf rfl rfl (step_literal (ys := (hiL p q tests more)) underlying42 el46E ⟨rfl, Sr, rfl, Sr, rfl, Sr, trivial⟩ rfl (by decide)) ?_
 refine Mf rfl rfl (step_assign Sub.spe) (JM_nil (J_seq ?_))
 refine J_draw [⟨0, [14], true⟩, ⟨1, [7], true⟩, ⟨3, [4], true⟩, ⟨5, [5], true⟩, ⟨8, [15], true⟩, ⟨9, [14], true⟩, ⟨10, [7], true⟩, ⟨11, [4], true⟩, ⟨14, [16], true⟩, ⟨15, [14], true⟩, ⟨16, [7], true⟩, ⟨17, [4], true⟩, ⟨19, [14], true⟩, ⟨20, [8], true⟩, ⟨21, [4], true⟩, ⟨2, [], false⟩, ⟨4, [80, 81], false⟩, ⟨6, [82, 83], false⟩, ⟨7, [78, 79, 84], true⟩, ⟨12, [87, 88, 89], true⟩, ⟨13, [86, 90], true⟩, ⟨18, [93, 94, 95], true⟩, ⟨22, [97, 98, 99], true⟩, ⟨23, [92, 96, 100], true⟩, ⟨24, [85, 91, 101], true⟩, ⟨25, [102], true⟩] rfl (by kernel_rfl) ?_
 refine Mv rfl rfl (Mf rfl rfl (step_load_ptr ty46E Sr) (Mv rfl rfl (Mv rfl rfl (Mv rfl rfl (Mv rfl rfl ?_)))))
 refine Mf rfl rfl (step_load_ptr ty46E Sr) (Mv rfl rfl (Mv rfl rfl (Mv rfl rfl (Mf rfl rfl (step_load_ptr ty46E Sr) (Mv rfl rfl ?_)))))
 refine Mv rfl rfl (Mf rfl rfl (step_load_ptr ty46E Sr) (Mv rfl rfl ?_))
 refine JM_stepX rfl rfl rfl rfl (step_literal_own (ys := ([] : List GTest)) underlying43 el93 trivial rfl (by decide)) fun v80 => ?_
 refine JM_stepX rfl rfl rfl rfl (step_append underlying43 el93 Sr Sr zS (by simp only [List.length_nil]; omega) (by simp only [List.length_nil]; omega)) fun v82 => ?_
 refine JM_stepX rfl rfl rfl rfl ((Step.frz (R := []) (S := fun x => own 93 rTest x ([] ++ tests ++ more)) (B := tSl rTest (tests ++ more)) (step_append underlying43 el93 Sr Sr zS (by simp only [List.length_append, List.length_nil]; omega) (by simp only [List.length_append, List.length_nil]; omega)) (fun x => Frz.own' rfl))) fun _ => ?_
 refine Mf rfl rfl (step_callv0 (aT := [_, _]) Sub.clo0 (onPl_spec p (tests ++ more)) ⟨Sr, Sr, trivial⟩ call44) (Mf rfl rfl (step_callv0 (aT := [_, _]) Sub.clo0 (onPl_spec p tests) ⟨Sr, Sr, trivial⟩ call44) (Mf rfl rfl (step_callv0 (aT := [_]) Sub.clo0 (rePl_spec (onP p tests)) ⟨Sr, trivial⟩ call45) (Mf rfl rfl (step_callv0 (aT := [_, _]) Sub.clo0 (onPl_spec p tests) ⟨Sr, Sr, trivial⟩ call44) (Mf rfl rfl (step_callv0 (aT := [_, _]) Sub.clo0 (onPl_spec q tests) ⟨Sr, Sr, trivial⟩ call44) (Mf rfl rfl (step_callv0 (aT := [_, _]) Sub.clo0 (unPl_spec (onP p tests) (onP q tests)) ⟨Sr, Sr, trivial⟩ call46) ?_)))))
 refine Mf rfl rfl (step_literal (ys := (loL p q tests more)) underlying42 el46E ⟨rfl, Sr, rfl, Sr, rfl, Sr, trivial⟩ rfl (by decide)) ?_
 refine Mf rfl rfl (step_assign Sub.spe) (JM_nil (J_seq (Jr (Ja rfl (JL_nil ?_)))))
 refine J_block ?_
 refine J_loopL (σ := Nat) (fun i => i ≤ 3) (fun i => upd (upd (upd (upd (upd (upd env0 6 (tPtr rSchema s)) 9 (tPtr rStats st)) 13 (tV (.bool true))) 17 (tSl rPlanE (hiL p q tests more))) 18 (tSl rPlanE (loL p q tests more))) 19 (tV (.int .i64 i))) (fun i => []) (fun i => 3 - i) 0 zG (zU) (LSub.rfl) ?_
 rintro i hi
 refine J_seq (Jr (Jm rfl (Jm rfl (Js rfl (step_len_sl underlying42 Sr) (Js rfl (step_lss Sr Sr) ?_)))))
 refine JL_nil ?_
 refine J_cond Sr (fun h106 => ?_) (fun h106 => ?_)
 ·
  try simp only [NF] at h106
  have hlt : i < 3 := by have : (i : Int) < 3 := h106; omega
  refine J_skip (J_seq (J_block (J_seq ?_)))
  refine J_draw [⟨0, [6], true⟩, ⟨1, [17], true⟩, ⟨2, [19], true⟩, ⟨3, [111, 112], true⟩, ⟨4, [113], true⟩, ⟨5, [9], true⟩, ⟨6, [110, 114, 115], true⟩, ⟨7, [116], true⟩, ⟨8, [109], true⟩, ⟨9, [109], true⟩, ⟨10, [], false⟩, ⟨11, [20, 117], false⟩, ⟨12, [118], true⟩] rfl (by kernel_rfl) ?_
  refine Mf rfl rfl (step_load_ptr ty41 Sr) (Mv rfl rfl (Mv rfl rfl (Mf rfl rfl (step_indexAddr_sl (i := i) underlying42 ty46P Sr Sr rfl (gb (show i < (hiL p q tests more).length from hlt))) (Mf rfl rfl (step_load_ptr ty46E Sub.pps) (Mf rfl rfl (step_load_ptr ty60 Sr) ?_)))))
  refine Mf rfl rfl (step_call0 (Improve_spec s hsm.z hst1 (depP (nth (hiL p q tests more) i)) (nth (hiL p q tests more) i) (dep_dep _) (hok i hlt).1.z (fun h => Nat.le_trans ((hok i hlt).1.t h) zG) st hsd) ⟨Sr, Sr, Sr, trivial⟩ call40) (Mv rfl rfl (Mf rfl rfl (step_extract Sr rfl) (Mf rfl rfl (step_extract Sr rfl) ?_)))
  refine JM_stepX rfl rfl rfl rfl (step_alloc (fun w => zeroValue46 w) zr46E) fun b20 => ?_
  refine JM_stepU rfl rfl rfl (step_store_box ty46E Sr Sr zS) fun _ => ?_
  refine Mf rfl rfl (step_assign Sr) (JM_nil ?_)
  refine K_freeze (t := 20) zS Frz.box ?_
  refine J_seq ?_
  refine J_draw [⟨0, [6], true⟩, ⟨1, [18], true⟩, ⟨2, [19], true⟩, ⟨3, [121, 122], true⟩, ⟨4, [123], true⟩, ⟨5, [9], true⟩, ⟨6, [120, 124, 125], true⟩, ⟨7, [126], true⟩, ⟨8, [119], true⟩, ⟨9, [119], true⟩, ⟨10, [], false⟩, ⟨11, [22, 127], false⟩, ⟨12, [128], true⟩] rfl (by kernel_rfl) ?_
  refine Mf rfl rfl (step_load_ptr ty41 Sr) (Mv rfl rfl (Mv rfl rfl (Mf rfl rfl (step_indexAddr_sl (i := i) underlying42 ty46P Sr Sr rfl (gb (show i < (loL p q tests more).length from hlt))) (Mf rfl rfl (step_load_ptr ty46E Sub.pps) (Mf rfl rfl (step_load_ptr ty60 Sr) ?_)))))
  refine Mf rfl rfl (step_call0 (Improve_spec s hsm.z hst1 (depP (nth (loL p q tests more) i)) (nth (loL p q tests more) i) (dep_dep _) (hok i hlt).2.z (fun h => Nat.le_trans ((hok i hlt).2.t h) zG) st hsd) ⟨Sr, Sr, Sr, trivial⟩ call40) (Mv rfl rfl (Mf rfl rfl (step_extract Sr rfl) (Mf rfl rfl (step_extract Sr rfl) ?_)))
  refine JM_stepX rfl rfl rfl rfl (step_alloc (fun w => zeroValue46 w) zr46E) fun b22 => ?_
  refine JM_stepU rfl rfl rfl (step_store_box ty46E Sr Sr zS) fun _ => ?_
  refine Mf rfl rfl (step_assign Sr) (JM_nil ?_)
  refine K_freeze (t := 22) zS Frz.box ?_
  refine J_seq (J_seq ?_)
  refine J_draw [⟨0, [21], true⟩, ⟨1, [129], true⟩, ⟨2, [130], true⟩, ⟨3, [23, 131], true⟩, ⟨4, [131, 132], true⟩, ⟨5, [131, 133], true⟩, ⟨6, [134], true⟩, ⟨7, [20, 135], true⟩, ⟨8, [17, 135], true⟩, ⟨9, [19, 135], true⟩, ⟨10, [135, 137, 138], true⟩, ⟨11, [135, 139], true⟩, ⟨12, [135, 136, 140], true⟩, ⟨13, [135, 141], true⟩, ⟨14, [142], true⟩, ⟨15, [22, 143], true⟩, ⟨16, [18, 143], true⟩, ⟨17, [19, 143], true⟩, ⟨18, [143, 145, 146], true⟩, ⟨19, [143, 147], true⟩, ⟨20, [143, 144, 148], true⟩, ⟨21, [143, 149], true⟩] rfl (by kernel_rfl) ?_
  refine Mv rfl rfl (Mf rfl rfl (step_neq Sr Sr) (Mv rfl rfl ?_))
  refine Mk rfl rfl Sr rfl (step_move Sr) ?_
  refine Mg rfl rfl Sr rfl (fun hw => step_neq (Sub.w hw) Sr) (Mf rfl rfl (step_pick_or Sr Sr) (Mv rfl rfl ?_))
  refine Mk rfl rfl Sr rfl (step_load_ptr ty46E Sr) ?_
  refine Mk rfl rfl Sr rfl (step_move Sr) ?_
  refine Mk rfl rfl Sr rfl (step_move Sr) ?_
  refine Mg rfl rfl Sr rfl (fun hw => step_indexAddr_sl (i := i) underlying42 ty46P (Sub.w hw) (Sub.w hw) rfl (gb (show i < (hiL p q tests more).length from hlt))) (Mg rfl rfl Sr rfl (fun hw => step_load_ptr ty46E (Sub.trans (Sub.w hw) Sub.pps)) (Mg rfl rfl Sr rfl (fun hw => step_call0 (SameE_spec (impQ s (nth (hiL p q tests more) i) st) (nth (hiL p q tests more) i) (imp_psz (hok i hlt).1 zG) (hok i hlt).1.z) ⟨(Sub.w hw), (Sub.w hw), trivial⟩ call43) (Mf rfl rfl (step_pick_or Sr Sr) (Mv rfl rfl ?_))))
  refine Mk rfl rfl Sr rfl (step_load_ptr ty46E Sr) ?_
  refine Mk rfl rfl Sr rfl (step_move Sr) ?_
  refine Mk rfl rfl Sr rfl (step_move Sr) ?_
  refine Mg rfl rfl Sr rfl (fun hw => step_indexAddr_sl (i := i) underlying42 ty46P (Sub.w hw) (Sub.w hw) rfl (gb (show i < (loL p q tests more).length from hlt))) (Mg rfl rfl Sr rfl (fun hw => step_load_ptr ty46E (Sub.trans (Sub.w hw) Sub.pps)) (Mg rfl rfl Sr rfl (fun hw => step_call0 (SameE_spec (impQ s (nth (loL p q tests more) i) st) (nth (loL p q tests more) i) (imp_psz (hok i hlt).2 zG) (hok i hlt).2.z) ⟨(Sub.w hw), (Sub.w hw), trivial⟩ call43) (Mf rfl rfl (step_pick_or Sr Sr) (JM_nil ?_))))
  refine J_cond Sr (fun h150 => ?_) (fun h150 => ?_)
  ·
   try simp only [NF] at h150
   refine J_exit (J_region (Jm rfl (Js rfl (step_add Sr Sr z6) (Ja rfl (JL_nil ?_)))))
   refine K_againL (σ := Nat) (s := i) (i + 1) zO zG (zU) (LSub.rfl)
  try simp only [NF] at h150
  obtain ⟨⟨⟨e1, e2⟩, n1⟩, n2⟩ : ((impE s (nth (hiL p q tests more) i) st = 0 ∧ impE s (nth (loL p q tests more) i) st = 0) ∧ sameE (impQ s (nth (hiL p q tests more) i) st) (nth (hiL p q tests more) i) = false) ∧ sameE (impQ s (nth (loL p q tests more) i) st) (nth (loL p q tests more) i) = false := by simpa using h150
  have hp1 : prightM s (nth (hiL p q tests more) i) st = true := right_of_imp e1
  have hp2 : prightM s (nth (loL p q tests more) i) st = true := right_of_imp e2
  have hsame := push_law hlt hp1 hp2 n1 n2
  refine J_skip (Jr (Jl rfl ty46E Sr (Jl rfl ty46E Sr (Js rfl (step_call0 (SameE_spec (impQ s (nth (hiL p q tests more) i) st) (impQ s (nth (loL p q tests more) i) st) (imp_psz (hok i hlt).1 zG) (imp_psz (hok i hlt).2 zG)) ⟨Sr, Sr, trivial⟩ call43) (Js rfl (step_not Sr) ?_)))))
  refine JL_nil ?_
  refine J_cond Sr (fun h154 => ?_) (fun h154 => ?_)
  ·
   try simp only [NF] at h154
   exfalso; rw [hsame] at h154; simp at h154
  try simp only [NF] at h154
  refine J_skip (J_region (Jm rfl (Js rfl (step_add Sr Sr z6) (Ja rfl (JL_nil ?_)))))
  refine K_againL (σ := Nat) (s := i) (i + 1) zO zG (zU) (LSub.rfl)
 try simp only [NF] at h106
 refine J_exit (Jr (Jm rfl (Ja rfl (JL_nil (J_ret ?_)))))
 refine K_ret1 (t := 12) rfl () (Sub.bool ?_)
 rfl
end Lg
