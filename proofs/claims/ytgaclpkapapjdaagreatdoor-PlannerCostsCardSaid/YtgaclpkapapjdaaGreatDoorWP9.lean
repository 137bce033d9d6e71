/- The walk and the plain law of PlannerCosts. -/
import Derived.Test.YtgaclpkapapjdaaGreatDoorF
set_option linter.unusedVariables false
set_option linter.unusedSimpArgs false
set_option linter.unusedSectionVars false
namespace Lg
open Go Go.Proofs Go.Proofs.Tryz
set_option maxHeartbeats 4000000 in
theorem lawCosts_spec (s : GSchema) (hn : ∀ t ∈ s.Tables, ∀ x ∈ namesL t.Attrs, x.size ≤ 9223372036854775807) (p : GPlan) (hpl : PlLenE p) (st : GStats) (hdl : st.Distinct.length ≤ 9223372036854775807) : Fun1 prog 9 [rSchema.ty s, rPlS.ty p, rStats.ty st] (tV (.bool true)) := by
 refine Spec.enter func9 rfl rfl fun h0 w0 fr0 => ?_
 refine Jr (Js rfl (step_box (R := rSchema) Sr) (Js rfl (step_box (R := rPlS) Sr) (Js rfl (step_box (R := rStats) Sr) (Ja rfl (JL_nil ?_)))))
 refine Jr (Js rfl (step_call0 (head35_spec ) trivial call34) (Ja rfl (JL_nil (J_seq (Jr ?_)))))
 refine Jl rfl ty41 Sr (Jl rfl ty46E Sr ?_)
 refine Js rfl (step_call0 (SmallE_spec s p hpl [] 0 (fun t ht => by cases ht)) ⟨Sr, Sr, Sub.nilsl, Sr, trivial⟩ call19) ?_
 refine Js rfl (step_not Sr) (Jm rfl ?_)
 refine Jk rfl Sr rfl (step_load_ptr ty60 Sr) ?_
 refine Jg rfl Sr rfl (fun hw => step_call0 (rFew35_spec st hdl) ⟨(Sub.w hw), trivial⟩ call35) (Jg rfl Sr rfl (fun hw => step_not (Sub.w hw)) (Js rfl (step_pick_or Sr Sr) (JL_nil ?_)))
 refine J_cond Sr (fun h27 => ?_) (fun h27 => ?_)
 ·
  try simp only [NF] at h27
  refine Jr (Jm rfl (Ja rfl (JL_nil (J_ret ?_))))
  refine K_ret1 (t := 6) rfl () (Sub.bool ?_)
  rfl
 try simp only [NF] at h27
 obtain ⟨hse, hfw⟩ : smallE s p [] 0 = true ∧ fewP st = true := by simpa using h27
 obtain ⟨hsm, _, _⟩ := small_in hse hn hpl
 obtain ⟨_, hd30, hda⟩ := fewp_in hfw
 have hsd : ∀ d ∈ st.Distinct, d.length ≤ 1000000000000 := fun d hd => by have := hda d hd; omega
 have hst1 : ∀ t ∈ s.Tables, t.Attrs.length ≤ 1000 := fun t ht => Nat.le_trans (hsm.t t ht) zG
 have hq0 := hsm.q
 have hec := err_cases s p st
 refine J_skip (Jr (Jl rfl ty41 Sr (Jl rfl ty46E Sr (Jl rfl ty60 Sr (Js rfl (step_call0 (EstimateE_spec s hsm.z (depP p) p (dep_dep _) hq0.z st hsd) ⟨Sr, Sr, Sr, trivial⟩ call38) ?_)))))
 refine Jm rfl (Js rfl (step_extract Sr rfl) (Js rfl (step_extract Sr rfl) (Ja rfl (Ja rfl (JL_nil ?_)))))
 refine Jr (Jl rfl ty41 Sr (Jl rfl ty46E Sr (Jl rfl ty60 Sr (Js rfl (step_call0 (Improve_spec s hsm.z hst1 (depP p) p (dep_dep _) hq0.z (fun h => Nat.le_trans (hq0.t h) zG) st hsd) ⟨Sr, Sr, Sr, trivial⟩ call40) (Jm rfl ?_)))))
 refine Js rfl (step_extract Sr rfl) (Js rfl (step_extract Sr rfl) ?_)
 refine Jx rfl (step_alloc (fun w => zeroValue46 w) zr46E) fun b10 => ?_
 refine Ju (step_store_box ty46E Sr Sr zS) fun _ => ?_
 refine JL_freeze (t := 10) (Sel.take (Sel.none _)) Frz.box ?_
 refine Ja rfl (JL_nil (J_seq (Jr (Jm rfl (Js rfl (step_neq Sr Sr) ?_)))))
 refine Jm rfl ?_
 refine Jk rfl Sr rfl (step_move Sr) ?_
 refine Jg rfl Sr rfl (fun hw => step_neq (Sub.w hw) Sr) (Js rfl (step_pick_or Sr Sr) (JL_nil ?_))
 refine J_cond Sr (fun h48 => ?_) (fun h48 => ?_)
 ·
  try simp only [NF] at h48
  obtain ⟨hr, e1, e2⟩ | ⟨hr, e0, e1, e2⟩ := hec
  ·
   exfalso
   rw [e1, e2] at h48
   simp at h48
  refine Jr (Jm rfl (Jm rfl ?_))
  refine Jk rfl Sr rfl (step_move Sr) ?_
  refine Jk rfl Sr rfl (step_move Sr) ?_
  refine Jg rfl Sr rfl (fun hw => step_eql (Sub.w hw) (Sub.w hw)) (Js rfl (step_pick_and Sr Sr) (Jm rfl ?_))
  refine Jk rfl Sr rfl (step_move Sr) ?_
  refine Jg rfl Sr rfl (fun hw => step_eql (Sub.w hw) Sr) (Js rfl (step_pick_and Sr Sr) (Jm rfl ?_))
  refine Jk rfl Sr rfl (step_move Sr) ?_
  refine Jg rfl Sr rfl (fun hw => step_eql (Sub.w hw) Sr) (Js rfl (step_pick_and Sr Sr) (Ja rfl (JL_nil (J_ret ?_))))
  refine K_ret1 (t := 6) rfl () (Sub.bool ?_)
  rw [show estM s (depP p) p st = 0 from e0, e1, e2]; rfl
 try simp only [NF] at h48
 obtain ⟨hr, e1, e2⟩ | ⟨hr, e0, e1, e2⟩ := hec
 rotate_left
 ·
  exfalso; rw [e1, e2] at h48; simp at h48
 obtain ⟨hr1, hq1, c1⟩ := imp_ok hr hq0 zG
 obtain ⟨hr2, hq2, c2⟩ := imp_ok hr1 hq1 zG
 have hb0 := est_bd hr hsm.t hq0.z
 have hb2 := est_bd hr2 hsm.t hq2.z
 have g1 := (err_t hr1)
 have g2 := (err_t hr2).1
 refine J_skip (Jr (Jl rfl ty41 Sr (Jl rfl ty46E Sr (Jl rfl ty60 Sr (Js rfl (step_call0 (EstimateE_spec s hsm.z (depP (impQ s p st)) (impQ s p st) (dep_dep _) hq1.z st hsd) ⟨Sr, Sr, Sr, trivial⟩ call38) ?_)))))
 refine Jm rfl (Js rfl (step_extract Sr rfl) (Js rfl (step_extract Sr rfl) (Ja rfl (Ja rfl (JL_nil ?_)))))
 refine Jr (Jl rfl ty41 Sr (Jl rfl ty46E Sr (Jl rfl ty60 Sr (Js rfl (step_call0 (Improve_spec s hsm.z hst1 (depP (impQ s p st)) (impQ s p st) (dep_dep _) hq1.z (fun h => Nat.le_trans (hq1.t h) zG) st hsd) ⟨Sr, Sr, Sr, trivial⟩ call40) (Jm rfl ?_)))))
 refine Js rfl (step_extract Sr rfl) (Js rfl (step_extract Sr rfl) ?_)
 refine Jx rfl (step_alloc (fun w => zeroValue46 w) zr46E) fun b14 => ?_
 refine Ju (step_store_box ty46E Sr Sr zS) fun _ => ?_
 refine JL_freeze (t := 14) (Sel.take (Sel.none _)) Frz.box ?_
 refine Ja rfl (JL_nil (Jr (Jl rfl ty41 Sr (Jl rfl ty46E Sr (Jl rfl ty60 Sr ?_)))))
 refine Js rfl (step_call0 (EstimateE_spec s hsm.z (depP (impQ s (impQ s p st) st)) (impQ s (impQ s p st) st) (dep_dep _) hq2.z st hsd) ⟨Sr, Sr, Sr, trivial⟩ call38) (Jm rfl (Js rfl (step_extract Sr rfl) (Js rfl (step_extract Sr rfl) (Ja rfl (Ja rfl ?_)))))
 refine JL_nil (Jr (Jm rfl (Jm rfl ?_)))
 refine Jk rfl Sr rfl (step_move Sr) ?_
 refine Jg rfl Sr rfl (fun hw => step_eql (Sub.w hw) Sr) (Js rfl (step_pick_and Sr Sr) (Jm rfl ?_))
 refine Jk rfl Sr rfl (step_move Sr) ?_
 refine Jg rfl Sr rfl (fun hw => step_eql (Sub.w hw) Sr) (Js rfl (step_pick_and Sr Sr) (Jm rfl ?_))
 refine Jk rfl Sr rfl (step_move Sr) ?_
 refine Jg rfl Sr rfl (fun hw => step_eql (Sub.w hw) Sr) (Js rfl (step_pick_and Sr Sr) (Jm rfl ?_))
 refine Jk rfl Sr rfl (step_move Sr) ?_
 refine Jk rfl Sr rfl (step_move Sr) ?_
 refine Jg rfl Sr rfl (fun hw => step_leq (Sub.w hw) (Sub.w hw)) (Js rfl (step_pick_and Sr Sr) (Jm rfl ?_))
 refine Jk rfl Sr rfl (step_move Sr) ?_
 refine Jk rfl Sr rfl (step_move Sr) ?_
 refine Jg rfl Sr rfl (fun hw => step_leq (Sub.w hw) (Sub.w hw)) (Js rfl (step_pick_and Sr Sr) (Jm rfl ?_))
 refine Jk rfl Sr rfl (step_move Sr) ?_
 refine Jg rfl Sr rfl (fun hw => step_geq (Sub.w hw) Sr) (Js rfl (step_pick_and Sr Sr) (Jm rfl ?_))
 refine Jk rfl Sr rfl (step_move Sr) ?_
 refine Jg rfl Sr rfl (fun hw => step_leq (Sub.w hw) Sr) (Js rfl (step_pick_and Sr Sr) (Ja rfl (JL_nil (J_ret ?_))))
 refine K_ret1 (t := 6) rfl () (Sub.bool ?_)
 simp only [estE, impQ] at c1 c2 hb0 hb2 g1 g2 ⊢
 simp [g1.1, g1.2, g2, c1, c2, hb0.2, hb2.1]
end Lg
