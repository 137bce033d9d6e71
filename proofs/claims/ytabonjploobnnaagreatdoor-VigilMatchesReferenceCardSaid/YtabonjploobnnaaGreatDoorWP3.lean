/- The walk and the plain law of VigilMatchesReference. -/
import Derived.Test.YtabonjploobnnaaGreatDoorH
set_option linter.unusedVariables false
set_option linter.unusedSimpArgs false
set_option linter.unusedSectionVars false
namespace Lg
open Go Go.Proofs Go.Proofs.Tryz
theorem step_keep {C : Cx} {o : Oper} {E : Env} {L L' : List SP} {A : Ty} (h : Step (X := Unit) C o E L (fun _ => A) (fun _ => L')) (s : LSub L' L) : Step1 C o E L A := fun a w hp m n l sp st fr next Q hk => h a w hp m n l sp st fr next Q fun x v w' h' m' l' sp' st' hv => hk x v w' h' m' l' sp' (s _ _ st') hv
theorem refV_eq {rules : List GRule} {ps ps' : PS} {c c' : Int} (e1 : ps = ps') (e2 : c = c') : refV rules ps c = refV rules ps' c' := by rw [e1, e2]
set_option maxHeartbeats 8000000 in
theorem lawMatches_spec (rules : List GRule) (l : List GOp) (hl : l.length * 96 ≤ 140737488351232) : Fun1 prog 3 [tSl rRule rules, tSl rOp l] (tV (.bool true)) := by
 refine Spec.enter func3 rfl rfl fun h0 w0 fr0 => ?_
 refine Jr (Ja rfl (JL_nil (Jr (Js rfl (step_call0 (head_spec) trivial call9) (Ja rfl ?_)))))
 refine JL_nil (J_seq (Jr (Jm rfl (Jm rfl (Js rfl (step_call0 (few_spec _ _ zG) ⟨Sr, Sr, trivial⟩ call10) ?_)))))
 refine Js rfl (step_not Sr) (JL_nil ?_)
 refine J_cond Sr (fun h15 => ?_) (fun h15 => ?_)
 ·
  try simp only [NF] at h15
  refine Jr (Jm rfl (Ja rfl (JL_nil (J_ret ?_))))
  refine K_retv (rv := .tmp 4) rfl () (.tmp Sr) Sr
 try simp only [NF] at h15
 have hF := FewO.of (by simpa using h15)
 have hR := hF.rf
 refine J_skip (Jr (Jm rfl ?_))
 refine Jx rfl (step_call (Sel.none _) (NewV_spec hR) ⟨Sr, trivial⟩ call11) fun b1 => ?_
 refine Ja rfl (JL_nil (Jr (Jm rfl ?_)))
 refine Jx rfl (step_call (Sel.none _) (RNew_spec rules) ⟨Sr, trivial⟩ call12) fun b2 => ?_
 refine Ja rfl (JL_nil (J_seq (Jr (Ja rfl (JL_nil ?_)))))
 refine J_block ?_
 refine J_loopL (σ := Nat) (fun i => i ≤ l.length) (fun i => upd (upd (upd (upd (upd env0 1 (tSl rOp l)) 5 (tV (.bool true))) 6 (tAt b1 0)) 7 (tAt b2 0)) 8 (tV (.int .i64 (i : Int)))) (fun i => [vigO rules b1 (presM (l.take i)) (workM rules (l.take i)), refO rules b2 (presM (l.take i)) (workM rules (l.take i))]) (fun i => l.length - i) 0 (by exact Nat.zero_le _) (zU) (zL) ?_
 rintro i hi
 refine J_seq (Jr (Jm rfl (Jm rfl (Js rfl (step_len_sl underlying23 Sr) (Js rfl (step_lss Sr Sr) ?_)))))
 refine JL_nil ?_
 refine J_cond Sr (fun h24 => ?_) (fun h24 => ?_)
 ·
  try simp only [NF] at h24
  have hlt : i < l.length := by omega
  have hok := presM_ok (l.take i)
  have hok2 := presM_ok (l.take (i + 1))
  have h122 := pres12 (i := i + 1) hF.ll
  have h11 : (presM (l.take i)).length ≤ 11 := Nat.le_trans (presM_len _) (by rw [List.length_take]; have := hF.ll; omega)
  have hwb := workM_bd rules (l := l.take i) (take_len12 hF.ll)
  refine J_skip (J_seq (J_block (Jr (Jm rfl (Jm rfl ?_)))))
  refine Jm rfl ?_
  refine Js rfl (step_indexAddr_sl  underlying23 ty37 Sr Sr rfl (gb (by exact hlt))) ?_
  refine Jl rfl ty37 Sr ?_
  refine Jx rfl (step_call zS (hF.step b1 hlt) ⟨Sr, Sr, trivial⟩ call13) fun v32 => ?_
  refine Ja rfl (JL_nil (Jr (Ja rfl (JL_nil (J_seq ?_)))))
  refine Jr (Jm rfl (Jm rfl ?_))
  refine Js rfl (step_indexAddr_sl  underlying23 ty37 Sr Sr rfl (gb (by exact hlt))) ?_
  refine Js rfl (step_fieldAddr so37 Sr rfl) (Jl rfl ty4 Sr (JL_nil ?_))
  refine J_cut (X := Unit) (fun _ => upd (upd (upd (upd (upd (upd (upd (upd (upd (upd (upd (upd (upd (upd (upd env0 1 (tSl rOp l)) 5 (tV (.bool true))) 6 (tAt b1 0)) 7 (tAt b2 0)) 8 (tV (.int .i64 (i : Int)))) 9 (tV (.int .i64 (opE (presM (l.take i)) (nth l i))))) 10 (tV (.int .i64 (opE (presM (l.take i)) (nth l i))))) 21 (tV (.int .i64 (i : Int)))) 22 (tSl rOp l)) 27 (tAt b1 0)) 28 (tSl rOp l)) 29 (tV (.int .i64 (i : Int)))) 32 (tV (.int .i64 (opE (presM (l.take i)) (nth l i))))) 33 (tSl rOp l)) 34 (tV (.int .i64 (i : Int)))) (fun _ => [vigO rules b1 (presM (l.take (i + 1))) (workM rules (l.take (i + 1))), refO rules b2 (presM (l.take (i + 1))) (workM rules (l.take (i + 1)))]) ?_ ?_
  ·
   skip
   refine J_cond Sr (fun h37 => ?_) (fun h37 => ?_)
   ·
    try simp only [NF] at h37
    refine J_region (Jm rfl (Jm rfl (Jm rfl ?_)))
    refine Js rfl (step_indexAddr_sl  underlying23 ty37 Sr Sr rfl (gb (by exact hlt))) ?_
    refine Js rfl (step_fieldAddr so37 Sr rfl) (Jl rfl ty3 Sr ?_)
    refine Jx rfl (step_call zS (RDrop_spec rules b2 hok (workM rules (l.take i)) _ zG) ⟨Sr, Sr, trivial⟩ call14) fun v44 => ?_
    refine Ja rfl (JL_nil ?_)
    refine K_cut (E := fun _ => env0) () (.u (.u (.u (.u (.u (.u (.u (.u (SubE.upd (Sub.int (by rw [opE, if_pos h37])) (zU)))))))))) (LSub.cons zS SPs.rfl (LSub.cons (A := refO rules b2 (remP (presM (l.take i)) (nth l i).Number) (workM rules (l.take i))) zS (box_eq (refV_eq (by rw [presM_succ hlt, opP, if_pos h37]) (by rw [workM_succ rules hlt, opW, if_pos h37, Int.add_zero]))) zL))
   try simp only [NF] at h37
   refine J_draw [⟨0, [7], true⟩, ⟨1, [1], true⟩, ⟨2, [8], true⟩, ⟨3, [46, 47], true⟩, ⟨4, [48], true⟩, ⟨5, [49], true⟩, ⟨6, [1], true⟩, ⟨7, [8], true⟩, ⟨8, [51, 52], true⟩, ⟨9, [53], true⟩, ⟨10, [54], true⟩, ⟨11, [45, 50, 55], false⟩, ⟨12, [56], true⟩] rfl (by kernel_rfl) ?_
   refine Mv rfl rfl (Mv rfl rfl (Mv rfl rfl ?_))
   refine Mf rfl rfl (step_indexAddr_sl  underlying23 ty37 Sr Sr rfl (gb (by exact hlt))) ?_
   refine Mf rfl rfl (step_fieldAddr so37 Sr rfl) (Mf rfl rfl (step_load_ptr ty3 Sr) (Mv rfl rfl (Mv rfl rfl ?_)))
   refine Mf rfl rfl (step_indexAddr_sl  underlying23 ty37 Sr Sr rfl (gb (by exact hlt))) ?_
   refine Mf rfl rfl (step_fieldAddr so37 Sr rfl) (Mf rfl rfl (step_load_ptr ty35 Sr) ?_)
   refine JM_stepX rfl rfl rfl rfl (step_call zS (RPut_spec rules hR b2 hok (workM rules (l.take i)) _ _ h11 zG) ⟨Sr, Sr, Sr, trivial⟩ call15) fun v56 => ?_
   refine Mf rfl rfl (step_assign Sr) (JM_nil ?_)
   refine K_cut (E := fun _ => env0) () (.u (.u (.u (.u (.u (.u (.u (.u (SubE.upd (Sub.int (by rw [opE, if_neg (by simp [h37])])) (zU)))))))))) (LSub.cons zS SPs.rfl (LSub.cons (A := refO rules b2 (putP (presM (l.take i)) (nth l i).Number (nth l i).Fact) ((workM rules (l.take i)) + putW rules (presM (l.take i)) (nth l i).Number (nth l i).Fact)) zS (box_eq (refV_eq (by rw [presM_succ hlt, opP, if_neg (by simp [h37])]) (by rw [workM_succ rules hlt, opW, if_neg (by simp [h37])]))) zL))
  rintro _
  refine J_seq ?_
  refine J_drawX [⟨0, [9], 0⟩, ⟨1, [10], 0⟩, ⟨2, [57, 58], 0⟩, ⟨3, [59], 0⟩, ⟨4, [6, 60], 0⟩, ⟨6, [7, 60], 0⟩, ⟨7, [60, 63], 0⟩, ⟨8, [60, 64], 0⟩, ⟨5, [60, 61], 1⟩, ⟨9, [60, 65], 1⟩, ⟨10, [60, 62, 66], 0⟩, ⟨11, [60, 67], 0⟩, ⟨12, [68], 0⟩, ⟨13, [6, 69], 0⟩, ⟨15, [7, 69], 0⟩, ⟨14, [69, 70], 1⟩, ⟨16, [69, 72], 1⟩, ⟨17, [69, 71, 73], 0⟩, ⟨18, [69, 74], 0⟩, ⟨19, [69, 75], 0⟩] rfl (by kernel_rfl) ?_
  refine JX_step rfl rfl rfl rfl (fun _ => step_move Sr) ?_
  refine JX_step rfl rfl rfl rfl (fun _ => step_move Sr) ?_
  refine JX_step rfl rfl rfl rfl (fun _ => step_neq Sr Sr) ?_
  refine JX_step rfl rfl rfl rfl (fun _ => step_move Sr) ?_
  refine JX_stepG rfl rfl rfl rfl (Gd.plain Sr) rfl rfl (fun hw _ => step_move Sr) ?_
  refine JX_stepG rfl rfl rfl rfl (Gd.plain Sr) rfl rfl (fun hw _ => step_move Sr) ?_
  refine JX_stepG rfl rfl rfl rfl (Gd.plain Sr) rfl rfl (fun hw _ => step_nilCheck (Sub.w hw)) ?_
  refine JX_stepG rfl rfl rfl rfl (Gd.plain Sr) rfl rfl (fun hw _ => step_fieldAddr_own so43 (Sub.w hw) rfl) ?_
  refine JX_lookG rfl rfl rfl rfl (Gd.plain Sr) rfl rfl (fun hw => step_keep (step_call zS (WorkV_spec (rules := rules) (ps := (presM (l.take (i + 1)))) (w := (workM rules (l.take (i + 1)))) b1) ⟨Sub.w hw, trivial⟩ call16) zL) ?_
  refine JX_lookG rfl rfl rfl rfl (Gd.plain Sr) rfl rfl (fun hw => step_load_fld ty3 (Sub.w hw) rfl zS) ?_
  refine JX_stepG rfl rfl rfl rfl (Gd.plain Sr) rfl rfl (fun hw _ => step_neq (Sub.w hw) (Sub.w hw)) ?_
  refine JX_step rfl rfl rfl rfl (fun _ => step_pick_or Sr Sr) ?_
  refine JX_step rfl rfl rfl rfl (fun _ => step_move Sr) ?_
  refine JX_stepG rfl rfl rfl rfl (Gd.plain Sr) rfl rfl (fun hw _ => step_move Sr) ?_
  refine JX_stepG rfl rfl rfl rfl (Gd.plain Sr) rfl rfl (fun hw _ => step_move Sr) ?_
  refine JX_lookG rfl rfl rfl rfl (Gd.plain Sr) rfl rfl (fun hw => step_keep (step_call zS (ListW_spec hR hok2 (w := (workM rules (l.take (i + 1)))) b1 h122) ⟨Sub.w hw, trivial⟩ call18) zL) ?_
  refine JX_lookG rfl rfl rfl rfl (Gd.plain Sr) rfl rfl (fun hw => step_keep (step_call zS (RViol_spec rules hR b2 hok2 (workM rules (l.take (i + 1))) h122) ⟨Sub.w hw, trivial⟩ call19) zL) ?_
  refine JX_stepG rfl rfl rfl rfl (Gd.plain Sr) rfl rfl (fun hw _ => step_call0 (SetsN_spec (vioN_ok hR h122) (vioN_ok hR h122)) ⟨Sub.w hw, Sub.w hw, trivial⟩ call17) ?_
  refine JX_stepG rfl rfl rfl rfl (Gd.plain Sr) rfl rfl (fun hw _ => step_not (Sub.w hw)) ?_
  refine JX_step rfl rfl rfl rfl (fun _ => step_pick_or Sr Sr) ?_
  refine JX_nil ?_
  refine J_cond Sr (fun h76 => ?_) (fun h76 => ?_)
  ·
   try simp only [NF] at h76
   exfalso; simp [sS, refV] at h76
  try simp only [NF] at h76
  refine J_skip (J_region (Jm rfl (Js rfl (step_add Sr Sr z6) (Ja rfl (JL_nil ?_)))))
  refine K_againL (σ := Nat) (s := i) (i + 1) zO (by show i + 1 ≤ _; omega) (zU) (LSub.rfl)
 try simp only [NF] at h24
 obtain rfl : i = l.length := by omega
 refine J_exit (Jr (Jm rfl (Ja rfl (JL_nil (J_ret ?_)))))
 refine K_drop (S := [vigO rules b1 (presM (l.take l.length)) (workM rules (l.take l.length))]) zS ?_
 refine K_drop (S := [refO rules b2 (presM (l.take l.length)) (workM rules (l.take l.length))]) zS ?_
 refine K_retv (rv := .tmp 4) rfl () (.tmp Sr) Sr
end Lg
