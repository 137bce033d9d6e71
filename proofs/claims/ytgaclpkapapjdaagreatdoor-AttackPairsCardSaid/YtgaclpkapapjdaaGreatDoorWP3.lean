/- The walk and the plain law of AttackPairs. -/
import Derived.Test.YtgaclpkapapjdaaGreatDoorG
set_option linter.unusedVariables false
set_option linter.unusedSimpArgs false
set_option linter.unusedSectionVars false
namespace Lg
open Go Go.Proofs Go.Proofs.Tryz
noncomputable def mutK (q : GConj) (i k : Nat) : Bool := (List.range k).any fun k => nth (nth (attL q) i) k && nth (nth (attL q) k) i
noncomputable def mutT (q : GConj) (i : Nat) : Bool := (List.range i).any fun i => mutK q i q.Atoms.length
theorem mutK_succ (q : GConj) (i k : Nat) : mutK q i (k + 1) = (mutK q i k || (nth (nth (attL q) i) k && nth (nth (attL q) k) i)) := by
  unfold mutK; rw [List.range_succ, List.any_append]; simp
theorem mutT_succ (q : GConj) (i : Nat) : mutT q (i + 1) = (mutT q i || mutK q i q.Atoms.length) := by
  unfold mutT; rw [List.range_succ, List.any_append]; simp
theorem mutT_all (q : GConj) : mutT q q.Atoms.length = mutM q := rfl
theorem attRow_len (q : GConj) {i : Nat} (h : i < q.Atoms.length) : (nth (attL q) i).length = q.Atoms.length := by rw [attL_nth q h, attB_len]
set_option maxHeartbeats 8000000 in
theorem lawPairs_spec (q : GConj) (hl : q.Atoms.length ≤ 9223372036854775807) : Fun1 prog 3 [rConj.ty q] (tV (.bool true)) := by
 refine Spec.enter func3 rfl rfl fun h0 w0 fr0 => ?_
 refine Jr (Js rfl (step_box (R := rConj) Sr) (Ja rfl (JL_nil (Jr (Js rfl (step_call0 (head36_spec) trivial call14) ?_)))))
 refine Ja rfl (JL_nil (J_seq (Jr (Jl rfl ty25 Sr (Js rfl (step_call0 (Few_spec q 8 hl) ⟨Sr, Sr, trivial⟩ call15) ?_)))))
 refine Js rfl (step_not Sr) (Jm rfl (Jg rfl Sr rfl (fun hw => step_load_ptr ty25 Sr) (Jg rfl Sr rfl (fun hw => step_call0 (attackValid_spec q) ⟨(Sub.w hw), trivial⟩ call16) (Jg rfl Sr rfl (fun hw => step_not (Sub.w hw)) (Js rfl (step_pick_or Sr Sr) ?_)))))
 refine JL_nil ?_
 refine J_cond Sr (fun h22 => ?_) (fun h22 => ?_)
 ·
  try simp only [NF] at h22
  refine Jr (Jm rfl (Ja rfl (JL_nil (J_ret ?_))))
  refine K_ret1 (t := 2) rfl () Sr
 try simp only [NF] at h22
 obtain ⟨hfw, hq⟩ := h22
 have hal := attL_len q
 refine J_skip (Jr (Jl rfl ty25 Sr ?_))
 refine Js rfl (step_eqTy (B := tTup [tSl (rSl rBool) (attL q), tV (.int .i64 0)]) (step_call0 (Attacks_spec q) (by exact ⟨Sr, trivial⟩) call17) (by rw [errV, if_pos hq, if_pos hq])) ?_
 refine Jm rfl (Js rfl (step_extract Sr rfl) (Js rfl (step_extract Sr rfl) (Ja rfl (Ja rfl (JL_nil ?_)))))
 refine Jr (Jl rfl ty25 Sr ?_)
 refine Js rfl (step_eqTy (B := tTup [tV (.bool (firstM q)), tV (.int .i64 0)]) (step_call0 (FirstOrder_spec q) (by exact ⟨Sr, trivial⟩) call18) (by rw [errV, if_pos hq, hq, Bool.true_and])) ?_
 refine Jm rfl (Js rfl (step_extract Sr rfl) (Js rfl (step_extract Sr rfl) (Ja rfl (Ja rfl (JL_nil ?_)))))
 refine Jr (Js rfl (step_fieldAddr so25 Sr rfl) (Jl rfl ty23 Sr (Js rfl (step_len_sl underlying23 Sr) (Ja rfl (JL_nil ?_)))))
 refine J_seq (Jr (Jm rfl (Js rfl (step_neq Sr Sr) (Jm rfl (Jg rfl Sr rfl (fun hw => step_move Sr) ?_)))))
 refine Jg rfl Sr rfl (fun hw => step_neq (Sub.w hw) Sr) (Js rfl (step_pick_or Sr Sr) (Jm rfl (Jg rfl Sr rfl (fun hw => step_move Sr) (Jg rfl Sr rfl (fun hw => step_len_sl underlying29 (Sub.w hw)) (Jg rfl Sr rfl (fun hw => step_move Sr) ?_)))))
 refine Jg rfl Sr rfl (fun hw => step_neq (Sub.w hw) (Sub.w hw)) (Js rfl (step_pick_or Sr Sr) (JL_nil ?_))
 refine J_cond Sr (fun h48 => ?_) (fun h48 => ?_)
 ·
  try simp only [NF] at h48
  exfalso; rcases h48 with (h | h) | h; exact h trivial; exact h trivial; omega
 try simp only [NF] at h48
 refine J_skip (Jr (Ja rfl (JL_nil (J_seq (Jr ?_)))))
 refine Ja rfl (JL_nil (J_block ?_))
 refine J_loopL (σ := Nat) (fun i => i ≤ q.Atoms.length) (fun i => upd (upd (upd (upd (upd (upd env0 3 (tV (.bool true))) 4 (tSl (rSl rBool) (attL q))) 6 (tV (.bool (firstM q)))) 8 (tV (.int .i64 q.Atoms.length))) 9 (tV (.bool false))) 10 (tV (.int .i64 i))) (fun i => []) (fun i => q.Atoms.length - i) 0 zG (.u (.u (.u (.u (.u (SubE.upd Sr SubE.any)))))) (LSub.rfl) ?_
 rintro i hil
 refine J_seq (Jr (Jm rfl (Jm rfl (Js rfl (step_lss Sr Sr) (JL_nil ?_)))))
 refine J_cond Sr (fun h51 => ?_) (fun h51 => ?_)
 ·
  try simp only [NF] at h51
  have hlt : i < q.Atoms.length := by omega
  have hli := attRow_len q hlt
  refine J_skip (J_seq (J_block (Jr (Jm rfl (Jm rfl ?_)))))
  refine Js rfl (step_indexAddr_sl (i := i) underlying29 ty35 Sr Sr (by rfl) (gb zG)) ?_
  refine Jl rfl ty35 Sr (Js rfl (step_len_sl underlying35 Sr) (Jm rfl (Js rfl (step_neq Sr Sr) (Jm rfl (Jg rfl Sr rfl (fun hw => step_move Sr) ?_)))))
  refine Jg rfl Sr rfl (fun hw => step_move Sr) ?_
  refine Jg rfl Sr rfl (fun hw => step_indexAddr_sl (i := i) underlying29 ty35 (Sub.w hw) (Sub.w hw) (by rfl) (gb (by have hwq := hw; (try simp only [beqB_t, beqB_f, NF] at hwq); omega))) ?_
  refine Jg rfl Sr rfl (fun hw => step_load_ptr ty35 (Sub.w hw)) (Jg rfl Sr rfl (fun hw => step_move Sr) ?_)
  refine Jg rfl Sr rfl (fun hw => step_indexAddr_sl (i := i) underlying35 ty4 (Sub.w hw) (Sub.w hw) (by rfl) (gb (by have hwq := hw; (try simp only [beqB_t, beqB_f, NF] at hwq); omega))) ?_
  refine Jg rfl Sr rfl (fun hw => step_load_ptr ty4 (Sub.w hw)) (Js rfl (step_pick_or Sr Sr) (JL_nil ?_))
  refine J_cond Sr (fun h69 => ?_) (fun h69 => ?_)
  ·
   try simp only [NF] at h69
   exfalso; rcases h69 with h | h; omega; rw [att_self hlt] at h; cases h
  try simp only [NF] at h69
  refine J_skip (J_region (Jm rfl (Js rfl (step_add Sr Sr z6) (Ja rfl (JL_nil ?_)))))
  refine K_againL (σ := Nat) (s := i) (i + 1) zO zG (.u (.u (.u (.u (.u (SubE.upd Sr SubE.any)))))) (LSub.rfl)
 try simp only [NF] at h51
 refine J_exit (J_seq (Jr (Ja rfl (JL_nil (J_block ?_)))))
 refine J_loopL (σ := Nat) (fun i => i ≤ q.Atoms.length) (fun i => upd (upd (upd (upd (upd (upd env0 3 (tV (.bool true))) 4 (tSl (rSl rBool) (attL q))) 6 (tV (.bool (firstM q)))) 8 (tV (.int .i64 q.Atoms.length))) 9 (tV (.bool (mutT q i)))) 11 (tV (.int .i64 i))) (fun i => []) (fun i => q.Atoms.length - i) 0 zG (.u (.u (.u (.u (.u (SubE.upd Sr SubE.any)))))) (LSub.rfl) ?_
 rintro i hil
 refine J_seq (Jr (Jm rfl (Jm rfl (Js rfl (step_lss Sr Sr) (JL_nil ?_)))))
 refine J_cond Sr (fun h72 => ?_) (fun h72 => ?_)
 ·
  try simp only [NF] at h72
  have hlt : i < q.Atoms.length := by omega
  have hli := attRow_len q hlt
  refine J_skip (J_seq (J_block (Jr (Ja rfl (JL_nil ?_)))))
  refine J_block ?_
  refine J_loopL (σ := Nat) (fun k => k ≤ q.Atoms.length) (fun k => upd (upd (upd (upd (upd (upd (upd (upd (upd env0 3 (tV (.bool true))) 4 (tSl (rSl rBool) (attL q))) 6 (tV (.bool (firstM q)))) 8 (tV (.int .i64 q.Atoms.length))) 9 (tV (.bool (mutT q i || mutK q i k)))) 11 (tV (.int .i64 i))) 12 (tV (.int .i64 k))) 70 (tV (.int .i64 i))) 71 (tV (.int .i64 q.Atoms.length))) (fun k => []) (fun k => q.Atoms.length - k) 0 zG (.u (.u (.u (.u (SubE.upd (Sub.bool (by simp [mutK])) (.u (.u (.u (SubE.upd Sr SubE.any))))))))) (LSub.rfl) ?_
  rintro k hkl
  refine J_seq (Jr (Jm rfl (Jm rfl (Js rfl (step_lss Sr Sr) (JL_nil ?_)))))
  refine J_cond Sr (fun h77 => ?_) (fun h77 => ?_)
  ·
   try simp only [NF] at h77
   have hkt : k < q.Atoms.length := by omega
   have hlk := attRow_len q hkt
   refine J_skip (J_seq (J_block (Jr (Jm rfl (Jm rfl ?_)))))
   refine Jg rfl Sr rfl (fun hw => step_move Sr) (Jg rfl Sr rfl (fun hw => step_move Sr) ?_)
   refine Jg rfl Sr rfl (fun hw => step_indexAddr_sl (i := i) underlying29 ty35 (Sub.w hw) (Sub.w hw) (by rfl) (gb (by have hwq := hw; (try simp only [beqB_t, beqB_f, NF] at hwq); omega))) ?_
   refine Jg rfl Sr rfl (fun hw => step_load_ptr ty35 (Sub.w hw)) (Jg rfl Sr rfl (fun hw => step_move Sr) ?_)
   refine Jg rfl Sr rfl (fun hw => step_indexAddr_sl (i := k) underlying35 ty4 (Sub.w hw) (Sub.w hw) (by rfl) (gb (by have hwq := hw; (try simp only [beqB_t, beqB_f, NF] at hwq); omega))) ?_
   refine Jg rfl Sr rfl (fun hw => step_load_ptr ty4 (Sub.w hw)) (Jg rfl Sr rfl (fun hw => step_move (Sub.w hw)) (Jh rfl Sr rfl (fun hw => step_move Sr) (Jh rfl Sr rfl (fun hw => step_move Sr) ?_)))
   refine Jh rfl Sr rfl (fun hw => step_indexAddr_sl (i := k) underlying29 ty35 (Sub.w hw) (Sub.w hw) (by rfl) (gb (by have hwq := hw; (try simp only [beqB_t, beqB_f, NF] at hwq); omega))) ?_
   refine Jh rfl Sr rfl (fun hw => step_load_ptr ty35 (Sub.w hw)) (Jh rfl Sr rfl (fun hw => step_move Sr) ?_)
   refine Jh rfl Sr rfl (fun hw => step_indexAddr_sl (i := i) underlying35 ty4 (Sub.w hw) (Sub.w hw) (by rfl) (gb (by have hwq := hw; (try simp only [beqB_t, beqB_f, NF] at hwq); omega))) ?_
   refine Jh rfl Sr rfl (fun hw => step_load_ptr ty4 (Sub.w hw)) (Jg rfl Sr rfl (fun hw => step_pick_and (Sub.w hw) (Sub.ww hw)) (Js rfl (step_pick_or Sr Sr) (Ja rfl (JL_nil (Jr ?_)))))
   refine Ja rfl (JL_nil (J_block ?_))
   refine J_loopL (σ := Nat) (fun m => m ≤ q.Atoms.length) (fun m => upd (upd (upd (upd (upd (upd (upd (upd (upd (upd (upd (upd (upd (upd (upd env0 3 (tV (.bool true))) 4 (tSl (rSl rBool) (attL q))) 6 (tV (.bool (firstM q)))) 8 (tV (.int .i64 q.Atoms.length))) 9 (tV (.bool ((mutT q i || mutK q i k) || (nth (nth (attL q) i) k && nth (nth (attL q) k) i))))) 11 (tV (.int .i64 i))) 12 (tV (.int .i64 k))) 13 (tV (.int .i64 m))) 70 (tV (.int .i64 i))) 71 (tV (.int .i64 q.Atoms.length))) 75 (tV (.int .i64 k))) 76 (tV (.int .i64 q.Atoms.length))) 80 (tV (.bool (mutT q i || mutK q i k)))) 81 (tV (.bool (mutT q i || mutK q i k)))) 98 (tV (.bool ((mutT q i || mutK q i k) || (nth (nth (attL q) i) k && nth (nth (attL q) k) i))))) (fun m => []) (fun m => q.Atoms.length - m) 0 zG (.u (.u (.u (.u (.u (.u (.u (.u (.u (.u (.u (.u (.u (.u (SubE.upd Sr SubE.any))))))))))))))) (LSub.rfl) ?_
   rintro m hml
   refine J_seq (Jr (Jm rfl (Jm rfl (Js rfl (step_lss Sr Sr) (JL_nil ?_)))))
   refine J_cond Sr (fun h101 => ?_) (fun h101 => ?_)
   ·
    try simp only [NF] at h101
    have hmt : m < q.Atoms.length := by omega
    refine J_skip (J_seq (J_block (Jr (Jm rfl (Jm rfl ?_)))))
    refine Js rfl (step_indexAddr_sl (i := i) underlying29 ty35 Sr Sr (by rfl) (gb zG)) ?_
    refine Jl rfl ty35 Sr (Jm rfl ?_)
    refine Js rfl (step_indexAddr_sl (i := k) underlying35 ty4 Sr Sr (by rfl) (gb zG)) ?_
    refine Jl rfl ty4 Sr (Jm rfl (Jg rfl Sr rfl (fun hw => step_move Sr) (Jg rfl Sr rfl (fun hw => step_move Sr) ?_)))
    refine Jg rfl Sr rfl (fun hw => step_indexAddr_sl (i := k) underlying29 ty35 (Sub.w hw) (Sub.w hw) (by rfl) (gb (by have hwq := hw; (try simp only [beqB_t, beqB_f, NF] at hwq); omega))) ?_
    refine Jg rfl Sr rfl (fun hw => step_load_ptr ty35 (Sub.w hw)) (Jg rfl Sr rfl (fun hw => step_move Sr) ?_)
    refine Jg rfl Sr rfl (fun hw => step_indexAddr_sl (i := m) underlying35 ty4 (Sub.w hw) (Sub.w hw) (by rfl) (gb (by have hwq := hw; (try simp only [beqB_t, beqB_f, NF] at hwq); omega))) ?_
    refine Jg rfl Sr rfl (fun hw => step_load_ptr ty4 (Sub.w hw)) (Js rfl (step_pick_and Sr Sr) (Jm rfl (Jg rfl Sr rfl (fun hw => step_move Sr) (Jg rfl Sr rfl (fun hw => step_move Sr) (Jg rfl Sr rfl (fun hw => step_neq (Sub.w hw) (Sub.w hw)) ?_)))))
    refine Js rfl (step_pick_and Sr Sr) (Jm rfl (Jg rfl Sr rfl (fun hw => step_move Sr) (Jg rfl Sr rfl (fun hw => step_move Sr) ?_)))
    refine Jg rfl Sr rfl (fun hw => step_indexAddr_sl (i := i) underlying29 ty35 (Sub.w hw) (Sub.w hw) (by rfl) (gb (by have hwq := hw; (try simp only [beqB_t, beqB_f, NF] at hwq); omega))) ?_
    refine Jg rfl Sr rfl (fun hw => step_load_ptr ty35 (Sub.w hw)) (Jg rfl Sr rfl (fun hw => step_move Sr) ?_)
    refine Jg rfl Sr rfl (fun hw => step_indexAddr_sl (i := m) underlying35 ty4 (Sub.w hw) (Sub.w hw) (by rfl) (gb (by have hwq := hw; (try simp only [beqB_t, beqB_f, NF] at hwq); omega))) ?_
    refine Jg rfl Sr rfl (fun hw => step_load_ptr ty4 (Sub.w hw)) (Jg rfl Sr rfl (fun hw => step_not (Sub.w hw)) (Js rfl (step_pick_and Sr Sr) (Jm rfl (Jg rfl Sr rfl (fun hw => step_move Sr) (Jg rfl Sr rfl (fun hw => step_move Sr) ?_)))))
    refine Jg rfl Sr rfl (fun hw => step_indexAddr_sl (i := k) underlying29 ty35 (Sub.w hw) (Sub.w hw) (by rfl) (gb (by have hwq := hw; (try simp only [beqB_t, beqB_f, NF] at hwq); omega))) ?_
    refine Jg rfl Sr rfl (fun hw => step_load_ptr ty35 (Sub.w hw)) (Jg rfl Sr rfl (fun hw => step_move Sr) ?_)
    refine Jg rfl Sr rfl (fun hw => step_indexAddr_sl (i := i) underlying35 ty4 (Sub.w hw) (Sub.w hw) (by rfl) (gb (by have hwq := hw; (try simp only [beqB_t, beqB_f, NF] at hwq); omega))) ?_
    refine Jg rfl Sr rfl (fun hw => step_load_ptr ty4 (Sub.w hw)) (Jg rfl Sr rfl (fun hw => step_not (Sub.w hw)) (Js rfl (step_pick_and Sr Sr) (JL_nil ?_)))
    refine J_cond Sr (fun h144 => ?_) (fun h144 => ?_)
    ·
     try simp only [NF] at h144
     exfalso; obtain ⟨⟨⟨⟨a1, a2⟩, a3⟩, a4⟩, a5⟩ := h144; rw [pair_law hlt hkt hmt a1 a2 (fun e => a3 (by rw [e])) a4] at a5; cases a5
    try simp only [NF] at h144
    refine J_skip (J_region (Jm rfl (Js rfl (step_add Sr Sr z6) (Ja rfl (JL_nil ?_)))))
    refine K_againL (σ := Nat) (s := m) (m + 1) zO zG (.u (.u (.u (.u (.u (.u (.u (.u (.u (.u (.u (.u (.u (.u (SubE.upd Sr SubE.any))))))))))))))) (LSub.rfl)
   try simp only [NF] at h101
   refine J_exit (J_region (Jm rfl (Js rfl (step_add Sr Sr z6) (Ja rfl (JL_nil ?_)))))
   refine K_againL (σ := Nat) (s := k) (k + 1) zO zG (.u (.u (.u (.u (SubE.upd (Sub.bool (by rw [mutK_succ, Bool.or_assoc])) (.u (.u (.u (SubE.upd Sr SubE.any))))))))) (LSub.rfl)
  try simp only [NF] at h77
  obtain rfl : k = q.Atoms.length := by omega
  refine J_exit (J_region (Jm rfl (Js rfl (step_add Sr Sr z6) (Ja rfl (JL_nil ?_)))))
  refine K_againL (σ := Nat) (s := i) (i + 1) zO zG (.u (SubE.upd (Sub.bool (by rw [mutT_succ])) (.u (.u (.u (SubE.upd Sr SubE.any)))))) (LSub.rfl)
 try simp only [NF] at h72
 obtain rfl : i = q.Atoms.length := by omega
 refine J_exit (Jr (Jm rfl (Jm rfl (Jg rfl Sr rfl (fun hw => step_move Sr) (Jg rfl Sr rfl (fun hw => step_move Sr) ?_)))))
 refine Jg rfl Sr rfl (fun hw => step_not (Sub.w hw)) (Jg rfl Sr rfl (fun hw => step_eql_bool underlying4 (Sub.w hw) (Sub.w hw)) (Js rfl (step_pick_and Sr Sr) (Ja rfl (JL_nil (J_ret ?_)))))
 refine K_ret1 (t := 2) rfl () ?_
 refine Sub.bool ?_
 rw [mutT_all, first_mut]; simp
end Lg
