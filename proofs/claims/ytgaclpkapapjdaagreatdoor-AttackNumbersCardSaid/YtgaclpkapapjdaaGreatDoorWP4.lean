/- The walk and the plain law of AttackNumbers. -/
import Derived.Test.YtgaclpkapapjdaaGreatDoorG
set_option linter.unusedVariables false
set_option linter.unusedSimpArgs false
set_option linter.unusedSectionVars false
namespace Lg
open Go Go.Proofs Go.Proofs.Tryz
theorem attRowL (q : GConj) {i : Nat} (h : i < q.Atoms.length) : (nth (attL q) i).length = q.Atoms.length := by rw [attL_nth q h, attB_len]
theorem cl_nn {q : GConj} {w : Int} {a b : List Int} (hab : ∀ t ∈ a, 0 ≤ t → ClV q w b t) {t : Int} (h : ClV q w a t) : 0 ≤ t → ClV q w b t := by
  induction h with
  | base ht => exact hab _ ht
  | step h1 h2 h3 h4 ih => exact fun _ => ClV.step h1 h2 (fun t' ht' h0' => ih t' ht' h0' h0') h4
theorem few_facts {q : GConj} {n : Int} (h : fewM q n = true) : (∀ i, i < q.Atoms.length → (nth q.Atoms i).Cols.length ≤ 14 ∧ (nth q.Atoms i).Terms.length ≤ 14) ∧ (q.Atoms.length : Int) ≤ n ∧ q.Consts.length ≤ 30 ∧ q.Vars ≤ 40 := by
  unfold fewM at h
  simp only [Bool.and_eq_true, decide_eq_true_eq] at h
  obtain ⟨⟨⟨h1, h2⟩, h3⟩, h4⟩ := h
  exact ⟨fun i hi => by simpa using rall_iff.1 h1 i hi, h2, h3, h4⟩
theorem uni_len {q : GConj} {vars : List Int} (h : ∀ i, i < q.Atoms.length → (nth q.Atoms i).Terms.length ≤ 14) : (uniV q vars).length ≤ vars.length + q.Atoms.length * 14 := by
  unfold uniV
  rw [List.length_append, List.length_flatMap]
  have : ∀ l : List GAtom, (∀ a ∈ l, a.Terms.length ≤ 14) → (l.map fun a => a.Terms.length).sum ≤ l.length * 14 := by
    intro l
    induction l with
    | nil => intro _; simp
    | cons a l ih =>
      intro hl
      have h1 := hl a List.mem_cons_self
      have h2 := ih fun x hx => hl x (List.mem_cons_of_mem _ hx)
      simp only [List.map_cons, List.sum_cons, List.length_cons]; omega
  have h2 := this q.Atoms fun a ha => by
    obtain ⟨i, hi, rfl⟩ := List.getElem_of_mem ha
    rw [← nth_get hi]; exact h i hi
  omega
theorem closL_eq {q : GConj} {w : Int} {vars : List Int} (hq : validQ q = true) (hv : ∀ v ∈ vars, 0 ≤ v ∧ v < q.Vars) : closL q w vars = clsL q w vars := by
  rw [closL, if_pos]
  refine ⟨hq, ?_⟩
  rw [List.any_eq_false]
  intro v hx
  have := hv v hx
  simp; omega
theorem vars_len (l : List Int) : (varsQ l).length ≤ l.length := by
  have h1 := setM_len (l.filter fun x => decide (0 ≤ x))
  have h2 := List.length_filter_le (fun x => decide (0 ≤ x)) l
  unfold varsQ; omega
theorem keyV_in {q : GConj} (hq : validQ q = true) {i : Nat} (hi : i < q.Atoms.length) : ∀ v ∈ varsQ (keyT q i), 0 ≤ v ∧ v < q.Vars := fun v hv => by
  obtain ⟨h1, h2⟩ := ((vars_both _).2 v).1 hv
  exact ⟨h2, terms_lt hq (nth_mem hi) _ (List.mem_of_mem_take h1)⟩
theorem keyV_cl {q : GConj} (hq : validQ q = true) {i : Nat} {s : Int} (h0 : 0 ≤ s) : ClV q i (varsQ (keyT q i)) s ↔ ClV q i (keyT q i) s :=
  ⟨fun h => cl_nn (fun t ht _ => ClV.base (((vars_both _).2 t).1 ht).1) h h0, fun h => cl_nn (fun t ht h0 => ClV.base (((vars_both _).2 t).2 ⟨ht, h0⟩)) h h0⟩
theorem keys_law1 {q : GConj} (hq : validQ q = true) {i k : Nat} (hi : i < q.Atoms.length) (hk : k < q.Atoms.length) (h : nth (nth (attL q) i) k = true) : contM (clsL q i (varsQ (keyT q i))) (varsQ (nth q.Atoms i).Terms) = false ∧ contM (clsL q i (varsQ (keyT q i))) (varsQ (nth q.Atoms k).Terms) = false := by
  obtain ⟨⟨s, a1, a2, a3⟩, ⟨r, b1, b2, b3⟩⟩ := keys_both hi hk h
  have key : ∀ j s, s ∈ (nth q.Atoms j).Terms → 0 ≤ s → ¬ ClV q i (keyT q i) s → contM (clsL q i (varsQ (keyT q i))) (varsQ (nth q.Atoms j).Terms) = false := fun j s h1 h2 h3 => by
    rw [Bool.eq_false_iff]
    intro hc
    have := (cont_iff (cls_inc _ _ _) (vars_both _).1).1 hc s (((vars_both _).2 s).2 ⟨h1, h2⟩)
    exact h3 ((keyV_cl hq h2).1 (cls_mem.1 this).2.2)
  exact ⟨key i s a1 a2 a3, key k r b1 b2 b3⟩
theorem keys_law2 {q : GConj} (hq : validQ q = true) {i k : Nat} (hi : i < q.Atoms.length) (hk : k < q.Atoms.length) (hne : k ≠ i) {s : Int} (h1 : s ∈ varsQ (nth q.Atoms i).Terms) (h2 : s ∈ varsQ (nth q.Atoms k).Terms) (h3 : s ∉ clsL q i (varsQ (keyT q i))) : nth (nth (attL q) i) k = true := by
  obtain ⟨a1, a2⟩ := ((vars_both _).2 s).1 h1
  obtain ⟨b1, _⟩ := ((vars_both _).2 s).1 h2
  exact keys_common hi hk hne a1 b1 a2 fun hc => h3 (cls_mem.2 ⟨a2, terms_lt hq (nth_mem hi) _ a1, (keyV_cl hq a2).2 hc⟩)
set_option maxHeartbeats 8000000 in
theorem lawKeys_spec (q : GConj) (hl : q.Atoms.length ≤ 9223372036854775807) : Fun1 prog 7 [rConj.ty q] (tV (.bool true)) := by
 refine Spec.enter func7 rfl rfl fun h0 w0 fr0 => ?_
 refine Jr (Js rfl (step_box (R := rConj) Sr) (Ja rfl (JL_nil (Jr (Js rfl (step_call0 (head36_spec) trivial call14) ?_)))))
 refine Ja rfl (JL_nil (J_seq (Jr (Jl rfl ty25 Sr (Js rfl (step_call0 (Few_spec q 8 hl) ⟨Sr, Sr, trivial⟩ call15) ?_)))))
 refine Js rfl (step_not Sr) (Jm rfl (Jg rfl Sr rfl (fun hw => step_load_ptr ty25 Sr) (Jg rfl Sr rfl (fun hw => step_call0 (attackValid_spec q) ⟨(Sub.w hw), trivial⟩ call16) (Jg rfl Sr rfl (fun hw => step_not (Sub.w hw)) (Js rfl (step_pick_or Sr Sr) ?_)))))
 refine JL_nil ?_
 refine J_cond Sr (fun h21 => ?_) (fun h21 => ?_)
 ·
  try simp only [NF] at h21
  refine Jr (Jm rfl (Ja rfl (JL_nil (J_ret ?_))))
  refine K_ret1 (t := 2) rfl () Sr
 try simp only [NF] at h21
 obtain ⟨hfw, hq⟩ := h21
 have hal := attL_len q
 obtain ⟨hf1, hf2, hf3, hf4⟩ := few_facts hfw
 refine J_skip (Jr (Jl rfl ty25 Sr ?_))
 refine Js rfl (step_eqTy (B := tTup [tSl (rSl rBool) (attL q), tV (.int .i64 0)]) (step_call0 (Attacks_spec q) (by exact ⟨Sr, trivial⟩) call17) (by rw [errV, if_pos hq, if_pos hq])) ?_
 refine Jm rfl (Js rfl (step_extract Sr rfl) (Js rfl (step_extract Sr rfl) (Ja rfl (Ja rfl (JL_nil ?_)))))
 refine J_seq (Jr (Jm rfl (Js rfl (step_neq Sr Sr) (Jm rfl (Jg rfl Sr rfl (fun hw => step_move Sr) ?_)))))
 refine Jg rfl Sr rfl (fun hw => step_len_sl underlying29 (Sub.w hw)) (Jg rfl Sr rfl (fun hw => step_fieldAddr so25 Sr rfl) (Jg rfl Sr rfl (fun hw => step_load_ptr ty23 (Sub.w hw)) (Jg rfl Sr rfl (fun hw => step_len_sl underlying23 (Sub.w hw)) (Jg rfl Sr rfl (fun hw => step_neq (Sub.w hw) (Sub.w hw)) (Js rfl (step_pick_or Sr Sr) ?_)))))
 refine JL_nil ?_
 refine J_cond Sr (fun h37 => ?_) (fun h37 => ?_)
 ·
  try simp only [NF] at h37
  exfalso; rcases h37 with h | h; exact h trivial; omega
 try simp only [NF] at h37
 refine J_skip (J_seq (Jr (Ja rfl (JL_nil (J_block ?_)))))
 refine J_loopL (σ := Nat) (fun i => i ≤ q.Atoms.length) (fun i => upd (upd (upd (upd env0 1 (tPtr rConj q)) 3 (tV (.bool true))) 4 (tSl (rSl rBool) (attL q))) 6 (tV (.int .i64 i))) (fun i => []) (fun i => q.Atoms.length - i) 0 zG (.u (.u (.u (SubE.upd Sr SubE.any)))) (LSub.rfl) ?_
 rintro i hil
 refine J_seq (Jr (Jm rfl (Jm rfl (Js rfl (step_len_sl underlying29 Sr) (Js rfl (step_lss Sr Sr) ?_)))))
 refine JL_nil ?_
 refine J_cond Sr (fun h41 => ?_) (fun h41 => ?_)
 ·
  try simp only [NF] at h41
  have hlt : i < q.Atoms.length := by omega
  have hli := attRowL q hlt
  obtain ⟨hfc, hft⟩ := hf1 i hlt
  have hva := valid_atom hq hlt
  have hkl : (keyT q i).length ≤ 14 := by unfold keyT; rw [List.length_take]; omega
  have hvl := vars_len (keyT q i)
  have hvo := vars_len (nth q.Atoms i).Terms
  have hun := uni_len (q := q) (vars := (varsQ (keyT q i))) (fun j hj => (hf1 j hj).2)
  have hc1 : (clsL q i (varsQ (keyT q i))).length ≤ 1000000000000 := by unfold clsL; rw [List.length_map]; have := List.length_filter_le (fun (v : Nat) => @decide (ClV q i (varsQ (keyT q i)) v) (Classical.propDecidable _)) (List.range q.Vars.toNat); rw [List.length_range] at this; omega
  refine J_skip (J_seq (J_block (Jr (Js rfl (step_fieldAddr so25 Sr rfl) (Jl rfl ty23 Sr ?_)))))
  refine Jm rfl ?_
  refine Js rfl (step_indexAddr_sl (i := i) underlying23 ty38 Sr Sr (by rfl) (gb zG)) ?_
  refine Jl rfl ty38 Sr ?_
  refine Jx rfl (step_alloc (fun w => zeroValue38 w) zr38) fun v7 => ?_
  refine Ju (step_store_box ty38 Sr Sr zS) fun _ => ?_
  refine JL_freeze (t := 7) (Sel.take (Sel.none _)) Frz.box ?_
  refine JL_nil (J_seq ?_)
  refine J_draw [⟨0, [1], true⟩, ⟨1, [6], true⟩, ⟨2, [7], true⟩, ⟨3, [51], true⟩, ⟨4, [7], true⟩, ⟨5, [53], true⟩, ⟨6, [52, 54], true⟩, ⟨7, [55], true⟩, ⟨8, [49, 50, 56], true⟩, ⟨9, [57], true⟩] rfl (by kernel_rfl) ?_
  refine Mf rfl rfl (step_load_ptr ty25 Sr) (Mv rfl rfl (Mf rfl rfl (step_fieldAddr so38 Sr rfl) (Mf rfl rfl (step_load_ptr ty36 Sr) (Mf rfl rfl (step_fieldAddr so38 Sr rfl) (Mf rfl rfl (step_load_ptr ty3 Sr) ?_)))))
  refine Mf rfl rfl (step_slice_toI (n := (nth q.Atoms i).Key.toNat) underlying36 ty3 Sr Sr (by show (nth q.Atoms i).Key = _; omega) (by show _ ≤ (nth q.Atoms i).Terms.length; omega)) ?_
  refine Mf rfl rfl (step_call0 (varsL_spec (keyT q i) zG) ⟨Sr, trivial⟩ call32) ?_
  refine Mf rfl rfl (step_eqTy (B := tSl rInt (clsL q i (varsQ (keyT q i)))) (step_call0 (Closure_spec q i (varsQ (keyT q i)) zG zG) (by exact ⟨Sr, Sr, Sr, trivial⟩) call28) (by rw [closL_eq hq (keyV_in hq hlt)])) ?_
  refine Mf rfl rfl (step_assign Sr) (JM_nil (Jr (Js rfl (step_fieldAddr so38 Sr rfl) (Jl rfl ty36 Sr (Js rfl (step_call0 (varsL_spec (nth q.Atoms i).Terms zG) ⟨Sr, trivial⟩ call32) ?_)))))
  refine Ja rfl (JL_nil (Jr (Ja rfl (JL_nil (J_block ?_)))))
  refine J_loopL (σ := Nat) (fun k => k ≤ q.Atoms.length) (fun k => upd (upd (upd (upd (upd (upd (upd (upd (upd (upd (upd (upd (upd (upd (upd (upd env0 1 (tPtr rConj q)) 3 (tV (.bool true))) 4 (tSl (rSl rBool) (attL q))) 6 (tV (.int .i64 i))) 7 (tPtr rAtom (nth q.Atoms i))) 8 (tSl rInt (clsL q i (varsQ (keyT q i))))) 9 (tSl rInt (varsQ (nth q.Atoms i).Terms))) 10 (tV (.int .i64 k))) 38 (tV (.int .i64 i))) 39 (tSl (rSl rBool) (attL q))) 46 (tV (.int .i64 i))) 48 (rAtom.ty (nth q.Atoms i))) 50 (tV (.int .i64 i))) 56 (tSl rInt (varsQ (keyT q i)))) 57 (tSl rInt (clsL q i (varsQ (keyT q i))))) 60 (tSl rInt (varsQ (nth q.Atoms i).Terms))) (fun k => []) (fun k => q.Atoms.length - k) 0 zG (.u (.u (.u (.u (.u (.u (.u (.u (.u (.u (.u (.u (.u (.u (.u (SubE.upd Sr SubE.any)))))))))))))))) (LSub.rfl) ?_
  rintro k hkl2
  refine J_seq (Jr (Jm rfl (Jm rfl (Jm rfl ?_))))
  refine Js rfl (step_indexAddr_sl (i := i) underlying29 ty35 Sr Sr (by rfl) (gb zG)) ?_
  refine Jl rfl ty35 Sr (Js rfl (step_len_sl underlying35 Sr) (Js rfl (step_lss Sr Sr) (JL_nil ?_)))
  refine J_cond Sr (fun h67 => ?_) (fun h67 => ?_)
  ·
   try simp only [NF] at h67
   have hkt : k < q.Atoms.length := by omega
   have hfk := (hf1 k hkt).2
   have hvk := vars_len (nth q.Atoms k).Terms
   refine J_skip (J_seq (J_block (Jr (Js rfl (step_fieldAddr so25 Sr rfl) (Jl rfl ty23 Sr ?_)))))
   refine Jm rfl ?_
   refine Js rfl (step_indexAddr_sl (i := k) underlying23 ty38 Sr Sr (by rfl) (gb zG)) ?_
   refine Js rfl (step_fieldAddr so38 Sr rfl) (Jl rfl ty36 Sr (Js rfl (step_call0 (varsL_spec (nth q.Atoms k).Terms zG) ⟨Sr, trivial⟩ call32) (Ja rfl (JL_nil (J_seq ?_)))))
   refine Jr (Jm rfl (Jm rfl ?_))
   refine Js rfl (step_indexAddr_sl (i := i) underlying29 ty35 Sr Sr (by rfl) (gb zG)) ?_
   refine Jl rfl ty35 Sr (Jm rfl ?_)
   refine Js rfl (step_indexAddr_sl (i := k) underlying35 ty4 Sr Sr (by rfl) (gb zG)) ?_
   refine Jl rfl ty4 Sr (Jm rfl (Jg rfl Sr rfl (fun hw => step_move Sr) (Jg rfl Sr rfl (fun hw => step_move Sr) (Jg rfl Sr rfl (fun hw => step_call0 (ContL_spec (clsL q i (varsQ (keyT q i))) (varsQ (nth q.Atoms i).Terms) hc1 zG) ⟨(Sub.w hw), (Sub.w hw), trivial⟩ call30) (Jg rfl Sr rfl (fun hw => step_move (Sub.w hw)) ?_)))))
   refine Jh rfl Sr rfl (fun hw => step_move Sr) (Jh rfl Sr rfl (fun hw => step_move Sr) (Jh rfl Sr rfl (fun hw => step_call0 (ContL_spec (clsL q i (varsQ (keyT q i))) (varsQ (nth q.Atoms k).Terms) hc1 zG) ⟨(Sub.w hw), (Sub.w hw), trivial⟩ call30) (Jg rfl Sr rfl (fun hw => step_pick_or (Sub.w hw) (Sub.ww hw)) (Js rfl (step_pick_and Sr Sr) (JL_nil ?_)))))
   refine J_cond Sr (fun h93 => ?_) (fun h93 => ?_)
   ·
    try simp only [NF] at h93
    exfalso; obtain ⟨a1, a2⟩ := h93; obtain ⟨b1, b2⟩ := keys_law1 hq hlt hkt a1; rcases a2 with h | h; rw [b1] at h; cases h; rw [b2] at h; cases h
   try simp only [NF] at h93
   refine J_skip (Jr (Ja rfl (JL_nil (J_block ?_))))
   refine J_loopL (σ := Nat) (fun n => n ≤ (varsQ (nth q.Atoms i).Terms).length) (fun n => upd (upd (upd (upd (upd (upd (upd (upd (upd (upd (upd (upd (upd (upd (upd (upd (upd (upd (upd (upd (upd (upd (upd (upd (upd (upd env0 1 (tPtr rConj q)) 3 (tV (.bool true))) 4 (tSl (rSl rBool) (attL q))) 6 (tV (.int .i64 i))) 7 (tPtr rAtom (nth q.Atoms i))) 8 (tSl rInt (clsL q i (varsQ (keyT q i))))) 9 (tSl rInt (varsQ (nth q.Atoms i).Terms))) 10 (tV (.int .i64 k))) 11 (tSl rInt (varsQ (nth q.Atoms k).Terms))) 12 (tV (.int .i64 n))) 38 (tV (.int .i64 i))) 39 (tSl (rSl rBool) (attL q))) 46 (tV (.int .i64 i))) 48 (rAtom.ty (nth q.Atoms i))) 50 (tV (.int .i64 i))) 56 (tSl rInt (varsQ (keyT q i)))) 57 (tSl rInt (clsL q i (varsQ (keyT q i))))) 60 (tSl rInt (varsQ (nth q.Atoms i).Terms))) 61 (tV (.int .i64 k))) 62 (tSl (rSl rBool) (attL q))) 63 (tV (.int .i64 i))) 72 (tV (.int .i64 k))) 76 (tSl rInt (varsQ (nth q.Atoms k).Terms))) 77 (tSl (rSl rBool) (attL q))) 78 (tV (.int .i64 i))) 81 (tV (.int .i64 k))) (fun n => []) (fun n => (varsQ (nth q.Atoms i).Terms).length - n) 0 zG (.u (.u (.u (.u (.u (.u (.u (.u (.u (.u (.u (.u (.u (.u (.u (.u (.u (.u (.u (.u (.u (.u (.u (.u (.u (SubE.upd Sr SubE.any)))))))))))))))))))))))))) (LSub.rfl) ?_
   rintro n hnl
   refine J_seq (Jr (Jm rfl (Jm rfl (Js rfl (step_len_sl underlying36 Sr) (Js rfl (step_lss Sr Sr) ?_)))))
   refine JL_nil ?_
   refine J_cond Sr (fun h97 => ?_) (fun h97 => ?_)
   ·
    try simp only [NF] at h97
    have hnt : n < (varsQ (nth q.Atoms i).Terms).length := by omega
    refine J_skip (J_seq (J_block (Jr (Jm rfl (Jm rfl ?_)))))
    refine Js rfl (step_neq Sr Sr) (Jm rfl (Jg rfl Sr rfl (fun hw => step_move Sr) (Jg rfl Sr rfl (fun hw => step_move Sr) (Jg rfl Sr rfl (fun hw => step_move Sr) ?_))))
    refine Jg rfl Sr rfl (fun hw => step_indexAddr_sl (i := n) underlying36 ty3 (Sub.w hw) (Sub.w hw) (by rfl) (gb (by have hwq := hw; (try simp only [beqB_t, beqB_f, NF] at hwq); omega))) ?_
    refine Jg rfl Sr rfl (fun hw => step_load_ptr ty3 (Sub.w hw)) (Jg rfl Sr rfl (fun hw => step_call0 (InL_spec (varsQ (nth q.Atoms k).Terms) (nth (varsQ (nth q.Atoms i).Terms) n) zG) ⟨(Sub.w hw), (Sub.w hw), trivial⟩ call33) (Js rfl (step_pick_and Sr Sr) (Jm rfl (Jg rfl Sr rfl (fun hw => step_move Sr) (Jg rfl Sr rfl (fun hw => step_move Sr) ?_)))))
    refine Jg rfl Sr rfl (fun hw => step_move Sr) ?_
    refine Jg rfl Sr rfl (fun hw => step_indexAddr_sl (i := n) underlying36 ty3 (Sub.w hw) (Sub.w hw) (by rfl) (gb (by have hwq := hw; (try simp only [beqB_t, beqB_f, NF] at hwq); omega))) ?_
    refine Jg rfl Sr rfl (fun hw => step_load_ptr ty3 (Sub.w hw)) (Jg rfl Sr rfl (fun hw => step_call0 (InL_spec (clsL q i (varsQ (keyT q i))) (nth (varsQ (nth q.Atoms i).Terms) n) hc1) ⟨(Sub.w hw), (Sub.w hw), trivial⟩ call33) (Jg rfl Sr rfl (fun hw => step_not (Sub.w hw)) (Js rfl (step_pick_and Sr Sr) (Jm rfl (Jg rfl Sr rfl (fun hw => step_move Sr) ?_)))))
    refine Jg rfl Sr rfl (fun hw => step_move Sr) ?_
    refine Jg rfl Sr rfl (fun hw => step_indexAddr_sl (i := i) underlying29 ty35 (Sub.w hw) (Sub.w hw) (by rfl) (gb (by have hwq := hw; (try simp only [beqB_t, beqB_f, NF] at hwq); omega))) ?_
    refine Jg rfl Sr rfl (fun hw => step_load_ptr ty35 (Sub.w hw)) (Jg rfl Sr rfl (fun hw => step_move Sr) ?_)
    refine Jg rfl Sr rfl (fun hw => step_indexAddr_sl (i := k) underlying35 ty4 (Sub.w hw) (Sub.w hw) (by rfl) (gb (by have hwq := hw; (try simp only [beqB_t, beqB_f, NF] at hwq); omega))) ?_
    refine Jg rfl Sr rfl (fun hw => step_load_ptr ty4 (Sub.w hw)) (Jg rfl Sr rfl (fun hw => step_not (Sub.w hw)) (Js rfl (step_pick_and Sr Sr) (JL_nil ?_)))
    refine J_cond Sr (fun h129 => ?_) (fun h129 => ?_)
    ·
     try simp only [NF] at h129
     exfalso; obtain ⟨⟨⟨a1, a2⟩, a3⟩, a4⟩ := h129; obtain ⟨z, hz, he⟩ := List.any_eq_true.1 a2; have he : z = nth (varsQ (nth q.Atoms i).Terms) n := (by simpa using he); rw [keys_law2 hq hlt hkt (fun e => a1 (by rw [e])) (nth_mem hnt) (he ▸ hz) (fun hm => by rw [List.any_eq_false] at a3; exact a3 _ hm (by simp))] at a4; cases a4
    try simp only [NF] at h129
    refine J_skip (J_region (Jm rfl (Js rfl (step_add Sr Sr z6) (Ja rfl (JL_nil ?_)))))
    refine K_againL (σ := Nat) (s := n) (n + 1) zO zG (.u (.u (.u (.u (.u (.u (.u (.u (.u (.u (.u (.u (.u (.u (.u (.u (.u (.u (.u (.u (.u (.u (.u (.u (.u (SubE.upd Sr SubE.any)))))))))))))))))))))))))) (LSub.rfl)
   try simp only [NF] at h97
   refine J_exit (J_region (Jm rfl (Js rfl (step_add Sr Sr z6) (Ja rfl (JL_nil ?_)))))
   refine K_againL (σ := Nat) (s := k) (k + 1) zO zG (.u (.u (.u (.u (.u (.u (.u (.u (.u (.u (.u (.u (.u (.u (.u (SubE.upd Sr SubE.any)))))))))))))))) (LSub.rfl)
  try simp only [NF] at h67
  refine J_exit (J_region (Jm rfl (Js rfl (step_add Sr Sr z6) (Ja rfl (JL_nil ?_)))))
  refine K_againL (σ := Nat) (s := i) (i + 1) zO zG (.u (.u (.u (SubE.upd Sr SubE.any)))) (LSub.rfl)
 try simp only [NF] at h41
 refine J_exit (Jr (Jm rfl (Ja rfl (JL_nil (J_ret ?_)))))
 refine K_ret1 (t := 2) rfl () Sr
open Go Go.Proofs Go.Proofs.Tryz
structure GAtomT where
  Table : Int
  Cols : List Int
  Terms : Value
  Key : Int
def zAtomT : GAtomT := { Table := 0, Cols := [], Terms := Value.slice none 0 0, Key := 0 }
def fsAtomT : List (SF GAtomT) := [⟨Int, 3, rInt, GAtomT.Table⟩, ⟨List Int, 36, rSl rInt, GAtomT.Cols⟩, ⟨Value, 36, rV, GAtomT.Terms⟩, ⟨Int, 3, rInt, GAtomT.Key⟩]
abbrev rAtomT : Rp GAtomT := rStruct fsAtomT
theorem ty38T : TyOf prog 38 rAtomT := ⟨fun w => isAgg38 w, fun w => sizeOf38 w⟩
theorem so38T : StructOf prog 38 fsAtomT := ⟨⟨_, underlying38, ⟨rfl, rfl, ty3, by decide, ⟨rfl, rfl, ty36, by decide, ⟨rfl, rfl, ty36V38, by decide, ⟨rfl, rfl, ty3, by decide, trivial⟩⟩⟩⟩⟩, ty38T⟩
theorem zr38T : ∀ h, (rAtomT.ty zAtomT).p h (.agg #[Value.int .i64 0, Value.slice none 0 0, Value.slice none 0 0, Value.int .i64 0]) := fun _ => ⟨_, ⟨[Value.int .i64 0], _, rfl, rfl, ⟨[Value.slice none 0 0], _, rfl, ⟨_, rfl, none, ⟨0, Nat.le_refl _⟩, rfl, fun q => absurd rfl q⟩, ⟨[Value.slice none 0 0], _, rfl, ⟨rfl, rfl⟩, ⟨[Value.int .i64 0], _, rfl, rfl, rfl⟩⟩⟩⟩, rfl⟩
theorem Frz.atomT {b : Nat} {t k : Int} {vt : Value} {cols terms : List Int} {S : List SP} : Frz (Lg.box b 38 rAtomT ⟨t, cols, vt, k⟩ :: Lg.own 3 rInt vt terms :: S) (tAt b 0) (tPtr rAtom ⟨t, cols, terms, k⟩) :=
  Frz.upS fun h m cs d hs r => by
    obtain ⟨c0, _, rfl, r0, c1, _, rfl, r1, c2, _, rfl, r2, c3, _, rfl, r3, rz⟩ := r
    exact ⟨c0, _, rfl, rInt.mono (PH.le_join_left h m) r0, c1, _, rfl, (rSl rInt).mono (PH.le_join_left h m) r1, c2, _, rfl, ⟨_, r2.1, Frz.ownV h m vt d hs rfl⟩, c3, _, rfl, rInt.mono (PH.le_join_left h m) r3, rz⟩
theorem atomT_of {h : PH} {v : Value} {x : GAtom} (e : (rAtom.ty x).p h v) : ∃ tv, (rAtomT.ty ⟨x.Table, x.Cols, tv, x.Key⟩).p h v := by
  obtain ⟨cs, r, hp⟩ := rAtom.iff.1 e
  obtain ⟨c0, _, rfl, r0, c1, _, rfl, r1, c2, _, rfl, r2, c3, _, rfl, r3, rz⟩ := (show SF.rel h x fsAtom cs from r)
  obtain ⟨u, rfl, hu⟩ := r2
  refine ⟨u, rAtomT.iff.2 ⟨_, ⟨c0, _, rfl, r0, c1, _, rfl, r1, [u], _, rfl, ⟨rfl, ?_⟩, c3, _, rfl, r3, rz⟩, hp⟩⟩
  obtain ⟨a, cap, e, _⟩ := hu
  rw [e]; rfl
structure GConjT where
  Vars : Int
  Consts : List GValue
  Atoms : Value
def zConjT : GConjT := { Vars := 0, Consts := [], Atoms := Value.slice none 0 0 }
def fsConjT : List (SF GConjT) := [⟨Int, 3, rInt, GConjT.Vars⟩, ⟨List GValue, 22, rSl rValue, GConjT.Consts⟩, ⟨Value, 23, rV, GConjT.Atoms⟩]
abbrev rConjT : Rp GConjT := rStruct fsConjT
theorem ty25T : TyOf prog 25 rConjT := ⟨fun w => isAgg25 w, fun w => sizeOf25 w⟩
theorem so25T : StructOf prog 25 fsConjT := ⟨⟨_, underlying25, ⟨rfl, rfl, ty3, by decide, ⟨rfl, rfl, ty22, by decide, ⟨rfl, rfl, ty23V25, by decide, trivial⟩⟩⟩⟩, ty25T⟩
theorem zr25T : ∀ h, (rConjT.ty zConjT).p h (.agg #[Value.int .i64 0, Value.slice none 0 0, Value.slice none 0 0]) := fun _ => ⟨_, ⟨[Value.int .i64 0], _, rfl, rfl, ⟨[Value.slice none 0 0], _, rfl, ⟨_, rfl, none, ⟨0, Nat.le_refl _⟩, rfl, fun q => absurd rfl q⟩, ⟨[Value.slice none 0 0], _, rfl, ⟨rfl, rfl⟩, rfl⟩⟩⟩, rfl⟩
theorem Frz.conjT {b : Nat} {n : Int} {cs : List GValue} {va : Value} {l : List GAtom} {S : List SP} : Frz (Lg.box b 25 rConjT ⟨n, cs, va⟩ :: Lg.own 38 rAtom va l :: S) (tAt b 0) (tPtr rConj ⟨n, cs, l⟩) :=
  Frz.upS fun h m c d hs r => by
    obtain ⟨c0, _, rfl, r0, c1, _, rfl, r1, c2, _, rfl, r2, rz⟩ := r
    exact ⟨c0, _, rfl, rInt.mono (PH.le_join_left h m) r0, c1, _, rfl, (rSl rValue).mono (PH.le_join_left h m) r1, c2, _, rfl, ⟨_, r2.1, Frz.ownV h m va d hs rfl⟩, rz⟩
theorem JL_exT {X : Type} {C : Cx} {ops : Array Oper} {l : List Oper} {Q : Exit → Act → World → Prop} {E : Env} {L : List SP} {t : Nat} {A : X → Ty} (hE : ∀ h v, (E t).p h v → ∃ x, (A x).p h v) (hk : ∀ x, JL C ops l Q (upd E t (A x)) L) : JL C ops l Q E L := K_exT hE hk
theorem psi_ge_vars {q : GConj} (hq : validQ q = true) : 0 ≤ q.Vars := (valid_bounds hq).1
theorem att_rev {q : GConj} (hq : validQ q = true) {i k : Nat} (hi : i < q.Atoms.length) (hk : k < q.Atoms.length) : nth (nth (attL q) i) k = nth (nth (attL (revQ q)) (q.Atoms.length - 1 - i)) (q.Atoms.length - 1 - k) := by
  rw [attL_nth q hi, attL_nth (revQ q) (by rw [rev_len]; omega), attB_rev hq (by omega) (by omega)]
  rw [show q.Atoms.length - 1 - (q.Atoms.length - 1 - i) = i by omega, show q.Atoms.length - 1 - (q.Atoms.length - 1 - k) = k by omega]
set_option maxHeartbeats 8000000 in
theorem lawNumbers_spec (q : GConj) (hl : q.Atoms.length ≤ 9223372036854775807) : Fun1 prog 4 [rConj.ty q] (tV (.bool true)) := by
 refine Spec.enter func4 rfl rfl fun h0 w0 fr0 => ?_
 refine Jr (Js rfl (step_box (R := rConj) Sr) (Ja rfl (JL_nil (Jr (Js rfl (step_call0 (head36_spec) trivial call14) ?_)))))
 refine Ja rfl (JL_nil (J_seq (Jr (Jl rfl ty25 Sr (Js rfl (step_call0 (Few_spec q 8 hl) ⟨Sr, Sr, trivial⟩ call15) ?_)))))
 refine Js rfl (step_not Sr) (Jm rfl (Jg rfl Sr rfl (fun hw => step_load_ptr ty25 Sr) (Jg rfl Sr rfl (fun hw => step_call0 (attackValid_spec q) ⟨(Sub.w hw), trivial⟩ call16) (Jg rfl Sr rfl (fun hw => step_not (Sub.w hw)) (Js rfl (step_pick_or Sr Sr) ?_)))))
 refine JL_nil ?_
 refine J_cond Sr (fun h28 => ?_) (fun h28 => ?_)
 ·
  try simp only [NF] at h28
  refine Jr (Jm rfl (Ja rfl (JL_nil (J_ret ?_))))
  refine K_ret1 (t := 2) rfl () Sr
 try simp only [NF] at h28
 obtain ⟨hfw, hq⟩ := h28
 obtain ⟨hf1, hf2, hf3, hf4⟩ := few_facts hfw
 have hr := valid_rev hq
 have hrl : (revQ q).Atoms.length = q.Atoms.length := rev_len q
 have hal := attL_len q
 have har := attL_len (revQ q)
 refine J_skip (Jr (Js rfl (step_fieldAddr so25 Sr rfl) (Jl rfl ty23 Sr (Js rfl (step_len_sl underlying23 Sr) (Ja rfl ?_)))))
 refine JL_nil (Jr (Js rfl (step_fieldAddr so25 Sr rfl) (Jl rfl ty3 Sr (Js rfl (step_fieldAddr so25 Sr rfl) (Jl rfl ty22 Sr ?_)))))
 refine Js rfl (step_build (x := (⟨q.Vars, q.Consts, (.slice none 0 0)⟩ : GConjT)) (zs := [[Value.int .i64 0], [Value.slice none 0 0], [Value.slice none 0 0]]) so25T (fun w => zeroValue25 w) ⟨Sr, Sr, trivial⟩ ⟨⟨Sr, rfl⟩, ⟨Sr, rfl⟩, fun _ => ⟨rfl, rfl⟩, trivial⟩) ?_
 refine Jx rfl (step_alloc (fun w => zeroValue25 w) zr25T) fun v5 => ?_
 refine Ju (step_store_box ty25T Sr Sr zS) fun _ => ?_
 refine JL_nil (J_seq (Jr (Jm rfl ?_)))
 refine Js rfl (step_sub Sr Sr (by show in64 ((q.Atoms.length : Int) - 1); unfold in64; omega)) ?_
 refine Ja rfl (JL_nil (J_block ?_))
 refine J_loopL (σ := Nat × Value) (fun ⟨c, va⟩ => c ≤ q.Atoms.length) (fun ⟨c, va⟩ => upd (upd (upd (upd (upd (upd env0 1 (tPtr rConj q)) 2 (tV (.bool false))) 3 (tV (.bool true))) 4 (tV (.int .i64 q.Atoms.length))) 5 (tAt v5 0)) 6 (tV (.int .i64 ((q.Atoms.length : Int) - 1 - c)))) (fun ⟨c, va⟩ => [box v5 25 rConjT (⟨q.Vars, q.Consts, va⟩ : GConjT), own 38 rAtom va ((revQ q).Atoms.take c)]) (fun ⟨c, va⟩ => q.Atoms.length - c) (0, (.slice none 0 0)) (by simp) (SubE.upd (Sub.int (by show (q.Atoms.length : Int) - 1 = _; omega)) (.u (.u (.u (.u (SubE.upd Sr SubE.any)))))) (LSub.trans (LSub.nilown (e := 38) (R := rAtom)) (LSub.cons zS (SPs.rfl) (LSub.cons zS (SPs.rfl) (LSub.nil)))) ?_
 rintro ⟨c, va⟩ hcl
 try dsimp only at hcl
 refine J_seq (Jr (Jm rfl (Js rfl (step_geq Sr Sr) (JL_nil ?_))))
 refine J_cond Sr (fun h41 => ?_) (fun h41 => ?_)
 ·
  try simp only [NF] at h41
  have hlt : c < q.Atoms.length := by omega
  have hxl := (hf1 _ (show q.Atoms.length - 1 - c < q.Atoms.length by omega)).2
  have hxt := terms_lt hq (nth_mem (show q.Atoms.length - 1 - c < q.Atoms.length by omega))
  refine J_skip (J_seq (J_block (Jr (Js rfl (step_fieldAddr so25 Sr rfl) (Jl rfl ty23 Sr ?_)))))
  refine Jm rfl ?_
  refine Js rfl (step_indexAddr_sl (i := (q.Atoms.length - 1 - c)) underlying23 ty38 Sr Sr zG (gb (by show _ < q.Atoms.length; omega))) ?_
  refine Jl rfl ty38 Sr ?_
  refine Jx rfl (step_alloc (fun w => zeroValue38 w) zr38T) fun v7 => ?_
  refine JL_exT (t := 48) (A := fun tv => rAtomT.ty ⟨(nth q.Atoms (q.Atoms.length - 1 - c)).Table, (nth q.Atoms (q.Atoms.length - 1 - c)).Cols, tv, (nth q.Atoms (q.Atoms.length - 1 - c)).Key⟩) (fun h v e => atomT_of (x := (nth q.Atoms (q.Atoms.length - 1 - c))) e) fun tv => ?_
  refine Ju (step_store_box ty38T Sr Sr zS) fun _ => ?_
  refine JL_nil (Jr (Js rfl (step_fieldAddr_own so38T Sr rfl) ?_))
  refine Ju (step_store_fld (R := rV) (y' := (⟨(nth q.Atoms (q.Atoms.length - 1 - c)).Table, (nth q.Atoms (q.Atoms.length - 1 - c)).Cols, (.slice none 0 0), (nth q.Atoms (q.Atoms.length - 1 - c)).Key⟩ : GAtomT)) ty36V38 Sr (Sub.rV rfl) zS (by exact ⟨rfl, ⟨rfl, ⟨fun _ _ q => q, rfl, by intro g hg; simp only [List.mem_cons, List.not_mem_nil, or_false] at hg; subst hg; rfl⟩⟩⟩)) fun _ => ?_
  refine JL_nil (J_seq (Jr (Ja rfl (JL_nil (J_block ?_)))))
  refine J_loopL (σ := Nat × Value) (fun ⟨j, vt⟩ => j ≤ (nth q.Atoms (q.Atoms.length - 1 - c)).Terms.length) (fun ⟨j, vt⟩ => upd (upd (upd (upd (upd (upd (upd (upd (upd (upd env0 1 (tPtr rConj q)) 2 (tV (.bool false))) 3 (tV (.bool true))) 4 (tV (.int .i64 q.Atoms.length))) 5 (tAt v5 0)) 6 (tV (.int .i64 ((q.Atoms.length : Int) - 1 - c)))) 7 (tAt v7 0)) 8 (tV (.int .i64 j))) 40 (tV (.int .i64 ((q.Atoms.length : Int) - 1 - c)))) 46 (tV (.int .i64 ((q.Atoms.length : Int) - 1 - c)))) (fun ⟨j, vt⟩ => [box v7 38 rAtomT (⟨(nth q.Atoms (q.Atoms.length - 1 - c)).Table, (nth q.Atoms (q.Atoms.length - 1 - c)).Cols, vt, (nth q.Atoms (q.Atoms.length - 1 - c)).Key⟩ : GAtomT), own 3 rInt vt (((nth q.Atoms (q.Atoms.length - 1 - c)).Terms.take j).map (psi q.Vars)), box v5 25 rConjT (⟨q.Vars, q.Consts, va⟩ : GConjT), own 38 rAtom va ((revQ q).Atoms.take c)]) (fun ⟨j, vt⟩ => (nth q.Atoms (q.Atoms.length - 1 - c)).Terms.length - j) (0, (.slice none 0 0)) (by simp) (.u (.u (.u (.u (.u (.u (.u (.u (.u (SubE.upd Sr SubE.any)))))))))) (LSub.trans (LSub.nilown (e := 3) (R := rInt)) (LSub.cons zS (SPs.rfl) (LSub.cons zS (SPs.rfl) (LSub.cons zS (SPs.rfl) (LSub.cons zS (SPs.rfl) (LSub.nil)))))) ?_
  rintro ⟨j, vt⟩ hjl
  try dsimp only at hjl
  refine J_seq (Jr (Jm rfl (Js rfl (step_fieldAddr so25 Sr rfl) (Jl rfl ty23 Sr (Jm rfl ?_)))))
  refine Js rfl (step_indexAddr_sl (i := (q.Atoms.length - 1 - c)) underlying23 ty38 Sr Sr zG (gb (by show _ < q.Atoms.length; omega))) ?_
  refine Js rfl (step_fieldAddr so38 Sr rfl) (Jl rfl ty36 Sr (Js rfl (step_len_sl underlying36 Sr) (Js rfl (step_lss Sr Sr) (JL_nil ?_))))
  refine J_cond Sr (fun h58 => ?_) (fun h58 => ?_)
  ·
   try simp only [NF] at h58
   have hjt : j < (nth q.Atoms (q.Atoms.length - 1 - c)).Terms.length := by omega
   have htl := hxt _ (nth_mem hjt)
   refine J_skip (J_seq (J_block (Jr (Js rfl (step_fieldAddr so25 Sr rfl) (Jl rfl ty23 Sr ?_)))))
   refine Jm rfl ?_
   refine Js rfl (step_indexAddr_sl (i := (q.Atoms.length - 1 - c)) underlying23 ty38 Sr Sr zG (gb (by show _ < q.Atoms.length; omega))) ?_
   refine Js rfl (step_fieldAddr so38 Sr rfl) (Jl rfl ty36 Sr (Jm rfl ?_))
   refine Js rfl (step_indexAddr_sl (i := j) underlying36 ty3 Sr Sr (by rfl) (gb zG)) ?_
   refine Jl rfl ty3 Sr (Ja rfl (JL_nil (J_seq (Jr (Jm rfl ?_)))))
   refine Js rfl (step_geq Sr Sr) (JL_nil ?_)
   refine J_cond Sr (fun h71 => ?_) (fun h71 => ?_)
   ·
    try simp only [NF] at h71
    have hps : psi q.Vars (nth (nth q.Atoms (q.Atoms.length - 1 - c)).Terms j) = q.Vars - 1 - nth (nth q.Atoms (q.Atoms.length - 1 - c)).Terms j := psi_pos h71
    refine J_region (Js rfl (step_fieldAddr so25 Sr rfl) (Jl rfl ty3 Sr ?_))
    refine Js rfl (step_sub Sr Sr (by show in64 (q.Vars - 1); unfold in64; have := psi_ge_vars hq; omega)) ?_
    refine Jm rfl ?_
    refine Js rfl (step_sub Sr Sr (by show in64 (q.Vars - 1 - nth (nth q.Atoms (q.Atoms.length - 1 - c)).Terms j); unfold in64; have := psi_ge_vars hq; omega)) ?_
    refine Ja rfl (JL_nil (J_region (Js rfl (step_fieldAddr_own so38T Sr rfl) ?_)))
    refine Js rfl (step_load_fld ty36V38 Sr rfl zS) ?_
    refine Jm rfl ?_
    refine Js rfl (step_literal (ys := [_]) underlying36 el3 ⟨rfl, Sr, trivial⟩ rfl (by decide)) ?_
    refine Jx rfl (step_append underlying36 el3 Sr Sr zS (by simp; omega) (by simp; omega)) fun v81 => ?_
    refine Js rfl (step_fieldAddr_own so38T Sr rfl) ?_
    refine Ju (step_store_fld (R := rV) (y' := (⟨(nth q.Atoms (q.Atoms.length - 1 - c)).Table, (nth q.Atoms (q.Atoms.length - 1 - c)).Cols, v81, (nth q.Atoms (q.Atoms.length - 1 - c)).Key⟩ : GAtomT)) ty36V38 Sr Sr zS (by exact ⟨rfl, ⟨rfl, ⟨fun _ _ q => q, rfl, by intro g hg; simp only [List.mem_cons, List.not_mem_nil, or_false] at hg; subst hg; rfl⟩⟩⟩)) fun _ => ?_
    refine JL_nil (J_region (Jm rfl (Js rfl (step_add Sr Sr z6) (Ja rfl (JL_nil ?_)))))
    refine K_againL (σ := Nat × Value) (s := (j, vt)) (j + 1, v81) zO zG (.u (.u (.u (.u (.u (.u (.u (.u (.u (SubE.upd Sr SubE.any)))))))))) (LSub.cons zS (SPs.rfl) (LSub.cons zS (SPs.of (A := own 3 rInt v81 ((((nth q.Atoms (q.Atoms.length - 1 - c)).Terms.take j).map (psi q.Vars)) ++ [q.Vars - 1 - nth (nth q.Atoms (q.Atoms.length - 1 - c)).Terms j])) (by rw [takeB hjt, List.map_append, List.map_singleton, hps])) (LSub.cons zS (SPs.rfl) (LSub.cons zS (SPs.rfl) (LSub.nil)))))
   try simp only [NF] at h71
   have hps : psi q.Vars (nth (nth q.Atoms (q.Atoms.length - 1 - c)).Terms j) = nth (nth q.Atoms (q.Atoms.length - 1 - c)).Terms j := psi_neg h71
   refine J_skip (J_region (Js rfl (step_fieldAddr_own so38T Sr rfl) ?_))
   refine Js rfl (step_load_fld ty36V38 Sr rfl zS) ?_
   refine Jm rfl ?_
   refine Js rfl (step_literal (ys := [_]) underlying36 el3 ⟨rfl, Sr, trivial⟩ rfl (by decide)) ?_
   refine Jx rfl (step_append underlying36 el3 Sr Sr zS (by simp; omega) (by simp; omega)) fun v81 => ?_
   refine Js rfl (step_fieldAddr_own so38T Sr rfl) ?_
   refine Ju (step_store_fld (R := rV) (y' := (⟨(nth q.Atoms (q.Atoms.length - 1 - c)).Table, (nth q.Atoms (q.Atoms.length - 1 - c)).Cols, v81, (nth q.Atoms (q.Atoms.length - 1 - c)).Key⟩ : GAtomT)) ty36V38 Sr Sr zS (by exact ⟨rfl, ⟨rfl, ⟨fun _ _ q => q, rfl, by intro g hg; simp only [List.mem_cons, List.not_mem_nil, or_false] at hg; subst hg; rfl⟩⟩⟩)) fun _ => ?_
   refine JL_nil (J_region (Jm rfl (Js rfl (step_add Sr Sr z6) (Ja rfl (JL_nil ?_)))))
   refine K_againL (σ := Nat × Value) (s := (j, vt)) (j + 1, v81) zO zG (.u (.u (.u (.u (.u (.u (.u (.u (.u (SubE.upd Sr SubE.any)))))))))) (LSub.cons zS (SPs.rfl) (LSub.cons zS (SPs.of (A := own 3 rInt v81 ((((nth q.Atoms (q.Atoms.length - 1 - c)).Terms.take j).map (psi q.Vars)) ++ [nth (nth q.Atoms (q.Atoms.length - 1 - c)).Terms j])) (by rw [takeB hjt, List.map_append, List.map_singleton, hps])) (LSub.cons zS (SPs.rfl) (LSub.cons zS (SPs.rfl) (LSub.nil)))))
  try simp only [NF] at h58
  obtain rfl : j = (nth q.Atoms (q.Atoms.length - 1 - c)).Terms.length := by omega
  refine J_exit ?_
  refine K_lsub (L' := [box v7 38 rAtomT (⟨(nth q.Atoms (q.Atoms.length - 1 - c)).Table, (nth q.Atoms (q.Atoms.length - 1 - c)).Cols, vt, (nth q.Atoms (q.Atoms.length - 1 - c)).Key⟩ : GAtomT), own 3 rInt vt ((nth q.Atoms (q.Atoms.length - 1 - c)).Terms.map (psi q.Vars)), box v5 25 rConjT (⟨q.Vars, q.Consts, va⟩ : GConjT), own 38 rAtom va ((revQ q).Atoms.take c)]) (LSub.cons zS (SPs.rfl) (LSub.cons zS (SPs.of (A := own 3 rInt vt (((nth q.Atoms (q.Atoms.length - 1 - c)).Terms.take (nth q.Atoms (q.Atoms.length - 1 - c)).Terms.length).map (psi q.Vars))) (by rw [List.take_length])) (LSub.cons zS (SPs.rfl) (LSub.cons zS (SPs.rfl) (LSub.nil))))) ?_
  refine K_freeze (t := 7) (A' := tPtr rAtom (phiA q.Vars (nth q.Atoms (q.Atoms.length - 1 - c)))) (Sel.take (Sel.take (Sel.none _))) Frz.atomT ?_
  refine J_region (Js rfl (step_fieldAddr_own so25T Sr rfl) ?_)
  refine Js rfl (step_load_fld ty23V25 Sr rfl zS) ?_
  refine Jl rfl ty38 Sr ?_
  refine Js rfl (step_literal (ys := [_]) underlying23 el38 ⟨rfl, Sr, trivial⟩ rfl (by decide)) ?_
  refine Jx rfl (step_append underlying23 el38 Sr Sr zS (by simp; omega) (by simp; omega)) fun v87 => ?_
  refine Js rfl (step_fieldAddr_own so25T Sr rfl) ?_
  refine Ju (step_store_fld (R := rV) (y' := (⟨q.Vars, q.Consts, v87⟩ : GConjT)) ty23V25 Sr Sr zS (by exact ⟨rfl, ⟨rfl, ⟨fun _ _ q => q, rfl, by intro g hg; cases hg⟩⟩⟩)) fun _ => ?_
  refine JL_nil (J_region (Jm rfl (Js rfl (step_sub Sr Sr z6) (Ja rfl (JL_nil ?_)))))
  refine K_againL (σ := Nat × Value) (s := (c, va)) (c + 1, v87) zO zG (SubE.upd (Sub.int zG) (.u (.u (.u (.u (SubE.upd Sr SubE.any)))))) (LSub.cons zS (SPs.rfl) (LSub.cons zS (SPs.of (A := own 38 rAtom v87 ((revQ q).Atoms.take c ++ [phiA q.Vars (nth q.Atoms (q.Atoms.length - 1 - c))])) (by rw [takeB (show c < (revQ q).Atoms.length by omega), rev_nth hlt])) (LSub.nil)))
 try simp only [NF] at h41
 have hfin : (⟨q.Vars, q.Consts, (revQ q).Atoms.take c⟩ : GConj) = revQ q := by rw [List.take_of_length_le (by rw [hrl]; omega)]; rfl
 refine J_exit (J_seq ?_)
 refine K_freeze (t := 5) (A' := tPtr rConj (revQ q)) (Sel.take (Sel.take (Sel.none _))) (Frz.to (Sub.eqT (congrArg (tPtr rConj) hfin)) Frz.conjT) ?_
 refine J_region (Jl rfl ty25 Sr ?_)
 refine Js rfl (step_eqTy (B := tTup [tSl (rSl rBool) (attL q), tV (.int .i64 0)]) (step_call0 (Attacks_spec q) (by exact ⟨Sr, trivial⟩) call17) (by rw [errV, if_pos hq, if_pos hq])) ?_
 refine Jm rfl (Js rfl (step_extract Sr rfl) (Js rfl (step_extract Sr rfl) (Ja rfl (Ja rfl (JL_nil ?_)))))
 refine Jr (Jl rfl ty25 Sr ?_)
 refine Js rfl (step_eqTy (B := tTup [tSl (rSl rBool) (attL (revQ q)), tV (.int .i64 0)]) (step_call0 (Attacks_spec (revQ q)) (by exact ⟨Sr, trivial⟩) call17) (by rw [errV, if_pos hr, if_pos hr])) ?_
 refine Jm rfl (Js rfl (step_extract Sr rfl) (Js rfl (step_extract Sr rfl) (Ja rfl (Ja rfl (JL_nil ?_)))))
 refine Jr (Jl rfl ty25 Sr ?_)
 refine Js rfl (step_eqTy (B := tTup [tV (.bool (firstM q)), tV (.int .i64 0)]) (step_call0 (FirstOrder_spec q) (by exact ⟨Sr, trivial⟩) call18) (by rw [errV, if_pos hq, hq, Bool.true_and])) ?_
 refine Jm rfl (Js rfl (step_extract Sr rfl) (Js rfl (step_extract Sr rfl) (Ja rfl (Ja rfl (JL_nil ?_)))))
 refine Jr (Jl rfl ty25 Sr ?_)
 refine Js rfl (step_eqTy (B := tTup [tV (.bool (firstM (revQ q))), tV (.int .i64 0)]) (step_call0 (FirstOrder_spec (revQ q)) (by exact ⟨Sr, trivial⟩) call18) (by rw [errV, if_pos hr, hr, Bool.true_and])) ?_
 refine Jm rfl (Js rfl (step_extract Sr rfl) (Js rfl (step_extract Sr rfl) (Ja rfl (Ja rfl (JL_nil ?_)))))
 refine J_seq (Jr (Jm rfl (Js rfl (step_neq Sr Sr) (Jm rfl (Jg rfl Sr rfl (fun hw => step_move Sr) ?_)))))
 refine Jg rfl Sr rfl (fun hw => step_neq (Sub.w hw) Sr) (Js rfl (step_pick_or Sr Sr) (Jm rfl (Jg rfl Sr rfl (fun hw => step_move Sr) (Jg rfl Sr rfl (fun hw => step_move Sr) (Jg rfl Sr rfl (fun hw => step_neq (Sub.w hw) (Sub.w hw)) ?_)))))
 refine Js rfl (step_pick_or Sr Sr) (Jm rfl (Jg rfl Sr rfl (fun hw => step_move Sr) (Jg rfl Sr rfl (fun hw => step_move Sr) (Jg rfl Sr rfl (fun hw => step_neq_bool underlying4 (Sub.w hw) (Sub.w hw)) (Js rfl (step_pick_or Sr Sr) ?_)))))
 refine Jm rfl (Jg rfl Sr rfl (fun hw => step_move Sr) (Jg rfl Sr rfl (fun hw => step_len_sl underlying29 (Sub.w hw)) (Jg rfl Sr rfl (fun hw => step_move Sr) (Jg rfl Sr rfl (fun hw => step_neq (Sub.w hw) (Sub.w hw)) (Js rfl (step_pick_or Sr Sr) ?_)))))
 refine Jm rfl (Jg rfl Sr rfl (fun hw => step_move Sr) (Jg rfl Sr rfl (fun hw => step_len_sl underlying29 (Sub.w hw)) (Jg rfl Sr rfl (fun hw => step_move Sr) (Jg rfl Sr rfl (fun hw => step_neq (Sub.w hw) (Sub.w hw)) (Js rfl (step_pick_or Sr Sr) ?_)))))
 refine JL_nil ?_
 refine J_cond Sr (fun h136 => ?_) (fun h136 => ?_)
 ·
  try simp only [NF] at h136
  exfalso; rcases h136 with ((((h | h) | h) | h) | h) | h; exact h trivial; exact h trivial; exact h trivial; rw [first_rev_eq hq] at h; simp at h; omega; omega
 try simp only [NF] at h136
 refine J_skip (J_seq (Jr (Ja rfl (JL_nil (J_block ?_)))))
 refine J_loopL (σ := Nat) (fun i => i ≤ q.Atoms.length) (fun i => upd (upd (upd (upd (upd env0 3 (tV (.bool true))) 4 (tV (.int .i64 q.Atoms.length))) 10 (tSl (rSl rBool) (attL q))) 12 (tSl (rSl rBool) (attL (revQ q)))) 18 (tV (.int .i64 i))) (fun i => []) (fun i => q.Atoms.length - i) 0 zG (.u (.u (.u (.u (SubE.upd Sr SubE.any))))) (LSub.rfl) ?_
 rintro i hil
 refine J_seq (Jr (Jm rfl (Jm rfl (Js rfl (step_lss Sr Sr) (JL_nil ?_)))))
 refine J_cond Sr (fun h139 => ?_) (fun h139 => ?_)
 ·
  try simp only [NF] at h139
  have hit : i < q.Atoms.length := by omega
  have hri := attRowL q hit
  have hrw := attRowL (revQ q) (show (q.Atoms.length - 1 - i) < (revQ q).Atoms.length by omega)
  refine J_skip (J_seq (J_block (Jr (Ja rfl (JL_nil ?_)))))
  refine J_block ?_
  refine J_loopL (σ := Nat) (fun k => k ≤ q.Atoms.length) (fun k => upd (upd (upd (upd (upd (upd (upd (upd env0 3 (tV (.bool true))) 4 (tV (.int .i64 q.Atoms.length))) 10 (tSl (rSl rBool) (attL q))) 12 (tSl (rSl rBool) (attL (revQ q)))) 18 (tV (.int .i64 i))) 19 (tV (.int .i64 k))) 137 (tV (.int .i64 i))) 138 (tV (.int .i64 q.Atoms.length))) (fun k => []) (fun k => q.Atoms.length - k) 0 zG (.u (.u (.u (.u (.u (.u (.u (SubE.upd Sr SubE.any)))))))) (LSub.rfl) ?_
  rintro k hkl
  refine J_seq (Jr (Jm rfl (Jm rfl (Js rfl (step_lss Sr Sr) (JL_nil ?_)))))
  refine J_cond Sr (fun h144 => ?_) (fun h144 => ?_)
  ·
   try simp only [NF] at h144
   have hkt : k < q.Atoms.length := by omega
   refine J_skip (J_seq (J_block (J_seq ?_)))
   refine J_draw [⟨0, [10], true⟩, ⟨1, [18], true⟩, ⟨2, [147, 148], true⟩, ⟨3, [149], true⟩, ⟨4, [150], true⟩, ⟨5, [4], true⟩, ⟨6, [151, 152], true⟩, ⟨7, [153], true⟩, ⟨8, [12, 154], true⟩, ⟨9, [4, 154], true⟩, ⟨10, [154, 156], true⟩, ⟨11, [18, 154], true⟩, ⟨12, [154, 157, 158], true⟩, ⟨13, [154, 155, 159], true⟩, ⟨14, [154, 160], true⟩, ⟨15, [154, 161], true⟩, ⟨16, [4, 154], true⟩, ⟨17, [154, 162, 163], true⟩, ⟨18, [154, 164], true⟩, ⟨19, [165], true⟩, ⟨20, [10, 166], true⟩, ⟨21, [18, 166], true⟩, ⟨22, [166, 167, 168], true⟩, ⟨23, [166, 169], true⟩, ⟨24, [19, 166], true⟩, ⟨25, [166, 170, 171], true⟩, ⟨26, [166, 172], true⟩, ⟨27, [12, 166], true⟩, ⟨28, [4, 166], true⟩, ⟨29, [166, 175], true⟩, ⟨30, [18, 166], true⟩, ⟨31, [166, 176, 177], true⟩, ⟨32, [166, 174, 178], true⟩, ⟨33, [166, 179], true⟩, ⟨34, [4, 166], true⟩, ⟨35, [166, 181], true⟩, ⟨36, [19, 166], true⟩, ⟨37, [166, 182, 183], true⟩, ⟨38, [166, 180, 184], true⟩, ⟨39, [166, 185], true⟩, ⟨40, [166, 173, 186], true⟩, ⟨41, [166, 187], true⟩] rfl (by kernel_rfl) ?_
   refine Mv rfl rfl (Mv rfl rfl ?_)
   refine Mf rfl rfl (step_indexAddr_sl (i := i) underlying29 ty35 Sr Sr (by rfl) (gb zG)) ?_
   refine Mf rfl rfl (step_load_ptr ty35 Sr) (Mf rfl rfl (step_len_sl underlying35 Sr) (Mv rfl rfl (Mf rfl rfl (step_neq Sr Sr) (Mv rfl rfl (Mg rfl rfl Sr rfl (fun hw => step_move Sr) ?_)))))
   refine Mg rfl rfl Sr rfl (fun hw => step_move Sr) ?_
   refine Mg rfl rfl Sr rfl (fun hw => step_sub (Sub.w hw) Sr (by have hwq := hw; (try simp only [beqB_t, beqB_f, NF] at hwq); unfold in64; omega)) ?_
   refine Mg rfl rfl Sr rfl (fun hw => step_move Sr) ?_
   refine Mg rfl rfl Sr rfl (fun hw => step_sub (Sub.w hw) (Sub.w hw) (by have hwq := hw; (try simp only [beqB_t, beqB_f, NF] at hwq); unfold in64; omega)) ?_
   refine Mg rfl rfl Sr rfl (fun hw => step_indexAddr_sl (i := (q.Atoms.length - 1 - i)) underlying29 ty35 (Sub.w hw) (Sub.w hw) (by have hwq := hw; (try simp only [beqB_t, beqB_f, NF] at hwq); omega) (gb (by have hwq := hw; (try simp only [beqB_t, beqB_f, NF] at hwq); omega))) ?_
   refine Mg rfl rfl Sr rfl (fun hw => step_load_ptr ty35 (Sub.w hw)) (Mg rfl rfl Sr rfl (fun hw => step_len_sl underlying35 (Sub.w hw)) (Mg rfl rfl Sr rfl (fun hw => step_move Sr) (Mg rfl rfl Sr rfl (fun hw => step_neq (Sub.w hw) (Sub.w hw)) (Mf rfl rfl (step_pick_or Sr Sr) (Mv rfl rfl ?_)))))
   refine Mg rfl rfl Sr rfl (fun hw => step_move Sr) (Mg rfl rfl Sr rfl (fun hw => step_move Sr) ?_)
   refine Mg rfl rfl Sr rfl (fun hw => step_indexAddr_sl (i := i) underlying29 ty35 (Sub.w hw) (Sub.w hw) (by rfl) (gb (by have hwq := hw; (try simp only [beqB_t, beqB_f, NF] at hwq); omega))) ?_
   refine Mg rfl rfl Sr rfl (fun hw => step_load_ptr ty35 (Sub.w hw)) (Mg rfl rfl Sr rfl (fun hw => step_move Sr) ?_)
   refine Mg rfl rfl Sr rfl (fun hw => step_indexAddr_sl (i := k) underlying35 ty4 (Sub.w hw) (Sub.w hw) (by rfl) (gb (by have hwq := hw; (try simp only [beqB_t, beqB_f, NF] at hwq); omega))) ?_
   refine Mg rfl rfl Sr rfl (fun hw => step_load_ptr ty4 (Sub.w hw)) (Mg rfl rfl Sr rfl (fun hw => step_move Sr) (Mg rfl rfl Sr rfl (fun hw => step_move Sr) ?_))
   refine Mg rfl rfl Sr rfl (fun hw => step_sub (Sub.w hw) Sr (by have hwq := hw; (try simp only [beqB_t, beqB_f, NF] at hwq); unfold in64; omega)) ?_
   refine Mg rfl rfl Sr rfl (fun hw => step_move Sr) ?_
   refine Mg rfl rfl Sr rfl (fun hw => step_sub (Sub.w hw) (Sub.w hw) (by have hwq := hw; (try simp only [beqB_t, beqB_f, NF] at hwq); unfold in64; omega)) ?_
   refine Mg rfl rfl Sr rfl (fun hw => step_indexAddr_sl (i := (q.Atoms.length - 1 - i)) underlying29 ty35 (Sub.w hw) (Sub.w hw) (by have hwq := hw; (try simp only [beqB_t, beqB_f, NF] at hwq); omega) (gb (by have hwq := hw; (try simp only [beqB_t, beqB_f, NF] at hwq); omega))) ?_
   refine Mg rfl rfl Sr rfl (fun hw => step_load_ptr ty35 (Sub.w hw)) (Mg rfl rfl Sr rfl (fun hw => step_move Sr) ?_)
   refine Mg rfl rfl Sr rfl (fun hw => step_sub (Sub.w hw) Sr (by have hwq := hw; (try simp only [beqB_t, beqB_f, NF] at hwq); unfold in64; omega)) ?_
   refine Mg rfl rfl Sr rfl (fun hw => step_move Sr) ?_
   refine Mg rfl rfl Sr rfl (fun hw => step_sub (Sub.w hw) (Sub.w hw) (by have hwq := hw; (try simp only [beqB_t, beqB_f, NF] at hwq); unfold in64; omega)) ?_
   refine Mg rfl rfl Sr rfl (fun hw => step_indexAddr_sl (i := (q.Atoms.length - 1 - k)) underlying35 ty4 (Sub.w hw) (Sub.w hw) (by have hwq := hw; (try simp only [beqB_t, beqB_f, NF] at hwq); omega) (gb (by have hwq := hw; (try simp only [beqB_t, beqB_f, NF] at hwq); omega))) ?_
   refine Mg rfl rfl Sr rfl (fun hw => step_load_ptr ty4 (Sub.w hw)) (Mg rfl rfl Sr rfl (fun hw => step_neq_bool underlying4 (Sub.w hw) (Sub.w hw)) (Mf rfl rfl (step_pick_or Sr Sr) (JM_nil ?_)))
   refine J_cond Sr (fun h188 => ?_) (fun h188 => ?_)
   ·
    try simp only [NF] at h188
    exfalso; rcases h188 with (h | h) | h; omega; omega; rw [att_rev hq hit hkt] at h; simp at h
   try simp only [NF] at h188
   refine J_skip (J_region (Jm rfl (Js rfl (step_add Sr Sr z6) (Ja rfl (JL_nil ?_)))))
   refine K_againL (σ := Nat) (s := k) (k + 1) zO zG (.u (.u (.u (.u (.u (.u (.u (SubE.upd Sr SubE.any)))))))) (LSub.rfl)
  try simp only [NF] at h144
  refine J_exit (J_region (Jm rfl (Js rfl (step_add Sr Sr z6) (Ja rfl (JL_nil ?_)))))
  refine K_againL (σ := Nat) (s := i) (i + 1) zO zG (.u (.u (.u (.u (SubE.upd Sr SubE.any))))) (LSub.rfl)
 try simp only [NF] at h139
 refine J_exit (Jr (Jm rfl (Ja rfl (JL_nil (J_ret ?_)))))
 refine K_ret1 (t := 2) rfl () Sr
end Lg
