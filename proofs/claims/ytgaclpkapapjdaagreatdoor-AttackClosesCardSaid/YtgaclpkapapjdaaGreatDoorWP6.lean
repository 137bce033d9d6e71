/- The walk and the plain law of AttackCloses. -/
import Derived.Test.YtgaclpkapapjdaaGreatDoorG
set_option linter.unusedVariables false
set_option linter.unusedSimpArgs false
set_option linter.unusedSectionVars false
namespace Lg
open Go Go.Proofs Go.Proofs.Tryz
theorem attRowL (q : GConj) {i : Nat} (h : i < q.Atoms.length) : (nth (attL q) i).length = q.Atoms.length := by rw [attL_nth q h, attB_len]
theorem cl_nn {q : GConj} {w : Int} {a b : List Int} (hab : ∀ t ∈ a, 0 ≤ t → ClV q w b t) {t : Int} (h : ClV q w a t) : 0 ≤ t → ClV q w b t := by
  induction h with
  | base ht => exact hab _ ht
  | step h1 h2 h3 h4 ih => exact fun _ => ClV.step h1 h2 (fun t' ht' h0' => ih t' ht' h0' h0') h4
theorem few_facts {q : GConj} {n : Int} (h : fewM q n = true) : (∀ i, i < q.Atoms.length → (nth q.Atoms i).Cols.length ≤ 14 ∧ (nth q.Atoms i).Terms.length ≤ 14) ∧ (q.Atoms.length : Int) ≤ n ∧ q.Consts.length ≤ 30 ∧ q.Vars ≤ 40 := by
  unfold fewM at h
  simp only [Bool.and_eq_true, decide_eq_true_eq] at h
  obtain ⟨⟨⟨h1, h2⟩, h3⟩, h4⟩ := h
  exact ⟨fun i hi => by simpa using rall_iff.1 h1 i hi, h2, h3, h4⟩
theorem uni_len {q : GConj} {vars : List Int} (h : ∀ i, i < q.Atoms.length → (nth q.Atoms i).Terms.length ≤ 14) : (uniV q vars).length ≤ vars.length + q.Atoms.length * 14 := by
  unfold uniV
  rw [List.length_append, List.length_flatMap]
  have : ∀ l : List GAtom, (∀ a ∈ l, a.Terms.length ≤ 14) → (l.map fun a => a.Terms.length).sum ≤ l.length * 14 := by
    intro l
    induction l with
    | nil => intro _; simp
    | cons a l ih =>
      intro hl
      have h1 := hl a List.mem_cons_self
      have h2 := ih fun x hx => hl x (List.mem_cons_of_mem _ hx)
      simp only [List.map_cons, List.sum_cons, List.length_cons]; omega
  have h2 := this q.Atoms fun a ha => by
    obtain ⟨i, hi, rfl⟩ := List.getElem_of_mem ha
    rw [← nth_get hi]; exact h i hi
  omega
theorem closL_eq {q : GConj} {w : Int} {vars : List Int} (hq : validQ q = true) (hv : ∀ v ∈ vars, 0 ≤ v ∧ v < q.Vars) : closL q w vars = clsL q w vars := by
  rw [closL, if_pos]
  refine ⟨hq, ?_⟩
  rw [List.any_eq_false]
  intro v hx
  have := hv v hx
  simp; omega
theorem vars_len (l : List Int) : (varsQ l).length ≤ l.length := by
  have h1 := setM_len (l.filter fun x => decide (0 ≤ x))
  have h2 := List.length_filter_le (fun x => decide (0 ≤ x)) l
  unfold varsQ; omega
theorem keyV_in {q : GConj} (hq : validQ q = true) {i : Nat} (hi : i < q.Atoms.length) : ∀ v ∈ varsQ (keyT q i), 0 ≤ v ∧ v < q.Vars := fun v hv => by
  obtain ⟨h1, h2⟩ := ((vars_both _).2 v).1 hv
  exact ⟨h2, terms_lt hq (nth_mem hi) _ (List.mem_of_mem_take h1)⟩
theorem keyV_cl {q : GConj} (hq : validQ q = true) {i : Nat} {s : Int} (h0 : 0 ≤ s) : ClV q i (varsQ (keyT q i)) s ↔ ClV q i (keyT q i) s :=
  ⟨fun h => cl_nn (fun t ht _ => ClV.base (((vars_both _).2 t).1 ht).1) h h0, fun h => cl_nn (fun t ht h0 => ClV.base (((vars_both _).2 t).2 ⟨ht, h0⟩)) h h0⟩
theorem keys_law1 {q : GConj} (hq : validQ q = true) {i k : Nat} (hi : i < q.Atoms.length) (hk : k < q.Atoms.length) (h : nth (nth (attL q) i) k = true) : contM (clsL q i (varsQ (keyT q i))) (varsQ (nth q.Atoms i).Terms) = false ∧ contM (clsL q i (varsQ (keyT q i))) (varsQ (nth q.Atoms k).Terms) = false := by
  obtain ⟨⟨s, a1, a2, a3⟩, ⟨r, b1, b2, b3⟩⟩ := keys_both hi hk h
  have key : ∀ j s, s ∈ (nth q.Atoms j).Terms → 0 ≤ s → ¬ ClV q i (keyT q i) s → contM (clsL q i (varsQ (keyT q i))) (varsQ (nth q.Atoms j).Terms) = false := fun j s h1 h2 h3 => by
    rw [Bool.eq_false_iff]
    intro hc
    have := (cont_iff (cls_inc _ _ _) (vars_both _).1).1 hc s (((vars_both _).2 s).2 ⟨h1, h2⟩)
    exact h3 ((keyV_cl hq h2).1 (cls_mem.1 this).2.2)
  exact ⟨key i s a1 a2 a3, key k r b1 b2 b3⟩
theorem keys_law2 {q : GConj} (hq : validQ q = true) {i k : Nat} (hi : i < q.Atoms.length) (hk : k < q.Atoms.length) (hne : k ≠ i) {s : Int} (h1 : s ∈ varsQ (nth q.Atoms i).Terms) (h2 : s ∈ varsQ (nth q.Atoms k).Terms) (h3 : s ∉ clsL q i (varsQ (keyT q i))) : nth (nth (attL q) i) k = true := by
  obtain ⟨a1, a2⟩ := ((vars_both _).2 s).1 h1
  obtain ⟨b1, _⟩ := ((vars_both _).2 s).1 h2
  exact keys_common hi hk hne a1 b1 a2 fun hc => h3 (cls_mem.2 ⟨a2, terms_lt hq (nth_mem hi) _ a1, (keyV_cl hq a2).2 hc⟩)
set_option maxHeartbeats 8000000 in
theorem lawKeys_spec (q : GConj) (hl : q.Atoms.length ≤ 9223372036854775807) : Fun1 prog 7 [rConj.ty q] (tV (.bool true)) := by
 refine Spec.enter func7 rfl rfl fun h0 w0 fr0 => ?_
 refine Jr (Js rfl (step_box (R := rConj) Sr) (Ja rfl (JL_nil (Jr (Js rfl (step_call0 (head36_spec) trivial call14) ?_)))))
 refine Ja rfl (JL_nil (J_seq (Jr (Jl rfl ty25 Sr (Js rfl (step_call0 (Few_spec q 8 hl) ⟨Sr, Sr, trivial⟩ call15) ?_)))))
 refine Js rfl (step_not Sr) (Jm rfl (Jg rfl Sr rfl (fun hw => step_load_ptr ty25 Sr) (Jg rfl Sr rfl (fun hw => step_call0 (attackValid_spec q) ⟨(Sub.w hw), trivial⟩ call16) (Jg rfl Sr rfl (fun hw => step_not (Sub.w hw)) (Js rfl (step_pick_or Sr Sr) ?_)))))
 refine JL_nil ?_
 refine J_cond Sr (fun h21 => ?_) (fun h21 => ?_)
 ·
  try simp only [NF] at h21
  refine Jr (Jm rfl (Ja rfl (JL_nil (J_ret ?_))))
  refine K_ret1 (t := 2) rfl () Sr
 try simp only [NF] at h21
 obtain ⟨hfw, hq⟩ := h21
 have hal := attL_len q
 obtain ⟨hf1, hf2, hf3, hf4⟩ := few_facts hfw
 refine J_skip (Jr (Jl rfl ty25 Sr ?_))
 refine Js rfl (step_eqTy (B := tTup [tSl (rSl rBool) (attL q), tV (.int .i64 0)]) (step_call0 (Attacks_spec q) (by exact ⟨Sr, trivial⟩) call17) (by rw [errV, if_pos hq, if_pos hq])) ?_
 refine Jm rfl (Js rfl (step_extract Sr rfl) (Js rfl (step_extract Sr rfl) (Ja rfl (Ja rfl (JL_nil ?_)))))
 refine J_seq (Jr (Jm rfl (Js rfl (step_neq Sr Sr) (Jm rfl (Jg rfl Sr rfl (fun hw => step_move Sr) ?_)))))
 refine Jg rfl Sr rfl (fun hw => step_len_sl underlying29 (Sub.w hw)) (Jg rfl Sr rfl (fun hw => step_fieldAddr so25 Sr rfl) (Jg rfl Sr rfl (fun hw => step_load_ptr ty23 (Sub.w hw)) (Jg rfl Sr rfl (fun hw => step_len_sl underlying23 (Sub.w hw)) (Jg rfl Sr rfl (fun hw => step_neq (Sub.w hw) (Sub.w hw)) (Js rfl (step_pick_or Sr Sr) ?_)))))
 refine JL_nil ?_
 refine J_cond Sr (fun h37 => ?_) (fun h37 => ?_)
 ·
  try simp only [NF] at h37
  exfalso; rcases h37 with h | h; exact h trivial; omega
 try simp only [NF] at h37
 refine J_skip (J_seq (Jr (Ja rfl (JL_nil (J_block ?_)))))
 refine J_loopL (σ := Nat) (fun i => i ≤ q.Atoms.length) (fun i => upd (upd (upd (upd env0 1 (tPtr rConj q)) 3 (tV (.bool true))) 4 (tSl (rSl rBool) (attL q))) 6 (tV (.int .i64 i))) (fun i => []) (fun i => q.Atoms.length - i) 0 zG (.u (.u (.u (SubE.upd Sr SubE.any)))) (LSub.rfl) ?_
 rintro i hil
 refine J_seq (Jr (Jm rfl (Jm rfl (Js rfl (step_len_sl underlying29 Sr) (Js rfl (step_lss Sr Sr) ?_)))))
 refine JL_nil ?_
 refine J_cond Sr (fun h41 => ?_) (fun h41 => ?_)
 ·
  try simp only [NF] at h41
  have hlt : i < q.Atoms.length := by omega
  have hli := attRowL q hlt
  obtain ⟨hfc, hft⟩ := hf1 i hlt
  have hva := valid_atom hq hlt
  have hkl : (keyT q i).length ≤ 14 := by unfold keyT; rw [List.length_take]; omega
  have hvl := vars_len (keyT q i)
  have hvo := vars_len (nth q.Atoms i).Terms
  have hun := uni_len (q := q) (vars := (varsQ (keyT q i))) (fun j hj => (hf1 j hj).2)
  have hc1 : (clsL q i (varsQ (keyT q i))).length ≤ 1000000000000 := by unfold clsL; rw [List.length_map]; have := List.length_filter_le (fun (v : Nat) => @decide (ClV q i (varsQ (keyT q i)) v) (Classical.propDecidable _)) (List.range q.Vars.toNat); rw [List.length_range] at this; omega
  refine J_skip (J_seq (J_block (Jr (Js rfl (step_fieldAddr so25 Sr rfl) (Jl rfl ty23 Sr ?_)))))
  refine Jm rfl ?_
  refine Js rfl (step_indexAddr_sl (i := i) underlying23 ty38 Sr Sr (by rfl) (gb zG)) ?_
  refine Jl rfl ty38 Sr ?_
  refine Jx rfl (step_alloc (fun w => zeroValue38 w) zr38) fun v7 => ?_
  refine Ju (step_store_box ty38 Sr Sr zS) fun _ => ?_
  refine JL_freeze (t := 7) (Sel.take (Sel.none _)) Frz.box ?_
  refine JL_nil (J_seq ?_)
  refine J_draw [⟨0, [1], true⟩, ⟨1, [6], true⟩, ⟨2, [7], true⟩, ⟨3, [51], true⟩, ⟨4, [7], true⟩, ⟨5, [53], true⟩, ⟨6, [52, 54], true⟩, ⟨7, [55], true⟩, ⟨8, [49, 50, 56], true⟩, ⟨9, [57], true⟩] rfl (by kernel_rfl) ?_
  refine Mf rfl rfl (step_load_ptr ty25 Sr) (Mv rfl rfl (Mf rfl rfl (step_fieldAddr so38 Sr rfl) (Mf rfl rfl (step_load_ptr ty36 Sr) (Mf rfl rfl (step_fieldAddr so38 Sr rfl) (Mf rfl rfl (step_load_ptr ty3 Sr) ?_)))))
  refine Mf rfl rfl (step_slice_toI (n := (nth q.Atoms i).Key.toNat) underlying36 ty3 Sr Sr (by show (nth q.Atoms i).Key = _; omega) (by show _ ≤ (nth q.Atoms i).Terms.length; omega)) ?_
  refine Mf rfl rfl (step_call0 (varsL_spec (keyT q i) zG) ⟨Sr, trivial⟩ call32) ?_
  refine Mf rfl rfl (step_eqTy (B := tSl rInt (clsL q i (varsQ (keyT q i)))) (step_call0 (Closure_spec q i (varsQ (keyT q i)) zG zG) (by exact ⟨Sr, Sr, Sr, trivial⟩) call28) (by rw [closL_eq hq (keyV_in hq hlt)])) ?_
  refine Mf rfl rfl (step_assign Sr) (JM_nil (Jr (Js rfl (step_fieldAddr so38 Sr rfl) (Jl rfl ty36 Sr (Js rfl (step_call0 (varsL_spec (nth q.Atoms i).Terms zG) ⟨Sr, trivial⟩ call32) ?_)))))
  refine Ja rfl (JL_nil (Jr (Ja rfl (JL_nil (J_block ?_)))))
  refine J_loopL (σ := Nat) (fun k => k ≤ q.Atoms.length) (fun k => upd (upd (upd (upd (upd (upd (upd (upd (upd (upd (upd (upd (upd (upd (upd (upd env0 1 (tPtr rConj q)) 3 (tV (.bool true))) 4 (tSl (rSl rBool) (attL q))) 6 (tV (.int .i64 i))) 7 (tPtr rAtom (nth q.Atoms i))) 8 (tSl rInt (clsL q i (varsQ (keyT q i))))) 9 (tSl rInt (varsQ (nth q.Atoms i).Terms))) 10 (tV (.int .i64 k))) 38 (tV (.int .i64 i))) 39 (tSl (rSl rBool) (attL q))) 46 (tV (.int .i64 i))) 48 (rAtom.ty (nth q.Atoms i))) 50 (tV (.int .i64 i))) 56 (tSl rInt (varsQ (keyT q i)))) 57 (tSl rInt (clsL q i (varsQ (keyT q i))))) 60 (tSl rInt (varsQ (nth q.Atoms i).Terms))) (fun k => []) (fun k => q.Atoms.length - k) 0 zG (.u (.u (.u (.u (.u (.u (.u (.u (.u (.u (.u (.u (.u (.u (.u (SubE.upd Sr SubE.any)))))))))))))))) (LSub.rfl) ?_
  rintro k hkl2
  refine J_seq (Jr (Jm rfl (Jm rfl (Jm rfl ?_))))
  refine Js rfl (step_indexAddr_sl (i := i) underlying29 ty35 Sr Sr (by rfl) (gb zG)) ?_
  refine Jl rfl ty35 Sr (Js rfl (step_len_sl underlying35 Sr) (Js rfl (step_lss Sr Sr) (JL_nil ?_)))
  refine J_cond Sr (fun h67 => ?_) (fun h67 => ?_)
  ·
   try simp only [NF] at h67
   have hkt : k < q.Atoms.length := by omega
   have hfk := (hf1 k hkt).2
   have hvk := vars_len (nth q.Atoms k).Terms
   refine J_skip (J_seq (J_block (Jr (Js rfl (step_fieldAddr so25 Sr rfl) (Jl rfl ty23 Sr ?_)))))
   refine Jm rfl ?_
   refine Js rfl (step_indexAddr_sl (i := k) underlying23 ty38 Sr Sr (by rfl) (gb zG)) ?_
   refine Js rfl (step_fieldAddr so38 Sr rfl) (Jl rfl ty36 Sr (Js rfl (step_call0 (varsL_spec (nth q.Atoms k).Terms zG) ⟨Sr, trivial⟩ call32) (Ja rfl (JL_nil (J_seq ?_)))))
   refine Jr (Jm rfl (Jm rfl ?_))
   refine Js rfl (step_indexAddr_sl (i := i) underlying29 ty35 Sr Sr (by rfl) (gb zG)) ?_
   refine Jl rfl ty35 Sr (Jm rfl ?_)
   refine Js rfl (step_indexAddr_sl (i := k) underlying35 ty4 Sr Sr (by rfl) (gb zG)) ?_
   refine Jl rfl ty4 Sr (Jm rfl (Jg rfl Sr rfl (fun hw => step_move Sr) (Jg rfl Sr rfl (fun hw => step_move Sr) (Jg rfl Sr rfl (fun hw => step_call0 (ContL_spec (clsL q i (varsQ (keyT q i))) (varsQ (nth q.Atoms i).Terms) hc1 zG) ⟨(Sub.w hw), (Sub.w hw), trivial⟩ call30) (Jg rfl Sr rfl (fun hw => step_move (Sub.w hw)) ?_)))))
   refine Jh rfl Sr rfl (fun hw => step_move Sr) (Jh rfl Sr rfl (fun hw => step_move Sr) (Jh rfl Sr rfl (fun hw => step_call0 (ContL_spec (clsL q i (varsQ (keyT q i))) (varsQ (nth q.Atoms k).Terms) hc1 zG) ⟨(Sub.w hw), (Sub.w hw), trivial⟩ call30) (Jg rfl Sr rfl (fun hw => step_pick_or (Sub.w hw) (Sub.ww hw)) (Js rfl (step_pick_and Sr Sr) (JL_nil ?_)))))
   refine J_cond Sr (fun h93 => ?_) (fun h93 => ?_)
   ·
    try simp only [NF] at h93
    exfalso; obtain ⟨a1, a2⟩ := h93; obtain ⟨b1, b2⟩ := keys_law1 hq hlt hkt a1; rcases a2 with h | h; rw [b1] at h; cases h; rw [b2] at h; cases h
   try simp only [NF] at h93
   refine J_skip (Jr (Ja rfl (JL_nil (J_block ?_))))
   refine J_loopL (σ := Nat) (fun n => n ≤ (varsQ (nth q.Atoms i).Terms).length) (fun n => upd (upd (upd (upd (upd (upd (upd (upd (upd (upd (upd (upd (upd (upd (upd (upd (upd (upd (upd (upd (upd (upd (upd (upd (upd (upd env0 1 (tPtr rConj q)) 3 (tV (.bool true))) 4 (tSl (rSl rBool) (attL q))) 6 (tV (.int .i64 i))) 7 (tPtr rAtom (nth q.Atoms i))) 8 (tSl rInt (clsL q i (varsQ (keyT q i))))) 9 (tSl rInt (varsQ (nth q.Atoms i).Terms))) 10 (tV (.int .i64 k))) 11 (tSl rInt (varsQ (nth q.Atoms k).Terms))) 12 (tV (.int .i64 n))) 38 (tV (.int .i64 i))) 39 (tSl (rSl rBool) (attL q))) 46 (tV (.int .i64 i))) 48 (rAtom.ty (nth q.Atoms i))) 50 (tV (.int .i64 i))) 56 (tSl rInt (varsQ (keyT q i)))) 57 (tSl rInt (clsL q i (varsQ (keyT q i))))) 60 (tSl rInt (varsQ (nth q.Atoms i).Terms))) 61 (tV (.int .i64 k))) 62 (tSl (rSl rBool) (attL q))) 63 (tV (.int .i64 i))) 72 (tV (.int .i64 k))) 76 (tSl rInt (varsQ (nth q.Atoms k).Terms))) 77 (tSl (rSl rBool) (attL q))) 78 (tV (.int .i64 i))) 81 (tV (.int .i64 k))) (fun n => []) (fun n => (varsQ (nth q.Atoms i).Terms).length - n) 0 zG (.u (.u (.u (.u (.u (.u (.u (.u (.u (.u (.u (.u (.u (.u (.u (.u (.u (.u (.u (.u (.u (.u (.u (.u (.u (SubE.upd Sr SubE.any)))))))))))))))))))))))))) (LSub.rfl) ?_
   rintro n hnl
   refine J_seq (Jr (Jm rfl (Jm rfl (Js rfl (step_len_sl underlying36 Sr) (Js rfl (step_lss Sr Sr) ?_)))))
   refine JL_nil ?_
   refine J_cond Sr (fun h97 => ?_) (fun h97 => ?_)
   ·
    try simp only [NF] at h97
    have hnt : n < (varsQ (nth q.Atoms i).Terms).length := by omega
    refine J_skip (J_seq (J_block (Jr (Jm rfl (Jm rfl ?_)))))
    refine Js rfl (step_neq Sr Sr) (Jm rfl (Jg rfl Sr rfl (fun hw => step_move Sr) (Jg rfl Sr rfl (fun hw => step_move Sr) (Jg rfl Sr rfl (fun hw => step_move Sr) ?_))))
    refine Jg rfl Sr rfl (fun hw => step_indexAddr_sl (i := n) underlying36 ty3 (Sub.w hw) (Sub.w hw) (by rfl) (gb (by have hwq := hw; (try simp only [beqB_t, beqB_f, NF] at hwq); omega))) ?_
    refine Jg rfl Sr rfl (fun hw => step_load_ptr ty3 (Sub.w hw)) (Jg rfl Sr rfl (fun hw => step_call0 (InL_spec (varsQ (nth q.Atoms k).Terms) (nth (varsQ (nth q.Atoms i).Terms) n) zG) ⟨(Sub.w hw), (Sub.w hw), trivial⟩ call33) (Js rfl (step_pick_and Sr Sr) (Jm rfl (Jg rfl Sr rfl (fun hw => step_move Sr) (Jg rfl Sr rfl (fun hw => step_move Sr) ?_)))))
    refine Jg rfl Sr rfl (fun hw => step_move Sr) ?_
    refine Jg rfl Sr rfl (fun hw => step_indexAddr_sl (i := n) underlying36 ty3 (Sub.w hw) (Sub.w hw) (by rfl) (gb (by have hwq := hw; (try simp only [beqB_t, beqB_f, NF] at hwq); omega))) ?_
    refine Jg rfl Sr rfl (fun hw => step_load_ptr ty3 (Sub.w hw)) (Jg rfl Sr rfl (fun hw => step_call0 (InL_spec (clsL q i (varsQ (keyT q i))) (nth (varsQ (nth q.Atoms i).Terms) n) hc1) ⟨(Sub.w hw), (Sub.w hw), trivial⟩ call33) (Jg rfl Sr rfl (fun hw => step_not (Sub.w hw)) (Js rfl (step_pick_and Sr Sr) (Jm rfl (Jg rfl Sr rfl (fun hw => step_move Sr) ?_)))))
    refine Jg rfl Sr rfl (fun hw => step_move Sr) ?_
    refine Jg rfl Sr rfl (fun hw => step_indexAddr_sl (i := i) underlying29 ty35 (Sub.w hw) (Sub.w hw) (by rfl) (gb (by have hwq := hw; (try simp only [beqB_t, beqB_f, NF] at hwq); omega))) ?_
    refine Jg rfl Sr rfl (fun hw => step_load_ptr ty35 (Sub.w hw)) (Jg rfl Sr rfl (fun hw => step_move Sr) ?_)
    refine Jg rfl Sr rfl (fun hw => step_indexAddr_sl (i := k) underlying35 ty4 (Sub.w hw) (Sub.w hw) (by rfl) (gb (by have hwq := hw; (try simp only [beqB_t, beqB_f, NF] at hwq); omega))) ?_
    refine Jg rfl Sr rfl (fun hw => step_load_ptr ty4 (Sub.w hw)) (Jg rfl Sr rfl (fun hw => step_not (Sub.w hw)) (Js rfl (step_pick_and Sr Sr) (JL_nil ?_)))
    refine J_cond Sr (fun h129 => ?_) (fun h129 => ?_)
    ·
     try simp only [NF] at h129
     exfalso; obtain ⟨⟨⟨a1, a2⟩, a3⟩, a4⟩ := h129; obtain ⟨z, hz, he⟩ := List.any_eq_true.1 a2; have he : z = nth (varsQ (nth q.Atoms i).Terms) n := (by simpa using he); rw [keys_law2 hq hlt hkt (fun e => a1 (by rw [e])) (nth_mem hnt) (he ▸ hz) (fun hm => by rw [List.any_eq_false] at a3; exact a3 _ hm (by simp))] at a4; cases a4
    try simp only [NF] at h129
    refine J_skip (J_region (Jm rfl (Js rfl (step_add Sr Sr z6) (Ja rfl (JL_nil ?_)))))
    refine K_againL (σ := Nat) (s := n) (n + 1) zO zG (.u (.u (.u (.u (.u (.u (.u (.u (.u (.u (.u (.u (.u (.u (.u (.u (.u (.u (.u (.u (.u (.u (.u (.u (.u (SubE.upd Sr SubE.any)))))))))))))))))))))))))) (LSub.rfl)
   try simp only [NF] at h97
   refine J_exit (J_region (Jm rfl (Js rfl (step_add Sr Sr z6) (Ja rfl (JL_nil ?_)))))
   refine K_againL (σ := Nat) (s := k) (k + 1) zO zG (.u (.u (.u (.u (.u (.u (.u (.u (.u (.u (.u (.u (.u (.u (.u (SubE.upd Sr SubE.any)))))))))))))))) (LSub.rfl)
  try simp only [NF] at h67
  refine J_exit (J_region (Jm rfl (Js rfl (step_add Sr Sr z6) (Ja rfl (JL_nil ?_)))))
  refine K_againL (σ := Nat) (s := i) (i + 1) zO zG (.u (.u (.u (SubE.upd Sr SubE.any)))) (LSub.rfl)
 try simp only [NF] at h41
 refine J_exit (Jr (Jm rfl (Ja rfl (JL_nil (J_ret ?_)))))
 refine K_ret1 (t := 2) rfl () Sr
open Go Go.Proofs Go.Proofs.Tryz
theorem cls_len (q : GConj) (w : Int) (vars : List Int) : (clsL q w vars).length ≤ q.Vars.toNat := by
  unfold clsL; rw [List.length_map]
  have := List.length_filter_le (fun (v : Nat) => @decide (ClV q w vars v) (Classical.propDecidable _)) (List.range q.Vars.toNat)
  rw [List.length_range] at this; exact this
theorem closes1 {q : GConj} {w : Int} {a : List Int} (ha : ∀ t ∈ a, 0 ≤ t ∧ t < q.Vars) : contM (clsL q w a) (setM a) = true :=
  (cont_iff (cls_inc _ _ _) (setM_both _).1).2 fun x hx => cls_has ha (((setM_both _).2 x).1 hx)
theorem closes2 {q : GConj} {w : Int} {a b : List Int} : contM (clsL q w (a ++ b)) (clsL q w a) = true :=
  (cont_iff (cls_inc _ _ _) (cls_inc _ _ _)).2 fun x hx => cls_mono (fun t ht => List.mem_append_left _ ht) hx
theorem closes3 {q : GConj} (hq : validQ q = true) {w : Int} {a : List Int} (ha : ∀ t ∈ a, 0 ≤ t ∧ t < q.Vars) : closL q w (clsL q w a) = clsL q w a := by
  rw [closL_eq hq (fun v hv => ⟨(cls_mem.1 hv).1, (cls_mem.1 hv).2.1⟩), cls_idem ha]
theorem closes4 {q : GConj} (hq : validQ q = true) {w : Int} {a : List Int} {i : Nat} (hi : i < q.Atoms.length) (hne : (i : Int) ≠ w) (h : contM (clsL q w a) (varsQ (keyT q i)) = true) : contM (clsL q w a) (varsQ (nth q.Atoms i).Terms) = true := by
  have hk := (cont_iff (cls_inc _ _ _) (vars_both _).1).1 h
  refine (cont_iff (cls_inc _ _ _) (vars_both _).1).2 fun x hx => ?_
  obtain ⟨h1, h2⟩ := ((vars_both _).2 x).1 hx
  exact cls_closed hq hi hne (fun t ht h0 => hk t (((vars_both _).2 t).2 ⟨ht, h0⟩)) h1 h2
def pickAB (a b : List Int) (j : Nat) : Int := if j < a.length then nth a j else nth b (j - a.length)
set_option maxHeartbeats 8000000 in
theorem lawCloses_spec (q : GConj) (w : Int) (a b : List Int) (hl : q.Atoms.length ≤ 9223372036854775807) : Fun1 prog 6 [rConj.ty q, tV (.int .i64 w), tSl rInt a, tSl rInt b] (tV (.bool true)) := by
 refine Spec.enter func6 rfl rfl fun h0 w0 fr0 => ?_
 refine Jr (Js rfl (step_box (R := rConj) Sr) (Ja rfl (JL_nil (Jr (Js rfl (step_call0 (head36_spec) trivial call14) ?_)))))
 refine Ja rfl (JL_nil (J_seq (Jr (Jl rfl ty25 Sr (Js rfl (step_call0 (Few_spec q 8 hl) ⟨Sr, Sr, trivial⟩ call15) ?_)))))
 refine Js rfl (step_not Sr) (Jm rfl (Jg rfl Sr rfl (fun hw => step_load_ptr ty25 Sr) (Jg rfl Sr rfl (fun hw => step_call0 (attackValid_spec q) ⟨(Sub.w hw), trivial⟩ call16) (Jg rfl Sr rfl (fun hw => step_not (Sub.w hw)) (Js rfl (step_pick_or Sr Sr) ?_)))))
 refine Jm rfl (Jg rfl Sr rfl (fun hw => step_move Sr) (Jg rfl Sr rfl (fun hw => step_len_sl underlying36 (Sub.w hw)) (Jg rfl Sr rfl (fun hw => step_gtr (Sub.w hw) Sr) (Js rfl (step_pick_or Sr Sr) (Jm rfl ?_)))))
 refine Jg rfl Sr rfl (fun hw => step_move Sr) (Jg rfl Sr rfl (fun hw => step_len_sl underlying36 (Sub.w hw)) (Jg rfl Sr rfl (fun hw => step_gtr (Sub.w hw) Sr) (Js rfl (step_pick_or Sr Sr) (JL_nil ?_))))
 refine J_cond Sr (fun h34 => ?_) (fun h34 => ?_)
 ·
  try simp only [NF] at h34
  refine Jr (Jm rfl (Ja rfl (JL_nil (J_ret ?_))))
  refine K_ret1 (t := 8) rfl () Sr
 try simp only [NF] at h34
 obtain ⟨⟨⟨hfw, hq⟩, hla⟩, hlb⟩ := h34
 have hla : a.length ≤ 60 := by omega
 have hlb : b.length ≤ 60 := by omega
 obtain ⟨hf1, hf2, hf3, hf4⟩ := few_facts hfw
 have hu1 := uni_len (q := q) (vars := a) (fun j hj => (hf1 j hj).2)
 have hu2 := uni_len (q := q) (vars := a ++ b) (fun j hj => (hf1 j hj).2)
 have hu3 := uni_len (q := q) (vars := (clsL q w a)) (fun j hj => (hf1 j hj).2)
 rw [List.length_append] at hu2
 have hcl1 := cls_len q w a
 have hcl2 := cls_len q w (a ++ b)
 refine J_skip (J_seq (Jr (Ja rfl (JL_nil (J_block ?_)))))
 refine J_loopL (σ := Nat) (fun i => i ≤ a.length + b.length ∧ ∀ j, j < i → 0 ≤ pickAB a b j ∧ pickAB a b j < q.Vars) (fun i => upd (upd (upd (upd (upd (upd env0 1 (tV (.int .i64 w))) 2 (tSl rInt a)) 3 (tSl rInt b)) 4 (tPtr rConj q)) 9 (tV (.bool true))) 10 (tV (.int .i64 i))) (fun i => []) (fun i => a.length + b.length - i) 0 ⟨by omega, fun j hj => by omega⟩ (.u (.u (.u (.u (.u (SubE.upd Sr SubE.any)))))) (LSub.rfl) ?_
 rintro i ⟨hil, hin⟩
 refine J_seq (Jr (Jm rfl (Jm rfl (Js rfl (step_len_sl underlying36 Sr) (Jm rfl ?_)))))
 refine Js rfl (step_len_sl underlying36 Sr) (Js rfl (step_add Sr Sr z6) (Js rfl (step_lss Sr Sr) (JL_nil ?_)))
 refine J_cond Sr (fun h42 => ?_) (fun h42 => ?_)
 ·
  try simp only [NF] at h42
  have hlt : i < a.length + b.length := by omega
  refine J_skip (J_seq (J_block (Jr (Ja rfl (JL_nil ?_)))))
  refine J_seq (Jr (Jm rfl (Jm rfl (Js rfl (step_len_sl underlying36 Sr) (Js rfl (step_lss Sr Sr) ?_)))))
  refine JL_nil ?_
  refine J_cond Sr (fun h48 => ?_) (fun h48 => ?_)
  ·
   try simp only [NF] at h48
   have hia : i < a.length := by omega
   have hx : pickAB a b i = nth a i := by unfold pickAB; rw [if_pos hia]
   refine J_region (Jm rfl (Jm rfl ?_))
   refine Js rfl (step_indexAddr_sl (i := i) underlying36 ty3 Sr Sr (by rfl) (gb zG)) ?_
   refine Jl rfl ty3 Sr (Ja rfl (JL_nil (Jr (Jm rfl (Js rfl (step_lss Sr Sr) ?_)))))
   refine Jm rfl (Jg rfl Sr rfl (fun hw => step_move Sr) (Jg rfl Sr rfl (fun hw => step_fieldAddr so25 Sr rfl) (Jg rfl Sr rfl (fun hw => step_load_ptr ty3 (Sub.w hw)) (Jg rfl Sr rfl (fun hw => step_geq (Sub.w hw) (Sub.w hw)) (Js rfl (step_pick_or Sr Sr) ?_)))))
   refine JL_nil ?_
   refine J_cond Sr (fun h67 => ?_) (fun h67 => ?_)
   ·
    try simp only [NF] at h67
    refine Jr (Jm rfl (Ja rfl (JL_nil (J_ret ?_))))
    refine K_ret1 (t := 8) rfl () Sr
   try simp only [NF] at h67
   refine J_skip (J_region (Jm rfl (Js rfl (step_add Sr Sr z6) (Ja rfl (JL_nil ?_)))))
   refine K_againL (σ := Nat) (s := i) (i + 1) zO ⟨by omega, fun j hj => by
   by_cases e : j = i
   ·
    subst e; rw [hx]; exact ⟨by omega, by omega⟩
   ·
    exact hin j zG⟩ (.u (.u (.u (.u (.u (SubE.upd Sr SubE.any)))))) (LSub.rfl)
  try simp only [NF] at h48
  have hia : ¬ i < a.length := by omega
  have hx : pickAB a b i = nth b (i - a.length) := by unfold pickAB; rw [if_neg hia]
  refine J_region (Jm rfl (Jm rfl (Jm rfl (Js rfl (step_len_sl underlying36 Sr) (Js rfl (step_sub Sr Sr z6) ?_)))))
  refine Js rfl (step_indexAddr_sl (i := (i - a.length)) underlying36 ty3 Sr Sr zG (gb zG)) (Jl rfl ty3 Sr (Ja rfl (JL_nil (Jr (Jm rfl ?_)))))
  refine Js rfl (step_lss Sr Sr) (Jm rfl (Jg rfl Sr rfl (fun hw => step_move Sr) (Jg rfl Sr rfl (fun hw => step_fieldAddr so25 Sr rfl) (Jg rfl Sr rfl (fun hw => step_load_ptr ty3 (Sub.w hw)) (Jg rfl Sr rfl (fun hw => step_geq (Sub.w hw) (Sub.w hw)) ?_)))))
  refine Js rfl (step_pick_or Sr Sr) (JL_nil ?_)
  refine J_cond Sr (fun h67 => ?_) (fun h67 => ?_)
  ·
   try simp only [NF] at h67
   refine Jr (Jm rfl (Ja rfl (JL_nil (J_ret ?_))))
   refine K_ret1 (t := 8) rfl () Sr
  try simp only [NF] at h67
  refine J_skip (J_region (Jm rfl (Js rfl (step_add Sr Sr z6) (Ja rfl (JL_nil ?_)))))
  refine K_againL (σ := Nat) (s := i) (i + 1) zO ⟨by omega, fun j hj => by
   by_cases e : j = i
   ·
    subst e; rw [hx]; exact ⟨by omega, by omega⟩
   ·
    exact hin j zG⟩ (.u (.u (.u (.u (.u (SubE.upd Sr SubE.any)))))) (LSub.rfl)
 try simp only [NF] at h42
 obtain rfl : i = a.length + b.length := by omega
 have hra : ∀ v ∈ a, 0 ≤ v ∧ v < q.Vars := fun v hv => by obtain ⟨j, hj, rfl⟩ := List.getElem_of_mem hv; have := hin j zG; unfold pickAB at this; rw [if_pos hj, nth_get hj] at this; exact this
 have hrb : ∀ v ∈ b, 0 ≤ v ∧ v < q.Vars := fun v hv => by obtain ⟨j, hj, rfl⟩ := List.getElem_of_mem hv; have := hin (a.length + j) zG; unfold pickAB at this; rw [if_neg zG, show a.length + j - a.length = j by omega, nth_get hj] at this; exact this
 have hrab : ∀ v ∈ a ++ b, 0 ≤ v ∧ v < q.Vars := fun v hv => (List.mem_append.1 hv).elim (hra v) (hrb v)
 refine J_exit (Jr (Jl rfl ty25 Sr (Jm rfl (Jm rfl ?_))))
 refine Js rfl (step_eqTy (B := tSl rInt (clsL q w a)) (step_call0 (Closure_spec q w a zG zG) (by exact ⟨Sr, Sr, Sr, trivial⟩) call28) (by rw [closL_eq hq hra])) ?_
 refine Ja rfl (JL_nil (J_seq ?_))
 refine J_draw [⟨0, [4], true⟩, ⟨1, [1], true⟩, ⟨3, [2], true⟩, ⟨5, [3], true⟩, ⟨2, [], false⟩, ⟨4, [75, 76], false⟩, ⟨6, [77, 78], false⟩, ⟨7, [73, 74, 79], false⟩, ⟨8, [80], true⟩] rfl (by kernel_rfl) ?_
 refine Mf rfl rfl (step_load_ptr ty25 Sr) (Mv rfl rfl (Mv rfl rfl (Mv rfl rfl ?_)))
 refine JM_stepX rfl rfl rfl rfl (step_literal_own (ys := []) underlying36 el3 trivial rfl (by decide)) fun v75 => ?_
 refine JM_stepX rfl rfl rfl rfl (step_append underlying36 el3 Sr Sr zS (by simp; omega) (by simp; omega)) fun v77 => ?_
 refine JM_stepX rfl rfl rfl rfl (step_append underlying36 el3 Sr Sr zS (by simp; omega) (by simp; omega)) fun v79 => ?_
 refine JM_stepX rfl rfl rfl rfl (step_call_eat (Sel.take (Sel.none _)) (Closure_spec q w (a ++ b) (by rw [List.length_append]; omega) zG) ⟨Frz.sub Sr, Frz.sub Sr, Frz.own' (by simp), trivial⟩ call28) fun v80 => ?_
 refine Mf rfl rfl (step_assign Sr) (JM_nil ?_)
 refine K_freeze (t := 13) (A' := tSl rInt (clsL q w (a ++ b))) (Sel.none _) (Frz.sub (show Sub (tSl rInt (closL q w (a ++ b))) _ from Sub.eqT (by rw [closL_eq hq hrab]))) ?_
 refine J_seq (Jr (Jm rfl (Jm rfl (Js rfl (step_call0 (SetL_spec a zG) ⟨Sr, trivial⟩ call31) ?_))))
 refine Js rfl (step_call0 (ContL_spec (clsL q w a) (setM a) zG (by have := setM_len a; omega)) ⟨Sr, Sr, trivial⟩ call30) ?_
 refine Js rfl (step_not Sr) (Jm rfl (Jg rfl Sr rfl (fun hw => step_move Sr) (Jg rfl Sr rfl (fun hw => step_move Sr) (Jg rfl Sr rfl (fun hw => step_call0 (ContL_spec (clsL q w (a ++ b)) (clsL q w a) zG zG) ⟨(Sub.w hw), (Sub.w hw), trivial⟩ call30) (Jg rfl Sr rfl (fun hw => step_not (Sub.w hw)) ?_)))))
 refine Js rfl (step_pick_or Sr Sr) (Jm rfl (Jg rfl Sr rfl (fun hw => step_load_ptr ty25 Sr) (Jg rfl Sr rfl (fun hw => step_move Sr) (Jg rfl Sr rfl (fun hw => step_move Sr) (Jg rfl Sr rfl (fun hw => step_call0 (Closure_spec q w (clsL q w a) zG zG) ⟨(Sub.w hw), (Sub.w hw), (Sub.w hw), trivial⟩ call28) ?_)))))
 refine Jg rfl Sr rfl (fun hw => step_move Sr) (Jg rfl Sr rfl (fun hw => step_call0 (Ints_spec (closL q w (clsL q w a)) (clsL q w a) zG) ⟨(Sub.w hw), (Sub.w hw), trivial⟩ call27) (Jg rfl Sr rfl (fun hw => step_not (Sub.w hw)) (Js rfl (step_pick_or Sr Sr) (JL_nil ?_))))
 refine J_cond Sr (fun h100 => ?_) (fun h100 => ?_)
 ·
  try simp only [NF] at h100
  exfalso; rcases h100 with (h | h) | h; rw [closes1 hra] at h; cases h; rw [closes2] at h; cases h; rw [closes3 hq hra] at h; simp at h
 try simp only [NF] at h100
 refine J_skip (J_seq (Jr (Ja rfl (JL_nil (J_block ?_)))))
 refine J_loopL (σ := Nat) (fun i => i ≤ q.Atoms.length) (fun i => upd (upd (upd (upd (upd env0 1 (tV (.int .i64 w))) 4 (tPtr rConj q)) 9 (tV (.bool true))) 12 (tSl rInt (clsL q w a))) 14 (tV (.int .i64 i))) (fun i => []) (fun i => q.Atoms.length - i) 0 zG (.u (.u (.u (.u (SubE.upd Sr SubE.any))))) (LSub.rfl) ?_
 rintro i hil2
 refine J_seq (Jr (Jm rfl (Js rfl (step_fieldAddr so25 Sr rfl) (Jl rfl ty23 Sr (Js rfl (step_len_sl underlying23 Sr) ?_)))))
 refine Js rfl (step_lss Sr Sr) (JL_nil ?_)
 refine J_cond Sr (fun h105 => ?_) (fun h105 => ?_)
 ·
  try simp only [NF] at h105
  have hit : i < q.Atoms.length := by omega
  obtain ⟨hfc, hft⟩ := hf1 i hit
  have hva := valid_atom hq hit
  have hkl : (keyT q i).length ≤ 14 := by unfold keyT; rw [List.length_take]; omega
  have hvl := vars_len (keyT q i)
  have hvo := vars_len (nth q.Atoms i).Terms
  refine J_skip (J_seq (J_block (Jr (Js rfl (step_fieldAddr so25 Sr rfl) (Jl rfl ty23 Sr ?_)))))
  refine Jm rfl ?_
  refine Js rfl (step_indexAddr_sl (i := i) underlying23 ty38 Sr Sr (by rfl) (gb zG)) ?_
  refine Jl rfl ty38 Sr ?_
  refine Jx rfl (step_alloc (fun w => zeroValue38 w) zr38) fun v15 => ?_
  refine Ju (step_store_box ty38 Sr Sr zS) fun _ => ?_
  refine JL_freeze (t := 15) (Sel.take (Sel.none _)) Frz.box ?_
  refine JL_nil (Jr (Jm rfl (Jm rfl (Js rfl (step_neq Sr Sr) (Jm rfl ?_)))))
  refine Jg rfl Sr rfl (fun hw => step_move Sr) (Jg rfl Sr rfl (fun hw => step_fieldAddr so38 Sr rfl) (Jg rfl Sr rfl (fun hw => step_load_ptr ty36 (Sub.w hw)) (Jg rfl Sr rfl (fun hw => step_fieldAddr so38 Sr rfl) (Jg rfl Sr rfl (fun hw => step_load_ptr ty3 (Sub.w hw)) ?_))))
  refine Jg rfl Sr rfl (fun hw => step_slice_toI (n := (nth q.Atoms i).Key.toNat) underlying36 ty3 (Sub.w hw) (Sub.w hw) (by have hwq := hw; (try simp only [beqB_t, beqB_f, NF] at hwq); show (nth q.Atoms i).Key = _; omega) (by have hwq := hw; (try simp only [beqB_t, beqB_f, NF] at hwq); show _ ≤ (nth q.Atoms i).Terms.length; omega)) ?_
  refine Jg rfl Sr rfl (fun hw => step_call0 (varsL_spec (keyT q i) zG) ⟨(Sub.w hw), trivial⟩ call32) (Jg rfl Sr rfl (fun hw => step_call0 (ContL_spec (clsL q w a) (varsQ (keyT q i)) zG zG) ⟨(Sub.w hw), (Sub.w hw), trivial⟩ call30) (Js rfl (step_pick_and Sr Sr) (Jm rfl (Jg rfl Sr rfl (fun hw => step_move Sr) (Jg rfl Sr rfl (fun hw => step_fieldAddr so38 Sr rfl) ?_)))))
  refine Jg rfl Sr rfl (fun hw => step_load_ptr ty36 (Sub.w hw)) (Jg rfl Sr rfl (fun hw => step_call0 (varsL_spec (nth q.Atoms i).Terms zG) ⟨(Sub.w hw), trivial⟩ call32) (Jg rfl Sr rfl (fun hw => step_call0 (ContL_spec (clsL q w a) (varsQ (nth q.Atoms i).Terms) zG zG) ⟨(Sub.w hw), (Sub.w hw), trivial⟩ call30) (Jg rfl Sr rfl (fun hw => step_not (Sub.w hw)) (Js rfl (step_pick_and Sr Sr) (JL_nil ?_)))))
  refine J_cond Sr (fun h133 => ?_) (fun h133 => ?_)
  ·
   try simp only [NF] at h133
   exfalso; obtain ⟨⟨a1, a2⟩, a3⟩ := h133; rw [closes4 hq hit (fun e => a1 e) a2] at a3; cases a3
  try simp only [NF] at h133
  refine J_skip (J_region (Jm rfl (Js rfl (step_add Sr Sr z6) (Ja rfl (JL_nil ?_)))))
  refine K_againL (σ := Nat) (s := i) (i + 1) zO zG (.u (.u (.u (.u (SubE.upd Sr SubE.any))))) (LSub.rfl)
 try simp only [NF] at h105
 refine J_exit (Jr (Jm rfl (Ja rfl (JL_nil (J_ret ?_)))))
 refine K_ret1 (t := 8) rfl () Sr
end Lg
