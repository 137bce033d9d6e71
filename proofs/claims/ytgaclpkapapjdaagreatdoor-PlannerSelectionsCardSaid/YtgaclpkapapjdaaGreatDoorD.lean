/- A part of the proof of the law PlannerSelections: contracts of functions that the law reaches, and facts about what they compute. -/
import Derived.Test.YtgaclpkapapjdaaGreatDoorC
set_option linter.unusedVariables false
set_option linter.unusedSimpArgs false
set_option linter.unusedSectionVars false
namespace Lg
open Go Go.Proofs Go.Proofs.Tryz
structure MkOk (x : Gplanner) (p : GPlan) (ks : List Gnode) : Prop where
  k0 : ∀ k ∈ ks, NdOk k
  n : ks.length ≤ 1000000
  t : p.Tests.length ≤ 1000000
  c : p.Cols.length ≤ 1000000
  k1 : p.Kind = 1 → 0 ≤ p.Table ∧ p.Table < x.st.Rows.length ∧ p.Table < x.st.Distinct.length ∧ Upto (nth x.st.Rows p.Table.toNat) ∧ (nth x.st.Distinct p.Table.toNat).length ≤ 1000000
  k2 : p.Kind ≠ 1 → 0 < ks.length
  k3 : p.Kind = 2 → ∀ t ∈ p.Tests, tstIn (nth ks 0).size.distinct.length t
  k4 : p.Kind = 3 ∨ p.Kind = 8 → colsIn (nth ks 0).size.distinct.length p.Cols
  k5 : p.Kind = 4 ∨ p.Kind = 5 → 1 < ks.length
  k6 : p.Kind = 5 → (nth ks 0).size.distinct.length ≤ (nth ks 1).size.distinct.length
section
variable {x : Gplanner} {p : GPlan} {ks : List Gnode}
theorem rows_1 (h : p.Kind = 1) : rowsM x p ks = nth x.st.Rows p.Table.toNat := by simp [rowsM, h]
theorem rows_2 (h : p.Kind = 2) : rowsM x p ks = selR (nth ks 0).size.distinct p.Tests (nth ks 0).size.rows := by simp [rowsM, h]
theorem rows_3 (h : p.Kind = 3) : rowsM x p ks = sevM (nth ks 0) p.Cols := by simp [rowsM, h]
theorem rows_8 (h : p.Kind = 8) : rowsM x p ks = ngrpR (nth ks 0) p.Cols := by simp [rowsM, h]
theorem rows_4 (h : p.Kind = 4) : rowsM x p ks = jRows (nth ks 0) (nth ks 1) (nth ks 0).Plan.Attrs.length := by simp [rowsM, h]
theorem rows_5 (h : p.Kind = 5) : rowsM x p ks = min 1000000000 ((nth ks 0).size.rows + (nth ks 1).size.rows) := by simp [rowsM, h]
theorem rows_d (h1 : p.Kind ≠ 1) (h2 : p.Kind ≠ 2) (h3 : p.Kind ≠ 3) (h4 : p.Kind ≠ 4) (h5 : p.Kind ≠ 5) (h8 : p.Kind ≠ 8) : rowsM x p ks = (nth ks 0).size.rows := by simp [rowsM, h1, h2, h3, h4, h5, h8]
theorem ds_1 (h : p.Kind = 1) : dsM x p ks = nth x.st.Distinct p.Table.toNat := by simp [dsM, h]
theorem ds_2 (h : p.Kind = 2) : dsM x p ks = (nth ks 0).size.distinct := by simp [dsM, h]
theorem ds_3 (h : p.Kind = 3) : dsM x p ks = pickD (nth ks 0).size.distinct p.Cols := by simp [dsM, h]
theorem ds_8 (h : p.Kind = 8) : dsM x p ks = pickD (nth ks 0).size.distinct p.Cols ++ [ngrpR (nth ks 0) p.Cols] := by simp [dsM, h]
theorem ds_4 (h : p.Kind = 4) : dsM x p ks = jDs (nth ks 0) (nth ks 1) (nth ks 1).Plan.Attrs.length := by simp [dsM, h]
theorem ds_5 (h : p.Kind = 5) : dsM x p ks = uDs (nth ks 0).size.distinct (nth ks 1).size.distinct (nth ks 0).size.distinct.length := by simp [dsM, h]
theorem ds_d (h1 : p.Kind ≠ 1) (h2 : p.Kind ≠ 2) (h3 : p.Kind ≠ 3) (h4 : p.Kind ≠ 4) (h5 : p.Kind ≠ 5) (h8 : p.Kind ≠ 8) : dsM x p ks = (nth ks 0).size.distinct := by simp [dsM, h1, h2, h3, h4, h5, h8]
theorem mk_a (h : MkOk x p ks) (hk : p.Kind ≠ 1) : NdOk (nth ks 0) := h.k0 _ (nth_mem (h.k2 hk))
theorem mk_b (h : MkOk x p ks) (hk : p.Kind = 4 ∨ p.Kind = 5) : NdOk (nth ks 1) := h.k0 _ (nth_mem (h.k5 hk))
theorem rowsM_bd (h : MkOk x p ks) : Upto (rowsM x p ks) := by
  by_cases h1 : p.Kind = 1
  · rw [rows_1 h1]; exact (h.k1 h1).2.2.2.1
  · have ha := mk_a h h1
    by_cases h2 : p.Kind = 2
    · rw [rows_2 h2]; exact sel_bd ha.r _
    · by_cases h3 : p.Kind = 3
      · rw [rows_3 h3]; exact sev_bd ha _
      · by_cases h8 : p.Kind = 8
        · rw [rows_8 h8]; exact grp_bd ha _
        · by_cases h4 : p.Kind = 4
          · rw [rows_4 h4]; exact jrows_bd ha (mk_b h (.inl h4)) _
          · by_cases h5 : p.Kind = 5
            · rw [rows_5 h5]
              have h1 := ha.r
              have h2 := (mk_b h (.inr h5)).r
              unfold Upto at *; omega
            · rw [rows_d h1 h2 h3 h4 h5 h8]; exact ha.r
theorem dsM_len (h : MkOk x p ks) : (dsM x p ks).length ≤ 10000000 := by
  by_cases h1 : p.Kind = 1
  · rw [ds_1 h1]; have := (h.k1 h1).2.2.2.2; omega
  · have ha := mk_a h h1
    have hal := ha.n
    have haa := ha.a
    by_cases h2 : p.Kind = 2
    · rw [ds_2 h2]; omega
    · by_cases h3 : p.Kind = 3
      · rw [ds_3 h3, pickD, List.length_map]; have := h.c; omega
      · by_cases h8 : p.Kind = 8
        · rw [ds_8 h8, pickD, List.length_append, List.length_map, List.length_singleton]; have := h.c; omega
        · by_cases h4 : p.Kind = 4
          · have hb := mk_b h (.inl h4)
            have hba := hb.a
            rw [ds_4 h4, jDs, List.length_append, List.length_map]
            have : (jNew (nth ks 0) (nth ks 1) (nth ks 1).Plan.Attrs.length).length ≤ _ := List.length_filter_le _ _
            rw [List.length_range] at this
            omega
          · by_cases h5 : p.Kind = 5
            · rw [ds_5 h5, uDs, List.length_map, List.length_range]; omega
            · rw [ds_d h1 h2 h3 h4 h5 h8]; omega
end
theorem Sub.planP {n m : Nat} {p : GPlan} (h : n = m + 1) : Sub (tPtr (rPlan n) p) (tPtr (rPlan (m + 1)) p) := h ▸ Sr
def minI (l : List Int) (r : Int) (i : Nat) : List Int := (l.take i).map (fun d => min d r) ++ l.drop i
theorem minI_len (l : List Int) (r : Int) (i : Nat) : (minI l r i).length = l.length := by simp [minI]; omega
theorem minI_nth {l : List Int} {r : Int} {i : Nat} (h : i < l.length) : nth (minI l r i) i = nth l i := by
  have h1 : i < (minI l r i).length := by rw [minI_len]; exact h
  rw [nth_get h1, nth_get h]
  simp [minI, List.getElem_append_right, Nat.min_eq_left (Nat.le_of_lt h)]
theorem minI_set {l : List Int} {r : Int} {i : Nat} (h : i < l.length) : (minI l r i).set i (min (nth (minI l r i) i) r) = minI l r (i + 1) := by
  rw [minI_nth h]
  unfold minI
  rw [takeB h, List.map_append, List.set_append_right _ _ (by simp; omega)]
  have : i - ((l.take i).map fun d => min d r).length = 0 := by simp; omega
  rw [this]
  have hd : l.drop i = nth l i :: l.drop (i + 1) := by rw [nth_get h]; exact List.drop_eq_getElem_cons h
  rw [hd]; simp
theorem minI_0 (l : List Int) (r : Int) : minI l r 0 = l := by simp [minI]
theorem minI_all (l : List Int) (r : Int) : minI l r l.length = l.map fun d => min d r := by simp [minI]
theorem cost_take {ks : List Gnode} {i : Nat} (h : i < ks.length) : costK (ks.take (i + 1)) = min 1000000000 (costK (ks.take i) + (nth ks i).size.cost) := fold_take h
theorem cost_takebd {ks : List Gnode} (h : ∀ k ∈ ks, NdOk k) (i : Nat) : Upto (costK (ks.take i)) := cost_bd fun k hk => h k (List.mem_of_mem_take hk)
theorem jnew_succ {l r : Gnode} {k : Nat} : jNew l r (k + 1) = if columnL l.Plan.Attrs (nth r.Plan.Attrs k).Name < 0 then jNew l r k ++ [k] else jNew l r k := by
  unfold jNew
  rw [List.range_succ, List.filter_append]
  split <;> simp [*]
theorem jds_t {l r : Gnode} {k : Nat} (h : columnL l.Plan.Attrs (nth r.Plan.Attrs k).Name < 0) : jDs l r (k + 1) = jDs l r k ++ [nth r.size.distinct k] := by unfold jDs; rw [jnew_succ, if_pos h, List.map_append, List.append_assoc]; rfl
theorem jds_f {l r : Gnode} {k : Nat} (h : ¬ columnL l.Plan.Attrs (nth r.Plan.Attrs k).Name < 0) : jDs l r (k + 1) = jDs l r k := by unfold jDs; rw [jnew_succ, if_neg h]
theorem jnew_len (l r : Gnode) (k : Nat) : (jNew l r k).length ≤ k := by
  have : (jNew l r k).length ≤ _ := List.length_filter_le _ _
  rwa [List.length_range] at this
theorem uds_succ (a b : List Int) (k : Nat) : uDs a b (k + 1) = uDs a b k ++ [nth a k + nth b k] := by unfold uDs; rw [List.range_succ, List.map_append]; rfl
theorem pick_succ {d cols : List Int} {i : Nat} (h : i < cols.length) : pickD d (cols.take (i + 1)) = pickD d (cols.take i) ++ [nth d (nth cols i).toNat] := by unfold pickD; rw [takeB h, List.map_append]; rfl
set_option maxHeartbeats 16000000 in
theorem make_spec (x : Gplanner) (m n : Nat) (p : GPlan) (ks : List Gnode) (hm : MkOk x p ks) : Fun1 prog 146 [rplanner.ty x, (rPlan (m + 1)).ty p, tSl (rnode n) ks] ((rnode (n + 1)).ty (makeM x p ks)) := by
 refine Spec.enter func146 rfl rfl fun h0 w0 fr0 => ?_
 refine K_fact 2 (fun _ _ r => nodes_pos r) fun ⟨n1, hn1⟩ => ?_
 obtain ⟨q1, q2, q3, q4, q5, q6, q7, q8, q9, q10⟩ := id hm
 have hcb := cost_bd q1
 have hrb := rowsM_bd hm
 have hdl := dsM_len hm
 unfold Upto at hcb hrb
 refine Jr (Js rfl (step_box (R := rplanner) Sr) (Js rfl (step_box (R := (rPlan (m + 1))) Sr) (Js rfl (step_box (R := (rSl (rnode n))) Sr) ?_)))
 refine Jx rfl (step_alloc (R := rnode (n + 1)) (fun w => zeroValue152 w) zr152) fun b6 => ?_
 refine JL_nil (Jr (Jl rfl ty46 Sr (Js rfl (step_build (x := (⟨p, zsizeR⟩ : GnodeR)) (zs := [[Value.int .i64 0, Value.int .i64 0, Value.slice none 0 0, Value.slice none 0 0, Value.slice none 0 0, Value.int .i64 0, Value.int .i64 0, Value.slice none 0 0], [Value.int .i64 0, Value.int .i64 0, Value.slice none 0 0]]) (so152R (n := m + 1)) (fun w => zeroValue152 w) ⟨Sr, trivial⟩ ⟨⟨Sr, rfl⟩, fun _ => zrel_sizeR _, trivial⟩) ?_)))
 refine Jx rfl (step_alloc (R := rnodeF m) (fun w => zeroValue152 w) zr152F) fun b7 => ?_
 refine Ju (step_store_box ty152F Sr flat_ty zS) fun _ => ?_
 refine JL_nil (Jr (Js rfl (step_fieldAt (o := 0) (o' := 0) (so152 (n := n + 1)) Sr rfl rfl) (Js rfl (step_fieldAt (o := 0) (o' := 2) (so46 (n := n)) Sr rfl rfl) ?_)))
 refine Ju (step_store_fld (b := b7) (n := 2) (fs := (fsnodeF m)) (R := rV) (y := flatN p zsizeR) (y' := (⟨p.Kind, p.Table, .raw (.slice none 0 0), p.Tests, p.Cols, p.Col, p.Agg, p.Attrs, 0, 0, .raw (.slice none 0 0)⟩ : GnodeF)) ty42V Sr (Sub.rV rfl) zS ⟨rfl, ⟨rfl, ⟨fun _ _ q => SO.raw_rel q, rfl, by intro g hg; simp only [List.mem_cons, List.not_mem_nil, or_false] at hg; rcases hg with rfl | rfl | rfl | rfl | rfl | rfl | rfl | rfl <;> rfl⟩⟩⟩) fun _ => ?_
 refine JL_nil (J_seq (Jr (Jl rfl ty197 Sr (Js rfl (step_len_sl underlying197 Sr) (Jm rfl ?_)))))
 refine JL_nil (J_block ?_)
 refine J_loopL (σ := Nat × Value) (fun ⟨i, vk⟩ => i ≤ ks.length) (fun ⟨i, vk⟩ => upd (upd (upd (upd (upd (upd (upd (upd env0 3 (tPtr rplanner x)) 4 (tPtr (rPlan (m + 1)) p)) 5 (tPtr (rSl (rnode n)) ks)) 6 (tAt b6 0)) 7 (tAt b7 0)) 28 (tSl (rnode n) ks)) 29 (tV (.int .i64 ks.length))) 30 (tV (.int .i64 i))) (fun ⟨i, vk⟩ => [box b7 152 (rnodeF n) ⟨p.Kind, p.Table, .raw vk, p.Tests, p.Cols, p.Col, p.Agg, p.Attrs, 0, (costK (ks.take i)), .raw (.slice none 0 0)⟩, own 46 (rPlan n) vk ((ks.take i).map Gnode.Plan), box b6 152 (rnode (n + 1)) ⟨GPl.zero, zsize⟩]) (fun ⟨i, vk⟩ => ks.length - i) (0, .slice none 0 0) (by exact Nat.zero_le _) (zU) (LSub.trans (.c zS (flat_raw (n := n) rfl) LSub.rfl) (LSub.cons (Sel.take (Sel.none _)) SPs.rfl (LSub.nilown))) ?_
 rintro ⟨i, vk⟩ hi
 try dsimp only at hi
 refine Jr (Js rfl (step_lss Sr Sr) (JL_nil (J_seq ?_)))
 refine J_cond Sr (fun h31 => ?_) (fun h31 => ?_)
 ·
  try simp only [NF] at h31
  have hlt : i < ks.length := by omega
  have hci := cost_takebd q1 i
  have hcc := (q1 _ (nth_mem hlt)).c
  unfold Upto at hci hcc
  refine J_skip (J_seq (J_block (Jr ?_)))
  refine Js rfl (step_indexAddr_sl (i := i) underlying197 ty152 Sr Sr (by rfl) (gb (by exact hlt))) ?_
  refine Jl rfl ty152 Sr ?_
  refine Jx rfl (step_alloc (R := rnode n) (fun w => zeroValue152 w) (zr152P (hn1 zG))) fun b9 => ?_
  refine Ju (step_store_box ty152 Sr Sr zS) fun _ => ?_
  refine JL_freeze (t := 9) (Sel.take (Sel.none _)) Frz.box ?_
  refine JL_nil (Jr (Js rfl (step_fieldAt (o := 0) (o' := 0) (so152 (n := n + 1)) Sr rfl rfl) (Js rfl (step_fieldAt (o := 0) (o' := 2) (so46 (n := n)) Sr rfl rfl) ?_)))
  refine Js rfl (step_load_fld (b := b7) (n := 2) (fs := (fsnodeF n)) ty42S Sr rfl zS) ?_
  refine Js rfl (step_fieldAddr so152 Sr rfl) (Jl rfl ty46 Sr ?_)
  refine Js rfl (step_literal (ys := [(nth ks i).Plan]) underlying42 (el46P (hn1 zG)) ⟨rfl, Sr, trivial⟩ rfl (by rw [kplan]; decide)) ?_
  refine Jx rfl (step_append underlying42 (el46P (hn1 zG)) Sr Sr zS (by simp only [List.length_append, List.length_cons, List.length_nil, List.length_map, List.length_take, uDs, pickD, List.length_range]; omega) (by simp only [List.length_append, List.length_cons, List.length_nil, List.length_map, List.length_take, uDs, pickD, List.length_range]; omega)) fun v40 => ?_
  refine Js rfl (step_fieldAt (o := 0) (o' := 0) (so152 (n := n + 1)) Sr rfl rfl) (Js rfl (step_fieldAt (o := 0) (o' := 2) (so46 (n := n)) Sr rfl rfl) ?_)
  refine Ju (step_store_fld (b := b7) (n := 2) (fs := (fsnodeF n)) (R := rV) (y' := (⟨p.Kind, p.Table, .raw v40, p.Tests, p.Cols, p.Col, p.Agg, p.Attrs, 0, (costK (ks.take i)), .raw (.slice none 0 0)⟩ : GnodeF)) ty42V Sr Sr zS (by exact ⟨rfl, ⟨rfl, ⟨fun _ _ q => SO.raw_rel q, rfl, by intro g hg; simp only [List.mem_cons, List.not_mem_nil, or_false] at hg; rcases hg with rfl | rfl | rfl | rfl | rfl | rfl | rfl | rfl <;> rfl⟩⟩⟩)) fun _ => ?_
  refine JL_nil (J_region (Js rfl (step_fieldAt (o := 0) (o' := 8) (so152 (n := n + 1)) Sr rfl rfl) (Js rfl (step_fieldAt (o := 8) (o' := 9) so150 Sr rfl rfl) ?_)))
  refine Js rfl (step_load_fld (b := b7) (n := 9) (fs := (fsnodeF n)) ty3 Sr rfl zS) ?_
  refine Js rfl (step_fieldAddr so152 Sr rfl) (Js rfl (step_fieldAddr so150 Sr rfl) (Jl rfl ty3 Sr ?_))
  refine Js rfl (step_add Sr Sr (by show in64 ((costK (ks.take i)) + (nth ks i).size.cost); unfold in64; omega)) ?_
  refine Js rfl (step_minI Sr Sr) (Js rfl (step_fieldAt (o := 0) (o' := 8) (so152 (n := n + 1)) Sr rfl rfl) (Js rfl (step_fieldAt (o := 8) (o' := 9) so150 Sr rfl rfl) ?_))
  refine Ju (step_store_fld (b := b7) (n := 9) (fs := (fsnodeF n)) (R := rInt) (y' := (⟨p.Kind, p.Table, .raw v40, p.Tests, p.Cols, p.Col, p.Agg, p.Attrs, 0, (min 1000000000 ((costK (ks.take i)) + (nth ks i).size.cost)), .raw (.slice none 0 0)⟩ : GnodeF)) ty3 Sr Sr zS (by exact ⟨rfl, ⟨rfl, ⟨rfl, ⟨rfl, ⟨rfl, ⟨rfl, ⟨rfl, ⟨rfl, ⟨rfl, ⟨fun _ _ q => q, rfl, by intro g hg; simp only [List.mem_cons, List.not_mem_nil, or_false] at hg; subst hg; rfl⟩⟩⟩⟩⟩⟩⟩⟩⟩⟩)) fun _ => ?_
  refine JL_nil (J_region (Js rfl (step_add Sr Sr z6) (Jm rfl (JL_nil ?_))))
  refine K_againL (σ := Nat × Value) (s := (i, vk)) (i + 1, v40) zO (by show i + 1 ≤ _; omega) (zU) (.c zS (SPs.of (A := box b7 152 (rnodeF n) ⟨p.Kind, p.Table, .raw v40, p.Tests, p.Cols, p.Col, p.Agg, p.Attrs, 0, (min 1000000000 ((costK (ks.take i)) + (nth ks i).size.cost)), .raw (.slice none 0 0)⟩) (by rw [cost_take hlt])) (.c zS (SPs.of (A := own 46 (rPlan n) v40 ((ks.take i).map Gnode.Plan ++ [(nth ks i).Plan])) (by rw [takeB hlt, List.map_append]; rfl)) (zL)))
 try simp only [NF] at h31
 obtain rfl : i = ks.length := by omega
 refine J_exit (J_seq ?_)
 refine K_lsub (L' := [box b7 152 (rnodeF n) ⟨p.Kind, p.Table, .raw vk, p.Tests, p.Cols, p.Col, p.Agg, p.Attrs, 0, (costK ks), .raw (.slice none 0 0)⟩, own 46 (rPlan n) vk (ks.map Gnode.Plan), box b6 152 (rnode (n + 1)) ⟨GPl.zero, zsize⟩]) (.c zS (SPs.of (A := box b7 152 (rnodeF n) ⟨p.Kind, p.Table, .raw vk, p.Tests, p.Cols, p.Col, p.Agg, p.Attrs, 0, (costK (ks.take ks.length)), .raw (.slice none 0 0)⟩) (by rw [List.take_length])) (.c zS (SPs.of (A := own 46 (rPlan n) vk ((ks.take ks.length).map Gnode.Plan)) (by rw [List.take_length])) (zL))) ?_
 refine J_region (Js rfl (step_makeFunc (As := [_, _]) ⟨Sr, Sr, trivial⟩) (Ja rfl (JL_nil (J_seq (Jr ?_)))))
 refine Js rfl (step_fieldAddr so46 Sr rfl) (Jl rfl ty3 Sr (JL_nil ?_))
 refine J_cut (X := Unit) (fun _ => upd (upd env0 6 (tAt b6 0)) 7 (tAt b7 0)) (fun _ => [box b7 152 (rnodeF n) ⟨p.Kind, p.Table, .raw vk, p.Tests, p.Cols, p.Col, p.Agg, p.Attrs, (rowsM x p ks), (costK ks), .imm (dsM x p ks)⟩, own 46 (rPlan n) vk (ks.map Gnode.Plan), box b6 152 (rnode (n + 1)) ⟨GPl.zero, zsize⟩]) ?_ ?_
 ·
  skip
  refine J_block (Jr (Js rfl (step_eql Sr Sr) (Ja rfl (JL_nil ?_))))
  refine J_cond Sr (fun h71 => ?_) (fun h71 => ?_)
  ·
   try simp only [NF] at h71
   have hk : p.Kind = 1 := h71
   have hq5 := q5 hk
   refine J_drawX [⟨0, [3], 0⟩, ⟨1, [73], 0⟩, ⟨2, [74], 0⟩, ⟨3, [4], 0⟩, ⟨4, [76], 0⟩, ⟨5, [75, 77], 0⟩, ⟨6, [78], 0⟩, ⟨7, [3], 0⟩, ⟨8, [80], 0⟩, ⟨9, [81], 0⟩, ⟨10, [4], 0⟩, ⟨11, [83], 0⟩, ⟨12, [82, 84], 0⟩, ⟨13, [85], 0⟩, ⟨14, [7], 0⟩, ⟨15, [87], 0⟩, ⟨16, [79, 88], 2⟩, ⟨17, [7], 0⟩, ⟨18, [89], 0⟩, ⟨19, [86, 90], 2⟩] rfl (by kernel_rfl) ?_
   refine JX_step rfl rfl rfl rfl (fun _ => step_fieldAddr so146 Sr rfl) ?_
   refine JX_step rfl rfl rfl rfl (fun _ => step_fieldAddr so60 Sr rfl) ?_
   refine JX_step rfl rfl rfl rfl (fun _ => step_load_ptr ty36 Sr) ?_
   refine JX_step rfl rfl rfl rfl (fun _ => step_fieldAddr so46 Sr rfl) ?_
   refine JX_step rfl rfl rfl rfl (fun _ => step_load_ptr ty3 Sr) ?_
   refine JX_step rfl rfl rfl rfl (fun _ => step_indexAddr_sl (i := p.Table.toNat) underlying36 ty3 Sr Sr (by show p.Table = _; omega) (gb (by show _ < x.st.Rows.length; omega))) ?_
   refine JX_step rfl rfl rfl rfl (fun _ => step_load_ptr ty3 Sr) ?_
   refine JX_step rfl rfl rfl rfl (fun _ => step_fieldAddr so146 Sr rfl) ?_
   refine JX_step rfl rfl rfl rfl (fun _ => step_fieldAddr so60 Sr rfl) ?_
   refine JX_step rfl rfl rfl rfl (fun _ => step_load_ptr ty58 Sr) ?_
   refine JX_step rfl rfl rfl rfl (fun _ => step_fieldAddr so46 Sr rfl) ?_
   refine JX_step rfl rfl rfl rfl (fun _ => step_load_ptr ty3 Sr) ?_
   refine JX_step rfl rfl rfl rfl (fun _ => step_indexAddr_sl (i := p.Table.toNat) underlying58 ty36 Sr Sr (by show p.Table = _; omega) (gb (by show _ < x.st.Distinct.length; omega))) ?_
   refine JX_step rfl rfl rfl rfl (fun _ => step_load_ptr ty36 Sr) ?_
   refine JX_step rfl rfl rfl rfl (fun _ => step_fieldAt (o := 0) (o' := 8) (so152 (n := n + 1)) Sr rfl rfl) ?_
   refine JX_step rfl rfl rfl rfl (fun _ => step_fieldAt (o := 8) (o' := 8) so150 Sr rfl rfl) ?_
   refine JX_stepU rfl rfl rfl (step_store_fld (b := b7) (n := 8) (fs := (fsnodeF n)) (R := rInt) (y' := (⟨p.Kind, p.Table, .raw vk, p.Tests, p.Cols, p.Col, p.Agg, p.Attrs, (nth x.st.Rows p.Table.toNat), (costK ks), .raw (.slice none 0 0)⟩ : GnodeF)) ty3 Sr Sr zS (by exact ⟨rfl, ⟨rfl, ⟨rfl, ⟨rfl, ⟨rfl, ⟨rfl, ⟨rfl, ⟨rfl, ⟨fun _ _ q => q, rfl, by intro g hg; simp only [List.mem_cons, List.not_mem_nil, or_false] at hg; rcases hg with rfl | rfl <;> rfl⟩⟩⟩⟩⟩⟩⟩⟩⟩)) fun _ => ?_
   refine JX_step rfl rfl rfl rfl (fun _ => step_fieldAt (o := 0) (o' := 8) (so152 (n := n + 1)) Sr rfl rfl) ?_
   refine JX_step rfl rfl rfl rfl (fun _ => step_fieldAt (o := 8) (o' := 10) so150 Sr rfl rfl) ?_
   refine JX_stepU rfl rfl rfl (step_store_fld (b := b7) (n := 10) (fs := (fsnodeF n)) (R := (rSl rInt)) (y' := (⟨p.Kind, p.Table, .raw vk, p.Tests, p.Cols, p.Col, p.Agg, p.Attrs, (nth x.st.Rows p.Table.toNat), (costK ks), .imm (nth x.st.Distinct p.Table.toNat)⟩ : GnodeF)) ty36 Sr Sr zS (by exact ⟨rfl, ⟨rfl, ⟨rfl, ⟨rfl, ⟨rfl, ⟨rfl, ⟨rfl, ⟨rfl, ⟨rfl, ⟨rfl, ⟨fun _ _ q => SO.imm_rel q, rfl, by intro g hg; cases hg⟩⟩⟩⟩⟩⟩⟩⟩⟩⟩⟩)) fun _ => ?_
   refine JX_nil ?_
   refine K_cut (E := fun _ => env0) () (zU) (.c zS (SPs.of (A := box b7 152 (rnodeF n) ⟨p.Kind, p.Table, .raw vk, p.Tests, p.Cols, p.Col, p.Agg, p.Attrs, (nth x.st.Rows p.Table.toNat), (costK ks), .imm (nth x.st.Distinct p.Table.toNat)⟩) (by rw [rows_1 hk, ds_1 hk])) (zL))
  try simp only [NF] at h71
  have hk0 : 0 < ks.length := q6 h71
  have hka := mk_a hm h71
  have hkan := hka.n
  have hkaa := hka.a
  have hkar := hka.r
  unfold Upto at hkar
  refine Jr (Js rfl (step_eql Sr Sr) (Ja rfl (JL_nil ?_)))
  refine J_cond Sr (fun h91 => ?_) (fun h91 => ?_)
  ·
   try simp only [NF] at h91
   have hk : p.Kind = 2 := h91
   refine J_seq ?_
   refine J_drawX [⟨0, [5], 0⟩, ⟨1, [93], 0⟩, ⟨2, [94], 0⟩, ⟨3, [95], 0⟩, ⟨4, [96], 0⟩, ⟨5, [5], 0⟩, ⟨6, [98], 0⟩, ⟨7, [99], 0⟩, ⟨8, [100], 0⟩, ⟨9, [101], 0⟩, ⟨10, [7], 0⟩, ⟨11, [103], 0⟩, ⟨12, [97, 104], 2⟩, ⟨13, [7], 0⟩, ⟨14, [105], 0⟩, ⟨15, [102, 106], 2⟩] rfl (by kernel_rfl) ?_
   refine JX_step rfl rfl rfl rfl (fun _ => step_load_ptr ty197 Sr) ?_
   refine JX_step rfl rfl rfl rfl (fun _ => step_indexAddr_sl (i := 0) underlying197 ty152 Sr Sr (by rfl) (gb (by exact hk0))) ?_
   refine JX_step rfl rfl rfl rfl (fun _ => step_fieldAddr so152 Sr rfl) ?_
   refine JX_step rfl rfl rfl rfl (fun _ => step_fieldAddr so150 Sr rfl) ?_
   refine JX_step rfl rfl rfl rfl (fun _ => step_load_ptr ty3 Sr) ?_
   refine JX_step rfl rfl rfl rfl (fun _ => step_load_ptr ty197 Sr) ?_
   refine JX_step rfl rfl rfl rfl (fun _ => step_indexAddr_sl (i := 0) underlying197 ty152 Sr Sr (by rfl) (gb (by exact hk0))) ?_
   refine JX_step rfl rfl rfl rfl (fun _ => step_fieldAddr so152 Sr rfl) ?_
   refine JX_step rfl rfl rfl rfl (fun _ => step_fieldAddr so150 Sr rfl) ?_
   refine JX_step rfl rfl rfl rfl (fun _ => step_load_ptr ty36 Sr) ?_
   refine JX_step rfl rfl rfl rfl (fun _ => step_fieldAt (o := 0) (o' := 8) (so152 (n := n + 1)) Sr rfl rfl) ?_
   refine JX_step rfl rfl rfl rfl (fun _ => step_fieldAt (o := 8) (o' := 8) so150 Sr rfl rfl) ?_
   refine JX_stepU rfl rfl rfl (step_store_fld (b := b7) (n := 8) (fs := (fsnodeF n)) (R := rInt) (y' := (⟨p.Kind, p.Table, .raw vk, p.Tests, p.Cols, p.Col, p.Agg, p.Attrs, (nth ks 0).size.rows, (costK ks), .raw (.slice none 0 0)⟩ : GnodeF)) ty3 Sr Sr zS (by exact ⟨rfl, ⟨rfl, ⟨rfl, ⟨rfl, ⟨rfl, ⟨rfl, ⟨rfl, ⟨rfl, ⟨fun _ _ q => q, rfl, by intro g hg; simp only [List.mem_cons, List.not_mem_nil, or_false] at hg; rcases hg with rfl | rfl <;> rfl⟩⟩⟩⟩⟩⟩⟩⟩⟩)) fun _ => ?_
   refine JX_step rfl rfl rfl rfl (fun _ => step_fieldAt (o := 0) (o' := 8) (so152 (n := n + 1)) Sr rfl rfl) ?_
   refine JX_step rfl rfl rfl rfl (fun _ => step_fieldAt (o := 8) (o' := 10) so150 Sr rfl rfl) ?_
   refine JX_stepU rfl rfl rfl (step_store_fld (b := b7) (n := 10) (fs := (fsnodeF n)) (R := (rSl rInt)) (y' := (⟨p.Kind, p.Table, .raw vk, p.Tests, p.Cols, p.Col, p.Agg, p.Attrs, (nth ks 0).size.rows, (costK ks), .imm (nth ks 0).size.distinct⟩ : GnodeF)) ty36 Sr Sr zS (by exact ⟨rfl, ⟨rfl, ⟨rfl, ⟨rfl, ⟨rfl, ⟨rfl, ⟨rfl, ⟨rfl, ⟨rfl, ⟨rfl, ⟨fun _ _ q => SO.imm_rel q, rfl, by intro g hg; cases hg⟩⟩⟩⟩⟩⟩⟩⟩⟩⟩⟩)) fun _ => ?_
   refine JX_nil (Jr (Js rfl (step_fieldAddr so46 Sr rfl) (Jl rfl ty43 Sr (Js rfl (step_len_sl underlying43 Sr) (Jm rfl ?_)))))
   refine JL_nil (J_block ?_)
   refine J_loopL (σ := Nat) (fun i => i ≤ p.Tests.length) (fun i => upd (upd (upd (upd (upd (upd (upd (upd env0 4 (tPtr (rPlan (m + 1)) p)) 5 (tPtr (rSl (rnode n)) ks)) 6 (tAt b6 0)) 7 (tAt b7 0)) 56 (tV (.int .i64 p.Kind))) 108 (tSl rTest p.Tests)) 109 (tV (.int .i64 p.Tests.length))) 110 (tV (.int .i64 i))) (fun i => [box b7 152 (rnodeF n) ⟨p.Kind, p.Table, .raw vk, p.Tests, p.Cols, p.Col, p.Agg, p.Attrs, (selR (nth ks 0).size.distinct (p.Tests.take i) (nth ks 0).size.rows), (costK ks), .imm (nth ks 0).size.distinct⟩, own 46 (rPlan n) vk (ks.map Gnode.Plan), box b6 152 (rnode (n + 1)) ⟨GPl.zero, zsize⟩]) (fun i => p.Tests.length - i) 0 (by exact Nat.zero_le _) (zU) (zL) ?_
   rintro i hi
   refine Jr (Js rfl (step_lss Sr Sr) (JL_nil (J_seq ?_)))
   refine J_cond Sr (fun h111 => ?_) (fun h111 => ?_)
   ·
    try simp only [NF] at h111
    have hlt : i < p.Tests.length := by omega
    refine J_skip (J_seq (J_block (Jr ?_)))
    refine Js rfl (step_indexAddr_sl (i := i) underlying43 ty93 Sr Sr (by rfl) (gb (by exact hlt))) ?_
    refine Jl rfl ty93 Sr ?_
    refine Jx rfl (step_alloc (fun w => zeroValue93 w) zr93) fun v12 => ?_
    refine Ju (step_store_box ty93 Sr Sr zS) fun _ => ?_
    refine JL_freeze (t := 12) (Sel.take (Sel.none _)) Frz.box ?_
    refine JL_nil ?_
    refine J_drawX [⟨0, [7], 0⟩, ⟨1, [114], 0⟩, ⟨3, [12], 0⟩, ⟨4, [7], 0⟩, ⟨5, [118], 0⟩, ⟨2, [115], 1⟩, ⟨6, [119], 1⟩, ⟨7, [117, 120], 0⟩, ⟨8, [116, 121], 0⟩, ⟨9, [7], 0⟩, ⟨10, [123], 0⟩, ⟨11, [122, 124], 2⟩] rfl (by kernel_rfl) ?_
    refine JX_step rfl rfl rfl rfl (fun _ => step_fieldAt (o := 0) (o' := 8) (so152 (n := n + 1)) Sr rfl rfl) ?_
    refine JX_step rfl rfl rfl rfl (fun _ => step_fieldAt (o := 8) (o' := 8) so150 Sr rfl rfl) ?_
    refine JX_step rfl rfl rfl rfl (fun _ => step_load_ptr ty93 Sr) ?_
    refine JX_step rfl rfl rfl rfl (fun _ => step_fieldAt (o := 0) (o' := 8) (so152 (n := n + 1)) Sr rfl rfl) ?_
    refine JX_step rfl rfl rfl rfl (fun _ => step_fieldAt (o := 8) (o' := 10) so150 Sr rfl rfl) ?_
    refine JX_look rfl rfl rfl rfl (step_load_fld (b := b7) (n := 8) (fs := (fsnodeF n)) ty3 Sr rfl zS) ?_
    refine JX_look rfl rfl rfl rfl (step_load_fld (b := b7) (n := 10) (fs := (fsnodeF n)) ty36S Sr rfl zS) ?_
    refine JX_step rfl rfl rfl rfl (fun _ => step_call0 (divisor_spec _ _ (fun _ => q7 zG _ (nth_mem hlt))) ⟨Sr, Sr, trivial⟩ call218) ?_
    refine JX_step rfl rfl rfl rfl (fun _ => step_call0 (share_spec _ _ (sel_bd hka.r _) (divM_bd hka.d _).2) ⟨Sr, Sr, trivial⟩ call217) ?_
    refine JX_step rfl rfl rfl rfl (fun _ => step_fieldAt (o := 0) (o' := 8) (so152 (n := n + 1)) Sr rfl rfl) ?_
    refine JX_step rfl rfl rfl rfl (fun _ => step_fieldAt (o := 8) (o' := 8) so150 Sr rfl rfl) ?_
    refine JX_stepU rfl rfl rfl (step_store_fld (b := b7) (n := 8) (fs := (fsnodeF n)) (R := rInt) (y' := (⟨p.Kind, p.Table, .raw vk, p.Tests, p.Cols, p.Col, p.Agg, p.Attrs, (shareM (selR (nth ks 0).size.distinct (p.Tests.take i) (nth ks 0).size.rows) (divM (nth p.Tests i) (nth ks 0).size.distinct)), (costK ks), .imm (nth ks 0).size.distinct⟩ : GnodeF)) ty3 Sr Sr zS (by exact ⟨rfl, ⟨rfl, ⟨rfl, ⟨rfl, ⟨rfl, ⟨rfl, ⟨rfl, ⟨rfl, ⟨fun _ _ q => q, rfl, by intro g hg; simp only [List.mem_cons, List.not_mem_nil, or_false] at hg; rcases hg with rfl | rfl <;> rfl⟩⟩⟩⟩⟩⟩⟩⟩⟩)) fun _ => ?_
    refine JX_nil (J_region (Js rfl (step_add Sr Sr z6) (Jm rfl (JL_nil ?_))))
    refine K_againL (σ := Nat) (s := i) (i + 1) zO (by show i + 1 ≤ _; omega) (zU) (.c zS (SPs.of (A := box b7 152 (rnodeF n) ⟨p.Kind, p.Table, .raw vk, p.Tests, p.Cols, p.Col, p.Agg, p.Attrs, (shareM (selR (nth ks 0).size.distinct (p.Tests.take i) (nth ks 0).size.rows) (divM (nth p.Tests i) (nth ks 0).size.distinct)), (costK ks), .imm (nth ks 0).size.distinct⟩) (by rw [show selR (nth ks 0).size.distinct (p.Tests.take (i + 1)) (nth ks 0).size.rows = _ from fold_take hlt]; rfl)) (zL))
   try simp only [NF] at h111
   obtain rfl : i = p.Tests.length := by omega
   have htk : p.Tests.take p.Tests.length = p.Tests := List.take_length
   refine J_exit ?_
   refine K_cut (E := fun _ => env0) () (zU) (.c zS (SPs.of (A := box b7 152 (rnodeF n) ⟨p.Kind, p.Table, .raw vk, p.Tests, p.Cols, p.Col, p.Agg, p.Attrs, (selR (nth ks 0).size.distinct (p.Tests.take p.Tests.length) (nth ks 0).size.rows), (costK ks), .imm (nth ks 0).size.distinct⟩) (by rw [List.take_length, rows_2 hk, ds_2 hk])) (zL))
  try simp only [NF] at h91
  refine J_seq (Jr (Js rfl (step_eql Sr Sr) (Ja rfl (JL_nil ?_))))
  refine J_cond Sr (fun h126 => ?_) (fun h126 => ?_)
  ·
   try simp only [NF] at h126
   refine J_skip ?_
   refine J_cond Sr (fun h126 => ?_) (fun h126 => ?_)
   ·
    try simp only [NF] at h126
    refine Jr (Jm rfl (Js rfl (step_callv0 (aT := []) Sr (several_spec n m p ks hk0 hka (q8 zG) zG) trivial call216) (Js rfl (step_fieldAt (o := 0) (o' := 8) (so152 (n := n + 1)) Sr rfl rfl) (Js rfl (step_fieldAt (o := 8) (o' := 8) so150 Sr rfl rfl) ?_))))
    refine Ju (step_store_fld (b := b7) (n := 8) (fs := (fsnodeF n)) (R := rInt) (y' := (⟨p.Kind, p.Table, .raw vk, p.Tests, p.Cols, p.Col, p.Agg, p.Attrs, (sevM (nth ks 0) p.Cols), (costK ks), .raw (.slice none 0 0)⟩ : GnodeF)) ty3 Sr Sr zS (by exact ⟨rfl, ⟨rfl, ⟨rfl, ⟨rfl, ⟨rfl, ⟨rfl, ⟨rfl, ⟨rfl, ⟨fun _ _ q => q, rfl, by intro g hg; simp only [List.mem_cons, List.not_mem_nil, or_false] at hg; rcases hg with rfl | rfl <;> rfl⟩⟩⟩⟩⟩⟩⟩⟩⟩)) fun _ => ?_
    refine JL_nil (J_seq (Jr (Js rfl (step_fieldAddr so46 Sr rfl) (Jl rfl ty36 Sr (Js rfl (step_len_sl underlying36 Sr) ?_)))))
    refine Jm rfl (JL_nil (J_block ?_))
    refine J_loopL (σ := Nat × Value) (fun ⟨i, vd⟩ => i ≤ p.Cols.length) (fun ⟨i, vd⟩ => upd (upd (upd (upd (upd (upd (upd (upd env0 4 (tPtr (rPlan (m + 1)) p)) 5 (tPtr (rSl (rnode n)) ks)) 6 (tAt b6 0)) 7 (tAt b7 0)) 56 (tV (.int .i64 p.Kind))) 134 (tSl rInt p.Cols)) 135 (tV (.int .i64 p.Cols.length))) 136 (tV (.int .i64 i))) (fun ⟨i, vd⟩ => [box b7 152 (rnodeF n) ⟨p.Kind, p.Table, .raw vk, p.Tests, p.Cols, p.Col, p.Agg, p.Attrs, (sevM (nth ks 0) p.Cols), (costK ks), .raw vd⟩, own 46 (rPlan n) vk (ks.map Gnode.Plan), own 3 rInt vd (pickD (nth ks 0).size.distinct (p.Cols.take i)), box b6 152 (rnode (n + 1)) ⟨GPl.zero, zsize⟩]) (fun ⟨i, vd⟩ => p.Cols.length - i) (0, .slice none 0 0) (by exact Nat.zero_le _) (zU) (LSub.trans (LSub.nilown (e := 3) (R := rInt)) (LSub.cons (Sel.skip (Sel.take (Sel.none _))) SPs.rfl (LSub.cons (Sel.skip (Sel.take (Sel.none _))) SPs.rfl (LSub.cons (Sel.take (Sel.none _)) SPs.rfl (LSub.cons (Sel.take (Sel.none _)) SPs.rfl LSub.nil))))) ?_
    rintro ⟨i, vd⟩ hi
    try dsimp only at hi
    refine Jr (Js rfl (step_lss Sr Sr) (JL_nil (J_seq ?_)))
    refine J_cond Sr (fun h137 => ?_) (fun h137 => ?_)
    ·
     try simp only [NF] at h137
     have hlt : i < p.Cols.length := by omega
     have hci := q8 zG _ (nth_mem hlt)
     refine J_skip (J_seq (J_block (Jr ?_)))
     refine Js rfl (step_indexAddr_sl (i := i) underlying36 ty3 Sr Sr (by rfl) (gb (by exact hlt))) ?_
     refine Jl rfl ty3 Sr (Ja rfl (JL_nil ?_))
     refine J_drawX [⟨0, [7], 0⟩, ⟨1, [140], 0⟩, ⟨3, [5], 0⟩, ⟨4, [143], 0⟩, ⟨5, [144], 0⟩, ⟨6, [145], 0⟩, ⟨7, [146], 0⟩, ⟨8, [14], 0⟩, ⟨9, [147, 148], 0⟩, ⟨10, [149], 0⟩, ⟨11, [150], 0⟩, ⟨2, [141], 1⟩, ⟨12, [142, 151], 2⟩, ⟨13, [7], 0⟩, ⟨14, [153], 0⟩, ⟨15, [152, 154], 2⟩] rfl (by kernel_rfl) ?_
     refine JX_step rfl rfl rfl rfl (fun _ => step_fieldAt (o := 0) (o' := 8) (so152 (n := n + 1)) Sr rfl rfl) ?_
     refine JX_step rfl rfl rfl rfl (fun _ => step_fieldAt (o := 8) (o' := 10) so150 Sr rfl rfl) ?_
     refine JX_step rfl rfl rfl rfl (fun _ => step_load_ptr ty197 Sr) ?_
     refine JX_step rfl rfl rfl rfl (fun _ => step_indexAddr_sl (i := 0) underlying197 ty152 Sr Sr (by rfl) (gb (by exact hk0))) ?_
     refine JX_step rfl rfl rfl rfl (fun _ => step_fieldAddr so152 Sr rfl) ?_
     refine JX_step rfl rfl rfl rfl (fun _ => step_fieldAddr so150 Sr rfl) ?_
     refine JX_step rfl rfl rfl rfl (fun _ => step_load_ptr ty36 Sr) ?_
     refine JX_step rfl rfl rfl rfl (fun _ => step_move Sr) ?_
     refine JX_step rfl rfl rfl rfl (fun _ => step_indexAddr_sl (i := (nth p.Cols i).toNat) underlying36 ty3 Sr Sr (by show nth p.Cols i = _; omega) (gb (by show _ < (nth ks 0).size.distinct.length; omega))) ?_
     refine JX_step rfl rfl rfl rfl (fun _ => step_load_ptr ty3 Sr) ?_
     refine JX_step rfl rfl rfl rfl (fun _ => step_literal (ys := [_]) underlying36 el3 ⟨rfl, Sr, trivial⟩ rfl (by decide)) ?_
     refine JX_look rfl rfl rfl rfl (step_load_fld (b := b7) (n := 10) (fs := (fsnodeF n)) ty36S Sr rfl zS) ?_
     refine JX_stepX rfl rfl rfl rfl (step_append underlying36 el3 Sr Sr zS (by simp only [List.length_append, List.length_cons, List.length_nil, List.length_map, List.length_take, uDs, pickD, List.length_range]; omega) (by simp only [List.length_append, List.length_cons, List.length_nil, List.length_map, List.length_take, uDs, pickD, List.length_range]; omega)) fun v152 => ?_
     refine JX_step rfl rfl rfl rfl (fun _ => step_fieldAt (o := 0) (o' := 8) (so152 (n := n + 1)) Sr rfl rfl) ?_
     refine JX_step rfl rfl rfl rfl (fun _ => step_fieldAt (o := 8) (o' := 10) so150 Sr rfl rfl) ?_
     refine JX_stepU rfl rfl rfl (step_store_fld (b := b7) (n := 10) (fs := (fsnodeF n)) (R := rV) (y' := (⟨p.Kind, p.Table, .raw vk, p.Tests, p.Cols, p.Col, p.Agg, p.Attrs, (sevM (nth ks 0) p.Cols), (costK ks), .raw v152⟩ : GnodeF)) ty36V Sr Sr zS (by exact ⟨rfl, ⟨rfl, ⟨rfl, ⟨rfl, ⟨rfl, ⟨rfl, ⟨rfl, ⟨rfl, ⟨rfl, ⟨rfl, ⟨fun _ _ q => SO.raw_rel q, rfl, by intro g hg; cases hg⟩⟩⟩⟩⟩⟩⟩⟩⟩⟩⟩)) fun _ => ?_
     refine JX_nil (J_region (Js rfl (step_add Sr Sr z6) (Jm rfl (JL_nil ?_))))
     refine K_againL (σ := Nat × Value) (s := (i, vd)) (i + 1, v152) zO (by show i + 1 ≤ _; omega) (zU) (.r zS (.r zS (.c zS (SPs.of (A := own 3 rInt v152 (pickD (nth ks 0).size.distinct (p.Cols.take i) ++ [nth (nth ks 0).size.distinct (nth p.Cols i).toNat])) (by rw [pick_succ hlt])) (zL))))
    try simp only [NF] at h137
    obtain rfl : i = p.Cols.length := by omega
    refine J_exit (Jr (Js rfl (step_fieldAddr so46 Sr rfl) (Jl rfl ty3 Sr (Js rfl (step_eql Sr Sr) (JL_nil ?_)))))
    refine J_cond Sr (fun h158 => ?_) (fun h158 => ?_)
    ·
     try simp only [NF] at h158
     exfalso; omega
    try simp only [NF] at h158
    refine J_skip ?_
    refine K_lsub (L' := [box b7 152 (rnodeF n) ⟨p.Kind, p.Table, .raw vk, p.Tests, p.Cols, p.Col, p.Agg, p.Attrs, (sevM (nth ks 0) p.Cols), (costK ks), .raw vd⟩, own 3 rInt vd (pickD (nth ks 0).size.distinct p.Cols), own 46 (rPlan n) vk (ks.map Gnode.Plan), box b6 152 (rnode (n + 1)) ⟨GPl.zero, zsize⟩]) (.r zS (.c zS (SPs.of (A := own 3 rInt vd (pickD (nth ks 0).size.distinct (p.Cols.take p.Cols.length))) (by rw [List.take_length])) (zL))) ?_
    refine K_frz2 (Sel.take (Sel.take (Sel.none _))) Frz2.ds ?_
    have hk : p.Kind = 3 := by omega
    refine K_cut (E := fun _ => env0) () (zU) (.c zS (SPs.of (A := box b7 152 (rnodeF n) ⟨p.Kind, p.Table, .raw vk, p.Tests, p.Cols, p.Col, p.Agg, p.Attrs, (sevM (nth ks 0) p.Cols), (costK ks), .imm (pickD (nth ks 0).size.distinct p.Cols)⟩) (by rw [rows_3 hk, ds_3 hk])) (zL))
   try simp only [NF] at h126
   first | contradiction | omega | (simp_all; done)
  try simp only [NF] at h126
  refine J_region (Js rfl (step_eql Sr Sr) (Ja rfl (JL_nil ?_)))
  refine J_cond Sr (fun h126 => ?_) (fun h126 => ?_)
  ·
   try simp only [NF] at h126
   refine Jr (Jm rfl (Js rfl (step_callv0 (aT := []) Sr (several_spec n m p ks hk0 hka (q8 zG) zG) trivial call216) (Js rfl (step_fieldAt (o := 0) (o' := 8) (so152 (n := n + 1)) Sr rfl rfl) (Js rfl (step_fieldAt (o := 8) (o' := 8) so150 Sr rfl rfl) ?_))))
   refine Ju (step_store_fld (b := b7) (n := 8) (fs := (fsnodeF n)) (R := rInt) (y' := (⟨p.Kind, p.Table, .raw vk, p.Tests, p.Cols, p.Col, p.Agg, p.Attrs, (sevM (nth ks 0) p.Cols), (costK ks), .raw (.slice none 0 0)⟩ : GnodeF)) ty3 Sr Sr zS (by exact ⟨rfl, ⟨rfl, ⟨rfl, ⟨rfl, ⟨rfl, ⟨rfl, ⟨rfl, ⟨rfl, ⟨fun _ _ q => q, rfl, by intro g hg; simp only [List.mem_cons, List.not_mem_nil, or_false] at hg; rcases hg with rfl | rfl <;> rfl⟩⟩⟩⟩⟩⟩⟩⟩⟩)) fun _ => ?_
   refine JL_nil (J_seq (Jr (Js rfl (step_fieldAddr so46 Sr rfl) (Jl rfl ty36 Sr (Js rfl (step_len_sl underlying36 Sr) ?_)))))
   refine Jm rfl (JL_nil (J_block ?_))
   refine J_loopL (σ := Nat × Value) (fun ⟨i, vd⟩ => i ≤ p.Cols.length) (fun ⟨i, vd⟩ => upd (upd (upd (upd (upd (upd (upd (upd env0 4 (tPtr (rPlan (m + 1)) p)) 5 (tPtr (rSl (rnode n)) ks)) 6 (tAt b6 0)) 7 (tAt b7 0)) 56 (tV (.int .i64 p.Kind))) 134 (tSl rInt p.Cols)) 135 (tV (.int .i64 p.Cols.length))) 136 (tV (.int .i64 i))) (fun ⟨i, vd⟩ => [box b7 152 (rnodeF n) ⟨p.Kind, p.Table, .raw vk, p.Tests, p.Cols, p.Col, p.Agg, p.Attrs, (sevM (nth ks 0) p.Cols), (costK ks), .raw vd⟩, own 46 (rPlan n) vk (ks.map Gnode.Plan), own 3 rInt vd (pickD (nth ks 0).size.distinct (p.Cols.take i)), box b6 152 (rnode (n + 1)) ⟨GPl.zero, zsize⟩]) (fun ⟨i, vd⟩ => p.Cols.length - i) (0, .slice none 0 0) (by exact Nat.zero_le _) (zU) (LSub.trans (LSub.nilown (e := 3) (R := rInt)) (LSub.cons (Sel.skip (Sel.take (Sel.none _))) SPs.rfl (LSub.cons (Sel.skip (Sel.take (Sel.none _))) SPs.rfl (LSub.cons (Sel.take (Sel.none _)) SPs.rfl (LSub.cons (Sel.take (Sel.none _)) SPs.rfl LSub.nil))))) ?_
   rintro ⟨i, vd⟩ hi
   try dsimp only at hi
   refine Jr (Js rfl (step_lss Sr Sr) (JL_nil (J_seq ?_)))
   refine J_cond Sr (fun h137 => ?_) (fun h137 => ?_)
   ·
    try simp only [NF] at h137
    have hlt : i < p.Cols.length := by omega
    have hci := q8 zG _ (nth_mem hlt)
    refine J_skip (J_seq (J_block (Jr ?_)))
    refine Js rfl (step_indexAddr_sl (i := i) underlying36 ty3 Sr Sr (by rfl) (gb (by exact hlt))) ?_
    refine Jl rfl ty3 Sr (Ja rfl (JL_nil ?_))
    refine J_drawX [⟨0, [7], 0⟩, ⟨1, [140], 0⟩, ⟨3, [5], 0⟩, ⟨4, [143], 0⟩, ⟨5, [144], 0⟩, ⟨6, [145], 0⟩, ⟨7, [146], 0⟩, ⟨8, [14], 0⟩, ⟨9, [147, 148], 0⟩, ⟨10, [149], 0⟩, ⟨11, [150], 0⟩, ⟨2, [141], 1⟩, ⟨12, [142, 151], 2⟩, ⟨13, [7], 0⟩, ⟨14, [153], 0⟩, ⟨15, [152, 154], 2⟩] rfl (by kernel_rfl) ?_
    refine JX_step rfl rfl rfl rfl (fun _ => step_fieldAt (o := 0) (o' := 8) (so152 (n := n + 1)) Sr rfl rfl) ?_
    refine JX_step rfl rfl rfl rfl (fun _ => step_fieldAt (o := 8) (o' := 10) so150 Sr rfl rfl) ?_
    refine JX_step rfl rfl rfl rfl (fun _ => step_load_ptr ty197 Sr) ?_
    refine JX_step rfl rfl rfl rfl (fun _ => step_indexAddr_sl (i := 0) underlying197 ty152 Sr Sr (by rfl) (gb (by exact hk0))) ?_
    refine JX_step rfl rfl rfl rfl (fun _ => step_fieldAddr so152 Sr rfl) ?_
    refine JX_step rfl rfl rfl rfl (fun _ => step_fieldAddr so150 Sr rfl) ?_
    refine JX_step rfl rfl rfl rfl (fun _ => step_load_ptr ty36 Sr) ?_
    refine JX_step rfl rfl rfl rfl (fun _ => step_move Sr) ?_
    refine JX_step rfl rfl rfl rfl (fun _ => step_indexAddr_sl (i := (nth p.Cols i).toNat) underlying36 ty3 Sr Sr (by show nth p.Cols i = _; omega) (gb (by show _ < (nth ks 0).size.distinct.length; omega))) ?_
    refine JX_step rfl rfl rfl rfl (fun _ => step_load_ptr ty3 Sr) ?_
    refine JX_step rfl rfl rfl rfl (fun _ => step_literal (ys := [_]) underlying36 el3 ⟨rfl, Sr, trivial⟩ rfl (by decide)) ?_
    refine JX_look rfl rfl rfl rfl (step_load_fld (b := b7) (n := 10) (fs := (fsnodeF n)) ty36S Sr rfl zS) ?_
    refine JX_stepX rfl rfl rfl rfl (step_append underlying36 el3 Sr Sr zS (by simp only [List.length_append, List.length_cons, List.length_nil, List.length_map, List.length_take, uDs, pickD, List.length_range]; omega) (by simp only [List.length_append, List.length_cons, List.length_nil, List.length_map, List.length_take, uDs, pickD, List.length_range]; omega)) fun v152 => ?_
    refine JX_step rfl rfl rfl rfl (fun _ => step_fieldAt (o := 0) (o' := 8) (so152 (n := n + 1)) Sr rfl rfl) ?_
    refine JX_step rfl rfl rfl rfl (fun _ => step_fieldAt (o := 8) (o' := 10) so150 Sr rfl rfl) ?_
    refine JX_stepU rfl rfl rfl (step_store_fld (b := b7) (n := 10) (fs := (fsnodeF n)) (R := rV) (y' := (⟨p.Kind, p.Table, .raw vk, p.Tests, p.Cols, p.Col, p.Agg, p.Attrs, (sevM (nth ks 0) p.Cols), (costK ks), .raw v152⟩ : GnodeF)) ty36V Sr Sr zS (by exact ⟨rfl, ⟨rfl, ⟨rfl, ⟨rfl, ⟨rfl, ⟨rfl, ⟨rfl, ⟨rfl, ⟨rfl, ⟨rfl, ⟨fun _ _ q => SO.raw_rel q, rfl, by intro g hg; cases hg⟩⟩⟩⟩⟩⟩⟩⟩⟩⟩⟩)) fun _ => ?_
    refine JX_nil (J_region (Js rfl (step_add Sr Sr z6) (Jm rfl (JL_nil ?_))))
    refine K_againL (σ := Nat × Value) (s := (i, vd)) (i + 1, v152) zO (by show i + 1 ≤ _; omega) (zU) (.r zS (.r zS (.c zS (SPs.of (A := own 3 rInt v152 (pickD (nth ks 0).size.distinct (p.Cols.take i) ++ [nth (nth ks 0).size.distinct (nth p.Cols i).toNat])) (by rw [pick_succ hlt])) (zL))))
   try simp only [NF] at h137
   obtain rfl : i = p.Cols.length := by omega
   refine J_exit (Jr (Js rfl (step_fieldAddr so46 Sr rfl) (Jl rfl ty3 Sr (Js rfl (step_eql Sr Sr) (JL_nil ?_)))))
   refine J_cond Sr (fun h158 => ?_) (fun h158 => ?_)
   ·
    try simp only [NF] at h158
    refine J_seq (Jr (Js rfl (step_fieldAddr so46 Sr rfl) (Jl rfl ty36 Sr (Js rfl (step_len_sl underlying36 Sr) (Js rfl (step_eql Sr Sr) ?_)))))
    refine JL_nil ?_
    refine J_cond Sr (fun h162 => ?_) (fun h162 => ?_)
    ·
     try simp only [NF] at h162
     have hc0 : p.Cols.length = 0 := by omega
     refine J_region (Js rfl (step_fieldAt (o := 0) (o' := 8) (so152 (n := n + 1)) Sr rfl rfl) (Js rfl (step_fieldAt (o := 8) (o' := 8) so150 Sr rfl rfl) ?_))
     refine Ju (step_store_fld (b := b7) (n := 8) (fs := (fsnodeF n)) (R := rInt) (y' := (⟨p.Kind, p.Table, .raw vk, p.Tests, p.Cols, p.Col, p.Agg, p.Attrs, 1, (costK ks), .raw vd⟩ : GnodeF)) ty3 Sr Sr zS (by exact ⟨rfl, ⟨rfl, ⟨rfl, ⟨rfl, ⟨rfl, ⟨rfl, ⟨rfl, ⟨rfl, ⟨fun _ _ q => q, rfl, by intro g hg; simp only [List.mem_cons, List.not_mem_nil, or_false] at hg; rcases hg with rfl | rfl <;> rfl⟩⟩⟩⟩⟩⟩⟩⟩⟩)) fun _ => ?_
     refine JL_nil (J_region (Js rfl (step_fieldAt (o := 0) (o' := 8) (so152 (n := n + 1)) Sr rfl rfl) (Js rfl (step_fieldAt (o := 8) (o' := 10) so150 Sr rfl rfl) ?_)))
     refine Js rfl (step_load_fld (b := b7) (n := 10) (fs := (fsnodeF n)) ty36S Sr rfl zS) ?_
     refine Js rfl (step_fieldAt (o := 0) (o' := 8) (so152 (n := n + 1)) Sr rfl rfl) (Js rfl (step_fieldAt (o := 8) (o' := 8) so150 Sr rfl rfl) ?_)
     refine Js rfl (step_load_fld (b := b7) (n := 8) (fs := (fsnodeF n)) ty3 Sr rfl zS) ?_
     refine Js rfl (step_literal (ys := [_]) underlying36 el3 ⟨rfl, Sr, trivial⟩ rfl (by decide)) ?_
     refine Jx rfl (step_append underlying36 el3 Sr Sr zS (by simp only [List.length_append, List.length_cons, List.length_nil, List.length_map, List.length_take, uDs, pickD, List.length_range]; omega) (by simp only [List.length_append, List.length_cons, List.length_nil, List.length_map, List.length_take, uDs, pickD, List.length_range]; omega)) fun v172 => ?_
     refine Js rfl (step_fieldAt (o := 0) (o' := 8) (so152 (n := n + 1)) Sr rfl rfl) (Js rfl (step_fieldAt (o := 8) (o' := 10) so150 Sr rfl rfl) ?_)
     refine Ju (step_store_fld (b := b7) (n := 10) (fs := (fsnodeF n)) (R := rV) (y' := (⟨p.Kind, p.Table, .raw vk, p.Tests, p.Cols, p.Col, p.Agg, p.Attrs, 1, (costK ks), .raw v172⟩ : GnodeF)) ty36V Sr Sr zS (by exact ⟨rfl, ⟨rfl, ⟨rfl, ⟨rfl, ⟨rfl, ⟨rfl, ⟨rfl, ⟨rfl, ⟨rfl, ⟨rfl, ⟨fun _ _ q => SO.raw_rel q, rfl, by intro g hg; cases hg⟩⟩⟩⟩⟩⟩⟩⟩⟩⟩⟩)) fun _ => ?_
     refine JL_nil ?_
     refine K_lsub (L' := [box b7 152 (rnodeF n) ⟨p.Kind, p.Table, .raw vk, p.Tests, p.Cols, p.Col, p.Agg, p.Attrs, 1, (costK ks), .raw v172⟩, own 3 rInt v172 (pickD (nth ks 0).size.distinct p.Cols ++ [1]), own 46 (rPlan n) vk (ks.map Gnode.Plan), box b6 152 (rnode (n + 1)) ⟨GPl.zero, zsize⟩]) (.r zS (.c zS (SPs.of (A := own 3 rInt v172 (pickD (nth ks 0).size.distinct (p.Cols.take p.Cols.length) ++ [1])) (by rw [List.take_length])) (zL))) ?_
     refine K_frz2 (Sel.take (Sel.take (Sel.none _))) Frz2.ds ?_
     have hk : p.Kind = 8 := by omega
     refine K_cut (E := fun _ => env0) () (zU) (.c zS (SPs.of (A := box b7 152 (rnodeF n) ⟨p.Kind, p.Table, .raw vk, p.Tests, p.Cols, p.Col, p.Agg, p.Attrs, 1, (costK ks), .imm (pickD (nth ks 0).size.distinct p.Cols ++ [1])⟩) (by rw [rows_8 hk, ds_8 hk, ngrpR, if_pos hc0])) (zL))
    try simp only [NF] at h162
    have hc0 : ¬ p.Cols.length = 0 := by omega
    refine J_skip (J_region (Js rfl (step_fieldAt (o := 0) (o' := 8) (so152 (n := n + 1)) Sr rfl rfl) (Js rfl (step_fieldAt (o := 8) (o' := 10) so150 Sr rfl rfl) ?_)))
    refine Js rfl (step_load_fld (b := b7) (n := 10) (fs := (fsnodeF n)) ty36S Sr rfl zS) ?_
    refine Js rfl (step_fieldAt (o := 0) (o' := 8) (so152 (n := n + 1)) Sr rfl rfl) (Js rfl (step_fieldAt (o := 8) (o' := 8) so150 Sr rfl rfl) ?_)
    refine Js rfl (step_load_fld (b := b7) (n := 8) (fs := (fsnodeF n)) ty3 Sr rfl zS) ?_
    refine Js rfl (step_literal (ys := [_]) underlying36 el3 ⟨rfl, Sr, trivial⟩ rfl (by decide)) ?_
    refine Jx rfl (step_append underlying36 el3 Sr Sr zS (by simp only [List.length_append, List.length_cons, List.length_nil, List.length_map, List.length_take, uDs, pickD, List.length_range]; omega) (by simp only [List.length_append, List.length_cons, List.length_nil, List.length_map, List.length_take, uDs, pickD, List.length_range]; omega)) fun v172 => ?_
    refine Js rfl (step_fieldAt (o := 0) (o' := 8) (so152 (n := n + 1)) Sr rfl rfl) (Js rfl (step_fieldAt (o := 8) (o' := 10) so150 Sr rfl rfl) ?_)
    refine Ju (step_store_fld (b := b7) (n := 10) (fs := (fsnodeF n)) (R := rV) (y' := (⟨p.Kind, p.Table, .raw vk, p.Tests, p.Cols, p.Col, p.Agg, p.Attrs, (sevM (nth ks 0) p.Cols), (costK ks), .raw v172⟩ : GnodeF)) ty36V Sr Sr zS (by exact ⟨rfl, ⟨rfl, ⟨rfl, ⟨rfl, ⟨rfl, ⟨rfl, ⟨rfl, ⟨rfl, ⟨rfl, ⟨rfl, ⟨fun _ _ q => SO.raw_rel q, rfl, by intro g hg; cases hg⟩⟩⟩⟩⟩⟩⟩⟩⟩⟩⟩)) fun _ => ?_
    refine JL_nil ?_
    refine K_lsub (L' := [box b7 152 (rnodeF n) ⟨p.Kind, p.Table, .raw vk, p.Tests, p.Cols, p.Col, p.Agg, p.Attrs, (sevM (nth ks 0) p.Cols), (costK ks), .raw v172⟩, own 3 rInt v172 (pickD (nth ks 0).size.distinct p.Cols ++ [sevM (nth ks 0) p.Cols]), own 46 (rPlan n) vk (ks.map Gnode.Plan), box b6 152 (rnode (n + 1)) ⟨GPl.zero, zsize⟩]) (.r zS (.c zS (SPs.of (A := own 3 rInt v172 (pickD (nth ks 0).size.distinct (p.Cols.take p.Cols.length) ++ [sevM (nth ks 0) p.Cols])) (by rw [List.take_length])) (zL))) ?_
    refine K_frz2 (Sel.take (Sel.take (Sel.none _))) Frz2.ds ?_
    have hk : p.Kind = 8 := by omega
    refine K_cut (E := fun _ => env0) () (zU) (.c zS (SPs.of (A := box b7 152 (rnodeF n) ⟨p.Kind, p.Table, .raw vk, p.Tests, p.Cols, p.Col, p.Agg, p.Attrs, (sevM (nth ks 0) p.Cols), (costK ks), .imm (pickD (nth ks 0).size.distinct p.Cols ++ [sevM (nth ks 0) p.Cols])⟩) (by rw [rows_8 hk, ds_8 hk, ngrpR, if_neg hc0])) (zL))
   try simp only [NF] at h158
   exfalso; omega
  try simp only [NF] at h126
  refine Jr (Js rfl (step_eql Sr Sr) (Ja rfl (JL_nil ?_)))
  refine J_cond Sr (fun h175 => ?_) (fun h175 => ?_)
  ·
   try simp only [NF] at h175
   have hk : p.Kind = 4 := h175
   have hk1 := q9 (.inl hk)
   have hkb := mk_b hm (.inl hk)
   have hkbn := hkb.n
   have hkba := hkb.a
   have hkbr := hkb.r
   unfold Upto at hkbr
   have hmul := mul_bd hka.r hkb.r
   refine J_seq ?_
   refine J_drawZ [] [⟨0, [5], 0⟩, ⟨1, [177], 0⟩, ⟨2, [178], 0⟩, ⟨3, [5], 0⟩, ⟨4, [180], 0⟩, ⟨5, [181], 0⟩] [⟨6, [], 15, SP.emp, fun v => tAt (vN v) 0, fun v => box (vN v) 152 (rnode n) ⟨GPl.zero, zsize⟩⟩, ⟨7, [], 16, SP.emp, fun v => tAt (vN v) 0, fun v => box (vN v) 152 (rnode n) ⟨GPl.zero, zsize⟩⟩] [⟨8, [15, 179], 2⟩, ⟨9, [16, 182], 2⟩] (L := [box b7 152 (rnodeF n) ⟨p.Kind, p.Table, .raw vk, p.Tests, p.Cols, p.Col, p.Agg, p.Attrs, 0, (costK ks), .raw (.slice none 0 0)⟩, own 46 (rPlan n) vk (ks.map Gnode.Plan), box b6 152 (rnode (n + 1)) ⟨GPl.zero, zsize⟩]) (LSub.trans LSub.emp LSub.emp) rfl (by kernel_rfl) (Nat.le_of_ble_eq_true rfl) ?_
   refine JF_step rfl rfl rfl rfl (fun _ => step_load_ptr ty197 Sr) ?_
   refine JF_step rfl rfl rfl rfl (fun _ => step_indexAddr_sl (i := 0) underlying197 ty152 Sr Sr (by rfl) (gb (by exact hk0))) ?_
   refine JF_step rfl rfl rfl rfl (fun _ => step_load_ptr ty152 Sr) ?_
   refine JF_step rfl rfl rfl rfl (fun _ => step_load_ptr ty197 Sr) ?_
   refine JF_step rfl rfl rfl rfl (fun _ => step_indexAddr_sl (i := 1) underlying197 ty152 Sr Sr (by rfl) (gb (by exact hk1))) ?_
   refine JF_step rfl rfl rfl rfl (fun _ => step_load_ptr ty152 Sr) ?_
   refine JF_nil ?_
   refine ⟨⟨_, rfl, rfl, rfl, rfl, fun _ => by refine Step.empty ?_; exact Step.emb ptrV (step_alloc (R := rnode n) (fun w => zeroValue152 w) (zr152P (hn1 zG))) (fun _ => rfl) (fun _ => rfl)⟩, fun b15 => ?_⟩
   refine ⟨⟨_, rfl, rfl, rfl, rfl, fun _ => by refine Step.empty ?_; exact Step.emb ptrV (step_alloc (R := rnode n) (fun w => zeroValue152 w) (zr152P (hn1 zG))) (fun _ => rfl) (fun _ => rfl)⟩, fun b16 => ?_⟩
   refine upP_in ?_
   refine JX_stepU rfl rfl rfl (step_store_box ty152 Sr Sr zS) fun _ => ?_
   refine JX_stepU rfl rfl rfl (step_store_box ty152 Sr Sr zS) fun _ => ?_
   refine JX_nil ?_
   refine K_freeze (t := 15) (A' := tPtr (rnode n) (nth ks 0)) zS Frz.box ?_
   refine K_freeze (t := 16) (A' := tPtr (rnode n) (nth ks 1)) zS Frz.box ?_
   refine Jr (Js rfl (step_fieldAddr so152 Sr rfl) (Js rfl (step_fieldAddr so150 Sr rfl) (Jl rfl ty3 Sr (Js rfl (step_fieldAddr so152 Sr rfl) (Js rfl (step_fieldAddr so150 Sr rfl) ?_)))))
   refine Jl rfl ty3 Sr ?_
   refine Js rfl (step_mul Sr Sr (by show in64 ((nth ks 0).size.rows * (nth ks 1).size.rows); unfold in64; omega)) ?_
   refine Js rfl (step_minI Sr Sr) (Js rfl (step_fieldAt (o := 0) (o' := 8) (so152 (n := n + 1)) Sr rfl rfl) (Js rfl (step_fieldAt (o := 8) (o' := 8) so150 Sr rfl rfl) ?_))
   refine Ju (step_store_fld (b := b7) (n := 8) (fs := (fsnodeF n)) (R := rInt) (y' := (⟨p.Kind, p.Table, .raw vk, p.Tests, p.Cols, p.Col, p.Agg, p.Attrs, (min 1000000000 ((nth ks 0).size.rows * (nth ks 1).size.rows)), (costK ks), .raw (.slice none 0 0)⟩ : GnodeF)) ty3 Sr Sr zS (by exact ⟨rfl, ⟨rfl, ⟨rfl, ⟨rfl, ⟨rfl, ⟨rfl, ⟨rfl, ⟨rfl, ⟨fun _ _ q => q, rfl, by intro g hg; simp only [List.mem_cons, List.not_mem_nil, or_false] at hg; rcases hg with rfl | rfl <;> rfl⟩⟩⟩⟩⟩⟩⟩⟩⟩)) fun _ => ?_
   refine JL_nil (Jr (Js rfl (step_fieldAddr so152 Sr rfl) (Js rfl (step_fieldAddr so150 Sr rfl) (Jl rfl ty36 Sr ?_))))
   refine Jx rfl (step_call (Sel.none _) (CloneL_spec _ (by show (nth ks 0).size.distinct.length ≤ _; omega)) ⟨Sr, trivial⟩ call113) fun v196 => ?_
   refine Js rfl (step_fieldAt (o := 0) (o' := 8) (so152 (n := n + 1)) Sr rfl rfl) (Js rfl (step_fieldAt (o := 8) (o' := 10) so150 Sr rfl rfl) ?_)
   refine Ju (step_store_fld (b := b7) (n := 10) (fs := (fsnodeF n)) (R := rV) (y' := (⟨p.Kind, p.Table, .raw vk, p.Tests, p.Cols, p.Col, p.Agg, p.Attrs, (min 1000000000 ((nth ks 0).size.rows * (nth ks 1).size.rows)), (costK ks), .raw v196⟩ : GnodeF)) ty36V Sr Sr zS (by exact ⟨rfl, ⟨rfl, ⟨rfl, ⟨rfl, ⟨rfl, ⟨rfl, ⟨rfl, ⟨rfl, ⟨rfl, ⟨rfl, ⟨fun _ _ q => SO.raw_rel q, rfl, by intro g hg; cases hg⟩⟩⟩⟩⟩⟩⟩⟩⟩⟩⟩)) fun _ => ?_
   refine JL_nil (J_seq (Jr (Js rfl (step_fieldAddr so152 Sr rfl) (Js rfl (step_fieldAddr (so46 (n := n1)) (Sub.planP (hn1 zG)) rfl) (Jl rfl ty44 Sr ?_)))))
   refine Js rfl (step_len_sl underlying44 Sr) (Jm rfl (JL_nil (J_block ?_)))
   refine J_loopL (σ := Nat) (fun i => i ≤ (nth ks 0).Plan.Attrs.length) (fun i => upd (upd (upd (upd (upd (upd (upd (upd (upd env0 5 (tPtr (rSl (rnode n)) ks)) 6 (tAt b6 0)) 7 (tAt b7 0)) 15 (tPtr (rnode n) (nth ks 0))) 16 (tPtr (rnode n) (nth ks 1))) 56 (tV (.int .i64 p.Kind))) 201 (tSl rAttr (nth ks 0).Plan.Attrs)) 202 (tV (.int .i64 (nth ks 0).Plan.Attrs.length))) 203 (tV (.int .i64 i))) (fun i => [box b7 152 (rnodeF n) ⟨p.Kind, p.Table, .raw vk, p.Tests, p.Cols, p.Col, p.Agg, p.Attrs, (jRows (nth ks 0) (nth ks 1) i), (costK ks), .raw v196⟩, own 46 (rPlan n) vk (ks.map Gnode.Plan), own 3 rInt v196 (nth ks 0).size.distinct, box b6 152 (rnode (n + 1)) ⟨GPl.zero, zsize⟩]) (fun i => (nth ks 0).Plan.Attrs.length - i) 0 (by exact Nat.zero_le _) (zU) (zL) ?_
   rintro i hi
   refine Jr (Js rfl (step_lss Sr Sr) (JL_nil (J_seq ?_)))
   refine J_cond Sr (fun h204 => ?_) (fun h204 => ?_)
   ·
    try simp only [NF] at h204
    have hlt : i < (nth ks 0).Plan.Attrs.length := by omega
    have hcl := col_lt (nth ks 1).Plan.Attrs (nth (nth ks 0).Plan.Attrs i).Name
    have hjc : jCol (nth ks 0) (nth ks 1) i < (nth ks 1).Plan.Attrs.length := hcl.2
    refine J_skip (J_seq (J_block (Jr (Jm rfl ?_))))
    refine Js rfl (step_indexAddr_sl (i := i) underlying44 ty89 Sr Sr (by rfl) (gb (by exact hlt))) ?_
    refine Jl rfl ty89 Sr ?_
    refine Jx rfl (step_alloc (fun w => zeroValue89 w) zr89) fun v18 => ?_
    refine Ja rfl ?_
    refine Ju (step_store_box ty89 Sr Sr zS) fun _ => ?_
    refine JL_freeze (t := 18) (Sel.take (Sel.none _)) Frz.box ?_
    refine JL_nil (Jr (Js rfl (step_fieldAddr so152 Sr rfl) (Js rfl (step_fieldAddr (so46 (n := n1)) (Sub.planP (hn1 zG)) rfl) (Jl rfl ty44 Sr (Js rfl (step_fieldAddr so89 Sr rfl) ?_)))))
    refine Jl rfl ty9 Sr ?_
    refine Js rfl (step_call0 (pcolumn_spec _ _ (by show (nth ks 1).Plan.Attrs.length ≤ _; omega)) ⟨Sr, Sr, trivial⟩ call219) ?_
    refine Ja rfl (JL_nil (Jr (Jm rfl (Js rfl (step_geq Sr Sr) (JL_nil ?_)))))
    refine J_cond Sr (fun h215 => ?_) (fun h215 => ?_)
    ·
     try simp only [NF] at h215
     have h215 : 0 ≤ jCol (nth ks 0) (nth ks 1) i := h215
     refine J_drawX [⟨0, [7], 0⟩, ⟨1, [216], 0⟩, ⟨3, [15], 0⟩, ⟨4, [219], 0⟩, ⟨5, [220], 0⟩, ⟨6, [17], 0⟩, ⟨7, [221, 222], 0⟩, ⟨8, [223], 0⟩, ⟨9, [16], 0⟩, ⟨10, [225], 0⟩, ⟨11, [226], 0⟩, ⟨12, [19], 0⟩, ⟨13, [227, 228], 0⟩, ⟨14, [229], 0⟩, ⟨15, [224, 230], 0⟩, ⟨2, [217], 1⟩, ⟨16, [218, 231], 0⟩, ⟨17, [7], 0⟩, ⟨18, [233], 0⟩, ⟨19, [232, 234], 2⟩] rfl (by kernel_rfl) ?_
     refine JX_step rfl rfl rfl rfl (fun _ => step_fieldAt (o := 0) (o' := 8) (so152 (n := n + 1)) Sr rfl rfl) ?_
     refine JX_step rfl rfl rfl rfl (fun _ => step_fieldAt (o := 8) (o' := 8) so150 Sr rfl rfl) ?_
     refine JX_step rfl rfl rfl rfl (fun _ => step_fieldAddr so152 Sr rfl) ?_
     refine JX_step rfl rfl rfl rfl (fun _ => step_fieldAddr so150 Sr rfl) ?_
     refine JX_step rfl rfl rfl rfl (fun _ => step_load_ptr ty36 Sr) ?_
     refine JX_step rfl rfl rfl rfl (fun _ => step_move Sr) ?_
     refine JX_step rfl rfl rfl rfl (fun _ => step_indexAddr_sl (i := i) underlying36 ty3 Sr Sr (by rfl) (gb (by show _ < (nth ks 0).size.distinct.length; omega))) ?_
     refine JX_step rfl rfl rfl rfl (fun _ => step_load_ptr ty3 Sr) ?_
     refine JX_step rfl rfl rfl rfl (fun _ => step_fieldAddr so152 Sr rfl) ?_
     refine JX_step rfl rfl rfl rfl (fun _ => step_fieldAddr so150 Sr rfl) ?_
     refine JX_step rfl rfl rfl rfl (fun _ => step_load_ptr ty36 Sr) ?_
     refine JX_step rfl rfl rfl rfl (fun _ => step_move Sr) ?_
     refine JX_step rfl rfl rfl rfl (fun _ => step_indexAddr_sl (i := (jCol (nth ks 0) (nth ks 1) i).toNat) underlying36 ty3 Sr Sr (by show jCol (nth ks 0) (nth ks 1) i = _; omega) (gb (by show _ < (nth ks 1).size.distinct.length; omega))) ?_
     refine JX_step rfl rfl rfl rfl (fun _ => step_load_ptr ty3 Sr) ?_
     refine JX_step rfl rfl rfl rfl (fun _ => step_maxI Sr Sr) ?_
     refine JX_look rfl rfl rfl rfl (step_load_fld (b := b7) (n := 8) (fs := (fsnodeF n)) ty3 Sr rfl zS) ?_
     refine JX_step rfl rfl rfl rfl (fun _ => step_call0 (share_spec _ _ (jrows_bd hka hkb _) (by have h1 := hka.d.nth i; have h2 := hkb.d.nth (jCol (nth ks 0) (nth ks 1) i).toNat; unfold Upto at h1 h2; show max (nth (nth ks 0).size.distinct i) (nth (nth ks 1).size.distinct (jCol (nth ks 0) (nth ks 1) i).toNat) ≤ _; omega)) ⟨Sr, Sr, trivial⟩ call217) ?_
     refine JX_step rfl rfl rfl rfl (fun _ => step_fieldAt (o := 0) (o' := 8) (so152 (n := n + 1)) Sr rfl rfl) ?_
     refine JX_step rfl rfl rfl rfl (fun _ => step_fieldAt (o := 8) (o' := 8) so150 Sr rfl rfl) ?_
     refine JX_stepU rfl rfl rfl (step_store_fld (b := b7) (n := 8) (fs := (fsnodeF n)) (R := rInt) (y' := (⟨p.Kind, p.Table, .raw vk, p.Tests, p.Cols, p.Col, p.Agg, p.Attrs, (shareM (jRows (nth ks 0) (nth ks 1) i) (max (nth (nth ks 0).size.distinct i) (nth (nth ks 1).size.distinct (jCol (nth ks 0) (nth ks 1) i).toNat))), (costK ks), .raw v196⟩ : GnodeF)) ty3 Sr Sr zS (by exact ⟨rfl, ⟨rfl, ⟨rfl, ⟨rfl, ⟨rfl, ⟨rfl, ⟨rfl, ⟨rfl, ⟨fun _ _ q => q, rfl, by intro g hg; simp only [List.mem_cons, List.not_mem_nil, or_false] at hg; rcases hg with rfl | rfl <;> rfl⟩⟩⟩⟩⟩⟩⟩⟩⟩)) fun _ => ?_
     refine JX_nil (J_region (Js rfl (step_add Sr Sr z6) (Jm rfl (JL_nil ?_))))
     refine K_againL (σ := Nat) (s := i) (i + 1) zO (by show i + 1 ≤ _; omega) (zU) (.c zS (SPs.of (A := box b7 152 (rnodeF n) ⟨p.Kind, p.Table, .raw vk, p.Tests, p.Cols, p.Col, p.Agg, p.Attrs, (shareM (jRows (nth ks 0) (nth ks 1) i) (max (nth (nth ks 0).size.distinct i) (nth (nth ks 1).size.distinct (jCol (nth ks 0) (nth ks 1) i).toNat))), (costK ks), .raw v196⟩) (by rw [show jRows (nth ks 0) (nth ks 1) (i + 1) = _ from fold_rng, jStep, if_pos h215]; rfl)) (zL))
    try simp only [NF] at h215
    have h215 : ¬ 0 ≤ jCol (nth ks 0) (nth ks 1) i := by show ¬ 0 ≤ columnL _ _; omega
    refine J_skip (J_region (Js rfl (step_add Sr Sr z6) (Jm rfl (JL_nil ?_))))
    refine K_againL (σ := Nat) (s := i) (i + 1) zO (by show i + 1 ≤ _; omega) (zU) (.c zS (SPs.of (A := box b7 152 (rnodeF n) ⟨p.Kind, p.Table, .raw vk, p.Tests, p.Cols, p.Col, p.Agg, p.Attrs, (jRows (nth ks 0) (nth ks 1) i), (costK ks), .raw v196⟩) (by rw [show jRows (nth ks 0) (nth ks 1) (i + 1) = _ from fold_rng, jStep, if_neg h215]; rfl)) (zL))
   try simp only [NF] at h204
   obtain rfl : i = (nth ks 0).Plan.Attrs.length := by omega
   refine J_exit (Jr (Js rfl (step_fieldAddr so152 Sr rfl) (Js rfl (step_fieldAddr (so46 (n := n1)) (Sub.planP (hn1 zG)) rfl) (Jl rfl ty44 Sr (Js rfl (step_len_sl underlying44 Sr) ?_)))))
   refine Jm rfl (JL_nil (J_block ?_))
   refine J_loopL (σ := Nat × Value) (fun ⟨k, vd⟩ => k ≤ (nth ks 1).Plan.Attrs.length) (fun ⟨k, vd⟩ => upd (upd (upd (upd (upd (upd (upd (upd (upd env0 5 (tPtr (rSl (rnode n)) ks)) 6 (tAt b6 0)) 7 (tAt b7 0)) 15 (tPtr (rnode n) (nth ks 0))) 16 (tPtr (rnode n) (nth ks 1))) 56 (tV (.int .i64 p.Kind))) 238 (tSl rAttr (nth ks 1).Plan.Attrs)) 239 (tV (.int .i64 (nth ks 1).Plan.Attrs.length))) 240 (tV (.int .i64 k))) (fun ⟨k, vd⟩ => [box b7 152 (rnodeF n) ⟨p.Kind, p.Table, .raw vk, p.Tests, p.Cols, p.Col, p.Agg, p.Attrs, (jRows (nth ks 0) (nth ks 1) (nth ks 0).Plan.Attrs.length), (costK ks), .raw vd⟩, own 46 (rPlan n) vk (ks.map Gnode.Plan), own 3 rInt vd (jDs (nth ks 0) (nth ks 1) k), box b6 152 (rnode (n + 1)) ⟨GPl.zero, zsize⟩]) (fun ⟨k, vd⟩ => (nth ks 1).Plan.Attrs.length - k) (0, v196) (by exact Nat.zero_le _) (zU) (.r zS (.r zS (.c zS (SPs.of (A := own 3 rInt v196 (nth ks 0).size.distinct) (by simp [jDs, jNew])) (zL)))) ?_
   rintro ⟨k, vd⟩ hi
   try dsimp only at hi
   refine Jr (Js rfl (step_lss Sr Sr) (JL_nil (J_seq ?_)))
   refine J_cond Sr (fun h241 => ?_) (fun h241 => ?_)
   ·
    try simp only [NF] at h241
    have hlt : k < (nth ks 1).Plan.Attrs.length := by omega
    have hjl := jnew_len (nth ks 0) (nth ks 1) k
    refine J_skip (J_seq (J_block (Jr (Jm rfl ?_))))
    refine Js rfl (step_indexAddr_sl (i := k) underlying44 ty89 Sr Sr (by rfl) (gb (by exact hlt))) ?_
    refine Jl rfl ty89 Sr ?_
    refine Jx rfl (step_alloc (fun w => zeroValue89 w) zr89) fun v21 => ?_
    refine Ja rfl ?_
    refine Ju (step_store_box ty89 Sr Sr zS) fun _ => ?_
    refine JL_freeze (t := 21) (Sel.take (Sel.none _)) Frz.box ?_
    refine JL_nil (Jr (Js rfl (step_fieldAddr so152 Sr rfl) (Js rfl (step_fieldAddr (so46 (n := n1)) (Sub.planP (hn1 zG)) rfl) (Jl rfl ty44 Sr (Js rfl (step_fieldAddr so89 Sr rfl) ?_)))))
    refine Jl rfl ty9 Sr ?_
    refine Js rfl (step_call0 (pcolumn_spec _ _ (by show (nth ks 0).Plan.Attrs.length ≤ _; omega)) ⟨Sr, Sr, trivial⟩ call219) ?_
    refine Js rfl (step_lss Sr Sr) (JL_nil ?_)
    refine J_cond Sr (fun h251 => ?_) (fun h251 => ?_)
    ·
     try simp only [NF] at h251
     refine J_drawX [⟨0, [7], 0⟩, ⟨1, [252], 0⟩, ⟨3, [16], 0⟩, ⟨4, [255], 0⟩, ⟨5, [256], 0⟩, ⟨6, [20], 0⟩, ⟨7, [257, 258], 0⟩, ⟨8, [259], 0⟩, ⟨9, [260], 0⟩, ⟨2, [253], 1⟩, ⟨10, [254, 261], 2⟩, ⟨11, [7], 0⟩, ⟨12, [263], 0⟩, ⟨13, [262, 264], 2⟩] rfl (by kernel_rfl) ?_
     refine JX_step rfl rfl rfl rfl (fun _ => step_fieldAt (o := 0) (o' := 8) (so152 (n := n + 1)) Sr rfl rfl) ?_
     refine JX_step rfl rfl rfl rfl (fun _ => step_fieldAt (o := 8) (o' := 10) so150 Sr rfl rfl) ?_
     refine JX_step rfl rfl rfl rfl (fun _ => step_fieldAddr so152 Sr rfl) ?_
     refine JX_step rfl rfl rfl rfl (fun _ => step_fieldAddr so150 Sr rfl) ?_
     refine JX_step rfl rfl rfl rfl (fun _ => step_load_ptr ty36 Sr) ?_
     refine JX_step rfl rfl rfl rfl (fun _ => step_move Sr) ?_
     refine JX_step rfl rfl rfl rfl (fun _ => step_indexAddr_sl (i := k) underlying36 ty3 Sr Sr (by rfl) (gb (by show _ < (nth ks 1).size.distinct.length; omega))) ?_
     refine JX_step rfl rfl rfl rfl (fun _ => step_load_ptr ty3 Sr) ?_
     refine JX_step rfl rfl rfl rfl (fun _ => step_literal (ys := [_]) underlying36 el3 ⟨rfl, Sr, trivial⟩ rfl (by decide)) ?_
     refine JX_look rfl rfl rfl rfl (step_load_fld (b := b7) (n := 10) (fs := (fsnodeF n)) ty36S Sr rfl zS) ?_
     refine JX_stepX rfl rfl rfl rfl (step_append underlying36 el3 Sr Sr zS (by simp only [jDs, List.length_append, List.length_cons, List.length_nil, List.length_map]; omega) (by simp only [jDs, List.length_append, List.length_cons, List.length_nil, List.length_map]; omega)) fun v262 => ?_
     refine JX_step rfl rfl rfl rfl (fun _ => step_fieldAt (o := 0) (o' := 8) (so152 (n := n + 1)) Sr rfl rfl) ?_
     refine JX_step rfl rfl rfl rfl (fun _ => step_fieldAt (o := 8) (o' := 10) so150 Sr rfl rfl) ?_
     refine JX_stepU rfl rfl rfl (step_store_fld (b := b7) (n := 10) (fs := (fsnodeF n)) (R := rV) (y' := (⟨p.Kind, p.Table, .raw vk, p.Tests, p.Cols, p.Col, p.Agg, p.Attrs, (jRows (nth ks 0) (nth ks 1) (nth ks 0).Plan.Attrs.length), (costK ks), .raw v262⟩ : GnodeF)) ty36V Sr Sr zS (by exact ⟨rfl, ⟨rfl, ⟨rfl, ⟨rfl, ⟨rfl, ⟨rfl, ⟨rfl, ⟨rfl, ⟨rfl, ⟨rfl, ⟨fun _ _ q => SO.raw_rel q, rfl, by intro g hg; cases hg⟩⟩⟩⟩⟩⟩⟩⟩⟩⟩⟩)) fun _ => ?_
     refine JX_nil (J_region (Js rfl (step_add Sr Sr z6) (Jm rfl (JL_nil ?_))))
     refine K_againL (σ := Nat × Value) (s := (k, vd)) (k + 1, v262) zO (by show k + 1 ≤ _; omega) (zU) (.r zS (.r zS (.c zS (SPs.of (A := own 3 rInt v262 (jDs (nth ks 0) (nth ks 1) k ++ [nth (nth ks 1).size.distinct k])) (by rw [jds_t h251])) (zL))))
    try simp only [NF] at h251
    refine J_skip (J_region (Js rfl (step_add Sr Sr z6) (Jm rfl (JL_nil ?_))))
    refine K_againL (σ := Nat × Value) (s := (k, vd)) (k + 1, vd) zO (by show k + 1 ≤ _; omega) (zU) (.r zS (.r zS (.c zS (SPs.of (A := own 3 rInt vd (jDs (nth ks 0) (nth ks 1) k)) (by rw [jds_f zG])) (zL))))
   try simp only [NF] at h241
   obtain rfl : k = (nth ks 1).Plan.Attrs.length := by omega
   refine J_exit ?_
   refine K_lsub (L' := [box b7 152 (rnodeF n) ⟨p.Kind, p.Table, .raw vk, p.Tests, p.Cols, p.Col, p.Agg, p.Attrs, (jRows (nth ks 0) (nth ks 1) (nth ks 0).Plan.Attrs.length), (costK ks), .raw vd⟩, own 3 rInt vd (jDs (nth ks 0) (nth ks 1) (nth ks 1).Plan.Attrs.length), own 46 (rPlan n) vk (ks.map Gnode.Plan), box b6 152 (rnode (n + 1)) ⟨GPl.zero, zsize⟩]) (zL) ?_
   refine K_frz2 (Sel.take (Sel.take (Sel.none _))) Frz2.ds ?_
   refine K_cut (E := fun _ => env0) () (zU) (.c zS (SPs.of (A := box b7 152 (rnodeF n) ⟨p.Kind, p.Table, .raw vk, p.Tests, p.Cols, p.Col, p.Agg, p.Attrs, (jRows (nth ks 0) (nth ks 1) (nth ks 0).Plan.Attrs.length), (costK ks), .imm (jDs (nth ks 0) (nth ks 1) (nth ks 1).Plan.Attrs.length)⟩) (by rw [rows_4 hk, ds_4 hk])) (zL))
  try simp only [NF] at h175
  refine Jr (Js rfl (step_eql Sr Sr) (Ja rfl (JL_nil ?_)))
  refine J_cond Sr (fun h266 => ?_) (fun h266 => ?_)
  ·
   try simp only [NF] at h266
   have hk : p.Kind = 5 := h266
   have hk1 := q9 (.inr hk)
   have hkb := mk_b hm (.inr hk)
   have hkbn := hkb.n
   have hkba := hkb.a
   have hkbr := hkb.r
   unfold Upto at hkbr
   have hq10 := q10 hk
   refine J_seq ?_
   refine J_drawX [⟨0, [5], 0⟩, ⟨1, [268], 0⟩, ⟨2, [269], 0⟩, ⟨3, [270], 0⟩, ⟨4, [271], 0⟩, ⟨5, [5], 0⟩, ⟨6, [273], 0⟩, ⟨7, [274], 0⟩, ⟨8, [275], 0⟩, ⟨9, [276], 0⟩, ⟨10, [272, 277], 0⟩, ⟨11, [278], 0⟩, ⟨12, [7], 0⟩, ⟨13, [280], 0⟩, ⟨14, [279, 281], 2⟩] rfl (by kernel_rfl) ?_
   refine JX_step rfl rfl rfl rfl (fun _ => step_load_ptr ty197 Sr) ?_
   refine JX_step rfl rfl rfl rfl (fun _ => step_indexAddr_sl (i := 0) underlying197 ty152 Sr Sr (by rfl) (gb (by exact hk0))) ?_
   refine JX_step rfl rfl rfl rfl (fun _ => step_fieldAddr so152 Sr rfl) ?_
   refine JX_step rfl rfl rfl rfl (fun _ => step_fieldAddr so150 Sr rfl) ?_
   refine JX_step rfl rfl rfl rfl (fun _ => step_load_ptr ty3 Sr) ?_
   refine JX_step rfl rfl rfl rfl (fun _ => step_load_ptr ty197 Sr) ?_
   refine JX_step rfl rfl rfl rfl (fun _ => step_indexAddr_sl (i := 1) underlying197 ty152 Sr Sr (by rfl) (gb (by exact hk1))) ?_
   refine JX_step rfl rfl rfl rfl (fun _ => step_fieldAddr so152 Sr rfl) ?_
   refine JX_step rfl rfl rfl rfl (fun _ => step_fieldAddr so150 Sr rfl) ?_
   refine JX_step rfl rfl rfl rfl (fun _ => step_load_ptr ty3 Sr) ?_
   refine JX_step rfl rfl rfl rfl (fun _ => step_add Sr Sr (by show in64 ((nth ks 0).size.rows + (nth ks 1).size.rows); unfold in64; omega)) ?_
   refine JX_step rfl rfl rfl rfl (fun _ => step_minI Sr Sr) ?_
   refine JX_step rfl rfl rfl rfl (fun _ => step_fieldAt (o := 0) (o' := 8) (so152 (n := n + 1)) Sr rfl rfl) ?_
   refine JX_step rfl rfl rfl rfl (fun _ => step_fieldAt (o := 8) (o' := 8) so150 Sr rfl rfl) ?_
   refine JX_stepU rfl rfl rfl (step_store_fld (b := b7) (n := 8) (fs := (fsnodeF n)) (R := rInt) (y' := (⟨p.Kind, p.Table, .raw vk, p.Tests, p.Cols, p.Col, p.Agg, p.Attrs, (min 1000000000 ((nth ks 0).size.rows + (nth ks 1).size.rows)), (costK ks), .raw (.slice none 0 0)⟩ : GnodeF)) ty3 Sr Sr zS (by exact ⟨rfl, ⟨rfl, ⟨rfl, ⟨rfl, ⟨rfl, ⟨rfl, ⟨rfl, ⟨rfl, ⟨fun _ _ q => q, rfl, by intro g hg; simp only [List.mem_cons, List.not_mem_nil, or_false] at hg; rcases hg with rfl | rfl <;> rfl⟩⟩⟩⟩⟩⟩⟩⟩⟩)) fun _ => ?_
   refine JX_nil (Jr (Jl rfl ty197 Sr ?_))
   refine Js rfl (step_indexAddr_sl (i := 0) underlying197 ty152 Sr Sr (by rfl) (gb (by exact hk0))) ?_
   refine Js rfl (step_fieldAddr so152 Sr rfl) (Js rfl (step_fieldAddr so150 Sr rfl) (Jl rfl ty36 Sr (Js rfl (step_len_sl underlying36 Sr) (Jm rfl (JL_nil ?_)))))
   refine J_block ?_
   refine J_loopL (σ := Nat × Value) (fun ⟨i, vd⟩ => i ≤ (nth ks 0).size.distinct.length) (fun ⟨i, vd⟩ => upd (upd (upd (upd (upd env0 5 (tPtr (rSl (rnode n)) ks)) 6 (tAt b6 0)) 7 (tAt b7 0)) 287 (tV (.int .i64 (nth ks 0).size.distinct.length))) 288 (tV (.int .i64 i))) (fun ⟨i, vd⟩ => [box b7 152 (rnodeF n) ⟨p.Kind, p.Table, .raw vk, p.Tests, p.Cols, p.Col, p.Agg, p.Attrs, (min 1000000000 ((nth ks 0).size.rows + (nth ks 1).size.rows)), (costK ks), .raw vd⟩, own 46 (rPlan n) vk (ks.map Gnode.Plan), own 3 rInt vd (uDs (nth ks 0).size.distinct (nth ks 1).size.distinct i), box b6 152 (rnode (n + 1)) ⟨GPl.zero, zsize⟩]) (fun ⟨i, vd⟩ => (nth ks 0).size.distinct.length - i) (0, .slice none 0 0) (by exact Nat.zero_le _) (zU) (LSub.trans (LSub.nilown (e := 3) (R := rInt)) (LSub.cons (Sel.skip (Sel.take (Sel.none _))) SPs.rfl (LSub.cons (Sel.skip (Sel.take (Sel.none _))) SPs.rfl (LSub.cons (Sel.take (Sel.none _)) SPs.rfl (LSub.cons (Sel.take (Sel.none _)) SPs.rfl LSub.nil))))) ?_
   rintro ⟨i, vd⟩ hi
   try dsimp only at hi
   refine Jr (Js rfl (step_lss Sr Sr) (JL_nil (J_seq ?_)))
   refine J_cond Sr (fun h289 => ?_) (fun h289 => ?_)
   ·
    try simp only [NF] at h289
    have hlt : i < (nth ks 0).size.distinct.length := by omega
    have hd0 := hka.d.nth i
    have hd1 := hkb.d.nth i
    unfold Upto at hd0 hd1
    refine J_skip (J_seq (J_block (Jr (Jm rfl (Ja rfl ?_)))))
    refine JL_nil ?_
    refine J_drawX [⟨0, [7], 0⟩, ⟨1, [291], 0⟩, ⟨3, [5], 0⟩, ⟨4, [294], 0⟩, ⟨5, [295], 0⟩, ⟨6, [296], 0⟩, ⟨7, [297], 0⟩, ⟨8, [22], 0⟩, ⟨9, [298, 299], 0⟩, ⟨10, [300], 0⟩, ⟨11, [5], 0⟩, ⟨12, [302], 0⟩, ⟨13, [303], 0⟩, ⟨14, [304], 0⟩, ⟨15, [305], 0⟩, ⟨16, [22], 0⟩, ⟨17, [306, 307], 0⟩, ⟨18, [308], 0⟩, ⟨19, [301, 309], 0⟩, ⟨20, [310], 0⟩, ⟨2, [292], 1⟩, ⟨21, [293, 311], 2⟩, ⟨22, [7], 0⟩, ⟨23, [313], 0⟩, ⟨24, [312, 314], 2⟩] rfl (by kernel_rfl) ?_
    refine JX_step rfl rfl rfl rfl (fun _ => step_fieldAt (o := 0) (o' := 8) (so152 (n := n + 1)) Sr rfl rfl) ?_
    refine JX_step rfl rfl rfl rfl (fun _ => step_fieldAt (o := 8) (o' := 10) so150 Sr rfl rfl) ?_
    refine JX_step rfl rfl rfl rfl (fun _ => step_load_ptr ty197 Sr) ?_
    refine JX_step rfl rfl rfl rfl (fun _ => step_indexAddr_sl (i := 0) underlying197 ty152 Sr Sr (by rfl) (gb (by exact hk0))) ?_
    refine JX_step rfl rfl rfl rfl (fun _ => step_fieldAddr so152 Sr rfl) ?_
    refine JX_step rfl rfl rfl rfl (fun _ => step_fieldAddr so150 Sr rfl) ?_
    refine JX_step rfl rfl rfl rfl (fun _ => step_load_ptr ty36 Sr) ?_
    refine JX_step rfl rfl rfl rfl (fun _ => step_move Sr) ?_
    refine JX_step rfl rfl rfl rfl (fun _ => step_indexAddr_sl (i := i) underlying36 ty3 Sr Sr (by rfl) (gb (by exact hlt))) ?_
    refine JX_step rfl rfl rfl rfl (fun _ => step_load_ptr ty3 Sr) ?_
    refine JX_step rfl rfl rfl rfl (fun _ => step_load_ptr ty197 Sr) ?_
    refine JX_step rfl rfl rfl rfl (fun _ => step_indexAddr_sl (i := 1) underlying197 ty152 Sr Sr (by rfl) (gb (by exact hk1))) ?_
    refine JX_step rfl rfl rfl rfl (fun _ => step_fieldAddr so152 Sr rfl) ?_
    refine JX_step rfl rfl rfl rfl (fun _ => step_fieldAddr so150 Sr rfl) ?_
    refine JX_step rfl rfl rfl rfl (fun _ => step_load_ptr ty36 Sr) ?_
    refine JX_step rfl rfl rfl rfl (fun _ => step_move Sr) ?_
    refine JX_step rfl rfl rfl rfl (fun _ => step_indexAddr_sl (i := i) underlying36 ty3 Sr Sr (by rfl) (gb (by show _ < (nth ks 1).size.distinct.length; omega))) ?_
    refine JX_step rfl rfl rfl rfl (fun _ => step_load_ptr ty3 Sr) ?_
    refine JX_step rfl rfl rfl rfl (fun _ => step_add Sr Sr (by show in64 (nth (nth ks 0).size.distinct i + nth (nth ks 1).size.distinct i); unfold in64; omega)) ?_
    refine JX_step rfl rfl rfl rfl (fun _ => step_literal (ys := [_]) underlying36 el3 ⟨rfl, Sr, trivial⟩ rfl (by decide)) ?_
    refine JX_look rfl rfl rfl rfl (step_load_fld (b := b7) (n := 10) (fs := (fsnodeF n)) ty36S Sr rfl zS) ?_
    refine JX_stepX rfl rfl rfl rfl (step_append underlying36 el3 Sr Sr zS (by simp only [List.length_append, List.length_cons, List.length_nil, List.length_map, List.length_take, uDs, pickD, List.length_range]; omega) (by simp only [List.length_append, List.length_cons, List.length_nil, List.length_map, List.length_take, uDs, pickD, List.length_range]; omega)) fun v312 => ?_
    refine JX_step rfl rfl rfl rfl (fun _ => step_fieldAt (o := 0) (o' := 8) (so152 (n := n + 1)) Sr rfl rfl) ?_
    refine JX_step rfl rfl rfl rfl (fun _ => step_fieldAt (o := 8) (o' := 10) so150 Sr rfl rfl) ?_
    refine JX_stepU rfl rfl rfl (step_store_fld (b := b7) (n := 10) (fs := (fsnodeF n)) (R := rV) (y' := (⟨p.Kind, p.Table, .raw vk, p.Tests, p.Cols, p.Col, p.Agg, p.Attrs, (min 1000000000 ((nth ks 0).size.rows + (nth ks 1).size.rows)), (costK ks), .raw v312⟩ : GnodeF)) ty36V Sr Sr zS (by exact ⟨rfl, ⟨rfl, ⟨rfl, ⟨rfl, ⟨rfl, ⟨rfl, ⟨rfl, ⟨rfl, ⟨rfl, ⟨rfl, ⟨fun _ _ q => SO.raw_rel q, rfl, by intro g hg; cases hg⟩⟩⟩⟩⟩⟩⟩⟩⟩⟩⟩)) fun _ => ?_
    refine JX_nil (J_region (Js rfl (step_add Sr Sr z6) (Jm rfl (JL_nil ?_))))
    refine K_againL (σ := Nat × Value) (s := (i, vd)) (i + 1, v312) zO (by show i + 1 ≤ _; omega) (zU) (.r zS (.r zS (.c zS (SPs.of (A := own 3 rInt v312 (uDs (nth ks 0).size.distinct (nth ks 1).size.distinct i ++ [nth (nth ks 0).size.distinct i + nth (nth ks 1).size.distinct i])) (by rw [uds_succ])) (zL))))
   try simp only [NF] at h289
   obtain rfl : i = (nth ks 0).size.distinct.length := by omega
   refine J_exit ?_
   refine K_lsub (L' := [box b7 152 (rnodeF n) ⟨p.Kind, p.Table, .raw vk, p.Tests, p.Cols, p.Col, p.Agg, p.Attrs, (min 1000000000 ((nth ks 0).size.rows + (nth ks 1).size.rows)), (costK ks), .raw vd⟩, own 3 rInt vd (uDs (nth ks 0).size.distinct (nth ks 1).size.distinct (nth ks 0).size.distinct.length), own 46 (rPlan n) vk (ks.map Gnode.Plan), box b6 152 (rnode (n + 1)) ⟨GPl.zero, zsize⟩]) (zL) ?_
   refine K_frz2 (Sel.take (Sel.take (Sel.none _))) Frz2.ds ?_
   refine K_cut (E := fun _ => env0) () (zU) (.c zS (SPs.of (A := box b7 152 (rnodeF n) ⟨p.Kind, p.Table, .raw vk, p.Tests, p.Cols, p.Col, p.Agg, p.Attrs, (min 1000000000 ((nth ks 0).size.rows + (nth ks 1).size.rows)), (costK ks), .imm (uDs (nth ks 0).size.distinct (nth ks 1).size.distinct (nth ks 0).size.distinct.length)⟩) (by rw [rows_5 hk, ds_5 hk])) (zL))
  try simp only [NF] at h266
  refine J_drawX [⟨0, [5], 0⟩, ⟨1, [57], 0⟩, ⟨2, [58], 0⟩, ⟨3, [59], 0⟩, ⟨4, [60], 0⟩, ⟨5, [5], 0⟩, ⟨6, [62], 0⟩, ⟨7, [63], 0⟩, ⟨8, [64], 0⟩, ⟨9, [65], 0⟩, ⟨10, [7], 0⟩, ⟨11, [67], 0⟩, ⟨12, [61, 68], 2⟩, ⟨13, [7], 0⟩, ⟨14, [69], 0⟩, ⟨15, [66, 70], 2⟩] rfl (by kernel_rfl) ?_
  refine JX_step rfl rfl rfl rfl (fun _ => step_load_ptr ty197 Sr) ?_
  refine JX_step rfl rfl rfl rfl (fun _ => step_indexAddr_sl (i := 0) underlying197 ty152 Sr Sr (by rfl) (gb (by exact hk0))) ?_
  refine JX_step rfl rfl rfl rfl (fun _ => step_fieldAddr so152 Sr rfl) ?_
  refine JX_step rfl rfl rfl rfl (fun _ => step_fieldAddr so150 Sr rfl) ?_
  refine JX_step rfl rfl rfl rfl (fun _ => step_load_ptr ty3 Sr) ?_
  refine JX_step rfl rfl rfl rfl (fun _ => step_load_ptr ty197 Sr) ?_
  refine JX_step rfl rfl rfl rfl (fun _ => step_indexAddr_sl (i := 0) underlying197 ty152 Sr Sr (by rfl) (gb (by exact hk0))) ?_
  refine JX_step rfl rfl rfl rfl (fun _ => step_fieldAddr so152 Sr rfl) ?_
  refine JX_step rfl rfl rfl rfl (fun _ => step_fieldAddr so150 Sr rfl) ?_
  refine JX_step rfl rfl rfl rfl (fun _ => step_load_ptr ty36 Sr) ?_
  refine JX_step rfl rfl rfl rfl (fun _ => step_fieldAt (o := 0) (o' := 8) (so152 (n := n + 1)) Sr rfl rfl) ?_
  refine JX_step rfl rfl rfl rfl (fun _ => step_fieldAt (o := 8) (o' := 8) so150 Sr rfl rfl) ?_
  refine JX_stepU rfl rfl rfl (step_store_fld (b := b7) (n := 8) (fs := (fsnodeF n)) (R := rInt) (y' := (⟨p.Kind, p.Table, .raw vk, p.Tests, p.Cols, p.Col, p.Agg, p.Attrs, (nth ks 0).size.rows, (costK ks), .raw (.slice none 0 0)⟩ : GnodeF)) ty3 Sr Sr zS (by exact ⟨rfl, ⟨rfl, ⟨rfl, ⟨rfl, ⟨rfl, ⟨rfl, ⟨rfl, ⟨rfl, ⟨fun _ _ q => q, rfl, by intro g hg; simp only [List.mem_cons, List.not_mem_nil, or_false] at hg; rcases hg with rfl | rfl <;> rfl⟩⟩⟩⟩⟩⟩⟩⟩⟩)) fun _ => ?_
  refine JX_step rfl rfl rfl rfl (fun _ => step_fieldAt (o := 0) (o' := 8) (so152 (n := n + 1)) Sr rfl rfl) ?_
  refine JX_step rfl rfl rfl rfl (fun _ => step_fieldAt (o := 8) (o' := 10) so150 Sr rfl rfl) ?_
  refine JX_stepU rfl rfl rfl (step_store_fld (b := b7) (n := 10) (fs := (fsnodeF n)) (R := (rSl rInt)) (y' := (⟨p.Kind, p.Table, .raw vk, p.Tests, p.Cols, p.Col, p.Agg, p.Attrs, (nth ks 0).size.rows, (costK ks), .imm (nth ks 0).size.distinct⟩ : GnodeF)) ty36 Sr Sr zS (by exact ⟨rfl, ⟨rfl, ⟨rfl, ⟨rfl, ⟨rfl, ⟨rfl, ⟨rfl, ⟨rfl, ⟨rfl, ⟨rfl, ⟨fun _ _ q => SO.imm_rel q, rfl, by intro g hg; cases hg⟩⟩⟩⟩⟩⟩⟩⟩⟩⟩⟩)) fun _ => ?_
  refine JX_nil ?_
  refine K_cut (E := fun _ => env0) () (zU) (.c zS (SPs.of (A := box b7 152 (rnodeF n) ⟨p.Kind, p.Table, .raw vk, p.Tests, p.Cols, p.Col, p.Agg, p.Attrs, (nth ks 0).size.rows, (costK ks), .imm (nth ks 0).size.distinct⟩) (by rw [rows_d zG zG zG zG zG zG, ds_d zG zG zG zG zG zG])) (zL))
 rintro _
 refine Jr (Js rfl (step_fieldAt (o := 0) (o' := 8) (so152 (n := n + 1)) Sr rfl rfl) (Js rfl (step_fieldAt (o := 8) (o' := 10) so150 Sr rfl rfl) ?_))
 refine Js rfl (step_load_fld (b := b7) (n := 10) (fs := (fsnodeF n)) ty36S Sr rfl zS) ?_
 refine Jx rfl (step_call (Sel.none _) (CloneL_spec _ (by show (dsM x p ks).length ≤ _; omega)) ⟨Sr, trivial⟩ call113) fun v319 => ?_
 refine Js rfl (step_fieldAt (o := 0) (o' := 8) (so152 (n := n + 1)) Sr rfl rfl) (Js rfl (step_fieldAt (o := 8) (o' := 10) so150 Sr rfl rfl) ?_)
 refine Ju (step_store_fld (b := b7) (n := 10) (fs := (fsnodeF n)) (R := rV) (y' := (⟨p.Kind, p.Table, .raw vk, p.Tests, p.Cols, p.Col, p.Agg, p.Attrs, (rowsM x p ks), (costK ks), .raw v319⟩ : GnodeF)) ty36V Sr Sr zS (by exact ⟨rfl, ⟨rfl, ⟨rfl, ⟨rfl, ⟨rfl, ⟨rfl, ⟨rfl, ⟨rfl, ⟨rfl, ⟨rfl, ⟨fun _ _ q => SO.raw_rel q, rfl, by intro g hg; cases hg⟩⟩⟩⟩⟩⟩⟩⟩⟩⟩⟩)) fun _ => ?_
 refine JL_nil (J_seq (Jr (Js rfl (step_fieldAt (o := 0) (o' := 8) (so152 (n := n + 1)) Sr rfl rfl) (Js rfl (step_fieldAt (o := 8) (o' := 10) so150 Sr rfl rfl) ?_))))
 refine Js rfl (step_load_fld (b := b7) (n := 10) (fs := (fsnodeF n)) ty36S Sr rfl zS) ?_
 refine Js rfl (step_len_own underlying36 Sr zS) ?_
 refine Jm rfl (JL_nil (J_block ?_))
 refine J_loopL (σ := Nat) (fun i => i ≤ (dsM x p ks).length) (fun i => upd (upd (upd (upd env0 6 (tAt b6 0)) 7 (tAt b7 0)) 325 (tV (.int .i64 (dsM x p ks).length))) 326 (tV (.int .i64 i))) (fun i => [box b7 152 (rnodeF n) ⟨p.Kind, p.Table, .raw vk, p.Tests, p.Cols, p.Col, p.Agg, p.Attrs, (rowsM x p ks), (costK ks), .raw v319⟩, own 46 (rPlan n) vk (ks.map Gnode.Plan), own 3 rInt v319 (minI (dsM x p ks) (rowsM x p ks) i), box b6 152 (rnode (n + 1)) ⟨GPl.zero, zsize⟩]) (fun i => (dsM x p ks).length - i) 0 (by exact Nat.zero_le _) (zU) (.r zS (.r zS (.c zS (SPs.of (A := own 3 rInt v319 (dsM x p ks)) (by rw [minI_0])) (zL)))) ?_
 rintro i hi
 refine Jr (Js rfl (step_lss Sr Sr) (JL_nil (J_seq ?_)))
 refine J_cond Sr (fun h327 => ?_) (fun h327 => ?_)
 ·
  try simp only [NF] at h327
  have hlt : i < (dsM x p ks).length := by omega
  refine J_skip (J_seq (J_block (Jr (Jm rfl (Ja rfl ?_)))))
  refine JL_nil ?_
  refine J_drawX [⟨0, [7], 0⟩, ⟨1, [329], 0⟩, ⟨3, [23], 0⟩, ⟨4, [7], 0⟩, ⟨5, [333], 0⟩, ⟨7, [23], 0⟩, ⟨10, [7], 0⟩, ⟨11, [339], 0⟩, ⟨2, [330], 1⟩, ⟨6, [334], 1⟩, ⟨8, [335, 336], 1⟩, ⟨9, [337], 1⟩, ⟨12, [340], 1⟩, ⟨13, [338, 341], 0⟩, ⟨14, [331, 332], 1⟩, ⟨15, [342, 343], 2⟩] rfl (by kernel_rfl) ?_
  refine JX_step rfl rfl rfl rfl (fun _ => step_fieldAt (o := 0) (o' := 8) (so152 (n := n + 1)) Sr rfl rfl) ?_
  refine JX_step rfl rfl rfl rfl (fun _ => step_fieldAt (o := 8) (o' := 10) so150 Sr rfl rfl) ?_
  refine JX_step rfl rfl rfl rfl (fun _ => step_move Sr) ?_
  refine JX_step rfl rfl rfl rfl (fun _ => step_fieldAt (o := 0) (o' := 8) (so152 (n := n + 1)) Sr rfl rfl) ?_
  refine JX_step rfl rfl rfl rfl (fun _ => step_fieldAt (o := 8) (o' := 10) so150 Sr rfl rfl) ?_
  refine JX_step rfl rfl rfl rfl (fun _ => step_move Sr) ?_
  refine JX_step rfl rfl rfl rfl (fun _ => step_fieldAt (o := 0) (o' := 8) (so152 (n := n + 1)) Sr rfl rfl) ?_
  refine JX_step rfl rfl rfl rfl (fun _ => step_fieldAt (o := 8) (o' := 8) so150 Sr rfl rfl) ?_
  refine JX_look rfl rfl rfl rfl (step_load_fld (b := b7) (n := 10) (fs := (fsnodeF n)) ty36S Sr rfl zS) ?_
  refine JX_look rfl rfl rfl rfl (step_load_fld (b := b7) (n := 10) (fs := (fsnodeF n)) ty36S Sr rfl zS) ?_
  refine JX_look rfl rfl rfl rfl (step_indexAddr_own (i := i) underlying36 ty3 Sr zS Sr (by rfl) (by rw [minI_len]; exact hlt)) ?_
  refine JX_look rfl rfl rfl rfl (step_load_own ty3 Sr zS (gb (by rw [minI_len]; exact hlt))) ?_
  refine JX_look rfl rfl rfl rfl (step_load_fld (b := b7) (n := 8) (fs := (fsnodeF n)) ty3 Sr rfl zS) ?_
  refine JX_step rfl rfl rfl rfl (fun _ => step_minI Sr Sr) ?_
  refine JX_look rfl rfl rfl rfl (step_indexAddr_own (i := i) underlying36 ty3 Sr zS Sr (by rfl) (by rw [minI_len]; exact hlt)) ?_
  refine JX_stepU rfl rfl rfl (step_store_own ty3 Sr Sr zS (by rw [minI_len]; exact hlt)) fun _ => ?_
  refine JX_nil (J_region (Js rfl (step_add Sr Sr z6) (Jm rfl (JL_nil ?_))))
  refine K_againL (σ := Nat) (s := i) (i + 1) zO (by show i + 1 ≤ _; omega) (zU) (.r zS (.r zS (.c zS (SPs.of (A := own 3 rInt v319 ((minI (dsM x p ks) (rowsM x p ks) i).set i (min (nth (minI (dsM x p ks) (rowsM x p ks) i) i) (rowsM x p ks)))) (by rw [minI_set hlt])) (zL))))
 try simp only [NF] at h327
 obtain rfl : i = (dsM x p ks).length := by omega
 refine J_exit (Jr (Js rfl (step_fieldAt (o := 0) (o' := 8) (so152 (n := n + 1)) Sr rfl rfl) (Js rfl (step_fieldAt (o := 8) (o' := 9) so150 Sr rfl rfl) ?_)))
 refine Js rfl (step_load_fld (b := b7) (n := 9) (fs := (fsnodeF n)) ty3 Sr rfl zS) ?_
 refine Js rfl (step_fieldAt (o := 0) (o' := 8) (so152 (n := n + 1)) Sr rfl rfl) (Js rfl (step_fieldAt (o := 8) (o' := 8) so150 Sr rfl rfl) ?_)
 refine Js rfl (step_load_fld (b := b7) (n := 8) (fs := (fsnodeF n)) ty3 Sr rfl zS) ?_
 refine Js rfl (step_add Sr Sr (by show in64 ((costK ks) + (rowsM x p ks)); unfold in64; omega)) ?_
 refine Js rfl (step_minI Sr Sr) (Js rfl (step_fieldAt (o := 0) (o' := 8) (so152 (n := n + 1)) Sr rfl rfl) (Js rfl (step_fieldAt (o := 8) (o' := 9) so150 Sr rfl rfl) ?_))
 refine Ju (step_store_fld (b := b7) (n := 9) (fs := (fsnodeF n)) (R := rInt) (y' := (⟨p.Kind, p.Table, .raw vk, p.Tests, p.Cols, p.Col, p.Agg, p.Attrs, (rowsM x p ks), (min 1000000000 ((costK ks) + (rowsM x p ks))), .raw v319⟩ : GnodeF)) ty3 Sr Sr zS (by exact ⟨rfl, ⟨rfl, ⟨rfl, ⟨rfl, ⟨rfl, ⟨rfl, ⟨rfl, ⟨rfl, ⟨rfl, ⟨fun _ _ q => q, rfl, by intro g hg; simp only [List.mem_cons, List.not_mem_nil, or_false] at hg; subst hg; rfl⟩⟩⟩⟩⟩⟩⟩⟩⟩⟩)) fun _ => ?_
 refine JL_nil (J_seq ?_)
 refine K_lsub (L' := [box b7 152 (rnodeF n) ⟨p.Kind, p.Table, .raw vk, p.Tests, p.Cols, p.Col, p.Agg, p.Attrs, (rowsM x p ks), (min 1000000000 ((costK ks) + (rowsM x p ks))), .raw v319⟩, own 46 (rPlan n) vk (ks.map Gnode.Plan), own 3 rInt v319 ((dsM x p ks).map fun d => min d (rowsM x p ks)), box b6 152 (rnode (n + 1)) ⟨GPl.zero, zsize⟩]) (.r zS (.r zS (.c zS (SPs.of (A := own 3 rInt v319 (minI (dsM x p ks) (rowsM x p ks) (dsM x p ks).length)) (by rw [minI_all])) (zL)))) ?_
 refine K_freeze (t := 7) (A' := tPtr (rnode (n + 1)) (makeM x p ks)) (Sel.take (Sel.take (Sel.take (Sel.none _)))) Frz.node ?_
 refine J_region (Jl rfl ty152 Sr ?_)
 refine Ju (step_store_box ty152 Sr Sr zS) fun _ => ?_
 refine JL_nil (J_ret ?_)
 refine K_ret1' (rv := .cell 6 152) rfl () (Sel.all _) (.cell (R := rnode (n + 1)) ty152 Sr zS Sr) (Frz.sub Sr)
open Go Go.Proofs Go.Proofs.Tryz
def wholeM (x : Gplanner) : Nat → GPlan → Gnode
  | 0, p => makeM x p []
  | n + 1, p => makeM x p (p.Kids.map (wholeM x n))
/-- That the estimate of a query may be reckoned. -/
def EOk (x : Gplanner) : Nat → GPlan → Prop
  | 0, _ => True
  | n + 1, p => MkOk x p (p.Kids.map (wholeM x n)) ∧ ∀ q ∈ p.Kids, EOk x n q
theorem zr46P {n m : Nat} (hm : n = m + 1) : ∀ h, ((rPlan n).ty GPl.zero).p h (.agg #[Value.int .i64 0, Value.int .i64 0, Value.slice none 0 0, Value.slice none 0 0, Value.slice none 0 0, Value.int .i64 0, Value.int .i64 0, Value.slice none 0 0]) := hm ▸ zr46
def WholeS (x : Gplanner) (n : Nat) : Prop := ∀ p : GPlan, EOk x n p → Fun1 prog 93 [rplanner.ty x, (rPlan n).ty p] ((rnode n).ty (wholeM x n p))
/-! ### Right statistics -/
def rowOk (s : GSchema) (st : GStats) (t : Nat) : Bool := !(decide (1000000000 < nth st.Rows t) || (decide (0 < 0) || decide (nth st.Rows t < 0)) || !decide (((nth st.Distinct t).length : Int) = (nth s.Tables t).Attrs.length) || (nth st.Distinct t).any fun n => decide (n < 0) || decide (nth st.Rows t < n))
def prightM (s : GSchema) (p : GPlan) (st : GStats) : Bool := vldM s p && decide (st.Rows.length = s.Tables.length) && decide (st.Distinct.length = s.Tables.length) && (List.range st.Rows.length).all (rowOk s st)
structure StOk (x : Gplanner) : Prop where
  r : x.st.Rows.length = x.s.Tables.length
  d : x.st.Distinct.length = x.s.Tables.length
  u : ∀ t, t < x.s.Tables.length → Upto (nth x.st.Rows t)
  n : ∀ t, t < x.s.Tables.length → (nth x.st.Distinct t).length = (nth x.s.Tables t).Attrs.length
  a : ∀ t, t < x.s.Tables.length → ∀ v ∈ nth x.st.Distinct t, 0 ≤ v ∧ v ≤ nth x.st.Rows t
theorem right_st {s : GSchema} {p : GPlan} {st : GStats} (h : prightM s p st = true) : vldM s p = true ∧ StOk ⟨s, st⟩ := by
  unfold prightM at h
  simp only [Bool.and_eq_true, decide_eq_true_eq, List.all_eq_true, List.mem_range] at h
  obtain ⟨⟨⟨h1, h2⟩, h3⟩, h4⟩ := h
  have h5 : ∀ t, t < s.Tables.length → Upto (nth st.Rows t) ∧ (nth st.Distinct t).length = (nth s.Tables t).Attrs.length ∧ ∀ v ∈ nth st.Distinct t, 0 ≤ v ∧ v ≤ nth st.Rows t := fun t ht => by
    have := h4 t (by omega)
    unfold rowOk at this
    simp only [Bool.not_eq_true', Bool.or_eq_false_iff, decide_eq_false_iff_not, Bool.not_eq_false', decide_eq_true_eq, List.any_eq_false, Bool.or_eq_true, not_or] at this
    obtain ⟨⟨⟨q1, q2, q3⟩, q4⟩, q5⟩ := this
    exact ⟨⟨by omega, by omega⟩, by omega, fun v hv => by have := q5 v hv; omega⟩
  exact ⟨h1, h2, h3, fun t ht => (h5 t ht).1, fun t ht => (h5 t ht).2.1, fun t ht => (h5 t ht).2.2⟩
section
variable {s : GSchema} {l : Nat} {p : GPlan}
theorem wk5 (h : validM s l p = true) (hk : p.Kind = 5 ∨ p.Kind = 6) : p.Kids.length = 2 ∧ p.Attrs.length = (nth p.Kids 0).Attrs.length ∧ (nth p.Kids 0).Attrs.length = (nth p.Kids 1).Attrs.length := by
  obtain ⟨l', _, _, hn, _, h1, h2⟩ := valid_in h
  have e : colsM s p = ((nth p.Kids 0).Attrs, alikeM (nth p.Kids 0).Attrs (nth p.Kids 1).Attrs) := by unfold colsM; rcases hk with hk | hk <;> simp [hk]
  rw [e] at h1 h2
  have hn2 : kidsN p.Kind = 2 := by unfold kidsN; rcases hk with hk | hk <;> simp [hk]
  exact ⟨by omega, h2.symm, alike_len h1⟩
theorem wk8 (h : validM s l p = true) (hk : p.Kind = 8) : p.Kids.length = 1 ∧ (∀ c ∈ p.Cols, 0 ≤ c ∧ c < (nth p.Kids 0).Attrs.length) ∧ p.Attrs.length = p.Cols.length + 1 := by
  obtain ⟨l', _, _, hn, _, h1, h2⟩ := valid_in h
  have e : colsM s p = if grpOk p = true then (grpL p, grpB p) else ([], false) := by simp [colsM, hk]
  rw [e] at h1 h2
  rw [hk] at hn
  simp [kidsN] at hn
  split at h1
  · rename_i q
    rw [if_pos q] at h2
    simp only [grpOk, pickOk, Bool.and_eq_true, List.all_eq_true, decide_eq_true_eq] at q
    exact ⟨by omega, q.1, q.2.1⟩
  · cases h1
end
theorem test_in {t : GTest} {n k : Nat} (h : testOk t n = true) (hk : n = k) : tstIn k t := by
  unfold testOk at h
  simp only [Bool.and_eq_true] at h
  have hs : ∀ s : GSide, sideM s n = true → s.Var = 0 → 0 ≤ s.Col ∧ s.Col < k := fun s h1 h2 => by
    unfold sideM at h1
    rw [if_neg (by omega)] at h1
    simp only [Bool.and_eq_true, decide_eq_true_eq] at h1
    omega
  intro s hs1 hv
  simp only [List.mem_cons, List.not_mem_nil, or_false] at hs1
  rcases hs1 with rfl | rfl
  · exact hs _ h.1.1.2 hv
  · exact hs _ h.1.2 hv
theorem range_nth {α : Type} [Inhabited α] (l : List α) : (List.range l.length).map (nth l) = l := by
  refine list_extA (by simp) fun i hi => ?_
  rw [nth_get hi]; simp
theorem filt_nth {α : Type} [Inhabited α] (f : α → Bool) (l : List α) : l.filter f = ((List.range l.length).filter fun k => f (nth l k)).map (nth l) := by
  conv => lhs; rw [← range_nth l]
  rw [List.filter_map]; rfl
theorem jds_len {a b : Gnode} (ha : NdOk a) : (jDs a b b.Plan.Attrs.length).length = (joinL a.Plan.Attrs b.Plan.Attrs).length := by
  unfold jDs joinL jNew
  rw [List.length_append, List.length_append, List.length_map, ha.n, filt_nth (fun x => decide (columnL a.Plan.Attrs x.Name < 0)) b.Plan.Attrs, List.length_map]
theorem min_ds {x : Gplanner} {p : GPlan} {ks : List Gnode} (hm : MkOk x p ks) (hd : ∀ v ∈ dsM x p ks, 0 ≤ v) (hn : (dsM x p ks).length = p.Attrs.length) (ha : p.Attrs.length ≤ 1000000) : NdOk (makeM x p ks) := by
  have hr := rowsM_bd hm
  have hc := cost_bd hm.k0
  refine ⟨hr, ?_, ?_, ?_, ha⟩
  · unfold Upto at *; show 0 ≤ min _ _ ∧ min _ _ ≤ _; omega
  · intro v hv
    simp only [makeM, List.mem_map] at hv
    obtain ⟨d, h1, rfl⟩ := hv
    have := hd d h1
    unfold Upto at *; omega
  · simp only [makeM, List.length_map]; exact hn
theorem dsM_nn {x : Gplanner} {p : GPlan} {ks : List Gnode} (hm : MkOk x p ks) (h1 : p.Kind = 1 → ∀ v ∈ nth x.st.Distinct p.Table.toNat, 0 ≤ v) : ∀ v ∈ dsM x p ks, 0 ≤ v := by
  by_cases k1 : p.Kind = 1
  · rw [ds_1 k1]; exact h1 k1
  · have ha := mk_a hm k1
    have hp : ∀ v ∈ pickD (nth ks 0).size.distinct p.Cols, 0 ≤ v := fun v hv => by
      simp only [pickD, List.mem_map] at hv
      obtain ⟨c, _, rfl⟩ := hv
      exact (ha.d.nth _).1
    by_cases k2 : p.Kind = 2
    · rw [ds_2 k2]; exact fun v hv => (ha.d v hv).1
    · by_cases k3 : p.Kind = 3
      · rw [ds_3 k3]; exact hp
      · by_cases k8 : p.Kind = 8
        · rw [ds_8 k8]
          intro v hv
          rcases List.mem_append.1 hv with hv | hv
          · exact hp v hv
          · simp only [List.mem_singleton] at hv; rw [hv]; exact (grp_bd ha _).1
        · by_cases k4 : p.Kind = 4
          · have hb := mk_b hm (.inl k4)
            rw [ds_4 k4, jDs]
            intro v hv
            rcases List.mem_append.1 hv with hv | hv
            · exact (ha.d v hv).1
            · simp only [List.mem_map] at hv
              obtain ⟨c, _, rfl⟩ := hv
              exact (hb.d.nth _).1
          · by_cases k5 : p.Kind = 5
            · have hb := mk_b hm (.inr k5)
              rw [ds_5 k5, uDs]
              intro v hv
              simp only [List.mem_map] at hv
              obtain ⟨c, _, rfl⟩ := hv
              have := (ha.d.nth c).1
              have := (hb.d.nth c).1
              omega
            · rw [ds_d k1 k2 k3 k4 k5 k8]; exact fun v hv => (ha.d v hv).1
/-- A valid query over kids with estimates has one. -/
theorem mk_valid {x : Gplanner} (hst : StOk x) (hsz : ∀ t ∈ x.s.Tables, t.Attrs.length ≤ 1000000) {l : Nat} {p : GPlan} (hv : validM x.s l p = true) {ks : List Gnode} (hks : ∀ k ∈ ks, NdOk k) (hkp : ks.map Gnode.Plan = p.Kids) (ht : p.Tests.length ≤ 1000000) (hc : p.Cols.length ≤ 1000000) (ha : p.Attrs.length ≤ 1000000) :
    MkOk x p ks ∧ NdOk (makeM x p ks) := by
  obtain ⟨l', _, hkd, hkn, _⟩ := valid_in hv
  have hkl : ks.length = p.Kids.length := by rw [← hkp, List.length_map]
  have hkb : kidsN p.Kind ≤ 2 := by unfold kidsN; split; omega; split <;> omega
  have hat : ∀ i, i < ks.length → (nth ks i).size.distinct.length = (nth p.Kids i).Attrs.length := fun i hi => by
    rw [(hks _ (nth_mem hi)).n, ← hkp, nth_get hi, nth_get (by simpa using hi)]; simp
  have h1 : p.Kind = 1 → (0 ≤ p.Table ∧ p.Table.toNat < x.s.Tables.length) ∧ p.Attrs.length = (nth x.s.Tables p.Table.toNat).Attrs.length := fun hk => by
    have := vk1 hv hk
    exact ⟨⟨this.1.1, by omega⟩, this.2⟩
  have hM : MkOk x p ks := by
    refine ⟨hks, by omega, ht, hc, fun hk => ?_, fun hk => ?_, fun hk => ?_, fun hk => ?_, fun hk => ?_, fun hk => ?_⟩
    · obtain ⟨⟨q1, q2⟩, q3⟩ := h1 hk
      refine ⟨q1, by have := hst.r; omega, by have := hst.d; omega, hst.u _ q2, ?_⟩
      rw [hst.n _ q2]; exact hsz _ (nth_mem q2)
    · have : 1 ≤ kidsN p.Kind := by unfold kidsN; rw [if_neg hk]; split <;> omega
      omega
    · obtain ⟨q1, q2, q3⟩ := vk2 hv hk
      exact fun t ht => test_in (q2 t ht) (hat 0 (by omega)).symm
    · rcases hk with hk | hk
      · obtain ⟨q1, q2, q3⟩ := vk3 hv hk
        exact fun c hc => by rw [hat 0 (by omega)]; exact q2 c hc
      · obtain ⟨q1, q2, q3⟩ := wk8 hv hk
        exact fun c hc => by rw [hat 0 (by omega)]; exact q2 c hc
    · have : kidsN p.Kind = 2 := by unfold kidsN; rcases hk with hk | hk <;> simp [hk]
      omega
    · obtain ⟨q1, q2, q3⟩ := wk5 hv (.inl hk)
      rw [hat 0 (by omega), hat 1 (by omega), q3]; exact Nat.le_refl _
  refine ⟨hM, min_ds hM (dsM_nn hM fun hk v hvv => ?_) ?_ ha⟩
  · obtain ⟨⟨q1, q2⟩, q3⟩ := h1 hk
    exact (hst.a _ q2 v hvv).1
  · rcases kind_cases hkd with k | k | k | k | k | k | k | k
    · obtain ⟨⟨q1, q2⟩, q3⟩ := h1 k
      rw [ds_1 k, hst.n _ q2, q3]
    · rw [ds_2 k]; obtain ⟨q1, q2, q3⟩ := vk2 hv k; rw [hat 0 (by omega), q3]
    · rw [ds_3 k]; obtain ⟨q1, q2, q3⟩ := vk3 hv k; rw [pickD, List.length_map, q3]
    · obtain ⟨q1, q2⟩ := vk4 hv k
      have e0 : (nth ks 0).Plan = nth p.Kids 0 := by rw [← hkp, nth_get (l := ks) (by omega), nth_get (by simp; omega)]; simp
      have e1 : (nth ks 1).Plan = nth p.Kids 1 := by rw [← hkp, nth_get (l := ks) (by omega), nth_get (by simp; omega)]; simp
      rw [ds_4 k, jds_len (hks _ (nth_mem (by omega))), e0, e1, q2]
    · rw [ds_5 k]; obtain ⟨q1, q2, q3⟩ := wk5 hv (.inl k); rw [uDs, List.length_map, List.length_range, hat 0 (by omega), q2]
    · rw [ds_d (by omega) (by omega) (by omega) (by omega) (by omega) (by omega)]; obtain ⟨q1, q2, q3⟩ := wk5 hv (.inr k); rw [hat 0 (by omega), q2]
    · rw [ds_d (by omega) (by omega) (by omega) (by omega) (by omega) (by omega)]; obtain ⟨q1, q2⟩ := vk7 hv k; rw [hat 0 (by omega), q2]
    · rw [ds_8 k]; obtain ⟨q1, q2, q3⟩ := wk8 hv k; rw [pickD, List.length_append, List.length_map, List.length_singleton, q3]
theorem pl_eta (p : GPlan) : GPl.mk p.Kind p.Table p.Kids p.Tests p.Cols p.Col p.Agg p.Attrs = p := by cases p; rfl
theorem whole_ok {x : Gplanner} (hst : StOk x) (hsz : ∀ t ∈ x.s.Tables, t.Attrs.length ≤ 1000000) : ∀ {n l : Nat} {p : GPlan}, Dep n p → validM x.s l p = true → PlSz n p → EOk x n p ∧ NdOk (wholeM x n p) ∧ (wholeM x n p).Plan = p
  | 0, _, _, hd, _, _ => hd.elim
  | n + 1, l, p, hd, hv, hp => by
    obtain ⟨z1, z2, z3, z4, z5⟩ := id hp
    obtain ⟨l', _, hkd, hkn, hkv, _⟩ := valid_in hv
    have ih : ∀ q ∈ p.Kids, EOk x n q ∧ NdOk (wholeM x n q) ∧ (wholeM x n q).Plan = q := fun q hq => whole_ok hst hsz (hd q hq) (hkv q hq) (z5 q hq).1
    have hkp : (p.Kids.map (wholeM x n)).map Gnode.Plan = p.Kids := by
      rw [List.map_map]
      conv => rhs; rw [← List.map_id p.Kids]
      exact List.map_congr_left fun q hq => (ih q hq).2.2
    obtain ⟨h1, h2⟩ := mk_valid hst hsz hv (ks := p.Kids.map (wholeM x n)) (fun k hk => by
      obtain ⟨q, hq, rfl⟩ := List.mem_map.1 hk
      exact (ih q hq).2.1) hkp (by omega) (by omega) (by omega)
    refine ⟨⟨h1, fun q hq => (ih q hq).1⟩, h2, ?_⟩
    show GPl.mk p.Kind p.Table ((p.Kids.map (wholeM x n)).map Gnode.Plan) p.Tests p.Cols p.Col p.Agg p.Attrs = p
    rw [hkp, pl_eta]
set_option maxHeartbeats 2000000 in
theorem whole1_spec (x : Gplanner) (n : Nat) (p : GPlan) (hw : EOk x (n + 1) p) (ih : WholeS x n) : Fun1 prog 93 [rplanner.ty x, (rPlan (n + 1)).ty p] ((rnode (n + 1)).ty (wholeM x (n + 1) p)) := by
 refine Spec.enter func93 rfl rfl fun h0 w0 fr0 => ?_
 refine K_fact 1 (fun _ _ r => plan_posP r) fun ⟨n1, hn1⟩ => ?_
 obtain ⟨hmk, hks⟩ := hw
 have hkl := hmk.n
 rw [List.length_map] at hkl
 refine Jr (Js rfl (step_box (R := rplanner) Sr) (Js rfl (step_box (R := (rPlan (n + 1))) Sr) ?_))
 refine Jx rfl (step_alloc (R := rnode (n + 1)) (fun w => zeroValue152 w) zr152) fun b4 => ?_
 refine JL_nil (Jr (Ja rfl (JL_nil (J_seq (Jr ?_)))))
 refine Js rfl (step_fieldAddr so46 Sr rfl) (Jl rfl ty42 Sr (Js rfl (step_len_sl underlying42 Sr) (Jm rfl (JL_nil (J_block ?_)))))
 refine J_loopL (σ := Nat × Value) (fun ⟨i, vo⟩ => i ≤ p.Kids.length) (fun ⟨i, vo⟩ => upd (upd (upd (upd (upd (upd (upd env0 2 (tPtr rplanner x)) 3 (tPtr (rPlan (n + 1)) p)) 4 (tAt b4 0)) 5 (rV.ty vo)) 9 (tSl (rPlan n) p.Kids)) 10 (tV (.int .i64 p.Kids.length))) 11 (tV (.int .i64 i))) (fun ⟨i, vo⟩ => [own 152 (rnode n) vo ((p.Kids.take i).map (wholeM x n)), box b4 152 (rnode (n + 1)) ⟨GPl.zero, zsize⟩]) (fun ⟨i, vo⟩ => p.Kids.length - i) (0, .slice none 0 0) (by exact Nat.zero_le _) (.u (.u (.u (SubE.upd (Sub.rV rfl) (zU))))) (LSub.nilown) ?_
 rintro ⟨i, vo⟩ hi
 try dsimp only at hi
 refine Jr (Js rfl (step_lss Sr Sr) (JL_nil (J_seq ?_)))
 refine J_cond Sr (fun h12 => ?_) (fun h12 => ?_)
 ·
  try simp only [NF] at h12
  have hlt : i < p.Kids.length := by omega
  refine J_skip (J_seq (J_block (Jr ?_)))
  refine Js rfl (step_indexAddr_sl (i := i) underlying42 ty46 Sr Sr (by rfl) (gb (by exact hlt))) ?_
  refine Jl rfl ty46 Sr ?_
  refine Jx rfl (step_alloc (R := rPlan n) (fun w => zeroValue46 w) (zr46P (hn1 zG))) fun b7 => ?_
  refine Ju (step_store_box ty46 Sr Sr zS) fun _ => ?_
  refine JL_freeze (t := 7) (Sel.take (Sel.none _)) Frz.box ?_
  refine JL_nil (J_region (Jm rfl (Jl rfl ty146 Sr (Jl rfl ty46 Sr (Js rfl (step_call0 (ih _ (hks _ (nth_mem hlt))) ⟨Sr, Sr, trivial⟩ call93) ?_)))))
  refine Js rfl (step_literal (ys := [wholeM x n (nth p.Kids i)]) underlying197 (el152P (hn1 zG)) ⟨rfl, Sr, trivial⟩ rfl (by rw [knode]; decide)) ?_
  refine Jx rfl (step_append underlying197 (el152P (hn1 zG)) Sr Sr zS (by simp only [List.length_append, List.length_cons, List.length_nil, List.length_map, List.length_take]; omega) (by simp only [List.length_append, List.length_cons, List.length_nil, List.length_map, List.length_take]; omega)) fun v20 => ?_
  refine Ja rfl (JL_nil (J_region (Js rfl (step_add Sr Sr z6) (Jm rfl (JL_nil ?_)))))
  refine K_againL (σ := Nat × Value) (s := (i, vo)) (i + 1, v20) zO (by show i + 1 ≤ _; omega) (zU) (.c zS (SPs.of (A := own 152 (rnode n) v20 (((p.Kids.take i).map (wholeM x n)) ++ [wholeM x n (nth p.Kids i)])) (by rw [takeB hlt, List.map_append]; rfl)) (zL))
 try simp only [NF] at h12
 obtain rfl : i = p.Kids.length := by omega
 refine J_exit (J_seq ?_)
 refine K_freeze (t := 5) (A' := tSl (rnode n) (p.Kids.map (wholeM x n))) (Sel.take (Sel.none _)) (Frz.own' (by rw [List.take_length])) ?_
 refine J_region (Jl rfl ty146 Sr (Jl rfl ty46 Sr (Jm rfl (Js rfl (step_call0 (make_spec x n n p (p.Kids.map (wholeM x n)) hmk) ⟨Sr, Sr, Sr, trivial⟩ call146) ?_))))
 refine Ju (step_store_box ty152 Sr Sr zS) fun _ => ?_
 refine JL_nil (J_ret ?_)
 refine K_ret1' (rv := .cell 4 152) rfl () (Sel.all _) (.cell (R := rnode (n + 1)) ty152 Sr zS Sr) (Frz.sub Sr)
theorem whole_spec (x : Gplanner) : ∀ n, WholeS x n
 | 0 => fun p _ => by
  refine Spec.enter func93 rfl rfl fun h0 w0 fr0 => ?_
  exact K_fact 1 (fun _ _ r => (show False from r)) fun q => q.elim
 | n + 1 => fun p hw => whole1_spec x n p hw (whole_spec x n)
theorem rightF_spec (m k : Int) : Fun1 prog 145 [tV (.int .i64 k), tPtr rInt m] (tV (.bool (decide (k < 0) || decide (m < k)))) := by
 refine Spec.enter func145 rfl rfl fun h0 w0 fr0 => ?_
 refine Jr (Ja rfl (JL_nil (Jr (Jm rfl (Js rfl (step_lss Sr Sr) ?_)))))
 refine Jm rfl ?_
 refine Jk rfl Sr rfl (step_move Sr) ?_
 refine Jk rfl Sr rfl (step_load_ptr ty3 Sr) ?_
 refine Jg rfl Sr rfl (fun hw => step_gtr (Sub.w hw) (Sub.w hw)) (Js rfl (step_pick_or Sr Sr) (Ja rfl (JL_nil (J_ret ?_))))
 exact K_ret1 (t := 3) rfl () Sr
set_option maxHeartbeats 4000000 in
theorem pright_spec (s : GSchema) (hz : SchSz s) (n : Nat) (p : GPlan) (hp : PlSz n p) (st : GStats) (hd : ∀ d ∈ st.Distinct, d.length ≤ 1000000000000) : Fun1 prog 92 [rSchema.ty s, (rPlan n).ty p, rStats.ty st] (tTup [rplanner.ty (if prightM s p st = true then (⟨s, st⟩ : Gplanner) else zplanner), tV (.bool (prightM s p st))]) := by
 refine Spec.enter func92 rfl rfl fun h0 w0 fr0 => ?_
 have htl := hz.tabs
 refine Jr (Js rfl (step_box (R := rSchema) Sr) (Js rfl (step_box (R := (rPlan n)) Sr) (Js rfl (step_box (R := rStats) Sr) ?_)))
 refine Jx rfl (step_alloc (fun w => zeroValue146 w) zr146) fun b6 => ?_
 refine Ja rfl (JL_nil (J_seq (Jr (Jl rfl ty41 Sr (Jl rfl ty46 Sr ?_)))))
 refine Js rfl (step_call0 (algValid_spec s hz n p hp) ⟨Sr, Sr, trivial⟩ call60) (Js rfl (step_not Sr) (Jm rfl ?_))
 refine Jk rfl Sr rfl (step_fieldAddr so60 Sr rfl) ?_
 refine Jg rfl Sr rfl (fun hw => step_load_ptr ty36 (Sub.w hw)) (Jg rfl Sr rfl (fun hw => step_len_sl underlying36 (Sub.w hw)) ?_)
 refine Jk rfl Sr rfl (step_fieldAddr so41 Sr rfl) ?_
 refine Jg rfl Sr rfl (fun hw => step_load_ptr ty39 (Sub.w hw)) (Jg rfl Sr rfl (fun hw => step_len_sl underlying39 (Sub.w hw)) (Jg rfl Sr rfl (fun hw => step_neq (Sub.w hw) (Sub.w hw)) (Js rfl (step_pick_or Sr Sr) (Jm rfl ?_))))
 refine Jk rfl Sr rfl (step_fieldAddr so60 Sr rfl) ?_
 refine Jg rfl Sr rfl (fun hw => step_load_ptr ty58 (Sub.w hw)) (Jg rfl Sr rfl (fun hw => step_len_sl underlying58 (Sub.w hw)) ?_)
 refine Jk rfl Sr rfl (step_fieldAddr so41 Sr rfl) ?_
 refine Jg rfl Sr rfl (fun hw => step_load_ptr ty39 (Sub.w hw)) (Jg rfl Sr rfl (fun hw => step_len_sl underlying39 (Sub.w hw)) (Jg rfl Sr rfl (fun hw => step_neq (Sub.w hw) (Sub.w hw)) (Js rfl (step_pick_or Sr Sr) (JL_nil ?_))))
 refine J_cond Sr (fun h32 => ?_) (fun h32 => ?_)
 ·
  try simp only [NF] at h32
  refine Jr (Js rfl (step_build (x := (zplanner : Gplanner)) (zs := [[Value.slice none 0 0], [Value.slice none 0 0, Value.slice none 0 0]]) so146 (fun w => zeroValue146 w) trivial ⟨fun _ => ⟨[Value.slice none 0 0], _, rfl, ⟨_, rfl, none, ⟨0, Nat.le_refl _⟩, rfl, fun q => absurd rfl q⟩, rfl⟩, fun _ => ⟨[Value.slice none 0 0], _, rfl, ⟨_, rfl, none, ⟨0, Nat.le_refl _⟩, rfl, fun q => absurd rfl q⟩, ⟨[Value.slice none 0 0], _, rfl, ⟨_, rfl, none, ⟨0, Nat.le_refl _⟩, rfl, fun q => absurd rfl q⟩, rfl⟩⟩, trivial⟩) ?_)
  refine Ju (step_store_box ty146 Sr Sr zS) fun _ => ?_
  refine Ja rfl (JL_nil (J_ret ?_))
  have hf : prightM s p st = false := by
   unfold prightM
   rcases h32 with (h | h) | h
   ·
    simp [h]
   ·
    simp [show ¬ st.Rows.length = s.Tables.length by omega]
   simp [show ¬ st.Distinct.length = s.Tables.length by omega]
  refine K_ret2' (rv := .cell 6 146) (rv' := .tmp 7) rfl () (Sel.all _) (.cell (R := rplanner) ty146 Sr zS Sr) (.tmp Sr) (Frz.sub (Sub.eqT (by rw [hf]; rfl))) (Frz.sub (Sub.bool hf.symm)) Sr
 try simp only [NF] at h32
 have hb : vldM s p = true ∧ st.Rows.length = s.Tables.length ∧ st.Distinct.length = s.Tables.length := by exact ⟨h32.1.1, by omega, by omega⟩
 refine J_skip (J_seq (Jr (Js rfl (step_fieldAddr so60 Sr rfl) (Jl rfl ty36 Sr (Js rfl (step_len_sl underlying36 Sr) ?_)))))
 refine Jm rfl (JL_nil (J_block ?_))
 refine J_loopL (σ := Nat) (fun i => i ≤ st.Rows.length ∧ ∀ k, k < i → rowOk s st k = true) (fun i => upd (upd (upd (upd (upd (upd env0 3 (tPtr rSchema s)) 5 (tPtr rStats st)) 6 (tAt b6 0)) 35 (tSl rInt st.Rows)) 36 (tV (.int .i64 st.Rows.length))) 37 (tV (.int .i64 i))) (fun i => [box b6 146 rplanner zplanner]) (fun i => st.Rows.length - i) 0 ⟨by omega, fun k hk => by omega⟩ (zU) (LSub.rfl) ?_
 rintro i ⟨hi, hv⟩
 refine Jr (Js rfl (step_lss Sr Sr) (JL_nil (J_seq ?_)))
 refine J_cond Sr (fun h38 => ?_) (fun h38 => ?_)
 ·
  try simp only [NF] at h38
  have hlt : i < st.Rows.length := by omega
  have hlt2 : i < st.Distinct.length := by omega
  have hlt3 : i < s.Tables.length := by omega
  refine J_skip (J_seq (J_block (Jr (Jm rfl ?_))))
  refine Js rfl (step_indexAddr_sl (i := i) underlying36 ty3 Sr Sr (by rfl) (gb (by exact hlt))) ?_
  refine Jl rfl ty3 Sr ?_
  refine Jx rfl (step_alloc (fun w => zeroValue3 w) zr3) fun b9 => ?_
  refine Ja rfl ?_
  refine Ju (step_store_box ty3 Sr Sr zS) fun _ => ?_
  refine JL_freeze (t := 9) (Sel.take (Sel.none _)) Frz.box ?_
  refine JL_nil (Jr (Js rfl (step_makeFunc (As := [_]) ⟨Sr, trivial⟩) (Ja rfl (JL_nil (J_seq ?_)))))
  refine J_draw [⟨0, [9], true⟩, ⟨1, [43], true⟩, ⟨2, [44], true⟩, ⟨3, [10, 45], true⟩, ⟨4, [45, 46], true⟩, ⟨5, [45, 47], true⟩, ⟨6, [48], true⟩, ⟨7, [5, 49], true⟩, ⟨8, [49, 50], true⟩, ⟨9, [8, 49], true⟩, ⟨10, [49, 51, 52], true⟩, ⟨11, [49, 53], true⟩, ⟨12, [49, 54], true⟩, ⟨13, [3, 49], true⟩, ⟨14, [49, 56], true⟩, ⟨15, [8, 49], true⟩, ⟨16, [49, 57, 58], true⟩, ⟨17, [49, 59], true⟩, ⟨18, [49, 60], true⟩, ⟨19, [49, 61], true⟩, ⟨20, [49, 55, 62], true⟩, ⟨21, [49, 63], true⟩, ⟨22, [64], true⟩, ⟨23, [5, 65], true⟩, ⟨24, [65, 66], true⟩, ⟨25, [8, 65], true⟩, ⟨26, [65, 67, 68], true⟩, ⟨27, [65, 69], true⟩, ⟨28, [10, 65], true⟩, ⟨29, [65, 70, 71], true⟩, ⟨30, [65, 72], true⟩] rfl (by kernel_rfl) ?_
  refine Mf rfl rfl (step_load_ptr ty3 Sr) (Mf rfl rfl (step_gtr Sr Sr) (Mv rfl rfl ?_))
  refine Mk rfl rfl Sr rfl (step_move Sr) ?_
  refine Mg rfl rfl Sr rfl (fun hw => step_callv0 (aT := [_]) (Sub.w hw) (rightF_spec (nth st.Rows i) 0) ⟨Sr, trivial⟩ call145) (Mf rfl rfl (step_pick_or Sr Sr) (Mv rfl rfl ?_))
  refine Mk rfl rfl Sr rfl (step_fieldAddr so60 Sr rfl) ?_
  refine Mg rfl rfl Sr rfl (fun hw => step_load_ptr ty58 (Sub.w hw)) ?_
  refine Mk rfl rfl Sr rfl (step_move Sr) ?_
  refine Mg rfl rfl Sr rfl (fun hw => step_indexAddr_sl (i := i) underlying58 ty36 (Sub.w hw) (Sub.w hw) (by rfl) (gb (by have hwq := hw; (try simp only [beqB_t, beqB_f, NF] at hwq); exact hlt2))) ?_
  refine Mg rfl rfl Sr rfl (fun hw => step_load_ptr ty36 (Sub.w hw)) (Mg rfl rfl Sr rfl (fun hw => step_len_sl underlying36 (Sub.w hw)) ?_)
  refine Mk rfl rfl Sr rfl (step_fieldAddr so41 Sr rfl) ?_
  refine Mg rfl rfl Sr rfl (fun hw => step_load_ptr ty39 (Sub.w hw)) ?_
  refine Mk rfl rfl Sr rfl (step_move Sr) ?_
  refine Mg rfl rfl Sr rfl (fun hw => step_indexAddr_sl (i := i) underlying39 ty76 (Sub.w hw) (Sub.w hw) (by rfl) (gb (by have hwq := hw; (try simp only [beqB_t, beqB_f, NF] at hwq); exact hlt3))) ?_
  refine Mg rfl rfl Sr rfl (fun hw => step_fieldAddr so76 (Sub.w hw) rfl) (Mg rfl rfl Sr rfl (fun hw => step_load_ptr ty44 (Sub.w hw)) (Mg rfl rfl Sr rfl (fun hw => step_len_sl underlying44 (Sub.w hw)) (Mg rfl rfl Sr rfl (fun hw => step_neq (Sub.w hw) (Sub.w hw)) (Mf rfl rfl (step_pick_or Sr Sr) (Mv rfl rfl ?_)))))
  refine Mk rfl rfl Sr rfl (step_fieldAddr so60 Sr rfl) ?_
  refine Mg rfl rfl Sr rfl (fun hw => step_load_ptr ty58 (Sub.w hw)) ?_
  refine Mk rfl rfl Sr rfl (step_move Sr) ?_
  refine Mg rfl rfl Sr rfl (fun hw => step_indexAddr_sl  underlying58 ty36 (Sub.w hw) (Sub.w hw) rfl (gb (by have hwq := hw; (try simp only [beqB_t, beqB_f, NF] at hwq); first | assumption | omega))) ?_
  refine Mg rfl rfl Sr rfl (fun hw => step_load_ptr ty36 (Sub.w hw)) ?_
  refine Mk rfl rfl Sr rfl (step_move Sr) ?_
  refine Mg rfl rfl Sr rfl (fun hw => step_call0 (ContainsFuncI_spec (nth st.Distinct i) (hd _ (nth_mem hlt2)) 145 [tPtr rInt (nth st.Rows i)] (fun n => decide (n < 0) || decide (nth st.Rows i < n)) (fun x _ => rightF_spec _ x) call145) ⟨(Sub.w hw), (Sub.w hw), trivial⟩ call63) (Mf rfl rfl (step_pick_or Sr Sr) (JM_nil ?_))
  refine J_cond Sr (fun h73 => ?_) (fun h73 => ?_)
  ·
   try simp only [NF] at h73
   refine Jr (Js rfl (step_build (x := (zplanner : Gplanner)) (zs := [[Value.slice none 0 0], [Value.slice none 0 0, Value.slice none 0 0]]) so146 (fun w => zeroValue146 w) trivial ⟨fun _ => ⟨[Value.slice none 0 0], _, rfl, ⟨_, rfl, none, ⟨0, Nat.le_refl _⟩, rfl, fun q => absurd rfl q⟩, rfl⟩, fun _ => ⟨[Value.slice none 0 0], _, rfl, ⟨_, rfl, none, ⟨0, Nat.le_refl _⟩, rfl, fun q => absurd rfl q⟩, ⟨[Value.slice none 0 0], _, rfl, ⟨_, rfl, none, ⟨0, Nat.le_refl _⟩, rfl, fun q => absurd rfl q⟩, rfl⟩⟩, trivial⟩) ?_)
   refine Ju (step_store_box ty146 Sr Sr zS) fun _ => ?_
   refine Ja rfl (JL_nil (J_ret ?_))
   have hrw : rowOk s st i = false := by unfold rowOk; simp only [Bool.not_eq_false']; simpa using h73
   have hf : prightM s p st = false := by unfold prightM; rw [rall_f hlt hrw, Bool.and_false]
   refine K_ret2' (rv := .cell 6 146) (rv' := .tmp 7) rfl () (Sel.all _) (.cell (R := rplanner) ty146 Sr zS Sr) (.tmp Sr) (Frz.sub (Sub.eqT (by rw [hf]; rfl))) (Frz.sub (Sub.bool hf.symm)) Sr
  try simp only [NF] at h73
  refine J_skip (J_region (Js rfl (step_add Sr Sr z6) (Jm rfl (JL_nil ?_))))
  have hrw : rowOk s st i = true := by unfold rowOk; simp only [Bool.not_eq_true']; simpa using h73
  refine K_againL (σ := Nat) (s := i) (i + 1) zO ⟨by omega, fun k hk => by by_cases e : k = i; exact e ▸ hrw; exact hv k zG⟩ (zU) (LSub.rfl)
 try simp only [NF] at h38
 have hall : (List.range st.Rows.length).all (rowOk s st) = true := rall_t (fun k hk => hv k zG)
 refine J_exit (Jr (Jl rfl ty41 Sr (Jl rfl ty60 Sr (Js rfl (step_build (x := (⟨s, st⟩ : Gplanner)) (zs := [[Value.slice none 0 0], [Value.slice none 0 0, Value.slice none 0 0]]) so146 (fun w => zeroValue146 w) ⟨Sr, Sr, trivial⟩ ⟨⟨Sr, rfl⟩, ⟨Sr, rfl⟩, trivial⟩) ?_))))
 refine Ju (step_store_box ty146 Sr Sr zS) fun _ => ?_
 refine Ja rfl (JL_nil (J_ret ?_))
 have hf : prightM s p st = true := by unfold prightM; rw [hb.1, hall, hb.2.1, hb.2.2]; simp
 refine K_ret2' (rv := .cell 6 146) (rv' := .tmp 7) rfl () (Sel.all _) (.cell (R := rplanner) ty146 Sr zS Sr) (.tmp Sr) (Frz.sub (Sub.eqT (by rw [hf]; rfl))) (Frz.sub (Sub.bool hf.symm)) Sr
open Go Go.Proofs Go.Proofs.Tryz
/-! Equality of tests. -/
instance : DecidableEq GSide := fun a b => decidable_of_iff (a.Var = b.Var ∧ a.Col = b.Col ∧ a.Value = b.Value) ⟨fun ⟨h1, h2, h3⟩ => by cases a; cases b; simp_all, fun h => by subst h; exact ⟨rfl, rfl, rfl⟩⟩
instance : DecidableEq GTest := fun a b => decidable_of_iff (a.Left = b.Left ∧ a.Op = b.Op ∧ a.Right = b.Right ∧ a.Add = b.Add) ⟨fun ⟨h1, h2, h3, h4⟩ => by cases a; cases b; simp_all, fun h => by subst h; exact ⟨rfl, rfl, rfl, rfl⟩⟩
theorem val_cells {h : PH} {x : GValue} {cs : List Value} (r : rValue.rel h x cs) : cs = [.int .i64 x.Kind, .int .i64 x.N, .string x.Text] := by
  obtain ⟨c0, _, rfl, r0, c1, _, rfl, r1, c2, _, rfl, r2, rz⟩ := r
  have r0 : c0 = [.int .i64 x.Kind] := r0
  have r1 : c1 = [.int .i64 x.N] := r1
  have r2 : c2 = [.string x.Text] := r2
  subst r0 r1 r2; rw [show _ = [] from rz]; rfl
theorem side_cells {h : PH} {x : GSide} {cs : List Value} (r : rSide.rel h x cs) : cs = [.int .i64 x.Var, .int .i64 x.Col, .int .i64 x.Value.Kind, .int .i64 x.Value.N, .string x.Value.Text] := by
  obtain ⟨c0, _, rfl, r0, c1, _, rfl, r1, c2, _, rfl, r2, rz⟩ := r
  have r0 : c0 = [.int .i64 x.Var] := r0
  have r1 : c1 = [.int .i64 x.Col] := r1
  rw [val_cells r2] at *
  subst r0 r1; rw [show _ = [] from rz]; rfl
open Go Go.Proofs Go.Proofs.Tryz
def estX (s : GSchema) (p : GPlan) (st : GStats) : Gplanner := if prightM s p st = true then (⟨s, st⟩ : Gplanner) else zplanner
def estM (s : GSchema) (n : Nat) (p : GPlan) (st : GStats) : Int := if prightM s p st = true then (wholeM ⟨s, st⟩ n p).size.cost else 0
def errP (s : GSchema) (p : GPlan) (st : GStats) : Int := if prightM s p st = true then 0 else 1
def fewP (st : GStats) : Bool := (st.Distinct.all fun d => decide (d.length ≤ 30)) && (decide (st.Rows.length ≤ 30) && decide (st.Distinct.length ≤ 30))
theorem fewp_in {st : GStats} (h : fewP st = true) : st.Rows.length ≤ 30 ∧ st.Distinct.length ≤ 30 ∧ ∀ d ∈ st.Distinct, d.length ≤ 30 := by
  unfold fewP at h
  simp only [Bool.and_eq_true, decide_eq_true_eq, List.all_eq_true] at h
  exact ⟨h.2.1, h.2.2, h.1⟩
theorem sch_tabs {s : GSchema} (h : schM s = true) : ∀ t ∈ s.Tables, t.Attrs.length ≤ 1000000 := fun t ht => by have := sch_keys h t ht; omega
set_option maxHeartbeats 1000000 in
theorem Estimate_spec (s : GSchema) (hz : SchSz s) (n : Nat) (p : GPlan) (hp : PlSz n p) (st : GStats) (hd : ∀ d ∈ st.Distinct, d.length ≤ 1000000000000) : Fun1 prog 38 [rSchema.ty s, (rPlan n).ty p, rStats.ty st] (tTup [tV (.int .i64 (estM s n p st)), tV (.int .i64 (errP s p st))]) := by
 refine Spec.enter func38 rfl rfl fun h0 w0 fr0 => ?_
 refine K_fact 1 (fun _ _ r => let ⟨_, r, _⟩ := (rPlan n).iff.1 r; pl_dep r) fun hdp => ?_
 refine Jr (Js rfl (step_box (R := rSchema) Sr) (Js rfl (step_box (R := (rPlan n)) Sr) (Js rfl (step_box (R := rStats) Sr) (Ja rfl (Ja rfl ?_)))))
 refine JL_nil (Jr (Jl rfl ty41 Sr (Jl rfl ty46 Sr (Jl rfl ty60 Sr (Js rfl (step_call0 (pright_spec s hz n p hp st hd) ⟨Sr, Sr, Sr, trivial⟩ call92) ?_)))))
 refine Jm rfl (Js rfl (step_extract Sr rfl) (Js rfl (step_extract Sr rfl) ?_))
 refine Jx rfl (step_alloc (fun w => zeroValue146 w) zr146) fun v8 => ?_
 refine Ju (step_store_box ty146 Sr Sr zS) fun _ => ?_
 refine JL_freeze (t := 8) (Sel.take (Sel.none _)) Frz.box ?_
 refine Ja rfl (JL_nil (J_seq (Jr (Jm rfl (Js rfl (step_not Sr) ?_)))))
 refine JL_nil ?_
 refine J_cond Sr (fun h18 => ?_) (fun h18 => ?_)
 ·
  try simp only [NF] at h18
  have hf : ¬ prightM s p st = true := by simpa using h18
  refine Jr (Ja rfl (Ja rfl (JL_nil (J_ret ?_))))
  refine K_ret2' (rv := .tmp 6) (rv' := .tmp 7) rfl () (Sel.all _) (.tmp Sr) (.tmp Sr) (Frz.sub (Sub.int (show _ = estM s n p st by unfold estM; rw [if_neg hf]))) (Frz.sub (Sub.int (show _ = errP s p st by unfold errP; rw [if_neg hf]))) Sr
 try simp only [NF] at h18
 have hf : prightM s p st = true := by simpa using h18
 obtain ⟨hvl, hst⟩ := right_st hf
 have hx : estX s p st = ⟨s, st⟩ := if_pos hf
 have hok := whole_ok hst (sch_tabs (Bool.and_eq_true_iff.1 hvl).1) hdp (Bool.and_eq_true_iff.1 hvl).2 hp
 refine J_skip (Jr (Jl rfl ty146 Sr (Jl rfl ty46 Sr ?_)))
 refine Js rfl (step_call0 (whole_spec ⟨s, st⟩ n p hok.1) ⟨Sub.eqT (show rplanner.ty (estX s p st) = _ by rw [hx]), Sr, trivial⟩ call93) ?_
 refine Js rfl (step_field so152 Sr rfl) (Js rfl (step_field so150 Sr rfl) (Ja rfl (Ja rfl (JL_nil (J_ret ?_)))))
 refine K_ret2' (rv := .tmp 6) (rv' := .tmp 7) rfl () (Sel.all _) (.tmp Sr) (.tmp Sr) (Frz.sub (Sub.int (show _ = estM s n p st by unfold estM; rw [if_pos hf]; try rfl))) (Frz.sub (Sub.int (show _ = errP s p st by unfold errP; rw [if_pos hf]))) Sr
set_option maxHeartbeats 1000000 in
theorem rFew35_spec (st : GStats) (hl : st.Distinct.length ≤ 9223372036854775807) : Fun1 prog 35 [rStats.ty st] (tV (.bool (fewP st))) := by
 refine Spec.enter func35 rfl rfl fun h0 w0 fr0 => ?_
 refine Jr (Js rfl (step_box (R := rStats) Sr) (Ja rfl (JL_nil (J_seq (Jr ?_)))))
 refine Ja rfl (JL_nil (J_block ?_))
 refine J_loopL (σ := Nat) (fun i => i ≤ st.Distinct.length ∧ ∀ k, k < i → decide ((nth st.Distinct k).length ≤ 30) = true) (fun i => upd (upd env0 1 (tPtr rStats st)) 3 (tV (.int .i64 i))) (fun i => []) (fun i => st.Distinct.length - i) 0 ⟨by omega, fun k hk => by omega⟩ (zU) (LSub.rfl) ?_
 rintro i ⟨hi, hv⟩
 refine J_seq (Jr (Jm rfl (Js rfl (step_fieldAddr so60 Sr rfl) (Jl rfl ty58 Sr (Js rfl (step_len_sl underlying58 Sr) ?_)))))
 refine Js rfl (step_lss Sr Sr) (JL_nil ?_)
 refine J_cond Sr (fun h8 => ?_) (fun h8 => ?_)
 ·
  try simp only [NF] at h8
  have hlt : i < st.Distinct.length := by omega
  refine J_skip (J_seq (J_block (Jr (Js rfl (step_fieldAddr so60 Sr rfl) (Jl rfl ty58 Sr ?_)))))
  refine Jm rfl ?_
  refine Js rfl (step_indexAddr_sl (i := i) underlying58 ty36 Sr Sr (by rfl) (gb (by exact hlt))) ?_
  refine Jl rfl ty36 Sr (Js rfl (step_len_sl underlying36 Sr) (Js rfl (step_gtr Sr Sr) (JL_nil ?_)))
  refine J_cond Sr (fun h17 => ?_) (fun h17 => ?_)
  ·
   try simp only [NF] at h17
   refine Jr (Ja rfl (JL_nil (J_ret ?_)))
   refine K_ret1 (t := 2) rfl () ?_
   refine Sub.bool ?_
   have : (st.Distinct.all fun d => decide (d.length ≤ 30)) = false := all_f hlt (by rw [decide_eq_false_iff_not]; omega)
   simp only [fewP, this, Bool.false_and]
  try simp only [NF] at h17
  refine J_skip (J_region (Jm rfl (Js rfl (step_add Sr Sr z6) (Ja rfl (JL_nil ?_)))))
  refine K_againL (σ := Nat) (s := i) (i + 1) zO ?_ (zU) (LSub.rfl)
  refine ⟨by omega, fun k hk => ?_⟩
  by_cases e : k = i
  ·
   rw [e, decide_eq_true_eq]; omega
  exact hv k zG
 try simp only [NF] at h8
 have hall : (st.Distinct.all fun d => decide (d.length ≤ 30)) = true := all_t (fun k hk => hv k zG)
 refine J_exit (Jr (Js rfl (step_fieldAddr so60 Sr rfl) (Jl rfl ty36 Sr (Js rfl (step_len_sl underlying36 Sr) (Js rfl (step_leq Sr Sr) ?_)))))
 refine Jm rfl ?_
 refine Jk rfl Sr rfl (step_fieldAddr so60 Sr rfl) ?_
 refine Jg rfl Sr rfl (fun hw => step_load_ptr ty58 (Sub.w hw)) (Jg rfl Sr rfl (fun hw => step_len_sl underlying58 (Sub.w hw)) (Jg rfl Sr rfl (fun hw => step_leq (Sub.w hw) Sr) (Js rfl (step_pick_and Sr Sr) (Ja rfl (JL_nil ?_)))))
 refine J_ret ?_
 refine K_ret1 (t := 2) rfl () ?_
 refine Sub.bool ?_
 have e : ∀ a : Nat, decide ((a : Int) ≤ 30) = decide (a ≤ 30) := fun a => by rw [decide_eq_decide]; omega
 rw [fewP, hall, Bool.true_and]
 simp only [← e]
theorem ints35_spec (a b : List Int) (hb : b.length ≤ 1000000000000) : Fun1 prog 98 [tSl rInt a, tSl rInt b] (tV (.bool (decide (a = b)))) := by
 refine Spec.enter func98 rfl rfl fun h0 w0 fr0 => ?_
 refine Jr (Ja rfl (JL_nil (J_seq (Jr (Jm rfl ?_)))))
 refine Js rfl (step_len_sl underlying36 Sr) (Jm rfl (Js rfl (step_len_sl underlying36 Sr) (Js rfl (step_neq Sr Sr) (JL_nil ?_))))
 refine J_cond Sr (fun h10 => ?_) (fun h10 => ?_)
 ·
  try simp only [NF] at h10
  refine Jr (Ja rfl (JL_nil (J_ret ?_)))
  refine K_ret1 (t := 4) rfl () ?_
  refine Sub.bool ?_
  exact (decide_eq_false (fun e => h10 (by rw [e]))).symm
 try simp only [NF] at h10
 have hab : a.length = b.length := by omega
 refine J_skip (J_seq (Jr (Ja rfl (JL_nil (J_block ?_)))))
 refine J_loopL (σ := Nat) (fun i => i ≤ a.length ∧ a.take i = b.take i) (fun i => upd (upd (upd env0 0 (tSl rInt a)) 1 (tSl rInt b)) 5 (tV (.int .i64 i))) (fun i => []) (fun i => a.length - i) 0 ⟨Nat.zero_le _, by simp⟩ (zU) (LSub.rfl) ?_
 rintro i ⟨hi, hv⟩
 refine J_seq (Jr (Jm rfl (Jm rfl (Js rfl (step_len_sl underlying36 Sr) (Js rfl (step_lss Sr Sr) ?_)))))
 refine JL_nil ?_
 refine J_cond Sr (fun h14 => ?_) (fun h14 => ?_)
 ·
  try simp only [NF] at h14
  have hlt : i < a.length := by omega
  have hlb : i < b.length := by omega
  refine J_skip (J_seq (J_block (J_seq ?_)))
  refine J_draw [⟨0, [0], true⟩, ⟨1, [5], true⟩, ⟨2, [17, 18], true⟩, ⟨3, [19], true⟩, ⟨4, [1], true⟩, ⟨5, [5], true⟩, ⟨6, [21, 22], true⟩, ⟨7, [23], true⟩, ⟨8, [20, 24], true⟩] rfl (by kernel_rfl) ?_
  refine Mv rfl rfl (Mv rfl rfl ?_)
  refine Mf rfl rfl (step_indexAddr_sl (i := i) underlying36 ty3 Sr Sr (by rfl) (gb (by exact hlt))) ?_
  refine Mf rfl rfl (step_load_ptr ty3 Sr) (Mv rfl rfl (Mv rfl rfl ?_))
  refine Mf rfl rfl (step_indexAddr_sl (i := i) underlying36 ty3 Sr Sr (by rfl) (gb zG)) ?_
  refine Mf rfl rfl (step_load_ptr ty3 Sr) (Mf rfl rfl (step_neq Sr Sr) (JM_nil ?_))
  refine J_cond Sr (fun h25 => ?_) (fun h25 => ?_)
  ·
   try simp only [NF] at h25
   have hne : ¬ nth a i = nth b i := by first | exact h25 | simpa using h25
   refine Jr (Ja rfl (JL_nil (J_ret ?_)))
   refine K_ret1 (t := 4) rfl () ?_
   refine Sub.bool ?_
   exact (decide_eq_false (fun e => hne (by rw [e]))).symm
  try simp only [NF] at h25
  have heq : nth a i = nth b i := by first | exact h25 | simpa using h25
  refine J_skip (J_region (Jm rfl (Js rfl (step_add Sr Sr z6) (Ja rfl (JL_nil ?_)))))
  refine K_againL (σ := Nat) (s := i) (i + 1) zO ⟨by omega, by rw [takeB hlt, takeB hlb, hv, heq]⟩ (zU) (LSub.rfl)
 try simp only [NF] at h14
 obtain rfl : i = a.length := by omega
 refine J_exit (Jr (Ja rfl (JL_nil (J_ret ?_))))
 refine K_ret1 (t := 4) rfl () ?_
 refine Sub.bool ?_
 refine (decide_eq_true ?_).symm
 rw [List.take_length, hab, List.take_length] at hv; exact hv
set_option maxHeartbeats 1000000 in
theorem SameStats_spec (a b : GStats) (hb : b.Rows.length ≤ 1000000000000 ∧ b.Distinct.length ≤ 1000000000000 ∧ ∀ d ∈ b.Distinct, d.length ≤ 1000000000000) : Fun1 prog 42 [rStats.ty a, rStats.ty b] (tV (.bool (decide (a.Rows = b.Rows) && decide (a.Distinct = b.Distinct)))) := by
 refine Spec.enter func42 rfl rfl fun h0 w0 fr0 => ?_
 refine Jr (Js rfl (step_box (R := rStats) Sr) (Js rfl (step_box (R := rStats) Sr) (Ja rfl (JL_nil (J_seq ?_)))))
 refine Jr (Js rfl (step_fieldAddr so60 Sr rfl) (Jl rfl ty36 Sr (Js rfl (step_fieldAddr so60 Sr rfl) (Jl rfl ty36 Sr (Js rfl (step_call0 (ints35_spec _ _ hb.1) ⟨Sr, Sr, trivial⟩ call98) ?_)))))
 refine Js rfl (step_not Sr) (Jm rfl ?_)
 refine Jk rfl Sr rfl (step_fieldAddr so60 Sr rfl) ?_
 refine Jg rfl Sr rfl (fun hw => step_load_ptr ty58 (Sub.w hw)) (Jg rfl Sr rfl (fun hw => step_len_sl underlying58 (Sub.w hw)) ?_)
 refine Jk rfl Sr rfl (step_fieldAddr so60 Sr rfl) ?_
 refine Jg rfl Sr rfl (fun hw => step_load_ptr ty58 (Sub.w hw)) (Jg rfl Sr rfl (fun hw => step_len_sl underlying58 (Sub.w hw)) (Jg rfl Sr rfl (fun hw => step_neq (Sub.w hw) (Sub.w hw)) (Js rfl (step_pick_or Sr Sr) (JL_nil ?_))))
 refine J_cond Sr (fun h20 => ?_) (fun h20 => ?_)
 ·
  try simp only [NF] at h20
  refine Jr (Ja rfl (JL_nil (J_ret ?_)))
  refine K_ret1 (t := 4) rfl () ?_
  refine Sub.bool ?_
  rcases h20 with h | h
  ·
   have : ¬ a.Rows = b.Rows := by simpa using h
   simp [this]
  have : ¬ a.Distinct = b.Distinct := fun e => by rw [e] at h; omega
  simp [this]
 try simp only [NF] at h20
 have hq : a.Rows = b.Rows ∧ a.Distinct.length = b.Distinct.length := by exact ⟨by simpa using h20.1, by have := h20.2; omega⟩
 refine J_skip (J_seq (Jr (Ja rfl (JL_nil (J_block ?_)))))
 refine J_loopL (σ := Nat) (fun i => i ≤ a.Distinct.length ∧ a.Distinct.take i = b.Distinct.take i) (fun i => upd (upd (upd env0 2 (tPtr rStats a)) 3 (tPtr rStats b)) 5 (tV (.int .i64 i))) (fun i => []) (fun i => a.Distinct.length - i) 0 ⟨Nat.zero_le _, by simp⟩ (zU) (LSub.rfl) ?_
 rintro i ⟨hi, hv⟩
 refine J_seq (Jr (Jm rfl (Js rfl (step_fieldAddr so60 Sr rfl) (Jl rfl ty58 Sr (Js rfl (step_len_sl underlying58 Sr) ?_)))))
 refine Js rfl (step_lss Sr Sr) (JL_nil ?_)
 refine J_cond Sr (fun h25 => ?_) (fun h25 => ?_)
 ·
  try simp only [NF] at h25
  have hlt : i < a.Distinct.length := by omega
  have hlb : i < b.Distinct.length := by omega
  refine J_skip (J_seq (J_block (J_seq ?_)))
  refine J_draw [⟨0, [2], true⟩, ⟨1, [28], true⟩, ⟨2, [5], true⟩, ⟨3, [29, 30], true⟩, ⟨4, [31], true⟩, ⟨5, [3], true⟩, ⟨6, [33], true⟩, ⟨7, [5], true⟩, ⟨8, [34, 35], true⟩, ⟨9, [36], true⟩, ⟨10, [32, 37], true⟩, ⟨11, [38], true⟩] rfl (by kernel_rfl) ?_
  refine Mf rfl rfl (step_fieldAddr so60 Sr rfl) (Mf rfl rfl (step_load_ptr ty58 Sr) (Mv rfl rfl ?_))
  refine Mf rfl rfl (step_indexAddr_sl (i := i) underlying58 ty36 Sr Sr (by rfl) (gb (by exact hlt))) ?_
  refine Mf rfl rfl (step_load_ptr ty36 Sr) (Mf rfl rfl (step_fieldAddr so60 Sr rfl) (Mf rfl rfl (step_load_ptr ty58 Sr) (Mv rfl rfl ?_)))
  refine Mf rfl rfl (step_indexAddr_sl (i := i) underlying58 ty36 Sr Sr (by rfl) (gb (by exact hlb))) ?_
  refine Mf rfl rfl (step_load_ptr ty36 Sr) (Mf rfl rfl (step_call0 (ints35_spec _ _ (hb.2.2 _ (nth_mem hlb))) ⟨Sr, Sr, trivial⟩ call98) (Mf rfl rfl (step_not Sr) (JM_nil ?_)))
  refine J_cond Sr (fun h39 => ?_) (fun h39 => ?_)
  ·
   try simp only [NF] at h39
   have hne : ¬ nth a.Distinct i = nth b.Distinct i := by simpa using h39
   refine Jr (Ja rfl (JL_nil (J_ret ?_)))
   refine K_ret1 (t := 4) rfl () ?_
   refine Sub.bool ?_
   have : ¬ a.Distinct = b.Distinct := fun e => hne (by rw [e])
   simp [this]
  try simp only [NF] at h39
  have heq : nth a.Distinct i = nth b.Distinct i := by simpa using h39
  refine J_skip (J_region (Jm rfl (Js rfl (step_add Sr Sr z6) (Ja rfl (JL_nil ?_)))))
  refine K_againL (σ := Nat) (s := i) (i + 1) zO ⟨by omega, by rw [takeB hlt, takeB hlb, hv, heq]⟩ (zU) (LSub.rfl)
 try simp only [NF] at h25
 obtain rfl : i = a.Distinct.length := by omega
 refine J_exit (Jr (Ja rfl (JL_nil (J_ret ?_))))
 refine K_ret1 (t := 4) rfl () ?_
 refine Sub.bool ?_
 have : a.Distinct = b.Distinct := by rw [List.take_length, hq.2, List.take_length] at hv; exact hv
 rw [decide_eq_true hq.1, decide_eq_true this]; rfl
def attrN (n : ByteArray) : GAttr := ⟨n, 2, [], zValue⟩
def numV (k : Int) : GValue := ⟨2, k, ⟨#[]⟩⟩
def eqT (c k : Int) : GTest := ⟨⟨0, c, zValue⟩, 1, ⟨-1, 0, numV k⟩, 0⟩
theorem attr35_spec (n : ByteArray) : Fun1 prog 81 [tV (.string n)] (rAttr.ty (attrN n)) := by
 refine Spec.enter func81 rfl rfl fun h0 w0 fr0 => ?_
 refine Jr ?_
 refine Jx rfl (step_alloc (fun w => zeroValue89 w) zr89) fun v2 => ?_
 refine JL_nil (Jr (Jm rfl (Js rfl (step_build (x := (attrN n : GAttr)) (zs := [[Value.string ⟨#[]⟩], [Value.int .i64 0], [Value.slice none 0 0], [Value.int .i64 0, Value.int .i64 0, Value.string ⟨#[]⟩]]) so89 (fun w => zeroValue89 w) ⟨Sr, Sr, trivial⟩ ⟨⟨Sr, rfl⟩, ⟨Sr, rfl⟩, fun _ => ⟨_, rfl, none, ⟨0, Nat.le_refl _⟩, rfl, fun q => absurd rfl q⟩, fun _ => ⟨[Value.int .i64 0], _, rfl, rfl, ⟨[Value.int .i64 0], _, rfl, rfl, ⟨[Value.string ⟨#[]⟩], _, rfl, rfl, rfl⟩⟩⟩, trivial⟩) ?_)))
 refine Ju (step_store_box ty89 Sr Sr zS) fun _ => ?_
 refine JL_nil (J_ret ?_)
 refine K_ret1' (rv := .cell 2 89) rfl () (Sel.all _) (.cell ty89 Sr zS Sr) (Frz.sub Sr)
theorem num35_spec (k : Int) : Fun1 prog 82 [tV (.int .i64 k)] (rValue.ty (numV k)) := by
 refine Spec.enter func82 rfl rfl fun h0 w0 fr0 => ?_
 refine Jr ?_
 refine Jx rfl (step_alloc (fun w => zeroValue87 w) zr87) fun v2 => ?_
 refine JL_nil (Jr (Jm rfl (Js rfl (step_build (x := (numV k : GValue)) (zs := [[Value.int .i64 0], [Value.int .i64 0], [Value.string ⟨#[]⟩]]) so87 (fun w => zeroValue87 w) ⟨Sr, Sr, trivial⟩ ⟨⟨Sr, rfl⟩, ⟨Sr, rfl⟩, fun _ => rfl, trivial⟩) ?_)))
 refine Ju (step_store_box ty87 Sr Sr zS) fun _ => ?_
 refine JL_nil (J_ret ?_)
 refine K_ret1' (rv := .cell 2 87) rfl () (Sel.all _) (.cell ty87 Sr zS Sr) (Frz.sub Sr)
theorem equals35_spec (c k : Int) : Fun1 prog 80 [tV (.int .i64 c), tV (.int .i64 k)] (rTest.ty (eqT c k)) := by
 refine Spec.enter func80 rfl rfl fun h0 w0 fr0 => ?_
 refine Jr ?_
 refine Jx rfl (step_alloc (fun w => zeroValue93 w) zr93) fun v4 => ?_
 refine JL_nil (Jr (Jm rfl (Js rfl (step_build (x := (⟨0, c, zValue⟩ : GSide)) (zs := [[Value.int .i64 0], [Value.int .i64 0], [Value.int .i64 0, Value.int .i64 0, Value.string ⟨#[]⟩]]) so91 (fun w => zeroValue91 w) ⟨Sr, trivial⟩ ⟨fun _ => rfl, ⟨Sr, rfl⟩, fun _ => ⟨[Value.int .i64 0], _, rfl, rfl, ⟨[Value.int .i64 0], _, rfl, rfl, ⟨[Value.string ⟨#[]⟩], _, rfl, rfl, rfl⟩⟩⟩, trivial⟩) (Jm rfl (Js rfl (step_build (x := (numV k : GValue)) (zs := [[Value.int .i64 0], [Value.int .i64 0], [Value.string ⟨#[]⟩]]) so87 (fun w => zeroValue87 w) ⟨Sr, Sr, trivial⟩ ⟨⟨Sr, rfl⟩, ⟨Sr, rfl⟩, fun _ => rfl, trivial⟩) ?_)))))
 refine Js rfl (step_build (x := (⟨-1, 0, numV k⟩ : GSide)) (zs := [[Value.int .i64 0], [Value.int .i64 0], [Value.int .i64 0, Value.int .i64 0, Value.string ⟨#[]⟩]]) so91 (fun w => zeroValue91 w) ⟨Sr, Sr, trivial⟩ ⟨⟨Sr, rfl⟩, fun _ => rfl, ⟨Sr, rfl⟩, trivial⟩) (Js rfl (step_build (x := (eqT c k : GTest)) (zs := [[Value.int .i64 0, Value.int .i64 0, Value.int .i64 0, Value.int .i64 0, Value.string ⟨#[]⟩], [Value.int .i64 0], [Value.int .i64 0, Value.int .i64 0, Value.int .i64 0, Value.int .i64 0, Value.string ⟨#[]⟩], [Value.int .i64 0]]) so93 (fun w => zeroValue93 w) ⟨Sr, Sr, Sr, trivial⟩ ⟨⟨Sr, rfl⟩, ⟨Sr, rfl⟩, ⟨Sr, rfl⟩, fun _ => rfl, trivial⟩) ?_)
 refine Ju (step_store_box ty93 Sr Sr zS) fun _ => ?_
 refine JL_nil (J_ret ?_)
 refine K_ret1' (rv := .cell 4 93) rfl () (Sel.all _) (.cell ty93 Sr zS Sr) (Frz.sub Sr)
open Go Go.Proofs Go.Proofs.Tryz
theorem ex_bound {P : Nat → Nat → Prop} (hm : ∀ i n n', n ≤ n' → P i n → P i n') : ∀ m, (∀ i, i < m → ∃ n, P i n) → ∃ n, ∀ i, i < m → P i n
  | 0, _ => ⟨0, fun i hi => absurd hi (Nat.not_lt_zero _)⟩
  | m + 1, h => by
    obtain ⟨n1, h1⟩ := ex_bound hm m fun i hi => h i (Nat.lt_succ_of_lt hi)
    obtain ⟨n2, h2⟩ := h m (Nat.lt_succ_self m)
    refine ⟨max n1 n2, fun i hi => ?_⟩
    rcases Nat.lt_succ_iff_lt_or_eq.1 hi with h3 | rfl
    · exact hm _ _ _ (Nat.le_max_left _ _) (h1 i h3)
    · exact hm _ _ _ (Nat.le_max_right _ _) h2
def rPlanE : Rp GPlan where
  k := 8
  agg := true
  rel := fun h p cs => ∃ n, (rPlan n).rel h p cs
  ty := fun p => ⟨fun h v => ∃ n, ((rPlan n).ty p).p h v, fun l ⟨n, r⟩ => ⟨n, ((rPlan n).ty _).mono l r⟩⟩
  len := fun {h x cs} ⟨n, r⟩ => by rw [(rPlan n).len r, kplan]
  one := fun ⟨n, r⟩ => (rPlan n).one r
  mono := fun l ⟨n, r⟩ => ⟨n, (rPlan n).mono l r⟩
  scalar := fun e => by cases e
  iff := by
    intro h x v
    constructor
    · rintro ⟨n, r⟩
      obtain ⟨cs, r, e⟩ := (rPlan n).iff.1 r
      exact ⟨cs, ⟨n, r⟩, by rw [e, show (rPlan n).agg = true from rPl_agg cPl rAttr rTest n]⟩
    · rintro ⟨cs, ⟨n, r⟩, e⟩
      exact ⟨n, (rPlan n).iff.2 ⟨cs, r, by rw [e, show (rPlan n).agg = true from rPl_agg cPl rAttr rTest n]⟩⟩
abbrev fsPlE : List (SF GPlan) := fsPl cPl rAttr rTest rPlanE
abbrev rPlS : Rp GPlan := rStruct fsPlE
theorem slE_of {n : Nat} {h : PH} {xs : List GPlan} {v : Value} (hv : (tSl (rPlan n) xs).p h v) : (tSl rPlanE xs).p h v := tSl_up (R := rPlan n) (R' := rPlanE) (kplan (n := n)) (fun r => ⟨n, r⟩) hv
theorem slE_ex {h : PH} {xs : List GPlan} {v : Value} (hv : (tSl rPlanE xs).p h v) : ∃ n, (tSl (rPlan n) xs).p h v := by
  obtain ⟨ao, cap, e, H⟩ := hv
  by_cases hx : xs = []
  · exact ⟨0, ao, cap, e, fun q => absurd hx q⟩
  · obtain ⟨b, off, ea, H2⟩ := H hx
    obtain ⟨n, hn⟩ := ex_bound (P := fun i n => ∀ x, xs[i]? = some x → ∃ cs, Holds h b (off + i * 8) cs ∧ (rPlan n).rel h x cs) (fun i n n' hle hp x hx => by
      obtain ⟨cs, H, r⟩ := hp x hx
      exact ⟨cs, H, rPl_le cPl rAttr rTest hle r⟩) xs.length (fun i hi => by
      obtain ⟨cs, H, n, r⟩ := H2 i _ (List.getElem?_eq_getElem hi)
      refine ⟨n, fun x hx => ?_⟩
      rw [List.getElem?_eq_getElem hi] at hx
      cases hx
      exact ⟨cs, H, r⟩)
    refine ⟨n, ao, cap, e, fun _ => ⟨b, off, ea, fun i x hx => ?_⟩⟩
    rw [kplan]
    exact hn i (List.getElem?_eq_some_iff.1 hx).1 x hx
theorem planE_out {h : PH} {p : GPlan} {cs : List Value} (r : rPlanE.rel h p cs) : rPlS.rel h p cs := by
  obtain ⟨n, r⟩ := r
  obtain ⟨m, rfl⟩ := rPl_pos cPl rAttr rTest r
  obtain ⟨c0, _, rfl, r0, c1, _, rfl, r1, c2, _, rfl, ⟨v, e, r2⟩, rest⟩ := (show SF.rel h p (fsPl cPl rAttr rTest (rPlan m)) cs from r)
  exact ⟨c0, _, rfl, r0, c1, _, rfl, r1, c2, _, rfl, ⟨v, e, slE_of r2⟩, rest⟩
theorem planE_in {h : PH} {p : GPlan} {cs : List Value} (r : rPlS.rel h p cs) : rPlanE.rel h p cs := by
  obtain ⟨c0, _, rfl, r0, c1, _, rfl, r1, c2, _, rfl, ⟨v, e, r2⟩, rest⟩ := (show SF.rel h p fsPlE cs from r)
  obtain ⟨m, r2⟩ := slE_ex r2
  exact ⟨m + 1, c0, _, rfl, r0, c1, _, rfl, r1, c2, _, rfl, ⟨v, e, r2⟩, rest⟩
theorem Sub.ps {p : GPlan} : Sub (rPlanE.ty p) (rPlS.ty p) := fun h v hv => by
  obtain ⟨cs, r, e⟩ := rPlanE.iff.1 hv
  exact ⟨cs, planE_out r, e⟩
theorem Sub.pe {p : GPlan} : Sub (rPlS.ty p) (rPlanE.ty p) := fun h v ⟨cs, r, e⟩ => rPlanE.iff.2 ⟨cs, planE_in r, e⟩
theorem Sub.pn {n : Nat} {p : GPlan} : Sub ((rPlan n).ty p) (rPlS.ty p) := fun h v hv => Sub.ps h v ⟨n, hv⟩
theorem Sub.pps {p : GPlan} : Sub (tPtr rPlanE p) (tPtr rPlS p) := fun h v ⟨b, off, cs, e, H, r⟩ => ⟨b, off, cs, e, H, planE_out r⟩
theorem plS_ex {h : PH} {p : GPlan} {v : Value} (hv : (rPlS.ty p).p h v) : ∃ n, ((rPlan n).ty p).p h v := Sub.pe h v hv
theorem ty42E : TyOf Tryz.prog 42 (rSl rPlanE) := ⟨fun w => Tryz.isAgg42 w, fun w => Tryz.sizeOf42 w⟩
theorem ty46E : TyOf Tryz.prog 46 rPlS := ⟨fun w => Tryz.isAgg46 w, fun w => Tryz.sizeOf46 w⟩
theorem ty46P : TyOf Tryz.prog 46 rPlanE := ⟨fun w => Tryz.isAgg46 w, fun w => Tryz.sizeOf46 w⟩
theorem so46E : StructOf Tryz.prog 46 fsPlE := ⟨⟨_, Tryz.underlying46, ⟨rfl, rfl, ty3, by decide, ⟨rfl, rfl, ty3, by decide, ⟨rfl, rfl, ty42E, (by show (1 : Nat) ≠ 0; decide), ⟨rfl, rfl, ty43, by decide, ⟨rfl, rfl, ty36, by decide, ⟨rfl, rfl, ty3, by decide, ⟨rfl, rfl, ty3, by decide, ⟨rfl, rfl, ty44, by decide, trivial⟩⟩⟩⟩⟩⟩⟩⟩⟩, ty46E⟩
theorem zr46E : ∀ h, (rPlS.ty GPl.zero).p h (.agg #[Value.int .i64 0, Value.int .i64 0, Value.slice none 0 0, Value.slice none 0 0, Value.slice none 0 0, Value.int .i64 0, Value.int .i64 0, Value.slice none 0 0]) := fun h => Sub.pn (n := 1) h _ (zr46 h)
/-! ### Nodes -/
def fsnodeE : List (SF Gnode) := [⟨GPlan, 46, rPlS, Gnode.Plan⟩, ⟨Gsize, 150, rsize, Gnode.size⟩]
abbrev rnodeE : Rp Gnode := rStruct fsnodeE
theorem ty152E : TyOf Tryz.prog 152 rnodeE := ⟨fun w => Tryz.isAgg152 w, fun w => Tryz.sizeOf152 w⟩
theorem so152E : StructOf Tryz.prog 152 fsnodeE := ⟨⟨_, Tryz.underlying152, ⟨rfl, rfl, ty46E, by decide, ⟨rfl, rfl, ty150, by decide, trivial⟩⟩⟩, ty152E⟩
theorem nodeE_of {n : Nat} {h : PH} {k : Gnode} {cs : List Value} (r : (rnode n).rel h k cs) : rnodeE.rel h k cs := by
  obtain ⟨c0, _, rfl, r0, rest⟩ := r
  exact ⟨c0, _, rfl, planE_out ⟨n, r0⟩, rest⟩
theorem nodeE_ex {h : PH} {k : Gnode} {cs : List Value} (r : rnodeE.rel h k cs) : ∃ n, (rnode n).rel h k cs := by
  obtain ⟨c0, _, rfl, r0, rest⟩ := r
  obtain ⟨n, r0⟩ := planE_in r0
  exact ⟨n, c0, _, rfl, r0, rest⟩
theorem node_le {m n : Nat} (hmn : m ≤ n) {h : PH} {k : Gnode} {cs : List Value} (r : (rnode m).rel h k cs) : (rnode n).rel h k cs := by
  obtain ⟨c0, _, rfl, r0, rest⟩ := r
  exact ⟨c0, _, rfl, rPl_le cPl rAttr rTest hmn r0, rest⟩
theorem Sub.ne {n : Nat} {k : Gnode} : Sub ((rnode n).ty k) (rnodeE.ty k) := fun h v ⟨cs, r, e⟩ => ⟨cs, nodeE_of r, e⟩
theorem nslE_ex {h : PH} {xs : List Gnode} {v : Value} (hv : (tSl rnodeE xs).p h v) : ∃ n, (tSl (rnode n) xs).p h v := by
  obtain ⟨ao, cap, e, H⟩ := hv
  by_cases hx : xs = []
  · exact ⟨0, ao, cap, e, fun q => absurd hx q⟩
  · obtain ⟨b, off, ea, H2⟩ := H hx
    obtain ⟨n, hn⟩ := ex_bound (P := fun i n => ∀ x, xs[i]? = some x → ∃ cs, Holds h b (off + i * 11) cs ∧ (rnode n).rel h x cs) (fun i n n' hle hp x hx => by
      obtain ⟨cs, H, r⟩ := hp x hx
      exact ⟨cs, H, node_le hle r⟩) xs.length (fun i hi => by
      obtain ⟨cs, H, r⟩ := H2 i _ (List.getElem?_eq_getElem hi)
      obtain ⟨n, r⟩ := nodeE_ex r
      refine ⟨n, fun x hx => ?_⟩
      rw [List.getElem?_eq_getElem hi] at hx
      cases hx
      exact ⟨cs, H, r⟩)
    refine ⟨n, ao, cap, e, fun _ => ⟨b, off, ea, fun i x hx => ?_⟩⟩
    rw [knode]
    exact hn i (List.getElem?_eq_some_iff.1 hx).1 x hx
theorem ty197E : TyOf Tryz.prog 197 (rSl rnodeE) := ⟨fun w => Tryz.isAgg197 w, fun w => Tryz.sizeOf197 w⟩
theorem zr152E : ∀ h, (rnodeE.ty ⟨GPl.zero, zsize⟩).p h (.agg #[Value.int .i64 0, Value.int .i64 0, Value.slice none 0 0, Value.slice none 0 0, Value.slice none 0 0, Value.int .i64 0, Value.int .i64 0, Value.slice none 0 0, Value.int .i64 0, Value.int .i64 0, Value.slice none 0 0]) := fun h => Sub.ne h _ (zr152 (n := 0) h)
theorem el152E : ElT Tryz.prog 152 rnodeE 168 ⟨GPl.zero, zsize⟩ := ⟨ty152E, by decide, Tryz.t152, (.agg #[Value.int .i64 0, Value.int .i64 0, Value.slice none 0 0, Value.slice none 0 0, Value.slice none 0 0, Value.int .i64 0, Value.int .i64 0, Value.slice none 0 0, Value.int .i64 0, Value.int .i64 0, Value.slice none 0 0]), by kernel_rfl, by kernel_rfl, by kernel_rfl, by kernel_rfl, zr152E⟩
theorem el46E : ElT Tryz.prog 46 rPlS 128 GPl.zero := ⟨ty46E, by decide, Tryz.t46, (.agg #[Value.int .i64 0, Value.int .i64 0, Value.slice none 0 0, Value.slice none 0 0, Value.slice none 0 0, Value.int .i64 0, Value.int .i64 0, Value.slice none 0 0]), by kernel_rfl, by kernel_rfl, by kernel_rfl, by kernel_rfl, zr46E⟩
open Go Go.Proofs Go.Proofs.Tryz
/-! ### Depth, and the estimate of a whole query -/
def depP : GPlan → Nat
  | .mk _ _ kids _ _ _ _ _ => (kids.attach.map fun k => depP k.1).foldr max 0 + 1
termination_by p => sizeOf p
decreasing_by
  have := List.sizeOf_lt_of_mem k.2
  simp only [GPl.mk.sizeOf_spec]; omega
theorem dep_mono : ∀ {n m : Nat} {p : GPlan}, n ≤ m → Dep n p → Dep m p
  | 0, _, _, _, h => h.elim
  | n + 1, 0, _, hle, _ => absurd hle (by omega)
  | n + 1, m + 1, p, hle, h => fun q hq => dep_mono (by omega) (h q hq)
theorem le_foldmax {l : List Nat} {a : Nat} (h : a ∈ l) : a ≤ l.foldr max 0 := by
  induction l with
  | nil => cases h
  | cons b l ih =>
    simp only [List.foldr_cons]
    rcases List.mem_cons.1 h with rfl | h
    · exact Nat.le_max_left _ _
    · exact Nat.le_trans (ih h) (Nat.le_max_right _ _)
theorem foldmax_le {l : List Nat} {b : Nat} (h : ∀ a ∈ l, a ≤ b) : l.foldr max 0 ≤ b := by
  induction l with
  | nil => exact Nat.zero_le _
  | cons c l ih =>
    simp only [List.foldr_cons]
    exact Nat.max_le.2 ⟨h c List.mem_cons_self, ih fun a ha => h a (List.mem_cons_of_mem _ ha)⟩
theorem dep_self : ∀ (n : Nat) (p : GPlan), sizeOf p ≤ n → Dep (depP p) p
  | 0, .mk _ _ _ _ _ _ _ _, h => by simp only [GPl.mk.sizeOf_spec] at h; omega
  | n + 1, .mk a b kids c d e f g, h => by
    rw [depP]
    intro q hq
    have hq : q ∈ kids := hq
    have h1 := List.sizeOf_lt_of_mem hq
    simp only [GPl.mk.sizeOf_spec] at h
    refine dep_mono (le_foldmax ?_) (dep_self n q (by omega))
    exact List.mem_map.2 ⟨⟨q, hq⟩, List.mem_attach _ _, rfl⟩
theorem dep_dep (p : GPlan) : Dep (depP p) p := dep_self _ p (Nat.le_refl _)
theorem whole_dep (x : Gplanner) : ∀ {n m : Nat} {p : GPlan}, Dep n p → Dep m p → wholeM x n p = wholeM x m p
  | 0, _, _, h, _ => h.elim
  | n + 1, 0, _, _, h => h.elim
  | n + 1, m + 1, p, h1, h2 => by
    show makeM x p (p.Kids.map (wholeM x n)) = makeM x p (p.Kids.map (wholeM x m))
    rw [List.map_congr_left fun q hq => whole_dep x (h1 q hq) (h2 q hq)]
def wholeE (x : Gplanner) (p : GPlan) : Gnode := wholeM x (depP p) p
theorem wholeE_of {x : Gplanner} {n : Nat} {p : GPlan} (h : Dep n p) : wholeM x n p = wholeE x p := whole_dep x h (dep_dep p)
theorem wholeE_eq (x : Gplanner) (p : GPlan) : wholeE x p = makeM x p (p.Kids.map (wholeE x)) := by
  have hd := dep_dep p
  unfold wholeE
  revert hd
  generalize depP p = n
  intro hd
  cases n with
  | zero => exact hd.elim
  | succ n =>
    show makeM x p (p.Kids.map (wholeM x n)) = _
    rw [List.map_congr_left fun q hq => wholeE_of (x := x) (hd q hq)]
    rfl
def EOkE (x : Gplanner) (p : GPlan) : Prop := EOk x (depP p) p
theorem eok_dep (x : Gplanner) : ∀ {n m : Nat} {p : GPlan}, Dep n p → Dep m p → EOk x n p → EOk x m p
  | 0, _, _, h, _, _ => h.elim
  | n + 1, 0, _, _, h, _ => h.elim
  | n + 1, m + 1, p, h1, h2, ⟨e1, e2⟩ => by
    refine ⟨?_, fun q hq => eok_dep x (h1 q hq) (h2 q hq) (e2 q hq)⟩
    rw [← List.map_congr_left fun q hq => whole_dep x (h1 q hq) (h2 q hq)]; exact e1
theorem eokE_iff {x : Gplanner} {p : GPlan} : EOkE x p ↔ MkOk x p (p.Kids.map (wholeE x)) ∧ ∀ q ∈ p.Kids, EOkE x q := by
  have hd := dep_dep p
  unfold EOkE
  revert hd
  generalize depP p = n
  intro hd
  cases n with
  | zero => exact hd.elim
  | succ n =>
    have he : p.Kids.map (wholeM x n) = p.Kids.map (wholeE x) := List.map_congr_left fun q hq => wholeE_of (hd q hq)
    constructor
    · rintro ⟨e1, e2⟩
      exact ⟨by rw [← he]; exact e1, fun q hq => eok_dep x (hd q hq) (dep_dep q) (e2 q hq)⟩
    · rintro ⟨e1, e2⟩
      exact ⟨by rw [he]; exact e1, fun q hq => eok_dep x (dep_dep q) (hd q hq) (e2 q hq)⟩
/-! ### A node that is its own estimate -/
structure NGd (x : Gplanner) (k : Gnode) : Prop where
  nd : NdOk k
  w : wholeE x k.Plan = k
  e : EOkE x k.Plan
theorem mkok_plan {x : Gplanner} {p q : GPlan} {ks : List Gnode} (h : MkOk x p ks) (hk : q.Kind = p.Kind) (ht : q.Table = p.Table) (hs : q.Tests = p.Tests) (hc : q.Cols = p.Cols) : MkOk x q ks :=
  ⟨h.k0, h.n, by rw [hs]; exact h.t, by rw [hc]; exact h.c, by rw [hk, ht]; exact h.k1, by rw [hk]; exact h.k2, by rw [hk, hs]; exact h.k3, by rw [hk, hc]; exact h.k4, by rw [hk]; exact h.k5, by rw [hk]; exact h.k6⟩
theorem make_plan (x : Gplanner) (p : GPlan) (ks : List Gnode) : makeM x (makeM x p ks).Plan ks = makeM x p ks := rfl
theorem gd_make {x : Gplanner} {p : GPlan} {ks : List Gnode} (hm : MkOk x p ks) (hk : ∀ k ∈ ks, NGd x k) (hn : NdOk (makeM x p ks)) : NGd x (makeM x p ks) := by
  have he : (makeM x p ks).Plan.Kids.map (wholeE x) = ks := by
    show (ks.map Gnode.Plan).map (wholeE x) = ks
    rw [List.map_map]
    conv => rhs; rw [← List.map_id ks]
    exact List.map_congr_left fun k hk' => (hk k hk').w
  refine ⟨hn, ?_, ?_⟩
  · rw [wholeE_eq, he]; exact make_plan x p ks
  · rw [eokE_iff, he]
    refine ⟨mkok_plan hm rfl rfl rfl rfl, fun q hq => ?_⟩
    obtain ⟨k, hk', rfl⟩ := List.mem_map.1 (show q ∈ ks.map Gnode.Plan from hq)
    exact (hk k hk').e
/-! ### Moving tests -/
def moveS (pl : Int → Int) (s : GSide) : GSide := if s.Var = 0 then { s with Col := pl s.Col } else s
def okS (pl : Int → Int) (s : GSide) : Bool := !decide (s.Var = 0) || decide (0 ≤ pl s.Col)
def moveT (pl : Int → Int) (t : GTest) : GTest := { t with Left := moveS pl t.Left, Right := moveS pl t.Right }
def okT (pl : Int → Int) (t : GTest) : Bool := okS pl t.Left && okS pl t.Right
def divIn (pl : Int → Int) (l : List GTest) : List GTest := (l.filter (okT pl)).map (moveT pl)
def divOut (pl : Int → Int) (l : List GTest) : List GTest := l.filter fun t => !okT pl t
def aboveM (x : Gplanner) (n : Gnode) (ts : List GTest) : Gnode := if ts.length = 0 then n else makeM x (GPl.mk 2 0 [] ts [] 0 0 n.Plan.Attrs) [n]
def joinedM (x : Gplanner) (a b : Gnode) : Gnode := makeM x (GPl.mk 4 0 [] [] [] 0 0 (joinL a.Plan.Attrs b.Plan.Attrs)) [a, b]
def cheapI (f : Gnode → Int) (l : List Gnode) (n : Nat) : Nat := (List.range n).foldl (fun a i => if f (nth l i) < f (nth l a) then i else a) 0
def cheapM (f : Gnode → Int) (l : List Gnode) : Gnode × List Gnode := (nth l (cheapI f l l.length), l.eraseIdx (cheapI f l l.length))
def chainM (x : Gplanner) : Nat → Gnode → List Gnode → Gnode
  | 0, out, _ => out
  | n + 1, out, rest => if rest.length = 0 then out else chainM x n (joinedM x out (cheapM (fun k => (joinedM x out k).size.rows) rest).1) (cheapM (fun k => (joinedM x out k).size.rows) rest).2
def inputsM : Nat → GPlan → List GPlan
  | 0, _ => []
  | n + 1, p => p.Kids.flatMap fun k => if k.Kind = 4 then inputsM n k else [k]
def plcJ (p q : GPlan) (c : Int) : Int := columnL q.Attrs (nth p.Attrs c.toNat).Name
def joinSt (push : GPlan → List GTest → Gnode) (p : GPlan) (st : List Gnode × List GTest) (q : GPlan) : List Gnode × List GTest := (st.1 ++ [push q (divIn (plcJ p q) st.2)], divOut (plcJ p q) st.2)
def joinFold (push : GPlan → List GTest → Gnode) (p : GPlan) (qs : List GPlan) (ts : List GTest) : List Gnode × List GTest := qs.foldl (joinSt push p) ([], ts)
def colsOf (p : GPlan) (out : Gnode) : List Int := p.Attrs.map fun a => columnL out.Plan.Attrs a.Name
def sortedB (l : List Int) : Bool := (List.range (l.length - 1)).all fun i => !decide (nth l (i + 1) < nth l i)
def orderM (x : Gplanner) (p : GPlan) (out : Gnode) : Gnode := if sortedB (colsOf p out) = true then out else makeM x (GPl.mk 3 0 [] [] (colsOf p out) 0 0 (pickL out.Plan.Attrs (colsOf p out))) [out]
def joinEnd (x : Gplanner) (p : GPlan) (st : List Gnode × List GTest) : Gnode :=
  if st.1.length = 2 then aboveM x (joinedM x (nth st.1 0) (nth st.1 1)) st.2
  else aboveM x (orderM x p (chainM x st.1.length (cheapM (fun k => k.size.rows) st.1).1 (cheapM (fun k => k.size.rows) st.1).2)) st.2
def plcP (p : GPlan) (c : Int) : Int := nth p.Cols c.toNat
def plcG (p : GPlan) (c : Int) : Int := if c < p.Cols.length then nth p.Cols c.toNat else -1
def projM (x : Gplanner) (p : GPlan) (kid : Gnode) : Gnode :=
  if kid.Plan.Kind = 3 then makeM x (GPl.mk 3 0 [] [] (p.Cols.map fun c => nth kid.Plan.Cols c.toNat) 0 0 (pickL kid.Plan.Attrs p.Cols)) [wholeE x (nth kid.Plan.Kids 0)]
  else makeM x (GPl.mk 3 0 [] [] p.Cols 0 0 (pickL kid.Plan.Attrs p.Cols)) [kid]
def grpM (x : Gplanner) (p : GPlan) (kid : Gnode) : Gnode := makeM x (GPl.mk 8 0 [] [] p.Cols p.Col p.Agg (pickL kid.Plan.Attrs p.Cols ++ [nth p.Attrs p.Cols.length])) [kid]
def renM (x : Gplanner) (p : GPlan) (kid : Gnode) : Gnode := makeM x (GPl.mk 7 0 [] [] [] p.Col 0 (kid.Plan.Attrs.set p.Col.toNat { nth kid.Plan.Attrs p.Col.toNat with Name := (nth p.Attrs p.Col.toNat).Name })) [kid]
def pushM (x : Gplanner) : Nat → GPlan → List GTest → Gnode
  | 0, _, _ => ⟨GPl.zero, zsize⟩
  | n + 1, p, ts =>
    if p.Kind = 1 then aboveM x (makeM x (GPl.mk 1 p.Table [] [] [] 0 0 p.Attrs) []) ts
    else if p.Kind = 2 then pushM x n (nth p.Kids 0) (p.Tests ++ ts)
    else if p.Kind = 4 then joinEnd x p (joinFold (pushM x n) p (inputsM (n + 1) p) ts)
    else if p.Kind = 3 then projM x p (pushM x n (nth p.Kids 0) (divIn (plcP p) ts))
    else if p.Kind = 8 then aboveM x (grpM x p (pushM x n (nth p.Kids 0) (divIn (plcG p) ts))) (divOut (plcG p) ts)
    else if p.Kind = 7 then renM x p (pushM x n (nth p.Kids 0) ts)
    else makeM x (GPl.mk p.Kind 0 [] [] [] 0 0 (pushM x n (nth p.Kids 0) ts).Plan.Attrs) [pushM x n (nth p.Kids 0) ts, pushM x n (nth p.Kids 1) ts]
def impM (s : GSchema) (n : Nat) (p : GPlan) (st : GStats) : GPlan :=
  if prightM s p st = true then (if vldM s (pushM ⟨s, st⟩ n p []).Plan = false ∨ (wholeM ⟨s, st⟩ n p).size.cost < (pushM ⟨s, st⟩ n p []).size.cost then p else (pushM ⟨s, st⟩ n p []).Plan) else GPl.zero
open Go Go.Proofs Go.Proofs.Tryz
/-! ### Names -/
def nmL (l : List GAttr) : List ByteArray := l.map GAttr.Name
theorem nm_len (l : List GAttr) : (nmL l).length = l.length := by simp [nmL]
theorem nm_len_eq {a b : List GAttr} (h : nmL a = nmL b) : a.length = b.length := by rw [← nm_len a, ← nm_len b, h]
theorem nm_nth {l : List GAttr} {i : Nat} (h : i < l.length) : nth (nmL l) i = (nth l i).Name := by
  rw [nth_get (by rw [nm_len]; exact h), nth_get h]; simp [nmL]
theorem findI_map {α β : Type} (f : α → β) (p : β → Bool) : ∀ (l : List α) (i : Int), findI p i (l.map f) = findI (fun a => p (f a)) i l
  | [], _ => rfl
  | a :: l, i => by simp only [List.map_cons, findI, findI_map f p l]
theorem col_nm (l : List GAttr) (n : ByteArray) : columnL l n = findI (fun m => decide (m = n)) 0 (nmL l) := (findI_map GAttr.Name (fun m => decide (m = n)) l 0).symm
theorem col_nn {l : List GAttr} {n : ByteArray} : 0 ≤ columnL l n ↔ n ∈ nmL l := by
  rw [col_nm]
  have := (findI_bd (fun m : ByteArray => decide (m = n)) (nmL l) 0 (Int.le_refl _)).2.2
  rw [this]; simp
theorem findI_or {α : Type} (p : α → Bool) : ∀ (l : List α) (s : Int), findI p s l = -1 ∨ s ≤ findI p s l
  | [], _ => .inl rfl
  | a :: l, s => by
    unfold findI
    split
    · exact .inr (Int.le_refl _)
    · rcases findI_or p l (s + 1) with h | h
      · exact .inl h
      · exact .inr (by omega)
theorem findI_hit {α : Type} [Inhabited α] {p : α → Bool} : ∀ {l : List α} {s : Int}, 0 ≤ s → 0 ≤ findI p s l → p (nth l (findI p s l - s).toNat) = true
  | [], s, hs, h => by simp [findI] at h
  | a :: l, s, hs, h => by
    unfold findI at h ⊢
    by_cases hp : p a = true
    · rw [if_pos hp]
      simp [hp]
    · rw [if_neg hp] at h ⊢
      have h1 := findI_hit (p := p) (l := l) (s := s + 1) (by omega) h
      have h3 : s + 1 ≤ findI p (s + 1) l := by rcases findI_or p l (s + 1) with h2 | h2 <;> omega
      obtain ⟨j, hj⟩ : ∃ j : Nat, findI p (s + 1) l - (s + 1) = j := ⟨(findI p (s + 1) l - (s + 1)).toNat, by omega⟩
      rw [show (findI p (s + 1) l - (s + 1)).toNat = j by omega] at h1
      rw [show (findI p (s + 1) l - s).toNat = j + 1 by omega]
      exact h1
theorem col_nth {l : List GAttr} {n : ByteArray} (h : 0 ≤ columnL l n) : nth (nmL l) (columnL l n).toNat = n := by
  rw [col_nm] at h ⊢
  have := findI_hit (p := fun m : ByteArray => decide (m = n)) (l := nmL l) (s := 0) (Int.le_refl _) h
  simpa using this
theorem col_nthA {l : List GAttr} {n : ByteArray} (h : 0 ≤ columnL l n) : (nth l (columnL l n).toNat).Name = n := by
  have h1 := col_lt l n
  rw [← nm_nth (by omega)]; exact col_nth h
def inNm (a : List GAttr) (n : ByteArray) : Bool := (nmL a).any fun m => decide (m = n)
theorem inNm_iff {a : List GAttr} {n : ByteArray} : inNm a n = true ↔ n ∈ nmL a := by unfold inNm; simp
theorem nm_joinL (a b : List GAttr) : nmL (joinL a b) = nmL a ++ (nmL b).filter fun n => !inNm a n := by
  unfold joinL
  show List.map GAttr.Name (a ++ _) = _
  rw [List.map_append]
  show nmL a ++ _ = nmL a ++ _
  congr 1
  unfold nmL
  rw [List.filter_map]
  congr 1
  refine List.filter_congr fun x _ => ?_
  have := col_nn (l := a) (n := x.Name)
  rw [← inNm_iff] at this
  simp only [Function.comp]
  rw [Bool.eq_iff_iff]
  simp only [decide_eq_true_eq, Bool.not_eq_true']
  rw [Bool.eq_false_iff, ne_eq, ← this]; omega
theorem nm_join_congr {a a' b b' : List GAttr} (h1 : nmL a = nmL a') (h2 : nmL b = nmL b') : nmL (joinL a b) = nmL (joinL a' b') := by
  rw [nm_joinL, nm_joinL, h1, h2]
  have : inNm a = inNm a' := by funext n; unfold inNm; rw [h1]
  rw [this]
theorem mem_joinL {a b : List GAttr} {n : ByteArray} : n ∈ nmL (joinL a b) ↔ n ∈ nmL a ∨ n ∈ nmL b := by
  rw [nm_joinL, List.mem_append, List.mem_filter]
  constructor
  · rintro (h | h)
    · exact .inl h
    · exact .inr h.1
  · rintro (h | h)
    · exact .inl h
    · by_cases h2 : n ∈ nmL a
      · exact .inl h2
      · refine .inr ⟨h, ?_⟩
        rw [Bool.not_eq_true', Bool.eq_false_iff]
        exact fun e => h2 (inNm_iff.1 e)
theorem nodup_joinL {a b : List GAttr} (ha : (nmL a).Nodup) (hb : (nmL b).Nodup) : (nmL (joinL a b)).Nodup := by
  rw [nm_joinL]
  refine List.nodup_append.2 ⟨ha, hb.filter _, fun x hx y hy e => ?_⟩
  subst e
  rw [List.mem_filter, Bool.not_eq_true', Bool.eq_false_iff] at hy
  exact hy.2 (inNm_iff.2 hx)
theorem nm_pickL (l : List GAttr) (cols : List Int) : nmL (pickL l cols) = cols.map fun c => (nth l c.toNat).Name := by unfold nmL pickL; rw [List.map_map]; rfl
theorem nm_pick_congr {a b : List GAttr} (h : nmL a = nmL b) {cols : List Int} (hc : ∀ c ∈ cols, 0 ≤ c ∧ c < b.length) : nmL (pickL a cols) = nmL (pickL b cols) := by
  rw [nm_pickL, nm_pickL]
  refine List.map_congr_left fun c hc' => ?_
  have h1 := hc c hc'
  have h2 := nm_len_eq h
  rw [← nm_nth (by omega), ← nm_nth (l := b) (by omega), h]
theorem alike_nm {a b : List GAttr} (h : alikeM a b = true) : nmL a = nmL b := by
  have hl := alike_len h
  unfold alikeM eqL at h
  simp only [Bool.and_eq_true, decide_eq_true_eq, List.all_eq_true, List.mem_range] at h
  refine list_extA (by rw [nm_len, nm_len, hl]) fun i hi => ?_
  rw [nm_len] at hi
  rw [nm_nth hi, nm_nth (by omega)]
  have := h.2 i hi
  unfold alikeA at this
  simp only [Bool.and_eq_true, decide_eq_true_eq] at this
  exact this.1
/-! ### Valid queries: names -/
section
variable {s : GSchema} {l : Nat} {p : GPlan}
theorem val_nm (h : validM s l p = true) : (colsM s p).2 = true ∧ nmL (colsM s p).1 = nmL p.Attrs ∧ (nmL p.Attrs).Nodup := by
  cases l with
  | zero => simp [validM] at h
  | succ l =>
    simp only [validM, Bool.and_eq_true, decide_eq_true_eq, List.all_eq_true, List.mem_range] at h
    refine ⟨h.2.1, alike_nm h.2.2, ?_⟩
    have hn : ∀ i, i < p.Attrs.length → columnL p.Attrs (nth p.Attrs i).Name = i := fun i hi => by
      have := h.1.2 i hi
      unfold namesOk at this
      simpa using this
    rw [List.nodup_iff_pairwise_ne, List.pairwise_iff_getElem]
    intro i j hi hj hij e
    rw [nm_len] at hi hj
    have e1 : (nth p.Attrs i).Name = (nth p.Attrs j).Name := by
      rw [← nm_nth hi, ← nm_nth hj, nth_get (by rw [nm_len]; exact hi), nth_get (by rw [nm_len]; exact hj)]; exact e
    have h1 := hn i hi
    have h2 := hn j hj
    rw [e1] at h1
    omega
theorem vn2 (h : validM s l p = true) (hk : p.Kind = 2) : nmL p.Attrs = nmL (nth p.Kids 0).Attrs := by
  obtain ⟨_, h2, _⟩ := val_nm h
  rw [← h2]; simp [colsM, hk]
theorem vn3 (h : validM s l p = true) (hk : p.Kind = 3) : nmL p.Attrs = nmL (pickL (nth p.Kids 0).Attrs p.Cols) := by
  obtain ⟨h1, h2, _⟩ := val_nm h
  have e : colsM s p = (pickM (nth p.Kids 0).Attrs p.Cols, pickOk (nth p.Kids 0).Attrs.length p.Cols) := by simp [colsM, hk]
  rw [e] at h1 h2
  rw [← h2]
  show nmL (pickM _ _) = _
  rw [pickM, if_pos h1]
theorem vn4 (h : validM s l p = true) (hk : p.Kind = 4) : nmL p.Attrs = nmL (joinL (nth p.Kids 0).Attrs (nth p.Kids 1).Attrs) := by
  obtain ⟨h1, h2, _⟩ := val_nm h
  have e : colsM s p = if joinOk (nth p.Kids 0).Attrs (nth p.Kids 1).Attrs = true then (joinL (nth p.Kids 0).Attrs (nth p.Kids 1).Attrs, true) else ([], false) := by simp [colsM, hk]
  rw [e] at h1 h2
  split at h1
  · rename_i q
    rw [if_pos q] at h2; exact h2.symm
  · cases h1
theorem vn5 (h : validM s l p = true) (hk : p.Kind = 5 ∨ p.Kind = 6) : nmL p.Attrs = nmL (nth p.Kids 0).Attrs := by
  obtain ⟨h1, h2, _⟩ := val_nm h
  rw [← h2]; rcases hk with hk | hk <;> simp [colsM, hk]
theorem vn7 (h : validM s l p = true) (hk : p.Kind = 7) : (0 ≤ p.Col ∧ p.Col < (nth p.Kids 0).Attrs.length) ∧ nmL p.Attrs = (nmL (nth p.Kids 0).Attrs).set p.Col.toNat (nth p.Attrs p.Col.toNat).Name := by
  obtain ⟨h1, h2, _⟩ := val_nm h
  have e : colsM s p = if renOk p = true then (renL p, true) else ([], false) := by simp [colsM, hk]
  rw [e] at h1 h2
  split at h1
  · rename_i q
    rw [if_pos q] at h2
    simp only [renOk, decide_eq_true_eq] at q
    refine ⟨⟨q.1, q.2.1⟩, ?_⟩
    rw [← h2]
    show nmL (renL p) = _
    unfold renL nmL
    rw [List.map_set]
  · cases h1
theorem vn8 (h : validM s l p = true) (hk : p.Kind = 8) : nmL p.Attrs = nmL (pickL (nth p.Kids 0).Attrs p.Cols) ++ [(nth p.Attrs p.Cols.length).Name] := by
  obtain ⟨h1, h2, _⟩ := val_nm h
  have e : colsM s p = if grpOk p = true then (grpL p, grpB p) else ([], false) := by simp [colsM, hk]
  rw [e] at h1 h2
  split at h1
  · rename_i q
    rw [if_pos q] at h2
    rw [← h2]
    show nmL (grpL p) = _
    unfold grpL nmL
    rw [List.map_append]; rfl
  · cases h1
end
open Go Go.Proofs Go.Proofs.Tryz
def psum : Nat → GPlan → Nat
  | 0, _ => 0
  | n + 1, p => p.Tests.length + (p.Kids.map (psum n)).foldr max 0
def PSz (p : GPlan) : Prop := ∀ m, PlSz m p
theorem psz_of : ∀ {n : Nat} {p : GPlan}, Dep n p → PlSz n p → PSz p
  | 0, _, h, _ => h.elim
  | n + 1, p, hd, ⟨z1, z2, z3, z4, z5⟩ => fun m => by
    cases m with
    | zero => exact trivial
    | succ m => exact ⟨z1, z2, z3, z4, fun q hq => ⟨psz_of (hd q hq) (z5 q hq).1 m, (z5 q hq).2⟩⟩
theorem psz_kid {p q : GPlan} (h : PSz p) (hq : q ∈ p.Kids) : PSz q ∧ q.Attrs.length ≤ 1000 := ⟨fun m => ((h (m + 1)).2.2.2.2 q hq).1, ((h 1).2.2.2.2 q hq).2⟩
theorem psz_at {p : GPlan} (h : PSz p) : p.Tests.length ≤ 1000 ∧ p.Cols.length ≤ 1000 ∧ p.Attrs.length ≤ 1000 := ⟨(h 1).2.1, (h 1).2.2.1, (h 1).2.2.2.1⟩
theorem psum_kid {n : Nat} {p q : GPlan} (hq : q ∈ p.Kids) : p.Tests.length + psum n q ≤ psum (n + 1) p := by
  have := le_foldmax (List.mem_map.2 ⟨q, hq, rfl⟩ : psum n q ∈ p.Kids.map (psum n))
  simp only [psum]; omega
structure PI (x : Gplanner) (b : Nat) (k : Gnode) : Prop where
  g : NGd x k
  z : PSz k.Plan
  a : k.Plan.Attrs.length ≤ 1000
  t : ∀ m, psum m k.Plan ≤ b
theorem PI.le {x : Gplanner} {b b' : Nat} {k : Gnode} (h : PI x b k) (hb : b ≤ b') : PI x b' k := ⟨h.g, h.z, h.a, fun m => Nat.le_trans (h.t m) hb⟩
theorem PI.dn {x : Gplanner} {b : Nat} {k : Gnode} (h : PI x b k) : k.size.distinct.length = k.Plan.Attrs.length := h.g.nd.n
section
variable {x : Gplanner}
theorem pi_core {p : GPlan} {ks : List Gnode} {b : Nat} (hm : MkOk x p ks) (hks : ∀ k ∈ ks, PI x b k) (hd : (dsM x p ks).length = p.Attrs.length) (hnn : p.Kind = 1 → ∀ v ∈ nth x.st.Distinct p.Table.toNat, 0 ≤ v) (ha : p.Attrs.length ≤ 1000) (ht : p.Tests.length ≤ 1000) (hc : p.Cols.length ≤ 1000) :
    PI x (p.Tests.length + b) (makeM x p ks) := by
  refine ⟨gd_make hm (fun k hk => (hks k hk).g) (min_ds hm (dsM_nn hm hnn) hd (by omega)), fun m => ?_, ha, fun m => ?_⟩
  · cases m with
    | zero => exact trivial
    | succ m =>
      refine ⟨?_, ht, hc, ha, fun q hq => ?_⟩
      · show (ks.map Gnode.Plan).length ≤ _
        rw [List.length_map]; have := hm.n; omega
      · obtain ⟨k, hk, rfl⟩ := List.mem_map.1 (show q ∈ ks.map Gnode.Plan from hq)
        exact ⟨(hks k hk).z m, (hks k hk).a⟩
  · cases m with
    | zero => exact Nat.zero_le _
    | succ m =>
      refine Nat.add_le_add_left (foldmax_le fun a hin0 => ?_) _
      obtain ⟨q, hq, rfl⟩ := List.mem_map.1 hin0
      obtain ⟨k, hk, rfl⟩ := List.mem_map.1 (show q ∈ ks.map Gnode.Plan from hq)
      exact (hks k hk).t m
theorem wholeE_plan (x : Gplanner) : ∀ (n : Nat) (p : GPlan), sizeOf p ≤ n → (wholeE x p).Plan = p
  | 0, .mk _ _ _ _ _ _ _ _, h => by simp only [GPl.mk.sizeOf_spec] at h; omega
  | n + 1, .mk a b kids c d e f g, h => by
    rw [wholeE_eq]
    show GPl.mk a b ((kids.map (wholeE x)).map Gnode.Plan) c d e f g = _
    rw [List.map_map]
    have : kids.map (Gnode.Plan ∘ wholeE x) = kids := by
      conv => rhs; rw [← List.map_id kids]
      refine List.map_congr_left fun q hq => ?_
      have h1 := List.sizeOf_lt_of_mem hq
      simp only [GPl.mk.sizeOf_spec] at h
      exact wholeE_plan x n q (by omega)
    rw [this]
theorem wholeE_plan' (x : Gplanner) (p : GPlan) : (wholeE x p).Plan = p := wholeE_plan x _ p (Nat.le_refl _)
theorem pi_sub {b : Nat} {k : Gnode} (h : PI x b k) {q : GPlan} (hq : q ∈ k.Plan.Kids) : PI x b (wholeE x q) := by
  have he := (eokE_iff.1 h.g.e)
  have hz := psz_kid h.z hq
  refine ⟨⟨he.1.k0 _ (List.mem_map.2 ⟨q, hq, rfl⟩), by rw [wholeE_plan'], by rw [wholeE_plan']; exact he.2 q hq⟩, by rw [wholeE_plan']; exact hz.1, by rw [wholeE_plan']; exact hz.2, fun m => ?_⟩
  rw [wholeE_plan']
  have h1 := psum_kid (n := m) hq
  have h2 := h.t (m + 1)
  omega
def TIn (k : Nat) (ts : List GTest) : Prop := ∀ t ∈ ts, tstIn k t
theorem pi_above {b : Nat} {n : Gnode} (h : PI x b n) {ts : List GTest} (hl : ts.length ≤ 1000) (ht : TIn n.Plan.Attrs.length ts) : PI x (ts.length + b) (aboveM x n ts) ∧ (aboveM x n ts).Plan.Attrs = n.Plan.Attrs := by
  unfold aboveM
  split
  · exact ⟨h.le (by omega), rfl⟩
  · have hm : MkOk x (GPl.mk 2 0 [] ts [] 0 0 n.Plan.Attrs) [n] := ⟨fun k hk => by rw [List.mem_singleton.1 hk]; exact h.g.nd, by simp, by show ts.length ≤ _; omega, by show (0 : Nat) ≤ _; omega, fun q => absurd q (show ¬ (2 : Int) = 1 by decide), fun _ => Nat.one_pos,
      fun _ t ht' => by show tstIn n.size.distinct.length t; rw [h.dn]; exact ht t ht', fun q => absurd q (show ¬ ((2 : Int) = 3 ∨ (2 : Int) = 8) by decide), fun q => absurd q (show ¬ ((2 : Int) = 4 ∨ (2 : Int) = 5) by decide), fun q => absurd q (show ¬ (2 : Int) = 5 by decide)⟩
    exact ⟨pi_core hm (fun k hk => by rw [List.mem_singleton.1 hk]; exact h) (by rw [ds_2 rfl]; exact h.dn) (fun q => absurd q (show ¬ (2 : Int) = 1 by decide)) h.a hl (Nat.zero_le _), rfl⟩
theorem pi_proj {b : Nat} {k : Gnode} (h : PI x b k) {cols : List Int} {ats : List GAttr} (hc : colsIn k.Plan.Attrs.length cols) (hl : cols.length ≤ 1000) (ha : ats.length = cols.length) : PI x b (makeM x (GPl.mk 3 0 [] [] cols 0 0 ats) [k]) := by
  have hm : MkOk x (GPl.mk 3 0 [] [] cols 0 0 ats) [k] := ⟨fun q hq => by rw [List.mem_singleton.1 hq]; exact h.g.nd, by simp, by show (0 : Nat) ≤ _; omega, by show cols.length ≤ _; omega, fun q => absurd q (show ¬ (3 : Int) = 1 by decide), fun _ => Nat.one_pos,
      fun q => absurd q (show ¬ (3 : Int) = 2 by decide), fun _ => by show colsIn k.size.distinct.length cols; rw [h.dn]; exact hc, fun q => absurd q (show ¬ ((3 : Int) = 4 ∨ (3 : Int) = 5) by decide), fun q => absurd q (show ¬ (3 : Int) = 5 by decide)⟩
  have := pi_core (b := b) hm (fun q hq => by rw [List.mem_singleton.1 hq]; exact h) (by rw [ds_3 rfl]; show (pickD _ cols).length = ats.length; rw [pickD, List.length_map, ha]) (fun q => absurd q (show ¬ (3 : Int) = 1 by decide)) (by show ats.length ≤ _; omega) (by show (0 : Nat) ≤ _; omega) hl
  exact this.le (by show 0 + b ≤ b; omega)
theorem pi_grp {b : Nat} {k : Gnode} (h : PI x b k) {cols : List Int} {c g : Int} {ats : List GAttr} (hc : colsIn k.Plan.Attrs.length cols) (hl : ats.length ≤ 1000) (ha : ats.length = cols.length + 1) : PI x b (makeM x (GPl.mk 8 0 [] [] cols c g ats) [k]) := by
  have hm : MkOk x (GPl.mk 8 0 [] [] cols c g ats) [k] := ⟨fun q hq => by rw [List.mem_singleton.1 hq]; exact h.g.nd, by simp, by show (0 : Nat) ≤ _; omega, by show cols.length ≤ _; omega, fun q => absurd q (show ¬ (8 : Int) = 1 by decide), fun _ => Nat.one_pos,
      fun q => absurd q (show ¬ (8 : Int) = 2 by decide), fun _ => by show colsIn k.size.distinct.length cols; rw [h.dn]; exact hc, fun q => absurd q (show ¬ ((8 : Int) = 4 ∨ (8 : Int) = 5) by decide), fun q => absurd q (show ¬ (8 : Int) = 5 by decide)⟩
  have := pi_core (b := b) hm (fun q hq => by rw [List.mem_singleton.1 hq]; exact h) (by rw [ds_8 rfl]; show (pickD _ cols ++ [_]).length = ats.length; rw [pickD, List.length_append, List.length_map, ha]; rfl) (fun q => absurd q (show ¬ (8 : Int) = 1 by decide)) hl (by show (0 : Nat) ≤ _; omega) (by show cols.length ≤ _; omega)
  exact this.le (by show 0 + b ≤ b; omega)
theorem pi_ren {b : Nat} {k : Gnode} (h : PI x b k) {c : Int} {ats : List GAttr} (ha : ats.length = k.Plan.Attrs.length) : PI x b (makeM x (GPl.mk 7 0 [] [] [] c 0 ats) [k]) := by
  have hm : MkOk x (GPl.mk 7 0 [] [] [] c 0 ats) [k] := ⟨fun q hq => by rw [List.mem_singleton.1 hq]; exact h.g.nd, by simp, by show (0 : Nat) ≤ _; omega, by show (0 : Nat) ≤ _; omega, fun q => absurd q (show ¬ (7 : Int) = 1 by decide), fun _ => Nat.one_pos,
      fun q => absurd q (show ¬ (7 : Int) = 2 by decide), fun q => absurd q (show ¬ ((7 : Int) = 3 ∨ (7 : Int) = 8) by decide), fun q => absurd q (show ¬ ((7 : Int) = 4 ∨ (7 : Int) = 5) by decide), fun q => absurd q (show ¬ (7 : Int) = 5 by decide)⟩
  have := pi_core (b := b) hm (fun q hq => by rw [List.mem_singleton.1 hq]; exact h) (by rw [ds_d (p := GPl.mk 7 0 [] [] [] c 0 ats) (show (7 : Int) ≠ 1 by decide) (show (7 : Int) ≠ 2 by decide) (show (7 : Int) ≠ 3 by decide) (show (7 : Int) ≠ 4 by decide) (show (7 : Int) ≠ 5 by decide) (show (7 : Int) ≠ 8 by decide)]; show k.size.distinct.length = ats.length; rw [h.dn, ha]) (fun q => absurd q (show ¬ (7 : Int) = 1 by decide)) (by show ats.length ≤ _; have := h.a; omega) (by show (0 : Nat) ≤ _; omega) (by show (0 : Nat) ≤ _; omega)
  exact this.le (by show 0 + b ≤ b; omega)
theorem pi_bin {b : Nat} {k l : Gnode} (h : PI x b k) (h2 : PI x b l) (hl : k.Plan.Attrs.length = l.Plan.Attrs.length) {kd : Int} (hk : kd = 5 ∨ kd = 6) : PI x b (makeM x (GPl.mk kd 0 [] [] [] 0 0 k.Plan.Attrs) [k, l]) := by
  have hin : ∀ q ∈ [k, l], PI x b q := fun q hq => by
    simp only [List.mem_cons, List.not_mem_nil, or_false] at hq
    rcases hq with rfl | rfl <;> assumption
  have hm : MkOk x (GPl.mk kd 0 [] [] [] 0 0 k.Plan.Attrs) [k, l] := ⟨fun q hq => (hin q hq).g.nd, by simp, by show (0 : Nat) ≤ _; omega, by show (0 : Nat) ≤ _; omega, fun (q : kd = 1) => by omega, fun _ => Nat.two_pos,
      fun (q : kd = 2) => by omega, fun (q : kd = 3 ∨ kd = 8) => by omega, fun _ => by show 1 < 2; omega, fun _ => by show k.size.distinct.length ≤ l.size.distinct.length; rw [h.dn, h2.dn, hl]; exact Nat.le_refl _⟩
  have hd : (dsM x (GPl.mk kd 0 [] [] [] 0 0 k.Plan.Attrs) [k, l]).length = k.Plan.Attrs.length := by
    rcases hk with rfl | rfl
    · rw [ds_5 rfl]; show (uDs _ _ k.size.distinct.length).length = _; rw [uDs, List.length_map, List.length_range, h.dn]
    · rw [ds_d (p := GPl.mk 6 0 [] [] [] 0 0 k.Plan.Attrs) (show (6 : Int) ≠ 1 by decide) (show (6 : Int) ≠ 2 by decide) (show (6 : Int) ≠ 3 by decide) (show (6 : Int) ≠ 4 by decide) (show (6 : Int) ≠ 5 by decide) (show (6 : Int) ≠ 8 by decide)]; exact h.dn
  have := pi_core (b := b) hm hin hd (fun (q : kd = 1) => by omega) h.a (by show (0 : Nat) ≤ _; omega) (by show (0 : Nat) ≤ _; omega)
  exact this.le (by show 0 + b ≤ b; omega)
theorem pi_join {b : Nat} {k l : Gnode} (h : PI x b k) (h2 : PI x b l) (hl : (joinL k.Plan.Attrs l.Plan.Attrs).length ≤ 1000) : PI x b (joinedM x k l) := by
  have hin : ∀ q ∈ [k, l], PI x b q := fun q hq => by
    simp only [List.mem_cons, List.not_mem_nil, or_false] at hq
    rcases hq with rfl | rfl <;> assumption
  have hm : MkOk x (GPl.mk 4 0 [] [] [] 0 0 (joinL k.Plan.Attrs l.Plan.Attrs)) [k, l] := ⟨fun q hq => (hin q hq).g.nd, by simp, by show (0 : Nat) ≤ _; omega, by show (0 : Nat) ≤ _; omega, fun q => absurd q (show ¬ (4 : Int) = 1 by decide), fun _ => Nat.two_pos,
      fun q => absurd q (show ¬ (4 : Int) = 2 by decide), fun q => absurd q (show ¬ ((4 : Int) = 3 ∨ (4 : Int) = 8) by decide), fun _ => by show 1 < 2; omega, fun q => absurd q (show ¬ (4 : Int) = 5 by decide)⟩
  have := pi_core (b := b) hm hin (by rw [ds_4 rfl]; exact jds_len h.g.nd) (fun q => absurd q (show ¬ (4 : Int) = 1 by decide)) hl (by show (0 : Nat) ≤ _; omega) (by show (0 : Nat) ≤ _; omega)
  exact this.le (by show 0 + b ≤ b; omega)
theorem pi_tab (hst : StOk x) {t : Int} (ht : 0 ≤ t ∧ t < x.s.Tables.length) {ats : List GAttr} (ha : ats.length = (nth x.s.Tables t.toNat).Attrs.length) (hl : ats.length ≤ 1000) : PI x 0 (makeM x (GPl.mk 1 t [] [] [] 0 0 ats) []) := by
  have htt : t.toNat < x.s.Tables.length := by omega
  have hm : MkOk x (GPl.mk 1 t [] [] [] 0 0 ats) [] := ⟨fun q hq => (by cases hq), by simp, by show (0 : Nat) ≤ _; omega, by show (0 : Nat) ≤ _; omega,
      fun _ => ⟨ht.1, by show t < _; have := hst.r; omega, by show t < _; have := hst.d; omega, hst.u _ htt, by show (nth x.st.Distinct t.toNat).length ≤ _; rw [hst.n _ htt]; omega⟩,
      fun q => absurd (show (1 : Int) = 1 from rfl) q, fun q => absurd q (show ¬ (1 : Int) = 2 by decide), fun q => absurd q (show ¬ ((1 : Int) = 3 ∨ (1 : Int) = 8) by decide), fun q => absurd q (show ¬ ((1 : Int) = 4 ∨ (1 : Int) = 5) by decide), fun q => absurd q (show ¬ (1 : Int) = 5 by decide)⟩
  exact pi_core (b := 0) hm (fun q hq => (by cases hq)) (by rw [ds_1 rfl]; show (nth x.st.Distinct t.toNat).length = ats.length; rw [hst.n _ htt, ha]) (fun _ v hv => (hst.a _ htt v hv).1) hl (by show (0 : Nat) ≤ _; omega) (by show (0 : Nat) ≤ _; omega)
end
open Go Go.Proofs Go.Proofs.Tryz
theorem cheapI_lt (f : Gnode → Int) (l : List Gnode) (hl : 0 < l.length) : cheapI f l l.length < l.length :=
  fold_rule (P := fun a => a < l.length) (fun a ha i hi => by split; exact List.mem_range.1 hi; exact ha) hl
theorem cheap_mem {f : Gnode → Int} {l : List Gnode} (hl : 0 < l.length) : (cheapM f l).1 ∈ l := nth_mem (cheapI_lt f l hl)
theorem cheap_len {f : Gnode → Int} {l : List Gnode} (hl : 0 < l.length) : (cheapM f l).2.length = l.length - 1 := List.length_eraseIdx_of_lt (cheapI_lt f l hl)
theorem cheap_perm {f : Gnode → Int} {l : List Gnode} (hl : 0 < l.length) : ((cheapM f l).1 :: (cheapM f l).2).Perm l := by
  have h := cheapI_lt f l hl
  show (nth l _ :: l.eraseIdx _).Perm l
  rw [List.eraseIdx_eq_take_drop_succ]
  refine List.perm_middle.symm.trans ?_
  have : nth l (cheapI f l l.length) :: l.drop (cheapI f l l.length + 1) = l.drop (cheapI f l l.length) := by rw [nth_get h]; exact (List.drop_eq_getElem_cons h).symm
  rw [this, List.take_append_drop]
def nmS (ls : List Gnode) (n : ByteArray) : Prop := ∃ k ∈ ls, n ∈ nmL k.Plan.Attrs
section
variable {x : Gplanner} {b : Nat}
theorem chain_ok {U : List ByteArray} (hU : U.length ≤ 1000) : ∀ (fuel : Nat) (out : Gnode) (rest : List Gnode), rest.length ≤ fuel → PI x b out → (∀ k ∈ rest, PI x b k) → (nmL out.Plan.Attrs).Nodup → (∀ k ∈ rest, (nmL k.Plan.Attrs).Nodup) →
    (∀ n ∈ nmL out.Plan.Attrs, n ∈ U) → (∀ k ∈ rest, ∀ n ∈ nmL k.Plan.Attrs, n ∈ U) →
    PI x b (chainM x fuel out rest) ∧ (nmL (chainM x fuel out rest).Plan.Attrs).Nodup ∧ ∀ n, n ∈ nmL (chainM x fuel out rest).Plan.Attrs ↔ n ∈ nmL out.Plan.Attrs ∨ nmS rest n := by
  intro fuel
  induction fuel with
  | zero =>
    intro out rest hr ho _ hn _ _ _
    have : rest = [] := List.length_eq_zero_iff.1 (by omega)
    subst this
    exact ⟨ho, hn, fun n => ⟨.inl, fun h => h.elim id fun ⟨k, hk, _⟩ => by cases hk⟩⟩
  | succ fuel ih =>
    intro out rest hr ho hks hn hkn hu hku
    by_cases h0 : rest.length = 0
    · have : rest = [] := List.length_eq_zero_iff.1 h0
      subst this
      simp only [chainM, List.length_nil, if_true]
      exact ⟨ho, hn, fun n => ⟨.inl, fun h => h.elim id fun ⟨k, hk, _⟩ => by cases hk⟩⟩
    · simp only [chainM, if_neg h0]
      generalize hf : (fun k => (joinedM x out k).size.rows) = f
      have hl : 0 < rest.length := by omega
      have hm := cheap_mem (f := f) hl
      have hp := cheap_perm (f := f) hl
      have hlen := cheap_len (f := f) hl
      have hsub : ∀ k ∈ (cheapM f rest).2, k ∈ rest := fun k hk => hp.mem_iff.1 (List.mem_cons_of_mem _ hk)
      have hnd := nodup_joinL hn (hkn _ hm)
      have hjU : ∀ n ∈ nmL (joinL out.Plan.Attrs (cheapM f rest).1.Plan.Attrs), n ∈ U := fun n h => (mem_joinL.1 h).elim (hu n) (hku _ hm n)
      have hjl : (joinL out.Plan.Attrs (cheapM f rest).1.Plan.Attrs).length ≤ 1000 := by
        have := nodup_len hnd hjU
        rw [nm_len] at this; omega
      obtain ⟨i1, i2, i3⟩ := ih (joinedM x out (cheapM f rest).1) (cheapM f rest).2 (by omega) (pi_join ho (hks _ hm) hjl) (fun k hk => hks k (hsub k hk)) hnd (fun k hk => hkn k (hsub k hk)) hjU (fun k hk => hku k (hsub k hk))
      refine ⟨i1, i2, fun n => ?_⟩
      rw [i3]
      show n ∈ nmL (joinL _ _) ∨ _ ↔ _
      rw [mem_joinL]
      constructor
      · rintro ((h | h) | ⟨k, hk, h⟩)
        · exact .inl h
        · exact .inr ⟨_, hm, h⟩
        · exact .inr ⟨k, hsub k hk, h⟩
      · rintro (h | ⟨k, hk, h⟩)
        · exact .inl (.inl h)
        · rcases List.mem_cons.1 (hp.mem_iff.2 hk) with rfl | hk
          · exact .inl (.inr h)
          · exact .inr ⟨k, hk, h⟩
theorem strict_id {n : Nat} {f : Nat → Nat} (h1 : ∀ i, i < n → f i < n) (h2 : ∀ i, i + 1 < n → f i < f (i + 1)) : ∀ i, i < n → f i = i := by
  have hlo : ∀ i, i < n → i ≤ f i := by
    intro i
    induction i with
    | zero => intro _; exact Nat.zero_le _
    | succ i ih => intro hi; have := ih (by omega); have := h2 i hi; omega
  have hhi : ∀ d i, i + d + 1 = n → f i ≤ i := by
    intro d
    induction d with
    | zero => intro i hi; have := h1 i (by omega); omega
    | succ d ih =>
      intro i hi
      have := ih (i + 1) (by omega)
      have := h2 i (by omega)
      omega
  intro i hi
  have := hlo i hi
  have := hhi (n - 1 - i) i (by omega)
  omega
theorem order_ok {p : GPlan} {out : Gnode} (h : PI x b out) (hn : (nmL out.Plan.Attrs).Nodup) (hp : (nmL p.Attrs).Nodup) (he : ∀ n, n ∈ nmL out.Plan.Attrs ↔ n ∈ nmL p.Attrs) (ha : p.Attrs.length ≤ 1000) :
    PI x b (orderM x p out) ∧ nmL (orderM x p out).Plan.Attrs = nmL p.Attrs ∧ colsIn out.Plan.Attrs.length (colsOf p out) := by
  have hci : ∀ i, i < p.Attrs.length → 0 ≤ columnL out.Plan.Attrs (nth p.Attrs i).Name ∧ columnL out.Plan.Attrs (nth p.Attrs i).Name < out.Plan.Attrs.length := fun i hi => by
    refine ⟨col_nn.2 ((he _).2 ?_), (col_lt _ _).2⟩
    rw [← nm_nth hi]; exact nth_mem (by rw [nm_len]; exact hi)
  have hcl : (colsOf p out).length = p.Attrs.length := by simp [colsOf]
  have hcn : ∀ i, i < p.Attrs.length → nth (colsOf p out) i = columnL out.Plan.Attrs (nth p.Attrs i).Name := fun i hi => by
    rw [nth_get (by rw [hcl]; exact hi), nth_get hi]; simp [colsOf]
  have hcols : colsIn out.Plan.Attrs.length (colsOf p out) := fun c hc => by
    obtain ⟨i, hi, rfl⟩ := List.getElem_of_mem hc
    rw [hcl] at hi
    rw [← nth_get (by rw [hcl]; exact hi), hcn i hi]; exact hci i hi
  unfold orderM
  split
  · rename_i hs
    refine ⟨h, ?_, hcols⟩
    have hl : out.Plan.Attrs.length = p.Attrs.length := by
      have h1 := nodup_len hn (fun n hn => (he n).1 hn)
      have h2 := nodup_len hp (fun n hn => (he n).2 hn)
      rw [nm_len, nm_len] at h1 h2
      omega
    have hinj : ∀ i j, i < p.Attrs.length → j < p.Attrs.length → nth (colsOf p out) i = nth (colsOf p out) j → i = j := fun i j hi hj e => by
      rw [hcn i hi, hcn j hj] at e
      have e1 := col_nth (hci i hi).1
      have e2 := col_nth (hci j hj).1
      rw [e, e2] at e1
      have hpw := List.pairwise_iff_getElem.1 (List.nodup_iff_pairwise_ne.1 hp)
      have e1 : nth (nmL p.Attrs) i = nth (nmL p.Attrs) j := by rw [nm_nth hi, nm_nth hj]; exact e1.symm
      rw [nth_get (by rw [nm_len]; exact hi), nth_get (by rw [nm_len]; exact hj)] at e1
      rcases Nat.lt_trichotomy i j with q | q | q
      · exact absurd e1 (hpw i j _ _ q)
      · exact q
      · exact absurd e1.symm (hpw j i _ _ q)
    have hst : ∀ i, i + 1 < p.Attrs.length → (nth (colsOf p out) i).toNat < (nth (colsOf p out) (i + 1)).toNat := fun i hi => by
      unfold sortedB at hs
      simp only [List.all_eq_true, List.mem_range, Bool.not_eq_true', decide_eq_false_iff_not] at hs
      have h1 := hs i (by rw [hcl]; omega)
      have h2 := hcn i (by omega)
      have h3 := hcn (i + 1) hi
      have h4 := hci i (by omega)
      have h5 := hci (i + 1) hi
      have h6 : nth (colsOf p out) i ≠ nth (colsOf p out) (i + 1) := fun e => by have := hinj _ _ (by omega) hi e; omega
      omega
    have hid := strict_id (n := p.Attrs.length) (f := fun i => (nth (colsOf p out) i).toNat) (fun i hi => by have := hci i hi; rw [hcn i hi]; omega) hst
    refine list_extA (by rw [nm_len, nm_len, hl]) fun i hi => ?_
    rw [nm_len, hl] at hi
    have h1 := hid i hi
    simp only [hcn i hi] at h1
    have h2 := col_nth (hci i hi).1
    rw [h1] at h2
    rw [h2, nm_nth hi]
  · refine ⟨pi_proj h hcols (by rw [hcl]; exact ha) (by simp [pickL]), ?_, hcols⟩
    show nmL (pickL out.Plan.Attrs (colsOf p out)) = _
    rw [nm_pickL]
    refine list_extA (by rw [List.length_map, hcl, nm_len]) fun i hi => ?_
    rw [List.length_map, hcl] at hi
    rw [nth_get (by rw [List.length_map, hcl]; exact hi), List.getElem_map, ← nth_get (by rw [hcl]; exact hi), hcn i hi, nm_nth hi]
    exact col_nthA (hci i hi).1
end
open Go Go.Proofs Go.Proofs.Tryz
theorem psum_dep : ∀ {n m : Nat} {p : GPlan}, Dep n p → Dep m p → psum n p = psum m p
  | 0, _, _, h, _ => h.elim
  | n + 1, 0, _, _, h => h.elim
  | n + 1, m + 1, p, h1, h2 => by
    simp only [psum]
    rw [List.map_congr_left fun q hq => psum_dep (h1 q hq) (h2 q hq)]
theorem div_len (pl : Int → Int) (l : List GTest) : (divIn pl l).length + (divOut pl l).length = l.length := by
  unfold divIn divOut
  rw [List.length_map]
  induction l with
  | nil => rfl
  | cons a l ih =>
    simp only [List.filter_cons]
    cases okT pl a <;> simp <;> omega
theorem side_in {pl : Int → Int} {m k : Nat} (hk : ∀ c : Int, 0 ≤ c → c < (m : Int) → 0 ≤ pl c → pl c < (k : Int)) {s : GSide} (hs : s.Var = 0 → 0 ≤ s.Col ∧ s.Col < m) (ho : okS pl s = true) : (moveS pl s).Var = 0 → 0 ≤ (moveS pl s).Col ∧ (moveS pl s).Col < k := by
  unfold moveS
  unfold okS at ho
  by_cases hv : s.Var = 0
  · rw [if_pos hv]
    intro _
    obtain ⟨h1, h2⟩ := hs hv
    have h3 : 0 ≤ pl s.Col := by simpa [hv] using ho
    exact ⟨h3, hk _ h1 h2 h3⟩
  · rw [if_neg hv]
    exact fun q => absurd q hv
theorem div_in {pl : Int → Int} {m k : Nat} (hk : ∀ c : Int, 0 ≤ c → c < (m : Int) → 0 ≤ pl c → pl c < (k : Int)) {l : List GTest} (hl : TIn m l) : TIn k (divIn pl l) := fun t ht => by
  unfold divIn at ht
  simp only [List.mem_map, List.mem_filter] at ht
  obtain ⟨u, ⟨hu, ho⟩, rfl⟩ := ht
  unfold okT at ho
  rw [Bool.and_eq_true] at ho
  have h0 := hl u hu
  intro s hs
  simp only [moveT, List.mem_cons, List.not_mem_nil, or_false] at hs
  rcases hs with rfl | rfl
  · exact side_in hk (h0 u.Left (by simp)) ho.1
  · exact side_in hk (h0 u.Right (by simp)) ho.2
theorem div_out {pl : Int → Int} {m : Nat} {l : List GTest} (hl : TIn m l) : TIn m (divOut pl l) := fun t ht => hl t (List.mem_filter.1 ht).1
theorem two_kids {l : List GPlan} (h : l.length = 2) : l = [nth l 0, nth l 1] := by
  match l, h with
  | [a, b], _ => rfl
theorem inputs_ok {s : GSchema} : ∀ {n l : Nat} {p : GPlan}, Dep (n + 1) p → validM s l p = true → PSz p → p.Kind = 4 →
    (∀ q ∈ inputsM (n + 1) p, Dep n q ∧ (∃ l', validM s l' q = true) ∧ PSz q ∧ psum n q ≤ psum (n + 1) p ∧ q.Kind ≠ 4) ∧ (∀ m, m ∈ nmL p.Attrs ↔ ∃ q ∈ inputsM (n + 1) p, m ∈ nmL q.Attrs) ∧
      2 ≤ (inputsM (n + 1) p).length ∧ ((inputsM (n + 1) p).length = 2 → inputsM (n + 1) p = p.Kids) := by
  intro n
  induction n with
  | zero =>
    intro l p hd hv hz hk
    obtain ⟨h1, h2⟩ := vk4 hv hk
    exact (hd _ (nth_mem (l := p.Kids) (i := 0) (by omega))).elim
  | succ n ih =>
    intro l p hd hv hz hk
    obtain ⟨h1, h2⟩ := vk4 hv hk
    obtain ⟨l', _, _, _, hkv, _⟩ := valid_in hv
    have hnm := vn4 hv hk
    have hkids := two_kids h1
    have hm0 : nth p.Kids 0 ∈ p.Kids := nth_mem (by omega)
    have hm1 : nth p.Kids 1 ∈ p.Kids := nth_mem (by omega)
    have key : ∀ k ∈ p.Kids, (∀ q ∈ (if k.Kind = 4 then inputsM (n + 1) k else [k]), Dep (n + 1) q ∧ (∃ l', validM s l' q = true) ∧ PSz q ∧ psum (n + 1) q ≤ psum (n + 1 + 1) p ∧ q.Kind ≠ 4) ∧ (∀ m, m ∈ nmL k.Attrs ↔ ∃ q ∈ (if k.Kind = 4 then inputsM (n + 1) k else [k]), m ∈ nmL q.Attrs) ∧
        1 ≤ (if k.Kind = 4 then inputsM (n + 1) k else [k]).length ∧ (k.Kind = 4 → 2 ≤ (if k.Kind = 4 then inputsM (n + 1) k else [k]).length) := fun k hk' => by
      have hps := psum_kid (n := n + 1) hk'
      by_cases h4 : k.Kind = 4
      · rw [if_pos h4]
        obtain ⟨i1, i2, i3, _⟩ := ih (hd k hk') (hkv k hk') (psz_kid hz hk').1 h4
        refine ⟨fun q hq => ?_, i2, by omega, fun _ => i3⟩
        obtain ⟨j1, j2, j3, j4, j5⟩ := i1 q hq
        have j6 := dep_mono (Nat.le_succ n) j1
        refine ⟨j6, j2, j3, ?_, j5⟩
        rw [← psum_dep j1 j6]; omega
      · rw [if_neg h4]
        refine ⟨fun q hq => ?_, fun m => by simp, by simp, fun q => absurd q h4⟩
        rw [List.mem_singleton] at hq
        subst hq
        exact ⟨hd q hk', ⟨l', hkv q hk'⟩, (psz_kid hz hk').1, by omega, h4⟩
    have he : inputsM (n + 1 + 1) p = (if (nth p.Kids 0).Kind = 4 then inputsM (n + 1) (nth p.Kids 0) else [nth p.Kids 0]) ++ (if (nth p.Kids 1).Kind = 4 then inputsM (n + 1) (nth p.Kids 1) else [nth p.Kids 1]) := by
      show p.Kids.flatMap _ = _
      conv => lhs; rw [hkids]
      simp [List.flatMap]
    obtain ⟨a1, a2, a3, a4⟩ := key _ hm0
    obtain ⟨b1, b2, b3, b4⟩ := key _ hm1
    rw [he]
    refine ⟨fun q hq => ?_, fun m => ?_, by rw [List.length_append]; omega, fun hl => ?_⟩
    · rcases List.mem_append.1 hq with hq | hq
      · exact a1 q hq
      · exact b1 q hq
    · rw [hnm, mem_joinL, a2, b2]
      constructor
      · rintro (⟨q, hq, h⟩ | ⟨q, hq, h⟩)
        · exact ⟨q, List.mem_append_left _ hq, h⟩
        · exact ⟨q, List.mem_append_right _ hq, h⟩
      · rintro ⟨q, hq, h⟩
        rcases List.mem_append.1 hq with hq | hq
        · exact .inl ⟨q, hq, h⟩
        · exact .inr ⟨q, hq, h⟩
    · rw [List.length_append] at hl
      have n0 : ¬ (nth p.Kids 0).Kind = 4 := fun q => by have := a4 q; omega
      have n1 : ¬ (nth p.Kids 1).Kind = 4 := fun q => by have := b4 q; omega
      rw [if_neg n0, if_neg n1, List.singleton_append]
      exact hkids.symm
theorem joinFold_succ (push : GPlan → List GTest → Gnode) (p : GPlan) {qs : List GPlan} (ts : List GTest) {i : Nat} (h : i < qs.length) : joinFold push p (qs.take (i + 1)) ts = joinSt push p (joinFold push p (qs.take i) ts) (nth qs i) := fold_take h
section
variable {x : Gplanner}
theorem fold_ok {push : GPlan → List GTest → Gnode} {p : GPlan} {P : Nat} {qs : List GPlan} {ts : List GTest}
    (hq : ∀ q ∈ qs, ∀ ts', TIn q.Attrs.length ts' → ts'.length + P ≤ 1000 → PI x (ts'.length + P) (push q ts') ∧ nmL (push q ts').Plan.Attrs = nmL q.Attrs) (ht : TIn p.Attrs.length ts) (hl : ts.length + P ≤ 1000) : ∀ i, i ≤ qs.length →
    (joinFold push p (qs.take i) ts).1.length = i ∧ (∀ j, j < i → nmL (nth (joinFold push p (qs.take i) ts).1 j).Plan.Attrs = nmL (nth qs j).Attrs) ∧ (∀ k ∈ (joinFold push p (qs.take i) ts).1, PI x (ts.length - (joinFold push p (qs.take i) ts).2.length + P) k) ∧
      TIn p.Attrs.length (joinFold push p (qs.take i) ts).2 ∧ (joinFold push p (qs.take i) ts).2.length ≤ ts.length := by
  intro i
  induction i with
  | zero => intro _; exact ⟨rfl, fun j hj => absurd hj (Nat.not_lt_zero _), fun k hk => (by cases hk), ht, Nat.le_refl _⟩
  | succ i ih =>
    intro hi
    obtain ⟨i1, i2, i3, i4, i5⟩ := ih (by omega)
    rw [joinFold_succ push p ts (by omega)]
    generalize joinFold push p (qs.take i) ts = st at i1 i2 i3 i4 i5
    obtain ⟨ls, tt⟩ := st
    simp only at i1 i2 i3 i4 i5
    have hmem : nth qs i ∈ qs := nth_mem (by omega)
    have hdl := div_len (plcJ p (nth qs i)) tt
    have hin : TIn (nth qs i).Attrs.length (divIn (plcJ p (nth qs i)) tt) := div_in (fun c _ _ _ => (col_lt _ _).2) i4
    obtain ⟨j1, j2⟩ := hq _ hmem _ hin (by omega)
    refine ⟨?_, fun j hj => ?_, fun k hk => ?_, div_out i4, ?_⟩
    · show (ls ++ [_]).length = _
      rw [List.length_append, i1]; rfl
    · show nmL (nth (ls ++ [_]) j).Plan.Attrs = _
      by_cases h : j < i
      · rw [nth_append_left (by omega)]; exact i2 j h
      · obtain rfl : j = i := by omega
        rw [nth_app2 (by omega) (by rw [List.length_singleton]; omega), i1, Nat.sub_self]; exact j2
    · show PI x (ts.length - (divOut _ tt).length + P) k
      rcases List.mem_append.1 (show k ∈ ls ++ [_] from hk) with hk | hk
      · exact (i3 k hk).le (by omega)
      · rw [List.mem_singleton] at hk
        subst hk
        exact j1.le (by omega)
    · show (divOut _ tt).length ≤ _
      omega
/-- What comes out of pushing. -/
theorem push_ok (hst : StOk x) : ∀ (n : Nat) {l : Nat} {p : GPlan} {ts : List GTest}, Dep n p → validM x.s l p = true → PSz p → TIn p.Attrs.length ts → ts.length + psum n p ≤ 1000 →
    PI x (ts.length + psum n p) (pushM x n p ts) ∧ nmL (pushM x n p ts).Plan.Attrs = nmL p.Attrs := by
  intro n
  induction n with
  | zero => intro l p ts hd; exact hd.elim
  | succ n ih =>
    intro l p ts hd hv hz ht hl
    obtain ⟨l', _, hkd, hkn, hkv, _⟩ := valid_in hv
    have hsz := psz_at hz
    have hkid : ∀ i, i < p.Kids.length → nth p.Kids i ∈ p.Kids := fun i hi => nth_mem hi
    have hps : ∀ q ∈ p.Kids, p.Tests.length + psum n q ≤ psum (n + 1) p := fun q hq => psum_kid hq
    have IH : ∀ i, i < p.Kids.length → ∀ ts', TIn (nth p.Kids i).Attrs.length ts' → ts'.length ≤ ts.length + p.Tests.length → PI x (ts.length + psum (n + 1) p) (pushM x n (nth p.Kids i) ts') ∧ nmL (pushM x n (nth p.Kids i) ts').Plan.Attrs = nmL (nth p.Kids i).Attrs := fun i hi ts' h1 h2 => by
      have h3 := hps _ (hkid i hi)
      obtain ⟨h4, h5⟩ := ih (hd _ (hkid i hi)) (hkv _ (hkid i hi)) (psz_kid hz (hkid i hi)).1 h1 (by omega)
      exact ⟨h4.le (by omega), h5⟩
    have hdiv : ∀ pl, (divIn pl ts).length ≤ ts.length ∧ (divOut pl ts).length ≤ ts.length := fun pl => by have := div_len pl ts; omega
    rcases kind_cases hkd with k | k | k | k | k | k | k | k
    · -- a table
      simp only [pushM, if_pos k]
      obtain ⟨v1, v2⟩ := vk1 hv k
      have h0 := pi_tab hst v1 v2 hsz.2.2
      obtain ⟨h1, h2⟩ := pi_above h0 (ts := ts) (by omega) ht
      exact ⟨h1.le (by omega), by rw [h2]; rfl⟩
    · -- a selection
      have e : pushM x (n + 1) p ts = pushM x n (nth p.Kids 0) (p.Tests ++ ts) := by simp [pushM, k]
      obtain ⟨v1, v2, v3⟩ := vk2 hv k
      rw [e, vn2 hv k]
      refine IH 0 (by omega) _ (fun t ht' => ?_) (by rw [List.length_append]; omega)
      rcases List.mem_append.1 ht' with h | h
      · exact test_in (v2 t h) rfl
      · rw [← v3]; exact ht t h
    · -- a projection
      have e : pushM x (n + 1) p ts = projM x p (pushM x n (nth p.Kids 0) (divIn (plcP p) ts)) := by simp [pushM, k]
      obtain ⟨v1, v2, v3⟩ := vk3 hv k
      obtain ⟨j1, j2⟩ := IH 0 (by omega) (divIn (plcP p) ts) (div_in (fun c h1 h2 _ => (v2 _ (nth_mem (by omega))).2) ht) (by have := hdiv (plcP p); omega)
      rw [e, vn3 hv k]
      generalize pushM x n (nth p.Kids 0) (divIn (plcP p) ts) = kid at j1 j2
      have hal := nm_len_eq j2
      have hci : colsIn kid.Plan.Attrs.length p.Cols := fun c hc => by rw [hal]; exact v2 c hc
      unfold projM
      split
      · rename_i h3
        obtain ⟨e1, e2⟩ := eokE_iff.1 j1.g.e
        have hk0 : 0 < kid.Plan.Kids.length := by have := e1.k2 (by omega); rwa [List.length_map] at this
        have hq : nth kid.Plan.Kids 0 ∈ kid.Plan.Kids := nth_mem hk0
        have hsub := pi_sub j1 hq
        have h4 := e1.k4 (.inl h3)
        have h5 : nth (kid.Plan.Kids.map (wholeE x)) 0 = wholeE x (nth kid.Plan.Kids 0) := by rw [nth_get (by rw [List.length_map]; exact hk0), nth_get hk0]; simp
        rw [h5, hsub.dn] at h4
        have hcl : kid.Plan.Cols.length = kid.Plan.Attrs.length := by
          have hd2 := j1.dn
          have hw := j1.g.w
          rw [wholeE_eq] at hw
          have h7 : kid.size.distinct = (dsM x kid.Plan (kid.Plan.Kids.map (wholeE x))).map fun d => min d (rowsM x kid.Plan (kid.Plan.Kids.map (wholeE x))) := (congrArg (fun a : Gnode => a.size.distinct) hw).symm
          rw [← hd2, h7, List.length_map, ds_3 h3, pickD, List.length_map]
        refine ⟨pi_proj hsub (fun c hc => ?_) (by rw [List.length_map]; exact hsz.2.1) (by simp [pickL]), nm_pick_congr j2 v2⟩
        obtain ⟨d, hd', rfl⟩ := List.mem_map.1 hc
        have h6 := v2 d hd'
        exact h4 _ (nth_mem (by omega))
      · exact ⟨pi_proj j1 hci hsz.2.1 (by simp [pickL]), nm_pick_congr j2 v2⟩
    · -- a join
      have e : pushM x (n + 1) p ts = joinEnd x p (joinFold (pushM x n) p (inputsM (n + 1) p) ts) := by simp [pushM, k]
      obtain ⟨i1, i2, i3, i4⟩ := inputs_ok hd hv hz k
      obtain ⟨_, _, hpn⟩ := val_nm hv
      have hf := fold_ok (x := x) (push := pushM x n) (p := p) (P := psum (n + 1) p) (qs := inputsM (n + 1) p) (ts := ts) (fun q hq ts' h1 h2 => by
        obtain ⟨q1, ⟨l2, q2⟩, q3, q4, q5⟩ := i1 q hq
        obtain ⟨h3, h4⟩ := ih q1 q2 q3 h1 (by omega)
        exact ⟨h3.le (by omega), h4⟩) ht hl _ (Nat.le_refl _)
      rw [List.take_length] at hf
      rw [e]
      generalize joinFold (pushM x n) p (inputsM (n + 1) p) ts = st at hf
      obtain ⟨ls, tt⟩ := st
      obtain ⟨f1, f2, f3, f4, f5⟩ := hf
      simp only at f1 f2 f3 f4 f5
      have hmemq : ∀ a ∈ ls, ∃ q ∈ inputsM (n + 1) p, nmL a.Plan.Attrs = nmL q.Attrs := fun a ha => by
        obtain ⟨i, hi, rfl⟩ := List.getElem_of_mem ha
        refine ⟨nth (inputsM (n + 1) p) i, nth_mem (by omega), ?_⟩
        rw [← nth_get hi]; exact f2 i (by omega)
      unfold joinEnd
      split
      · rename_i h2
        have h2 : ls.length = 2 := h2
        have hkeq := i4 (by omega)
        have g0 : nmL (nth ls 0).Plan.Attrs = nmL (nth p.Kids 0).Attrs := by rw [f2 0 (by omega), hkeq]
        have g1 : nmL (nth ls 1).Plan.Attrs = nmL (nth p.Kids 1).Attrs := by rw [f2 1 (by omega), hkeq]
        have hjn : nmL (joinL (nth ls 0).Plan.Attrs (nth ls 1).Plan.Attrs) = nmL p.Attrs := by rw [vn4 hv k]; exact nm_join_congr g0 g1
        have hjl := nm_len_eq hjn
        have hj := pi_join (f3 _ (nth_mem (l := ls) (i := 0) (by omega))) (f3 _ (nth_mem (l := ls) (i := 1) (by omega))) (by omega)
        obtain ⟨a1, a2⟩ := pi_above hj (ts := tt) (by omega) (by show TIn (joinL _ _).length tt; rw [hjl]; exact f4)
        exact ⟨a1.le (by omega), by rw [a2]; exact hjn⟩
      · rename_i h2
        have h2 : ¬ ls.length = 2 := h2
        have hl0 : 0 < ls.length := by omega
        have hnd : ∀ a ∈ ls, (nmL a.Plan.Attrs).Nodup := fun a ha => by
          obtain ⟨q, hq, e⟩ := hmemq a ha
          obtain ⟨q1, ⟨l2, q2⟩, _⟩ := i1 q hq
          rw [e]; exact (val_nm q2).2.2
        have hU : ∀ a ∈ ls, ∀ m ∈ nmL a.Plan.Attrs, m ∈ nmL p.Attrs := fun a ha m hm => by
          obtain ⟨q, hq, e⟩ := hmemq a ha
          rw [e] at hm
          exact (i2 m).2 ⟨q, hq, hm⟩
        generalize hfr : (fun k : Gnode => k.size.rows) = fr
        have c1 := cheap_mem (f := fr) hl0
        have c2 := cheap_len (f := fr) hl0
        have c3 := cheap_perm (f := fr) hl0
        have c4 : ∀ a ∈ (cheapM fr ls).2, a ∈ ls := fun a ha => c3.mem_iff.1 (List.mem_cons_of_mem _ ha)
        obtain ⟨d1, d2, d3⟩ := chain_ok (x := x) (U := nmL p.Attrs) (by rw [nm_len]; exact hsz.2.2) ls.length (cheapM fr ls).1 (cheapM fr ls).2 (by omega) (f3 _ c1) (fun a ha => f3 a (c4 a ha)) (hnd _ c1) (fun a ha => hnd a (c4 a ha)) (hU _ c1) (fun a ha => hU a (c4 a ha))
        have d4 : ∀ m, m ∈ nmL (chainM x ls.length (cheapM fr ls).1 (cheapM fr ls).2).Plan.Attrs ↔ m ∈ nmL p.Attrs := fun m => by
          rw [d3, i2]
          constructor
          · rintro (h | ⟨a, ha, h⟩)
            · obtain ⟨q, hq, e⟩ := hmemq _ c1
              exact ⟨q, hq, by rw [← e]; exact h⟩
            · obtain ⟨q, hq, e⟩ := hmemq _ (c4 a ha)
              exact ⟨q, hq, by rw [← e]; exact h⟩
          · rintro ⟨q, hq, h⟩
            obtain ⟨i, hi, rfl⟩ := List.getElem_of_mem hq
            rw [← nth_get hi, ← f2 i (by omega)] at h
            rcases List.mem_cons.1 (c3.mem_iff.2 (nth_mem (l := ls) (i := i) (by omega))) with e | hm
            · exact .inl (by rw [← e]; exact h)
            · exact .inr ⟨_, hm, h⟩
        obtain ⟨o1, o2, _⟩ := order_ok d1 d2 hpn d4 hsz.2.2
        obtain ⟨a1, a2⟩ := pi_above o1 (ts := tt) (by omega) (by rw [nm_len_eq o2]; exact f4)
        exact ⟨a1.le (by omega), by rw [a2]; exact o2⟩
    · -- a union
      have e : pushM x (n + 1) p ts = makeM x (GPl.mk p.Kind 0 [] [] [] 0 0 (pushM x n (nth p.Kids 0) ts).Plan.Attrs) [pushM x n (nth p.Kids 0) ts, pushM x n (nth p.Kids 1) ts] := by simp [pushM, k]
      obtain ⟨v1, v2, v3⟩ := wk5 hv (.inl k)
      obtain ⟨j1, j2⟩ := IH 0 (by omega) ts (by rw [← v2]; exact ht) (by omega)
      obtain ⟨j3, j4⟩ := IH 1 (by omega) ts (by rw [← v3, ← v2]; exact ht) (by omega)
      rw [e, vn5 hv (.inl k)]
      exact ⟨pi_bin j1 j3 (by rw [nm_len_eq j2, nm_len_eq j4, v3]) (.inl k), j2⟩
    · -- a difference
      have e : pushM x (n + 1) p ts = makeM x (GPl.mk p.Kind 0 [] [] [] 0 0 (pushM x n (nth p.Kids 0) ts).Plan.Attrs) [pushM x n (nth p.Kids 0) ts, pushM x n (nth p.Kids 1) ts] := by simp [pushM, k]
      obtain ⟨v1, v2, v3⟩ := wk5 hv (.inr k)
      obtain ⟨j1, j2⟩ := IH 0 (by omega) ts (by rw [← v2]; exact ht) (by omega)
      obtain ⟨j3, j4⟩ := IH 1 (by omega) ts (by rw [← v3, ← v2]; exact ht) (by omega)
      rw [e, vn5 hv (.inr k)]
      exact ⟨pi_bin j1 j3 (by rw [nm_len_eq j2, nm_len_eq j4, v3]) (.inr k), j2⟩
    · -- a renaming
      have e : pushM x (n + 1) p ts = renM x p (pushM x n (nth p.Kids 0) ts) := by simp [pushM, k]
      obtain ⟨v1, v2⟩ := vk7 hv k
      obtain ⟨⟨w1, w2⟩, w3⟩ := vn7 hv k
      obtain ⟨j1, j2⟩ := IH 0 (by omega) ts (by rw [← v2]; exact ht) (by omega)
      rw [e]
      refine ⟨pi_ren j1 (by rw [List.length_set]), ?_⟩
      rw [w3, ← j2]
      show nmL (List.set _ _ _) = _
      unfold nmL
      rw [List.map_set]
    · -- a group
      have e : pushM x (n + 1) p ts = aboveM x (grpM x p (pushM x n (nth p.Kids 0) (divIn (plcG p) ts))) (divOut (plcG p) ts) := by simp [pushM, k]
      obtain ⟨v1, v2, v3⟩ := wk8 hv k
      obtain ⟨j1, j2⟩ := IH 0 (by omega) (divIn (plcG p) ts) (div_in (fun c h1 h2 h3 => by
        unfold plcG at h3 ⊢
        split
        · exact (v2 _ (nth_mem (by omega))).2
        · rename_i h4; rw [if_neg h4] at h3; omega) ht) (by have := hdiv (plcG p); omega)
      rw [e]
      have hl2 := hdiv (plcG p)
      have hdl := div_len (plcG p) ts
      obtain ⟨g1, g2⟩ := ih (hd _ (hkid 0 (by omega))) (hkv _ (hkid 0 (by omega))) (psz_kid hz (hkid 0 (by omega))).1 (ts := divIn (plcG p) ts) (div_in (fun c h1 h2 h3 => by
        unfold plcG at h3 ⊢
        split
        · exact (v2 _ (nth_mem (by omega))).2
        · rename_i h4; rw [if_neg h4] at h3; omega) ht) (by have := hps _ (hkid 0 (by omega)); omega)
      have hg := pi_grp g1 (cols := p.Cols) (c := p.Col) (g := p.Agg) (ats := pickL (pushM x n (nth p.Kids 0) (divIn (plcG p) ts)).Plan.Attrs p.Cols ++ [nth p.Attrs p.Cols.length]) (fun c hc => by rw [nm_len_eq g2]; exact v2 c hc) (by rw [List.length_append]; simp [pickL]; omega) (by rw [List.length_append]; simp [pickL])
      have hga : nmL (grpM x p (pushM x n (nth p.Kids 0) (divIn (plcG p) ts))).Plan.Attrs = nmL p.Attrs := by
        rw [vn8 hv k]
        show nmL (pickL _ _ ++ [_]) = _
        have : ∀ a b : List GAttr, nmL (a ++ b) = nmL a ++ nmL b := fun a b => by simp [nmL]
        rw [this, nm_pick_congr g2 v2]; rfl
      obtain ⟨a1, a2⟩ := pi_above (n := grpM x p (pushM x n (nth p.Kids 0) (divIn (plcG p) ts))) hg (ts := divOut (plcG p) ts) (by omega) (by rw [nm_len_eq hga]; exact div_out ht)
      have := hps _ (hkid 0 (by omega))
      exact ⟨a1.le (by omega), by rw [a2]; exact hga⟩
end
end Lg
