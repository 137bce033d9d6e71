/- The walk and the plain law of PlannerStatistics. -/
import Derived.Test.YtgaclpkapapjdaaGreatDoorF
set_option linter.unusedVariables false
set_option linter.unusedSimpArgs false
set_option linter.unusedSectionVars false
namespace Lg
open Go Go.Proofs Go.Proofs.Tryz
theorem ty73S : TyOf prog 73 (rSO (rSl rValue)) := ⟨fun w => isAgg73 w, fun w => sizeOf73 w⟩
theorem zr73S : ∀ h, ((rSO (rSl rValue)).ty (.imm [])).p h (Value.slice none 0 0) := fun h => ⟨none, ⟨0, Nat.le_refl _⟩, rfl, fun q => absurd rfl q⟩
theorem el73S : ElT prog 73 (rSO (rSl rValue)) 24 (.imm []) := ⟨ty73S, by decide, t73, (Value.slice none 0 0), by kernel_rfl, by kernel_rfl, by kernel_rfl, by kernel_rfl, zr73S⟩
/-- The tables reversed so far: the first one is one's own. -/
def bkS (ts : List (List (List GValue))) (k : Nat) (v0 : Value) : List (SO (List GValue)) := (List.range k).map fun t => if t = 0 then SO.raw v0 else SO.imm (nth ts t).reverse
theorem bk_len (ts : List (List (List GValue))) (k : Nat) (v0 : Value) : (bkS ts k v0).length = k := by simp [bkS]
theorem bk_succ {ts : List (List (List GValue))} {k : Nat} {v0 : Value} (h : ¬ k = 0) : bkS ts (k + 1) v0 = bkS ts k v0 ++ [SO.imm (nth ts k).reverse] := by
  unfold bkS; rw [List.range_succ, List.map_append]; simp [h]
theorem bk_cases {ts : List (List (List GValue))} {k : Nat} {v0 : Value} : ∀ x ∈ bkS ts k v0, (∃ ys, x = .imm ys) ∨ x = .raw v0 := fun x hx => by
  unfold bkS at hx
  obtain ⟨t, _, rfl⟩ := List.mem_map.1 hx
  split
  · exact .inr rfl
  · exact .inl ⟨_, rfl⟩
theorem bk_at {ts : List (List (List GValue))} {k : Nat} {v0 : Value} (h : 0 < k) : (bkS ts k v0)[0]? = some (SO.raw v0) := by
  unfold bkS; rw [List.getElem?_map, List.getElem?_range h]; rfl
theorem bk_set {ts : List (List (List GValue))} {k : Nat} {v0 v1 : Value} : (bkS ts k v0).set 0 (SO.raw v1) = bkS ts k v1 := by
  refine List.ext_getElem (by simp [bkS]) fun i h1 h2 => ?_
  rw [List.getElem_set]
  by_cases h : i = 0
  · subst h; simp [bkS]
  · rw [if_neg (by omega)]; simp [bkS, h]
theorem bk_val {ts : List (List (List GValue))} {v0 : Value} {l0 : List (List GValue)} : (bkS ts ts.length v0).map (soVal l0) = (backT ts).set 0 l0 := by
  refine List.ext_getElem (by simp [bkS, backT]) fun i h1 h2 => ?_
  have hi : i < ts.length := by simpa [bkS] using h1
  rw [List.getElem_set]
  by_cases h : i = 0
  · subst h; simp [bkS, soVal]
  · rw [if_neg (by omega)]; simp [bkS, h, soVal, backT, nth_get hi]
theorem bk_back {ts : List (List (List GValue))} {v0 : Value} (h : 0 < ts.length) : (bkS ts ts.length v0).map (soVal (nth ts 0).reverse) = backT ts := by
  rw [bk_val]
  refine List.ext_getElem (by simp) fun i h1 h2 => ?_
  rw [List.getElem_set]
  split
  · rename_i e; subst e; simp [backT, nth_get h]
  · rfl
theorem bk_more {ts : List (List (List GValue))} {row : List GValue} {v0 : Value} (h : 0 < ts.length) : (bkS ts ts.length v0).map (soVal ((nth ts 0).reverse ++ [row, row])) = moreT ts row := by
  rw [bk_val, moreT, back_nth h]
theorem rev_take {α : Type} [Inhabited α] {l : List α} {j : Nat} (h : j < l.length) : l.reverse.take (j + 1) = l.reverse.take j ++ [nth l (l.length - 1 - j)] := by
  rw [takeB (by simpa using h), nth_get (by simpa using h), nth_get (by omega)]
  simp
theorem stat_small {s : GSchema} (ts : List (List LV)) (h : ∀ t ∈ s.Tables, t.Attrs.length ≤ 20) : (statM s ts).Rows.length ≤ s.Tables.length ∧ (statM s ts).Distinct.length ≤ s.Tables.length ∧ ∀ d ∈ (statM s ts).Distinct, d.length ≤ 20 := by
  unfold statM
  split
  · refine ⟨by simp [statRows], by simp [statDst], fun d hd => ?_⟩
    obtain ⟨t, ht, rfl⟩ := List.mem_map.1 (show d ∈ (List.range s.Tables.length).map _ from hd)
    show (statD _ _).length ≤ 20
    simp only [statD, List.length_map, List.length_range]
    exact h _ (nth_mem (List.mem_range.1 ht))
  · exact ⟨Nat.zero_le _, Nat.zero_le _, fun d hd => by cases hd⟩
set_option maxHeartbeats 16000000 in
theorem lawStatistics_spec (s : GSchema) (hn : ∀ t ∈ s.Tables, ∀ x ∈ namesL t.Attrs, x.size ≤ 9223372036854775807) (ts : List (List (List GValue))) (hts : ∀ t ∈ ts, t.length ≤ 9223372036854775807) (row : List GValue) : Fun1 prog 10 [rSchema.ty s, tSl (rSl (rSl rValue)) ts, tSl rValue row] (tV (.bool true)) := by
 refine Spec.enter func10 rfl rfl fun h0 w0 fr0 => ?_
 refine Jr (Js rfl (step_box (R := rSchema) Sr) (Ja rfl (JL_nil (Jr (Js rfl (step_call0 (head35_spec ) trivial call34) ?_)))))
 refine Ja rfl (JL_nil (J_seq (Jr (Jl rfl ty41 Sr (Js rfl (step_build (x := (GPl.zero : GPlan)) (zs := [[Value.int .i64 0], [Value.int .i64 0], [Value.slice none 0 0], [Value.slice none 0 0], [Value.slice none 0 0], [Value.int .i64 0], [Value.int .i64 0], [Value.slice none 0 0]]) so46E (fun w => zeroValue46 w) trivial ⟨fun _ => rfl, fun _ => rfl, fun _ => ⟨_, rfl, none, ⟨0, Nat.le_refl _⟩, rfl, fun q => absurd rfl q⟩, fun _ => ⟨_, rfl, none, ⟨0, Nat.le_refl _⟩, rfl, fun q => absurd rfl q⟩, fun _ => ⟨_, rfl, none, ⟨0, Nat.le_refl _⟩, rfl, fun q => absurd rfl q⟩, fun _ => rfl, fun _ => rfl, fun _ => ⟨_, rfl, none, ⟨0, Nat.le_refl _⟩, rfl, fun q => absurd rfl q⟩, trivial⟩) ?_)))))
 refine Jm rfl (Js rfl (step_call0 (SmallE_spec s GPl.zero len_zero ts 30 hts) ⟨Sr, Sr, Sr, Sr, trivial⟩ call19) (Js rfl (step_not Sr) (Jm rfl ?_)))
 refine Jk rfl Sr rfl (step_move Sr) ?_
 refine Jg rfl Sr rfl (fun hw => step_len_sl underlying61 (Sub.w hw)) (Jg rfl Sr rfl (fun hw => step_eql (Sub.w hw) Sr) (Js rfl (step_pick_or Sr Sr) (Jm rfl ?_)))
 refine Jk rfl Sr rfl (step_move Sr) ?_
 refine Jg rfl Sr rfl (fun hw => step_len_sl underlying22 (Sub.w hw)) (Jg rfl Sr rfl (fun hw => step_gtr (Sub.w hw) Sr) (Js rfl (step_pick_or Sr Sr) (JL_nil ?_)))
 refine J_cond Sr (fun h37 => ?_) (fun h37 => ?_)
 ·
  try simp only [NF] at h37
  refine Jr (Jm rfl (Ja rfl (JL_nil (J_ret ?_))))
  refine K_ret1 (t := 6) rfl () (Sub.bool ?_)
  rfl
 try simp only [NF] at h37
 obtain ⟨⟨hse, h0⟩, hrow⟩ : (smallE s GPl.zero ts 30 = true ∧ ¬ ts = []) ∧ (row.length : Int) ≤ 20 := by simpa [and_assoc, Int.not_lt] using h37
 have h0l : 0 < ts.length := List.length_pos_iff.2 h0
 obtain ⟨hsm, htl, htr⟩ := small_in hse hn len_zero
 have hsl := hsm.z.tabs
 have hst1 : ∀ t ∈ s.Tables, t.Attrs.length ≤ 1000 := fun t ht => Nat.le_trans (hsm.t t ht) zG
 have hl1 : ∀ t ∈ ts, t.length ≤ 4000 := fun t ht => by have := (htr t ht).1; omega
 have hr1 : ∀ t ∈ ts, ∀ r ∈ t, r.length ≤ 1000000 := fun t ht r hr => by have := (htr t ht).2 r hr; omega
 have hl2 : ∀ t ∈ backT ts, t.length ≤ 4000 := fun t ht => by obtain ⟨u, hu, rfl⟩ := List.mem_map.1 ht; rw [List.length_reverse]; exact hl1 u hu
 have hr2 : ∀ t ∈ backT ts, ∀ r ∈ t, r.length ≤ 1000000 := fun t ht r hr => by obtain ⟨u, hu, rfl⟩ := List.mem_map.1 ht; exact hr1 u hu r (List.mem_reverse.1 hr)
 have hbl := back_len ts
 have hm0 : ∀ t ∈ moreT ts row, t ∈ backT ts ∨ t = nth (backT ts) 0 ++ [row, row] := fun t ht => (List.mem_or_eq_of_mem_set ht).imp id id
 have hb0 : nth (backT ts) 0 ∈ backT ts := nth_mem zG
 have hl3 : ∀ t ∈ moreT ts row, t.length ≤ 4000 := fun t ht => by
  rcases hm0 t ht with h | rfl
  ·
   exact hl2 t h
  have h30 := (htr _ (nth_mem h0l)).1
  rw [back_nth h0l, List.length_append, List.length_reverse]; simp; omega
 have hr3 : ∀ t ∈ moreT ts row, ∀ r ∈ t, r.length ≤ 1000000 := fun t ht r hr => by
  rcases hm0 t ht with h | rfl
  ·
   exact hr2 t h r hr
  rcases List.mem_append.1 hr with hr | hr
  ·
   exact hr2 _ hb0 r hr
  simp at hr; subst hr; omega
 have hbs := back_stat s ts
 have hsa := stat_small ts hsm.t
 have hsb := stat_small (backT ts) hsm.t
 have hor := statE_or s ts
 refine J_skip (Jr (Jl rfl ty41 Sr (Jm rfl (Js rfl (step_call0 (Statistics_spec s hsm.z hst1 ts hl1 hr1) ⟨Sr, Sr, trivial⟩ call36) (Jm rfl ?_)))))
 refine Js rfl (step_extract Sr rfl) (Js rfl (step_extract Sr rfl) ?_)
 refine Jx rfl (step_alloc (fun w => zeroValue60 w) zr60) fun b8 => ?_
 refine Ju (step_store_box ty60 Sr Sr zS) fun _ => ?_
 refine JL_freeze (t := 8) (Sel.take (Sel.none _)) Frz.box ?_
 refine Ja rfl (JL_nil (Jr (Ja rfl (JL_nil (J_seq ?_)))))
 refine Jr (Ja rfl (JL_nil (J_block ?_)))
 refine J_loopL (σ := Nat × Value × Value) (fun ⟨k, vo, v0⟩ => k ≤ ts.length) (fun ⟨k, vo, v0⟩ => upd (upd (upd (upd (upd (upd (upd (upd (upd env0 1 (tSl (rSl (rSl rValue)) ts)) 2 (tSl rValue row)) 3 (tPtr rSchema s)) 6 (tV (.bool false))) 7 (tV (.bool true))) 8 (tPtr rStats (statM s ts))) 9 (tV (.int .i64 (statE s ts)))) 10 (rV.ty vo)) 11 (tV (.int .i64 k))) (fun ⟨k, vo, v0⟩ => [own 73 (rSO (rSl rValue)) vo (bkS ts k v0), own 22 (rSl rValue) v0 (if k = 0 then [] else (nth ts 0).reverse)]) (fun ⟨k, vo, v0⟩ => ts.length - k) (0, .slice none 0 0, .slice none 0 0) (by exact Nat.zero_le _) (.u (SubE.upd (Sub.rV rfl) (zU))) (LSub.trans (LSub.nilown (e := 22) (R := rSl rValue)) (LSub.trans (LSub.nilown (e := 73) (R := rSO (rSl rValue))) (LSub.of (by rfl)))) ?_
 rintro ⟨k, vo, v0⟩ hk
 try dsimp only at hk
 refine J_seq (Jr (Jm rfl (Jm rfl (Js rfl (step_len_sl underlying61 Sr) (Js rfl (step_lss Sr Sr) ?_)))))
 refine JL_nil ?_
 refine J_cond Sr (fun h48 => ?_) (fun h48 => ?_)
 ·
  try simp only [NF] at h48
  have hkl : k < ts.length := by omega
  have hkl4 := hl1 _ (nth_mem hkl)
  refine J_skip (J_seq (J_block (Jr (Ja rfl (JL_nil ?_)))))
  refine J_seq (Jr (Ja rfl (JL_nil (J_block ?_))))
  refine J_loopL (σ := Nat × Value) (fun ⟨j, vl⟩ => j ≤ (nth ts k).length) (fun ⟨j, vl⟩ => upd (upd (upd (upd (upd (upd (upd (upd (upd (upd (upd env0 1 (tSl (rSl (rSl rValue)) ts)) 2 (tSl rValue row)) 3 (tPtr rSchema s)) 6 (tV (.bool false))) 7 (tV (.bool true))) 8 (tPtr rStats (statM s ts))) 9 (tV (.int .i64 (statE s ts)))) 10 (rV.ty vo)) 11 (tV (.int .i64 k))) 12 (rV.ty vl)) 13 (tV (.int .i64 j))) (fun ⟨j, vl⟩ => [own 22 (rSl rValue) vl ((nth ts k).reverse.take j), own 73 (rSO (rSl rValue)) vo (bkS ts k v0), own 22 (rSl rValue) v0 (if k = 0 then [] else (nth ts 0).reverse)]) (fun ⟨j, vl⟩ => (nth ts k).length - j) (0, .slice none 0 0) (by exact Nat.zero_le _) (.u (SubE.upd (Sub.rV rfl) (zU))) (LSub.trans (LSub.nilown (e := 22) (R := rSl rValue)) (LSub.of (by rfl))) ?_
  rintro ⟨j, vl⟩ hj
  try dsimp only at hj
  refine J_seq (Jr (Jm rfl (Jm rfl (Jm rfl ?_))))
  refine Js rfl (step_indexAddr_sl (i := k) underlying61 ty73 Sr Sr (by rfl) (gb (by exact hkl))) ?_
  refine Jl rfl ty73 Sr (Js rfl (step_len_sl underlying73 Sr) (Js rfl (step_lss Sr Sr) (JL_nil ?_)))
  refine J_cond Sr (fun h57 => ?_) (fun h57 => ?_)
  ·
   try simp only [NF] at h57
   have hjl : j < (nth ts k).length := by omega
   refine J_skip (J_seq (J_block ?_))
   refine J_draw [⟨0, [12], true⟩, ⟨1, [1], true⟩, ⟨2, [11], true⟩, ⟨3, [61, 62], true⟩, ⟨4, [63], true⟩, ⟨5, [1], true⟩, ⟨6, [11], true⟩, ⟨7, [65, 66], true⟩, ⟨8, [67], true⟩, ⟨9, [68], true⟩, ⟨10, [69], true⟩, ⟨11, [13], true⟩, ⟨12, [70, 71], true⟩, ⟨13, [64, 72], true⟩, ⟨14, [73], true⟩, ⟨15, [74], true⟩, ⟨16, [60, 75], false⟩, ⟨17, [76], true⟩] rfl (by kernel_rfl) ?_
   refine Mv rfl rfl (Mv rfl rfl (Mv rfl rfl ?_))
   refine Mf rfl rfl (step_indexAddr_sl (i := k) underlying61 ty73 Sr Sr (by rfl) (gb (by exact hkl))) ?_
   refine Mf rfl rfl (step_load_ptr ty73 Sr) (Mv rfl rfl (Mv rfl rfl ?_))
   refine Mf rfl rfl (step_indexAddr_sl (i := k) underlying61 ty73 Sr Sr (by rfl) (gb (by exact hkl))) ?_
   refine Mf rfl rfl (step_load_ptr ty73 Sr) (Mf rfl rfl (step_len_sl underlying73 Sr) ?_)
   refine Mf rfl rfl (step_sub Sr Sr (by have := hl1 _ (nth_mem hkl); unfold in64; omega)) ?_
   refine Mv rfl rfl ?_
   refine Mf rfl rfl (step_sub Sr Sr (by have := hl1 _ (nth_mem hkl); unfold in64; omega)) ?_
   refine Mf rfl rfl (step_indexAddr_sl (i := ((nth ts k).length - 1 - j)) underlying73 ty22 Sr Sr zG (gb (by show _ < (nth ts k).length; omega))) ?_
   refine Mf rfl rfl (step_load_ptr ty22 Sr) ?_
   refine Mf rfl rfl (step_literal (ys := [nth (nth ts k) ((nth ts k).length - 1 - j)]) underlying73 el22 ⟨rfl, Sr, trivial⟩ rfl (by decide)) ?_
   refine JM_stepX rfl rfl rfl rfl (step_append underlying73 el22 Sr Sr zS (by simp; omega) (by simp; omega)) fun v76 => ?_
   refine Mf rfl rfl (step_assign Sr) (JM_nil (J_region (Jm rfl (Js rfl (step_add Sr Sr z6) (Ja rfl ?_)))))
   refine JL_nil ?_
   refine K_againL (σ := Nat × Value) (s := (j, vl)) (j + 1, v76) zO (by show j + 1 ≤ _; omega) (zU) (.c zS (SPs.of (by rw [rev_take hjl])) (zL))
  try simp only [NF] at h57
  obtain rfl : j = (nth ts k).length := by omega
  refine J_exit (J_region (Jm rfl ?_))
  by_cases hk0 : k = 0
  ·
   skip
   refine Jm rfl ?_
   refine Js rfl (step_literal (R := rSO (rSl rValue)) (ys := [SO.raw vl]) underlying61 el73S ⟨rfl, Sr, trivial⟩ rfl (by decide)) ?_
   refine Jx rfl (step_append underlying61 el73S Sr Sr zS (by rw [bk_len]; simp; omega) (by rw [bk_len]; simp; omega)) fun v80 => ?_
   refine Ja rfl (JL_nil (J_region (Jm rfl (Js rfl (step_add Sr Sr z6) (Ja rfl ?_)))))
   refine JL_nil ?_
   subst hk0
   refine K_drop (S := [own 22 (rSl rValue) v0 (if 0 = 0 then [] else (nth ts 0).reverse)]) zS ?_
   refine K_againL (σ := Nat × Value × Value) (s := (0, vo, v0)) (0 + 1, v80, vl) ((by show ts.length - (0 + 1) < ts.length - 0; omega)) (by show 0 + 1 ≤ _; omega) (zU) (.c zS (SPs.of (by rfl)) (.c zS (SPs.of (by rw [if_neg zG, ← List.length_reverse, List.take_length])) LSub.nil))
  skip
  refine JL_freeze (t := 12) (A' := tSl (rSl rValue) (nth ts k).reverse) (Sel.take (Sel.none _)) (Frz.own' (by rw [← List.length_reverse, List.take_length])) ?_
  refine Jm rfl ?_
  refine Js rfl (step_literal (R := rSO (rSl rValue)) (ys := [SO.imm (nth ts k).reverse]) underlying61 el73S ⟨rfl, Sr, trivial⟩ rfl (by decide)) ?_
  refine Jx rfl (step_append underlying61 el73S Sr Sr zS (by rw [bk_len]; simp; omega) (by rw [bk_len]; simp; omega)) fun v80 => ?_
  refine Ja rfl (JL_nil (J_region (Jm rfl (Js rfl (step_add Sr Sr z6) (Ja rfl ?_)))))
  refine JL_nil ?_
  refine K_againL (σ := Nat × Value × Value) (s := (k, vo, v0)) (k + 1, v80, v0) zO (by show k + 1 ≤ _; omega) (zU) (.c zS (SPs.of (by rw [bk_succ hk0])) (.c zS (SPs.of (by rw [if_neg hk0, if_neg zG])) LSub.nil))
 try simp only [NF] at h48
 obtain rfl : k = ts.length := by omega
 refine K_lsub (L' := [own 73 (rSO (rSl rValue)) vo (bkS ts ts.length v0), own 22 (rSl rValue) v0 (nth ts 0).reverse]) (.r zS (.c zS (SPs.of (by rw [if_neg zG])) (LSub.nil))) ?_
 refine J_exit (Jr (Jl rfl ty41 Sr (Jm rfl ?_)))
 refine Js rfl (step_call_lookS (Sel.take (Sel.take (Sel.none _))) (StatisticsE_spec s hsm.z hst1 (backT ts) hl2 hr2) (fun _ => OffS.two (off_stats (by decide) (by decide)) (off_stats (by decide) (by decide))) ⟨Frz.sub Sr, Frz.soOwn bk_cases (bk_back h0l), trivial⟩ call36) ?_
 refine Jm rfl (Js rfl (step_extract Sr rfl) (Js rfl (step_extract Sr rfl) ?_))
 refine Jx rfl (step_alloc (fun w => zeroValue60 w) zr60) fun b14 => ?_
 refine Ju (step_store_box ty60 Sr Sub.statsE zS) fun _ => ?_
 refine JL_freeze (t := 14) (Sel.take (Sel.none _)) Frz.box ?_
 refine Ja rfl (JL_nil (J_seq (Jr (Jm rfl (Jm rfl ?_)))))
 refine Js rfl (step_neq Sr Sr) (Jm rfl ?_)
 refine Jk rfl Sr rfl (step_load_ptr ty60 Sr) ?_
 refine Jk rfl Sr rfl (step_load_ptr ty60 Sr) ?_
 refine Jg rfl Sr rfl (fun hw => step_call0 (SameStats_spec (statM s ts) (statM s (backT ts)) ⟨by omega, by omega, fun d hd => by have := hsb.2.2 d hd; omega⟩) ⟨(Sub.w hw), (Sub.w hw), trivial⟩ call42) ?_
 refine Jg rfl Sr rfl (fun hw => step_not (Sub.w hw)) (Js rfl (step_pick_or Sr Sr) (Jm rfl ?_))
 refine Jk rfl Sr rfl (step_move Sr) ?_
 refine Jg rfl Sr rfl (fun hw => step_neq (Sub.w hw) Sr) (Jg rfl Sr rfl (fun hw => step_move (Sub.w hw)) ?_)
 refine Ji rfl Sr rfl (step_move Sr) ?_
 refine Jh rfl Sr rfl (fun hw => step_neq (Sub.w hw) Sr) (Jg rfl Sr rfl (fun hw => step_pick_and (Sub.w hw) (Sub.ww hw)) (Js rfl (step_pick_or Sr Sr) (JL_nil ?_)))
 refine J_cond Sr (fun h103 => ?_) (fun h103 => ?_)
 ·
  try simp only [NF] at h103
  exfalso; rw [hbs.1, hbs.2] at h103; rcases hor with e | e <;> simp [e] at h103
 try simp only [NF] at h103
 have hok := h103
 refine J_skip (Jr (Jm rfl (Jm rfl ?_)))
 refine Js rfl (step_indexAddr_own (i := 0) underlying61 ty73S Sr zS Sr rfl (by rw [bk_len]; exact h0l)) ?_
 refine Js rfl (step_load_own (y := SO.raw v0) ty73S Sr zS (bk_at h0l)) ?_
 refine Jm rfl (Jm rfl ?_)
 refine Js rfl (step_literal (ys := [row, row]) underlying73 el22 ⟨rfl, Sr, rfl, Sr, trivial⟩ rfl (by decide)) ?_
 refine Jx rfl (step_append underlying73 el22 Sr Sr zS (by have := (htr _ (nth_mem h0l)).1; simp; omega) (by have := (htr _ (nth_mem h0l)).1; simp; omega)) fun v111 => ?_
 refine Js rfl (step_indexAddr_own (i := 0) underlying61 ty73S Sr zS Sr rfl (by rw [bk_len]; exact h0l)) ?_
 refine Ju (step_store_own (y := SO.raw v111) ty73S Sr Sr zS (by rw [bk_len]; exact h0l)) fun _ => ?_
 refine JL_nil ?_
 refine K_lsub (L' := [own 73 (rSO (rSl rValue)) vo (bkS ts ts.length v111), own 22 (rSl rValue) v111 ((nth ts 0).reverse ++ [row, row])]) (.c zS (SPs.of (by rw [bk_set])) (zL)) ?_
 refine J_seq ?_
 refine K_freeze (t := 10) (A' := tSl (rSl (rSl rValue)) (moreT ts row)) (Sel.take (Sel.take (Sel.none _))) (Frz.soOwn bk_cases (bk_more h0l)) ?_
 refine J_region (Jl rfl ty41 Sr (Jm rfl (Js rfl (step_call0 (Statistics_spec s hsm.z hst1 (moreT ts row) hl3 hr3) ⟨Sr, Sr, trivial⟩ call36) (Jm rfl (Js rfl (step_extract Sr rfl) ?_)))))
 refine Js rfl (step_extract Sr rfl) ?_
 refine Jx rfl (step_alloc (fun w => zeroValue60 w) zr60) fun b16 => ?_
 refine Ju (step_store_box ty60 Sr Sr zS) fun _ => ?_
 refine JL_freeze (t := 16) (Sel.take (Sel.none _)) Frz.box ?_
 refine Ja rfl (JL_nil (J_seq (Jr (Jm rfl (Js rfl (step_neq Sr Sr) ?_)))))
 refine Jm rfl ?_
 refine Jk rfl Sr rfl (step_move Sr) ?_
 refine Jg rfl Sr rfl (fun hw => step_neq (Sub.w hw) Sr) (Js rfl (step_pick_or Sr Sr) (JL_nil ?_))
 refine J_cond Sr (fun h124 => ?_) (fun h124 => ?_)
 ·
  try simp only [NF] at h124
  refine Jr (Jm rfl (Jm rfl ?_))
  refine Jk rfl Sr rfl (step_move Sr) ?_
  refine Jg rfl Sr rfl (fun hw => step_eql (Sub.w hw) Sr) (Jg rfl Sr rfl (fun hw => step_move (Sub.w hw)) ?_)
  refine Ji rfl Sr rfl (step_move Sr) ?_
  refine Jh rfl Sr rfl (fun hw => step_neq (Sub.w hw) Sr) (Jg rfl Sr rfl (fun hw => step_pick_or (Sub.w hw) (Sub.ww hw)) (Js rfl (step_pick_and Sr Sr) (Ja rfl (JL_nil (J_ret ?_)))))
  refine K_ret1 (t := 6) rfl () (Sub.bool ?_)
  have hq := more_err (row := row) (s := s) h0l
  by_cases e : statE s ts = 0
  ·
   simp [e]
  simp [e, hq e]
 try simp only [NF] at h124
 have hE1 : statE s ts = 0 := h124.1
 have hE2 : statE s (moreT ts row) = 0 := h124.2
 have hF := stat_law h0l hE1 hE2
 refine J_skip (J_seq (Jr (Js rfl (step_fieldAddr so60 Sr rfl) (Jl rfl ty36 Sr (Js rfl (step_len_sl underlying36 Sr) ?_)))))
 refine Jm rfl (Js rfl (step_len_sl underlying61 Sr) (Js rfl (step_neq Sr Sr) (Jm rfl ?_)))
 refine Jk rfl Sr rfl (step_fieldAddr so60 Sr rfl) ?_
 refine Jg rfl Sr rfl (fun hw => step_load_ptr ty36 (Sub.w hw)) (Jg rfl Sr rfl (fun hw => step_len_sl underlying36 (Sub.w hw)) ?_)
 refine Jk rfl Sr rfl (step_move Sr) ?_
 refine Jg rfl Sr rfl (fun hw => step_len_sl underlying61 (Sub.w hw)) (Jg rfl Sr rfl (fun hw => step_neq (Sub.w hw) (Sub.w hw)) (Js rfl (step_pick_or Sr Sr) (Jm rfl ?_)))
 refine Jk rfl Sr rfl (step_fieldAddr so60 Sr rfl) ?_
 refine Jg rfl Sr rfl (fun hw => step_load_ptr ty58 (Sub.w hw)) (Jg rfl Sr rfl (fun hw => step_len_sl underlying58 (Sub.w hw)) ?_)
 refine Jk rfl Sr rfl (step_move Sr) ?_
 refine Jg rfl Sr rfl (fun hw => step_len_sl underlying61 (Sub.w hw)) (Jg rfl Sr rfl (fun hw => step_neq (Sub.w hw) (Sub.w hw)) (Js rfl (step_pick_or Sr Sr) (Jm rfl ?_)))
 refine Jk rfl Sr rfl (step_fieldAddr so60 Sr rfl) ?_
 refine Jg rfl Sr rfl (fun hw => step_load_ptr ty58 (Sub.w hw)) (Jg rfl Sr rfl (fun hw => step_len_sl underlying58 (Sub.w hw)) ?_)
 refine Jk rfl Sr rfl (step_move Sr) ?_
 refine Jg rfl Sr rfl (fun hw => step_len_sl underlying61 (Sub.w hw)) (Jg rfl Sr rfl (fun hw => step_neq (Sub.w hw) (Sub.w hw)) (Js rfl (step_pick_or Sr Sr) (JL_nil ?_)))
 refine J_cond Sr (fun h163 => ?_) (fun h163 => ?_)
 ·
  try simp only [NF] at h163
  exfalso; have := hF.l1; have := hF.l2; have := hF.l3; have := hF.l4; rcases h163 with ((h | h) | h) | h <;> omega
 try simp only [NF] at h163
 refine J_skip (J_seq (Jr (Ja rfl (JL_nil (J_block ?_)))))
 refine J_loopL (σ := Nat) (fun i => i ≤ ts.length) (fun i => upd (upd (upd (upd (upd env0 1 (tSl (rSl (rSl rValue)) ts)) 7 (tV (.bool true))) 8 (tPtr rStats (statM s ts))) 16 (tPtr rStats (statM s (moreT ts row)))) 18 (tV (.int .i64 i))) (fun i => []) (fun i => ts.length - i) 0 (by exact Nat.zero_le _) (zU) (LSub.rfl) ?_
 rintro i hi
 refine J_seq (Jr (Jm rfl (Jm rfl (Js rfl (step_len_sl underlying61 Sr) (Js rfl (step_lss Sr Sr) ?_)))))
 refine JL_nil ?_
 refine J_cond Sr (fun h167 => ?_) (fun h167 => ?_)
 ·
  try simp only [NF] at h167
  have hlt : i < ts.length := by omega
  have hd20 := hsa.2.2 _ (nth_mem (show i < (statM s ts).Distinct.length by rw [hF.l3]; exact hlt))
  refine J_skip (J_seq (J_block (J_seq (J_seq ?_))))
  refine J_draw [⟨0, [16], true⟩, ⟨1, [170], true⟩, ⟨2, [18], true⟩, ⟨3, [171, 172], true⟩, ⟨4, [173], true⟩, ⟨5, [8], true⟩, ⟨6, [175], true⟩, ⟨7, [18], true⟩, ⟨8, [176, 177], true⟩, ⟨9, [178], true⟩, ⟨10, [174, 179], true⟩, ⟨11, [180], true⟩, ⟨12, [16, 181], true⟩, ⟨13, [181, 182], true⟩, ⟨14, [18, 181], true⟩, ⟨15, [181, 183, 184], true⟩, ⟨16, [181, 185], true⟩, ⟨17, [8, 181], true⟩, ⟨18, [181, 187], true⟩, ⟨19, [18, 181], true⟩, ⟨20, [181, 188, 189], true⟩, ⟨21, [181, 190], true⟩, ⟨22, [181, 191], true⟩, ⟨23, [181, 186, 192], true⟩, ⟨24, [181, 193], true⟩, ⟨25, [194], true⟩, ⟨26, [18, 195], true⟩, ⟨27, [195, 196], true⟩, ⟨28, [195, 197], true⟩, ⟨29, [16, 198], true⟩, ⟨30, [198, 199], true⟩, ⟨31, [18, 198], true⟩, ⟨32, [198, 200, 201], true⟩, ⟨33, [198, 202], true⟩, ⟨34, [8, 198], true⟩, ⟨35, [198, 204], true⟩, ⟨36, [18, 198], true⟩, ⟨37, [198, 205, 206], true⟩, ⟨38, [198, 207], true⟩, ⟨39, [198, 203, 208], true⟩, ⟨40, [195, 198, 209], true⟩, ⟨41, [195, 210], true⟩, ⟨42, [211], true⟩, ⟨43, [8, 212], true⟩, ⟨44, [212, 213], true⟩, ⟨45, [18, 212], true⟩, ⟨46, [212, 214, 215], true⟩, ⟨47, [212, 216], true⟩, ⟨48, [1, 212], true⟩, ⟨49, [18, 212], true⟩, ⟨50, [212, 218, 219], true⟩, ⟨51, [212, 220], true⟩, ⟨52, [212, 221], true⟩, ⟨53, [212, 217, 222], true⟩, ⟨54, [212, 223], true⟩, ⟨55, [224], true⟩, ⟨56, [8, 225], true⟩, ⟨57, [225, 226], true⟩, ⟨58, [18, 225], true⟩, ⟨59, [225, 227, 228], true⟩, ⟨60, [225, 229], true⟩, ⟨61, [225, 230], true⟩, ⟨62, [16, 225], true⟩, ⟨63, [225, 232], true⟩, ⟨64, [18, 225], true⟩, ⟨65, [225, 233, 234], true⟩, ⟨66, [225, 235], true⟩, ⟨67, [225, 236], true⟩, ⟨68, [225, 231, 237], true⟩, ⟨69, [225, 238], true⟩] rfl (by kernel_rfl) ?_
  refine Mf rfl rfl (step_fieldAddr so60 Sr rfl) (Mf rfl rfl (step_load_ptr ty36 Sr) (Mv rfl rfl ?_))
  refine Mf rfl rfl (step_indexAddr_sl (i := i) underlying36 ty3 Sr Sr (by rfl) (gb (by rw [hF.l2]; exact hlt))) ?_
  refine Mf rfl rfl (step_load_ptr ty3 Sr) (Mf rfl rfl (step_fieldAddr so60 Sr rfl) (Mf rfl rfl (step_load_ptr ty36 Sr) (Mv rfl rfl ?_)))
  refine Mf rfl rfl (step_indexAddr_sl (i := i) underlying36 ty3 Sr Sr (by rfl) (gb (by rw [hF.l1]; exact hlt))) ?_
  refine Mf rfl rfl (step_load_ptr ty3 Sr) (Mf rfl rfl (step_lss Sr Sr) (Mv rfl rfl ?_))
  refine Mk rfl rfl Sr rfl (step_fieldAddr so60 Sr rfl) ?_
  refine Mg rfl rfl Sr rfl (fun hw => step_load_ptr ty36 (Sub.w hw)) ?_
  refine Mk rfl rfl Sr rfl (step_move Sr) ?_
  refine Mg rfl rfl Sr rfl (fun hw => step_indexAddr_sl (i := i) underlying36 ty3 (Sub.w hw) (Sub.w hw) (by rfl) (gb (by have hwq := hw; (try simp only [beqB_t, beqB_f, NF] at hwq); rw [hF.l2]; exact hlt))) ?_
  refine Mg rfl rfl Sr rfl (fun hw => step_load_ptr ty3 (Sub.w hw)) ?_
  refine Mk rfl rfl Sr rfl (step_fieldAddr so60 Sr rfl) ?_
  refine Mg rfl rfl Sr rfl (fun hw => step_load_ptr ty36 (Sub.w hw)) ?_
  refine Mk rfl rfl Sr rfl (step_move Sr) ?_
  refine Mg rfl rfl Sr rfl (fun hw => step_indexAddr_sl (i := i) underlying36 ty3 (Sub.w hw) (Sub.w hw) (by rfl) (gb (by have hwq := hw; (try simp only [beqB_t, beqB_f, NF] at hwq); rw [hF.l1]; exact hlt))) ?_
  refine Mg rfl rfl Sr rfl (fun hw => step_load_ptr ty3 (Sub.w hw)) ?_
  refine Mg rfl rfl Sr rfl (fun hw => step_add (Sub.w hw) Sr (by have := hF.r i hlt; have := hl1 _ (nth_mem hlt); show in64 (nth (statM s ts).Rows i + 1); unfold in64; omega)) ?_
  refine Mg rfl rfl Sr rfl (fun hw => step_gtr (Sub.w hw) (Sub.w hw)) (Mf rfl rfl (step_pick_or Sr Sr) (Mv rfl rfl ?_))
  refine Mk rfl rfl Sr rfl (step_move Sr) ?_
  refine Mg rfl rfl Sr rfl (fun hw => step_gtr (Sub.w hw) Sr) (Mg rfl rfl Sr rfl (fun hw => step_move (Sub.w hw)) ?_)
  refine JM_stepG rfl rfl rfl rfl (Gd.nest Sr) rfl rfl (fun hw _ => step_fieldAddr so60 Sr rfl) ?_
  refine JM_stepG rfl rfl rfl rfl (Gd.nest Sr) rfl rfl (fun hw _ => step_load_ptr ty36 (Sub.w hw)) ?_
  refine JM_stepG rfl rfl rfl rfl (Gd.nest Sr) rfl rfl (fun hw _ => step_move Sr) ?_
  refine JM_stepG rfl rfl rfl rfl (Gd.nest Sr) rfl rfl (fun hw _ => step_indexAddr_sl (i := i) underlying36 ty3 (Sub.w hw) (Sub.w hw) (by rfl) (gb (by have hwq := hw; (try simp only [beqB_t, beqB_f, NF] at hwq); rw [hF.l2]; exact hlt))) ?_
  refine JM_stepG rfl rfl rfl rfl (Gd.nest Sr) rfl rfl (fun hw _ => step_load_ptr ty3 (Sub.w hw)) ?_
  refine JM_stepG rfl rfl rfl rfl (Gd.nest Sr) rfl rfl (fun hw _ => step_fieldAddr so60 Sr rfl) ?_
  refine JM_stepG rfl rfl rfl rfl (Gd.nest Sr) rfl rfl (fun hw _ => step_load_ptr ty36 (Sub.w hw)) ?_
  refine JM_stepG rfl rfl rfl rfl (Gd.nest Sr) rfl rfl (fun hw _ => step_move Sr) ?_
  refine JM_stepG rfl rfl rfl rfl (Gd.nest Sr) rfl rfl (fun hw _ => step_indexAddr_sl (i := i) underlying36 ty3 (Sub.w hw) (Sub.w hw) (by rfl) (gb (by have hwq := hw; (try simp only [beqB_t, beqB_f, NF] at hwq); rw [hF.l1]; exact hlt))) ?_
  refine JM_stepG rfl rfl rfl rfl (Gd.nest Sr) rfl rfl (fun hw _ => step_load_ptr ty3 (Sub.w hw)) ?_
  refine JM_stepG rfl rfl rfl rfl (Gd.nest Sr) rfl rfl (fun hw _ => step_neq (Sub.w hw) (Sub.w hw)) ?_
  refine Mg rfl rfl Sr rfl (fun hw => step_pick_and (Sub.w hw) (Sub.ww hw)) (Mf rfl rfl (step_pick_or Sr Sr) (Mv rfl rfl ?_))
  refine Mk rfl rfl Sr rfl (step_fieldAddr so60 Sr rfl) ?_
  refine Mg rfl rfl Sr rfl (fun hw => step_load_ptr ty36 (Sub.w hw)) ?_
  refine Mk rfl rfl Sr rfl (step_move Sr) ?_
  refine Mg rfl rfl Sr rfl (fun hw => step_indexAddr_sl (i := i) underlying36 ty3 (Sub.w hw) (Sub.w hw) (by rfl) (gb (by have hwq := hw; (try simp only [beqB_t, beqB_f, NF] at hwq); rw [hF.l1]; exact hlt))) ?_
  refine Mg rfl rfl Sr rfl (fun hw => step_load_ptr ty3 (Sub.w hw)) ?_
  refine Mk rfl rfl Sr rfl (step_move Sr) ?_
  refine Mk rfl rfl Sr rfl (step_move Sr) ?_
  refine Mg rfl rfl Sr rfl (fun hw => step_indexAddr_sl (i := i) underlying61 ty73 (Sub.w hw) (Sub.w hw) (by rfl) (gb (by have hwq := hw; (try simp only [beqB_t, beqB_f, NF] at hwq); exact hlt))) ?_
  refine Mg rfl rfl Sr rfl (fun hw => step_load_ptr ty73 (Sub.w hw)) (Mg rfl rfl Sr rfl (fun hw => step_len_sl underlying73 (Sub.w hw)) (Mg rfl rfl Sr rfl (fun hw => step_gtr (Sub.w hw) (Sub.w hw)) (Mf rfl rfl (step_pick_or Sr Sr) (Mv rfl rfl ?_))))
  refine Mk rfl rfl Sr rfl (step_fieldAddr so60 Sr rfl) ?_
  refine Mg rfl rfl Sr rfl (fun hw => step_load_ptr ty58 (Sub.w hw)) ?_
  refine Mk rfl rfl Sr rfl (step_move Sr) ?_
  refine Mg rfl rfl Sr rfl (fun hw => step_indexAddr_sl (i := i) underlying58 ty36 (Sub.w hw) (Sub.w hw) (by rfl) (gb (by have hwq := hw; (try simp only [beqB_t, beqB_f, NF] at hwq); rw [hF.l3]; exact hlt))) ?_
  refine Mg rfl rfl Sr rfl (fun hw => step_load_ptr ty36 (Sub.w hw)) (Mg rfl rfl Sr rfl (fun hw => step_len_sl underlying36 (Sub.w hw)) ?_)
  refine Mk rfl rfl Sr rfl (step_fieldAddr so60 Sr rfl) ?_
  refine Mg rfl rfl Sr rfl (fun hw => step_load_ptr ty58 (Sub.w hw)) ?_
  refine Mk rfl rfl Sr rfl (step_move Sr) ?_
  refine Mg rfl rfl Sr rfl (fun hw => step_indexAddr_sl (i := i) underlying58 ty36 (Sub.w hw) (Sub.w hw) (by rfl) (gb (by have hwq := hw; (try simp only [beqB_t, beqB_f, NF] at hwq); rw [hF.l4]; exact hlt))) ?_
  refine Mg rfl rfl Sr rfl (fun hw => step_load_ptr ty36 (Sub.w hw)) (Mg rfl rfl Sr rfl (fun hw => step_len_sl underlying36 (Sub.w hw)) (Mg rfl rfl Sr rfl (fun hw => step_neq (Sub.w hw) (Sub.w hw)) (Mf rfl rfl (step_pick_or Sr Sr) (JM_nil ?_))))
  refine J_cond Sr (fun h239 => ?_) (fun h239 => ?_)
  ·
   try simp only [NF] at h239
   exfalso; have hf := hF.r i hlt; have q4 := hf.2.2.2.1; rcases h239 with (((h | h) | ⟨h, h2⟩) | h) | h <;> omega
  try simp only [NF] at h239
  refine J_skip (Jr (Ja rfl (JL_nil (J_block ?_))))
  refine J_loopL (σ := Nat) (fun m => m ≤ (nth (statM s ts).Distinct i).length) (fun m => upd (upd (upd (upd (upd (upd env0 1 (tSl (rSl (rSl rValue)) ts)) 7 (tV (.bool true))) 8 (tPtr rStats (statM s ts))) 16 (tPtr rStats (statM s (moreT ts row)))) 18 (tV (.int .i64 i))) 19 (tV (.int .i64 m))) (fun m => []) (fun m => (nth (statM s ts).Distinct i).length - m) 0 (by exact Nat.zero_le _) (zU) (LSub.rfl) ?_
  rintro m hm
  refine J_seq (Jr (Jm rfl (Js rfl (step_fieldAddr so60 Sr rfl) (Jl rfl ty58 Sr (Jm rfl ?_)))))
  refine Js rfl (step_indexAddr_sl (i := i) underlying58 ty36 Sr Sr (by rfl) (gb (by rw [hF.l3]; exact hlt))) ?_
  refine Jl rfl ty36 Sr (Js rfl (step_len_sl underlying36 Sr) (Js rfl (step_lss Sr Sr) (JL_nil ?_)))
  refine J_cond Sr (fun h247 => ?_) (fun h247 => ?_)
  ·
   try simp only [NF] at h247
   have hmt : m < (nth (statM s ts).Distinct i).length := by omega
   refine J_skip (J_seq (J_block (Jr (Js rfl (step_fieldAddr so60 Sr rfl) (Jl rfl ty58 Sr ?_)))))
   refine Jm rfl ?_
   refine Js rfl (step_indexAddr_sl (i := i) underlying58 ty36 Sr Sr (by rfl) (gb (by rw [hF.l3]; exact hlt))) ?_
   refine Jl rfl ty36 Sr (Jm rfl ?_)
   refine Js rfl (step_indexAddr_sl (i := m) underlying36 ty3 Sr Sr (by rfl) (gb (by exact hmt))) ?_
   refine Jl rfl ty3 Sr (Ja rfl (JL_nil (Jr (Js rfl (step_fieldAddr so60 Sr rfl) (Jl rfl ty58 Sr ?_)))))
   refine Jm rfl ?_
   refine Js rfl (step_indexAddr_sl (i := i) underlying58 ty36 Sr Sr (by rfl) (gb (by rw [hF.l4]; exact hlt))) ?_
   refine Jl rfl ty36 Sr (Jm rfl ?_)
   refine Js rfl (step_indexAddr_sl (i := m) underlying36 ty3 Sr Sr (by rfl) (gb (by rw [← (hF.r i hlt).2.2.2.2.2.1]; exact hmt))) ?_
   refine Jl rfl ty3 Sr (Ja rfl (JL_nil (Jr (Jm rfl (Js rfl (step_lss Sr Sr) ?_)))))
   refine Jm rfl ?_
   refine Jk rfl Sr rfl (step_move Sr) ?_
   refine Jk rfl Sr rfl (step_fieldAddr so60 Sr rfl) ?_
   refine Jg rfl Sr rfl (fun hw => step_load_ptr ty36 (Sub.w hw)) ?_
   refine Jk rfl Sr rfl (step_move Sr) ?_
   refine Jg rfl Sr rfl (fun hw => step_indexAddr_sl (i := i) underlying36 ty3 (Sub.w hw) (Sub.w hw) (by rfl) (gb (by have hwq := hw; (try simp only [beqB_t, beqB_f, NF] at hwq); rw [hF.l1]; exact hlt))) ?_
   refine Jg rfl Sr rfl (fun hw => step_load_ptr ty3 (Sub.w hw)) (Jg rfl Sr rfl (fun hw => step_gtr (Sub.w hw) (Sub.w hw)) (Js rfl (step_pick_or Sr Sr) (Jm rfl ?_)))
   refine Jk rfl Sr rfl (step_move Sr) ?_
   refine Jk rfl Sr rfl (step_move Sr) ?_
   refine Jg rfl Sr rfl (fun hw => step_lss (Sub.w hw) (Sub.w hw)) (Js rfl (step_pick_or Sr Sr) (Jm rfl ?_))
   refine Jk rfl Sr rfl (step_move Sr) ?_
   refine Jk rfl Sr rfl (step_move Sr) ?_
   refine Jg rfl Sr rfl (fun hw => step_add (Sub.w hw) Sr (by have := (hF.r i hlt).2.2.2.2.2.2 m hmt; have := hF.r i hlt; have := hl1 _ (nth_mem hlt); show in64 (nth (nth (statM s ts).Distinct i) m + 1); unfold in64; omega)) ?_
   refine Jg rfl Sr rfl (fun hw => step_gtr (Sub.w hw) (Sub.w hw)) (Js rfl (step_pick_or Sr Sr) (Jm rfl ?_))
   refine Jk rfl Sr rfl (step_move Sr) ?_
   refine Jg rfl Sr rfl (fun hw => step_gtr (Sub.w hw) Sr) (Jg rfl Sr rfl (fun hw => step_move (Sub.w hw)) ?_)
   refine Ji rfl Sr rfl (step_move Sr) ?_
   refine Ji rfl Sr rfl (step_move Sr) ?_
   refine Jh rfl Sr rfl (fun hw => step_neq (Sub.w hw) (Sub.w hw)) (Jg rfl Sr rfl (fun hw => step_pick_and (Sub.w hw) (Sub.ww hw)) (Js rfl (step_pick_or Sr Sr) (JL_nil ?_)))
   refine J_cond Sr (fun h296 => ?_) (fun h296 => ?_)
   ·
    try simp only [NF] at h296
    exfalso; have hf := hF.r i hlt; have hg := hf.2.2.2.2.2.2 m hmt; have q4 := hg.2.2.2.2; rcases h296 with (((h | h) | h) | h) | ⟨h, h2⟩ <;> omega
   try simp only [NF] at h296
   refine J_skip (J_region (Jm rfl (Js rfl (step_add Sr Sr z6) (Ja rfl (JL_nil ?_)))))
   refine K_againL (σ := Nat) (s := m) (m + 1) zO zG (zU) (LSub.rfl)
  try simp only [NF] at h247
  refine J_exit (J_region (Jm rfl (Js rfl (step_add Sr Sr z6) (Ja rfl (JL_nil ?_)))))
  refine K_againL (σ := Nat) (s := i) (i + 1) zO zG (zU) (LSub.rfl)
 try simp only [NF] at h167
 refine J_exit (Jr (Jm rfl (Ja rfl (JL_nil (J_ret ?_)))))
 refine K_ret1 (t := 6) rfl () (Sub.bool ?_)
 rfl
end Lg
