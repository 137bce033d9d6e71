/- Walks of the reference: valid schemas and queries. -/
import Derived.Test.YtgaclpkapapjdaaGreatDoorG
set_option linter.unusedVariables false
set_option linter.unusedSimpArgs false
set_option linter.unusedSectionVars false
namespace Lg
open Go Go.Proofs Go.Proofs.Tryz
theorem findI_from {α : Type} [Inhabited α] {p : α → Bool} : ∀ {l : List α} {i : Nat} {s : Int}, i < l.length → (∀ k, k < i → p (nth l k) = false) → p (nth l i) = true → findI p s l = s + i
  | [], i, s, h, _, _ => absurd h (Nat.not_lt_zero _)
  | x :: l, 0, s, _, _, hp => by
    have : p x = true := hp
    simp [findI, this]
  | x :: l, i + 1, s, h, hn, hp => by
    have h0 : p x = false := hn 0 (by omega)
    have := findI_from (p := p) (l := l) (i := i) (s := s + 1) (by simpa using h) (fun k hk => hn (k + 1) (by omega)) hp
    simp [findI, h0, this]; omega
theorem findI_at {α : Type} [Inhabited α] {p : α → Bool} {l : List α} {i : Nat} (h : i < l.length) (hn : ∀ k, k < i → p (nth l k) = false) (hp : p (nth l i) = true) : findI p 0 l = i := by
  rw [findI_from h hn hp]; omega
theorem findI_no {α : Type} [Inhabited α] {p : α → Bool} {l : List α} (hn : ∀ k, k < l.length → p (nth l k) = false) : findI p 0 l = -1 := by
  have h := findI_bd p l 0 (by omega)
  have : ¬ l.any p = true := by
    intro q
    obtain ⟨x, hx, hp⟩ := List.any_eq_true.1 q
    obtain ⟨k, hk, rfl⟩ := List.getElem_of_mem hx
    have := hn k hk
    rw [nth_get hk] at this; rw [this] at hp; cases hp
  have := mt h.2.2.1 this
  omega
theorem nodup_nth {l : List ByteArray} (h : ∀ k j, j < k → k < l.length → nth l j ≠ nth l k) : l.Nodup := by
  refine List.pairwise_iff_getElem.2 fun i j hi hj hij => ?_
  have := h j i hij hj
  rwa [nth_get hi, nth_get hj] at this
theorem nodup_not {l : List ByteArray} {j k : Nat} (hjk : j < k) (hk : k < l.length) (e : nth l j = nth l k) : ¬ l.Nodup := by
  intro h
  have := List.pairwise_iff_getElem.1 h j k (by omega) hk hjk
  rw [nth_get (by omega), nth_get hk] at e
  exact this e
theorem size_pos (s : ByteArray) : decide (1 ≤ (s.size : Int)) = !decide (s = ⟨#[]⟩) := by
  by_cases h : s = ⟨#[]⟩
  · subst h; rfl
  · have : s.size ≠ 0 := by
      intro q
      apply h
      obtain ⟨⟨l⟩⟩ := s
      simp only [ByteArray.size, Array.size] at q
      have : l = [] := List.eq_nil_of_length_eq_zero q
      rw [this]
    rw [show decide (1 ≤ (s.size : Int)) = true by rw [decide_eq_true_eq]; omega]; simp [h]
theorem rKind_spec (k : Int) : Fun1 prog 214 [tV (.int .i64 k)] (tV (.bool (decide (1 ≤ k) && decide (k ≤ 4)))) := by
 refine Spec.enter func214 rfl rfl fun h0 w0 fr0 => ?_
 refine Jr (Ja rfl (JL_nil (Jr (Jm rfl (Js rfl (step_geq Sr Sr) ?_)))))
 refine Jm rfl ?_
 refine Jk rfl Sr rfl (step_move Sr) ?_
 refine Jg rfl Sr rfl (fun hw => step_leq (Sub.w hw) Sr) (Js rfl (step_pick_and Sr Sr) (Ja rfl (JL_nil (J_ret ?_))))
 exact K_ret1 (t := 2) rfl () Sr
theorem rFit_spec (kind : Int) (v : GValue) : Fun1 prog 143 [tV (.int .i64 kind), rValue.ty v] (tV (.bool (fitM kind v))) := by
 refine Spec.enter func143 rfl rfl fun h0 w0 fr0 => ?_
 refine Jr (Js rfl (step_box (R := rValue) Sr) (Ja rfl (JL_nil (Jr (Jl rfl ty87 Sr ?_)))))
 refine Js rfl (step_call0 (refValidV_spec _) ⟨Sr, trivial⟩ call75) (Jm rfl ?_)
 refine Jk rfl Sr rfl (step_fieldAddr so87 Sr rfl) ?_
 refine Jg rfl Sr rfl (fun hw => step_load_ptr ty3 (Sub.w hw)) (Jg rfl Sr rfl (fun hw => step_eql (Sub.w hw) Sr) (Jg rfl Sr rfl (fun hw => step_move (Sub.w hw)) ?_))
 refine Ji rfl Sr rfl (step_fieldAddr so87 Sr rfl) ?_
 refine Jh rfl Sr rfl (fun hw => step_load_ptr ty3 (Sub.w hw)) ?_
 refine Ji rfl Sr rfl (step_move Sr) ?_
 refine Jh rfl Sr rfl (fun hw => step_eql (Sub.w hw) (Sub.w hw)) (Jg rfl Sr rfl (fun hw => step_pick_or (Sub.w hw) (Sub.ww hw)) (Js rfl (step_pick_and Sr Sr) (Ja rfl (JL_nil (J_ret ?_)))))
 exact K_ret1 (t := 4) rfl () Sr
set_option maxHeartbeats 4000000 in
theorem rName_spec (s : ByteArray) (hs : s.size ≤ 9223372036854775807) : Fun1 prog 212 [tV (.string s)] (tV (.bool (nameM s))) := by
 refine Spec.enter func212 rfl rfl fun h0 w0 fr0 => ?_
 refine Jr (Ja rfl (JL_nil (J_seq (Jr (Ja rfl ?_)))))
 refine JL_nil (J_block ?_)
 refine J_loopL (σ := Nat) (fun i => i ≤ s.size ∧ ∀ k, k < i → nmC s k = true) (fun i => upd (upd env0 0 (tV (.string s))) 3 (tV (.int .i64 i))) (fun i => []) (fun i => s.size - i) 0 ⟨by omega, fun k hk => by omega⟩ (zU) (LSub.rfl) ?_
 rintro i ⟨hi, hv⟩
 refine J_seq (Jr (Jm rfl (Jm rfl (Js rfl (step_len_str underlying9 Sr) (Js rfl (step_lss Sr Sr) ?_)))))
 refine JL_nil ?_
 refine J_cond Sr (fun h9 => ?_) (fun h9 => ?_)
 ·
  try simp only [NF] at h9
  have hlt : i < s.size := by omega
  refine J_skip (J_seq (J_block (Jr (Jm rfl (Jm rfl ?_)))))
  refine Js rfl (step_index_str (i := i) underlying9 Sr Sr (by rfl) (by exact hlt)) ?_
  refine Js rfl (step_geq Sr Sr) (Jm rfl ?_)
  refine Jk rfl Sr rfl (step_move Sr) ?_
  refine Jk rfl Sr rfl (step_move Sr) ?_
  refine Jg rfl Sr rfl (fun hw => step_index_str (i := i) underlying9 (Sub.w hw) (Sub.w hw) (by rfl) (by have hwq := hw; (try simp only [beqB_t, beqB_f, NF] at hwq); exact hlt)) ?_
  refine Jg rfl Sr rfl (fun hw => step_leq (Sub.w hw) Sr) (Js rfl (step_pick_and Sr Sr) (Jm rfl ?_))
  refine Jk rfl Sr rfl (step_move Sr) ?_
  refine Jk rfl Sr rfl (step_move Sr) ?_
  refine Jg rfl Sr rfl (fun hw => step_index_str (i := i) underlying9 (Sub.w hw) (Sub.w hw) (by rfl) (by have hwq := hw; (try simp only [beqB_t, beqB_f, NF] at hwq); exact hlt)) ?_
  refine Jg rfl Sr rfl (fun hw => step_geq (Sub.w hw) Sr) (Jg rfl Sr rfl (fun hw => step_move (Sub.w hw)) ?_)
  refine Ji rfl Sr rfl (step_move Sr) ?_
  refine Ji rfl Sr rfl (step_move Sr) ?_
  refine Jh rfl Sr rfl (fun hw => step_index_str (i := i) underlying9 (Sub.w hw) (Sub.w hw) (by rfl) (by have hwq := hw; (try simp only [beqB_t, beqB_f, NF] at hwq); exact hlt)) ?_
  refine Jh rfl Sr rfl (fun hw => step_leq (Sub.w hw) Sr) (Jg rfl Sr rfl (fun hw => step_pick_and (Sub.w hw) (Sub.ww hw)) (Js rfl (step_pick_or Sr Sr) (Ja rfl (JL_nil (Jr ?_)))))
  refine Jm rfl (Jm rfl ?_)
  refine Js rfl (step_index_str (i := i) underlying9 Sr Sr (by rfl) (by exact hlt)) ?_
  refine Js rfl (step_geq Sr Sr) (Jm rfl ?_)
  refine Jk rfl Sr rfl (step_move Sr) ?_
  refine Jk rfl Sr rfl (step_move Sr) ?_
  refine Jg rfl Sr rfl (fun hw => step_index_str (i := i) underlying9 (Sub.w hw) (Sub.w hw) (by rfl) (by have hwq := hw; (try simp only [beqB_t, beqB_f, NF] at hwq); exact hlt)) ?_
  refine Jg rfl Sr rfl (fun hw => step_leq (Sub.w hw) Sr) (Js rfl (step_pick_and Sr Sr) (Jm rfl ?_))
  refine Jk rfl Sr rfl (step_move Sr) ?_
  refine Jk rfl Sr rfl (step_move Sr) ?_
  refine Jg rfl Sr rfl (fun hw => step_index_str (i := i) underlying9 (Sub.w hw) (Sub.w hw) (by rfl) (by have hwq := hw; (try simp only [beqB_t, beqB_f, NF] at hwq); exact hlt)) ?_
  refine Jg rfl Sr rfl (fun hw => step_eql (Sub.w hw) Sr) (Js rfl (step_pick_or Sr Sr) (Ja rfl (JL_nil (Jr (Jm rfl ?_)))))
  refine Js rfl (step_not Sr) (Jm rfl ?_)
  refine Jk rfl Sr rfl (step_move Sr) ?_
  refine Jg rfl Sr rfl (fun hw => step_eql (Sub.w hw) Sr) (Jg rfl Sr rfl (fun hw => step_move (Sub.w hw)) ?_)
  refine Ji rfl Sr rfl (step_move Sr) ?_
  refine Jh rfl Sr rfl (fun hw => step_not (Sub.w hw)) (Jg rfl Sr rfl (fun hw => step_pick_or (Sub.w hw) (Sub.ww hw)) (Js rfl (step_pick_and Sr Sr) (JL_nil ?_)))
  refine J_cond Sr (fun h59 => ?_) (fun h59 => ?_)
  ·
   try simp only [NF] at h59
   refine Jr (Ja rfl (JL_nil (J_ret ?_)))
   refine K_ret1 (t := 2) rfl () ?_
   refine Sub.bool ?_
   have : nmC s i = false := by simp_all [nmC, letC, digC]; omega
   simp only [nameM, rall_f hlt this]; simp
  try simp only [NF] at h59
  refine J_skip (J_region (Jm rfl (Js rfl (step_add Sr Sr z6) (Ja rfl (JL_nil ?_)))))
  refine K_againL (σ := Nat) (s := i) (i + 1) zO ?_ (zU) (LSub.rfl)
  refine ⟨by omega, fun k hk => ?_⟩
  by_cases e : k = i
  ·
   subst e; first | exact hnm | (simp_all [nmC, letC, digC]; done) | (simp_all [nmC, letC, digC]; omega)
  exact hv k zG
 try simp only [NF] at h9
 have hall : (List.range s.size).all (nmC s) = true := rall_t (fun k hk => hv k zG)
 refine J_exit (Jr (Jm rfl (Js rfl (step_len_str underlying9 Sr) (Js rfl (step_geq Sr Sr) (Jm rfl ?_)))))
 refine Jk rfl Sr rfl (step_move Sr) ?_
 refine Jg rfl Sr rfl (fun hw => step_len_str underlying9 (Sub.w hw)) (Jg rfl Sr rfl (fun hw => step_leq (Sub.w hw) Sr) (Js rfl (step_pick_and Sr Sr) (Ja rfl (JL_nil (J_ret ?_)))))
 refine K_ret1 (t := 2) rfl () ?_
 refine Sub.bool ?_
 simp only [nameM, hall, size_pos, Bool.true_and]
set_option maxHeartbeats 1000000 in
theorem rNames_spec (t : GTable) (hz : TabSz t) (hA : t.Attrs.length ≤ 1000) : Fun1 prog 213 [rTable.ty t] (tSl rStr (namesL t.Attrs)) := by
 refine Spec.enter func213 rfl rfl fun h0 w0 fr0 => ?_
 have hz2 := hz.at'
 have hnl := names_len hz.was
 have hnl2 : (namesL t.Attrs).length ≤ 1000 * 1000001 := Nat.le_trans hnl (Nat.mul_le_mul_right _ hA)
 refine Jr (Js rfl (step_box (R := rTable) Sr) (Ja rfl (JL_nil (Jr (Ja rfl ?_)))))
 refine JL_nil (J_seq (Jr (Ja rfl (JL_nil (J_block ?_)))))
 refine J_loopL (σ := Nat × Value) (fun ⟨i, v⟩ => i ≤ t.Attrs.length) (fun ⟨i, v⟩ => upd (upd (upd (upd env0 1 (tPtr rTable t)) 2 (tV (.slice none 0 0))) 3 (rV.ty v)) 4 (tV (.int .i64 i))) (fun ⟨i, v⟩ => [own 9 rStr v (namesL (t.Attrs.take i))]) (fun ⟨i, v⟩ => t.Attrs.length - i) (0, .slice none 0 0) (by exact Nat.zero_le _) (.u (SubE.upd (Sub.rV rfl) (zU))) (LSub.nilown) ?_
 rintro ⟨i, v⟩ hi
 try dsimp only at hi
 refine J_seq (Jr (Jm rfl (Js rfl (step_fieldAddr so76 Sr rfl) (Jl rfl ty44 Sr (Js rfl (step_len_sl underlying44 Sr) ?_)))))
 refine Js rfl (step_lss Sr Sr) (JL_nil ?_)
 refine J_cond Sr (fun h9 => ?_) (fun h9 => ?_)
 ·
  try simp only [NF] at h9
  have hlt : i < t.Attrs.length := by omega
  have hnt := names_take hlt
  have hnl3 := names_len (l := t.Attrs.take i) (M := 1000000) (fun a ha => hz.was a (List.mem_of_mem_take ha))
  have hnl4 : (namesL (t.Attrs.take i)).length ≤ 1000 * 1000001 := Nat.le_trans hnl3 (Nat.mul_le_mul_right _ (by rw [List.length_take]; omega))
  have hwl := hz.was _ (nth_mem hlt)
  refine J_skip (J_seq (J_block (Jr (Jm rfl (Js rfl (step_fieldAddr so76 Sr rfl) ?_)))))
  refine Jl rfl ty44 Sr (Jm rfl ?_)
  refine Js rfl (step_indexAddr_sl (i := i) underlying44 ty89 Sr Sr (by rfl) (gb (by exact hlt))) ?_
  refine Js rfl (step_fieldAddr so89 Sr rfl) (Jl rfl ty9 Sr ?_)
  refine Js rfl (step_literal (ys := [_]) underlying85 el9 ⟨rfl, Sr, trivial⟩ rfl (by decide)) ?_
  refine Jx rfl (step_append underlying85 el9 Sr Sr zS (by simp; omega) (by simp; omega)) fun v20 => ?_
  refine Ja rfl (JL_nil (J_region (Jm rfl (Js rfl (step_fieldAddr so76 Sr rfl) (Jl rfl ty44 Sr ?_)))))
  refine Jm rfl ?_
  refine Js rfl (step_indexAddr_sl (i := i) underlying44 ty89 Sr Sr (by rfl) (gb (by exact hlt))) ?_
  refine Js rfl (step_fieldAddr so89 Sr rfl) (Jl rfl ty85 Sr ?_)
  refine Jx rfl (step_append underlying85 el9 Sr Sr zS (by simp; omega) (by simp; omega)) fun v28 => ?_
  refine Ja rfl (JL_nil (J_region (Jm rfl (Js rfl (step_add Sr Sr z6) (Ja rfl ?_)))))
  refine JL_nil ?_
  refine K_againL (σ := Nat × Value) (s := (i, v)) (i + 1, v28) zO (by show i + 1 ≤ _; omega) (zU) (.c zS (SPs.of (A := own 9 rStr v28 ((namesL (t.Attrs.take i) ++ [(nth t.Attrs i).Name]) ++ (nth t.Attrs i).Was)) (by rw [hnt])) (LSub.nil))
 try simp only [NF] at h9
 obtain rfl : i = t.Attrs.length := by omega
 refine K_lsub (L' := [own 9 rStr v (namesL t.Attrs)]) (.c zS (SPs.of (A := own 9 rStr v (namesL (t.Attrs.take t.Attrs.length))) (by rw [List.take_length])) (LSub.nil)) ?_
 refine J_exit (Jr (Jm rfl (Ja rfl (JL_nil (J_ret ?_)))))
 refine K_ret1' (rv := .tmp 2) rfl () (Sel.take (Sel.none _)) (.tmp Sr) Frz.own
theorem rFind_spec (s : GSchema) (n : ByteArray) (hl : s.Tables.length ≤ 1000000000000) : Fun1 prog 142 [rSchema.ty s, tV (.string n)] (tV (.int .i64 (findT s n))) := by
 refine Spec.enter func142 rfl rfl fun h0 w0 fr0 => ?_
 refine Jr (Js rfl (step_box (R := rSchema) Sr) (Ja rfl (JL_nil (J_seq (Jr ?_)))))
 refine Ja rfl (JL_nil (J_block ?_))
 refine J_loopL (σ := Nat) (fun i => i ≤ s.Tables.length ∧ ∀ k, k < i → decide ((nth s.Tables k).Name = n) = false) (fun i => upd (upd (upd env0 1 (tV (.string n))) 2 (tPtr rSchema s)) 5 (tV (.int .i64 i))) (fun i => []) (fun i => s.Tables.length - i) 0 ⟨by omega, fun k hk => by omega⟩ (zU) (LSub.rfl) ?_
 rintro i ⟨hi, hv⟩
 refine J_seq (Jr (Jm rfl (Js rfl (step_fieldAddr so41 Sr rfl) (Jl rfl ty39 Sr (Js rfl (step_len_sl underlying39 Sr) ?_)))))
 refine Js rfl (step_lss Sr Sr) (JL_nil ?_)
 refine J_cond Sr (fun h10 => ?_) (fun h10 => ?_)
 ·
  try simp only [NF] at h10
  have hlt : i < s.Tables.length := by omega
  refine J_skip (J_seq (J_block (Jr (Js rfl (step_fieldAddr so41 Sr rfl) (Jl rfl ty39 Sr ?_)))))
  refine Jm rfl ?_
  refine Js rfl (step_indexAddr_sl (i := i) underlying39 ty76 Sr Sr (by rfl) (gb (by exact hlt))) ?_
  refine Js rfl (step_fieldAddr so76 Sr rfl) (Jl rfl ty9 Sr (Jm rfl (Js rfl (step_eql_str Sr Sr) (JL_nil ?_))))
  refine J_cond Sr (fun h20 => ?_) (fun h20 => ?_)
  ·
   try simp only [NF] at h20
   refine Jr (Jm rfl (Ja rfl (JL_nil (J_ret ?_))))
   refine K_ret1 (t := 4) rfl () (Sub.int ?_)
   exact (findI_at hlt hv (by simp_all)).symm
  try simp only [NF] at h20
  refine J_skip (J_region (Jm rfl (Js rfl (step_add Sr Sr z6) (Ja rfl (JL_nil ?_)))))
  refine K_againL (σ := Nat) (s := i) (i + 1) zO ?_ (zU) (LSub.rfl)
  refine ⟨by omega, fun k hk => ?_⟩
  by_cases e : k = i
  ·
   subst e; simp_all
  exact hv k zG
 try simp only [NF] at h10
 obtain rfl : i = s.Tables.length := by omega
 refine J_exit (Jr (Ja rfl (JL_nil (J_ret ?_))))
 refine K_ret1 (t := 4) rfl () (Sub.int ?_)
 exact (findI_no hv).symm
set_option maxHeartbeats 4000000 in
theorem rRight_spec (t : GTable) (hz : TabSz t) : Fun1 prog 141 [rTable.ty t] (tV (.bool (rightM t))) := by
 refine Spec.enter func141 rfl rfl fun h0 w0 fr0 => ?_
 have hz1 := hz.nm
 have hz2 := hz.at'
 have hz3 := hz.key
 have hnl := names_len hz.was
 refine Jr (Js rfl (step_box (R := rTable) Sr) (Ja rfl (JL_nil (J_seq (Jr ?_)))))
 refine Js rfl (step_fieldAddr so76 Sr rfl) (Jl rfl ty9 Sr (Js rfl (step_call0 (rName_spec _ hz1) ⟨Sr, trivial⟩ call212) (Js rfl (step_not Sr) (Jm rfl ?_))))
 refine Jk rfl Sr rfl (step_fieldAddr so76 Sr rfl) ?_
 refine Jg rfl Sr rfl (fun hw => step_load_ptr ty44 (Sub.w hw)) (Jg rfl Sr rfl (fun hw => step_len_sl underlying44 (Sub.w hw)) (Jg rfl Sr rfl (fun hw => step_lss (Sub.w hw) Sr) (Js rfl (step_pick_or Sr Sr) (Jm rfl ?_))))
 refine Jk rfl Sr rfl (step_fieldAddr so76 Sr rfl) ?_
 refine Jg rfl Sr rfl (fun hw => step_load_ptr ty44 (Sub.w hw)) (Jg rfl Sr rfl (fun hw => step_len_sl underlying44 (Sub.w hw)) (Jg rfl Sr rfl (fun hw => step_gtr (Sub.w hw) Sr) (Js rfl (step_pick_or Sr Sr) (Jm rfl ?_))))
 refine Jk rfl Sr rfl (step_fieldAddr so76 Sr rfl) ?_
 refine Jg rfl Sr rfl (fun hw => step_load_ptr ty36 (Sub.w hw)) (Jg rfl Sr rfl (fun hw => step_len_sl underlying36 (Sub.w hw)) (Jg rfl Sr rfl (fun hw => step_lss (Sub.w hw) Sr) (Js rfl (step_pick_or Sr Sr) (JL_nil ?_))))
 refine J_cond Sr (fun h29 => ?_) (fun h29 => ?_)
 ·
  try simp only [NF] at h29
  refine Jr (Ja rfl (JL_nil (J_ret ?_)))
  refine K_ret1 (t := 2) rfl () ?_
  refine Sub.bool ?_
  have hs : nameM t.Name = false ∨ szT t = false := by
   rcases h29 with ((h | h) | h) | h
   ·
    exact .inl h
   all_goals exact .inr (by unfold szT; rw [decide_eq_false_iff_not]; omega)
  rcases hs with h | h <;> simp [rightM, h]
 try simp only [NF] at h29
 have hsz : szT t = true := by unfold szT; rw [decide_eq_true_eq]; omega
 have hnmT : nameM t.Name = true := by simp_all
 have hA : t.Attrs.length ≤ 1000 := by omega
 have hnl2 : (namesL t.Attrs).length ≤ 1000 * 1000001 := Nat.le_trans hnl (Nat.mul_le_mul_right _ hA)
 refine J_skip (Jr (Jl rfl ty76 Sr (Js rfl (step_call0 (rNames_spec _ hz zG) ⟨Sr, trivial⟩ call213) (Ja rfl (JL_nil ?_)))))
 refine J_seq (Jr (Ja rfl (JL_nil (J_block ?_))))
 refine J_loopL (σ := Nat) (fun i => i ≤ (namesL t.Attrs).length ∧ (∀ k, k < i → nameM (nth (namesL t.Attrs) k) = true) ∧ ∀ k j, j < k → k < i → nth (namesL t.Attrs) j ≠ nth (namesL t.Attrs) k) (fun i => upd (upd (upd env0 1 (tPtr rTable t)) 3 (tSl rStr (namesL t.Attrs))) 4 (tV (.int .i64 i))) (fun i => []) (fun i => (namesL t.Attrs).length - i) 0 ⟨by omega, fun k hk => by omega, fun k j _ hk => by omega⟩ (zU) (LSub.rfl) ?_
 rintro i ⟨hi, hv, hd⟩
 refine J_seq (Jr (Jm rfl (Jm rfl (Js rfl (step_len_sl underlying85 Sr) (Js rfl (step_lss Sr Sr) ?_)))))
 refine JL_nil ?_
 refine J_cond Sr (fun h35 => ?_) (fun h35 => ?_)
 ·
  try simp only [NF] at h35
  have hlt : i < (namesL t.Attrs).length := by omega
  refine J_skip (J_seq (J_block (J_seq (Jr (Jm rfl ?_)))))
  refine Jm rfl ?_
  refine Js rfl (step_indexAddr_sl (i := i) underlying85 ty9 Sr Sr (by rfl) (gb (by exact hlt))) ?_
  refine Jl rfl ty9 Sr (Js rfl (step_call0 (rName_spec _ (hz.nms _ (nth_mem hlt))) ⟨Sr, trivial⟩ call212) (Js rfl (step_not Sr) (JL_nil ?_)))
  refine J_cond Sr (fun h43 => ?_) (fun h43 => ?_)
  ·
   try simp only [NF] at h43
   refine Jr (Ja rfl (JL_nil (J_ret ?_)))
   refine K_ret1 (t := 2) rfl () ?_
   refine Sub.bool ?_
   have : (namesL t.Attrs).all nameM = false := all_f hlt h43
   simp [rightM, this]
  try simp only [NF] at h43
  refine J_skip (Jr (Ja rfl (JL_nil (J_block ?_))))
  refine J_loopL (σ := Nat) (fun k => k ≤ i ∧ ∀ j, j < k → nth (namesL t.Attrs) j ≠ nth (namesL t.Attrs) i) (fun k => upd (upd (upd (upd env0 1 (tPtr rTable t)) 3 (tSl rStr (namesL t.Attrs))) 4 (tV (.int .i64 i))) 5 (tV (.int .i64 k))) (fun k => []) (fun k => i - k) 0 ⟨by omega, fun j hj => by omega⟩ (zU) (LSub.rfl) ?_
  rintro k ⟨hk, hw⟩
  refine J_seq (Jr (Jm rfl (Jm rfl (Js rfl (step_lss Sr Sr) (JL_nil ?_)))))
  refine J_cond Sr (fun h46 => ?_) (fun h46 => ?_)
  ·
   try simp only [NF] at h46
   have hkt : k < i := by omega
   refine J_skip (J_seq (J_block (J_seq ?_)))
   refine J_draw [⟨0, [3], true⟩, ⟨1, [5], true⟩, ⟨2, [49, 50], true⟩, ⟨3, [51], true⟩, ⟨4, [3], true⟩, ⟨5, [4], true⟩, ⟨6, [53, 54], true⟩, ⟨7, [55], true⟩, ⟨8, [52, 56], true⟩] rfl (by kernel_rfl) ?_
   refine Mv rfl rfl (Mv rfl rfl ?_)
   refine Mf rfl rfl (step_indexAddr_sl (i := k) underlying85 ty9 Sr Sr (by rfl) (gb (by show k < (namesL t.Attrs).length; omega))) ?_
   refine Mf rfl rfl (step_load_ptr ty9 Sr) (Mv rfl rfl (Mv rfl rfl ?_))
   refine Mf rfl rfl (step_indexAddr_sl (i := i) underlying85 ty9 Sr Sr (by rfl) (gb (by exact hlt))) ?_
   refine Mf rfl rfl (step_load_ptr ty9 Sr) (Mf rfl rfl (step_eql_str Sr Sr) (JM_nil ?_))
   refine J_cond Sr (fun h57 => ?_) (fun h57 => ?_)
   ·
    try simp only [NF] at h57
    refine Jr (Ja rfl (JL_nil (J_ret ?_)))
    refine K_ret1 (t := 2) rfl () ?_
    refine Sub.bool ?_
    have : ¬ (namesL t.Attrs).Nodup := nodup_not hkt hlt h57
    simp [rightM, this]
   try simp only [NF] at h57
   refine J_skip (J_region (Jm rfl (Js rfl (step_add Sr Sr z6) (Ja rfl (JL_nil ?_)))))
   refine K_againL (σ := Nat) (s := k) (k + 1) zO ?_ (zU) (LSub.rfl)
   refine ⟨by omega, fun j hj => ?_⟩
   by_cases e : j = k
   ·
    subst e; simp_all
   exact hw j zG
  try simp only [NF] at h46
  obtain rfl : i = k := by omega
  refine J_exit (J_region (Jm rfl (Js rfl (step_add Sr Sr z6) (Ja rfl (JL_nil ?_)))))
  refine K_againL (σ := Nat) (s := i) (i + 1) zO ?_ (zU) (LSub.rfl)
  refine ⟨by omega, fun k hk => ?_, fun k j hjk hk => ?_⟩
  ·
   by_cases e : k = i
   ·
    subst e; simp_all
   exact hv k zG
  by_cases e : k = i
  ·
   subst e; exact hw j hjk
  exact hd k j hjk zG
 try simp only [NF] at h35
 have hnms : (namesL t.Attrs).all nameM = true := all_t (fun k hk => hv k zG)
 have hnd : (namesL t.Attrs).Nodup := nodup_nth (fun k j hjk hk => hd k j hjk zG)
 refine J_exit (J_seq (Jr (Ja rfl (JL_nil (J_block ?_)))))
 refine J_loopL (σ := Nat) (fun i => i ≤ t.Attrs.length ∧ ∀ k, k < i → attrOk (nth t.Attrs k) = true) (fun i => upd (upd env0 1 (tPtr rTable t)) 6 (tV (.int .i64 i))) (fun i => []) (fun i => t.Attrs.length - i) 0 ⟨by omega, fun k hk => by omega⟩ (zU) (LSub.rfl) ?_
 rintro i ⟨hi2, hv2⟩
 refine J_seq (Jr (Jm rfl (Js rfl (step_fieldAddr so76 Sr rfl) (Jl rfl ty44 Sr (Js rfl (step_len_sl underlying44 Sr) ?_)))))
 refine Js rfl (step_lss Sr Sr) (JL_nil ?_)
 refine J_cond Sr (fun h62 => ?_) (fun h62 => ?_)
 ·
  try simp only [NF] at h62
  have hlt : i < t.Attrs.length := by omega
  refine J_skip (J_seq (J_block (J_seq ?_)))
  refine J_draw [⟨0, [1], true⟩, ⟨1, [65], true⟩, ⟨2, [6], true⟩, ⟨3, [66, 67], true⟩, ⟨4, [68], true⟩, ⟨5, [69], true⟩, ⟨6, [70], true⟩, ⟨7, [71], true⟩, ⟨8, [72], true⟩, ⟨9, [1, 73], true⟩, ⟨10, [73, 74], true⟩, ⟨11, [6, 73], true⟩, ⟨12, [73, 75, 76], true⟩, ⟨13, [73, 77], true⟩, ⟨14, [73, 78], true⟩, ⟨15, [1, 73], true⟩, ⟨16, [73, 80], true⟩, ⟨17, [6, 73], true⟩, ⟨18, [73, 81, 82], true⟩, ⟨19, [73, 83], true⟩, ⟨20, [73, 84], true⟩, ⟨21, [73, 79, 85], true⟩, ⟨22, [73, 86], true⟩, ⟨23, [73, 87], true⟩] rfl (by kernel_rfl) ?_
  refine Mf rfl rfl (step_fieldAddr so76 Sr rfl) (Mf rfl rfl (step_load_ptr ty44 Sr) (Mv rfl rfl ?_))
  refine Mf rfl rfl (step_indexAddr_sl (i := i) underlying44 ty89 Sr Sr (by rfl) (gb (by exact hlt))) ?_
  refine Mf rfl rfl (step_fieldAddr so89 Sr rfl) (Mf rfl rfl (step_load_ptr ty3 Sr) (Mf rfl rfl (step_call0 (rKind_spec _) ⟨Sr, trivial⟩ call214) (Mf rfl rfl (step_not Sr) (Mv rfl rfl ?_))))
  refine Mk rfl rfl Sr rfl (step_fieldAddr so76 Sr rfl) ?_
  refine Mg rfl rfl Sr rfl (fun hw => step_load_ptr ty44 (Sub.w hw)) ?_
  refine Mk rfl rfl Sr rfl (step_move Sr) ?_
  refine Mg rfl rfl Sr rfl (fun hw => step_indexAddr_sl (i := i) underlying44 ty89 (Sub.w hw) (Sub.w hw) (by rfl) (gb (by have hwq := hw; (try simp only [beqB_t, beqB_f, NF] at hwq); exact hlt))) ?_
  refine Mg rfl rfl Sr rfl (fun hw => step_fieldAddr so89 (Sub.w hw) rfl) (Mg rfl rfl Sr rfl (fun hw => step_load_ptr ty3 (Sub.w hw)) ?_)
  refine Mk rfl rfl Sr rfl (step_fieldAddr so76 Sr rfl) ?_
  refine Mg rfl rfl Sr rfl (fun hw => step_load_ptr ty44 (Sub.w hw)) ?_
  refine Mk rfl rfl Sr rfl (step_move Sr) ?_
  refine Mg rfl rfl Sr rfl (fun hw => step_indexAddr_sl (i := i) underlying44 ty89 (Sub.w hw) (Sub.w hw) (by rfl) (gb (by have hwq := hw; (try simp only [beqB_t, beqB_f, NF] at hwq); exact hlt))) ?_
  refine Mg rfl rfl Sr rfl (fun hw => step_fieldAddr so89 (Sub.w hw) rfl) (Mg rfl rfl Sr rfl (fun hw => step_load_ptr ty87 (Sub.w hw)) (Mg rfl rfl Sr rfl (fun hw => step_call0 (rFit_spec _ _) ⟨(Sub.w hw), (Sub.w hw), trivial⟩ call143) (Mg rfl rfl Sr rfl (fun hw => step_not (Sub.w hw)) (Mf rfl rfl (step_pick_or Sr Sr) (JM_nil ?_)))))
  refine J_cond Sr (fun h88 => ?_) (fun h88 => ?_)
  ·
   try simp only [NF] at h88
   refine Jr (Ja rfl (JL_nil (J_ret ?_)))
   refine K_ret1 (t := 2) rfl () ?_
   refine Sub.bool ?_
   have : attrOk (nth t.Attrs i) = false := by
    unfold attrOk
    rcases h88 with (h | h) | h
    ·
     simp [show ¬ 1 ≤ (nth t.Attrs i).Kind by omega]
    ·
     simp [show ¬ (nth t.Attrs i).Kind ≤ 4 by omega]
    simp [h]
   simp [rightM, all_f hlt this]
  try simp only [NF] at h88
  refine J_skip (J_region (Jm rfl (Js rfl (step_add Sr Sr z6) (Ja rfl (JL_nil ?_)))))
  refine K_againL (σ := Nat) (s := i) (i + 1) zO ?_ (zU) (LSub.rfl)
  refine ⟨by omega, fun k hk => ?_⟩
  by_cases e : k = i
  ·
   subst e; first | (simp_all [attrOk]; done) | (simp_all [attrOk]; omega)
  exact hv2 k zG
 try simp only [NF] at h62
 have hats : t.Attrs.all attrOk = true := all_t (fun k hk => hv2 k zG)
 refine J_exit (J_seq (Jr (Ja rfl (JL_nil (J_block ?_)))))
 refine J_loopL (σ := Nat) (fun i => i ≤ t.Key.length ∧ ∀ k, k < i → keyOk t k = true) (fun i => upd (upd env0 1 (tPtr rTable t)) 7 (tV (.int .i64 i))) (fun i => []) (fun i => t.Key.length - i) 0 ⟨by omega, fun k hk => by omega⟩ (zU) (LSub.rfl) ?_
 rintro i ⟨hi3, hv3⟩
 refine J_seq (Jr (Jm rfl (Js rfl (step_fieldAddr so76 Sr rfl) (Jl rfl ty36 Sr (Js rfl (step_len_sl underlying36 Sr) ?_)))))
 refine Js rfl (step_lss Sr Sr) (JL_nil ?_)
 refine J_cond Sr (fun h93 => ?_) (fun h93 => ?_)
 ·
  try simp only [NF] at h93
  have hkt : i < t.Key.length := by omega
  refine J_skip (J_seq (J_block (J_seq ?_)))
  refine J_draw [⟨0, [1], true⟩, ⟨1, [96], true⟩, ⟨2, [7], true⟩, ⟨3, [97, 98], true⟩, ⟨4, [99], true⟩, ⟨5, [100], true⟩, ⟨6, [101], true⟩, ⟨7, [1, 102], true⟩, ⟨8, [102, 103], true⟩, ⟨9, [7, 102], true⟩, ⟨10, [102, 104, 105], true⟩, ⟨11, [102, 106], true⟩, ⟨12, [1, 102], true⟩, ⟨13, [102, 108], true⟩, ⟨14, [102, 109], true⟩, ⟨15, [102, 107, 110], true⟩, ⟨16, [102, 111], true⟩, ⟨17, [112], true⟩, ⟨18, [7, 113], true⟩, ⟨19, [113, 114], true⟩, ⟨20, [113, 115], true⟩, ⟨21, [1, 116], true⟩, ⟨22, [116, 117], true⟩, ⟨23, [7, 116], true⟩, ⟨24, [116, 118, 119], true⟩, ⟨25, [116, 120], true⟩, ⟨26, [1, 116], true⟩, ⟨27, [116, 122], true⟩, ⟨28, [7, 116], true⟩, ⟨29, [116, 124], true⟩, ⟨30, [116, 123, 125], true⟩, ⟨31, [116, 126], true⟩, ⟨32, [116, 121, 127], true⟩, ⟨33, [113, 116, 128], true⟩, ⟨34, [113, 129], true⟩] rfl (by kernel_rfl) ?_
  refine Mf rfl rfl (step_fieldAddr so76 Sr rfl) (Mf rfl rfl (step_load_ptr ty36 Sr) (Mv rfl rfl ?_))
  refine Mf rfl rfl (step_indexAddr_sl (i := i) underlying36 ty3 Sr Sr (by rfl) (gb (by exact hkt))) ?_
  refine Mf rfl rfl (step_load_ptr ty3 Sr) (Mf rfl rfl (step_lss Sr Sr) (Mv rfl rfl ?_))
  refine Mk rfl rfl Sr rfl (step_fieldAddr so76 Sr rfl) ?_
  refine Mg rfl rfl Sr rfl (fun hw => step_load_ptr ty36 (Sub.w hw)) ?_
  refine Mk rfl rfl Sr rfl (step_move Sr) ?_
  refine Mg rfl rfl Sr rfl (fun hw => step_indexAddr_sl (i := i) underlying36 ty3 (Sub.w hw) (Sub.w hw) (by rfl) (gb (by have hwq := hw; (try simp only [beqB_t, beqB_f, NF] at hwq); exact hkt))) ?_
  refine Mg rfl rfl Sr rfl (fun hw => step_load_ptr ty3 (Sub.w hw)) ?_
  refine Mk rfl rfl Sr rfl (step_fieldAddr so76 Sr rfl) ?_
  refine Mg rfl rfl Sr rfl (fun hw => step_load_ptr ty44 (Sub.w hw)) (Mg rfl rfl Sr rfl (fun hw => step_len_sl underlying44 (Sub.w hw)) (Mg rfl rfl Sr rfl (fun hw => step_geq (Sub.w hw) (Sub.w hw)) (Mf rfl rfl (step_pick_or Sr Sr) (Mv rfl rfl ?_))))
  refine Mk rfl rfl Sr rfl (step_move Sr) ?_
  refine Mg rfl rfl Sr rfl (fun hw => step_gtr (Sub.w hw) Sr) (Mg rfl rfl Sr rfl (fun hw => step_move (Sub.w hw)) ?_)
  refine JM_stepG rfl rfl rfl rfl (Gd.nest Sr) rfl rfl (fun hw _ => step_fieldAddr so76 Sr rfl) ?_
  refine JM_stepG rfl rfl rfl rfl (Gd.nest Sr) rfl rfl (fun hw _ => step_load_ptr ty36 (Sub.w hw)) ?_
  refine JM_stepG rfl rfl rfl rfl (Gd.nest Sr) rfl rfl (fun hw _ => step_move Sr) ?_
  refine JM_stepG rfl rfl rfl rfl (Gd.nest Sr) rfl rfl (fun hw _ => step_indexAddr_sl (i := i) underlying36 ty3 (Sub.w hw) (Sub.w hw) (by rfl) (gb (by have hwq := hw; (try simp only [beqB_t, beqB_f, NF] at hwq); exact hkt))) ?_
  refine JM_stepG rfl rfl rfl rfl (Gd.nest Sr) rfl rfl (fun hw _ => step_load_ptr ty3 (Sub.w hw)) ?_
  refine JM_stepG rfl rfl rfl rfl (Gd.nest Sr) rfl rfl (fun hw _ => step_fieldAddr so76 Sr rfl) ?_
  refine JM_stepG rfl rfl rfl rfl (Gd.nest Sr) rfl rfl (fun hw _ => step_load_ptr ty36 (Sub.w hw)) ?_
  refine JM_stepG rfl rfl rfl rfl (Gd.nest Sr) rfl rfl (fun hw _ => step_move Sr) ?_
  refine JM_stepG rfl rfl rfl rfl (Gd.nest Sr) rfl rfl (fun hw _ => step_sub (Sub.w hw) Sr (by have hwq := hw; (try simp only [beqB_t, beqB_f, NF] at hwq); unfold in64; omega)) ?_
  refine JM_stepG rfl rfl rfl rfl (Gd.nest Sr) rfl rfl (fun hw _ => step_indexAddr_sl (i := (i - 1)) underlying36 ty3 (Sub.w hw) (Sub.w hw) (by have hwq := hw; (try simp only [beqB_t, beqB_f, NF] at hwq); omega) (gb (by have hwq := hw; (try simp only [beqB_t, beqB_f, NF] at hwq); show i - 1 < t.Key.length; omega))) ?_
  refine JM_stepG rfl rfl rfl rfl (Gd.nest Sr) rfl rfl (fun hw _ => step_load_ptr ty3 (Sub.w hw)) ?_
  refine JM_stepG rfl rfl rfl rfl (Gd.nest Sr) rfl rfl (fun hw _ => step_leq (Sub.w hw) (Sub.w hw)) ?_
  refine Mg rfl rfl Sr rfl (fun hw => step_pick_and (Sub.w hw) (Sub.ww hw)) (Mf rfl rfl (step_pick_or Sr Sr) (JM_nil ?_))
  refine J_cond Sr (fun h130 => ?_) (fun h130 => ?_)
  ·
   try simp only [NF] at h130
   refine Jr (Ja rfl (JL_nil (J_ret ?_)))
   refine K_ret1 (t := 2) rfl () ?_
   refine Sub.bool ?_
   have : keyOk t i = false := by
    unfold keyOk
    rcases h130 with (h | h) | ⟨h1, h2⟩
    ·
     simp [show ¬ 0 ≤ nth t.Key i by omega]
    ·
     simp [show ¬ nth t.Key i < t.Attrs.length by omega]
    simp [show ¬ nth t.Key (i - 1) < nth t.Key i by omega, show ¬ i = 0 by omega]
   simp [rightM, rall_f hkt this]
  try simp only [NF] at h130
  refine J_skip (J_region (Jm rfl (Js rfl (step_add Sr Sr z6) (Ja rfl (JL_nil ?_)))))
  refine K_againL (σ := Nat) (s := i) (i + 1) zO ?_ (zU) (LSub.rfl)
  refine ⟨by omega, fun k hk => ?_⟩
  by_cases e : k = i
  ·
   subst e; first | (simp_all [keyOk]; done) | (simp_all [keyOk]; omega)
  exact hv3 k zG
 try simp only [NF] at h93
 have hks : (List.range t.Key.length).all (keyOk t) = true := rall_t (fun k hk => hv3 k zG)
 refine J_exit (Jr (Ja rfl (JL_nil (J_ret ?_))))
 refine K_ret1 (t := 2) rfl () ?_
 refine Sub.bool ?_
 simp [rightM, hnmT, hsz, hats, hnms, hnd, hks]
set_option maxHeartbeats 1000000 in
theorem rsValid_spec (s : GSchema) (hz : SchSz s) : Fun1 prog 89 [rSchema.ty s] (tV (.bool (schM s))) := by
 refine Spec.enter func89 rfl rfl fun h0 w0 fr0 => ?_
 have hz1 := hz.tabs
 refine Jr (Js rfl (step_box (R := rSchema) Sr) (Ja rfl (JL_nil (J_seq (Jr ?_)))))
 refine Js rfl (step_fieldAddr so41 Sr rfl) (Jl rfl ty39 Sr (Js rfl (step_len_sl underlying39 Sr) (Js rfl (step_gtr Sr Sr) (JL_nil ?_))))
 refine J_cond Sr (fun h7 => ?_) (fun h7 => ?_)
 ·
  try simp only [NF] at h7
  refine Jr (Ja rfl (JL_nil (J_ret ?_)))
  refine K_ret1 (t := 2) rfl () ?_
  refine Sub.bool ?_
  have : ¬ s.Tables.length ≤ 20 := by omega
  simp [schM, this]
 try simp only [NF] at h7
 refine J_skip (J_seq (Jr (Ja rfl (JL_nil (J_block ?_)))))
 refine J_loopL (σ := Nat) (fun i => i ≤ s.Tables.length ∧ ∀ k, k < i → (rightM (nth s.Tables k) && decide (findT s (nth s.Tables k).Name = k)) = true) (fun i => upd (upd env0 1 (tPtr rSchema s)) 3 (tV (.int .i64 i))) (fun i => []) (fun i => s.Tables.length - i) 0 ⟨by omega, fun k hk => by omega⟩ (zU) (LSub.rfl) ?_
 rintro i ⟨hi, hv⟩
 refine J_seq (Jr (Jm rfl (Js rfl (step_fieldAddr so41 Sr rfl) (Jl rfl ty39 Sr (Js rfl (step_len_sl underlying39 Sr) ?_)))))
 refine Js rfl (step_lss Sr Sr) (JL_nil ?_)
 refine J_cond Sr (fun h12 => ?_) (fun h12 => ?_)
 ·
  try simp only [NF] at h12
  have hlt : i < s.Tables.length := by omega
  refine J_skip (J_seq (J_block (J_seq ?_)))
  refine J_draw [⟨0, [1], true⟩, ⟨1, [15], true⟩, ⟨2, [3], true⟩, ⟨3, [16, 17], true⟩, ⟨4, [18], true⟩, ⟨5, [19], true⟩, ⟨6, [20], true⟩, ⟨7, [21], true⟩, ⟨8, [1, 22], true⟩, ⟨9, [1, 22], true⟩, ⟨10, [22, 24], true⟩, ⟨11, [3, 22], true⟩, ⟨12, [22, 25, 26], true⟩, ⟨13, [22, 27], true⟩, ⟨14, [22, 28], true⟩, ⟨15, [22, 23, 29], true⟩, ⟨16, [3, 22], true⟩, ⟨17, [22, 30, 31], true⟩, ⟨18, [22, 32], true⟩] rfl (by kernel_rfl) ?_
  refine Mf rfl rfl (step_fieldAddr so41 Sr rfl) (Mf rfl rfl (step_load_ptr ty39 Sr) (Mv rfl rfl ?_))
  refine Mf rfl rfl (step_indexAddr_sl (i := i) underlying39 ty76 Sr Sr (by rfl) (gb (by exact hlt))) ?_
  refine Mf rfl rfl (step_load_ptr ty76 Sr) (Mf rfl rfl (step_call0 (rRight_spec _ (hz.tab _ (nth_mem hlt))) ⟨Sr, trivial⟩ call141) (Mf rfl rfl (step_not Sr) (Mv rfl rfl ?_)))
  refine Mk rfl rfl Sr rfl (step_load_ptr ty41 Sr) ?_
  refine Mk rfl rfl Sr rfl (step_fieldAddr so41 Sr rfl) ?_
  refine Mg rfl rfl Sr rfl (fun hw => step_load_ptr ty39 (Sub.w hw)) ?_
  refine Mk rfl rfl Sr rfl (step_move Sr) ?_
  refine Mg rfl rfl Sr rfl (fun hw => step_indexAddr_sl (i := i) underlying39 ty76 (Sub.w hw) (Sub.w hw) (by rfl) (gb (by have hwq := hw; (try simp only [beqB_t, beqB_f, NF] at hwq); exact hlt))) ?_
  refine Mg rfl rfl Sr rfl (fun hw => step_fieldAddr so76 (Sub.w hw) rfl) (Mg rfl rfl Sr rfl (fun hw => step_load_ptr ty9 (Sub.w hw)) (Mg rfl rfl Sr rfl (fun hw => step_call0 (rFind_spec _ _ hz1) ⟨(Sub.w hw), (Sub.w hw), trivial⟩ call142) ?_))
  refine Mk rfl rfl Sr rfl (step_move Sr) ?_
  refine Mg rfl rfl Sr rfl (fun hw => step_neq (Sub.w hw) (Sub.w hw)) (Mf rfl rfl (step_pick_or Sr Sr) (JM_nil ?_))
  refine J_cond Sr (fun h33 => ?_) (fun h33 => ?_)
  ·
   try simp only [NF] at h33
   refine Jr (Ja rfl (JL_nil (J_ret ?_)))
   refine K_ret1 (t := 2) rfl () ?_
   refine Sub.bool ?_
   have : (rightM (nth s.Tables i) && decide (findT s (nth s.Tables i).Name = i)) = false := by rcases h33 with h | h <;> simp [h]
   simp only [schM, rall_f (f := fun i => rightM (nth s.Tables i) && decide (findT s (nth s.Tables i).Name = i)) hlt this]; simp
  try simp only [NF] at h33
  refine J_skip (J_region (Jm rfl (Js rfl (step_add Sr Sr z6) (Ja rfl (JL_nil ?_)))))
  refine K_againL (σ := Nat) (s := i) (i + 1) zO ?_ (zU) (LSub.rfl)
  refine ⟨by omega, fun k hk => ?_⟩
  by_cases e : k = i
  ·
   subst e; simp_all
  exact hv k zG
 try simp only [NF] at h12
 have hall := rall_t (n := s.Tables.length) (fun k hk => hv k zG)
 refine J_exit (Jr (Ja rfl (JL_nil (J_ret ?_))))
 refine K_ret1 (t := 2) rfl () ?_
 refine Sub.bool ?_
 have : s.Tables.length ≤ 20 := by omega
 simp only [schM, hall, this]; simp
open Go Go.Proofs Go.Proofs.Tryz
section
variable {C : Cx} {E : Env} {L : List SP} {d : Option Nat} {ty : Nat} {pos : String} {af : Array Edge} {g : Option (Nat × Bool)}
theorem step_addW {T U : Nat} {x y : Operand} {a b : Int} (hx : Sub (opTy E x) (tV (.int .i64 a))) (hy : Sub (opTy E y) (tV (.int .i64 b))) :
    Step1 C ⟨d, .binOp .add T x y U, ty, pos, af, g⟩ E L (tV (.int .i64 (IntKind.i64.wrap (a + b)))) := step_int hx hy (fun P w => by simp [binOp, Op.intArith])
end
def namedM (t : GTable) (l : List GAttr) : Bool := decide (l.length = t.Attrs.length) && (List.range l.length).all fun i => decide ((nth l i).Kind = (nth t.Attrs i).Kind) && decide (columnT t (nth l i).Name = i)
def kidsI (k : Int) : Int := if kindOk k = true then kidsN k else -1
def bareR (p : GPlan) : Bool := (decide (p.Kind = 1) || decide (p.Table = 0)) && (decide (p.Kind = 2) || decide ((p.Tests.length : Int) = 0)) && ((decide (p.Kind = 3) || decide (p.Kind = 8)) || decide ((p.Cols.length : Int) = 0)) && ((decide (p.Kind = 7) || decide (p.Kind = 8)) || decide (p.Col = 0)) && (decide (p.Kind = 8) || decide (p.Agg = 0))
theorem side_var {x : GSide} {n : Int} (h : sideM x n = true) : x.Var = -1 ∨ x.Var = 0 := by
  unfold sideM at h
  split at h
  · exact .inl (by assumption)
  · simp only [Bool.and_eq_true, decide_eq_true_eq] at h; exact .inr h.1.1.1
theorem right_eq (t : GTest) (n : Int) : (decide (1 ≤ t.Op) && decide (t.Op ≤ 4) && decide (-2 < IntKind.i64.wrap (t.Left.Var + t.Right.Var)) && sideM t.Left n && sideM t.Right n) = testOk t n := by
  unfold testOk
  by_cases hl : sideM t.Left n = true
  · by_cases hr : sideM t.Right n = true
    · have h1 := side_var hl
      have h2 := side_var hr
      rw [hl, hr, wrap64_in (by unfold in64; omega)]
      have : decide (-2 < t.Left.Var + t.Right.Var) = (decide (t.Left.Var = 0) || decide (t.Right.Var = 0)) := by
        rw [Bool.eq_iff_iff]; simp only [decide_eq_true_eq, Bool.or_eq_true]; omega
      rw [this]; simp only [Bool.and_true]
    · rw [Bool.eq_false_iff.2 hr]; simp
  · rw [Bool.eq_false_iff.2 hl]; simp
theorem rcolL_spec (l : List GAttr) (n : ByteArray) (hl : l.length ≤ 1000000000000) : Fun1 prog 123 [tSl rAttr l, tV (.string n)] (tV (.int .i64 (columnL l n))) := by
 refine Spec.enter func123 rfl rfl fun h0 w0 fr0 => ?_
 refine Jr (Ja rfl (JL_nil (J_seq (Jr (Ja rfl ?_)))))
 refine JL_nil (J_block ?_)
 refine J_loopL (σ := Nat) (fun i => i ≤ l.length ∧ ∀ k, k < i → decide ((nth l k).Name = n) = false) (fun i => upd (upd (upd env0 0 (tSl rAttr l)) 1 (tV (.string n))) 5 (tV (.int .i64 i))) (fun i => []) (fun i => l.length - i) 0 ⟨by omega, fun k hk => by omega⟩ (zU) (LSub.rfl) ?_
 rintro i ⟨hi, hv⟩
 refine J_seq (Jr (Jm rfl (Jm rfl (Js rfl (step_len_sl underlying44 Sr) (Js rfl (step_lss Sr Sr) ?_)))))
 refine JL_nil ?_
 refine J_cond Sr (fun h9 => ?_) (fun h9 => ?_)
 ·
  try simp only [NF] at h9
  have hlt : i < l.length := by omega
  refine J_skip (J_seq (J_block (Jr (Jm rfl (Jm rfl ?_)))))
  refine Js rfl (step_indexAddr_sl (i := i) underlying44 ty89 Sr Sr (by rfl) (gb (by exact hlt))) ?_
  refine Js rfl (step_fieldAddr so89 Sr rfl) (Jl rfl ty9 Sr (Jm rfl (Js rfl (step_eql_str Sr Sr) (JL_nil ?_))))
  refine J_cond Sr (fun h18 => ?_) (fun h18 => ?_)
  ·
   try simp only [NF] at h18
   refine Jr (Jm rfl (Ja rfl (JL_nil (J_ret ?_))))
   refine K_ret1 (t := 4) rfl () (Sub.int ?_)
   exact (findI_at hlt hv (by simp_all)).symm
  try simp only [NF] at h18
  refine J_skip (J_region (Jm rfl (Js rfl (step_add Sr Sr z6) (Ja rfl (JL_nil ?_)))))
  refine K_againL (σ := Nat) (s := i) (i + 1) zO ?_ (zU) (LSub.rfl)
  refine ⟨by omega, fun k hk => ?_⟩
  by_cases e : k = i
  ·
   subst e; simp_all
  exact hv k zG
 try simp only [NF] at h9
 obtain rfl : i = l.length := by omega
 refine J_exit (Jr (Ja rfl (JL_nil (J_ret ?_))))
 refine K_ret1 (t := 4) rfl () (Sub.int ?_)
 exact (findI_no hv).symm
set_option maxHeartbeats 1000000 in
theorem rcolT_spec (t : GTable) (n : ByteArray) (hl : t.Attrs.length ≤ 1000000000000) (hw : ∀ a ∈ t.Attrs, a.Was.length ≤ 1000000000000) : Fun1 prog 309 [rTable.ty t, tV (.string n)] (tV (.int .i64 (columnT t n))) := by
 refine Spec.enter func309 rfl rfl fun h0 w0 fr0 => ?_
 refine Jr (Js rfl (step_box (R := rTable) Sr) (Ja rfl (JL_nil (J_seq (Jr ?_)))))
 refine Ja rfl (JL_nil (J_block ?_))
 refine J_loopL (σ := Nat) (fun i => i ≤ t.Attrs.length ∧ ∀ k, k < i → decide ((nth t.Attrs k).Name = n) = false) (fun i => upd (upd (upd env0 1 (tV (.string n))) 2 (tPtr rTable t)) 5 (tV (.int .i64 i))) (fun i => []) (fun i => t.Attrs.length - i) 0 ⟨by omega, fun k hk => by omega⟩ (zU) (LSub.rfl) ?_
 rintro i ⟨hi, hv⟩
 refine J_seq (Jr (Jm rfl (Js rfl (step_fieldAddr so76 Sr rfl) (Jl rfl ty44 Sr (Js rfl (step_len_sl underlying44 Sr) ?_)))))
 refine Js rfl (step_lss Sr Sr) (JL_nil ?_)
 refine J_cond Sr (fun h12 => ?_) (fun h12 => ?_)
 ·
  try simp only [NF] at h12
  have hlt : i < t.Attrs.length := by omega
  refine J_skip (J_seq (J_block (Jr (Js rfl (step_fieldAddr so76 Sr rfl) (Jl rfl ty44 Sr ?_)))))
  refine Jm rfl ?_
  refine Js rfl (step_indexAddr_sl (i := i) underlying44 ty89 Sr Sr (by rfl) (gb (by exact hlt))) ?_
  refine Js rfl (step_fieldAddr so89 Sr rfl) (Jl rfl ty9 Sr (Jm rfl (Js rfl (step_eql_str Sr Sr) (JL_nil ?_))))
  refine J_cond Sr (fun h22 => ?_) (fun h22 => ?_)
  ·
   try simp only [NF] at h22
   refine Jr (Jm rfl (Ja rfl (JL_nil (J_ret ?_))))
   refine K_ret1 (t := 4) rfl () (Sub.int ?_)
   rw [columnT, if_pos (by rw [findI_at hlt hv (by simp_all)]; omega), findI_at hlt hv (by simp_all)]
  try simp only [NF] at h22
  refine J_skip (J_region (Jm rfl (Js rfl (step_add Sr Sr z6) (Ja rfl (JL_nil ?_)))))
  refine K_againL (σ := Nat) (s := i) (i + 1) zO ?_ (zU) (LSub.rfl)
  refine ⟨by omega, fun k hk => ?_⟩
  by_cases e : k = i
  ·
   subst e; simp_all
  exact hv k zG
 try simp only [NF] at h12
 have hno : ¬ 0 ≤ findI (fun a => decide (a.Name = n)) 0 t.Attrs := by rw [findI_no (fun k hk => hv k zG)]; omega
 refine J_exit (J_seq (Jr (Ja rfl (JL_nil (J_block ?_)))))
 refine J_loopL (σ := Nat) (fun i => i ≤ t.Attrs.length ∧ ∀ k, k < i → ((nth t.Attrs k).Was.any fun x => decide (n = x)) = false) (fun i => upd (upd (upd env0 1 (tV (.string n))) 2 (tPtr rTable t)) 6 (tV (.int .i64 i))) (fun i => []) (fun i => t.Attrs.length - i) 0 ⟨by omega, fun k hk => by omega⟩ (zU) (LSub.rfl) ?_
 rintro i ⟨hi2, hv2⟩
 refine J_seq (Jr (Jm rfl (Js rfl (step_fieldAddr so76 Sr rfl) (Jl rfl ty44 Sr (Js rfl (step_len_sl underlying44 Sr) ?_)))))
 refine Js rfl (step_lss Sr Sr) (JL_nil ?_)
 refine J_cond Sr (fun h28 => ?_) (fun h28 => ?_)
 ·
  try simp only [NF] at h28
  have hlt : i < t.Attrs.length := by omega
  have hwl := hw _ (nth_mem hlt)
  refine J_skip (J_seq (J_block (Jr (Ja rfl (JL_nil ?_)))))
  refine J_block ?_
  refine J_loopL (σ := Nat) (fun k => k ≤ (nth t.Attrs i).Was.length ∧ ∀ j, j < k → decide (n = nth (nth t.Attrs i).Was j) = false) (fun k => upd (upd (upd (upd env0 1 (tV (.string n))) 2 (tPtr rTable t)) 6 (tV (.int .i64 i))) 7 (tV (.int .i64 k))) (fun k => []) (fun k => (nth t.Attrs i).Was.length - k) 0 ⟨by omega, fun k hk => by omega⟩ (zU) (LSub.rfl) ?_
  rintro k ⟨hi3, hv3⟩
  refine J_seq (Jr (Jm rfl (Js rfl (step_fieldAddr so76 Sr rfl) (Jl rfl ty44 Sr (Jm rfl ?_)))))
  refine Js rfl (step_indexAddr_sl (i := i) underlying44 ty89 Sr Sr (by rfl) (gb (by exact hlt))) ?_
  refine Js rfl (step_fieldAddr so89 Sr rfl) (Jl rfl ty85 Sr (Js rfl (step_len_sl underlying85 Sr) (Js rfl (step_lss Sr Sr) (JL_nil ?_))))
  refine J_cond Sr (fun h39 => ?_) (fun h39 => ?_)
  ·
   try simp only [NF] at h39
   have hkt : k < (nth t.Attrs i).Was.length := by omega
   refine J_skip (J_seq (J_block (Jr (Js rfl (step_fieldAddr so76 Sr rfl) (Jl rfl ty44 Sr ?_)))))
   refine Jm rfl ?_
   refine Js rfl (step_indexAddr_sl (i := i) underlying44 ty89 Sr Sr (by rfl) (gb (by exact hlt))) ?_
   refine Js rfl (step_fieldAddr so89 Sr rfl) (Jl rfl ty85 Sr (Jm rfl ?_))
   refine Js rfl (step_indexAddr_sl (i := k) underlying85 ty9 Sr Sr (by rfl) (gb (by exact hkt))) ?_
   refine Jl rfl ty9 Sr (Jm rfl (Js rfl (step_eql_str Sr Sr) (JL_nil ?_)))
   refine J_cond Sr (fun h52 => ?_) (fun h52 => ?_)
   ·
    try simp only [NF] at h52
    refine Jr (Jm rfl (Ja rfl (JL_nil (J_ret ?_))))
    refine K_ret1 (t := 4) rfl () (Sub.int ?_)
    rw [columnT, if_neg hno, findI_at hlt hv2 (any_t hkt (by rw [decide_eq_true_eq]; exact h52.symm))]
   try simp only [NF] at h52
   refine J_skip (J_region (Jm rfl (Js rfl (step_add Sr Sr z6) (Ja rfl (JL_nil ?_)))))
   refine K_againL (σ := Nat) (s := k) (k + 1) zO ?_ (zU) (LSub.rfl)
   refine ⟨by omega, fun j hj => ?_⟩
   by_cases e : j = k
   ·
    subst e; rw [decide_eq_false_iff_not]; intro q; exact h52 q.symm
   exact hv3 j zG
  try simp only [NF] at h39
  obtain rfl : k = (nth t.Attrs i).Was.length := by omega
  refine J_exit (J_region (Jm rfl (Js rfl (step_add Sr Sr z6) (Ja rfl (JL_nil ?_)))))
  refine K_againL (σ := Nat) (s := i) (i + 1) zO ?_ (zU) (LSub.rfl)
  refine ⟨by omega, fun k hk => ?_⟩
  by_cases e : k = i
  ·
   subst e; exact any_f hv3
  exact hv2 k zG
 try simp only [NF] at h28
 obtain rfl : i = t.Attrs.length := by omega
 refine J_exit (Jr (Ja rfl (JL_nil (J_ret ?_))))
 refine K_ret1 (t := 4) rfl () (Sub.int ?_)
 rw [columnT, if_neg hno, findI_no hv2]
theorem rIdx_spec (l : List Int) (n : Nat) (hl : l.length ≤ 1000000000000) : Fun1 prog 268 [tSl rInt l, tV (.int .i64 n)] (tV (.bool (pickOk n l))) := by
 refine Spec.enter func268 rfl rfl fun h0 w0 fr0 => ?_
 refine Jr (Ja rfl (JL_nil (J_seq (Jr (Ja rfl ?_)))))
 refine JL_nil (J_block ?_)
 refine J_loopL (σ := Nat) (fun i => i ≤ l.length ∧ ∀ k, k < i → (decide (0 ≤ nth l k) && decide (nth l k < n)) = true) (fun i => upd (upd (upd env0 0 (tSl rInt l)) 1 (tV (.int .i64 n))) 5 (tV (.int .i64 i))) (fun i => []) (fun i => l.length - i) 0 ⟨by omega, fun k hk => by omega⟩ (zU) (LSub.rfl) ?_
 rintro i ⟨hi, hv⟩
 refine J_seq (Jr (Jm rfl (Jm rfl (Js rfl (step_len_sl underlying36 Sr) (Js rfl (step_lss Sr Sr) ?_)))))
 refine JL_nil ?_
 refine J_cond Sr (fun h9 => ?_) (fun h9 => ?_)
 ·
  try simp only [NF] at h9
  have hlt : i < l.length := by omega
  refine J_skip (J_seq (J_block (Jr (Jm rfl (Jm rfl ?_)))))
  refine Js rfl (step_indexAddr_sl (i := i) underlying36 ty3 Sr Sr (by rfl) (gb (by exact hlt))) ?_
  refine Jl rfl ty3 Sr (Js rfl (step_lss Sr Sr) (Jm rfl ?_))
  refine Jk rfl Sr rfl (step_move Sr) ?_
  refine Jk rfl Sr rfl (step_move Sr) ?_
  refine Jg rfl Sr rfl (fun hw => step_indexAddr_sl (i := i) underlying36 ty3 (Sub.w hw) (Sub.w hw) (by rfl) (gb (by have hwq := hw; (try simp only [beqB_t, beqB_f, NF] at hwq); exact hlt))) ?_
  refine Jg rfl Sr rfl (fun hw => step_load_ptr ty3 (Sub.w hw)) ?_
  refine Jk rfl Sr rfl (step_move Sr) ?_
  refine Jg rfl Sr rfl (fun hw => step_geq (Sub.w hw) (Sub.w hw)) (Js rfl (step_pick_or Sr Sr) (JL_nil ?_))
  refine J_cond Sr (fun h24 => ?_) (fun h24 => ?_)
  ·
   try simp only [NF] at h24
   refine Jr (Ja rfl (JL_nil (J_ret ?_)))
   refine K_ret1 (t := 4) rfl () ?_
   refine Sub.bool ?_
   exact (all_f hlt (by rcases h24 with h | h <;> simp <;> omega)).symm
  try simp only [NF] at h24
  refine J_skip (J_region (Jm rfl (Js rfl (step_add Sr Sr z6) (Ja rfl (JL_nil ?_)))))
  refine K_againL (σ := Nat) (s := i) (i + 1) zO ?_ (zU) (LSub.rfl)
  refine ⟨by omega, fun k hk => ?_⟩
  by_cases e : k = i
  ·
   subst e; simp; omega
  exact hv k zG
 try simp only [NF] at h9
 have hall : pickOk n l = true := all_t (fun k hk => hv k zG)
 refine J_exit (Jr (Ja rfl (JL_nil (J_ret ?_))))
 refine K_ret1 (t := 4) rfl () ?_
 refine Sub.bool ?_
 exact hall.symm
set_option maxHeartbeats 1000000 in
theorem ralike_spec (a b : List GAttr) (hl : a.length ≤ 1000000000000) : Fun1 prog 267 [tSl rAttr a, tSl rAttr b] (tV (.bool (alikeM a b))) := by
 refine Spec.enter func267 rfl rfl fun h0 w0 fr0 => ?_
 refine Jr (Ja rfl (JL_nil (J_seq (Jr (Jm rfl ?_)))))
 refine Js rfl (step_len_sl underlying44 Sr) (Jm rfl (Js rfl (step_len_sl underlying44 Sr) (Js rfl (step_neq Sr Sr) (JL_nil ?_))))
 refine J_cond Sr (fun h10 => ?_) (fun h10 => ?_)
 ·
  try simp only [NF] at h10
  refine Jr (Ja rfl (JL_nil (J_ret ?_)))
  refine K_ret1 (t := 4) rfl () ?_
  refine Sub.bool ?_
  have : ¬ a.length = b.length := by omega
  simp [alikeM, eqL, this]
 try simp only [NF] at h10
 have heq : a.length = b.length := by omega
 refine J_skip (J_seq (Jr (Ja rfl (JL_nil (J_block ?_)))))
 refine J_loopL (σ := Nat) (fun i => i ≤ a.length ∧ ∀ k, k < i → alikeA (nth a k) (nth b k) = true) (fun i => upd (upd (upd env0 0 (tSl rAttr a)) 1 (tSl rAttr b)) 5 (tV (.int .i64 i))) (fun i => []) (fun i => a.length - i) 0 ⟨by omega, fun k hk => by omega⟩ (zU) (LSub.rfl) ?_
 rintro i ⟨hi, hv⟩
 refine J_seq (Jr (Jm rfl (Jm rfl (Js rfl (step_len_sl underlying44 Sr) (Js rfl (step_lss Sr Sr) ?_)))))
 refine JL_nil ?_
 refine J_cond Sr (fun h14 => ?_) (fun h14 => ?_)
 ·
  try simp only [NF] at h14
  have hlt : i < a.length := by omega
  refine J_skip (J_seq (J_block (J_seq ?_)))
  refine J_draw [⟨0, [0], true⟩, ⟨1, [5], true⟩, ⟨2, [17, 18], true⟩, ⟨3, [19], true⟩, ⟨4, [20], true⟩, ⟨5, [1], true⟩, ⟨6, [5], true⟩, ⟨7, [22, 23], true⟩, ⟨8, [24], true⟩, ⟨9, [25], true⟩, ⟨10, [21, 26], true⟩, ⟨11, [27], true⟩, ⟨12, [0, 28], true⟩, ⟨13, [5, 28], true⟩, ⟨14, [28, 29, 30], true⟩, ⟨15, [28, 31], true⟩, ⟨16, [28, 32], true⟩, ⟨17, [1, 28], true⟩, ⟨18, [5, 28], true⟩, ⟨19, [28, 34, 35], true⟩, ⟨20, [28, 36], true⟩, ⟨21, [28, 37], true⟩, ⟨22, [28, 33, 38], true⟩, ⟨23, [28, 39], true⟩] rfl (by kernel_rfl) ?_
  refine Mv rfl rfl (Mv rfl rfl ?_)
  refine Mf rfl rfl (step_indexAddr_sl (i := i) underlying44 ty89 Sr Sr (by rfl) (gb (by exact hlt))) ?_
  refine Mf rfl rfl (step_fieldAddr so89 Sr rfl) (Mf rfl rfl (step_load_ptr ty9 Sr) (Mv rfl rfl (Mv rfl rfl ?_)))
  refine Mf rfl rfl (step_indexAddr_sl (i := i) underlying44 ty89 Sr Sr (by rfl) (gb (by show i < b.length; omega))) ?_
  refine Mf rfl rfl (step_fieldAddr so89 Sr rfl) (Mf rfl rfl (step_load_ptr ty9 Sr) (Mf rfl rfl (step_neq_str Sr Sr) (Mv rfl rfl ?_)))
  refine Mk rfl rfl Sr rfl (step_move Sr) ?_
  refine Mk rfl rfl Sr rfl (step_move Sr) ?_
  refine Mg rfl rfl Sr rfl (fun hw => step_indexAddr_sl (i := i) underlying44 ty89 (Sub.w hw) (Sub.w hw) (by rfl) (gb (by have hwq := hw; (try simp only [beqB_t, beqB_f, NF] at hwq); exact hlt))) ?_
  refine Mg rfl rfl Sr rfl (fun hw => step_fieldAddr so89 (Sub.w hw) rfl) (Mg rfl rfl Sr rfl (fun hw => step_load_ptr ty3 (Sub.w hw)) ?_)
  refine Mk rfl rfl Sr rfl (step_move Sr) ?_
  refine Mk rfl rfl Sr rfl (step_move Sr) ?_
  refine Mg rfl rfl Sr rfl (fun hw => step_indexAddr_sl (i := i) underlying44 ty89 (Sub.w hw) (Sub.w hw) (by rfl) (gb (by have hwq := hw; (try simp only [beqB_t, beqB_f, NF] at hwq); show i < b.length; omega))) ?_
  refine Mg rfl rfl Sr rfl (fun hw => step_fieldAddr so89 (Sub.w hw) rfl) (Mg rfl rfl Sr rfl (fun hw => step_load_ptr ty3 (Sub.w hw)) (Mg rfl rfl Sr rfl (fun hw => step_neq (Sub.w hw) (Sub.w hw)) (Mf rfl rfl (step_pick_or Sr Sr) (JM_nil ?_))))
  refine J_cond Sr (fun h40 => ?_) (fun h40 => ?_)
  ·
   try simp only [NF] at h40
   refine Jr (Ja rfl (JL_nil (J_ret ?_)))
   refine K_ret1 (t := 4) rfl () ?_
   refine Sub.bool ?_
   have : alikeA (nth a i) (nth b i) = false := by rcases h40 with h | h <;> simp [alikeA, h]
   simp only [alikeM, eqL, rall_f (f := fun i => alikeA (nth a i) (nth b i)) hlt this]; simp
  try simp only [NF] at h40
  refine J_skip (J_region (Jm rfl (Js rfl (step_add Sr Sr z6) (Ja rfl (JL_nil ?_)))))
  refine K_againL (σ := Nat) (s := i) (i + 1) zO ?_ (zU) (LSub.rfl)
  refine ⟨by omega, fun k hk => ?_⟩
  by_cases e : k = i
  ·
   subst e; simp_all [alikeA]
  exact hv k zG
 try simp only [NF] at h14
 have hall := rall_t (n := a.length) (fun k hk => hv k zG)
 refine J_exit (Jr (Ja rfl (JL_nil (J_ret ?_))))
 refine K_ret1 (t := 4) rfl () ?_
 refine Sub.bool ?_
 rw [alikeM, eqL, hall]; simp [heq]
set_option maxHeartbeats 1000000 in
theorem rpick_spec (l : List GAttr) (cols : List Int) (hc : cols.length ≤ 1000000000) (hok : pickOk l.length cols = true) : Fun1 prog 269 [tSl rAttr l, tSl rInt cols] (tSl rAttr (pickL l cols)) := by
 refine Spec.enter func269 rfl rfl fun h0 w0 fr0 => ?_
 refine Jr (Ja rfl (JL_nil (Jr (Ja rfl (JL_nil ?_)))))
 refine J_seq (Jr (Ja rfl (JL_nil (J_block ?_))))
 refine J_loopL (σ := Nat × Value) (fun ⟨i, v⟩ => i ≤ cols.length) (fun ⟨i, v⟩ => upd (upd (upd (upd (upd env0 0 (tSl rAttr l)) 1 (tSl rInt cols)) 4 (tV (.slice none 0 0))) 5 (rV.ty v)) 6 (tV (.int .i64 i))) (fun ⟨i, v⟩ => [own 89 rAttr v (pickL l (cols.take i))]) (fun ⟨i, v⟩ => cols.length - i) (0, .slice none 0 0) (by exact Nat.zero_le _) (.u (SubE.upd (Sub.rV rfl) (zU))) (LSub.nilown) ?_
 rintro ⟨i, v⟩ hi
 try dsimp only at hi
 refine J_seq (Jr (Jm rfl (Jm rfl (Js rfl (step_len_sl underlying36 Sr) (Js rfl (step_lss Sr Sr) ?_)))))
 refine JL_nil ?_
 refine J_cond Sr (fun h10 => ?_) (fun h10 => ?_)
 ·
  try simp only [NF] at h10
  have hlt : i < cols.length := by omega
  have hpl : (pickL l (cols.take i)).length ≤ 1000000000 := by simp [pickL]; omega
  have hib : 0 ≤ nth cols i ∧ nth cols i < l.length := by
   have := List.all_eq_true.1 hok _ (nth_mem hlt)
   simpa using this
  refine J_skip (J_seq (J_block (J_region (Jm rfl (Jm rfl ?_)))))
  refine Jm rfl (Jm rfl ?_)
  refine Js rfl (step_indexAddr_sl (i := i) underlying36 ty3 Sr Sr (by rfl) (gb (by exact hlt))) ?_
  refine Jl rfl ty3 Sr (Js rfl (step_indexAddr_sl (i := (nth cols i).toNat) underlying44 ty89 Sr Sr zG (gb zG)) (Jl rfl ty89 Sr ?_))
  refine Js rfl (step_literal (ys := [_]) underlying44 el89 ⟨rfl, Sr, trivial⟩ rfl (by decide)) ?_
  refine Jx rfl (step_append underlying44 el89 Sr Sr zS (by simp; omega) (by simp; omega)) fun v22 => ?_
  refine Ja rfl (JL_nil (J_region (Jm rfl (Js rfl (step_add Sr Sr z6) (Ja rfl ?_)))))
  refine JL_nil ?_
  refine K_againL (σ := Nat × Value) (s := (i, v)) (i + 1, v22) zO (by show i + 1 ≤ _; omega) (zU) (.c zS (SPs.of (A := own 89 rAttr v22 (pickL l (cols.take i) ++ [nth l (nth cols i).toNat])) (by rw [takeB hlt]; simp [pickL])) (LSub.nil))
 try simp only [NF] at h10
 obtain rfl : i = cols.length := by omega
 refine K_lsub (L' := [own 89 rAttr v (pickL l cols)]) (.c zS (SPs.of (A := own 89 rAttr v (pickL l (cols.take cols.length))) (by rw [List.take_length])) (LSub.nil)) ?_
 refine J_exit (Jr (Jm rfl (Ja rfl (JL_nil (J_ret ?_)))))
 refine K_ret1' (rv := .tmp 4) rfl () (Sel.take (Sel.none _)) (.tmp Sr) Frz.own
theorem rside_spec (x : GSide) (n : Int) : Fun1 prog 310 [rSide.ty x, tV (.int .i64 n)] (tV (.bool (sideM x n))) := by
 refine Spec.enter func310 rfl rfl fun h0 w0 fr0 => ?_
 refine Jr (Js rfl (step_box (R := rSide) Sr) (Ja rfl (JL_nil (J_seq (Jr ?_)))))
 refine Js rfl (step_fieldAddr so91 Sr rfl) (Jl rfl ty3 Sr (Js rfl (step_eql Sr Sr) (JL_nil ?_)))
 refine J_cond Sr (fun h7 => ?_) (fun h7 => ?_)
 ·
  try simp only [NF] at h7
  refine Jr (Js rfl (step_fieldAddr so91 Sr rfl) (Jl rfl ty3 Sr (Js rfl (step_eql Sr Sr) (Jm rfl ?_))))
  refine Jk rfl Sr rfl (step_fieldAddr so91 Sr rfl) ?_
  refine Jg rfl Sr rfl (fun hw => step_load_ptr ty87 (Sub.w hw)) (Jg rfl Sr rfl (fun hw => step_call0 (refValidV_spec _) ⟨(Sub.w hw), trivial⟩ call75) (Js rfl (step_pick_and Sr Sr) (Ja rfl (JL_nil (J_ret ?_)))))
  refine K_ret1 (t := 4) rfl () ?_
  refine Sub.bool ?_
  simp [sideM, h7]
 try simp only [NF] at h7
 refine J_skip (Jr (Js rfl (step_fieldAddr so91 Sr rfl) (Jl rfl ty3 Sr (Js rfl (step_eql Sr Sr) (Jm rfl ?_)))))
 refine Jk rfl Sr rfl (step_fieldAddr so91 Sr rfl) ?_
 refine Jg rfl Sr rfl (fun hw => step_load_ptr ty3 (Sub.w hw)) (Jg rfl Sr rfl (fun hw => step_geq (Sub.w hw) Sr) (Js rfl (step_pick_and Sr Sr) (Jm rfl ?_)))
 refine Jk rfl Sr rfl (step_fieldAddr so91 Sr rfl) ?_
 refine Jg rfl Sr rfl (fun hw => step_load_ptr ty3 (Sub.w hw)) ?_
 refine Jk rfl Sr rfl (step_move Sr) ?_
 refine Jg rfl Sr rfl (fun hw => step_lss (Sub.w hw) (Sub.w hw)) (Js rfl (step_pick_and Sr Sr) (Jm rfl ?_))
 refine Jk rfl Sr rfl (step_fieldAddr so91 Sr rfl) ?_
 refine Jg rfl Sr rfl (fun hw => step_load_ptr ty87 (Sub.w hw)) ?_
 refine Jk rfl Sr rfl (step_build (x := (⟨0, 0, ⟨#[]⟩⟩ : GValue)) (zs := [[Value.int .i64 0], [Value.int .i64 0], [Value.string ⟨#[]⟩]]) so87 (fun w => zeroValue87 w) trivial ⟨fun _ => rfl, fun _ => rfl, fun _ => rfl, trivial⟩) ?_
 refine Jg rfl Sr rfl (fun hw => step_eql_val (Sub.w hw) (Sub.w hw)) (Js rfl (step_pick_and Sr Sr) (Ja rfl (JL_nil (J_ret ?_))))
 refine K_ret1 (t := 4) rfl () ?_
 refine Sub.bool ?_
 simp [sideM, h7]
theorem rRightT_spec (t : GTest) (n : Int) : Fun1 prog 266 [rTest.ty t, tV (.int .i64 n)] (tV (.bool (testOk t n))) := by
 refine Spec.enter func266 rfl rfl fun h0 w0 fr0 => ?_
 refine Jr (Js rfl (step_box (R := rTest) Sr) (Ja rfl (JL_nil (Jr (Js rfl (step_fieldAddr so93 Sr rfl) ?_)))))
 refine Jl rfl ty3 Sr (Js rfl (step_geq Sr Sr) (Jm rfl ?_))
 refine Jk rfl Sr rfl (step_fieldAddr so93 Sr rfl) ?_
 refine Jg rfl Sr rfl (fun hw => step_load_ptr ty3 (Sub.w hw)) (Jg rfl Sr rfl (fun hw => step_leq (Sub.w hw) Sr) (Js rfl (step_pick_and Sr Sr) (Jm rfl ?_)))
 refine Jk rfl Sr rfl (step_fieldAddr so93 Sr rfl) ?_
 refine Jg rfl Sr rfl (fun hw => step_fieldAddr so91 (Sub.w hw) rfl) (Jg rfl Sr rfl (fun hw => step_load_ptr ty3 (Sub.w hw)) ?_)
 refine Jk rfl Sr rfl (step_fieldAddr so93 Sr rfl) ?_
 refine Jg rfl Sr rfl (fun hw => step_fieldAddr so91 (Sub.w hw) rfl) (Jg rfl Sr rfl (fun hw => step_load_ptr ty3 (Sub.w hw)) (Jg rfl Sr rfl (fun hw => step_addW (Sub.w hw) (Sub.w hw)) (Jg rfl Sr rfl (fun hw => step_gtr (Sub.w hw) Sr) (Js rfl (step_pick_and Sr Sr) (Jm rfl ?_)))))
 refine Jk rfl Sr rfl (step_fieldAddr so93 Sr rfl) ?_
 refine Jg rfl Sr rfl (fun hw => step_load_ptr ty91 (Sub.w hw)) ?_
 refine Jk rfl Sr rfl (step_move Sr) ?_
 refine Jg rfl Sr rfl (fun hw => step_call0 (rside_spec _ _) ⟨(Sub.w hw), (Sub.w hw), trivial⟩ call310) (Js rfl (step_pick_and Sr Sr) (Jm rfl ?_))
 refine Jk rfl Sr rfl (step_fieldAddr so93 Sr rfl) ?_
 refine Jg rfl Sr rfl (fun hw => step_load_ptr ty91 (Sub.w hw)) ?_
 refine Jk rfl Sr rfl (step_move Sr) ?_
 refine Jg rfl Sr rfl (fun hw => step_call0 (rside_spec _ _) ⟨(Sub.w hw), (Sub.w hw), trivial⟩ call310) (Js rfl (step_pick_and Sr Sr) (Ja rfl (JL_nil (J_ret ?_))))
 refine K_ret1 (t := 4) rfl () ?_
 refine Sub.bool ?_
 exact right_eq t n
set_option maxHeartbeats 1000000 in
theorem rnamed_spec (t : GTable) (hz : TabSz t) (l : List GAttr) (hl : l.length ≤ 1000000000000) : Fun1 prog 265 [rTable.ty t, tSl rAttr l] (tV (.bool (namedM t l))) := by
 refine Spec.enter func265 rfl rfl fun h0 w0 fr0 => ?_
 have hz2 := hz.at'
 have hwas : ∀ a ∈ t.Attrs, a.Was.length ≤ 1000000000000 := fun a ha => Nat.le_trans (hz.was a ha) zG
 refine Jr (Js rfl (step_box (R := rTable) Sr) (Ja rfl (JL_nil (J_seq (Jr ?_)))))
 refine Jm rfl (Js rfl (step_len_sl underlying44 Sr) (Js rfl (step_fieldAddr so76 Sr rfl) (Jl rfl ty44 Sr (Js rfl (step_len_sl underlying44 Sr) (Js rfl (step_neq Sr Sr) ?_)))))
 refine JL_nil ?_
 refine J_cond Sr (fun h11 => ?_) (fun h11 => ?_)
 ·
  try simp only [NF] at h11
  refine Jr (Ja rfl (JL_nil (J_ret ?_)))
  refine K_ret1 (t := 4) rfl () ?_
  refine Sub.bool ?_
  have : ¬ l.length = t.Attrs.length := by omega
  simp [namedM, this]
 try simp only [NF] at h11
 have heq : l.length = t.Attrs.length := by omega
 refine J_skip (J_seq (Jr (Ja rfl (JL_nil (J_block ?_)))))
 refine J_loopL (σ := Nat) (fun i => i ≤ l.length ∧ ∀ k, k < i → (decide ((nth l k).Kind = (nth t.Attrs k).Kind) && decide (columnT t (nth l k).Name = k)) = true) (fun i => upd (upd (upd env0 1 (tSl rAttr l)) 2 (tPtr rTable t)) 5 (tV (.int .i64 i))) (fun i => []) (fun i => l.length - i) 0 ⟨by omega, fun k hk => by omega⟩ (zU) (LSub.rfl) ?_
 rintro i ⟨hi, hv⟩
 refine J_seq (Jr (Jm rfl (Jm rfl (Js rfl (step_len_sl underlying44 Sr) (Js rfl (step_lss Sr Sr) ?_)))))
 refine JL_nil ?_
 refine J_cond Sr (fun h15 => ?_) (fun h15 => ?_)
 ·
  try simp only [NF] at h15
  have hlt : i < l.length := by omega
  refine J_skip (J_seq (J_block (J_seq ?_)))
  refine J_draw [⟨0, [1], true⟩, ⟨1, [5], true⟩, ⟨2, [18, 19], true⟩, ⟨3, [20], true⟩, ⟨4, [21], true⟩, ⟨5, [2], true⟩, ⟨6, [23], true⟩, ⟨7, [5], true⟩, ⟨8, [24, 25], true⟩, ⟨9, [26], true⟩, ⟨10, [27], true⟩, ⟨11, [22, 28], true⟩, ⟨12, [29], true⟩, ⟨13, [2, 30], true⟩, ⟨14, [1, 30], true⟩, ⟨15, [5, 30], true⟩, ⟨16, [30, 32, 33], true⟩, ⟨17, [30, 34], true⟩, ⟨18, [30, 35], true⟩, ⟨19, [30, 31, 36], true⟩, ⟨20, [5, 30], true⟩, ⟨21, [30, 37, 38], true⟩, ⟨22, [30, 39], true⟩] rfl (by kernel_rfl) ?_
  refine Mv rfl rfl (Mv rfl rfl ?_)
  refine Mf rfl rfl (step_indexAddr_sl (i := i) underlying44 ty89 Sr Sr (by rfl) (gb (by exact hlt))) ?_
  refine Mf rfl rfl (step_fieldAddr so89 Sr rfl) (Mf rfl rfl (step_load_ptr ty3 Sr) (Mf rfl rfl (step_fieldAddr so76 Sr rfl) (Mf rfl rfl (step_load_ptr ty44 Sr) (Mv rfl rfl ?_))))
  refine Mf rfl rfl (step_indexAddr_sl (i := i) underlying44 ty89 Sr Sr (by rfl) (gb (by show i < t.Attrs.length; omega))) ?_
  refine Mf rfl rfl (step_fieldAddr so89 Sr rfl) (Mf rfl rfl (step_load_ptr ty3 Sr) (Mf rfl rfl (step_neq Sr Sr) (Mv rfl rfl ?_)))
  refine Mk rfl rfl Sr rfl (step_load_ptr ty76 Sr) ?_
  refine Mk rfl rfl Sr rfl (step_move Sr) ?_
  refine Mk rfl rfl Sr rfl (step_move Sr) ?_
  refine Mg rfl rfl Sr rfl (fun hw => step_indexAddr_sl (i := i) underlying44 ty89 (Sub.w hw) (Sub.w hw) (by rfl) (gb (by have hwq := hw; (try simp only [beqB_t, beqB_f, NF] at hwq); exact hlt))) ?_
  refine Mg rfl rfl Sr rfl (fun hw => step_fieldAddr so89 (Sub.w hw) rfl) (Mg rfl rfl Sr rfl (fun hw => step_load_ptr ty9 (Sub.w hw)) (Mg rfl rfl Sr rfl (fun hw => step_call0 (rcolT_spec _ _ zG hwas) ⟨(Sub.w hw), (Sub.w hw), trivial⟩ call309) ?_))
  refine Mk rfl rfl Sr rfl (step_move Sr) ?_
  refine Mg rfl rfl Sr rfl (fun hw => step_neq (Sub.w hw) (Sub.w hw)) (Mf rfl rfl (step_pick_or Sr Sr) (JM_nil ?_))
  refine J_cond Sr (fun h40 => ?_) (fun h40 => ?_)
  ·
   try simp only [NF] at h40
   refine Jr (Ja rfl (JL_nil (J_ret ?_)))
   refine K_ret1 (t := 4) rfl () ?_
   refine Sub.bool ?_
   have : (decide ((nth l i).Kind = (nth t.Attrs i).Kind) && decide (columnT t (nth l i).Name = i)) = false := by rcases h40 with h | h <;> simp [h]
   simp only [namedM, rall_f (f := fun i => decide ((nth l i).Kind = (nth t.Attrs i).Kind) && decide (columnT t (nth l i).Name = i)) hlt this]; simp
  try simp only [NF] at h40
  refine J_skip (J_region (Jm rfl (Js rfl (step_add Sr Sr z6) (Ja rfl (JL_nil ?_)))))
  refine K_againL (σ := Nat) (s := i) (i + 1) zO ?_ (zU) (LSub.rfl)
  refine ⟨by omega, fun k hk => ?_⟩
  by_cases e : k = i
  ·
   subst e; simp_all
  exact hv k zG
 try simp only [NF] at h15
 have hall := rall_t (n := l.length) (fun k hk => hv k zG)
 refine J_exit (Jr (Ja rfl (JL_nil (J_ret ?_))))
 refine K_ret1 (t := 4) rfl () ?_
 refine Sub.bool ?_
 rw [namedM, hall]; simp [heq]
theorem rkids_spec (k : Int) : Fun1 prog 190 [tV (.int .i64 k)] (tV (.int .i64 (kidsI k))) := by
 refine Spec.enter func190 rfl rfl fun h0 w0 fr0 => ?_
 refine Jr (Ja rfl (JL_nil (J_seq (Jr (Jm rfl ?_)))))
 refine JL_nil (J_block (Jr (Js rfl (step_eql Sr Sr) (Ja rfl (JL_nil ?_)))))
 refine J_cond Sr (fun hc1 => ?_) (fun hc1 => ?_)
 ·
  try simp only [NF] at hc1
  refine Jr (Ja rfl (JL_nil (J_ret ?_)))
  refine K_ret1 (t := 2) rfl () (Sub.int ?_)
  unfold kidsI kindOk kidsN
  repeat' split
  all_goals first | rfl | (simp_all; done) | (simp_all; omega)
 try simp only [NF] at hc1
 refine J_seq (Jr (Js rfl (step_eql Sr Sr) (Ja rfl (JL_nil ?_))))
 refine J_cond Sr (fun hc2 => ?_) (fun hc2 => ?_)
 ·
  try simp only [NF] at hc2
  refine J_skip ?_
  refine J_cond Sr (fun hc3 => ?_) (fun hc3 => ?_)
  ·
   try simp only [NF] at hc3
   refine Jr (Ja rfl (JL_nil (J_ret ?_)))
   refine K_ret1 (t := 2) rfl () (Sub.int ?_)
   unfold kidsI kindOk kidsN
   repeat' split
   all_goals first | rfl | (simp_all; done) | (simp_all; omega)
  try simp only [NF] at hc3
  first | contradiction | omega | (simp_all; done)
 try simp only [NF] at hc2
 refine Jr (Js rfl (step_eql Sr Sr) (Ja rfl (JL_nil ?_)))
 refine J_cond Sr (fun hc4 => ?_) (fun hc4 => ?_)
 ·
  try simp only [NF] at hc4
  refine J_skip ?_
  refine J_cond Sr (fun hc5 => ?_) (fun hc5 => ?_)
  ·
   try simp only [NF] at hc5
   refine Jr (Ja rfl (JL_nil (J_ret ?_)))
   refine K_ret1 (t := 2) rfl () (Sub.int ?_)
   unfold kidsI kindOk kidsN
   repeat' split
   all_goals first | rfl | (simp_all; done) | (simp_all; omega)
  try simp only [NF] at hc5
  first | contradiction | omega | (simp_all; done)
 try simp only [NF] at hc4
 refine Jr (Js rfl (step_eql Sr Sr) (Ja rfl (JL_nil ?_)))
 refine J_cond Sr (fun hc6 => ?_) (fun hc6 => ?_)
 ·
  try simp only [NF] at hc6
  refine J_skip ?_
  refine J_cond Sr (fun hc7 => ?_) (fun hc7 => ?_)
  ·
   try simp only [NF] at hc7
   refine Jr (Ja rfl (JL_nil (J_ret ?_)))
   refine K_ret1 (t := 2) rfl () (Sub.int ?_)
   unfold kidsI kindOk kidsN
   repeat' split
   all_goals first | rfl | (simp_all; done) | (simp_all; omega)
  try simp only [NF] at hc7
  first | contradiction | omega | (simp_all; done)
 try simp only [NF] at hc6
 refine J_region (Js rfl (step_eql Sr Sr) (Ja rfl (JL_nil ?_)))
 refine J_cond Sr (fun hc8 => ?_) (fun hc8 => ?_)
 ·
  try simp only [NF] at hc8
  refine Jr (Ja rfl (JL_nil (J_ret ?_)))
  refine K_ret1 (t := 2) rfl () (Sub.int ?_)
  unfold kidsI kindOk kidsN
  repeat' split
  all_goals first | rfl | (simp_all; done) | (simp_all; omega)
 try simp only [NF] at hc8
 refine J_seq (Jr (Js rfl (step_eql Sr Sr) (Ja rfl (JL_nil ?_))))
 refine J_cond Sr (fun hc9 => ?_) (fun hc9 => ?_)
 ·
  try simp only [NF] at hc9
  refine J_skip ?_
  refine J_cond Sr (fun hc10 => ?_) (fun hc10 => ?_)
  ·
   try simp only [NF] at hc10
   refine Jr (Ja rfl (JL_nil (J_ret ?_)))
   refine K_ret1 (t := 2) rfl () (Sub.int ?_)
   unfold kidsI kindOk kidsN
   repeat' split
   all_goals first | rfl | (simp_all; done) | (simp_all; omega)
  try simp only [NF] at hc10
  first | contradiction | omega | (simp_all; done)
 try simp only [NF] at hc9
 refine Jr (Js rfl (step_eql Sr Sr) (Ja rfl (JL_nil ?_)))
 refine J_cond Sr (fun hc11 => ?_) (fun hc11 => ?_)
 ·
  try simp only [NF] at hc11
  refine J_skip ?_
  refine J_cond Sr (fun hc12 => ?_) (fun hc12 => ?_)
  ·
   try simp only [NF] at hc12
   refine Jr (Ja rfl (JL_nil (J_ret ?_)))
   refine K_ret1 (t := 2) rfl () (Sub.int ?_)
   unfold kidsI kindOk kidsN
   repeat' split
   all_goals first | rfl | (simp_all; done) | (simp_all; omega)
  try simp only [NF] at hc12
  first | contradiction | omega | (simp_all; done)
 try simp only [NF] at hc11
 refine J_region (Js rfl (step_eql Sr Sr) (Ja rfl (JL_nil ?_)))
 refine J_cond Sr (fun hc13 => ?_) (fun hc13 => ?_)
 ·
  try simp only [NF] at hc13
  refine Jr (Ja rfl (JL_nil (J_ret ?_)))
  refine K_ret1 (t := 2) rfl () (Sub.int ?_)
  unfold kidsI kindOk kidsN
  repeat' split
  all_goals first | rfl | (simp_all; done) | (simp_all; omega)
 try simp only [NF] at hc13
 refine J_skip (Jr (Ja rfl (JL_nil (J_ret ?_))))
 refine K_ret1 (t := 2) rfl () (Sub.int ?_)
 unfold kidsI kindOk kidsN
 repeat' split
 all_goals first | rfl | (simp_all; done) | (simp_all; omega)
theorem rbare_spec (n : Nat) (p : GPlan) : Fun1 prog 191 [(rPlan (n + 1)).ty p] (tV (.bool (bareR p))) := by
 refine Spec.enter func191 rfl rfl fun h0 w0 fr0 => ?_
 refine Jr (Js rfl (step_box (R := (rPlan (n + 1))) Sr) (Ja rfl (JL_nil (Jr (Js rfl (step_fieldAddr so46 Sr rfl) ?_)))))
 refine Jl rfl ty3 Sr (Js rfl (step_eql Sr Sr) (Jm rfl ?_))
 refine Jk rfl Sr rfl (step_fieldAddr so46 Sr rfl) ?_
 refine Jg rfl Sr rfl (fun hw => step_load_ptr ty3 (Sub.w hw)) (Jg rfl Sr rfl (fun hw => step_eql (Sub.w hw) Sr) (Js rfl (step_pick_or Sr Sr) (Ja rfl (JL_nil (Jr ?_)))))
 refine Js rfl (step_fieldAddr so46 Sr rfl) (Jl rfl ty3 Sr (Js rfl (step_eql Sr Sr) (Jm rfl ?_)))
 refine Jk rfl Sr rfl (step_fieldAddr so46 Sr rfl) ?_
 refine Jg rfl Sr rfl (fun hw => step_load_ptr ty43 (Sub.w hw)) (Jg rfl Sr rfl (fun hw => step_len_sl underlying43 (Sub.w hw)) (Jg rfl Sr rfl (fun hw => step_eql (Sub.w hw) Sr) (Js rfl (step_pick_or Sr Sr) (Ja rfl (JL_nil ?_)))))
 refine Jr (Js rfl (step_fieldAddr so46 Sr rfl) (Jl rfl ty3 Sr (Js rfl (step_eql Sr Sr) (Jm rfl ?_))))
 refine Jk rfl Sr rfl (step_fieldAddr so46 Sr rfl) ?_
 refine Jg rfl Sr rfl (fun hw => step_load_ptr ty3 (Sub.w hw)) (Jg rfl Sr rfl (fun hw => step_eql (Sub.w hw) Sr) (Js rfl (step_pick_or Sr Sr) (Jm rfl ?_)))
 refine Jk rfl Sr rfl (step_fieldAddr so46 Sr rfl) ?_
 refine Jg rfl Sr rfl (fun hw => step_load_ptr ty36 (Sub.w hw)) (Jg rfl Sr rfl (fun hw => step_len_sl underlying36 (Sub.w hw)) (Jg rfl Sr rfl (fun hw => step_eql (Sub.w hw) Sr) (Js rfl (step_pick_or Sr Sr) (Ja rfl (JL_nil ?_)))))
 refine Jr (Js rfl (step_fieldAddr so46 Sr rfl) (Jl rfl ty3 Sr (Js rfl (step_eql Sr Sr) (Jm rfl ?_))))
 refine Jk rfl Sr rfl (step_fieldAddr so46 Sr rfl) ?_
 refine Jg rfl Sr rfl (fun hw => step_load_ptr ty3 (Sub.w hw)) (Jg rfl Sr rfl (fun hw => step_eql (Sub.w hw) Sr) (Js rfl (step_pick_or Sr Sr) (Jm rfl ?_)))
 refine Jk rfl Sr rfl (step_fieldAddr so46 Sr rfl) ?_
 refine Jg rfl Sr rfl (fun hw => step_load_ptr ty3 (Sub.w hw)) (Jg rfl Sr rfl (fun hw => step_eql (Sub.w hw) Sr) (Js rfl (step_pick_or Sr Sr) (Ja rfl (JL_nil (Jr ?_)))))
 refine Js rfl (step_fieldAddr so46 Sr rfl) (Jl rfl ty3 Sr (Js rfl (step_eql Sr Sr) (Jm rfl ?_)))
 refine Jk rfl Sr rfl (step_fieldAddr so46 Sr rfl) ?_
 refine Jg rfl Sr rfl (fun hw => step_load_ptr ty3 (Sub.w hw)) (Jg rfl Sr rfl (fun hw => step_eql (Sub.w hw) Sr) (Js rfl (step_pick_or Sr Sr) (Ja rfl (JL_nil (Jr ?_)))))
 refine Jm rfl (Jm rfl ?_)
 refine Jk rfl Sr rfl (step_move Sr) ?_
 refine Js rfl (step_pick_and Sr Sr) (Jm rfl ?_)
 refine Jk rfl Sr rfl (step_move Sr) ?_
 refine Js rfl (step_pick_and Sr Sr) (Jm rfl ?_)
 refine Jk rfl Sr rfl (step_move Sr) ?_
 refine Js rfl (step_pick_and Sr Sr) (Jm rfl ?_)
 refine Jk rfl Sr rfl (step_move Sr) ?_
 refine Js rfl (step_pick_and Sr Sr) (Ja rfl (JL_nil (J_ret ?_)))
 exact K_ret1 (t := 2) rfl () Sr
open Go Go.Proofs Go.Proofs.Tryz
def grpR (p : GPlan) : Bool := grpOk p && grpB p && (decide ((nth p.Attrs p.Cols.length).Kind = grpK p) && alikeM (p.Attrs.take p.Cols.length) (pickL (nth p.Kids 0).Attrs p.Cols))
def colsR (s : GSchema) (p : GPlan) : Bool :=
  if p.Kind = 1 then decide (0 ≤ p.Table) && decide (p.Table < s.Tables.length) && namedM (nth s.Tables p.Table.toNat) p.Attrs
  else if p.Kind = 2 then (p.Tests.all fun t => testOk t (nth p.Kids 0).Attrs.length) && (decide (0 < (p.Tests.length : Int)) && alikeM p.Attrs (nth p.Kids 0).Attrs)
  else if p.Kind = 3 then pickOk (nth p.Kids 0).Attrs.length p.Cols && alikeM p.Attrs (pickL (nth p.Kids 0).Attrs p.Cols)
  else if p.Kind = 4 then joinOk (nth p.Kids 0).Attrs (nth p.Kids 1).Attrs && alikeM p.Attrs (joinL (nth p.Kids 0).Attrs (nth p.Kids 1).Attrs)
  else if p.Kind = 5 ∨ p.Kind = 6 then alikeM (nth p.Kids 0).Attrs (nth p.Kids 1).Attrs && alikeM p.Attrs (nth p.Kids 0).Attrs
  else if p.Kind = 7 then renOk p && alikeM p.Attrs (renL p)
  else grpR p
theorem alike_iff {a b : List GAttr} : alikeM a b = true ↔ a.length = b.length ∧ ∀ i, i < a.length → (nth a i).Name = (nth b i).Name ∧ (nth a i).Kind = (nth b i).Kind := by
  unfold alikeM eqL alikeA
  simp only [Bool.and_eq_true, decide_eq_true_eq, List.all_eq_true, List.mem_range]
theorem alike_comm (a b : List GAttr) : alikeM a b = alikeM b a := by
  rw [Bool.eq_iff_iff, alike_iff, alike_iff]
  constructor
  · rintro ⟨h, f⟩; exact ⟨h.symm, fun i hi => ⟨(f i (by omega)).1.symm, (f i (by omega)).2.symm⟩⟩
  · rintro ⟨h, f⟩; exact ⟨h.symm, fun i hi => ⟨(f i (by omega)).1.symm, (f i (by omega)).2.symm⟩⟩
theorem names_sub : ∀ l : List GAttr, (l.map fun a => a.Name).Sublist (namesL l)
  | [] => List.Sublist.refl _
  | a :: l => by
    have e : namesL (a :: l) = a.Name :: (a.Was ++ namesL l) := by simp [namesL]
    rw [e]
    exact List.Sublist.cons_cons _ ((names_sub l).trans (List.sublist_append_right _ _))
theorem col_self {t : GTable} (h : (namesL t.Attrs).Nodup) {i : Nat} (hi : i < t.Attrs.length) : columnT t (nth t.Attrs i).Name = i := by
  have hn : (t.Attrs.map fun a => a.Name).Nodup := h.sublist (names_sub _)
  have e : findI (fun a => decide (a.Name = (nth t.Attrs i).Name)) 0 t.Attrs = i := findI_at hi (fun k hk => by
    rw [decide_eq_false_iff_not]; intro q
    have := List.pairwise_iff_getElem.1 hn k i (by rw [List.length_map]; omega) (by rw [List.length_map]; exact hi) hk
    rw [List.getElem_map, List.getElem_map, ← nth_get, ← nth_get] at this
    exact this q) (by simp)
  unfold columnT
  rw [e, if_pos (by omega)]
theorem named_eq {t : GTable} (h : (namesL t.Attrs).Nodup) (l : List GAttr) : namedM t l = alikeM (tableL t l) l := by
  have tl : (tableL t l).length = t.Attrs.length := by simp [tableL]
  have tn : ∀ i, i < t.Attrs.length → nth (tableL t l) i = renA t l i := fun i hi => by rw [nth_get (by rw [tl]; exact hi)]; simp [tableL]
  rw [Bool.eq_iff_iff, alike_iff, tl]
  unfold namedM
  simp only [Bool.and_eq_true, decide_eq_true_eq, List.all_eq_true, List.mem_range]
  constructor
  · rintro ⟨hl, f⟩
    refine ⟨hl.symm, fun i hi => ?_⟩
    have hfi := f i (by omega)
    rw [tn i hi, renA, if_pos ⟨by omega, hfi.2⟩]
    exact ⟨rfl, hfi.1.symm⟩
  · rintro ⟨hl, f⟩
    refine ⟨hl.symm, fun i hi => ?_⟩
    have hfi := f i (by omega)
    rw [tn i (by omega), renA] at hfi
    split at hfi
    · rename_i q; exact ⟨hfi.2.symm, q.2⟩
    · exact ⟨hfi.2.symm, by rw [← hfi.1]; exact col_self h (by omega)⟩
theorem grp_eq (p : GPlan) (h : grpOk p = true) : (decide ((nth p.Attrs p.Cols.length).Kind = grpK p) && alikeM (p.Attrs.take p.Cols.length) (pickL (nth p.Kids 0).Attrs p.Cols)) = alikeM (grpL p) p.Attrs := by
  have hl : p.Attrs.length = p.Cols.length + 1 := by unfold grpOk at h; simp only [Bool.and_eq_true, decide_eq_true_eq] at h; exact h.2.1
  have pl : (pickL (nth p.Kids 0).Attrs p.Cols).length = p.Cols.length := by simp [pickL]
  have gl : (grpL p).length = p.Cols.length + 1 := by simp [grpL, pl]
  have tk : (p.Attrs.take p.Cols.length).length = p.Cols.length := by rw [List.length_take]; omega
  have tn : ∀ i, i < p.Cols.length → nth (p.Attrs.take p.Cols.length) i = nth p.Attrs i := fun i hi => by rw [nth_get (by omega), nth_get (by omega), List.getElem_take]
  have g1 : ∀ i, i < p.Cols.length → nth (grpL p) i = nth (pickL (nth p.Kids 0).Attrs p.Cols) i := fun i hi => by unfold grpL; exact nth_append_left (by omega)
  have g2 : nth (grpL p) p.Cols.length = ⟨(nth p.Attrs p.Cols.length).Name, grpK p, [], ⟨0, 0, ⟨#[]⟩⟩⟩ := by
    rw [nth_get (by omega)]; unfold grpL; rw [List.getElem_append_right (by omega)]; simp [pl]
  rw [Bool.eq_iff_iff, Bool.and_eq_true, decide_eq_true_eq, alike_iff, alike_iff, tk, gl]
  constructor
  · rintro ⟨hk, _, f⟩
    refine ⟨by omega, fun i hi => ?_⟩
    by_cases e : i = p.Cols.length
    · subst e; rw [g2]; exact ⟨rfl, hk.symm⟩
    · have := f i (by omega)
      rw [tn i (by omega)] at this
      rw [g1 i (by omega)]; exact ⟨this.1.symm, this.2.symm⟩
  · rintro ⟨_, f⟩
    refine ⟨?_, by omega, fun i hi => ?_⟩
    · have := (f p.Cols.length (by omega)).2
      rw [g2] at this; exact this.symm
    · have := f i (by omega)
      rw [g1 i (by omega)] at this
      rw [tn i (by omega)]; exact ⟨this.1.symm, this.2.symm⟩
theorem tests_eq (l : List GTest) (n : Int) : (l.all fun t => testOk t n) = !(l.any fun t => !testOk t n) := by
  rw [List.any_eq_not_all_not]; simp
theorem cols_eq {s : GSchema} {p : GPlan} (hs : schM s = true) (hk : kindOk p.Kind = true) : colsR s p = ((colsM s p).2 && alikeM (colsM s p).1 p.Attrs) := by
  rcases kind_cases hk with h | h | h | h | h | h | h | h
  · simp only [colsR, colsM, h, if_true]
    by_cases ht : 0 ≤ p.Table ∧ p.Table < s.Tables.length
    · have hr : rightM (nth s.Tables p.Table.toNat) = true := by
        unfold schM at hs
        simp only [Bool.and_eq_true, decide_eq_true_eq, List.all_eq_true, List.mem_range] at hs
        exact (hs.2 p.Table.toNat (by omega)).1
      have hnd : (namesL (nth s.Tables p.Table.toNat).Attrs).Nodup := by
        unfold rightM at hr
        simp only [Bool.and_eq_true, decide_eq_true_eq] at hr
        exact hr.1.2
      rw [if_pos ht, named_eq hnd]; simp [ht.1, ht.2]
    · rw [if_neg ht]
      have : (decide (0 ≤ p.Table) && decide (p.Table < (s.Tables.length : Int))) = false := by
        rw [← Bool.decide_and, decide_eq_false_iff_not]; exact ht
      rw [this]; simp
  · simp only [colsR, colsM, h, show ¬ (2 : Int) = 1 by omega, if_true, if_false]
    rw [tests_eq, alike_comm p.Attrs]
    cases decide (0 < (p.Tests.length : Int)) <;> cases (!p.Tests.any fun t => !testOk t (nth p.Kids 0).Attrs.length) <;> simp
  · simp only [colsR, colsM, h, show ¬ (3 : Int) = 1 by omega, show ¬ (3 : Int) = 2 by omega, if_true, if_false]
    by_cases hp : pickOk (nth p.Kids 0).Attrs.length p.Cols = true
    · rw [pickM, if_pos hp, alike_comm]
    · rw [Bool.eq_false_iff.2 hp]; simp
  · simp only [colsR, colsM, h, show ¬ (4 : Int) = 1 by omega, show ¬ (4 : Int) = 2 by omega, show ¬ (4 : Int) = 3 by omega, if_true, if_false]
    by_cases hp : joinOk (nth p.Kids 0).Attrs (nth p.Kids 1).Attrs = true
    · rw [if_pos hp, hp, alike_comm]
    · rw [if_neg hp, Bool.eq_false_iff.2 hp]; simp
  · simp only [colsR, colsM, h, show ¬ (5 : Int) = 1 by omega, show ¬ (5 : Int) = 2 by omega, show ¬ (5 : Int) = 3 by omega, show ¬ (5 : Int) = 4 by omega, true_or, if_true, if_false]
    rw [alike_comm p.Attrs]
  · simp only [colsR, colsM, h, show ¬ (6 : Int) = 1 by omega, show ¬ (6 : Int) = 2 by omega, show ¬ (6 : Int) = 3 by omega, show ¬ (6 : Int) = 4 by omega, or_true, if_true, if_false]
    rw [alike_comm p.Attrs]
  · simp only [colsR, colsM, h, show ¬ (7 : Int) = 1 by omega, show ¬ (7 : Int) = 2 by omega, show ¬ (7 : Int) = 3 by omega, show ¬ (7 : Int) = 4 by omega, show ¬ ((7 : Int) = 5 ∨ (7 : Int) = 6) by omega, if_true, if_false]
    by_cases hp : renOk p = true
    · rw [if_pos hp, hp, alike_comm]
    · rw [if_neg hp, Bool.eq_false_iff.2 hp]; simp
  · simp only [colsR, colsM, h, show ¬ (8 : Int) = 1 by omega, show ¬ (8 : Int) = 2 by omega, show ¬ (8 : Int) = 3 by omega, show ¬ (8 : Int) = 4 by omega, show ¬ ((8 : Int) = 5 ∨ (8 : Int) = 6) by omega, show ¬ (8 : Int) = 7 by omega, if_false]
    unfold grpR
    by_cases hp : grpOk p = true
    · rw [if_pos hp, hp, grp_eq p hp, Bool.true_and]
    · rw [if_neg hp, Bool.eq_false_iff.2 hp]; simp
theorem bare_eq {p : GPlan} (hk : kindOk p.Kind = true) : bareR p = bareM p := by
  have hz : ∀ n : Nat, decide (0 < (n : Int)) = !decide ((n : Int) = 0) := fun n => by
    by_cases h : (n : Int) = 0
    · simp [h]
    · rw [decide_eq_false h, decide_eq_true (show 0 < (n : Int) by omega)]; rfl
  have a1 : ∀ k t ks ts cs c ag l, (GPl.mk (A := GAttr) (T := GTest) k t ks ts cs c ag l).Table = t := fun _ _ _ _ _ _ _ _ => rfl
  have a2 : ∀ k t ks ts cs c ag l, (GPl.mk (A := GAttr) (T := GTest) k t ks ts cs c ag l).Tests = ts := fun _ _ _ _ _ _ _ _ => rfl
  have a3 : ∀ k t ks ts cs c ag l, (GPl.mk (A := GAttr) (T := GTest) k t ks ts cs c ag l).Cols = cs := fun _ _ _ _ _ _ _ _ => rfl
  have a4 : ∀ k t ks ts cs c ag l, (GPl.mk (A := GAttr) (T := GTest) k t ks ts cs c ag l).Col = c := fun _ _ _ _ _ _ _ _ => rfl
  have a5 : ∀ k t ks ts cs c ag l, (GPl.mk (A := GAttr) (T := GTest) k t ks ts cs c ag l).Agg = ag := fun _ _ _ _ _ _ _ _ => rfl
  rcases kind_cases hk with h | h | h | h | h | h | h | h <;> rw [Bool.eq_iff_iff] <;> simp only [bareR, bareM, restM, h, hz] <;> simp [a1, a2, a3, a4, a5, and_assoc]
theorem plan_posP {n : Nat} {p : GPlan} {h : PH} {v : Value} (hv : ((rPlan (n + 1)).ty p).p h v) : ∃ m, 0 < p.Kids.length → n = m + 1 := by
  by_cases hp : 0 < p.Kids.length
  · obtain ⟨cs, r, _⟩ := hv
    obtain ⟨d0, _, rfl, _, d1, _, rfl, _, d2, _, rfl, r2, _⟩ := (show SF.rel h p (fsPl cPl rAttr rTest (rPlan n)) cs from r)
    obtain ⟨u, _, hu⟩ := r2
    obtain ⟨m, hm⟩ := kids_pos hp hu
    exact ⟨m, fun _ => hm⟩
  · exact ⟨0, fun q => absurd q hp⟩
set_option maxHeartbeats 4000000 in
theorem rgroup_spec (n : Nat) (p : GPlan) (hp : PlSz (n + 1 + 1) p) (hk0 : 0 < p.Kids.length) : Fun1 prog 270 [(rPlan (n + 1 + 1)).ty p] (tV (.bool (grpR p))) := by
 refine Spec.enter func270 rfl rfl fun h0 w0 fr0 => ?_
 obtain ⟨z1, z2, z3, z4, z5⟩ := id hp
 have hA0 := (z5 _ (nth_mem hk0)).2
 refine Jr (Js rfl (step_box (R := (rPlan (n + 1 + 1))) Sr) (Ja rfl (JL_nil (Jr (Js rfl (step_fieldAddr so46 Sr rfl) ?_)))))
 refine Jl rfl ty42 Sr ?_
 refine Js rfl (step_indexAddr_sl (i := 0) underlying42 ty46 Sr Sr (by rfl) (gb (by exact hk0))) ?_
 refine Js rfl (step_fieldAddr so46 Sr rfl) (Jl rfl ty44 Sr (Ja rfl (JL_nil (J_seq (Jr ?_)))))
 refine Js rfl (step_fieldAddr so46 Sr rfl) (Jl rfl ty36 Sr (Jm rfl (Js rfl (step_len_sl underlying44 Sr) ?_)))
 refine Js rfl (step_call0 (rIdx_spec _ _ (by show p.Cols.length ≤ _; omega)) ⟨Sr, Sr, trivial⟩ call268) ?_
 refine Js rfl (step_not Sr) (Jm rfl ?_)
 refine Jk rfl Sr rfl (step_fieldAddr so46 Sr rfl) ?_
 refine Jg rfl Sr rfl (fun hw => step_load_ptr ty44 (Sub.w hw)) (Jg rfl Sr rfl (fun hw => step_len_sl underlying44 (Sub.w hw)) ?_)
 refine Jk rfl Sr rfl (step_fieldAddr so46 Sr rfl) ?_
 refine Jg rfl Sr rfl (fun hw => step_load_ptr ty36 (Sub.w hw)) (Jg rfl Sr rfl (fun hw => step_len_sl underlying36 (Sub.w hw)) ?_)
 refine Jg rfl Sr rfl (fun hw => step_add (Sub.w hw) Sr (by show in64 ((p.Cols.length : Int) + 1); unfold in64; omega)) ?_
 refine Jg rfl Sr rfl (fun hw => step_neq (Sub.w hw) (Sub.w hw)) (Js rfl (step_pick_or Sr Sr) (Jm rfl ?_))
 refine Jk rfl Sr rfl (step_fieldAddr so46 Sr rfl) ?_
 refine Jg rfl Sr rfl (fun hw => step_load_ptr ty3 (Sub.w hw)) (Jg rfl Sr rfl (fun hw => step_lss (Sub.w hw) Sr) (Js rfl (step_pick_or Sr Sr) (Jm rfl ?_)))
 refine Jk rfl Sr rfl (step_fieldAddr so46 Sr rfl) ?_
 refine Jg rfl Sr rfl (fun hw => step_load_ptr ty3 (Sub.w hw)) (Jg rfl Sr rfl (fun hw => step_gtr (Sub.w hw) Sr) (Js rfl (step_pick_or Sr Sr) (JL_nil ?_)))
 refine J_cond Sr (fun h36 => ?_) (fun h36 => ?_)
 ·
  try simp only [NF] at h36
  refine Jr (Ja rfl (JL_nil (J_ret ?_)))
  refine K_ret1 (t := 2) rfl () ?_
  refine Sub.bool ?_
  have hno : grpOk p = false := by
   unfold grpOk
   by_cases hpk : pickOk (nth p.Kids 0).Attrs.length p.Cols = true
   ·
    rw [hpk, Bool.true_and, decide_eq_false_iff_not]
    rcases h36 with ((h | h) | h) | h
    ·
     exact absurd hpk (by rw [show pickOk (nth p.Kids 0).Attrs.length p.Cols = false from h]; simp)
    all_goals omega
   rw [Bool.eq_false_iff.2 hpk, Bool.false_and]
  simp [grpR, hno]
 try simp only [NF] at h36
 have hpk : pickOk (nth p.Kids 0).Attrs.length p.Cols = true := by simp_all
 have hok : grpOk p = true := by unfold grpOk; rw [hpk, Bool.true_and, decide_eq_true_eq]; omega
 have hal : p.Attrs.length = p.Cols.length + 1 := by omega
 refine J_skip (Jr (Ja rfl (JL_nil (J_seq (Jr ?_)))))
 refine Js rfl (step_fieldAddr so46 Sr rfl) (Jl rfl ty3 Sr (Js rfl (step_eql Sr Sr) (JL_nil ?_)))
 refine J_cond Sr (fun h39 => ?_) (fun h39 => ?_)
 ·
  try simp only [NF] at h39
  refine Jr (Js rfl (step_fieldAddr so46 Sr rfl) (Jl rfl ty3 Sr (Js rfl (step_neq Sr Sr) (JL_nil ?_))))
  refine J_cond Sr (fun h42 => ?_) (fun h42 => ?_)
  ·
   try simp only [NF] at h42
   refine Jr (Ja rfl (JL_nil (J_ret ?_)))
   refine K_ret1 (t := 2) rfl () ?_
   refine Sub.bool ?_
   simp [grpR, grpB, h39, h42]
  try simp only [NF] at h42
  refine J_skip (Jr (Js rfl (step_fieldAddr so46 Sr rfl) (Jl rfl ty44 Sr (Js rfl (step_fieldAddr so46 Sr rfl) (Jl rfl ty36 Sr ?_)))))
  refine Js rfl (step_len_sl underlying36 Sr) ?_
  refine Js rfl (step_indexAddr_sl (i := p.Cols.length) underlying44 ty89 Sr Sr (by rfl) (gb (by show p.Cols.length < p.Attrs.length; omega))) ?_
  refine Jl rfl ty89 Sr ?_
  refine Jx rfl (step_alloc (fun w => zeroValue89 w) zr89) fun b5 => ?_
  refine Ju (step_store_box ty89 Sr Sr zS) fun _ => ?_
  refine JL_freeze (t := 5) (Sel.take (Sel.none _)) Frz.box ?_
  refine JL_nil (J_seq ?_)
  refine J_draw [⟨0, [5], true⟩, ⟨1, [83], true⟩, ⟨2, [4], true⟩, ⟨3, [84, 85], true⟩, ⟨4, [86], true⟩, ⟨5, [1, 87], true⟩, ⟨6, [87, 88], true⟩, ⟨7, [1, 87], true⟩, ⟨8, [87, 90], true⟩, ⟨9, [87, 91], true⟩, ⟨10, [87, 89, 92], true⟩, ⟨11, [3, 87], true⟩, ⟨12, [1, 87], true⟩, ⟨13, [87, 95], true⟩, ⟨14, [87, 94, 96], true⟩, ⟨15, [87, 93, 97], true⟩, ⟨16, [87, 98], true⟩, ⟨17, [99], true⟩] rfl (by kernel_rfl) ?_
  refine Mf rfl rfl (step_fieldAddr so89 Sr rfl) (Mf rfl rfl (step_load_ptr ty3 Sr) (Mv rfl rfl (Mf rfl rfl (step_eql Sr Sr) (Mv rfl rfl ?_))))
  refine Mk rfl rfl Sr rfl (step_fieldAddr so46 Sr rfl) ?_
  refine Mg rfl rfl Sr rfl (fun hw => step_load_ptr ty44 (Sub.w hw)) ?_
  refine Mk rfl rfl Sr rfl (step_fieldAddr so46 Sr rfl) ?_
  refine Mg rfl rfl Sr rfl (fun hw => step_load_ptr ty36 (Sub.w hw)) (Mg rfl rfl Sr rfl (fun hw => step_len_sl underlying36 (Sub.w hw)) ?_)
  refine Mg rfl rfl Sr rfl (fun hw => step_slice_toI (n := p.Cols.length) underlying44 ty89 (Sub.w hw) (Sub.w hw) (by rfl) (by have hwq := hw; (try simp only [beqB_t, beqB_f, NF] at hwq); show p.Cols.length ≤ p.Attrs.length; omega)) ?_
  refine Mk rfl rfl Sr rfl (step_move Sr) ?_
  refine Mk rfl rfl Sr rfl (step_fieldAddr so46 Sr rfl) ?_
  refine Mg rfl rfl Sr rfl (fun hw => step_load_ptr ty36 (Sub.w hw)) ?_
  refine Mg rfl rfl Sr rfl (fun hw => step_call0 (rpick_spec _ _ (by show p.Cols.length ≤ _; omega) hpk) ⟨(Sub.w hw), (Sub.w hw), trivial⟩ call269) ?_
  refine Mg rfl rfl Sr rfl (fun hw => step_call0 (ralike_spec _ _ (by show (List.take _ _).length ≤ _; rw [List.length_take]; show min _ p.Attrs.length ≤ _; omega)) ⟨(Sub.w hw), (Sub.w hw), trivial⟩ call267) ?_
  refine Mf rfl rfl (step_pick_and Sr Sr) (Mf rfl rfl (step_assign Sr) (JM_nil (J_ret ?_)))
  refine K_ret1 (t := 2) rfl () ?_
  refine Sub.bool ?_
  simp [grpR, grpB, grpK, h39, h42, hok]
 try simp only [NF] at h39
 refine Jr (Js rfl (step_fieldAddr so46 Sr rfl) (Jl rfl ty3 Sr (Js rfl (step_lss Sr Sr) (Jm rfl ?_))))
 refine Jk rfl Sr rfl (step_fieldAddr so46 Sr rfl) ?_
 refine Jg rfl Sr rfl (fun hw => step_load_ptr ty3 (Sub.w hw)) ?_
 refine Jk rfl Sr rfl (step_move Sr) ?_
 refine Jg rfl Sr rfl (fun hw => step_len_sl underlying44 (Sub.w hw)) (Jg rfl Sr rfl (fun hw => step_geq (Sub.w hw) (Sub.w hw)) (Js rfl (step_pick_or Sr Sr) (Jm rfl ?_)))
 refine Jk rfl Sr rfl (step_fieldAddr so46 Sr rfl) ?_
 refine Jg rfl Sr rfl (fun hw => step_load_ptr ty3 (Sub.w hw)) (Jg rfl Sr rfl (fun hw => step_eql (Sub.w hw) Sr) (Jg rfl Sr rfl (fun hw => step_move (Sub.w hw)) ?_))
 refine Ji rfl Sr rfl (step_move Sr) ?_
 refine Ji rfl Sr rfl (step_fieldAddr so46 Sr rfl) ?_
 refine Jh rfl Sr rfl (fun hw => step_load_ptr ty3 (Sub.w hw)) ?_
 refine Jh rfl Sr rfl (fun hw => step_indexAddr_sl (i := p.Col.toNat) underlying44 ty89 (Sub.w hw) (Sub.w hw) (by have hwq := hw; (try simp only [beqB_t, beqB_f, NF] at hwq); show p.Col = _; omega) (gb (by have hwq := hw; (try simp only [beqB_t, beqB_f, NF] at hwq); show p.Col.toNat < (nth p.Kids 0).Attrs.length; omega))) ?_
 refine Jh rfl Sr rfl (fun hw => step_fieldAddr so89 (Sub.w hw) rfl) (Jh rfl Sr rfl (fun hw => step_load_ptr ty3 (Sub.w hw)) (Jh rfl Sr rfl (fun hw => step_neq (Sub.w hw) Sr) (Jg rfl Sr rfl (fun hw => step_pick_and (Sub.w hw) (Sub.ww hw)) (Js rfl (step_pick_or Sr Sr) (JL_nil ?_)))))
 refine J_cond Sr (fun h66 => ?_) (fun h66 => ?_)
 ·
  try simp only [NF] at h66
  have hnb : grpB p = false := by
   unfold grpB grpIn
   rw [if_neg h39]
   by_cases hin : 0 ≤ p.Col ∧ p.Col < (nth p.Kids 0).Attrs.length
   ·
    have h2 : p.Agg = 2 ∧ ¬ (nth (nth p.Kids 0).Attrs p.Col.toNat).Kind = 2 := by
     rcases h66 with (h | h) | h
     ·
      omega
     ·
      omega
     exact h
    simp [hin, h2.1, h2.2]
   simp [hin]
  refine Jr (Ja rfl (JL_nil (J_ret ?_)))
  refine K_ret1 (t := 2) rfl () ?_
  refine Sub.bool ?_
  simp [grpR, hnb]
 try simp only [NF] at h66
 have hin : 0 ≤ p.Col ∧ p.Col < (nth p.Kids 0).Attrs.length := by omega
 have hgi : grpIn p = true := by unfold grpIn; rw [decide_eq_true_eq]; exact hin
 refine Jr (Js rfl (step_fieldAddr so46 Sr rfl) (Jl rfl ty3 Sr (Js rfl (step_neq Sr Sr) (JL_nil ?_))))
 refine J_cond Sr (fun h69 => ?_) (fun h69 => ?_)
 ·
  try simp only [NF] at h69
  refine J_region (Jm rfl (Js rfl (step_fieldAddr so46 Sr rfl) (Jl rfl ty3 Sr ?_)))
  refine Js rfl (step_indexAddr_sl (i := p.Col.toNat) underlying44 ty89 Sr Sr (by show p.Col = _; omega) (gb (by show p.Col.toNat < (nth p.Kids 0).Attrs.length; omega))) ?_
  refine Js rfl (step_fieldAddr so89 Sr rfl) (Jl rfl ty3 Sr (Ja rfl (JL_nil (Jr (Js rfl (step_fieldAddr so46 Sr rfl) ?_)))))
  refine Jl rfl ty44 Sr (Js rfl (step_fieldAddr so46 Sr rfl) (Jl rfl ty36 Sr (Js rfl (step_len_sl underlying36 Sr) ?_)))
  refine Js rfl (step_indexAddr_sl (i := p.Cols.length) underlying44 ty89 Sr Sr (by rfl) (gb (by show p.Cols.length < p.Attrs.length; omega))) ?_
  refine Jl rfl ty89 Sr ?_
  refine Jx rfl (step_alloc (fun w => zeroValue89 w) zr89) fun b5 => ?_
  refine Ju (step_store_box ty89 Sr Sr zS) fun _ => ?_
  refine JL_freeze (t := 5) (Sel.take (Sel.none _)) Frz.box ?_
  refine JL_nil (J_seq ?_)
  refine J_draw [⟨0, [5], true⟩, ⟨1, [83], true⟩, ⟨2, [4], true⟩, ⟨3, [84, 85], true⟩, ⟨4, [86], true⟩, ⟨5, [1, 87], true⟩, ⟨6, [87, 88], true⟩, ⟨7, [1, 87], true⟩, ⟨8, [87, 90], true⟩, ⟨9, [87, 91], true⟩, ⟨10, [87, 89, 92], true⟩, ⟨11, [3, 87], true⟩, ⟨12, [1, 87], true⟩, ⟨13, [87, 95], true⟩, ⟨14, [87, 94, 96], true⟩, ⟨15, [87, 93, 97], true⟩, ⟨16, [87, 98], true⟩, ⟨17, [99], true⟩] rfl (by kernel_rfl) ?_
  refine Mf rfl rfl (step_fieldAddr so89 Sr rfl) (Mf rfl rfl (step_load_ptr ty3 Sr) (Mv rfl rfl (Mf rfl rfl (step_eql Sr Sr) (Mv rfl rfl ?_))))
  refine Mk rfl rfl Sr rfl (step_fieldAddr so46 Sr rfl) ?_
  refine Mg rfl rfl Sr rfl (fun hw => step_load_ptr ty44 (Sub.w hw)) ?_
  refine Mk rfl rfl Sr rfl (step_fieldAddr so46 Sr rfl) ?_
  refine Mg rfl rfl Sr rfl (fun hw => step_load_ptr ty36 (Sub.w hw)) (Mg rfl rfl Sr rfl (fun hw => step_len_sl underlying36 (Sub.w hw)) ?_)
  refine Mg rfl rfl Sr rfl (fun hw => step_slice_toI (n := p.Cols.length) underlying44 ty89 (Sub.w hw) (Sub.w hw) (by rfl) (by have hwq := hw; (try simp only [beqB_t, beqB_f, NF] at hwq); show p.Cols.length ≤ p.Attrs.length; omega)) ?_
  refine Mk rfl rfl Sr rfl (step_move Sr) ?_
  refine Mk rfl rfl Sr rfl (step_fieldAddr so46 Sr rfl) ?_
  refine Mg rfl rfl Sr rfl (fun hw => step_load_ptr ty36 (Sub.w hw)) ?_
  refine Mg rfl rfl Sr rfl (fun hw => step_call0 (rpick_spec _ _ (by show p.Cols.length ≤ _; omega) hpk) ⟨(Sub.w hw), (Sub.w hw), trivial⟩ call269) ?_
  refine Mg rfl rfl Sr rfl (fun hw => step_call0 (ralike_spec _ _ (by show (List.take _ _).length ≤ _; rw [List.length_take]; show min _ p.Attrs.length ≤ _; omega)) ⟨(Sub.w hw), (Sub.w hw), trivial⟩ call267) ?_
  refine Mf rfl rfl (step_pick_and Sr Sr) (Mf rfl rfl (step_assign Sr) (JM_nil (J_ret ?_)))
  refine K_ret1 (t := 2) rfl () ?_
  refine Sub.bool ?_
  simp [grpR, grpB, grpK, h39, h69, hgi, hok]
 try simp only [NF] at h69
 refine J_skip (Jr (Js rfl (step_fieldAddr so46 Sr rfl) (Jl rfl ty44 Sr (Js rfl (step_fieldAddr so46 Sr rfl) (Jl rfl ty36 Sr ?_)))))
 refine Js rfl (step_len_sl underlying36 Sr) ?_
 refine Js rfl (step_indexAddr_sl (i := p.Cols.length) underlying44 ty89 Sr Sr (by rfl) (gb (by show p.Cols.length < p.Attrs.length; omega))) ?_
 refine Jl rfl ty89 Sr ?_
 refine Jx rfl (step_alloc (fun w => zeroValue89 w) zr89) fun b5 => ?_
 refine Ju (step_store_box ty89 Sr Sr zS) fun _ => ?_
 refine JL_freeze (t := 5) (Sel.take (Sel.none _)) Frz.box ?_
 refine JL_nil (J_seq ?_)
 refine J_draw [⟨0, [5], true⟩, ⟨1, [83], true⟩, ⟨2, [4], true⟩, ⟨3, [84, 85], true⟩, ⟨4, [86], true⟩, ⟨5, [1, 87], true⟩, ⟨6, [87, 88], true⟩, ⟨7, [1, 87], true⟩, ⟨8, [87, 90], true⟩, ⟨9, [87, 91], true⟩, ⟨10, [87, 89, 92], true⟩, ⟨11, [3, 87], true⟩, ⟨12, [1, 87], true⟩, ⟨13, [87, 95], true⟩, ⟨14, [87, 94, 96], true⟩, ⟨15, [87, 93, 97], true⟩, ⟨16, [87, 98], true⟩, ⟨17, [99], true⟩] rfl (by kernel_rfl) ?_
 refine Mf rfl rfl (step_fieldAddr so89 Sr rfl) (Mf rfl rfl (step_load_ptr ty3 Sr) (Mv rfl rfl (Mf rfl rfl (step_eql Sr Sr) (Mv rfl rfl ?_))))
 refine Mk rfl rfl Sr rfl (step_fieldAddr so46 Sr rfl) ?_
 refine Mg rfl rfl Sr rfl (fun hw => step_load_ptr ty44 (Sub.w hw)) ?_
 refine Mk rfl rfl Sr rfl (step_fieldAddr so46 Sr rfl) ?_
 refine Mg rfl rfl Sr rfl (fun hw => step_load_ptr ty36 (Sub.w hw)) (Mg rfl rfl Sr rfl (fun hw => step_len_sl underlying36 (Sub.w hw)) ?_)
 refine Mg rfl rfl Sr rfl (fun hw => step_slice_toI (n := p.Cols.length) underlying44 ty89 (Sub.w hw) (Sub.w hw) (by rfl) (by have hwq := hw; (try simp only [beqB_t, beqB_f, NF] at hwq); show p.Cols.length ≤ p.Attrs.length; omega)) ?_
 refine Mk rfl rfl Sr rfl (step_move Sr) ?_
 refine Mk rfl rfl Sr rfl (step_fieldAddr so46 Sr rfl) ?_
 refine Mg rfl rfl Sr rfl (fun hw => step_load_ptr ty36 (Sub.w hw)) ?_
 refine Mg rfl rfl Sr rfl (fun hw => step_call0 (rpick_spec _ _ (by show p.Cols.length ≤ _; omega) hpk) ⟨(Sub.w hw), (Sub.w hw), trivial⟩ call269) ?_
 refine Mg rfl rfl Sr rfl (fun hw => step_call0 (ralike_spec _ _ (by show (List.take _ _).length ≤ _; rw [List.length_take]; show min _ p.Attrs.length ≤ _; omega)) ⟨(Sub.w hw), (Sub.w hw), trivial⟩ call267) ?_
 refine Mf rfl rfl (step_pick_and Sr Sr) (Mf rfl rfl (step_assign Sr) (JM_nil (J_ret ?_)))
 refine K_ret1 (t := 2) rfl () ?_
 refine Sub.bool ?_
 have h69 : p.Agg = 2 := by simpa using h69
 have hk2 : (nth (nth p.Kids 0).Attrs p.Col.toNat).Kind = 2 := by
  have := h66.2
  simpa [h69] using this
 simp [grpR, grpB, grpK, h39, h69, hgi, hok, hk2]
set_option maxHeartbeats 8000000 in
theorem rcolumns_spec (s : GSchema) (hz : SchSz s) (n : Nat) (p : GPlan) (hp : PlSz (n + 1) p) (hkd : kindOk p.Kind = true) (hkn : (p.Kids.length : Int) = kidsN p.Kind) : Fun1 prog 192 [rSchema.ty s, (rPlan (n + 1)).ty p] (tV (.bool (colsR s p))) := by
 refine Spec.enter func192 rfl rfl fun h0 w0 fr0 => ?_
 obtain ⟨z1, z2, z3, z4, z5⟩ := id hp
 refine K_fact 1 (fun _ _ r => plan_posP r) fun ⟨m, hm⟩ => ?_
 refine Jr (Js rfl (step_box (R := rSchema) Sr) (Js rfl (step_box (R := (rPlan (n + 1))) Sr) (Ja rfl (JL_nil (J_seq ?_)))))
 refine Jr (Js rfl (step_fieldAddr so46 Sr rfl) (Jl rfl ty3 Sr (JL_nil (J_block (Jr ?_)))))
 refine Js rfl (step_eql Sr Sr) (Ja rfl (JL_nil ?_))
 refine J_cond Sr (fun h15 => ?_) (fun h15 => ?_)
 ·
  try simp only [NF] at h15
  refine J_seq ?_
  refine J_draw [⟨0, [3], true⟩, ⟨1, [17], true⟩, ⟨2, [18], true⟩, ⟨3, [19], true⟩, ⟨4, [3, 20], true⟩, ⟨5, [20, 21], true⟩, ⟨6, [2, 20], true⟩, ⟨7, [20, 23], true⟩, ⟨8, [20, 24], true⟩, ⟨9, [20, 22, 25], true⟩, ⟨10, [20, 26], true⟩, ⟨11, [27], true⟩, ⟨12, [2, 28], true⟩, ⟨13, [28, 29], true⟩, ⟨14, [3, 28], true⟩, ⟨15, [28, 31], true⟩, ⟨16, [28, 30, 32], true⟩, ⟨17, [28, 33], true⟩, ⟨18, [3, 28], true⟩, ⟨19, [28, 35], true⟩, ⟨20, [28, 34, 36], true⟩, ⟨21, [28, 37], true⟩, ⟨22, [38], true⟩] rfl (by kernel_rfl) ?_
  refine Mf rfl rfl (step_fieldAddr so46 Sr rfl) (Mf rfl rfl (step_load_ptr ty3 Sr) (Mf rfl rfl (step_geq Sr Sr) (Mv rfl rfl ?_)))
  refine Mk rfl rfl Sr rfl (step_fieldAddr so46 Sr rfl) ?_
  refine Mg rfl rfl Sr rfl (fun hw => step_load_ptr ty3 (Sub.w hw)) ?_
  refine Mk rfl rfl Sr rfl (step_fieldAddr so41 Sr rfl) ?_
  refine Mg rfl rfl Sr rfl (fun hw => step_load_ptr ty39 (Sub.w hw)) (Mg rfl rfl Sr rfl (fun hw => step_len_sl underlying39 (Sub.w hw)) (Mg rfl rfl Sr rfl (fun hw => step_lss (Sub.w hw) (Sub.w hw)) (Mf rfl rfl (step_pick_and Sr Sr) (Mv rfl rfl ?_))))
  refine Mk rfl rfl Sr rfl (step_fieldAddr so41 Sr rfl) ?_
  refine Mg rfl rfl Sr rfl (fun hw => step_load_ptr ty39 (Sub.w hw)) ?_
  refine Mk rfl rfl Sr rfl (step_fieldAddr so46 Sr rfl) ?_
  refine Mg rfl rfl Sr rfl (fun hw => step_load_ptr ty3 (Sub.w hw)) ?_
  refine Mg rfl rfl Sr rfl (fun hw => step_indexAddr_sl (i := p.Table.toNat) underlying39 ty76 (Sub.w hw) (Sub.w hw) (by have hwq := hw; (try simp only [beqB_t, beqB_f, NF] at hwq); show p.Table = _; omega) (gb (by have hwq := hw; (try simp only [beqB_t, beqB_f, NF] at hwq); show p.Table.toNat < s.Tables.length; omega))) ?_
  refine Mg rfl rfl Sr rfl (fun hw => step_load_ptr ty76 (Sub.w hw)) ?_
  refine Mk rfl rfl Sr rfl (step_fieldAddr so46 Sr rfl) ?_
  refine Mg rfl rfl Sr rfl (fun hw => step_load_ptr ty44 (Sub.w hw)) ?_
  refine Mg rfl rfl Sr rfl (fun hw => step_call0 (rnamed_spec _ (by have hwq := hw; (try simp only [beqB_t, beqB_f, NF] at hwq); exact hz.tab _ (nth_mem (by show p.Table.toNat < s.Tables.length; omega))) _ (by show p.Attrs.length ≤ _; omega)) ⟨(Sub.w hw), (Sub.w hw), trivial⟩ call265) ?_
  refine Mf rfl rfl (step_pick_and Sr Sr) (Mf rfl rfl (step_assign Sr) (JM_nil (J_ret ?_)))
  refine K_ret1 (t := 4) rfl () ?_
  refine Sub.bool ?_
  rw [colsR, if_pos h15]
 try simp only [NF] at h15
 refine Jr (Js rfl (step_eql Sr Sr) (Ja rfl (JL_nil ?_)))
 refine J_cond Sr (fun h39 => ?_) (fun h39 => ?_)
 ·
  try simp only [NF] at h39
  have hk0 : 0 < p.Kids.length := by rw [h39] at hkn; simp [kidsN] at hkn; omega
  have hA0 := (z5 _ (nth_mem hk0)).2
  refine J_seq (Jr (Ja rfl (JL_nil (J_block ?_))))
  refine J_loopL (σ := Nat) (fun i => i ≤ p.Tests.length ∧ ∀ k, k < i → testOk (nth p.Tests k) (nth p.Kids 0).Attrs.length = true) (fun i => upd (upd (upd env0 3 (tPtr (rPlan (n + 1)) p)) 5 (tV (.int .i64 i))) 14 (tV (.int .i64 p.Kind))) (fun i => []) (fun i => p.Tests.length - i) 0 ⟨by omega, fun k hk => by omega⟩ (zU) (LSub.rfl) ?_
  rintro i ⟨hi, hv⟩
  refine J_seq (Jr (Jm rfl (Js rfl (step_fieldAddr so46 Sr rfl) (Jl rfl ty43 Sr (Js rfl (step_len_sl underlying43 Sr) ?_)))))
  refine Js rfl (step_lss Sr Sr) (JL_nil ?_)
  refine J_cond Sr (fun h45 => ?_) (fun h45 => ?_)
  ·
   try simp only [NF] at h45
   have hlt : i < p.Tests.length := by omega
   obtain rfl := hm hk0
   refine J_skip (J_seq (J_block (J_seq ?_)))
   refine J_draw [⟨0, [3], true⟩, ⟨1, [48], true⟩, ⟨2, [5], true⟩, ⟨3, [49, 50], true⟩, ⟨4, [51], true⟩, ⟨5, [3], true⟩, ⟨6, [53], true⟩, ⟨7, [54], true⟩, ⟨8, [55], true⟩, ⟨9, [56], true⟩, ⟨10, [57], true⟩, ⟨11, [52, 58], true⟩, ⟨12, [59], true⟩] rfl (by kernel_rfl) ?_
   refine Mf rfl rfl (step_fieldAddr so46 Sr rfl) (Mf rfl rfl (step_load_ptr ty43 Sr) (Mv rfl rfl ?_))
   refine Mf rfl rfl (step_indexAddr_sl (i := i) underlying43 ty93 Sr Sr (by rfl) (gb (by exact hlt))) ?_
   refine Mf rfl rfl (step_load_ptr ty93 Sr) (Mf rfl rfl (step_fieldAddr so46 Sr rfl) (Mf rfl rfl (step_load_ptr ty42 Sr) ?_))
   refine Mf rfl rfl (step_indexAddr_sl (i := 0) underlying42 ty46 Sr Sr (by rfl) (gb (by exact hk0))) ?_
   refine Mf rfl rfl (step_fieldAddr so46 Sr rfl) (Mf rfl rfl (step_load_ptr ty44 Sr) (Mf rfl rfl (step_len_sl underlying44 Sr) (Mf rfl rfl (step_call0 (rRightT_spec _ _) ⟨Sr, Sr, trivial⟩ call266) (Mf rfl rfl (step_not Sr) (JM_nil ?_)))))
   refine J_cond Sr (fun h60 => ?_) (fun h60 => ?_)
   ·
    try simp only [NF] at h60
    refine Jr (Ja rfl (JL_nil (J_ret ?_)))
    refine K_ret1 (t := 4) rfl () ?_
    refine Sub.bool ?_
    rw [colsR, if_neg h15, if_pos h39, all_f hlt (by simpa using h60)]; simp
   try simp only [NF] at h60
   refine J_skip (J_region (Jm rfl (Js rfl (step_add Sr Sr z6) (Ja rfl (JL_nil ?_)))))
   refine K_againL (σ := Nat) (s := i) (i + 1) zO ?_ (zU) (LSub.rfl)
   refine ⟨by omega, fun k hk => ?_⟩
   by_cases e : k = i
   ·
    subst e; simpa using h60
   exact hv k zG
  try simp only [NF] at h45
  have hall : (p.Tests.all fun t => testOk t (nth p.Kids 0).Attrs.length) = true := all_t (fun k hk => hv k zG)
  obtain rfl := hm hk0
  refine J_exit (J_seq ?_)
  refine J_draw [⟨0, [3], true⟩, ⟨1, [61], true⟩, ⟨2, [62], true⟩, ⟨3, [63], true⟩, ⟨4, [64], true⟩, ⟨5, [3, 65], true⟩, ⟨6, [65, 66], true⟩, ⟨7, [3, 65], true⟩, ⟨8, [65, 68], true⟩, ⟨9, [65, 69], true⟩, ⟨10, [65, 70], true⟩, ⟨11, [65, 71], true⟩, ⟨12, [65, 67, 72], true⟩, ⟨13, [65, 73], true⟩, ⟨14, [74], true⟩] rfl (by kernel_rfl) ?_
  refine Mf rfl rfl (step_fieldAddr so46 Sr rfl) (Mf rfl rfl (step_load_ptr ty43 Sr) (Mf rfl rfl (step_len_sl underlying43 Sr) (Mf rfl rfl (step_gtr Sr Sr) (Mv rfl rfl ?_))))
  refine Mk rfl rfl Sr rfl (step_fieldAddr so46 Sr rfl) ?_
  refine Mg rfl rfl Sr rfl (fun hw => step_load_ptr ty44 (Sub.w hw)) ?_
  refine Mk rfl rfl Sr rfl (step_fieldAddr so46 Sr rfl) ?_
  refine Mg rfl rfl Sr rfl (fun hw => step_load_ptr ty42 (Sub.w hw)) ?_
  refine Mg rfl rfl Sr rfl (fun hw => step_indexAddr_sl (i := 0) underlying42 ty46 (Sub.w hw) Sr (by rfl) (gb (by have hwq := hw; (try simp only [beqB_t, beqB_f, NF] at hwq); exact hk0))) ?_
  refine Mg rfl rfl Sr rfl (fun hw => step_fieldAddr so46 (Sub.w hw) rfl) (Mg rfl rfl Sr rfl (fun hw => step_load_ptr ty44 (Sub.w hw)) ?_)
  refine Mg rfl rfl Sr rfl (fun hw => step_call0 (ralike_spec _ _ (by show p.Attrs.length ≤ _; omega)) ⟨(Sub.w hw), (Sub.w hw), trivial⟩ call267) ?_
  refine Mf rfl rfl (step_pick_and Sr Sr) (Mf rfl rfl (step_assign Sr) (JM_nil (J_ret ?_)))
  refine K_ret1 (t := 4) rfl () ?_
  refine Sub.bool ?_
  rw [colsR, if_neg h15, if_pos h39, hall, Bool.true_and]
 try simp only [NF] at h39
 refine Jr (Js rfl (step_eql Sr Sr) (Ja rfl (JL_nil ?_)))
 refine J_cond Sr (fun h75 => ?_) (fun h75 => ?_)
 ·
  try simp only [NF] at h75
  have hk0 : 0 < p.Kids.length := by rw [h75] at hkn; simp [kidsN] at hkn; omega
  have hA0 := (z5 _ (nth_mem hk0)).2
  obtain rfl := hm hk0
  refine J_seq ?_
  refine J_draw [⟨0, [3], true⟩, ⟨1, [77], true⟩, ⟨2, [3], true⟩, ⟨3, [79], true⟩, ⟨4, [80], true⟩, ⟨5, [81], true⟩, ⟨6, [82], true⟩, ⟨7, [83], true⟩, ⟨8, [78, 84], true⟩, ⟨9, [85], true⟩, ⟨10, [3, 86], true⟩, ⟨11, [86, 87], true⟩, ⟨12, [3, 86], true⟩, ⟨13, [86, 89], true⟩, ⟨14, [86, 90], true⟩, ⟨15, [86, 91], true⟩, ⟨16, [86, 92], true⟩, ⟨17, [3, 86], true⟩, ⟨18, [86, 94], true⟩, ⟨19, [86, 93, 95], true⟩, ⟨20, [86, 88, 96], true⟩, ⟨21, [86, 97], true⟩, ⟨22, [98], true⟩] rfl (by kernel_rfl) ?_
  refine Mf rfl rfl (step_fieldAddr so46 Sr rfl) (Mf rfl rfl (step_load_ptr ty36 Sr) (Mf rfl rfl (step_fieldAddr so46 Sr rfl) (Mf rfl rfl (step_load_ptr ty42 Sr) ?_)))
  refine Mf rfl rfl (step_indexAddr_sl (i := 0) underlying42 ty46 Sr Sr (by rfl) (gb (by exact hk0))) ?_
  refine Mf rfl rfl (step_fieldAddr so46 Sr rfl) (Mf rfl rfl (step_load_ptr ty44 Sr) (Mf rfl rfl (step_len_sl underlying44 Sr) ?_))
  refine Mf rfl rfl (step_call0 (rIdx_spec _ _ (by show p.Cols.length ≤ _; omega)) ⟨Sr, Sr, trivial⟩ call268) ?_
  refine Mv rfl rfl ?_
  refine Mk rfl rfl Sr rfl (step_fieldAddr so46 Sr rfl) ?_
  refine Mg rfl rfl Sr rfl (fun hw => step_load_ptr ty44 (Sub.w hw)) ?_
  refine Mk rfl rfl Sr rfl (step_fieldAddr so46 Sr rfl) ?_
  refine Mg rfl rfl Sr rfl (fun hw => step_load_ptr ty42 (Sub.w hw)) ?_
  refine Mg rfl rfl Sr rfl (fun hw => step_indexAddr_sl (i := 0) underlying42 ty46 (Sub.w hw) Sr (by rfl) (gb (by have hwq := hw; (try simp only [beqB_t, beqB_f, NF] at hwq); exact hk0))) ?_
  refine Mg rfl rfl Sr rfl (fun hw => step_fieldAddr so46 (Sub.w hw) rfl) (Mg rfl rfl Sr rfl (fun hw => step_load_ptr ty44 (Sub.w hw)) ?_)
  refine Mk rfl rfl Sr rfl (step_fieldAddr so46 Sr rfl) ?_
  refine Mg rfl rfl Sr rfl (fun hw => step_load_ptr ty36 (Sub.w hw)) ?_
  refine Mg rfl rfl Sr rfl (fun hw => step_call0 (rpick_spec _ _ (by show p.Cols.length ≤ _; omega) (by have hwq := hw; (try simp only [beqB_t, beqB_f] at hwq); first | exact hwq | simpa using hwq)) ⟨(Sub.w hw), (Sub.w hw), trivial⟩ call269) ?_
  refine Mg rfl rfl Sr rfl (fun hw => step_call0 (ralike_spec _ _ (by show p.Attrs.length ≤ _; omega)) ⟨(Sub.w hw), (Sub.w hw), trivial⟩ call267) ?_
  refine Mf rfl rfl (step_pick_and Sr Sr) (Mf rfl rfl (step_assign Sr) (JM_nil (J_ret ?_)))
  refine K_ret1 (t := 4) rfl () ?_
  refine Sub.bool ?_
  rw [colsR, if_neg h15, if_neg h39, if_pos h75]
 try simp only [NF] at h75
 refine Jr (Js rfl (step_eql Sr Sr) (Ja rfl (JL_nil ?_)))
 refine J_cond Sr (fun h99 => ?_) (fun h99 => ?_)
 ·
  try simp only [NF] at h99
  have hk0 : 0 < p.Kids.length := by rw [h99] at hkn; simp [kidsN] at hkn; omega
  have hk1 : 1 < p.Kids.length := by rw [h99] at hkn; simp [kidsN] at hkn; omega
  have hA0 := (z5 _ (nth_mem hk0)).2
  have hA1 := (z5 _ (nth_mem hk1)).2
  obtain rfl := hm hk0
  refine J_seq ?_
  refine J_draw [⟨0, [3], true⟩, ⟨1, [101], true⟩, ⟨2, [102], true⟩, ⟨3, [103], true⟩, ⟨4, [104], true⟩, ⟨5, [3], true⟩, ⟨6, [106], true⟩, ⟨7, [107], true⟩, ⟨8, [108], true⟩, ⟨9, [109], true⟩, ⟨10, [105], true⟩, ⟨11, [110], true⟩] rfl (by kernel_rfl) ?_
  refine Mf rfl rfl (step_fieldAddr so46 Sr rfl) (Mf rfl rfl (step_load_ptr ty42 Sr) ?_)
  refine Mf rfl rfl (step_indexAddr_sl (i := 0) underlying42 ty46 Sr Sr (by rfl) (gb (by exact hk0))) ?_
  refine Mf rfl rfl (step_fieldAddr so46 Sr rfl) (Mf rfl rfl (step_load_ptr ty44 Sr) (Mf rfl rfl (step_fieldAddr so46 Sr rfl) (Mf rfl rfl (step_load_ptr ty42 Sr) ?_)))
  refine Mf rfl rfl (step_indexAddr_sl (i := 1) underlying42 ty46 Sr Sr (by rfl) (gb (by exact hk1))) ?_
  refine Mf rfl rfl (step_fieldAddr so46 Sr rfl) (Mf rfl rfl (step_load_ptr ty44 Sr) (Mf rfl rfl (step_assign Sr) (Mf rfl rfl (step_assign Sr) (JM_nil (Jr ?_)))))
  refine Jx rfl (step_literal_own (ys := []) underlying44 el89 trivial rfl (by decide)) fun u111 => ?_
  refine Jm rfl ?_
  refine Jx rfl (step_append underlying44 el89 Sr Sr zS (by simp; omega) (by simp; omega)) fun v113 => ?_
  refine Ja rfl (JL_nil ?_)
  refine K_lsub (L' := [own 89 rAttr v113 (joinL (nth p.Kids 0).Attrs ((nth p.Kids 1).Attrs.take 0))]) (.c zS (SPs.of (A := own 89 rAttr v113 ([] ++ (nth p.Kids 0).Attrs)) (by simp [joinL])) (LSub.nil)) ?_
  refine J_seq (Jr (Ja rfl (JL_nil (J_block ?_))))
  refine J_loopL (σ := Nat × Value) (fun ⟨i, v⟩ => i ≤ (nth p.Kids 1).Attrs.length ∧ ∀ k, k < i → (decide (columnL (nth p.Kids 0).Attrs (nth (nth p.Kids 1).Attrs k).Name < 0) || decide ((nth (nth p.Kids 0).Attrs (columnL (nth p.Kids 0).Attrs (nth (nth p.Kids 1).Attrs k).Name).toNat).Kind = (nth (nth p.Kids 1).Attrs k).Kind)) = true) (fun ⟨i, v⟩ => upd (upd (upd (upd (upd (upd env0 3 (tPtr (rPlan (m + 1 + 1)) p)) 6 (tSl rAttr (nth p.Kids 0).Attrs)) 7 (tSl rAttr (nth p.Kids 1).Attrs)) 8 (rV.ty v)) 9 (tV (.int .i64 i))) 14 (tV (.int .i64 p.Kind))) (fun ⟨i, v⟩ => [own 89 rAttr v (joinL (nth p.Kids 0).Attrs ((nth p.Kids 1).Attrs.take i))]) (fun ⟨i, v⟩ => (nth p.Kids 1).Attrs.length - i) (0, v113) ⟨by omega, fun k hk => by omega⟩ (zU) (LSub.rfl) ?_
  rintro ⟨i, v⟩ ⟨hi, hv⟩
  refine J_seq (Jr (Jm rfl (Jm rfl (Js rfl (step_len_sl underlying44 Sr) (Js rfl (step_lss Sr Sr) ?_)))))
  refine JL_nil ?_
  refine J_cond Sr (fun h117 => ?_) (fun h117 => ?_)
  ·
   try simp only [NF] at h117
   have hlt : i < (nth p.Kids 1).Attrs.length := by omega
   have hcl := col_lt (nth p.Kids 0).Attrs (nth (nth p.Kids 1).Attrs i).Name
   have hjl := joinL_len (nth p.Kids 0).Attrs ((nth p.Kids 1).Attrs.take i)
   rw [List.length_take] at hjl
   have hsn := join_snoc (a := (nth p.Kids 0).Attrs) (l := (nth p.Kids 1).Attrs.take i) (x := nth (nth p.Kids 1).Attrs i)
   rw [← takeB hlt] at hsn
   refine J_skip (J_seq (J_block (Jr (Jm rfl (Jm rfl ?_)))))
   refine Jm rfl ?_
   refine Js rfl (step_indexAddr_sl (i := i) underlying44 ty89 Sr Sr (by rfl) (gb (by exact hlt))) ?_
   refine Js rfl (step_fieldAddr so89 Sr rfl) (Jl rfl ty9 Sr ?_)
   refine Js rfl (step_call0 (rcolL_spec _ _ (by show (nth p.Kids 0).Attrs.length ≤ _; omega)) ⟨Sr, Sr, trivial⟩ call123) ?_
   refine Ja rfl (JL_nil (J_seq (J_seq ?_)))
   refine J_draw [⟨0, [10], true⟩, ⟨1, [127], true⟩, ⟨2, [128], true⟩, ⟨3, [6, 129], true⟩, ⟨4, [10, 129], true⟩, ⟨5, [129, 130, 131], true⟩, ⟨6, [129, 132], true⟩, ⟨7, [129, 133], true⟩, ⟨8, [7, 129], true⟩, ⟨9, [9, 129], true⟩, ⟨10, [129, 135, 136], true⟩, ⟨11, [129, 137], true⟩, ⟨12, [129, 138], true⟩, ⟨13, [129, 134, 139], true⟩, ⟨14, [129, 140], true⟩] rfl (by kernel_rfl) ?_
   refine Mv rfl rfl (Mf rfl rfl (step_geq Sr Sr) (Mv rfl rfl ?_))
   refine Mk rfl rfl Sr rfl (step_move Sr) ?_
   refine Mk rfl rfl Sr rfl (step_move Sr) ?_
   refine Mg rfl rfl Sr rfl (fun hw => step_indexAddr_sl (i := (columnL (nth p.Kids 0).Attrs (nth (nth p.Kids 1).Attrs i).Name).toNat) underlying44 ty89 (Sub.w hw) (Sub.w hw) (by have hwq := hw; (try simp only [beqB_t, beqB_f, NF] at hwq); show (columnL (nth p.Kids 0).Attrs (nth (nth p.Kids 1).Attrs i).Name) = _; omega) (gb (by have hwq := hw; (try simp only [beqB_t, beqB_f, NF] at hwq); show _ < (nth p.Kids 0).Attrs.length; omega))) ?_
   refine Mg rfl rfl Sr rfl (fun hw => step_fieldAddr so89 (Sub.w hw) rfl) (Mg rfl rfl Sr rfl (fun hw => step_load_ptr ty3 (Sub.w hw)) ?_)
   refine Mk rfl rfl Sr rfl (step_move Sr) ?_
   refine Mk rfl rfl Sr rfl (step_move Sr) ?_
   refine Mg rfl rfl Sr rfl (fun hw => step_indexAddr_sl (i := i) underlying44 ty89 (Sub.w hw) (Sub.w hw) (by rfl) (gb (by have hwq := hw; (try simp only [beqB_t, beqB_f, NF] at hwq); exact hlt))) ?_
   refine Mg rfl rfl Sr rfl (fun hw => step_fieldAddr so89 (Sub.w hw) rfl) (Mg rfl rfl Sr rfl (fun hw => step_load_ptr ty3 (Sub.w hw)) (Mg rfl rfl Sr rfl (fun hw => step_neq (Sub.w hw) (Sub.w hw)) (Mf rfl rfl (step_pick_and Sr Sr) (JM_nil ?_))))
   refine J_cond Sr (fun h141 => ?_) (fun h141 => ?_)
   ·
    try simp only [NF] at h141
    refine Jr (Ja rfl (JL_nil (J_ret ?_)))
    refine K_ret1' (rv := .tmp 4) rfl () (Sel.all _) (.tmp Sr) (Frz.sub (Sub.bool ?_))
    have hno : joinOk (nth p.Kids 0).Attrs (nth p.Kids 1).Attrs = false := all_f hlt (by simp [h141.2]; omega)
    rw [colsR, if_neg h15, if_neg h39, if_neg h75, if_pos h99, hno]; simp
   try simp only [NF] at h141
   refine J_skip (Jr (Jm rfl (Js rfl (step_lss Sr Sr) (JL_nil ?_))))
   refine J_cond Sr (fun h143 => ?_) (fun h143 => ?_)
   ·
    try simp only [NF] at h143
    refine J_region (Jm rfl (Jm rfl (Jm rfl ?_)))
    refine Js rfl (step_indexAddr_sl (i := i) underlying44 ty89 Sr Sr (by rfl) (gb (by exact hlt))) ?_
    refine Jl rfl ty89 Sr ?_
    refine Js rfl (step_literal (ys := [_]) underlying44 el89 ⟨rfl, Sr, trivial⟩ rfl (by decide)) ?_
    refine Jx rfl (step_append underlying44 el89 Sr Sr zS (by simp; omega) (by simp; omega)) fun v150 => ?_
    refine Ja rfl (JL_nil (J_region (Jm rfl (Js rfl (step_add Sr Sr z6) (Ja rfl ?_)))))
    refine JL_nil ?_
    refine K_againL (σ := Nat × Value) (s := (i, v)) (i + 1, v150) zO ?_ (zU) (.c zS (SPs.of (A := own 89 rAttr v150 (joinL (nth p.Kids 0).Attrs ((nth p.Kids 1).Attrs.take i) ++ [nth (nth p.Kids 1).Attrs i])) (by rw [hsn, if_pos h143])) (LSub.nil))
    refine ⟨by omega, fun k hk => ?_⟩
    by_cases e : k = i
    ·
     subst e; simp [h143]
    exact hv k zG
   try simp only [NF] at h143
   refine J_skip (J_region (Jm rfl (Js rfl (step_add Sr Sr z6) (Ja rfl (JL_nil ?_)))))
   refine K_againL (σ := Nat × Value) (s := (i, v)) (i + 1, v) zO ?_ (zU) (.c zS (SPs.of (A := own 89 rAttr v (joinL (nth p.Kids 0).Attrs ((nth p.Kids 1).Attrs.take i))) (by rw [hsn, if_neg zG])) (LSub.nil))
   refine ⟨by omega, fun k hk => ?_⟩
   by_cases e : k = i
   ·
    rw [e]; rcases h141 with h | h
    ·
     exact absurd h143 zG
    simp [h]
   exact hv k zG
  try simp only [NF] at h117
  obtain rfl : i = (nth p.Kids 1).Attrs.length := by omega
  have hok : joinOk (nth p.Kids 0).Attrs (nth p.Kids 1).Attrs = true := all_t hv
  refine K_lsub (L' := [own 89 rAttr v (joinL (nth p.Kids 0).Attrs (nth p.Kids 1).Attrs)]) (.c zS (SPs.of (A := own 89 rAttr v (joinL (nth p.Kids 0).Attrs ((nth p.Kids 1).Attrs.take (nth p.Kids 1).Attrs.length))) (by rw [List.take_length])) (LSub.nil)) ?_
  refine J_exit (Jr (Js rfl (step_fieldAddr so46 Sr rfl) (Jl rfl ty44 Sr (Jm rfl ?_))))
  refine Js rfl (step_call_look zS (ralike_spec _ _ (by show p.Attrs.length ≤ _; omega)) (fun _ => Flat.v _) ⟨(Frz.sub Sr), (Frz.own), trivial⟩ call267) ?_
  refine Ja rfl (JL_nil (J_ret ?_))
  refine K_ret1' (rv := .tmp 4) rfl () (Sel.all _) (.tmp Sr) (Frz.sub (Sub.bool ?_))
  rw [colsR, if_neg h15, if_neg h39, if_neg h75, if_pos h99, hok, Bool.true_and]
 try simp only [NF] at h99
 refine J_seq (Jr (Js rfl (step_eql Sr Sr) (Ja rfl (JL_nil ?_))))
 refine J_cond Sr (fun h155 => ?_) (fun h155 => ?_)
 ·
  try simp only [NF] at h155
  refine J_skip ?_
  refine J_cond Sr (fun h155 => ?_) (fun h155 => ?_)
  ·
   try simp only [NF] at h155
   refine J_seq ?_
   have hk56 : p.Kind = 5 ∨ p.Kind = 6 := by omega
   have hk0 : 0 < p.Kids.length := by rcases hk56 with h | h <;> (rw [h] at hkn; simp [kidsN] at hkn; omega)
   have hk1 : 1 < p.Kids.length := by rcases hk56 with h | h <;> (rw [h] at hkn; simp [kidsN] at hkn; omega)
   obtain rfl := hm hk0
   have hA0 := (z5 _ (nth_mem hk0)).2
   have hA1 := (z5 _ (nth_mem hk1)).2
   refine J_draw [⟨0, [3], true⟩, ⟨1, [158], true⟩, ⟨2, [159], true⟩, ⟨3, [160], true⟩, ⟨4, [161], true⟩, ⟨5, [3], true⟩, ⟨6, [163], true⟩, ⟨7, [164], true⟩, ⟨8, [165], true⟩, ⟨9, [166], true⟩, ⟨10, [162, 167], true⟩, ⟨11, [168], true⟩, ⟨12, [3, 169], true⟩, ⟨13, [169, 170], true⟩, ⟨14, [3, 169], true⟩, ⟨15, [169, 172], true⟩, ⟨16, [169, 173], true⟩, ⟨17, [169, 174], true⟩, ⟨18, [169, 175], true⟩, ⟨19, [169, 171, 176], true⟩, ⟨20, [169, 177], true⟩, ⟨21, [178], true⟩] rfl (by kernel_rfl) ?_
   refine Mf rfl rfl (step_fieldAddr so46 Sr rfl) (Mf rfl rfl (step_load_ptr ty42 Sr) ?_)
   refine Mf rfl rfl (step_indexAddr_sl (i := 0) underlying42 ty46 Sr Sr (by rfl) (gb (by exact hk0))) ?_
   refine Mf rfl rfl (step_fieldAddr so46 Sr rfl) (Mf rfl rfl (step_load_ptr ty44 Sr) (Mf rfl rfl (step_fieldAddr so46 Sr rfl) (Mf rfl rfl (step_load_ptr ty42 Sr) ?_)))
   refine Mf rfl rfl (step_indexAddr_sl (i := 1) underlying42 ty46 Sr Sr (by rfl) (gb (by exact hk1))) ?_
   refine Mf rfl rfl (step_fieldAddr so46 Sr rfl) (Mf rfl rfl (step_load_ptr ty44 Sr) ?_)
   refine Mf rfl rfl (step_call0 (ralike_spec _ _ (by show (nth p.Kids 0).Attrs.length ≤ _; omega)) ⟨Sr, Sr, trivial⟩ call267) ?_
   refine Mv rfl rfl ?_
   refine Mk rfl rfl Sr rfl (step_fieldAddr so46 Sr rfl) ?_
   refine Mg rfl rfl Sr rfl (fun hw => step_load_ptr ty44 (Sub.w hw)) ?_
   refine Mk rfl rfl Sr rfl (step_fieldAddr so46 Sr rfl) ?_
   refine Mg rfl rfl Sr rfl (fun hw => step_load_ptr ty42 (Sub.w hw)) ?_
   refine Mg rfl rfl Sr rfl (fun hw => step_indexAddr_sl (i := 0) underlying42 ty46 (Sub.w hw) Sr (by rfl) (gb (by have hwq := hw; (try simp only [beqB_t, beqB_f, NF] at hwq); exact hk0))) ?_
   refine Mg rfl rfl Sr rfl (fun hw => step_fieldAddr so46 (Sub.w hw) rfl) (Mg rfl rfl Sr rfl (fun hw => step_load_ptr ty44 (Sub.w hw)) ?_)
   refine Mg rfl rfl Sr rfl (fun hw => step_call0 (ralike_spec _ _ (by show p.Attrs.length ≤ _; omega)) ⟨(Sub.w hw), (Sub.w hw), trivial⟩ call267) ?_
   refine Mf rfl rfl (step_pick_and Sr Sr) (Mf rfl rfl (step_assign Sr) (JM_nil (J_ret ?_)))
   refine K_ret1 (t := 4) rfl () ?_
   refine Sub.bool ?_
   rw [colsR, if_neg h15, if_neg h39, if_neg h75, if_neg h99, if_pos hk56]
  try simp only [NF] at h155
  first | contradiction | omega | (simp_all; done)
 try simp only [NF] at h155
 refine J_region (Js rfl (step_eql Sr Sr) (Ja rfl (JL_nil ?_)))
 refine J_cond Sr (fun h155 => ?_) (fun h155 => ?_)
 ·
  try simp only [NF] at h155
  refine J_seq ?_
  have hk56 : p.Kind = 5 ∨ p.Kind = 6 := by omega
  have hk0 : 0 < p.Kids.length := by rcases hk56 with h | h <;> (rw [h] at hkn; simp [kidsN] at hkn; omega)
  have hk1 : 1 < p.Kids.length := by rcases hk56 with h | h <;> (rw [h] at hkn; simp [kidsN] at hkn; omega)
  obtain rfl := hm hk0
  have hA0 := (z5 _ (nth_mem hk0)).2
  have hA1 := (z5 _ (nth_mem hk1)).2
  refine J_draw [⟨0, [3], true⟩, ⟨1, [158], true⟩, ⟨2, [159], true⟩, ⟨3, [160], true⟩, ⟨4, [161], true⟩, ⟨5, [3], true⟩, ⟨6, [163], true⟩, ⟨7, [164], true⟩, ⟨8, [165], true⟩, ⟨9, [166], true⟩, ⟨10, [162, 167], true⟩, ⟨11, [168], true⟩, ⟨12, [3, 169], true⟩, ⟨13, [169, 170], true⟩, ⟨14, [3, 169], true⟩, ⟨15, [169, 172], true⟩, ⟨16, [169, 173], true⟩, ⟨17, [169, 174], true⟩, ⟨18, [169, 175], true⟩, ⟨19, [169, 171, 176], true⟩, ⟨20, [169, 177], true⟩, ⟨21, [178], true⟩] rfl (by kernel_rfl) ?_
  refine Mf rfl rfl (step_fieldAddr so46 Sr rfl) (Mf rfl rfl (step_load_ptr ty42 Sr) ?_)
  refine Mf rfl rfl (step_indexAddr_sl (i := 0) underlying42 ty46 Sr Sr (by rfl) (gb (by exact hk0))) ?_
  refine Mf rfl rfl (step_fieldAddr so46 Sr rfl) (Mf rfl rfl (step_load_ptr ty44 Sr) (Mf rfl rfl (step_fieldAddr so46 Sr rfl) (Mf rfl rfl (step_load_ptr ty42 Sr) ?_)))
  refine Mf rfl rfl (step_indexAddr_sl (i := 1) underlying42 ty46 Sr Sr (by rfl) (gb (by exact hk1))) ?_
  refine Mf rfl rfl (step_fieldAddr so46 Sr rfl) (Mf rfl rfl (step_load_ptr ty44 Sr) ?_)
  refine Mf rfl rfl (step_call0 (ralike_spec _ _ (by show (nth p.Kids 0).Attrs.length ≤ _; omega)) ⟨Sr, Sr, trivial⟩ call267) ?_
  refine Mv rfl rfl ?_
  refine Mk rfl rfl Sr rfl (step_fieldAddr so46 Sr rfl) ?_
  refine Mg rfl rfl Sr rfl (fun hw => step_load_ptr ty44 (Sub.w hw)) ?_
  refine Mk rfl rfl Sr rfl (step_fieldAddr so46 Sr rfl) ?_
  refine Mg rfl rfl Sr rfl (fun hw => step_load_ptr ty42 (Sub.w hw)) ?_
  refine Mg rfl rfl Sr rfl (fun hw => step_indexAddr_sl (i := 0) underlying42 ty46 (Sub.w hw) Sr (by rfl) (gb (by have hwq := hw; (try simp only [beqB_t, beqB_f, NF] at hwq); exact hk0))) ?_
  refine Mg rfl rfl Sr rfl (fun hw => step_fieldAddr so46 (Sub.w hw) rfl) (Mg rfl rfl Sr rfl (fun hw => step_load_ptr ty44 (Sub.w hw)) ?_)
  refine Mg rfl rfl Sr rfl (fun hw => step_call0 (ralike_spec _ _ (by show p.Attrs.length ≤ _; omega)) ⟨(Sub.w hw), (Sub.w hw), trivial⟩ call267) ?_
  refine Mf rfl rfl (step_pick_and Sr Sr) (Mf rfl rfl (step_assign Sr) (JM_nil (J_ret ?_)))
  refine K_ret1 (t := 4) rfl () ?_
  refine Sub.bool ?_
  rw [colsR, if_neg h15, if_neg h39, if_neg h75, if_neg h99, if_pos hk56]
 try simp only [NF] at h155
 refine Jr (Js rfl (step_eql Sr Sr) (Ja rfl (JL_nil ?_)))
 refine J_cond Sr (fun h179 => ?_) (fun h179 => ?_)
 ·
  try simp only [NF] at h179
  have hk0 : 0 < p.Kids.length := by rw [h179] at hkn; simp [kidsN] at hkn; omega
  have hA0 := (z5 _ (nth_mem hk0)).2
  obtain rfl := hm hk0
  refine Jr (Js rfl (step_fieldAddr so46 Sr rfl) (Jl rfl ty42 Sr ?_))
  refine Js rfl (step_indexAddr_sl (i := 0) underlying42 ty46 Sr Sr (by rfl) (gb (by exact hk0))) ?_
  refine Js rfl (step_fieldAddr so46 Sr rfl) (Jl rfl ty44 Sr (Js rfl (step_len_sl underlying44 Sr) (Ja rfl (JL_nil (J_seq ?_)))))
  refine Jr (Js rfl (step_fieldAddr so46 Sr rfl) (Jl rfl ty3 Sr (Js rfl (step_lss Sr Sr) (Jm rfl ?_))))
  refine Jk rfl Sr rfl (step_fieldAddr so46 Sr rfl) ?_
  refine Jg rfl Sr rfl (fun hw => step_load_ptr ty3 (Sub.w hw)) ?_
  refine Jk rfl Sr rfl (step_move Sr) ?_
  refine Jg rfl Sr rfl (fun hw => step_geq (Sub.w hw) (Sub.w hw)) (Js rfl (step_pick_or Sr Sr) (Jm rfl ?_))
  refine Jk rfl Sr rfl (step_fieldAddr so46 Sr rfl) ?_
  refine Jg rfl Sr rfl (fun hw => step_load_ptr ty44 (Sub.w hw)) (Jg rfl Sr rfl (fun hw => step_len_sl underlying44 (Sub.w hw)) ?_)
  refine Jk rfl Sr rfl (step_move Sr) ?_
  refine Jg rfl Sr rfl (fun hw => step_neq (Sub.w hw) (Sub.w hw)) (Js rfl (step_pick_or Sr Sr) (JL_nil ?_))
  refine J_cond Sr (fun h202 => ?_) (fun h202 => ?_)
  ·
   try simp only [NF] at h202
   refine Jr (Ja rfl (JL_nil (J_ret ?_)))
   refine K_ret1 (t := 4) rfl () ?_
   refine Sub.bool ?_
   have hno : renOk p = false := by unfold renOk; rw [decide_eq_false_iff_not]; omega
   rw [colsR, if_neg h15, if_neg h39, if_neg h75, if_neg h99, if_neg zG, if_pos h179, hno]; simp
  try simp only [NF] at h202
  have hok : renOk p = true := by unfold renOk; rw [decide_eq_true_eq]; omega
  have hr : 0 ≤ p.Col ∧ p.Col < (nth p.Kids 0).Attrs.length ∧ p.Attrs.length = (nth p.Kids 0).Attrs.length := by omega
  refine J_skip (Jr ?_)
  refine Jx rfl (step_literal_own (ys := []) underlying44 el89 trivial rfl (by decide)) fun u203 => ?_
  refine Js rfl (step_fieldAddr so46 Sr rfl) (Jl rfl ty42 Sr ?_)
  refine Js rfl (step_indexAddr_sl (i := 0) underlying42 ty46 Sr Sr (by rfl) (gb (by exact hk0))) ?_
  refine Js rfl (step_fieldAddr so46 Sr rfl) (Jl rfl ty44 Sr ?_)
  refine Jx rfl (step_append underlying44 el89 Sr Sr zS (by simp; omega) (by simp; omega)) fun v209 => ?_
  refine Ja rfl (JL_nil ?_)
  refine K_lsub (L' := [own 89 rAttr v209 (nth p.Kids 0).Attrs]) (.c zS (SPs.of (A := own 89 rAttr v209 ([] ++ (nth p.Kids 0).Attrs)) (by simp)) (LSub.nil)) ?_
  refine J_seq ?_
  refine J_draw [⟨0, [12], true⟩, ⟨1, [3], true⟩, ⟨2, [211], true⟩, ⟨3, [3], true⟩, ⟨4, [213], true⟩, ⟨5, [3], true⟩, ⟨6, [215], true⟩, ⟨7, [214, 216], true⟩, ⟨8, [217], true⟩, ⟨9, [218], true⟩, ⟨10, [210, 212], false⟩, ⟨11, [220], false⟩, ⟨12, [219, 221], false⟩] rfl (by kernel_rfl) ?_
  refine Mv rfl rfl (Mf rfl rfl (step_fieldAddr so46 Sr rfl) (Mf rfl rfl (step_load_ptr ty3 Sr) (Mf rfl rfl (step_fieldAddr so46 Sr rfl) (Mf rfl rfl (step_load_ptr ty44 Sr) (Mf rfl rfl (step_fieldAddr so46 Sr rfl) ?_)))))
  refine Mf rfl rfl (step_load_ptr ty3 Sr) ?_
  refine Mf rfl rfl (step_indexAddr_sl (i := p.Col.toNat) underlying44 ty89 Sr Sr (by show p.Col = _; omega) (gb (by show p.Col.toNat < p.Attrs.length; omega))) ?_
  refine Mf rfl rfl (step_fieldAddr so89 Sr rfl) (Mf rfl rfl (step_load_ptr ty9 Sr) ?_)
  refine JM_look rfl rfl rfl rfl (step_indexAddr_own (i := p.Col.toNat) underlying44 ty89 Sr zS Sr (by show p.Col = _; omega) (by show p.Col.toNat < (nth p.Kids 0).Attrs.length; omega)) ?_
  refine JM_look rfl rfl rfl rfl (step_fieldAddr_elem (i := p.Col.toNat) so89 Sr rfl zS (by show _ < (nth p.Kids 0).Attrs.length; omega)) ?_
  refine JM_stepU rfl rfl rfl (step_store_elemfld (i := p.Col.toNat) (y := nth (nth p.Kids 0).Attrs p.Col.toNat) (y' := { nth (nth p.Kids 0).Attrs p.Col.toNat with Name := (nth p.Attrs p.Col.toNat).Name }) ty9 Sr Sr zS (gb (by show _ < (nth p.Kids 0).Attrs.length; omega)) ⟨fun _ _ q => q, rfl, by intro g hg; simp only [List.mem_cons, List.not_mem_nil, or_false] at hg; rcases hg with rfl | rfl | rfl <;> rfl⟩) fun _ => ?_
  refine JM_nil (Jr (Js rfl (step_fieldAddr so46 Sr rfl) (Jl rfl ty44 Sr (Jm rfl ?_))))
  refine Js rfl (step_call_look zS (ralike_spec _ _ (by show p.Attrs.length ≤ _; omega)) (fun _ => Flat.v _) ⟨(Frz.sub Sr), (Frz.own), trivial⟩ call267) ?_
  refine Ja rfl (JL_nil (J_ret ?_))
  refine K_ret1' (rv := .tmp 4) rfl () (Sel.all _) (.tmp Sr) (Frz.sub (Sub.bool ?_))
  rw [colsR, if_neg h15, if_neg h39, if_neg h75, if_neg h99, if_neg zG, if_pos h179, hok, Bool.true_and]; rfl
 try simp only [NF] at h179
 have h8 : p.Kind = 8 := by have := kind_cases hkd; omega
 have hk0 : 0 < p.Kids.length := by rw [h8] at hkn; simp [kidsN] at hkn; omega
 obtain rfl := hm hk0
 refine J_skip (Jr (Jl rfl ty46 Sr (Js rfl (step_call0 (rgroup_spec _ _ hp hk0) ⟨Sr, trivial⟩ call270) (Ja rfl (JL_nil ?_)))))
 refine J_ret ?_
 refine K_ret1 (t := 4) rfl () ?_
 refine Sub.bool ?_
 rw [colsR, if_neg h15, if_neg h39, if_neg h75, if_neg h99, if_neg zG, if_neg h179]
open Go Go.Proofs Go.Proofs.Tryz
/-- What the reference's right does at queries of a depth. -/
def RightS (s : GSchema) (n : Nat) : Prop := ∀ (lv : Nat) (p : GPlan), lv ≤ 1000 → PlSz n p → Fun1 prog 120 [rSchema.ty s, (rPlan n).ty p, tV (.int .i64 lv)] (tV (.bool (validM s lv p)))
set_option maxHeartbeats 4000000 in
theorem rright1_spec (s : GSchema) (hz : SchSz s) (hs : schM s = true) (n lv : Nat) (p : GPlan) (hlv : lv ≤ 1000) (hp : PlSz (n + 1) p) (ih : RightS s n) : Fun1 prog 120 [rSchema.ty s, (rPlan (n + 1)).ty p, tV (.int .i64 lv)] (tV (.bool (validM s lv p))) := by
 refine Spec.enter func120 rfl rfl fun h0 w0 fr0 => ?_
 obtain ⟨z1, z2, z3, z4, z5⟩ := id hp
 refine Jr (Js rfl (step_box (R := rSchema) Sr) (Js rfl (step_box (R := (rPlan (n + 1))) Sr) (Ja rfl (JL_nil (J_seq ?_)))))
 refine J_seq ?_
 refine J_draw [⟨0, [2], true⟩, ⟨1, [9], true⟩, ⟨2, [10], true⟩, ⟨3, [4, 11], true⟩, ⟨4, [11, 12], true⟩, ⟨5, [11, 13], true⟩, ⟨6, [4, 11], true⟩, ⟨7, [11, 15], true⟩, ⟨8, [11, 16], true⟩, ⟨9, [11, 14, 17], true⟩, ⟨10, [11, 18], true⟩, ⟨11, [19], true⟩, ⟨12, [4, 20], true⟩, ⟨13, [20, 21], true⟩, ⟨14, [20, 22], true⟩, ⟨15, [20, 23], true⟩] rfl (by kernel_rfl) ?_
 refine Mv rfl rfl (Mf rfl rfl (step_eql Sr Sr) (Mv rfl rfl ?_))
 refine Mk rfl rfl Sr rfl (step_fieldAddr so46 Sr rfl) ?_
 refine Mg rfl rfl Sr rfl (fun hw => step_load_ptr ty42 (Sub.w hw)) (Mg rfl rfl Sr rfl (fun hw => step_len_sl underlying42 (Sub.w hw)) ?_)
 refine Mk rfl rfl Sr rfl (step_fieldAddr so46 Sr rfl) ?_
 refine Mg rfl rfl Sr rfl (fun hw => step_load_ptr ty3 (Sub.w hw)) (Mg rfl rfl Sr rfl (fun hw => step_call0 (rkids_spec _) ⟨(Sub.w hw), trivial⟩ call190) (Mg rfl rfl Sr rfl (fun hw => step_neq (Sub.w hw) (Sub.w hw)) (Mf rfl rfl (step_pick_or Sr Sr) (Mv rfl rfl ?_))))
 refine Mk rfl rfl Sr rfl (step_load_ptr ty46 Sr) ?_
 refine Mg rfl rfl Sr rfl (fun hw => step_call0 (rbare_spec _ _) ⟨(Sub.w hw), trivial⟩ call191) (Mg rfl rfl Sr rfl (fun hw => step_not (Sub.w hw)) (Mf rfl rfl (step_pick_or Sr Sr) (JM_nil ?_)))
 refine J_cond Sr (fun h24 => ?_) (fun h24 => ?_)
 ·
  try simp only [NF] at h24
  refine Jr (Ja rfl (JL_nil (J_ret ?_)))
  refine K_ret1 (t := 6) rfl () ?_
  refine Sub.bool ?_
  cases lv with
  | zero => rfl
  | succ l =>
   have hb : (kindOk p.Kind && decide ((p.Kids.length : Int) = kidsN p.Kind) && bareM p) = false := by
    by_cases hkd : kindOk p.Kind = true
    ·
     rw [hkd, Bool.true_and, ← bare_eq hkd]
     rcases h24 with (h | h) | h
     ·
      exact absurd h zG
     ·
      rw [kidsI, if_pos hkd] at h; simp [h]
     simp [h]
    rw [Bool.eq_false_iff.2 hkd, Bool.false_and, Bool.false_and]
   simp only [validM]
   cases h1 : (kindOk p.Kind && decide ((p.Kids.length : Int) = kidsN p.Kind)) with
   | false => simp
   | true => rw [h1, Bool.true_and] at hb; simp [hb]
 try simp only [NF] at h24
 have hlv0 : ¬ (lv : Int) = 0 := h24.1.1
 have hki : (p.Kids.length : Int) = kidsI p.Kind := h24.1.2
 have hkd : kindOk p.Kind = true := by
  unfold kidsI at hki
  split at hki
  ·
   assumption
  omega
 have hkn : (p.Kids.length : Int) = kidsN p.Kind := by rw [hki, kidsI, if_pos hkd]
 have hb : bareM p = true := by rw [← bare_eq hkd]; exact h24.2
 obtain ⟨l, rfl⟩ : ∃ l, lv = l + 1 := ⟨lv - 1, by omega⟩
 refine J_skip (J_seq (Jr (Ja rfl (JL_nil (J_block ?_)))))
 refine J_loopL (σ := Nat) (fun i => i ≤ p.Kids.length ∧ ∀ k, k < i → validM s l (nth p.Kids k) = true) (fun i => upd (upd (upd (upd env0 2 (tV (.int .i64 ((l + 1 : Nat) : Int)))) 3 (tPtr rSchema s)) 4 (tPtr (rPlan (n + 1)) p)) 7 (tV (.int .i64 i))) (fun i => []) (fun i => p.Kids.length - i) 0 ⟨by omega, fun k hk => by omega⟩ (zU) (LSub.rfl) ?_
 rintro i ⟨hi, hv⟩
 refine J_seq (Jr (Jm rfl (Js rfl (step_fieldAddr so46 Sr rfl) (Jl rfl ty42 Sr (Js rfl (step_len_sl underlying42 Sr) ?_)))))
 refine Js rfl (step_lss Sr Sr) (JL_nil ?_)
 refine J_cond Sr (fun h29 => ?_) (fun h29 => ?_)
 ·
  try simp only [NF] at h29
  have hlt : i < p.Kids.length := by omega
  refine J_skip (J_seq (J_block (J_seq ?_)))
  refine J_draw [⟨0, [3], true⟩, ⟨1, [4], true⟩, ⟨2, [33], true⟩, ⟨3, [7], true⟩, ⟨4, [34, 35], true⟩, ⟨5, [36], true⟩, ⟨6, [2], true⟩, ⟨7, [38], true⟩, ⟨8, [32, 37, 39], true⟩, ⟨9, [40], true⟩] rfl (by kernel_rfl) ?_
  refine Mf rfl rfl (step_load_ptr ty41 Sr) (Mf rfl rfl (step_fieldAddr so46 Sr rfl) (Mf rfl rfl (step_load_ptr ty42 Sr) (Mv rfl rfl ?_)))
  refine Mf rfl rfl (step_indexAddr_sl (i := i) underlying42 ty46 Sr Sr (by rfl) (gb (by exact hlt))) ?_
  refine Mf rfl rfl (step_load_ptr ty46 Sr) (Mv rfl rfl (Mf rfl rfl (step_sub Sr Sr z6) (Mf rfl rfl (step_call0 (ih l _ zG (z5 _ (nth_mem hlt)).1) ⟨Sr, Sr, Sub.int zG, trivial⟩ call120) (Mf rfl rfl (step_not Sr) (JM_nil ?_)))))
  refine J_cond Sr (fun h41 => ?_) (fun h41 => ?_)
  ·
   try simp only [NF] at h41
   refine Jr (Ja rfl (JL_nil (J_ret ?_)))
   refine K_ret1 (t := 6) rfl () ?_
   refine Sub.bool ?_
   have : p.Kids.all (validM s l) = false := all_f hlt (by simpa using h41)
   simp only [validM, this]; simp
  try simp only [NF] at h41
  refine J_skip (J_region (Jm rfl (Js rfl (step_add Sr Sr z6) (Ja rfl (JL_nil ?_)))))
  refine K_againL (σ := Nat) (s := i) (i + 1) zO ?_ (zU) (LSub.rfl)
  exact pred_again (p := fun q => validM s l q = true) hlt hv (by simpa using h41)
 try simp only [NF] at h29
 have hkids : p.Kids.all (validM s l) = true := all_t (fun k hk => hv k zG)
 refine J_exit (J_seq (Jr (Ja rfl (JL_nil (J_block ?_)))))
 refine J_loopL (σ := Nat) (fun i => i ≤ p.Attrs.length ∧ ∀ k, k < i → namesOk p.Attrs k = true) (fun i => upd (upd (upd env0 3 (tPtr rSchema s)) 4 (tPtr (rPlan (n + 1)) p)) 8 (tV (.int .i64 i))) (fun i => []) (fun i => p.Attrs.length - i) 0 ⟨by omega, fun k hk => by omega⟩ (zU) (LSub.rfl) ?_
 rintro i ⟨hi2, hv2⟩
 refine J_seq (Jr (Jm rfl (Js rfl (step_fieldAddr so46 Sr rfl) (Jl rfl ty44 Sr (Js rfl (step_len_sl underlying44 Sr) ?_)))))
 refine Js rfl (step_lss Sr Sr) (JL_nil ?_)
 refine J_cond Sr (fun h46 => ?_) (fun h46 => ?_)
 ·
  try simp only [NF] at h46
  have hlt : i < p.Attrs.length := by omega
  refine J_skip (J_seq (J_block (J_seq ?_)))
  refine J_draw [⟨0, [4], true⟩, ⟨1, [49], true⟩, ⟨2, [4], true⟩, ⟨3, [51], true⟩, ⟨4, [8], true⟩, ⟨5, [52, 53], true⟩, ⟨6, [54], true⟩, ⟨7, [55], true⟩, ⟨8, [50, 56], true⟩, ⟨9, [8], true⟩, ⟨10, [57, 58], true⟩] rfl (by kernel_rfl) ?_
  refine Mf rfl rfl (step_fieldAddr so46 Sr rfl) (Mf rfl rfl (step_load_ptr ty44 Sr) (Mf rfl rfl (step_fieldAddr so46 Sr rfl) (Mf rfl rfl (step_load_ptr ty44 Sr) (Mv rfl rfl ?_))))
  refine Mf rfl rfl (step_indexAddr_sl (i := i) underlying44 ty89 Sr Sr (by rfl) (gb (by exact hlt))) ?_
  refine Mf rfl rfl (step_fieldAddr so89 Sr rfl) (Mf rfl rfl (step_load_ptr ty9 Sr) ?_)
  refine Mf rfl rfl (step_call0 (rcolL_spec _ _ (by show p.Attrs.length ≤ _; omega)) ⟨Sr, Sr, trivial⟩ call123) ?_
  refine Mv rfl rfl (Mf rfl rfl (step_neq Sr Sr) (JM_nil ?_))
  refine J_cond Sr (fun h59 => ?_) (fun h59 => ?_)
  ·
   try simp only [NF] at h59
   refine Jr (Ja rfl (JL_nil (J_ret ?_)))
   refine K_ret1 (t := 6) rfl () ?_
   refine Sub.bool ?_
   have : namesOk p.Attrs i = false := by simpa [namesOk] using h59
   simp only [validM, rall_f hlt this]; simp
  try simp only [NF] at h59
  refine J_skip (J_region (Jm rfl (Js rfl (step_add Sr Sr z6) (Ja rfl (JL_nil ?_)))))
  refine K_againL (σ := Nat) (s := i) (i + 1) zO ?_ (zU) (LSub.rfl)
  refine ⟨by omega, fun k hk => ?_⟩
  by_cases e : k = i
  ·
   subst e; simpa [namesOk] using h59
  exact hv2 k zG
 try simp only [NF] at h46
 have hns : (List.range p.Attrs.length).all (namesOk p.Attrs) = true := rall_t (fun k hk => hv2 k zG)
 refine J_exit (Jr (Jl rfl ty41 Sr (Jl rfl ty46 Sr (Js rfl (step_call0 (rcolumns_spec _ hz _ _ hp hkd hkn) ⟨Sr, Sr, trivial⟩ call192) (Ja rfl ?_)))))
 refine JL_nil (J_ret ?_)
 refine K_ret1 (t := 6) rfl () ?_
 refine Sub.bool ?_
 have hkn2 : decide ((p.Kids.length : Int) = kidsN p.Kind) = true := by rw [decide_eq_true_eq]; exact hkn
 simp only [validM, hkd, hkn2, hkids, hb, hns, Bool.true_and]; exact cols_eq hs hkd
theorem rright_spec (s : GSchema) (hz : SchSz s) (hs : schM s = true) : ∀ n, RightS s n
 | 0 => fun lv p hlv hp => by
  refine Spec.enter func120 rfl rfl fun h0 w0 fr0 => ?_
  exact K_fact 1 (fun _ _ r => (show False from r)) fun q => q.elim
 | n + 1 => fun lv p hlv hp => rright1_spec s hz hs n lv p hlv hp (rright_spec s hz hs n)
theorem rqValid_spec (s : GSchema) (hz : SchSz s) (n : Nat) (p : GPlan) (hp : PlSz n p) : Fun1 prog 66 [rSchema.ty s, (rPlan n).ty p] (tV (.bool (vldM s p))) := by
 refine Spec.enter func66 rfl rfl fun h0 w0 fr0 => ?_
 refine Jr (Js rfl (step_box (R := rSchema) Sr) (Js rfl (step_box (R := (rPlan n)) Sr) (Ja rfl (JL_nil (Jr ?_)))))
 refine Jl rfl ty41 Sr (Js rfl (step_call0 (rsValid_spec _ hz) ⟨Sr, trivial⟩ call89) (Jm rfl ?_))
 refine Jk rfl Sr rfl (step_load_ptr ty41 Sr) ?_
 refine Jk rfl Sr rfl (step_load_ptr ty46 Sr) ?_
 refine Jg rfl Sr rfl (fun hw => step_call0 (rright_spec s hz (by have hwq := hw; (try simp only [beqB_t, beqB_f] at hwq); first | exact hwq | simpa using hwq) n 12 p zG hp) ⟨Sub.w hw, Sub.w hw, Sr, trivial⟩ call120) ?_
 refine Js rfl (step_pick_and Sr Sr) (Ja rfl (JL_nil (J_ret ?_)))
 exact K_ret1 (t := 4) rfl () Sr
end Lg
