/- A part of the proofs of the laws of cleanselaw33 and cleanselaw36: contracts of functions that the law reaches, and facts about what they compute. -/
import Derived.Test.YtecikhenhjphfaaGreatDoorD
import Derived.RecoverIn
set_option linter.unusedVariables false
set_option linter.unusedSimpArgs false
set_option linter.unusedSectionVars false
namespace Lg
open Go Go.Proofs Go.Proofs.Tryz
def nlB : ByteArray := ⟨#[10]⟩
def keyStep (row : LV) (s : ByteArray) (c : Int) : ByteArray := s ++ (textV (nth row c.toNat) ++ nlB)
/-- The text of a row's values in some columns, and that none is null. -/
def keyS (row : LV) (cols : List Int) : ByteArray := cols.foldl (keyStep row) ⟨#[]⟩
def keyN (row : LV) (c : Int) : Bool := !decide ((nth row c.toNat).Kind = 0)
def keyJ (row : LV) (cols : List Int) : Bool := cols.all (keyN row)
theorem fold_tk {α β : Type} [Inhabited β] {f : α → β → α} {a : α} {l : List β} {i : Nat} (h : i < l.length) : (l.take (i + 1)).foldl f a = f ((l.take i).foldl f a) (nth l i) := by rw [takeB h, List.foldl_append]; rfl
theorem keyS_snoc {row : LV} {cols : List Int} {i : Nat} (h : i < cols.length) : keyS row (cols.take (i + 1)) = keyS row (cols.take i) ++ (textV (nth row (nth cols i).toNat) ++ nlB) := fold_tk h
theorem keyS_size (row : LV) : ∀ (cols : List Int) (s : ByteArray), (cols.foldl (keyStep row) s).size ≤ s.size + cols.length * 1001
  | [], s => by simp
  | c :: cols, s => by
    have h := keyS_size row cols (keyStep row s c)
    have h2 := textV_size (nth row c.toNat)
    have h3 : nlB.size = 1 := rfl
    have h4 : (keyStep row s c).size = s.size + ((textV (nth row c.toNat)).size + nlB.size) := by unfold keyStep; rw [ByteArray.size_append, ByteArray.size_append]
    simp only [List.foldl_cons, List.length_cons]
    omega
theorem keyS_le (row : LV) (cols : List Int) (n : Nat) (h : cols.length ≤ n) : (keyS row cols).size ≤ n * 1001 := by
  have := keyS_size row cols ⟨#[]⟩
  have h0 : (⟨#[]⟩ : ByteArray).size = 0 := rfl
  unfold keyS; omega
/-- The columns of the second query that the first one has too. -/
def cIx (a b : List GAttr) (n : Nat) : List Nat := (List.range n).filter fun i => decide (0 ≤ columnL a (nth b i).Name)
def lefJ (a b : List GAttr) (n : Nat) : List Int := (cIx a b n).map fun i => columnL a (nth b i).Name
def rigJ (a b : List GAttr) (n : Nat) : List Int := (cIx a b n).map fun i : Nat => (i : Int)
def resJ (a b : List GAttr) (n : Nat) : List Int := ((List.range n).filter fun i => !decide (0 ≤ columnL a (nth b i).Name)).map fun i : Nat => (i : Int)
theorem cIx_len (a b : List GAttr) (n : Nat) : (cIx a b n).length ≤ n := by unfold cIx; have := List.length_filter_le (fun i => decide (0 ≤ columnL a (nth b i).Name)) (List.range n); simpa using this
theorem lefJ_len (a b : List GAttr) (n : Nat) : (lefJ a b n).length ≤ n := by unfold lefJ; rw [List.length_map]; exact cIx_len a b n
theorem rigJ_len (a b : List GAttr) (n : Nat) : (rigJ a b n).length ≤ n := by unfold rigJ; rw [List.length_map]; exact cIx_len a b n
theorem resJ_len (a b : List GAttr) (n : Nat) : (resJ a b n).length ≤ n := by unfold resJ; rw [List.length_map]; have := List.length_filter_le (fun i => !decide (0 ≤ columnL a (nth b i).Name)) (List.range n); simpa using this
section
variable {a b : List GAttr} {n : Nat}
theorem cIx_t (h : 0 ≤ columnL a (nth b n).Name) : cIx a b (n + 1) = cIx a b n ++ [n] := by simp [cIx, List.range_succ, h]
theorem cIx_f (h : ¬ 0 ≤ columnL a (nth b n).Name) : cIx a b (n + 1) = cIx a b n := by simp [cIx, List.range_succ, h]
theorem lefJ_t (h : 0 ≤ columnL a (nth b n).Name) : lefJ a b (n + 1) = lefJ a b n ++ [columnL a (nth b n).Name] := by simp [lefJ, cIx_t h]
theorem lefJ_f (h : ¬ 0 ≤ columnL a (nth b n).Name) : lefJ a b (n + 1) = lefJ a b n := by simp [lefJ, cIx_f h]
theorem rigJ_t (h : 0 ≤ columnL a (nth b n).Name) : rigJ a b (n + 1) = rigJ a b n ++ [(n : Int)] := by simp [rigJ, cIx_t h]
theorem rigJ_f (h : ¬ 0 ≤ columnL a (nth b n).Name) : rigJ a b (n + 1) = rigJ a b n := by simp [rigJ, cIx_f h]
theorem resJ_t (h : 0 ≤ columnL a (nth b n).Name) : resJ a b (n + 1) = resJ a b n := by simp [resJ, List.range_succ, h]
theorem resJ_f (h : ¬ 0 ≤ columnL a (nth b n).Name) : resJ a b (n + 1) = resJ a b n ++ [(n : Int)] := by simp [resJ, List.range_succ, h]
end
theorem columnL_lt (a : List GAttr) (nm : ByteArray) : columnL a nm < a.length := by
  have h := (findI_bd (fun x : GAttr => decide (x.Name = nm)) a 0 (by omega)).2.1
  unfold columnL; omega
theorem lefJ_in {a b : List GAttr} {n : Nat} : ∀ c ∈ lefJ a b n, 0 ≤ c ∧ c < a.length := fun c hc => by
  obtain ⟨i, hi, rfl⟩ := List.mem_map.1 hc
  have h1 := (List.mem_filter.1 hi).2
  simp only [decide_eq_true_eq] at h1
  exact ⟨h1, columnL_lt a _⟩
theorem rigJ_in {a b : List GAttr} {n : Nat} : ∀ c ∈ rigJ a b n, 0 ≤ c ∧ c < n := fun c hc => by
  obtain ⟨i, hi, rfl⟩ := List.mem_map.1 hc
  have h1 := List.mem_range.1 (List.mem_filter.1 hi).1
  omega
def bputR {α : Type} (m : List (ByteArray × List α)) (k : ByteArray) (f : α) : List (ByteArray × List α) := mput m k ((mget m k).getD [] ++ [f])
theorem lists_rval {κ α : Type} [DecidableEq κ] (k : κ) : ∀ q : RowsL κ α, (rval q k).2 = (mget (lists q) k).getD []
  | [] => rfl
  | (a, v, xs) :: q => by
    by_cases h : k = a
    · simp [mget, rval, h]
    · simp only [List.map_cons, mget, rval, if_neg h]; exact lists_rval k q
theorem lists_rput {κ α : Type} [DecidableEq κ] (k : κ) (w : Value) (ys : List α) : ∀ q : RowsL κ α, lists (rput q k w ys) = mput (lists q) k ys
  | [] => rfl
  | (a, v, xs) :: q => by
    by_cases h : k = a
    · simp [mput, rput, h]
    · have := lists_rput k w ys q
      simp only [lists] at this
      simp only [List.map_cons, mput, rput, if_neg h]; rw [this]
/-- The rows of the second query by the values in the common columns. -/
def byStep (right rest : List Int) (m : List (ByteArray × List LV)) (r : LV) : List (ByteArray × List LV) := if keyJ r right = true then bputR m (keyS r right) (pickW r rest) else m
def byM (right rest : List Int) (rows : List LV) : List (ByteArray × List LV) := rows.foldl (byStep right rest) []
def byG (m : List (ByteArray × List LV)) (k : ByteArray) : List LV := (mget m k).getD []
theorem byG_put {m : List (ByteArray × List LV)} {k j : ByteArray} {f : LV} : byG (bputR m k f) j = if j = k then byG m k ++ [f] else byG m j := by
  unfold byG bputR; rw [mget_mput]; split <;> rfl
theorem byM_get (right rest : List Int) (rows : List LV) (k : ByteArray) : byG (byM right rest rows) k = (rows.filter fun r => keyJ r right && decide (keyS r right = k)).map fun r => pickW r rest := by
  have H : ∀ (l : List LV) (m : List (ByteArray × List LV)), byG (l.foldl (byStep right rest) m) k = byG m k ++ (l.filter fun r => keyJ r right && decide (keyS r right = k)).map fun r => pickW r rest := by
    intro l
    induction l with
    | nil => intro m; simp
    | cons r l ih =>
      intro m
      rw [List.foldl_cons, ih, List.filter_cons]
      unfold byStep
      by_cases h1 : keyJ r right = true
      · rw [if_pos h1, byG_put]
        by_cases h2 : keyS r right = k
        · subst h2; simp [h1]
        · rw [if_neg (fun e => h2 e.symm)]; simp [h1, h2]
      · rw [if_neg h1]; simp [h1]
  have := H rows []
  simpa [byM, byG, mget] using this
theorem byG_len (right rest : List Int) (rows : List LV) (k : ByteArray) : (byG (byM right rest rows) k).length ≤ rows.length := by
  rw [byM_get, List.length_map]; exact List.length_filter_le _ _
theorem byG_row {right rest : List Int} {rows : List LV} {k : ByteArray} {x : LV} (h : x ∈ byG (byM right rest rows) k) : x.length ≤ rest.length := by
  rw [byM_get] at h
  obtain ⟨r, _, rfl⟩ := List.mem_map.1 h
  unfold pickW pickV; split <;> simp
/-- A row of the first query with those of the second one that agree; too many are made a set. -/
def outJ (m : List (ByteArray × List LV)) (left : List Int) (out : List LV) (row : LV) (n : Nat) : List LV := out ++ ((byG m (keyS row left)).take n).map fun x => row ++ x
def cutJ (out : List LV) : List LV := if 400000 < out.length then setR out else out
def jnStep (m : List (ByteArray × List LV)) (left : List Int) (out : List LV) (row : LV) : List LV := if keyJ row left = true then cutJ (outJ m left out row (byG m (keyS row left)).length) else out
def joinR (m : List (ByteArray × List LV)) (left : List Int) (rows : List LV) : List LV := rows.foldl (jnStep m left) []
theorem cutJ_len (out : List LV) : (cutJ out).length ≤ out.length := by unfold cutJ; split; exact setR_len _; exact Nat.le_refl _
theorem cutJ_sub {out : List LV} {x : LV} (h : x ∈ cutJ out) : x ∈ out := by unfold cutJ at h; split at h; exact setR_sub h; exact h
theorem joinR_bd {m : List (ByteArray × List LV)} {left : List Int} {A B n : Nat} (hm : ∀ k, (byG m k).length ≤ n ∧ ∀ x ∈ byG m k, x.length ≤ B) : ∀ (rows : List LV) (out : List LV), (∀ r ∈ rows, r.length ≤ A) → (∀ r ∈ out, r.length ≤ A + B) →
    (rows.foldl (jnStep m left) out).length ≤ out.length + rows.length * n ∧ ∀ r ∈ rows.foldl (jnStep m left) out, r.length ≤ A + B
  | [], out, _, ho => ⟨by simp, ho⟩
  | row :: rows, out, hr, ho => by
    have hs : (jnStep m left out row).length ≤ out.length + n ∧ ∀ r ∈ jnStep m left out row, r.length ≤ A + B := by
      unfold jnStep
      split
      · refine ⟨Nat.le_trans (cutJ_len _) ?_, fun r h => ?_⟩
        · have := (hm (keyS row left)).1
          simp [outJ]; omega
        · have h := cutJ_sub h
          simp only [outJ, List.take_length, List.mem_append, List.mem_map] at h
          rcases h with h | ⟨x, hx, rfl⟩
          · exact ho r h
          · have h1 := hr row (by simp)
            have h2 := (hm _).2 x hx
            rw [List.length_append]; omega
      · exact ⟨by omega, ho⟩
    have := joinR_bd (left := left) hm rows (jnStep m left out row) (fun r h => hr r (by simp [h])) hs.2
    refine ⟨?_, this.2⟩
    have h1 := this.1
    have h2 := hs.1
    simp only [List.foldl_cons, List.length_cons]
    rw [Nat.add_mul, Nat.one_mul]; omega
theorem byM_t {RG RS : List Int} {l : List LV} {j : Nat} (h : j < l.length) (hk : keyJ (nth l j) RG = true) : byM RG RS (l.take (j + 1)) = bputR (byM RG RS (l.take j)) (keyS (nth l j) RG) (pickW (nth l j) RS) := by
  unfold byM; rw [fold_tk h]; show byStep RG RS _ _ = _; rw [byStep, if_pos hk]
theorem byM_f {RG RS : List Int} {l : List LV} {j : Nat} (h : j < l.length) (hk : keyJ (nth l j) RG = false) : byM RG RS (l.take (j + 1)) = byM RG RS (l.take j) := by
  unfold byM; rw [fold_tk h]; show byStep RG RS _ _ = _; rw [byStep, if_neg (by rw [hk]; simp)]
theorem outJ_succ {m : List (ByteArray × List LV)} {left : List Int} {out : List LV} {row : LV} {u : Nat} (h : u < (byG m (keyS row left)).length) : outJ m left out row (u + 1) = outJ m left out row u ++ [row ++ nth (byG m (keyS row left)) u] := by
  unfold outJ; rw [takeB h]; simp
theorem joinR_t {m : List (ByteArray × List LV)} {left : List Int} {l : List LV} {k : Nat} (h : k < l.length) (hk : keyJ (nth l k) left = true) : joinR m left (l.take (k + 1)) = cutJ (outJ m left (joinR m left (l.take k)) (nth l k) (byG m (keyS (nth l k) left)).length) := by
  unfold joinR; rw [fold_tk h]; show jnStep m left _ _ = _; rw [jnStep, if_pos hk]
theorem joinR_f {m : List (ByteArray × List LV)} {left : List Int} {l : List LV} {k : Nat} (h : k < l.length) (hk : keyJ (nth l k) left = false) : joinR m left (l.take (k + 1)) = joinR m left (l.take k) := by
  unfold joinR; rw [fold_tk h]; show jnStep m left _ _ = _; rw [jnStep, if_neg (by rw [hk]; simp)]
/-- The rows of a join. -/
def joinT (a b : List GAttr) (l0 l1 : List LV) : List LV := joinR (byM (rigJ a b b.length) (resJ a b b.length) l1) (lefJ a b b.length) l0
theorem outJ_bd {a b : List GAttr} {l0 l1 : List LV} (ha : a.length ≤ 1000) (hb : b.length ≤ 1000) (h0 : l0.length ≤ 4000) (h1 : l1.length ≤ 4000) (hr : ∀ r ∈ l0, r.length = a.length) {k u : Nat} (hk : k < l0.length) :
    (outJ (byM (rigJ a b b.length) (resJ a b b.length) l1) (lefJ a b b.length) (joinR (byM (rigJ a b b.length) (resJ a b b.length) l1) (lefJ a b b.length) (l0.take k)) (nth l0 k) u).length ≤ 100000000 ∧
    ∀ r ∈ outJ (byM (rigJ a b b.length) (resJ a b b.length) l1) (lefJ a b b.length) (joinR (byM (rigJ a b b.length) (resJ a b b.length) l1) (lefJ a b b.length) (l0.take k)) (nth l0 k) u, r.length ≤ 2000 := by
  have hm : ∀ q, (byG (byM (rigJ a b b.length) (resJ a b b.length) l1) q).length ≤ 4000 ∧ ∀ x ∈ byG (byM (rigJ a b b.length) (resJ a b b.length) l1) q, x.length ≤ 1000 := fun q =>
    ⟨Nat.le_trans (byG_len _ _ _ _) h1, fun x hx => by have := byG_row hx; have := resJ_len a b b.length; omega⟩
  have hj := joinR_bd (left := lefJ a b b.length) (A := 1000) (B := 1000) hm (l0.take k) [] (fun r h => by have := hr r (List.mem_of_mem_take h); omega) (fun r h => by cases h)
  have hl : (l0.take k).length ≤ 4000 := by rw [List.length_take]; omega
  have e1 : (l0.take k).length * 4000 ≤ 4000 * 4000 := Nat.mul_le_mul_right _ hl
  have hj1 : (joinR (byM (rigJ a b b.length) (resJ a b b.length) l1) (lefJ a b b.length) (l0.take k)).length ≤ [].length + (l0.take k).length * 4000 := hj.1
  refine ⟨?_, fun r h => ?_⟩
  · have := (hm (keyS (nth l0 k) (lefJ a b b.length))).1
    simp only [outJ, List.length_append, List.length_map, List.length_take] at hj1 ⊢
    simp only [List.length_nil] at hj1
    omega
  · simp only [outJ, List.mem_append, List.mem_map] at h
    rcases h with h | ⟨x, hx, rfl⟩
    · exact hj.2 r h
    · have h1 := hr _ (nth_mem hk)
      have h2 := (hm _).2 x (List.mem_of_mem_take hx)
      rw [List.length_append]; omega
theorem Frz.rowsV {κ α : Type} [DecidableEq κ] {kv : κ → Value} {e : Nat} {R : Rp α} {v : Value} {q : RowsL κ α} {S : List SP} {m : List (κ × List α)} (h : lists q = m) : Frz (mapOwn kv rV v (vals q) :: rowsO e R q :: S) (rV.ty v) (tMapI kv (rSl R) m) :=
  fun h0 m0 u d hs hu => h ▸ Frz.rows h0 m0 u d hs (Sub.ofRV _ _ hu)
set_option maxHeartbeats 1000000 in
theorem keyF_spec (row : LV) (cols : List Int) (hl : cols.length ≤ 1000000) (hc : ∀ c ∈ cols, 0 ≤ c ∧ c < row.length) : Fun1 prog 124 [tSl rValue row, tSl rInt cols] (tTup [tV (.string (if keyJ row cols = true then keyS row cols else ⟨#[]⟩)), tV (.bool (keyJ row cols))]) := by
 refine Spec.enter func124 rfl rfl fun h0 w0 fr0 => ?_
 refine Jr (Ja rfl (Ja rfl (JL_nil (Jr (Ja rfl ?_)))))
 refine JL_nil (J_seq (Jr (Jm rfl (Js rfl (step_len_sl underlying27 Sr) (Jm rfl ?_)))))
 refine JL_nil (J_block ?_)
 refine J_loopL (σ := Nat) (fun i => i ≤ cols.length ∧ keyJ row (cols.take i) = true) (fun i => upd (upd (upd (upd (upd env0 0 (tSl rValue row)) 6 (tV (.string (keyS row (cols.take i))))) 9 (tSl rInt cols)) 10 (tV (.int .i64 cols.length))) 11 (tV (.int .i64 i))) (fun i => []) (fun i => cols.length - i) 0 ⟨by omega, rfl⟩ (zU) (LSub.rfl) ?_
 rintro i ⟨hi, hv⟩
 refine Jr (Js rfl (step_lss Sr Sr) (JL_nil (J_seq ?_)))
 refine J_cond Sr (fun h12 => ?_) (fun h12 => ?_)
 ·
  try simp only [NF] at h12
  have hlt : i < cols.length := by omega
  have hci := hc _ (nth_mem hlt)
  have hks := keyS_le row (cols.take i) 1000000 (by rw [List.length_take]; omega)
  have htx := textV_size (nth row (nth cols i).toNat)
  have hnl : (⟨#[10]⟩ : ByteArray).size = 1 := rfl
  have hts : (textV (nth row (nth cols i).toNat) ++ (⟨#[10]⟩ : ByteArray)).size = (textV (nth row (nth cols i).toNat)).size + 1 := by rw [ByteArray.size_append]; rfl
  refine J_skip (J_seq (J_block (Jr ?_)))
  refine Js rfl (step_indexAddr_sl  underlying27 ty3 Sr Sr rfl (gb (by exact hlt))) ?_
  refine Jl rfl ty3 Sr (Ja rfl (JL_nil (J_seq (Jr (Jm rfl ?_)))))
  refine Jm rfl (Js rfl (step_indexAddr_sl (i := (nth cols i).toNat) underlying45 ty62 Sr Sr zG (gb zG)) (Js rfl (step_fieldAddr so62 Sr rfl) (Jl rfl ty3 Sr (Js rfl (step_eql Sr Sr) (JL_nil ?_)))))
  refine J_cond Sr (fun h20 => ?_) (fun h20 => ?_)
  ·
   try simp only [NF] at h20
   refine Jr (Ja rfl (Ja rfl (JL_nil (J_ret ?_))))
   have hno : keyJ row cols = false := by
    unfold keyJ; rw [List.all_eq_false]; exact ⟨_, nth_mem hlt, by simpa [keyN] using h20⟩
   have e : (if keyJ row cols = true then keyS row cols else ⟨#[]⟩) = ⟨#[]⟩ := if_neg (by rw [hno]; simp)
   rw [e, hno]
   refine K_ret2' (rv := .tmp 4) (rv' := .tmp 5) rfl () (Sel.all _) (.tmp Sr) (.tmp Sr) (Frz.sub Sr) (Frz.sub Sr) Sr
  try simp only [NF] at h20
  refine J_skip (J_region (Jm rfl (Jm rfl (Jm rfl (Js rfl (step_indexAddr_sl (i := (nth cols i).toNat) underlying45 ty62 Sr Sr zG (gb zG)) ?_)))))
  refine Jl rfl ty62 Sr (Js rfl (step_call0 (Text_spec _) ⟨Sr, trivial⟩ call125) ?_)
  refine Js rfl (step_add_str Sr Sr (by first | assumption | omega)) ?_
  refine Js rfl (step_add_str Sr Sr (by first | assumption | omega)) ?_
  refine Ja rfl (JL_nil (J_region (Js rfl (step_add Sr Sr z6) (Jm rfl (JL_nil ?_)))))
  refine K_againL (σ := Nat) (s := i) (i + 1) zO ?_ (.u (.u (.u (SubE.upd (Sub.of_eq (by rw [keyS_snoc hlt]; rfl)) (zU))))) (LSub.rfl)
  refine ⟨by omega, ?_⟩
  unfold keyJ at hv ⊢
  rw [takeB hlt, List.all_append, hv]
  simpa [keyN] using h20
 try simp only [NF] at h12
 obtain rfl : i = cols.length := by omega
 refine J_exit (Jr (Jm rfl (Ja rfl (Ja rfl (JL_nil ?_)))))
 refine J_ret ?_
 rw [List.take_length] at hv
 have e : (if keyJ row cols = true then keyS row cols else ⟨#[]⟩) = keyS row (cols.take cols.length) := by rw [if_pos hv, List.take_length]
 rw [e, hv]
 refine K_ret2' (rv := .tmp 4) (rv' := .tmp 5) rfl () (Sel.all _) (.tmp Sr) (.tmp Sr) (Frz.sub Sr) (Frz.sub Sr) Sr
set_option maxHeartbeats 4000000 in
theorem evJoin_spec (e : Gev) (n : Nat) (p : GPlan) (l : List (List LV)) (hk : p.Kids.length = 2) (ha : (nth p.Kids 0).Attrs.length ≤ 1000) (hb : (nth p.Kids 1).Attrs.length ≤ 1000) (h1 : 1 < l.length) (hl0 : (nth l 0).length ≤ 4000) (hl1 : (nth l 1).length ≤ 4000) (hr0 : ∀ r ∈ (nth l 0), r.length = (nth p.Kids 0).Attrs.length) (hr1 : ∀ r ∈ (nth l 1), r.length = (nth p.Kids 1).Attrs.length) : Fun1 prog 73 [tPtr rev e, (rPlan (n + 2)).ty p, tSl (rSl (rSl rValue)) l] (tSl (rSl rValue) (joinT (nth p.Kids 0).Attrs (nth p.Kids 1).Attrs (nth l 0) (nth l 1))) := by
 refine Spec.enter func73 rfl rfl fun h0 w0 fr0 => ?_
 refine Jr (Js rfl (step_box (R := (rPlan (n + 2))) Sr) (Ja rfl (JL_nil (Jr (Ja rfl ?_)))))
 refine Ja rfl (Ja rfl (JL_nil (J_seq (Jr (Js rfl (step_fieldAddr so30 Sr rfl) ?_)))))
 refine Jl rfl ty25 Sr ?_
 refine Js rfl (step_indexAddr_sl (i := 1) underlying25 ty30 Sr Sr (by rfl) (gb (by show 1 < p.Kids.length; omega))) ?_
 refine Js rfl (step_fieldAddr so30 Sr rfl) (Jl rfl ty28 Sr (Js rfl (step_len_sl underlying28 Sr) (Jm rfl (JL_nil (J_block ?_)))))
 refine J_loopL (σ := Nat × Value × Value × Value) (fun ⟨i, va, vb, vc⟩ => i ≤ (nth p.Kids 1).Attrs.length) (fun ⟨i, va, vb, vc⟩ => upd (upd (upd (upd (upd (upd (upd (upd (upd env0 2 (tSl (rSl (rSl rValue)) l)) 4 (tPtr (rPlan (n + 2)) p)) 6 (tV (.slice none 0 0))) 7 (rV.ty va)) 8 (rV.ty vb)) 9 (rV.ty vc)) 32 (tSl rAttr (nth p.Kids 1).Attrs)) 33 (tV (.int .i64 (nth p.Kids 1).Attrs.length))) 34 (tV (.int .i64 i))) (fun ⟨i, va, vb, vc⟩ => [own 3 rInt va (lefJ (nth p.Kids 0).Attrs (nth p.Kids 1).Attrs i), own 3 rInt vb (rigJ (nth p.Kids 0).Attrs (nth p.Kids 1).Attrs i), own 3 rInt vc (resJ (nth p.Kids 0).Attrs (nth p.Kids 1).Attrs i)]) (fun ⟨i, va, vb, vc⟩ => (nth p.Kids 1).Attrs.length - i) (0, .slice none 0 0, .slice none 0 0, .slice none 0 0) (by exact Nat.zero_le _) (.u (.u (.u (SubE.upd (Sub.rV rfl) (SubE.upd (Sub.rV rfl) (SubE.upd (Sub.rV rfl) (zU))))))) (LSub.trans LSub.nilown (LSub.trans LSub.nilown LSub.nilown)) ?_
 rintro ⟨i, va, vb, vc⟩ hi
 try dsimp only at hi
 refine Jr (Js rfl (step_lss Sr Sr) (JL_nil (J_seq ?_)))
 refine J_cond Sr (fun h35 => ?_) (fun h35 => ?_)
 ·
  try simp only [NF] at h35
  have hlt : i < (nth p.Kids 1).Attrs.length := by omega
  have hb1 := lefJ_len (nth p.Kids 0).Attrs (nth p.Kids 1).Attrs i
  have hb2 := rigJ_len (nth p.Kids 0).Attrs (nth p.Kids 1).Attrs i
  have hb3 := resJ_len (nth p.Kids 0).Attrs (nth p.Kids 1).Attrs i
  refine J_skip (J_seq (J_block (Jr (Jm rfl ?_))))
  refine Js rfl (step_indexAddr_sl (i := i) underlying28 ty64 Sr Sr (by rfl) (gb (by exact hlt))) ?_
  refine Jl rfl ty64 Sr ?_
  refine Jx rfl (step_alloc (fun w => zeroValue64 w) zr64) fun v11 => ?_
  refine Ja rfl ?_
  refine Ju (step_store_box ty64 Sr Sr zS) fun _ => ?_
  refine JL_freeze (t := 11) (Sel.take (Sel.none _)) Frz.box ?_
  refine JL_nil (J_seq ?_)
  refine J_draw [⟨0, [4], true⟩, ⟨1, [39], true⟩, ⟨2, [40], true⟩, ⟨3, [41], true⟩, ⟨4, [42], true⟩, ⟨5, [11], true⟩, ⟨6, [44], true⟩, ⟨7, [43, 45], true⟩, ⟨8, [46], true⟩] rfl (by kernel_rfl) ?_
  refine Mf rfl rfl (step_fieldAddr so30 Sr rfl) (Mf rfl rfl (step_load_ptr ty25 Sr) ?_)
  refine Mf rfl rfl (step_indexAddr_sl (i := 0) underlying25 ty30 Sr Sr (by rfl) (gb (by show 0 < p.Kids.length; omega))) ?_
  refine Mf rfl rfl (step_fieldAddr so30 Sr rfl) (Mf rfl rfl (step_load_ptr ty28 Sr) (Mf rfl rfl (step_fieldAddr so64 Sr rfl) (Mf rfl rfl (step_load_ptr ty9 Sr) ?_)))
  refine Mf rfl rfl (step_call0 (acolumn_spec _ _ (by show (nth p.Kids 0).Attrs.length ≤ _; omega)) ⟨Sr, Sr, trivial⟩ call102) ?_
  refine Mf rfl rfl (step_assign Sr) (JM_nil (Jr (Jm rfl (Js rfl (step_geq Sr Sr) (JL_nil ?_)))))
  refine J_cond Sr (fun h48 => ?_) (fun h48 => ?_)
  ·
   try simp only [NF] at h48
   refine J_region (Jm rfl (Jm rfl ?_))
   refine Js rfl (step_literal (ys := [_]) underlying27 el3 ⟨rfl, Sr, trivial⟩ rfl (by decide)) ?_
   refine Jx rfl (step_append underlying27 el3 Sr Sr zS (by simp; omega) (by simp; omega)) fun v52 => ?_
   refine Jm rfl (Jm rfl ?_)
   refine Js rfl (step_literal (ys := [_]) underlying27 el3 ⟨rfl, Sr, trivial⟩ rfl (by decide)) ?_
   refine Jx rfl (step_append underlying27 el3 Sr Sr zS (by simp; omega) (by simp; omega)) fun v56 => ?_
   refine Ja rfl (Ja rfl (JL_nil (J_region (Js rfl (step_add Sr Sr z6) (Jm rfl ?_)))))
   refine JL_nil ?_
   refine K_againL (σ := Nat × Value × Value × Value) (s := (i, va, vb, vc)) (i + 1, v52, v56, vc) zO (by show i + 1 ≤ _; omega) (zU) (.c zS (SPs.of (A := own 3 rInt v52 ((lefJ (nth p.Kids 0).Attrs (nth p.Kids 1).Attrs i) ++ [(columnL (nth p.Kids 0).Attrs (nth (nth p.Kids 1).Attrs i).Name)])) (by rw [lefJ_t h48])) (.c zS (SPs.of (A := own 3 rInt v56 ((rigJ (nth p.Kids 0).Attrs (nth p.Kids 1).Attrs i) ++ [(i : Int)])) (by rw [rigJ_t h48])) (.c zS (SPs.of (A := own 3 rInt vc (resJ (nth p.Kids 0).Attrs (nth p.Kids 1).Attrs i)) (by rw [resJ_t h48])) (LSub.nil))))
  try simp only [NF] at h48
  refine J_region (Jm rfl (Jm rfl ?_))
  refine Js rfl (step_literal (ys := [_]) underlying27 el3 ⟨rfl, Sr, trivial⟩ rfl (by decide)) ?_
  refine Jx rfl (step_append underlying27 el3 Sr Sr zS (by simp; omega) (by simp; omega)) fun v60 => ?_
  refine Ja rfl (JL_nil (J_region (Js rfl (step_add Sr Sr z6) (Jm rfl (JL_nil ?_)))))
  refine K_againL (σ := Nat × Value × Value × Value) (s := (i, va, vb, vc)) (i + 1, va, vb, v60) zO (by show i + 1 ≤ _; omega) (zU) (.c zS (SPs.of (A := own 3 rInt va (lefJ (nth p.Kids 0).Attrs (nth p.Kids 1).Attrs i)) (by rw [lefJ_f zG])) (.c zS (SPs.of (A := own 3 rInt vb (rigJ (nth p.Kids 0).Attrs (nth p.Kids 1).Attrs i)) (by rw [rigJ_f zG])) (.c zS (SPs.of (A := own 3 rInt v60 ((resJ (nth p.Kids 0).Attrs (nth p.Kids 1).Attrs i) ++ [(i : Int)])) (by rw [resJ_f zG])) (LSub.nil))))
 try simp only [NF] at h35
 obtain rfl : i = (nth p.Kids 1).Attrs.length := by omega
 refine J_exit (Jr (Ja rfl (JL_nil ?_)))
 refine K_freeze (t := 7) (A' := tSl rInt (lefJ (nth p.Kids 0).Attrs (nth p.Kids 1).Attrs (nth p.Kids 1).Attrs.length)) (Sel.take (Sel.none _)) Frz.own ?_
 refine K_freeze (t := 8) (A' := tSl rInt (rigJ (nth p.Kids 0).Attrs (nth p.Kids 1).Attrs (nth p.Kids 1).Attrs.length)) (Sel.take (Sel.none _)) Frz.own ?_
 refine K_freeze (t := 9) (A' := tSl rInt (resJ (nth p.Kids 0).Attrs (nth p.Kids 1).Attrs (nth p.Kids 1).Attrs.length)) (Sel.take (Sel.none _)) Frz.own ?_
 refine Jr ?_
 refine Jx rfl (step_makeMapV (kv := kvS) (R := rV)) fun v62 => ?_
 refine Ja rfl (JL_nil (J_seq (Jr (Jm rfl ?_))))
 refine Js rfl (step_indexAddr_sl (i := 1) underlying35 ty38 Sr Sr (by rfl) (gb (by exact h1))) ?_
 refine Jl rfl ty38 Sr (Js rfl (step_len_sl underlying38 Sr) (Jm rfl (JL_nil (J_block ?_))))
 refine J_loopL (σ := Nat × RowsL ByteArray LV) (fun ⟨j, qq⟩ => j ≤ (nth l 1).length ∧ lists qq = byM (rigJ (nth p.Kids 0).Attrs (nth p.Kids 1).Attrs (nth p.Kids 1).Attrs.length) (resJ (nth p.Kids 0).Attrs (nth p.Kids 1).Attrs (nth p.Kids 1).Attrs.length) ((nth l 1).take j)) (fun ⟨j, qq⟩ => upd (upd (upd (upd (upd (upd (upd (upd (upd (upd env0 2 (tSl (rSl (rSl rValue)) l)) 6 (tV (.slice none 0 0))) 7 (tSl rInt (lefJ (nth p.Kids 0).Attrs (nth p.Kids 1).Attrs (nth p.Kids 1).Attrs.length))) 8 (tSl rInt (rigJ (nth p.Kids 0).Attrs (nth p.Kids 1).Attrs (nth p.Kids 1).Attrs.length))) 9 (tSl rInt (resJ (nth p.Kids 0).Attrs (nth p.Kids 1).Attrs (nth p.Kids 1).Attrs.length))) 13 (tV (.func (.func 124) #[] #[]))) 14 (rV.ty v62)) 65 (tSl (rSl rValue) (nth l 1))) 66 (tV (.int .i64 (nth l 1).length))) 67 (tV (.int .i64 j))) (fun ⟨j, qq⟩ => [mapOwn kvS rV v62 (vals qq), rowsO 45 (rSl rValue) qq]) (fun ⟨j, qq⟩ => (nth l 1).length - j) (0, []) ⟨by omega, rfl⟩ (zU) (LSub.trans (zL) (LSub.trans rows_nil LSub.swap)) ?_
 rintro ⟨j, qq⟩ ⟨hj, hqq⟩
 refine Jr (Js rfl (step_lss Sr Sr) (JL_nil (J_seq ?_)))
 refine J_cond Sr (fun h68 => ?_) (fun h68 => ?_)
 ·
  try simp only [NF] at h68
  have hlj : j < (nth l 1).length := by omega
  have hrw1 := hr1 _ (nth_mem hlj)
  have hrl1 := rigJ_len (nth p.Kids 0).Attrs (nth p.Kids 1).Attrs (nth p.Kids 1).Attrs.length
  have hrl2 := resJ_len (nth p.Kids 0).Attrs (nth p.Kids 1).Attrs (nth p.Kids 1).Attrs.length
  refine J_skip (J_seq (J_block (Jr ?_)))
  refine Js rfl (step_indexAddr_sl (i := j) underlying38 ty45 Sr Sr (by rfl) (gb (by exact hlj))) ?_
  refine Jl rfl ty45 Sr (Ja rfl (JL_nil (Jr (Jm rfl (Jm rfl ?_)))))
  refine Jm rfl ?_
  refine Js rfl (step_callv0 (aT := [_, _]) Sub.clo0 (keyF_spec (nth (nth l 1) j) (rigJ (nth p.Kids 0).Attrs (nth p.Kids 1).Attrs (nth p.Kids 1).Attrs.length) zG (fun c hc => by have := rigJ_in c hc; omega)) ⟨Sr, Sr, trivial⟩ call124) ?_
  refine Jm rfl (Js rfl (step_extract Sr rfl) (Js rfl (step_extract Sr rfl) (Ja rfl (Ja rfl (JL_nil ?_)))))
  refine Jr (Jm rfl (JL_nil ?_))
  refine J_cond Sr (fun h78 => ?_) (fun h78 => ?_)
  ·
   try simp only [NF] at h78
   rw [if_pos h78]
   have hbl : (rval qq (keyS (nth (nth l 1) j) (rigJ (nth p.Kids 0).Attrs (nth p.Kids 1).Attrs (nth p.Kids 1).Attrs.length))).2.length ≤ 4000 := by rw [lists_rval, hqq]; exact Nat.le_trans (byG_len _ _ _ _) (by rw [List.length_take]; omega)
   refine Jr (Jm rfl (Jm rfl ?_))
   refine Jx rfl (step_call (Sel.none _) (pickV_spec (nth (nth l 1) j) (resJ (nth p.Kids 0).Attrs (nth p.Kids 1).Attrs (nth p.Kids 1).Attrs.length) zG) ⟨Sr, Sr, trivial⟩ call123) fun v82 => ?_
   refine Jm rfl (Js rfl (step_extract Sr rfl) (Js rfl (step_extract Sr rfl) (Ja rfl (Ja rfl (JL_nil ?_)))))
   refine J_region ?_
   refine JL_freeze (t := 19) (A' := tSl rValue (pickW (nth (nth l 1) j) (resJ (nth p.Kids 0).Attrs (nth p.Kids 1).Attrs (nth p.Kids 1).Attrs.length))) (Sel.take (Sel.none _)) Frz.own ?_
   refine Jm rfl (Jm rfl (Jm rfl (Jm rfl ?_)))
   refine Js rfl (step_lookupR (kv := kvS) (q := qq) (k := (keyS (nth (nth l 1) j) (rigJ (nth p.Kids 0).Attrs (nth p.Kids 1).Attrs (nth p.Kids 1).Attrs.length))) (KeyT.str underlying9) underlying172 (fun w => zeroValue38 w) Sub.ofRV Sr zS) ?_
   refine Jm rfl ?_
   refine Js rfl (step_literal (ys := [_]) underlying38 el45 ⟨rfl, Sr, trivial⟩ rfl (by decide)) ?_
   refine JL_lsub (LSub.trans (B := [rowsO 45 (rSl rValue) qq, mapOwn kvS rV v62 (vals qq)]) (zL) (rows_split (keyS (nth (nth l 1) j) (rigJ (nth p.Kids 0).Attrs (nth p.Kids 1).Attrs (nth p.Kids 1).Attrs.length)))) ?_
   refine Jx rfl (step_append underlying38 el45 Sr Sr zS (by simp; omega) (by simp; omega)) fun v92 => ?_
   refine Ju (step_mapUpdate (kv := kvS) (R := rV) (KeyT.str underlying9) underlying172 Sub.ofRV Sr Sr zS) fun _ => ?_
   refine JL_nil (J_region (Js rfl (step_add Sr Sr z6) (Jm rfl (JL_nil ?_))))
   refine K_againL (σ := Nat × RowsL ByteArray LV) (s := (j, qq)) (j + 1, rput qq (keyS (nth (nth l 1) j) (rigJ (nth p.Kids 0).Attrs (nth p.Kids 1).Attrs (nth p.Kids 1).Attrs.length)) v92 ((rval qq (keyS (nth (nth l 1) j) (rigJ (nth p.Kids 0).Attrs (nth p.Kids 1).Attrs (nth p.Kids 1).Attrs.length))).2 ++ [pickW (nth (nth l 1) j) (resJ (nth p.Kids 0).Attrs (nth p.Kids 1).Attrs (nth p.Kids 1).Attrs.length)])) zO ⟨hlj, by show lists (rput _ _ _ _) = _; rw [lists_rput, byM_t hlj h78, lists_rval, hqq]; rfl⟩ (zU) (LSub.trans (B := [own 45 (rSl rValue) v92 ((rval qq (keyS (nth (nth l 1) j) (rigJ (nth p.Kids 0).Attrs (nth p.Kids 1).Attrs (nth p.Kids 1).Attrs.length))).2 ++ [pickW (nth (nth l 1) j) (resJ (nth p.Kids 0).Attrs (nth p.Kids 1).Attrs (nth p.Kids 1).Attrs.length)]), rowsO 45 (rSl rValue) (rmv qq (keyS (nth (nth l 1) j) (rigJ (nth p.Kids 0).Attrs (nth p.Kids 1).Attrs (nth p.Kids 1).Attrs.length))), mapOwn kvS rV v62 (mput (vals qq) (keyS (nth (nth l 1) j) (rigJ (nth p.Kids 0).Attrs (nth p.Kids 1).Attrs (nth p.Kids 1).Attrs.length)) v92)]) (zL) (LSub.trans (rows_join (keyS (nth (nth l 1) j) (rigJ (nth p.Kids 0).Attrs (nth p.Kids 1).Attrs (nth p.Kids 1).Attrs.length)) v92 _) (LSub.trans LSub.swap (.c zS (SPs.of (by rw [vals_put])) (zL)))))
  try simp only [NF] at h78
  refine J_skip (J_region (Js rfl (step_add Sr Sr z6) (Jm rfl (JL_nil ?_))))
  refine K_againL (σ := Nat × RowsL ByteArray LV) (s := (j, qq)) (j + 1, qq) zO ⟨hlj, by show lists qq = _; rw [byM_f hlj (by simpa using h78)]; exact hqq⟩ (zU) (zL)
 try simp only [NF] at h68
 obtain rfl : j = (nth l 1).length := by omega
 refine J_exit (Jr (Ja rfl (JL_nil ?_)))
 refine K_freeze (t := 14) (A' := tMapI kvS (rSl (rSl rValue)) (byM (rigJ (nth p.Kids 0).Attrs (nth p.Kids 1).Attrs (nth p.Kids 1).Attrs.length) (resJ (nth p.Kids 0).Attrs (nth p.Kids 1).Attrs (nth p.Kids 1).Attrs.length) (nth l 1))) (Sel.take (Sel.take (Sel.none _))) (Frz.rowsV (by rw [hqq, List.take_length])) ?_
 refine J_seq (Jr (Jm rfl ?_))
 refine Js rfl (step_indexAddr_sl (i := 0) underlying35 ty38 Sr Sr (by rfl) (gb zG)) ?_
 refine Jl rfl ty38 Sr (Js rfl (step_len_sl underlying38 Sr) (Jm rfl (JL_nil (J_block ?_))))
 refine J_loopL (σ := Nat × Value) (fun ⟨k, vo⟩ => k ≤ (nth l 0).length) (fun ⟨k, vo⟩ => upd (upd (upd (upd (upd (upd (upd (upd env0 6 (tV (.slice none 0 0))) 7 (tSl rInt (lefJ (nth p.Kids 0).Attrs (nth p.Kids 1).Attrs (nth p.Kids 1).Attrs.length))) 13 (tV (.func (.func 124) #[] #[]))) 14 (tMapI kvS (rSl (rSl rValue)) (byM (rigJ (nth p.Kids 0).Attrs (nth p.Kids 1).Attrs (nth p.Kids 1).Attrs.length) (resJ (nth p.Kids 0).Attrs (nth p.Kids 1).Attrs (nth p.Kids 1).Attrs.length) (nth l 1)))) 21 (rV.ty vo)) 96 (tSl (rSl rValue) (nth l 0))) 97 (tV (.int .i64 (nth l 0).length))) 98 (tV (.int .i64 k))) (fun ⟨k, vo⟩ => [own 45 (rSl rValue) vo (joinR (byM (rigJ (nth p.Kids 0).Attrs (nth p.Kids 1).Attrs (nth p.Kids 1).Attrs.length) (resJ (nth p.Kids 0).Attrs (nth p.Kids 1).Attrs (nth p.Kids 1).Attrs.length) (nth l 1)) (lefJ (nth p.Kids 0).Attrs (nth p.Kids 1).Attrs (nth p.Kids 1).Attrs.length) ((nth l 0).take k))]) (fun ⟨k, vo⟩ => (nth l 0).length - k) (0, .slice none 0 0) (by exact Nat.zero_le _) (.u (.u (.u (SubE.upd (Sub.rV rfl) (zU))))) (LSub.nilown) ?_
 rintro ⟨k, vo⟩ hkk
 try dsimp only at hkk
 refine Jr (Js rfl (step_lss Sr Sr) (JL_nil (J_seq ?_)))
 refine J_cond Sr (fun h99 => ?_) (fun h99 => ?_)
 ·
  try simp only [NF] at h99
  have hlk : k < (nth l 0).length := by omega
  have hrw0 := hr0 _ (nth_mem hlk)
  have hrl0 := lefJ_len (nth p.Kids 0).Attrs (nth p.Kids 1).Attrs (nth p.Kids 1).Attrs.length
  refine J_skip (J_seq (J_block (Jr ?_)))
  refine Js rfl (step_indexAddr_sl (i := k) underlying38 ty45 Sr Sr (by rfl) (gb (by exact hlk))) ?_
  refine Jl rfl ty45 Sr (Ja rfl (JL_nil (Jr (Jm rfl (Jm rfl ?_)))))
  refine Jm rfl ?_
  refine Js rfl (step_callv0 (aT := [_, _]) Sub.clo0 (keyF_spec (nth (nth l 0) k) (lefJ (nth p.Kids 0).Attrs (nth p.Kids 1).Attrs (nth p.Kids 1).Attrs.length) zG (fun c hc => by have := lefJ_in c hc; omega)) ⟨Sr, Sr, trivial⟩ call124) ?_
  refine Jm rfl (Js rfl (step_extract Sr rfl) (Js rfl (step_extract Sr rfl) (Ja rfl (Ja rfl (JL_nil ?_)))))
  refine J_seq (Jr (Jm rfl (Js rfl (step_not Sr) (JL_nil ?_))))
  refine J_cond Sr (fun h110 => ?_) (fun h110 => ?_)
  ·
   try simp only [NF] at h110
   refine J_exit (J_region (Js rfl (step_add Sr Sr z6) (Jm rfl (JL_nil ?_))))
   refine K_againL (σ := Nat × Value) (s := (k, vo)) (k + 1, vo) zO (by show k + 1 ≤ _; omega) (zU) (.c zS (SPs.of (A := own 45 (rSl rValue) vo (joinR (byM (rigJ (nth p.Kids 0).Attrs (nth p.Kids 1).Attrs (nth p.Kids 1).Attrs.length) (resJ (nth p.Kids 0).Attrs (nth p.Kids 1).Attrs (nth p.Kids 1).Attrs.length) (nth l 1)) (lefJ (nth p.Kids 0).Attrs (nth p.Kids 1).Attrs (nth p.Kids 1).Attrs.length) ((nth l 0).take k))) (by rw [joinR_f hlk (by simpa using h110)])) (LSub.nil))
  try simp only [NF] at h110
  rw [if_pos h110]
  have hgl := byG_len (rigJ (nth p.Kids 0).Attrs (nth p.Kids 1).Attrs (nth p.Kids 1).Attrs.length) (resJ (nth p.Kids 0).Attrs (nth p.Kids 1).Attrs (nth p.Kids 1).Attrs.length) (nth l 1) (keyS (nth (nth l 0) k) (lefJ (nth p.Kids 0).Attrs (nth p.Kids 1).Attrs (nth p.Kids 1).Attrs.length))
  refine J_skip (J_seq (Jr (Jm rfl (Jm rfl (Js rfl (step_lookupI (kv := kvS) (R := rSl (rSl rValue)) (z := []) (KeyT.str underlying9) underlying172 (fun w => zeroValue38 w) zr38 Sr Sr) ?_)))))
  refine Js rfl (step_len_sl underlying38 Sr) (Jm rfl (JL_nil (J_block ?_)))
  refine J_loopL (σ := Nat × Value) (fun ⟨u, vp⟩ => u ≤ (byG (byM (rigJ (nth p.Kids 0).Attrs (nth p.Kids 1).Attrs (nth p.Kids 1).Attrs.length) (resJ (nth p.Kids 0).Attrs (nth p.Kids 1).Attrs (nth p.Kids 1).Attrs.length) (nth l 1)) (keyS (nth (nth l 0) k) (lefJ (nth p.Kids 0).Attrs (nth p.Kids 1).Attrs (nth p.Kids 1).Attrs.length))).length) (fun ⟨u, vp⟩ => upd (upd (upd (upd (upd (upd (upd (upd (upd (upd (upd (upd env0 6 (tV (.slice none 0 0))) 7 (tSl rInt (lefJ (nth p.Kids 0).Attrs (nth p.Kids 1).Attrs (nth p.Kids 1).Attrs.length))) 13 (tV (.func (.func 124) #[] #[]))) 14 (tMapI kvS (rSl (rSl rValue)) (byM (rigJ (nth p.Kids 0).Attrs (nth p.Kids 1).Attrs (nth p.Kids 1).Attrs.length) (resJ (nth p.Kids 0).Attrs (nth p.Kids 1).Attrs (nth p.Kids 1).Attrs.length) (nth l 1)))) 21 (rV.ty vp)) 23 (tSl rValue (nth (nth l 0) k))) 96 (tSl (rSl rValue) (nth l 0))) 97 (tV (.int .i64 (nth l 0).length))) 98 (tV (.int .i64 k))) 113 (tSl (rSl rValue) (byG (byM (rigJ (nth p.Kids 0).Attrs (nth p.Kids 1).Attrs (nth p.Kids 1).Attrs.length) (resJ (nth p.Kids 0).Attrs (nth p.Kids 1).Attrs (nth p.Kids 1).Attrs.length) (nth l 1)) (keyS (nth (nth l 0) k) (lefJ (nth p.Kids 0).Attrs (nth p.Kids 1).Attrs (nth p.Kids 1).Attrs.length))))) 114 (tV (.int .i64 (byG (byM (rigJ (nth p.Kids 0).Attrs (nth p.Kids 1).Attrs (nth p.Kids 1).Attrs.length) (resJ (nth p.Kids 0).Attrs (nth p.Kids 1).Attrs (nth p.Kids 1).Attrs.length) (nth l 1)) (keyS (nth (nth l 0) k) (lefJ (nth p.Kids 0).Attrs (nth p.Kids 1).Attrs (nth p.Kids 1).Attrs.length))).length))) 115 (tV (.int .i64 u))) (fun ⟨u, vp⟩ => [own 45 (rSl rValue) vp (outJ (byM (rigJ (nth p.Kids 0).Attrs (nth p.Kids 1).Attrs (nth p.Kids 1).Attrs.length) (resJ (nth p.Kids 0).Attrs (nth p.Kids 1).Attrs (nth p.Kids 1).Attrs.length) (nth l 1)) (lefJ (nth p.Kids 0).Attrs (nth p.Kids 1).Attrs (nth p.Kids 1).Attrs.length) (joinR (byM (rigJ (nth p.Kids 0).Attrs (nth p.Kids 1).Attrs (nth p.Kids 1).Attrs.length) (resJ (nth p.Kids 0).Attrs (nth p.Kids 1).Attrs (nth p.Kids 1).Attrs.length) (nth l 1)) (lefJ (nth p.Kids 0).Attrs (nth p.Kids 1).Attrs (nth p.Kids 1).Attrs.length) ((nth l 0).take k)) (nth (nth l 0) k) u)]) (fun ⟨u, vp⟩ => (byG (byM (rigJ (nth p.Kids 0).Attrs (nth p.Kids 1).Attrs (nth p.Kids 1).Attrs.length) (resJ (nth p.Kids 0).Attrs (nth p.Kids 1).Attrs (nth p.Kids 1).Attrs.length) (nth l 1)) (keyS (nth (nth l 0) k) (lefJ (nth p.Kids 0).Attrs (nth p.Kids 1).Attrs (nth p.Kids 1).Attrs.length))).length - u) (0, vo) (by exact Nat.zero_le _) (zU) (.c zS (SPs.of (A := own 45 (rSl rValue) vo (joinR (byM (rigJ (nth p.Kids 0).Attrs (nth p.Kids 1).Attrs (nth p.Kids 1).Attrs.length) (resJ (nth p.Kids 0).Attrs (nth p.Kids 1).Attrs (nth p.Kids 1).Attrs.length) (nth l 1)) (lefJ (nth p.Kids 0).Attrs (nth p.Kids 1).Attrs (nth p.Kids 1).Attrs.length) ((nth l 0).take k))) (by simp [outJ])) (LSub.nil)) ?_
  rintro ⟨u, vp⟩ hu
  try dsimp only at hu
  refine Jr (Js rfl (step_lss Sr Sr) (JL_nil (J_seq ?_)))
  refine J_cond Sr (fun h116 => ?_) (fun h116 => ?_)
  ·
   try simp only [NF] at h116
   have hlu : u < (byG (byM (rigJ (nth p.Kids 0).Attrs (nth p.Kids 1).Attrs (nth p.Kids 1).Attrs.length) (resJ (nth p.Kids 0).Attrs (nth p.Kids 1).Attrs (nth p.Kids 1).Attrs.length) (nth l 1)) (keyS (nth (nth l 0) k) (lefJ (nth p.Kids 0).Attrs (nth p.Kids 1).Attrs (nth p.Kids 1).Attrs.length))).length := by omega
   have hob := outJ_bd (u := u) ha hb hl0 hl1 hr0 hlk
   have hbr := byG_row (nth_mem hlu)
   have hrl2 := resJ_len (nth p.Kids 0).Attrs (nth p.Kids 1).Attrs (nth p.Kids 1).Attrs.length
   refine J_skip (J_seq (J_block (Jr ?_)))
   refine Js rfl (step_indexAddr_sl (i := u) underlying38 ty45 Sr Sr (by rfl) (gb (by exact hlu))) ?_
   refine Jl rfl ty45 Sr (Ja rfl (JL_nil (J_region (Jm rfl (Jm rfl ?_)))))
   refine Jm rfl ?_
   refine Js rfl (step_literal (ys := [_, _]) underlying38 el45 ⟨rfl, Sr, rfl, Sr, trivial⟩ rfl (by decide)) ?_
   refine Jx rfl (step_call (Sel.none _) (ConcatV_spec [(nth (nth l 0) k), nth (byG (byM (rigJ (nth p.Kids 0).Attrs (nth p.Kids 1).Attrs (nth p.Kids 1).Attrs.length) (resJ (nth p.Kids 0).Attrs (nth p.Kids 1).Attrs (nth p.Kids 1).Attrs.length) (nth l 1)) (keyS (nth (nth l 0) k) (lefJ (nth p.Kids 0).Attrs (nth p.Kids 1).Attrs (nth p.Kids 1).Attrs.length))) u] (by simp) (by simp; omega)) ⟨Sr, trivial⟩ call126) fun v123 => ?_
   refine JL_freeze (t := 123) (A' := tSl rValue ((nth (nth l 0) k) ++ nth (byG (byM (rigJ (nth p.Kids 0).Attrs (nth p.Kids 1).Attrs (nth p.Kids 1).Attrs.length) (resJ (nth p.Kids 0).Attrs (nth p.Kids 1).Attrs (nth p.Kids 1).Attrs.length) (nth l 1)) (keyS (nth (nth l 0) k) (lefJ (nth p.Kids 0).Attrs (nth p.Kids 1).Attrs (nth p.Kids 1).Attrs.length))) u)) (Sel.take (Sel.none _)) (Frz.own' (by simp)) ?_
   refine Js rfl (step_literal (ys := [_]) underlying38 el45 ⟨rfl, Sr, trivial⟩ rfl (by decide)) ?_
   refine Jx rfl (step_append underlying38 el45 Sr Sr zS (by simp; omega) (by simp; omega)) fun v125 => ?_
   refine Ja rfl (JL_nil (J_region (Js rfl (step_add Sr Sr z6) (Jm rfl (JL_nil ?_)))))
   refine K_againL (σ := Nat × Value) (s := (u, vp)) (u + 1, v125) zO (by show u + 1 ≤ _; omega) (zU) (.c zS (SPs.of (A := own 45 (rSl rValue) v125 ((outJ (byM (rigJ (nth p.Kids 0).Attrs (nth p.Kids 1).Attrs (nth p.Kids 1).Attrs.length) (resJ (nth p.Kids 0).Attrs (nth p.Kids 1).Attrs (nth p.Kids 1).Attrs.length) (nth l 1)) (lefJ (nth p.Kids 0).Attrs (nth p.Kids 1).Attrs (nth p.Kids 1).Attrs.length) (joinR (byM (rigJ (nth p.Kids 0).Attrs (nth p.Kids 1).Attrs (nth p.Kids 1).Attrs.length) (resJ (nth p.Kids 0).Attrs (nth p.Kids 1).Attrs (nth p.Kids 1).Attrs.length) (nth l 1)) (lefJ (nth p.Kids 0).Attrs (nth p.Kids 1).Attrs (nth p.Kids 1).Attrs.length) ((nth l 0).take k)) (nth (nth l 0) k) u) ++ [(nth (nth l 0) k) ++ nth (byG (byM (rigJ (nth p.Kids 0).Attrs (nth p.Kids 1).Attrs (nth p.Kids 1).Attrs.length) (resJ (nth p.Kids 0).Attrs (nth p.Kids 1).Attrs (nth p.Kids 1).Attrs.length) (nth l 1)) (keyS (nth (nth l 0) k) (lefJ (nth p.Kids 0).Attrs (nth p.Kids 1).Attrs (nth p.Kids 1).Attrs.length))) u])) (by rw [outJ_succ hlu])) (LSub.nil))
  try simp only [NF] at h116
  obtain rfl : u = (byG (byM (rigJ (nth p.Kids 0).Attrs (nth p.Kids 1).Attrs (nth p.Kids 1).Attrs.length) (resJ (nth p.Kids 0).Attrs (nth p.Kids 1).Attrs (nth p.Kids 1).Attrs.length) (nth l 1)) (keyS (nth (nth l 0) k) (lefJ (nth p.Kids 0).Attrs (nth p.Kids 1).Attrs (nth p.Kids 1).Attrs.length))).length := by omega
  have hob := outJ_bd (u := (byG (byM (rigJ (nth p.Kids 0).Attrs (nth p.Kids 1).Attrs (nth p.Kids 1).Attrs.length) (resJ (nth p.Kids 0).Attrs (nth p.Kids 1).Attrs (nth p.Kids 1).Attrs.length) (nth l 1)) (keyS (nth (nth l 0) k) (lefJ (nth p.Kids 0).Attrs (nth p.Kids 1).Attrs (nth p.Kids 1).Attrs.length))).length) ha hb hl0 hl1 hr0 hlk
  refine J_exit (Jr (Jm rfl ?_))
  refine Js rfl (step_len_own underlying38 Sr zS) ?_
  refine Js rfl (step_gtr Sr Sr) (JL_nil ?_)
  refine J_cond Sr (fun h129 => ?_) (fun h129 => ?_)
  ·
   try simp only [NF] at h129
   refine J_region (Jm rfl ?_)
   refine JL_freeze (t := 130) (A' := tSl (rSl rValue) (outJ (byM (rigJ (nth p.Kids 0).Attrs (nth p.Kids 1).Attrs (nth p.Kids 1).Attrs.length) (resJ (nth p.Kids 0).Attrs (nth p.Kids 1).Attrs (nth p.Kids 1).Attrs.length) (nth l 1)) (lefJ (nth p.Kids 0).Attrs (nth p.Kids 1).Attrs (nth p.Kids 1).Attrs.length) (joinR (byM (rigJ (nth p.Kids 0).Attrs (nth p.Kids 1).Attrs (nth p.Kids 1).Attrs.length) (resJ (nth p.Kids 0).Attrs (nth p.Kids 1).Attrs (nth p.Kids 1).Attrs.length) (nth l 1)) (lefJ (nth p.Kids 0).Attrs (nth p.Kids 1).Attrs (nth p.Kids 1).Attrs.length) ((nth l 0).take k)) (nth (nth l 0) k) (byG (byM (rigJ (nth p.Kids 0).Attrs (nth p.Kids 1).Attrs (nth p.Kids 1).Attrs.length) (resJ (nth p.Kids 0).Attrs (nth p.Kids 1).Attrs (nth p.Kids 1).Attrs.length) (nth l 1)) (keyS (nth (nth l 0) k) (lefJ (nth p.Kids 0).Attrs (nth p.Kids 1).Attrs (nth p.Kids 1).Attrs.length))).length)) (Sel.take (Sel.none _)) Frz.own ?_
   refine Jx rfl (step_call (Sel.none _) (setA_spec (outJ (byM (rigJ (nth p.Kids 0).Attrs (nth p.Kids 1).Attrs (nth p.Kids 1).Attrs.length) (resJ (nth p.Kids 0).Attrs (nth p.Kids 1).Attrs (nth p.Kids 1).Attrs.length) (nth l 1)) (lefJ (nth p.Kids 0).Attrs (nth p.Kids 1).Attrs (nth p.Kids 1).Attrs.length) (joinR (byM (rigJ (nth p.Kids 0).Attrs (nth p.Kids 1).Attrs (nth p.Kids 1).Attrs.length) (resJ (nth p.Kids 0).Attrs (nth p.Kids 1).Attrs (nth p.Kids 1).Attrs.length) (nth l 1)) (lefJ (nth p.Kids 0).Attrs (nth p.Kids 1).Attrs (nth p.Kids 1).Attrs.length) ((nth l 0).take k)) (nth (nth l 0) k) (byG (byM (rigJ (nth p.Kids 0).Attrs (nth p.Kids 1).Attrs (nth p.Kids 1).Attrs.length) (resJ (nth p.Kids 0).Attrs (nth p.Kids 1).Attrs (nth p.Kids 1).Attrs.length) (nth l 1)) (keyS (nth (nth l 0) k) (lefJ (nth p.Kids 0).Attrs (nth p.Kids 1).Attrs (nth p.Kids 1).Attrs.length))).length) zG (fun r h => by have := hob.2 r h; omega)) ⟨Sr, trivial⟩ call28) fun v131 => ?_
   refine Ja rfl (JL_nil (J_region (Js rfl (step_add Sr Sr z6) (Jm rfl (JL_nil ?_)))))
   refine K_againL (σ := Nat × Value) (s := (k, vo)) (k + 1, v131) zO (by show k + 1 ≤ _; omega) (zU) (.c zS (SPs.of (A := own 45 (rSl rValue) v131 (setR (outJ (byM (rigJ (nth p.Kids 0).Attrs (nth p.Kids 1).Attrs (nth p.Kids 1).Attrs.length) (resJ (nth p.Kids 0).Attrs (nth p.Kids 1).Attrs (nth p.Kids 1).Attrs.length) (nth l 1)) (lefJ (nth p.Kids 0).Attrs (nth p.Kids 1).Attrs (nth p.Kids 1).Attrs.length) (joinR (byM (rigJ (nth p.Kids 0).Attrs (nth p.Kids 1).Attrs (nth p.Kids 1).Attrs.length) (resJ (nth p.Kids 0).Attrs (nth p.Kids 1).Attrs (nth p.Kids 1).Attrs.length) (nth l 1)) (lefJ (nth p.Kids 0).Attrs (nth p.Kids 1).Attrs (nth p.Kids 1).Attrs.length) ((nth l 0).take k)) (nth (nth l 0) k) (byG (byM (rigJ (nth p.Kids 0).Attrs (nth p.Kids 1).Attrs (nth p.Kids 1).Attrs.length) (resJ (nth p.Kids 0).Attrs (nth p.Kids 1).Attrs (nth p.Kids 1).Attrs.length) (nth l 1)) (keyS (nth (nth l 0) k) (lefJ (nth p.Kids 0).Attrs (nth p.Kids 1).Attrs (nth p.Kids 1).Attrs.length))).length))) (by rw [joinR_t hlk h110]; unfold cutJ; rw [if_pos zG])) (LSub.nil))
  try simp only [NF] at h129
  refine J_skip (J_region (Js rfl (step_add Sr Sr z6) (Jm rfl (JL_nil ?_))))
  refine K_againL (σ := Nat × Value) (s := (k, vo)) (k + 1, vp) zO (by show k + 1 ≤ _; omega) (zU) (.c zS (SPs.of (A := own 45 (rSl rValue) vp (outJ (byM (rigJ (nth p.Kids 0).Attrs (nth p.Kids 1).Attrs (nth p.Kids 1).Attrs.length) (resJ (nth p.Kids 0).Attrs (nth p.Kids 1).Attrs (nth p.Kids 1).Attrs.length) (nth l 1)) (lefJ (nth p.Kids 0).Attrs (nth p.Kids 1).Attrs (nth p.Kids 1).Attrs.length) (joinR (byM (rigJ (nth p.Kids 0).Attrs (nth p.Kids 1).Attrs (nth p.Kids 1).Attrs.length) (resJ (nth p.Kids 0).Attrs (nth p.Kids 1).Attrs (nth p.Kids 1).Attrs.length) (nth l 1)) (lefJ (nth p.Kids 0).Attrs (nth p.Kids 1).Attrs (nth p.Kids 1).Attrs.length) ((nth l 0).take k)) (nth (nth l 0) k) (byG (byM (rigJ (nth p.Kids 0).Attrs (nth p.Kids 1).Attrs (nth p.Kids 1).Attrs.length) (resJ (nth p.Kids 0).Attrs (nth p.Kids 1).Attrs (nth p.Kids 1).Attrs.length) (nth l 1)) (keyS (nth (nth l 0) k) (lefJ (nth p.Kids 0).Attrs (nth p.Kids 1).Attrs (nth p.Kids 1).Attrs.length))).length)) (by rw [joinR_t hlk h110]; unfold cutJ; rw [if_neg zG])) (LSub.nil))
 try simp only [NF] at h99
 obtain rfl : k = (nth l 0).length := by omega
 refine J_exit (Jr (Jm rfl (Ja rfl (JL_nil (J_ret ?_)))))
 refine K_ret1' (rv := .tmp 6) rfl () (Sel.take (Sel.none _)) (.tmp Sr) (Frz.own' (by rw [List.take_length]; rfl))
open Go
/-- A function returns, or it panics; what it owned may be lost then. -/
def RetP {X : Type} (h0 : PH) (w0 : World) (r : PH) (res : X → Ty) (L' : X → List SP) (φ : List PanicEntry → Prop) (e : Ending) (w' : World) : Prop :=
  Ret h0 w0 r res L' e w' ∨ ∃ ch h m, e = .panicked ch ∧ φ ch ∧ HL h0 w0 h w' ∧ Sep h m r w'
def SpecP {X : Type} (P : Program) (f : Nat) (asT : List Ty) (L : List SP) (res : X → Ty) (L' : X → List SP) (φ : List PanicEntry → Prop) : Prop :=
  ∀ (vs : List Value) (h m r : PH) (w : World), Args h asT vs → Sep h m r w → (stars L).p h m → Calls P f vs.toArray w (RetP h w r res L' φ)
theorem SpecP.enter {X : Type} {P : Program} {f : Nat} {fn : Func} {c : Code} {asT : List Ty} {L : List SP} {res : X → Ty} {L' : X → List SP} {φ : List PanicEntry → Prop} (hf : P.funcs[f]? = some fn) (hb : fn.body = some c)
    (hn : Nat.ble asT.length fn.ntmps = true)
    (h : ∀ h0 w0 r, J ⟨P, none, fn.ntmps, [], h0, w0, r⟩ c (bodyPostM Fence.wide 0 P fn (RetP h0 w0 r res L' φ)) (argEnv asT 0 env0) L) : SpecP P f asT L res L' φ := fun vs h0 m r w ha sp st => by
  have hl := ha.length
  have hn' : asT.length ≤ fn.ntmps := by simpa using hn
  refine (callsIn_wide (n := 0)).1 (callsIn_of_wp_marks hf hb trivial ?_)
  refine h h0 w r _ w ⟨?_, rfl, h0, m, HL.refl, sp, st, fr_args ha _⟩
  simp only [Array.size_append, List.size_toArray, Array.size_replicate, hl]; omega
/-- A return of a function that might have panicked. -/
theorem K_toP {X : Type} {P : Program} {fn : Func} {N : Nat} {h0 : PH} {w0 : World} {r : PH} {res : X → Ty} {L' : X → List SP} {φ : List PanicEntry → Prop} {E : Env} {L : List SP}
    (hk : K ⟨P, none, N, [], h0, w0, r⟩ (bodyPostM Fence.wide 0 P fn (Ret h0 w0 r res L') .ret) E L) : K ⟨P, none, N, [], h0, w0, r⟩ (bodyPostM Fence.wide 0 P fn (RetP h0 w0 r res L' φ) .ret) E L := fun a w p => by
  have q := hk a w p
  have hd : a.defers = [] := p.2.1
  show LeavesInM Fence.wide 0 P fn a.tmps (RetP h0 w0 r res L' φ) a.defers .returning w
  have q : LeavesInM Fence.wide 0 P fn a.tmps (Ret h0 w0 r res L') a.defers .returning w := q
  rw [hd] at q ⊢
  obtain ⟨v, h1, h2⟩ := q
  exact ⟨v, h1, .inl h2⟩
/-- Own memory of which nothing is known. -/
def lostO : SP := ⟨fun _ _ => True, fun _ h => h⟩
/-- What is owed where a call may panic. -/
def PanOk (φ : List PanicEntry → Prop) (C : Cx) (Q : Exit → Act → World → Prop) (E : Env) (L : List SP) : Prop := ∀ ch, φ ch → K C (Q (.panic ch)) E L
theorem panOk {X : Type} {P : Program} {fn : Func} {N : Nat} {h0 : PH} {w0 : World} {r : PH} {res : X → Ty} {L' : X → List SP} {φ ψ : List PanicEntry → Prop} {E : Env} {L : List SP} (hφ : ∀ ch, ψ ch → φ ch) : PanOk ψ ⟨P, none, N, [], h0, w0, r⟩ (bodyPostM Fence.wide 0 P fn (RetP h0 w0 r res L' φ)) E L :=
  fun ch hc a w ⟨_, hd, h, m, hl, sp, _, _⟩ => by
    have hd : a.defers = [] := hd
    show LeavesInM Fence.wide 0 P fn a.tmps (RetP h0 w0 r res L' φ) a.defers (.panicking ch) w
    rw [hd]
    exact .inr ⟨ch, h, m, rfl, hφ _ hc, hl, sp⟩
section
variable {X : Type} {C : Cx} {ops : Array Oper} {rest : List Oper} {Q : Exit → Act → World → Prop} {E : Env} {L S R : List SP} {d ty : Nat} {pos : String} {af : Array Edge} {f : Nat} {xs : Array Operand} {ts : Array Nat} {asT : List Ty} {res : X → Ty} {L' : X → List SP} {φ : List PanicEntry → Prop}
end
open Go
/-- An operation goes through, or what is owed where it panics is there. -/
def StepQ {X : Type} (Q : Exit → Act → World → Prop) (C : Cx) (o : Oper) (E : Env) (L : List SP) (A : X → Ty) (L' : X → List SP) : Prop :=
  ∀ a w h m, a.tmps.size = C.N → a.defers = C.ds → HL C.h0 C.w0 h w → Sep h m C.r w → (stars L).p h m → Fr E h a →
    ∀ (next : Act → World → Prop),
      (∀ x v w' h' m', HL h w h' w' → Sep h' m' C.r w' → (stars (L' x)).p h' m' → (A x).p h' v → next (a.put o.dst v) w') → o.wpIn (Fw C.ro) 0 C.P a w next Q
theorem Step.toQ {X : Type} {Q : Exit → Act → World → Prop} {C : Cx} {o : Oper} {E : Env} {L : List SP} {A : X → Ty} {L' : X → List SP} (s : Step C o E L A L') : StepQ Q C o E L A L' :=
  fun a w h m n _ l sp st fr next hk => s a w h m n l sp st fr next Q hk
theorem JL_stepQ {X : Type} {C : Cx} {ops : Array Oper} {o : Oper} {rest : List Oper} {Q : Exit → Act → World → Prop} {E : Env} {L : List SP} {A : X → Ty} {L' : X → List SP} {d : Nat}
    (hg : o.guard = none) (hd : o.dst = some d) (hN : Nat.blt d C.N = true) (hs : StepQ Q C o E L A L')
    (hk : ∀ x, JL C ops rest Q (upd E d (A x)) (L' x)) : JL C ops (o :: rest) Q E L := fun a w ⟨n, ds, h, m, l, sp, st, f⟩ => by
  refine wpListIn_plain hg fun K hK => hs a w h m n ds l sp st f K fun x v w' h' m' l' sp' st' hv => hK _ _ (hk x _ _ ⟨?_, ?_, h', m', HL.trans l l', sp', st', ?_⟩)
  · rw [hd]; simpa [Act.put] using n
  · rw [hd]; exact ds
  · rw [hd]; exact (f.mono l'.1).put (by rw [n]; simpa using hN) hv
section
variable {X : Type} {C : Cx} {Q : Exit → Act → World → Prop} {E : Env} {L S R : List SP} {d : Option Nat} {ty : Nat} {pos : String} {af : Array Edge} {g : Option (Nat × Bool)} {f : Nat} {xs : Array Operand} {ts : Array Nat} {asT : List Ty} {res : X → Ty} {L' : X → List SP} {φ : List PanicEntry → Prop}
theorem step_callP (sel : Sel L S R) (sp : SpecP C.P f asT S res L' φ) (ha : ArgsE E xs.toList asT) (he : ∀ args w, (callFunc f args).run C.P w = .ok (.enter f args) w) (hQ : PanOk φ C Q E (lostO :: R)) :
    StepQ Q C ⟨d, .call { callee := .value (.func f), args := xs, argTypes := ts }, ty, pos, af, g⟩ E L res (fun x => L' x ++ R) := fun a w h m n ds l se st fr next hk => by
  obtain ⟨m1, m2, d12, rfl, s1, s2⟩ := sel.stars.1 st
  have hA := ha.args fr
  have hd := PH.disj_join'.1 se.hm
  have hr := PH.disj_join.1 se.mr
  have hc := sp _ h m1 (m2.join C.r) w hA ⟨(by first | exact Sep.inv (by assumption) | exact Inv.mono (PH.le_join_left _ _) (Sep.inv (by assumption))), hd.1, PH.disj_join'.2 ⟨hd.2, se.hr⟩, PH.disj_join'.2 ⟨d12, hr.1⟩, se.hw, fun b o e => se.mw _ _ (PH.le_join_left _ _ _ _ e),
    PH.join_inw (fun b o e => se.mw _ _ (PH.le_join_right d12 _ _ e)) se.rw⟩ s1
  refine ⟨fun _ _ => trivial, ?_⟩
  rw [Fw_round, Oper.semAt_eq _ _ _ (by intro c h; cases h)]
  have hrun : (execOp a.eval ⟨d, .call { callee := .value (.func f), args := xs, argTypes := ts }, ty, pos, af, g⟩).run C.P w = .ok (.enter f (xs.toList.map a.eval).toArray) w := by
    simp only [execOp, resolve, show a.eval (.func f) = .func (.func f) #[] #[] from rfl, Deferred.ofValue]
    simp [invoke, he]
    rw [← Array.toList_map]
  rw [hrun]
  refine ⟨by simp, (callsIn_wide (n := 0 - 1)).2 (hc.mono ?_)⟩
  rintro e w' (⟨x, v, h', m', rfl, l', se', st', hv⟩ | ⟨ch, h', m', rfl, hφ, l', se'⟩)
  · have e1 := PH.disj_join'.1 se'.hr
    have e2 := PH.disj_join'.1 se'.mr
    exact hk x v w' h' (m'.join m2) l' ⟨(by first | exact Sep.inv (by assumption) | exact Inv.mono (PH.le_join_left _ _) (Sep.inv (by assumption))), PH.disj_join'.2 ⟨se'.hm, e1.1⟩, e1.2, PH.disj_join.2 ⟨e2.2, hr.2⟩, se'.hw, PH.join_inw se'.mw (fun b o e => se'.rw _ _ (PH.le_join_left _ _ _ _ e)), fun b o e => se'.rw _ _ (PH.le_join_right hr.2 _ _ e)⟩
      (stars_append.2 ⟨m', m2, e2.1, rfl, st', by
        have : (stars R).p h' m2 := (stars R).mono l'.1 s2
        exact this⟩) hv
  · have e1 := PH.disj_join'.1 se'.hr
    have e2 := PH.disj_join'.1 se'.mr
    exact hQ ch hφ a w' ⟨n, ds, h', m'.join m2, HL.trans l l', ⟨(by first | exact Sep.inv (by assumption) | exact Inv.mono (PH.le_join_left _ _) (Sep.inv (by assumption))), PH.disj_join'.2 ⟨se'.hm, e1.1⟩, e1.2, PH.disj_join.2 ⟨e2.2, hr.2⟩, se'.hw, PH.join_inw se'.mw (fun b o e => se'.rw _ _ (PH.le_join_left _ _ _ _ e)), fun b o e => se'.rw _ _ (PH.le_join_right hr.2 _ _ e)⟩, ⟨m', m2, e2.1, rfl, trivial, (stars R).mono l'.1 s2⟩, fr.mono l'.1⟩
/-- A call of a function value that may panic. -/
theorem step_callvP {x : Operand} {aT As : List Ty} (hx : Sub (opTy E x) (tClo f As)) (sel : Sel L S R) (sp : SpecP C.P f (aT ++ As) S res L' φ) (ha : ArgsE E xs.toList aT) (he : ∀ args w, (callFunc f args).run C.P w = .ok (.enter f args) w) (hQ : PanOk φ C Q E (lostO :: R)) :
    StepQ Q C ⟨d, .call { callee := .value x, args := xs, argTypes := ts }, ty, pos, af, g⟩ E L res (fun x => L' x ++ R) := fun a w h m n ds l se st fr next hk => by
  obtain ⟨m1, m2, d12, rfl, s1, s2⟩ := sel.stars.1 st
  obtain ⟨cap, hv, hcap⟩ := fr.get hx
  have hA := (ha.args fr).append hcap
  have hd := PH.disj_join'.1 se.hm
  have hr := PH.disj_join.1 se.mr
  have hc := sp _ h m1 (m2.join C.r) w hA ⟨(by first | exact Sep.inv (by assumption) | exact Inv.mono (PH.le_join_left _ _) (Sep.inv (by assumption))), hd.1, PH.disj_join'.2 ⟨hd.2, se.hr⟩, PH.disj_join'.2 ⟨d12, hr.1⟩, se.hw, fun b o e => se.mw _ _ (PH.le_join_left _ _ _ _ e),
    PH.join_inw (fun b o e => se.mw _ _ (PH.le_join_right d12 _ _ e)) se.rw⟩ s1
  refine ⟨fun _ _ => trivial, ?_⟩
  rw [Fw_round, Oper.semAt_eq _ _ _ (by intro c h; cases h)]
  have hrun : (execOp a.eval ⟨d, .call { callee := .value x, args := xs, argTypes := ts }, ty, pos, af, g⟩).run C.P w = .ok (.enter f (xs.toList.map a.eval ++ cap).toArray) w := by
    simp only [execOp, resolve, hv, Deferred.ofValue]
    simp [invoke, he]
  rw [hrun]
  refine ⟨by simp, (callsIn_wide (n := 0 - 1)).2 (hc.mono ?_)⟩
  rintro e w' (⟨x, v, h', m', rfl, l', se', st', hv⟩ | ⟨ch, h', m', rfl, hφ, l', se'⟩)
  · have e1 := PH.disj_join'.1 se'.hr
    have e2 := PH.disj_join'.1 se'.mr
    exact hk x v w' h' (m'.join m2) l' ⟨(by first | exact Sep.inv (by assumption) | exact Inv.mono (PH.le_join_left _ _) (Sep.inv (by assumption))), PH.disj_join'.2 ⟨se'.hm, e1.1⟩, e1.2, PH.disj_join.2 ⟨e2.2, hr.2⟩, se'.hw, PH.join_inw se'.mw (fun b o e => se'.rw _ _ (PH.le_join_left _ _ _ _ e)), fun b o e => se'.rw _ _ (PH.le_join_right hr.2 _ _ e)⟩
      (stars_append.2 ⟨m', m2, e2.1, rfl, st', by
        have : (stars R).p h' m2 := (stars R).mono l'.1 s2
        exact this⟩) hv
  · have e1 := PH.disj_join'.1 se'.hr
    have e2 := PH.disj_join'.1 se'.mr
    exact hQ ch hφ a w' ⟨n, ds, h', m'.join m2, HL.trans l l', ⟨(by first | exact Sep.inv (by assumption) | exact Inv.mono (PH.le_join_left _ _) (Sep.inv (by assumption))), PH.disj_join'.2 ⟨se'.hm, e1.1⟩, e1.2, PH.disj_join.2 ⟨e2.2, hr.2⟩, se'.hw, PH.join_inw se'.mw (fun b o e => se'.rw _ _ (PH.le_join_left _ _ _ _ e)), fun b o e => se'.rw _ _ (PH.le_join_right hr.2 _ _ e)⟩, ⟨m', m2, e2.1, rfl, trivial, (stars R).mono l'.1 s2⟩, fr.mono l'.1⟩
end
/-- The operation panic. -/
theorem JL_panic {C : Cx} {ops : Array Oper} {rest : List Oper} {Q : Exit → Act → World → Prop} {E : Env} {L : List SP} {x : Operand} {ty : Nat} {pos : String} {af : Array Edge} {t : TypeId} {v : Value}
    (hx : Sub (opTy E x) (tV (.iface t v))) (hk : K C (Q (.panic [{ v := .iface t v, recovered := false }])) E L) : JL C ops (⟨none, .panic x, ty, pos, af, none⟩ :: rest) Q E L := fun a w p => by
  refine wpListIn_plain rfl fun K hK => ⟨fun _ _ => trivial, ?_⟩
  obtain ⟨n, ds, h, m, l, sp, st, fr⟩ := p
  have hv : a.eval x = .iface t v := fr.get hx
  rw [Fw_round, Oper.semAt_eq _ _ _ (by intro c h; cases h)]
  have hr : (execOp a.eval ⟨none, .panic x, ty, pos, af, none⟩).run C.P w = .halt (.panic (.iface t v)) w := by
    show (do pure (.value (← Instr.panic (a.eval x))) : Sem Next).run C.P w = _
    rw [hv]; rfl
  rw [hr]
  exact hk a w ⟨n, ds, h, m, l, sp, st, fr⟩
def PanE (b : Prop) (ch : List PanicEntry) : Prop := b ∧ ∃ e : Int, e ≠ 0 ∧ ch = [{ v := .iface 40 (.int .i64 e), recovered := false }]
/-- The walk; what comes behind is k. -/
def JP (Q : Exit → Act → World → Prop) (C : Cx) (ops : Array Oper) (k : Env → List SP → Prop) : List It → Env → List SP → Prop
  | [], E, L => k E L
  | ⟨i, ts, true⟩ :: its, E, L => ∃ o A, ops[i]? = some o ∧ ltO o.dst C.N = true ∧ (∀ L, StepG C ops o (restr ts E) L A) ∧ JP Q C ops k its (updO E o.dst A) L
  | ⟨i, ts, false⟩ :: its, E, L => ∃ o, ops[i]? = some o ∧ ltO o.dst C.N = true ∧
    ((∃ A, StepG C ops o (restr ts E) L A ∧ JP Q C ops k its (updO E o.dst A) L) ∨
     ∃ (X : Type) (A : X → Ty) (L' : X → List SP), WantX ops o (restr ts E) ∧ StepQ Q C o (restr ts E) L A L' ∧ ∀ x, JP Q C ops k its (updO E o.dst (A x)) (L' x))
section
variable {Q : Exit → Act → World → Prop} {C : Cx} {ops : Array Oper} {k : Env → List SP → Prop} {its : List It} {E : Env} {L : List SP} {i : Nat} {ts : List Nat} {o : Oper}
theorem JP_nil (h : k E L) : JP Q C ops k [] E L := h
theorem JP_step {A : Ty} {d : Nat} (ho : ops.toList[i]? = some o) (hg : o.guard = none) (hd : o.dst = some d) (hN : Nat.blt d C.N = true) (hs : ∀ L, Step1 C o (restr ts E) L A)
    (hk : JP Q C ops k its (upd E d A) L) : JP Q C ops k (⟨i, ts, true⟩ :: its) E L :=
  ⟨o, A, by simpa using ho, by rw [hd]; exact hN, fun L => .inl ⟨hg, hs L⟩, by rw [hd]; exact hk⟩
/-- Own memory changed. -/
theorem JP_stepX {X : Type} {A : X → Ty} {L' : X → List SP} {d : Nat} (ho : ops.toList[i]? = some o) (hg : o.guard = none) (hd : o.dst = some d) (hN : Nat.blt d C.N = true) (hs : Step C o (restr ts E) L A L')
    (hk : ∀ x, JP Q C ops k its (upd E d (A x)) (L' x)) : JP Q C ops k (⟨i, ts, false⟩ :: its) E L :=
  ⟨o, by simpa using ho, by rw [hd]; exact hN, .inr ⟨X, A, L', .inl hg, hs.toQ, fun x => by rw [hd]; exact hk x⟩⟩
theorem JP_stepQ {X : Type} {A : X → Ty} {L' : X → List SP} {d : Nat} (ho : ops.toList[i]? = some o) (hg : o.guard = none) (hd : o.dst = some d) (hN : Nat.blt d C.N = true) (hs : StepQ Q C o (restr ts E) L A L')
    (hk : ∀ x, JP Q C ops k its (upd E d (A x)) (L' x)) : JP Q C ops k (⟨i, ts, false⟩ :: its) E L :=
  ⟨o, by simpa using ho, by rw [hd]; exact hN, .inr ⟨X, A, L', .inl hg, hs, fun x => by rw [hd]; exact hk x⟩⟩
end
/-- An operation that may come first is pulled to the front. -/
theorem JP_pull {Q : Exit → Act → World → Prop} {C : Cx} {ops : Array Oper} {k : Env → List SP → Prop} : ∀ {l1 : List It} {b : It} {l2 : List It} {E : Env} {L : List SP}, (∀ a ∈ l1, a.free = true) →
    (∀ a ∈ l1, okPair (plOf ops.toList a) (plOf ops.toList b) = true) → (∀ a ∈ l1, a.i ∉ aftOf ops.toList b.i) → JP Q C ops k (l1 ++ b :: l2) E L → JP Q C ops k (b :: (l1 ++ l2)) E L
  | [], _, _, _, _, _, _, _, h => h
  | ⟨ia, ta, fa⟩ :: l1, ⟨ib, tb, fb⟩, l2, E, L, hf, hp, hn, h => by
    have hfa : fa = true := hf ⟨ia, ta, fa⟩ (by simp)
    subst hfa
    obtain ⟨oa, A, ha, hla, hsa, hk⟩ := h
    have ih := JP_pull (fun a m => hf a (by simp [m])) (fun a m => hp a (by simp [m])) (fun a m => hn a (by simp [m])) hk
    have hpair := hp ⟨ia, ta, true⟩ (by simp)
    have hna := hn ⟨ia, ta, true⟩ (by simp)
    have hda : dstOf ops.toList ia = oa.dst := by simp [dstOf, ha]
    have hpair' : inO oa.dst tb = false ∧ inO (dstOf ops.toList ib) ta = false ∧ eqO oa.dst (dstOf ops.toList ib) = false := by
      simp only [okPair, plOf, hda, Bool.and_eq_true, Bool.or_eq_true, Bool.not_eq_true', memN_iff] at hpair
      rcases hpair.2 with q | q
      · exact absurd q hna
      · exact ⟨q.1.1, q.1.2, q.2⟩
    obtain ⟨p1, p2, p3⟩ := hpair'
    cases fb with
    | true =>
      obtain ⟨ob, B, hb, hlb, hsb, hkb⟩ := ih
      have hdb : dstOf ops.toList ib = ob.dst := by simp [dstOf, hb]
      rw [hdb] at p2 p3
      refine ⟨ob, B, hb, hlb, fun L => (hsb L).same (restr_updO p1), oa, A, ha, hla, fun L => (hsa L).same (restr_updO p2).symm, ?_⟩
      rw [updO_comm p3] at hkb
      exact hkb
    | false =>
      obtain ⟨ob, hb, hlb, hcase⟩ := ih
      have hdb : dstOf ops.toList ib = ob.dst := by simp [dstOf, hb]
      rw [hdb] at p2 p3
      refine ⟨ob, hb, hlb, ?_⟩
      rcases hcase with ⟨B, hsb, hkb⟩ | ⟨X, B, L', hgb, hsb, hkb⟩
      · left
        refine ⟨B, hsb.same (restr_updO p1), oa, A, ha, hla, fun L => (hsa L).same (restr_updO p2).symm, ?_⟩
        rw [updO_comm p3] at hkb
        exact hkb
      · right
        rw [restr_updO p1] at hsb hgb
        refine ⟨X, B, L', hgb, hsb, fun x => ⟨oa, A, ha, hla, fun L => (hsa L).same (restr_updO p2).symm, ?_⟩⟩
        have := hkb x
        rw [updO_comm p3] at this
        exact this
theorem wpAny_JP {C : Cx} {ops : Array Oper} {Q : Exit → Act → World → Prop} : ∀ (fuel : Nat) (its : List It) (listed : Array Bool) (E : Env) (L : List SP), its.length ≤ fuel → listed.size = ops.size →
    (∀ i, i < ops.size → (listed.getD i true = false ↔ ∃ x ∈ its, x.i = i)) → okPls (its.map (plOf ops.toList)) = true → (∀ x ∈ its, x.i < ops.size ∧ ∀ e ∈ aftOf ops.toList x.i, e < x.i) →
    JP Q C ops (fun E' L' => K C (Q .normal) E' L') its E L → K C (fun a w => wpAnyIn (Fw C.ro) 0 C.P .any ops Q fuel listed a w) E L := by
  intro fuel
  induction fuel with
  | zero =>
    intro its listed E L hlen hsz hin _ _ hJ
    have : its = [] := List.length_eq_zero_iff.1 (by omega)
    subst this
    intro a w p
    refine ⟨?_, hJ a w p⟩
    rw [List.eq_nil_iff_forall_not_mem]
    intro i hi
    obtain ⟨h1, h2, _⟩ := mem_ready.1 hi
    obtain ⟨x, hx, _⟩ := (hin i h1).1 h2
    cases hx
  | succ fuel ih =>
    intro its listed E L hlen hsz hin hok hlt hJ
    -- if nothing is ready, nothing is left
    have hdone : Region.ready .any ops listed = [] → its = [] := by
      intro hr
      have hall : ∀ i, i < ops.size → listed.getD i true = true := by
        intro i
        induction i using Nat.strongRecOn with
        | _ i ihi =>
          intro hi
          cases hl : listed.getD i true with
          | true => rfl
          | false =>
            have ho : ops[i]? = some ops[i] := Array.getElem?_eq_getElem hi
            obtain ⟨x, hx, hxi⟩ := (hin i hi).1 hl
            have h1 := (hlt x hx).2
            rw [hxi] at h1
            have hm : i ∈ Region.ready .any ops listed := mem_ready.2 ⟨hi, hl, _, ho, fun e he => by
              have he' : e < i := h1 e (by simpa [aftOf, hi] using he)
              rw [getD_any (by omega) false true]
              exact ihi e he' (by omega)⟩
            rw [hr] at hm; cases hm
      match its with
      | [] => rfl
      | x :: _ =>
        have h1 := (hlt x (by simp)).1
        have := (hin x.i h1).2 ⟨x, by simp, rfl⟩
        rw [hall x.i h1] at this; cases this
    intro a w p
    refine ⟨fun hr => ?_, fun i hi => ?_⟩
    · have := hdone hr
      subst this
      exact hJ a w p
    · obtain ⟨hlti, hnl, o, ho, haft⟩ := mem_ready.1 hi
      obtain ⟨b, hb, hbi⟩ := (hin i hlti).1 hnl
      obtain ⟨l1, l2, rfl⟩ := List.append_of_mem hb
      have hoi : ops.toList[b.i]? = some o := by rw [hbi]; simpa using ho
      have haft' : aftOf ops.toList b.i = aftN o := by simp only [aftOf, hoi]
      -- what is left is not listed
      have hleft : ∀ x ∈ l1 ++ b :: l2, x.i ∉ aftOf ops.toList b.i := fun x hx hm => by
        rw [haft'] at hm
        have h1 := haft _ hm
        have h2 := (hlt x hx).1
        have h3 := (hin x.i h2).2 ⟨x, hx, rfl⟩
        rw [getD_any (by omega) true false, h1] at h3; cases h3
      rw [List.map_append, List.map_cons] at hok
      have hpair : ∀ a ∈ l1, okPair (plOf ops.toList a) (plOf ops.toList b) = true := fun a ha => okPls_pair hok _ (List.mem_map_of_mem ha)
      have hfree : ∀ a ∈ l1, a.free = true := fun x hx => by
        obtain ⟨y, z, rfl⟩ := List.append_of_mem hx
        have ht := okPls_tail hok (y.map (plOf ops.toList)) (z.map (plOf ops.toList)) (plOf ops.toList x) (by simp)
        simp only [okTail, Bool.or_eq_true, List.all_eq_true, List.any_eq_true] at ht
        rcases ht with ht | ht
        · exact ht
        · rcases ht (plOf ops.toList b) (by simp) with q | ⟨r, hr, p, hp, hq⟩
          · exact absurd (memN_iff.1 q) (hleft x (by simp))
          · have hrp := Nat.eq_of_beq_eq_true hq
            have hp' : ∃ u ∈ z ++ b :: l2, plOf ops.toList u = p := by
              rcases List.mem_append.1 hp with hp | hp
              · obtain ⟨u, hu, e⟩ := List.mem_map.1 hp
                exact ⟨u, by simp [hu], e⟩
              · rcases List.mem_cons.1 hp with hp | hp
                · exact ⟨b, by simp, hp.symm⟩
                · obtain ⟨u, hu, e⟩ := List.mem_map.1 hp
                  exact ⟨u, by simp [hu], e⟩
            obtain ⟨u, hu, e⟩ := hp'
            have : u.i ∉ aftOf ops.toList b.i := hleft u (by
              rcases List.mem_append.1 hu with hu | hu
              · simp [hu]
              · simp only [List.mem_append]; exact .inr hu)
            rw [← e] at hrp
            have hr' : r ∈ aftOf ops.toList b.i := hr
            rw [hrp] at hr'
            exact absurd hr' this
      have hJ' := JP_pull hfree hpair (fun a ha => hleft a (by simp [ha])) hJ
      have hsub : ∀ x ∈ l1 ++ l2, x ∈ l1 ++ b :: l2 := fun x hx => by
        rcases List.mem_append.1 hx with hx | hx <;> simp [hx]
      have hpairs : ∀ x ∈ l1 ++ l2, x.i ≠ b.i := fun x hx => by
        rcases List.mem_append.1 hx with hx | hx
        · have := hpair x hx
          simp only [okPair, plOf, Bool.and_eq_true, Bool.not_eq_true'] at this
          intro e; rw [e] at this; simp at this
        · have h2 : ∀ {l1 : List Pl} {b : Pl} {l2 : List Pl}, okPls (l1 ++ b :: l2) = true → okPls (b :: l2) = true := by
            intro l1
            induction l1 with
            | nil => intro b l2 h; exact h
            | cons c l1 ih => intro b l2 h; simp only [List.cons_append, okPls, Bool.and_eq_true] at h; exact ih h.2
          have := h2 hok
          simp only [okPls, Bool.and_eq_true, List.all_eq_true] at this
          have := this.1.1 _ (List.mem_map_of_mem hx)
          simp only [okPair, plOf, Bool.and_eq_true, Bool.not_eq_true'] at this
          intro e; rw [e] at this; simp at this
      have rest : ∀ E' L', JP Q C ops (fun E' L' => K C (Q .normal) E' L') (l1 ++ l2) E' L' → K C (fun a w => wpAnyIn (Fw C.ro) 0 C.P .any ops Q fuel (listed.setIfInBounds i true) a w) E' L' := by
        intro E' L' hk
        refine ih (l1 ++ l2) _ E' L' (by simp only [List.length_append, List.length_cons] at hlen ⊢; omega) (by simpa using hsz) (fun j hj => ?_) (by
          rw [List.map_append]
          exact okPls_sub hok fun x hx => (List.mem_map.1 hx).elim fun y hy => hy.2 ▸ hfree y hy.1) (fun x hx => hlt x (hsub x hx)) hk
        by_cases hji : i = j
        · subst hji
          rw [getD_set_same (by omega)]
          constructor
          · intro h; cases h
          · rintro ⟨x, hx, e⟩
            exact absurd (e.trans hbi.symm) (hpairs x hx)
        · rw [getD_set_ne hji, hin j hj]
          constructor
          · rintro ⟨x, hx, e⟩
            refine ⟨x, ?_, e⟩
            rcases List.mem_append.1 hx with hx | hx
            · simp [hx]
            · rcases List.mem_cons.1 hx with rfl | hx
              · exact absurd (hbi.symm.trans e) hji
              · simp [hx]
          · rintro ⟨x, hx, e⟩
            exact ⟨x, hsub x hx, e⟩
      obtain ⟨bi, tb, fb⟩ := b
      simp only at hbi hoi
      subst hbi
      have ho' : ops[bi]? = some o := ho
      cases fb with
      | true =>
        obtain ⟨o', A, ho2, hl, hs, hk⟩ := hJ'
        rw [ho'] at ho2; cases ho2
        exact (hs L).op ho' hl (rest _ _ hk) a w p
      | false =>
        obtain ⟨o', ho2, hl, hcase⟩ := hJ'
        rw [ho'] at ho2; cases ho2
        rcases hcase with ⟨A, hs, hk⟩ | ⟨X, A, L', hg, hs, hk⟩
        · exact hs.op ho' hl (rest _ _ hk) a w p
        · obtain ⟨n, ds, h, m, l, sp, st, fr⟩ := p
          have hwt : Region.wanted o (yielded ops a.tmps) = true := hg.run (fr.sub restr_sub)
          unfold wpOpIn
          simp only [ho']
          rw [if_pos hwt]
          exact hs a w h m n ds l sp st (fr.sub restr_sub) _ fun x v w' h' m' l' sp' st' hv =>
            rest _ _ (hk x) _ _ ⟨by rw [put_size]; exact n, by rw [put_defers]; exact ds, h', m', HL.trans l l', sp', st', (fr.mono l'.1).putO (by rw [n]; exact hl) hv⟩
theorem J_drawP {C : Cx} {id : Nat} {ops : Array Oper} (its : List It) {Q : Exit → Act → World → Prop} {E : Env} {L : List SP} (hmix : C.P.follows .mixedOrders = true) (hok : okM ops.toList its = true)
    (hJ : JP Q C ops (fun E' L' => K C (Q .normal) E' L') its E L) : J C (.region id ops true) Q E L := fun a w p => by
  refine wpIn_region_draw (fun t => ?_)
  simp only [Region.schedule, hmix, Bool.true_or, if_true]
  refine wpAnyIn_sound ops.size t _ a _ ?_
  simp only [okM, Bool.and_eq_true, List.all_eq_true, List.any_eq_true] at hok
  obtain ⟨⟨⟨h1, h2⟩, h3⟩, h4⟩ := hok
  have h5 : ∀ x ∈ its, x.i < ops.size := fun x hx => by have := h4 x hx; simpa using this
  have hnd : (its.map (·.i)).Nodup := by
    have : ∀ {l : List It}, okPls (l.map (plOf ops.toList)) = true → (l.map (·.i)).Nodup := by
      intro l
      induction l with
      | nil => intro _; simp
      | cons x l ih =>
        intro h
        simp only [List.map_cons, okPls, Bool.and_eq_true, List.all_eq_true] at h
        simp only [List.map_cons, List.nodup_cons]
        refine ⟨fun hm => ?_, ih h.2⟩
        obtain ⟨y, hy, e⟩ := List.mem_map.1 hm
        have := h.1.1 _ (List.mem_map_of_mem hy)
        simp only [okPair, plOf, Bool.and_eq_true, Bool.not_eq_true'] at this
        rw [e] at this; simp at this
    exact this h1
  have hlen : its.length ≤ ops.size := by
    have := nodup_le hnd (n := ops.size) (fun i hi => by
      obtain ⟨x, hx, rfl⟩ := List.mem_map.1 hi
      exact h5 x hx)
    simpa using this
  refine wpAny_JP ops.size its _ E L hlen (by simp) (fun i hi => ?_) h1 (fun x hx => ⟨h5 x hx, fun e he => ?_⟩) hJ a _ ?_
  · constructor
    · intro _
      obtain ⟨x, hx, e⟩ := h3 i (by simpa using hi)
      exact ⟨x, hx, (Nat.eq_of_beq_eq_true e).symm⟩
    · intro _; simp [Array.getD_eq_getD_getElem?, hi]
  · have := h2 _ (List.mem_map_of_mem hx) e he
    simpa [plOf] using this
  · obtain ⟨hsz, hds, h, m, hl, sp, st, fr⟩ := p
    exact ⟨hsz, hds, h, m, hl.trans (HL.same (Same.drew _)), ⟨(by first | exact Sep.inv (by assumption) | exact Inv.mono (PH.le_join_left _ _) (Sep.inv (by assumption))), sp.hm, sp.hr, sp.mr, sp.hw, sp.mw, sp.rw⟩, st, fr⟩
open Go Go.Proofs Go.Proofs.Tryz
section
variable {C : Cx} {E : Env} {L : List SP} {d : Option Nat} {ty : Nat} {pos : String} {af : Array Edge} {g : Option (Nat × Bool)}
theorem step_assert {x : Operand} {v : Value} (hP : C.P = Tryz.prog) (hx : Sub (opTy E x) (tV (.iface 40 v))) : Step1 C ⟨d, .typeAssert x 20 40 false, ty, pos, af, g⟩ E L (tV v) :=
  Step.of_same (by intro c h; cases h) fun a w h hw fr => by
    refine ⟨v, ?_, rfl⟩
    have hv : a.eval x = .iface 40 v := fr.get hx
    show (do pure (.value (← Instr.typeAssert (a.eval x) 20 40 false)) : Sem Next).run C.P w = _
    rw [hv, hP]
    kernel_rfl
end
end Lg
namespace Go.Proofs
open Go Lg
theorem recPan {b6 b7 : Nat} {x : Value} {y e : Int} {h m r : PH} {w : World} (sp : Sep h m r w) (st : (stars [box b6 38 rV x, box b7 40 rInt y]).p h m) :
    CallsDIn Fence.wide 0 Tryz.prog 34 #[.pointer (some ⟨b6, 0, none⟩), .pointer (some ⟨b7, 0, none⟩)] (.panicking [{ v := .iface 40 (.int .i64 e), recovered := false }]) w fun e' u' w' =>
      e' = .returned (.tuple #[]) ∧ u' = .panicking [{ v := .iface 40 (.int .i64 e), recovered := true }] ∧ ∃ h' m', HL h w h' w' ∧ Sep h' m' r w' ∧ (stars [box b6 38 rV (.slice none 0 0), box b7 40 rInt e]).p h' m' := by
  refine callsDIn_of_wpSIn Tryz.func34 rfl trivial fun c₀ cs hu => ?_
  apply wpSIn_seq
  apply wpSIn_region
  simp [wpOpsSIn, go_sem, recoverD, hu, Tryz.ntmps34, Exit.thenS]
  apply wpSIn_seq
  apply wpSIn_region
  simp [wpOpsSIn, go_sem, recoverD, hu, Tryz.ntmps34, Exit.thenS]
  refine wpSIn_cond (t := true) (by simp [Act.eval, Array.replicate]) ?_
  simp only [if_true]
  refine wpSIn_of_wpIn rfl ?_
  have hE : Fr (upd (upd (upd env0 0 (tAt b6 0)) 1 (tAt b7 0)) 2 (tV (.iface 40 (.int .i64 e)))) h ⟨#[.pointer (some ⟨b6, 0, none⟩), .pointer (some ⟨b7, 0, none⟩), .iface 40 (.int .i64 e), .iface 40 (.int .i64 e), .iface 40 (.int .i64 e), .bool true, undef, undef], []⟩ := fun t => by
    by_cases h2 : t = 2
    · subst h2; rw [upd_same]; rfl
    by_cases h1 : t = 1
    · subst h1; rw [upd_other _ _ (by decide), upd_same]; rfl
    by_cases h0 : t = 0
    · subst h0; rw [upd_other _ _ (by decide), upd_other _ _ (by decide), upd_same]; rfl
    rw [upd_other _ _ h2, upd_other _ _ h1, upd_other _ _ h0]; trivial
  refine J_draw (C := ⟨Tryz.prog, none, 8, [], h, w, r⟩) (L := [box b6 38 rV x, box b7 40 rInt y]) (E := upd (upd (upd env0 0 (tAt b6 0)) 1 (tAt b7 0)) 2 (tV (.iface 40 (.int .i64 e)))) [⟨0, [2], true⟩, ⟨1, [6], true⟩, ⟨2, [0], false⟩, ⟨3, [1, 7], false⟩] rfl (by kernel_rfl) ?_ _ w ⟨rfl, rfl, h, m, HL.refl, sp, st, hE⟩
  refine JM_step rfl rfl rfl rfl (fun _ => step_move Sub.rfl) ?_
  refine JM_step rfl rfl rfl rfl (fun _ => step_assert rfl Sub.rfl) ?_
  refine JM_stepU rfl rfl rfl (step_store_box (R := rV) ty38V Sub.rfl (Sub.rV rfl) (Sel.take (Sel.none _))) fun _ => ?_
  refine JM_stepU rfl rfl rfl (step_store_box (R := rInt) ty40 Sub.rfl Sub.rfl (Sel.skip (Sel.take (Sel.none _)))) fun _ => ?_
  refine JM_nil ?_
  rintro a' w' ⟨n', ds', h', m', l', sp', st', fr'⟩
  refine ⟨ds', _, rfl, .tuple #[], ?_, ?_⟩
  · simp [results, Tryz.results34]
  · refine ⟨rfl, rfl, h', l', m', sp', ?_⟩
    exact (LSub.cons (Sel.skip (Sel.take (Sel.none _))) SPs.rfl (LSub.cons (Sel.take (Sel.none _)) SPs.rfl LSub.nil) : LSub [box b7 40 rInt e, box b6 38 rV (.slice none 0 0)] [box b6 38 rV (.slice none 0 0), box b7 40 rInt e]) h' m' st'
end Go.Proofs
namespace Lg
open Go Go.Proofs Go.Proofs.Tryz
theorem K_deferGen {P : Program} {fn : Func} {N : Nat} {h0 : PH} {w0 : World} {r : PH} {RR : Ending → World → Prop} {E : Env} {f : Nat} {cap : List Value} {L1 L2 R : List SP} {ch ch' : List PanicEntry}
    (hi : ∀ w, (callFunc f cap.toArray).run P w = .ok (.enter f cap.toArray) w) (hs : settle (.panicking ch') = .returning)
    (hc : ∀ h m r w, Sep h m r w → (stars L1).p h m → CallsDIn Fence.wide 0 P f cap.toArray (.panicking ch) w fun e' u' w' => e' = .returned (.tuple #[]) ∧ u' = .panicking ch' ∧ ∃ h' m', HL h w h' w' ∧ Sep h' m' r w' ∧ (stars L2).p h' m')
    (hk : K ⟨P, none, N, [], h0, w0, r⟩ (bodyPostM Fence.wide 0 P fn RR .ret) E (L2 ++ R)) :
    K ⟨P, none, N, [⟨.fn (.func f) cap.toArray, #[]⟩], h0, w0, r⟩ (bodyPostM Fence.wide 0 P fn RR (.panic ch)) E (L1 ++ R) := fun a w ⟨n, hds, h, m, le, sp, st, fr⟩ => by
  show LeavesInM Fence.wide 0 P fn a.tmps RR a.defers (.panicking ch) w
  have hds : a.defers = _ := hds
  rw [hds]
  obtain ⟨m1, m2, d12, rfl, s1, s2⟩ := stars_append.1 st
  have hd := PH.disj_join'.1 sp.hm
  have hr := PH.disj_join.1 sp.mr
  refine ⟨by simp, .inr ⟨fun q => absurd q (by simp [Fence.wide]), .func f, cap.toArray, f, cap.toArray, rfl, ?_, fun _ _ => trivial, ?_⟩⟩
  · show (callFunc f (#[] ++ cap.toArray)).run P w = _
    rw [Array.empty_append]; exact hi w
  · refine (hc h m1 (m2.join r) w ⟨(by first | exact Sep.inv (by assumption) | exact Inv.mono (PH.le_join_left _ _) (Sep.inv (by assumption))), hd.1, PH.disj_join'.2 ⟨hd.2, sp.hr⟩, PH.disj_join'.2 ⟨d12, hr.1⟩, sp.hw, fun b o e => sp.mw _ _ (PH.le_join_left _ _ _ _ e),
      PH.join_inw (fun b o e => sp.mw _ _ (PH.le_join_right d12 _ _ e)) sp.rw⟩ s1).mono ?_
    rintro e' u' w' ⟨rfl, rfl, h', m', l', se', st'⟩
    have e1 := PH.disj_join'.1 se'.hr
    have e2 := PH.disj_join'.1 se'.mr
    show LeavesInM Fence.wide 0 P fn a.tmps RR [] (settle (.panicking ch')) w'
    rw [hs]
    exact hk { a with defers := [] } _ ⟨n, rfl, h', m'.join m2, HL.trans le l', ⟨(by first | exact Sep.inv (by assumption) | exact Inv.mono (PH.le_join_left _ _) (Sep.inv (by assumption))), PH.disj_join'.2 ⟨se'.hm, e1.1⟩, e1.2, PH.disj_join.2 ⟨e2.2, hr.2⟩, se'.hw, PH.join_inw se'.mw (fun b o e => se'.rw _ _ (PH.le_join_left _ _ _ _ e)), fun b o e => se'.rw _ _ (PH.le_join_right hr.2 _ _ e)⟩,
      stars_append.2 ⟨m', m2, e2.1, rfl, st', (stars R).mono l'.1 s2⟩, fr.mono l'.1⟩
/-- A panic is recovered by the deferred call: the function returns. -/
theorem K_deferPan {fn : Func} {N : Nat} {h0 : PH} {w0 : World} {r : PH} {RR : Ending → World → Prop} {E : Env} {b6 b7 : Nat} {x : Value} {y e : Int} {R : List SP}
    (hk : K ⟨Tryz.prog, none, N, [], h0, w0, r⟩ (bodyPostM Fence.wide 0 Tryz.prog fn RR .ret) E (box b6 38 rV (.slice none 0 0) :: box b7 40 rInt e :: R)) :
    K ⟨Tryz.prog, none, N, [⟨.fn (.func 34) [.pointer (some ⟨b6, 0, none⟩), .pointer (some ⟨b7, 0, none⟩)].toArray, #[]⟩], h0, w0, r⟩ (bodyPostM Fence.wide 0 Tryz.prog fn RR (.panic [{ v := .iface 40 (.int .i64 e), recovered := false }])) E (box b6 38 rV x :: box b7 40 rInt y :: R) :=
  K_deferGen (L1 := [box b6 38 rV x, box b7 40 rInt y]) (L2 := [box b6 38 rV (.slice none 0 0), box b7 40 rInt e]) (ch' := [{ v := .iface 40 (.int .i64 e), recovered := true }]) (Tryz.call34 _) rfl (fun _ _ _ _ sp st => recPan sp st) hk
open Go Go.Proofs Go.Proofs.Tryz
def txStep (s : ByteArray) (v : GValue) : ByteArray := s ++ (textV v ++ nlB)
def textK (row : LV) : ByteArray := row.foldl txStep ⟨#[]⟩
theorem textK_snoc {row : LV} {i : Nat} (h : i < row.length) : textK (row.take (i + 1)) = textK (row.take i) ++ (textV (nth row i) ++ nlB) := fold_tk h
theorem textK_size : ∀ (row : LV) (s : ByteArray), (row.foldl txStep s).size ≤ s.size + row.length * 1001
  | [], s => by simp
  | v :: row, s => by
    have h := textK_size row (txStep s v)
    have h2 := textV_size v
    have h3 : nlB.size = 1 := rfl
    have h4 : (txStep s v).size = s.size + ((textV v).size + nlB.size) := by unfold txStep; rw [ByteArray.size_append, ByteArray.size_append]
    simp only [List.foldl_cons, List.length_cons]
    omega
theorem textK_le (row : LV) (n : Nat) (h : row.length ≤ n) : (textK row).size ≤ n * 1001 := by
  have := textK_size row ⟨#[]⟩
  have h0 : (⟨#[]⟩ : ByteArray).size = 0 := rfl
  unfold textK; omega
/-- The least and the greatest value. -/
def minStep (m x : GValue) : GValue := if cmpV2 x m < 0 then x else m
def maxStep (m x : GValue) : GValue := if cmpV2 x m > 0 then x else m
def minV (l : LV) : GValue := (l.drop 1).foldl minStep (nth l 0)
def maxV (l : LV) : GValue := (l.drop 1).foldl maxStep (nth l 0)
theorem drop_tk {l : LV} {i : Nat} (h : i < l.length) (h1 : 1 ≤ i) : (l.take (i + 1)).drop 1 = (l.take i).drop 1 ++ [nth l i] := by
  rw [takeB h, List.drop_append_of_le_length (by rw [List.length_take]; omega)]
theorem nth_tk {l : LV} {i : Nat} (h : i ≤ l.length) (h1 : 1 ≤ i) : nth (l.take i) 0 = nth l 0 := by
  match l, i, h1 with
  | [], i, _ => simp
  | a :: l, i + 1, _ => rfl
theorem minV_snoc {l : LV} {i : Nat} (h : i < l.length) (h1 : 1 ≤ i) : minV (l.take (i + 1)) = minStep (minV (l.take i)) (nth l i) := by
  unfold minV; rw [drop_tk h h1, nth_tk (by omega) (by omega), nth_tk (by omega) h1, List.foldl_append]; rfl
theorem maxV_snoc {l : LV} {i : Nat} (h : i < l.length) (h1 : 1 ≤ i) : maxV (l.take (i + 1)) = maxStep (maxV (l.take i)) (nth l i) := by
  unfold maxV; rw [drop_tk h h1, nth_tk (by omega) (by omega), nth_tk (by omega) h1, List.foldl_append]; rfl
theorem minV_one {l : LV} (h : 0 < l.length) : minV (l.take 1) = nth l 0 := by
  match l, h with
  | a :: l, _ => rfl
theorem maxV_one {l : LV} (h : 0 < l.length) : maxV (l.take 1) = nth l 0 := by
  match l, h with
  | a :: l, _ => rfl
/-- What is aggregated. -/
def valC (col : Int) (l : List LV) : LV := (l.filter fun r => !decide ((nth r col.toNat).Kind = 0)).map fun r => nth r col.toNat
def sumVC (col : Int) (l : List LV) : Int := ((valC col l).map GValue.N).sum
def aggB (p : GPlan) (l : List LV) : Bool := !(decide (p.Agg = 2) && (decide (sumVC p.Col l < -1000000000) || decide (1000000000 < sumVC p.Col l)))
def aggV (p : GPlan) (l : List LV) : GValue :=
  if p.Agg = 1 then ⟨2, l.length, ⟨#[]⟩⟩ else if p.Agg = 2 then ⟨2, sumVC p.Col l, ⟨#[]⟩⟩ else if valC p.Col l = [] then ⟨0, 0, ⟨#[]⟩⟩ else if p.Agg = 3 then minV (valC p.Col l) else maxV (valC p.Col l)
section
variable {col : Int} {l : List LV} {i : Nat}
theorem valC_t (h : i < l.length) (hk : ¬ (nth (nth l i) col.toNat).Kind = 0) : valC col (l.take (i + 1)) = valC col (l.take i) ++ [nth (nth l i) col.toNat] := by
  unfold valC; rw [takeB h, List.filter_append]; simp [hk]
theorem valC_f (h : i < l.length) (hk : (nth (nth l i) col.toNat).Kind = 0) : valC col (l.take (i + 1)) = valC col (l.take i) := by
  unfold valC; rw [takeB h, List.filter_append]; simp [hk]
theorem sumVC_t (h : i < l.length) (hk : ¬ (nth (nth l i) col.toNat).Kind = 0) : sumVC col (l.take (i + 1)) = sumVC col (l.take i) + (nth (nth l i) col.toNat).N := by
  unfold sumVC; rw [valC_t h hk]; simp
theorem sumVC_f (h : i < l.length) (hk : (nth (nth l i) col.toNat).Kind = 0) : sumVC col (l.take (i + 1)) = sumVC col (l.take i) := by unfold sumVC; rw [valC_f h hk]
theorem valC_len : (valC col l).length ≤ l.length := by unfold valC; rw [List.length_map]; exact List.length_filter_le _ _
end
theorem sumVC_bd (col : Int) : ∀ (l : List LV), (∀ r ∈ l, -1000000000 ≤ (nth r col.toNat).N ∧ (nth r col.toNat).N ≤ 1000000000) → -1000000000 * (l.length : Int) ≤ sumVC col l ∧ sumVC col l ≤ 1000000000 * (l.length : Int)
  | [], _ => by simp [sumVC, valC]
  | r :: l, h => by
    have h1 := sumVC_bd col l fun x hx => h x (by simp [hx])
    have h2 := h r (by simp)
    by_cases hk : (nth r col.toNat).Kind = 0
    · have e : sumVC col (r :: l) = sumVC col l := by unfold sumVC valC; simp [hk]
      rw [e]; simp only [List.length_cons]; omega
    · have e : sumVC col (r :: l) = (nth r col.toNat).N + sumVC col l := by unfold sumVC valC; simp [hk]
      rw [e]; simp only [List.length_cons]; omega
theorem ifv_sub {T : Nat} {x : Value} : Sub (tIf T (tV x)) (tV (.iface T x)) := fun h v ⟨u, e, a⟩ => by
  have a : u = x := a
  subst a; exact e
set_option maxHeartbeats 1000000 in
theorem textF_spec (row : LV) (hl : row.length ≤ 1000000) : Fun1 prog 130 [tSl rValue row] (tV (.string (textK row))) := by
 refine Spec.enter func130 rfl rfl fun h0 w0 fr0 => ?_
 refine Jr (Ja rfl (JL_nil (Jr (Ja rfl (JL_nil ?_)))))
 refine J_seq (Jr (Jm rfl (Js rfl (step_len_sl underlying45 Sr) (Jm rfl (JL_nil ?_)))))
 refine J_block ?_
 refine J_loopL (σ := Nat) (fun i => i ≤ row.length) (fun i => upd (upd (upd (upd env0 3 (tV (.string (textK (row.take i))))) 6 (tSl rValue row)) 7 (tV (.int .i64 row.length))) 8 (tV (.int .i64 i))) (fun i => []) (fun i => row.length - i) 0 (by exact Nat.zero_le _) (zU) (LSub.rfl) ?_
 rintro i hi
 refine Jr (Js rfl (step_lss Sr Sr) (JL_nil (J_seq ?_)))
 refine J_cond Sr (fun h9 => ?_) (fun h9 => ?_)
 ·
  try simp only [NF] at h9
  have hlt : i < row.length := by omega
  have hks := textK_le (row.take i) 1000000 (by rw [List.length_take]; omega)
  have htx := textV_size (nth row i)
  have hnl : (⟨#[10]⟩ : ByteArray).size = 1 := rfl
  have hts : (textV (nth row i) ++ (⟨#[10]⟩ : ByteArray)).size = (textV (nth row i)).size + 1 := by rw [ByteArray.size_append]; rfl
  refine J_skip (J_seq (J_block (Jr ?_)))
  refine Js rfl (step_indexAddr_sl (i := i) underlying45 ty62 Sr Sr (by rfl) (gb (by exact hlt))) ?_
  refine Jl rfl ty62 Sr ?_
  refine Jx rfl (step_alloc (fun w => zeroValue62 w) zr62) fun v5 => ?_
  refine Ju (step_store_box ty62 Sr Sr zS) fun _ => ?_
  refine JL_freeze (t := 5) (Sel.take (Sel.none _)) Frz.box ?_
  refine JL_nil (J_region (Jm rfl (Jl rfl ty62 Sr (Js rfl (step_call0 (Text_spec _) ⟨Sr, trivial⟩ call125) ?_))))
  refine Js rfl (step_add_str Sr Sr (by first | assumption | omega)) ?_
  refine Js rfl (step_add_str Sr Sr (by first | assumption | omega)) ?_
  refine Ja rfl (JL_nil (J_region (Js rfl (step_add Sr Sr z6) (Jm rfl (JL_nil ?_)))))
  refine K_againL (σ := Nat) (s := i) (i + 1) zO zG (.u (.u (.u (SubE.upd (Sub.of_eq (by rw [textK_snoc hlt]; rfl)) SubE.any)))) (LSub.rfl)
 try simp only [NF] at h9
 obtain rfl : i = row.length := by omega
 refine J_exit (Jr (Jm rfl (Ja rfl (JL_nil (J_ret ?_)))))
 have e : textK row = textK (row.take row.length) := by rw [List.take_length]
 rw [e]
 exact K_ret1 (t := 2) rfl () Sr
set_option maxHeartbeats 1000000 in
theorem leastFV_spec (l : LV) (hpos : 0 < l.length) (hl : l.length ≤ 1000000000) : Fun1 prog 169 [tSl rValue l, tV (.func (.func 109) #[] #[])] (rValue.ty (minV l)) := by
 refine Spec.enter func169 rfl rfl fun h0 w0 fr0 => ?_
 refine Jr ?_
 refine Jx rfl (step_alloc (fun w => zeroValue62 w) zr62) fun b4 => ?_
 refine JL_nil (J_seq (Jr (Jm rfl (Js rfl (step_len_sl underlying45 Sr) (Js rfl (step_lss Sr Sr) ?_)))))
 refine JL_nil ?_
 refine J_cond Sr (fun h9 => ?_) (fun h9 => ?_)
 ·
  try simp only [NF] at h9
  omega
 try simp only [NF] at h9
 refine J_skip (Jr (Jm rfl ?_))
 refine Js rfl (step_indexAddr_sl (i := 0) underlying45 ty62 Sr Sr (by rfl) (gb (by exact hpos))) ?_
 refine Jl rfl ty62 Sr ?_
 refine Jx rfl (step_alloc (fun w => zeroValue62 w) zr62) fun b5 => ?_
 refine Ju (step_store_box ty62 Sr Sr zS) fun _ => ?_
 refine JL_nil (J_seq (Jr (Ja rfl (JL_nil (J_block ?_)))))
 refine J_loopL (σ := Nat) (fun i => 1 ≤ i ∧ i ≤ l.length) (fun i => upd (upd (upd (upd (upd env0 0 (tSl rValue l)) 1 (tV (.func (.func 109) #[] #[]))) 4 (tAt b4 0)) 5 (tAt b5 0)) 6 (tV (.int .i64 i))) (fun i => [box b5 62 rValue (minV (l.take i)), box b4 62 rValue zValue]) (fun i => l.length - i) 1 ⟨Nat.le_refl _, hpos⟩ (zU) (.c zS (SPs.of (A := box b5 62 rValue (nth l 0)) (by rw [minV_one hpos])) (zL)) ?_
 rintro i ⟨h1, hi⟩
 refine J_seq (Jr (Jm rfl (Jm rfl (Js rfl (step_len_sl underlying45 Sr) (Js rfl (step_lss Sr Sr) ?_)))))
 refine JL_nil ?_
 refine J_cond Sr (fun h17 => ?_) (fun h17 => ?_)
 ·
  try simp only [NF] at h17
  have hlt : i < l.length := by omega
  refine J_skip (J_seq (J_block (J_seq ?_)))
  refine J_draw [⟨0, [1], true⟩, ⟨1, [0], true⟩, ⟨2, [6], true⟩, ⟨3, [21, 22], true⟩, ⟨4, [23], true⟩, ⟨5, [5], false⟩, ⟨6, [20, 24, 25], true⟩, ⟨7, [26], true⟩] rfl (by kernel_rfl) ?_
  refine Mv rfl rfl (Mv rfl rfl (Mv rfl rfl ?_))
  refine Mf rfl rfl (step_indexAddr_sl (i := i) underlying45 ty62 Sr Sr (by rfl) (gb (by exact hlt))) ?_
  refine Mf rfl rfl (step_load_ptr ty62 Sr) ?_
  refine JM_look rfl rfl rfl rfl (step_load_box ty62 Sr zS) ?_
  refine Mf rfl rfl (step_callv0 (aT := [_, _]) Sub.clo0 (Compare_spec (nth l i) (minV (l.take i))) ⟨Sr, Sr, trivial⟩ call109) (Mf rfl rfl (step_lss Sr Sr) (JM_nil ?_))
  refine J_cond Sr (fun h27 => ?_) (fun h27 => ?_)
  ·
   try simp only [NF] at h27
   refine J_region (Jm rfl (Jm rfl ?_))
   refine Js rfl (step_indexAddr_sl (i := i) underlying45 ty62 Sr Sr (by rfl) (gb (by exact hlt))) ?_
   refine Jl rfl ty62 Sr ?_
   refine Ju (step_store_box ty62 Sr Sr zS) fun _ => ?_
   refine JL_nil (J_region (Jm rfl (Js rfl (step_add Sr Sr z6) (Ja rfl (JL_nil ?_)))))
   refine K_againL (σ := Nat) (s := i) (i + 1) zO ⟨by omega, by omega⟩ (zU) (.c zS (SPs.of (A := box b5 62 rValue (nth l i)) (by rw [minV_snoc hlt h1, minStep, if_pos zG])) (zL))
  try simp only [NF] at h27
  refine J_skip (J_region (Jm rfl (Js rfl (step_add Sr Sr z6) (Ja rfl (JL_nil ?_)))))
  refine K_againL (σ := Nat) (s := i) (i + 1) zO ⟨by omega, by omega⟩ (zU) (.c zS (SPs.of (A := box b5 62 rValue (minV (l.take i))) (by rw [minV_snoc hlt h1, minStep, if_neg zG])) (zL))
 try simp only [NF] at h17
 obtain rfl : i = l.length := by omega
 refine J_exit (Jr ?_)
 refine Js rfl (step_load_box ty62 Sr zS) ?_
 refine Ju (step_store_box ty62 Sr Sr zS) fun _ => ?_
 refine JL_nil (J_ret ?_)
 have e : minV l = minV (l.take l.length) := by rw [List.take_length]
 rw [e]
 exact K_ret1' (rv := .cell 4 62) rfl () (Sel.all _) (.cell (R := rValue) ty62 Sr zS Sr) (Frz.sub Sr)
set_option maxHeartbeats 1000000 in
theorem mostFV_spec (l : LV) (hpos : 0 < l.length) (hl : l.length ≤ 1000000000) : Fun1 prog 170 [tSl rValue l, tV (.func (.func 109) #[] #[])] (rValue.ty (maxV l)) := by
 refine Spec.enter func170 rfl rfl fun h0 w0 fr0 => ?_
 refine Jr ?_
 refine Jx rfl (step_alloc (fun w => zeroValue62 w) zr62) fun b4 => ?_
 refine JL_nil (J_seq (Jr (Jm rfl (Js rfl (step_len_sl underlying45 Sr) (Js rfl (step_lss Sr Sr) ?_)))))
 refine JL_nil ?_
 refine J_cond Sr (fun h9 => ?_) (fun h9 => ?_)
 ·
  try simp only [NF] at h9
  omega
 try simp only [NF] at h9
 refine J_skip (Jr (Jm rfl ?_))
 refine Js rfl (step_indexAddr_sl (i := 0) underlying45 ty62 Sr Sr (by rfl) (gb (by exact hpos))) ?_
 refine Jl rfl ty62 Sr ?_
 refine Jx rfl (step_alloc (fun w => zeroValue62 w) zr62) fun b5 => ?_
 refine Ju (step_store_box ty62 Sr Sr zS) fun _ => ?_
 refine JL_nil (J_seq (Jr (Ja rfl (JL_nil (J_block ?_)))))
 refine J_loopL (σ := Nat) (fun i => 1 ≤ i ∧ i ≤ l.length) (fun i => upd (upd (upd (upd (upd env0 0 (tSl rValue l)) 1 (tV (.func (.func 109) #[] #[]))) 4 (tAt b4 0)) 5 (tAt b5 0)) 6 (tV (.int .i64 i))) (fun i => [box b5 62 rValue (maxV (l.take i)), box b4 62 rValue zValue]) (fun i => l.length - i) 1 ⟨Nat.le_refl _, hpos⟩ (zU) (.c zS (SPs.of (A := box b5 62 rValue (nth l 0)) (by rw [maxV_one hpos])) (zL)) ?_
 rintro i ⟨h1, hi⟩
 refine J_seq (Jr (Jm rfl (Jm rfl (Js rfl (step_len_sl underlying45 Sr) (Js rfl (step_lss Sr Sr) ?_)))))
 refine JL_nil ?_
 refine J_cond Sr (fun h17 => ?_) (fun h17 => ?_)
 ·
  try simp only [NF] at h17
  have hlt : i < l.length := by omega
  refine J_skip (J_seq (J_block (J_seq ?_)))
  refine J_draw [⟨0, [1], true⟩, ⟨1, [0], true⟩, ⟨2, [6], true⟩, ⟨3, [21, 22], true⟩, ⟨4, [23], true⟩, ⟨5, [5], false⟩, ⟨6, [20, 24, 25], true⟩, ⟨7, [26], true⟩] rfl (by kernel_rfl) ?_
  refine Mv rfl rfl (Mv rfl rfl (Mv rfl rfl ?_))
  refine Mf rfl rfl (step_indexAddr_sl (i := i) underlying45 ty62 Sr Sr (by rfl) (gb (by exact hlt))) ?_
  refine Mf rfl rfl (step_load_ptr ty62 Sr) ?_
  refine JM_look rfl rfl rfl rfl (step_load_box ty62 Sr zS) ?_
  refine Mf rfl rfl (step_callv0 (aT := [_, _]) Sub.clo0 (Compare_spec (nth l i) (maxV (l.take i))) ⟨Sr, Sr, trivial⟩ call109) (Mf rfl rfl (step_gtr Sr Sr) (JM_nil ?_))
  refine J_cond Sr (fun h27 => ?_) (fun h27 => ?_)
  ·
   try simp only [NF] at h27
   refine J_region (Jm rfl (Jm rfl ?_))
   refine Js rfl (step_indexAddr_sl (i := i) underlying45 ty62 Sr Sr (by rfl) (gb (by exact hlt))) ?_
   refine Jl rfl ty62 Sr ?_
   refine Ju (step_store_box ty62 Sr Sr zS) fun _ => ?_
   refine JL_nil (J_region (Jm rfl (Js rfl (step_add Sr Sr z6) (Ja rfl (JL_nil ?_)))))
   refine K_againL (σ := Nat) (s := i) (i + 1) zO ⟨by omega, by omega⟩ (zU) (.c zS (SPs.of (A := box b5 62 rValue (nth l i)) (by rw [maxV_snoc hlt h1, maxStep, if_pos zG])) (zL))
  try simp only [NF] at h27
  refine J_skip (J_region (Jm rfl (Js rfl (step_add Sr Sr z6) (Ja rfl (JL_nil ?_)))))
  refine K_againL (σ := Nat) (s := i) (i + 1) zO ⟨by omega, by omega⟩ (zU) (.c zS (SPs.of (A := box b5 62 rValue (maxV (l.take i))) (by rw [maxV_snoc hlt h1, maxStep, if_neg zG])) (zL))
 try simp only [NF] at h17
 obtain rfl : i = l.length := by omega
 refine J_exit (Jr ?_)
 refine Js rfl (step_load_box ty62 Sr zS) ?_
 refine Ju (step_store_box ty62 Sr Sr zS) fun _ => ?_
 refine JL_nil (J_ret ?_)
 have e : maxV l = maxV (l.take l.length) := by rw [List.take_length]
 rw [e]
 exact K_ret1' (rv := .cell 4 62) rfl () (Sel.all _) (.cell (R := rValue) ty62 Sr zS Sr) (Frz.sub Sr)
open Go Go.Proofs Go.Proofs.Tryz
def NumOk (l : List LV) : Prop := ∀ r ∈ l, ∀ c, -1000000000 ≤ (nth r c).N ∧ (nth r c).N ≤ 1000000000
def grStep (cols : List Int) (st : List LV × List (ByteArray × List LV)) (r : LV) : List LV × List (ByteArray × List LV) :=
  (if (byG st.2 (textK (pickW r cols))).length = 0 ∧ 0 < cols.length then st.1 ++ [pickW r cols] else st.1, bputR st.2 (textK (pickW r cols)) r)
def key0 (cols : List Int) : List LV := if cols.length = 0 then [[]] else []
/-- The keys of the groups, and the rows of each. -/
def grM (cols : List Int) (rows : List LV) : List LV × List (ByteArray × List LV) := rows.foldl (grStep cols) (key0 cols, [])
def gaB (p : GPlan) (rows : List LV) : Bool := (grM p.Cols rows).1.all fun k => aggB p (byG (grM p.Cols rows).2 (textK k))
def gaO (p : GPlan) (rows : List LV) (k : Nat) : List LV := ((grM p.Cols rows).1.take k).map fun q => q ++ [aggV p (byG (grM p.Cols rows).2 (textK q))]
def gaR (p : GPlan) (rows : List LV) : List LV := (grM p.Cols rows).1.map fun q => q ++ [aggV p (byG (grM p.Cols rows).2 (textK q))]
theorem gaO_succ {p : GPlan} {rows : List LV} {k : Nat} (h : k < (grM p.Cols rows).1.length) : gaO p rows (k + 1) = gaO p rows k ++ [nth (grM p.Cols rows).1 k ++ [aggV p (byG (grM p.Cols rows).2 (textK (nth (grM p.Cols rows).1 k)))]] := by
  unfold gaO; rw [takeB h, List.map_append]; rfl
theorem gaO_all (p : GPlan) (rows : List LV) : gaO p rows (grM p.Cols rows).1.length = gaR p rows := by unfold gaO gaR; rw [List.take_length]
theorem pickW_len (r : LV) (cols : List Int) : (pickW r cols).length ≤ cols.length := by unfold pickW pickV; split <;> simp
section
variable {cols : List Int} {l : List LV} {i : Nat}
theorem grM_snoc (h : i < l.length) : grM cols (l.take (i + 1)) = grStep cols (grM cols (l.take i)) (nth l i) := fold_tk h
theorem grM_2 (h : i < l.length) : (grM cols (l.take (i + 1))).2 = bputR (grM cols (l.take i)).2 (textK (pickW (nth l i) cols)) (nth l i) := by rw [grM_snoc h]; rfl
theorem grM_1t (h : i < l.length) (hc : (byG (grM cols (l.take i)).2 (textK (pickW (nth l i) cols))).length = 0 ∧ 0 < cols.length) : (grM cols (l.take (i + 1))).1 = (grM cols (l.take i)).1 ++ [pickW (nth l i) cols] := by
  rw [grM_snoc h]; show (grStep cols _ _).1 = _; unfold grStep; rw [if_pos hc]
theorem grM_1f (h : i < l.length) (hc : ¬ ((byG (grM cols (l.take i)).2 (textK (pickW (nth l i) cols))).length = 0 ∧ 0 < cols.length)) : (grM cols (l.take (i + 1))).1 = (grM cols (l.take i)).1 := by
  rw [grM_snoc h]; show (grStep cols _ _).1 = _; unfold grStep; rw [if_neg hc]
end
theorem grM_ok (cols : List Int) (rows : List LV) : (∀ k ∈ (grM cols rows).1, k.length ≤ cols.length) ∧ (grM cols rows).1.length ≤ rows.length + 1 ∧ ∀ q, (byG (grM cols rows).2 q).length ≤ rows.length ∧ ∀ r ∈ byG (grM cols rows).2 q, r ∈ rows := by
  have H : ∀ i, i ≤ rows.length → (∀ k ∈ (grM cols (rows.take i)).1, k.length ≤ cols.length) ∧ (grM cols (rows.take i)).1.length ≤ i + 1 ∧ ∀ q, (byG (grM cols (rows.take i)).2 q).length ≤ i ∧ ∀ r ∈ byG (grM cols (rows.take i)).2 q, r ∈ rows := by
    intro i
    induction i with
    | zero =>
      intro _
      refine ⟨fun k hk => ?_, ?_, fun q => ⟨by simp [grM, byG, mget], fun r hr => by simp [grM, byG, mget] at hr⟩⟩
      · have : k ∈ key0 cols := hk
        unfold key0 at this; split at this
        · rw [List.mem_singleton.1 this]; simp
        · cases this
      · show (key0 cols).length ≤ 1
        unfold key0; split <;> simp
    | succ i ih =>
      intro hi
      obtain ⟨h1, h2, h3⟩ := ih (by omega)
      have e2 := grM_2 (cols := cols) (l := rows) (i := i) (by omega)
      refine ⟨fun k hk => ?_, ?_, fun q => ?_⟩
      · by_cases hc : (byG (grM cols (rows.take i)).2 (textK (pickW (nth rows i) cols))).length = 0 ∧ 0 < cols.length
        · rw [grM_1t (by omega) hc] at hk
          rcases List.mem_append.1 hk with hk | hk
          · exact h1 k hk
          · rw [List.mem_singleton.1 hk]; exact pickW_len _ _
        · rw [grM_1f (by omega) hc] at hk; exact h1 k hk
      · by_cases hc : (byG (grM cols (rows.take i)).2 (textK (pickW (nth rows i) cols))).length = 0 ∧ 0 < cols.length
        · rw [grM_1t (by omega) hc]; simp; omega
        · rw [grM_1f (by omega) hc]; omega
      · rw [e2, byG_put]
        have hb := h3 (textK (pickW (nth rows i) cols))
        split
        · refine ⟨by simp; omega, fun r hr => ?_⟩
          rcases List.mem_append.1 hr with hr | hr
          · exact hb.2 r hr
          · rw [List.mem_singleton.1 hr]; exact nth_mem (by omega)
        · exact ⟨by have := (h3 q).1; omega, (h3 q).2⟩
  have := H rows.length (Nat.le_refl _)
  rwa [List.take_length] at this
set_option maxHeartbeats 4000000 in
theorem aggregate_spec (n : Nat) (p : GPlan) (l : List LV) (hl : l.length ≤ 4000) (hc : p.Agg ≠ 1 → 0 ≤ p.Col) (hr : p.Agg ≠ 1 → ∀ r ∈ l, p.Col < (r.length : Int)) (hN : NumOk l) : SpecP (X := PLift (aggB p l = true)) prog 131 [(rPlan (n + 1)).ty p, tSl (rSl rValue) l] ([]) (fun _ => rValue.ty (aggV p l)) (fun _ => []) (PanE (aggB p l = false)) := by
  refine SpecP.enter func131 rfl rfl fun h0 w0 fr0 => ?_
  refine Jr ?_
  refine Js rfl (step_box (R := (rPlan (n + 1))) Sr) ?_
  refine JL_stepX rfl rfl rfl (step_alloc (fun w => zeroValue62 w) zr62) fun b4 => ?_
  refine JL_nil ?_
  refine J_seq ?_
  refine Jr ?_
  refine Js rfl (step_fieldAddr so30 Sr rfl) ?_
  refine Jl rfl ty3 Sr ?_
  refine Js rfl (step_eql Sr Sr) ?_
  refine JL_nil ?_
  refine J_cond Sr (fun h12 => ?_) (fun h12 => ?_)
  · try simp only [NF] at h12
    refine Jr ?_
    refine Jm rfl ?_
    refine Js rfl (step_len_sl underlying38 Sr) ?_
    refine Js rfl (step_build (x := (⟨2, l.length, ⟨#[]⟩⟩ : GValue)) (zs := [[Value.int .i64 0], [Value.int .i64 0], [Value.string ⟨#[]⟩]]) so62 (fun w => zeroValue62 w) ⟨Sr, Sr, trivial⟩ ⟨⟨Sr, rfl⟩, ⟨Sr, rfl⟩, fun _ => rfl, trivial⟩) ?_
    refine JL_stepU rfl rfl (step_store_box ty62 Sr Sr zS) fun _ => ?_
    refine JL_nil ?_
    refine J_ret ?_
    have e : aggV p l = ⟨2, l.length, ⟨#[]⟩⟩ := by rw [aggV, if_pos h12]
    have hB : aggB p l = true := by unfold aggB; rw [h12]; rfl
    rw [e]
    refine K_toP ?_
    exact K_ret1' (rv := .cell 4 62) rfl (PLift.up hB) (Sel.all _) (.cell (R := rValue) ty62 Sr zS Sr) (Frz.sub Sr)
  · try simp only [NF] at h12
    have hc0 := hc h12
    have hr0 := hr h12
    refine J_skip ?_
    refine Jr ?_
    refine Ja rfl ?_
    refine JL_nil ?_
    refine Jr ?_
    refine Ja rfl ?_
    refine JL_nil ?_
    refine J_seq ?_
    refine Jr ?_
    refine Jm rfl ?_
    refine Js rfl (step_len_sl underlying38 Sr) ?_
    refine Jm rfl ?_
    refine JL_nil ?_
    refine J_block ?_
    refine J_loopL (σ := Nat × Value) (fun ⟨i, vv⟩ => i ≤ l.length) (fun ⟨i, vv⟩ => upd (upd (upd (upd (upd (upd (upd env0 2 (tPtr (rPlan (n + 1)) p)) 4 (tAt b4 0)) 5 (rV.ty vv)) 6 (tV (.int .i64 (sumVC p.Col (l.take i))))) 16 (tSl (rSl rValue) l)) 17 (tV (.int .i64 l.length))) 18 (tV (.int .i64 i))) (fun ⟨i, vv⟩ => [own 62 rValue vv (valC p.Col (l.take i)), box b4 62 rValue zValue]) (fun ⟨i, vv⟩ => l.length - i) (0, .slice none 0 0) (by exact Nat.zero_le _) (SubE.upd Sr (SubE.upd Sr (SubE.upd Sr (SubE.upd Sr (SubE.upd (Sub.rV rfl) (SubE.upd Sr (SubE.upd Sr SubE.any))))))) (LSub.nilown) ?_
    rintro ⟨i, vv⟩ hi
    try dsimp only at hi
    refine Jr ?_
    refine Js rfl (step_lss Sr Sr) ?_
    refine JL_nil ?_
    refine J_seq ?_
    refine J_cond Sr (fun h19 => ?_) (fun h19 => ?_)
    · try simp only [NF] at h19
      have hlt : i < l.length := by omega
      have hri := hr0 _ (nth_mem hlt)
      have hni := hN _ (nth_mem hlt) p.Col.toNat
      have hsb := sumVC_bd p.Col (l.take i) (fun r h => hN r (List.mem_of_mem_take h) _)
      rw [List.length_take] at hsb
      have hvl := valC_len (col := p.Col) (l := l.take i)
      rw [List.length_take] at hvl
      refine J_skip ?_
      refine J_seq ?_
      refine J_block ?_
      refine Jr ?_
      refine Js rfl (step_indexAddr_sl (i := i) underlying38 ty45 Sr Sr ?sg1 (gb ?sg2)) ?_
      case sg1 => rfl
      case sg2 => exact hlt
      refine Jl rfl ty45 Sr ?_
      refine Ja rfl ?_
      refine JL_nil ?_
      refine Jr ?_
      refine Jm rfl ?_
      refine Js rfl (step_fieldAddr so30 Sr rfl) ?_
      refine Jl rfl ty3 Sr ?_
      refine Js rfl (step_indexAddr_sl (i := p.Col.toNat) underlying45 ty62 Sr Sr ?sg1 (gb ?sg2)) ?_
      case sg1 => show p.Col = _; omega
      case sg2 => omega
      refine Jl rfl ty62 Sr ?_
      refine JL_stepX rfl rfl rfl (step_alloc (fun w => zeroValue62 w) zr62) fun v9 => ?_
      refine JL_stepU rfl rfl (step_store_box ty62 Sr Sr zS) fun _ => ?_
      refine JL_freeze (t := 9) (Sel.take (Sel.none _)) Frz.box ?_
      refine JL_nil ?_
      refine Jr ?_
      refine Js rfl (step_fieldAddr so62 Sr rfl) ?_
      refine Jl rfl ty3 Sr ?_
      refine Js rfl (step_neq Sr Sr) ?_
      refine JL_nil ?_
      refine J_cond Sr (fun h29 => ?_) (fun h29 => ?_)
      · try simp only [NF] at h29
        refine Jr ?_
        refine Jm rfl ?_
        refine Jl rfl ty62 Sr ?_
        refine Js rfl (step_literal (ys := [_]) underlying45 el62 ⟨rfl, Sr, trivial⟩ rfl (by decide)) ?_
        refine JL_stepX rfl rfl rfl (step_append underlying45 el62 Sr Sr zS (by simp; omega) (by simp; omega)) fun v33 => ?_
        refine Ja rfl ?_
        refine JL_nil ?_
        refine J_region ?_
        refine Jm rfl ?_
        refine Js rfl (step_fieldAddr so62 Sr rfl) ?_
        refine Jl rfl ty3 Sr ?_
        refine Js rfl (step_add Sr Sr (by show in64 (sumVC p.Col (l.take i) + (nth (nth l i) p.Col.toNat).N); unfold in64; omega)) ?_
        refine Ja rfl ?_
        refine JL_nil ?_
        refine J_region ?_
        refine Js rfl (step_add Sr Sr ?sg1) ?_
        case sg1 => unfold in64; omega
        refine Jm rfl ?_
        refine JL_nil ?_
        refine K_againL (σ := Nat × Value) (s := (i, vv)) (i + 1, v33) (by first | omega | (dsimp only; omega) | (simp_all; omega)) (by show i + 1 ≤ _; omega) (SubE.upd Sr (SubE.upd Sr (SubE.upd Sr (SubE.upd (Sub.int (by rw [sumVC_t hlt h29])) (SubE.upd Sr (SubE.upd Sr (SubE.upd Sr SubE.any))))))) (LSub.cons zS (SPs.of (A := own 62 rValue v33 (valC p.Col (l.take i) ++ [nth (nth l i) p.Col.toNat])) (by rw [valC_t hlt h29])) (LSub.cons zS (SPs.rfl) (LSub.nil)))
      · try simp only [NF] at h29
        refine J_skip ?_
        refine J_region ?_
        refine Js rfl (step_add Sr Sr ?sg1) ?_
        case sg1 => unfold in64; omega
        refine Jm rfl ?_
        refine JL_nil ?_
        refine K_againL (σ := Nat × Value) (s := (i, vv)) (i + 1, vv) (by first | omega | (dsimp only; omega) | (simp_all; omega)) (by show i + 1 ≤ _; omega) (SubE.upd Sr (SubE.upd Sr (SubE.upd Sr (SubE.upd (Sub.int (by rw [sumVC_f hlt h29])) (SubE.upd Sr (SubE.upd Sr (SubE.upd Sr SubE.any))))))) (LSub.cons zS (SPs.of (A := own 62 rValue vv (valC p.Col (l.take i))) (by rw [valC_f hlt h29])) (LSub.cons zS (SPs.rfl) (LSub.nil)))
    · try simp only [NF] at h19
      obtain rfl : i = l.length := by omega
      simp only [List.take_length]
      have hvl := valC_len (col := p.Col) (l := l)
      refine J_exit ?_
      refine J_seq ?_
      refine J_block ?_
      refine Jr ?_
      refine Js rfl (step_fieldAddr so30 Sr rfl) ?_
      refine Jl rfl ty3 Sr ?_
      refine Js rfl (step_eql Sr Sr) ?_
      refine Jm rfl ?_
      refine JL_stepG rfl rfl rfl (Gd.plain Sr) rfl rfl (fun hw => step_move Sr) ?_
      refine JL_stepG rfl rfl rfl (Gd.plain Sr) rfl rfl (fun hw => step_lss (Sub.w hw) Sr) ?_
      refine JL_stepG rfl rfl rfl (Gd.plain Sr) rfl rfl (fun hw => step_move (Sub.w hw)) ?_
      refine JL_stepG rfl rfl rfl (Gd.nest Sr) rfl rfl (fun hw => step_move Sr) ?_
      refine JL_stepG rfl rfl rfl (Gd.nest Sr) rfl rfl (fun hw => step_gtr (Sub.w hw) Sr) ?_
      refine JL_stepG rfl rfl rfl (Gd.plain Sr) rfl rfl (fun hw => step_pick_or (Sub.w hw) (Sub.ww hw)) ?_
      refine Js rfl (step_pick_and Sr Sr) ?_
      refine Ja rfl ?_
      refine JL_nil ?_
      refine J_cond Sr (fun h39 => ?_) (fun h39 => ?_)
      · try simp only [NF] at h39
        refine J_region ?_
        refine Js rfl (step_mkIface underlying40 (by intro m h; cases h) Sr) ?_
        refine JL_panic (Sub.trans Sr ifv_sub) (panOk (ψ := PanE (aggB p l = false)) (fun _ h => h) _ ⟨?_, 2, by decide, rfl⟩)
        unfold aggB; simp only [decide_eq_true h39.1, Bool.true_and, Bool.not_eq_false', Bool.or_eq_true, decide_eq_true_eq]; exact h39.2
      · try simp only [NF] at h39
        refine Jr ?_
        refine Js rfl (step_fieldAddr so30 Sr rfl) ?_
        refine Jl rfl ty3 Sr ?_
        refine Js rfl (step_eql Sr Sr) ?_
        refine Ja rfl ?_
        refine JL_nil ?_
        refine J_cond Sr (fun h52 => ?_) (fun h52 => ?_)
        · try simp only [NF] at h52
          refine Jr ?_
          refine Jm rfl ?_
          refine Js rfl (step_build (x := (⟨2, sumVC p.Col l, ⟨#[]⟩⟩ : GValue)) (zs := [[Value.int .i64 0], [Value.int .i64 0], [Value.string ⟨#[]⟩]]) so62 (fun w => zeroValue62 w) ⟨Sr, Sr, trivial⟩ ⟨⟨Sr, rfl⟩, ⟨Sr, rfl⟩, fun _ => rfl, trivial⟩) ?_
          refine JL_stepU rfl rfl (step_store_box ty62 Sr Sr zS) fun _ => ?_
          refine JL_nil ?_
          refine J_ret ?_
          have e : aggV p l = ⟨2, sumVC p.Col l, ⟨#[]⟩⟩ := by rw [aggV, if_neg h12, if_pos h52]
          have hB : aggB p l = true := by
            have h39 : ¬ (p.Agg = 2 ∧ (sumVC p.Col l < -1000000000 ∨ 1000000000 < sumVC p.Col l)) := by intro q; simp_all <;> omega
            unfold aggB
            rw [Bool.not_eq_true', Bool.and_eq_false_iff]
            right
            rw [Bool.or_eq_false_iff, decide_eq_false_iff_not, decide_eq_false_iff_not]
            omega
          rw [e]
          refine K_toP ?_
          exact K_ret1' (rv := .cell 4 62) rfl (PLift.up hB) (Sel.all _) (.cell (R := rValue) ty62 Sr zS Sr) (Frz.sub Sr)
        · try simp only [NF] at h52
          refine Jr ?_
          refine Jm rfl ?_
          refine Js rfl (step_len_own underlying45 Sr zS) ?_
          refine Js rfl (step_eql Sr Sr) ?_
          refine Ja rfl ?_
          refine JL_nil ?_
          refine J_cond Sr (fun h58 => ?_) (fun h58 => ?_)
          · try simp only [NF] at h58
            refine Jr ?_
            refine Js rfl (step_build (x := (⟨0, 0, ⟨#[]⟩⟩ : GValue)) (zs := [[Value.int .i64 0], [Value.int .i64 0], [Value.string ⟨#[]⟩]]) so62 (fun w => zeroValue62 w) trivial ⟨fun _ => rfl, fun _ => rfl, fun _ => rfl, trivial⟩) ?_
            refine JL_stepU rfl rfl (step_store_box ty62 Sr Sr zS) fun _ => ?_
            refine JL_nil ?_
            refine J_ret ?_
            have e : aggV p l = ⟨0, 0, ⟨#[]⟩⟩ := by rw [aggV, if_neg h12, if_neg h52, if_pos (List.length_eq_zero_iff.1 (by omega))]
            have hB : aggB p l = true := by unfold aggB; simp [h52]
            rw [e]
            refine K_toP ?_
            exact K_ret1' (rv := .cell 4 62) rfl (PLift.up hB) (Sel.all _) (.cell (R := rValue) ty62 Sr zS Sr) (Frz.sub Sr)
          · try simp only [NF] at h58
            have hne : (valC p.Col l) ≠ [] := fun q => h58 (by rw [q]; rfl)
            refine Jr ?_
            refine Js rfl (step_fieldAddr so30 Sr rfl) ?_
            refine Jl rfl ty3 Sr ?_
            refine Js rfl (step_eql Sr Sr) ?_
            refine Ja rfl ?_
            refine JL_nil ?_
            refine J_cond Sr (fun h63 => ?_) (fun h63 => ?_)
            · try simp only [NF] at h63
              refine Jr ?_
              refine Jm rfl ?_
              refine JL_freeze (t := 67) (A' := tSl rValue (valC p.Col l)) (Sel.take (Sel.none _)) Frz.own ?_
              refine Js rfl (step_call0 (leastFV_spec (valC p.Col l) (by rcases List.length_pos_iff.2 hne with h; omega) (by omega)) ⟨Sr, Sr, trivial⟩ call169) ?_
              refine JL_stepU rfl rfl (step_store_box ty62 Sr Sr zS) fun _ => ?_
              refine JL_nil ?_
              refine J_ret ?_
              have e : aggV p l = minV (valC p.Col l) := by rw [aggV, if_neg h12, if_neg h52, if_neg hne, if_pos h63]
              have hB : aggB p l = true := by unfold aggB; simp [h52]
              rw [e]
              refine K_toP ?_
              exact K_ret1' (rv := .cell 4 62) rfl (PLift.up hB) (Sel.all _) (.cell (R := rValue) ty62 Sr zS Sr) (Frz.sub Sr)
            · try simp only [NF] at h63
              refine J_skip ?_
              refine Jr ?_
              refine Jm rfl ?_
              refine JL_freeze (t := 69) (A' := tSl rValue (valC p.Col l)) (Sel.take (Sel.none _)) Frz.own ?_
              refine Js rfl (step_call0 (mostFV_spec (valC p.Col l) (by rcases List.length_pos_iff.2 hne with h; omega) (by omega)) ⟨Sr, Sr, trivial⟩ call170) ?_
              refine JL_stepU rfl rfl (step_store_box ty62 Sr Sr zS) fun _ => ?_
              refine JL_nil ?_
              refine J_ret ?_
              have e : aggV p l = maxV (valC p.Col l) := by rw [aggV, if_neg h12, if_neg h52, if_neg hne, if_neg h63]
              have hB : aggB p l = true := by unfold aggB; simp [h52]
              rw [e]
              refine K_toP ?_
              exact K_ret1' (rv := .cell 4 62) rfl (PLift.up hB) (Sel.all _) (.cell (R := rValue) ty62 Sr zS Sr) (Frz.sub Sr)
open Go Go.Proofs Go.Proofs.Tryz
/-- A slice of no elements and no room. -/
def tEmp : Ty := ⟨fun _ v => ∃ ao, v = .slice ao 0 0, fun _ h => h⟩
/-- own, or a slice of no elements and no room that lies in immutable memory. -/
def own0 {α : Type} (e : Nat) (R : Rp α) (v : Value) (xs : List α) : SP where
  p := fun h m => (own e R v xs).p h m ∨ (xs = [] ∧ m = PH.emp ∧ ∃ ao, v = .slice ao 0 0)
  mono := fun l r => r.elim (fun a => .inl ((own e R v xs).mono l a)) .inr
section
variable {C : Cx} {E : Env} {L : List SP} {d : Option Nat} {ty : Nat} {pos : String} {af : Array Edge} {g : Option (Nat × Bool)}
theorem step_literal_emp {α : Type} {T e bytes : Nat} {R : Rp α} {z : α} (hu : C.P.underlying T = some (.slice e)) (hE : ElT C.P e R bytes z) :
    Step1 C ⟨d, .buildSlice T 0 #[], ty, pos, af, g⟩ E L tEmp :=
  Step.of_run (by intro c h; cases h) fun a w h m l sp st fr => by
    obtain ⟨cs, r, hrun⟩ := run_literal (w := w) (ps := #[]) (ys := ([] : List α)) (len := 0) hu hE trivial rfl (by omega) fr
    refine ⟨(), .slice (some ⟨w.heap.size, 0, none⟩) 0 0, w.alloc (.cells cs.toArray e), h.join (PH.one w.heap.size (.cells cs.toArray e)), m, ?_, HL.imm _ (PH.le_join_left _ _), sp.allocImm _, (stars L).mono (PH.le_join_left _ _) st, ⟨_, rfl⟩⟩
    simp only [execOp, Sem.run_bind, hrun, Result.andThen_ok]; rfl
theorem step_append_emp {α : Type} {T e bytes : Nat} {R : Rp α} {z : α} {x y : Operand} {ys : List α} (hu : C.P.underlying T = some (.slice e)) (hE : ElT C.P e R bytes z)
    (hx : Sub (opTy E x) tEmp) (hy : Sub (opTy E y) (tSl R ys)) (hb : ys.length * bytes ≤ 140737488355328) (hn : ys.length ≤ 4611686018427387904) :
    Step C ⟨d, .call { callee := .builtin .append, args := #[x, y], argTypes := #[T, T] }, ty, pos, af, g⟩ E L (fun v' : Value => rV.ty v') (fun v' => own0 e R v' ys :: L) :=
  Step.of_run (by intro c h; cases h) fun a w h m l sp st fr => by
    obtain ⟨bo, hv⟩ := fr.get hx
    obtain ⟨ao, c, cs, hyv, rs, H⟩ := tSl.cells (fr.get hy)
    obtain ⟨i, zv, hi, hz, hk, hby, hzr⟩ := hE.inf
    have hop : ∀ u w', (Builtin.append_ #[T, T] ty #[.slice bo 0 0, .slice ao ys.length c]).run C.P w = .ok u w' →
        (execOp a.eval ⟨d, .call { callee := .builtin .append, args := #[x, y], argTypes := #[T, T] }, ty, pos, af, g⟩).run C.P w = .ok (.value u) w' := by
      intro u w' hr
      simp [execOp, resolve, invoke, builtin, hv, hyv, hr]
    have hrl := relAll_len rs
    by_cases hys : ys = []
    · subst hys
      refine ⟨.slice bo 0 0, _, w, h, m, hop _ _ (run_append_zero w T ty e i hu hi bo ao 0 0 c (by omega)), HL.refl, sp, ⟨PH.emp, m, PH.disj_emp_left m, (PH.emp_join m).symm, .inr ⟨rfl, rfl, _, rfl⟩, st⟩, ⟨rfl, rfl⟩⟩
    · obtain ⟨b, off, rfl, HH⟩ := H hys
      have hcell : ∀ j u, cs[j]? = some u → w.cell? ((⟨b, off, none⟩ : Addr).add j) = some u := fun j u hu' => by rw [addr_add]; exact HH.cell sp.hw hu'
      have hpos : 0 < ys.length := List.length_pos_iff.2 hys
      have good : ∀ (cap : Nat), ys.length ≤ cap → cap ≤ maxLen →
          ∃ m', Sep h m' C.r (w.drew.alloc (.cells (cs.toArray ++ Builtin.zeroCells zv.cells (cap - ys.length)) e)) ∧
            (stars (own0 e R (.slice (some ⟨w.heap.size, 0, none⟩) ys.length cap) ys :: L)).p h m' := by
        intro cap hcap hm
        refine ⟨_, sp.drew.allocOwn (w := w.drew) _, _, m, PH.disj_symm (PH.one_disj_new sp.mw _), rfl, .inl (.inr ⟨w.heap.size, cap, _, rfl, rfl, hcap, hm, ?_, ?_⟩), st⟩
        · have hzl := R.len (R.cells (hzr h))
          simp only [Array.size_append, List.size_toArray, hrl, size_zeroCells]
          have : zv.cells.size = R.k := by simpa using hzl
          rw [this, ← Nat.add_mul]; congr 1; omega
        · have e1 : (cs.toArray ++ Builtin.zeroCells zv.cells (cap - ys.length)).toList = cs ++ (Builtin.zeroCells zv.cells (cap - ys.length)).toList := by simp
          rw [e1, List.take_append_of_le_length (by simp [hrl]), List.take_of_length_le (by simp [hrl])]
          exact rs
      cases bo with
      | none =>
        have hr := run_append_nil (P := C.P) w T ty e i zv hu hi hz ⟨b, off, none⟩ ys.length c cs (by rw [hk]; exact hrl) hcell hpos (by omega) (by rw [hby]; omega)
        obtain ⟨m', s1, s3⟩ := good (grownCap w ys.length 0 e) (grownCap_ge w _ _ _) (grownCap_le_maxLen w _ _ _ (by unfold maxLen; omega))
        exact ⟨_, _, _, h, m', hop _ _ hr, HL.same (Same.drewAlloc _ _), s1, s3, ⟨rfl, rfl⟩⟩
      | some b0 =>
        have hr := run_append_grow (P := C.P) w T ty e i zv hu hi hz b0 0 0 [] (by simp) (by simp) ⟨b, off, none⟩ ys.length c cs (by rw [hk]; exact hrl) hcell (by omega) (by omega) (by rw [hby]; exact growslice_fits (by omega) (by rw [Nat.zero_add]; exact hb))
        obtain ⟨m', s1, s3⟩ := good (grownCap w (0 + ys.length) 0 e) (by simpa using grownCap_ge w (0 + ys.length) 0 e) (grownCap_le_maxLen w _ _ _ (by unfold maxLen; omega))
        refine ⟨_, _, _, h, m', hop _ _ hr, HL.same (Same.drewAlloc _ _), ?_, ?_, ⟨rfl, rfl⟩⟩
        · simpa using s1
        · simpa using s3
end
theorem LSub.own0 {α : Type} {e : Nat} {R : Rp α} {v : Value} {xs : List α} {L : List SP} (hne : xs ≠ []) : LSub (Lg.own0 e R v xs :: L) (own e R v xs :: L) := fun h m ⟨m1, m2, d, e, ho, s⟩ =>
  ⟨m1, m2, d, e, ho.elim id (fun q => absurd q.1 hne), s⟩
theorem Frz.own0V {α : Type} {e : Nat} {R : Rp α} {v : Value} {xs : List α} {S : List SP} : Frz (Lg.own0 e R v xs :: S) (tV v) (tSl R xs) := fun h m u d ⟨m1, m2, d12, em, ho, hs⟩ hu => by
  rcases ho with ho | ⟨rfl, rfl, ao, rfl⟩
  · exact Frz.ownV h m u d ⟨m1, m2, d12, em, ho, hs⟩ hu
  · obtain rfl : u = _ := hu
    exact ⟨ao, ⟨0, Nat.le_refl _⟩, rfl, fun q => absurd rfl q⟩
open Go Go.Proofs Go.Proofs.Tryz
theorem Step.freeze {X : Type} {C : Cx} {o : Oper} {E : Env} {L S R : List SP} {A : X → Ty} {L' : X → List SP} {t : Nat} {A' : Ty} (sel : Sel L S R) (f : Frz S (E t) A') (h : Step C o (upd E t A') R A L') : Step C o E L A L' :=
  fun a w hp m n l sp st fr next Q hk => by
  obtain ⟨m1, m2, d12, rfl, s1, s2⟩ := sel.stars.1 st
  have hd := PH.disj_join'.1 sp.hm
  have hle := PH.le_join_left hp m1
  refine h a w (hp.join m1) m2 n (HL.trans l ⟨hle, Same.refl _⟩) (sp.freeze d12) ((stars R).mono hle s2) (fun u => ?_) next Q fun x v w' h' m' l' sp' st' hv => hk x v w' h' m' (HL.trans ⟨hle, Same.refl _⟩ l') sp' st' hv
  unfold upd
  by_cases e : Nat.beq u t = true
  · obtain rfl := Nat.eq_of_beq_eq_true e
    simp only [e, if_true]
    exact f hp m1 _ hd.1 s1 (fr u)
  · simp only [e]
    exact (E u).mono hle (fr u)
theorem Frz.own0 {α : Type} {e : Nat} {R : Rp α} {v : Value} {xs : List α} {S : List SP} : Frz (Lg.own0 e R v xs :: S) (rV.ty v) (tSl R xs) := fun h m u d hs hu => Frz.own0V h m u d hs hu.1
theorem Frz.own0' {α : Type} {e : Nat} {R : Rp α} {v : Value} {xs ys : List α} {S : List SP} (h : xs = ys) : Frz (Lg.own0 e R v xs :: S) (rV.ty v) (tSl R ys) := h ▸ Frz.own0
open Go Go.Proofs Go.Proofs.Tryz
set_option maxHeartbeats 4000000 in
theorem evGrp_spec (e : Gev) (n : Nat) (p : GPlan) (l : List (List LV)) (hpos : 0 < l.length) (hl : (nth l 0).length ≤ 4000) (hcl : p.Cols.length ≤ 1000) (hc : p.Agg ≠ 1 → 0 ≤ p.Col) (hr : p.Agg ≠ 1 → ∀ r ∈ (nth l 0), p.Col < (r.length : Int)) (hN : NumOk (nth l 0)) : SpecP (X := PLift (gaB p (nth l 0) = true)) prog 81 [tPtr rev e, (rPlan (n + 1)).ty p, tSl (rSl (rSl rValue)) l] ([]) (fun _ => tSl (rSl rValue) (gaR p (nth l 0))) (fun _ => []) (PanE (gaB p (nth l 0) = false)) := by
  refine SpecP.enter func81 rfl rfl fun h0 w0 fr0 => ?_
  refine Jr ?_
  refine Js rfl (step_box (R := (rPlan (n + 1))) Sr) ?_
  refine Ja rfl ?_
  refine JL_nil ?_
  refine Jr ?_
  refine Ja rfl ?_
  refine JL_nil ?_
  refine Jr ?_
  refine JL_stepX rfl rfl rfl (step_makeMapV (kv := kvS) (R := rV)) fun v18 => ?_
  refine Ja rfl ?_
  refine JL_nil ?_
  refine Jr ?_
  refine Ja rfl ?_
  refine JL_nil ?_
  refine J_seq ?_
  refine Jr ?_
  refine Js rfl (step_fieldAddr so30 Sr rfl) ?_
  refine Jl rfl ty27 Sr ?_
  refine Js rfl (step_len_sl underlying27 Sr) ?_
  refine Js rfl (step_eql Sr Sr) ?_
  refine JL_nil ?_
  refine J_cut (X := Value) (fun vk => upd (upd (upd (upd (upd (upd (upd (upd (upd env0 0 (tPtr rev e)) 1 ((rPlan (n + 1)).ty p)) 2 (tSl (rSl (rSl rValue)) l)) 4 (tPtr (rPlan (n + 1)) p)) 6 (tV (.slice none 0 0))) 7 (rV.ty vk)) 8 (rV.ty v18)) 9 (tV (.func (.func 130) #[] #[]))) 18 (rV.ty v18)) (fun vk => [own 45 (rSl rValue) vk (key0 p.Cols), mapOwn kvS rV v18 ([] : List (ByteArray × Value))]) ?_ ?_
  · skip
    refine J_cond Sr (fun h22 => ?_) (fun h22 => ?_)
    · try simp only [NF] at h22
      refine J_region ?_
      refine Jm rfl ?_
      refine Js rfl (step_literal (ys := [[]]) underlying38 el45 ⟨rfl, Sub.nilsl, trivial⟩ rfl (by decide)) ?_
      refine JL_lsub (LSub.nilown (e := 45) (R := rSl rValue)) ?_
      refine JL_stepX rfl rfl rfl (step_append underlying38 el45 (Sub.rV rfl) Sr zS (by simp) (by simp)) fun v25 => ?_
      refine Ja rfl ?_
      refine JL_nil ?_
      refine K_cut (E := fun _ => env0) v25 (SubE.upd Sr (SubE.upd Sr (SubE.upd Sr (SubE.upd Sr (SubE.upd Sr (SubE.upd Sr (SubE.upd Sr (SubE.upd Sr (SubE.upd Sr SubE.any))))))))) (LSub.cons zS (SPs.of (A := own 45 (rSl rValue) v25 ([] ++ [[]])) (by rw [key0, if_pos (by omega)]; rfl)) (LSub.cons zS (SPs.rfl) (LSub.nil)))
    · try simp only [NF] at h22
      refine J_skip ?_
      refine K_cut (E := fun _ => env0) (.slice none 0 0) (SubE.upd Sr (SubE.upd Sr (SubE.upd Sr (SubE.upd (Sub.rV rfl) (SubE.upd Sr (SubE.upd Sr (SubE.upd Sr (SubE.upd Sr (SubE.upd Sr SubE.any))))))))) (LSub.trans (LSub.nilown (e := 45) (R := rSl rValue)) (LSub.cons zS (SPs.of (A := own 45 (rSl rValue) (.slice none 0 0) ([] : List LV)) (by rw [key0, if_neg (by omega)])) (LSub.cons zS (SPs.rfl) (LSub.nil))))
  · rintro vk
    refine J_seq ?_
    refine Jr ?_
    refine Jm rfl ?_
    refine Js rfl (step_indexAddr_sl (i := 0) underlying35 ty38 Sr Sr ?sg1 (gb ?sg2)) ?_
    case sg1 => rfl
    case sg2 => exact hpos
    refine Jl rfl ty38 Sr ?_
    refine Js rfl (step_len_sl underlying38 Sr) ?_
    refine Jm rfl ?_
    refine JL_nil ?_
    refine J_block ?_
    refine J_loopL (σ := Nat × Value × RowsL ByteArray LV) (fun ⟨i, va, qq⟩ => i ≤ (nth l 0).length ∧ lists qq = (grM p.Cols ((nth l 0).take i)).2) (fun ⟨i, va, qq⟩ => upd (upd (upd (upd (upd (upd (upd (upd env0 4 (tPtr (rPlan (n + 1)) p)) 6 (tV (.slice none 0 0))) 7 (rV.ty va)) 8 (rV.ty v18)) 9 (tV (.func (.func 130) #[] #[]))) 28 (tSl (rSl rValue) (nth l 0))) 29 (tV (.int .i64 (nth l 0).length))) 30 (tV (.int .i64 i))) (fun ⟨i, va, qq⟩ => [own 45 (rSl rValue) va (grM p.Cols ((nth l 0).take i)).1, mapOwn kvS rV v18 (vals qq), rowsO 45 (rSl rValue) qq]) (fun ⟨i, va, qq⟩ => (nth l 0).length - i) (0, vk, []) ⟨by omega, rfl⟩ (SubE.upd Sr (SubE.upd Sr (SubE.upd Sr (SubE.upd Sr (SubE.upd Sr (SubE.upd Sr (SubE.upd Sr (SubE.upd Sr SubE.any)))))))) (LSub.trans (B := [own 45 (rSl rValue) vk (key0 p.Cols), rowsO 45 (rSl rValue) ([] : RowsL ByteArray LV), mapOwn kvS rV v18 ([] : List (ByteArray × Value))]) (LSub.trans (LSub.trans rows_nil LSub.swap) (LSub.rfl)) (LSub.cons zS (SPs.rfl) (LSub.cons zS (SPs.rfl) (LSub.cons zS (SPs.rfl) (LSub.nil))))) ?_
    rintro ⟨i, va, qq⟩ ⟨hi, hqq⟩
    refine Jr ?_
    refine Js rfl (step_lss Sr Sr) ?_
    refine JL_nil ?_
    refine J_seq ?_
    refine J_cond Sr (fun h31 => ?_) (fun h31 => ?_)
    · try simp only [NF] at h31
      have hlt : i < (nth l 0).length := by omega
      have hgi := grM_ok p.Cols ((nth l 0).take i)
      have hgl := hgi.2.2 (textK (pickW (nth (nth l 0) i) p.Cols))
      rw [List.length_take] at hgi hgl
      have hbl : (rval qq (textK (pickW (nth (nth l 0) i) p.Cols))).2.length ≤ 4000 := by rw [lists_rval, hqq]; show (byG (grM p.Cols ((nth l 0).take i)).2 _).length ≤ _; omega
      refine J_skip ?_
      refine J_seq ?_
      refine J_block ?_
      refine Jr ?_
      refine Js rfl (step_indexAddr_sl (i := i) underlying38 ty45 Sr Sr ?sg1 (gb ?sg2)) ?_
      case sg1 => rfl
      case sg2 => exact hlt
      refine Jl rfl ty45 Sr ?_
      refine Ja rfl ?_
      refine JL_nil ?_
      refine Jr ?_
      refine Jm rfl ?_
      refine Js rfl (step_fieldAddr so30 Sr rfl) ?_
      refine Jl rfl ty27 Sr ?_
      refine JL_stepX rfl rfl rfl (step_call (Sel.none _) (pickV_spec (nth (nth l 0) i) p.Cols (by omega)) ⟨Sr, Sr, trivial⟩ call123) fun v38 => ?_
      refine Jm rfl ?_
      refine Js rfl (step_extract Sr rfl) ?_
      refine Js rfl (step_extract Sr rfl) ?_
      refine Ja rfl ?_
      refine Ja rfl ?_
      refine JL_nil ?_
      refine Jr ?_
      refine JL_freeze (t := 12) (A' := tSl rValue (pickW (nth (nth l 0) i) p.Cols)) (Sel.take (Sel.none _)) Frz.own ?_
      refine Jm rfl ?_
      refine Jm rfl ?_
      refine Js rfl (step_callv0 (aT := [_]) Sub.clo0 (textF_spec (pickW (nth (nth l 0) i) p.Cols) (by have := pickW_len (nth (nth l 0) i) p.Cols; omega)) ⟨Sr, trivial⟩ call130) ?_
      refine Ja rfl ?_
      refine JL_nil ?_
      refine J_seq ?_
      refine Jr ?_
      refine Jm rfl ?_
      refine Jm rfl ?_
      refine Js rfl (step_lookupR (kv := kvS) (q := qq) (k := (textK (pickW (nth (nth l 0) i) p.Cols))) (KeyT.str underlying9) underlying172 (fun w => zeroValue38 w) Sub.ofRV Sr zS) ?_
      refine JL_lsub (LSub.trans (B := [rowsO 45 (rSl rValue) qq, mapOwn kvS rV v18 (vals qq), own 45 (rSl rValue) va (grM p.Cols ((nth l 0).take i)).1]) (LSub.cons zS (SPs.rfl) (LSub.cons zS (SPs.rfl) (LSub.cons zS (SPs.rfl) (LSub.nil)))) (rows_split (textK (pickW (nth (nth l 0) i) p.Cols)))) ?_
      refine Js rfl (step_len_own underlying38 Sr zS) ?_
      refine Js rfl (step_eql Sr Sr) ?_
      refine Jm rfl ?_
      refine JL_stepG rfl rfl rfl (Gd.plain Sr) rfl rfl (fun hw => step_fieldAddr so30 Sr rfl) ?_
      refine JL_stepG rfl rfl rfl (Gd.plain Sr) rfl rfl (fun hw => step_load_ptr ty27 (Sub.w hw)) ?_
      refine JL_stepG rfl rfl rfl (Gd.plain Sr) rfl rfl (fun hw => step_len_sl underlying27 (Sub.w hw)) ?_
      refine JL_stepG rfl rfl rfl (Gd.plain Sr) rfl rfl (fun hw => step_gtr (Sub.w hw) Sr) ?_
      refine Js rfl (step_pick_and Sr Sr) ?_
      refine JL_nil ?_
      refine J_cond Sr (fun h54 => ?_) (fun h54 => ?_)
      · try simp only [NF] at h54
        have hc54 : (byG (grM p.Cols ((nth l 0).take i)).2 (textK (pickW (nth (nth l 0) i) p.Cols))).length = 0 ∧ 0 < p.Cols.length := by rw [lists_rval, hqq] at h54; exact ⟨by have := h54.1; show ((mget (grM p.Cols ((nth l 0).take i)).2 _).getD []).length = 0; omega, by omega⟩
        refine J_region ?_
        refine Jm rfl ?_
        refine Jm rfl ?_
        refine Js rfl (step_literal (ys := [_]) underlying38 el45 ⟨rfl, Sr, trivial⟩ rfl (by decide)) ?_
        refine JL_stepX rfl rfl rfl (step_append underlying38 el45 Sr Sr zS (by simp; omega) (by simp; omega)) fun v58 => ?_
        refine Ja rfl ?_
        refine JL_nil ?_
        refine J_region ?_
        refine Jm rfl ?_
        refine Jm rfl ?_
        refine Jm rfl ?_
        refine Jm rfl ?_
        refine Js rfl (step_lookupR (kv := kvS) (q := qq) (k := (textK (pickW (nth (nth l 0) i) p.Cols))) (KeyT.str underlying9) underlying172 (fun w => zeroValue38 w) Sub.ofRV Sr zS) ?_
        refine Jm rfl ?_
        refine Js rfl (step_literal (ys := [_]) underlying38 el45 ⟨rfl, Sr, trivial⟩ rfl (by decide)) ?_
        refine JL_stepX rfl rfl rfl (step_append underlying38 el45 Sr Sr zS (by simp; omega) (by simp; omega)) fun v66 => ?_
        refine JL_stepU rfl rfl (step_mapUpdate (kv := kvS) (R := rV) (KeyT.str underlying9) underlying172 Sub.ofRV Sr Sr zS) fun _ => ?_
        refine JL_nil ?_
        refine J_region ?_
        refine Js rfl (step_add Sr Sr ?sg1) ?_
        case sg1 => unfold in64; omega
        refine Jm rfl ?_
        refine JL_nil ?_
        refine K_againL (σ := Nat × Value × RowsL ByteArray LV) (s := (i, va, qq)) (i + 1, v58, rput qq (textK (pickW (nth (nth l 0) i) p.Cols)) v66 ((rval qq (textK (pickW (nth (nth l 0) i) p.Cols))).2 ++ [(nth (nth l 0) i)])) (by first | omega | (dsimp only; omega) | (simp_all; omega)) ⟨hlt, by show lists (rput _ _ _ _) = _; rw [lists_rput, grM_2 hlt, lists_rval, hqq]; rfl⟩ (SubE.upd Sr (SubE.upd Sr (SubE.upd Sr (SubE.upd Sr (SubE.upd Sr (SubE.upd Sr (SubE.upd Sr (SubE.upd Sr SubE.any)))))))) (LSub.trans (B := [own 45 (rSl rValue) v66 ((rval qq (textK (pickW (nth (nth l 0) i) p.Cols))).2 ++ [(nth (nth l 0) i)]), rowsO 45 (rSl rValue) (rmv qq (textK (pickW (nth (nth l 0) i) p.Cols))), mapOwn kvS rV v18 (mput (vals qq) (textK (pickW (nth (nth l 0) i) p.Cols)) v66), own 45 (rSl rValue) v58 ((grM p.Cols ((nth l 0).take i)).1 ++ [(pickW (nth (nth l 0) i) p.Cols)])]) (LSub.cons zS (SPs.rfl) (LSub.cons zS (SPs.rfl) (LSub.cons zS (SPs.rfl) (LSub.cons zS (SPs.rfl) (LSub.nil))))) (LSub.trans (rows_join (textK (pickW (nth (nth l 0) i) p.Cols)) v66 _) (LSub.cons zS (SPs.of (A := own 45 (rSl rValue) v58 ((grM p.Cols ((nth l 0).take i)).1 ++ [(pickW (nth (nth l 0) i) p.Cols)])) (by rw [grM_1t hlt hc54])) (LSub.cons zS (SPs.of (A := mapOwn kvS rV v18 (mput (vals qq) (textK (pickW (nth (nth l 0) i) p.Cols)) v66)) (by rw [vals_put])) (LSub.cons zS (SPs.rfl) (LSub.nil))))))
      · try simp only [NF] at h54
        have hc54 : ¬ ((byG (grM p.Cols ((nth l 0).take i)).2 (textK (pickW (nth (nth l 0) i) p.Cols))).length = 0 ∧ 0 < p.Cols.length) := fun q => by rw [lists_rval, hqq] at h54; have q1 : ((mget (grM p.Cols ((nth l 0).take i)).2 (textK (pickW (nth (nth l 0) i) p.Cols))).getD []).length = 0 := q.1; omega
        refine J_skip ?_
        refine J_region ?_
        refine Jm rfl ?_
        refine Jm rfl ?_
        refine Jm rfl ?_
        refine Jm rfl ?_
        refine Js rfl (step_lookupR (kv := kvS) (q := qq) (k := (textK (pickW (nth (nth l 0) i) p.Cols))) (KeyT.str underlying9) underlying172 (fun w => zeroValue38 w) Sub.ofRV Sr zS) ?_
        refine Jm rfl ?_
        refine Js rfl (step_literal (ys := [_]) underlying38 el45 ⟨rfl, Sr, trivial⟩ rfl (by decide)) ?_
        refine JL_stepX rfl rfl rfl (step_append underlying38 el45 Sr Sr zS (by simp; omega) (by simp; omega)) fun v66 => ?_
        refine JL_stepU rfl rfl (step_mapUpdate (kv := kvS) (R := rV) (KeyT.str underlying9) underlying172 Sub.ofRV Sr Sr zS) fun _ => ?_
        refine JL_nil ?_
        refine J_region ?_
        refine Js rfl (step_add Sr Sr ?sg1) ?_
        case sg1 => unfold in64; omega
        refine Jm rfl ?_
        refine JL_nil ?_
        refine K_againL (σ := Nat × Value × RowsL ByteArray LV) (s := (i, va, qq)) (i + 1, va, rput qq (textK (pickW (nth (nth l 0) i) p.Cols)) v66 ((rval qq (textK (pickW (nth (nth l 0) i) p.Cols))).2 ++ [(nth (nth l 0) i)])) (by first | omega | (dsimp only; omega) | (simp_all; omega)) ⟨hlt, by show lists (rput _ _ _ _) = _; rw [lists_rput, grM_2 hlt, lists_rval, hqq]; rfl⟩ (SubE.upd Sr (SubE.upd Sr (SubE.upd Sr (SubE.upd Sr (SubE.upd Sr (SubE.upd Sr (SubE.upd Sr (SubE.upd Sr SubE.any)))))))) (LSub.trans (B := [own 45 (rSl rValue) v66 ((rval qq (textK (pickW (nth (nth l 0) i) p.Cols))).2 ++ [(nth (nth l 0) i)]), rowsO 45 (rSl rValue) (rmv qq (textK (pickW (nth (nth l 0) i) p.Cols))), mapOwn kvS rV v18 (mput (vals qq) (textK (pickW (nth (nth l 0) i) p.Cols)) v66), own 45 (rSl rValue) va (grM p.Cols ((nth l 0).take i)).1]) (LSub.cons zS (SPs.rfl) (LSub.cons zS (SPs.rfl) (LSub.cons zS (SPs.rfl) (LSub.cons zS (SPs.rfl) (LSub.nil))))) (LSub.trans (rows_join (textK (pickW (nth (nth l 0) i) p.Cols)) v66 _) (LSub.cons zS (SPs.of (A := own 45 (rSl rValue) va (grM p.Cols ((nth l 0).take i)).1) (by rw [grM_1f hlt hc54])) (LSub.cons zS (SPs.of (A := mapOwn kvS rV v18 (mput (vals qq) (textK (pickW (nth (nth l 0) i) p.Cols)) v66)) (by rw [vals_put])) (LSub.cons zS (SPs.rfl) (LSub.nil))))))
    · try simp only [NF] at h31
      obtain rfl : i = (nth l 0).length := by omega
      simp only [List.take_length]
      rw [List.take_length] at hqq
      have hgo := grM_ok p.Cols (nth l 0)
      refine J_exit ?_
      refine Jr ?_
      refine Ja rfl ?_
      refine JL_nil ?_
      refine K_freeze (t := 8) (A' := tMapI kvS (rSl (rSl rValue)) (grM p.Cols (nth l 0)).2) (Sel.skip (Sel.take (Sel.take (Sel.none _)))) (Frz.rowsV hqq) ?_
      refine K_freeze (t := 7) (A' := tSl (rSl rValue) (grM p.Cols (nth l 0)).1) (Sel.take (Sel.none _)) Frz.own ?_
      refine J_seq ?_
      refine Jr ?_
      refine Jm rfl ?_
      refine Js rfl (step_len_sl underlying38 Sr) ?_
      refine Jm rfl ?_
      refine JL_nil ?_
      refine J_block ?_
      refine J_loopL (σ := Nat × Value) (fun ⟨k, vo⟩ => k ≤ (grM p.Cols (nth l 0)).1.length ∧ ∀ j, j < k → aggB p (byG (grM p.Cols (nth l 0)).2 (textK (nth (grM p.Cols (nth l 0)).1 j))) = true) (fun ⟨k, vo⟩ => upd (upd (upd (upd (upd (upd (upd (upd env0 4 (tPtr (rPlan (n + 1)) p)) 6 (tV (.slice none 0 0))) 8 (tMapI kvS (rSl (rSl rValue)) (grM p.Cols (nth l 0)).2)) 9 (tV (.func (.func 130) #[] #[]))) 15 (rV.ty vo)) 68 (tSl (rSl rValue) (grM p.Cols (nth l 0)).1)) 69 (tV (.int .i64 (grM p.Cols (nth l 0)).1.length))) 70 (tV (.int .i64 k))) (fun ⟨k, vo⟩ => [own 45 (rSl rValue) vo (gaO p (nth l 0) k)]) (fun ⟨k, vo⟩ => (grM p.Cols (nth l 0)).1.length - k) (0, .slice none 0 0) ⟨by omega, fun j hj => by omega⟩ (SubE.upd Sr (SubE.upd Sr (SubE.upd Sr (SubE.upd (Sub.rV rfl) (SubE.upd Sr (SubE.upd Sr (SubE.upd Sr (SubE.upd Sr SubE.any)))))))) (LSub.nilown) ?_
      rintro ⟨k, vo⟩ ⟨hk, hag⟩
      refine Jr ?_
      refine Js rfl (step_lss Sr Sr) ?_
      refine JL_nil ?_
      refine J_seq ?_
      refine J_cond Sr (fun h71 => ?_) (fun h71 => ?_)
      · try simp only [NF] at h71
        have hlk : k < (grM p.Cols (nth l 0)).1.length := by omega
        have hkl := hgo.1 _ (nth_mem hlk)
        have hgb := hgo.2.2 (textK (nth (grM p.Cols (nth l 0)).1 k))
        refine J_skip ?_
        refine J_seq ?_
        refine J_block ?_
        refine Jr ?_
        refine Js rfl (step_indexAddr_sl (i := k) underlying38 ty45 Sr Sr ?sg1 (gb ?sg2)) ?_
        case sg1 => rfl
        case sg2 => exact hlk
        refine Jl rfl ty45 Sr ?_
        refine Ja rfl ?_
        refine JL_nil ?_
        refine J_drawP [⟨0, [15], true⟩, ⟨1, [17], true⟩, ⟨3, [4], true⟩, ⟨4, [8], true⟩, ⟨5, [9], true⟩, ⟨6, [17], true⟩, ⟨2, [75], false⟩, ⟨7, [79, 80], true⟩, ⟨8, [78, 81], true⟩, ⟨9, [77, 82], false⟩, ⟨10, [83], true⟩, ⟨11, [76, 84], false⟩, ⟨12, [85], false⟩, ⟨13, [74, 86], false⟩, ⟨14, [87], true⟩] rfl (by kernel_rfl) ?_
        refine JP_step rfl rfl rfl rfl (fun _ => step_move Sr) ?_
        refine JP_step rfl rfl rfl rfl (fun _ => step_move Sr) ?_
        refine JP_step rfl rfl rfl rfl (fun _ => step_load_ptr ty30 Sr) ?_
        refine JP_step rfl rfl rfl rfl (fun _ => step_move Sr) ?_
        refine JP_step rfl rfl rfl rfl (fun _ => step_move Sr) ?_
        refine JP_step rfl rfl rfl rfl (fun _ => step_move Sr) ?_
        refine JP_stepX rfl rfl rfl rfl (step_call (Sel.none _) (CloneRow_spec (nth (grM p.Cols (nth l 0)).1 k) (by omega)) ⟨Sr, trivial⟩ call27) fun v76 => ?_
        refine JP_step rfl rfl rfl rfl (fun _ => step_callv0 (aT := [_]) Sub.clo0 (textF_spec (nth (grM p.Cols (nth l 0)).1 k) (by omega)) ⟨Sr, trivial⟩ call130) ?_
        refine JP_step rfl rfl rfl rfl (fun _ => step_lookupI (kv := kvS) (R := rSl (rSl rValue)) (z := []) (KeyT.str underlying9) underlying172 (fun w => zeroValue38 w) zr38 Sr Sr) ?_
        refine JP_stepQ rfl rfl rfl rfl (step_callP (Sel.none _) (aggregate_spec n p (byG (grM p.Cols (nth l 0)).2 (textK (nth (grM p.Cols (nth l 0)).1 k))) (by omega) hc (fun h r hm => hr h r (hgb.2 r hm)) (fun r hm => hN r (hgb.2 r hm))) ⟨Sr, Sr, trivial⟩ call131 (panOk (fun ch q => ⟨List.all_eq_false.2 ⟨_, nth_mem hlk, by rw [q.1]; simp⟩, q.2⟩))) fun x83 => ?_
        refine JP_step rfl rfl rfl rfl (fun _ => step_literal (ys := [_]) underlying45 el62 ⟨rfl, Sr, trivial⟩ rfl (by decide)) ?_
        refine JP_stepX rfl rfl rfl rfl (step_append underlying45 el62 Sr Sr zS (by simp; omega) (by simp; omega)) fun v85 => ?_
        refine JP_stepX rfl rfl rfl rfl (Step.freeze (t := 85) (A' := tSl rValue ((nth (grM p.Cols (nth l 0)).1 k) ++ [(aggV p (byG (grM p.Cols (nth l 0)).2 (textK (nth (grM p.Cols (nth l 0)).1 k))))])) zS Frz.own (step_literal (ys := [_]) underlying38 el45 ⟨rfl, Sr, trivial⟩ rfl (by decide))) fun v86 => ?_
        refine JP_stepX rfl rfl rfl rfl (step_append underlying38 el45 Sr Sr zS (by simp [gaO]; omega) (by simp [gaO]; omega)) fun v87 => ?_
        refine JP_step rfl rfl rfl rfl (fun _ => step_assign Sr) ?_
        refine JP_nil ?_
        refine J_region ?_
        refine Js rfl (step_add Sr Sr ?sg1) ?_
        case sg1 => unfold in64; omega
        refine Jm rfl ?_
        refine JL_nil ?_
        refine K_againL (σ := Nat × Value) (s := (k, vo)) (k + 1, v87) (by first | omega | (dsimp only; omega) | (simp_all; omega)) ⟨by omega, fun j hj => by by_cases ej : j = k; subst ej; exact x83.down; exact hag j (by omega)⟩ (SubE.upd Sr (SubE.upd Sr (SubE.upd Sr (SubE.upd Sr (SubE.upd Sr (SubE.upd Sr (SubE.upd Sr (SubE.upd Sr SubE.any)))))))) (LSub.cons zS (SPs.of (A := own 45 (rSl rValue) v87 (gaO p (nth l 0) k ++ [((nth (grM p.Cols (nth l 0)).1 k) ++ [(aggV p (byG (grM p.Cols (nth l 0)).2 (textK (nth (grM p.Cols (nth l 0)).1 k))))])])) (by rw [gaO_succ hlk])) (LSub.nil))
      · try simp only [NF] at h71
        obtain rfl : k = (grM p.Cols (nth l 0)).1.length := by omega
        refine J_exit ?_
        refine Jr ?_
        refine Jm rfl ?_
        refine Ja rfl ?_
        refine JL_nil ?_
        refine J_ret ?_
        refine K_toP ?_
        refine K_ret1' (rv := .tmp 6) rfl (PLift.up ?_) (Sel.take (Sel.none _)) (.tmp Sr) (Frz.own' (gaO_all p (nth l 0)))
        exact List.all_eq_true.2 fun q hq => by obtain ⟨j, hj, rfl⟩ := List.getElem_of_mem hq; rw [← nth_get hj]; exact hag j hj
open Go Go.Proofs Go.Proofs.Tryz
/-! ### The rows of a table, each once -/
theorem mem_compM {l : List LV} {x : LV} (h : x ∈ l) : x ∈ compM l := by
  have key : ∀ (n i : Nat), i ≤ n → i < l.length → nth l i = x → x ∈ compM l := by
    intro n
    induction n with
    | zero =>
      intro i hi hl hx
      obtain rfl : i = 0 := by omega
      unfold compM compI
      exact List.mem_map.2 ⟨0, List.mem_filter.2 ⟨List.mem_range.2 hl, by simp [keepB]⟩, hx⟩
    | succ n ih =>
      intro i hi hl hx
      by_cases hk : keepB l i = true
      · unfold compM compI
        exact List.mem_map.2 ⟨i, List.mem_filter.2 ⟨List.mem_range.2 hl, hk⟩, hx⟩
      · unfold keepB at hk
        simp only [Bool.or_eq_true, decide_eq_true_eq, Bool.not_eq_true', decide_eq_false_iff_not, not_or, Decidable.not_not] at hk
        exact ih (i - 1) (by omega) (by omega) (by rw [← hk.2]; exact hx)
  obtain ⟨i, hi, rfl⟩ := List.getElem_of_mem h
  exact key i i (Nat.le_refl _) hi (nth_get hi)
theorem compM_nodup {l : List LV} (hs : l.Pairwise fun a b => leR a b = true) : (compM l).Nodup := by
  have hle : ∀ i j, i ≤ j → j < l.length → leR (nth l i) (nth l j) = true := fun i j hij hj => by
    rcases Nat.lt_or_eq_of_le hij with h | rfl
    · rw [nth_get (by omega), nth_get hj]
      exact List.pairwise_iff_getElem.1 hs i j (by omega) hj h
    · have := leR_tot (nth l i) (nth l i); simpa using this
  unfold compM compI List.Nodup
  rw [List.pairwise_map]
  refine List.Pairwise.imp_of_mem (R := fun i j : Nat => i < j) (fun {i j} hi hj hij => ?_) ((List.pairwise_lt_range).filter _)
  have hj := List.mem_filter.1 hj
  have hjl := List.mem_range.1 hj.1
  intro e
  have h1 := hle i (j - 1) (by omega) (by omega)
  have h2 := hle (j - 1) j (by omega) hjl
  have h3 : nth l j = nth l (j - 1) := leR_anti (by rw [← e]; exact h1) h2
  have hk := hj.2
  unfold keepB at hk
  simp only [Bool.or_eq_true, decide_eq_true_eq, Bool.not_eq_true', decide_eq_false_iff_not] at hk
  rcases hk with hk | hk
  · omega
  · exact hk h3
theorem setR_nodup (l : List LV) : (setR l).Nodup := compM_nodup (sortR_sorted l)
theorem setR_mem {l : List LV} {x : LV} : x ∈ setR l ↔ x ∈ l := ⟨setR_sub, fun h => mem_compM ((sortR_perm l).mem_iff.2 h)⟩
/-! ### Distinct values -/
open Go Go.Proofs Go.Proofs.Tryz
abbrev Ka (p : GPlan) (i : Nat) : List GAttr := (nth p.Kids i).Attrs
/-- The rows that a kind of queries makes of those of the kids. -/
def rowsV (ts : List (List LV)) (p : GPlan) (ks : List (List LV)) : List LV :=
  if p.Kind = 1 then nth ts p.Table.toNat else if p.Kind = 2 then selR p.Tests (nth ks 0) else if p.Kind = 3 then projR p.Cols (nth ks 0) else if p.Kind = 4 then joinT (Ka p 0) (Ka p 1) (nth ks 0) (nth ks 1)
  else if p.Kind = 5 then nth ks 0 ++ nth ks 1 else if p.Kind = 6 then minR (nth ks 0) (nth ks 1) else if p.Kind = 7 then nth ks 0 else gaR p (nth ks 0)
def rowsB (p : GPlan) (ks : List (List LV)) : Bool := if p.Kind = 8 then gaB p (nth ks 0) else true
def evV (ts : List (List LV)) : Nat → GPlan → List LV
  | 0, _ => []
  | n + 1, p => setR (rowsV ts p (p.Kids.map (evV ts n)))
/-- That there is a result. -/
def evB (ts : List (List LV)) : Nat → GPlan → Bool
  | 0, _ => false
  | n + 1, p => p.Kids.all (evB ts n) && (rowsB p (p.Kids.map (evV ts n)) && decide ((evV ts (n + 1) p).length ≤ 4000))
structure EvOk (k : Nat) (v : List LV) : Prop where
  len : v.length ≤ 4000
  row : ∀ r ∈ v, r.length = k
  num : NumOk v
  str : StrR v
/-- What tables are. -/
structure TbOk (s : GSchema) (ts : List (List LV)) : Prop where
  len : ts.length = s.Tables.length
  row : ∀ i, i < ts.length → ∀ r ∈ nth ts i, r.length = (nth s.Tables i).Attrs.length
  num : ∀ i, NumOk (nth ts i)
  big : ∀ i, (nth ts i).length ≤ 1000000000
theorem setR_str (l : List LV) : StrR (setR l) := by
  have hn := setR_nodup l
  have hs : (setR l).Pairwise fun a b => leR a b = true := by
    have h0 := sortR_sorted l
    have hle : ∀ i j, i ≤ j → j < (sortR l).length → leR (nth (sortR l) i) (nth (sortR l) j) = true := fun i j hij hj => by
      rcases Nat.lt_or_eq_of_le hij with h | rfl
      · rw [nth_get (by omega), nth_get hj]
        exact List.pairwise_iff_getElem.1 h0 i j (by omega) hj h
      · have := leR_tot (nth (sortR l) i) (nth (sortR l) i); simpa using this
    unfold setR compM compI
    rw [List.pairwise_map]
    refine List.Pairwise.imp_of_mem (R := fun i j : Nat => i < j) (fun {i j} hi hj hij => ?_) ((List.pairwise_lt_range).filter _)
    exact hle i j (by omega) (List.mem_range.1 (List.mem_filter.1 hj).1)
  unfold StrR
  refine (List.pairwise_and_iff.2 ⟨hs, List.nodup_iff_pairwise_ne.1 hn⟩).imp fun {a b} h => ?_
  have h1 := h.1
  unfold leR at h1
  simp only [decide_eq_true_eq] at h1
  have h2 : ¬ cmpR a b = 0 := fun q => h.2 (c3_R.eq.1 q)
  omega
theorem NumOk.sub {a b : List LV} (h : NumOk b) (hs : ∀ r ∈ a, r ∈ b) : NumOk a := fun r hr => h r (hs r hr)
theorem num_of {r : LV} (h : ∀ v ∈ r, -1000000000 ≤ v.N ∧ v.N ≤ 1000000000) (c : Nat) : -1000000000 ≤ (nth r c).N ∧ (nth r c).N ≤ 1000000000 := by
  by_cases hc : c < r.length
  · exact h _ (nth_mem hc)
  · rw [nth_out (by omega)]; show -1000000000 ≤ zValue.N ∧ zValue.N ≤ 1000000000; decide
theorem num_mem {l : List LV} (h : NumOk l) {r : LV} (hr : r ∈ l) {v : GValue} (hv : v ∈ r) : -1000000000 ≤ v.N ∧ v.N ≤ 1000000000 := by
  obtain ⟨j, hj, rfl⟩ := List.getElem_of_mem hv
  rw [← nth_get hj]; exact h r hr j
theorem pickW_num {r : LV} {cols : List Int} (h : ∀ c, -1000000000 ≤ (nth r c).N ∧ (nth r c).N ≤ 1000000000) : ∀ v ∈ pickW r cols, -1000000000 ≤ v.N ∧ v.N ≤ 1000000000 := fun v hv => by
  unfold pickW pickV at hv
  split at hv
  · obtain ⟨c, _, rfl⟩ := List.mem_map.1 hv; exact h _
  · cases hv
theorem pickW_in {r : LV} {cols : List Int} (h : ∀ c ∈ cols, 0 ≤ c ∧ c < r.length) : pickW r cols = pickV r cols := by
  unfold pickW; rw [if_pos]
  unfold pickOk; rw [List.all_eq_true]
  intro c hc; have := h c hc; simp [this.1, this.2]
theorem pickV_len (r : LV) (cols : List Int) : (pickV r cols).length = cols.length := by simp [pickV]
/-- A row of a join. -/
theorem joinR_mem {m : List (ByteArray × List LV)} {left : List Int} : ∀ (rows : List LV) (out : List LV) (x : LV), x ∈ rows.foldl (jnStep m left) out ↔ x ∈ out ∨ ∃ r ∈ rows, keyJ r left = true ∧ ∃ y ∈ byG m (keyS r left), x = r ++ y
  | [], out, x => by simp
  | r :: rows, out, x => by
    rw [List.foldl_cons, joinR_mem rows (jnStep m left out r) x]
    have hs : x ∈ jnStep m left out r ↔ x ∈ out ∨ (keyJ r left = true ∧ ∃ y ∈ byG m (keyS r left), x = r ++ y) := by
      unfold jnStep
      by_cases hk : keyJ r left = true
      · rw [if_pos hk]
        have hc : x ∈ cutJ (outJ m left out r (byG m (keyS r left)).length) ↔ x ∈ outJ m left out r (byG m (keyS r left)).length := by
          unfold cutJ; split
          · exact setR_mem
          · exact Iff.rfl
        rw [hc]
        unfold outJ
        rw [List.take_length, List.mem_append, List.mem_map]
        constructor
        · rintro (h | ⟨y, hy, rfl⟩)
          · exact .inl h
          · exact .inr ⟨hk, y, hy, rfl⟩
        · rintro (h | ⟨_, y, hy, rfl⟩)
          · exact .inl h
          · exact .inr ⟨y, hy, rfl⟩
      · rw [if_neg hk]; simp [hk]
    rw [hs]
    constructor
    · rintro ((h | ⟨h1, h2⟩) | ⟨r', h1, h2⟩)
      · exact .inl h
      · exact .inr ⟨r, by simp, h1, h2⟩
      · exact .inr ⟨r', by simp [h1], h2⟩
    · rintro (h | ⟨r', h1, h2⟩)
      · exact .inl (.inl h)
      · rcases List.mem_cons.1 h1 with rfl | h1
        · exact .inl (.inr h2)
        · exact .inr ⟨r', h1, h2⟩
theorem joinT_mem {a b : List GAttr} {l0 l1 : List LV} {x : LV} : x ∈ joinT a b l0 l1 ↔ ∃ r ∈ l0, ∃ q ∈ l1, keyJ r (lefJ a b b.length) = true ∧ keyJ q (rigJ a b b.length) = true ∧ keyS q (rigJ a b b.length) = keyS r (lefJ a b b.length) ∧ x = r ++ pickW q (resJ a b b.length) := by
  unfold joinT joinR
  rw [joinR_mem]
  constructor
  · rintro (h | ⟨r, hr, hk, y, hy, rfl⟩)
    · cases h
    · rw [byM_get] at hy
      obtain ⟨q, hq, rfl⟩ := List.mem_map.1 hy
      obtain ⟨h1, h2⟩ := List.mem_filter.1 hq
      simp only [Bool.and_eq_true, decide_eq_true_eq] at h2
      exact ⟨r, hr, q, h1, hk, h2.1, h2.2, rfl⟩
  · rintro ⟨r, hr, q, hq, h1, h2, h3, rfl⟩
    refine .inr ⟨r, hr, h1, _, ?_, rfl⟩
    rw [byM_get]
    exact List.mem_map.2 ⟨q, List.mem_filter.2 ⟨hq, by simp [h2, h3]⟩, rfl⟩
theorem resJ_all (a b : List GAttr) (n : Nat) : (resJ a b n).length = ((List.range n).filter fun i => decide (columnL a (nth b i).Name < 0)).length := by
  unfold resJ; rw [List.length_map]; congr 1
  refine List.filter_congr fun i _ => ?_
  rw [Bool.eq_iff_iff]; simp
theorem resJ_joinL (a b : List GAttr) : (joinL a b).length = a.length + (resJ a b b.length).length := by
  rw [resJ_all]
  unfold joinL
  rw [List.length_append]
  congr 1
  have h : b = (List.range b.length).map (nth b) := by
    apply List.ext_getElem
    · simp
    · intro i h1 h2; simp [nth_get h1]
  conv => lhs; rw [h]
  rw [List.filter_map, List.length_map]; rfl
theorem rJ_in {a b : List GAttr} {n : Nat} : ∀ c ∈ resJ a b n, 0 ≤ c ∧ c < n := fun c hc => by
  obtain ⟨i, hi, rfl⟩ := List.mem_map.1 hc
  have h1 := List.mem_range.1 (List.mem_filter.1 hi).1
  omega
section
variable {s : GSchema} {l : Nat} {p : GPlan}
theorem vk56 (h : validM s l p = true) (hk : p.Kind = 5 ∨ p.Kind = 6) : p.Kids.length = 2 ∧ p.Attrs.length = (Ka p 0).length ∧ (Ka p 1).length = (Ka p 0).length := by
  obtain ⟨l', _, _, hn, _, h1, h2⟩ := valid_in h
  have e : colsM s p = ((Ka p 0), alikeM (Ka p 0) (Ka p 1)) := by rcases hk with hk | hk <;> simp [colsM, hk]
  rw [e] at h1 h2
  have hn2 : kidsN p.Kind = 2 := by rcases hk with hk | hk <;> simp [kidsN, hk]
  rw [hn2] at hn
  exact ⟨by omega, h2.symm, (alike_len h1).symm⟩
theorem vk8 (h : validM s l p = true) (hk : p.Kind = 8) : p.Kids.length = 1 ∧ (∀ c ∈ p.Cols, 0 ≤ c ∧ c < (Ka p 0).length) ∧ p.Attrs.length = p.Cols.length + 1 ∧ (p.Agg ≠ 1 → 0 ≤ p.Col ∧ p.Col < (Ka p 0).length) := by
  obtain ⟨l', _, _, hn, _, h1, h2⟩ := valid_in h
  have e : colsM s p = if grpOk p = true then (grpL p, grpB p) else ([], false) := by simp [colsM, hk]
  rw [e] at h1 h2
  rw [hk] at hn
  simp [kidsN] at hn
  split at h1
  · rename_i q
    unfold grpOk at q
    simp only [Bool.and_eq_true, decide_eq_true_eq, pickOk, List.all_eq_true] at q
    refine ⟨by omega, fun c hc => q.1 c hc, q.2.1, fun ha => ?_⟩
    have h1 : grpB p = true := h1
    unfold grpB at h1
    rw [if_neg ha] at h1
    split at h1
    · cases h1
    · rename_i hg
      have hg : grpIn p = true := by simpa using hg
      unfold grpIn at hg
      simpa using hg
  · cases h1
end
theorem agg_num {p : GPlan} {l : List LV} (hl : l.length ≤ 4000) (hN : NumOk l) (hB : aggB p l = true) : -1000000000 ≤ (aggV p l).N ∧ (aggV p l).N ≤ 1000000000 := by
  have hv : ∀ v ∈ valC p.Col l, -1000000000 ≤ v.N ∧ v.N ≤ 1000000000 := fun v hv => by
    unfold valC at hv
    obtain ⟨r, hr, rfl⟩ := List.mem_map.1 hv
    exact hN r (List.mem_filter.1 hr).1 _
  have hf : ∀ (f : GValue → GValue → GValue), (∀ a b, f a b = a ∨ f a b = b) → ∀ (x : LV) (a : GValue), (∀ v ∈ x, -1000000000 ≤ v.N ∧ v.N ≤ 1000000000) → (-1000000000 ≤ a.N ∧ a.N ≤ 1000000000) → -1000000000 ≤ (x.foldl f a).N ∧ (x.foldl f a).N ≤ 1000000000 := by
    intro f hf x
    induction x with
    | nil => intro a _ h; exact h
    | cons y x ih =>
      intro a hx ha
      refine ih (f a y) (fun v hv => hx v (by simp [hv])) ?_
      rcases hf a y with e | e <;> rw [e]
      · exact ha
      · exact hx y (by simp)
  unfold aggV
  split
  · show -1000000000 ≤ (l.length : Int) ∧ (l.length : Int) ≤ 1000000000; omega
  · split
    · rename_i h2
      unfold aggB at hB
      simp only [h2, decide_true, Bool.true_and, Bool.not_eq_true', Bool.or_eq_false_iff, decide_eq_false_iff_not] at hB
      show -1000000000 ≤ sumVC p.Col l ∧ sumVC p.Col l ≤ 1000000000; omega
    · split
      · exact ⟨by decide, by decide⟩
      · split
        · unfold minV; exact hf minStep (fun a b => by unfold minStep; split; exact .inr rfl; exact .inl rfl) _ _ (fun v hvv => hv v (List.mem_of_mem_drop hvv)) (num_of hv 0)
        · unfold maxV; exact hf maxStep (fun a b => by unfold maxStep; split; exact .inr rfl; exact .inl rfl) _ _ (fun v hvv => hv v (List.mem_of_mem_drop hvv)) (num_of hv 0)
/-- The keys of a group are picked from rows. -/
theorem grM_key {cols : List Int} {rows : List LV} (hc : ∀ r ∈ rows, ∀ c ∈ cols, 0 ≤ c ∧ c < (r.length : Int)) (hN : NumOk rows) : ∀ k ∈ (grM cols rows).1, k.length = cols.length ∧ ∀ v ∈ k, -1000000000 ≤ v.N ∧ v.N ≤ 1000000000 := by
  have H : ∀ i, i ≤ rows.length → ∀ k ∈ (grM cols (rows.take i)).1, k.length = cols.length ∧ ∀ v ∈ k, -1000000000 ≤ v.N ∧ v.N ≤ 1000000000 := by
    intro i
    induction i with
    | zero =>
      intro _ k hk
      have : k ∈ key0 cols := hk
      unfold key0 at this; split at this
      · rename_i h; rw [List.mem_singleton.1 this]; exact ⟨by simp [h], fun v hv => by cases hv⟩
      · cases this
    | succ i ih =>
      intro hi k hk
      by_cases hcc : (byG (grM cols (rows.take i)).2 (textK (pickW (nth rows i) cols))).length = 0 ∧ 0 < cols.length
      · rw [grM_1t (by omega) hcc] at hk
        rcases List.mem_append.1 hk with hk | hk
        · exact ih (by omega) k hk
        · rw [List.mem_singleton.1 hk]
          have hm := nth_mem (l := rows) (i := i) (by omega)
          refine ⟨by rw [pickW_in (hc _ hm), pickV_len], pickW_num (hN _ hm)⟩
      · rw [grM_1f (by omega) hcc] at hk; exact ih (by omega) k hk
  have := H rows.length (Nat.le_refl _)
  rwa [List.take_length] at this
/-- What holds of the kids' rows. -/
structure KsOk (p : GPlan) (ks : List (List LV)) : Prop where
  len : ks.length = p.Kids.length
  ok : ∀ i, i < p.Kids.length → EvOk (Ka p i).length (nth ks i)
theorem rows_ok {s : GSchema} {ts : List (List LV)} {l : Nat} {p : GPlan} {ks : List (List LV)} (hv : validM s l p = true) (ht : TbOk s ts) (hk : KsOk p ks) (hB : rowsB p ks = true) :
    (∀ r ∈ rowsV ts p ks, r.length = p.Attrs.length) ∧ NumOk (rowsV ts p ks) := by
  obtain ⟨l', _, hkd, _⟩ := valid_in hv
  rcases kind_cases hkd with h | h | h | h | h | h | h | h
  · obtain ⟨h1, h2⟩ := vk1 hv h
    have e : rowsV ts p ks = nth ts p.Table.toNat := by simp [rowsV, h]
    rw [e]
    exact ⟨fun r hr => by rw [h2]; exact ht.row _ (by have := ht.len; omega) r hr, ht.num _⟩
  · obtain ⟨h1, _, h2⟩ := vk2 hv h
    have e : rowsV ts p ks = selR p.Tests (nth ks 0) := by simp [rowsV, h]
    rw [e]
    have h0 := hk.ok 0 (by omega)
    exact ⟨fun r hr => by rw [h2]; exact h0.row r (List.mem_filter.1 hr).1, h0.num.sub fun r hr => (List.mem_filter.1 hr).1⟩
  · obtain ⟨h1, h3, h2⟩ := vk3 hv h
    have e : rowsV ts p ks = projR p.Cols (nth ks 0) := by simp [rowsV, h]
    rw [e]
    have h0 := hk.ok 0 (by omega)
    refine ⟨fun r hr => ?_, fun r hr => ?_⟩
    · obtain ⟨q, hq, rfl⟩ := List.mem_map.1 hr
      rw [pickW_in (fun c hc => by have := h3 c hc; rw [h0.row q hq]; exact this), pickV_len, h2]
    · obtain ⟨q, hq, rfl⟩ := List.mem_map.1 hr
      exact num_of (pickW_num (h0.num q hq))
  · obtain ⟨h1, h2⟩ := vk4 hv h
    have e : rowsV ts p ks = joinT (Ka p 0) (Ka p 1) (nth ks 0) (nth ks 1) := by simp [rowsV, h]
    rw [e]
    have h0 := hk.ok 0 (by omega)
    have h3 := hk.ok 1 (by omega)
    refine ⟨fun r hr => ?_, fun r hr => ?_⟩
    · obtain ⟨a, ha, b, hb, _, _, _, rfl⟩ := joinT_mem.1 hr
      rw [List.length_append, h0.row a ha, pickW_in (fun c hc => by have := rJ_in c hc; rw [h3.row b hb]; exact this), pickV_len, h2, resJ_joinL]
    · obtain ⟨a, ha, b, hb, _, _, _, rfl⟩ := joinT_mem.1 hr
      refine num_of fun v hvv => ?_
      rcases List.mem_append.1 hvv with hvv | hvv
      · exact num_mem h0.num ha hvv
      · exact pickW_num (h3.num b hb) v hvv
  · obtain ⟨h1, h2, h4⟩ := vk56 hv (.inl h)
    have e : rowsV ts p ks = nth ks 0 ++ nth ks 1 := by simp [rowsV, h]
    rw [e]
    have h0 := hk.ok 0 (by omega)
    have h3 := hk.ok 1 (by omega)
    refine ⟨fun r hr => ?_, fun r hr => ?_⟩
    · rcases List.mem_append.1 hr with hr | hr
      · rw [h2]; exact h0.row r hr
      · rw [h2, ← h4]; exact h3.row r hr
    · rcases List.mem_append.1 hr with hr | hr
      · exact h0.num r hr
      · exact h3.num r hr
  · obtain ⟨h1, h2, h4⟩ := vk56 hv (.inr h)
    have e : rowsV ts p ks = minR (nth ks 0) (nth ks 1) := by simp [rowsV, h]
    rw [e]
    have h0 := hk.ok 0 (by omega)
    exact ⟨fun r hr => by rw [h2]; exact h0.row r (List.mem_filter.1 hr).1, h0.num.sub fun r hr => (List.mem_filter.1 hr).1⟩
  · obtain ⟨h1, h2⟩ := vk7 hv h
    have e : rowsV ts p ks = nth ks 0 := by simp [rowsV, h]
    rw [e]
    have h0 := hk.ok 0 (by omega)
    exact ⟨fun r hr => by rw [h2]; exact h0.row r hr, h0.num⟩
  · obtain ⟨h1, h3, h2, h4⟩ := vk8 hv h
    have e : rowsV ts p ks = gaR p (nth ks 0) := by simp [rowsV, h]
    rw [e]
    have h0 := hk.ok 0 (by omega)
    have hg : gaB p (nth ks 0) = true := by simpa [rowsB, h] using hB
    have hkey := grM_key (cols := p.Cols) (rows := nth ks 0) (fun r hr c hc => by have := h3 c hc; rw [h0.row r hr]; exact this) h0.num
    have hgo := grM_ok p.Cols (nth ks 0)
    refine ⟨fun r hr => ?_, fun r hr => ?_⟩
    · obtain ⟨q, hq, rfl⟩ := List.mem_map.1 hr
      rw [List.length_append, (hkey q hq).1, h2]; rfl
    · obtain ⟨q, hq, rfl⟩ := List.mem_map.1 hr
      refine num_of fun v hvv => ?_
      rcases List.mem_append.1 hvv with hvv | hvv
      · exact (hkey q hq).2 v hvv
      · rw [List.mem_singleton.1 hvv]
        have hb := hgo.2.2 (textK q)
        exact agg_num (by have := h0.len; omega) (h0.num.sub hb.2) (List.all_eq_true.1 hg q hq)
theorem kids_map {p : GPlan} {f : GPlan → List LV} {i : Nat} (h : i < p.Kids.length) : nth (p.Kids.map f) i = f (nth p.Kids i) := by
  rw [nth_get (by simpa using h), List.getElem_map, nth_get h]
theorem ev_ok {s : GSchema} {ts : List (List LV)} (ht : TbOk s ts) : ∀ (n l : Nat) (p : GPlan), validM s l p = true → evB ts n p = true → EvOk p.Attrs.length (evV ts n p)
  | 0, _, _, _, h => by simp [evB] at h
  | n + 1, l, p, hv, h => by
    simp only [evB, Bool.and_eq_true, decide_eq_true_eq, List.all_eq_true] at h
    obtain ⟨l', _, _, _, hq, _⟩ := valid_in hv
    have hk : KsOk p (p.Kids.map (evV ts n)) := ⟨by simp, fun i hi => by
      rw [kids_map hi]
      exact ev_ok ht n l' _ (hq _ (nth_mem hi)) (h.1 _ (nth_mem hi))⟩
    have hr := rows_ok hv ht hk h.2.1
    refine ⟨h.2.2, fun r hr' => hr.1 r (setR_sub hr'), hr.2.sub fun r hr' => setR_sub hr', setR_str _⟩
open Go Go.Proofs Go.Proofs.Tryz
theorem Fun1.toPX {P : Program} {f : Nat} {As : List Ty} {B : Ty} {b : Prop} {φ : List PanicEntry → Prop} (hb : b) (h : Fun1 P f As B) : SpecP (X := PLift b) P f As [] (fun _ => B) (fun _ => []) φ :=
  fun vs h0 m r w ha sp st => (h vs h0 m r w ha sp st).mono fun e w' ⟨x, v, h', m', e1, l, s, st', hv⟩ => .inl ⟨⟨hb⟩, v, h', m', e1, l, s, st', hv⟩
theorem side_ok {x : GSide} {n : Nat} (h : sideM x n = true) : SideOk x n := fun hv => by
  unfold sideM at h; rw [if_neg hv] at h
  simp only [Bool.and_eq_true, decide_eq_true_eq] at h
  exact ⟨h.1.1.2, h.1.2⟩
section
variable {Q : Exit → Act → World → Prop} {ro : Option Nat} {N : Nat} {dds : List Deferred} {h0 : PH} {w0 : World} {r : PH} {E : Env} {L : List SP} {d : Option Nat} {ty : Nat} {pos : String} {af : Array Edge} {g : Option (Nat × Bool)} {x y z u : Operand} {ts : Array Nat}
/-- The call of what makes the rows of a kind. -/
theorem step_rows {s : GSchema} {e : Gev} {n lv : Nat} {p : GPlan} {ks : List (List LV)} (hK : e.kinds = kindsM) (hv : validM s lv p = true) (hz : PlSz (n + 1) p) (ht : TbOk s e.tables) (hk : KsOk p ks) (hn : 0 < p.Kids.length → ∃ m, n = m + 1)
    (hx : Sub (opTy E x) (rV.ty ((mget e.kinds p.Kind).getD zkind).rows)) (hy : Sub (opTy E y) (tPtr rev e)) (hp : Sub (opTy E z) ((rPlan (n + 1)).ty p)) (hu : Sub (opTy E u) (tSl (rSl (rSl rValue)) ks))
    (hQ : PanOk (PanE (rowsB p ks = false)) ⟨prog, ro, N, dds, h0, w0, r⟩ Q E (lostO :: L)) :
    StepQ Q ⟨prog, ro, N, dds, h0, w0, r⟩ ⟨d, .call { callee := .value x, args := #[y, z, u], argTypes := ts }, ty, pos, af, g⟩ E L (fun _ : PLift (rowsB p ks = true) => tSl (rSl rValue) (rowsV e.tables p ks)) (fun _ => L) := by
  obtain ⟨_, _, hkd, hkn, _⟩ := valid_in hv
  obtain ⟨z1, z2, z3, z4, z5⟩ := hz
  have hA : ∀ i, i < p.Kids.length → (Ka p i).length ≤ 1000 := fun i hi => (z5 _ (nth_mem hi)).2
  have hkl := hk.len
  have hrow : ∀ i, i < p.Kids.length → ∀ r ∈ nth ks i, r.length ≤ 4398046511104 := fun i hi r hr => by have := (hk.ok i hi).row r hr; have := hA i hi; omega
  have go : ∀ (f : Nat) (B : List LV) (v : Value), v = .func (.func f) #[] #[] → ((mget e.kinds p.Kind).getD zkind).rows = v → rowsV e.tables p ks = B → SpecP (X := PLift (rowsB p ks = true)) prog f [tPtr rev e, (rPlan (n + 1)).ty p, tSl (rSl (rSl rValue)) ks] [] (fun _ => tSl (rSl rValue) B) (fun _ => []) (PanE (rowsB p ks = false)) →
      (∀ args w, (callFunc f args).run prog w = .ok (.enter f args) w) → StepQ Q ⟨prog, ro, N, dds, h0, w0, r⟩ ⟨d, .call { callee := .value x, args := #[y, z, u], argTypes := ts }, ty, pos, af, g⟩ E L (fun _ : PLift (rowsB p ks = true) => tSl (rSl rValue) (rowsV e.tables p ks)) (fun _ => L) := by
    intro f B v hf he hB sp hc
    rw [hB]
    exact step_callvP (C := ⟨prog, ro, N, dds, h0, w0, r⟩) (xs := #[y, z, u]) (aT := [tPtr rev e, (rPlan (n + 1)).ty p, tSl (rSl (rSl rValue)) ks]) (As := []) (Sub.trans hx (kf_sub (by rw [he, hf]))) (Sel.none _) sp ⟨hy, hp, hu, trivial⟩ hc hQ
  have hb1 : ∀ k, p.Kind = k → k ≠ 8 → rowsB p ks = true := fun k h1 h2 => by unfold rowsB; rw [if_neg (by omega)]
  rcases kind_cases hkd with h | h | h | h | h | h | h | h
  · have h1 := (vk1 hv h).1
    exact go 65 _ _ rfl (by rw [hK, h]; rfl) (by simp [rowsV, h]) ((evTable_spec e n p ks (by have := ht.len; omega)).toPX (hb1 _ h (by omega))) call65
  · obtain ⟨h1, h2, h3⟩ := vk2 hv h
    have h0 := hk.ok 0 (by omega)
    exact go 68 _ _ rfl (by rw [hK, h]; rfl) (by simp [rowsV, h]) ((evSel_spec e n p ks (by omega) (by have := h0.len; omega) z2 (fun r hr t htt => by rw [h0.row r hr]; have hh := h2 t htt; unfold testOk at hh; simp only [Bool.and_eq_true] at hh; exact ⟨side_ok hh.1.1.2, side_ok hh.1.2⟩)).toPX (hb1 _ h (by omega))) call68
  · obtain ⟨h1, h2, h3⟩ := vk3 hv h
    have h0 := hk.ok 0 (by omega)
    exact go 71 _ _ rfl (by rw [hK, h]; rfl) (by simp [rowsV, h]) ((evProj_spec e n p ks (by omega) (by have := h0.len; omega) z3).toPX (hb1 _ h (by omega))) call71
  · obtain ⟨h1, h2⟩ := vk4 hv h
    obtain ⟨m, rfl⟩ := hn (by omega)
    have h0 := hk.ok 0 (by omega)
    have h3 := hk.ok 1 (by omega)
    exact go 73 _ _ rfl (by rw [hK, h]; rfl) (by simp [rowsV, h]) ((evJoin_spec e m p ks h1 (hA 0 (by omega)) (hA 1 (by omega)) (by omega) h0.len h3.len h0.row h3.row).toPX (hb1 _ h (by omega))) call73
  · obtain ⟨h1, h2, h4⟩ := vk56 hv (.inl h)
    have h0 := hk.ok 0 (by omega)
    have h3 := hk.ok 1 (by omega)
    exact go 75 _ _ rfl (by rw [hK, h]; rfl) (by simp [rowsV, h]) ((evUni_spec e n p ks (by omega) (by have := h0.len; have := h3.len; omega)).toPX (hb1 _ h (by omega))) call75
  · obtain ⟨h1, h2, h4⟩ := vk56 hv (.inr h)
    have h0 := hk.ok 0 (by omega)
    have h3 := hk.ok 1 (by omega)
    exact go 76 _ _ rfl (by rw [hK, h]; rfl) (by simp [rowsV, h]) ((evMin_spec e n p ks (by omega) (by have := h0.len; omega) h3.str (by have := h3.len; omega) (hrow 0 (by omega)) (hrow 1 (by omega))).toPX (hb1 _ h (by omega))) call76
  · obtain ⟨h1, h2⟩ := vk7 hv h
    exact go 78 _ _ rfl (by rw [hK, h]; rfl) (by simp [rowsV, h]) ((evRen_spec e n p ks (by omega)).toPX (hb1 _ h (by omega))) call78
  · obtain ⟨h1, h2, h3, h4⟩ := vk8 hv h
    have h0 := hk.ok 0 (by omega)
    have e1 : rowsB p ks = gaB p (nth ks 0) := by simp [rowsB, h]
    refine go 81 (gaR p (nth ks 0)) _ rfl (by rw [hK, h]; rfl) (by simp [rowsV, h]) ?_ call81
    rw [e1]
    exact evGrp_spec e n p ks (by omega) h0.len z3 (fun ha => (h4 ha).1) (fun ha r hr => by rw [h0.row r hr]; exact (h4 ha).2) h0.num
end
theorem evB_kid {ts : List (List LV)} {n : Nat} {p : GPlan} {i : Nat} (hi : i < p.Kids.length) (h : evB ts n (nth p.Kids i) = false) : evB ts (n + 1) p = false := by
  have : p.Kids.all (evB ts n) = false := List.all_eq_false.2 ⟨_, nth_mem hi, by rw [h]; simp⟩
  rw [evB, this, Bool.false_and]
theorem evB_rows {ts : List (List LV)} {n : Nat} {p : GPlan} (h : rowsB p (p.Kids.map (evV ts n)) = false) : evB ts (n + 1) p = false := by rw [evB, h, Bool.false_and, Bool.and_false]
theorem evB_len {ts : List (List LV)} {n : Nat} {p : GPlan} (h : ¬ (evV ts (n + 1) p).length ≤ 4000) : evB ts (n + 1) p = false := by rw [evB, decide_eq_false h, Bool.and_false, Bool.and_false]
theorem kids_two {k : Nat} {c : Int} (h : (k : Int) = kidsN c) : k ≤ 2 := by
  unfold kidsN at h; split at h
  · omega
  · split at h <;> omega
/-- What eval does at queries of a depth. -/
def EvalS (s : GSchema) (e : Gev) (n : Nat) : Prop := ∀ (lv : Nat) (p : GPlan), validM s lv p = true → PlSz n p → SpecP (X := PLift (evB e.tables n p = true)) prog 36 [tPtr rev e, (rPlan n).ty p] [] (fun _ => tSl (rSl rValue) (evV e.tables n p)) (fun _ => []) (PanE (evB e.tables n p = false))
theorem ksI_succ {p : GPlan} {f : GPlan → List LV} {i : Nat} (h : i < p.Kids.length) : (p.Kids.take (i + 1)).map f = (p.Kids.take i).map f ++ [f (nth p.Kids i)] := by rw [takeB h, List.map_append]; rfl
theorem rowsV_big {s : GSchema} {ts : List (List LV)} {l : Nat} {p : GPlan} {ks : List (List LV)} (hv : validM s l p = true) (ht : TbOk s ts) (hk : KsOk p ks) : (rowsV ts p ks).length ≤ 1000000000 := by
  obtain ⟨l', _, hkd, _⟩ := valid_in hv
  have hkl := hk.len
  rcases kind_cases hkd with h | h | h | h | h | h | h | h
  · have e : rowsV ts p ks = nth ts p.Table.toNat := by simp [rowsV, h]
    rw [e]; exact ht.big _
  · have h1 := (vk2 hv h).1
    have e : rowsV ts p ks = selR p.Tests (nth ks 0) := by simp [rowsV, h]
    have := (hk.ok 0 (by omega)).len
    rw [e]; exact Nat.le_trans (List.length_filter_le _ _) (by omega)
  · have h1 := (vk3 hv h).1
    have e : rowsV ts p ks = projR p.Cols (nth ks 0) := by simp [rowsV, h]
    have := (hk.ok 0 (by omega)).len
    rw [e]; unfold projR; rw [List.length_map]; omega
  · have h1 := (vk4 hv h).1
    have e : rowsV ts p ks = joinT (Ka p 0) (Ka p 1) (nth ks 0) (nth ks 1) := by simp [rowsV, h]
    have h0 := (hk.ok 0 (by omega)).len
    have h3 := (hk.ok 1 (by omega)).len
    have hr := (hk.ok 0 (by omega)).row
    rw [e]
    have hb := (joinR_bd (m := byM (rigJ (Ka p 0) (Ka p 1) (Ka p 1).length) (resJ (Ka p 0) (Ka p 1) (Ka p 1).length) (nth ks 1)) (left := lefJ (Ka p 0) (Ka p 1) (Ka p 1).length) (A := (Ka p 0).length) (B := (resJ (Ka p 0) (Ka p 1) (Ka p 1).length).length) (n := 4000)
      (fun q => ⟨Nat.le_trans (byG_len _ _ _ _) h3, fun x hx => byG_row hx⟩) (nth ks 0) [] (fun r h => by rw [hr r h]; exact Nat.le_refl _) (fun r h => by cases h)).1
    have hb : (joinT (Ka p 0) (Ka p 1) (nth ks 0) (nth ks 1)).length ≤ [].length + (nth ks 0).length * 4000 := hb
    simp only [List.length_nil] at hb
    omega
  · have h1 := (vk56 hv (.inl h)).1
    have e : rowsV ts p ks = nth ks 0 ++ nth ks 1 := by simp [rowsV, h]
    have h0 := (hk.ok 0 (by omega)).len
    have h3 := (hk.ok 1 (by omega)).len
    rw [e, List.length_append]; omega
  · have h1 := (vk56 hv (.inr h)).1
    have e : rowsV ts p ks = minR (nth ks 0) (nth ks 1) := by simp [rowsV, h]
    have := (hk.ok 0 (by omega)).len
    rw [e]; exact Nat.le_trans (List.length_filter_le _ _) (by omega)
  · have h1 := (vk7 hv h).1
    have e : rowsV ts p ks = nth ks 0 := by simp [rowsV, h]
    have := (hk.ok 0 (by omega)).len
    rw [e]; omega
  · have h1 := (vk8 hv h).1
    have e : rowsV ts p ks = gaR p (nth ks 0) := by simp [rowsV, h]
    have := (hk.ok 0 (by omega)).len
    have := (grM_ok p.Cols (nth ks 0)).2.1
    rw [e]; unfold gaR; rw [List.length_map]; omega
set_option maxHeartbeats 4000000 in
theorem eval1_spec (s : GSchema) (e : Gev) (hK : e.kinds = kindsM) (ht : TbOk s e.tables) (n lv : Nat) (p : GPlan) (hv : validM s lv p = true) (hz : PlSz (n + 1) p) (ih : EvalS s e n) : SpecP (X := PLift (evB e.tables (n + 1) p = true)) prog 36 [tPtr rev e, (rPlan (n + 1)).ty p] ([]) (fun _ => tSl (rSl rValue) (evV e.tables (n + 1) p)) (fun _ => []) (PanE (evB e.tables (n + 1) p = false)) := by
  refine SpecP.enter func36 rfl rfl fun h0 w0 fr0 => ?_
  have hk2 := kids_two (valid_in hv).choose_spec.2.2.1
  obtain ⟨lv2, _, hkd, hkn, hvk, _⟩ := valid_in hv
  obtain ⟨z1, z2, z3, z4, z5⟩ := id hz
  refine Jr ?_
  refine Js rfl (step_box (R := (rPlan (n + 1))) Sr) ?_
  refine Ja rfl ?_
  refine JL_nil ?_
  refine Jr ?_
  refine Ja rfl ?_
  refine JL_nil ?_
  refine J_seq ?_
  refine Jr ?_
  refine Js rfl (step_fieldAddr so30 Sr rfl) ?_
  refine Jl rfl ty25 Sr ?_
  refine Js rfl (step_len_sl underlying25 Sr) ?_
  refine Jm rfl ?_
  refine JL_nil ?_
  refine J_block ?_
  refine J_loopL (σ := Nat × Value) (fun ⟨i, vk⟩ => i ≤ p.Kids.length ∧ ∀ j, j < i → evB e.tables n (nth p.Kids j) = true) (fun ⟨i, vk⟩ => upd (upd (upd (upd (upd (upd (upd env0 0 (tPtr rev e)) 3 (tPtr (rPlan (n + 1)) p)) 4 (tV (.slice none 0 0))) 5 (rV.ty vk)) 10 (tSl (rPlan n) p.Kids)) 11 (tV (.int .i64 p.Kids.length))) 12 (tV (.int .i64 i))) (fun ⟨i, vk⟩ => [own 38 (rSl (rSl rValue)) vk ((p.Kids.take i).map (evV e.tables n))]) (fun ⟨i, vk⟩ => p.Kids.length - i) (0, .slice none 0 0) ⟨by omega, fun j hj => by omega⟩ (SubE.upd Sr (SubE.upd Sr (SubE.upd Sr (SubE.upd (Sub.rV rfl) (SubE.upd Sr (SubE.upd Sr (SubE.upd Sr SubE.any))))))) (LSub.nilown) ?_
  rintro ⟨i, vk⟩ ⟨hi, hb⟩
  refine Jr ?_
  refine Js rfl (step_lss Sr Sr) ?_
  refine JL_nil ?_
  refine J_seq ?_
  refine J_cond Sr (fun h13 => ?_) (fun h13 => ?_)
  · try simp only [NF] at h13
    have hlt : i < p.Kids.length := by omega
    refine K_fact 10 (fun _ _ r => kids_pos (by omega) r) fun ⟨m, hm⟩ => ?_
    subst hm
    refine J_skip ?_
    refine J_seq ?_
    refine J_block ?_
    refine Jr ?_
    refine Js rfl (step_indexAddr_sl (i := i) underlying25 ty30 Sr Sr ?sg1 (gb ?sg2)) ?_
    case sg1 => rfl
    case sg2 => exact hlt
    refine Jl rfl ty30 Sr ?_
    refine JL_stepX rfl rfl rfl (step_alloc (fun w => zeroValue30 w) (zr30 (n := m))) fun v7 => ?_
    refine JL_stepU rfl rfl (step_store_box ty30 Sr Sr zS) fun _ => ?_
    refine JL_freeze (t := 7) (Sel.take (Sel.none _)) Frz.box ?_
    refine JL_nil ?_
    refine J_region ?_
    refine Jm rfl ?_
    refine Jm rfl ?_
    refine Jl rfl ty30 Sr ?_
    refine JL_stepQ rfl rfl rfl (step_callP (Sel.none _) (ih lv2 (nth p.Kids i) (hvk _ (nth_mem hlt)) (z5 _ (nth_mem hlt)).1) ⟨Sr, Sr, trivial⟩ call36 (panOk (fun ch q => ⟨evB_kid hlt q.1, q.2⟩))) fun x19 => ?_
    refine Js rfl (step_literal (ys := [_]) underlying35 el38 ⟨rfl, Sr, trivial⟩ rfl (by decide)) ?_
    refine JL_stepX rfl rfl rfl (step_append underlying35 el38 Sr Sr zS (by simp; omega) (by simp; omega)) fun v21 => ?_
    refine Ja rfl ?_
    refine JL_nil ?_
    refine J_region ?_
    refine Js rfl (step_add Sr Sr ?sg1) ?_
    case sg1 => unfold in64; omega
    refine Jm rfl ?_
    refine JL_nil ?_
    refine K_againL (σ := Nat × Value) (s := (i, vk)) (i + 1, v21) (by first | omega | (dsimp only; omega) | (simp_all; omega)) ⟨by omega, fun j hj => by by_cases ej : j = i; subst ej; exact x19.down; exact hb j (by omega)⟩ (SubE.upd Sr (SubE.upd Sr (SubE.upd Sr (SubE.upd Sr (SubE.upd Sr (SubE.upd Sr (SubE.upd Sr SubE.any))))))) (LSub.cons zS (SPs.of (A := own 38 (rSl (rSl rValue)) v21 (((p.Kids.take i).map (evV e.tables (m + 1))) ++ [evV e.tables (m + 1) (nth p.Kids i)])) (by rw [ksI_succ hlt])) (LSub.nil))
  · try simp only [NF] at h13
    obtain rfl : i = p.Kids.length := by omega
    have hka : p.Kids.all (evB e.tables n) = true := all_t (fun k hk => hb k hk)
    refine K_fact 10 (fun _ _ r => fun hp => kids_pos hp r) fun hm2 => ?_
    have hks : KsOk p (p.Kids.map (evV e.tables n)) := ⟨by simp, fun i hi => by rw [kids_map hi]; exact ev_ok ht n lv2 _ (hvk _ (nth_mem hi)) (hb i hi)⟩
    have hbig := rowsV_big hv ht hks
    refine K_freeze (t := 5) (A' := tSl (rSl (rSl rValue)) (p.Kids.map (evV e.tables n))) (Sel.take (Sel.none _)) (Frz.own' (by rw [List.take_length])) ?_
    refine J_exit ?_
    refine J_seq ?_
    refine J_drawP [⟨0, [0], true⟩, ⟨1, [23], true⟩, ⟨2, [24], true⟩, ⟨3, [25], true⟩, ⟨4, [3], true⟩, ⟨5, [27], true⟩, ⟨6, [26, 28], true⟩, ⟨7, [29], true⟩, ⟨8, [0], true⟩, ⟨9, [3], true⟩, ⟨10, [5], true⟩, ⟨11, [30, 31, 32, 33], false⟩, ⟨12, [34], false⟩, ⟨13, [35], true⟩] rfl (by kernel_rfl) ?_
    refine JP_step rfl rfl rfl rfl (fun _ => step_move Sr) ?_
    refine JP_step rfl rfl rfl rfl (fun _ => step_nilCheckP Sr) ?_
    refine JP_step rfl rfl rfl rfl (fun _ => step_fieldAddr so83 Sr rfl) ?_
    refine JP_step rfl rfl rfl rfl (fun _ => step_load_ptr ty80 Sr) ?_
    refine JP_step rfl rfl rfl rfl (fun _ => step_fieldAddr so30 Sr rfl) ?_
    refine JP_step rfl rfl rfl rfl (fun _ => step_load_ptr ty3 Sr) ?_
    refine JP_step rfl rfl rfl rfl (fun _ => step_lookupI (kv := kvI) (R := rkind) (z := zkind) (KeyT.int underlying3) underlying80 (fun w => zeroValue125 w) zr125 Sr Sr) ?_
    refine JP_step rfl rfl rfl rfl (fun _ => step_field so125 Sr rfl) ?_
    refine JP_step rfl rfl rfl rfl (fun _ => step_move Sr) ?_
    refine JP_step rfl rfl rfl rfl (fun _ => step_load_ptr ty30 Sr) ?_
    refine JP_step rfl rfl rfl rfl (fun _ => step_move Sr) ?_
    refine JP_stepQ rfl rfl rfl rfl (step_rows hK hv hz ht hks hm2 Sr Sr Sr Sr (panOk (fun ch q => ⟨evB_rows q.1, q.2⟩))) fun x34 => ?_
    refine JP_stepX rfl rfl rfl rfl (step_call (Sel.none _) (setA_spec (rowsV e.tables p (p.Kids.map (evV e.tables n))) hbig (fun r hr => by have := (rows_ok hv ht hks x34.down).1 r hr; omega)) ⟨Sr, trivial⟩ call28) fun v35 => ?_
    refine JP_step rfl rfl rfl rfl (fun _ => step_assign Sr) ?_
    refine JP_nil ?_
    refine J_seq ?_
    refine Jr ?_
    refine Jm rfl ?_
    refine Js rfl (step_len_own underlying38 Sr zS) ?_
    refine Js rfl (step_gtr Sr Sr) ?_
    refine JL_nil ?_
    refine J_cond Sr (fun h38 => ?_) (fun h38 => ?_)
    · try simp only [NF] at h38
      refine J_region ?_
      refine Js rfl (step_mkIface underlying40 (by intro m h; cases h) Sr) ?_
      refine JL_panic (Sub.trans Sr ifv_sub) (panOk (ψ := PanE (evB e.tables (n + 1) p = false)) (fun _ h => h) _ ⟨?_, 3, by decide, rfl⟩)
      exact evB_len (by show ¬ (setR (rowsV e.tables p (p.Kids.map (evV e.tables n)))).length ≤ 4000; omega)
    · try simp only [NF] at h38
      refine J_skip ?_
      refine Jr ?_
      refine Jm rfl ?_
      refine Ja rfl ?_
      refine JL_nil ?_
      refine J_ret ?_
      refine K_toP ?_
      refine K_ret1' (rv := .tmp 4) rfl (PLift.up ?_) (Sel.take (Sel.none _)) (.tmp Sr) Frz.own
      simp only [evB, Bool.and_eq_true, decide_eq_true_eq]
      exact ⟨hka, x34.down, by show (setR (rowsV e.tables p (p.Kids.map (evV e.tables n)))).length ≤ 4000; omega⟩
theorem eval_spec (s : GSchema) (e : Gev) (hK : e.kinds = kindsM) (ht : TbOk s e.tables) : ∀ n, EvalS s e n
  | 0 => fun lv p hv hz => SpecP.enter func36 rfl rfl fun h0 w0 fr0 => K_fact 1 (fun _ _ r => (show False from r)) fun q => q.elim
  | n + 1 => fun lv p hv hz => eval1_spec s e hK ht n lv p hv hz (eval_spec s e hK ht n)
open Go Go.Proofs Go.Proofs.Tryz
def evOk (s : GSchema) (n : Nat) (p : GPlan) (ts : List (List LV)) : Bool := evalOk s p ts && evB ts n p
/-- The rows of a query. -/
def evR (s : GSchema) (n : Nat) (p : GPlan) (ts : List (List LV)) : List LV := if evOk s n p ts = true then evV ts n p else []
def ErrOk (s : GSchema) (n : Nat) (p : GPlan) (ts : List (List LV)) (c : Int) : Prop := (c = 0 ↔ evOk s n p ts = true) ∧ (evalOk s p ts = false → c = 1)
theorem tb_ok {s : GSchema} {ts : List (List LV)} (hl : ts.length = s.Tables.length) (ht : tabsM s ts = true) (hb : ∀ t ∈ ts, t.length ≤ 4000) : TbOk s ts := by
  unfold tabsM at ht
  simp only [List.all_eq_true, List.mem_range, Bool.not_eq_true', List.any_eq_false] at ht
  have hf : ∀ i, i < ts.length → ∀ r ∈ nth ts i, fitsM (nth s.Tables i) r = true := fun i hi r hr => by have := ht i hi r hr; simpa using this
  refine ⟨hl, fun i hi r hr => ?_, fun i => ?_, fun i => ?_⟩
  · have := hf i hi r hr
    simp only [fitsM, Bool.and_eq_true, decide_eq_true_eq] at this
    exact this.1
  · by_cases hi : i < ts.length
    · intro r hr
      have := hf i hi r hr
      simp only [fitsM, Bool.and_eq_true, decide_eq_true_eq, List.all_eq_true, List.mem_range] at this
      refine num_of fun v hv => ?_
      obtain ⟨j, hj, rfl⟩ := List.getElem_of_mem hv
      have h2 := this.2 j hj
      unfold fitM at h2
      simp only [Bool.and_eq_true] at h2
      rw [nth_get hj] at h2
      exact valid_N h2.1
    · rw [nth_out (by omega)]; intro r hr; cases hr
  · by_cases hi : i < ts.length
    · have := hb _ (nth_mem hi); omega
    · rw [nth_out (by omega)]; exact Nat.zero_le _
theorem evA_le {ts : List (List LV)} {n : Nat} {p : GPlan} (h : PlSz n p) (hb : evB ts n p = true) : p.Attrs.length ≤ 1000000 := by
  cases n with
  | zero => simp [evB] at hb
  | succ n => exact Nat.le_trans h.2.2.2.1 (by omega)
set_option maxHeartbeats 4000000 in
theorem Eval_spec (s : GSchema) (hz : SchSz s) (n : Nat) (p : GPlan) (hp : PlSz n p) (ts : List (List LV)) (hl : ∀ t ∈ ts, t.length ≤ 4000) (hr : ∀ t ∈ ts, ∀ r ∈ t, r.length ≤ 4398046511104) : Spec (X := { c : Int // ErrOk s n p ts c }) prog 11 [rSchema.ty s, (rPlan n).ty p, tSl (rSl (rSl rValue)) ts] ([]) (fun c => tTup [tSl (rSl rValue) (evR s n p ts), tV (.int .i64 c.1)]) (fun c => []) := by
 refine Spec.enter func11 rfl rfl fun h0 w0 fr0 => ?_
 have htl := hz.tabs
 refine Jr (Js rfl (step_box (R := rSchema) Sr) (Js rfl (step_box (R := (rPlan n)) Sr) ?_))
 refine Jx rfl (step_alloc (R := rV) (z := Value.slice none 0 0) (fun w => zeroValue38 w) (fun _ => ⟨rfl, rfl⟩)) fun b6 => ?_
 refine Jx rfl (step_alloc (fun w => zeroValue40 w) zr40) fun b7 => ?_
 refine JL_nil (J_seq (Jr (Jl rfl ty24 Sr (Jl rfl ty30 Sr (Js rfl (step_call0 (algValid_spec s hz n p hp) ⟨Sr, Sr, trivial⟩ call16) ?_)))))
 refine Js rfl (step_not Sr) (Jm rfl ?_)
 refine Jk rfl Sr rfl (step_move Sr) ?_
 refine Jg rfl Sr rfl (fun hw => step_len_sl underlying35 (Sub.w hw)) ?_
 refine Jk rfl Sr rfl (step_fieldAddr so24 Sr rfl) ?_
 refine Jg rfl Sr rfl (fun hw => step_load_ptr ty22 (Sub.w hw)) (Jg rfl Sr rfl (fun hw => step_len_sl underlying22 (Sub.w hw)) (Jg rfl Sr rfl (fun hw => step_neq (Sub.w hw) (Sub.w hw)) (Js rfl (step_pick_or Sr Sr) (JL_nil ?_))))
 refine J_cond Sr (fun h24 => ?_) (fun h24 => ?_)
 ·
  try simp only [NF] at h24
  refine Jr ?_
  refine Ju (step_store_box (R := rV) ty38V Sr (Sub.rV rfl) zS) fun _ => ?_
  refine Ju (step_store_box ty40 Sr Sr zS) fun _ => ?_
  refine JL_nil (J_ret ?_)
  have hf : evalOk s p ts = false := by
   unfold evalOk
   rcases h24 with h | h
   ·
    have : vldM s p = false := by simpa using h
    simp [this]
   simp [show ¬ (ts.length : Int) = s.Tables.length by omega]
  have hR : evR s n p ts = [] := by rw [evR, evOk, hf]; rfl
  have hE : ErrOk s n p ts 1 := ⟨by rw [evOk, hf]; simp, fun _ => rfl⟩
  refine K_ret2' (rv := .cell 6 38) (rv' := .cell 7 40) rfl (⟨1, hE⟩ : { c : Int // ErrOk s n p ts c }) (Sel.all _) (.cell (R := rV) ty38V Sr zS Sr) (.cell (R := rInt) ty40 Sr zS Sr) (B := tSl (rSl rValue) (evR s n p ts)) (B' := tV (.int .i64 1)) (Frz.sub ?_) (Frz.sub Sr) Sr
  rw [hR]
  exact rvnil_sub
 try simp only [NF] at h24
 have hv1 : vldM s p = true := by simpa using h24.1
 have hlen : ts.length = s.Tables.length := by have := h24.2; omega
 refine J_skip (J_seq (Jr (Jm rfl (Js rfl (step_len_sl underlying35 Sr) (Jm rfl ?_)))))
 refine JL_nil (J_block ?_)
 refine J_loopL (σ := Nat) (fun i => i ≤ ts.length ∧ ∀ k, k < i → (!((nth ts k).any fun row => !fitsM (nth s.Tables k) row)) = true) (fun i => upd (upd (upd (upd (upd (upd (upd (upd env0 2 (tSl (rSl (rSl rValue)) ts)) 3 (tPtr rSchema s)) 4 (tPtr (rPlan n) p)) 6 (tAt b6 0)) 7 (tAt b7 0)) 25 (tSl (rSl (rSl rValue)) ts)) 26 (tV (.int .i64 ts.length))) 27 (tV (.int .i64 i))) (fun i => [box b7 40 rInt 0, box b6 38 rV (.slice none 0 0)]) (fun i => ts.length - i) 0 ⟨by omega, fun k hk => by omega⟩ (zU) (LSub.rfl) ?_
 rintro i ⟨hi, hv⟩
 refine Jr (Js rfl (step_lss Sr Sr) (JL_nil (J_seq ?_)))
 refine J_cond Sr (fun h28 => ?_) (fun h28 => ?_)
 ·
  try simp only [NF] at h28
  have hlt : i < ts.length := by omega
  have hlt3 : i < s.Tables.length := by omega
  refine J_skip (J_seq (J_block (Jr (Jm rfl ?_))))
  refine Js rfl (step_indexAddr_sl (i := i) underlying35 ty38 Sr Sr (by rfl) (gb (by exact hlt))) ?_
  refine Jl rfl ty38 Sr ?_
  refine Jx rfl (step_alloc (fun w => zeroValue3 w) zr3) fun b8 => ?_
  refine Ju (step_store_box ty3 Sr Sr zS) fun _ => ?_
  refine JL_freeze (t := 8) (Sel.take (Sel.none _)) Frz.box ?_
  refine Ja rfl (JL_nil (Jr (Jm rfl (Js rfl (step_makeFunc (As := [_, _]) ⟨Sr, Sr, trivial⟩) ?_))))
  refine Js rfl (step_call0 (ContainsFuncRows_spec (nth ts i) (by have := hl _ (nth_mem hlt); omega) 32 [tPtr rSchema s, tPtr rInt (i : Int)] (fun row => !fitsM (nth s.Tables i) row) (fun x hx => evalF1_spec s i hlt3 x (by have := hr _ (nth_mem hlt) x hx; omega)) call32) ⟨Sr, Sr, trivial⟩ call31) ?_
  refine JL_nil ?_
  refine J_cond Sr (fun h34 => ?_) (fun h34 => ?_)
  ·
   try simp only [NF] at h34
   have hft : ((nth ts i).any fun row => !fitsM (nth s.Tables i) row) = true := h34
   refine Jr ?_
   refine Ju (step_store_box (R := rV) ty38V Sr (Sub.rV rfl) zS) fun _ => ?_
   refine Ju (step_store_box ty40 Sr Sr zS) fun _ => ?_
   refine JL_nil (J_ret ?_)
   have hf : evalOk s p ts = false := by
    have : tabsM s ts = false := rall_f hlt (by rw [hft]; rfl)
    rw [evalOk, this, Bool.and_false]
   have hR : evR s n p ts = [] := by rw [evR, evOk, hf]; rfl
   have hE : ErrOk s n p ts 1 := ⟨by rw [evOk, hf]; simp, fun _ => rfl⟩
   refine K_ret2' (rv := .cell 6 38) (rv' := .cell 7 40) rfl (⟨1, hE⟩ : { c : Int // ErrOk s n p ts c }) (Sel.all _) (.cell (R := rV) ty38V Sr zS Sr) (.cell (R := rInt) ty40 Sr zS Sr) (B := tSl (rSl rValue) (evR s n p ts)) (B' := tV (.int .i64 1)) (Frz.sub ?_) (Frz.sub Sr) Sr
   rw [hR]
   exact rvnil_sub
  try simp only [NF] at h34
  have hft : (!((nth ts i).any fun row => !fitsM (nth s.Tables i) row)) = true := by rw [Bool.not_eq_true']; simpa using h34
  refine J_skip (J_region (Js rfl (step_add Sr Sr z6) (Jm rfl (JL_nil ?_))))
  refine K_againL (σ := Nat) (s := i) (i + 1) zO ⟨by omega, fun k hk => by by_cases e : k = i; exact e ▸ hft; exact hv k zG⟩ (zU) (LSub.rfl)
 try simp only [NF] at h28
 have hall : tabsM s ts = true := rall_t (fun k hk => hv k zG)
 have hok : evalOk s p ts = true := by rw [evalOk, hv1, hall]; simp; omega
 have htb := tb_ok hlen hall hl
 have hvp := (Bool.and_eq_true_iff.1 hv1).2
 refine J_exit (Jr (Js rfl (step_makeFunc (As := [_, _]) ⟨Sr, Sr, trivial⟩) ?_))
 refine JL_defer (f := 34) (cap := [.pointer (some ⟨b6, 0, none⟩), .pointer (some ⟨b7, 0, none⟩)]) cloV2_sub ?_
 refine JL_nil (Jr (Jm rfl (Js rfl (step_call0 (kinds_spec ) trivial call35) (Js rfl (step_build (x := (⟨ts, kindsM⟩ : Gev)) (zs := [[Value.slice none 0 0], [Value.map none]]) so83 (fun w => zeroValue83 w) ⟨Sr, Sr, trivial⟩ ⟨⟨Sr, rfl⟩, ⟨Sr, rfl⟩, trivial⟩) (Js rfl (step_box (R := rev) Sr) ?_)))))
 refine Ja rfl (JL_nil (J_seq (Jr (Jm rfl (Jl rfl ty30 Sr ?_)))))
 refine JL_stepQ rfl rfl rfl (step_callP (Sel.none _) (eval_spec s ⟨ts, kindsM⟩ rfl htb n 12 p hvp hp) ⟨Sr, Sr, trivial⟩ call36 (by intro ch hch; obtain ⟨hb, c, hc, rfl⟩ := hch; have hR : evR s n p ts = [] := (by rw [evR, evOk, hb, Bool.and_false]; rfl); have hE : ErrOk s n p ts c := ⟨by rw [evOk, hb, Bool.and_false]; exact ⟨fun q => absurd q hc, fun q => (by cases q)⟩, fun q => (by rw [hok] at q; cases q)⟩; refine K_lsub (L' := [box b6 38 rV (.slice none 0 0), box b7 40 rInt 0, lostO]) (zL) ?_; refine K_deferPan ?_; refine K_ret2' (rv := .cell 6 38) (rv' := .cell 7 40) rfl (⟨c, hE⟩ : { c : Int // ErrOk s n p ts c }) (Sel.all _) (.cell (R := rV) ty38V Sr zS Sr) (.cell (R := rInt) ty40 Sr zS Sr) (B := tSl (rSl rValue) (evR s n p ts)) (B' := tV (.int .i64 c)) (Frz.sub ?_) (Frz.sub Sr) Sr; rw [hR]; exact rvnil_sub)) fun x43 => ?_
 refine Js rfl (step_len_sl underlying38 Sr) (Jm rfl (JL_nil ?_))
 have hEv := ev_ok htb n 12 p hvp x43.down
 have hl4 := hEv.len
 have hrr : ∀ i, (nth (evV ts n p) i).length ≤ 1000000 := fun i => by
  by_cases hi : i < (evV ts n p).length
  ·
   exact Nat.le_trans (Nat.le_of_eq (hEv.row _ (nth_mem hi))) (evA_le hp x43.down)
  rw [nth_out zG]; exact Nat.zero_le _
 refine J_block ?_
 refine J_loopL (σ := Nat × Value) (fun ⟨k, vr⟩ => k ≤ (evV ts n p).length) (fun ⟨k, vr⟩ => upd (upd (upd (upd (upd env0 6 (tAt b6 0)) 7 (tAt b7 0)) 43 (tSl (rSl rValue) (evV ts n p))) 44 (tV (.int .i64 (evV ts n p).length))) 45 (tV (.int .i64 k))) (fun ⟨k, vr⟩ => [own 45 (rSl rValue) vr ((evV ts n p).take k), box b7 40 rInt 0, box b6 38 rV vr]) (fun ⟨k, vr⟩ => (evV ts n p).length - k) (0, .slice none 0 0) (by exact Nat.zero_le _) (zU) (LSub.nilown) ?_
 rintro ⟨k, vr⟩ hk
 try dsimp only at hk
 refine Jr (Js rfl (step_lss Sr Sr) (JL_nil (J_seq ?_)))
 refine J_cond Sr (fun h46 => ?_) (fun h46 => ?_)
 ·
  try simp only [NF] at h46
  have hlk : k < (evV ts n p).length := by omega
  refine J_skip (J_seq (J_block (Jr ?_)))
  refine Js rfl (step_indexAddr_sl (i := k) underlying38 ty45 Sr Sr (by rfl) (gb (by exact hlk))) ?_
  refine Jl rfl ty45 Sr (Ja rfl (JL_nil ?_))
  refine J_drawX [⟨1, [12], 0⟩, ⟨2, [50], 0⟩, ⟨3, [51], 0⟩, ⟨0, [6], 1⟩, ⟨4, [49, 52], 2⟩, ⟨5, [6, 53], 2⟩] rfl (by kernel_rfl) ?_
  refine JX_step rfl rfl rfl rfl (fun _ => step_move Sr) ?_
  refine JX_step rfl rfl rfl rfl (fun _ => step_call0 (CloneRowI_spec _ (by have := hrr k; omega)) ⟨Sr, trivial⟩ call27) ?_
  refine JX_step rfl rfl rfl rfl (fun _ => step_literal (ys := [_]) underlying38 el45 ⟨rfl, Sr, trivial⟩ rfl (by decide)) ?_
  refine JX_look rfl rfl rfl rfl (step_load_box ty38V Sr zS) ?_
  refine JX_stepX rfl rfl rfl rfl (step_append underlying38 el45 Sr Sr zS (by simp only [List.length_append, List.length_cons, List.length_nil, List.length_take]; omega) (by simp only [List.length_append, List.length_cons, List.length_nil, List.length_take]; omega)) fun v53 => ?_
  refine JX_stepU rfl rfl rfl (step_store_box (R := rV) ty38V Sr Sr zS) fun _ => ?_
  refine JX_nil (J_region (Js rfl (step_add Sr Sr z6) (Jm rfl (JL_nil ?_))))
  refine K_againL (σ := Nat × Value) (s := (k, vr)) (k + 1, v53) zO (by show k + 1 ≤ _; omega) (zU) (.c zS (SPs.of (A := own 45 (rSl rValue) v53 ((evV ts n p).take k ++ [nth (evV ts n p) k])) (by rw [takeB hlk])) (zL))
 try simp only [NF] at h46
 obtain rfl : k = (evV ts n p).length := by omega
 refine J_exit (Jr ?_)
 refine Js rfl (step_load_box ty38V Sr zS) ?_
 refine Ju (step_store_box (R := rV) ty38V Sr Sr zS) fun _ => ?_
 refine Ju (step_store_box ty40 Sr Sr zS) fun _ => ?_
 refine JL_nil (J_ret ?_)
 have hR : evR s n p ts = (evV ts n p) := by rw [evR, evOk, hok, x43.down]; rfl
 have hE : ErrOk s n p ts 0 := ⟨by rw [evOk, hok, x43.down]; simp, fun q => by rw [hok] at q; cases q⟩
 refine K_lsub (L' := [own 45 (rSl rValue) vr (evV ts n p), box b7 40 rInt 0, box b6 38 rV vr]) (.c zS (SPs.of (A := own 45 (rSl rValue) vr ((evV ts n p).take (evV ts n p).length)) (by rw [List.take_length])) (zL)) ?_
 refine K_deferNil (call34 _) (recNil _ _) ?_
 refine K_ret2' (rv := .cell 6 38) (rv' := .cell 7 40) rfl (⟨0, hE⟩ : { c : Int // ErrOk s n p ts c }) (Sel.all _) (.cell (R := rV) ty38V Sr zS Sr) (.cell (R := rInt) ty40 Sr zS Sr) (B := tSl (rSl rValue) (evR s n p ts)) (B' := tV (.int .i64 0)) (Frz.own' hR.symm) (Frz.sub Sr) Sr
open Go Go.Proofs Go.Proofs.Tryz
def fewM (q : GConj) (n : Int) : Bool := (List.range q.Atoms.length).all (fun i => decide ((nth q.Atoms i).Cols.length ≤ 14) && decide ((nth q.Atoms i).Terms.length ≤ 14)) && decide ((q.Atoms.length : Int) ≤ n) && decide (q.Consts.length ≤ 30) && decide (q.Vars ≤ 40)
theorem atom_ext {x y : GAtom} (h1 : x.Table = y.Table) (h2 : x.Key = y.Key) (h3 : x.Cols = y.Cols) (h4 : x.Terms = y.Terms) : x = y := by cases x; cases y; simp_all
theorem conj_ext {x y : GConj} (h1 : x.Vars = y.Vars) (h2 : x.Consts = y.Consts) (h3 : x.Atoms = y.Atoms) : x = y := by cases x; cases y; simp_all
instance : DecidableEq GAtom := fun a b => decidable_of_iff (a.Table = b.Table ∧ a.Key = b.Key ∧ a.Cols = b.Cols ∧ a.Terms = b.Terms) ⟨fun ⟨h1, h2, h3, h4⟩ => atom_ext h1 h2 h3 h4, fun h => by subst h; exact ⟨rfl, rfl, rfl, rfl⟩⟩
instance : DecidableEq GConj := fun a b => decidable_of_iff (a.Vars = b.Vars ∧ a.Consts = b.Consts ∧ a.Atoms = b.Atoms) ⟨fun ⟨h1, h2, h3⟩ => conj_ext h1 h2 h3, fun h => by subst h; exact ⟨rfl, rfl, rfl⟩⟩
theorem Few_spec (q : GConj) (n : Int) (hl : q.Atoms.length ≤ 9223372036854775807) : Fun1 prog 17 [rConj.ty q, tV (.int .i64 n)] (tV (.bool (fewM q n))) := by
 refine Spec.enter func17 rfl rfl fun h0 w0 fr0 => ?_
 refine Jr (Js rfl (step_box (R := rConj) Sr) (Ja rfl (JL_nil (J_seq (Jr ?_)))))
 refine Ja rfl (JL_nil (J_block ?_))
 refine J_loopL (σ := Nat) (fun i => i ≤ q.Atoms.length ∧ ∀ i2, i2 < i → (decide ((nth q.Atoms i2).Cols.length ≤ 14) && decide ((nth q.Atoms i2).Terms.length ≤ 14)) = true) (fun i => upd (upd (upd env0 1 (tV (.int .i64 n))) 2 (tPtr rConj q)) 5 (tV (.int .i64 i))) (fun i => []) (fun i => q.Atoms.length - i) 0 ⟨Nat.zero_le _, fun k hk => by omega⟩ (zU) (LSub.rfl) ?_
 rintro i ⟨hi, hv⟩
 refine J_seq (Jr (Jm rfl (Js rfl (step_fieldAddr so49 Sr rfl) (Jl rfl ty47 Sr (Js rfl (step_len_sl underlying47 Sr) ?_)))))
 refine Js rfl (step_lss Sr Sr) (JL_nil ?_)
 refine J_cond Sr (fun h10 => ?_) (fun h10 => ?_)
 ·
  try simp only [NF] at h10
  have hlt : i < q.Atoms.length := by omega
  refine J_skip (J_seq (J_block (Jr (Js rfl (step_fieldAddr so49 Sr rfl) (Jl rfl ty47 Sr ?_)))))
  refine Jm rfl ?_
  refine Js rfl (step_indexAddr_sl (i := i) underlying47 ty88 Sr Sr (by rfl) (gb (by exact hlt))) ?_
  refine Js rfl (step_fieldAddr so88 Sr rfl) (Jl rfl ty27 Sr (Js rfl (step_len_sl underlying27 Sr) (Js rfl (step_gtr Sr Sr) (Jm rfl ?_))))
  refine Jk rfl Sr rfl (step_fieldAddr so49 Sr rfl) ?_
  refine Jg rfl Sr rfl (fun hw => step_load_ptr ty47 (Sub.w hw)) ?_
  refine Jk rfl Sr rfl (step_move Sr) ?_
  refine Jg rfl Sr rfl (fun hw => step_indexAddr_sl (i := i) underlying47 ty88 (Sub.w hw) (Sub.w hw) (by rfl) (gb (by have hwq := hw; (try simp only [beqB_t, beqB_f, NF] at hwq); exact hlt))) ?_
  refine Jg rfl Sr rfl (fun hw => step_fieldAddr so88 (Sub.w hw) rfl) (Jg rfl Sr rfl (fun hw => step_load_ptr ty27 (Sub.w hw)) (Jg rfl Sr rfl (fun hw => step_len_sl underlying27 (Sub.w hw)) (Jg rfl Sr rfl (fun hw => step_gtr (Sub.w hw) Sr) (Js rfl (step_pick_or Sr Sr) (JL_nil ?_)))))
  refine J_cond Sr (fun h30 => ?_) (fun h30 => ?_)
  ·
   try simp only [NF] at h30
   refine Jr (Ja rfl (JL_nil (J_ret ?_)))
   refine K_ret1 (t := 4) rfl () ?_
   refine Sub.bool ?_
   have h1 : (decide ((nth q.Atoms i).Cols.length ≤ 14) && decide ((nth q.Atoms i).Terms.length ≤ 14)) = false := by
    rcases h30 with h | h
    ·
     rw [decide_eq_false zG]; rfl
    rw [decide_eq_false (p := (nth q.Atoms i).Terms.length ≤ 14) zG, Bool.and_false]
   unfold fewM; rw [rall_f (f := fun i => (decide ((nth q.Atoms i).Cols.length ≤ 14) && decide ((nth q.Atoms i).Terms.length ≤ 14))) hlt h1]; simp
  try simp only [NF] at h30
  refine J_skip (J_region (Jm rfl (Js rfl (step_add Sr Sr z6) (Ja rfl (JL_nil ?_)))))
  refine K_againL (σ := Nat) (s := i) (i + 1) zO ?_ (zU) (LSub.rfl)
  refine ⟨by omega, fun k hk => ?_⟩
  by_cases e : k = i
  ·
   subst e
   rw [decide_eq_true zG, decide_eq_true zG]; rfl
  exact hv k zG
 try simp only [NF] at h10
 refine J_exit (Jr (Js rfl (step_fieldAddr so49 Sr rfl) (Jl rfl ty47 Sr (Js rfl (step_len_sl underlying47 Sr) (Jm rfl ?_)))))
 refine Js rfl (step_leq Sr Sr) (Jm rfl ?_)
 refine Jk rfl Sr rfl (step_fieldAddr so49 Sr rfl) ?_
 refine Jg rfl Sr rfl (fun hw => step_load_ptr ty45 (Sub.w hw)) (Jg rfl Sr rfl (fun hw => step_len_sl underlying45 (Sub.w hw)) (Jg rfl Sr rfl (fun hw => step_leq (Sub.w hw) Sr) (Js rfl (step_pick_and Sr Sr) (Jm rfl ?_))))
 refine Jk rfl Sr rfl (step_fieldAddr so49 Sr rfl) ?_
 refine Jg rfl Sr rfl (fun hw => step_load_ptr ty3 (Sub.w hw)) (Jg rfl Sr rfl (fun hw => step_leq (Sub.w hw) Sr) (Js rfl (step_pick_and Sr Sr) (Ja rfl (JL_nil (J_ret ?_)))))
 refine K_ret1 (t := 4) rfl () ?_
 refine Sub.bool ?_
 have h2 : (List.range q.Atoms.length).all (fun i => (decide ((nth q.Atoms i).Cols.length ≤ 14) && decide ((nth q.Atoms i).Terms.length ≤ 14))) = true := rall_t (fun k hk => hv k zG)
 unfold fewM; rw [h2]
 have e1 : decide ((q.Consts.length : Int) ≤ 30) = decide (q.Consts.length ≤ 30) := by simp; omega
 first | (rw [← e1]; simp [Bool.and_assoc]) | simp [Bool.and_assoc]
theorem Rows_spec (a b : List GValue) (hb : b.length ≤ 4398046511104) : Fun1 prog 29 [tSl rValue a, tSl rValue b] (tV (.bool (decide (a = b)))) := by
 refine Spec.enter func29 rfl rfl fun h0 w0 fr0 => ?_
 refine Jr (Ja rfl (JL_nil (J_seq (Jr (Jm rfl ?_)))))
 refine Js rfl (step_len_sl underlying45 Sr) (Jm rfl (Js rfl (step_len_sl underlying45 Sr) (Js rfl (step_neq Sr Sr) (JL_nil ?_))))
 refine J_cond Sr (fun h10 => ?_) (fun h10 => ?_)
 ·
  try simp only [NF] at h10
  refine Jr (Ja rfl (JL_nil (J_ret ?_)))
  refine K_ret1 (t := 4) rfl () ?_
  refine Sub.bool ?_
  exact (decide_eq_false (fun e => h10 (by rw [e]))).symm
 try simp only [NF] at h10
 have hab : a.length = b.length := by omega
 refine J_skip (J_seq (Jr (Ja rfl (JL_nil (J_block ?_)))))
 refine J_loopL (σ := Nat) (fun i => i ≤ a.length ∧ a.take i = b.take i) (fun i => upd (upd (upd env0 0 (tSl rValue a)) 1 (tSl rValue b)) 5 (tV (.int .i64 i))) (fun i => []) (fun i => a.length - i) 0 ⟨Nat.zero_le _, by simp⟩ (zU) (LSub.rfl) ?_
 rintro i ⟨hi, hv⟩
 refine J_seq (Jr (Jm rfl (Jm rfl (Js rfl (step_len_sl underlying45 Sr) (Js rfl (step_lss Sr Sr) ?_)))))
 refine JL_nil ?_
 refine J_cond Sr (fun h14 => ?_) (fun h14 => ?_)
 ·
  try simp only [NF] at h14
  have hlt : i < a.length := by omega
  have hlb : i < b.length := by omega
  refine J_skip (J_seq (J_block (J_seq ?_)))
  refine J_draw [⟨0, [0], true⟩, ⟨1, [5], true⟩, ⟨2, [17, 18], true⟩, ⟨3, [19], true⟩, ⟨4, [1], true⟩, ⟨5, [5], true⟩, ⟨6, [21, 22], true⟩, ⟨7, [23], true⟩, ⟨8, [20, 24], true⟩] rfl (by kernel_rfl) ?_
  refine Mv rfl rfl (Mv rfl rfl ?_)
  refine Mf rfl rfl (step_indexAddr_sl (i := i) underlying45 ty62 Sr Sr (by rfl) (gb (by exact hlt))) ?_
  refine Mf rfl rfl (step_load_ptr ty62 Sr) (Mv rfl rfl (Mv rfl rfl ?_))
  refine Mf rfl rfl (step_indexAddr_sl (i := i) underlying45 ty62 Sr Sr (by rfl) (gb zG)) ?_
  refine Mf rfl rfl (step_load_ptr ty62 Sr) (Mf rfl rfl (step_neq_val Sr Sr) (JM_nil ?_))
  refine J_cond Sr (fun h25 => ?_) (fun h25 => ?_)
  ·
   try simp only [NF] at h25
   have hne : ¬ nth a i = nth b i := by first | exact h25 | simpa using h25
   refine Jr (Ja rfl (JL_nil (J_ret ?_)))
   refine K_ret1 (t := 4) rfl () ?_
   refine Sub.bool ?_
   exact (decide_eq_false (fun e => hne (by rw [e]))).symm
  try simp only [NF] at h25
  have heq : nth a i = nth b i := by first | exact h25 | simpa using h25
  refine J_skip (J_region (Jm rfl (Js rfl (step_add Sr Sr z6) (Ja rfl (JL_nil ?_)))))
  refine K_againL (σ := Nat) (s := i) (i + 1) zO ⟨by omega, by rw [takeB hlt, takeB hlb, hv, heq]⟩ (zU) (LSub.rfl)
 try simp only [NF] at h14
 obtain rfl : i = a.length := by omega
 refine J_exit (Jr (Ja rfl (JL_nil (J_ret ?_))))
 refine K_ret1 (t := 4) rfl () ?_
 refine Sub.bool ?_
 refine (decide_eq_true ?_).symm
 rw [List.take_length, hab, List.take_length] at hv; exact hv
end Lg
