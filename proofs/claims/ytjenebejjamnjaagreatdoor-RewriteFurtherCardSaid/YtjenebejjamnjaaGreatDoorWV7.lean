/- The plain law and the walk of the law RewriteFurther. -/
import Derived.Test.YtjenebejjamnjaaGreatDoorG
set_option linter.unusedVariables false
set_option linter.unusedSimpArgs false
set_option linter.unusedSectionVars false
/- The key tells the values. -/
namespace Lg
open Go Go.Proofs
def itoaI (n : Int) : List Int := (Lib.itoa n).map fun c => (c.toNat : Int)
theorem bytes_itoa (n : Int) : bytesOf (itoaB n) = itoaI n := by
  show ((Lib.itoa n).toArray.toList).map _ = _
  simp [itoaI]
theorem nat_inj {a b : UInt8} (h : (a.toNat : Int) = b.toNat) : a = b := UInt8.toNat.inj (by omega)
theorem itoaI_inj {a b : Int} (h : itoaI a = itoaI b) : a = b := by
  have h1 : Lib.itoa a = Lib.itoa b := by
    unfold itoaI at h
    exact List.map_inj_right (fun x y e => nat_inj e) |>.1 h
  have hd := dec_rng a.toNat
  have hd2 := dec_rng b.toNat
  have hn : ∀ {n m : Nat}, Lib.decDigits n ≠ 45 :: Lib.decDigits m := by
    intro n m e
    have := (dec_rng n).1 45 (by rw [e]; simp)
    simp at this
  unfold Lib.itoa at h1
  split at h1 <;> split at h1
  · injection h1 with _ h2
    have := dec_inj h2
    omega
  · exact absurd h1.symm hn
  · exact absurd h1 hn
  · have := dec_inj h1
    omega
theorem itoaI_rng (n : Int) : ∀ c ∈ itoaI n, c = 45 ∨ (48 ≤ c ∧ c ≤ 57) := by
  intro c hc
  unfold itoaI at hc
  obtain ⟨u, hu, rfl⟩ := List.mem_map.1 hc
  unfold Lib.itoa at hu
  split at hu
  · rcases List.mem_cons.1 hu with rfl | hu
    · left; rfl
    · have := (dec_rng _).1 u hu
      right; omega
  · have := (dec_rng _).1 u hu
    right; omega
theorem itoaI_ne (n : Int) : itoaI n ≠ [] := by
  unfold itoaI Lib.itoa
  split
  · simp
  · have := (dec_rng n.toNat).2
    simpa using this
/-- The bytes of a valid value's text. -/
def txL (v : GValue) : List Int := if v.Kind = 1 then 34 :: (escL (bytesOf v.Text) ++ [34]) else if v.Kind = 2 then itoaI v.N else if v.Kind = 3 then 64 :: itoaI v.N else if v.Kind = 4 then (if v.N = 1 then [116, 114, 117, 101] else [102, 97, 108, 115, 101]) else [110, 117, 108, 108]
theorem bytes_of {l : List Int} (h : ∀ x ∈ l, 0 ≤ x ∧ x < 256) : bytesOf (ofBytes l) = l := by
  unfold bytesOf ofBytes
  simp only [List.map_map]
  conv => rhs; rw [← List.map_id l]
  refine List.map_congr_left fun x hx => ?_
  have := h x hx
  simp only [Function.comp, id, UInt8.toNat_ofNat']
  omega
theorem escL_rng {l : List Int} (h : ∀ x ∈ l, 0 ≤ x ∧ x < 256) : ∀ x ∈ escL l, 0 ≤ x ∧ x < 256 := by
  intro x hx
  unfold escL at hx
  obtain ⟨c, hc, hx⟩ := List.mem_flatMap.1 hx
  have := h c hc
  unfold escU at hx
  repeat' split at hx
  all_goals simp at hx; omega
theorem tx_eq {v : GValue} (h : validV v = true) : bytesOf (textV v) = txL v := by
  unfold textV txL
  rw [if_neg (by rw [h]; simp)]
  by_cases h1 : v.Kind = 1
  · rw [if_pos h1, if_pos h1]
    unfold quoteB
    rw [bytesOf_append, bytesOf_append, bytes_of (escL_rng (bytesOf_rng _))]
    rfl
  · rw [if_neg h1, if_neg h1]
    by_cases h2 : v.Kind = 2
    · rw [if_pos h2, if_pos h2]; exact bytes_itoa _
    · rw [if_neg h2, if_neg h2]
      by_cases h3 : v.Kind = 3
      · rw [if_pos h3, if_pos h3, bytesOf_append, bytes_itoa]; rfl
      · rw [if_neg h3, if_neg h3]
        by_cases h4 : v.Kind = 4
        · rw [if_pos h4, if_pos h4]
          by_cases h5 : v.N = 1
          · rw [if_pos h5, decide_eq_true h5]; rfl
          · rw [if_neg h5, decide_eq_false h5]; rfl
        · rw [if_neg h4, if_neg h4]; rfl
theorem bytesOf_inj {a b : ByteArray} (h : bytesOf a = bytesOf b) : a = b := by rw [← ofBytes_bytesOf a, h, ofBytes_bytesOf]
/-- What a valid value is made of. -/
theorem valid_kind {v : GValue} (h : validV v = true) : (v.Kind ≠ 1 → v.Text = ⟨#[]⟩) ∧ (v.Kind = 0 ∨ v.Kind = 1 ∨ v.Kind = 2 ∨ v.Kind = 3 ∨ v.Kind = 4) ∧ (v.Kind = 0 ∨ v.Kind = 1 → v.N = 0) ∧ (v.Kind = 4 → v.N = 0 ∨ v.N = 1) := by
  unfold validV at h
  split at h
  · cases h
  rename_i hn
  refine ⟨fun h1 => Classical.byContradiction fun h2 => hn ⟨h1, h2⟩, ?_⟩
  split at h
  · rename_i h0
    simp at h
    exact ⟨.inl h0, fun _ => by omega, fun e => by omega⟩
  split at h
  · rename_i h1
    split at h
    · cases h
    simp at h
    exact ⟨.inr (.inl h1), fun _ => by omega, fun e => by omega⟩
  split at h
  · rename_i h0 h1 h2
    exact ⟨.inr (.inr (.inl h2)), fun e => by omega, fun e => by omega⟩
  split at h
  · rename_i h0 h1 h2 h3
    exact ⟨.inr (.inr (.inr (.inl h3))), fun e => by omega, fun e => by omega⟩
  split at h
  · rename_i h0 h1 h2 h3 h4
    simp at h
    exact ⟨.inr (.inr (.inr (.inr h4))), fun e => by omega, fun _ => by omega⟩
  · cases h
theorem txL_no {v : GValue} (h1 : v.Kind ≠ 1) : (32 : Int) ∉ txL v ∧ ∃ c r, txL v = c :: r ∧ c ≠ 34 := by
  unfold txL
  rw [if_neg h1]
  by_cases h2 : v.Kind = 2
  · rw [if_pos h2]
    refine ⟨fun hm => by have := itoaI_rng _ _ hm; omega, ?_⟩
    cases e : itoaI v.N with
    | nil => exact absurd e (itoaI_ne _)
    | cons c r => exact ⟨c, r, rfl, by have := itoaI_rng v.N c (by rw [e]; simp); omega⟩
  · rw [if_neg h2]
    by_cases h3 : v.Kind = 3
    · rw [if_pos h3]
      refine ⟨fun hm => ?_, 64, _, rfl, by decide⟩
      rcases List.mem_cons.1 hm with h | h
      · cases h
      · have := itoaI_rng _ _ h; omega
    · rw [if_neg h3]
      by_cases h4 : v.Kind = 4
      · rw [if_pos h4]
        by_cases h5 : v.N = 1
        · rw [if_pos h5]; exact ⟨by decide, 116, _, rfl, by decide⟩
        · rw [if_neg h5]; exact ⟨by decide, 102, _, rfl, by decide⟩
      · rw [if_neg h4]; exact ⟨by decide, 110, _, rfl, by decide⟩
theorem value_ext {v w : GValue} (h1 : v.Kind = w.Kind) (h2 : v.N = w.N) (h3 : v.Text = w.Text) : v = w := by
  cases v; cases w; simp_all
theorem txL_inj {v w : GValue} (hv : validV v = true) (hw : validV w = true) (k1 : v.Kind ≠ 1) (k2 : w.Kind ≠ 1) (h : txL v = txL w) : v = w := by
  obtain ⟨a1, a2, a3, a4⟩ := valid_kind hv
  obtain ⟨b1, b2, b3, b4⟩ := valid_kind hw
  have ht : v.Text = w.Text := by rw [a1 k1, b1 k2]
  have hd : ∀ n : Int, ∀ c r, itoaI n = c :: r → c = 45 ∨ (48 ≤ c ∧ c ≤ 57) := fun n c r e => itoaI_rng n c (by rw [e]; simp)
  unfold txL at h
  rw [if_neg k1, if_neg k2] at h
  rcases a2 with k | k | k | k | k <;> rcases b2 with j | j | j | j | j <;> first | exact absurd k k1 | exact absurd j k2 | skip
  all_goals simp only [k, j] at h
  · exact value_ext (by omega) (by rw [a3 (.inl k), b3 (.inl j)]) ht
  · exfalso; simp at h; have := hd _ _ _ h.symm; omega
  · exfalso; simp at h
  · exfalso; rcases b4 j with e | e <;> simp [e] at h
  · exfalso; simp at h; have := hd _ _ _ h; omega
  · simp at h; exact value_ext (by omega) (itoaI_inj h) ht
  · exfalso; simp at h; have := hd _ _ _ h; omega
  · exfalso; rcases b4 j with e | e <;> simp [e] at h <;> (have := hd _ _ _ h; omega)
  · exfalso; simp at h
  · exfalso; simp at h; have := hd _ _ _ h.symm; omega
  · simp at h; exact value_ext (by omega) (itoaI_inj h) ht
  · exfalso; rcases b4 j with e | e <;> simp [e] at h
  · exfalso; rcases a4 k with e | e <;> simp [e] at h
  · exfalso; rcases a4 k with e | e <;> simp [e] at h <;> (have := hd _ _ _ h.symm; omega)
  · exfalso; rcases a4 k with e | e <;> simp [e] at h
  · rcases a4 k with e | e <;> rcases b4 j with e2 | e2 <;> simp [e, e2] at h <;> exact value_ext (by omega) (by omega) ht
theorem tx_cut {v w : GValue} (hv : validV v = true) (hw : validV w = true) {t t' : List Int} (h : txL v ++ 32 :: t = txL w ++ 32 :: t') : v = w ∧ t = t' := by
  by_cases k1 : v.Kind = 1
  · by_cases k2 : w.Kind = 1
    · unfold txL at h
      rw [if_pos k1, if_pos k2] at h
      simp only [List.cons_append, List.append_assoc, List.nil_append, List.cons.injEq, true_and] at h
      obtain ⟨e1, e2⟩ := esc_cut h
      have := (valid_kind hv).2.2.1 (.inr k1)
      have := (valid_kind hw).2.2.1 (.inr k2)
      simp at e2
      exact ⟨value_ext (by omega) (by omega) (bytesOf_inj e1), e2⟩
    · obtain ⟨_, c, r, e, hc⟩ := txL_no k2
      rw [e] at h
      unfold txL at h
      rw [if_pos k1] at h
      simp at h
      exact absurd h.1.symm hc
  · by_cases k2 : w.Kind = 1
    · obtain ⟨_, c, r, e, hc⟩ := txL_no k1
      rw [e] at h
      unfold txL at h
      rw [if_pos k2] at h
      simp at h
      exact absurd h.1 hc
    · obtain ⟨e1, e2⟩ := cut_at (txL_no k1).1 (txL_no k2).1 h
      exact ⟨txL_inj hv hw k1 k2 e1, e2⟩
end Lg

/- Keys, blocks, groups; certainty over groups. -/
namespace Lg
open Go Go.Proofs
def valAt (a : GAtom) (f : GFact) (k : Nat) : GValue := nth f.Row (nth a.Cols k).toNat
def keyL (vs : List GValue) : List Int := vs.flatMap fun v => txL v ++ [32]
theorem keyL_inj : ∀ {vs ws : List GValue}, vs.length = ws.length → (∀ v ∈ vs, validV v = true) → (∀ v ∈ ws, validV v = true) → keyL vs = keyL ws → vs = ws
  | [], [], _, _, _, _ => rfl
  | v :: vs, w :: ws, hl, hv, hw, h => by
    simp only [keyL, List.flatMap_cons, List.append_assoc, List.cons_append, List.nil_append] at h
    obtain ⟨e1, e2⟩ := tx_cut (hv v (by simp)) (hw w (by simp)) h
    rw [e1, keyL_inj (vs := vs) (ws := ws) (by simpa using hl) (fun x hx => hv x (by simp [hx])) (fun x hx => hw x (by simp [hx])) e2]
  | [], _ :: _, hl, _, _, _ => by simp at hl
  | _ :: _, [], hl, _, _, _ => by simp at hl
theorem key_bytes {a : GAtom} {f : GFact} : ∀ {k : Nat}, (∀ j, j < k → validV (valAt a f j) = true) → bytesOf (keyB a f k) = keyL ((List.range k).map (valAt a f))
  | 0, _ => rfl
  | k + 1, h => by
    have ih := key_bytes (a := a) (f := f) (k := k) fun j hj => h j (by omega)
    simp only [keyB, bytesOf_append]
    rw [ih, List.range_succ, List.map_append, show textV (nth f.Row (nth a.Cols k).toNat) = textV (valAt a f k) from rfl, tx_eq (h k (by omega))]
    simp only [keyL, List.flatMap_append, List.map_cons, List.map_nil, List.flatMap_cons, List.flatMap_nil, List.append_nil, List.append_assoc]
    rfl
theorem key_inj {a : GAtom} {f g : GFact} (hf : FitF a f) (hg : FitF a g) {k : Nat} (hk : k ≤ a.Cols.length) (h : keyB a f k = keyB a g k) : ∀ j, j < k → valAt a f j = valAt a g j := by
  have hv : ∀ j, j < k → validV (valAt a f j) = true := fun j hj => (hf j (by omega)).2.2
  have hw : ∀ j, j < k → validV (valAt a g j) = true := fun j hj => (hg j (by omega)).2.2
  have h1 : keyL ((List.range k).map (valAt a f)) = keyL ((List.range k).map (valAt a g)) := by rw [← key_bytes hv, ← key_bytes hw, h]
  have h2 := keyL_inj (by simp) (fun v hv' => by
    obtain ⟨j, hj, rfl⟩ := List.mem_map.1 hv'
    exact hv j (List.mem_range.1 hj)) (fun v hv' => by
    obtain ⟨j, hj, rfl⟩ := List.mem_map.1 hv'
    exact hw j (List.mem_range.1 hj)) h1
  intro j hj
  have h3 := congrArg (fun l => l[j]?) h2
  simpa [hj] using h3
theorem key_congr {a : GAtom} {f g : GFact} : ∀ {k : Nat}, (∀ j, j < k → valAt a f j = valAt a g j) → keyB a f k = keyB a g k
  | 0, _ => rfl
  | k + 1, h => by
    simp only [keyB]
    rw [key_congr fun j hj => h j (by omega), show nth f.Row (nth a.Cols k).toNat = nth g.Row (nth a.Cols k).toNat from h k (by omega)]
/-! The relation of the law, and keys. -/
theorem sameL_f {f g : GFact} {i : Nat} : ∀ {l : List GAtom}, (∀ a ∈ l, tabs f g a = true → sameA a f g = false) → sameL f g l = false
  | [], _ => rfl
  | a :: l, h1 => by
    unfold sameL
    by_cases ht : tabs f g a = true
    · rw [if_pos ht]; exact h1 a (by simp) ht
    · rw [if_neg ht]; exact sameL_f (i := i) fun c hc => h1 c (by simp [hc])
theorem sameA_iff {a : GAtom} {f g : GFact} (hf : FitF a f) (hg : FitF a g) (hk : a.Key ≤ a.Cols.length) : sameA a f g = true ↔ keyB a f a.Key.toNat = keyB a g a.Key.toNat := by
  unfold sameA
  rw [rall_iff]
  constructor
  · intro h
    refine key_congr fun j hj => ?_
    have h1 := h j (by omega)
    rw [decide_eq_true (by omega : (j : Int) < a.Key)] at h1
    unfold cAt at h1
    simp only [Bool.not_true, Bool.false_or, Bool.and_eq_true, decide_eq_true_eq] at h1
    exact h1.2
  · intro h k hk2
    by_cases hlt : (k : Int) < a.Key
    · have h1 := key_inj hf hg (by omega) h k (by omega)
      have h2 := hf k hk2
      have h3 := hg k hk2
      unfold cAt
      rw [decide_eq_true h2.1, decide_eq_true h2.2.1, decide_eq_true h3.2.1, decide_eq_true (p := nth f.Row (nth a.Cols k).toNat = nth g.Row (nth a.Cols k).toNat) h1]
      simp
    · rw [decide_eq_false hlt]; rfl
theorem same_iff {q : GConj} {facts : List GFact} (hfit : fitM q facts = true) {f g : GFact} (hf : f ∈ facts) (hg : g ∈ facts) {i : Nat} (hi : i < q.Atoms.length) (tf : f.Table = (nth q.Atoms i).Table) (tg : g.Table = (nth q.Atoms i).Table) :
    sameM q f g = true ↔ keyB (nth q.Atoms i) f (nth q.Atoms i).Key.toNat = keyB (nth q.Atoms i) g (nth q.Atoms i).Key.toNat := by
  have hq := fit_valid hfit
  have hsa := sameA_iff (fit_fact hfit hf hi tf) (fit_fact hfit hg hi tg) (valid_cols hq (nth_mem hi)).2.2.2.1
  have huniq : ∀ a ∈ q.Atoms, tabs f g a = true → a = nth q.Atoms i := by
    intro a ha ht
    obtain ⟨j, hj, rfl⟩ := List.getElem_of_mem ha
    unfold tabs at ht
    simp only [Bool.and_eq_true, decide_eq_true_eq] at ht
    rw [← nth_get hj] at ht ⊢
    rw [valid_inj hq hj hi (ht.1.trans tf)]
  rw [← hsa]
  constructor
  · intro h
    cases hc : sameA (nth q.Atoms i) f g with
    | true => rfl
    | false =>
      have : sameM q f g = false := sameL_f (i := 0) fun a ha ht => by rw [huniq a ha ht]; exact hc
      rw [this] at h; cases h
  · intro h
    exact sameL_t (fun a ha ht => by rw [huniq a ha ht]; exact h) ⟨_, nth_mem hi, by unfold tabs; rw [tf, tg]; simp⟩
theorem sameL_tab {f g : GFact} : ∀ {l : List GAtom}, sameL f g l = true → ∃ a ∈ l, a.Table = f.Table ∧ a.Table = g.Table
  | [], h => by cases h
  | a :: l, h => by
    unfold sameL at h
    by_cases ht : tabs f g a = true
    · unfold tabs at ht
      simp only [Bool.and_eq_true, decide_eq_true_eq] at ht
      exact ⟨a, by simp, ht⟩
    · rw [if_neg ht] at h
      obtain ⟨b, hb, h2⟩ := sameL_tab h
      exact ⟨b, by simp [hb], h2⟩
theorem same_tab {q : GConj} {f g : GFact} (h : sameM q f g = true) : ∃ i, i < q.Atoms.length ∧ f.Table = (nth q.Atoms i).Table ∧ g.Table = (nth q.Atoms i).Table := by
  obtain ⟨a, ha, h1, h2⟩ := sameL_tab h
  obtain ⟨i, hi, rfl⟩ := List.getElem_of_mem ha
  exact ⟨i, hi, by rw [nth_get hi]; exact h1.symm, by rw [nth_get hi]; exact h2.symm⟩
/-! Groups -/
abbrev kyF (a : GAtom) (f : GFact) : ByteArray := keyB a f a.Key.toNat
def inG (a : GAtom) (k : ByteArray) (g : GFact) : Bool := decide (g.Table = a.Table) && decide (kyF a g = k)
def grpF (a : GAtom) (l : List GFact) (f : GFact) : List GFact := l.filter (inG a (kyF a f))
structure BlkI (a : GAtom) (l : List GFact) (m : List (ByteArray × List GFact)) : Prop where
  nd : (m.map (·.1)).Nodup
  gt : ∀ k, (mget m k).getD [] = l.filter (inG a k)
  ne : ∀ b ∈ m, b.2 ≠ []
theorem BlkI.step {a : GAtom} {l : List GFact} {m : List (ByteArray × List GFact)} (h : BlkI a l m) (f : GFact) : BlkI a (l ++ [f]) (if f.Table = a.Table then bput m (kyF a f) f else m) := by
  by_cases ht : f.Table = a.Table
  · rw [if_pos ht]
    unfold bput
    refine ⟨?_, fun k => ?_, fun b hb => ?_⟩
    · rw [mput_keys]
      split
      · exact h.nd
      · rename_i hn
        rw [List.nodup_append]
        exact ⟨h.nd, by simp, fun x hx y hy => by simp at hy; subst hy; exact fun e => hn (e ▸ hx)⟩
    · rw [mget_mput, List.filter_append]
      by_cases e : k = kyF a f
      · subst e
        rw [if_pos rfl, Option.getD_some, h.gt]
        congr 1
        simp [inG, ht]
      · rw [if_neg e, h.gt]
        have : inG a k f = false := by unfold inG; rw [decide_eq_false (p := kyF a f = k) (fun q => e q.symm), Bool.and_false]
        simp [this]
    · rcases mem_mputG hb with e | hb
      · subst e; simp
      · exact h.ne b hb
  · rw [if_neg ht]
    refine ⟨h.nd, fun k => ?_, h.ne⟩
    rw [List.filter_append, h.gt]
    simp [inG, ht]
theorem blk_inv (a : GAtom) (l : List GFact) : BlkI a l (blkM a l) := by
  have : ∀ (l l0 : List GFact) (m : List (ByteArray × List GFact)), BlkI a l0 m → BlkI a (l0 ++ l) (l.foldl (fun m f => if f.Table = a.Table then bput m (keyB a f a.Key.toNat) f else m) m) := by
    intro l
    induction l with
    | nil => intro l0 m h; simpa using h
    | cons f l ih =>
      intro l0 m h
      have := ih (l0 ++ [f]) _ (h.step f)
      simpa [List.append_assoc] using this
  exact this l [] [] ⟨by simp, fun k => rfl, fun b hb => by cases hb⟩
theorem blk_grp (a : GAtom) (l : List GFact) (x : List GFact) : (∃ b ∈ blkM a l, b.2 = x) ↔ ∃ f ∈ l, f.Table = a.Table ∧ x = grpF a l f := by
  have h := blk_inv a l
  constructor
  · rintro ⟨⟨k, y⟩, hb, rfl⟩
    have h1 := (mget_mem h.nd).2 hb
    have h2 := h.gt k
    rw [h1, Option.getD_some] at h2
    have h3 := h.ne _ hb
    show ∃ f ∈ l, f.Table = a.Table ∧ y = grpF a l f
    cases e : y with
    | nil => exact absurd e h3
    | cons f r =>
      have hm : f ∈ l.filter (inG a k) := by rw [← h2, e]; simp
      obtain ⟨hm1, hm2⟩ := List.mem_filter.1 hm
      unfold inG at hm2
      simp only [Bool.and_eq_true, decide_eq_true_eq] at hm2
      refine ⟨f, hm1, hm2.1, ?_⟩
      unfold grpF
      rw [hm2.2, ← e, h2]
  · rintro ⟨f, hf, ht, rfl⟩
    have h2 := h.gt (kyF a f)
    cases e : mget (blkM a l) (kyF a f) with
    | none =>
      rw [e] at h2
      have : f ∈ l.filter (inG a (kyF a f)) := List.mem_filter.2 ⟨hf, by unfold inG; simp [ht]⟩
      rw [← h2] at this; cases this
    | some y =>
      rw [e, Option.getD_some] at h2
      exact ⟨_, (mget_mem h.nd).1 e, h2⟩
theorem grpF_self {a : GAtom} {l : List GFact} {f : GFact} (hf : f ∈ l) (ht : f.Table = a.Table) : f ∈ grpF a l f := List.mem_filter.2 ⟨hf, by unfold inG; simp [ht]⟩
theorem mem_grpF {a : GAtom} {l : List GFact} {f g : GFact} : g ∈ grpF a l f ↔ g ∈ l ∧ g.Table = a.Table ∧ kyF a g = kyF a f := by
  unfold grpF inG
  rw [List.mem_filter]
  simp
/-! Certainty over groups -/
def grps (a : GAtom) (facts : List GFact) : List (List (List (Bnd GValue))) := (blkM a facts).map fun b => b.2.map (bnd a)
theorem map_range' {α β : Type} [Inhabited α] (F : α → β) (l : List α) : (List.range' 0 l.length).map (fun i => F (nth l i)) = l.map F := by
  apply List.ext_getElem
  · simp
  · intro i h1 h2
    have : i < l.length := by simpa using h2
    simp [nth_get this]
theorem certM_grps (q : GConj) (facts : List GFact) : certM (rwM q facts) 0 [] = certL (eqT q) ((sortedM q).map fun a => grps a facts) [] := by
  unfold certM
  congr 1
  show (List.range' 0 ((sortedM q).length - 0)).map (grpM (rwM q facts)) = _
  rw [Nat.sub_zero, ← map_range' (fun a => grps a facts) (sortedM q)]
  refine List.map_congr_left fun i hi => ?_
  have hlt : i < (sortedM q).length := by
    obtain ⟨j, hj, e⟩ := List.mem_range'.1 hi
    omega
  unfold grpM grps
  have : nth (rwM q facts).blocks i = some (blkM (nth (sortedM q) i) facts) := by
    rw [nth_get (by unfold rwM; simpa using hlt)]
    unfold rwM
    simp [nth_get hlt]
  rw [this]; rfl
def CertQ (q : GConj) (facts : List GFact) : Prop := CertP (eqT q) ((sortedM q).map fun a => grps a facts) []
theorem cert_iff {q : GConj} {facts : List GFact} (hfit : fitM q facts = true) (hf : firstM q = true) : certB q facts = true ↔ CertQ q facts := by
  unfold certB CertQ
  rw [hfit, hf, certM_grps]
  simp only [Bool.true_and]
  exact certL_iff (eqT q) _ (okB_nil (eqT q))
theorem all2_map {α β γ : Type} {p : β → γ → Prop} {F : α → β} {G : α → γ} : ∀ {l : List α}, (∀ a ∈ l, p (F a) (G a)) → All2 p (l.map F) (l.map G)
  | [], _ => .nil
  | a :: l, h => .cons (h a (by simp)) (all2_map fun b hb => h b (by simp [hb]))
theorem sorted_mem {q : GConj} {a : GAtom} (hf : firstM q = true) (h : a ∈ sortedM q) : ∃ i, i < q.Atoms.length ∧ a = nth q.Atoms i := by
  unfold sortedM at h
  obtain ⟨i, hi, rfl⟩ := List.mem_map.1 h
  exact ⟨i, (sorted_ok hf).2.lt i hi, rfl⟩
/-- More groups, smaller groups. -/
theorem certQ_mono {q : GConj} {facts facts' : List GFact} (hf : firstM q = true) (h : ∀ i, i < q.Atoms.length → ∀ f ∈ facts, f.Table = (nth q.Atoms i).Table → ∃ g ∈ facts', g.Table = (nth q.Atoms i).Table ∧ ∀ x ∈ grpF (nth q.Atoms i) facts' g, x ∈ grpF (nth q.Atoms i) facts f) :
    CertQ q facts → CertQ q facts' := by
  refine Cert_mono (eqT q) (all2_map fun a ha => ?_)
  obtain ⟨i, hi, rfl⟩ := sorted_mem hf ha
  intro b hb
  obtain ⟨b0, hb0, rfl⟩ := List.mem_map.1 hb
  obtain ⟨f, hf1, hf2, hf3⟩ := (blk_grp (nth q.Atoms i) facts b0.2).1 ⟨b0, hb0, rfl⟩
  obtain ⟨g, hg1, hg2, hg3⟩ := h i hi f hf1 hf2
  obtain ⟨b1, hb1, e1⟩ := (blk_grp (nth q.Atoms i) facts' _).2 ⟨g, hg1, hg2, rfl⟩
  refine ⟨_, List.mem_map.2 ⟨b1, hb1, rfl⟩, fun y hy => ?_⟩
  obtain ⟨x, hx, rfl⟩ := List.mem_map.1 hy
  rw [e1] at hx
  exact List.mem_map.2 ⟨x, by rw [hf3]; exact hg3 x hx, rfl⟩
/-! A further fact -/
theorem fit_sub {q : GConj} {facts : List GFact} {x : GFact} (h : fitM q (facts ++ [x]) = true) : fitM q facts = true := by
  unfold fitM at h ⊢
  rw [Bool.and_eq_true] at h ⊢
  refine ⟨h.1, rall_t fun k hk => ?_⟩
  have := rall_iff.1 h.2 k (by simp; omega)
  rwa [nth_get (by simp; omega), List.getElem_append_left hk, ← nth_get hk] at this
theorem certE_zero {q : GConj} {facts : List GFact} (h : certE q facts = 0) : fitM q facts = true ∧ firstM q = true := by
  unfold certE at h
  by_cases h1 : fitM q facts = true
  · rw [if_pos h1] at h
    by_cases h2 : firstM q = true
    · exact ⟨h1, h2⟩
    · rw [if_neg h2] at h; cases h
  · rw [if_neg h1] at h; cases h
theorem further_in {q : GConj} {facts : List GFact} {x : GFact} (h2 : certE q (facts ++ [x]) = 0) (hb : ∃ f ∈ facts, sameM q f x = true) (hc : certB q (facts ++ [x]) = true) : certB q facts = true := by
  obtain ⟨hfit, hf⟩ := certE_zero h2
  have hfit0 := fit_sub hfit
  rw [cert_iff hfit hf] at hc
  rw [cert_iff hfit0 hf]
  refine certQ_mono hf (fun i hi f hfm ht => ?_) hc
  rcases List.mem_append.1 hfm with hfm | hfm
  · refine ⟨f, hfm, ht, fun y hy => ?_⟩
    rw [mem_grpF] at hy ⊢
    exact ⟨List.mem_append_left _ hy.1, hy.2⟩
  · have hfm : f = x := by simpa using hfm
    subst hfm
    obtain ⟨f0, hf0, hs⟩ := hb
    obtain ⟨j, hj, t1, t2⟩ := same_tab hs
    have hji : j = i := valid_inj (fit_valid hfit) hj hi (t2.symm.trans ht)
    subst hji
    have hk := (same_iff hfit (List.mem_append_left _ hf0) (List.mem_append_right _ (by simp)) hj t1 t2).1 hs
    refine ⟨f0, hf0, t1, fun y hy => ?_⟩
    rw [mem_grpF] at hy ⊢
    exact ⟨List.mem_append_left _ hy.1, hy.2.1, hy.2.2.trans hk⟩
theorem further_out {q : GConj} {facts : List GFact} {x : GFact} (h2 : certE q (facts ++ [x]) = 0) (hb : ∀ f ∈ facts, sameM q f x = false) (hc : certB q facts = true) : certB q (facts ++ [x]) = true := by
  obtain ⟨hfit, hf⟩ := certE_zero h2
  have hfit0 := fit_sub hfit
  rw [cert_iff hfit0 hf] at hc
  rw [cert_iff hfit hf]
  refine certQ_mono hf (fun i hi f hfm ht => ⟨f, List.mem_append_left _ hfm, ht, fun y hy => ?_⟩) hc
  rw [mem_grpF] at hy ⊢
  obtain ⟨hy1, hy2, hy3⟩ := hy
  refine ⟨?_, hy2, hy3⟩
  rcases List.mem_append.1 hy1 with hy1 | hy1
  · exact hy1
  · have hy1 : y = x := by simpa using hy1
    subst hy1
    have hs := (same_iff hfit (List.mem_append_left _ hfm) (List.mem_append_right _ (by simp)) hi ht hy2).2 hy3.symm
    rw [hb f hfm] at hs; cases hs
end Lg

namespace Lg
open Go Go.Proofs


theorem Flat.tup2 {a b : Value} : Flat (tTup [tV a, tV b]) := fun h h' v ⟨vs, e, hv⟩ => ⟨vs, e, by
  match vs, hv with
  | [_, _], ⟨h1, h2, h3⟩ => exact ⟨h1, h2, h3⟩⟩

set_option maxHeartbeats 4000000 in
theorem RewriteFurther_spec (q : GConj) (facts : List GFact) (x : GFact) (hq : q.Atoms.length ≤ 9223372036854775807) (hl : facts.length * 80 ≤ 140737488351232) : Fun1 Tryz.prog 7 [rConj.ty q, tSl rFact facts, rFact.ty x] (tV (.bool true)) := by
  refine Spec.enter Tryz.func7 rfl rfl fun h0 w0 fr0 => ?_
  refine J_seq ?_
  refine J_region ?_
  refine JL_step rfl rfl rfl (step_box (R := rConj) Sub.rfl) ?_
  refine JL_step rfl rfl rfl (step_box (R := rFact) Sub.rfl) ?_
  refine JL_step rfl rfl rfl (step_assign Sub.rfl) ?_
  refine JL_nil ?_
  refine J_seq ?_
  refine J_region ?_
  refine JL_step rfl rfl rfl (step_call0 (head_spec) trivial Tryz.call11) ?_
  refine JL_step rfl rfl rfl (step_assign Sub.rfl) ?_
  refine JL_nil ?_
  refine J_seq ?_
  refine J_seq ?_
  refine J_draw [⟨0, [3], true⟩, ⟨2, [1], true⟩, ⟨4, [5], true⟩, ⟨5, [19], true⟩, ⟨1, [], false⟩, ⟨3, [16, 17], false⟩, ⟨6, [18, 20], false⟩, ⟨7, [15, 21], false⟩, ⟨8, [22], true⟩] rfl (by kernel_rfl) ?_
  refine JM_step rfl rfl rfl rfl (fun _ => step_load_ptr ty25 Sub.rfl) ?_
  refine JM_step rfl rfl rfl rfl (fun _ => step_move Sub.rfl) ?_
  refine JM_step rfl rfl rfl rfl (fun _ => step_load_ptr ty45 Sub.rfl) ?_
  refine JM_step rfl rfl rfl rfl (fun _ => step_literal (ys := [_]) Tryz.underlying26 el45 ⟨rfl, Sub.rfl, trivial⟩ rfl (by decide)) ?_
  refine JM_stepX rfl rfl rfl rfl (step_literal_own (ys := []) Tryz.underlying26 el45 trivial rfl (by decide)) fun u16 => ?_
  refine JM_stepX rfl rfl rfl rfl (step_append Tryz.underlying26 el45 Sub.rfl Sub.rfl (by first | exact Sel.take (Sel.none _) | exact Sel.skip (Sel.take (Sel.none _)) | exact Sel.skip (Sel.skip (Sel.take (Sel.none _))) | exact Sel.skip (Sel.skip (Sel.skip (Sel.take (Sel.none _)))) | exact Sel.skip (Sel.skip (Sel.skip (Sel.skip (Sel.take (Sel.none _)))))) (by simp; omega) (by simp; omega)) fun u18 => ?_
  refine JM_stepX rfl rfl rfl rfl (step_append Tryz.underlying26 el45 Sub.rfl Sub.rfl (by first | exact Sel.take (Sel.none _) | exact Sel.skip (Sel.take (Sel.none _)) | exact Sel.skip (Sel.skip (Sel.take (Sel.none _))) | exact Sel.skip (Sel.skip (Sel.skip (Sel.take (Sel.none _)))) | exact Sel.skip (Sel.skip (Sel.skip (Sel.skip (Sel.take (Sel.none _)))))) (by simp; omega) (by simp; omega)) fun u21 => ?_
  refine JM_look rfl rfl rfl rfl (step_call_look (Sel.take (Sel.none _)) (Small_spec q (facts ++ [x]) 12 (by omega) hq) (fun _ => Flat.v _) ⟨(Frz.sub Sub.rfl), (Frz.own), (Frz.sub Sub.rfl), trivial⟩ Tryz.call12) ?_
  refine JM_step rfl rfl rfl rfl (fun _ => step_not Sub.rfl) ?_
  refine JM_nil ?_
  refine K_drop (Sel.all _) ?_
  refine J_cond Sub.rfl (fun h23 => ?_) (fun h23 => ?_)
  · try simp only [decide_eq_true_eq, decide_eq_false_iff_not, Bool.and_eq_true, Bool.or_eq_true, Bool.and_eq_false_iff, Bool.or_eq_false_iff, Bool.not_eq_true', Bool.not_eq_false', Int.not_lt, Int.not_le, Bool.not_true, Bool.not_false] at h23
    refine J_seq ?_
    refine J_region ?_
    refine JL_step rfl rfl rfl (step_move Sub.rfl) ?_
    refine JL_step rfl rfl rfl (step_assign Sub.rfl) ?_
    refine JL_nil ?_
    refine J_ret ?_
    refine K_ret1 (t := 6) rfl () Sub.rfl
  · try simp only [decide_eq_true_eq, decide_eq_false_iff_not, Bool.and_eq_true, Bool.or_eq_true, Bool.and_eq_false_iff, Bool.or_eq_false_iff, Bool.not_eq_true', Bool.not_eq_false', Int.not_lt, Int.not_le, Bool.not_true, Bool.not_false] at h23
    have hsa := small_atoms h23
    have hsb := small_bd h23
    have hfl : facts.length ≤ 12 := by have := hsb.2.1; simp at this; omega
    refine J_skip ?_
    refine J_seq ?_
    refine J_region ?_
    refine JL_step rfl rfl rfl (step_load_ptr ty25 Sub.rfl) ?_
    refine JL_step rfl rfl rfl (step_move Sub.rfl) ?_
    refine JL_step rfl rfl rfl (step_call0 (Certain_spec q facts (by omega)) ⟨Sub.rfl, Sub.rfl, trivial⟩ Tryz.call14) ?_
    refine JL_step rfl rfl rfl (step_move Sub.rfl) ?_
    refine JL_step rfl rfl rfl (step_extract Sub.rfl rfl) ?_
    refine JL_step rfl rfl rfl (step_extract Sub.rfl rfl) ?_
    refine JL_step rfl rfl rfl (step_assign Sub.rfl) ?_
    refine JL_step rfl rfl rfl (step_assign Sub.rfl) ?_
    refine JL_nil ?_
    refine J_seq ?_
    refine J_draw [⟨0, [3], true⟩, ⟨2, [1], true⟩, ⟨4, [5], true⟩, ⟨5, [36], true⟩, ⟨1, [], false⟩, ⟨3, [33, 34], false⟩, ⟨6, [35, 37], false⟩, ⟨7, [32, 38], false⟩, ⟨8, [39], true⟩, ⟨9, [31], true⟩, ⟨10, [31], true⟩, ⟨11, [40], true⟩, ⟨12, [41], true⟩] rfl (by kernel_rfl) ?_
    refine JM_step rfl rfl rfl rfl (fun _ => step_load_ptr ty25 Sub.rfl) ?_
    refine JM_step rfl rfl rfl rfl (fun _ => step_move Sub.rfl) ?_
    refine JM_step rfl rfl rfl rfl (fun _ => step_load_ptr ty45 Sub.rfl) ?_
    refine JM_step rfl rfl rfl rfl (fun _ => step_literal (ys := [_]) Tryz.underlying26 el45 ⟨rfl, Sub.rfl, trivial⟩ rfl (by decide)) ?_
    refine JM_stepX rfl rfl rfl rfl (step_literal_own (ys := []) Tryz.underlying26 el45 trivial rfl (by decide)) fun u33 => ?_
    refine JM_stepX rfl rfl rfl rfl (step_append Tryz.underlying26 el45 Sub.rfl Sub.rfl (by first | exact Sel.take (Sel.none _) | exact Sel.skip (Sel.take (Sel.none _)) | exact Sel.skip (Sel.skip (Sel.take (Sel.none _))) | exact Sel.skip (Sel.skip (Sel.skip (Sel.take (Sel.none _)))) | exact Sel.skip (Sel.skip (Sel.skip (Sel.skip (Sel.take (Sel.none _)))))) (by simp; omega) (by simp; omega)) fun u35 => ?_
    refine JM_stepX rfl rfl rfl rfl (step_append Tryz.underlying26 el45 Sub.rfl Sub.rfl (by first | exact Sel.take (Sel.none _) | exact Sel.skip (Sel.take (Sel.none _)) | exact Sel.skip (Sel.skip (Sel.take (Sel.none _))) | exact Sel.skip (Sel.skip (Sel.skip (Sel.take (Sel.none _)))) | exact Sel.skip (Sel.skip (Sel.skip (Sel.skip (Sel.take (Sel.none _)))))) (by simp; omega) (by simp; omega)) fun u38 => ?_
    refine JM_look rfl rfl rfl rfl (step_call_look (Sel.take (Sel.none _)) (Certain_spec q (facts ++ [x]) (by simp; omega)) (fun _ => Flat.tup2) ⟨Frz.sub Sub.rfl, Frz.own, trivial⟩ Tryz.call14) ?_
    refine JM_step rfl rfl rfl rfl (fun _ => step_move Sub.rfl) ?_
    refine JM_step rfl rfl rfl rfl (fun _ => step_extract Sub.rfl rfl) ?_
    refine JM_step rfl rfl rfl rfl (fun _ => step_extract Sub.rfl rfl) ?_
    refine JM_step rfl rfl rfl rfl (fun _ => step_assign Sub.rfl) ?_
    refine JM_step rfl rfl rfl rfl (fun _ => step_assign Sub.rfl) ?_
    refine JM_nil ?_
    refine K_drop (Sel.all _) ?_
    refine J_seq ?_
    refine J_seq ?_
    refine J_region ?_
    refine JL_step rfl rfl rfl (step_move Sub.rfl) ?_
    refine JL_step rfl rfl rfl (step_neq Sub.rfl Sub.rfl) ?_
    refine JL_step rfl rfl rfl (step_move Sub.rfl) ?_
    refine JL_stepG rfl rfl rfl (Gd.plain Sub.rfl) rfl rfl (fun hw => step_move Sub.rfl) ?_
    refine JL_stepG rfl rfl rfl (Gd.plain Sub.rfl) rfl rfl (fun hw => step_neq (Sub.w hw) Sub.rfl) ?_
    refine JL_step rfl rfl rfl (step_pick_or Sub.rfl Sub.rfl) ?_
    refine JL_nil ?_
    refine J_cond Sub.rfl (fun h47 => ?_) (fun h47 => ?_)
    · try simp only [decide_eq_true_eq, decide_eq_false_iff_not, Bool.and_eq_true, Bool.or_eq_true, Bool.and_eq_false_iff, Bool.or_eq_false_iff, Bool.not_eq_true', Bool.not_eq_false', Int.not_lt, Int.not_le, Bool.not_true, Bool.not_false] at h47
      refine J_seq ?_
      refine J_region ?_
      refine JL_step rfl rfl rfl (step_move Sub.rfl) ?_
      refine JL_step rfl rfl rfl (step_assign Sub.rfl) ?_
      refine JL_nil ?_
      refine J_ret ?_
      refine K_ret1 (t := 6) rfl () Sub.rfl
    · try simp only [decide_eq_true_eq, decide_eq_false_iff_not, Bool.and_eq_true, Bool.or_eq_true, Bool.and_eq_false_iff, Bool.or_eq_false_iff, Bool.not_eq_true', Bool.not_eq_false', Int.not_lt, Int.not_le, Bool.not_true, Bool.not_false] at h47
      obtain ⟨he1, he2⟩ := h47
      refine J_skip ?_
      refine J_seq ?_
      refine J_region ?_
      refine JL_step rfl rfl rfl (step_assign Sub.rfl) ?_
      refine JL_nil ?_
      refine J_seq ?_
      refine J_seq ?_
      refine J_region ?_
      refine JL_step rfl rfl rfl (step_assign Sub.rfl) ?_
      refine JL_nil ?_
      refine J_block ?_
      refine J_loopL (σ := Nat) (fun i => i ≤ facts.length) (fun i => upd (upd (upd (upd (upd (upd (upd (upd (upd env0 1 (tSl rFact facts)) 3 (tPtr rConj q)) 5 (tPtr rFact x)) 6 (tV (.bool false))) 7 (tV (.bool true))) 8 (tV (.bool (certB q facts)))) 10 (tV (.bool (certB q (facts ++ [x]))))) 12 (tV (.bool ((facts.take i).any fun f => sameM q f x)))) 13 (tV (.int .i64 i))) (fun i => []) (fun i => facts.length - i) 0 (Nat.zero_le _) (SubE.upd Sub.rfl (SubE.upd Sub.rfl (SubE.upd Sub.rfl (SubE.upd Sub.rfl (SubE.upd Sub.rfl (SubE.upd Sub.rfl (SubE.upd Sub.rfl (SubE.upd Sub.rfl (SubE.upd Sub.rfl SubE.any))))))))) (LSub.rfl) ?_
      rintro i hi
      refine J_seq ?_
      refine J_seq ?_
      refine J_region ?_
      refine JL_step rfl rfl rfl (step_move Sub.rfl) ?_
      refine JL_step rfl rfl rfl (step_move Sub.rfl) ?_
      refine JL_step rfl rfl rfl (step_len_sl Tryz.underlying26 Sub.rfl) ?_
      refine JL_step rfl rfl rfl (step_lss Sub.rfl Sub.rfl) ?_
      refine JL_nil ?_
      refine J_cond Sub.rfl (fun h52 => ?_) (fun h52 => ?_)
      · try simp only [decide_eq_true_eq, decide_eq_false_iff_not, Bool.and_eq_true, Bool.or_eq_true, Bool.and_eq_false_iff, Bool.or_eq_false_iff, Bool.not_eq_true', Bool.not_eq_false', Int.not_lt, Int.not_le, Bool.not_true, Bool.not_false] at h52
        have hlt : i < facts.length := by omega
        refine J_skip ?_
        refine J_seq ?_
        refine J_block ?_
        refine J_draw [⟨0, [12], true⟩, ⟨1, [55], true⟩, ⟨2, [3, 56], true⟩, ⟨3, [1, 56], true⟩, ⟨4, [13, 56], true⟩, ⟨5, [56, 58, 59], true⟩, ⟨6, [56, 60], true⟩, ⟨7, [5, 56], true⟩, ⟨8, [56, 57, 61, 62], true⟩, ⟨9, [56, 63], true⟩, ⟨10, [64], true⟩] rfl (by kernel_rfl) ?_
        refine JM_step rfl rfl rfl rfl (fun _ => step_move Sub.rfl) ?_
        refine JM_step rfl rfl rfl rfl (fun _ => step_move Sub.rfl) ?_
        refine JM_stepG rfl rfl rfl rfl (Gd.plain Sub.rfl) rfl rfl (fun hw _ => step_load_ptr ty25 Sub.rfl) ?_
        refine JM_stepG rfl rfl rfl rfl (Gd.plain Sub.rfl) rfl rfl (fun hw _ => step_move Sub.rfl) ?_
        refine JM_stepG rfl rfl rfl rfl (Gd.plain Sub.rfl) rfl rfl (fun hw _ => step_move Sub.rfl) ?_
        refine JM_stepG rfl rfl rfl rfl (Gd.plain Sub.rfl) rfl rfl (fun hw _ => step_indexAddr_sl (i := i) Tryz.underlying26 ty45 (Sub.w hw) (Sub.w hw) ?sg1 (gb ?sg2)) ?_
        case sg1 => have hwq := hw; (try simp only [beqB_t, beqB_f, decide_eq_true_eq, decide_eq_false_iff_not, Bool.and_eq_true, Bool.or_eq_true, Bool.and_eq_false_iff, Bool.or_eq_false_iff, Bool.not_eq_true', Bool.not_eq_false', Int.not_lt, Int.not_le, Bool.not_true, Bool.not_false] at hwq); rfl
        case sg2 => have hwq := hw; (try simp only [beqB_t, beqB_f, decide_eq_true_eq, decide_eq_false_iff_not, Bool.and_eq_true, Bool.or_eq_true, Bool.and_eq_false_iff, Bool.or_eq_false_iff, Bool.not_eq_true', Bool.not_eq_false', Int.not_lt, Int.not_le, Bool.not_true, Bool.not_false] at hwq); exact hlt
        refine JM_stepG rfl rfl rfl rfl (Gd.plain Sub.rfl) rfl rfl (fun hw _ => step_load_ptr ty45 (Sub.w hw)) ?_
        refine JM_stepG rfl rfl rfl rfl (Gd.plain Sub.rfl) rfl rfl (fun hw _ => step_load_ptr ty45 Sub.rfl) ?_
        refine JM_stepG rfl rfl rfl rfl (Gd.plain Sub.rfl) rfl rfl (fun hw _ => step_call0 (same_spec q (nth facts i) x hsa.1 hsa.2) ⟨(Sub.w hw), (Sub.w hw), (Sub.w hw), trivial⟩ Tryz.call22) ?_
        refine JM_step rfl rfl rfl rfl (fun _ => step_pick_or Sub.rfl Sub.rfl) ?_
        refine JM_step rfl rfl rfl rfl (fun _ => step_assign Sub.rfl) ?_
        refine JM_nil ?_
        refine J_region ?_
        refine JL_step rfl rfl rfl (step_move Sub.rfl) ?_
        refine JL_step rfl rfl rfl (step_add Sub.rfl Sub.rfl ?sg1) ?_
        case sg1 => unfold in64; omega
        refine JL_step rfl rfl rfl (step_assign Sub.rfl) ?_
        refine JL_nil ?_
        refine K_againL (σ := Nat) (s := i) (i + 1) (by first | omega | (dsimp only; omega) | (simp_all; omega)) hlt (SubE.upd Sub.rfl (SubE.upd (Sub.bool (by rw [takeB hlt, List.any_append]; simp)) (SubE.upd Sub.rfl (SubE.upd Sub.rfl (SubE.upd Sub.rfl (SubE.upd Sub.rfl (SubE.upd Sub.rfl (SubE.upd Sub.rfl (SubE.upd Sub.rfl SubE.any))))))))) (LSub.rfl)
      · try simp only [decide_eq_true_eq, decide_eq_false_iff_not, Bool.and_eq_true, Bool.or_eq_true, Bool.and_eq_false_iff, Bool.or_eq_false_iff, Bool.not_eq_true', Bool.not_eq_false', Int.not_lt, Int.not_le, Bool.not_true, Bool.not_false] at h52
        have htk : facts.take i = facts := List.take_of_length_le (by omega)
        refine J_exit ?_
        refine J_seq ?_
        refine J_seq ?_
        refine J_region ?_
        refine JL_step rfl rfl rfl (step_move Sub.rfl) ?_
        refine JL_nil ?_
        refine J_cond Sub.rfl (fun h65 => ?_) (fun h65 => ?_)
        · try simp only [decide_eq_true_eq, decide_eq_false_iff_not, Bool.and_eq_true, Bool.or_eq_true, Bool.and_eq_false_iff, Bool.or_eq_false_iff, Bool.not_eq_true', Bool.not_eq_false', Int.not_lt, Int.not_le, Bool.not_true, Bool.not_false] at h65
          refine J_seq ?_
          refine J_region ?_
          refine JL_step rfl rfl rfl (step_move Sub.rfl) ?_
          refine JL_step rfl rfl rfl (step_move Sub.rfl) ?_
          refine JL_stepG rfl rfl rfl (Gd.plain Sub.rfl) rfl rfl (fun hw => step_move Sub.rfl) ?_
          refine JL_stepG rfl rfl rfl (Gd.plain Sub.rfl) rfl rfl (fun hw => step_move (Sub.w hw)) ?_
          refine JL_stepG rfl rfl rfl (Gd.nest Sub.rfl) rfl rfl (fun hw => step_move Sub.rfl) ?_
          refine JL_stepG rfl rfl rfl (Gd.nest Sub.rfl) rfl rfl (fun hw => step_not (Sub.w hw)) ?_
          refine JL_stepG rfl rfl rfl (Gd.plain Sub.rfl) rfl rfl (fun hw => step_pick_or (Sub.w hw) (Sub.ww hw)) ?_
          refine JL_step rfl rfl rfl (step_pick_and Sub.rfl Sub.rfl) ?_
          refine JL_step rfl rfl rfl (step_assign Sub.rfl) ?_
          refine JL_nil ?_
          refine J_ret ?_
          refine K_ret1 (t := 6) rfl () ?_
          refine Sub.bool ?_
          rw [htk, List.any_eq_true] at h65
          show (true && (certB q facts || !certB q (facts ++ [x]))) = true
          cases hc : certB q (facts ++ [x]) with
          | false => simp
          | true => rw [further_in he2 h65 hc]; rfl
        · try simp only [decide_eq_true_eq, decide_eq_false_iff_not, Bool.and_eq_true, Bool.or_eq_true, Bool.and_eq_false_iff, Bool.or_eq_false_iff, Bool.not_eq_true', Bool.not_eq_false', Int.not_lt, Int.not_le, Bool.not_true, Bool.not_false] at h65
          refine J_skip ?_
          refine J_seq ?_
          refine J_region ?_
          refine JL_step rfl rfl rfl (step_move Sub.rfl) ?_
          refine JL_step rfl rfl rfl (step_move Sub.rfl) ?_
          refine JL_stepG rfl rfl rfl (Gd.plain Sub.rfl) rfl rfl (fun hw => step_move Sub.rfl) ?_
          refine JL_stepG rfl rfl rfl (Gd.plain Sub.rfl) rfl rfl (fun hw => step_not (Sub.w hw)) ?_
          refine JL_stepG rfl rfl rfl (Gd.plain Sub.rfl) rfl rfl (fun hw => step_move (Sub.w hw)) ?_
          refine JL_stepG rfl rfl rfl (Gd.nest Sub.rfl) rfl rfl (fun hw => step_move Sub.rfl) ?_
          refine JL_stepG rfl rfl rfl (Gd.plain Sub.rfl) rfl rfl (fun hw => step_pick_or (Sub.w hw) (Sub.ww hw)) ?_
          refine JL_step rfl rfl rfl (step_pick_and Sub.rfl Sub.rfl) ?_
          refine JL_step rfl rfl rfl (step_assign Sub.rfl) ?_
          refine JL_nil ?_
          refine J_ret ?_
          refine K_ret1 (t := 6) rfl () ?_
          refine Sub.bool ?_
          rw [htk, List.any_eq_false] at h65
          show (true && (!certB q facts || certB q (facts ++ [x]))) = true
          cases hc : certB q facts with
          | false => rfl
          | true => rw [further_out he2 (fun f hf => by simpa using h65 f hf) hc]; rfl
end Lg
