/- The plain law and the walk of the law RewriteSequence. -/
import Derived.Test.YtjenebejjamnjaaGreatDoorG
set_option linter.unusedVariables false
set_option linter.unusedSimpArgs false
set_option linter.unusedSectionVars false
/- The key tells the values. -/
namespace Lg
open Go Go.Proofs
def itoaI (n : Int) : List Int := (Lib.itoa n).map fun c => (c.toNat : Int)
theorem bytes_itoa (n : Int) : bytesOf (itoaB n) = itoaI n := by
  show ((Lib.itoa n).toArray.toList).map _ = _
  simp [itoaI]
theorem nat_inj {a b : UInt8} (h : (a.toNat : Int) = b.toNat) : a = b := UInt8.toNat.inj (by omega)
theorem itoaI_inj {a b : Int} (h : itoaI a = itoaI b) : a = b := by
  have h1 : Lib.itoa a = Lib.itoa b := by
    unfold itoaI at h
    exact List.map_inj_right (fun x y e => nat_inj e) |>.1 h
  have hd := dec_rng a.toNat
  have hd2 := dec_rng b.toNat
  have hn : ∀ {n m : Nat}, Lib.decDigits n ≠ 45 :: Lib.decDigits m := by
    intro n m e
    have := (dec_rng n).1 45 (by rw [e]; simp)
    simp at this
  unfold Lib.itoa at h1
  split at h1 <;> split at h1
  · injection h1 with _ h2
    have := dec_inj h2
    omega
  · exact absurd h1.symm hn
  · exact absurd h1 hn
  · have := dec_inj h1
    omega
theorem itoaI_rng (n : Int) : ∀ c ∈ itoaI n, c = 45 ∨ (48 ≤ c ∧ c ≤ 57) := by
  intro c hc
  unfold itoaI at hc
  obtain ⟨u, hu, rfl⟩ := List.mem_map.1 hc
  unfold Lib.itoa at hu
  split at hu
  · rcases List.mem_cons.1 hu with rfl | hu
    · left; rfl
    · have := (dec_rng _).1 u hu
      right; omega
  · have := (dec_rng _).1 u hu
    right; omega
theorem itoaI_ne (n : Int) : itoaI n ≠ [] := by
  unfold itoaI Lib.itoa
  split
  · simp
  · have := (dec_rng n.toNat).2
    simpa using this
/-- The bytes of a valid value's text. -/
def txL (v : GValue) : List Int := if v.Kind = 1 then 34 :: (escL (bytesOf v.Text) ++ [34]) else if v.Kind = 2 then itoaI v.N else if v.Kind = 3 then 64 :: itoaI v.N else if v.Kind = 4 then (if v.N = 1 then [116, 114, 117, 101] else [102, 97, 108, 115, 101]) else [110, 117, 108, 108]
theorem bytes_of {l : List Int} (h : ∀ x ∈ l, 0 ≤ x ∧ x < 256) : bytesOf (ofBytes l) = l := by
  unfold bytesOf ofBytes
  simp only [List.map_map]
  conv => rhs; rw [← List.map_id l]
  refine List.map_congr_left fun x hx => ?_
  have := h x hx
  simp only [Function.comp, id, UInt8.toNat_ofNat']
  omega
theorem escL_rng {l : List Int} (h : ∀ x ∈ l, 0 ≤ x ∧ x < 256) : ∀ x ∈ escL l, 0 ≤ x ∧ x < 256 := by
  intro x hx
  unfold escL at hx
  obtain ⟨c, hc, hx⟩ := List.mem_flatMap.1 hx
  have := h c hc
  unfold escU at hx
  repeat' split at hx
  all_goals simp at hx; omega
theorem tx_eq {v : GValue} (h : validV v = true) : bytesOf (textV v) = txL v := by
  unfold textV txL
  rw [if_neg (by rw [h]; simp)]
  by_cases h1 : v.Kind = 1
  · rw [if_pos h1, if_pos h1]
    unfold quoteB
    rw [bytesOf_append, bytesOf_append, bytes_of (escL_rng (bytesOf_rng _))]
    rfl
  · rw [if_neg h1, if_neg h1]
    by_cases h2 : v.Kind = 2
    · rw [if_pos h2, if_pos h2]; exact bytes_itoa _
    · rw [if_neg h2, if_neg h2]
      by_cases h3 : v.Kind = 3
      · rw [if_pos h3, if_pos h3, bytesOf_append, bytes_itoa]; rfl
      · rw [if_neg h3, if_neg h3]
        by_cases h4 : v.Kind = 4
        · rw [if_pos h4, if_pos h4]
          by_cases h5 : v.N = 1
          · rw [if_pos h5, decide_eq_true h5]; rfl
          · rw [if_neg h5, decide_eq_false h5]; rfl
        · rw [if_neg h4, if_neg h4]; rfl
theorem bytesOf_inj {a b : ByteArray} (h : bytesOf a = bytesOf b) : a = b := by rw [← ofBytes_bytesOf a, h, ofBytes_bytesOf]
/-- What a valid value is made of. -/
theorem valid_kind {v : GValue} (h : validV v = true) : (v.Kind ≠ 1 → v.Text = ⟨#[]⟩) ∧ (v.Kind = 0 ∨ v.Kind = 1 ∨ v.Kind = 2 ∨ v.Kind = 3 ∨ v.Kind = 4) ∧ (v.Kind = 0 ∨ v.Kind = 1 → v.N = 0) ∧ (v.Kind = 4 → v.N = 0 ∨ v.N = 1) := by
  unfold validV at h
  split at h
  · cases h
  rename_i hn
  refine ⟨fun h1 => Classical.byContradiction fun h2 => hn ⟨h1, h2⟩, ?_⟩
  split at h
  · rename_i h0
    simp at h
    exact ⟨.inl h0, fun _ => by omega, fun e => by omega⟩
  split at h
  · rename_i h1
    split at h
    · cases h
    simp at h
    exact ⟨.inr (.inl h1), fun _ => by omega, fun e => by omega⟩
  split at h
  · rename_i h0 h1 h2
    exact ⟨.inr (.inr (.inl h2)), fun e => by omega, fun e => by omega⟩
  split at h
  · rename_i h0 h1 h2 h3
    exact ⟨.inr (.inr (.inr (.inl h3))), fun e => by omega, fun e => by omega⟩
  split at h
  · rename_i h0 h1 h2 h3 h4
    simp at h
    exact ⟨.inr (.inr (.inr (.inr h4))), fun e => by omega, fun _ => by omega⟩
  · cases h
theorem txL_no {v : GValue} (h1 : v.Kind ≠ 1) : (32 : Int) ∉ txL v ∧ ∃ c r, txL v = c :: r ∧ c ≠ 34 := by
  unfold txL
  rw [if_neg h1]
  by_cases h2 : v.Kind = 2
  · rw [if_pos h2]
    refine ⟨fun hm => by have := itoaI_rng _ _ hm; omega, ?_⟩
    cases e : itoaI v.N with
    | nil => exact absurd e (itoaI_ne _)
    | cons c r => exact ⟨c, r, rfl, by have := itoaI_rng v.N c (by rw [e]; simp); omega⟩
  · rw [if_neg h2]
    by_cases h3 : v.Kind = 3
    · rw [if_pos h3]
      refine ⟨fun hm => ?_, 64, _, rfl, by decide⟩
      rcases List.mem_cons.1 hm with h | h
      · cases h
      · have := itoaI_rng _ _ h; omega
    · rw [if_neg h3]
      by_cases h4 : v.Kind = 4
      · rw [if_pos h4]
        by_cases h5 : v.N = 1
        · rw [if_pos h5]; exact ⟨by decide, 116, _, rfl, by decide⟩
        · rw [if_neg h5]; exact ⟨by decide, 102, _, rfl, by decide⟩
      · rw [if_neg h4]; exact ⟨by decide, 110, _, rfl, by decide⟩
theorem value_ext {v w : GValue} (h1 : v.Kind = w.Kind) (h2 : v.N = w.N) (h3 : v.Text = w.Text) : v = w := by
  cases v; cases w; simp_all
theorem txL_inj {v w : GValue} (hv : validV v = true) (hw : validV w = true) (k1 : v.Kind ≠ 1) (k2 : w.Kind ≠ 1) (h : txL v = txL w) : v = w := by
  obtain ⟨a1, a2, a3, a4⟩ := valid_kind hv
  obtain ⟨b1, b2, b3, b4⟩ := valid_kind hw
  have ht : v.Text = w.Text := by rw [a1 k1, b1 k2]
  have hd : ∀ n : Int, ∀ c r, itoaI n = c :: r → c = 45 ∨ (48 ≤ c ∧ c ≤ 57) := fun n c r e => itoaI_rng n c (by rw [e]; simp)
  unfold txL at h
  rw [if_neg k1, if_neg k2] at h
  rcases a2 with k | k | k | k | k <;> rcases b2 with j | j | j | j | j <;> first | exact absurd k k1 | exact absurd j k2 | skip
  all_goals simp only [k, j] at h
  · exact value_ext (by omega) (by rw [a3 (.inl k), b3 (.inl j)]) ht
  · exfalso; simp at h; have := hd _ _ _ h.symm; omega
  · exfalso; simp at h
  · exfalso; rcases b4 j with e | e <;> simp [e] at h
  · exfalso; simp at h; have := hd _ _ _ h; omega
  · simp at h; exact value_ext (by omega) (itoaI_inj h) ht
  · exfalso; simp at h; have := hd _ _ _ h; omega
  · exfalso; rcases b4 j with e | e <;> simp [e] at h <;> (have := hd _ _ _ h; omega)
  · exfalso; simp at h
  · exfalso; simp at h; have := hd _ _ _ h.symm; omega
  · simp at h; exact value_ext (by omega) (itoaI_inj h) ht
  · exfalso; rcases b4 j with e | e <;> simp [e] at h
  · exfalso; rcases a4 k with e | e <;> simp [e] at h
  · exfalso; rcases a4 k with e | e <;> simp [e] at h <;> (have := hd _ _ _ h.symm; omega)
  · exfalso; rcases a4 k with e | e <;> simp [e] at h
  · rcases a4 k with e | e <;> rcases b4 j with e2 | e2 <;> simp [e, e2] at h <;> exact value_ext (by omega) (by omega) ht
theorem tx_cut {v w : GValue} (hv : validV v = true) (hw : validV w = true) {t t' : List Int} (h : txL v ++ 32 :: t = txL w ++ 32 :: t') : v = w ∧ t = t' := by
  by_cases k1 : v.Kind = 1
  · by_cases k2 : w.Kind = 1
    · unfold txL at h
      rw [if_pos k1, if_pos k2] at h
      simp only [List.cons_append, List.append_assoc, List.nil_append, List.cons.injEq, true_and] at h
      obtain ⟨e1, e2⟩ := esc_cut h
      have := (valid_kind hv).2.2.1 (.inr k1)
      have := (valid_kind hw).2.2.1 (.inr k2)
      simp at e2
      exact ⟨value_ext (by omega) (by omega) (bytesOf_inj e1), e2⟩
    · obtain ⟨_, c, r, e, hc⟩ := txL_no k2
      rw [e] at h
      unfold txL at h
      rw [if_pos k1] at h
      simp at h
      exact absurd h.1.symm hc
  · by_cases k2 : w.Kind = 1
    · obtain ⟨_, c, r, e, hc⟩ := txL_no k1
      rw [e] at h
      unfold txL at h
      rw [if_pos k2] at h
      simp at h
      exact absurd h.1 hc
    · obtain ⟨e1, e2⟩ := cut_at (txL_no k1).1 (txL_no k2).1 h
      exact ⟨txL_inj hv hw k1 k2 e1, e2⟩
end Lg

/- Keys, blocks, groups; certainty over groups. -/
namespace Lg
open Go Go.Proofs
def valAt (a : GAtom) (f : GFact) (k : Nat) : GValue := nth f.Row (nth a.Cols k).toNat
def keyL (vs : List GValue) : List Int := vs.flatMap fun v => txL v ++ [32]
theorem keyL_inj : ∀ {vs ws : List GValue}, vs.length = ws.length → (∀ v ∈ vs, validV v = true) → (∀ v ∈ ws, validV v = true) → keyL vs = keyL ws → vs = ws
  | [], [], _, _, _, _ => rfl
  | v :: vs, w :: ws, hl, hv, hw, h => by
    simp only [keyL, List.flatMap_cons, List.append_assoc, List.cons_append, List.nil_append] at h
    obtain ⟨e1, e2⟩ := tx_cut (hv v (by simp)) (hw w (by simp)) h
    rw [e1, keyL_inj (vs := vs) (ws := ws) (by simpa using hl) (fun x hx => hv x (by simp [hx])) (fun x hx => hw x (by simp [hx])) e2]
  | [], _ :: _, hl, _, _, _ => by simp at hl
  | _ :: _, [], hl, _, _, _ => by simp at hl
theorem key_bytes {a : GAtom} {f : GFact} : ∀ {k : Nat}, (∀ j, j < k → validV (valAt a f j) = true) → bytesOf (keyB a f k) = keyL ((List.range k).map (valAt a f))
  | 0, _ => rfl
  | k + 1, h => by
    have ih := key_bytes (a := a) (f := f) (k := k) fun j hj => h j (by omega)
    simp only [keyB, bytesOf_append]
    rw [ih, List.range_succ, List.map_append, show textV (nth f.Row (nth a.Cols k).toNat) = textV (valAt a f k) from rfl, tx_eq (h k (by omega))]
    simp only [keyL, List.flatMap_append, List.map_cons, List.map_nil, List.flatMap_cons, List.flatMap_nil, List.append_nil, List.append_assoc]
    rfl
theorem key_inj {a : GAtom} {f g : GFact} (hf : FitF a f) (hg : FitF a g) {k : Nat} (hk : k ≤ a.Cols.length) (h : keyB a f k = keyB a g k) : ∀ j, j < k → valAt a f j = valAt a g j := by
  have hv : ∀ j, j < k → validV (valAt a f j) = true := fun j hj => (hf j (by omega)).2.2
  have hw : ∀ j, j < k → validV (valAt a g j) = true := fun j hj => (hg j (by omega)).2.2
  have h1 : keyL ((List.range k).map (valAt a f)) = keyL ((List.range k).map (valAt a g)) := by rw [← key_bytes hv, ← key_bytes hw, h]
  have h2 := keyL_inj (by simp) (fun v hv' => by
    obtain ⟨j, hj, rfl⟩ := List.mem_map.1 hv'
    exact hv j (List.mem_range.1 hj)) (fun v hv' => by
    obtain ⟨j, hj, rfl⟩ := List.mem_map.1 hv'
    exact hw j (List.mem_range.1 hj)) h1
  intro j hj
  have h3 := congrArg (fun l => l[j]?) h2
  simpa [hj] using h3
theorem key_congr {a : GAtom} {f g : GFact} : ∀ {k : Nat}, (∀ j, j < k → valAt a f j = valAt a g j) → keyB a f k = keyB a g k
  | 0, _ => rfl
  | k + 1, h => by
    simp only [keyB]
    rw [key_congr fun j hj => h j (by omega), show nth f.Row (nth a.Cols k).toNat = nth g.Row (nth a.Cols k).toNat from h k (by omega)]
/-! The relation of the law, and keys. -/
theorem sameL_f {f g : GFact} {i : Nat} : ∀ {l : List GAtom}, (∀ a ∈ l, tabs f g a = true → sameA a f g = false) → sameL f g l = false
  | [], _ => rfl
  | a :: l, h1 => by
    unfold sameL
    by_cases ht : tabs f g a = true
    · rw [if_pos ht]; exact h1 a (by simp) ht
    · rw [if_neg ht]; exact sameL_f (i := i) fun c hc => h1 c (by simp [hc])
theorem sameA_iff {a : GAtom} {f g : GFact} (hf : FitF a f) (hg : FitF a g) (hk : a.Key ≤ a.Cols.length) : sameA a f g = true ↔ keyB a f a.Key.toNat = keyB a g a.Key.toNat := by
  unfold sameA
  rw [rall_iff]
  constructor
  · intro h
    refine key_congr fun j hj => ?_
    have h1 := h j (by omega)
    rw [decide_eq_true (by omega : (j : Int) < a.Key)] at h1
    unfold cAt at h1
    simp only [Bool.not_true, Bool.false_or, Bool.and_eq_true, decide_eq_true_eq] at h1
    exact h1.2
  · intro h k hk2
    by_cases hlt : (k : Int) < a.Key
    · have h1 := key_inj hf hg (by omega) h k (by omega)
      have h2 := hf k hk2
      have h3 := hg k hk2
      unfold cAt
      rw [decide_eq_true h2.1, decide_eq_true h2.2.1, decide_eq_true h3.2.1, decide_eq_true (p := nth f.Row (nth a.Cols k).toNat = nth g.Row (nth a.Cols k).toNat) h1]
      simp
    · rw [decide_eq_false hlt]; rfl
theorem same_iff {q : GConj} {facts : List GFact} (hfit : fitM q facts = true) {f g : GFact} (hf : f ∈ facts) (hg : g ∈ facts) {i : Nat} (hi : i < q.Atoms.length) (tf : f.Table = (nth q.Atoms i).Table) (tg : g.Table = (nth q.Atoms i).Table) :
    sameM q f g = true ↔ keyB (nth q.Atoms i) f (nth q.Atoms i).Key.toNat = keyB (nth q.Atoms i) g (nth q.Atoms i).Key.toNat := by
  have hq := fit_valid hfit
  have hsa := sameA_iff (fit_fact hfit hf hi tf) (fit_fact hfit hg hi tg) (valid_cols hq (nth_mem hi)).2.2.2.1
  have huniq : ∀ a ∈ q.Atoms, tabs f g a = true → a = nth q.Atoms i := by
    intro a ha ht
    obtain ⟨j, hj, rfl⟩ := List.getElem_of_mem ha
    unfold tabs at ht
    simp only [Bool.and_eq_true, decide_eq_true_eq] at ht
    rw [← nth_get hj] at ht ⊢
    rw [valid_inj hq hj hi (ht.1.trans tf)]
  rw [← hsa]
  constructor
  · intro h
    cases hc : sameA (nth q.Atoms i) f g with
    | true => rfl
    | false =>
      have : sameM q f g = false := sameL_f (i := 0) fun a ha ht => by rw [huniq a ha ht]; exact hc
      rw [this] at h; cases h
  · intro h
    exact sameL_t (fun a ha ht => by rw [huniq a ha ht]; exact h) ⟨_, nth_mem hi, by unfold tabs; rw [tf, tg]; simp⟩
theorem sameL_tab {f g : GFact} : ∀ {l : List GAtom}, sameL f g l = true → ∃ a ∈ l, a.Table = f.Table ∧ a.Table = g.Table
  | [], h => by cases h
  | a :: l, h => by
    unfold sameL at h
    by_cases ht : tabs f g a = true
    · unfold tabs at ht
      simp only [Bool.and_eq_true, decide_eq_true_eq] at ht
      exact ⟨a, by simp, ht⟩
    · rw [if_neg ht] at h
      obtain ⟨b, hb, h2⟩ := sameL_tab h
      exact ⟨b, by simp [hb], h2⟩
theorem same_tab {q : GConj} {f g : GFact} (h : sameM q f g = true) : ∃ i, i < q.Atoms.length ∧ f.Table = (nth q.Atoms i).Table ∧ g.Table = (nth q.Atoms i).Table := by
  obtain ⟨a, ha, h1, h2⟩ := sameL_tab h
  obtain ⟨i, hi, rfl⟩ := List.getElem_of_mem ha
  exact ⟨i, hi, by rw [nth_get hi]; exact h1.symm, by rw [nth_get hi]; exact h2.symm⟩
/-! Groups -/
abbrev kyF (a : GAtom) (f : GFact) : ByteArray := keyB a f a.Key.toNat
def inG (a : GAtom) (k : ByteArray) (g : GFact) : Bool := decide (g.Table = a.Table) && decide (kyF a g = k)
def grpF (a : GAtom) (l : List GFact) (f : GFact) : List GFact := l.filter (inG a (kyF a f))
structure BlkI (a : GAtom) (l : List GFact) (m : List (ByteArray × List GFact)) : Prop where
  nd : (m.map (·.1)).Nodup
  gt : ∀ k, (mget m k).getD [] = l.filter (inG a k)
  ne : ∀ b ∈ m, b.2 ≠ []
theorem BlkI.step {a : GAtom} {l : List GFact} {m : List (ByteArray × List GFact)} (h : BlkI a l m) (f : GFact) : BlkI a (l ++ [f]) (if f.Table = a.Table then bput m (kyF a f) f else m) := by
  by_cases ht : f.Table = a.Table
  · rw [if_pos ht]
    unfold bput
    refine ⟨?_, fun k => ?_, fun b hb => ?_⟩
    · rw [mput_keys]
      split
      · exact h.nd
      · rename_i hn
        rw [List.nodup_append]
        exact ⟨h.nd, by simp, fun x hx y hy => by simp at hy; subst hy; exact fun e => hn (e ▸ hx)⟩
    · rw [mget_mput, List.filter_append]
      by_cases e : k = kyF a f
      · subst e
        rw [if_pos rfl, Option.getD_some, h.gt]
        congr 1
        simp [inG, ht]
      · rw [if_neg e, h.gt]
        have : inG a k f = false := by unfold inG; rw [decide_eq_false (p := kyF a f = k) (fun q => e q.symm), Bool.and_false]
        simp [this]
    · rcases mem_mputG hb with e | hb
      · subst e; simp
      · exact h.ne b hb
  · rw [if_neg ht]
    refine ⟨h.nd, fun k => ?_, h.ne⟩
    rw [List.filter_append, h.gt]
    simp [inG, ht]
theorem blk_inv (a : GAtom) (l : List GFact) : BlkI a l (blkM a l) := by
  have : ∀ (l l0 : List GFact) (m : List (ByteArray × List GFact)), BlkI a l0 m → BlkI a (l0 ++ l) (l.foldl (fun m f => if f.Table = a.Table then bput m (keyB a f a.Key.toNat) f else m) m) := by
    intro l
    induction l with
    | nil => intro l0 m h; simpa using h
    | cons f l ih =>
      intro l0 m h
      have := ih (l0 ++ [f]) _ (h.step f)
      simpa [List.append_assoc] using this
  exact this l [] [] ⟨by simp, fun k => rfl, fun b hb => by cases hb⟩
theorem blk_grp (a : GAtom) (l : List GFact) (x : List GFact) : (∃ b ∈ blkM a l, b.2 = x) ↔ ∃ f ∈ l, f.Table = a.Table ∧ x = grpF a l f := by
  have h := blk_inv a l
  constructor
  · rintro ⟨⟨k, y⟩, hb, rfl⟩
    have h1 := (mget_mem h.nd).2 hb
    have h2 := h.gt k
    rw [h1, Option.getD_some] at h2
    have h3 := h.ne _ hb
    show ∃ f ∈ l, f.Table = a.Table ∧ y = grpF a l f
    cases e : y with
    | nil => exact absurd e h3
    | cons f r =>
      have hm : f ∈ l.filter (inG a k) := by rw [← h2, e]; simp
      obtain ⟨hm1, hm2⟩ := List.mem_filter.1 hm
      unfold inG at hm2
      simp only [Bool.and_eq_true, decide_eq_true_eq] at hm2
      refine ⟨f, hm1, hm2.1, ?_⟩
      unfold grpF
      rw [hm2.2, ← e, h2]
  · rintro ⟨f, hf, ht, rfl⟩
    have h2 := h.gt (kyF a f)
    cases e : mget (blkM a l) (kyF a f) with
    | none =>
      rw [e] at h2
      have : f ∈ l.filter (inG a (kyF a f)) := List.mem_filter.2 ⟨hf, by unfold inG; simp [ht]⟩
      rw [← h2] at this; cases this
    | some y =>
      rw [e, Option.getD_some] at h2
      exact ⟨_, (mget_mem h.nd).1 e, h2⟩
theorem grpF_self {a : GAtom} {l : List GFact} {f : GFact} (hf : f ∈ l) (ht : f.Table = a.Table) : f ∈ grpF a l f := List.mem_filter.2 ⟨hf, by unfold inG; simp [ht]⟩
theorem mem_grpF {a : GAtom} {l : List GFact} {f g : GFact} : g ∈ grpF a l f ↔ g ∈ l ∧ g.Table = a.Table ∧ kyF a g = kyF a f := by
  unfold grpF inG
  rw [List.mem_filter]
  simp
/-! Certainty over groups -/
def grps (a : GAtom) (facts : List GFact) : List (List (List (Bnd GValue))) := (blkM a facts).map fun b => b.2.map (bnd a)
theorem map_range' {α β : Type} [Inhabited α] (F : α → β) (l : List α) : (List.range' 0 l.length).map (fun i => F (nth l i)) = l.map F := by
  apply List.ext_getElem
  · simp
  · intro i h1 h2
    have : i < l.length := by simpa using h2
    simp [nth_get this]
theorem certM_grps (q : GConj) (facts : List GFact) : certM (rwM q facts) 0 [] = certL (eqT q) ((sortedM q).map fun a => grps a facts) [] := by
  unfold certM
  congr 1
  show (List.range' 0 ((sortedM q).length - 0)).map (grpM (rwM q facts)) = _
  rw [Nat.sub_zero, ← map_range' (fun a => grps a facts) (sortedM q)]
  refine List.map_congr_left fun i hi => ?_
  have hlt : i < (sortedM q).length := by
    obtain ⟨j, hj, e⟩ := List.mem_range'.1 hi
    omega
  unfold grpM grps
  have : nth (rwM q facts).blocks i = some (blkM (nth (sortedM q) i) facts) := by
    rw [nth_get (by unfold rwM; simpa using hlt)]
    unfold rwM
    simp [nth_get hlt]
  rw [this]; rfl
def CertQ (q : GConj) (facts : List GFact) : Prop := CertP (eqT q) ((sortedM q).map fun a => grps a facts) []
theorem cert_iff {q : GConj} {facts : List GFact} (hfit : fitM q facts = true) (hf : firstM q = true) : certB q facts = true ↔ CertQ q facts := by
  unfold certB CertQ
  rw [hfit, hf, certM_grps]
  simp only [Bool.true_and]
  exact certL_iff (eqT q) _ (okB_nil (eqT q))
theorem all2_map {α β γ : Type} {p : β → γ → Prop} {F : α → β} {G : α → γ} : ∀ {l : List α}, (∀ a ∈ l, p (F a) (G a)) → All2 p (l.map F) (l.map G)
  | [], _ => .nil
  | a :: l, h => .cons (h a (by simp)) (all2_map fun b hb => h b (by simp [hb]))
theorem sorted_mem {q : GConj} {a : GAtom} (hf : firstM q = true) (h : a ∈ sortedM q) : ∃ i, i < q.Atoms.length ∧ a = nth q.Atoms i := by
  unfold sortedM at h
  obtain ⟨i, hi, rfl⟩ := List.mem_map.1 h
  exact ⟨i, (sorted_ok hf).2.lt i hi, rfl⟩
/-- More groups, smaller groups. -/
theorem certQ_mono {q : GConj} {facts facts' : List GFact} (hf : firstM q = true) (h : ∀ i, i < q.Atoms.length → ∀ f ∈ facts, f.Table = (nth q.Atoms i).Table → ∃ g ∈ facts', g.Table = (nth q.Atoms i).Table ∧ ∀ x ∈ grpF (nth q.Atoms i) facts' g, x ∈ grpF (nth q.Atoms i) facts f) :
    CertQ q facts → CertQ q facts' := by
  refine Cert_mono (eqT q) (all2_map fun a ha => ?_)
  obtain ⟨i, hi, rfl⟩ := sorted_mem hf ha
  intro b hb
  obtain ⟨b0, hb0, rfl⟩ := List.mem_map.1 hb
  obtain ⟨f, hf1, hf2, hf3⟩ := (blk_grp (nth q.Atoms i) facts b0.2).1 ⟨b0, hb0, rfl⟩
  obtain ⟨g, hg1, hg2, hg3⟩ := h i hi f hf1 hf2
  obtain ⟨b1, hb1, e1⟩ := (blk_grp (nth q.Atoms i) facts' _).2 ⟨g, hg1, hg2, rfl⟩
  refine ⟨_, List.mem_map.2 ⟨b1, hb1, rfl⟩, fun y hy => ?_⟩
  obtain ⟨x, hx, rfl⟩ := List.mem_map.1 hy
  rw [e1] at hx
  exact List.mem_map.2 ⟨x, by rw [hf3]; exact hg3 x hx, rfl⟩
/-! A further fact -/
theorem fit_sub {q : GConj} {facts : List GFact} {x : GFact} (h : fitM q (facts ++ [x]) = true) : fitM q facts = true := by
  unfold fitM at h ⊢
  rw [Bool.and_eq_true] at h ⊢
  refine ⟨h.1, rall_t fun k hk => ?_⟩
  have := rall_iff.1 h.2 k (by simp; omega)
  rwa [nth_get (by simp; omega), List.getElem_append_left hk, ← nth_get hk] at this
theorem certE_zero {q : GConj} {facts : List GFact} (h : certE q facts = 0) : fitM q facts = true ∧ firstM q = true := by
  unfold certE at h
  by_cases h1 : fitM q facts = true
  · rw [if_pos h1] at h
    by_cases h2 : firstM q = true
    · exact ⟨h1, h2⟩
    · rw [if_neg h2] at h; cases h
  · rw [if_neg h1] at h; cases h
theorem further_in {q : GConj} {facts : List GFact} {x : GFact} (h2 : certE q (facts ++ [x]) = 0) (hb : ∃ f ∈ facts, sameM q f x = true) (hc : certB q (facts ++ [x]) = true) : certB q facts = true := by
  obtain ⟨hfit, hf⟩ := certE_zero h2
  have hfit0 := fit_sub hfit
  rw [cert_iff hfit hf] at hc
  rw [cert_iff hfit0 hf]
  refine certQ_mono hf (fun i hi f hfm ht => ?_) hc
  rcases List.mem_append.1 hfm with hfm | hfm
  · refine ⟨f, hfm, ht, fun y hy => ?_⟩
    rw [mem_grpF] at hy ⊢
    exact ⟨List.mem_append_left _ hy.1, hy.2⟩
  · have hfm : f = x := by simpa using hfm
    subst hfm
    obtain ⟨f0, hf0, hs⟩ := hb
    obtain ⟨j, hj, t1, t2⟩ := same_tab hs
    have hji : j = i := valid_inj (fit_valid hfit) hj hi (t2.symm.trans ht)
    subst hji
    have hk := (same_iff hfit (List.mem_append_left _ hf0) (List.mem_append_right _ (by simp)) hj t1 t2).1 hs
    refine ⟨f0, hf0, t1, fun y hy => ?_⟩
    rw [mem_grpF] at hy ⊢
    exact ⟨List.mem_append_left _ hy.1, hy.2.1, hy.2.2.trans hk⟩
theorem further_out {q : GConj} {facts : List GFact} {x : GFact} (h2 : certE q (facts ++ [x]) = 0) (hb : ∀ f ∈ facts, sameM q f x = false) (hc : certB q facts = true) : certB q (facts ++ [x]) = true := by
  obtain ⟨hfit, hf⟩ := certE_zero h2
  have hfit0 := fit_sub hfit
  rw [cert_iff hfit0 hf] at hc
  rw [cert_iff hfit hf]
  refine certQ_mono hf (fun i hi f hfm ht => ⟨f, List.mem_append_left _ hfm, ht, fun y hy => ?_⟩) hc
  rw [mem_grpF] at hy ⊢
  obtain ⟨hy1, hy2, hy3⟩ := hy
  refine ⟨?_, hy2, hy3⟩
  rcases List.mem_append.1 hy1 with hy1 | hy1
  · exact hy1
  · have hy1 : y = x := by simpa using hy1
    subst hy1
    have hs := (same_iff hfit (List.mem_append_left _ hfm) (List.mem_append_right _ (by simp)) hi ht hy2).2 hy3.symm
    rw [hb f hfm] at hs; cases hs
end Lg

/- One atom. -/
namespace Lg
open Go Go.Proofs
open Classical in
theorem first_one {q : GConj} (h : q.Atoms.length = 1) : firstM q = true := by
  have e0 : attL q = [[false]] := by
    unfold attL attB
    rw [h]
    simp [List.range_succ]
  unfold firstM
  rw [e0, h]; decide
theorem sorted_one {q : GConj} (h : q.Atoms.length = 1) : sortedM q = [nth q.Atoms 0] := by
  have h1 := sorted_ok (first_one h)
  obtain ⟨h2, h3⟩ := h1
  rw [h] at h2
  obtain ⟨i, hi⟩ := List.length_eq_one_iff.1 h2
  have : i < q.Atoms.length := h3.lt i (by rw [hi]; simp)
  obtain rfl : i = 0 := by omega
  unfold sortedM
  rw [hi]; rfl
theorem certE_one {q : GConj} (h : q.Atoms.length = 1) {facts : List GFact} (he : certE q facts ≠ 0) : certE q facts = 1 := by
  unfold certE at he ⊢
  rw [first_one h] at he ⊢
  by_cases hf : fitM q facts = true
  · rw [if_pos hf] at he; exact absurd rfl he
  · rw [if_neg hf]
def goodM (q : GConj) (facts : List GFact) (i k : Nat) : Bool := decide ((nth facts i).Table = (nth q.Atoms 0).Table) && (List.range k).all fun j => !(sameM q (nth facts i) (nth facts j) && !holdsM q facts [(j : Int)])
theorem goodM_succ (q : GConj) (facts : List GFact) (i k : Nat) : goodM q facts i (k + 1) = (goodM q facts i k && !(sameM q (nth facts i) (nth facts k) && !holdsM q facts [(k : Int)])) := by
  unfold goodM
  rw [List.range_succ, List.all_append, Bool.and_assoc]
  simp
def wantO (q : GConj) (facts : List GFact) (i : Nat) : Bool := (List.range i).any fun i => goodM q facts i facts.length
theorem wantO_succ (q : GConj) (facts : List GFact) (i : Nat) : wantO q facts (i + 1) = (wantO q facts i || goodM q facts i facts.length) := by
  unfold wantO
  rw [List.range_succ, List.any_append]
  simp
theorem holds_one {q : GConj} (h : q.Atoms.length = 1) {facts : List GFact} (hfit : fitM q facts = true) {k : Nat} (hk : k < facts.length) (ht : (nth facts k).Table = (nth q.Atoms 0).Table) :
    holdsM q facts [(k : Int)] = true ↔ okB (eqT q) (bnd (nth q.Atoms 0) (nth facts k)) := by
  have e1 : candF q facts [(k : Int)] 0 = [nth facts k] := by
    unfold candF
    simp [hk, ht]
  unfold holdsM holdB
  rw [hfit, h, Bool.true_and]
  have e2 : (List.range' 0 (1 - 0)).map (fun i => (candF q facts [(k : Int)] i).map (bnd (nth q.Atoms i))) = [[bnd (nth q.Atoms 0) (nth facts k)]] := by
    simp [e1]
  rw [e2]
  have := holdL_iff (eqT q) [[bnd (nth q.Atoms 0) (nth facts k)]] (okB_nil (eqT q))
  rw [show ([] : List (Bnd GValue)) = gOf [] from rfl, this]
  simp [HoldP]
theorem cert_one {q : GConj} (h : q.Atoms.length = 1) {facts : List GFact} (hfit : fitM q facts = true) : certB q facts = wantO q facts facts.length := by
  have hq := fit_valid hfit
  rw [Bool.eq_iff_iff, cert_iff hfit (first_one h)]
  unfold CertQ
  rw [sorted_one h]
  have hk := fun {i j : Nat} (hi : i < facts.length) (hj : j < facts.length) (ti : (nth facts i).Table = (nth q.Atoms 0).Table) (tj : (nth facts j).Table = (nth q.Atoms 0).Table) => same_iff hfit (nth_mem hi) (nth_mem hj) (i := 0) (by omega) ti tj
  constructor
  · rintro ⟨b, hb, hall⟩
    obtain ⟨b0, hb0, rfl⟩ := List.mem_map.1 hb
    obtain ⟨f, hf1, hf2, hf3⟩ := (blk_grp (nth q.Atoms 0) facts b0.2).1 ⟨b0, hb0, rfl⟩
    obtain ⟨i, hi, rfl⟩ := List.getElem_of_mem hf1
    rw [← nth_get hi] at hf2 hf3
    unfold wantO
    rw [List.any_eq_true]
    refine ⟨i, List.mem_range.2 hi, ?_⟩
    unfold goodM
    rw [decide_eq_true hf2, Bool.true_and]
    refine rall_t fun j hj => ?_
    cases hs : sameM q (nth facts i) (nth facts j) with
    | false => rfl
    | true =>
      obtain ⟨m, hm, _, tj⟩ := same_tab hs
      obtain rfl : m = 0 := by omega
      have hkk := (hk hi hj hf2 tj).1 hs
      have := (hall (bnd (nth q.Atoms 0) (nth facts j)) (List.mem_map.2 ⟨nth facts j, by rw [hf3, mem_grpF]; exact ⟨nth_mem hj, tj, hkk.symm⟩, rfl⟩)).1
      rw [(holds_one h hfit hj tj).2 (by simpa using this)]; rfl
  · intro hw
    unfold wantO at hw
    rw [List.any_eq_true] at hw
    obtain ⟨i, hi, hg⟩ := hw
    have hi : i < facts.length := List.mem_range.1 hi
    unfold goodM at hg
    simp only [Bool.and_eq_true, decide_eq_true_eq] at hg
    obtain ⟨ht, hall⟩ := hg
    obtain ⟨b1, hb1, e1⟩ := (blk_grp (nth q.Atoms 0) facts _).2 ⟨nth facts i, nth_mem hi, ht, rfl⟩
    refine ⟨_, List.mem_map.2 ⟨b1, hb1, rfl⟩, fun y hy => ⟨?_, trivial⟩⟩
    obtain ⟨x, hx, rfl⟩ := List.mem_map.1 hy
    rw [e1, mem_grpF] at hx
    obtain ⟨hx1, hx2, hx3⟩ := hx
    obtain ⟨j, hj, rfl⟩ := List.getElem_of_mem hx1
    rw [← nth_get hj] at hx2 hx3 ⊢
    have hs := (hk hi hj ht hx2).2 hx3.symm
    have h3 := rall_iff.1 hall j hj
    rw [hs, Bool.true_and, Bool.not_not] at h3
    simpa using (holds_one h hfit hj hx2).1 h3
end Lg

/- Representatives of blocks; certainty where blocks are single. -/
namespace Lg
open Go Go.Proofs
theorem full_range {ord : List Nat} {n : Nat} (hd : ord.Nodup) (hl : ∀ i ∈ ord, i < n) (h : ord.length = n) : ord.Perm (List.range n) := by
  refine range_perm hd hl fun i hi => Classical.byContradiction fun hn => ?_
  have := nodup_le (l := i :: ord) (n := n) (List.nodup_cons.2 ⟨hn, hd⟩) (fun x hx => by
    rcases List.mem_cons.1 hx with rfl | hx
    · exact hi
    · exact hl x hx)
  simp at this; omega
theorem nth_map_range {α : Type} [Inhabited α] (l : List α) : (List.range l.length).map (nth l) = l := by
  apply List.ext_getElem
  · simp
  · intro i h1 h2
    simp [nth_get h2]
theorem sorted_perm {q : GConj} (hf : firstM q = true) : (sortedM q).Perm q.Atoms := by
  obtain ⟨h1, h2⟩ := sorted_ok hf
  have h3 := (full_range h2.nd h2.lt h1).map (nth q.Atoms)
  rw [nth_map_range] at h3
  exact h3
def tabL (a : GAtom) (l : List GFact) : List GFact := l.filter fun f => decide (f.Table = a.Table)
def cfA (l : List GFact) (a : GAtom) : List (List (Bnd GValue)) := (tabL a l).map (bnd a)
theorem filterMap_idx {α : Type} [Inhabited α] {l : List α} {P : α → Prop} [DecidablePred P] : ∀ {idx : List Nat}, (∀ j ∈ idx, j < l.length) →
    (idx.map Int.ofNat).filterMap (fun (j : Int) => if 0 ≤ j ∧ j < l.length ∧ P (nth l j.toNat) then some (nth l j.toNat) else none) = (idx.map (nth l)).filter fun x => decide (P x)
  | [], _ => rfl
  | j :: idx, h => by
    have ih := filterMap_idx (P := P) (idx := idx) fun x hx => h x (by simp [hx])
    have hj := h j (by simp)
    simp only [List.map_cons, List.filterMap_cons, List.filter_cons]
    have h0 : (0 : Int) ≤ Int.ofNat j := by simp
    have h1 : Int.ofNat j < (l.length : Int) := by simp; omega
    by_cases hp : P (nth l j)
    · rw [if_pos ⟨h0, h1, hp⟩, decide_eq_true hp]
      simp only [if_true]
      rw [ih]; rfl
    · rw [if_neg (fun q => hp q.2.2), decide_eq_false hp]
      simp only [Bool.false_eq_true, if_false]
      exact ih
abbrev allI (n : Nat) : List Int := (List.range n).map Int.ofNat
theorem cand_all (q : GConj) (l : List GFact) (i : Nat) : candF q l (allI l.length) i = tabL (nth q.Atoms i) l := by
  unfold candF tabL allI
  rw [filterMap_idx (P := fun f : GFact => f.Table = (nth q.Atoms i).Table) (fun j hj => List.mem_range.1 hj), nth_map_range]
theorem holds_all {q : GConj} {l : List GFact} (hfit : fitM q l = true) : holdsM q l (allI l.length) = true ↔ HoldP (eqT q) (q.Atoms.map (cfA l)) [] := by
  unfold holdsM holdB
  rw [hfit, Bool.true_and]
  have e : (List.range' 0 (q.Atoms.length - 0)).map (fun i => (candF q l (allI l.length) i).map (bnd (nth q.Atoms i))) = q.Atoms.map (cfA l) := by
    rw [Nat.sub_zero, ← map_range' (cfA l) q.Atoms]
    refine List.map_congr_left fun i hi => ?_
    rw [cand_all]; rfl
  rw [e]
  exact holdL_iff (eqT q) _ (okB_nil (eqT q))
theorem single {α : Type} {R : α → α → Prop} {p : α → Bool} {l : List α} (hp : l.Pairwise R) (h : ∀ x ∈ l, ∀ y ∈ l, p x = true → p y = true → ¬ R x y) {f : α} (hf : f ∈ l) (hpf : p f = true) : l.filter p = [f] := by
  have h1 : f ∈ l.filter p := List.mem_filter.2 ⟨hf, hpf⟩
  have h2 : (l.filter p).Pairwise R := hp.filter p
  match e : l.filter p, h1, h2 with
  | [x], h1, _ => simp at h1; rw [h1]
  | x :: y :: r, _, h2 =>
    have hx : x ∈ l.filter p := by rw [e]; simp
    have hy : y ∈ l.filter p := by rw [e]; simp
    rw [List.mem_filter] at hx hy
    exact absurd (List.rel_of_pairwise_cons h2 (by simp)) (h x hx.1 y hy.1 hx.2 hy.2)
theorem cert_rep {q : GConj} {one : List GFact} (hfit : fitM q one = true) (hf : firstM q = true) (hp : one.Pairwise fun f g => sameM q f g = false) : certB q one = holdsM q one (allI one.length) := by
  rw [Bool.eq_iff_iff, cert_iff hfit hf, holds_all hfit]
  have hs : ∀ i, i < q.Atoms.length → ∀ f ∈ one, f.Table = (nth q.Atoms i).Table → grpF (nth q.Atoms i) one f = [f] := by
    intro i hi f hfm ht
    refine single hp (fun x hx y hy px py => ?_) hfm (by unfold inG; simp [ht])
    unfold inG at px py
    simp only [Bool.and_eq_true, decide_eq_true_eq] at px py
    rw [(same_iff hfit hx hy hi px.1 py.1).2 (px.2.trans py.2.symm)]
    simp
  have h1 : CertQ q one ↔ HoldP (eqT q) ((sortedM q).map (cfA one)) [] := by
    unfold CertQ
    refine Cert_one (eqT q) (all2_map fun a ha => ?_) ?_
    · obtain ⟨i, hi, rfl⟩ := sorted_mem hf ha
      intro y
      constructor
      · intro hy
        obtain ⟨x, hx, rfl⟩ := List.mem_map.1 hy
        obtain ⟨hx1, hx2⟩ := List.mem_filter.1 hx
        have hx2 : x.Table = (nth q.Atoms i).Table := by simpa using hx2
        obtain ⟨b, hb, e⟩ := (blk_grp (nth q.Atoms i) one _).2 ⟨x, hx1, hx2, rfl⟩
        refine List.mem_map.2 ⟨b, hb, ?_⟩
        show b.2.map _ = _
        rw [e, hs i hi x hx1 hx2]; rfl
      · intro hy
        obtain ⟨b, hb, e⟩ := List.mem_map.1 hy
        obtain ⟨x, hx1, hx2, hx3⟩ := (blk_grp (nth q.Atoms i) one b.2).1 ⟨b, hb, rfl⟩
        have e : b.2.map (bnd (nth q.Atoms i)) = [y] := e
        rw [hx3, hs i hi x hx1 hx2] at e
        have e : bnd (nth q.Atoms i) x = y := by simpa using e
        exact List.mem_map.2 ⟨x, List.mem_filter.2 ⟨hx1, by simpa using hx2⟩, e⟩
    · intro bs hbs b hb
      obtain ⟨a, ha, rfl⟩ := List.mem_map.1 hbs
      obtain ⟨i, hi, rfl⟩ := sorted_mem hf ha
      obtain ⟨b0, hb0, rfl⟩ := List.mem_map.1 hb
      obtain ⟨x, hx1, hx2, hx3⟩ := (blk_grp (nth q.Atoms i) one b0.2).1 ⟨b0, hb0, rfl⟩
      exact ⟨_, by rw [hx3, hs i hi x hx1 hx2]; rfl⟩
  rw [h1]
  exact ⟨HoldP_perm (eqT q) ((sorted_perm hf).map _), HoldP_perm (eqT q) ((sorted_perm hf).symm.map _)⟩
/-! Representatives -/
def frst (q : GConj) (facts : List GFact) (i k : Nat) : Bool := (List.range k).all fun j => !sameM q (nth facts j) (nth facts i)
theorem frst_succ (q : GConj) (facts : List GFact) (i k : Nat) : frst q facts i (k + 1) = (frst q facts i k && !sameM q (nth facts k) (nth facts i)) := by
  unfold frst
  rw [List.range_succ, List.all_append]; simp
def repL (q : GConj) (facts : List GFact) (n : Nat) : List Nat := (List.range n).filter fun i => frst q facts i i
def repM (q : GConj) (facts : List GFact) (n : Nat) : List GFact := (repL q facts n).map (nth facts)
theorem repM_t {q : GConj} {facts : List GFact} {n : Nat} (h : frst q facts n n = true) : repM q facts (n + 1) = repM q facts n ++ [nth facts n] := by
  unfold repM repL; rw [List.range_succ, List.filter_append, List.map_append]; simp [h]
theorem repM_f {q : GConj} {facts : List GFact} {n : Nat} (h : frst q facts n n = false) : repM q facts (n + 1) = repM q facts n := by
  unfold repM repL; rw [List.range_succ, List.filter_append, List.map_append]; simp [h]
theorem repM_len (q : GConj) (facts : List GFact) (n : Nat) : (repM q facts n).length ≤ n := by
  unfold repM repL
  rw [List.length_map]
  exact Nat.le_trans (List.length_filter_le _ _) (by simp)
theorem repM_sub {q : GConj} {facts : List GFact} : ∀ f ∈ repM q facts facts.length, f ∈ facts := by
  intro f hf
  obtain ⟨i, hi, rfl⟩ := List.mem_map.1 hf
  exact nth_mem (List.mem_range.1 (List.mem_filter.1 hi).1)
theorem repM_full {q : GConj} {facts : List GFact} (h : (repM q facts facts.length).length = facts.length) : repM q facts facts.length = facts := by
  unfold repM at h ⊢
  rw [List.length_map] at h
  have : repL q facts facts.length = List.range facts.length := by
    unfold repL at h ⊢
    exact List.filter_sublist.eq_of_length (by rw [h]; simp)
  rw [this, nth_map_range]
theorem repM_pair (q : GConj) (facts : List GFact) (n : Nat) : (repM q facts n).Pairwise fun f g => sameM q f g = false := by
  unfold repM repL
  rw [List.pairwise_map]
  have h1 : (List.range n).Pairwise (· < ·) := List.pairwise_lt_range
  refine List.Pairwise.imp_of_mem ?_ (h1.filter _)
  intro i j hi hj hlt
  have h2 := (List.mem_filter.1 hj).2
  have h3 := rall_iff.1 h2 i hlt
  simpa using h3
theorem fit_of {q : GConj} {facts one : List GFact} (hfit : fitM q facts = true) (h : ∀ f ∈ one, f ∈ facts) : fitM q one = true := by
  unfold fitM at hfit ⊢
  rw [Bool.and_eq_true] at hfit ⊢
  refine ⟨hfit.1, rall_t fun k hk => ?_⟩
  obtain ⟨j, hj, e⟩ := List.getElem_of_mem (h _ (nth_mem hk))
  have := rall_iff.1 hfit.2 j hj
  rwa [nth_get hj, e] at this
theorem allI_succ (n : Nat) : allI (n + 1) = allI n ++ [(n : Int)] := by simp [allI, List.range_succ]
end Lg

/- Certainty holds for every choice. -/
namespace Lg
open Go Go.Proofs
def candA (facts : List GFact) (set : List Int) (a : GAtom) : List GFact := set.filterMap fun (j : Int) => if 0 ≤ j ∧ j < facts.length ∧ (nth facts j.toNat).Table = a.Table then some (nth facts j.toNat) else none
def cfS (facts : List GFact) (set : List Int) (a : GAtom) : List (List (Bnd GValue)) := (candA facts set a).map (bnd a)
theorem holds_set {q : GConj} {facts : List GFact} (hfit : fitM q facts = true) (set : List Int) : holdsM q facts set = true ↔ HoldP (eqT q) (q.Atoms.map (cfS facts set)) [] := by
  unfold holdsM holdB
  rw [hfit, Bool.true_and]
  have e : (List.range' 0 (q.Atoms.length - 0)).map (fun i => (candF q facts set i).map (bnd (nth q.Atoms i))) = q.Atoms.map (cfS facts set) := by
    rw [Nat.sub_zero, ← map_range' (cfS facts set) q.Atoms]
    rfl
  rw [e]
  exact holdL_iff (eqT q) _ (okB_nil (eqT q))
theorem chM_mem {q : GConj} {facts : List GFact} {which : List GByte} {n i : Nat} (hi : i < n) {k : Int} (h : k ∈ pick q facts which i) : k ∈ chM q facts which n := by
  unfold chM
  exact List.mem_flatMap.2 ⟨i, List.mem_range.2 hi, h⟩
theorem blkI_mem {q : GConj} {facts : List GFact} {i n : Nat} {k : Int} : k ∈ blkI q facts i n ↔ ∃ j : Nat, k = j ∧ j < n ∧ sameM q (nth facts i) (nth facts j) = true := by
  unfold blkI
  constructor
  · intro h
    obtain ⟨j, hj, rfl⟩ := List.mem_map.1 h
    obtain ⟨h1, h2⟩ := List.mem_filter.1 hj
    exact ⟨j, rfl, List.mem_range.1 h1, h2⟩
  · rintro ⟨j, rfl, h1, h2⟩
    exact List.mem_map.2 ⟨j, List.mem_filter.2 ⟨List.mem_range.2 h1, h2⟩, rfl⟩
theorem least {P : Nat → Prop} {n : Nat} (h : P n) : ∃ m, m ≤ n ∧ P m ∧ ∀ k, k < m → ¬ P k := by
  induction n using Nat.strongRecOn with
  | _ n ih =>
    by_cases h2 : ∃ k, k < n ∧ P k
    · obtain ⟨k, hk, hp⟩ := h2
      obtain ⟨m, hm, h3⟩ := ih k hk hp
      exact ⟨m, by omega, h3⟩
    · exact ⟨n, Nat.le_refl _, h, fun k hk hp => h2 ⟨k, hk, hp⟩⟩
theorem choice_meets {q : GConj} {facts : List GFact} (which : List GByte) (hfit : fitM q facts = true) {i : Nat} (hi : i < q.Atoms.length) {f : GFact} (hf : f ∈ facts) (ht : f.Table = (nth q.Atoms i).Table) :
    ∃ k : Nat, (k : Int) ∈ chM q facts which facts.length ∧ k < facts.length ∧ (nth facts k).Table = (nth q.Atoms i).Table ∧ kyF (nth q.Atoms i) (nth facts k) = kyF (nth q.Atoms i) f := by
  obtain ⟨j, hj, rfl⟩ := List.getElem_of_mem hf
  rw [← nth_get hj] at hf ht ⊢
  obtain ⟨m, hmj, ⟨hm1, hm2, hm3⟩, hmin⟩ := least (P := fun m => m < facts.length ∧ (nth facts m).Table = (nth q.Atoms i).Table ∧ kyF (nth q.Atoms i) (nth facts m) = kyF (nth q.Atoms i) (nth facts j)) (n := j) ⟨hj, ht, rfl⟩
  have hself := same_self hfit (nth_mem hm1) hi hm2
  have hblk : ∀ k : Nat, k < facts.length → sameM q (nth facts m) (nth facts k) = true → (nth facts k).Table = (nth q.Atoms i).Table ∧ kyF (nth q.Atoms i) (nth facts k) = kyF (nth q.Atoms i) (nth facts j) := by
    intro k hk hs
    obtain ⟨i', hi', t1, t2⟩ := same_tab hs
    have : i' = i := valid_inj (fit_valid hfit) hi' hi (t1.symm.trans hm2)
    subst this
    exact ⟨t2, ((same_iff hfit (nth_mem hm1) (nth_mem hk) hi' t1 t2).1 hs).symm.trans hm3⟩
  have h1 : fstB q facts m facts.length = true := by
    unfold fstB
    refine rall_t fun k hk => ?_
    cases hs : sameM q (nth facts m) (nth facts k) with
    | false => rfl
    | true =>
      have := hblk k hk hs
      have hle : m ≤ k := Classical.byContradiction fun hlt => hmin k (by omega) ⟨hk, this.1, this.2⟩
      rw [decide_eq_true hle]; rfl
  have hmem : (m : Int) ∈ blkI q facts m facts.length := blkI_mem.2 ⟨m, rfl, hm1, hself⟩
  have h2 : ¬ blkI q facts m facts.length = [] := fun e => by rw [e] at hmem; cases hmem
  have hlen : 0 < (blkI q facts m facts.length).length := List.length_pos_iff.2 h2
  have hp : pick q facts which m = [nth (blkI q facts m facts.length) (kAt which m % (blkI q facts m facts.length).length).toNat] := by
    unfold pick
    rw [h1, decide_eq_false h2]; rfl
  have hlt : (kAt which m % (blkI q facts m facts.length).length).toNat < (blkI q facts m facts.length).length := by
    have a1 := Int.emod_nonneg (kAt which m) (b := ((blkI q facts m facts.length).length : Int)) (by omega)
    have a2 := Int.emod_lt_of_pos (kAt which m) (b := ((blkI q facts m facts.length).length : Int)) (by omega)
    omega
  obtain ⟨k, e, hk1, hk2⟩ := blkI_mem.1 (nth_mem hlt)
  refine ⟨k, ?_, hk1, hblk k hk1 hk2⟩
  refine chM_mem hm1 ?_
  rw [hp, ← e]; simp
theorem holds_choice {q : GConj} {facts : List GFact} (which : List GByte) (hfit : fitM q facts = true) (hf : firstM q = true) (h : certB q facts = true) : holdsM q facts (chM q facts which facts.length) = true := by
  rw [cert_iff hfit hf] at h
  rw [holds_set hfit]
  refine HoldP_perm (eqT q) ((sorted_perm hf).map _) ?_
  refine Cert_hold (eqT q) (all2_map fun a ha => ?_) h
  obtain ⟨i, hi, rfl⟩ := sorted_mem hf ha
  intro b hb
  obtain ⟨b0, hb0, rfl⟩ := List.mem_map.1 hb
  obtain ⟨f, hf1, hf2, hf3⟩ := (blk_grp (nth q.Atoms i) facts b0.2).1 ⟨b0, hb0, rfl⟩
  obtain ⟨k, hk1, hk2, hk3, hk4⟩ := choice_meets which hfit hi hf1 hf2
  refine ⟨bnd (nth q.Atoms i) (nth facts k), List.mem_map.2 ⟨nth facts k, by rw [hf3, mem_grpF]; exact ⟨nth_mem hk2, hk3, hk4⟩, rfl⟩, ?_⟩
  refine List.mem_map.2 ⟨nth facts k, List.mem_filterMap.2 ⟨(k : Int), hk1, ?_⟩, rfl⟩
  rw [if_pos ⟨by omega, by omega, by simpa using hk3⟩]; rfl
theorem certE_ne {q : GConj} {facts : List GFact} (h : certE q facts ≠ 0) : certB q facts = false := by
  unfold certE at h
  unfold certB
  by_cases h1 : fitM q facts = true
  · rw [if_pos h1] at h
    by_cases h2 : firstM q = true
    · rw [if_pos h2] at h; exact absurd rfl h
    · rw [Bool.eq_false_iff.2 h2]; simp
  · rw [Bool.eq_false_iff.2 h1]; rfl
theorem chM_bd {q : GConj} {facts : List GFact} {which : List GByte} : (chM q facts which facts.length).length ≤ facts.length := chM_len q facts which facts.length
end Lg

/- Certainty by choices: no order of atoms is in it. The same query told backwards. -/
namespace Lg
open Go Go.Proofs
abbrev vlsA (a : GAtom) (f : GFact) : List GValue := ((bnd a f).map (·.2)).take a.Key.toNat
theorem vls_get {a : GAtom} {f : GFact} {j : Nat} (hj : j < a.Key.toNat) (hk : a.Key.toNat ≤ a.Terms.length) : (vlsA a f)[j]? = some (valAt a f j) := by
  have : j < a.Terms.length := by omega
  simp [vlsA, bnd, List.getElem?_take, hj, this, valAt]
theorem vls_none {a : GAtom} {f : GFact} {j : Nat} (hj : ¬ j < a.Key.toNat) : (vlsA a f)[j]? = none := by
  simp [vlsA, List.getElem?_take, hj]
theorem vls_iff {a : GAtom} {f g : GFact} (hf : FitF a f) (hg : FitF a g) (hk : a.Key ≤ a.Cols.length) (ht : a.Terms.length = a.Cols.length) : vlsA a f = vlsA a g ↔ kyF a f = kyF a g := by
  have hkt : a.Key.toNat ≤ a.Terms.length := by omega
  constructor
  · intro h
    refine key_congr fun j hj => ?_
    have h1 := vls_get (f := f) hj hkt
    rw [h, vls_get hj hkt] at h1
    exact (Option.some.inj h1).symm
  · intro h
    have h1 := key_inj hf hg (by omega) h
    apply List.ext_getElem?
    intro j
    by_cases hj : j < a.Key.toNat
    · rw [vls_get hj hkt, vls_get hj hkt, h1 j hj]
    · rw [vls_none hj, vls_none hj]
theorem vls_fit {q : GConj} {facts : List GFact} (hfit : fitM q facts = true) {i : Nat} (hi : i < q.Atoms.length) {f g : GFact} (hf : f ∈ facts) (hg : g ∈ facts) (tf : f.Table = (nth q.Atoms i).Table) (tg : g.Table = (nth q.Atoms i).Table) :
    vlsA (nth q.Atoms i) f = vlsA (nth q.Atoms i) g ↔ kyF (nth q.Atoms i) f = kyF (nth q.Atoms i) g :=
  have h := valid_cols (fit_valid hfit) (nth_mem hi)
  vls_iff (fit_fact hfit hf hi tf) (fit_fact hfit hg hi tg) h.2.2.2.1 h.2.1
def ChA (facts : List GFact) (L : List GAtom) (c : GAtom → List GValue → GFact) : Prop := ∀ a ∈ L, ∀ f ∈ facts, f.Table = a.Table → c a (vlsA a f) ∈ facts ∧ (c a (vlsA a f)).Table = a.Table ∧ vlsA a (c a (vlsA a f)) = vlsA a f
def cfC (facts : List GFact) (c : GAtom → List GValue → GFact) (a : GAtom) : List (List (Bnd GValue)) := (tabL a facts).map fun f => bnd a (c a (vlsA a f))
def SemP (T : EqT GValue) (L : List GAtom) (facts : List GFact) : Prop := ∀ c, ChA facts L c → HoldP T (L.map (cfC facts c)) []
theorem mem_tabL {a : GAtom} {l : List GFact} {f : GFact} : f ∈ tabL a l ↔ f ∈ l ∧ f.Table = a.Table := by
  unfold tabL; rw [List.mem_filter]; simp
theorem cert_sem1 {q : GConj} {facts : List GFact} (hfit : fitM q facts = true) (hf : firstM q = true) (h : CertQ q facts) : SemP (eqT q) q.Atoms facts := by
  intro c hc
  refine HoldP_perm (eqT q) ((sorted_perm hf).map _) ?_
  refine Cert_hold (eqT q) (all2_map fun a ha => ?_) h
  obtain ⟨i, hi, rfl⟩ := sorted_mem hf ha
  intro b hb
  obtain ⟨b0, hb0, rfl⟩ := List.mem_map.1 hb
  obtain ⟨f, hf1, hf2, hf3⟩ := (blk_grp (nth q.Atoms i) facts b0.2).1 ⟨b0, hb0, rfl⟩
  obtain ⟨h1, h2, h3⟩ := hc _ (nth_mem hi) f hf1 hf2
  exact ⟨bnd (nth q.Atoms i) (c (nth q.Atoms i) (vlsA (nth q.Atoms i) f)), List.mem_map.2 ⟨_, by rw [hf3, mem_grpF]; exact ⟨h1, h2, (vls_fit hfit hi h1 hf1 h2 hf2).1 h3⟩, rfl⟩, List.mem_map.2 ⟨f, mem_tabL.2 ⟨hf1, hf2⟩, rfl⟩⟩
/-! The other way, by the theorem on the rewriting. -/
def qyL (L : List GAtom) : Qy GValue GFact := ⟨L.length, fun i => (nth L i).Terms, fun i => (nth L i).Key.toNat, fun i f => bnd (nth L i) f⟩
theorem bnd_fst (a : GAtom) (f : GFact) : (bnd a f).map (·.1) = a.Terms := by
  unfold bnd
  rw [List.map_map]
  exact nth_map_range a.Terms
theorem atoms_nodup {q : GConj} (hq : validQ q = true) : q.Atoms.Nodup := by
  refine List.pairwise_iff_getElem.2 fun i j hi hj hlt e => ?_
  exact valid_dist hq hlt hj (by rw [nth_get hi, nth_get hj, e])
theorem nodup_nth {α : Type} [Inhabited α] {l : List α} (h : l.Nodup) {i j : Nat} (hi : i < l.length) (hj : j < l.length) (e : nth l i = nth l j) : i = j := by
  rw [nth_get hi, nth_get hj] at e
  have hp := List.pairwise_iff_getElem.1 h
  rcases Nat.lt_trichotomy i j with h1 | h1 | h1
  · exact absurd e (hp i j hi hj h1)
  · exact h1
  · exact absurd e.symm (hp j i hj hi h1)
theorem pick_fn {α β : Type} [Inhabited α] [Inhabited β] {F : α → List β} : ∀ {L : List α} {fs : List β}, Pick (L.map F) fs → fs.length = L.length ∧ ∀ i, i < L.length → nth fs i ∈ F (nth L i)
  | [], [], _ => ⟨rfl, fun i hi => by simp at hi⟩
  | [], _ :: _, h => by cases h
  | _ :: _, [], h => by cases h
  | a :: L, f :: fs, ⟨h1, h2⟩ => by
    obtain ⟨h3, h4⟩ := pick_fn h2
    refine ⟨by simp [h3], fun i hi => ?_⟩
    match i, hi with
    | 0, _ => exact h1
    | i + 1, hi => exact h4 i (by simpa using hi)
theorem srt_nth {q : GConj} {i : Nat} (hi : i < (sortedI q).length) : nth (sortedM q) i = nth q.Atoms (nth (sortedI q) i) := by
  unfold sortedM
  rw [nth_get (by simpa using hi), List.getElem_map, nth_get hi]
theorem cl_from {q : GConj} (hf : firstM q = true) {G : Nat} (hG : G < (sortedI q).length) {t : Int} (h : ClV q ((nth (sortedI q) G : Nat) : Int) (keyT q (nth (sortedI q) G)) t) : Cl (qyL (sortedM q)) G t := by
  obtain ⟨h1, h2⟩ := sorted_ok hf
  induction h with
  | base h => exact Cl.base (by show _ ∈ (nth (sortedM q) G).Terms.take (nth (sortedM q) G).Key.toNat; rw [srt_nth hG]; exact h)
  | @step H t hl hw hk ht ih =>
    have hm : H ∈ sortedI q := (full_range h2.nd h2.lt h1).mem_iff.2 (List.mem_range.2 hl)
    obtain ⟨j, hj, e⟩ := List.getElem_of_mem hm
    have e : nth (sortedI q) j = H := by rw [nth_get hj, e]
    subst e
    refine Cl.step (H := j) (by show j < (sortedM q).length; unfold sortedM; simpa using hj) (fun e => hw (by rw [e])) (fun t' ht' h0 => ?_) (by show _ ∈ (nth (sortedM q) j).Terms; rw [srt_nth hj]; exact ht)
    refine ih t' ?_ h0
    have ht' : t' ∈ (nth (sortedM q) j).Terms.take (nth (sortedM q) j).Key.toNat := ht'
    rw [srt_nth hj] at ht'
    exact ht'
theorem rc_to {q : GConj} (hf : firstM q = true) {G K : Nat} (hG : G < (sortedI q).length) (h : Rc (qyL (sortedM q)) G K) : RcQ q (nth (sortedI q) G) (nth (sortedI q) K) := by
  obtain ⟨h1, h2⟩ := sorted_ok hf
  have hlen : (sortedM q).length = (sortedI q).length := by unfold sortedM; simp
  induction h with
  | refl => exact RcQ.refl
  | @step H K t hr hH hK t1 t2 h0 hn ih =>
    have hH : H < (sortedI q).length := by rw [← hlen]; exact hH
    have hK : K < (sortedI q).length := by rw [← hlen]; exact hK
    have t1 : t ∈ (nth (sortedM q) H).Terms := t1
    have t2 : t ∈ (nth (sortedM q) K).Terms := t2
    rw [srt_nth hH] at t1
    rw [srt_nth hK] at t2
    exact RcQ.step ih (h2.lt _ (nth_mem hH)) (h2.lt _ (nth_mem hK)) t1 t2 h0 fun hc => hn (cl_from hf hG hc)
open Classical in
theorem att_no {q : GConj} {k i : Nat} (hk : k < q.Atoms.length) (hi : i < q.Atoms.length) (hne : i ≠ k) (h : nth (nth (attL q) k) i = false) : ¬ RcQ q k i := by
  intro hr
  rw [attL_nth q hk] at h
  unfold attB at h
  rw [nth_get (by simpa using hi)] at h
  simp at h
  exact hne (h hr)
theorem no_rc {q : GConj} (hf : firstM q = true) {i j : Nat} (hij : i < j) (hj : j < (sortedI q).length) : ¬ Rc (qyL (sortedM q)) j i := by
  intro h
  obtain ⟨h1, h2⟩ := sorted_ok hf
  have hi : i < (sortedI q).length := by omega
  have hr := rc_to hf hj h
  have hd : nth (sortedI q) j ∉ (sortedI q).take i := by
    intro hm
    obtain ⟨k, hk, e⟩ := List.getElem_of_mem hm
    have hk2 : k < i := by simp at hk; omega
    rw [List.getElem_take] at e
    have := nodup_nth h2.nd (i := k) (j := j) (by omega) hj (by rw [nth_get (by omega), e])
    omega
  have hs : sortedI q = (sortedI q).take i ++ nth (sortedI q) i :: (sortedI q).drop (i + 1) := by
    rw [← dropB hi, List.take_append_drop]
  have h3 := h2.top _ _ _ hs (nth (sortedI q) j) (h2.lt _ (nth_mem hj)) hd
  refine att_no (h2.lt _ (nth_mem hj)) (h2.lt _ (nth_mem hi)) (fun e => ?_) h3 hr
  have := nodup_nth h2.nd hi hj e
  omega
open Classical in
theorem cert_sem2 {q : GConj} {facts : List GFact} (hfit : fitM q facts = true) (hf : firstM q = true) (h : SemP (eqT q) q.Atoms facts) : CertQ q facts := by
  have hq := fit_valid hfit
  have hp := sorted_perm hf
  have hnd : (sortedM q).Nodup := hp.nodup_iff.2 (atoms_nodup hq)
  have hln : (sortedM q).length = (sortedI q).length := by unfold sortedM; simp
  have hat : ∀ i, i < (sortedM q).length → ∃ j, j < q.Atoms.length ∧ nth (sortedM q) i = nth q.Atoms j := fun i hi => by
    have := sorted_mem hf (nth_mem hi)
    exact this
  have hg : ∀ i, i < (qyL (sortedM q)).n → Grp (Q := qyL (sortedM q)) i (tabL (nth (sortedM q) i) facts) ((blkM (nth (sortedM q) i) facts).map (·.2)) := by
    intro i hi
    obtain ⟨j, hj, ej⟩ := hat i hi
    refine ⟨fun b hb => ?_, fun f hf1 => ?_⟩
    · obtain ⟨b0, hb0, e0⟩ := List.mem_map.1 hb
      obtain ⟨f, hf1, hf2, hf3⟩ := (blk_grp _ facts b).1 ⟨b0, hb0, e0⟩
      refine ⟨f, mem_tabL.2 ⟨hf1, hf2⟩, fun g => ?_⟩
      rw [hf3, mem_grpF, mem_tabL]
      constructor
      · rintro ⟨g1, g2, g3⟩
        refine ⟨⟨g1, g2⟩, ?_⟩
        show vlsA (nth (sortedM q) i) g = vlsA (nth (sortedM q) i) f
        rw [ej] at g2 g3 hf2 ⊢
        exact (vls_fit hfit hj g1 hf1 g2 hf2).2 g3
      · rintro ⟨⟨g1, g2⟩, g3⟩
        have g3 : vlsA (nth (sortedM q) i) g = vlsA (nth (sortedM q) i) f := g3
        refine ⟨g1, g2, ?_⟩
        rw [ej] at g2 g3 hf2 ⊢
        exact (vls_fit hfit hj g1 hf1 g2 hf2).1 g3
    · obtain ⟨hf1, hf2⟩ := mem_tabL.1 hf1
      obtain ⟨b0, hb0, e0⟩ := (blk_grp _ facts _).2 ⟨f, hf1, hf2, rfl⟩
      exact ⟨b0.2, List.mem_map.2 ⟨b0, hb0, rfl⟩, by rw [e0]; exact grpF_self hf1 hf2⟩
  have hall : Alls (eqT q) (qyL (sortedM q)) (fun i => tabL (nth (sortedM q) i) facts) := by
    intro c hc
    let cA : GAtom → List GValue → GFact := fun a k => if h : ∃ i, i < (sortedM q).length ∧ nth (sortedM q) i = a then c (Classical.choose h) k else default
    have hcA : ∀ i, i < (sortedM q).length → ∀ k, cA (nth (sortedM q) i) k = c i k := by
      intro i hi k
      have he : ∃ j, j < (sortedM q).length ∧ nth (sortedM q) j = nth (sortedM q) i := ⟨i, hi, rfl⟩
      show (if h : ∃ j, j < (sortedM q).length ∧ nth (sortedM q) j = nth (sortedM q) i then c (Classical.choose h) k else default) = _
      rw [dif_pos he]
      rw [nodup_nth hnd (Classical.choose_spec he).1 hi (Classical.choose_spec he).2]
    have hch : ChA facts q.Atoms cA := by
      intro a ha f hf1 hf2
      obtain ⟨i, hi, e⟩ := List.getElem_of_mem (hp.mem_iff.2 ha)
      have e : nth (sortedM q) i = a := by rw [nth_get hi, e]
      subst e
      rw [hcA i hi]
      obtain ⟨h1, h2⟩ := hc i hi f (mem_tabL.2 ⟨hf1, hf2⟩)
      exact ⟨(mem_tabL.1 h1).1, (mem_tabL.1 h1).2, h2⟩
    have h2 := HoldP_perm (eqT q) (hp.symm.map _) (h cA hch)
    obtain ⟨fs, hpk, hok⟩ := (HoldP_iff (eqT q) _ (okB_nil (eqT q))).1 h2
    obtain ⟨hl, hpf⟩ := pick_fn hpk
    have hex : ∀ i, ∃ f, i < (sortedM q).length → f ∈ tabL (nth (sortedM q) i) facts ∧ bnd (nth (sortedM q) i) (c i (vlsA (nth (sortedM q) i) f)) = nth fs i := by
      intro i
      by_cases hi : i < (sortedM q).length
      · obtain ⟨f, hf1, hf2⟩ := List.mem_map.1 (hpf i hi)
        rw [hcA i hi] at hf2
        exact ⟨f, fun _ => ⟨hf1, hf2⟩⟩
      · exact ⟨default, fun h => absurd h hi⟩
    let g : Nat → GFact := fun i => Classical.choose (hex i)
    have hgs : ∀ i, i < (sortedM q).length → g i ∈ tabL (nth (sortedM q) i) facts ∧ bnd (nth (sortedM q) i) (c i (vlsA (nth (sortedM q) i) (g i))) = nth fs i := fun i hi => Classical.choose_spec (hex i) hi
    refine ⟨fun i => c i (vlsA (nth (sortedM q) i) (g i)), fun i hi => ?_, okP_iff.2 ?_⟩
    · obtain ⟨h3, h4⟩ := hc i hi (g i) (hgs i hi).1
      refine ⟨h3, ?_⟩
      have h4 : key (qyL (sortedM q)) i (c i (vlsA (nth (sortedM q) i) (g i))) = vlsA (nth (sortedM q) i) (g i) := h4
      rw [h4]
    · have e : (List.range (qyL (sortedM q)).n).map (fun i => (qyL (sortedM q)).b i (c i (vlsA (nth (sortedM q) i) (g i)))) = fs := by
        rw [← nth_map_range fs]
        show (List.range (sortedM q).length).map _ = _
        rw [hl]
        exact List.map_congr_left fun i hi => (hgs i (List.mem_range.1 hi)).2
      rw [e]
      simpa using hok
  have hc := cert_complete (T := eqT q) (Q := qyL (sortedM q)) (eqT_eq q) (fun i f => bnd_fst _ f) (fun i => tabL (nth (sortedM q) i) facts) (fun i => (blkM (nth (sortedM q) i) facts).map (·.2)) hg (fun i j hij hj => no_rc hf hij (by rw [← hln]; exact hj)) hall
  unfold CertQ
  have e : (sortedM q).map (fun a => grps a facts) = (List.range (qyL (sortedM q)).n).map fun i => ((blkM (nth (sortedM q) i) facts).map (·.2)).map fun b => b.map ((qyL (sortedM q)).b i) := by
    conv => lhs; rw [← nth_map_range (sortedM q)]
    rw [List.map_map]
    refine List.map_congr_left fun i hi => ?_
    show grps _ _ = _
    unfold grps
    rw [List.map_map]; rfl
  rw [e]
  exact hc
theorem cert_sem {q : GConj} {facts : List GFact} (hfit : fitM q facts = true) (hf : firstM q = true) : certB q facts = true ↔ SemP (eqT q) q.Atoms facts := by
  rw [cert_iff hfit hf]
  exact ⟨cert_sem1 hfit hf, cert_sem2 hfit hf⟩
end Lg

/- The same query told backwards. -/
namespace Lg
open Go Go.Proofs
def psi (n t : Int) : Int := if 0 ≤ t then n - 1 - t else t
def phiA (n : Int) (a : GAtom) : GAtom := ⟨a.Table, a.Cols, a.Terms.map (psi n), a.Key⟩
def revQ (q : GConj) : GConj := ⟨q.Vars, q.Consts, (q.Atoms.map (phiA q.Vars)).reverse⟩
abbrev ren (n : Int) (x : Bnd GValue) : Bnd GValue := (psi n x.1, x.2)
theorem psi_neg {n t : Int} (h : t < 0) : psi n t = t := if_neg (by omega)
theorem psi_pos {n t : Int} (h : 0 ≤ t) : psi n t = n - 1 - t := if_pos h
theorem psi_psi {n t : Int} (h : t < n) : psi n (psi n t) = t := by
  by_cases h0 : 0 ≤ t
  · rw [psi_pos h0, psi_pos (by omega)]; omega
  · rw [psi_neg (t := t) (by omega), psi_neg (by omega)]
theorem psi_inj {n t s : Int} (ht : 0 ≤ psi n t) (h : psi n t = psi n s) (h0 : 0 ≤ t) (h1 : 0 ≤ s) : t = s := by
  rw [psi_pos h0, psi_pos h1] at h; omega
theorem psi_ge {n t : Int} (h : 0 ≤ psi n t) : 0 ≤ t := Classical.byContradiction fun hn => by rw [psi_neg (by omega)] at h; exact hn h
theorem nth_map {α β : Type} [Inhabited α] [Inhabited β] (f : α → β) {l : List α} {i : Nat} (h : i < l.length) : nth (l.map f) i = f (nth l i) := by
  rw [nth_get (by simpa using h), List.getElem_map, nth_get h]
theorem bnd_phi (n : Int) (a : GAtom) (f : GFact) : bnd (phiA n a) f = (bnd a f).map (ren n) := by
  unfold bnd
  rw [List.map_map]
  show (List.range (a.Terms.map (psi n)).length).map _ = _
  rw [List.length_map]
  refine List.map_congr_left fun i hi => ?_
  have hi := List.mem_range.1 hi
  show (nth (a.Terms.map (psi n)) i, _) = (psi n (nth a.Terms i), _)
  rw [nth_map _ hi]; rfl
theorem vls_phi (n : Int) (a : GAtom) (f : GFact) : vlsA (phiA n a) f = vlsA a f := by
  unfold vlsA
  rw [bnd_phi, List.map_map]; rfl
theorem okB_ren {T : EqT GValue} {n : Int} {l : List (Bnd GValue)} (hl : ∀ x ∈ l, x.1 < n) (h : okB T l) : okB T (l.map (ren n)) := by
  refine ⟨fun y hy h0 => ?_, ?_⟩
  · obtain ⟨x, hx, rfl⟩ := List.mem_map.1 hy
    have h0 : psi n x.1 < 0 := h0
    have hx0 : x.1 < 0 := Classical.byContradiction fun hn => by
      have := hl x hx
      rw [psi_pos (by omega)] at h0; omega
    show T.e x.2 (T.c (psi n x.1)) = true
    rw [psi_neg hx0]
    exact h.1 x hx hx0
  · rw [List.pairwise_map]
    refine h.2.imp ?_
    intro x y hxy e h0
    have e : psi n x.1 = psi n y.1 := e
    have h0 : 0 ≤ psi n x.1 := h0
    have hx := psi_ge h0
    have hy := psi_ge (e ▸ h0)
    exact hxy (psi_inj h0 e hx hy) hx
theorem pick_map {α β : Type} (g : α → β) : ∀ {r : List (List α)} {fs : List α}, Pick r fs → Pick (r.map (·.map g)) (fs.map g)
  | [], [], _ => trivial
  | [], _ :: _, h => by cases h
  | _ :: _, [], h => by cases h
  | c :: r, f :: fs, ⟨h1, h2⟩ => ⟨List.mem_map.2 ⟨f, h1, rfl⟩, pick_map g h2⟩
theorem pick_mem {α : Type} : ∀ {r : List (List α)} {fs : List α}, Pick r fs → ∀ f ∈ fs, ∃ c ∈ r, f ∈ c
  | [], [], _, f, hf => by cases hf
  | [], _ :: _, h, _, _ => by cases h
  | _ :: _, [], h, _, _ => by cases h
  | c :: r, g :: fs, ⟨h1, h2⟩, f, hf => by
    rcases List.mem_cons.1 hf with rfl | hf
    · exact ⟨c, by simp, h1⟩
    · obtain ⟨c', hc', h3⟩ := pick_mem h2 f hf
      exact ⟨c', by simp [hc'], h3⟩
theorem HoldP_ren {T : EqT GValue} {n : Int} {r : List (List (List (Bnd GValue)))} (hr : ∀ c ∈ r, ∀ f ∈ c, ∀ x ∈ f, x.1 < n) (h : HoldP T r []) : HoldP T (r.map (·.map (·.map (ren n)))) [] := by
  obtain ⟨fs, hp, hok⟩ := (HoldP_iff T r (okB_nil T)).1 h
  refine (HoldP_iff T _ (okB_nil T)).2 ⟨fs.map (·.map (ren n)), pick_map _ hp, ?_⟩
  have e : [] ++ (fs.map (·.map (ren n))).flatten = ([] ++ fs.flatten).map (ren n) := by simp [List.map_flatten]
  rw [e]
  refine okB_ren (fun x hx => ?_) hok
  obtain ⟨f, hf, hx⟩ := List.mem_flatten.1 (by simpa using hx)
  obtain ⟨c, hc, hfc⟩ := pick_mem hp f hf
  exact hr c hc f hfc x hx
theorem terms_lt {q : GConj} (hq : validQ q = true) {a : GAtom} (ha : a ∈ q.Atoms) : ∀ t ∈ a.Terms, t < q.Vars := by
  intro t ht
  have h := valid_cols hq ha
  obtain ⟨k, hk, rfl⟩ := List.getElem_of_mem ht
  have := (h.2.2.2.2 k (by rw [← h.2.1]; exact hk)).2.1
  rwa [nth_get hk] at this
theorem sem_rev {q : GConj} {facts : List GFact} (hq : validQ q = true) (h : SemP (eqT q) q.Atoms facts) : SemP (eqT (revQ q)) (revQ q).Atoms facts.reverse := by
  intro c' hc'
  have hc : ChA facts q.Atoms (fun a k => c' (phiA q.Vars a) k) := by
    intro a ha f hf ht
    have hm : phiA q.Vars a ∈ (revQ q).Atoms := List.mem_reverse.2 (List.mem_map.2 ⟨a, ha, rfl⟩)
    obtain ⟨h1, h2, h3⟩ := hc' _ hm f (List.mem_reverse.2 hf) ht
    rw [vls_phi] at h1 h2 h3
    rw [vls_phi] at h3
    exact ⟨List.mem_reverse.1 h1, h2, h3⟩
  have h1 := HoldP_ren (n := q.Vars) (fun cc hcc f hf x hx => by
    obtain ⟨a, ha, rfl⟩ := List.mem_map.1 hcc
    obtain ⟨g, hg, rfl⟩ := List.mem_map.1 hf
    refine terms_lt hq ha x.1 ?_
    have : x.1 ∈ (bnd a (c' (phiA q.Vars a) (vlsA a g))).map (·.1) := List.mem_map.2 ⟨x, hx, rfl⟩
    rwa [bnd_fst] at this) (h _ hc)
  show HoldP (eqT q) ((q.Atoms.map (phiA q.Vars)).reverse.map (cfC facts.reverse c')) []
  refine HoldP_perm (eqT q) ((List.reverse_perm (q.Atoms.map (phiA q.Vars))).symm.map _) ?_
  rw [List.map_map]
  rw [List.map_map] at h1
  refine HoldP_mono (eqT q) (all2_map fun a ha => ?_) h1
  intro y hy
  obtain ⟨z, hz, rfl⟩ := List.mem_map.1 hy
  obtain ⟨f, hf, rfl⟩ := List.mem_map.1 hz
  refine List.mem_map.2 ⟨f, ?_, ?_⟩
  · obtain ⟨hf1, hf2⟩ := mem_tabL.1 hf
    exact mem_tabL.2 ⟨List.mem_reverse.2 hf1, hf2⟩
  · show bnd (phiA q.Vars a) (c' (phiA q.Vars a) (vlsA (phiA q.Vars a) f)) = (bnd a (c' (phiA q.Vars a) (vlsA a f))).map (ren q.Vars)
    rw [bnd_phi, vls_phi]
theorem rev_len (q : GConj) : (revQ q).Atoms.length = q.Atoms.length := by simp [revQ]
theorem rev_nth {q : GConj} {i : Nat} (hi : i < q.Atoms.length) : nth (revQ q).Atoms i = phiA q.Vars (nth q.Atoms (q.Atoms.length - 1 - i)) := by
  rw [nth_get (by rw [rev_len]; exact hi)]
  show (q.Atoms.map (phiA q.Vars)).reverse[i]'(by simpa using hi) = _
  rw [List.getElem_reverse, List.getElem_map]
  simp only [List.length_map]
  rw [nth_get (by omega)]
theorem rev_rev {q : GConj} (hq : validQ q = true) : revQ (revQ q) = q := by
  have e : (((q.Atoms.map (phiA q.Vars)).reverse).map (phiA q.Vars)).reverse = q.Atoms := by
    rw [List.map_reverse, List.reverse_reverse, List.map_map]
    conv => rhs; rw [← List.map_id q.Atoms]
    refine List.map_congr_left fun a ha => ?_
    show phiA q.Vars (phiA q.Vars a) = a
    unfold phiA
    have : (a.Terms.map (psi q.Vars)).map (psi q.Vars) = a.Terms := by
      rw [List.map_map]
      conv => rhs; rw [← List.map_id a.Terms]
      exact List.map_congr_left fun t ht => psi_psi (terms_lt hq ha t ht)
    show GAtom.mk a.Table a.Cols ((a.Terms.map (psi q.Vars)).map (psi q.Vars)) a.Key = a
    rw [this]
  have e2 : revQ (revQ q) = ⟨q.Vars, q.Consts, (((q.Atoms.map (phiA q.Vars)).reverse).map (phiA q.Vars)).reverse⟩ := rfl
  rw [e2, e]
theorem any_take_rev {l : List GAtom} {t : Int} {i : Nat} (h : ∀ j, j < i → (nth l j).Table ≠ t) (hi : i ≤ l.length) : (l.take i).any (fun x => decide (x.Table = t)) = false := by
  rw [List.any_eq_false]
  intro x hx
  obtain ⟨j, hj, rfl⟩ := List.getElem_of_mem hx
  have hj2 : j < i := by simp at hj; omega
  have := h j hj2
  rw [List.getElem_take, ← nth_get (by omega)]
  simpa using this
theorem valid_rev {q : GConj} (hq : validQ q = true) : validQ (revQ q) = true := by
  have h0 := hq
  unfold validQ at h0
  simp only [Bool.and_eq_true, decide_eq_true_eq] at h0
  obtain ⟨⟨h1, h2⟩, h3⟩ := h0
  unfold validQ
  simp only [Bool.and_eq_true, decide_eq_true_eq]
  refine ⟨⟨by rw [rev_len]; exact h1, h2⟩, ?_⟩
  rw [rev_len]
  refine rall_t fun i hi => ?_
  have hj : q.Atoms.length - 1 - i < q.Atoms.length := by omega
  have h4 := rall_iff.1 h3 _ hj
  unfold okA at h4 ⊢
  simp only [Bool.and_eq_true, decide_eq_true_eq] at h4 ⊢
  obtain ⟨⟨⟨a1, a2⟩, a3⟩, a4⟩ := h4
  have e1 : (nth (revQ q).Atoms i).Table = (nth q.Atoms (q.Atoms.length - 1 - i)).Table := by rw [rev_nth hi]; rfl
  have e2 : (nth (revQ q).Atoms i).Cols = (nth q.Atoms (q.Atoms.length - 1 - i)).Cols := by rw [rev_nth hi]; rfl
  have e3 : (nth (revQ q).Atoms i).Key = (nth q.Atoms (q.Atoms.length - 1 - i)).Key := by rw [rev_nth hi]; rfl
  have e4 : (nth (revQ q).Atoms i).Terms = (nth q.Atoms (q.Atoms.length - 1 - i)).Terms.map (psi q.Vars) := by rw [rev_nth hi]; rfl
  rw [e1, e2, e3, e4, List.length_map]
  refine ⟨⟨⟨a1, ?_⟩, a3⟩, ?_⟩
  · rw [any_take_rev (fun j hji => ?_) (by rw [rev_len]; omega)]; rfl
    rw [rev_nth (by omega)]
    show (nth q.Atoms (q.Atoms.length - 1 - j)).Table ≠ _
    exact fun e => (valid_dist hq (i := q.Atoms.length - 1 - i) (j := q.Atoms.length - 1 - j) (by omega) (by omega)) e.symm
  · refine rall_t fun k hk => ?_
    have h5 := rall_iff.1 a4 k hk
    unfold okK at h5 ⊢
    simp only [Bool.and_eq_true, decide_eq_true_eq] at h5 ⊢
    obtain ⟨⟨⟨b1, b2⟩, b3⟩, b4⟩ := h5
    rw [e2, e4, nth_map _ (by omega)]
    refine ⟨⟨⟨b1, b2⟩, ?_⟩, ?_⟩
    · show psi q.Vars _ < q.Vars
      by_cases hp : 0 ≤ nth (nth q.Atoms (q.Atoms.length - 1 - i)).Terms k
      · rw [psi_pos hp]; omega
      · rw [psi_neg (by omega)]; exact b3
    · show -(q.Consts.length : Int) ≤ psi q.Vars _
      by_cases hp : 0 ≤ nth (nth q.Atoms (q.Atoms.length - 1 - i)).Terms k
      · rw [psi_pos hp]; omega
      · rw [psi_neg (by omega)]; exact b4
theorem atomAt_cols_rev {q : GConj} (hq : validQ q = true) (t : Int) : (atomAt (revQ q) t).Cols = (atomAt q t).Cols := by
  have hr := valid_rev hq
  rcases atomAt_mem q t with h | ⟨h, ht⟩
  · rcases atomAt_mem (revQ q) t with h2 | ⟨h2, ht2⟩
    · rw [h, h2]
    · exfalso
      obtain ⟨i, hi, e⟩ := List.getElem_of_mem h2
      have hi2 : i < q.Atoms.length := by rw [← rev_len]; exact hi
      rw [← nth_get hi, rev_nth hi2] at e
      have h3 := atomAt_self hq (i := q.Atoms.length - 1 - i) (by omega)
      have e5 : (nth q.Atoms (q.Atoms.length - 1 - i)).Table = t := by rw [← ht2, ← e]; rfl
      rw [e5, h] at h3
      have h4 := (valid_cols hq (nth_mem (i := q.Atoms.length - 1 - i) (by omega))).2.2.1
      rw [← h3] at h4
      exact absurd h4 (by decide)
  · obtain ⟨i, hi, e⟩ := List.getElem_of_mem h
    rw [← nth_get hi] at e
    have hj : q.Atoms.length - 1 - i < q.Atoms.length := by omega
    have h3 := atomAt_self hr (i := q.Atoms.length - 1 - i) (by rw [rev_len]; exact hj)
    rw [rev_nth hj, show q.Atoms.length - 1 - (q.Atoms.length - 1 - i) = i by omega] at h3
    have e5 : (phiA q.Vars (nth q.Atoms i)).Table = t := by rw [← ht, ← e]; rfl
    rw [e5] at h3
    rw [h3, ← e]; rfl
theorem fit_rev {q : GConj} {facts : List GFact} (h : fitM q facts = true) : fitM (revQ q) facts.reverse = true := by
  have hq := fit_valid h
  unfold fitM at h ⊢
  rw [Bool.and_eq_true] at h ⊢
  refine ⟨valid_rev hq, rall_t fun k hk => ?_⟩
  obtain ⟨j, hj, e⟩ := List.getElem_of_mem (List.mem_reverse.1 (nth_mem hk))
  have := rall_iff.1 h.2 j hj
  rw [nth_get hj, e] at this
  unfold fitF at this ⊢
  rw [atomAt_cols_rev hq]
  exact this
/-! Attacks -/
theorem keyT_rev {q : GConj} {i : Nat} (hi : i < q.Atoms.length) : keyT (revQ q) i = (keyT q (q.Atoms.length - 1 - i)).map (psi q.Vars) := by
  unfold keyT
  rw [rev_nth hi, List.map_take]; rfl
theorem clV_rev {q : GConj} {w : Nat} (hw : w < q.Atoms.length) {vars : List Int} {t : Int} (h : ClV q w vars t) : ClV (revQ q) ((q.Atoms.length - 1 - w : Nat) : Int) (vars.map (psi q.Vars)) (psi q.Vars t) := by
  induction h with
  | base h => exact ClV.base (List.mem_map.2 ⟨_, h, rfl⟩)
  | @step H t hl hne hk ht ih =>
    have hH : q.Atoms.length - 1 - H < q.Atoms.length := by omega
    refine ClV.step (H := q.Atoms.length - 1 - H) (by rw [rev_len]; exact hH) (by omega) (fun t' ht' h0 => ?_) ?_
    · rw [keyT_rev hH, show q.Atoms.length - 1 - (q.Atoms.length - 1 - H) = H by omega] at ht'
      obtain ⟨s, hs, rfl⟩ := List.mem_map.1 ht'
      exact ih s hs (psi_ge h0)
    · rw [rev_nth hH, show q.Atoms.length - 1 - (q.Atoms.length - 1 - H) = H by omega]
      exact List.mem_map.2 ⟨t, ht, rfl⟩
theorem rcQ_rev {q : GConj} {u v : Nat} (hu : u < q.Atoms.length) (h : RcQ (revQ q) u v) : RcQ q (q.Atoms.length - 1 - u) (q.Atoms.length - 1 - v) := by
  induction h with
  | refl => exact RcQ.refl
  | @step H K t hr hH hK t1 t2 h0 hn ih =>
    have hH : H < q.Atoms.length := by rw [← rev_len]; exact hH
    have hK : K < q.Atoms.length := by rw [← rev_len]; exact hK
    rw [rev_nth hH] at t1
    rw [rev_nth hK] at t2
    obtain ⟨s1, hs1, e1⟩ := List.mem_map.1 (show t ∈ (nth q.Atoms (q.Atoms.length - 1 - H)).Terms.map (psi q.Vars) from t1)
    obtain ⟨s2, hs2, e2⟩ := List.mem_map.1 (show t ∈ (nth q.Atoms (q.Atoms.length - 1 - K)).Terms.map (psi q.Vars) from t2)
    have p1 : 0 ≤ s1 := psi_ge (by rw [e1]; exact h0)
    have p2 : 0 ≤ s2 := psi_ge (by rw [e2]; exact h0)
    have e12 : s1 = s2 := psi_inj (by rw [e1]; exact h0) (e1.trans e2.symm) p1 p2
    subst e12
    refine RcQ.step ih (by omega) (by omega) hs1 hs2 p1 fun hc => hn ?_
    have h2 := clV_rev (q := q) (w := q.Atoms.length - 1 - u) (by omega) hc
    rw [show q.Atoms.length - 1 - (q.Atoms.length - 1 - u) = u by omega, e1] at h2
    rw [keyT_rev hu]
    exact h2
open Classical in
theorem ed_att {q : GConj} {u v : Nat} : ed (attL q) u v ↔ u < q.Atoms.length ∧ v < q.Atoms.length ∧ RcQ q u v ∧ v ≠ u := by
  rw [ed_iff]
  by_cases hu : u < q.Atoms.length
  · rw [attL_nth q hu, attB_len]
    constructor
    · rintro ⟨hv, h⟩
      unfold attB at h
      rw [nth_get (by simpa using hv)] at h
      simp at h
      exact ⟨hu, hv, h⟩
    · rintro ⟨_, hv, h⟩
      refine ⟨hv, ?_⟩
      unfold attB
      rw [nth_get (by simpa using hv)]
      simpa using h
  · constructor
    · rintro ⟨h1, h2⟩
      exfalso
      have h0 : ∀ (l : List (List Bool)) (v : Nat), l.length ≤ v → nth l v = [] := by
        intro l
        induction l with
        | nil => intro v _; cases v <;> rfl
        | cons a l ih => intro v hv; obtain ⟨w, rfl⟩ : ∃ w, v = w + 1 := ⟨v - 1, by simp at hv; omega⟩; exact ih w (by simpa using hv)
      rw [h0 _ u (by rw [attL_len]; omega)] at h1
      simp at h1
    · rintro ⟨h, _⟩; exact absurd h hu
theorem ed_rev {q : GConj} {u v : Nat} (h : ed (attL (revQ q)) u v) : ed (attL q) (q.Atoms.length - 1 - u) (q.Atoms.length - 1 - v) := by
  obtain ⟨h1, h2, h3, h4⟩ := ed_att.1 h
  rw [rev_len] at h1 h2
  exact ed_att.2 ⟨by omega, by omega, rcQ_rev h1 h3, by omega⟩
theorem rch_rev {q : GConj} {u v : Nat} (h : Rch (attL (revQ q)) u v) : Rch (attL q) (q.Atoms.length - 1 - u) (q.Atoms.length - 1 - v) := by
  induction h with
  | refl v => exact Rch.refl _
  | step h1 _ ih => exact Rch.step (ed_rev h1) ih
theorem first_cycle {q : GConj} (h : firstM q = false) : Cycle (attL q) := by
  unfold firstM at h
  have h : (cycAll (attL q) (q.Atoms.length + 1) (List.range q.Atoms.length) (List.replicate q.Atoms.length 0)).1 = true := by simpa using h
  have hn : ∀ v, nth (List.replicate q.Atoms.length (0 : Int)) v = 0 := by
    intro v
    by_cases hv : v < q.Atoms.length
    · rw [nth_get (by simpa using hv)]; simp
    · have : ∀ (n v : Nat), n ≤ v → nth (List.replicate n (0 : Int)) v = 0 := by
        intro n
        induction n with
        | zero => intro v _; cases v <;> rfl
        | succ n ih => intro v hv; obtain ⟨w, rfl⟩ : ∃ w, v = w + 1 := ⟨v - 1, by omega⟩; exact ih w (by omega)
      exact this _ _ (by omega)
  have F : Fits (attL q) (List.replicate q.Atoms.length (0 : Int)) [] := ⟨fun v => by rw [hn]; simp, fun pre v post e => by simp at e, fun v => .inl (hn v)⟩
  refine cycAll_true (attL q) _ _ _ [] F (fun f hf => by rw [List.length_replicate]; exact List.mem_range.1 hf) (fun v g hv => ?_) ?_ (fun v => by rw [hn]; decide) h
  · rw [List.length_replicate]; exact (ed_att.1 hv).2.1
  · unfold zeros
    have := List.count_le_length (a := (0 : Int)) (l := List.replicate q.Atoms.length (0 : Int))
    simp at this ⊢
theorem first_rev {q : GConj} (h : firstM q = true) : firstM (revQ q) = true := by
  cases h2 : firstM (revQ q) with
  | true => rfl
  | false =>
    exfalso
    obtain ⟨u, v, h3, h4⟩ := first_cycle h2
    obtain ⟨fin, T, hall⟩ := first_topo h
    exact no_cycle (attL q) T (fun u v huv => hall u (ed_att.1 huv).1) ⟨_, _, ed_rev h3, rch_rev h4⟩
theorem first_rev_eq {q : GConj} (hq : validQ q = true) : firstM (revQ q) = firstM q := by
  rw [Bool.eq_iff_iff]
  refine ⟨fun h => ?_, first_rev⟩
  have := first_rev h
  rwa [rev_rev hq] at this
theorem fit_rev_eq {q : GConj} (hq : validQ q = true) {facts : List GFact} : fitM (revQ q) facts.reverse = fitM q facts := by
  rw [Bool.eq_iff_iff]
  refine ⟨fun h => ?_, fit_rev⟩
  have := fit_rev h
  rwa [rev_rev hq, List.reverse_reverse] at this
theorem certE_rev {q : GConj} (hq : validQ q = true) (facts : List GFact) : certE (revQ q) facts.reverse = certE q facts := by
  unfold certE; rw [fit_rev_eq hq, first_rev_eq hq]
theorem certB_rev {q : GConj} (hq : validQ q = true) (facts : List GFact) : certB (revQ q) facts.reverse = certB q facts := by
  cases hfit : fitM q facts with
  | false => unfold certB; rw [fit_rev_eq hq, hfit]; rfl
  | true =>
    cases hf : firstM q with
    | false => unfold certB; rw [first_rev_eq hq, hf]; simp
    | true =>
      have hfit2 := fit_rev hfit
      have hf2 := first_rev hf
      rw [Bool.eq_iff_iff, cert_sem hfit hf, cert_sem hfit2 hf2]
      refine ⟨fun h => ?_, sem_rev hq⟩
      have := sem_rev (valid_rev hq) h
      rwa [rev_rev hq, List.reverse_reverse] at this
end Lg

namespace Lg
open Go Go.Proofs


theorem drop_rev {α : Type} [Inhabited α] {l : List α} {m : Nat} (h : m < l.length) : (l.drop m).reverse = (l.drop (m + 1)).reverse ++ [nth l m] := by rw [dropB h, List.reverse_cons]
theorem drop_revM {l : List GAtom} {m : Nat} {n : Int} (h : m < l.length) : ((l.drop m).map (phiA n)).reverse = ((l.drop (m + 1)).map (phiA n)).reverse ++ [phiA n (nth l m)] := by rw [dropB h, List.map_cons, List.reverse_cons]
theorem take_psi {l : List Int} {i : Nat} {n t : Int} (h : i < l.length) (e : t = psi n (nth l i)) : (l.take i).map (psi n) ++ [t] = (l.take (i + 1)).map (psi n) := by rw [takeB h, List.map_append, e]; rfl

set_option maxHeartbeats 4000000 in
theorem RewriteSequence_spec (q : GConj) (facts : List GFact) (hq : q.Atoms.length ≤ 9223372036854775807) : Fun1 Tryz.prog 5 [rConj.ty q, tSl rFact facts] (tV (.bool true)) := by
  refine Spec.enter Tryz.func5 rfl rfl fun h0 w0 fr0 => ?_
  refine J_seq ?_
  refine J_region ?_
  refine JL_step rfl rfl rfl (step_box (R := rConj) Sub.rfl) ?_
  refine JL_step rfl rfl rfl (step_assign Sub.rfl) ?_
  refine JL_nil ?_
  refine J_seq ?_
  refine J_region ?_
  refine JL_step rfl rfl rfl (step_call0 (head_spec) trivial Tryz.call11) ?_
  refine JL_step rfl rfl rfl (step_assign Sub.rfl) ?_
  refine JL_nil ?_
  refine J_seq ?_
  refine J_seq ?_
  refine J_region ?_
  refine JL_step rfl rfl rfl (step_load_ptr ty25 Sub.rfl) ?_
  refine JL_step rfl rfl rfl (step_move Sub.rfl) ?_
  refine JL_step rfl rfl rfl (step_call0 (Small_spec q facts 12 (by omega) hq) ⟨Sub.rfl, Sub.rfl, Sub.rfl, trivial⟩ Tryz.call12) ?_
  refine JL_step rfl rfl rfl (step_not Sub.rfl) ?_
  refine JL_step rfl rfl rfl (step_move Sub.rfl) ?_
  refine JL_stepG rfl rfl rfl (Gd.plain Sub.rfl) rfl rfl (fun hw => step_load_ptr ty25 Sub.rfl) ?_
  refine JL_stepG rfl rfl rfl (Gd.plain Sub.rfl) rfl rfl (fun hw => step_call0 (attackValid_spec q) ⟨(Sub.w hw), trivial⟩ Tryz.call21) ?_
  refine JL_stepG rfl rfl rfl (Gd.plain Sub.rfl) rfl rfl (fun hw => step_not (Sub.w hw)) ?_
  refine JL_step rfl rfl rfl (step_pick_or Sub.rfl Sub.rfl) ?_
  refine JL_nil ?_
  refine J_cond Sub.rfl (fun h27 => ?_) (fun h27 => ?_)
  · try simp only [decide_eq_true_eq, decide_eq_false_iff_not, Bool.and_eq_true, Bool.or_eq_true, Bool.and_eq_false_iff, Bool.or_eq_false_iff, Bool.not_eq_true', Bool.not_eq_false', Int.not_lt, Int.not_le, Bool.not_true, Bool.not_false] at h27
    refine J_seq ?_
    refine J_region ?_
    refine JL_step rfl rfl rfl (step_move Sub.rfl) ?_
    refine JL_step rfl rfl rfl (step_assign Sub.rfl) ?_
    refine JL_nil ?_
    refine J_ret ?_
    refine K_ret1 (t := 4) rfl () Sub.rfl
  · try simp only [decide_eq_true_eq, decide_eq_false_iff_not, Bool.and_eq_true, Bool.or_eq_true, Bool.and_eq_false_iff, Bool.or_eq_false_iff, Bool.not_eq_true', Bool.not_eq_false', Int.not_lt, Int.not_le, Bool.not_true, Bool.not_false] at h27
    obtain ⟨hsm, hv⟩ := h27
    have hsa := small_atoms hsm
    have hsb := small_bd hsm
    have hvb := valid_bounds hv
    refine J_skip ?_
    refine J_seq ?_
    refine J_region ?_
    refine JL_step rfl rfl rfl (step_assign Sub.rfl) ?_
    refine JL_nil ?_
    refine J_seq ?_
    refine J_seq ?_
    refine J_region ?_
    refine JL_step rfl rfl rfl (step_move Sub.rfl) ?_
    refine JL_step rfl rfl rfl (step_len_sl Tryz.underlying26 Sub.rfl) ?_
    refine JL_step rfl rfl rfl (step_sub Sub.rfl Sub.rfl ?sg1) ?_
    case sg1 => unfold in64; omega
    refine JL_step rfl rfl rfl (step_assign Sub.rfl) ?_
    refine JL_nil ?_
    refine J_block ?_
    refine J_loopL (σ := Nat × Value) (fun ⟨k, vl⟩ => k ≤ facts.length) (fun ⟨k, vl⟩ => upd (upd (upd (upd (upd (upd env0 1 (tSl rFact facts)) 2 (tPtr rConj q)) 4 (tV (.bool false))) 5 (tV (.bool true))) 6 (rV.ty vl)) 7 (tV (.int .i64 ((k : Int) - 1)))) (fun ⟨k, vl⟩ => [own 45 rFact vl (facts.drop k).reverse]) (fun ⟨k, vl⟩ => k) (facts.length, .slice none 0 0) (Nat.le_refl _) (SubE.upd Sub.rfl (SubE.upd (Sub.rV rfl) (SubE.upd Sub.rfl (SubE.upd Sub.rfl (SubE.upd Sub.rfl (SubE.upd Sub.rfl SubE.any)))))) (LSub.trans (LSub.nilown (e := 45) (R := rFact)) (LSub.cons (by first | exact .take (.none _) | exact .skip (.take (.none _)) | exact .skip (.skip (.take (.none _))) | exact .skip (.skip (.skip (.take (.none _)))) | exact .skip (.skip (.skip (.skip (.take (.none _)))))) (SPs.of (by simp)) (LSub.nil))) ?_
    rintro ⟨k, vl⟩ hk
    try dsimp only at hk
    refine J_seq ?_
    refine J_seq ?_
    refine J_region ?_
    refine JL_step rfl rfl rfl (step_move Sub.rfl) ?_
    refine JL_step rfl rfl rfl (step_geq Sub.rfl Sub.rfl) ?_
    refine JL_nil ?_
    refine J_cond Sub.rfl (fun h33 => ?_) (fun h33 => ?_)
    · try simp only [decide_eq_true_eq, decide_eq_false_iff_not, Bool.and_eq_true, Bool.or_eq_true, Bool.and_eq_false_iff, Bool.or_eq_false_iff, Bool.not_eq_true', Bool.not_eq_false', Int.not_lt, Int.not_le, Bool.not_true, Bool.not_false] at h33
      obtain ⟨m, rfl⟩ : ∃ m, k = m + 1 := ⟨k - 1, by omega⟩
      have hlt : m < facts.length := by omega
      refine J_skip ?_
      refine J_seq ?_
      refine J_block ?_
      refine J_region ?_
      refine JL_step rfl rfl rfl (step_move Sub.rfl) ?_
      refine JL_step rfl rfl rfl (step_move Sub.rfl) ?_
      refine JL_step rfl rfl rfl (step_move Sub.rfl) ?_
      refine JL_step rfl rfl rfl (step_indexAddr_sl (i := m) Tryz.underlying26 ty45 Sub.rfl Sub.rfl ?sg1 (gb ?sg2)) ?_
      case sg1 => omega
      case sg2 => exact hlt
      refine JL_step rfl rfl rfl (step_load_ptr ty45 Sub.rfl) ?_
      refine JL_step rfl rfl rfl (step_literal (ys := [_]) Tryz.underlying26 el45 ⟨rfl, Sub.rfl, trivial⟩ rfl (by decide)) ?_
      refine JL_stepX rfl rfl rfl (step_append Tryz.underlying26 el45 Sub.rfl Sub.rfl (by first | exact .take (.none _) | exact .skip (.take (.none _)) | exact .skip (.skip (.take (.none _))) | exact .skip (.skip (.skip (.take (.none _)))) | exact .skip (.skip (.skip (.skip (.take (.none _)))))) (by simp; omega) (by simp; omega)) fun u42 => ?_
      refine JL_step rfl rfl rfl (step_assign Sub.rfl) ?_
      refine JL_nil ?_
      refine J_region ?_
      refine JL_step rfl rfl rfl (step_move Sub.rfl) ?_
      refine JL_step rfl rfl rfl (step_sub Sub.rfl Sub.rfl ?sg1) ?_
      case sg1 => unfold in64; omega
      refine JL_step rfl rfl rfl (step_assign Sub.rfl) ?_
      refine JL_nil ?_
      refine K_againL (σ := Nat × Value) (s := (m + 1, vl)) (m, u42) (by first | omega | (dsimp only; omega) | (simp_all; omega)) (by simp; omega) (SubE.upd (Sub.int (by simp)) (SubE.upd Sub.rfl (SubE.upd Sub.rfl (SubE.upd Sub.rfl (SubE.upd Sub.rfl (SubE.upd Sub.rfl SubE.any)))))) (LSub.cons (by first | exact .take (.none _) | exact .skip (.take (.none _)) | exact .skip (.skip (.take (.none _))) | exact .skip (.skip (.skip (.take (.none _)))) | exact .skip (.skip (.skip (.skip (.take (.none _)))))) (SPs.of (by rw [drop_rev hlt])) (LSub.nil))
    · try simp only [decide_eq_true_eq, decide_eq_false_iff_not, Bool.and_eq_true, Bool.or_eq_true, Bool.and_eq_false_iff, Bool.or_eq_false_iff, Bool.not_eq_true', Bool.not_eq_false', Int.not_lt, Int.not_le, Bool.not_true, Bool.not_false] at h33
      obtain rfl : k = 0 := by omega
      refine J_exit ?_
      refine J_seq ?_
      refine K_freeze (t := 6) (A' := tSl rFact facts.reverse) (Sel.take (Sel.none _)) Frz.own ?_
      refine J_region ?_
      refine JL_step rfl rfl rfl (step_fieldAddr so25 Sub.rfl rfl) ?_
      refine JL_step rfl rfl rfl (step_load_ptr ty3 Sub.rfl) ?_
      refine JL_step rfl rfl rfl (step_fieldAddr so25 Sub.rfl rfl) ?_
      refine JL_step rfl rfl rfl (step_load_ptr ty22 Sub.rfl) ?_
      refine JL_step rfl rfl rfl (step_build (x := ((q.Vars, q.Consts, .slice none 0 0) : GCo)) (zs := [[Value.int .i64 0], [Value.slice none 0 0], [Value.slice none 0 0]]) so25W (fun w => Tryz.zeroValue25 w) ⟨Sub.rfl, Sub.rfl, trivial⟩ ⟨⟨Sub.rfl, rfl⟩, ⟨Sub.rfl, rfl⟩, fun _ => ⟨rfl, rfl⟩, trivial⟩) ?_
      refine JL_stepX rfl rfl rfl (step_alloc (R := rStruct fsCo) (z := zCo) (fun w => Tryz.zeroValue25 w) zr25W) fun b8 => ?_
      refine JL_stepU rfl rfl (step_store_box (R := rStruct fsCo) ty25W Sub.rfl Sub.rfl (by first | exact .take (.none _) | exact .skip (.take (.none _)) | exact .skip (.skip (.take (.none _))) | exact .skip (.skip (.skip (.take (.none _)))) | exact .skip (.skip (.skip (.skip (.take (.none _))))))) fun _ => ?_
      refine JL_nil ?_
      refine J_seq ?_
      refine J_seq ?_
      refine J_region ?_
      refine JL_step rfl rfl rfl (step_fieldAddr so25 Sub.rfl rfl) ?_
      refine JL_step rfl rfl rfl (step_load_ptr ty23 Sub.rfl) ?_
      refine JL_step rfl rfl rfl (step_len_sl Tryz.underlying23 Sub.rfl) ?_
      refine JL_step rfl rfl rfl (step_sub Sub.rfl Sub.rfl (by show in64 ((q.Atoms.length : Int) - 1); unfold in64; omega)) ?_
      refine JL_step rfl rfl rfl (step_assign Sub.rfl) ?_
      refine JL_nil ?_
      refine J_block ?_
      refine J_loopL (σ := Nat × Value) (fun ⟨k, va⟩ => k ≤ q.Atoms.length) (fun ⟨k, va⟩ => upd (upd (upd (upd (upd (upd (upd env0 1 (tSl rFact facts)) 2 (tPtr rConj q)) 4 (tV (.bool false))) 5 (tV (.bool true))) 6 (tSl rFact facts.reverse)) 8 (tAt b8 0)) 9 (tV (.int .i64 ((k : Int) - 1)))) (fun ⟨k, va⟩ => [box b8 25 (rStruct fsCo) ((q.Vars, q.Consts, va) : GCo), own 47 rAtom va (((q.Atoms.drop k).map (phiA q.Vars)).reverse)]) (fun ⟨k, va⟩ => k) (q.Atoms.length, .slice none 0 0) (Nat.le_refl _) (SubE.upd Sub.rfl (SubE.upd Sub.rfl (SubE.upd Sub.rfl (SubE.upd Sub.rfl (SubE.upd Sub.rfl (SubE.upd Sub.rfl (SubE.upd Sub.rfl SubE.any))))))) (LSub.trans (LSub.nilown (e := 47) (R := rAtom)) (LSub.cons (by first | exact .take (.none _) | exact .skip (.take (.none _)) | exact .skip (.skip (.take (.none _))) | exact .skip (.skip (.skip (.take (.none _)))) | exact .skip (.skip (.skip (.skip (.take (.none _)))))) (SPs.rfl) (LSub.cons (by first | exact .take (.none _) | exact .skip (.take (.none _)) | exact .skip (.skip (.take (.none _))) | exact .skip (.skip (.skip (.take (.none _)))) | exact .skip (.skip (.skip (.skip (.take (.none _)))))) (SPs.of (by simp)) (LSub.nil)))) ?_
      rintro ⟨k, va⟩ hk2
      try dsimp only at hk2
      refine J_seq ?_
      refine J_seq ?_
      refine J_region ?_
      refine JL_step rfl rfl rfl (step_move Sub.rfl) ?_
      refine JL_step rfl rfl rfl (step_geq Sub.rfl Sub.rfl) ?_
      refine JL_nil ?_
      refine J_cond Sub.rfl (fun h53 => ?_) (fun h53 => ?_)
      · try simp only [decide_eq_true_eq, decide_eq_false_iff_not, Bool.and_eq_true, Bool.or_eq_true, Bool.and_eq_false_iff, Bool.or_eq_false_iff, Bool.not_eq_true', Bool.not_eq_false', Int.not_lt, Int.not_le, Bool.not_true, Bool.not_false] at h53
        obtain ⟨k, rfl⟩ : ∃ m, k = m + 1 := ⟨k - 1, by omega⟩
        have hat : k < q.Atoms.length := by omega
        have hvc := valid_cols hv (nth_mem hat)
        have htl := terms_lt hv (nth_mem hat)
        refine J_skip ?_
        refine J_seq ?_
        refine J_block ?_
        refine J_seq ?_
        refine J_region ?_
        refine JL_step rfl rfl rfl (step_fieldAddr so25 Sub.rfl rfl) ?_
        refine JL_step rfl rfl rfl (step_load_ptr ty23 Sub.rfl) ?_
        refine JL_step rfl rfl rfl (step_move Sub.rfl) ?_
        refine JL_step rfl rfl rfl (step_indexAddr_sl (i := k) Tryz.underlying23 ty47 Sub.rfl Sub.rfl ?sg1 (gb ?sg2)) ?_
        case sg1 => omega
        case sg2 => exact hat
        refine JL_step rfl rfl rfl (step_load_ptr ty47 Sub.rfl) ?_
        refine JL_stepX rfl rfl rfl (step_alloc (fun w => Tryz.zeroValue47 w) zr47) fun b10 => ?_
        refine JL_stepU rfl rfl (step_store_box ty47 Sub.rfl Sub.rfl (by first | exact .take (.none _) | exact .skip (.take (.none _)) | exact .skip (.skip (.take (.none _))) | exact .skip (.skip (.skip (.take (.none _)))) | exact .skip (.skip (.skip (.skip (.take (.none _))))))) fun _ => ?_
        refine JL_nil ?_
        refine J_seq ?_
        refine J_region ?_
        refine JL_step rfl rfl rfl (step_assign Sub.rfl) ?_
        refine JL_nil ?_
        refine J_seq ?_
        refine J_seq ?_
        refine J_region ?_
        refine JL_step rfl rfl rfl (step_assign Sub.rfl) ?_
        refine JL_nil ?_
        refine J_block ?_
        refine J_loopL (σ := Nat × Value) (fun ⟨i, vt⟩ => i ≤ (nth q.Atoms k).Terms.length) (fun ⟨i, vt⟩ => upd (upd (upd (upd (upd (upd (upd (upd (upd (upd env0 1 (tSl rFact facts)) 2 (tPtr rConj q)) 4 (tV (.bool false))) 5 (tV (.bool true))) 6 (tSl rFact facts.reverse)) 8 (tAt b8 0)) 9 (tV (.int .i64 (((k + 1 : Nat) : Int) - 1)))) 10 (tAt b10 0)) 11 (rV.ty vt)) 12 (tV (.int .i64 i))) (fun ⟨i, vt⟩ => [box b10 47 rAtom (nth q.Atoms k), own 3 rInt vt (((nth q.Atoms k).Terms.take i).map (psi q.Vars)), box b8 25 (rStruct fsCo) ((q.Vars, q.Consts, va) : GCo), own 47 rAtom va (((q.Atoms.drop (k + 1)).map (phiA q.Vars)).reverse)]) (fun ⟨i, vt⟩ => (nth q.Atoms k).Terms.length - i) (0, .slice none 0 0) (Nat.zero_le _) (SubE.upd Sub.rfl (SubE.upd (Sub.rV rfl) (SubE.upd Sub.rfl (SubE.upd Sub.rfl (SubE.upd Sub.rfl (SubE.upd Sub.rfl (SubE.upd Sub.rfl (SubE.upd Sub.rfl (SubE.upd Sub.rfl (SubE.upd Sub.rfl SubE.any)))))))))) (LSub.trans (LSub.nilown (e := 3) (R := rInt)) (LSub.cons (by first | exact .take (.none _) | exact .skip (.take (.none _)) | exact .skip (.skip (.take (.none _))) | exact .skip (.skip (.skip (.take (.none _)))) | exact .skip (.skip (.skip (.skip (.take (.none _)))))) (SPs.rfl) (LSub.cons (by first | exact .take (.none _) | exact .skip (.take (.none _)) | exact .skip (.skip (.take (.none _))) | exact .skip (.skip (.skip (.take (.none _)))) | exact .skip (.skip (.skip (.skip (.take (.none _)))))) (SPs.of (by simp)) (LSub.cons (by first | exact .take (.none _) | exact .skip (.take (.none _)) | exact .skip (.skip (.take (.none _))) | exact .skip (.skip (.skip (.take (.none _)))) | exact .skip (.skip (.skip (.skip (.take (.none _)))))) (SPs.rfl) (LSub.cons (by first | exact .take (.none _) | exact .skip (.take (.none _)) | exact .skip (.skip (.take (.none _))) | exact .skip (.skip (.skip (.take (.none _)))) | exact .skip (.skip (.skip (.skip (.take (.none _)))))) (SPs.rfl) (LSub.nil)))))) ?_
        rintro ⟨i, vt⟩ hi
        try dsimp only at hi
        refine J_seq ?_
        refine J_seq ?_
        refine J_region ?_
        refine JL_step rfl rfl rfl (step_move Sub.rfl) ?_
        refine JL_step rfl rfl rfl (step_fieldAddr_own so47 Sub.rfl rfl) ?_
        refine JL_step rfl rfl rfl (step_load_fld ty27 Sub.rfl rfl (by first | exact .take (.none _) | exact .skip (.take (.none _)) | exact .skip (.skip (.take (.none _))) | exact .skip (.skip (.skip (.take (.none _)))) | exact .skip (.skip (.skip (.skip (.take (.none _))))))) ?_
        refine JL_step rfl rfl rfl (step_len_sl Tryz.underlying27 Sub.rfl) ?_
        refine JL_step rfl rfl rfl (step_lss Sub.rfl Sub.rfl) ?_
        refine JL_nil ?_
        refine J_cond Sub.rfl (fun h65 => ?_) (fun h65 => ?_)
        · try simp only [decide_eq_true_eq, decide_eq_false_iff_not, Bool.and_eq_true, Bool.or_eq_true, Bool.and_eq_false_iff, Bool.or_eq_false_iff, Bool.not_eq_true', Bool.not_eq_false', Int.not_lt, Int.not_le, Bool.not_true, Bool.not_false] at h65
          have hit : i < (nth q.Atoms k).Terms.length := by omega
          have htv := htl _ (nth_mem hit)
          refine J_skip ?_
          refine J_seq ?_
          refine J_block ?_
          refine J_seq ?_
          refine J_region ?_
          refine JL_step rfl rfl rfl (step_fieldAddr_own so47 Sub.rfl rfl) ?_
          refine JL_step rfl rfl rfl (step_load_fld ty27 Sub.rfl rfl (by first | exact .take (.none _) | exact .skip (.take (.none _)) | exact .skip (.skip (.take (.none _))) | exact .skip (.skip (.skip (.take (.none _)))) | exact .skip (.skip (.skip (.skip (.take (.none _))))))) ?_
          refine JL_step rfl rfl rfl (step_move Sub.rfl) ?_
          refine JL_step rfl rfl rfl (step_indexAddr_sl (i := i) Tryz.underlying27 ty3 Sub.rfl Sub.rfl ?sg1 (gb ?sg2)) ?_
          case sg1 => rfl
          case sg2 => exact hit
          refine JL_step rfl rfl rfl (step_load_ptr ty3 Sub.rfl) ?_
          refine JL_step rfl rfl rfl (step_assign Sub.rfl) ?_
          refine JL_nil ?_
          refine J_seq ?_
          refine J_seq ?_
          refine J_region ?_
          refine JL_step rfl rfl rfl (step_move Sub.rfl) ?_
          refine JL_step rfl rfl rfl (step_geq Sub.rfl Sub.rfl) ?_
          refine JL_nil ?_
          refine J_cond Sub.rfl (fun h74 => ?_) (fun h74 => ?_)
          · try simp only [decide_eq_true_eq, decide_eq_false_iff_not, Bool.and_eq_true, Bool.or_eq_true, Bool.and_eq_false_iff, Bool.or_eq_false_iff, Bool.not_eq_true', Bool.not_eq_false', Int.not_lt, Int.not_le, Bool.not_true, Bool.not_false] at h74
            refine J_region ?_
            refine JL_step rfl rfl rfl (step_fieldAddr so25 Sub.rfl rfl) ?_
            refine JL_step rfl rfl rfl (step_load_ptr ty3 Sub.rfl) ?_
            refine JL_step rfl rfl rfl (step_sub Sub.rfl Sub.rfl (by show in64 (q.Vars - 1); unfold in64; omega)) ?_
            refine JL_step rfl rfl rfl (step_move Sub.rfl) ?_
            refine JL_step rfl rfl rfl (step_sub Sub.rfl Sub.rfl (by show in64 (q.Vars - 1 - nth (nth q.Atoms k).Terms i); unfold in64; omega)) ?_
            refine JL_step rfl rfl rfl (step_assign Sub.rfl) ?_
            refine JL_nil ?_
            refine J_region ?_
            refine JL_step rfl rfl rfl (step_move Sub.rfl) ?_
            refine JL_step rfl rfl rfl (step_move Sub.rfl) ?_
            refine JL_step rfl rfl rfl (step_literal (ys := [_]) Tryz.underlying27 el3 ⟨rfl, Sub.rfl, trivial⟩ rfl (by decide)) ?_
            refine JL_stepX rfl rfl rfl (step_append Tryz.underlying27 el3 Sub.rfl Sub.rfl (by first | exact .take (.none _) | exact .skip (.take (.none _)) | exact .skip (.skip (.take (.none _))) | exact .skip (.skip (.skip (.take (.none _)))) | exact .skip (.skip (.skip (.skip (.take (.none _)))))) (by simp; omega) (by simp; omega)) fun u83 => ?_
            refine JL_step rfl rfl rfl (step_assign Sub.rfl) ?_
            refine JL_nil ?_
            refine J_region ?_
            refine JL_step rfl rfl rfl (step_move Sub.rfl) ?_
            refine JL_step rfl rfl rfl (step_add Sub.rfl Sub.rfl ?sg1) ?_
            case sg1 => unfold in64; omega
            refine JL_step rfl rfl rfl (step_assign Sub.rfl) ?_
            refine JL_nil ?_
            refine K_againL (σ := Nat × Value) (s := (i, vt)) (i + 1, u83) (by first | omega | (dsimp only; omega) | (simp_all; omega)) hit (SubE.upd Sub.rfl (SubE.upd Sub.rfl (SubE.upd Sub.rfl (SubE.upd Sub.rfl (SubE.upd Sub.rfl (SubE.upd Sub.rfl (SubE.upd Sub.rfl (SubE.upd Sub.rfl (SubE.upd Sub.rfl (SubE.upd Sub.rfl SubE.any)))))))))) (LSub.cons (by first | exact .take (.none _) | exact .skip (.take (.none _)) | exact .skip (.skip (.take (.none _))) | exact .skip (.skip (.skip (.take (.none _)))) | exact .skip (.skip (.skip (.skip (.take (.none _)))))) (SPs.rfl) (LSub.cons (by first | exact .take (.none _) | exact .skip (.take (.none _)) | exact .skip (.skip (.take (.none _))) | exact .skip (.skip (.skip (.take (.none _)))) | exact .skip (.skip (.skip (.skip (.take (.none _)))))) (SPs.of (by rw [take_psi hit (psi_pos h74).symm])) (LSub.cons (by first | exact .take (.none _) | exact .skip (.take (.none _)) | exact .skip (.skip (.take (.none _))) | exact .skip (.skip (.skip (.take (.none _)))) | exact .skip (.skip (.skip (.skip (.take (.none _)))))) (SPs.rfl) (LSub.cons (by first | exact .take (.none _) | exact .skip (.take (.none _)) | exact .skip (.skip (.take (.none _))) | exact .skip (.skip (.skip (.take (.none _)))) | exact .skip (.skip (.skip (.skip (.take (.none _)))))) (SPs.rfl) (LSub.nil)))))
          · try simp only [decide_eq_true_eq, decide_eq_false_iff_not, Bool.and_eq_true, Bool.or_eq_true, Bool.and_eq_false_iff, Bool.or_eq_false_iff, Bool.not_eq_true', Bool.not_eq_false', Int.not_lt, Int.not_le, Bool.not_true, Bool.not_false] at h74
            refine J_skip ?_
            refine J_region ?_
            refine JL_step rfl rfl rfl (step_move Sub.rfl) ?_
            refine JL_step rfl rfl rfl (step_move Sub.rfl) ?_
            refine JL_step rfl rfl rfl (step_literal (ys := [_]) Tryz.underlying27 el3 ⟨rfl, Sub.rfl, trivial⟩ rfl (by decide)) ?_
            refine JL_stepX rfl rfl rfl (step_append Tryz.underlying27 el3 Sub.rfl Sub.rfl (by first | exact .take (.none _) | exact .skip (.take (.none _)) | exact .skip (.skip (.take (.none _))) | exact .skip (.skip (.skip (.take (.none _)))) | exact .skip (.skip (.skip (.skip (.take (.none _)))))) (by simp; omega) (by simp; omega)) fun u83 => ?_
            refine JL_step rfl rfl rfl (step_assign Sub.rfl) ?_
            refine JL_nil ?_
            refine J_region ?_
            refine JL_step rfl rfl rfl (step_move Sub.rfl) ?_
            refine JL_step rfl rfl rfl (step_add Sub.rfl Sub.rfl ?sg1) ?_
            case sg1 => unfold in64; omega
            refine JL_step rfl rfl rfl (step_assign Sub.rfl) ?_
            refine JL_nil ?_
            refine K_againL (σ := Nat × Value) (s := (i, vt)) (i + 1, u83) (by first | omega | (dsimp only; omega) | (simp_all; omega)) hit (SubE.upd Sub.rfl (SubE.upd Sub.rfl (SubE.upd Sub.rfl (SubE.upd Sub.rfl (SubE.upd Sub.rfl (SubE.upd Sub.rfl (SubE.upd Sub.rfl (SubE.upd Sub.rfl (SubE.upd Sub.rfl (SubE.upd Sub.rfl SubE.any)))))))))) (LSub.cons (by first | exact .take (.none _) | exact .skip (.take (.none _)) | exact .skip (.skip (.take (.none _))) | exact .skip (.skip (.skip (.take (.none _)))) | exact .skip (.skip (.skip (.skip (.take (.none _)))))) (SPs.rfl) (LSub.cons (by first | exact .take (.none _) | exact .skip (.take (.none _)) | exact .skip (.skip (.take (.none _))) | exact .skip (.skip (.skip (.take (.none _)))) | exact .skip (.skip (.skip (.skip (.take (.none _)))))) (SPs.of (by rw [take_psi hit (psi_neg h74).symm])) (LSub.cons (by first | exact .take (.none _) | exact .skip (.take (.none _)) | exact .skip (.skip (.take (.none _))) | exact .skip (.skip (.skip (.take (.none _)))) | exact .skip (.skip (.skip (.skip (.take (.none _)))))) (SPs.rfl) (LSub.cons (by first | exact .take (.none _) | exact .skip (.take (.none _)) | exact .skip (.skip (.take (.none _))) | exact .skip (.skip (.skip (.take (.none _)))) | exact .skip (.skip (.skip (.skip (.take (.none _)))))) (SPs.rfl) (LSub.nil)))))
        · try simp only [decide_eq_true_eq, decide_eq_false_iff_not, Bool.and_eq_true, Bool.or_eq_true, Bool.and_eq_false_iff, Bool.or_eq_false_iff, Bool.not_eq_true', Bool.not_eq_false', Int.not_lt, Int.not_le, Bool.not_true, Bool.not_false] at h65
          have hti : (nth q.Atoms k).Terms.take i = (nth q.Atoms k).Terms := List.take_of_length_le (by omega)
          refine J_exit ?_
          refine J_seq ?_
          refine K_freeze (t := 11) (A' := tSl rInt ((nth q.Atoms k).Terms.map (psi q.Vars))) (S := [own 3 rInt vt (((nth q.Atoms k).Terms.take i).map (psi q.Vars))]) (by first | exact .take (.none _) | exact .skip (.take (.none _)) | exact .skip (.skip (.take (.none _))) | exact .skip (.skip (.skip (.take (.none _)))) | exact .skip (.skip (.skip (.skip (.take (.none _)))))) (Frz.own' (by rw [hti])) ?_
          refine J_region ?_
          refine JL_step rfl rfl rfl (step_move Sub.rfl) ?_
          refine JL_step rfl rfl rfl (step_fieldAddr_own so47 Sub.rfl rfl) ?_
          refine JL_stepU rfl rfl (step_store_fld (R := rSl rInt) (z := (nth q.Atoms k).Terms.map (psi q.Vars)) (y := (nth q.Atoms k)) (y' := phiA q.Vars (nth q.Atoms k)) ty27 Sub.rfl Sub.rfl (by first | exact .take (.none _) | exact .skip (.take (.none _)) | exact .skip (.skip (.take (.none _))) | exact .skip (.skip (.skip (.take (.none _)))) | exact .skip (.skip (.skip (.skip (.take (.none _)))))) ⟨rfl, rfl, fun h cs r => r, rfl, by intro g hg; simp at hg; subst hg; rfl⟩) fun _ => ?_
          refine JL_nil ?_
          refine J_region ?_
          refine JL_step rfl rfl rfl (step_fieldAddr_own so25W Sub.rfl rfl) ?_
          refine JL_step rfl rfl rfl (step_load_fld ty23V Sub.rfl rfl (by first | exact .take (.none _) | exact .skip (.take (.none _)) | exact .skip (.skip (.take (.none _))) | exact .skip (.skip (.skip (.take (.none _)))) | exact .skip (.skip (.skip (.skip (.take (.none _))))))) ?_
          refine JL_step rfl rfl rfl (step_load_box ty47 Sub.rfl (by first | exact .take (.none _) | exact .skip (.take (.none _)) | exact .skip (.skip (.take (.none _))) | exact .skip (.skip (.skip (.take (.none _)))) | exact .skip (.skip (.skip (.skip (.take (.none _))))))) ?_
          refine JL_step rfl rfl rfl (step_literal (ys := [_]) Tryz.underlying23 el47 ⟨rfl, Sub.rfl, trivial⟩ rfl (by decide)) ?_
          refine JL_stepX rfl rfl rfl (step_append Tryz.underlying23 el47 Sub.rfl Sub.rfl (by first | exact .take (.none _) | exact .skip (.take (.none _)) | exact .skip (.skip (.take (.none _))) | exact .skip (.skip (.skip (.take (.none _)))) | exact .skip (.skip (.skip (.skip (.take (.none _)))))) (by simp; omega) (by simp; omega)) fun u90 => ?_
          refine JL_step rfl rfl rfl (step_fieldAddr_own so25W Sub.rfl rfl) ?_
          refine JL_stepU rfl rfl (step_store_fld (R := rV) (y := ((q.Vars, q.Consts, va) : GCo)) (y' := ((q.Vars, q.Consts, u90) : GCo)) ty23V Sub.rfl Sub.rfl (by first | exact .take (.none _) | exact .skip (.take (.none _)) | exact .skip (.skip (.take (.none _))) | exact .skip (.skip (.skip (.take (.none _)))) | exact .skip (.skip (.skip (.skip (.take (.none _)))))) ⟨rfl, rfl, fun h cs r => r, rfl, by intro g hg; simp at hg⟩) fun _ => ?_
          refine JL_nil ?_
          refine J_region ?_
          refine JL_step rfl rfl rfl (step_move Sub.rfl) ?_
          refine JL_step rfl rfl rfl (step_sub Sub.rfl Sub.rfl ?sg1) ?_
          case sg1 => unfold in64; omega
          refine JL_step rfl rfl rfl (step_assign Sub.rfl) ?_
          refine JL_nil ?_
          refine K_drop (S := [box b10 47 rAtom (phiA q.Vars (nth q.Atoms k))]) (by first | exact .take (.none _) | exact .skip (.take (.none _)) | exact .skip (.skip (.take (.none _))) | exact .skip (.skip (.skip (.take (.none _)))) | exact .skip (.skip (.skip (.skip (.take (.none _)))))) ?_
          refine K_againL (σ := Nat × Value) (s := (k + 1, va)) (k, u90) (by first | omega | (dsimp only; omega) | (simp_all; omega)) (by simp; omega) (SubE.upd (Sub.int (by simp)) (SubE.upd Sub.rfl (SubE.upd Sub.rfl (SubE.upd Sub.rfl (SubE.upd Sub.rfl (SubE.upd Sub.rfl (SubE.upd Sub.rfl SubE.any))))))) (LSub.cons (by first | exact .take (.none _) | exact .skip (.take (.none _)) | exact .skip (.skip (.take (.none _))) | exact .skip (.skip (.skip (.take (.none _)))) | exact .skip (.skip (.skip (.skip (.take (.none _)))))) (SPs.rfl) (LSub.cons (by first | exact .take (.none _) | exact .skip (.take (.none _)) | exact .skip (.skip (.take (.none _))) | exact .skip (.skip (.skip (.take (.none _)))) | exact .skip (.skip (.skip (.skip (.take (.none _)))))) (SPs.of (by rw [drop_revM hat])) (LSub.nil)))
      · try simp only [decide_eq_true_eq, decide_eq_false_iff_not, Bool.and_eq_true, Bool.or_eq_true, Bool.and_eq_false_iff, Bool.or_eq_false_iff, Bool.not_eq_true', Bool.not_eq_false', Int.not_lt, Int.not_le, Bool.not_true, Bool.not_false] at h53
        obtain rfl : k = 0 := by omega
        refine J_exit ?_
        refine J_seq ?_
        refine K_lsub (L' := [box b8 25 (rStruct fsCo) ((q.Vars, q.Consts, va) : GCo), own 47 rAtom va (revQ q).Atoms]) (LSub.cons (by first | exact .take (.none _) | exact .skip (.take (.none _)) | exact .skip (.skip (.take (.none _))) | exact .skip (.skip (.skip (.take (.none _)))) | exact .skip (.skip (.skip (.skip (.take (.none _)))))) (SPs.rfl) (LSub.cons (by first | exact .take (.none _) | exact .skip (.take (.none _)) | exact .skip (.skip (.take (.none _))) | exact .skip (.skip (.skip (.take (.none _)))) | exact .skip (.skip (.skip (.skip (.take (.none _)))))) (SPs.of rfl) (LSub.nil))) ?_
        refine K_freeze (t := 8) (A' := tPtr rConj (revQ q)) (Sel.take (Sel.take (Sel.none _))) (Frz.up (frz_co rfl)) ?_
        refine J_region ?_
        refine JL_step rfl rfl rfl (step_load_ptr ty25 Sub.rfl) ?_
        refine JL_step rfl rfl rfl (step_move Sub.rfl) ?_
        refine JL_step rfl rfl rfl (step_call0 (Certain_spec q facts (by omega)) ⟨Sub.rfl, Sub.rfl, trivial⟩ Tryz.call14) ?_
        refine JL_step rfl rfl rfl (step_move Sub.rfl) ?_
        refine JL_step rfl rfl rfl (step_extract Sub.rfl rfl) ?_
        refine JL_step rfl rfl rfl (step_extract Sub.rfl rfl) ?_
        refine JL_step rfl rfl rfl (step_assign Sub.rfl) ?_
        refine JL_step rfl rfl rfl (step_assign Sub.rfl) ?_
        refine JL_nil ?_
        refine J_seq ?_
        refine J_region ?_
        refine JL_step rfl rfl rfl (step_load_ptr ty25 Sub.rfl) ?_
        refine JL_step rfl rfl rfl (step_move Sub.rfl) ?_
        refine JL_step rfl rfl rfl (step_call0 (Certain_spec (revQ q) facts.reverse (by simp; omega)) ⟨Sub.rfl, Sub.rfl, trivial⟩ Tryz.call14) ?_
        refine JL_step rfl rfl rfl (step_move Sub.rfl) ?_
        refine JL_step rfl rfl rfl (step_extract Sub.rfl rfl) ?_
        refine JL_step rfl rfl rfl (step_extract Sub.rfl rfl) ?_
        refine JL_step rfl rfl rfl (step_assign Sub.rfl) ?_
        refine JL_step rfl rfl rfl (step_assign Sub.rfl) ?_
        refine JL_nil ?_
        refine J_seq ?_
        refine J_region ?_
        refine JL_step rfl rfl rfl (step_move Sub.rfl) ?_
        refine JL_step rfl rfl rfl (step_move Sub.rfl) ?_
        refine JL_stepG rfl rfl rfl (Gd.plain Sub.rfl) rfl rfl (fun hw => step_move Sub.rfl) ?_
        refine JL_stepG rfl rfl rfl (Gd.plain Sub.rfl) rfl rfl (fun hw => step_move Sub.rfl) ?_
        refine JL_stepG rfl rfl rfl (Gd.plain Sub.rfl) rfl rfl (fun hw => step_eql_bool Tryz.underlying4 (Sub.w hw) (Sub.w hw)) ?_
        refine JL_step rfl rfl rfl (step_pick_and Sub.rfl Sub.rfl) ?_
        refine JL_step rfl rfl rfl (step_move Sub.rfl) ?_
        refine JL_stepG rfl rfl rfl (Gd.plain Sub.rfl) rfl rfl (fun hw => step_move Sub.rfl) ?_
        refine JL_stepG rfl rfl rfl (Gd.plain Sub.rfl) rfl rfl (fun hw => step_move Sub.rfl) ?_
        refine JL_stepG rfl rfl rfl (Gd.plain Sub.rfl) rfl rfl (fun hw => step_eql (Sub.w hw) (Sub.w hw)) ?_
        refine JL_step rfl rfl rfl (step_pick_and Sub.rfl Sub.rfl) ?_
        refine JL_step rfl rfl rfl (step_assign Sub.rfl) ?_
        refine JL_nil ?_
        refine J_ret ?_
        refine K_ret1 (t := 4) rfl () ?_
        refine Sub.bool ?_
        show (true && decide (certB q facts = certB (revQ q) facts.reverse) && decide (certE q facts = certE (revQ q) facts.reverse)) = true
        rw [certB_rev hv, certE_rev hv]; simp
end Lg
