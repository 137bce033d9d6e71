/- Walks and plain laws for the law RewriteMatchesReference, first part. -/
import Derived.Test.YtjenebejjamnjaaGreatDoorG
import Derived.Test.YtjenebejjamnjaaGreatDoorProg
import Derived.Lib.Small
import Derived.Shelf.Abstract
import Derived.Lib.Walk
import Derived.WalkKit
import Derived.Deep.LoopGhost
import Derived.Deep.Draws
import Derived.Sort.Grow
import Derived.Deep.QuietTactic
set_option linter.unusedVariables false
set_option linter.unusedSimpArgs false
set_option linter.unusedSectionVars false
namespace Lg
open Go Go.Proofs Go.Proofs.Tryz
def itoaI (n : Int) : List Int := (Lib.itoa n).map fun c => (c.toNat : Int)
theorem bytes_itoa (n : Int) : bytesOf (itoaB n) = itoaI n := by
  show ((Lib.itoa n).toArray.toList).map _ = _
  simp [itoaI]
theorem nat_inj {a b : UInt8} (h : (a.toNat : Int) = b.toNat) : a = b := UInt8.toNat.inj (by omega)
theorem itoaI_inj {a b : Int} (h : itoaI a = itoaI b) : a = b := by
  have h1 : Lib.itoa a = Lib.itoa b := by
    unfold itoaI at h
    exact List.map_inj_right (fun x y e => nat_inj e) |>.1 h
  have hd := dec_rng a.toNat
  have hd2 := dec_rng b.toNat
  have hn : ∀ {n m : Nat}, Lib.decDigits n ≠ 45 :: Lib.decDigits m := by
    intro n m e
    have := (dec_rng n).1 45 (by rw [e]; simp)
    simp at this
  unfold Lib.itoa at h1
  split at h1 <;> split at h1
  · injection h1 with _ h2
    have := dec_inj h2
    omega
  · exact absurd h1.symm hn
  · exact absurd h1 hn
  · have := dec_inj h1
    omega
theorem itoaI_rng (n : Int) : ∀ c ∈ itoaI n, c = 45 ∨ (48 ≤ c ∧ c ≤ 57) := by
  intro c hc
  unfold itoaI at hc
  obtain ⟨u, hu, rfl⟩ := List.mem_map.1 hc
  unfold Lib.itoa at hu
  split at hu
  · rcases List.mem_cons.1 hu with rfl | hu
    · left; rfl
    · have := (dec_rng _).1 u hu
      right; omega
  · have := (dec_rng _).1 u hu
    right; omega
theorem itoaI_ne (n : Int) : itoaI n ≠ [] := by
  unfold itoaI Lib.itoa
  split
  · simp
  · have := (dec_rng n.toNat).2
    simpa using this
/-- The bytes of a valid value's text. -/
def txL (v : GValue) : List Int := if v.Kind = 1 then 34 :: (escL (bytesOf v.Text) ++ [34]) else if v.Kind = 2 then itoaI v.N else if v.Kind = 3 then 64 :: itoaI v.N else if v.Kind = 4 then (if v.N = 1 then [116, 114, 117, 101] else [102, 97, 108, 115, 101]) else [110, 117, 108, 108]
theorem bytes_of {l : List Int} (h : ∀ x ∈ l, 0 ≤ x ∧ x < 256) : bytesOf (ofBytes l) = l := by
  unfold bytesOf ofBytes
  simp only [List.map_map]
  conv => rhs; rw [← List.map_id l]
  refine List.map_congr_left fun x hx => ?_
  have := h x hx
  simp only [Function.comp, id, UInt8.toNat_ofNat']
  omega
theorem escL_rng {l : List Int} (h : ∀ x ∈ l, 0 ≤ x ∧ x < 256) : ∀ x ∈ escL l, 0 ≤ x ∧ x < 256 := by
  intro x hx
  unfold escL at hx
  obtain ⟨c, hc, hx⟩ := List.mem_flatMap.1 hx
  have := h c hc
  unfold escU at hx
  repeat' split at hx
  all_goals simp at hx; omega
theorem tx_eq {v : GValue} (h : validV v = true) : bytesOf (textV v) = txL v := by
  unfold textV txL
  rw [if_neg (by rw [h]; simp)]
  by_cases h1 : v.Kind = 1
  · rw [if_pos h1, if_pos h1]
    unfold quoteB
    rw [bytesOf_append, bytesOf_append, bytes_of (escL_rng (bytesOf_rng _))]
    rfl
  · rw [if_neg h1, if_neg h1]
    by_cases h2 : v.Kind = 2
    · rw [if_pos h2, if_pos h2]; exact bytes_itoa _
    · rw [if_neg h2, if_neg h2]
      by_cases h3 : v.Kind = 3
      · rw [if_pos h3, if_pos h3, bytesOf_append, bytes_itoa]; rfl
      · rw [if_neg h3, if_neg h3]
        by_cases h4 : v.Kind = 4
        · rw [if_pos h4, if_pos h4]
          by_cases h5 : v.N = 1
          · rw [if_pos h5, decide_eq_true h5]; rfl
          · rw [if_neg h5, decide_eq_false h5]; rfl
        · rw [if_neg h4, if_neg h4]; rfl
theorem bytesOf_inj {a b : ByteArray} (h : bytesOf a = bytesOf b) : a = b := by rw [← ofBytes_bytesOf a, h, ofBytes_bytesOf]
/-- What a valid value is made of. -/
theorem valid_kind {v : GValue} (h : validV v = true) : (v.Kind ≠ 1 → v.Text = ⟨#[]⟩) ∧ (v.Kind = 0 ∨ v.Kind = 1 ∨ v.Kind = 2 ∨ v.Kind = 3 ∨ v.Kind = 4) ∧ (v.Kind = 0 ∨ v.Kind = 1 → v.N = 0) ∧ (v.Kind = 4 → v.N = 0 ∨ v.N = 1) := by
  unfold validV at h
  split at h
  · cases h
  rename_i hn
  refine ⟨fun h1 => Classical.byContradiction fun h2 => hn ⟨h1, h2⟩, ?_⟩
  split at h
  · rename_i h0
    simp at h
    exact ⟨.inl h0, fun _ => by omega, fun e => by omega⟩
  split at h
  · rename_i h1
    split at h
    · cases h
    simp at h
    exact ⟨.inr (.inl h1), fun _ => by omega, fun e => by omega⟩
  split at h
  · rename_i h0 h1 h2
    exact ⟨.inr (.inr (.inl h2)), fun e => by omega, fun e => by omega⟩
  split at h
  · rename_i h0 h1 h2 h3
    exact ⟨.inr (.inr (.inr (.inl h3))), fun e => by omega, fun e => by omega⟩
  split at h
  · rename_i h0 h1 h2 h3 h4
    simp at h
    exact ⟨.inr (.inr (.inr (.inr h4))), fun e => by omega, fun _ => by omega⟩
  · cases h
theorem txL_no {v : GValue} (h1 : v.Kind ≠ 1) : (32 : Int) ∉ txL v ∧ ∃ c r, txL v = c :: r ∧ c ≠ 34 := by
  unfold txL
  rw [if_neg h1]
  by_cases h2 : v.Kind = 2
  · rw [if_pos h2]
    refine ⟨fun hm => by have := itoaI_rng _ _ hm; omega, ?_⟩
    cases e : itoaI v.N with
    | nil => exact absurd e (itoaI_ne _)
    | cons c r => exact ⟨c, r, rfl, by have := itoaI_rng v.N c (by rw [e]; simp); omega⟩
  · rw [if_neg h2]
    by_cases h3 : v.Kind = 3
    · rw [if_pos h3]
      refine ⟨fun hm => ?_, 64, _, rfl, by decide⟩
      rcases List.mem_cons.1 hm with h | h
      · cases h
      · have := itoaI_rng _ _ h; omega
    · rw [if_neg h3]
      by_cases h4 : v.Kind = 4
      · rw [if_pos h4]
        by_cases h5 : v.N = 1
        · rw [if_pos h5]; exact ⟨by decide, 116, _, rfl, by decide⟩
        · rw [if_neg h5]; exact ⟨by decide, 102, _, rfl, by decide⟩
      · rw [if_neg h4]; exact ⟨by decide, 110, _, rfl, by decide⟩
theorem value_ext {v w : GValue} (h1 : v.Kind = w.Kind) (h2 : v.N = w.N) (h3 : v.Text = w.Text) : v = w := by
  cases v; cases w; simp_all
theorem txL_inj {v w : GValue} (hv : validV v = true) (hw : validV w = true) (k1 : v.Kind ≠ 1) (k2 : w.Kind ≠ 1) (h : txL v = txL w) : v = w := by
  obtain ⟨a1, a2, a3, a4⟩ := valid_kind hv
  obtain ⟨b1, b2, b3, b4⟩ := valid_kind hw
  have ht : v.Text = w.Text := by rw [a1 k1, b1 k2]
  have hd : ∀ n : Int, ∀ c r, itoaI n = c :: r → c = 45 ∨ (48 ≤ c ∧ c ≤ 57) := fun n c r e => itoaI_rng n c (by rw [e]; simp)
  unfold txL at h
  rw [if_neg k1, if_neg k2] at h
  rcases a2 with k | k | k | k | k <;> rcases b2 with j | j | j | j | j <;> first | exact absurd k k1 | exact absurd j k2 | skip
  all_goals simp only [k, j] at h
  · exact value_ext (by omega) (by rw [a3 (.inl k), b3 (.inl j)]) ht
  · exfalso; simp at h; have := hd _ _ _ h.symm; omega
  · exfalso; simp at h
  · exfalso; rcases b4 j with e | e <;> simp [e] at h
  · exfalso; simp at h; have := hd _ _ _ h; omega
  · simp at h; exact value_ext (by omega) (itoaI_inj h) ht
  · exfalso; simp at h; have := hd _ _ _ h; omega
  · exfalso; rcases b4 j with e | e <;> simp [e] at h <;> (have := hd _ _ _ h; omega)
  · exfalso; simp at h
  · exfalso; simp at h; have := hd _ _ _ h.symm; omega
  · simp at h; exact value_ext (by omega) (itoaI_inj h) ht
  · exfalso; rcases b4 j with e | e <;> simp [e] at h
  · exfalso; rcases a4 k with e | e <;> simp [e] at h
  · exfalso; rcases a4 k with e | e <;> simp [e] at h <;> (have := hd _ _ _ h.symm; omega)
  · exfalso; rcases a4 k with e | e <;> simp [e] at h
  · rcases a4 k with e | e <;> rcases b4 j with e2 | e2 <;> simp [e, e2] at h <;> exact value_ext (by omega) (by omega) ht
theorem tx_cut {v w : GValue} (hv : validV v = true) (hw : validV w = true) {t t' : List Int} (h : txL v ++ 32 :: t = txL w ++ 32 :: t') : v = w ∧ t = t' := by
  by_cases k1 : v.Kind = 1
  · by_cases k2 : w.Kind = 1
    · unfold txL at h
      rw [if_pos k1, if_pos k2] at h
      simp only [List.cons_append, List.append_assoc, List.nil_append, List.cons.injEq, true_and] at h
      obtain ⟨e1, e2⟩ := esc_cut h
      have := (valid_kind hv).2.2.1 (.inr k1)
      have := (valid_kind hw).2.2.1 (.inr k2)
      simp at e2
      exact ⟨value_ext (by omega) (by omega) (bytesOf_inj e1), e2⟩
    · obtain ⟨_, c, r, e, hc⟩ := txL_no k2
      rw [e] at h
      unfold txL at h
      rw [if_pos k1] at h
      simp at h
      exact absurd h.1.symm hc
  · by_cases k2 : w.Kind = 1
    · obtain ⟨_, c, r, e, hc⟩ := txL_no k1
      rw [e] at h
      unfold txL at h
      rw [if_pos k2] at h
      simp at h
      exact absurd h.1 hc
    · obtain ⟨e1, e2⟩ := cut_at (txL_no k1).1 (txL_no k2).1 h
      exact ⟨txL_inj hv hw k1 k2 e1, e2⟩
open Go Go.Proofs Go.Proofs.Tryz
def valAt (a : GAtom) (f : GFact) (k : Nat) : GValue := nth f.Row (nth a.Cols k).toNat
def keyL (vs : List GValue) : List Int := vs.flatMap fun v => txL v ++ [32]
theorem keyL_inj : ∀ {vs ws : List GValue}, vs.length = ws.length → (∀ v ∈ vs, validV v = true) → (∀ v ∈ ws, validV v = true) → keyL vs = keyL ws → vs = ws
  | [], [], _, _, _, _ => rfl
  | v :: vs, w :: ws, hl, hv, hw, h => by
    simp only [keyL, List.flatMap_cons, List.append_assoc, List.cons_append, List.nil_append] at h
    obtain ⟨e1, e2⟩ := tx_cut (hv v (by simp)) (hw w (by simp)) h
    rw [e1, keyL_inj (vs := vs) (ws := ws) (by simpa using hl) (fun x hx => hv x (by simp [hx])) (fun x hx => hw x (by simp [hx])) e2]
  | [], _ :: _, hl, _, _, _ => by simp at hl
  | _ :: _, [], hl, _, _, _ => by simp at hl
theorem key_bytes {a : GAtom} {f : GFact} : ∀ {k : Nat}, (∀ j, j < k → validV (valAt a f j) = true) → bytesOf (keyB a f k) = keyL ((List.range k).map (valAt a f))
  | 0, _ => rfl
  | k + 1, h => by
    have ih := key_bytes (a := a) (f := f) (k := k) fun j hj => h j (by omega)
    simp only [keyB, bytesOf_append]
    rw [ih, List.range_succ, List.map_append, show textV (nth f.Row (nth a.Cols k).toNat) = textV (valAt a f k) from rfl, tx_eq (h k (by omega))]
    simp only [keyL, List.flatMap_append, List.map_cons, List.map_nil, List.flatMap_cons, List.flatMap_nil, List.append_nil, List.append_assoc]
    rfl
theorem key_inj {a : GAtom} {f g : GFact} (hf : FitF a f) (hg : FitF a g) {k : Nat} (hk : k ≤ a.Cols.length) (h : keyB a f k = keyB a g k) : ∀ j, j < k → valAt a f j = valAt a g j := by
  have hv : ∀ j, j < k → validV (valAt a f j) = true := fun j hj => (hf j (by omega)).2.2
  have hw : ∀ j, j < k → validV (valAt a g j) = true := fun j hj => (hg j (by omega)).2.2
  have h1 : keyL ((List.range k).map (valAt a f)) = keyL ((List.range k).map (valAt a g)) := by rw [← key_bytes hv, ← key_bytes hw, h]
  have h2 := keyL_inj (by simp) (fun v hv' => by
    obtain ⟨j, hj, rfl⟩ := List.mem_map.1 hv'
    exact hv j (List.mem_range.1 hj)) (fun v hv' => by
    obtain ⟨j, hj, rfl⟩ := List.mem_map.1 hv'
    exact hw j (List.mem_range.1 hj)) h1
  intro j hj
  have h3 := congrArg (fun l => l[j]?) h2
  simpa [hj] using h3
theorem key_congr {a : GAtom} {f g : GFact} : ∀ {k : Nat}, (∀ j, j < k → valAt a f j = valAt a g j) → keyB a f k = keyB a g k
  | 0, _ => rfl
  | k + 1, h => by
    simp only [keyB]
    rw [key_congr fun j hj => h j (by omega), show nth f.Row (nth a.Cols k).toNat = nth g.Row (nth a.Cols k).toNat from h k (by omega)]
/-! The relation of the law, and keys. -/
theorem sameL_f {f g : GFact} {i : Nat} : ∀ {l : List GAtom}, (∀ a ∈ l, tabs f g a = true → sameA a f g = false) → sameL f g l = false
  | [], _ => rfl
  | a :: l, h1 => by
    unfold sameL
    by_cases ht : tabs f g a = true
    · rw [if_pos ht]; exact h1 a (by simp) ht
    · rw [if_neg ht]; exact sameL_f (i := i) fun c hc => h1 c (by simp [hc])
theorem sameA_iff {a : GAtom} {f g : GFact} (hf : FitF a f) (hg : FitF a g) (hk : a.Key ≤ a.Cols.length) : sameA a f g = true ↔ keyB a f a.Key.toNat = keyB a g a.Key.toNat := by
  unfold sameA
  rw [rall_iff]
  constructor
  · intro h
    refine key_congr fun j hj => ?_
    have h1 := h j (by omega)
    rw [decide_eq_true (by omega : (j : Int) < a.Key)] at h1
    unfold cAt at h1
    simp only [Bool.not_true, Bool.false_or, Bool.and_eq_true, decide_eq_true_eq] at h1
    exact h1.2
  · intro h k hk2
    by_cases hlt : (k : Int) < a.Key
    · have h1 := key_inj hf hg (by omega) h k (by omega)
      have h2 := hf k hk2
      have h3 := hg k hk2
      unfold cAt
      rw [decide_eq_true h2.1, decide_eq_true h2.2.1, decide_eq_true h3.2.1, decide_eq_true (p := nth f.Row (nth a.Cols k).toNat = nth g.Row (nth a.Cols k).toNat) h1]
      simp
    · rw [decide_eq_false hlt]; rfl
theorem same_iff {q : GConj} {facts : List GFact} (hfit : fitM q facts = true) {f g : GFact} (hf : f ∈ facts) (hg : g ∈ facts) {i : Nat} (hi : i < q.Atoms.length) (tf : f.Table = (nth q.Atoms i).Table) (tg : g.Table = (nth q.Atoms i).Table) :
    sameM q f g = true ↔ keyB (nth q.Atoms i) f (nth q.Atoms i).Key.toNat = keyB (nth q.Atoms i) g (nth q.Atoms i).Key.toNat := by
  have hq := fit_valid hfit
  have hsa := sameA_iff (fit_fact hfit hf hi tf) (fit_fact hfit hg hi tg) (valid_cols hq (nth_mem hi)).2.2.2.1
  have huniq : ∀ a ∈ q.Atoms, tabs f g a = true → a = nth q.Atoms i := by
    intro a ha ht
    obtain ⟨j, hj, rfl⟩ := List.getElem_of_mem ha
    unfold tabs at ht
    simp only [Bool.and_eq_true, decide_eq_true_eq] at ht
    rw [← nth_get hj] at ht ⊢
    rw [valid_inj hq hj hi (ht.1.trans tf)]
  rw [← hsa]
  constructor
  · intro h
    cases hc : sameA (nth q.Atoms i) f g with
    | true => rfl
    | false =>
      have : sameM q f g = false := sameL_f (i := 0) fun a ha ht => by rw [huniq a ha ht]; exact hc
      rw [this] at h; cases h
  · intro h
    exact sameL_t (fun a ha ht => by rw [huniq a ha ht]; exact h) ⟨_, nth_mem hi, by unfold tabs; rw [tf, tg]; simp⟩
theorem sameL_tab {f g : GFact} : ∀ {l : List GAtom}, sameL f g l = true → ∃ a ∈ l, a.Table = f.Table ∧ a.Table = g.Table
  | [], h => by cases h
  | a :: l, h => by
    unfold sameL at h
    by_cases ht : tabs f g a = true
    · unfold tabs at ht
      simp only [Bool.and_eq_true, decide_eq_true_eq] at ht
      exact ⟨a, by simp, ht⟩
    · rw [if_neg ht] at h
      obtain ⟨b, hb, h2⟩ := sameL_tab h
      exact ⟨b, by simp [hb], h2⟩
theorem same_tab {q : GConj} {f g : GFact} (h : sameM q f g = true) : ∃ i, i < q.Atoms.length ∧ f.Table = (nth q.Atoms i).Table ∧ g.Table = (nth q.Atoms i).Table := by
  obtain ⟨a, ha, h1, h2⟩ := sameL_tab h
  obtain ⟨i, hi, rfl⟩ := List.getElem_of_mem ha
  exact ⟨i, hi, by rw [nth_get hi]; exact h1.symm, by rw [nth_get hi]; exact h2.symm⟩
/-! Groups -/
abbrev kyF (a : GAtom) (f : GFact) : ByteArray := keyB a f a.Key.toNat
def inG (a : GAtom) (k : ByteArray) (g : GFact) : Bool := decide (g.Table = a.Table) && decide (kyF a g = k)
def grpF (a : GAtom) (l : List GFact) (f : GFact) : List GFact := l.filter (inG a (kyF a f))
structure BlkI (a : GAtom) (l : List GFact) (m : List (ByteArray × List GFact)) : Prop where
  nd : (m.map (·.1)).Nodup
  gt : ∀ k, (mget m k).getD [] = l.filter (inG a k)
  ne : ∀ b ∈ m, b.2 ≠ []
theorem BlkI.step {a : GAtom} {l : List GFact} {m : List (ByteArray × List GFact)} (h : BlkI a l m) (f : GFact) : BlkI a (l ++ [f]) (if f.Table = a.Table then bput m (kyF a f) f else m) := by
  by_cases ht : f.Table = a.Table
  · rw [if_pos ht]
    unfold bput
    refine ⟨?_, fun k => ?_, fun b hb => ?_⟩
    · rw [mput_keys]
      split
      · exact h.nd
      · rename_i hn
        rw [List.nodup_append]
        exact ⟨h.nd, by simp, fun x hx y hy => by simp at hy; subst hy; exact fun e => hn (e ▸ hx)⟩
    · rw [mget_mput, List.filter_append]
      by_cases e : k = kyF a f
      · subst e
        rw [if_pos rfl, Option.getD_some, h.gt]
        congr 1
        simp [inG, ht]
      · rw [if_neg e, h.gt]
        have : inG a k f = false := by unfold inG; rw [decide_eq_false (p := kyF a f = k) (fun q => e q.symm), Bool.and_false]
        simp [this]
    · rcases mem_mputG hb with e | hb
      · subst e; simp
      · exact h.ne b hb
  · rw [if_neg ht]
    refine ⟨h.nd, fun k => ?_, h.ne⟩
    rw [List.filter_append, h.gt]
    simp [inG, ht]
theorem blk_inv (a : GAtom) (l : List GFact) : BlkI a l (blkM a l) := by
  have : ∀ (l l0 : List GFact) (m : List (ByteArray × List GFact)), BlkI a l0 m → BlkI a (l0 ++ l) (l.foldl (fun m f => if f.Table = a.Table then bput m (keyB a f a.Key.toNat) f else m) m) := by
    intro l
    induction l with
    | nil => intro l0 m h; simpa using h
    | cons f l ih =>
      intro l0 m h
      have := ih (l0 ++ [f]) _ (h.step f)
      simpa [List.append_assoc] using this
  exact this l [] [] ⟨by simp, fun k => rfl, fun b hb => by cases hb⟩
theorem blk_grp (a : GAtom) (l : List GFact) (x : List GFact) : (∃ b ∈ blkM a l, b.2 = x) ↔ ∃ f ∈ l, f.Table = a.Table ∧ x = grpF a l f := by
  have h := blk_inv a l
  constructor
  · rintro ⟨⟨k, y⟩, hb, rfl⟩
    have h1 := (mget_mem h.nd).2 hb
    have h2 := h.gt k
    rw [h1, Option.getD_some] at h2
    have h3 := h.ne _ hb
    show ∃ f ∈ l, f.Table = a.Table ∧ y = grpF a l f
    cases e : y with
    | nil => exact absurd e h3
    | cons f r =>
      have hm : f ∈ l.filter (inG a k) := by rw [← h2, e]; simp
      obtain ⟨hm1, hm2⟩ := List.mem_filter.1 hm
      unfold inG at hm2
      simp only [Bool.and_eq_true, decide_eq_true_eq] at hm2
      refine ⟨f, hm1, hm2.1, ?_⟩
      unfold grpF
      rw [hm2.2, ← e, h2]
  · rintro ⟨f, hf, ht, rfl⟩
    have h2 := h.gt (kyF a f)
    cases e : mget (blkM a l) (kyF a f) with
    | none =>
      rw [e] at h2
      have : f ∈ l.filter (inG a (kyF a f)) := List.mem_filter.2 ⟨hf, by unfold inG; simp [ht]⟩
      rw [← h2] at this; cases this
    | some y =>
      rw [e, Option.getD_some] at h2
      exact ⟨_, (mget_mem h.nd).1 e, h2⟩
theorem grpF_self {a : GAtom} {l : List GFact} {f : GFact} (hf : f ∈ l) (ht : f.Table = a.Table) : f ∈ grpF a l f := List.mem_filter.2 ⟨hf, by unfold inG; simp [ht]⟩
theorem mem_grpF {a : GAtom} {l : List GFact} {f g : GFact} : g ∈ grpF a l f ↔ g ∈ l ∧ g.Table = a.Table ∧ kyF a g = kyF a f := by
  unfold grpF inG
  rw [List.mem_filter]
  simp
/-! Certainty over groups -/
def grps (a : GAtom) (facts : List GFact) : List (List (List (Bnd GValue))) := (blkM a facts).map fun b => b.2.map (bnd a)
theorem map_range' {α β : Type} [Inhabited α] (F : α → β) (l : List α) : (List.range' 0 l.length).map (fun i => F (nth l i)) = l.map F := by
  apply List.ext_getElem
  · simp
  · intro i h1 h2
    have : i < l.length := by simpa using h2
    simp [nth_get this]
theorem certM_grps (q : GConj) (facts : List GFact) : certM (rwM q facts) 0 [] = certL (eqT q) ((sortedM q).map fun a => grps a facts) [] := by
  unfold certM
  congr 1
  show (List.range' 0 ((sortedM q).length - 0)).map (grpM (rwM q facts)) = _
  rw [Nat.sub_zero, ← map_range' (fun a => grps a facts) (sortedM q)]
  refine List.map_congr_left fun i hi => ?_
  have hlt : i < (sortedM q).length := by
    obtain ⟨j, hj, e⟩ := List.mem_range'.1 hi
    omega
  unfold grpM grps
  have : nth (rwM q facts).blocks i = some (blkM (nth (sortedM q) i) facts) := by
    rw [nth_get (by unfold rwM; simpa using hlt)]
    unfold rwM
    simp [nth_get hlt]
  rw [this]; rfl
def CertQ (q : GConj) (facts : List GFact) : Prop := CertP (eqT q) ((sortedM q).map fun a => grps a facts) []
theorem cert_iff {q : GConj} {facts : List GFact} (hfit : fitM q facts = true) (hf : firstM q = true) : certB q facts = true ↔ CertQ q facts := by
  unfold certB CertQ
  rw [hfit, hf, certM_grps]
  simp only [Bool.true_and]
  exact certL_iff (eqT q) _ (okB_nil (eqT q))
theorem all2_map {α β γ : Type} {p : β → γ → Prop} {F : α → β} {G : α → γ} : ∀ {l : List α}, (∀ a ∈ l, p (F a) (G a)) → All2 p (l.map F) (l.map G)
  | [], _ => .nil
  | a :: l, h => .cons (h a (by simp)) (all2_map fun b hb => h b (by simp [hb]))
theorem sorted_mem {q : GConj} {a : GAtom} (hf : firstM q = true) (h : a ∈ sortedM q) : ∃ i, i < q.Atoms.length ∧ a = nth q.Atoms i := by
  unfold sortedM at h
  obtain ⟨i, hi, rfl⟩ := List.mem_map.1 h
  exact ⟨i, (sorted_ok hf).2.lt i hi, rfl⟩
/-! A further fact -/
open Go Go.Proofs Go.Proofs.Tryz
end Lg
namespace Lg
open Go Go.Proofs Go.Proofs.Tryz
theorem full_range {ord : List Nat} {n : Nat} (hd : ord.Nodup) (hl : ∀ i ∈ ord, i < n) (h : ord.length = n) : ord.Perm (List.range n) := by
  refine range_perm hd hl fun i hi => Classical.byContradiction fun hn => ?_
  have := nodup_le (l := i :: ord) (n := n) (List.nodup_cons.2 ⟨hn, hd⟩) (fun x hx => by
    rcases List.mem_cons.1 hx with rfl | hx
    · exact hi
    · exact hl x hx)
  simp at this; omega
theorem nth_map_range {α : Type} [Inhabited α] (l : List α) : (List.range l.length).map (nth l) = l := by
  apply List.ext_getElem
  · simp
  · intro i h1 h2
    simp [nth_get h2]
theorem sorted_perm {q : GConj} (hf : firstM q = true) : (sortedM q).Perm q.Atoms := by
  obtain ⟨h1, h2⟩ := sorted_ok hf
  have h3 := (full_range h2.nd h2.lt h1).map (nth q.Atoms)
  rw [nth_map_range] at h3
  exact h3
def tabL (a : GAtom) (l : List GFact) : List GFact := l.filter fun f => decide (f.Table = a.Table)
/-! Representatives -/
open Go Go.Proofs Go.Proofs.Tryz
def candA (facts : List GFact) (set : List Int) (a : GAtom) : List GFact := set.filterMap fun (j : Int) => if 0 ≤ j ∧ j < facts.length ∧ (nth facts j.toNat).Table = a.Table then some (nth facts j.toNat) else none
def cfS (facts : List GFact) (set : List Int) (a : GAtom) : List (List (Bnd GValue)) := (candA facts set a).map (bnd a)
theorem holds_set {q : GConj} {facts : List GFact} (hfit : fitM q facts = true) (set : List Int) : holdsM q facts set = true ↔ HoldP (eqT q) (q.Atoms.map (cfS facts set)) [] := by
  unfold holdsM holdB
  rw [hfit, Bool.true_and]
  have e : (List.range' 0 (q.Atoms.length - 0)).map (fun i => (candF q facts set i).map (bnd (nth q.Atoms i))) = q.Atoms.map (cfS facts set) := by
    rw [Nat.sub_zero, ← map_range' (cfS facts set) q.Atoms]
    rfl
  rw [e]
  exact holdL_iff (eqT q) _ (okB_nil (eqT q))
theorem least {P : Nat → Prop} {n : Nat} (h : P n) : ∃ m, m ≤ n ∧ P m ∧ ∀ k, k < m → ¬ P k := by
  induction n using Nat.strongRecOn with
  | _ n ih =>
    by_cases h2 : ∃ k, k < n ∧ P k
    · obtain ⟨k, hk, hp⟩ := h2
      obtain ⟨m, hm, h3⟩ := ih k hk hp
      exact ⟨m, by omega, h3⟩
    · exact ⟨n, Nat.le_refl _, h, fun k hk hp => h2 ⟨k, hk, hp⟩⟩
open Go Go.Proofs Go.Proofs.Tryz
abbrev vlsA (a : GAtom) (f : GFact) : List GValue := ((bnd a f).map (·.2)).take a.Key.toNat
theorem vls_get {a : GAtom} {f : GFact} {j : Nat} (hj : j < a.Key.toNat) (hk : a.Key.toNat ≤ a.Terms.length) : (vlsA a f)[j]? = some (valAt a f j) := by
  have : j < a.Terms.length := by omega
  simp [vlsA, bnd, List.getElem?_take, hj, this, valAt]
theorem vls_none {a : GAtom} {f : GFact} {j : Nat} (hj : ¬ j < a.Key.toNat) : (vlsA a f)[j]? = none := by
  simp [vlsA, List.getElem?_take, hj]
theorem vls_iff {a : GAtom} {f g : GFact} (hf : FitF a f) (hg : FitF a g) (hk : a.Key ≤ a.Cols.length) (ht : a.Terms.length = a.Cols.length) : vlsA a f = vlsA a g ↔ kyF a f = kyF a g := by
  have hkt : a.Key.toNat ≤ a.Terms.length := by omega
  constructor
  · intro h
    refine key_congr fun j hj => ?_
    have h1 := vls_get (f := f) hj hkt
    rw [h, vls_get hj hkt] at h1
    exact (Option.some.inj h1).symm
  · intro h
    have h1 := key_inj hf hg (by omega) h
    apply List.ext_getElem?
    intro j
    by_cases hj : j < a.Key.toNat
    · rw [vls_get hj hkt, vls_get hj hkt, h1 j hj]
    · rw [vls_none hj, vls_none hj]
theorem vls_fit {q : GConj} {facts : List GFact} (hfit : fitM q facts = true) {i : Nat} (hi : i < q.Atoms.length) {f g : GFact} (hf : f ∈ facts) (hg : g ∈ facts) (tf : f.Table = (nth q.Atoms i).Table) (tg : g.Table = (nth q.Atoms i).Table) :
    vlsA (nth q.Atoms i) f = vlsA (nth q.Atoms i) g ↔ kyF (nth q.Atoms i) f = kyF (nth q.Atoms i) g :=
  have h := valid_cols (fit_valid hfit) (nth_mem hi)
  vls_iff (fit_fact hfit hf hi tf) (fit_fact hfit hg hi tg) h.2.2.2.1 h.2.1
def ChA (facts : List GFact) (L : List GAtom) (c : GAtom → List GValue → GFact) : Prop := ∀ a ∈ L, ∀ f ∈ facts, f.Table = a.Table → c a (vlsA a f) ∈ facts ∧ (c a (vlsA a f)).Table = a.Table ∧ vlsA a (c a (vlsA a f)) = vlsA a f
def cfC (facts : List GFact) (c : GAtom → List GValue → GFact) (a : GAtom) : List (List (Bnd GValue)) := (tabL a facts).map fun f => bnd a (c a (vlsA a f))
def SemP (T : EqT GValue) (L : List GAtom) (facts : List GFact) : Prop := ∀ c, ChA facts L c → HoldP T (L.map (cfC facts c)) []
theorem mem_tabL {a : GAtom} {l : List GFact} {f : GFact} : f ∈ tabL a l ↔ f ∈ l ∧ f.Table = a.Table := by
  unfold tabL; rw [List.mem_filter]; simp
theorem cert_sem1 {q : GConj} {facts : List GFact} (hfit : fitM q facts = true) (hf : firstM q = true) (h : CertQ q facts) : SemP (eqT q) q.Atoms facts := by
  intro c hc
  refine HoldP_perm (eqT q) ((sorted_perm hf).map _) ?_
  refine Cert_hold (eqT q) (all2_map fun a ha => ?_) h
  obtain ⟨i, hi, rfl⟩ := sorted_mem hf ha
  intro b hb
  obtain ⟨b0, hb0, rfl⟩ := List.mem_map.1 hb
  obtain ⟨f, hf1, hf2, hf3⟩ := (blk_grp (nth q.Atoms i) facts b0.2).1 ⟨b0, hb0, rfl⟩
  obtain ⟨h1, h2, h3⟩ := hc _ (nth_mem hi) f hf1 hf2
  exact ⟨bnd (nth q.Atoms i) (c (nth q.Atoms i) (vlsA (nth q.Atoms i) f)), List.mem_map.2 ⟨_, by rw [hf3, mem_grpF]; exact ⟨h1, h2, (vls_fit hfit hi h1 hf1 h2 hf2).1 h3⟩, rfl⟩, List.mem_map.2 ⟨f, mem_tabL.2 ⟨hf1, hf2⟩, rfl⟩⟩
/-! The other way, by the theorem on the rewriting. -/
def qyL (L : List GAtom) : Qy GValue GFact := ⟨L.length, fun i => (nth L i).Terms, fun i => (nth L i).Key.toNat, fun i f => bnd (nth L i) f⟩
theorem bnd_fst (a : GAtom) (f : GFact) : (bnd a f).map (·.1) = a.Terms := by
  unfold bnd
  rw [List.map_map]
  exact nth_map_range a.Terms
theorem atoms_nodup {q : GConj} (hq : validQ q = true) : q.Atoms.Nodup := by
  refine List.pairwise_iff_getElem.2 fun i j hi hj hlt e => ?_
  exact valid_dist hq hlt hj (by rw [nth_get hi, nth_get hj, e])
theorem nodup_nth {α : Type} [Inhabited α] {l : List α} (h : l.Nodup) {i j : Nat} (hi : i < l.length) (hj : j < l.length) (e : nth l i = nth l j) : i = j := by
  rw [nth_get hi, nth_get hj] at e
  have hp := List.pairwise_iff_getElem.1 h
  rcases Nat.lt_trichotomy i j with h1 | h1 | h1
  · exact absurd e (hp i j hi hj h1)
  · exact h1
  · exact absurd e.symm (hp j i hj hi h1)
theorem pick_fn {α β : Type} [Inhabited α] [Inhabited β] {F : α → List β} : ∀ {L : List α} {fs : List β}, Pick (L.map F) fs → fs.length = L.length ∧ ∀ i, i < L.length → nth fs i ∈ F (nth L i)
  | [], [], _ => ⟨rfl, fun i hi => by simp at hi⟩
  | [], _ :: _, h => by cases h
  | _ :: _, [], h => by cases h
  | a :: L, f :: fs, ⟨h1, h2⟩ => by
    obtain ⟨h3, h4⟩ := pick_fn h2
    refine ⟨by simp [h3], fun i hi => ?_⟩
    match i, hi with
    | 0, _ => exact h1
    | i + 1, hi => exact h4 i (by simpa using hi)
theorem srt_nth {q : GConj} {i : Nat} (hi : i < (sortedI q).length) : nth (sortedM q) i = nth q.Atoms (nth (sortedI q) i) := by
  unfold sortedM
  rw [nth_get (by simpa using hi), List.getElem_map, nth_get hi]
theorem cl_from {q : GConj} (hf : firstM q = true) {G : Nat} (hG : G < (sortedI q).length) {t : Int} (h : ClV q ((nth (sortedI q) G : Nat) : Int) (keyT q (nth (sortedI q) G)) t) : Cl (qyL (sortedM q)) G t := by
  obtain ⟨h1, h2⟩ := sorted_ok hf
  induction h with
  | base h => exact Cl.base (by show _ ∈ (nth (sortedM q) G).Terms.take (nth (sortedM q) G).Key.toNat; rw [srt_nth hG]; exact h)
  | @step H t hl hw hk ht ih =>
    have hm : H ∈ sortedI q := (full_range h2.nd h2.lt h1).mem_iff.2 (List.mem_range.2 hl)
    obtain ⟨j, hj, e⟩ := List.getElem_of_mem hm
    have e : nth (sortedI q) j = H := by rw [nth_get hj, e]
    subst e
    refine Cl.step (H := j) (by show j < (sortedM q).length; unfold sortedM; simpa using hj) (fun e => hw (by rw [e])) (fun t' ht' h0 => ?_) (by show _ ∈ (nth (sortedM q) j).Terms; rw [srt_nth hj]; exact ht)
    refine ih t' ?_ h0
    have ht' : t' ∈ (nth (sortedM q) j).Terms.take (nth (sortedM q) j).Key.toNat := ht'
    rw [srt_nth hj] at ht'
    exact ht'
theorem rc_to {q : GConj} (hf : firstM q = true) {G K : Nat} (hG : G < (sortedI q).length) (h : Rc (qyL (sortedM q)) G K) : RcQ q (nth (sortedI q) G) (nth (sortedI q) K) := by
  obtain ⟨h1, h2⟩ := sorted_ok hf
  have hlen : (sortedM q).length = (sortedI q).length := by unfold sortedM; simp
  induction h with
  | refl => exact RcQ.refl
  | @step H K t hr hH hK t1 t2 h0 hn ih =>
    have hH : H < (sortedI q).length := by rw [← hlen]; exact hH
    have hK : K < (sortedI q).length := by rw [← hlen]; exact hK
    have t1 : t ∈ (nth (sortedM q) H).Terms := t1
    have t2 : t ∈ (nth (sortedM q) K).Terms := t2
    rw [srt_nth hH] at t1
    rw [srt_nth hK] at t2
    exact RcQ.step ih (h2.lt _ (nth_mem hH)) (h2.lt _ (nth_mem hK)) t1 t2 h0 fun hc => hn (cl_from hf hG hc)
open Classical in
theorem att_no {q : GConj} {k i : Nat} (hk : k < q.Atoms.length) (hi : i < q.Atoms.length) (hne : i ≠ k) (h : nth (nth (attL q) k) i = false) : ¬ RcQ q k i := by
  intro hr
  rw [attL_nth q hk] at h
  unfold attB at h
  rw [nth_get (by simpa using hi)] at h
  simp at h
  exact hne (h hr)
theorem no_rc {q : GConj} (hf : firstM q = true) {i j : Nat} (hij : i < j) (hj : j < (sortedI q).length) : ¬ Rc (qyL (sortedM q)) j i := by
  intro h
  obtain ⟨h1, h2⟩ := sorted_ok hf
  have hi : i < (sortedI q).length := by omega
  have hr := rc_to hf hj h
  have hd : nth (sortedI q) j ∉ (sortedI q).take i := by
    intro hm
    obtain ⟨k, hk, e⟩ := List.getElem_of_mem hm
    have hk2 : k < i := by simp at hk; omega
    rw [List.getElem_take] at e
    have := nodup_nth h2.nd (i := k) (j := j) (by omega) hj (by rw [nth_get (by omega), e])
    omega
  have hs : sortedI q = (sortedI q).take i ++ nth (sortedI q) i :: (sortedI q).drop (i + 1) := by
    rw [← dropB hi, List.take_append_drop]
  have h3 := h2.top _ _ _ hs (nth (sortedI q) j) (h2.lt _ (nth_mem hj)) hd
  refine att_no (h2.lt _ (nth_mem hj)) (h2.lt _ (nth_mem hi)) (fun e => ?_) h3 hr
  have := nodup_nth h2.nd hi hj e
  omega
open Classical in
theorem cert_sem2 {q : GConj} {facts : List GFact} (hfit : fitM q facts = true) (hf : firstM q = true) (h : SemP (eqT q) q.Atoms facts) : CertQ q facts := by
  have hq := fit_valid hfit
  have hp := sorted_perm hf
  have hnd : (sortedM q).Nodup := hp.nodup_iff.2 (atoms_nodup hq)
  have hln : (sortedM q).length = (sortedI q).length := by unfold sortedM; simp
  have hat : ∀ i, i < (sortedM q).length → ∃ j, j < q.Atoms.length ∧ nth (sortedM q) i = nth q.Atoms j := fun i hi => by
    have := sorted_mem hf (nth_mem hi)
    exact this
  have hg : ∀ i, i < (qyL (sortedM q)).n → Grp (Q := qyL (sortedM q)) i (tabL (nth (sortedM q) i) facts) ((blkM (nth (sortedM q) i) facts).map (·.2)) := by
    intro i hi
    obtain ⟨j, hj, ej⟩ := hat i hi
    refine ⟨fun b hb => ?_, fun f hf1 => ?_⟩
    · obtain ⟨b0, hb0, e0⟩ := List.mem_map.1 hb
      obtain ⟨f, hf1, hf2, hf3⟩ := (blk_grp _ facts b).1 ⟨b0, hb0, e0⟩
      refine ⟨f, mem_tabL.2 ⟨hf1, hf2⟩, fun g => ?_⟩
      rw [hf3, mem_grpF, mem_tabL]
      constructor
      · rintro ⟨g1, g2, g3⟩
        refine ⟨⟨g1, g2⟩, ?_⟩
        show vlsA (nth (sortedM q) i) g = vlsA (nth (sortedM q) i) f
        rw [ej] at g2 g3 hf2 ⊢
        exact (vls_fit hfit hj g1 hf1 g2 hf2).2 g3
      · rintro ⟨⟨g1, g2⟩, g3⟩
        have g3 : vlsA (nth (sortedM q) i) g = vlsA (nth (sortedM q) i) f := g3
        refine ⟨g1, g2, ?_⟩
        rw [ej] at g2 g3 hf2 ⊢
        exact (vls_fit hfit hj g1 hf1 g2 hf2).1 g3
    · obtain ⟨hf1, hf2⟩ := mem_tabL.1 hf1
      obtain ⟨b0, hb0, e0⟩ := (blk_grp _ facts _).2 ⟨f, hf1, hf2, rfl⟩
      exact ⟨b0.2, List.mem_map.2 ⟨b0, hb0, rfl⟩, by rw [e0]; exact grpF_self hf1 hf2⟩
  have hall : Alls (eqT q) (qyL (sortedM q)) (fun i => tabL (nth (sortedM q) i) facts) := by
    intro c hc
    let cA : GAtom → List GValue → GFact := fun a k => if h : ∃ i, i < (sortedM q).length ∧ nth (sortedM q) i = a then c (Classical.choose h) k else default
    have hcA : ∀ i, i < (sortedM q).length → ∀ k, cA (nth (sortedM q) i) k = c i k := by
      intro i hi k
      have he : ∃ j, j < (sortedM q).length ∧ nth (sortedM q) j = nth (sortedM q) i := ⟨i, hi, rfl⟩
      show (if h : ∃ j, j < (sortedM q).length ∧ nth (sortedM q) j = nth (sortedM q) i then c (Classical.choose h) k else default) = _
      rw [dif_pos he]
      rw [nodup_nth hnd (Classical.choose_spec he).1 hi (Classical.choose_spec he).2]
    have hch : ChA facts q.Atoms cA := by
      intro a ha f hf1 hf2
      obtain ⟨i, hi, e⟩ := List.getElem_of_mem (hp.mem_iff.2 ha)
      have e : nth (sortedM q) i = a := by rw [nth_get hi, e]
      subst e
      rw [hcA i hi]
      obtain ⟨h1, h2⟩ := hc i hi f (mem_tabL.2 ⟨hf1, hf2⟩)
      exact ⟨(mem_tabL.1 h1).1, (mem_tabL.1 h1).2, h2⟩
    have h2 := HoldP_perm (eqT q) (hp.symm.map _) (h cA hch)
    obtain ⟨fs, hpk, hok⟩ := (HoldP_iff (eqT q) _ (okB_nil (eqT q))).1 h2
    obtain ⟨hl, hpf⟩ := pick_fn hpk
    have hex : ∀ i, ∃ f, i < (sortedM q).length → f ∈ tabL (nth (sortedM q) i) facts ∧ bnd (nth (sortedM q) i) (c i (vlsA (nth (sortedM q) i) f)) = nth fs i := by
      intro i
      by_cases hi : i < (sortedM q).length
      · obtain ⟨f, hf1, hf2⟩ := List.mem_map.1 (hpf i hi)
        rw [hcA i hi] at hf2
        exact ⟨f, fun _ => ⟨hf1, hf2⟩⟩
      · exact ⟨default, fun h => absurd h hi⟩
    let g : Nat → GFact := fun i => Classical.choose (hex i)
    have hgs : ∀ i, i < (sortedM q).length → g i ∈ tabL (nth (sortedM q) i) facts ∧ bnd (nth (sortedM q) i) (c i (vlsA (nth (sortedM q) i) (g i))) = nth fs i := fun i hi => Classical.choose_spec (hex i) hi
    refine ⟨fun i => c i (vlsA (nth (sortedM q) i) (g i)), fun i hi => ?_, okP_iff.2 ?_⟩
    · obtain ⟨h3, h4⟩ := hc i hi (g i) (hgs i hi).1
      refine ⟨h3, ?_⟩
      have h4 : key (qyL (sortedM q)) i (c i (vlsA (nth (sortedM q) i) (g i))) = vlsA (nth (sortedM q) i) (g i) := h4
      rw [h4]
    · have e : (List.range (qyL (sortedM q)).n).map (fun i => (qyL (sortedM q)).b i (c i (vlsA (nth (sortedM q) i) (g i)))) = fs := by
        rw [← nth_map_range fs]
        show (List.range (sortedM q).length).map _ = _
        rw [hl]
        exact List.map_congr_left fun i hi => (hgs i (List.mem_range.1 hi)).2
      rw [e]
      simpa using hok
  have hc := cert_complete (T := eqT q) (Q := qyL (sortedM q)) (eqT_eq q) (fun i f => bnd_fst _ f) (fun i => tabL (nth (sortedM q) i) facts) (fun i => (blkM (nth (sortedM q) i) facts).map (·.2)) hg (fun i j hij hj => no_rc hf hij (by rw [← hln]; exact hj)) hall
  unfold CertQ
  have e : (sortedM q).map (fun a => grps a facts) = (List.range (qyL (sortedM q)).n).map fun i => ((blkM (nth (sortedM q) i) facts).map (·.2)).map fun b => b.map ((qyL (sortedM q)).b i) := by
    conv => lhs; rw [← nth_map_range (sortedM q)]
    rw [List.map_map]
    refine List.map_congr_left fun i hi => ?_
    show grps _ _ = _
    unfold grps
    rw [List.map_map]; rfl
  rw [e]
  exact hc
theorem cert_sem {q : GConj} {facts : List GFact} (hfit : fitM q facts = true) (hf : firstM q = true) : certB q facts = true ↔ SemP (eqT q) q.Atoms facts := by
  rw [cert_iff hfit hf]
  exact ⟨cert_sem1 hfit hf, cert_sem2 hfit hf⟩
open Go Go.Proofs Go.Proofs.Tryz
theorem nth_map {α β : Type} [Inhabited α] [Inhabited β] (f : α → β) {l : List α} {i : Nat} (h : i < l.length) : nth (l.map f) i = f (nth l i) := by
  rw [nth_get (by simpa using h), List.getElem_map, nth_get h]
/-! Attacks -/
open Classical in
theorem ed_att {q : GConj} {u v : Nat} : ed (attL q) u v ↔ u < q.Atoms.length ∧ v < q.Atoms.length ∧ RcQ q u v ∧ v ≠ u := by
  rw [ed_iff]
  by_cases hu : u < q.Atoms.length
  · rw [attL_nth q hu, attB_len]
    constructor
    · rintro ⟨hv, h⟩
      unfold attB at h
      rw [nth_get (by simpa using hv)] at h
      simp at h
      exact ⟨hu, hv, h⟩
    · rintro ⟨_, hv, h⟩
      refine ⟨hv, ?_⟩
      unfold attB
      rw [nth_get (by simpa using hv)]
      simpa using h
  · constructor
    · rintro ⟨h1, h2⟩
      exfalso
      have h0 : ∀ (l : List (List Bool)) (v : Nat), l.length ≤ v → nth l v = [] := by
        intro l
        induction l with
        | nil => intro v _; cases v <;> rfl
        | cons a l ih => intro v hv; obtain ⟨w, rfl⟩ : ∃ w, v = w + 1 := ⟨v - 1, by simp at hv; omega⟩; exact ih w (by simpa using hv)
      rw [h0 _ u (by rw [attL_len]; omega)] at h1
      simp at h1
    · rintro ⟨h, _⟩; exact absurd h hu
theorem first_cycle {q : GConj} (h : firstM q = false) : Cycle (attL q) := by
  unfold firstM at h
  have h : (cycAll (attL q) (q.Atoms.length + 1) (List.range q.Atoms.length) (List.replicate q.Atoms.length 0)).1 = true := by simpa using h
  have hn : ∀ v, nth (List.replicate q.Atoms.length (0 : Int)) v = 0 := by
    intro v
    by_cases hv : v < q.Atoms.length
    · rw [nth_get (by simpa using hv)]; simp
    · have : ∀ (n v : Nat), n ≤ v → nth (List.replicate n (0 : Int)) v = 0 := by
        intro n
        induction n with
        | zero => intro v _; cases v <;> rfl
        | succ n ih => intro v hv; obtain ⟨w, rfl⟩ : ∃ w, v = w + 1 := ⟨v - 1, by omega⟩; exact ih w (by omega)
      exact this _ _ (by omega)
  have F : Fits (attL q) (List.replicate q.Atoms.length (0 : Int)) [] := ⟨fun v => by rw [hn]; simp, fun pre v post e => by simp at e, fun v => .inl (hn v)⟩
  refine cycAll_true (attL q) _ _ _ [] F (fun f hf => by rw [List.length_replicate]; exact List.mem_range.1 hf) (fun v g hv => ?_) ?_ (fun v => by rw [hn]; decide) h
  · rw [List.length_replicate]; exact (ed_att.1 hv).2.1
  · unfold zeros
    have := List.count_le_length (a := (0 : Int)) (l := List.replicate q.Atoms.length (0 : Int))
    simp at this ⊢
open Go Go.Proofs Go.Proofs.Tryz
def idxL {α : Type} [DecidableEq α] (l : List α) (v : α) : Nat := l.findIdx fun x => decide (x = v)
theorem idx_is {α : Type} [DecidableEq α] [Inhabited α] {l : List α} {v : α} {i : Nat} (hi : i < l.length) (h : nth l i = v) (hb : ∀ j, j < i → nth l j ≠ v) : idxL l v = i := by
  unfold idxL
  rw [List.findIdx_eq hi]
  refine ⟨by rw [← nth_get hi]; simpa using h, fun j hj => ?_⟩
  have := hb j hj
  rw [nth_get (by omega)] at this
  simpa using this
theorem idx_no {α : Type} [DecidableEq α] [Inhabited α] {l : List α} {v : α} (hb : ∀ j, j < l.length → nth l j ≠ v) : idxL l v = l.length := by
  unfold idxL
  rw [List.findIdx_eq_length]
  intro x hx
  obtain ⟨j, hj, rfl⟩ := List.getElem_of_mem hx
  have := hb j hj
  rw [nth_get hj] at this
  simpa using this
theorem idx_self {α : Type} [DecidableEq α] [Inhabited α] {l : List α} {i : Nat} (hi : i < l.length) : decide (idxL l (nth l i) = i) = !((l.take i).any fun x => decide (nth l i = x)) := by
  by_cases h : ∃ j, j < i ∧ nth l j = nth l i
  · obtain ⟨m, hm, ⟨hm1, hm2⟩, hmin⟩ : ∃ m, m ≤ i ∧ (m < i ∧ nth l m = nth l i) ∧ ∀ k, k < m → ¬ (k < i ∧ nth l k = nth l i) := by
      obtain ⟨j, hj⟩ := h
      obtain ⟨m, h1, h2, h3⟩ := least (P := fun m => m < i ∧ nth l m = nth l i) (n := j) hj
      exact ⟨m, by omega, h2, h3⟩
    have e : idxL l (nth l i) = m := idx_is (by omega) hm2 fun j hj he => hmin j hj ⟨by omega, he⟩
    rw [e, decide_eq_false (by omega)]
    have : (l.take i).any (fun x => decide (nth l i = x)) = true := by
      rw [List.any_eq_true]
      exact ⟨nth l m, by
        have := nth_mem (l := l.take i) (i := m) (by rw [List.length_take]; omega)
        rwa [nth_take hm1] at this, by simpa using hm2.symm⟩
    rw [this]; rfl
  · have e : idxL l (nth l i) = i := idx_is hi rfl fun j hj he => h ⟨j, hj, he⟩
    rw [e, decide_eq_true rfl]
    have : (l.take i).any (fun x => decide (nth l i = x)) = false := by
      rw [List.any_eq_false]
      intro x hx
      obtain ⟨j, hj, rfl⟩ := List.getElem_of_mem hx
      have hji : j < i := by simp at hj; omega
      rw [List.getElem_take, ← nth_get (by omega)]
      simpa using fun he => h ⟨j, hji, he.symm⟩
    rw [this]; rfl
/-- Which atom speaks of a table. -/
def atomI (q : GConj) (t : Int) : Int := if idxL (q.Atoms.map (·.Table)) t < q.Atoms.length then (idxL (q.Atoms.map (·.Table)) t : Int) else -1
theorem atomI_is {q : GConj} {t : Int} {i : Nat} (hi : i < q.Atoms.length) (h : (nth q.Atoms i).Table = t) (hb : ∀ j, j < i → (nth q.Atoms j).Table ≠ t) : atomI q t = i := by
  have e : idxL (q.Atoms.map (·.Table)) t = i := idx_is (by simpa using hi) (by rw [nth_map _ hi]; exact h) fun j hj => by rw [nth_map _ (by omega)]; exact hb j hj
  unfold atomI
  rw [e, if_pos hi]
theorem atomI_no {q : GConj} {t : Int} (hb : ∀ j, j < q.Atoms.length → (nth q.Atoms j).Table ≠ t) : atomI q t = -1 := by
  have e : idxL (q.Atoms.map (·.Table)) t = q.Atoms.length := by
    rw [idx_no fun j hj => by rw [List.length_map] at hj; rw [nth_map _ hj]; exact hb j hj, List.length_map]
  unfold atomI
  rw [e, if_neg (Nat.lt_irrefl _)]
theorem atomI_cases (q : GConj) (t : Int) : (∃ i, i < q.Atoms.length ∧ (nth q.Atoms i).Table = t ∧ atomI q t = i) ∨ ((∀ j, j < q.Atoms.length → (nth q.Atoms j).Table ≠ t) ∧ atomI q t = -1) := by
  by_cases h : ∃ j, j < q.Atoms.length ∧ (nth q.Atoms j).Table = t
  · obtain ⟨j, hj⟩ := h
    obtain ⟨m, h1, h2, h3⟩ := least (P := fun m => m < q.Atoms.length ∧ (nth q.Atoms m).Table = t) (n := j) hj
    exact .inl ⟨m, h2.1, h2.2, atomI_is h2.1 h2.2 fun k hk he => h3 k hk ⟨by omega, he⟩⟩
  · have h : ∀ j, j < q.Atoms.length → (nth q.Atoms j).Table ≠ t := fun j hj he => h ⟨j, hj, he⟩
    exact .inr ⟨h, atomI_no h⟩
set_option maxHeartbeats 1000000 in
theorem refValidV_spec (v : GValue) : Fun1 prog 62 [rValue.ty v] (tV (.bool (validV v))) := by
 refine Spec.enter func62 rfl rfl fun h0 w0 fr0 => ?_
 refine Jr (Js rfl (step_box (R := rValue) Sr) (Ja rfl (JL_nil (J_seq (Jr ?_)))))
 refine Js rfl (step_fieldAddr so58 Sr rfl) (Jl rfl ty3 Sr (JL_nil (J_block (Jr (Js rfl (step_eql Sr Sr) ?_)))))
 refine Ja rfl (JL_nil ?_)
 refine J_cond Sr (fun k0 => ?_) (fun k0 => ?_)
 ·
  try simp only [NF] at k0
  refine Jr (Js rfl (step_fieldAddr so58 Sr rfl) (Jl rfl ty3 Sr (Js rfl (step_eql Sr Sr) (Jm rfl (Jg rfl Sr rfl (fun hw => step_fieldAddr so58 Sr rfl) ?_)))))
  refine Jg rfl Sr rfl (fun hw => step_load_ptr ty9 (Sub.w hw)) (Jg rfl Sr rfl (fun hw => step_eql_str (Sub.w hw) Sr) (Js rfl (step_pick_and Sr Sr) (Ja rfl (JL_nil (J_ret ?_)))))
  refine K_ret1' (rv := .tmp 2) rfl () (Sel.all _) (.tmp Sr) (Frz.sub (Sub.bool ?_))
  rw [Bool.eq_iff_iff]
  by_cases ht : v.Text = ⟨#[]⟩ <;> simp [validV, *] <;> omega
 try simp only [NF] at k0
 refine Jr (Js rfl (step_eql Sr Sr) (Ja rfl (JL_nil ?_)))
 refine J_cond Sr (fun k1 => ?_) (fun k1 => ?_)
 ·
  try simp only [NF] at k1
  refine Jr (Js rfl (step_fieldAddr so58 Sr rfl) (Jl rfl ty3 Sr (Js rfl (step_eql Sr Sr) (Jm rfl (Jg rfl Sr rfl (fun hw => step_fieldAddr so58 Sr rfl) ?_)))))
  refine Jg rfl Sr rfl (fun hw => step_load_ptr ty9 (Sub.w hw)) (Jg rfl Sr rfl (fun hw => step_len_str underlying9 (Sub.w hw)) (Jg rfl Sr rfl (fun hw => step_leq (Sub.w hw) Sr) (Js rfl (step_pick_and Sr Sr) (Ja rfl (JL_nil ?_)))))
  refine J_ret ?_
  refine K_ret1' (rv := .tmp 2) rfl () (Sel.all _) (.tmp Sr) (Frz.sub (Sub.bool ?_))
  rw [Bool.eq_iff_iff]
  by_cases ht : v.Text = ⟨#[]⟩ <;> simp [validV, *] <;> omega
 try simp only [NF] at k1
 refine Jr (Js rfl (step_eql Sr Sr) (Ja rfl (JL_nil ?_)))
 refine J_cond Sr (fun k2 => ?_) (fun k2 => ?_)
 ·
  try simp only [NF] at k2
  refine Jr (Js rfl (step_fieldAddr so58 Sr rfl) (Jl rfl ty3 Sr (Js rfl (step_geq Sr Sr) (Jm rfl (Jg rfl Sr rfl (fun hw => step_fieldAddr so58 Sr rfl) ?_)))))
  refine Jg rfl Sr rfl (fun hw => step_load_ptr ty3 (Sub.w hw)) (Jg rfl Sr rfl (fun hw => step_leq (Sub.w hw) Sr) (Js rfl (step_pick_and Sr Sr) (Jm rfl (Jg rfl Sr rfl (fun hw => step_fieldAddr so58 Sr rfl) (Jg rfl Sr rfl (fun hw => step_load_ptr ty9 (Sub.w hw)) ?_)))))
  refine Jg rfl Sr rfl (fun hw => step_eql_str (Sub.w hw) Sr) (Js rfl (step_pick_and Sr Sr) (Ja rfl (JL_nil (J_ret ?_))))
  refine K_ret1' (rv := .tmp 2) rfl () (Sel.all _) (.tmp Sr) (Frz.sub (Sub.bool ?_))
  rw [Bool.eq_iff_iff]
  by_cases ht : v.Text = ⟨#[]⟩ <;> simp [validV, *] <;> omega
 try simp only [NF] at k2
 refine Jr (Js rfl (step_eql Sr Sr) (Ja rfl (JL_nil ?_)))
 refine J_cond Sr (fun k3 => ?_) (fun k3 => ?_)
 ·
  try simp only [NF] at k3
  refine Jr (Js rfl (step_fieldAddr so58 Sr rfl) (Jl rfl ty3 Sr (Js rfl (step_geq Sr Sr) (Jm rfl (Jg rfl Sr rfl (fun hw => step_fieldAddr so58 Sr rfl) ?_)))))
  refine Jg rfl Sr rfl (fun hw => step_load_ptr ty3 (Sub.w hw)) (Jg rfl Sr rfl (fun hw => step_leq (Sub.w hw) Sr) (Js rfl (step_pick_and Sr Sr) (Jm rfl (Jg rfl Sr rfl (fun hw => step_fieldAddr so58 Sr rfl) (Jg rfl Sr rfl (fun hw => step_load_ptr ty9 (Sub.w hw)) ?_)))))
  refine Jg rfl Sr rfl (fun hw => step_eql_str (Sub.w hw) Sr) (Js rfl (step_pick_and Sr Sr) (Ja rfl (JL_nil (J_ret ?_))))
  refine K_ret1' (rv := .tmp 2) rfl () (Sel.all _) (.tmp Sr) (Frz.sub (Sub.bool ?_))
  rw [Bool.eq_iff_iff]
  by_cases ht : v.Text = ⟨#[]⟩ <;> simp [validV, *] <;> omega
 try simp only [NF] at k3
 refine Jr (Js rfl (step_eql Sr Sr) (Ja rfl (JL_nil ?_)))
 refine J_cond Sr (fun k4 => ?_) (fun k4 => ?_)
 ·
  try simp only [NF] at k4
  refine Jr (Js rfl (step_fieldAddr so58 Sr rfl) (Jl rfl ty3 Sr (Js rfl (step_eql Sr Sr) (Jm rfl (Jg rfl Sr rfl (fun hw => step_fieldAddr so58 Sr rfl) ?_)))))
  refine Jg rfl Sr rfl (fun hw => step_load_ptr ty3 (Sub.w hw)) (Jg rfl Sr rfl (fun hw => step_eql (Sub.w hw) Sr) (Js rfl (step_pick_or Sr Sr) (Jm rfl (Jg rfl Sr rfl (fun hw => step_fieldAddr so58 Sr rfl) (Jg rfl Sr rfl (fun hw => step_load_ptr ty9 (Sub.w hw)) ?_)))))
  refine Jg rfl Sr rfl (fun hw => step_eql_str (Sub.w hw) Sr) (Js rfl (step_pick_and Sr Sr) (Ja rfl (JL_nil (J_ret ?_))))
  refine K_ret1' (rv := .tmp 2) rfl () (Sel.all _) (.tmp Sr) (Frz.sub (Sub.bool ?_))
  rw [Bool.eq_iff_iff]
  by_cases ht : v.Text = ⟨#[]⟩ <;> simp [validV, *] <;> omega
 try simp only [NF] at k4
 refine J_skip (Jr (Ja rfl (JL_nil (J_ret ?_))))
 refine K_ret1' (rv := .tmp 2) rfl () (Sel.all _) (.tmp Sr) (Frz.sub (Sub.bool ?_))
 rw [Bool.eq_iff_iff]
 by_cases ht : v.Text = ⟨#[]⟩ <;> simp [validV, *] <;> omega
theorem refIndex_spec (l : List GValue) (v : GValue) (hl : l.length ≤ 1000000000000) : Fun1 prog 97 [tSl rValue l, rValue.ty v] (tV (.int .i64 (idxL l v))) := by
 refine Spec.enter func97 rfl rfl fun h0 w0 fr0 => ?_
 refine Jr (Js rfl (step_box (R := rValue) Sr) (Ja rfl (JL_nil (J_seq (Jr ?_)))))
 refine Ja rfl (JL_nil (J_block ?_))
 refine J_loopL (σ := Nat) (fun i => i ≤ l.length ∧ ∀ j, j < i → nth l j ≠ v) (fun i => upd (upd (upd env0 0 (tSl rValue l)) 3 (tPtr rValue v)) 5 (tV (.int .i64 i))) (fun i => []) (fun i => l.length - i) 0 ⟨Nat.zero_le _, fun k hk => by omega⟩ (.u (.u (SubE.upd Sr SubE.any))) (LSub.rfl) ?_
 rintro i ⟨hi, hv⟩
 refine J_seq (Jr (Jm rfl (Jm rfl (Js rfl (step_len_sl underlying22 Sr) (Js rfl (step_lss Sr Sr) ?_)))))
 refine JL_nil ?_
 refine J_cond Sr (fun h9 => ?_) (fun h9 => ?_)
 ·
  try simp only [NF] at h9
  have hlt : i < l.length := by omega
  refine J_skip (J_seq (J_block (J_seq ?_)))
  refine J_draw [⟨0, [0], true⟩, ⟨1, [5], true⟩, ⟨2, [12, 13], true⟩, ⟨3, [14], true⟩, ⟨4, [3], true⟩, ⟨5, [15, 16], true⟩] rfl (by kernel_rfl) ?_
  refine Mv rfl rfl (Mv rfl rfl ?_)
  refine Mf rfl rfl (step_indexAddr_sl (i := i) underlying22 ty58 Sr Sr (by rfl) (gb (by exact hlt))) ?_
  refine Mf rfl rfl (step_load_ptr ty58 Sr) (Mf rfl rfl (step_load_ptr ty58 Sr) (Mf rfl rfl (step_eql_val Sr Sr) (JM_nil ?_)))
  refine J_cond Sr (fun h17 => ?_) (fun h17 => ?_)
  ·
   try simp only [NF] at h17
   refine Jr (Jm rfl (Ja rfl (JL_nil (J_ret ?_))))
   refine K_ret1 (t := 4) rfl () (Sub.int (by rw [idx_is hlt h17 hv]))
  try simp only [NF] at h17
  refine J_skip (J_region (Jm rfl (Js rfl (step_add Sr Sr z6) (Ja rfl (JL_nil ?_)))))
  refine K_againL (σ := Nat) (s := i) (i + 1) zO ?_ (.u (.u (SubE.upd Sr SubE.any))) (LSub.rfl)
  refine ⟨by omega, fun j hj => ?_⟩
  by_cases e : j = i
  ·
   subst e; exact h17
  exact hv j zG
 try simp only [NF] at h9
 refine J_exit (Jr (Jm rfl (Js rfl (step_len_sl underlying22 Sr) (Ja rfl (JL_nil ?_)))))
 refine J_ret ?_
 refine K_ret1 (t := 4) rfl () (Sub.int (by rw [idx_no fun j hj => hv j zG]))
theorem refAtom_spec (q : GConj) (t : Int) (hl : q.Atoms.length ≤ 1000000000000) : Fun1 prog 45 [rConj.ty q, tV (.int .i64 t)] (tV (.int .i64 (atomI q t))) := by
 refine Spec.enter func45 rfl rfl fun h0 w0 fr0 => ?_
 refine Jr (Js rfl (step_box (R := rConj) Sr) (Ja rfl (JL_nil (J_seq (Jr ?_)))))
 refine Ja rfl (JL_nil (J_block ?_))
 refine J_loopL (σ := Nat) (fun i => i ≤ q.Atoms.length ∧ ∀ j, j < i → (nth q.Atoms j).Table ≠ t) (fun i => upd (upd (upd env0 1 (tV (.int .i64 t))) 2 (tPtr rConj q)) 5 (tV (.int .i64 i))) (fun i => []) (fun i => q.Atoms.length - i) 0 ⟨Nat.zero_le _, fun k hk => by omega⟩ (.u (.u (SubE.upd Sr SubE.any))) (LSub.rfl) ?_
 rintro i ⟨hi, hv⟩
 refine J_seq (Jr (Jm rfl (Js rfl (step_fieldAddr so25 Sr rfl) (Jl rfl ty23 Sr (Js rfl (step_len_sl underlying23 Sr) ?_)))))
 refine Js rfl (step_lss Sr Sr) (JL_nil ?_)
 refine J_cond Sr (fun h10 => ?_) (fun h10 => ?_)
 ·
  try simp only [NF] at h10
  have hlt : i < q.Atoms.length := by omega
  refine J_skip (J_seq (J_block (Jr (Js rfl (step_fieldAddr so25 Sr rfl) (Jl rfl ty23 Sr ?_)))))
  refine Jm rfl ?_
  refine Js rfl (step_indexAddr_sl (i := i) underlying23 ty47 Sr Sr (by rfl) (gb (by exact hlt))) ?_
  refine Js rfl (step_fieldAddr so47 Sr rfl) (Jl rfl ty3 Sr (Jm rfl (Js rfl (step_eql Sr Sr) (JL_nil ?_))))
  refine J_cond Sr (fun h20 => ?_) (fun h20 => ?_)
  ·
   try simp only [NF] at h20
   refine Jr (Jm rfl (Ja rfl (JL_nil (J_ret ?_))))
   refine K_ret1 (t := 4) rfl () (Sub.int (by rw [atomI_is hlt h20 hv]))
  try simp only [NF] at h20
  refine J_skip (J_region (Jm rfl (Js rfl (step_add Sr Sr z6) (Ja rfl (JL_nil ?_)))))
  refine K_againL (σ := Nat) (s := i) (i + 1) zO ?_ (.u (.u (SubE.upd Sr SubE.any))) (LSub.rfl)
  refine ⟨by omega, fun j hj => ?_⟩
  by_cases e : j = i
  ·
   subst e; exact h20
  exact hv j zG
 try simp only [NF] at h10
 refine J_exit (Jr (Ja rfl (JL_nil (J_ret ?_))))
 refine K_ret1 (t := 4) rfl () (Sub.int (by rw [atomI_no fun j hj => hv j zG]))
open Go Go.Proofs Go.Proofs.Tryz
theorem any_take_t {α : Type} [Inhabited α] {l : List α} {p : α → Bool} {j i : Nat} (hj : j < i) (hi : i ≤ l.length) (h : p (nth l j) = true) : (l.take i).any p = true := by
  rw [List.any_eq_true]
  refine ⟨nth l j, ?_, h⟩
  have := nth_mem (l := l.take i) (i := j) (by rw [List.length_take]; omega)
  rwa [nth_take hj] at this
theorem any_take_f {α : Type} [Inhabited α] {l : List α} {p : α → Bool} {i : Nat} (hi : i ≤ l.length) (h : ∀ j, j < i → p (nth l j) = false) : (l.take i).any p = false := by
  rw [List.any_eq_false]
  intro x hx
  obtain ⟨j, hj, rfl⟩ := List.getElem_of_mem hx
  have hji : j < i := by simp at hj; omega
  rw [List.getElem_take, ← nth_get (by omega), h j hji]; simp
theorem okC_iff {q : GConj} {i : Nat} (hi : i < q.Consts.length) : okC q i = (validV (nth q.Consts i) && !decide ((nth q.Consts i).Kind = 0) && decide (idxL q.Consts (nth q.Consts i) = i)) := by
  unfold okC; rw [idx_self hi]
theorem valid_of {q : GConj} (hb : 0 ≤ q.Vars ∧ q.Vars ≤ 240 ∧ q.Consts.length ≤ 240 ∧ q.Atoms.length ≤ 20) (hc : ∀ i, i < q.Consts.length → okC q i = true) (ha : ∀ i, i < q.Atoms.length → okA q i = true) : validQ q = true := by
  unfold validQ
  rw [decide_eq_true hb, rall_t hc, rall_t ha]; rfl
theorem valid_noC {q : GConj} {i : Nat} (hi : i < q.Consts.length) (h : okC q i = false) : validQ q = false := by
  unfold validQ
  rw [rall_f hi h]; simp
theorem valid_noA {q : GConj} {i : Nat} (hi : i < q.Atoms.length) (h : okA q i = false) : validQ q = false := by
  unfold validQ
  rw [rall_f hi h]; simp
abbrev shapeA (a : GAtom) : Prop := 1 ≤ a.Cols.length ∧ a.Cols.length ≤ 12 ∧ a.Terms.length = a.Cols.length ∧ 1 ≤ a.Key ∧ a.Key ≤ a.Cols.length
theorem okA_no1 {q : GConj} {i : Nat} (h : ¬ (0 ≤ (nth q.Atoms i).Table ∧ shapeA (nth q.Atoms i))) : okA q i = false := by
  unfold okA
  by_cases h1 : 0 ≤ (nth q.Atoms i).Table
  · rw [decide_eq_false (p := shapeA (nth q.Atoms i)) (fun h2 => h ⟨h1, h2⟩)]; simp
  · rw [decide_eq_false h1]; rfl
theorem okA_no2 {q : GConj} {i j : Nat} (hj : j < i) (hi : i < q.Atoms.length) (h : (nth q.Atoms j).Table = (nth q.Atoms i).Table) : okA q i = false := by
  unfold okA
  rw [any_take_t (p := fun x : GAtom => decide (x.Table = (nth q.Atoms i).Table)) hj (by omega) (by simpa using h)]; simp
theorem okA_no3 {q : GConj} {i k : Nat} (hk : k < (nth q.Atoms i).Cols.length) (h : okK q (nth q.Atoms i) k = false) : okA q i = false := by
  unfold okA
  rw [rall_f (f := okK q (nth q.Atoms i)) hk h]; simp
theorem okA_yes {q : GConj} {i : Nat} (hi : i < q.Atoms.length) (h1 : 0 ≤ (nth q.Atoms i).Table) (h2 : shapeA (nth q.Atoms i)) (h3 : ∀ j, j < i → (nth q.Atoms j).Table ≠ (nth q.Atoms i).Table) (h4 : ∀ k, k < (nth q.Atoms i).Cols.length → okK q (nth q.Atoms i) k = true) : okA q i = true := by
  unfold okA
  rw [decide_eq_true h1, decide_eq_true (p := shapeA (nth q.Atoms i)) h2, any_take_f (p := fun x : GAtom => decide (x.Table = (nth q.Atoms i).Table)) (by omega) (fun j hj => by simpa using h3 j hj), rall_t h4]; rfl
theorem okK_no1 {q : GConj} {a : GAtom} {k : Nat} (h : ¬ (0 ≤ nth a.Cols k ∧ nth a.Terms k < q.Vars ∧ -(q.Consts.length : Int) ≤ nth a.Terms k)) : okK q a k = false := by
  unfold okK
  by_cases h1 : 0 ≤ nth a.Cols k
  · by_cases h2 : nth a.Terms k < q.Vars
    · rw [decide_eq_false (p := -(q.Consts.length : Int) ≤ nth a.Terms k) (fun h3 => h ⟨h1, h2, h3⟩)]; simp
    · rw [decide_eq_false h2]; simp
  · rw [decide_eq_false h1]; rfl
theorem okK_no2 {q : GConj} {a : GAtom} {k m : Nat} (hm : m < k) (hk : k < a.Cols.length) (h : nth a.Cols m = nth a.Cols k) : okK q a k = false := by
  unfold okK
  rw [any_take_t (p := fun x => decide (nth a.Cols k = x)) hm (by omega) (by simpa using h.symm)]; simp
theorem okK_yes {q : GConj} {a : GAtom} {k : Nat} (hk : k < a.Cols.length) (h1 : 0 ≤ nth a.Cols k) (h2 : nth a.Terms k < q.Vars) (h3 : -(q.Consts.length : Int) ≤ nth a.Terms k) (h4 : ∀ m, m < k → nth a.Cols m ≠ nth a.Cols k) : okK q a k = true := by
  unfold okK
  rw [decide_eq_true h1, decide_eq_true h2, decide_eq_true h3, any_take_f (p := fun x => decide (nth a.Cols k = x)) (by omega) (fun j hj => by simpa using fun e => h4 j hj e.symm)]; rfl
set_option maxHeartbeats 4000000 in
theorem refValid_spec (q : GConj) : Fun1 prog 61 [rConj.ty q] (tV (.bool (validQ q))) := by
 refine Spec.enter func61 rfl rfl fun h0 w0 fr0 => ?_
 refine Jr (Js rfl (step_box (R := rConj) Sr) (Ja rfl (JL_nil (J_seq (Jr ?_)))))
 refine Js rfl (step_fieldAddr so25 Sr rfl) (Jl rfl ty3 Sr (Js rfl (step_lss Sr Sr) (Jm rfl (Jg rfl Sr rfl (fun hw => step_fieldAddr so25 Sr rfl) (Jg rfl Sr rfl (fun hw => step_load_ptr ty3 (Sub.w hw)) ?_)))))
 refine Jg rfl Sr rfl (fun hw => step_gtr (Sub.w hw) Sr) (Js rfl (step_pick_or Sr Sr) (Jm rfl (Jg rfl Sr rfl (fun hw => step_fieldAddr so25 Sr rfl) (Jg rfl Sr rfl (fun hw => step_load_ptr ty22 (Sub.w hw)) (Jg rfl Sr rfl (fun hw => step_len_sl underlying22 (Sub.w hw)) ?_)))))
 refine Jg rfl Sr rfl (fun hw => step_gtr (Sub.w hw) Sr) (Js rfl (step_pick_or Sr Sr) (Jm rfl (Jg rfl Sr rfl (fun hw => step_fieldAddr so25 Sr rfl) (Jg rfl Sr rfl (fun hw => step_load_ptr ty23 (Sub.w hw)) (Jg rfl Sr rfl (fun hw => step_len_sl underlying23 (Sub.w hw)) ?_)))))
 refine Jg rfl Sr rfl (fun hw => step_gtr (Sub.w hw) Sr) (Js rfl (step_pick_or Sr Sr) (JL_nil ?_))
 refine J_cond Sr (fun h28 => ?_) (fun h28 => ?_)
 ·
  try simp only [NF] at h28
  refine Jr (Ja rfl (JL_nil (J_ret ?_)))
  refine K_ret1' (rv := .tmp 2) rfl () (Sel.all _) (.tmp Sr) (Frz.sub (Sub.bool ?_))
  rw [eq_comm]
  unfold validQ
  rw [decide_eq_false zG]; rfl
 try simp only [NF] at h28
 have hvb : 0 ≤ q.Vars ∧ q.Vars ≤ 240 ∧ q.Consts.length ≤ 240 ∧ q.Atoms.length ≤ 20 := zG
 refine J_skip (J_seq (Jr (Ja rfl (JL_nil (J_block ?_)))))
 refine J_loopL (σ := Nat) (fun i => i ≤ q.Consts.length ∧ ∀ j, j < i → okC q j = true) (fun i => upd (upd env0 1 (tPtr rConj q)) 3 (tV (.int .i64 i))) (fun i => []) (fun i => q.Consts.length - i) 0 ⟨Nat.zero_le _, fun k hk => by omega⟩ (.u (SubE.upd Sr SubE.any)) (LSub.rfl) ?_
 rintro i ⟨hi, hv⟩
 refine J_seq (Jr (Jm rfl (Js rfl (step_fieldAddr so25 Sr rfl) (Jl rfl ty22 Sr (Js rfl (step_len_sl underlying22 Sr) ?_)))))
 refine Js rfl (step_lss Sr Sr) (JL_nil ?_)
 refine J_cond Sr (fun h33 => ?_) (fun h33 => ?_)
 ·
  try simp only [NF] at h33
  have hlt : i < q.Consts.length := by omega
  refine J_skip (J_seq (J_block (J_seq ?_)))
  refine J_draw [⟨0, [1], true⟩, ⟨1, [36], true⟩, ⟨2, [3], true⟩, ⟨3, [37, 38], true⟩, ⟨4, [39], true⟩, ⟨5, [40], true⟩, ⟨6, [41], true⟩, ⟨7, [42], true⟩, ⟨8, [1, 43], true⟩, ⟨9, [43, 44], true⟩, ⟨10, [3, 43], true⟩, ⟨11, [43, 45, 46], true⟩, ⟨12, [43, 47], true⟩, ⟨13, [43, 48], true⟩, ⟨14, [43, 49], true⟩, ⟨15, [43, 50], true⟩, ⟨16, [51], true⟩, ⟨17, [1, 52], true⟩, ⟨18, [52, 53], true⟩, ⟨19, [1, 52], true⟩, ⟨20, [52, 55], true⟩, ⟨21, [3, 52], true⟩, ⟨22, [52, 56, 57], true⟩, ⟨23, [52, 58], true⟩, ⟨24, [52, 54, 59], true⟩, ⟨25, [3, 52], true⟩, ⟨26, [52, 60, 61], true⟩, ⟨27, [52, 62], true⟩] rfl (by kernel_rfl) ?_
  refine Mf rfl rfl (step_fieldAddr so25 Sr rfl) (Mf rfl rfl (step_load_ptr ty22 Sr) (Mv rfl rfl ?_))
  refine Mf rfl rfl (step_indexAddr_sl (i := i) underlying22 ty58 Sr Sr (by rfl) (gb (by exact hlt))) ?_
  refine Mf rfl rfl (step_load_ptr ty58 Sr) (Mf rfl rfl (step_call0 (refValidV_spec _) ⟨Sr, trivial⟩ call62) (Mf rfl rfl (step_not Sr) (Mv rfl rfl (Mg rfl rfl Sr rfl (fun hw => step_fieldAddr so25 Sr rfl) (Mg rfl rfl Sr rfl (fun hw => step_load_ptr ty22 (Sub.w hw)) ?_)))))
  refine Mg rfl rfl Sr rfl (fun hw => step_move Sr) ?_
  refine Mg rfl rfl Sr rfl (fun hw => step_indexAddr_sl (i := i) underlying22 ty58 (Sub.w hw) (Sub.w hw) (by rfl) (gb (by have hwq := hw; (try simp only [beqB_t, beqB_f, NF] at hwq); exact hlt))) ?_
  refine Mg rfl rfl Sr rfl (fun hw => step_fieldAddr so58 (Sub.w hw) rfl) (Mg rfl rfl Sr rfl (fun hw => step_load_ptr ty3 (Sub.w hw)) (Mg rfl rfl Sr rfl (fun hw => step_eql (Sub.w hw) Sr) (Mf rfl rfl (step_pick_or Sr Sr) (Mv rfl rfl (Mg rfl rfl Sr rfl (fun hw => step_fieldAddr so25 Sr rfl) ?_)))))
  refine Mg rfl rfl Sr rfl (fun hw => step_load_ptr ty22 (Sub.w hw)) (Mg rfl rfl Sr rfl (fun hw => step_fieldAddr so25 Sr rfl) (Mg rfl rfl Sr rfl (fun hw => step_load_ptr ty22 (Sub.w hw)) (Mg rfl rfl Sr rfl (fun hw => step_move Sr) ?_)))
  refine Mg rfl rfl Sr rfl (fun hw => step_indexAddr_sl (i := i) underlying22 ty58 (Sub.w hw) (Sub.w hw) (by rfl) (gb (by have hwq := hw; (try simp only [beqB_t, beqB_f, NF] at hwq); exact hlt))) ?_
  refine Mg rfl rfl Sr rfl (fun hw => step_load_ptr ty58 (Sub.w hw)) (Mg rfl rfl Sr rfl (fun hw => step_call0 (refIndex_spec q.Consts _ zG) ⟨(Sub.w hw), (Sub.w hw), trivial⟩ call97) (Mg rfl rfl Sr rfl (fun hw => step_move Sr) (Mg rfl rfl Sr rfl (fun hw => step_neq (Sub.w hw) (Sub.w hw)) (Mf rfl rfl (step_pick_or Sr Sr) (JM_nil ?_)))))
  refine J_cond Sr (fun h63 => ?_) (fun h63 => ?_)
  ·
   try simp only [NF] at h63
   refine Jr (Ja rfl (JL_nil (J_ret ?_)))
   refine K_ret1' (rv := .tmp 2) rfl () (Sel.all _) (.tmp Sr) (Frz.sub (Sub.bool ?_))
   rw [eq_comm]
   refine valid_noC hlt ?_
   rw [okC_iff hlt]
   rcases h63 with (c | c) | c
   ·
    rw [c]; rfl
   ·
    rw [decide_eq_true c]; simp
   have c2 : ¬ idxL q.Consts (nth q.Consts i) = i := fun e => c (by rw [e])
   rw [decide_eq_false c2]; simp
  try simp only [NF] at h63
  refine J_skip (J_region (Jm rfl (Js rfl (step_add Sr Sr z6) (Ja rfl (JL_nil ?_)))))
  refine K_againL (σ := Nat) (s := i) (i + 1) zO ?_ (.u (SubE.upd Sr SubE.any)) (LSub.rfl)
  refine ⟨by omega, fun j hj => ?_⟩
  by_cases e : j = i
  ·
   subst e
   rw [okC_iff hlt]
   simp only [Bool.and_eq_true, Bool.not_eq_true', decide_eq_true_eq, decide_eq_false_iff_not]
   obtain ⟨⟨c1, c2⟩, c3⟩ := h63
   exact ⟨⟨c1, c2⟩, by omega⟩
  exact hv j zG
 try simp only [NF] at h33
 have hcs : ∀ j, j < q.Consts.length → okC q j = true := fun j hj => hv j zG
 refine J_exit (J_seq (Jr (Ja rfl (JL_nil (J_block ?_)))))
 refine J_loopL (σ := Nat) (fun i => i ≤ q.Atoms.length ∧ ∀ j, j < i → okA q j = true) (fun i => upd (upd env0 1 (tPtr rConj q)) 4 (tV (.int .i64 i))) (fun i => []) (fun i => q.Atoms.length - i) 0 ⟨Nat.zero_le _, fun k hk => by omega⟩ (.u (SubE.upd Sr SubE.any)) (LSub.rfl) ?_
 rintro i ⟨hi2, hva⟩
 refine J_seq (Jr (Jm rfl (Js rfl (step_fieldAddr so25 Sr rfl) (Jl rfl ty23 Sr (Js rfl (step_len_sl underlying23 Sr) ?_)))))
 refine Js rfl (step_lss Sr Sr) (JL_nil ?_)
 refine J_cond Sr (fun h68 => ?_) (fun h68 => ?_)
 ·
  try simp only [NF] at h68
  have hat : i < q.Atoms.length := by omega
  refine J_skip (J_seq (J_block (Jr (Js rfl (step_fieldAddr so25 Sr rfl) (Jl rfl ty23 Sr ?_)))))
  refine Jm rfl ?_
  refine Js rfl (step_indexAddr_sl (i := i) underlying23 ty47 Sr Sr (by rfl) (gb (by exact hat))) ?_
  refine Jl rfl ty47 Sr ?_
  refine Jx rfl (step_alloc (fun w => zeroValue47 w) zr47) fun v5 => ?_
  refine Ju (step_store_box ty47 Sr Sr zS) fun _ => ?_
  refine JL_freeze (t := 5) (Sel.take (Sel.none _)) Frz.box ?_
  refine JL_nil (J_seq (Jr (Js rfl (step_fieldAddr so47 Sr rfl) (Jl rfl ty3 Sr (Js rfl (step_lss Sr Sr) ?_)))))
  refine Jm rfl (Jg rfl Sr rfl (fun hw => step_fieldAddr so47 Sr rfl) (Jg rfl Sr rfl (fun hw => step_load_ptr ty27 (Sub.w hw)) (Jg rfl Sr rfl (fun hw => step_len_sl underlying27 (Sub.w hw)) (Jg rfl Sr rfl (fun hw => step_lss (Sub.w hw) Sr) (Js rfl (step_pick_or Sr Sr) ?_)))))
  refine Jm rfl (Jg rfl Sr rfl (fun hw => step_fieldAddr so47 Sr rfl) (Jg rfl Sr rfl (fun hw => step_load_ptr ty27 (Sub.w hw)) (Jg rfl Sr rfl (fun hw => step_len_sl underlying27 (Sub.w hw)) (Jg rfl Sr rfl (fun hw => step_gtr (Sub.w hw) Sr) (Js rfl (step_pick_or Sr Sr) ?_)))))
  refine Jm rfl (Jg rfl Sr rfl (fun hw => step_fieldAddr so47 Sr rfl) (Jg rfl Sr rfl (fun hw => step_load_ptr ty27 (Sub.w hw)) (Jg rfl Sr rfl (fun hw => step_len_sl underlying27 (Sub.w hw)) (Jg rfl Sr rfl (fun hw => step_fieldAddr so47 Sr rfl) (Jg rfl Sr rfl (fun hw => step_load_ptr ty27 (Sub.w hw)) ?_)))))
  refine Jg rfl Sr rfl (fun hw => step_len_sl underlying27 (Sub.w hw)) (Jg rfl Sr rfl (fun hw => step_neq (Sub.w hw) (Sub.w hw)) (Js rfl (step_pick_or Sr Sr) (Jm rfl (Jg rfl Sr rfl (fun hw => step_fieldAddr so47 Sr rfl) (Jg rfl Sr rfl (fun hw => step_load_ptr ty3 (Sub.w hw)) ?_)))))
  refine Jg rfl Sr rfl (fun hw => step_lss (Sub.w hw) Sr) (Js rfl (step_pick_or Sr Sr) (Jm rfl (Jg rfl Sr rfl (fun hw => step_fieldAddr so47 Sr rfl) (Jg rfl Sr rfl (fun hw => step_load_ptr ty3 (Sub.w hw)) (Jg rfl Sr rfl (fun hw => step_fieldAddr so47 Sr rfl) ?_)))))
  refine Jg rfl Sr rfl (fun hw => step_load_ptr ty27 (Sub.w hw)) (Jg rfl Sr rfl (fun hw => step_len_sl underlying27 (Sub.w hw)) (Jg rfl Sr rfl (fun hw => step_gtr (Sub.w hw) (Sub.w hw)) (Js rfl (step_pick_or Sr Sr) (JL_nil ?_))))
  refine J_cond Sr (fun h112 => ?_) (fun h112 => ?_)
  ·
   try simp only [NF] at h112
   refine Jr (Ja rfl (JL_nil (J_ret ?_)))
   refine K_ret1' (rv := .tmp 2) rfl () (Sel.all _) (.tmp Sr) (Frz.sub (Sub.bool ?_))
   rw [eq_comm]
   refine valid_noA hat (okA_no1 fun hh => ?_)
   obtain ⟨hh0, hh1, hh2, hh3, hh4, hh5⟩ := hh
   omega
  try simp only [NF] at h112
  have hsh : shapeA (nth q.Atoms i) := ⟨by omega, by omega, by omega, by omega, by omega⟩
  have htb : 0 ≤ (nth q.Atoms i).Table := by omega
  refine J_skip (J_seq (Jr (Ja rfl (JL_nil (J_block ?_)))))
  refine J_loopL (σ := Nat) (fun k => k ≤ i ∧ ∀ j, j < k → (nth q.Atoms j).Table ≠ (nth q.Atoms i).Table) (fun k => upd (upd (upd (upd (upd (upd env0 1 (tPtr rConj q)) 4 (tV (.int .i64 i))) 5 (tPtr rAtom (nth q.Atoms i))) 6 (tV (.int .i64 k))) 64 (tV (.int .i64 i))) 73 (tV (.int .i64 i))) (fun k => []) (fun k => i - k) 0 ⟨Nat.zero_le _, fun k hk => by omega⟩ (.u (.u (.u (.u (.u (SubE.upd Sr SubE.any)))))) (LSub.rfl) ?_
  rintro k ⟨hk, hw⟩
  refine J_seq (Jr (Jm rfl (Jm rfl (Js rfl (step_lss Sr Sr) (JL_nil ?_)))))
  refine J_cond Sr (fun h115 => ?_) (fun h115 => ?_)
  ·
   try simp only [NF] at h115
   have hki : k < q.Atoms.length := by omega
   refine J_skip (J_seq (J_block (J_seq ?_)))
   refine J_draw [⟨0, [1], true⟩, ⟨1, [118], true⟩, ⟨2, [6], true⟩, ⟨3, [119, 120], true⟩, ⟨4, [121], true⟩, ⟨5, [122], true⟩, ⟨6, [5], true⟩, ⟨7, [124], true⟩, ⟨8, [123, 125], true⟩] rfl (by kernel_rfl) ?_
   refine Mf rfl rfl (step_fieldAddr so25 Sr rfl) (Mf rfl rfl (step_load_ptr ty23 Sr) (Mv rfl rfl ?_))
   refine Mf rfl rfl (step_indexAddr_sl (i := k) underlying23 ty47 Sr Sr (by rfl) (gb (by exact hki))) ?_
   refine Mf rfl rfl (step_fieldAddr so47 Sr rfl) (Mf rfl rfl (step_load_ptr ty3 Sr) (Mf rfl rfl (step_fieldAddr so47 Sr rfl) (Mf rfl rfl (step_load_ptr ty3 Sr) (Mf rfl rfl (step_eql Sr Sr) (JM_nil ?_)))))
   refine J_cond Sr (fun h126 => ?_) (fun h126 => ?_)
   ·
    try simp only [NF] at h126
    refine Jr (Ja rfl (JL_nil (J_ret ?_)))
    refine K_ret1' (rv := .tmp 2) rfl () (Sel.all _) (.tmp Sr) (Frz.sub (Sub.bool ?_))
    rw [eq_comm]
    exact valid_noA hat (okA_no2 zG hat h126)
   try simp only [NF] at h126
   refine J_skip (J_region (Jm rfl (Js rfl (step_add Sr Sr z6) (Ja rfl (JL_nil ?_)))))
   refine K_againL (σ := Nat) (s := k) (k + 1) zO ?_ (.u (.u (.u (.u (.u (SubE.upd Sr SubE.any)))))) (LSub.rfl)
   refine ⟨by omega, fun j hj => ?_⟩
   by_cases e : j = k
   ·
    subst e; exact h126
   exact hw j zG
  try simp only [NF] at h115
  have htn : ∀ j, j < i → (nth q.Atoms j).Table ≠ (nth q.Atoms i).Table := fun j hj => hw j zG
  refine J_exit (Jr (Ja rfl (JL_nil (J_block ?_))))
  refine J_loopL (σ := Nat) (fun k => k ≤ (nth q.Atoms i).Cols.length ∧ ∀ j, j < k → okK q (nth q.Atoms i) j = true) (fun k => upd (upd (upd (upd (upd (upd (upd env0 1 (tPtr rConj q)) 4 (tV (.int .i64 i))) 5 (tPtr rAtom (nth q.Atoms i))) 7 (tV (.int .i64 k))) 64 (tV (.int .i64 i))) 73 (tV (.int .i64 i))) 114 (tV (.int .i64 i))) (fun k => []) (fun k => (nth q.Atoms i).Cols.length - k) 0 ⟨Nat.zero_le _, fun k hk => by omega⟩ (.u (.u (.u (.u (.u (.u (SubE.upd Sr SubE.any))))))) (LSub.rfl) ?_
  rintro k ⟨hk, hx⟩
  refine J_seq (Jr (Jm rfl (Js rfl (step_fieldAddr so47 Sr rfl) (Jl rfl ty27 Sr (Js rfl (step_len_sl underlying27 Sr) ?_)))))
  refine Js rfl (step_lss Sr Sr) (JL_nil ?_)
  refine J_cond Sr (fun h131 => ?_) (fun h131 => ?_)
  ·
   try simp only [NF] at h131
   have hkt : k < (nth q.Atoms i).Cols.length := by omega
   refine J_skip (J_seq (J_block (J_seq (J_seq ?_))))
   refine J_draw [⟨0, [5], true⟩, ⟨1, [134], true⟩, ⟨2, [7], true⟩, ⟨3, [135, 136], true⟩, ⟨4, [137], true⟩, ⟨5, [138], true⟩, ⟨6, [139], true⟩, ⟨7, [5, 140], true⟩, ⟨8, [140, 141], true⟩, ⟨9, [7, 140], true⟩, ⟨10, [140, 142, 143], true⟩, ⟨11, [140, 144], true⟩, ⟨12, [1, 140], true⟩, ⟨13, [140, 146], true⟩, ⟨14, [140, 145, 147], true⟩, ⟨15, [140, 148], true⟩, ⟨16, [149], true⟩, ⟨17, [5, 150], true⟩, ⟨18, [150, 151], true⟩, ⟨19, [7, 150], true⟩, ⟨20, [150, 152, 153], true⟩, ⟨21, [150, 154], true⟩, ⟨22, [1, 150], true⟩, ⟨23, [150, 156], true⟩, ⟨24, [150, 157], true⟩, ⟨25, [150, 158], true⟩, ⟨26, [150, 155, 159], true⟩, ⟨27, [150, 160], true⟩] rfl (by kernel_rfl) ?_
   refine Mf rfl rfl (step_fieldAddr so47 Sr rfl) (Mf rfl rfl (step_load_ptr ty27 Sr) (Mv rfl rfl ?_))
   refine Mf rfl rfl (step_indexAddr_sl (i := k) underlying27 ty3 Sr Sr (by rfl) (gb (by exact hkt))) ?_
   refine Mf rfl rfl (step_load_ptr ty3 Sr) (Mf rfl rfl (step_lss Sr Sr) (Mv rfl rfl (Mg rfl rfl Sr rfl (fun hw => step_fieldAddr so47 Sr rfl) (Mg rfl rfl Sr rfl (fun hw => step_load_ptr ty27 (Sub.w hw)) (Mg rfl rfl Sr rfl (fun hw => step_move Sr) ?_)))))
   refine Mg rfl rfl Sr rfl (fun hw => step_indexAddr_sl (i := k) underlying27 ty3 (Sub.w hw) (Sub.w hw) (by rfl) (gb (by have hwq := hw; (try simp only [beqB_t, beqB_f, NF] at hwq); show k < (nth q.Atoms i).Terms.length; omega))) ?_
   refine Mg rfl rfl Sr rfl (fun hw => step_load_ptr ty3 (Sub.w hw)) (Mg rfl rfl Sr rfl (fun hw => step_fieldAddr so25 Sr rfl) (Mg rfl rfl Sr rfl (fun hw => step_load_ptr ty3 (Sub.w hw)) (Mg rfl rfl Sr rfl (fun hw => step_geq (Sub.w hw) (Sub.w hw)) (Mf rfl rfl (step_pick_or Sr Sr) (Mv rfl rfl ?_)))))
   refine Mg rfl rfl Sr rfl (fun hw => step_fieldAddr so47 Sr rfl) (Mg rfl rfl Sr rfl (fun hw => step_load_ptr ty27 (Sub.w hw)) (Mg rfl rfl Sr rfl (fun hw => step_move Sr) ?_))
   refine Mg rfl rfl Sr rfl (fun hw => step_indexAddr_sl (i := k) underlying27 ty3 (Sub.w hw) (Sub.w hw) (by rfl) (gb (by have hwq := hw; (try simp only [beqB_t, beqB_f, NF] at hwq); show k < (nth q.Atoms i).Terms.length; omega))) ?_
   refine Mg rfl rfl Sr rfl (fun hw => step_load_ptr ty3 (Sub.w hw)) (Mg rfl rfl Sr rfl (fun hw => step_fieldAddr so25 Sr rfl) (Mg rfl rfl Sr rfl (fun hw => step_load_ptr ty22 (Sub.w hw)) (Mg rfl rfl Sr rfl (fun hw => step_len_sl underlying22 (Sub.w hw)) ?_)))
   refine Mg rfl rfl Sr rfl (fun hw => step_neg (Sub.w hw) (by show in64 (-(q.Consts.length : Int)); unfold in64; omega)) ?_
   refine Mg rfl rfl Sr rfl (fun hw => step_lss (Sub.w hw) (Sub.w hw)) (Mf rfl rfl (step_pick_or Sr Sr) (JM_nil ?_))
   refine J_cond Sr (fun h161 => ?_) (fun h161 => ?_)
   ·
    try simp only [NF] at h161
    refine Jr (Ja rfl (JL_nil (J_ret ?_)))
    refine K_ret1' (rv := .tmp 2) rfl () (Sel.all _) (.tmp Sr) (Frz.sub (Sub.bool ?_))
    rw [eq_comm]
    refine valid_noA hat (okA_no3 hkt (okK_no1 fun hh => ?_))
    obtain ⟨hh0, hh1, hh2⟩ := hh
    omega
   try simp only [NF] at h161
   refine J_skip (Jr (Ja rfl (JL_nil (J_block ?_))))
   refine J_loopL (σ := Nat) (fun m => m ≤ k ∧ ∀ j, j < m → nth (nth q.Atoms i).Cols j ≠ nth (nth q.Atoms i).Cols k) (fun m => upd (upd (upd (upd (upd (upd (upd (upd (upd (upd env0 1 (tPtr rConj q)) 4 (tV (.int .i64 i))) 5 (tPtr rAtom (nth q.Atoms i))) 7 (tV (.int .i64 k))) 8 (tV (.int .i64 m))) 64 (tV (.int .i64 i))) 73 (tV (.int .i64 i))) 114 (tV (.int .i64 i))) 127 (tV (.int .i64 k))) 136 (tV (.int .i64 k))) (fun m => []) (fun m => k - m) 0 ⟨Nat.zero_le _, fun k hk => by omega⟩ (.u (.u (.u (.u (.u (.u (.u (.u (.u (SubE.upd Sr SubE.any)))))))))) (LSub.rfl) ?_
   rintro m ⟨hm, hy⟩
   refine J_seq (Jr (Jm rfl (Jm rfl (Js rfl (step_lss Sr Sr) (JL_nil ?_)))))
   refine J_cond Sr (fun h164 => ?_) (fun h164 => ?_)
   ·
    try simp only [NF] at h164
    have hmt : m < (nth q.Atoms i).Cols.length := by omega
    refine J_skip (J_seq (J_block (J_seq ?_)))
    refine J_draw [⟨0, [5], true⟩, ⟨1, [167], true⟩, ⟨2, [8], true⟩, ⟨3, [168, 169], true⟩, ⟨4, [170], true⟩, ⟨5, [5], true⟩, ⟨6, [172], true⟩, ⟨7, [7], true⟩, ⟨8, [173, 174], true⟩, ⟨9, [175], true⟩, ⟨10, [171, 176], true⟩] rfl (by kernel_rfl) ?_
    refine Mf rfl rfl (step_fieldAddr so47 Sr rfl) (Mf rfl rfl (step_load_ptr ty27 Sr) (Mv rfl rfl ?_))
    refine Mf rfl rfl (step_indexAddr_sl (i := m) underlying27 ty3 Sr Sr (by rfl) (gb (by exact hmt))) ?_
    refine Mf rfl rfl (step_load_ptr ty3 Sr) (Mf rfl rfl (step_fieldAddr so47 Sr rfl) (Mf rfl rfl (step_load_ptr ty27 Sr) (Mv rfl rfl ?_)))
    refine Mf rfl rfl (step_indexAddr_sl (i := k) underlying27 ty3 Sr Sr (by rfl) (gb (by exact hkt))) ?_
    refine Mf rfl rfl (step_load_ptr ty3 Sr) (Mf rfl rfl (step_eql Sr Sr) (JM_nil ?_))
    refine J_cond Sr (fun h177 => ?_) (fun h177 => ?_)
    ·
     try simp only [NF] at h177
     refine Jr (Ja rfl (JL_nil (J_ret ?_)))
     refine K_ret1' (rv := .tmp 2) rfl () (Sel.all _) (.tmp Sr) (Frz.sub (Sub.bool ?_))
     rw [eq_comm]
     exact valid_noA hat (okA_no3 hkt (okK_no2 zG hkt h177))
    try simp only [NF] at h177
    refine J_skip (J_region (Jm rfl (Js rfl (step_add Sr Sr z6) (Ja rfl (JL_nil ?_)))))
    refine K_againL (σ := Nat) (s := m) (m + 1) zO ?_ (.u (.u (.u (.u (.u (.u (.u (.u (.u (SubE.upd Sr SubE.any)))))))))) (LSub.rfl)
    refine ⟨by omega, fun j hj => ?_⟩
    by_cases e : j = m
    ·
     subst e; exact h177
    exact hy j zG
   try simp only [NF] at h164
   refine J_exit (J_region (Jm rfl (Js rfl (step_add Sr Sr z6) (Ja rfl (JL_nil ?_)))))
   refine K_againL (σ := Nat) (s := k) (k + 1) zO ?_ (.u (.u (.u (.u (.u (.u (SubE.upd Sr SubE.any))))))) (LSub.rfl)
   refine ⟨by omega, fun j hj => ?_⟩
   by_cases e : j = k
   ·
    subst e; exact okK_yes hkt zG zG zG (fun m2 hm2 => hy m2 zG)
   exact hx j zG
  try simp only [NF] at h131
  refine J_exit (J_region (Jm rfl (Js rfl (step_add Sr Sr z6) (Ja rfl (JL_nil ?_)))))
  refine K_againL (σ := Nat) (s := i) (i + 1) zO ?_ (.u (SubE.upd Sr SubE.any)) (LSub.rfl)
  refine ⟨by omega, fun j hj => ?_⟩
  by_cases e : j = i
  ·
   subst e; exact okA_yes hat htb hsh htn (fun k2 hk2 => hx k2 zG)
  exact hva j zG
 try simp only [NF] at h68
 refine J_exit (Jr (Ja rfl (JL_nil (J_ret ?_))))
 refine K_ret1' (rv := .tmp 2) rfl () (Sel.all _) (.tmp Sr) (Frz.sub (Sub.bool ?_))
 rw [eq_comm]
 exact valid_of hvb hcs (fun j hj => hva j zG)
open Go Go.Proofs Go.Proofs.Tryz
theorem atomI_at {q : GConj} (hq : validQ q = true) (t : Int) : (0 ≤ atomI q t → ∃ i : Nat, atomI q t = i ∧ i < q.Atoms.length ∧ (nth q.Atoms i).Table = t ∧ nth q.Atoms i = atomAt q t) ∧ (atomI q t < 0 → atomAt q t = zAtom ∧ ∀ j, j < q.Atoms.length → (nth q.Atoms j).Table ≠ t) := by
  rcases atomI_cases q t with ⟨i, hi, ht, e⟩ | ⟨hn, e⟩
  · refine ⟨fun _ => ⟨i, e, hi, ht, ?_⟩, fun h => by omega⟩
    rw [← ht, atomAt_self hq hi]
  · refine ⟨fun h => by omega, fun _ => ⟨?_, hn⟩⟩
    rcases atomAt_mem q t with h | ⟨h, ht⟩
    · exact h
    · obtain ⟨j, hj, e2⟩ := List.getElem_of_mem h
      rw [← nth_get hj] at e2
      rw [← e2] at ht
      exact absurd ht (hn j hj)
def fitK (a : GAtom) (f : GFact) (k : Nat) : Bool := decide (nth a.Cols k < f.Row.length) && validV (nth f.Row (nth a.Cols k).toNat)
theorem fitF_t {q : GConj} {f : GFact} (h : ∀ k, k < (atomAt q f.Table).Cols.length → fitK (atomAt q f.Table) f k = true) : fitF q f = true := rall_t h
theorem fitF_f {q : GConj} {f : GFact} {k : Nat} (hk : k < (atomAt q f.Table).Cols.length) (h : fitK (atomAt q f.Table) f k = false) : fitF q f = false := rall_f hk h
theorem fitM_f {q : GConj} {facts : List GFact} {i : Nat} (hi : i < facts.length) (h : fitF q (nth facts i) = false) : fitM q facts = false := by
  unfold fitM; rw [rall_f (f := fun i => fitF q (nth facts i)) hi h]; simp
theorem fitM_t {q : GConj} {facts : List GFact} (hq : validQ q = true) (h : ∀ i, i < facts.length → fitF q (nth facts i) = true) : fitM q facts = true := by
  unfold fitM; rw [hq, rall_t h]; rfl
theorem same_val {q : GConj} {facts : List GFact} (hfit : fitM q facts = true) {f g : GFact} (hf : f ∈ facts) (hg : g ∈ facts) {i : Nat} (hi : i < q.Atoms.length) (tf : f.Table = (nth q.Atoms i).Table) (tg : g.Table = (nth q.Atoms i).Table) :
    sameM q f g = true ↔ ∀ k, k < (nth q.Atoms i).Key.toNat → valAt (nth q.Atoms i) f k = valAt (nth q.Atoms i) g k := by
  rw [same_iff hfit hf hg hi tf tg]
  have hk := (valid_cols (fit_valid hfit) (nth_mem hi)).2.2.2.1
  exact ⟨key_inj (fit_fact hfit hf hi tf) (fit_fact hfit hg hi tg) (by omega), key_congr⟩
theorem same_no {q : GConj} {f g : GFact} (h : (∀ j, j < q.Atoms.length → (nth q.Atoms j).Table ≠ f.Table) ∨ f.Table ≠ g.Table) : sameM q f g = false := by
  cases hs : sameM q f g with
  | false => rfl
  | true =>
    obtain ⟨i, hi, t1, t2⟩ := same_tab hs
    rcases h with h | h
    · exact absurd t1.symm (h i hi)
    · exact absurd (t1.trans t2.symm) h
set_option maxHeartbeats 2000000 in
theorem refFits_spec (q : GConj) (facts : List GFact) (hl : facts.length ≤ 1000000) : Fun1 prog 36 [rConj.ty q, tSl rFact facts] (tV (.bool (fitM q facts))) := by
 refine Spec.enter func36 rfl rfl fun h0 w0 fr0 => ?_
 refine Jr (Js rfl (step_box (R := rConj) Sr) (Ja rfl (JL_nil (J_seq (Jr ?_)))))
 refine Jl rfl ty25 Sr (Js rfl (step_call0 (refValid_spec q) ⟨Sr, trivial⟩ call61) (Js rfl (step_not Sr) (JL_nil ?_)))
 refine J_cond Sr (fun h11 => ?_) (fun h11 => ?_)
 ·
  try simp only [NF] at h11
  have hv0 : validQ q = false := by simpa using h11
  refine Jr (Ja rfl (JL_nil (J_ret ?_)))
  refine K_ret1' (rv := .tmp 4) rfl () (Sel.all _) (.tmp Sr) (Frz.sub (Sub.bool ?_))
  rw [eq_comm]
  unfold fitM; rw [hv0]; rfl
 try simp only [NF] at h11
 have hq : validQ q = true := by simpa using h11
 have hvb := valid_bounds hq
 refine J_skip (J_seq (Jr (Ja rfl (JL_nil (J_block ?_)))))
 refine J_loopL (σ := Nat) (fun i => i ≤ facts.length ∧ ∀ j, j < i → fitF q (nth facts j) = true) (fun i => upd (upd (upd env0 1 (tSl rFact facts)) 2 (tPtr rConj q)) 5 (tV (.int .i64 i))) (fun i => []) (fun i => facts.length - i) 0 ⟨Nat.zero_le _, fun k hk => by omega⟩ (.u (.u (SubE.upd Sr SubE.any))) (LSub.rfl) ?_
 rintro i ⟨hi, hv⟩
 refine J_seq (Jr (Jm rfl (Jm rfl (Js rfl (step_len_sl underlying26 Sr) (Js rfl (step_lss Sr Sr) ?_)))))
 refine JL_nil ?_
 refine J_cond Sr (fun h15 => ?_) (fun h15 => ?_)
 ·
  try simp only [NF] at h15
  have hlt : i < facts.length := by omega
  have hA := atomI_at hq (nth facts i).Table
  have hN : 0 ≤ (atomI q (nth facts i).Table) → (atomI q (nth facts i).Table) = (((atomI q (nth facts i).Table).toNat : Nat) : Int) ∧ (atomI q (nth facts i).Table).toNat < q.Atoms.length ∧ nth q.Atoms (atomI q (nth facts i).Table).toNat = (atomAt q (nth facts i).Table) := fun h => by obtain ⟨ai, e, h1, h2, h3⟩ := hA.1 h; have e2 : (atomI q (nth facts i).Table).toNat = ai := zG; rw [e2]; exact ⟨by omega, h1, h3⟩
  have hac := atomAt_cols hq (nth facts i).Table
  refine J_skip (J_seq (J_block (J_seq ?_)))
  refine J_draw [⟨0, [2], true⟩, ⟨1, [1], true⟩, ⟨2, [5], true⟩, ⟨3, [19, 20], true⟩, ⟨4, [21], true⟩, ⟨5, [22], true⟩, ⟨6, [18, 23], true⟩, ⟨7, [24], true⟩] rfl (by kernel_rfl) ?_
  refine Mf rfl rfl (step_load_ptr ty25 Sr) (Mv rfl rfl (Mv rfl rfl ?_))
  refine Mf rfl rfl (step_indexAddr_sl (i := i) underlying26 ty45 Sr Sr (by rfl) (gb (by exact hlt))) ?_
  refine Mf rfl rfl (step_fieldAddr so45 Sr rfl) (Mf rfl rfl (step_load_ptr ty3 Sr) (Mf rfl rfl (step_call0 (refAtom_spec q _ zG) ⟨Sr, Sr, trivial⟩ call45) (Mf rfl rfl (step_assign Sr) (JM_nil (Jr ?_)))))
  refine Ja rfl (JL_nil (J_block ?_))
  refine J_loopL (σ := Nat) (fun k => k ≤ (atomAt q (nth facts i).Table).Cols.length ∧ ∀ j, j < k → fitK (atomAt q (nth facts i).Table) (nth facts i) j = true) (fun k => upd (upd (upd (upd (upd (upd (upd (upd (upd env0 1 (tSl rFact facts)) 2 (tPtr rConj q)) 5 (tV (.int .i64 i))) 6 (tV (.int .i64 (atomI q (nth facts i).Table)))) 7 (tV (.int .i64 k))) 12 (tV (.int .i64 i))) 13 (tSl rFact facts)) 19 (tSl rFact facts)) 20 (tV (.int .i64 i))) (fun k => []) (fun k => (atomAt q (nth facts i).Table).Cols.length - k) 0 ⟨Nat.zero_le _, fun k hk => by omega⟩ (.u (.u (.u (.u (.u (.u (.u (.u (SubE.upd Sr SubE.any))))))))) (LSub.rfl) ?_
  rintro k ⟨hk, hw⟩
  refine J_seq (Jr (Jm rfl (Js rfl (step_geq Sr Sr) (Jm rfl (Jg rfl Sr rfl (fun hw => step_move Sr) ?_)))))
  refine Jg rfl Sr rfl (fun hw => step_fieldAddr so25 Sr rfl) (Jg rfl Sr rfl (fun hw => step_load_ptr ty23 (Sub.w hw)) (Jg rfl Sr rfl (fun hw => step_move Sr) ?_))
  refine Jg rfl Sr rfl (fun hw => step_indexAddr_sl (i := (atomI q (nth facts i).Table).toNat) underlying23 ty47 (Sub.w hw) (Sub.w hw) (by have hwq := hw; (try simp only [beqB_t, beqB_f, NF] at hwq); exact (hN hwq).1) (gb (by have hwq := hw; (try simp only [beqB_t, beqB_f, NF] at hwq); exact (hN hwq).2.1))) ?_
  refine Jg rfl Sr rfl (fun hw => step_fieldAddr so47 (Sub.w hw) rfl) (Jg rfl Sr rfl (fun hw => step_load_ptr ty27 (Sub.w hw)) (Jg rfl Sr rfl (fun hw => step_len_sl underlying27 (Sub.w hw)) (Jg rfl Sr rfl (fun hw => step_lss (Sub.w hw) (Sub.w hw)) (Js rfl (step_pick_and Sr Sr) (JL_nil ?_)))))
  refine J_cond Sr (fun h37 => ?_) (fun h37 => ?_)
  ·
   try simp only [NF] at h37
   obtain ⟨n1, n2, n3⟩ := hN h37.1
   have hkt : k < (atomAt q (nth facts i).Table).Cols.length := by have := h37.2; rw [n3] at this; omega
   have hc0 := hac.2 k hkt
   refine J_skip (J_seq (J_block (Jr (Js rfl (step_fieldAddr so25 Sr rfl) (Jl rfl ty23 Sr ?_)))))
   refine Jm rfl ?_
   refine Js rfl (step_indexAddr_sl (i := (atomI q (nth facts i).Table).toNat) underlying23 ty47 Sr Sr (by exact n1) (gb (by exact n2))) ?_
   refine Js rfl (step_fieldAddr so47 Sr rfl) (Jl rfl ty27 Sr (Jm rfl ?_))
   refine Js rfl (step_indexAddr_sl (i := k) underlying27 ty3 Sr Sr (by rfl) (gb (by show k < (nth q.Atoms (atomI q (nth facts i).Table).toNat).Cols.length; rw [n3]; exact hkt))) ?_
   refine Jl rfl ty3 Sr (Ja rfl (JL_nil (Jr (Jm rfl (Js rfl (step_lss Sr Sr) ?_)))))
   refine Jm rfl (Jg rfl Sr rfl (fun hw => step_move Sr) (Jg rfl Sr rfl (fun hw => step_move Sr) (Jg rfl Sr rfl (fun hw => step_move Sr) ?_)))
   refine Jg rfl Sr rfl (fun hw => step_indexAddr_sl (i := i) underlying26 ty45 (Sub.w hw) (Sub.w hw) (by rfl) (gb (by have hwq := hw; (try simp only [beqB_t, beqB_f, NF] at hwq); exact hlt))) ?_
   refine Jg rfl Sr rfl (fun hw => step_fieldAddr so45 (Sub.w hw) rfl) (Jg rfl Sr rfl (fun hw => step_load_ptr ty22 (Sub.w hw)) (Jg rfl Sr rfl (fun hw => step_len_sl underlying22 (Sub.w hw)) (Jg rfl Sr rfl (fun hw => step_geq (Sub.w hw) (Sub.w hw)) (Js rfl (step_pick_or Sr Sr) (Jm rfl ?_)))))
   refine Jg rfl Sr rfl (fun hw => step_move Sr) (Jg rfl Sr rfl (fun hw => step_move Sr) ?_)
   refine Jg rfl Sr rfl (fun hw => step_indexAddr_sl (i := i) underlying26 ty45 (Sub.w hw) (Sub.w hw) (by rfl) (gb (by have hwq := hw; (try simp only [beqB_t, beqB_f, NF] at hwq); exact hlt))) ?_
   refine Jg rfl Sr rfl (fun hw => step_fieldAddr so45 (Sub.w hw) rfl) (Jg rfl Sr rfl (fun hw => step_load_ptr ty22 (Sub.w hw)) (Jg rfl Sr rfl (fun hw => step_move Sr) ?_))
   refine Jg rfl Sr rfl (fun hw => step_indexAddr_sl (i := (nth (atomAt q (nth facts i).Table).Cols k).toNat) underlying22 ty58 (Sub.w hw) (Sub.w hw) (by have hwq := hw; (try simp only [beqB_t, beqB_f, NF] at hwq); show nth (nth q.Atoms (atomI q (nth facts i).Table).toNat).Cols k = _; rw [n3]; omega) (gb (by have hwq := hw; (try simp only [beqB_t, beqB_f, NF] at hwq); show (nth (atomAt q (nth facts i).Table).Cols k).toNat < (nth facts i).Row.length; have hw2 : 0 ≤ nth (nth q.Atoms (atomI q (nth facts i).Table).toNat).Cols k ∧ nth (nth q.Atoms (atomI q (nth facts i).Table).toNat).Cols k < ((nth facts i).Row.length : Int) := hwq; rw [n3] at hw2; omega))) ?_
   refine Jg rfl Sr rfl (fun hw => step_load_ptr ty58 (Sub.w hw)) (Jg rfl Sr rfl (fun hw => step_call0 (refValidV_spec _) ⟨(Sub.w hw), trivial⟩ call62) (Jg rfl Sr rfl (fun hw => step_not (Sub.w hw)) (Js rfl (step_pick_or Sr Sr) (JL_nil ?_))))
   refine J_cond Sr (fun h72 => ?_) (fun h72 => ?_)
   ·
    try simp only [NF] at h72
    refine Jr (Ja rfl (JL_nil (J_ret ?_)))
    refine K_ret1' (rv := .tmp 4) rfl () (Sel.all _) (.tmp Sr) (Frz.sub (Sub.bool ?_))
    rw [eq_comm]
    rw [n3] at h72
    refine fitM_f hlt (fitF_f hkt ?_)
    unfold fitK
    rcases h72 with (c | c) | c
    ·
     omega
    ·
     rw [decide_eq_false zG]; rfl
    rw [c]; simp
   try simp only [NF] at h72
   refine J_skip (J_region (Jm rfl (Js rfl (step_add Sr Sr z6) (Ja rfl (JL_nil ?_)))))
   refine K_againL (σ := Nat) (s := k) (k + 1) zO ?_ (.u (.u (.u (.u (.u (.u (.u (.u (SubE.upd Sr SubE.any))))))))) (LSub.rfl)
   refine ⟨by omega, fun j hj => ?_⟩
   by_cases e : j = k
   ·
    subst e
    rw [n3] at h72
    unfold fitK
    rw [decide_eq_true zG, h72.2]; rfl
   exact hw j zG
  try simp only [NF] at h37
  have hke : ∀ j, j < (atomAt q (nth facts i).Table).Cols.length → j < k := (by
 intro j hj
 by_cases h0 : 0 ≤ (atomI q (nth facts i).Table)
 ·
  obtain ⟨n1, n2, n3⟩ := hN h0
  rcases h37 with h | h
  ·
   omega
  ·
   rw [n3] at h; omega
 ·
  rw [(hA.2 zG).1] at hj; exact absurd hj (by simp [zAtom]))
  refine J_exit (J_region (Jm rfl (Js rfl (step_add Sr Sr z6) (Ja rfl (JL_nil ?_)))))
  refine K_againL (σ := Nat) (s := i) (i + 1) zO ?_ (.u (.u (SubE.upd Sr SubE.any))) (LSub.rfl)
  refine ⟨by omega, fun j hj => ?_⟩
  by_cases e : j = i
  ·
   subst e; exact fitF_t (fun k2 hk2 => hw k2 (hke k2 hk2))
  exact hv j zG
 try simp only [NF] at h15
 refine J_exit (Jr (Ja rfl (JL_nil (J_ret ?_))))
 refine K_ret1' (rv := .tmp 4) rfl () (Sel.all _) (.tmp Sr) (Frz.sub (Sub.bool ?_))
 rw [eq_comm]
 exact fitM_t hq (fun j hj => hv j zG)
open Go Go.Proofs Go.Proofs.Tryz
theorem atomI_nat {q : GConj} (hq : validQ q = true) {t : Int} (h : 0 ≤ atomI q t) : atomI q t = (((atomI q t).toNat : Nat) : Int) ∧ (atomI q t).toNat < q.Atoms.length ∧ (nth q.Atoms (atomI q t).toNat).Table = t := by
  obtain ⟨i, e, h1, h2, _⟩ := (atomI_at hq t).1 h
  have e2 : (atomI q t).toNat = i := by omega
  rw [e2]; exact ⟨by omega, h1, h2⟩
/-- The graph of the pairs within blocks. -/
def pairsI (q : GConj) (facts : List GFact) (i m : Nat) : List (List Int) := ((List.range' (i + 1) (m - (i + 1))).filter fun j => sameM q (nth facts i) (nth facts j)).map fun (j : Nat) => [(i : Int), (j : Int)]
def edgK (q : GConj) (facts : List GFact) (n : Nat) : List (List Int) := (List.range n).flatMap fun i => pairsI q facts i facts.length
theorem pairsI_start (q : GConj) (facts : List GFact) (i : Nat) : pairsI q facts i (i + 1) = [] := by unfold pairsI; rw [Nat.sub_self]; rfl
theorem pairsI_succ {q : GConj} {facts : List GFact} {i m : Nat} (h : i + 1 ≤ m) : pairsI q facts i (m + 1) = pairsI q facts i m ++ if sameM q (nth facts i) (nth facts m) then [[(i : Int), (m : Int)]] else [] := by
  unfold pairsI
  rw [show m + 1 - (i + 1) = (m - (i + 1)) + 1 by omega, List.range'_concat, List.filter_append, List.map_append, Nat.one_mul, show i + 1 + (m - (i + 1)) = m by omega]
  by_cases hs : sameM q (nth facts i) (nth facts m) = true
  · simp [hs]
  · simp [hs]
set_option maxHeartbeats 1000000 in
theorem refBlock_spec (q : GConj) (facts : List GFact) (hfit : fitM q facts = true) (x y : GFact) (hx : x ∈ facts) (hy : y ∈ facts) : Fun1 prog 46 [rConj.ty q, rFact.ty x, rFact.ty y] (tV (.bool (sameM q x y))) := by
 refine Spec.enter func46 rfl rfl fun h0 w0 fr0 => ?_
 have hq := fit_valid hfit
 have hvb := valid_bounds hq
 refine Jr (Js rfl (step_box (R := rConj) Sr) (Js rfl (step_box (R := rFact) Sr) (Js rfl (step_box (R := rFact) Sr) (Ja rfl (JL_nil ?_)))))
 refine Jr (Jl rfl ty25 Sr (Js rfl (step_fieldAddr so45 Sr rfl) (Jl rfl ty3 Sr (Js rfl (step_call0 (refAtom_spec q _ zG) ⟨Sr, Sr, trivial⟩ call45) (Ja rfl ?_)))))
 refine JL_nil (J_seq (Jr (Jm rfl (Js rfl (step_lss Sr Sr) (Jm rfl ?_)))))
 refine Jg rfl Sr rfl (fun hw => step_fieldAddr so45 Sr rfl) (Jg rfl Sr rfl (fun hw => step_load_ptr ty3 (Sub.w hw)) (Jg rfl Sr rfl (fun hw => step_fieldAddr so45 Sr rfl) (Jg rfl Sr rfl (fun hw => step_load_ptr ty3 (Sub.w hw)) (Jg rfl Sr rfl (fun hw => step_neq (Sub.w hw) (Sub.w hw)) (Js rfl (step_pick_or Sr Sr) ?_)))))
 refine JL_nil ?_
 refine J_cond Sr (fun h22 => ?_) (fun h22 => ?_)
 ·
  try simp only [NF] at h22
  refine Jr (Ja rfl (JL_nil (J_ret ?_)))
  refine K_ret1' (rv := .tmp 6) rfl () (Sel.all _) (.tmp Sr) (Frz.sub (Sub.bool ?_))
  rw [same_no (h22.imp (fun h => ((atomI_at hq x.Table).2 h).2) id)]
 try simp only [NF] at h22
 obtain ⟨h22a, h22b⟩ := h22
 obtain ⟨n1, n2, n3⟩ := atomI_nat hq h22a
 have hvc := valid_cols hq (nth_mem n2)
 have hfx := fit_fact hfit hx n2 n3.symm
 have hfy := fit_fact hfit hy n2 (by rw [n3]; exact h22b.symm)
 have hsv := same_val hfit hx hy n2 n3.symm (by rw [n3]; exact h22b.symm)
 refine J_skip (J_seq (Jr (Ja rfl (JL_nil (J_block ?_)))))
 refine J_loopL (σ := Nat) (fun k => (k : Int) ≤ (nth q.Atoms (atomI q x.Table).toNat).Key ∧ ∀ j, j < k → valAt (nth q.Atoms (atomI q x.Table).toNat) x j = valAt (nth q.Atoms (atomI q x.Table).toNat) y j) (fun k => upd (upd (upd (upd (upd env0 3 (tPtr rConj q)) 4 (tPtr rFact x)) 5 (tPtr rFact y)) 7 (tV (.int .i64 (atomI q x.Table)))) 8 (tV (.int .i64 k))) (fun k => []) (fun k => (nth q.Atoms (atomI q x.Table).toNat).Key.toNat - k) 0 ⟨by omega, fun k hk => by omega⟩ (.u (.u (.u (.u (SubE.upd Sr SubE.any))))) (LSub.rfl) ?_
 rintro k ⟨hk, hw⟩
 refine J_seq (Jr (Jm rfl (Js rfl (step_fieldAddr so25 Sr rfl) (Jl rfl ty23 Sr (Jm rfl ?_)))))
 refine Js rfl (step_indexAddr_sl (i := (atomI q x.Table).toNat) underlying23 ty47 Sr Sr (by exact n1) (gb (by exact n2))) ?_
 refine Js rfl (step_fieldAddr so47 Sr rfl) (Jl rfl ty3 Sr (Js rfl (step_lss Sr Sr) (JL_nil ?_)))
 refine J_cond Sr (fun h30 => ?_) (fun h30 => ?_)
 ·
  try simp only [NF] at h30
  have hkt : k < (nth q.Atoms (atomI q x.Table).toNat).Cols.length := by omega
  have hx3 := hfx k hkt
  have hy3 := hfy k hkt
  refine J_skip (J_seq (J_block (Jr (Js rfl (step_fieldAddr so25 Sr rfl) (Jl rfl ty23 Sr ?_)))))
  refine Jm rfl ?_
  refine Js rfl (step_indexAddr_sl (i := (atomI q x.Table).toNat) underlying23 ty47 Sr Sr (by exact n1) (gb (by exact n2))) ?_
  refine Js rfl (step_fieldAddr so47 Sr rfl) (Jl rfl ty27 Sr (Jm rfl ?_))
  refine Js rfl (step_indexAddr_sl (i := k) underlying27 ty3 Sr Sr (by rfl) (gb (by exact hkt))) ?_
  refine Jl rfl ty3 Sr (Ja rfl (JL_nil (J_seq ?_)))
  refine J_draw [⟨0, [4], true⟩, ⟨1, [42], true⟩, ⟨2, [9], true⟩, ⟨3, [43, 44], true⟩, ⟨4, [45], true⟩, ⟨5, [5], true⟩, ⟨6, [47], true⟩, ⟨7, [9], true⟩, ⟨8, [48, 49], true⟩, ⟨9, [50], true⟩, ⟨10, [46, 51], true⟩] rfl (by kernel_rfl) ?_
  refine Mf rfl rfl (step_fieldAddr so45 Sr rfl) (Mf rfl rfl (step_load_ptr ty22 Sr) (Mv rfl rfl ?_))
  refine Mf rfl rfl (step_indexAddr_sl (i := (nth (nth q.Atoms (atomI q x.Table).toNat).Cols k).toNat) underlying22 ty58 Sr Sr (by show (nth (nth q.Atoms (atomI q x.Table).toNat).Cols k) = _; omega) (gb (by show (nth (nth q.Atoms (atomI q x.Table).toNat).Cols k).toNat < x.Row.length; omega))) ?_
  refine Mf rfl rfl (step_load_ptr ty58 Sr) (Mf rfl rfl (step_fieldAddr so45 Sr rfl) (Mf rfl rfl (step_load_ptr ty22 Sr) (Mv rfl rfl ?_)))
  refine Mf rfl rfl (step_indexAddr_sl (i := (nth (nth q.Atoms (atomI q x.Table).toNat).Cols k).toNat) underlying22 ty58 Sr Sr (by show (nth (nth q.Atoms (atomI q x.Table).toNat).Cols k) = _; omega) (gb (by show (nth (nth q.Atoms (atomI q x.Table).toNat).Cols k).toNat < y.Row.length; omega))) ?_
  refine Mf rfl rfl (step_load_ptr ty58 Sr) (Mf rfl rfl (step_neq_val Sr Sr) (JM_nil ?_))
  refine J_cond Sr (fun h52 => ?_) (fun h52 => ?_)
  ·
   try simp only [NF] at h52
   refine Jr (Ja rfl (JL_nil (J_ret ?_)))
   refine K_ret1' (rv := .tmp 6) rfl () (Sel.all _) (.tmp Sr) (Frz.sub (Sub.bool ?_))
   cases hs : sameM q x y with
   | false => rfl
   | true => exact absurd (hsv.1 hs k zG) h52
  try simp only [NF] at h52
  refine J_skip (J_region (Jm rfl (Js rfl (step_add Sr Sr z6) (Ja rfl (JL_nil ?_)))))
  refine K_againL (σ := Nat) (s := k) (k + 1) zO ?_ (.u (.u (.u (.u (SubE.upd Sr SubE.any))))) (LSub.rfl)
  refine ⟨by omega, fun j hj => ?_⟩
  by_cases e : j = k
  ·
   subst e; exact h52
  exact hw j zG
 try simp only [NF] at h30
 refine J_exit (Jr (Ja rfl (JL_nil (J_ret ?_))))
 refine K_ret1' (rv := .tmp 6) rfl () (Sel.all _) (.tmp Sr) (Frz.sub (Sub.bool ?_))
 rw [hsv.2 fun j hj => hw j zG]
open Go Go.Proofs Go.Proofs.Tryz
/-- Elements from place a on are changed for those from place b on, n of each. -/
def swapR (l : List (List Int)) (a b : Nat) : Nat → List (List Int)
  | 0 => l
  | n + 1 => ((swapR l a b n).set (a + n) (nth (swapR l a b n) (b + n))).set (b + n) (nth (swapR l a b n) (a + n))
theorem swapR_len (l : List (List Int)) (a b : Nat) : ∀ n, (swapR l a b n).length = l.length
  | 0 => rfl
  | n + 1 => by simp [swapR, swapR_len l a b n]
theorem byLen_spec (a b : List Int) (ha : a.length ≤ 1000000) (hb : b.length ≤ 1000000) : Fun1 prog 103 [tSl rInt a, tSl rInt b] (tV (.int .i64 ((a.length : Int) - b.length))) := by
 refine Spec.enter func103 rfl rfl fun h0 w0 fr0 => ?_
 refine Jr (Ja rfl (JL_nil (Jr (Jm rfl (Js rfl (step_len_sl underlying27 Sr) ?_)))))
 refine Jm rfl (Js rfl (step_len_sl underlying27 Sr) (Js rfl (step_sub Sr Sr z6) (Ja rfl (JL_nil (J_ret ?_)))))
 exact K_ret1 (t := 4) rfl () Sr
set_option maxHeartbeats 1000000 in
theorem swapRange_spec (v : Value) (xs : List (List Int)) (a b n : Nat) (ha : a + n ≤ xs.length) (hb : b + n ≤ xs.length) (hl : xs.length ≤ 1000000) : Spec (X := Unit) prog 203 [rV.ty v, tV (.int .i64 a), tV (.int .i64 b), tV (.int .i64 n), tV (.func (.func 103) #[] #[])] ([own 27 (rSl rInt) v (xs)]) (fun _ => tTup []) (fun _ => [own 27 (rSl rInt) v (swapR xs a b n)]) := by
 refine Spec.enter func203 rfl rfl fun h0 w0 fr0 => ?_
 refine Jr (Ja rfl (JL_nil (J_block ?_)))
 refine J_loopL (σ := Nat) (fun i => i ≤ n) (fun i => upd (upd (upd (upd (upd env0 0 (rV.ty v)) 1 (tV (.int .i64 a))) 2 (tV (.int .i64 b))) 3 (tV (.int .i64 n))) 10 (tV (.int .i64 i))) (fun i => [own 27 (rSl rInt) v (swapR xs a b i)]) (fun i => n - i) 0 (Nat.zero_le _) (.u (.u (.u (.u (SubE.upd Sr SubE.any))))) (LSub.cons zS (SPs.rfl) (LSub.nil)) ?_
 rintro i hi
 refine J_seq (Jr (Jm rfl (Jm rfl (Js rfl (step_lss Sr Sr) (JL_nil ?_)))))
 refine J_cond Sr (fun h13 => ?_) (fun h13 => ?_)
 ·
  try simp only [NF] at h13
  have hlt : i < n := by omega
  have hsl := swapR_len xs a b i
  refine J_skip (J_seq (J_block ?_))
  refine J_drawX [⟨0, [0], 0⟩, ⟨1, [1], 0⟩, ⟨2, [10], 0⟩, ⟨3, [17, 18], 0⟩, ⟨4, [0], 0⟩, ⟨5, [2], 0⟩, ⟨6, [10], 0⟩, ⟨7, [21, 22], 0⟩, ⟨8, [0], 0⟩, ⟨9, [2], 0⟩, ⟨10, [10], 0⟩, ⟨11, [25, 26], 0⟩, ⟨14, [0], 0⟩, ⟨15, [1], 0⟩, ⟨16, [10], 0⟩, ⟨17, [31, 32], 0⟩, ⟨12, [24, 27], 1⟩, ⟨13, [28], 1⟩, ⟨18, [30, 33], 1⟩, ⟨19, [34], 1⟩, ⟨20, [16, 19], 1⟩, ⟨21, [29, 36], 2⟩, ⟨22, [20, 23], 1⟩, ⟨23, [35, 37], 2⟩] rfl (by kernel_rfl) ?_
  refine JX_step rfl rfl rfl rfl (fun _ => step_move Sr) ?_
  refine JX_step rfl rfl rfl rfl (fun _ => step_move Sr) ?_
  refine JX_step rfl rfl rfl rfl (fun _ => step_move Sr) ?_
  refine JX_step rfl rfl rfl rfl (fun _ => step_add Sr Sr z6) ?_
  refine JX_step rfl rfl rfl rfl (fun _ => step_move Sr) ?_
  refine JX_step rfl rfl rfl rfl (fun _ => step_move Sr) ?_
  refine JX_step rfl rfl rfl rfl (fun _ => step_move Sr) ?_
  refine JX_step rfl rfl rfl rfl (fun _ => step_add Sr Sr z6) ?_
  refine JX_step rfl rfl rfl rfl (fun _ => step_move Sr) ?_
  refine JX_step rfl rfl rfl rfl (fun _ => step_move Sr) ?_
  refine JX_step rfl rfl rfl rfl (fun _ => step_move Sr) ?_
  refine JX_step rfl rfl rfl rfl (fun _ => step_add Sr Sr z6) ?_
  refine JX_step rfl rfl rfl rfl (fun _ => step_move Sr) ?_
  refine JX_step rfl rfl rfl rfl (fun _ => step_move Sr) ?_
  refine JX_step rfl rfl rfl rfl (fun _ => step_move Sr) ?_
  refine JX_step rfl rfl rfl rfl (fun _ => step_add Sr Sr z6) ?_
  refine JX_look rfl rfl rfl rfl (step_indexAddr_own (i := (b + i)) underlying28 ty27 Sr zS Sr zG zG) ?_
  refine JX_look rfl rfl rfl rfl (step_load_own ty27 Sr zS (gb (by first | assumption | omega))) ?_
  refine JX_look rfl rfl rfl rfl (step_indexAddr_own (i := (a + i)) underlying28 ty27 Sr zS Sr zG zG) ?_
  refine JX_look rfl rfl rfl rfl (step_load_own ty27 Sr zS (gb (by first | assumption | omega))) ?_
  refine JX_look rfl rfl rfl rfl (step_indexAddr_own (i := (a + i)) underlying28 ty27 Sr zS Sr zG zG) ?_
  refine JX_stepU rfl rfl rfl (step_store_own ty27 Sr Sr zS (by first | assumption | omega)) fun _ => ?_
  refine JX_look rfl rfl rfl rfl (step_indexAddr_own (i := (b + i)) underlying28 ty27 Sr zS Sr zG (by rw [List.length_set]; omega)) ?_
  refine JX_stepU rfl rfl rfl (step_store_own ty27 Sr Sr zS (by rw [List.length_set]; omega)) fun _ => ?_
  refine JX_nil (J_region (Jm rfl (Js rfl (step_add Sr Sr z6) (Ja rfl (JL_nil ?_)))))
  refine K_againL (σ := Nat) (s := i) (i + 1) zO hlt (.u (.u (.u (.u (SubE.upd Sr SubE.any))))) (LSub.cons zS (SPs.rfl) (LSub.nil))
 try simp only [NF] at h13
 obtain rfl : i = n := by omega
 refine J_exit ?_
 refine K_end0 rfl () Sr
open Go Go.Proofs Go.Proofs.Tryz
theorem nthS {α : Type} [Inhabited α] {l : List α} {i : Nat} {x : α} (hi : i < l.length) (k : Nat) : nth (l.set i x) k = if k = i then x else nth l k := by
  by_cases hk : k < l.length
  · rw [nth_get (by simpa using hk), List.getElem_set, nth_get hk]
    by_cases e : i = k
    · subst e; simp
    · rw [if_neg e, if_neg (fun q => e q.symm)]
  · have h0 : ∀ (l : List α) (v : Nat), l.length ≤ v → nth l v = default := by
      intro l
      induction l with
      | nil => intro v _; cases v <;> rfl
      | cons a l ih => intro v hv; obtain ⟨w, rfl⟩ : ∃ w, v = w + 1 := ⟨v - 1, by simp at hv; omega⟩; exact ih w (by simpa using hv)
    rw [h0 _ _ (by simp; omega), h0 _ _ (by omega), if_neg (by omega)]
theorem swapR_nth {l : List (List Int)} {a b : Nat} : ∀ {n : Nat}, a + n ≤ b → b + n ≤ l.length → ∀ k, nth (swapR l a b n) k = if a ≤ k ∧ k < a + n then nth l (k + (b - a)) else if b ≤ k ∧ k < b + n then nth l (k - (b - a)) else nth l k
  | 0, _, _, k => by
    rw [if_neg (by omega), if_neg (by omega)]; rfl
  | n + 1, h1, h2, k => by
    have ih := swapR_nth (l := l) (a := a) (b := b) (n := n) (by omega) (by omega)
    have hl := swapR_len l a b n
    unfold swapR
    rw [nthS (by rw [List.length_set]; omega), nthS (by omega)]
    simp only [ih]
    (repeat' split) <;> (first | rfl | (exfalso; omega) | (congr 1; omega))
theorem set_swap_perm {xs : List (List Int)} {i j : Nat} (hi : i < xs.length) (hj : j < xs.length) : ((xs.set i (nth xs j)).set j (nth xs i)).Perm xs := by
  rw [nth_get hi, nth_get hj]
  exact List.set_set_perm hi hj
theorem swapR_perm (l : List (List Int)) (a b : Nat) : ∀ n, a + n ≤ l.length → b + n ≤ l.length → (swapR l a b n).Perm l
  | 0, _, _ => List.Perm.refl _
  | n + 1, ha, hb => by
    have ih := swapR_perm l a b n (by omega) (by omega)
    have hl := swapR_len l a b n
    exact (set_swap_perm (xs := swapR l a b n) (i := a + n) (j := b + n) (by omega) (by omega)).trans ih
/-- What stands at place k when [a,m) and [m,b) have changed places. -/
def rotF (l : List (List Int)) (a m b k : Nat) : List Int := if a ≤ k ∧ k < a + (b - m) then nth l (k + (m - a)) else if a + (b - m) ≤ k ∧ k < b then nth l (k - (b - m)) else nth l k
theorem rot_one {l : List (List Int)} {m i j : Nat} (hi : i ≤ m) (hij : j < i) (hl : m + j ≤ l.length) (k : Nat) : rotF l (m - i) m (m + j) k = rotF (swapR l (m - i) m j) (m - (i - j)) m (m + j) k := by
  have sw := swapR_nth (l := l) (a := m - i) (b := m) (n := j) (by omega) hl
  unfold rotF
  simp only [sw]
  (repeat' split) <;> (first | rfl | (exfalso; omega) | (congr 1; omega))
theorem rot_two {l : List (List Int)} {m i j : Nat} (hi : i ≤ m) (hij : i < j) (hl : m + j ≤ l.length) (k : Nat) : rotF l (m - i) m (m + j) k = rotF (swapR l (m - i) (m + j - i) i) (m - i) m (m + (j - i)) k := by
  have sw := swapR_nth (l := l) (a := m - i) (b := m + j - i) (n := i) (by omega) (by omega)
  unfold rotF
  simp only [sw]
  (repeat' split) <;> (first | rfl | (exfalso; omega) | (congr 1; omega))
theorem rot_end {l : List (List Int)} {m i : Nat} (hi : i ≤ m) (hl : m + i ≤ l.length) (k : Nat) : rotF l (m - i) m (m + i) k = nth (swapR l (m - i) m i) k := by
  have sw := swapR_nth (l := l) (a := m - i) (b := m) (n := i) (by omega) hl
  unfold rotF
  rw [sw]
  (repeat' split) <;> (first | rfl | (exfalso; omega) | (congr 1; omega))
/-- ys is xs with [a,m) and [m,b) exchanged. -/
def IsRot (xs : List (List Int)) (a m b : Nat) (ys : List (List Int)) : Prop := ys.length = xs.length ∧ (∀ k, nth ys k = rotF xs a m b k) ∧ ys.Perm xs
def RotI (xs : List (List Int)) (a m b i j : Nat) (ys : List (List Int)) : Prop := 1 ≤ i ∧ 1 ≤ j ∧ i ≤ m - a ∧ j ≤ b - m ∧ ys.length = xs.length ∧ (∀ k, rotF xs a m b k = rotF ys (m - i) m (m + j) k) ∧ ys.Perm xs
theorem RotI.start {xs : List (List Int)} {a m b : Nat} (h1 : a < m) (h2 : m < b) : RotI xs a m b (m - a) (b - m) xs :=
  ⟨by omega, by omega, Nat.le_refl _, Nat.le_refl _, rfl, fun k => by rw [show m - (m - a) = a by omega, show m + (b - m) = b by omega], List.Perm.refl _⟩
theorem RotI.one {xs ys : List (List Int)} {a m b i j : Nat} (h : RotI xs a m b i j ys) (ham : a < m) (hb : m < b) (hl : b ≤ xs.length) (hij : j < i) : RotI xs a m b (i - j) j (swapR ys (m - i) m j) := by
  obtain ⟨h1, h2, h3, h4, h5, h6, h7⟩ := h
  refine ⟨by omega, h2, by omega, h4, by rw [swapR_len, h5], fun k => ?_, (swapR_perm _ _ _ _ (by omega) (by omega)).trans h7⟩
  rw [h6, rot_one (by omega) hij (by omega)]
theorem RotI.two {xs ys : List (List Int)} {a m b i j : Nat} (h : RotI xs a m b i j ys) (ham : a < m) (hb : m < b) (hl : b ≤ xs.length) (hij : i < j) : RotI xs a m b i (j - i) (swapR ys (m - i) (m + j - i) i) := by
  obtain ⟨h1, h2, h3, h4, h5, h6, h7⟩ := h
  refine ⟨h1, by omega, h3, by omega, by rw [swapR_len, h5], fun k => ?_, (swapR_perm _ _ _ _ (by omega) (by omega)).trans h7⟩
  rw [h6, rot_two (by omega) hij (by omega)]
theorem RotI.done {xs ys : List (List Int)} {a m b i : Nat} (h : RotI xs a m b i i ys) (ham : a < m) (hb : m < b) (hl : b ≤ xs.length) : IsRot xs a m b (swapR ys (m - i) m i) := by
  obtain ⟨h1, h2, h3, h4, h5, h6, h7⟩ := h
  refine ⟨by rw [swapR_len, h5], fun k => ?_, (swapR_perm _ _ _ _ (by omega) (by omega)).trans h7⟩
  rw [h6, rot_end (by omega) (by omega)]
open Go Go.Proofs Go.Proofs.Tryz
set_option maxHeartbeats 1000000 in
theorem rotate_spec (v : Value) (xs : List (List Int)) (a m b : Nat) (ham : a < m) (hmb : m < b) (hb : b ≤ xs.length) (hl : xs.length ≤ 1000000) : Spec (X := { ys : List (List Int) // IsRot xs a m b ys }) prog 182 [rV.ty v, tV (.int .i64 a), tV (.int .i64 m), tV (.int .i64 b), tV (.func (.func 103) #[] #[])] ([own 27 (rSl rInt) v (xs)]) (fun ys => tTup []) (fun ys => [own 27 (rSl rInt) v (ys.1)]) := by
 refine Spec.enter func182 rfl rfl fun h0 w0 fr0 => ?_
 refine Jr (Jm rfl (Jm rfl (Js rfl (step_sub Sr Sr z6) (Ja rfl (JL_nil ?_)))))
 refine Jr (Jm rfl (Jm rfl (Js rfl (step_sub Sr Sr z6) (Ja rfl (JL_nil ?_)))))
 refine J_seq (J_block ?_)
 refine J_loopL (σ := Nat × Nat × List (List Int)) (fun ⟨i, j, ys⟩ => RotI xs a m b i j ys) (fun ⟨i, j, ys⟩ => upd (upd (upd (upd (upd env0 0 (rV.ty v)) 2 (tV (.int .i64 m))) 4 (tV (.func (.func 103) #[] #[]))) 10 (tV (.int .i64 i))) 11 (tV (.int .i64 j))) (fun ⟨i, j, ys⟩ => [own 27 (rSl rInt) v (ys)]) (fun ⟨i, j, ys⟩ => i + j) (m - a, b - m, xs) (RotI.start ham hmb) (SubE.upd (Sub.int zG) (SubE.upd (Sub.int zG) (.u (.u (SubE.upd Sr SubE.any))))) (LSub.cons zS (SPs.rfl) (LSub.nil)) ?_
 rintro ⟨i, j, ys⟩ hr
 try dsimp only at hr
 have hr0 := hr
 obtain ⟨hr1, hr2, hr3, hr4, hr5, _, _⟩ := hr0
 refine J_seq (Jr (Jm rfl (Jm rfl (Js rfl (step_neq Sr Sr) (JL_nil ?_)))))
 refine J_cond Sr (fun h20 => ?_) (fun h20 => ?_)
 ·
  try simp only [NF] at h20
  have hij : i ≠ j := by omega
  refine J_skip (J_block (Jr (Jm rfl (Jm rfl (Js rfl (step_gtr Sr Sr) ?_)))))
  refine JL_nil ?_
  refine J_cond Sr (fun h23 => ?_) (fun h23 => ?_)
  ·
   try simp only [NF] at h23
   refine Jr (Jm rfl (Jm rfl (Jm rfl (Js rfl (step_sub Sr Sr z6) (Jm rfl ?_)))))
   refine Jm rfl (Jm rfl ?_)
   refine Jx rfl (step_call zS (swapRange_spec v ys (m - i) m j zG zG zG) ⟨Sr, Sub.int zG, Sr, Sr, Sr, trivial⟩ call203) fun v31 => ?_
   refine JL_nil (J_region (Jm rfl (Jm rfl (Js rfl (step_sub Sr Sr z6) (Ja rfl ?_)))))
   refine JL_nil ?_
   refine K_againL (σ := Nat × Nat × List (List Int)) (s := (i, j, ys)) (i - j, j, swapR ys (m - i) m j) zO (hr.one ham hmb hb zG) (.u (SubE.upd (Sub.int zG) (.u (.u (SubE.upd Sr SubE.any))))) (LSub.cons zS (SPs.rfl) (LSub.nil))
  try simp only [NF] at h23
  refine Jr (Jm rfl (Jm rfl (Jm rfl (Js rfl (step_sub Sr Sr z6) (Jm rfl ?_)))))
  refine Jm rfl (Js rfl (step_add Sr Sr z6) (Jm rfl (Js rfl (step_sub Sr Sr z6) (Jm rfl (Jm rfl ?_)))))
  refine Jx rfl (step_call zS (swapRange_spec v ys (m - i) (m + j - i) i zG zG zG) ⟨Sr, Sub.int zG, Sub.int zG, Sr, Sr, trivial⟩ call203) fun v46 => ?_
  refine JL_nil (J_region (Jm rfl (Jm rfl (Js rfl (step_sub Sr Sr z6) (Ja rfl ?_)))))
  refine JL_nil ?_
  refine K_againL (σ := Nat × Nat × List (List Int)) (s := (i, j, ys)) (i, j - i, swapR ys (m - i) (m + j - i) i) zO (hr.two ham hmb hb zG) (SubE.upd (Sub.int zG) (.u (.u (.u (SubE.upd Sr SubE.any))))) (LSub.cons zS (SPs.rfl) (LSub.nil))
 try simp only [NF] at h20
 obtain rfl : i = j := by omega
 refine J_exit (J_region (Jm rfl (Jm rfl (Jm rfl (Js rfl (step_sub Sr Sr z6) ?_)))))
 refine Jm rfl (Jm rfl (Jm rfl ?_))
 refine Jx rfl (step_call zS (swapRange_spec v ys (m - i) m i zG zG zG) ⟨Sr, Sub.int zG, Sr, Sr, Sr, trivial⟩ call203) fun v57 => ?_
 refine JL_nil ?_
 refine K_end0 rfl (⟨swapR ys (m - i) m i, hr.done ham hmb hb⟩ : { ys : List (List Int) // IsRot xs a m b ys }) Sr
open Go Go.Proofs Go.Proofs.Tryz
abbrev LL := List (List Int)
/-- From xs to ys only [a,b) is changed, and its elements stay there. -/
structure Mrg (xs : LL) (a b : Nat) (ys : LL) : Prop where
  len : ys.length = xs.length
  out : ∀ k, ¬ (a ≤ k ∧ k < b) → nth ys k = nth xs k
  frm : ∀ k, a ≤ k → k < b → ∃ k', a ≤ k' ∧ k' < b ∧ nth ys k = nth xs k'
  perm : ys.Perm xs
theorem Mrg.refl (xs : LL) (a b : Nat) : Mrg xs a b xs := ⟨rfl, fun _ _ => rfl, fun k h1 h2 => ⟨k, h1, h2, rfl⟩, List.Perm.refl _⟩
theorem Mrg.trans {xs ys zs : LL} {a b : Nat} (h : Mrg xs a b ys) (g : Mrg ys a b zs) : Mrg xs a b zs :=
  ⟨g.len.trans h.len, fun k hk => (g.out k hk).trans (h.out k hk), fun k h1 h2 => by
    obtain ⟨k1, a1, b1, e1⟩ := g.frm k h1 h2
    obtain ⟨k2, a2, b2, e2⟩ := h.frm k1 a1 b1
    exact ⟨k2, a2, b2, e1.trans e2⟩, g.perm.trans h.perm⟩
theorem Mrg.wide {xs ys : LL} {a b a' b' : Nat} (h : Mrg xs a b ys) (ha : a' ≤ a) (hb : b ≤ b') : Mrg xs a' b' ys :=
  ⟨h.len, fun k hk => h.out k (by omega), fun k h1 h2 => by
    by_cases hk : a ≤ k ∧ k < b
    · obtain ⟨k1, a1, b1, e1⟩ := h.frm k hk.1 hk.2
      exact ⟨k1, by omega, by omega, e1⟩
    · exact ⟨k, h1, h2, h.out k hk⟩, h.perm⟩
def swapI (xs : LL) (i j : Nat) : LL := (xs.set i (nth xs j)).set j (nth xs i)
theorem swapI_nth {xs : LL} {i j : Nat} (hi : i < xs.length) (hj : j < xs.length) (k : Nat) : nth (swapI xs i j) k = if k = j then nth xs i else if k = i then nth xs j else nth xs k := by
  unfold swapI
  rw [nthS (by rw [List.length_set]; exact hj), nthS hi]
theorem swapI_perm {xs : LL} {i j : Nat} (hi : i < xs.length) (hj : j < xs.length) : (swapI xs i j).Perm xs := by
  unfold swapI
  rw [nth_get hi, nth_get hj]
  exact List.set_set_perm hi hj
theorem swapI_mrg {xs : LL} {i j a b : Nat} (hi : a ≤ i ∧ i < b) (hj : a ≤ j ∧ j < b) (hb : b ≤ xs.length) : Mrg xs a b (swapI xs i j) := by
  have hn := swapI_nth (xs := xs) (i := i) (j := j) (by omega) (by omega)
  refine ⟨by simp [swapI], fun k hk => ?_, fun k h1 h2 => ?_, swapI_perm (by omega) (by omega)⟩
  · rw [hn, if_neg (by omega), if_neg (by omega)]
  · rw [hn]
    by_cases e : k = j
    · rw [if_pos e]; exact ⟨i, hi.1, hi.2, rfl⟩
    · rw [if_neg e]
      by_cases e2 : k = i
      · rw [if_pos e2]; exact ⟨j, hj.1, hj.2, rfl⟩
      · rw [if_neg e2]; exact ⟨k, h1, h2, rfl⟩
theorem IsRot.mrg {xs ys : LL} {a m b : Nat} (h : IsRot xs a m b ys) (ham : a < m) (hmb : m < b) : Mrg xs a b ys := by
  obtain ⟨h1, h2, h3⟩ := h
  refine ⟨h1, fun k hk => ?_, fun k c1 c2 => ?_, h3⟩
  · rw [h2]; unfold rotF; rw [if_neg (by omega), if_neg (by omega)]
  · rw [h2]; unfold rotF
    by_cases e1 : a ≤ k ∧ k < a + (b - m)
    · rw [if_pos e1]; exact ⟨_, by omega, by omega, rfl⟩
    · rw [if_neg e1, if_pos (by omega)]; exact ⟨_, by omega, by omega, rfl⟩
/-- Sorted by length on [a,b). -/
def Srt (xs : LL) (a b : Nat) : Prop := ∀ i j, a ≤ i → i ≤ j → j < b → (nth xs i).length ≤ (nth xs j).length
theorem Srt.congr {xs ys : LL} {a b : Nat} (h : Srt xs a b) (e : ∀ k, a ≤ k → k < b → nth ys k = nth xs k) : Srt ys a b := fun i j h1 h2 h3 => by
  rw [e i h1 (by omega), e j (by omega) h3]; exact h i j h1 h2 h3
theorem Srt.congr' {xs ys : LL} {a m s : Nat} (h : Srt xs a m) (e : ∀ k, a ≤ k → k < s → nth ys k = nth xs k) (hs : s ≤ m) : Srt ys a s := fun i j h1 h2 h3 => by
  rw [e i h1 (by omega), e j (by omega) h3]; exact h i j h1 h2 (by omega)
theorem Srt.join {xs : LL} {a m b : Nat} (h1 : Srt xs a m) (h2 : Srt xs m b) (h : ∀ i j, a ≤ i → i < m → m ≤ j → j < b → (nth xs i).length ≤ (nth xs j).length) : Srt xs a b := fun i j hi hij hj => by
  by_cases c1 : j < m
  · exact h1 i j hi hij c1
  · by_cases c2 : i < m
    · exact h i j hi c2 (by omega) hj
    · exact h2 i j (by omega) hij hj
/-- The element at a moved to k, a ≤ k. -/
def MvU (xs : LL) (a k : Nat) (ys : LL) : Prop := ∀ t, nth ys t = if a ≤ t ∧ t < k then nth xs (t + 1) else if t = k then nth xs a else nth xs t
theorem MvU.start (xs : LL) (a : Nat) : MvU xs a a xs := fun t => by
  by_cases e : t = a
  · subst e; rw [if_neg (by omega), if_pos rfl]
  · rw [if_neg (by omega), if_neg e]
theorem MvU.step {xs ys : LL} {a k : Nat} (h : MvU xs a k ys) (hak : a ≤ k) (hl : k + 1 < ys.length) : MvU xs a (k + 1) (swapI ys k (k + 1)) := fun t => by
  rw [swapI_nth (by omega) hl, h, h, h]
  (repeat' split) <;> (first | rfl | (exfalso; omega) | (congr 1; omega))
theorem MvU.sorted {xs ys : LL} {a i b : Nat} (h : MvU xs a (i - 1) ys) (hi : a + 1 ≤ i) (hib : i ≤ b) (hs : Srt xs (a + 1) b) (h1 : ∀ t, a + 1 ≤ t → t < i → (nth xs t).length < (nth xs a).length) (h2 : ∀ t, i ≤ t → t < b → (nth xs a).length ≤ (nth xs t).length) : Srt ys a b := by
  intro p q hp hpq hq
  rw [h, h]
  by_cases c1 : a ≤ p ∧ p < i - 1
  · rw [if_pos c1]
    by_cases c2 : a ≤ q ∧ q < i - 1
    · rw [if_pos c2]; exact hs _ _ (by omega) (by omega) (by omega)
    · rw [if_neg c2]
      have := h1 (p + 1) (by omega) (by omega)
      by_cases c3 : q = i - 1
      · rw [if_pos c3]; omega
      · rw [if_neg c3]
        have := h2 q (by omega) hq
        omega
  · rw [if_neg c1, if_neg (by omega : ¬ (a ≤ q ∧ q < i - 1))]
    by_cases c3 : p = i - 1
    · rw [if_pos c3]
      by_cases c4 : q = i - 1
      · rw [if_pos c4]; exact Nat.le_refl _
      · rw [if_neg c4]; exact h2 q (by omega) hq
    · rw [if_neg c3, if_neg (by omega)]
      exact hs _ _ (by omega) (by omega) (by omega)
/-- The element at m moved to k, k ≤ m. -/
def MvD (xs : LL) (m k : Nat) (ys : LL) : Prop := ∀ t, nth ys t = if k < t ∧ t ≤ m then nth xs (t - 1) else if t = k then nth xs m else nth xs t
theorem MvD.start (xs : LL) (m : Nat) : MvD xs m m xs := fun t => by
  by_cases e : t = m
  · subst e; rw [if_neg (by omega), if_pos rfl]
  · rw [if_neg (by omega), if_neg e]
theorem MvD.step {xs ys : LL} {m k : Nat} (h : MvD xs m k ys) (hk : 1 ≤ k) (hkm : k ≤ m) (hl : k < ys.length) : MvD xs m (k - 1) (swapI ys k (k - 1)) := fun t => by
  rw [swapI_nth hl (by omega), h, h, h]
  (repeat' split) <;> (first | rfl | (exfalso; omega) | (congr 1; omega))
theorem MvD.sorted {xs ys : LL} {a i m : Nat} (h : MvD xs m i ys) (ha : a ≤ i) (him : i ≤ m) (hs : Srt xs a m) (h1 : ∀ t, a ≤ t → t < i → (nth xs t).length ≤ (nth xs m).length) (h2 : ∀ t, i ≤ t → t < m → (nth xs m).length < (nth xs t).length) : Srt ys a (m + 1) := by
  intro p q hp hpq hq
  rw [h, h]
  by_cases c1 : i < p ∧ p ≤ m
  · rw [if_pos c1, if_pos (by omega : i < q ∧ q ≤ m)]
    exact hs _ _ (by omega) (by omega) (by omega)
  · rw [if_neg c1]
    by_cases c3 : p = i
    · rw [if_pos c3]
      by_cases c4 : i < q ∧ q ≤ m
      · rw [if_pos c4]
        have := h2 (q - 1) (by omega) (by omega)
        omega
      · rw [if_neg c4, if_pos (by omega)]; exact Nat.le_refl _
    · rw [if_neg c3]
      by_cases c4 : i < q ∧ q ≤ m
      · rw [if_pos c4]
        exact hs _ _ (by omega) (by omega) (by omega)
      · rw [if_neg c4]
        by_cases c5 : q = i
        · rw [if_pos c5]; exact h1 p hp (by omega)
        · rw [if_neg c5]; exact hs _ _ (by omega) (by omega) (by omega)
/-- The rotated middle: both halves are two runs, and all of the left is at most all of the right. -/
theorem rot_halves {xs ys : LL} {a m b s : Nat} (ham : a < m) (hmb : m < b) (h1 : Srt xs a m) (h2 : Srt xs m b) {mid e : Nat} (hmid : a ≤ s ∧ s ≤ m ∧ m ≤ e ∧ e ≤ b ∧ s + (e - m) = mid)
    (lo : a < s → e < b → (nth xs (s - 1)).length ≤ (nth xs e).length) (hi : m < e → s < m → (nth xs (e - 1)).length < (nth xs s).length) (hr : ∀ k, nth ys k = rotF xs s m e k) :
    Srt ys a s ∧ Srt ys s mid ∧ Srt ys mid e ∧ Srt ys e b ∧ ∀ i j, a ≤ i → i < mid → mid ≤ j → j < b → (nth ys i).length ≤ (nth ys j).length := by
  obtain ⟨q1, q2, q3, q4, q5⟩ := hmid
  have v1 : ∀ k, a ≤ k → k < s → nth ys k = nth xs k := fun k c1 c2 => by rw [hr]; unfold rotF; rw [if_neg (by omega), if_neg (by omega)]
  have v2 : ∀ k, s ≤ k → k < mid → nth ys k = nth xs (k + (m - s)) := fun k c1 c2 => by rw [hr]; unfold rotF; rw [if_pos (by omega)]
  have v3 : ∀ k, mid ≤ k → k < e → nth ys k = nth xs (k - (e - m)) := fun k c1 c2 => by rw [hr]; unfold rotF; rw [if_neg (by omega), if_pos (by omega)]
  have v4 : ∀ k, e ≤ k → k < b → nth ys k = nth xs k := fun k c1 c2 => by rw [hr]; unfold rotF; rw [if_neg (by omega), if_neg (by omega)]
  refine ⟨h1.congr' v1 (by omega), ?_, ?_, ?_, ?_⟩
  · intro i j c1 c2 c3
    rw [v2 i c1 (by omega), v2 j (by omega) c3]
    exact h2 _ _ (by omega) (by omega) (by omega)
  · intro i j c1 c2 c3
    rw [v3 i c1 (by omega), v3 j (by omega) c3]
    exact h1 _ _ (by omega) (by omega) (by omega)
  · intro i j c1 c2 c3
    rw [v4 i c1 (by omega), v4 j (by omega) c3]
    exact h2 _ _ (by omega) (by omega) (by omega)
  · intro i j c1 c2 c3 c4
    by_cases d1 : i < s
    · rw [v1 i c1 d1]
      by_cases d2 : j < e
      · rw [v3 j c3 d2]; exact h1 _ _ (by omega) (by omega) (by omega)
      · rw [v4 j (by omega) c4]
        have e1 := h1 i (s - 1) c1 (by omega) (by omega)
        have e2 := h2 e j (by omega) (by omega) c4
        have e3 := lo (by omega) (by omega)
        omega
    · rw [v2 i (by omega) c2]
      by_cases d2 : j < e
      · rw [v3 j c3 d2]
        have e1 := h2 (i + (m - s)) (e - 1) (by omega) (by omega) (by omega)
        have e2 := h1 s (j - (e - m)) (by omega) (by omega) (by omega)
        have e3 := hi (by omega) (by omega)
        omega
      · rw [v4 j (by omega) c4]
        exact h2 _ _ (by omega) (by omega) (by omega)
open Go Go.Proofs Go.Proofs.Tryz
def Crs (xs : LL) (a m b : Nat) : Prop := ∀ i j, a ≤ i → i < m → m ≤ j → j < b → (nth xs i).length ≤ (nth xs j).length
structure Mid1 (xs : LL) (a b s mid e : Nat) (ys : LL) : Prop where
  mrg : Mrg xs a b ys
  s1 : Srt ys a s
  s2 : Srt ys s mid
  s3 : Srt ys mid e
  s4 : Srt ys e b
  cr : Crs ys a mid b
structure Mid2 (xs : LL) (a b mid e : Nat) (ys : LL) : Prop where
  mrg : Mrg xs a b ys
  s12 : Srt ys a mid
  s3 : Srt ys mid e
  s4 : Srt ys e b
  cr : Crs ys a mid b
theorem Mid1.of {xs ys : LL} {a m b s mid e : Nat} (ham : a < m) (hmb : m < b) (h1 : Srt xs a m) (h2 : Srt xs m b) (hmid : a ≤ s ∧ s ≤ m ∧ m ≤ e ∧ e ≤ b ∧ s + (e - m) = mid)
    (lo : a < s → e < b → (nth xs (s - 1)).length ≤ (nth xs e).length) (hi : m < e → s < m → (nth xs (e - 1)).length < (nth xs s).length) (hm : Mrg xs a b ys) (hr : ∀ k, nth ys k = rotF xs s m e k) : Mid1 xs a b s mid e ys := by
  obtain ⟨r1, r2, r3, r4, r5⟩ := rot_halves ham hmb h1 h2 hmid lo hi hr
  exact ⟨hm, r1, r2, r3, r4, r5⟩
theorem rotF_id {xs : LL} {s m e : Nat} (h : s = m ∨ e = m) (hs : s ≤ m) (he : m ≤ e) (k : Nat) : nth xs k = rotF xs s m e k := by
  unfold rotF
  rcases h with h | h
  · subst h
    by_cases c : s ≤ k ∧ k < s + (e - s)
    · rw [if_pos c]; congr 1; omega
    · rw [if_neg c, if_neg (by omega)]
  · subst h
    rw [if_neg (by omega)]
    by_cases c : s + (e - e) ≤ k ∧ k < e
    · rw [if_pos c]; congr 1; omega
    · rw [if_neg c]
theorem Mid1.left {xs ys zs : LL} {a b s mid e : Nat} (h : Mid1 xs a b s mid e ys) (hme : mid ≤ e) (hmb : mid ≤ b) (g : Mrg ys a mid zs) (gs : Srt zs a mid) : Mid2 xs a b mid e zs := by
  have out : ∀ k, mid ≤ k → nth zs k = nth ys k := fun k hk => g.out k (by omega)
  refine ⟨h.mrg.trans (g.wide (Nat.le_refl _) hmb), gs, ?_, ?_, ?_⟩
  · intro i j c1 c2 c3
    rw [out i c1, out j (by omega)]; exact h.s3 i j c1 c2 c3
  · intro i j c1 c2 c3
    rw [out i (by omega), out j (by omega)]; exact h.s4 i j c1 c2 c3
  · intro i j c1 c2 c3 c4
    obtain ⟨k, k1, k2, k3⟩ := g.frm i c1 c2
    rw [k3, out j c3]; exact h.cr k j k1 k2 c3 c4
theorem Mid1.skip {xs ys : LL} {a b s mid e : Nat} (h : Mid1 xs a b s mid e ys) (hs : a ≤ s ∧ s ≤ mid) (c : s ≤ a ∨ mid ≤ s) : Mid2 xs a b mid e ys := by
  refine ⟨h.mrg, ?_, h.s3, h.s4, h.cr⟩
  rcases c with c | c
  · obtain rfl : s = a := by omega
    exact h.s2
  · obtain rfl : s = mid := by omega
    exact h.s1
theorem Mid2.right {xs zs ws : LL} {a b mid e : Nat} (h : Mid2 xs a b mid e zs) (ham : a ≤ mid) (hmb : mid ≤ b) (g : Mrg zs mid b ws) (gs : Srt ws mid b) : Mrg xs a b ws ∧ Srt ws a b := by
  have out : ∀ k, k < mid → nth ws k = nth zs k := fun k hk => g.out k (by omega)
  refine ⟨h.mrg.trans (g.wide ham (Nat.le_refl _)), Srt.join ?_ gs ?_⟩
  · intro i j c1 c2 c3
    rw [out i (by omega), out j c3]; exact h.s12 i j c1 c2 c3
  · intro i j c1 c2 c3 c4
    obtain ⟨k, k1, k2, k3⟩ := g.frm j c3 c4
    rw [k3, out i c2]; exact h.cr i k c1 c2 k1 k2
theorem Mid2.skip {xs zs : LL} {a b mid e : Nat} (h : Mid2 xs a b mid e zs) (he : mid ≤ e ∧ e ≤ b) (c : e ≤ mid ∨ b ≤ e) : Mrg xs a b zs ∧ Srt zs a b := by
  refine ⟨h.mrg, Srt.join h.s12 ?_ h.cr⟩
  rcases c with c | c
  · obtain rfl : e = mid := by omega
    exact h.s4
  · obtain rfl : e = b := by omega
    exact h.s3
section
variable {C : Cx} {E : Env} {L : List SP} {d : Option Nat} {ty : Nat} {pos : String} {af : Array Edge} {g : Option (Nat × Bool)}
/-- Half of an unsigned number. -/
theorem step_half {T U : Nat} {x y : Operand} {yk : IntKind} {n : Nat} (hx : Sub (opTy E x) (tV (.int .u64 n))) (hy : Sub (opTy E y) (tV (.int yk 1))) :
    Step1 C ⟨d, .binOp .shr T x y U, ty, pos, af, g⟩ E L (tV (.int .u64 ((n / 2 : Nat) : Int))) := step_shift (.inr rfl) hx hy (fun P w => by
  have e := shift_shr .u64 yk n 1 (by omega) (by decide)
  rw [e]; simp)
end
open Go Go.Proofs Go.Proofs.Tryz
abbrev cmpT : Ty := tV (.func (.func 103) #[] #[])
abbrev lnN (xs : LL) (k : Nat) : Nat := (nth xs k).length
def SMrg (n : Nat) : Prop := ∀ (v : Value) (xs : LL) (a m b : Nat), a < m → m < b → b ≤ xs.length → xs.length ≤ 1000000 → (∀ k, (nth xs k).length ≤ 1000000) → Srt xs a m → Srt xs m b → b - a ≤ n →
  Spec (X := { ys : LL // Mrg xs a b ys ∧ Srt ys a b }) prog 151 [rV.ty v, tV (.int .i64 a), tV (.int .i64 m), tV (.int .i64 b), cmpT] [own 27 (rSl rInt) v xs] (fun _ => tTup []) (fun ys => [own 27 (rSl rInt) v ys.1])
theorem Mrg.bd {xs ys : LL} {a b : Nat} (h : Mrg xs a b ys) {N : Nat} (hx : ∀ k, (nth xs k).length ≤ N) (k : Nat) : (nth ys k).length ≤ N := by
  by_cases hk : a ≤ k ∧ k < b
  · obtain ⟨k', _, _, e⟩ := h.frm k hk.1 hk.2
    rw [e]; exact hx k'
  · rw [h.out k hk]; exact hx k
/-- Search for a place to the right. -/
def FndR (xs : LL) (a m b i j : Nat) : Prop := m ≤ i ∧ i ≤ j ∧ j ≤ b ∧ (∀ t, m ≤ t → t < i → lnN xs t < lnN xs a) ∧ ∀ t, j ≤ t → t < b → lnN xs a ≤ lnN xs t
def FndL (xs : LL) (a m i j : Nat) : Prop := a ≤ i ∧ i ≤ j ∧ j ≤ m ∧ (∀ t, a ≤ t → t < i → lnN xs t ≤ lnN xs m) ∧ ∀ t, j ≤ t → t < m → lnN xs m < lnN xs t
theorem FndR.up {xs : LL} {a m b i j : Nat} (h : FndR xs a m b i j) (hs : Srt xs m b) (hij : i < j) (hc : lnN xs ((i + j) / 2) < lnN xs a) : FndR xs a m b ((i + j) / 2 + 1) j := by
  obtain ⟨h1, h2, h3, h4, h5⟩ := h
  refine ⟨by omega, by omega, h3, fun t c1 c2 => ?_, h5⟩
  have := hs t ((i + j) / 2) c1 (by omega) (by omega)
  unfold lnN at *; omega
theorem FndR.down {xs : LL} {a m b i j : Nat} (h : FndR xs a m b i j) (hs : Srt xs m b) (hij : i < j) (hc : ¬ lnN xs ((i + j) / 2) < lnN xs a) : FndR xs a m b i ((i + j) / 2) := by
  obtain ⟨h1, h2, h3, h4, h5⟩ := h
  refine ⟨h1, by omega, by omega, h4, fun t c1 c2 => ?_⟩
  have := hs ((i + j) / 2) t (by omega) c1 c2
  unfold lnN at *; omega
theorem FndL.up {xs : LL} {a m i j : Nat} (h : FndL xs a m i j) (hs : Srt xs a m) (hij : i < j) (hc : ¬ lnN xs m < lnN xs ((i + j) / 2)) : FndL xs a m ((i + j) / 2 + 1) j := by
  obtain ⟨h1, h2, h3, h4, h5⟩ := h
  refine ⟨by omega, by omega, h3, fun t c1 c2 => ?_, h5⟩
  have := hs t ((i + j) / 2) c1 (by omega) (by omega)
  unfold lnN at *; omega
theorem FndL.down {xs : LL} {a m i j : Nat} (h : FndL xs a m i j) (hs : Srt xs a m) (hij : i < j) (hc : lnN xs m < lnN xs ((i + j) / 2)) : FndL xs a m i ((i + j) / 2) := by
  obtain ⟨h1, h2, h3, h4, h5⟩ := h
  refine ⟨h1, by omega, by omega, h4, fun t c1 c2 => ?_⟩
  have := hs ((i + j) / 2) t (by omega) c1 (by omega)
  unfold lnN at *; omega
/-- The search for the place of the rotation. -/
def FndM (xs : LL) (a m b s r : Nat) : Prop := a ≤ s ∧ s ≤ r ∧ r ≤ m ∧ r ≤ (a + b) / 2 ∧ (a + b) / 2 + m ≤ s + b ∧
  (a < s → (a + b) / 2 + m - s < b → lnN xs (s - 1) ≤ lnN xs ((a + b) / 2 + m - s)) ∧ (m < (a + b) / 2 + m - r → r < m → lnN xs ((a + b) / 2 + m - r - 1) < lnN xs r)
theorem FndM.start1 {xs : LL} {a m b : Nat} (ham : a < m) (hmb : m < b) (h : (a + b) / 2 < m) : FndM xs a m b ((a + b) / 2 + m - b) ((a + b) / 2) :=
  ⟨by omega, by omega, by omega, by omega, by omega, fun c1 c2 => by exfalso; omega, fun c1 c2 => by exfalso; omega⟩
theorem FndM.start2 {xs : LL} {a m b : Nat} (ham : a < m) (hmb : m < b) (h : m ≤ (a + b) / 2) : FndM xs a m b a m :=
  ⟨by omega, by omega, by omega, by omega, by omega, fun c1 c2 => by exfalso; omega, fun c1 c2 => by exfalso; omega⟩
theorem FndM.up {xs : LL} {a m b s r : Nat} (h : FndM xs a m b s r) (hsr : s < r) (hc : ¬ lnN xs ((a + b) / 2 + m - 1 - (s + r) / 2) < lnN xs ((s + r) / 2)) : FndM xs a m b ((s + r) / 2 + 1) r := by
  obtain ⟨h1, h2, h3, h4, h5, h6, h7⟩ := h
  refine ⟨by omega, by omega, h3, h4, by omega, fun c1 c2 => ?_, h7⟩
  rw [show (s + r) / 2 + 1 - 1 = (s + r) / 2 by omega, show (a + b) / 2 + m - ((s + r) / 2 + 1) = (a + b) / 2 + m - 1 - (s + r) / 2 by omega]
  omega
theorem FndM.down {xs : LL} {a m b s r : Nat} (h : FndM xs a m b s r) (hsr : s < r) (hc : lnN xs ((a + b) / 2 + m - 1 - (s + r) / 2) < lnN xs ((s + r) / 2)) : FndM xs a m b s ((s + r) / 2) := by
  obtain ⟨h1, h2, h3, h4, h5, h6, h7⟩ := h
  refine ⟨h1, by omega, by omega, by omega, h5, h6, fun c1 c2 => ?_⟩
  rw [show (a + b) / 2 + m - (s + r) / 2 - 1 = (a + b) / 2 + m - 1 - (s + r) / 2 by omega]
  exact hc
theorem FndM.mid {xs ys : LL} {a m b s : Nat} (ham : a < m) (hmb : m < b) (h1 : Srt xs a m) (h2 : Srt xs m b) (h : FndM xs a m b s s) (hm : Mrg xs a b ys) (hr : ∀ k, nth ys k = rotF xs s m ((a + b) / 2 + m - s) k) : Mid1 xs a b s ((a + b) / 2) ((a + b) / 2 + m - s) ys := by
  obtain ⟨c1, c2, c3, c4, c5, c6, c7⟩ := h
  exact Mid1.of ham hmb h1 h2 ⟨c1, c3, by omega, by omega, by omega⟩ c6 c7 hm hr
set_option maxHeartbeats 8000000 in
theorem symMergeS_spec (n : Nat) (ih : SMrg n) (v : Value) (xs : LL) (a m b : Nat) (ham : a < m) (hmb : m < b) (hb : b ≤ xs.length) (hl : xs.length ≤ 1000000) (hx : ∀ k, (nth xs k).length ≤ 1000000) (hs1 : Srt xs a m) (hs2 : Srt xs m b) (hn : b - a ≤ n + 1) : Spec (X := { ys : LL // Mrg xs a b ys ∧ Srt ys a b }) prog 151 [rV.ty v, tV (.int .i64 a), tV (.int .i64 m), tV (.int .i64 b), cmpT] ([own 27 (rSl rInt) v (xs)]) (fun ys => tTup []) (fun ys => [own 27 (rSl rInt) v (ys.1)]) := by
 refine Spec.enter func151 rfl rfl fun h0 w0 fr0 => ?_
 refine J_seq (Jr (Jm rfl (Jm rfl (Js rfl (step_sub Sr Sr z6) (Js rfl (step_eql Sr Sr) ?_)))))
 refine JL_nil ?_
 refine J_cond Sr (fun h28 => ?_) (fun h28 => ?_)
 ·
  try simp only [NF] at h28
  have hm1 : m = a + 1 := by omega
  refine Jr (Jm rfl (Ja rfl (JL_nil (Jr (Jm rfl ?_)))))
  refine Ja rfl (JL_nil (J_seq (J_block ?_)))
  refine J_loopL (σ := Nat × Nat) (fun ⟨i, j⟩ => FndR xs a m b i j) (fun ⟨i, j⟩ => upd (upd (upd (upd (upd (upd (upd env0 0 (rV.ty v)) 1 (tV (.int .i64 a))) 2 (tV (.int .i64 m))) 3 (tV (.int .i64 b))) 4 (cmpT)) 10 (tV (.int .i64 i))) 11 (tV (.int .i64 j))) (fun ⟨i, j⟩ => [own 27 (rSl rInt) v (xs)]) (fun ⟨i, j⟩ => j - i) (m, b) ⟨by omega, by omega, by omega, fun t c1 c2 => by exfalso; omega, fun t c1 c2 => by exfalso; omega⟩ (.u (.u (.u (.u (.u (.u (SubE.upd Sr SubE.any))))))) (LSub.cons zS (SPs.rfl) (LSub.nil)) ?_
  rintro ⟨i, j⟩ hf
  try dsimp only at hf
  refine J_seq (Jr (Jm rfl (Jm rfl (Js rfl (step_lss Sr Sr) (JL_nil ?_)))))
  refine J_cond Sr (fun h33 => ?_) (fun h33 => ?_)
  ·
   try simp only [NF] at h33
   have hff := hf
   obtain ⟨f1, f2, f3, f4, f5⟩ := hff
   refine J_skip (J_block (Jr (Jm rfl (Jm rfl (Js rfl (step_add Sr Sr z6) ?_)))))
   refine Js rfl (step_convert_int (m := ((i + j : Nat) : Int)) underlying3 underlying164 Sr (by simp [IntKind.wrap, IntKind.bits, IntKind.signed]; omega)) ?_
   refine Js rfl (step_half Sr Sr) ?_
   refine Js rfl (step_convert_int (m := (((i + j) / 2 : Nat) : Int)) underlying164 underlying3 Sr (by simp [IntKind.wrap, IntKind.bits, IntKind.signed]; omega)) ?_
   refine Ja rfl (JL_nil (J_seq ?_))
   refine J_drawX [⟨0, [4], 0⟩, ⟨1, [0], 0⟩, ⟨2, [12], 0⟩, ⟨5, [0], 0⟩, ⟨6, [1], 0⟩, ⟨3, [41, 42], 1⟩, ⟨4, [43], 1⟩, ⟨7, [45, 46], 1⟩, ⟨8, [47], 1⟩, ⟨9, [40, 44, 48], 0⟩, ⟨10, [49], 0⟩] rfl (by kernel_rfl) ?_
   refine JX_step rfl rfl rfl rfl (fun _ => step_move Sr) ?_
   refine JX_step rfl rfl rfl rfl (fun _ => step_move Sr) ?_
   refine JX_step rfl rfl rfl rfl (fun _ => step_move Sr) ?_
   refine JX_step rfl rfl rfl rfl (fun _ => step_move Sr) ?_
   refine JX_step rfl rfl rfl rfl (fun _ => step_move Sr) ?_
   refine JX_look rfl rfl rfl rfl (step_indexAddr_own (i := ((i + j) / 2)) underlying28 ty27 Sr zS Sr (by rfl) zG) ?_
   refine JX_look rfl rfl rfl rfl (step_load_own ty27 Sr zS (gb (by first | assumption | omega))) ?_
   refine JX_look rfl rfl rfl rfl (step_indexAddr_own (i := a) underlying28 ty27 Sr zS Sr (by rfl) zG) ?_
   refine JX_look rfl rfl rfl rfl (step_load_own ty27 Sr zS (gb (by first | assumption | omega))) ?_
   refine JX_step rfl rfl rfl rfl (fun _ => step_callv0 (aT := [_, _]) (Sub.trans Sr Sub.clo0) (byLen_spec _ _ (hx ((i + j) / 2)) (hx a)) ⟨Sr, Sr, trivial⟩ call103) ?_
   refine JX_step rfl rfl rfl rfl (fun _ => step_lss Sr Sr) ?_
   refine JX_nil ?_
   refine J_cond Sr (fun h50 => ?_) (fun h50 => ?_)
   ·
    try simp only [NF] at h50
    refine J_region (Jm rfl (Js rfl (step_add Sr Sr z6) (Ja rfl (JL_nil ?_))))
    refine K_againL (σ := Nat × Nat) (s := (i, j)) ((i + j) / 2 + 1, j) zO (hf.up hs2 zG (by unfold lnN; omega)) (.u (.u (.u (.u (.u (.u (SubE.upd Sr SubE.any))))))) (LSub.cons zS (SPs.rfl) (LSub.nil))
   try simp only [NF] at h50
   refine J_region (Jm rfl (Ja rfl (JL_nil ?_)))
   refine K_againL (σ := Nat × Nat) (s := (i, j)) (i, (i + j) / 2) zO (hf.down hs2 zG (by unfold lnN; omega)) (.u (.u (.u (.u (.u (.u (SubE.upd Sr SubE.any))))))) (LSub.cons zS (SPs.rfl) (LSub.nil))
  try simp only [NF] at h33
  have hff := hf
  obtain ⟨f1, f2, f3, f4, f5⟩ := hff
  obtain rfl : i = j := by omega
  refine J_exit (J_seq (Jr (Jm rfl (Ja rfl (JL_nil ?_)))))
  refine J_block ?_
  refine J_loopL (σ := Nat × LL) (fun ⟨k, ys⟩ => a ≤ k ∧ k ≤ i - 1 ∧ MvU xs a k ys ∧ Mrg xs a b ys) (fun ⟨k, ys⟩ => upd (upd (upd (upd (upd (upd (upd env0 0 (rV.ty v)) 1 (tV (.int .i64 a))) 2 (tV (.int .i64 m))) 3 (tV (.int .i64 b))) 4 (cmpT)) 10 (tV (.int .i64 i))) 13 (tV (.int .i64 k))) (fun ⟨k, ys⟩ => [own 27 (rSl rInt) v (ys)]) (fun ⟨k, ys⟩ => i - 1 - k) (a, xs) ⟨Nat.le_refl _, by omega, MvU.start xs a, Mrg.refl xs a b⟩ (.u (.u (.u (.u (.u (.u (SubE.upd Sr SubE.any))))))) (LSub.cons zS (SPs.rfl) (LSub.nil)) ?_
  rintro ⟨k, ys⟩ ⟨hk1, hk2, hmv, hmg⟩
  have hln := hmg.len
  refine J_seq (Jr (Jm rfl (Jm rfl (Js rfl (step_sub Sr Sr z6) (Js rfl (step_lss Sr Sr) ?_)))))
  refine JL_nil ?_
  refine J_cond Sr (fun h58 => ?_) (fun h58 => ?_)
  ·
   try simp only [NF] at h58
   refine J_skip (J_seq (J_block ?_))
   refine J_drawX [⟨0, [0], 0⟩, ⟨1, [13], 0⟩, ⟨2, [0], 0⟩, ⟨3, [13], 0⟩, ⟨4, [64], 0⟩, ⟨5, [0], 0⟩, ⟨6, [13], 0⟩, ⟨7, [67], 0⟩, ⟨10, [0], 0⟩, ⟨11, [13], 0⟩, ⟨8, [66, 68], 1⟩, ⟨9, [69], 1⟩, ⟨12, [71, 72], 1⟩, ⟨13, [73], 1⟩, ⟨14, [61, 62], 1⟩, ⟨15, [70, 75], 2⟩, ⟨16, [63, 65], 1⟩, ⟨17, [74, 76], 2⟩] rfl (by kernel_rfl) ?_
   refine JX_step rfl rfl rfl rfl (fun _ => step_move Sr) ?_
   refine JX_step rfl rfl rfl rfl (fun _ => step_move Sr) ?_
   refine JX_step rfl rfl rfl rfl (fun _ => step_move Sr) ?_
   refine JX_step rfl rfl rfl rfl (fun _ => step_move Sr) ?_
   refine JX_step rfl rfl rfl rfl (fun _ => step_add Sr Sr z6) ?_
   refine JX_step rfl rfl rfl rfl (fun _ => step_move Sr) ?_
   refine JX_step rfl rfl rfl rfl (fun _ => step_move Sr) ?_
   refine JX_step rfl rfl rfl rfl (fun _ => step_add Sr Sr z6) ?_
   refine JX_step rfl rfl rfl rfl (fun _ => step_move Sr) ?_
   refine JX_step rfl rfl rfl rfl (fun _ => step_move Sr) ?_
   refine JX_look rfl rfl rfl rfl (step_indexAddr_own (i := (k + 1)) underlying28 ty27 Sr zS Sr zG zG) ?_
   refine JX_look rfl rfl rfl rfl (step_load_own ty27 Sr zS (gb (by first | assumption | omega))) ?_
   refine JX_look rfl rfl rfl rfl (step_indexAddr_own (i := k) underlying28 ty27 Sr zS Sr (by rfl) zG) ?_
   refine JX_look rfl rfl rfl rfl (step_load_own ty27 Sr zS (gb (by first | assumption | omega))) ?_
   refine JX_look rfl rfl rfl rfl (step_indexAddr_own (i := k) underlying28 ty27 Sr zS Sr (by rfl) zG) ?_
   refine JX_stepU rfl rfl rfl (step_store_own ty27 Sr Sr zS (by first | assumption | omega)) fun _ => ?_
   refine JX_look rfl rfl rfl rfl (step_indexAddr_own (i := (k + 1)) underlying28 ty27 Sr zS Sr zG (by rw [List.length_set]; omega)) ?_
   refine JX_stepU rfl rfl rfl (step_store_own ty27 Sr Sr zS (by rw [List.length_set]; omega)) fun _ => ?_
   refine JX_nil (J_region (Jm rfl (Js rfl (step_add Sr Sr z6) (Ja rfl (JL_nil ?_)))))
   refine K_againL (σ := Nat × LL) (s := (k, ys)) (k + 1, swapI ys k (k + 1)) zO ⟨by omega, by omega, hmv.step hk1 zG, hmg.trans (swapI_mrg ⟨hk1, by omega⟩ ⟨by omega, by omega⟩ zG)⟩ (.u (.u (.u (.u (.u (.u (SubE.upd Sr SubE.any))))))) (LSub.cons zS (SPs.rfl) (LSub.nil))
  try simp only [NF] at h58
  refine J_exit (J_ret ?_)
  refine K_ret0 rfl (⟨ys, hmg, MvU.sorted (i := i) (by rw [show i - 1 = k by omega]; exact hmv) zG f3 (by rw [← hm1]; exact hs2) (fun t c1 c2 => f4 t zG c2) f5⟩ : { ys : LL // Mrg xs a b ys ∧ Srt ys a b }) Sr
 try simp only [NF] at h28
 refine J_skip (J_seq (Jr (Jm rfl (Jm rfl (Js rfl (step_sub Sr Sr z6) ?_)))))
 refine Js rfl (step_eql Sr Sr) (JL_nil ?_)
 refine J_cond Sr (fun h80 => ?_) (fun h80 => ?_)
 ·
  try simp only [NF] at h80
  have hb1 : b = m + 1 := by omega
  refine Jr (Jm rfl (Ja rfl (JL_nil (Jr (Jm rfl ?_)))))
  refine Ja rfl (JL_nil (J_seq (J_block ?_)))
  refine J_loopL (σ := Nat × Nat) (fun ⟨i, j⟩ => FndL xs a m i j) (fun ⟨i, j⟩ => upd (upd (upd (upd (upd (upd (upd env0 0 (rV.ty v)) 1 (tV (.int .i64 a))) 2 (tV (.int .i64 m))) 3 (tV (.int .i64 b))) 4 (cmpT)) 14 (tV (.int .i64 i))) 15 (tV (.int .i64 j))) (fun ⟨i, j⟩ => [own 27 (rSl rInt) v (xs)]) (fun ⟨i, j⟩ => j - i) (a, m) ⟨by omega, by omega, by omega, fun t c1 c2 => by exfalso; omega, fun t c1 c2 => by exfalso; omega⟩ (.u (.u (.u (.u (.u (.u (SubE.upd Sr SubE.any))))))) (LSub.cons zS (SPs.rfl) (LSub.nil)) ?_
  rintro ⟨i, j⟩ hf
  try dsimp only at hf
  refine J_seq (Jr (Jm rfl (Jm rfl (Js rfl (step_lss Sr Sr) (JL_nil ?_)))))
  refine J_cond Sr (fun h85 => ?_) (fun h85 => ?_)
  ·
   try simp only [NF] at h85
   have hff := hf
   obtain ⟨f1, f2, f3, f4, f5⟩ := hff
   refine J_skip (J_block (Jr (Jm rfl (Jm rfl (Js rfl (step_add Sr Sr z6) ?_)))))
   refine Js rfl (step_convert_int (m := ((i + j : Nat) : Int)) underlying3 underlying164 Sr (by simp [IntKind.wrap, IntKind.bits, IntKind.signed]; omega)) ?_
   refine Js rfl (step_half Sr Sr) ?_
   refine Js rfl (step_convert_int (m := (((i + j) / 2 : Nat) : Int)) underlying164 underlying3 Sr (by simp [IntKind.wrap, IntKind.bits, IntKind.signed]; omega)) ?_
   refine Ja rfl (JL_nil (J_seq ?_))
   refine J_drawX [⟨0, [4], 0⟩, ⟨1, [0], 0⟩, ⟨2, [2], 0⟩, ⟨5, [0], 0⟩, ⟨6, [16], 0⟩, ⟨3, [93, 94], 1⟩, ⟨4, [95], 1⟩, ⟨7, [97, 98], 1⟩, ⟨8, [99], 1⟩, ⟨9, [92, 96, 100], 0⟩, ⟨10, [101], 0⟩, ⟨11, [102], 0⟩] rfl (by kernel_rfl) ?_
   refine JX_step rfl rfl rfl rfl (fun _ => step_move Sr) ?_
   refine JX_step rfl rfl rfl rfl (fun _ => step_move Sr) ?_
   refine JX_step rfl rfl rfl rfl (fun _ => step_move Sr) ?_
   refine JX_step rfl rfl rfl rfl (fun _ => step_move Sr) ?_
   refine JX_step rfl rfl rfl rfl (fun _ => step_move Sr) ?_
   refine JX_look rfl rfl rfl rfl (step_indexAddr_own (i := m) underlying28 ty27 Sr zS Sr (by rfl) zG) ?_
   refine JX_look rfl rfl rfl rfl (step_load_own ty27 Sr zS (gb (by first | assumption | omega))) ?_
   refine JX_look rfl rfl rfl rfl (step_indexAddr_own (i := ((i + j) / 2)) underlying28 ty27 Sr zS Sr (by rfl) zG) ?_
   refine JX_look rfl rfl rfl rfl (step_load_own ty27 Sr zS (gb (by first | assumption | omega))) ?_
   refine JX_step rfl rfl rfl rfl (fun _ => step_callv0 (aT := [_, _]) (Sub.trans Sr Sub.clo0) (byLen_spec _ _ (hx m) (hx ((i + j) / 2))) ⟨Sr, Sr, trivial⟩ call103) ?_
   refine JX_step rfl rfl rfl rfl (fun _ => step_lss Sr Sr) ?_
   refine JX_step rfl rfl rfl rfl (fun _ => step_not Sr) ?_
   refine JX_nil ?_
   refine J_cond Sr (fun h103 => ?_) (fun h103 => ?_)
   ·
    try simp only [NF] at h103
    refine J_region (Jm rfl (Js rfl (step_add Sr Sr z6) (Ja rfl (JL_nil ?_))))
    refine K_againL (σ := Nat × Nat) (s := (i, j)) ((i + j) / 2 + 1, j) zO (hf.up hs1 zG (by unfold lnN; omega)) (.u (.u (.u (.u (.u (.u (SubE.upd Sr SubE.any))))))) (LSub.cons zS (SPs.rfl) (LSub.nil))
   try simp only [NF] at h103
   refine J_region (Jm rfl (Ja rfl (JL_nil ?_)))
   refine K_againL (σ := Nat × Nat) (s := (i, j)) (i, (i + j) / 2) zO (hf.down hs1 zG (by unfold lnN; omega)) (.u (.u (.u (.u (.u (.u (SubE.upd Sr SubE.any))))))) (LSub.cons zS (SPs.rfl) (LSub.nil))
  try simp only [NF] at h85
  have hff := hf
  obtain ⟨f1, f2, f3, f4, f5⟩ := hff
  obtain rfl : i = j := by omega
  refine J_exit (J_seq (Jr (Jm rfl (Ja rfl (JL_nil ?_)))))
  refine J_block ?_
  refine J_loopL (σ := Nat × LL) (fun ⟨k, ys⟩ => i ≤ k ∧ k ≤ m ∧ MvD xs m k ys ∧ Mrg xs a b ys) (fun ⟨k, ys⟩ => upd (upd (upd (upd (upd (upd (upd env0 0 (rV.ty v)) 1 (tV (.int .i64 a))) 2 (tV (.int .i64 m))) 3 (tV (.int .i64 b))) 4 (cmpT)) 14 (tV (.int .i64 i))) 17 (tV (.int .i64 k))) (fun ⟨k, ys⟩ => [own 27 (rSl rInt) v (ys)]) (fun ⟨k, ys⟩ => k - i) (m, xs) ⟨f3, Nat.le_refl _, MvD.start xs m, Mrg.refl xs a b⟩ (.u (.u (.u (.u (.u (.u (SubE.upd Sr SubE.any))))))) (LSub.cons zS (SPs.rfl) (LSub.nil)) ?_
  rintro ⟨k, ys⟩ ⟨hk1, hk2, hmv, hmg⟩
  have hln := hmg.len
  refine J_seq (Jr (Jm rfl (Jm rfl (Js rfl (step_gtr Sr Sr) (JL_nil ?_)))))
  refine J_cond Sr (fun h110 => ?_) (fun h110 => ?_)
  ·
   try simp only [NF] at h110
   refine J_skip (J_seq (J_block ?_))
   refine J_drawX [⟨0, [0], 0⟩, ⟨1, [17], 0⟩, ⟨2, [0], 0⟩, ⟨3, [17], 0⟩, ⟨4, [116], 0⟩, ⟨5, [0], 0⟩, ⟨6, [17], 0⟩, ⟨7, [119], 0⟩, ⟨10, [0], 0⟩, ⟨11, [17], 0⟩, ⟨8, [118, 120], 1⟩, ⟨9, [121], 1⟩, ⟨12, [123, 124], 1⟩, ⟨13, [125], 1⟩, ⟨14, [113, 114], 1⟩, ⟨15, [122, 127], 2⟩, ⟨16, [115, 117], 1⟩, ⟨17, [126, 128], 2⟩] rfl (by kernel_rfl) ?_
   refine JX_step rfl rfl rfl rfl (fun _ => step_move Sr) ?_
   refine JX_step rfl rfl rfl rfl (fun _ => step_move Sr) ?_
   refine JX_step rfl rfl rfl rfl (fun _ => step_move Sr) ?_
   refine JX_step rfl rfl rfl rfl (fun _ => step_move Sr) ?_
   refine JX_step rfl rfl rfl rfl (fun _ => step_sub Sr Sr z6) ?_
   refine JX_step rfl rfl rfl rfl (fun _ => step_move Sr) ?_
   refine JX_step rfl rfl rfl rfl (fun _ => step_move Sr) ?_
   refine JX_step rfl rfl rfl rfl (fun _ => step_sub Sr Sr z6) ?_
   refine JX_step rfl rfl rfl rfl (fun _ => step_move Sr) ?_
   refine JX_step rfl rfl rfl rfl (fun _ => step_move Sr) ?_
   refine JX_look rfl rfl rfl rfl (step_indexAddr_own (i := (k - 1)) underlying28 ty27 Sr zS Sr zG zG) ?_
   refine JX_look rfl rfl rfl rfl (step_load_own ty27 Sr zS (gb (by first | assumption | omega))) ?_
   refine JX_look rfl rfl rfl rfl (step_indexAddr_own (i := k) underlying28 ty27 Sr zS Sr (by rfl) zG) ?_
   refine JX_look rfl rfl rfl rfl (step_load_own ty27 Sr zS (gb (by first | assumption | omega))) ?_
   refine JX_look rfl rfl rfl rfl (step_indexAddr_own (i := k) underlying28 ty27 Sr zS Sr (by rfl) zG) ?_
   refine JX_stepU rfl rfl rfl (step_store_own ty27 Sr Sr zS (by first | assumption | omega)) fun _ => ?_
   refine JX_look rfl rfl rfl rfl (step_indexAddr_own (i := (k - 1)) underlying28 ty27 Sr zS Sr zG (by rw [List.length_set]; omega)) ?_
   refine JX_stepU rfl rfl rfl (step_store_own ty27 Sr Sr zS (by rw [List.length_set]; omega)) fun _ => ?_
   refine JX_nil (J_region (Jm rfl (Js rfl (step_sub Sr Sr z6) (Ja rfl (JL_nil ?_)))))
   refine K_againL (σ := Nat × LL) (s := (k, ys)) (k - 1, swapI ys k (k - 1)) zO ⟨by omega, by omega, hmv.step zG hk2 zG, hmg.trans (swapI_mrg ⟨by omega, by omega⟩ ⟨by omega, by omega⟩ zG)⟩ (SubE.upd (Sub.int zG) (.u (.u (.u (.u (.u (SubE.upd Sr SubE.any))))))) (LSub.cons zS (SPs.rfl) (LSub.nil))
  try simp only [NF] at h110
  refine J_exit (J_ret ?_)
  refine K_ret0 rfl (⟨ys, hmg, by rw [hb1]; exact MvD.sorted (i := i) (by rw [show i = k by omega]; exact hmv) f1 f3 hs1 f4 f5⟩ : { ys : LL // Mrg xs a b ys ∧ Srt ys a b }) Sr
 try simp only [NF] at h80
 refine J_skip (Jr (Jm rfl (Jm rfl (Js rfl (step_add Sr Sr z6) ?_))))
 refine Js rfl (step_convert_int (m := ((a + b : Nat) : Int)) underlying3 underlying164 Sr (by simp [IntKind.wrap, IntKind.bits, IntKind.signed]; omega)) ?_
 refine Js rfl (step_half Sr Sr) ?_
 refine Js rfl (step_convert_int (m := (((a + b) / 2 : Nat) : Int)) underlying164 underlying3 Sr (by simp [IntKind.wrap, IntKind.bits, IntKind.signed]; omega)) ?_
 refine Ja rfl (JL_nil (Jr (Jm rfl (Jm rfl (Js rfl (step_add Sr Sr z6) ?_)))))
 refine Ja rfl (JL_nil (Jr (Ja rfl (Ja rfl (JL_nil ?_)))))
 refine J_seq (Jr (Jm rfl (Jm rfl (Js rfl (step_gtr Sr Sr) (JL_nil ?_)))))
 refine J_cut (X := { sr : Nat × Nat // FndM xs a m b sr.1 sr.2 }) (fun ⟨⟨s0, r0⟩, hf0⟩ => upd (upd (upd (upd (upd (upd (upd (upd (upd (upd (upd (upd (upd (upd (upd (upd (upd env0 0 (rV.ty v)) 1 (tV (.int .i64 a))) 2 (tV (.int .i64 m))) 3 (tV (.int .i64 b))) 4 (cmpT)) 18 (tV (.int .i64 ((((a + b) / 2) : Nat) : Int)))) 19 (tV (.int .i64 ((((a + b) / 2) + m : Nat) : Int)))) 20 (tV (.int .i64 s0))) 21 (tV (.int .i64 r0))) 25 (tV (.int .i64 m))) 26 (tV (.int .i64 a))) 77 (tV (.int .i64 b))) 78 (tV (.int .i64 m))) 129 (tV (.int .i64 a))) 130 (tV (.int .i64 b))) 136 (tV (.int .i64 m))) 138 (tV (.int .i64 m))) (fun ⟨⟨s0, r0⟩, hf0⟩ => [own 27 (rSl rInt) v (xs)]) ?_ ?_
 ·
  skip
  refine J_cond Sr (fun h140 => ?_) (fun h140 => ?_)
  ·
   try simp only [NF] at h140
   refine Jr (Jm rfl (Jm rfl (Js rfl (step_sub Sr Sr z6) (Ja rfl (JL_nil ?_)))))
   refine J_region (Jm rfl (Ja rfl (JL_nil ?_)))
   refine K_cut (E := fun _ => env0) ⟨(((a + b) / 2) + m - b, ((a + b) / 2)), FndM.start1 ham hmb zG⟩ (.u (.u (.u (.u (.u (.u (.u (.u (.u (SubE.upd (Sub.int (by first | omega | (dsimp only; omega))) (.u (.u (.u (.u (.u (.u (SubE.upd Sr SubE.any))))))))))))))))) (LSub.cons zS (SPs.rfl) (LSub.nil))
  try simp only [NF] at h140
  refine Jr (Jm rfl (Ja rfl (JL_nil (J_region (Jm rfl ?_)))))
  refine Ja rfl (JL_nil ?_)
  refine K_cut (E := fun _ => env0) ⟨(a, m), FndM.start2 ham hmb zG⟩ (.u (.u (.u (.u (.u (.u (.u (.u (.u (.u (.u (.u (.u (.u (.u (.u (SubE.upd Sr SubE.any))))))))))))))))) (LSub.cons zS (SPs.rfl) (LSub.nil))
 rintro ⟨⟨s0, r0⟩, hf0⟩
 refine Jr (Jm rfl (Js rfl (step_sub Sr Sr z6) (Ja rfl (JL_nil (J_seq ?_)))))
 refine J_block ?_
 refine J_loopL (σ := Nat × Nat) (fun ⟨s, r⟩ => FndM xs a m b s r) (fun ⟨s, r⟩ => upd (upd (upd (upd (upd (upd (upd (upd (upd (upd env0 0 (rV.ty v)) 1 (tV (.int .i64 a))) 2 (tV (.int .i64 m))) 3 (tV (.int .i64 b))) 4 (cmpT)) 18 (tV (.int .i64 ((((a + b) / 2) : Nat) : Int)))) 19 (tV (.int .i64 ((((a + b) / 2) + m : Nat) : Int)))) 20 (tV (.int .i64 s))) 21 (tV (.int .i64 r))) 22 (tV (.int .i64 ((((a + b) / 2) + m - 1 : Nat) : Int)))) (fun ⟨s, r⟩ => [own 27 (rSl rInt) v (xs)]) (fun ⟨s, r⟩ => r - s) (s0, r0) hf0 (SubE.upd (Sub.int zG) (.u (.u (.u (.u (.u (.u (.u (.u (SubE.upd Sr SubE.any)))))))))) (LSub.cons zS (SPs.rfl) (LSub.nil)) ?_
 rintro ⟨s, r⟩ hf
 try dsimp only at hf
 refine J_seq (Jr (Jm rfl (Jm rfl (Js rfl (step_lss Sr Sr) (JL_nil ?_)))))
 refine J_cond Sr (fun h151 => ?_) (fun h151 => ?_)
 ·
  try simp only [NF] at h151
  have hff := hf
  obtain ⟨f1, f2, f3, f4, f5, f6, f7⟩ := hff
  refine J_skip (J_block (Jr (Jm rfl (Jm rfl (Js rfl (step_add Sr Sr z6) ?_)))))
  refine Js rfl (step_convert_int (m := ((s + r : Nat) : Int)) underlying3 underlying164 Sr (by simp [IntKind.wrap, IntKind.bits, IntKind.signed]; omega)) ?_
  refine Js rfl (step_half Sr Sr) ?_
  refine Js rfl (step_convert_int (m := (((s + r) / 2 : Nat) : Int)) underlying164 underlying3 Sr (by simp [IntKind.wrap, IntKind.bits, IntKind.signed]; omega)) ?_
  refine Ja rfl (JL_nil (J_seq ?_))
  refine J_drawX [⟨0, [4], 0⟩, ⟨1, [0], 0⟩, ⟨2, [22], 0⟩, ⟨3, [23], 0⟩, ⟨4, [160, 161], 0⟩, ⟨7, [0], 0⟩, ⟨8, [23], 0⟩, ⟨5, [159, 162], 1⟩, ⟨6, [163], 1⟩, ⟨9, [165, 166], 1⟩, ⟨10, [167], 1⟩, ⟨11, [158, 164, 168], 0⟩, ⟨12, [169], 0⟩, ⟨13, [170], 0⟩] rfl (by kernel_rfl) ?_
  refine JX_step rfl rfl rfl rfl (fun _ => step_move Sr) ?_
  refine JX_step rfl rfl rfl rfl (fun _ => step_move Sr) ?_
  refine JX_step rfl rfl rfl rfl (fun _ => step_move Sr) ?_
  refine JX_step rfl rfl rfl rfl (fun _ => step_move Sr) ?_
  refine JX_step rfl rfl rfl rfl (fun _ => step_sub Sr Sr z6) ?_
  refine JX_step rfl rfl rfl rfl (fun _ => step_move Sr) ?_
  refine JX_step rfl rfl rfl rfl (fun _ => step_move Sr) ?_
  refine JX_look rfl rfl rfl rfl (step_indexAddr_own (i := ((a + b) / 2 + m - 1 - (s + r) / 2)) underlying28 ty27 Sr zS Sr zG zG) ?_
  refine JX_look rfl rfl rfl rfl (step_load_own ty27 Sr zS (gb (by first | assumption | omega))) ?_
  refine JX_look rfl rfl rfl rfl (step_indexAddr_own (i := ((s + r) / 2)) underlying28 ty27 Sr zS Sr (by rfl) zG) ?_
  refine JX_look rfl rfl rfl rfl (step_load_own ty27 Sr zS (gb (by first | assumption | omega))) ?_
  refine JX_step rfl rfl rfl rfl (fun _ => step_callv0 (aT := [_, _]) (Sub.trans Sr Sub.clo0) (byLen_spec _ _ (hx ((a + b) / 2 + m - 1 - (s + r) / 2)) (hx ((s + r) / 2))) ⟨Sr, Sr, trivial⟩ call103) ?_
  refine JX_step rfl rfl rfl rfl (fun _ => step_lss Sr Sr) ?_
  refine JX_step rfl rfl rfl rfl (fun _ => step_not Sr) ?_
  refine JX_nil ?_
  refine J_cond Sr (fun h171 => ?_) (fun h171 => ?_)
  ·
   try simp only [NF] at h171
   refine J_region (Jm rfl (Js rfl (step_add Sr Sr z6) (Ja rfl (JL_nil ?_))))
   refine K_againL (σ := Nat × Nat) (s := (s, r)) ((s + r) / 2 + 1, r) zO (hf.up zG (by unfold lnN; omega)) (.u (.u (.u (.u (.u (.u (.u (.u (.u (SubE.upd Sr SubE.any)))))))))) (LSub.cons zS (SPs.rfl) (LSub.nil))
  try simp only [NF] at h171
  refine J_region (Jm rfl (Ja rfl (JL_nil ?_)))
  refine K_againL (σ := Nat × Nat) (s := (s, r)) (s, (s + r) / 2) zO (hf.down zG (by unfold lnN; omega)) (.u (.u (.u (.u (.u (.u (.u (.u (.u (SubE.upd Sr SubE.any)))))))))) (LSub.cons zS (SPs.rfl) (LSub.nil))
 try simp only [NF] at h151
 have hff := hf
 obtain ⟨f1, f2, f3, f4, f5, f6, f7⟩ := hff
 obtain rfl : s = r := by omega
 refine J_exit (Jr (Jm rfl (Jm rfl (Js rfl (step_sub Sr Sr z6) (Ja rfl ?_)))))
 refine JL_nil (J_seq (Jr (Jm rfl (Jm rfl (Js rfl (step_lss Sr Sr) ?_)))))
 refine Jm rfl (Jg rfl Sr rfl (fun hw => step_move Sr) (Jg rfl Sr rfl (fun hw => step_move Sr) (Jg rfl Sr rfl (fun hw => step_lss (Sub.w hw) (Sub.w hw)) (Js rfl (step_pick_and Sr Sr) (JL_nil ?_)))))
 refine J_cut (X := { ys : LL // Mid1 xs a b s ((a + b) / 2) (((a + b) / 2) + m - s) ys }) (fun ⟨ys, hmd⟩ => upd (upd (upd (upd (upd (upd (upd (upd (upd (upd (upd (upd (upd (upd (upd env0 0 (rV.ty v)) 1 (tV (.int .i64 a))) 2 (tV (.int .i64 m))) 3 (tV (.int .i64 b))) 4 (cmpT)) 18 (tV (.int .i64 ((((a + b) / 2) : Nat) : Int)))) 19 (tV (.int .i64 ((((a + b) / 2) + m : Nat) : Int)))) 20 (tV (.int .i64 s))) 22 (tV (.int .i64 ((((a + b) / 2) + m - 1 : Nat) : Int)))) 24 (tV (.int .i64 (((((a + b) / 2) + m - s) : Nat) : Int)))) 149 (tV (.int .i64 s))) 175 (tV (.int .i64 ((((a + b) / 2) + m : Nat) : Int)))) 176 (tV (.int .i64 s))) 178 (tV (.int .i64 s))) 179 (tV (.int .i64 m))) (fun ⟨ys, hmd⟩ => [own 27 (rSl rInt) v (ys)]) ?_ ?_
 ·
  skip
  refine J_cond Sr (fun h185 => ?_) (fun h185 => ?_)
  ·
   try simp only [NF] at h185
   refine J_region (Jm rfl (Jm rfl (Jm rfl (Jm rfl (Jm rfl ?_)))))
   refine Jx rfl (step_call zS (rotate_spec v xs s m (((a + b) / 2) + m - s) zG zG zG hl) ⟨Sr, Sr, Sr, Sub.int zG, Sr, trivial⟩ call182) fun u191 => ?_
   refine JL_nil ?_
   refine K_cut (E := fun _ => env0) ⟨u191.1, FndM.mid ham hmb hs1 hs2 hf ((u191.2.mrg zG zG).wide f1 zG) (fun k => u191.2.2.1 k)⟩ (.u (.u (.u (.u (.u (SubE.upd (Sub.int zG) (.u (.u (.u (.u (.u (.u (.u (.u (SubE.upd Sr SubE.any))))))))))))))) (LSub.cons zS (SPs.rfl) (LSub.nil))
  try simp only [NF] at h185
  refine J_skip ?_
  refine K_cut (E := fun _ => env0) ⟨xs, FndM.mid ham hmb hs1 hs2 hf (Mrg.refl xs a b) (rotF_id zG f3 zG)⟩ (.u (.u (.u (.u (.u (SubE.upd (Sub.int zG) (.u (.u (.u (.u (.u (.u (.u (.u (SubE.upd Sr SubE.any))))))))))))))) (LSub.cons zS (SPs.rfl) (LSub.nil))
 rintro ⟨ys, hmd⟩
 refine J_seq (Jr (Jm rfl (Jm rfl (Js rfl (step_lss Sr Sr) (Jm rfl ?_)))))
 refine Jg rfl Sr rfl (fun hw => step_move Sr) (Jg rfl Sr rfl (fun hw => step_move Sr) (Jg rfl Sr rfl (fun hw => step_lss (Sub.w hw) (Sub.w hw)) (Js rfl (step_pick_and Sr Sr) (JL_nil ?_))))
 refine J_cut (X := { zs : LL // Mid2 xs a b ((a + b) / 2) (((a + b) / 2) + m - s) zs }) (fun ⟨zs, hm2⟩ => upd (upd (upd (upd (upd (upd (upd (upd (upd (upd (upd (upd (upd (upd (upd (upd (upd env0 0 (rV.ty v)) 1 (tV (.int .i64 a))) 2 (tV (.int .i64 m))) 3 (tV (.int .i64 b))) 4 (cmpT)) 18 (tV (.int .i64 ((((a + b) / 2) : Nat) : Int)))) 19 (tV (.int .i64 ((((a + b) / 2) + m : Nat) : Int)))) 20 (tV (.int .i64 s))) 22 (tV (.int .i64 ((((a + b) / 2) + m - 1 : Nat) : Int)))) 24 (tV (.int .i64 (((((a + b) / 2) + m - s) : Nat) : Int)))) 149 (tV (.int .i64 s))) 175 (tV (.int .i64 ((((a + b) / 2) + m : Nat) : Int)))) 176 (tV (.int .i64 s))) 178 (tV (.int .i64 s))) 179 (tV (.int .i64 m))) 192 (tV (.int .i64 a))) 193 (tV (.int .i64 s))) (fun ⟨zs, hm2⟩ => [own 27 (rSl rInt) v (zs)]) ?_ ?_
 ·
  skip
  refine J_cond Sr (fun h199 => ?_) (fun h199 => ?_)
  ·
   try simp only [NF] at h199
   refine J_region (Jm rfl (Jm rfl (Jm rfl (Jm rfl (Jm rfl ?_)))))
   refine Jx rfl (step_call zS (ih v ys a s ((a + b) / 2) zG zG (by have := hmd.mrg.len; omega) (by rw [hmd.mrg.len]; exact hl) (hmd.mrg.bd hx) hmd.s1 hmd.s2 zG) ⟨Sr, Sr, Sr, Sr, Sr, trivial⟩ call151) fun u205 => ?_
   refine JL_nil ?_
   refine K_cut (E := fun _ => env0) ⟨u205.1, hmd.left zG zG u205.2.1 u205.2.2⟩ (.u (.u (.u (.u (.u (.u (.u (.u (.u (.u (.u (.u (.u (.u (.u (.u (SubE.upd Sr SubE.any))))))))))))))))) (LSub.cons zS (SPs.rfl) (LSub.nil))
  try simp only [NF] at h199
  refine J_skip ?_
  refine K_cut (E := fun _ => env0) ⟨ys, hmd.skip ⟨by omega, by omega⟩ zG⟩ (.u (.u (.u (.u (.u (.u (.u (.u (.u (.u (.u (.u (.u (.u (.u (.u (SubE.upd Sr SubE.any))))))))))))))))) (LSub.cons zS (SPs.rfl) (LSub.nil))
 rintro ⟨zs, hm2⟩
 refine Jr (Jm rfl (Jm rfl (Js rfl (step_lss Sr Sr) (Jm rfl (Jg rfl Sr rfl (fun hw => step_move Sr) ?_)))))
 refine Jg rfl Sr rfl (fun hw => step_move Sr) (Jg rfl Sr rfl (fun hw => step_lss (Sub.w hw) (Sub.w hw)) (Js rfl (step_pick_and Sr Sr) (JL_nil ?_)))
 refine J_cond Sr (fun h213 => ?_) (fun h213 => ?_)
 ·
  try simp only [NF] at h213
  refine J_region (Jm rfl (Jm rfl (Jm rfl (Jm rfl (Jm rfl ?_)))))
  refine Jx rfl (step_call zS (ih v zs ((a + b) / 2) (((a + b) / 2) + m - s) b zG zG (by have := hm2.mrg.len; omega) (by rw [hm2.mrg.len]; exact hl) (hm2.mrg.bd hx) hm2.s3 hm2.s4 zG) ⟨Sr, Sr, Sr, Sr, Sr, trivial⟩ call151) fun u219 => ?_
  refine JL_nil ?_
  first | exact K_end0 rfl (⟨u219.1, hm2.right zG zG u219.2.1 u219.2.2⟩ : { ys : LL // Mrg xs a b ys ∧ Srt ys a b }) Sr | exact K_end0 rfl (⟨zs, hm2.skip ⟨by omega, by omega⟩ zG⟩ : { ys : LL // Mrg xs a b ys ∧ Srt ys a b }) Sr
 try simp only [NF] at h213
 refine J_skip ?_
 first | exact K_end0 rfl (⟨u219.1, hm2.right zG zG u219.2.1 u219.2.2⟩ : { ys : LL // Mrg xs a b ys ∧ Srt ys a b }) Sr | exact K_end0 rfl (⟨zs, hm2.skip ⟨by omega, by omega⟩ zG⟩ : { ys : LL // Mrg xs a b ys ∧ Srt ys a b }) Sr
open Go Go.Proofs Go.Proofs.Tryz
theorem symMerge_all : ∀ n, SMrg n
  | 0 => fun v xs a m b h1 h2 _ _ _ _ _ h => by exfalso; omega
  | n + 1 => fun v xs a m b h1 h2 h3 h4 h5 h6 h7 h8 => symMergeS_spec n (symMerge_all n) v xs a m b h1 h2 h3 h4 h5 h6 h7 h8
theorem symMerge_spec (v : Value) (xs : LL) (a m b : Nat) (ham : a < m) (hmb : m < b) (hb : b ≤ xs.length) (hl : xs.length ≤ 1000000) (hx : ∀ k, (nth xs k).length ≤ 1000000) (hs1 : Srt xs a m) (hs2 : Srt xs m b) :
    Spec (X := { ys : LL // Mrg xs a b ys ∧ Srt ys a b }) prog 151 [rV.ty v, tV (.int .i64 a), tV (.int .i64 m), tV (.int .i64 b), cmpT] [own 27 (rSl rInt) v xs] (fun _ => tTup []) (fun ys => [own 27 (rSl rInt) v ys.1]) :=
  symMerge_all (b - a) v xs a m b ham hmb hb hl hx hs1 hs2 (Nat.le_refl _)
/-- An element on its way down. -/
structure InsI (xs ys : LL) (a b i j : Nat) (zs : LL) : Prop where
  aj : a ≤ j
  ji : j ≤ i
  mv : MvD ys i j zs
  mrg : Mrg xs a b zs
  lt : ∀ t, j ≤ t → t < i → (nth ys i).length < (nth ys t).length
theorem InsI.start {xs ys : LL} {a b i : Nat} (ha : a ≤ i) (h : Mrg xs a b ys) : InsI xs ys a b i i ys := ⟨ha, Nat.le_refl _, MvD.start ys i, h, fun t c1 c2 => by exfalso; omega⟩
theorem InsI.cur {xs ys zs : LL} {a b i j : Nat} (h : InsI xs ys a b i j zs) : nth zs j = nth ys i := by rw [h.mv, if_neg (by omega), if_pos rfl]
theorem InsI.below {xs ys zs : LL} {a b i j : Nat} (h : InsI xs ys a b i j zs) (hj : 1 ≤ j) : nth zs (j - 1) = nth ys (j - 1) := by rw [h.mv, if_neg (by omega), if_neg (by omega)]
theorem InsI.step {xs ys zs : LL} {a b i j : Nat} (h : InsI xs ys a b i j zs) (hj : a < j) (hib : i < b) (hb : b ≤ xs.length) (hc : (nth zs j).length < (nth zs (j - 1)).length) : InsI xs ys a b i (j - 1) (swapI zs j (j - 1)) := by
  have hln := h.mrg.len
  have h1 := h.ji
  refine ⟨by omega, by omega, h.mv.step (by omega) h.ji (by omega), h.mrg.trans (swapI_mrg ⟨h.aj, by omega⟩ ⟨by omega, by omega⟩ (by omega)), fun t c1 c2 => ?_⟩
  by_cases e : j ≤ t
  · exact h.lt t e c2
  · obtain rfl : t = j - 1 := by omega
    rw [h.cur, h.below (by omega)] at hc
    exact hc
theorem InsI.done {xs ys zs : LL} {a b i j : Nat} (h : InsI xs ys a b i j zs) (hs : Srt ys a i) (hc : j ≤ a ∨ ¬ (nth zs j).length < (nth zs (j - 1)).length) : Srt zs a (i + 1) := by
  refine MvD.sorted h.mv h.aj h.ji hs (fun t c1 c2 => ?_) h.lt
  rcases hc with hc | hc
  · exfalso; omega
  · have := h.ji
    rw [h.cur, h.below (by omega)] at hc
    have := hs t (j - 1) c1 (by omega) (by omega)
    omega
theorem InsI.bdz {xs ys zs : LL} {a b i j : Nat} (h : InsI xs ys a b i j zs) {N : Nat} (hx : ∀ k, (nth xs k).length ≤ N) (k : Nat) : (nth zs k).length ≤ N := h.mrg.bd hx k
set_option maxHeartbeats 2000000 in
theorem insertionSort_spec (v : Value) (xs : LL) (a b : Nat) (hab : a ≤ b) (hb : b ≤ xs.length) (hl : xs.length ≤ 1000000) (hx : ∀ k, (nth xs k).length ≤ 1000000) : Spec (X := { ys : LL // Mrg xs a b ys ∧ Srt ys a b }) prog 150 [rV.ty v, tV (.int .i64 a), tV (.int .i64 b), cmpT] ([own 27 (rSl rInt) v (xs)]) (fun ys => tTup []) (fun ys => [own 27 (rSl rInt) v (ys.1)]) := by
 refine Spec.enter func150 rfl rfl fun h0 w0 fr0 => ?_
 refine Jr (Jm rfl (Js rfl (step_add Sr Sr z6) (Ja rfl (JL_nil (J_block ?_)))))
 refine J_loopL (σ := Nat × LL) (fun ⟨i, ys⟩ => a + 1 ≤ i ∧ (i ≤ b ∨ i = a + 1) ∧ Srt ys a i ∧ Mrg xs a b ys) (fun ⟨i, ys⟩ => upd (upd (upd (upd (upd env0 0 (rV.ty v)) 1 (tV (.int .i64 a))) 2 (tV (.int .i64 b))) 3 (cmpT)) 8 (tV (.int .i64 i))) (fun ⟨i, ys⟩ => [own 27 (rSl rInt) v (ys)]) (fun ⟨i, ys⟩ => b - i) (a + 1, xs) ⟨Nat.le_refl _, .inr rfl, fun p q c1 c2 c3 => by (have e : p = q := by omega); rw [e]; exact Nat.le_refl _, Mrg.refl xs a b⟩ (SubE.upd (Sub.int (by simp)) (.u (.u (.u (SubE.upd Sr SubE.any))))) (LSub.cons zS (SPs.rfl) (LSub.nil)) ?_
 rintro ⟨i, ys⟩ ⟨hi1, hi2, hsr, hmg⟩
 refine J_seq (Jr (Jm rfl (Jm rfl (Js rfl (step_lss Sr Sr) (JL_nil ?_)))))
 refine J_cond Sr (fun h14 => ?_) (fun h14 => ?_)
 ·
  try simp only [NF] at h14
  have hib : i < b := by omega
  refine J_skip (J_seq (J_block (Jr (Jm rfl (Ja rfl ?_)))))
  refine JL_nil (J_block ?_)
  refine J_loopL (σ := Nat × LL) (fun ⟨j, zs⟩ => InsI xs ys a b i j zs) (fun ⟨j, zs⟩ => upd (upd (upd (upd (upd (upd (upd (upd (upd env0 0 (rV.ty v)) 1 (tV (.int .i64 a))) 2 (tV (.int .i64 b))) 3 (cmpT)) 8 (tV (.int .i64 i))) 9 (tV (.int .i64 j))) 12 (tV (.int .i64 i))) 13 (tV (.int .i64 b))) 17 (tV (.int .i64 i))) (fun ⟨j, zs⟩ => [own 27 (rSl rInt) v (zs)]) (fun ⟨j, zs⟩ => j) (i, ys) (InsI.start zG hmg) (.u (.u (.u (.u (.u (.u (.u (.u (SubE.upd Sr SubE.any))))))))) (LSub.cons zS (SPs.rfl) (LSub.nil)) ?_
  rintro ⟨j, zs⟩ hix
  try dsimp only at hix
  have hix1 := hix.aj
  have hix2 := hix.ji
  have hzl := hix.mrg.len
  refine J_seq (J_seq ?_)
  refine J_drawX [⟨0, [9], 0⟩, ⟨1, [1], 0⟩, ⟨2, [18, 19], 0⟩, ⟨3, [20], 0⟩, ⟨4, [3, 21], 0⟩, ⟨5, [0, 21], 0⟩, ⟨6, [9, 21], 0⟩, ⟨9, [0, 21], 0⟩, ⟨10, [9, 21], 0⟩, ⟨11, [21, 28], 0⟩, ⟨7, [21, 23, 24], 1⟩, ⟨8, [21, 25], 1⟩, ⟨12, [21, 27, 29], 1⟩, ⟨13, [21, 30], 1⟩, ⟨14, [21, 22, 26, 31], 0⟩, ⟨15, [21, 32], 0⟩, ⟨16, [21, 33], 0⟩] rfl (by kernel_rfl) ?_
  refine JX_step rfl rfl rfl rfl (fun _ => step_move Sr) ?_
  refine JX_step rfl rfl rfl rfl (fun _ => step_move Sr) ?_
  refine JX_step rfl rfl rfl rfl (fun _ => step_gtr Sr Sr) ?_
  refine JX_step rfl rfl rfl rfl (fun _ => step_move Sr) ?_
  refine JX_stepG rfl rfl rfl rfl (Gd.plain Sr) rfl rfl (fun hw _ => step_move Sr) ?_
  refine JX_stepG rfl rfl rfl rfl (Gd.plain Sr) rfl rfl (fun hw _ => step_move Sr) ?_
  refine JX_stepG rfl rfl rfl rfl (Gd.plain Sr) rfl rfl (fun hw _ => step_move Sr) ?_
  refine JX_stepG rfl rfl rfl rfl (Gd.plain Sr) rfl rfl (fun hw _ => step_move Sr) ?_
  refine JX_stepG rfl rfl rfl rfl (Gd.plain Sr) rfl rfl (fun hw _ => step_move Sr) ?_
  refine JX_stepG rfl rfl rfl rfl (Gd.plain Sr) rfl rfl (fun hw _ => step_sub (Sub.w hw) Sr (by have hwq := hw; (try simp only [beqB_t, beqB_f, NF] at hwq); unfold in64; omega)) ?_
  refine JX_lookG rfl rfl rfl rfl (Gd.plain Sr) rfl rfl (fun hw => step_indexAddr_own (i := j) underlying28 ty27 (Sub.w hw) zS (Sub.w hw) (by rfl) (by have hwq := hw; (try simp only [beqB_t, beqB_f, NF] at hwq); omega)) ?_
  refine JX_lookG rfl rfl rfl rfl (Gd.plain Sr) rfl rfl (fun hw => step_load_own ty27 (Sub.w hw) zS (gb (by have hwq := hw; (try simp only [beqB_t, beqB_f, NF] at hwq); first | assumption | omega))) ?_
  refine JX_lookG rfl rfl rfl rfl (Gd.plain Sr) rfl rfl (fun hw => step_indexAddr_own (i := (j - 1)) underlying28 ty27 (Sub.w hw) zS (Sub.w hw) (by have hwq := hw; (try simp only [beqB_t, beqB_f, NF] at hwq); omega) (by have hwq := hw; (try simp only [beqB_t, beqB_f, NF] at hwq); omega)) ?_
  refine JX_lookG rfl rfl rfl rfl (Gd.plain Sr) rfl rfl (fun hw => step_load_own ty27 (Sub.w hw) zS (gb (by have hwq := hw; (try simp only [beqB_t, beqB_f, NF] at hwq); first | assumption | omega))) ?_
  refine JX_stepG rfl rfl rfl rfl (Gd.plain Sr) rfl rfl (fun hw _ => step_callv0 (aT := [_, _]) (Sub.trans (Sub.w hw) Sub.clo0) (byLen_spec _ _ (hix.bdz hx j) (hix.bdz hx (j - 1))) ⟨(Sub.w hw), (Sub.w hw), trivial⟩ call103) ?_
  refine JX_stepG rfl rfl rfl rfl (Gd.plain Sr) rfl rfl (fun hw _ => step_lss (Sub.w hw) Sr) ?_
  refine JX_step rfl rfl rfl rfl (fun _ => step_pick_and Sr Sr) ?_
  refine JX_nil ?_
  refine J_cond Sr (fun h34 => ?_) (fun h34 => ?_)
  ·
   try simp only [NF] at h34
   refine J_skip (J_seq (J_block ?_))
   refine J_drawX [⟨0, [0], 0⟩, ⟨1, [9], 0⟩, ⟨2, [0], 0⟩, ⟨3, [9], 0⟩, ⟨4, [40], 0⟩, ⟨5, [0], 0⟩, ⟨6, [9], 0⟩, ⟨7, [43], 0⟩, ⟨10, [0], 0⟩, ⟨11, [9], 0⟩, ⟨8, [42, 44], 1⟩, ⟨9, [45], 1⟩, ⟨12, [47, 48], 1⟩, ⟨13, [49], 1⟩, ⟨14, [37, 38], 1⟩, ⟨15, [46, 51], 2⟩, ⟨16, [39, 41], 1⟩, ⟨17, [50, 52], 2⟩] rfl (by kernel_rfl) ?_
   refine JX_step rfl rfl rfl rfl (fun _ => step_move Sr) ?_
   refine JX_step rfl rfl rfl rfl (fun _ => step_move Sr) ?_
   refine JX_step rfl rfl rfl rfl (fun _ => step_move Sr) ?_
   refine JX_step rfl rfl rfl rfl (fun _ => step_move Sr) ?_
   refine JX_step rfl rfl rfl rfl (fun _ => step_sub Sr Sr z6) ?_
   refine JX_step rfl rfl rfl rfl (fun _ => step_move Sr) ?_
   refine JX_step rfl rfl rfl rfl (fun _ => step_move Sr) ?_
   refine JX_step rfl rfl rfl rfl (fun _ => step_sub Sr Sr z6) ?_
   refine JX_step rfl rfl rfl rfl (fun _ => step_move Sr) ?_
   refine JX_step rfl rfl rfl rfl (fun _ => step_move Sr) ?_
   refine JX_look rfl rfl rfl rfl (step_indexAddr_own (i := (j - 1)) underlying28 ty27 Sr zS Sr zG zG) ?_
   refine JX_look rfl rfl rfl rfl (step_load_own ty27 Sr zS (gb (by first | assumption | omega))) ?_
   refine JX_look rfl rfl rfl rfl (step_indexAddr_own (i := j) underlying28 ty27 Sr zS Sr (by rfl) zG) ?_
   refine JX_look rfl rfl rfl rfl (step_load_own ty27 Sr zS (gb (by first | assumption | omega))) ?_
   refine JX_look rfl rfl rfl rfl (step_indexAddr_own (i := j) underlying28 ty27 Sr zS Sr (by rfl) zG) ?_
   refine JX_stepU rfl rfl rfl (step_store_own ty27 Sr Sr zS (by first | assumption | omega)) fun _ => ?_
   refine JX_look rfl rfl rfl rfl (step_indexAddr_own (i := (j - 1)) underlying28 ty27 Sr zS Sr zG (by rw [List.length_set]; omega)) ?_
   refine JX_stepU rfl rfl rfl (step_store_own ty27 Sr Sr zS (by rw [List.length_set]; omega)) fun _ => ?_
   refine JX_nil (J_region (Jm rfl (Js rfl (step_sub Sr Sr z6) (Ja rfl (JL_nil ?_)))))
   refine K_againL (σ := Nat × LL) (s := (j, zs)) (j - 1, swapI zs j (j - 1)) zO (hix.step zG hib hb zG) (.u (.u (.u (SubE.upd (Sub.int zG) (.u (.u (.u (.u (SubE.upd Sr SubE.any))))))))) (LSub.cons zS (SPs.rfl) (LSub.nil))
  try simp only [NF] at h34
  refine J_exit (J_region (Jm rfl (Js rfl (step_add Sr Sr z6) (Ja rfl (JL_nil ?_)))))
  refine K_againL (σ := Nat × LL) (s := (i, ys)) (i + 1, zs) zO ⟨by omega, .inl hib, hix.done hsr (by rcases h34 with h | h; exact .inl zG; exact .inr zG), hix.mrg⟩ (.u (.u (.u (.u (SubE.upd Sr SubE.any))))) (LSub.cons zS (SPs.rfl) (LSub.nil))
 try simp only [NF] at h14
 refine J_exit ?_
 refine K_end0 rfl (⟨ys, hmg, fun p q c1 c2 c3 => hsr p q c1 c2 zG⟩ : { ys : LL // Mrg xs a b ys ∧ Srt ys a b }) Sr
open Go Go.Proofs Go.Proofs.Tryz
structure StS (xs : LL) (n : Nat) (ys : LL) : Prop where
  mrg : Mrg xs 0 n ys
  s1 : Srt ys 0 (min 20 n)
  s2 : Srt ys 20 n
def StA (xs : LL) (n a b : Nat) (ys : LL) : Prop := Mrg xs 0 n ys ∧ ((a = 0 ∧ b = 20) ∨ (a = 20 ∧ b = 40 ∧ 20 ≤ n ∧ Srt ys 0 20) ∨ (a = 40 ∧ b = 60 ∧ n = 40 ∧ Srt ys 0 20 ∧ Srt ys 20 40))
theorem Srt.keep {xs ys : LL} {a b c d : Nat} (h : Srt xs c d) (g : Mrg xs a b ys) (hd : d ≤ a ∨ b ≤ c) : Srt ys c d := h.congr fun k k1 k2 => g.out k (by omega)
theorem StA.step {xs ys zs : LL} {n a b : Nat} (h : StA xs n a b ys) (hn : n ≤ 40) (hb : b ≤ n) (g : Mrg ys a b zs) (gs : Srt zs a b) : StA xs n b (b + 20) zs := by
  obtain ⟨h1, h⟩ := h
  rcases h with ⟨rfl, rfl⟩ | ⟨rfl, rfl, h3, h4⟩ | ⟨rfl, rfl, h3, h4, h5⟩
  · exact ⟨h1.trans (g.wide (Nat.zero_le _) hb), .inr (.inl ⟨rfl, rfl, hb, gs⟩)⟩
  · exact ⟨h1.trans (g.wide (Nat.zero_le _) hb), .inr (.inr ⟨rfl, rfl, by omega, h4.keep g (.inl (Nat.le_refl _)), gs⟩)⟩
  · omega
theorem StA.last {xs ys zs : LL} {n a b : Nat} (h : StA xs n a b ys) (hn : n ≤ 40) (hb : n < b) (ha : a ≤ n) (g : Mrg ys a n zs) (gs : Srt zs a n) : StS xs n zs := by
  obtain ⟨h1, h⟩ := h
  have hm := h1.trans (g.wide (Nat.zero_le _) (Nat.le_refl _))
  rcases h with ⟨rfl, rfl⟩ | ⟨rfl, rfl, h3, h4⟩ | ⟨rfl, rfl, h3, h4, h5⟩
  · exact ⟨hm, fun p q c1 c2 c3 => gs p q c1 c2 (by omega), fun p q c1 c2 c3 => by exfalso; omega⟩
  · exact ⟨hm, by rw [show min 20 n = 20 by omega]; exact h4.keep g (.inl (Nat.le_refl _)), gs⟩
  · exact ⟨hm, by rw [show min 20 n = 20 by omega]; exact h4.keep g (.inl (by omega)), by rw [h3]; exact h5.keep g (.inl (by omega))⟩
theorem StA.le {xs ys : LL} {n a b : Nat} (h : StA xs n a b ys) : a ≤ n ∧ a ≤ b ∧ b ≤ 60 := by
  obtain ⟨_, h⟩ := h
  rcases h with ⟨rfl, rfl⟩ | ⟨rfl, rfl, h3, h4⟩ | ⟨rfl, rfl, h3, h4, h5⟩ <;> omega
def StB (xs : LL) (n bs : Nat) (ys : LL) : Prop := Mrg xs 0 n ys ∧ ((bs = 20 ∧ Srt ys 0 (min 20 n) ∧ Srt ys 20 n) ∨ (bs = 40 ∧ Srt ys 0 n))
def StC (xs : LL) (n a b : Nat) (ys : LL) : Prop := Mrg xs 0 n ys ∧ ((a = 0 ∧ b = 40 ∧ Srt ys 0 20 ∧ Srt ys 20 n) ∨ (a = 40 ∧ b = 80 ∧ n = 40 ∧ Srt ys 0 n))
theorem StB.small {xs ys : LL} {n bs : Nat} (h : StB xs n bs ys) (hn : n ≤ 40) (hb : n ≤ bs) : Mrg xs 0 n ys ∧ Srt ys 0 n := by
  obtain ⟨h1, h⟩ := h
  refine ⟨h1, ?_⟩
  rcases h with ⟨rfl, h2, h3⟩ | ⟨rfl, h2⟩
  · exact fun p q c1 c2 c3 => h2 p q c1 c2 (by omega)
  · exact h2
theorem StB.go {xs ys : LL} {n bs : Nat} (h : StB xs n bs ys) (hn : n ≤ 40) (hb : bs < n) : bs = 20 ∧ StC xs n 0 40 ys := by
  obtain ⟨h1, h⟩ := h
  rcases h with ⟨rfl, h2, h3⟩ | ⟨rfl, h2⟩
  · exact ⟨rfl, h1, .inl ⟨rfl, rfl, by rw [show min 20 n = 20 by omega] at h2; exact h2, h3⟩⟩
  · omega
theorem StC.step {xs ys zs : LL} {n a b : Nat} (h : StC xs n a b ys) (hn : n ≤ 40) (hb : b ≤ n) (g : Mrg ys a b zs) (gs : Srt zs a b) : StC xs n b (b + 40) zs := by
  obtain ⟨h1, h⟩ := h
  rcases h with ⟨rfl, rfl, h3, h4⟩ | ⟨rfl, rfl, h3, h4⟩
  · obtain rfl : n = 40 := by omega
    exact ⟨h1.trans g, .inr ⟨rfl, rfl, rfl, gs⟩⟩
  · omega
theorem StC.runs {xs ys : LL} {n a b : Nat} (h : StC xs n a b ys) (hn : n ≤ 40) (hb : b ≤ n) : a = 0 ∧ b = 40 ∧ Srt ys 0 20 ∧ Srt ys 20 40 := by
  obtain ⟨h1, h⟩ := h
  rcases h with ⟨rfl, rfl, h3, h4⟩ | ⟨rfl, rfl, h3, h4⟩
  · obtain rfl : n = 40 := by omega
    exact ⟨rfl, rfl, h3, h4⟩
  · omega
theorem StC.rest {xs ys : LL} {n a b : Nat} (h : StC xs n a b ys) (hn : n ≤ 40) (hb : n < b) (h20 : 20 < n) : (a = 0 ∧ Srt ys 0 20 ∧ Srt ys 20 n) ∨ (a = 40 ∧ n = 40 ∧ Srt ys 0 n) := by
  obtain ⟨h1, h⟩ := h
  rcases h with ⟨rfl, rfl, h3, h4⟩ | ⟨rfl, rfl, h3, h4⟩
  · exact .inl ⟨rfl, h3, h4⟩
  · exact .inr ⟨rfl, h3, h4⟩
theorem StC.le {xs ys : LL} {n a b : Nat} (h : StC xs n a b ys) : a ≤ 40 ∧ b ≤ 80 := by
  obtain ⟨_, h⟩ := h
  rcases h with ⟨rfl, rfl, h3⟩ | ⟨rfl, rfl, h3⟩ <;> omega
set_option maxHeartbeats 4000000 in
theorem stable40_spec (v : Value) (xs : LL) (h40 : xs.length ≤ 40) (hl : xs.length ≤ 1000000) (hx : ∀ k, (nth xs k).length ≤ 1000000) : Spec (X := { ys : LL // Mrg xs 0 xs.length ys ∧ Srt ys 0 xs.length }) prog 127 [rV.ty v, tV (.int .i64 xs.length), cmpT] ([own 27 (rSl rInt) v (xs)]) (fun ys => tTup []) (fun ys => [own 27 (rSl rInt) v (ys.1)]) := by
 refine Spec.enter func127 rfl rfl fun h0 w0 fr0 => ?_
 refine Jr (Ja rfl (JL_nil (Jr (Jm rfl (Ja rfl ?_)))))
 refine Ja rfl (JL_nil (J_seq (J_block ?_)))
 refine J_loopL (σ := Nat × Nat × LL) (fun ⟨a, b, ys⟩ => StA xs xs.length a b ys) (fun ⟨a, b, ys⟩ => upd (upd (upd (upd (upd (upd env0 0 (rV.ty v)) 1 (tV (.int .i64 xs.length))) 2 (cmpT)) 6 (tV (.int .i64 20))) 7 (tV (.int .i64 a))) 8 (tV (.int .i64 b))) (fun ⟨a, b, ys⟩ => [own 27 (rSl rInt) v (ys)]) (fun ⟨a, b, ys⟩ => 60 - b) (0, 20, xs) ⟨Mrg.refl _ _ _, .inl ⟨rfl, rfl⟩⟩ (.u (.u (.u (.u (.u (SubE.upd Sr SubE.any)))))) (LSub.cons zS (SPs.rfl) (LSub.nil)) ?_
 rintro ⟨a, b, ys⟩ hst
 try dsimp only at hst
 have hle := hst.le
 refine J_seq (Jr (Jm rfl (Jm rfl (Js rfl (step_leq Sr Sr) (JL_nil ?_)))))
 refine J_cond Sr (fun h13 => ?_) (fun h13 => ?_)
 ·
  try simp only [NF] at h13
  have hbn : b ≤ xs.length := by omega
  refine J_skip (J_block (Jr (Jm rfl (Jm rfl (Jm rfl ?_)))))
  refine Jm rfl ?_
  refine Jx rfl (step_call zS (insertionSort_spec v ys a b hle.2.1 (by have := hst.1.len; omega) (by rw [hst.1.len]; exact hl) (hst.1.bd hx)) ⟨Sr, Sr, Sr, Sr, trivial⟩ call150) fun u18 => ?_
  refine JL_nil (Jr (Jm rfl (Ja rfl (JL_nil (J_region ?_)))))
  refine Jm rfl (Jm rfl (Js rfl (step_add Sr Sr z6) (Ja rfl (JL_nil ?_))))
  refine K_againL (σ := Nat × Nat × LL) (s := (a, b, ys)) (b, b + 20, u18.1) zO (hst.step h40 hbn u18.2.1 u18.2.2) (.u (.u (.u (.u (.u (SubE.upd Sr SubE.any)))))) (LSub.cons zS (SPs.rfl) (LSub.nil))
 try simp only [NF] at h13
 refine J_exit (Jr (Jm rfl (Jm rfl (Jm rfl (Jm rfl ?_)))))
 refine Jx rfl (step_call zS (insertionSort_spec v ys a xs.length hle.1 (by rw [hst.1.len]; exact Nat.le_refl _) (by rw [hst.1.len]; exact hl) (hst.1.bd hx)) ⟨Sr, Sr, Sr, Sr, trivial⟩ call150) fun u27 => ?_
 refine JL_nil (J_block ?_)
 refine J_loopL (σ := Nat × LL) (fun ⟨bs, ws⟩ => StB xs xs.length bs ws) (fun ⟨bs, ws⟩ => upd (upd (upd (upd env0 0 (rV.ty v)) 1 (tV (.int .i64 xs.length))) 2 (cmpT)) 6 (tV (.int .i64 bs))) (fun ⟨bs, ws⟩ => [own 27 (rSl rInt) v (ws)]) (fun ⟨bs, ws⟩ => 40 - bs) (20, u27.1) (by have h := hst.last h40 zG hle.1 u27.2.1 u27.2.2; exact ⟨h.mrg, .inl ⟨rfl, h.s1, h.s2⟩⟩) (.u (.u (.u (SubE.upd Sr SubE.any)))) (LSub.cons zS (SPs.rfl) (LSub.nil)) ?_
 rintro ⟨bs, ws⟩ hsb
 try dsimp only at hsb
 refine J_seq (Jr (Jm rfl (Jm rfl (Js rfl (step_lss Sr Sr) (JL_nil ?_)))))
 refine J_cond Sr (fun h30 => ?_) (fun h30 => ?_)
 ·
  try simp only [NF] at h30
  obtain ⟨hbs, hsc0⟩ := hsb.go h40 zG
  refine J_skip (J_block (Jr (Jm rfl (Js rfl (step_mul Sr Sr z6) (Ja rfl ?_)))))
  refine Ja rfl (JL_nil (J_seq (J_block ?_)))
  refine J_loopL (σ := Nat × Nat × LL) (fun ⟨a, b, zs⟩ => StC xs xs.length a b zs) (fun ⟨a, b, zs⟩ => upd (upd (upd (upd (upd (upd (upd (upd (upd env0 0 (rV.ty v)) 1 (tV (.int .i64 xs.length))) 2 (cmpT)) 6 (tV (.int .i64 20))) 7 (tV (.int .i64 a))) 8 (tV (.int .i64 b))) 28 (tV (.int .i64 bs))) 29 (tV (.int .i64 xs.length))) 31 (tV (.int .i64 bs))) (fun ⟨a, b, zs⟩ => [own 27 (rSl rInt) v (zs)]) (fun ⟨a, b, zs⟩ => 80 - b) (0, 40, ws) hsc0 (.u (.u (.u (SubE.upd (Sub.int zG) (.u (SubE.upd (Sub.int zG) (.u (.u (SubE.upd Sr SubE.any))))))))) (LSub.cons zS (SPs.rfl) (LSub.nil)) ?_
  rintro ⟨a, b, zs⟩ hsc
  try dsimp only at hsc
  have hlc := hsc.le
  refine J_seq (Jr (Jm rfl (Jm rfl (Js rfl (step_leq Sr Sr) (JL_nil ?_)))))
  refine J_cond Sr (fun h35 => ?_) (fun h35 => ?_)
  ·
   try simp only [NF] at h35
   have hbn : b ≤ xs.length := by omega
   obtain ⟨hr1, hr2, hr3, hr4⟩ := hsc.runs h40 hbn
   refine J_skip (J_block (Jr (Jm rfl (Jm rfl (Jm rfl ?_)))))
   refine Jm rfl (Js rfl (step_add Sr Sr z6) (Jm rfl (Jm rfl ?_)))
   refine Jx rfl (step_call zS (symMerge_spec v zs a (a + 20) b zG zG (by have := hsc.1.len; omega) (by rw [hsc.1.len]; exact hl) (hsc.1.bd hx) (by rw [hr1]; exact hr3) (by rw [hr1, hr2]; exact hr4)) ⟨Sr, Sr, Sub.int zG, Sr, Sr, trivial⟩ call151) fun u43 => ?_
   refine JL_nil (Jr (Jm rfl (Ja rfl (JL_nil (J_region ?_)))))
   refine Jm rfl (Jm rfl (Js rfl (step_mul Sr Sr z6) (Js rfl (step_add Sr Sr z6) (Ja rfl (JL_nil ?_)))))
   refine K_againL (σ := Nat × Nat × LL) (s := (a, b, zs)) (b, b + 40, u43.1) zO (hsc.step h40 hbn u43.2.1 u43.2.2) (.u (.u (.u (.u (.u (.u (.u (.u (SubE.upd Sr SubE.any))))))))) (LSub.cons zS (SPs.rfl) (LSub.nil))
  try simp only [NF] at h35
  refine J_exit (J_seq (Jr (Jm rfl (Jm rfl (Js rfl (step_add Sr Sr z6) ?_)))))
  refine Ja rfl (JL_nil (Jr (Jm rfl (Jm rfl (Js rfl (step_lss Sr Sr) ?_)))))
  refine JL_nil ?_
  refine J_cond Sr (fun h54 => ?_) (fun h54 => ?_)
  ·
   try simp only [NF] at h54
   obtain ⟨hq1, hq2, hq3⟩ : a = 0 ∧ Srt zs 0 20 ∧ Srt zs 20 xs.length := (by rcases hsc.rest h40 zG zG with h | h; exact h; (exfalso; omega))
   refine J_region (Jm rfl (Jm rfl (Jm rfl (Jm rfl (Jm rfl ?_)))))
   refine Jx rfl (step_call zS (symMerge_spec v zs a (a + 20) xs.length zG zG (by rw [hsc.1.len]; exact Nat.le_refl _) (by rw [hsc.1.len]; exact hl) (hsc.1.bd hx) (by rw [hq1]; exact hq2) (by rw [hq1]; exact hq3)) ⟨Sr, Sr, Sub.int zG, Sr, Sr, trivial⟩ call151) fun u60 => ?_
   refine JL_nil (J_region (Jm rfl (Js rfl (step_mul Sr Sr z6) (Ja rfl (JL_nil ?_)))))
   refine K_againL (σ := Nat × LL) (s := (bs, ws)) (40, u60.1) zO ⟨hsc.1.trans (u60.2.1.wide (Nat.zero_le _) (Nat.le_refl _)), .inr ⟨rfl, fun p q c1 c2 c3 => u60.2.2 p q zG c2 c3⟩⟩ (SubE.upd (Sub.int zG) (.u (.u (SubE.upd Sr SubE.any)))) (LSub.cons zS (SPs.rfl) (LSub.nil))
  try simp only [NF] at h54
  have hq4 : Srt zs 0 xs.length := (by rcases hsc.rest h40 zG zG with h | h; (exfalso; omega); exact h.2.2)
  refine J_skip (J_region (Jm rfl (Js rfl (step_mul Sr Sr z6) (Ja rfl (JL_nil ?_)))))
  refine K_againL (σ := Nat × LL) (s := (bs, ws)) (40, zs) zO ⟨hsc.1, .inr ⟨rfl, hq4⟩⟩ (SubE.upd (Sub.int zG) (.u (.u (SubE.upd Sr SubE.any)))) (LSub.cons zS (SPs.rfl) (LSub.nil))
 try simp only [NF] at h30
 refine J_exit ?_
 refine K_end0 rfl (⟨ws, hsb.small h40 zG⟩ : { ys : LL // Mrg xs 0 xs.length ys ∧ Srt ys 0 xs.length }) Sr
open Go Go.Proofs Go.Proofs.Tryz
def cmpN (x y : Int) : Int := if x < y then -1 else if y < x then 1 else 0
def cmpL : List Int → List Int → Int
  | [], [] => 0
  | [], _ :: _ => -1
  | _ :: _, [] => 1
  | x :: l, y :: m => if cmpN x y ≠ 0 then cmpN x y else cmpL l m
theorem cmpL_drop {l m : List Int} {i : Nat} (hi : i < l.length) (hj : i < m.length) : cmpL (l.drop i) (m.drop i) = if cmpN (nth l i) (nth m i) ≠ 0 then cmpN (nth l i) (nth m i) else cmpL (l.drop (i + 1)) (m.drop (i + 1)) := by
  rw [dropB hi, dropB hj]; rfl
theorem cmpL_long {l m : List Int} {i : Nat} (hi : i < l.length) (hj : m.length ≤ i) : cmpL (l.drop i) (m.drop i) = 1 := by
  rw [dropB hi, List.drop_of_length_le hj]; rfl
theorem cmpL_end {l m : List Int} {i : Nat} (hi : l.length ≤ i) : cmpL (l.drop i) (m.drop i) = if i < m.length then -1 else 0 := by
  rw [List.drop_of_length_le hi]
  by_cases h : i < m.length
  · rw [if_pos h, dropB h]; rfl
  · rw [if_neg h, List.drop_of_length_le (by omega)]; rfl
theorem SortStable40_spec (v : Value) (xs : LL) (h40 : xs.length ≤ 40) (hx : ∀ k, (nth xs k).length ≤ 1000000) : Spec (X := { ys : LL // Mrg xs 0 xs.length ys ∧ Srt ys 0 xs.length }) prog 102 [rV.ty v, cmpT] ([own 27 (rSl rInt) v (xs)]) (fun ys => tTup []) (fun ys => [own 27 (rSl rInt) v (ys.1)]) := by
 refine Spec.enter func102 rfl rfl fun h0 w0 fr0 => ?_
 refine J_region (Jm rfl (Jm rfl ?_))
 refine Js rfl (step_len_own underlying28 Sr zS) ?_
 refine Jm rfl ?_
 refine Jx rfl (step_call zS (stable40_spec v xs h40 zG hx) ⟨Sr, Sr, Sr, trivial⟩ call127) fun u8 => ?_
 refine JL_nil ?_
 refine K_end0 rfl u8 Sr
theorem isNaN_spec (x : Int) : Fun1 prog 165 [tV (.int .i64 x)] (tV (.bool false)) := by
 refine Spec.enter func165 rfl rfl fun h0 w0 fr0 => ?_
 refine Jr (Ja rfl (JL_nil (Jr (Jm rfl (Jm rfl ?_)))))
 refine Js rfl (step_neq Sr Sr) (Ja rfl (JL_nil (J_ret ?_)))
 refine K_ret1 (t := 2) rfl () ?_
 refine Sub.bool ?_
 simp
open Go Go.Proofs Go.Proofs.Tryz
theorem cmpN_vals (x y : Int) : (x < y ∧ cmpN x y = -1) ∨ (x = y ∧ cmpN x y = 0) ∨ (y < x ∧ cmpN x y = 1) := by
  unfold cmpN
  by_cases h : x < y
  · rw [if_pos h]; exact .inl ⟨h, rfl⟩
  · rw [if_neg h]
    by_cases h2 : y < x
    · rw [if_pos h2]; exact .inr (.inr ⟨h2, rfl⟩)
    · rw [if_neg h2]; exact .inr (.inl ⟨by omega, rfl⟩)
theorem cmpL_refl : ∀ l, cmpL l l = 0
  | [] => rfl
  | x :: l => by
    unfold cmpL
    rcases cmpN_vals x x with ⟨h, _⟩ | ⟨_, e⟩ | ⟨h, _⟩
    · omega
    · rw [e, if_neg (by simp)]; exact cmpL_refl l
    · omega
theorem cmpL_eq : ∀ {l m : List Int}, cmpL l m = 0 → l = m
  | [], [], _ => rfl
  | [], _ :: _, h => by simp [cmpL] at h
  | _ :: _, [], h => by simp [cmpL] at h
  | x :: l, y :: m, h => by
    unfold cmpL at h
    rcases cmpN_vals x y with ⟨_, e⟩ | ⟨rfl, e⟩ | ⟨_, e⟩
    · rw [e] at h; simp at h
    · rw [e, if_neg (by simp)] at h; rw [cmpL_eq h]
    · rw [e] at h; simp at h
theorem cmpL_anti : ∀ (l m : List Int), cmpL m l = - cmpL l m
  | [], [] => rfl
  | [], _ :: _ => rfl
  | _ :: _, [] => rfl
  | x :: l, y :: m => by
    unfold cmpL
    rcases cmpN_vals x y with ⟨h, e⟩ | ⟨rfl, e⟩ | ⟨h, e⟩
    · have e2 : cmpN y x = 1 := by rcases cmpN_vals y x with ⟨h2, _⟩ | ⟨h2, _⟩ | ⟨_, e2⟩ <;> first | exact e2 | omega
      rw [e, e2]; simp
    · rw [e, if_neg (by simp), if_neg (by simp)]; exact cmpL_anti l m
    · have e2 : cmpN y x = -1 := by rcases cmpN_vals y x with ⟨_, e2⟩ | ⟨h2, _⟩ | ⟨h2, _⟩ <;> first | exact e2 | omega
      rw [e, e2]; simp
theorem cmpL_trans : ∀ {l m k : List Int}, cmpL l m < 0 → cmpL m k < 0 → cmpL l k < 0
  | [], [], _, h, _ => by simp [cmpL] at h
  | [], _ :: _, [], _, h => by simp [cmpL] at h
  | [], _ :: _, _ :: _, _, _ => by simp [cmpL]
  | _ :: _, [], _, h, _ => by simp [cmpL] at h
  | _ :: _, _ :: _, [], _, h => by simp [cmpL] at h
  | x :: l, y :: m, z :: k, h1, h2 => by
    unfold cmpL at h1 h2 ⊢
    rcases cmpN_vals x y with ⟨a1, e1⟩ | ⟨a1, e1⟩ | ⟨a1, e1⟩ <;> rcases cmpN_vals y z with ⟨a2, e2⟩ | ⟨a2, e2⟩ | ⟨a2, e2⟩ <;> rcases cmpN_vals x z with ⟨a3, e3⟩ | ⟨a3, e3⟩ | ⟨a3, e3⟩ <;> rw [e1] at h1 <;> rw [e2] at h2 <;> rw [e3] <;> simp at h1 h2 ⊢ <;> first | omega | exact cmpL_trans h1 h2
/-! Texts of sets -/
theorem small_no {n : Nat} (h : n < 100) : (32 : Int) ∉ bytesOf (smallB n) := by
  rw [smallB_digits n h]
  split
  · simp; omega
  · simp; omega
theorem small_inj {n m : Nat} (hn : n < 100) (hm : m < 100) (h : bytesOf (smallB n) = bytesOf (smallB m)) : n = m := by
  rw [smallB_digits n hn, smallB_digits m hm] at h
  split at h <;> split at h <;> simp at h <;> omega
theorem nameL_inj : ∀ {l m : List Int}, (∀ x ∈ l, 0 ≤ x ∧ x < 100) → (∀ x ∈ m, 0 ≤ x ∧ x < 100) → nameL l = nameL m → l = m
  | [], [], _, _, _ => rfl
  | [], y :: m, _, _, h => by
    exfalso
    have := congrArg List.length h
    simp [nameL] at this
  | x :: l, [], _, _, h => by
    exfalso
    have := congrArg List.length h
    simp [nameL] at this
  | x :: l, y :: m, hl, hm, h => by
    have hx := hl x (by simp)
    have hy := hm y (by simp)
    simp only [nameL, List.flatMap_cons, List.append_assoc, List.cons_append, List.nil_append] at h
    obtain ⟨e1, e2⟩ := cut_at (small_no (by omega)) (small_no (by omega)) h
    have e3 := small_inj (by omega) (by omega) e1
    have e4 : x = y := by omega
    rw [e4, nameL_inj (fun z hz => hl z (by simp [hz])) (fun z hz => hm z (by simp [hz])) e2]
theorem nameL_rng {l : List Int} (h : ∀ x ∈ l, 0 ≤ x ∧ x < 100) : ∀ c ∈ nameL l, 0 ≤ c ∧ c < 256 := by
  intro c hc
  unfold nameL at hc
  obtain ⟨x, hx, hc⟩ := List.mem_flatMap.1 hc
  rcases List.mem_append.1 hc with hc | hc
  · exact bytesOf_rng _ c hc
  · simp at hc; omega
theorem nameB_inj {l m : List Int} (hl : ∀ x ∈ l, 0 ≤ x ∧ x < 100) (hm : ∀ x ∈ m, 0 ≤ x ∧ x < 100) (h : nameB l = nameB m) : l = m := by
  refine nameL_inj hl hm ?_
  have := congrArg bytesOf h
  unfold nameB at this
  rwa [bytes_of (nameL_rng hl), bytes_of (nameL_rng hm)] at this
open Go Go.Proofs Go.Proofs.Tryz
end Lg
namespace Lg
open Go Go.Proofs Go.Sort
theorem sorted_again {l m : List (List Int)} (hp : m.Perm l) (hl : l.Pairwise fun x y => cmpL x y < 0) (hm : m.Pairwise fun a b => ¬ cmpL b a < 0) : m = l := by
  have hl' : l.Pairwise fun a b => ¬ cmpL b a < 0 := hl.imp fun {a b} h => by rw [cmpL_anti a b]; omega
  refine List.Perm.eq_of_pairwise (le := fun a b => ¬ cmpL b a < 0) (fun a b _ _ h1 h2 => ?_) hm hl' hp
  rw [cmpL_anti a b] at h1
  exact cmpL_eq (by omega)
theorem swo_cmpL : SWO (Go.Proofs.ltOf cmpL) := by
  refine ⟨fun x => by simp [Go.Proofs.ltOf, cmpL_refl], fun x y z h1 h2 => ?_, fun x y z h1 h2 => ?_⟩
  · simp only [Go.Proofs.ltOf, decide_eq_true_eq] at h1 h2 ⊢
    exact cmpL_trans h1 h2
  · simp only [Go.Proofs.ltOf, decide_eq_false_iff_not] at h1 h2 ⊢
    intro h3
    by_cases e1 : cmpL x y = 0
    · rw [cmpL_eq e1] at h3; exact h2 h3
    · by_cases e2 : cmpL y z = 0
      · rw [← cmpL_eq e2] at h3; exact h1 h3
      · have a1 : cmpL y x < 0 := by rw [cmpL_anti x y]; omega
        have a2 : cmpL z y < 0 := by rw [cmpL_anti y z]; omega
        have a3 := cmpL_trans a2 a1
        rw [cmpL_anti x z] at a3; omega
end Lg
namespace Go.Proofs
open Go.Lib
theorem kNaN (x : Int) (w : World) : Calls Tryz.prog 165 #[.int .i64 x] w fun e w' => e = .returned (.bool false) ∧ w' = w := by
  go_enter Tryz.func165, Tryz.ntmps165
  go_wp2
  go_ret
  exact ⟨by simp, rfl⟩
theorem kCmp (x y : Int) (w : World) : Calls Tryz.prog 135 #[.int .i64 x, .int .i64 y] w fun e w' => e = .returned (.int .i64 (Lg.cmpN x y)) ∧ w' = w := by
  go_enter Tryz.func135, Tryz.ntmps135
  go_wp2_with (go_at_call 165; refine (kNaN _ _).mono ?_; rintro e w' ⟨rfl, hw⟩; rw [hw])
  all_goals (go_ret; refine ⟨?_, rfl⟩; unfold Lg.cmpN; (repeat' split) <;> first | rfl | (exfalso; omega))
theorem kRow (xs ys : List Int) (a a' : Option Addr) (c c' : Nat) (w : World) (hbx : xs.length ≤ 1000000) (hby : ys.length ≤ 1000000) (hx : ∀ i, i < xs.length → ∃ b o, a = some ⟨b, o, none⟩ ∧ w.cell? ⟨b, o + i, none⟩ = some (.int .i64 (Lg.nth xs i))) (hy : ∀ i, i < ys.length → ∃ b o, a' = some ⟨b, o, none⟩ ∧ w.cell? ⟨b, o + i, none⟩ = some (.int .i64 (Lg.nth ys i))) :
    Calls Tryz.prog 107 #[.slice a xs.length c, .slice a' ys.length c'] w fun e w' => e = .returned (.int .i64 (Lg.cmpL xs ys)) ∧ ∃ q, w' = w.drewN q := by
  generalize hn : xs.length = n
  generalize hm : ys.length = m
  rw [hn] at hx hbx
  rw [hm] at hy hby
  go_enter Tryz.func107, Tryz.ntmps107
  go_wp2
  go_loopg [5, 6, 7, 8, 11] n (fun gg _ _ _ _ s8 wr => ∃ kk q : Nat, kk ≤ n ∧ n - kk ≤ gg ∧ s8 = .int .i64 kk ∧ wr = w.drewN q ∧ Aside (kk ≤ m ∧ Lg.cmpL xs ys = Lg.cmpL (xs.drop kk) (ys.drop kk)))
  case atStart => exact ⟨0, 0, Nat.zero_le _, by omega, rfl, rfl, Nat.zero_le _, rfl⟩
  case round =>
    obtain ⟨kk, q, hkk, hg, rfl, rfl, A⟩ := hrel
    have hcall := kCmp
    by_cases h1 : kk < n
    · obtain ⟨b, o, ea, gx⟩ := hx kk h1
      by_cases h2 : kk < m
      · obtain ⟨b', o', ea', gy⟩ := hy kk h2
        have hd : Lg.cmpL (xs.drop kk) (ys.drop kk) = _ := Lg.cmpL_drop (l := xs) (m := ys) (i := kk) (by omega) (by omega)
        clear hx hy
        subst ea; subst ea'
        generalize Lg.nth xs kk = x at gx hd
        generalize Lg.nth ys kk = y at gy hd
        have hc := hcall x y
        by_cases h0 : Lg.cmpN x y = 0
        · rw [h0] at hc
          rw [if_neg (by simpa using h0)] at hd
          go_wp2_with (go_at_call 135; refine (hc _).mono ?_; rintro e w' ⟨rfl, hw⟩; rw [hw])
          go_roundg (n - (kk + 1))
          case measure => omega
          case rel => exact ⟨kk + 1, _, by omega, by omega, by go_num, rfl, (show Aside _ from ⟨by omega, A.out.2.trans hd⟩)⟩
        · rw [if_pos h0] at hd
          generalize hz : Lg.cmpN x y = z at hc h0 hd
          go_wp2_with (go_at_call 135; refine (hc _).mono ?_; rintro e w' ⟨rfl, hw⟩; rw [hw])
          go_ret
          refine ⟨?_, _, rfl⟩
          rw [A.out.2, hd]
          rfl
      · clear hx hy
        subst ea
        go_wp2
        go_ret
        refine ⟨?_, _, rfl⟩
        rw [A.out.2, Lg.cmpL_long (by omega) (by omega)]
        rfl
    · clear hx hy
      by_cases h3 : n < m
      · go_wp2
        go_ret
        refine ⟨?_, _, rfl⟩
        rw [A.out.2, Lg.cmpL_end (by omega), if_pos (by omega)]
        rfl
      · go_wp2
        go_ret
        refine ⟨?_, _, rfl⟩
        rw [A.out.2, Lg.cmpL_end (by omega), if_neg (by omega)]
        rfl
theorem cmpL_calls (x y : List Int) (hbx : x.length ≤ 1000000) (hby : y.length ≤ 1000000) (u u' : Value) (h : Lg.PH) (W : World) (hw : h.inw W) (hu : ((Lg.rSl Lg.rInt).ty x).p h u) (hu' : ((Lg.rSl Lg.rInt).ty y).p h u') :
    Calls Tryz.prog 107 #[u, u'] W fun e' w' => e' = .returned (.int .i64 (Lg.cmpL x y)) ∧ ∃ q os, w' = Sort.grow (W.drewN q) os := by
  have key : ∀ (l : List Int) (ao : Option Addr), (l ≠ [] → ∃ b off, ao = some ⟨b, off, none⟩ ∧ ∀ (i : Nat) x, l[i]? = some x → ∃ cs, Lg.Holds h b (off + i * Lg.rInt.k) cs ∧ Lg.rInt.rel h x cs) → ∀ i, i < l.length → ∃ b o, ao = some ⟨b, o, none⟩ ∧ W.cell? ⟨b, o + i, none⟩ = some (.int .i64 (Lg.nth l i)) := by
    intro l ao H i hi
    obtain ⟨b, off, rfl, H'⟩ := H (fun e => by rw [e] at hi; exact absurd hi (Nat.not_lt_zero _))
    obtain ⟨cs, Hc, r⟩ := H' i _ (Lg.gb hi)
    have r : cs = [.int .i64 (Lg.nth l i)] := r
    subst r
    refine ⟨b, off, rfl, ?_⟩
    have := Hc.cell hw (i := 0) (v := .int .i64 (Lg.nth l i)) rfl
    rw [show off + i * Lg.rInt.k + 0 = off + i from by show off + i * 1 + 0 = _; omega] at this
    exact this
  obtain ⟨ao, cap, rfl, H⟩ := hu
  obtain ⟨ao', cap', rfl, H'⟩ := hu'
  refine (kRow x y ao ao' cap cap' W hbx hby (key x ao H) (key y ao' H')).mono ?_
  rintro e w' ⟨he, q, hq⟩
  exact ⟨he, q, #[], by rw [Sort.grow_empty]; exact hq⟩
end Go.Proofs
namespace Lg
open Go Go.Proofs Go.Proofs.Tryz
theorem nth_over {α : Type} [Inhabited α] : ∀ {l : List α} {i : Nat}, l.length ≤ i → nth l i = default
  | [], _, _ => rfl
  | _ :: _, 0, h => absurd h (Nat.not_succ_le_zero _)
  | _ :: l, i + 1, h => nth_over (l := l) (i := i) (by simpa using h)
theorem subB_low (l : List Int) (b i : Nat) (hb : b < 2 ^ i) : subB l (b + 2 ^ i) i = subB l b i := by
  unfold subB
  congr 1
  apply List.filter_congr
  intro j hj
  have hj : j < i := by simpa using hj
  have e : (b + 2 ^ i) / 2 ^ j = b / 2 ^ j + 2 ^ (i - j) := by
    have : 2 ^ i = 2 ^ j * 2 ^ (i - j) := by rw [← Nat.pow_add]; congr 1; omega
    rw [this, Nat.add_mul_div_left _ _ (Nat.two_pow_pos j)]
  rw [e]
  have e2 : 2 ^ (i - j) = 2 * 2 ^ (i - j - 1) := by rw [← Nat.pow_succ']; congr 1; omega
  rw [e2, Nat.add_mul_mod_self_left]
theorem sub_some {l : List Int} : ∀ {i : Nat} {s : List Int}, i ≤ l.length → s.Sublist (l.take i) → ∃ b, b < 2 ^ i ∧ subB l b i = s
  | 0, s, _, h => ⟨0, by simp, by
      have : s = [] := by simpa using h
      rw [this]; rfl⟩
  | i + 1, s, hi, h => by
    rw [takeB (show i < l.length by omega)] at h
    obtain ⟨a, c, rfl, ha, hc⟩ := List.sublist_append_iff.1 h
    obtain ⟨b, hb, e⟩ := sub_some (by omega) ha
    have hc2 : c = [] ∨ c = [nth l i] := by
      rcases c with _ | ⟨x, c⟩
      · exact .inl rfl
      · have hl := hc.length_le
        have hcn : c = [] := by simpa using hl
        subst hcn
        rw [List.singleton_sublist, List.mem_singleton] at hc
        rw [hc]; exact .inr rfl
    rcases hc2 with rfl | rfl
    · refine ⟨b, by rw [Nat.pow_succ]; omega, ?_⟩
      rw [subB_succ, if_neg, e, List.append_nil]
      rw [Nat.div_eq_of_lt hb]; simp
    · refine ⟨b + 2 ^ i, by rw [Nat.pow_succ]; omega, ?_⟩
      have e1 : (b + 2 ^ i) / 2 ^ i = 1 := by rw [Nat.add_div_right _ (Nat.two_pow_pos i), Nat.div_eq_of_lt hb]
      rw [subB_succ, if_pos (by rw [e1]), subB_low l b i hb, e]
theorem mem_subs {l s : List Int} : s.Sublist l → s ∈ subs l := fun h => by
  obtain ⟨b, hb, e⟩ := sub_some (l := l) (i := l.length) (Nat.le_refl _) (by rw [List.take_length]; exact h)
  unfold subs
  exact List.mem_map.2 ⟨b, by simpa using hb, e⟩
theorem subs_sub {l s : List Int} (h : s ∈ subs l) : ∀ x ∈ s, x ∈ l := by
  unfold subs at h
  obtain ⟨b, _, rfl⟩ := List.mem_map.1 h
  exact fun x hx => subB_mem (Nat.le_refl _) hx
/-- f is contained in e. -/
def subL (f e : List Int) : Bool := f.all fun x => decide (x ∈ e)
theorem subL_iff {f e : List Int} : subL f e = true ↔ ∀ x ∈ f, x ∈ e := by simp [subL]
theorem inc_nodup {l : List Int} (h : Inc l) : l.Nodup := h.imp fun {a b} q => by omega
theorem inc_filter {l : List Int} (h : Inc l) (p : Int → Bool) : Inc (l.filter p) := List.Pairwise.sublist (List.filter_sublist) h
theorem inc_ext {f e : List Int} (hf : Inc f) (he : Inc e) (h : ∀ x, x ∈ f ↔ x ∈ e) : f = e :=
  List.Perm.eq_of_pairwise (le := fun a b => a < b) (fun a b _ _ h1 h2 => by omega) hf he ((List.perm_ext_iff_of_nodup (inc_nodup hf) (inc_nodup he)).2 h)
theorem inc_sub {f e : List Int} (hf : Inc f) (he : Inc e) (h : subL f e = true) : f.Sublist e := by
  have h := subL_iff.1 h
  have : f = e.filter (fun x => decide (x ∈ f)) := inc_ext hf (inc_filter he _) fun x => by
    rw [List.mem_filter, decide_eq_true_eq]
    exact ⟨fun q => ⟨h x q, q⟩, fun q => q.2⟩
  rw [this]; exact List.filter_sublist
theorem inc_same {f e : List Int} (hf : Inc f) (he : Inc e) (h : subL f e = true) (hl : e.length ≤ f.length) : f = e :=
  (inc_sub hf he h).eq_of_length_le hl
def abvM (out : LL) (e : List Int) : Bool := out.any fun f => subL f e
def keepM : LL → LL → LL
  | acc, [] => acc
  | acc, e :: l => keepM (if abvM acc e then acc else acc ++ [e]) l
theorem keepM_append : ∀ (l1 l2 acc : LL), keepM acc (l1 ++ l2) = keepM (keepM acc l1) l2
  | [], _, _ => rfl
  | e :: l1, l2, acc => keepM_append l1 l2 _
theorem keepM_take {ys : LL} {i : Nat} (hi : i < ys.length) : keepM [] (ys.take (i + 1)) = if abvM (keepM [] (ys.take i)) (nth ys i) then keepM [] (ys.take i) else keepM [] (ys.take i) ++ [nth ys i] := by
  rw [takeB hi, keepM_append]; rfl
theorem keepM_sub : ∀ (l acc : LL), (keepM acc l).Sublist (acc ++ l)
  | [], acc => by simp [keepM]
  | e :: l, acc => by
    unfold keepM
    split
    · exact (keepM_sub l acc).trans (List.Sublist.append_left (List.sublist_cons_self _ _) _)
    · have := keepM_sub l (acc ++ [e])
      rwa [List.append_assoc] at this
theorem keepM_mem {l : LL} {e : List Int} (h : e ∈ keepM [] l) : e ∈ l := by
  have := (keepM_sub l []).subset h
  simpa using this
theorem keepM_len (l : LL) : (keepM [] l).length ≤ l.length := by
  have := (keepM_sub l []).length_le
  simpa using this
/-- Everything is kept exactly if nothing contains what stands before it. -/
theorem keepM_all : ∀ (l acc : LL), keepM acc l = acc ++ l ↔ (∀ f ∈ acc, ∀ e ∈ l, subL f e = false) ∧ l.Pairwise fun f e => subL f e = false
  | [], acc => by simp [keepM]
  | e :: l, acc => by
    unfold keepM
    by_cases h : abvM acc e = true
    · rw [if_pos h]
      constructor
      · intro q
        have := (keepM_sub l acc).length_le
        rw [q] at this
        simp at this
        omega
      · rintro ⟨h1, _⟩
        exfalso
        unfold abvM at h
        obtain ⟨f, hf, hs⟩ := List.any_eq_true.1 h
        rw [h1 f hf e (by simp)] at hs; cases hs
    · rw [if_neg h]
      have h0 : ∀ f ∈ acc, subL f e = false := fun f hf => by
        cases hs : subL f e with
        | false => rfl
        | true => exact absurd (List.any_eq_true.2 ⟨f, hf, hs⟩) h
      have ih := keepM_all l (acc ++ [e])
      rw [List.append_assoc] at ih
      rw [show acc ++ e :: l = acc ++ ([e] ++ l) by simp, ih]
      constructor
      · rintro ⟨h1, h2⟩
        refine ⟨fun f hf g hg => ?_, List.pairwise_cons.2 ⟨fun g hg => h1 e (by simp) g hg, h2⟩⟩
        rcases List.mem_cons.1 hg with rfl | hg
        · exact h0 f hf
        · exact h1 f (by simp [hf]) g hg
      · rintro ⟨h1, h2⟩
        obtain ⟨h3, h4⟩ := List.pairwise_cons.1 h2
        refine ⟨fun f hf g hg => ?_, h4⟩
        rcases List.mem_append.1 hf with hf | hf
        · exact h1 f hf g (by simp [hg])
        · rw [List.mem_singleton.1 hf]; exact h3 g hg
/-- Edges in order, none of which contains another one. -/
def okE (es : LL) : Prop := (es.Pairwise fun x y => cmpL x y < 0) ∧ es.Pairwise fun f e => subL f e = false ∧ subL e f = false
theorem min_iff {es ys m : LL} (hinc : ∀ e ∈ es, Inc e) (hp : ys.Perm es) (hs : Srt ys 0 ys.length) (hm : m.Perm (keepM [] ys)) (ho : m.Pairwise fun a b => ¬ cmpL b a < 0) : m = es ↔ okE es := by
  have hsym : ∀ {x y : List Int}, (subL x y = false ∧ subL y x = false) → (subL y x = false ∧ subL x y = false) := fun h => ⟨h.2, h.1⟩
  constructor
  · intro he
    subst he
    have hl : (keepM [] ys).length = ys.length := by rw [← hm.length_eq, hp.length_eq]
    have hall : keepM [] ys = ys := by
      have := keepM_sub ys []
      exact this.eq_of_length (by rw [hl]; rfl)
    have h2 := ((keepM_all ys []).1 (by simpa using hall)).2
    have h3 : ys.Pairwise fun f e => subL f e = false ∧ subL e f = false := by
      rw [List.pairwise_iff_getElem] at h2 ⊢
      intro i j hi hj hij
      have h4 := h2 i j hi hj hij
      refine ⟨h4, ?_⟩
      cases h5 : subL ys[j] ys[i] with
      | false => rfl
      | true =>
        exfalso
        have hle := hs i j (Nat.zero_le _) (by omega) hj
        rw [nth_get hi, nth_get hj] at hle
        have e := inc_same (hinc _ (hp.subset (List.getElem_mem hj))) (hinc _ (hp.subset (List.getElem_mem hi))) h5 hle
        rw [e] at h4
        have : subL ys[i] ys[i] = true := subL_iff.2 fun x hx => hx
        rw [h4] at this; cases this
    have h4 := (hp.pairwise_iff (R := fun f e => subL f e = false ∧ subL e f = false) hsym).1 h3
    refine ⟨?_, h4⟩
    have h5 := h4.and ho
    refine h5.imp fun {a b} h => ?_
    obtain ⟨⟨h6, _⟩, h7⟩ := h
    rw [cmpL_anti a b] at h7
    by_cases e : cmpL a b = 0
    · rw [cmpL_eq e] at h6
      have : subL b b = true := subL_iff.2 fun x hx => hx
      rw [h6] at this; cases this
    · omega
  · rintro ⟨h1, h2⟩
    have h3 := (hp.pairwise_iff (R := fun f e => subL f e = false ∧ subL e f = false) hsym).2 h2
    have hall : keepM [] ys = ys := by
      have := (keepM_all ys []).2 ⟨fun f hf => by simp at hf, h3.imp fun {a b} h => h.1⟩
      simpa using this
    rw [hall] at hm
    exact sorted_again (hm.trans hp) h1 ho
/-! The known texts -/
def KnM (m : List (ByteArray × Bool)) (out : LL) : Prop := ∀ s : List Int, (∀ x ∈ s, 0 ≤ x ∧ x < 100) → (mget m (nameB s)).getD false = decide (s ∈ out)
theorem KnM.nil : KnM [] [] := fun s _ => by simp [mget]
theorem KnM.put {m : List (ByteArray × Bool)} {out : LL} (h : KnM m out) {e : List Int} (he : ∀ x ∈ e, 0 ≤ x ∧ x < 100) : KnM (mput m (nameB e) true) (out ++ [e]) := fun s hs => by
  rw [mget_mput]
  by_cases q : nameB s = nameB e
  · rw [if_pos q, nameB_inj hs he q]; simp
  · rw [if_neg q, h s hs]
    have : s ≠ e := fun r => q (by rw [r])
    simp [this]
theorem abv_subs {m : List (ByteArray × Bool)} {out : LL} {e : List Int} (h : KnM m out) (he : Inc e) (hb : ∀ x ∈ e, 0 ≤ x ∧ x < 100) (ho : ∀ f ∈ out, Inc f) : abvM out e = (subs e).any fun s => (mget m (nameB s)).getD false := by
  rw [Bool.eq_iff_iff]
  unfold abvM
  rw [List.any_eq_true, List.any_eq_true]
  constructor
  · rintro ⟨f, hf, hs⟩
    refine ⟨f, mem_subs (inc_sub (ho f hf) he hs), ?_⟩
    rw [h f (fun x hx => hb x (subL_iff.1 hs x hx))]
    simpa using hf
  · rintro ⟨s, hs, hk⟩
    have hsub := subs_sub hs
    rw [h s (fun x hx => hb x (hsub x hx))] at hk
    exact ⟨s, by simpa using hk, subL_iff.2 hsub⟩
open Go Go.Proofs Go.Proofs.Tryz
/-- What is asked of hyper.above at an edge. -/
def AbvOk (e : List Int) : Prop := ∀ (vo vk : Value) (out : LL) (m : List (ByteArray × Bool)), (∀ f ∈ out, Inc f ∧ f.length ≤ 1000000) → KnM m out → out.length ≤ 1000000 →
  Spec (X := Unit) prog 104 [tSl rInt e, rV.ty vo, rV.ty vk] [mapOwn kvS rBool vk m, own 27 (rSl rInt) vo out] (fun _ => tV (.bool (abvM out e))) (fun _ => [mapOwn kvS rBool vk m, own 27 (rSl rInt) vo out])
theorem AbvOk.use {e : List Int} (h : AbvOk e) (vo vk : Value) (out : LL) (m : List (ByteArray × Bool)) (ho : ∀ f ∈ out, Inc f ∧ f.length ≤ 1000000) (hk : KnM m out) (hl : out.length ≤ 1000000) :
    Spec (X := Unit) prog 104 [tSl rInt e, rV.ty vo, rV.ty vk] [mapOwn kvS rBool vk m, own 27 (rSl rInt) vo out] (fun _ => tV (.bool (abvM out e))) (fun _ => [mapOwn kvS rBool vk m, own 27 (rSl rInt) vo out]) := h vo vk out m ho hk hl
theorem snoc_all {α : Type} {xs : List α} {y : α} {p : α → Bool} (h : ∀ x ∈ xs, p x = false) (hy : p y = false) : ∀ x ∈ xs ++ [y], p x = false := fun x hx => by
  rcases List.mem_append.1 hx with hx | hx
  · exact h x hx
  · rw [List.mem_singleton.1 hx]; exact hy
theorem okPre_all {α : Type} {tot xs : List α} (h : xs = tot) {p : α → Bool} (hp : ∀ x ∈ xs, p x = false) : tot.any p = false := by
  subst h; rw [Bool.eq_false_iff]; intro h2
  obtain ⟨x, hx, h3⟩ := List.any_eq_true.1 h2
  rw [hp x hx] at h3; cases h3
set_option maxHeartbeats 1000000 in
theorem aboveK_spec (e : List Int) (hinc : Inc e) (vo vk : Value) (out : LL) (m : List (ByteArray × Bool)) (hl : e.length ≤ 6) (hb : ∀ x ∈ e, 0 ≤ x ∧ x < 100) (hk : KnM m out) (ho : ∀ f ∈ out, Inc f) : Spec (X := Unit) prog 104 [tSl rInt e, rV.ty vo, rV.ty vk] ([mapOwn kvS rBool vk m, own 27 (rSl rInt) vo out]) (fun _ => tV (.bool (abvM out e))) (fun _ => [mapOwn kvS rBool vk m, own 27 (rSl rInt) vo out]) := by
 refine Spec.enter func104 rfl rfl fun h0 w0 fr0 => ?_
 refine Jr (Js rfl (step_box (R := (rSl rInt)) Sr) ?_)
 refine Jx rfl (step_box_own (R := rV) Sr) fun v5 => ?_
 refine Jx rfl (step_alloc (fun w => zeroValue4 w) zr4) fun b6 => ?_
 refine JL_nil (J_seq (Jr (Jl rfl ty27 Sr (Js rfl (step_len_sl underlying27 Sr) (Js rfl (step_gtr Sr Sr) ?_)))))
 refine JL_nil ?_
 refine J_cond Sr (fun h10 => ?_) (fun h10 => ?_)
 ·
  try simp only [NF] at h10
  exfalso; omega
 try simp only [NF] at h10
 refine J_skip (J_seq (J_seq ?_))
 refine K_freeze (t := 5) zS Frz.box ?_
 refine J_region (Jl rfl ty27 Sr (Js rfl (step_call0 (subsets_spec e) ⟨Sr, trivial⟩ call131) (JL_nil (J_block ?_))))
 refine J_range (A := []) (T := tLi) (Ok := okPre (subs e)) (Fin := fun p => p = subs e) (R := [own 27 (rSl rInt) vo out]) (fun xs => stars [SP.pure (∀ x ∈ xs, (fun s => (mget m (nameB s)).getD false) x = false), mapOwn kvS rBool vk m, box b6 4 rBool false]) (fun c _ => stars [SP.pure (c = .ret ∧ (subs e).any (fun s => (mget m (nameB s)).getD false) = true), mapOwn kvS rBool vk m, box b6 4 rBool true]) rfl (fun _ => rfl) rfl (subs1_spec e hl) Sr call154 (LSub.stars (LSub.pure (fun x hx => by cases hx) (LSub.cons zS (SPs.rfl) (LSub.cons zS (SPs.rfl) (LSub.cons zS (SPs.rfl) (LSub.nil)))))) ?round1 ?done1 ?stop1
 case round1 =>
  intro l1 rec1 h2 w2 fr2 pre y hle1 hst1 hpd1 hdj1 hok
  refine K_stars (K_pure fun hpe => ?_)
  refine J_region (Ja rfl (JL_nil ?_))
  refine K_begin hst1 hdj1 ?_
  have hys := okPre_mem hok
  obtain ⟨hyl, hyb⟩ := subs_ok hb hys
  refine J_block (J_seq ?_)
  refine J_draw [⟨0, [5], true⟩, ⟨1, [7], true⟩, ⟨2, [18], true⟩, ⟨3, [17, 19], false⟩] rfl (by kernel_rfl) ?_
  refine Mf rfl rfl (step_load_ptr ty135V Sr) (Mv rfl rfl ?_)
  refine Mf rfl rfl (step_call0 (textS_spec y (by have := hyl; omega) hyb) ⟨Sr, trivial⟩ call105) ?_
  refine JM_look rfl rfl rfl rfl (step_lookup (kv := kvS) (R := rBool) (z := false) (KeyT.str underlying9) underlying135 (fun w => zeroValue4 w) zr4 (Sub.trans Sr Sub.ofRV) Sr zS) ?_
  refine JM_nil ?_
  refine J_cond Sr (fun h20 => ?_) (fun h20 => ?_)
  ·
   try simp only [NF] at h20
   refine Jr ?_
   refine Ju (step_store_box ty4 Sr Sr zS) fun _ => ?_
   refine JL_nil (J_ret ?_)
   refine K_roundR ?_
   exact LSub.cons zS SPs.rfl (LSub.stars (LSub.pure ⟨rfl, List.any_eq_true.2 ⟨y, hys, h20⟩⟩ (LSub.cons zS (SPs.rfl) (LSub.cons zS (SPs.rfl) (LSub.nil)))))
  try simp only [NF] at h20
  refine J_skip ?_
  refine K_roundN hst1 hpd1 ?_
  exact LSub.cons zS SPs.rfl (LSub.stars (LSub.pure (snoc_all hpe h20) (LSub.cons zS (SPs.rfl) (LSub.cons zS (SPs.rfl) (LSub.nil)))))
 case done1 =>
  intro D1 xs hfin
  refine K_stars (K_pure fun hpe => ?_)
  have hany := okPre_all hfin hpe
  refine Jr ?_
  refine Ju (step_store_box ty4 Sr Sr zS) fun _ => ?_
  refine JL_nil (J_ret ?_)
  refine K_unmark (LSub.cons zS SPs.rfl LSub.rfl) ?_
  refine K_ret1' (rv := .cell 6 4) rfl () zS (.cell ty4 Sr zS Sr) (Frz.sub (Sub.bool ?_))
  rw [abv_subs hk hinc hb ho, hany]
 case stop1 =>
  intro D1 c1 xs
  refine K_stars (K_pure fun hcc => ?_)
  obtain ⟨rfl, hany⟩ := hcc
  refine J_ret ?_
  refine K_unmark (LSub.cons zS SPs.rfl LSub.rfl) ?_
  refine K_ret1' (rv := .cell 6 4) rfl () zS (.cell ty4 Sr zS Sr) (Frz.sub (Sub.bool ?_))
  rw [abv_subs hk hinc hb ho, hany]
theorem SortCmp_spec (v : Value) (xs : LL) (hx : ∀ e ∈ xs, e.length ≤ 1000000) (hn : xs.length ≤ 1000000) : Spec (X := { ys : LL // ys.Perm xs ∧ ys.Pairwise fun a b => ¬ cmpL b a < 0 }) prog 106 [rV.ty v, tV (.func (.func 107) #[] #[])] [own 27 (rSl rInt) v xs] (fun _ => tTup []) (fun ys => [own 27 (rSl rInt) v ys.1]) := by
  have h := sortFunc_spec (ρ := Tryz.sortK_ren) Tryz.sortK (R := rSl rInt) rfl cmpL swo_cmpL (gf := 107) (e := 27) call107 (fun x => x.length ≤ 1000000) cmpL_calls v xs hx (by omega)
  intro vs h0 m r w ha sp st
  refine (h vs h0 m r w ha sp st).mono ?_
  rintro e w' ⟨⟨ys, hp, hs⟩, u, h', m', rfl, l, s, st', hu⟩
  exact ⟨⟨ys, hp, hs.imp fun {a b} q => by simpa [Go.Proofs.ltOf] using q⟩, u, h', m', rfl, l, s, st', hu⟩
set_option maxHeartbeats 1000000 in
theorem Minimal_spec (es : LL) (h40 : es.length ≤ 40) (he : ∀ e ∈ es, Inc e ∧ e ≠ [] ∧ e.length ≤ 1000000 ∧ (∀ x ∈ e, 0 ≤ x ∧ x < 100) ∧ e.length ≤ 1000000) (hab : ∀ e ∈ es, AbvOk e) : Spec (X := { m : LL // (m = es ↔ okE es) ∧ (∀ e ∈ m, e ∈ es) ∧ m.length ≤ es.length }) prog 67 [tSl (rSl rInt) es] ([]) (fun mm => tSl (rSl rInt) mm.1) (fun mm => []) := by
 refine Spec.enter func67 rfl rfl fun h0 w0 fr0 => ?_
 have hx : ∀ k, (nth es k).length ≤ 1000000 := fun k => by
  by_cases hk : k < es.length
  ·
   exact (he _ (nth_mem hk)).2.2.1
  rw [nth_over zG]; exact Nat.zero_le _
 refine Jr (Ja rfl (JL_nil (Jr (Ja rfl (JL_nil ?_)))))
 refine J_seq (Jr (Jm rfl (Js rfl (step_len_sl underlying28 Sr) (Jm rfl (JL_nil ?_)))))
 refine J_block ?_
 refine J_loopL (σ := Nat × Value) (fun ⟨i, v⟩ => i ≤ es.length) (fun ⟨i, v⟩ => upd (upd (upd (upd (upd env0 2 (tV (.slice none 0 0))) 3 (rV.ty v)) 10 (tSl (rSl rInt) es)) 11 (tV (.int .i64 es.length))) 12 (tV (.int .i64 i))) (fun ⟨i, v⟩ => [own 27 (rSl rInt) v (es.take i)]) (fun ⟨i, v⟩ => es.length - i) (0, .slice none 0 0) (Nat.zero_le _) (.u (.u (.u (SubE.upd (Sub.rV rfl) (SubE.upd Sr SubE.any))))) (LSub.nilown) ?_
 rintro ⟨i, v⟩ hi
 try dsimp only at hi
 refine Jr (Js rfl (step_lss Sr Sr) (JL_nil (J_seq ?_)))
 refine J_cond Sr (fun h13 => ?_) (fun h13 => ?_)
 ·
  try simp only [NF] at h13
  have hlt : i < es.length := by omega
  obtain ⟨hinc, hne, hl6, hb, _⟩ := he _ (nth_mem hlt)
  have hnl := ne_len hne
  refine J_skip (J_seq (J_block (Jr ?_)))
  refine Js rfl (step_indexAddr_sl  underlying28 ty27 Sr Sr rfl (gb (by exact hlt))) ?_
  refine Jl rfl ty27 Sr (Ja rfl (JL_nil (Jr (Jm rfl (Js rfl (step_len_sl underlying27 Sr) ?_)))))
  refine Js rfl (step_gtr Sr Sr) (JL_nil ?_)
  refine J_cond Sr (fun h18 => ?_) (fun h18 => ?_)
  ·
   try simp only [NF] at h18
   refine J_region (Jm rfl (Jm rfl (Js rfl (step_call0 (setL_spec _ hinc zG) ⟨Sr, trivial⟩ call101) ?_)))
   refine Js rfl (step_literal (ys := [_]) underlying28 el27 ⟨rfl, Sr, trivial⟩ rfl (by decide)) ?_
   refine Jx rfl (step_append underlying28 el27 Sr Sr zS (by simp; omega) (by simp; omega)) fun u23 => ?_
   refine Ja rfl (JL_nil (J_region (Js rfl (step_add Sr Sr z6) (Jm rfl (JL_nil ?_)))))
   refine K_againL (σ := Nat × Value) (s := (i, v)) (i + 1, u23) zO (by simp; omega) (.u (.u (.u (.u (SubE.upd Sr SubE.any))))) (LSub.cons zS (SPs.of (by rw [takeB hlt])) (LSub.nil))
  try simp only [NF] at h18
  exfalso; omega
 try simp only [NF] at h13
 refine J_exit (J_seq ?_)
 refine K_lsub (L' := [own 27 (rSl rInt) v es]) (LSub.cons zS (SPs.of (by rw [List.take_of_length_le zG])) (LSub.nil)) ?_
 refine J_region (Jm rfl ?_)
 refine Jx rfl (step_call zS (SortStable40_spec v es h40 hx) ⟨Sr, Sr, trivial⟩ call102) fun ys => ?_
 refine JL_nil ?_
 have hyp := ys.2.1.perm
 have hyl := hyp.length_eq
 have hys : Srt ys.1 0 ys.1.length := by rw [hyl]; exact ys.2.2
 refine Jr ?_
 refine Jx rfl (step_makeMapV (kv := kvS) (R := rBool)) fun v6 => ?_
 refine Ja rfl (JL_nil (Jr (Ja rfl (JL_nil (J_seq ?_)))))
 refine Jr (Jm rfl ?_)
 refine Js rfl (step_len_own underlying28 Sr zS) ?_
 refine Jm rfl (JL_nil (J_block ?_))
 refine J_loopL (σ := Nat × Value × List (ByteArray × Bool)) (fun ⟨i, vo, m⟩ => i ≤ ys.1.length ∧ KnM m (keepM [] (ys.1.take i))) (fun ⟨i, vo, m⟩ => upd (upd (upd (upd (upd (upd env0 2 (tV (.slice none 0 0))) 6 (rV.ty v6)) 7 (rV.ty vo)) 28 (rV.ty v)) 29 (tV (.int .i64 ys.1.length))) 30 (tV (.int .i64 i))) (fun ⟨i, vo, m⟩ => [own 27 (rSl rInt) v ys.1, mapOwn kvS rBool v6 m, own 27 (rSl rInt) vo (keepM [] (ys.1.take i))]) (fun ⟨i, vo, m⟩ => ys.1.length - i) (0, .slice none 0 0, []) ⟨Nat.zero_le _, KnM.nil⟩ (.u (.u (.u (SubE.upd (Sub.rV rfl) (.u (SubE.upd Sr SubE.any)))))) (LSub.trans LSub.nilown (LSub.cons zS (SPs.rfl) (LSub.cons zS (SPs.of rfl) (LSub.cons zS (SPs.rfl) (LSub.nil))))) ?_
 rintro ⟨i, vo, m⟩ ⟨hi, hm⟩
 refine Jr (Js rfl (step_lss Sr Sr) (JL_nil (J_seq ?_)))
 refine J_cond Sr (fun h31 => ?_) (fun h31 => ?_)
 ·
  try simp only [NF] at h31
  have hlt : i < ys.1.length := by omega
  have hym := hyp.subset (nth_mem hlt)
  obtain ⟨hinc, hne, hl6, hb, _⟩ := he _ hym
  have hkl := keepM_len (ys.1.take i)
  have htl : (ys.1.take i).length ≤ i := List.length_take_le _ _
  refine J_skip (J_seq (J_block (Jr ?_)))
  refine Js rfl (step_indexAddr_own  underlying28 ty27 Sr zS Sr rfl (by exact hlt)) ?_
  refine Js rfl (step_load_own ty27 Sr zS (gb (by first | assumption | omega))) ?_
  refine Ja rfl (JL_nil (Jr (Jm rfl (Jm rfl (Jm rfl ?_)))))
  refine Jx rfl (step_call (Sel.skip (Sel.take (Sel.take (Sel.none _)))) (AbvOk.use (hab _ hym) vo v6 (keepM [] (ys.1.take i)) m (fun f hf => ⟨(he _ (hyp.subset (List.mem_of_mem_take (keepM_mem hf)))).1, (he _ (hyp.subset (List.mem_of_mem_take (keepM_mem hf)))).2.2.1⟩) hm zG) ⟨Sr, Sr, Sr, trivial⟩ call104) fun v37 => ?_
  refine Js rfl (step_not Sr) (JL_nil ?_)
  refine J_cond Sr (fun h38 => ?_) (fun h38 => ?_)
  ·
   try simp only [NF] at h38
   refine Jr (Jm rfl (Jm rfl (Js rfl (step_call0 (textS_spec _ zG hb) ⟨Sr, trivial⟩ call105) ?_)))
   refine Ju (step_mapUpdate (kv := kvS) (R := rBool) (KeyT.str underlying9) underlying135 Sub.ofRV Sr Sr zS) fun _ => ?_
   refine JL_nil (J_region (Jm rfl (Jm rfl ?_)))
   refine Js rfl (step_literal (ys := [_]) underlying28 el27 ⟨rfl, Sr, trivial⟩ rfl (by decide)) ?_
   refine Jx rfl (step_append underlying28 el27 Sr Sr zS (by simp; omega) (by simp; omega)) fun u45 => ?_
   refine Ja rfl (JL_nil (J_region (Js rfl (step_add Sr Sr z6) (Jm rfl (JL_nil ?_)))))
   refine K_againL (σ := Nat × Value × List (ByteArray × Bool)) (s := (i, vo, m)) (i + 1, u45, _) zO ?_ (.u (.u (.u (.u (.u (SubE.upd Sr SubE.any)))))) (LSub.cons zS (SPs.rfl) (LSub.cons zS (SPs.rfl) (LSub.cons zS (SPs.of (by rw [keepM_take hlt, if_neg (by rw [h38]; simp)])) (LSub.nil))))
   have hk2 := keepM_take hlt
   rw [if_neg (by rw [h38]; simp)] at hk2
   exact ⟨hlt, by rw [hk2]; exact hm.put hb⟩
  try simp only [NF] at h38
  refine J_skip (J_region (Js rfl (step_add Sr Sr z6) (Jm rfl (JL_nil ?_))))
  refine K_againL (σ := Nat × Value × List (ByteArray × Bool)) (s := (i, vo, m)) (i + 1, vo, m) zO ?_ (.u (.u (.u (.u (.u (SubE.upd Sr SubE.any)))))) (LSub.cons zS (SPs.rfl) (LSub.cons zS (SPs.rfl) (LSub.cons zS (SPs.of (by rw [keepM_take hlt, if_pos h38])) (LSub.nil))))
  have hk2 := keepM_take hlt
  rw [if_pos h38] at hk2
  exact ⟨hlt, by rw [hk2]; exact hm⟩
 try simp only [NF] at h31
 refine J_exit (J_seq ?_)
 refine K_lsub (L' := [own 27 (rSl rInt) v ys.1, mapOwn kvS rBool v6 m, own 27 (rSl rInt) vo (keepM [] ys.1)]) (LSub.cons zS (SPs.rfl) (LSub.cons zS (SPs.rfl) (LSub.cons zS (SPs.of (by rw [List.take_of_length_le zG])) (LSub.nil)))) ?_
 refine J_region (Jm rfl ?_)
 refine Jx rfl (step_call zS (SortCmp_spec vo (keepM [] ys.1) (fun e h => (he _ (hyp.subset (keepM_mem h))).2.2.1) (by have := keepM_len ys.1; omega)) ⟨Sr, Sr, trivial⟩ call106) fun zs => ?_
 refine JL_nil (Jr (Jm rfl (Ja rfl (JL_nil (J_ret ?_)))))
 refine K_ret1' (rv := .tmp 2) rfl ⟨zs.1, min_iff (fun e h => (he e h).1) hyp hys zs.2.1 zs.2.2, fun e h => hyp.subset (keepM_mem (zs.2.1.subset h)), by have h1 := zs.2.1.length_eq; have h2 := keepM_len ys.1; omega⟩ (Sel.all _) (.tmp Sr) Frz.own
theorem isSet_ok {l : List Int} {n : Int} (h : isSetM l n = true) : Inc l ∧ ∀ x ∈ l, 0 ≤ x ∧ x < n := by
  unfold isSetM at h
  rw [List.all_eq_true] at h
  have h1 : ∀ i, i < l.length → (0 ≤ nth l i ∧ nth l i < n) ∧ (i = 0 ∨ nth l (i - 1) < nth l i) := fun i hi => by
    have := h i (List.mem_range.2 hi)
    simpa using this
  constructor
  · refine List.pairwise_iff_getElem.2 fun i j hi hj hij => ?_
    rw [← nth_get hi, ← nth_get hj]
    induction j with
    | zero => omega
    | succ j ih =>
      have h2 := (h1 (j + 1) hj).2
      rcases h2 with h2 | h2
      · omega
      · simp at h2
        by_cases e : i = j
        · subst e; exact h2
        · have := ih (by omega) (by omega); omega
  · intro x hx
    obtain ⟨i, hi, rfl⟩ := List.getElem_of_mem hx
    rw [← nth_get hi]; exact (h1 i hi).1
open Classical in
/-- A graph as hyper.Valid has it. -/
noncomputable def validG (g : GGraph) : Bool := validG1 g && decide (okE g.Edges)
theorem edges_all {g : GGraph} (hN : g.N ≤ 100) (hl : ∀ e ∈ g.Edges, e.length ≤ 1000) (hv : ∀ k, k < g.Edges.length → (!decide ((nth g.Edges k).length = 0) && isSetM (nth g.Edges k) g.N) = true) :
    ∀ e ∈ g.Edges, Inc e ∧ e ≠ [] ∧ e.length ≤ 1000000 ∧ (∀ x ∈ e, 0 ≤ x ∧ x < 100) ∧ e.length ≤ 1000000 := fun e he => by
  obtain ⟨i, hi, rfl⟩ := List.getElem_of_mem he
  have h := hv i hi
  rw [nth_get hi] at h
  simp only [Bool.and_eq_true, Bool.not_eq_true', decide_eq_false_iff_not] at h
  obtain ⟨h1, h2⟩ := isSet_ok h.2
  have h3 := hl _ he
  exact ⟨h1, fun q => h.1 (by rw [q]; rfl), by omega, fun x hx => by have := h2 x hx; omega, by omega⟩
theorem AbvOk.small {e : List Int} (hl : e.length ≤ 6) (hinc : Inc e) (hb : ∀ x ∈ e, 0 ≤ x ∧ x < 100) : AbvOk e := fun vo vk out m ho hk _ => aboveK_spec e hinc vo vk out m hl hb hk (fun f hf => (ho f hf).1)
set_option maxHeartbeats 1000000 in
theorem hValid_spec (g : GGraph) (h40 : g.Edges.length ≤ 40) (hl : ∀ e ∈ g.Edges, e.length ≤ 1000) (hN : g.N ≤ 100) (hc : g.Cost.length ≤ 1000000000) (hab : ∀ e ∈ g.Edges, Inc e → (∀ x ∈ e, 0 ≤ x ∧ x < 100) → AbvOk e) : Fun1 prog 39 [rGraph.ty g] (tV (.bool (validG g))) := by
 refine Spec.enter func39 rfl rfl fun h0 w0 fr0 => ?_
 refine Jr (Js rfl (step_box (R := rGraph) Sr) (Ja rfl (JL_nil (J_seq (Jr ?_)))))
 refine Js rfl (step_fieldAddr so30 Sr rfl) (Jl rfl ty3 Sr (Js rfl (step_fieldAddr so30 Sr rfl) (Jl rfl ty27 Sr (Js rfl (step_call0 (weighed_spec g.N g.Cost zG) ⟨Sr, Sr, trivial⟩ call64) (Js rfl (step_not Sr) ?_)))))
 refine Jm rfl (Jg rfl Sr rfl (fun hw => step_fieldAddr so30 Sr rfl) (Jg rfl Sr rfl (fun hw => step_load_ptr ty28 (Sub.w hw)) (Jg rfl Sr rfl (fun hw => step_len_sl underlying28 (Sub.w hw)) (Jg rfl Sr rfl (fun hw => step_gtr (Sub.w hw) Sr) (Js rfl (step_pick_or Sr Sr) ?_)))))
 refine JL_nil ?_
 refine J_cond Sr (fun h16 => ?_) (fun h16 => ?_)
 ·
  try simp only [NF] at h16
  refine Jr (Ja rfl (JL_nil (J_ret ?_)))
  refine K_ret1 (t := 2) rfl () ?_
  refine Sub.bool ?_
  unfold validG; rcases h16 with h16 | h16
  ·
   simp [validG1, h16]
  exfalso; omega
 try simp only [NF] at h16
 refine J_skip (J_seq (Jr (Js rfl (step_fieldAddr so30 Sr rfl) (Jl rfl ty28 Sr (Js rfl (step_len_sl underlying28 Sr) ?_)))))
 refine Jm rfl (JL_nil (J_block ?_))
 refine J_loopL (σ := Nat) (fun i => i ≤ g.Edges.length ∧ ∀ k, k < i → (!decide ((nth g.Edges k).length = 0) && isSetM (nth g.Edges k) g.N) = true) (fun i => upd (upd (upd (upd env0 1 (tPtr rGraph g)) 18 (tSl (rSl rInt) g.Edges)) 19 (tV (.int .i64 g.Edges.length))) 20 (tV (.int .i64 i))) (fun i => []) (fun i => g.Edges.length - i) 0 ⟨Nat.zero_le _, fun k hk => by omega⟩ (.u (.u (.u (SubE.upd Sr SubE.any)))) (LSub.rfl) ?_
 rintro i ⟨hi, hv⟩
 refine Jr (Js rfl (step_lss Sr Sr) (JL_nil (J_seq ?_)))
 refine J_cond Sr (fun h21 => ?_) (fun h21 => ?_)
 ·
  try simp only [NF] at h21
  have hlt : i < g.Edges.length := by omega
  have hle := hl _ (nth_mem hlt)
  refine J_skip (J_seq (J_block (Jr ?_)))
  refine Js rfl (step_indexAddr_sl  underlying28 ty27 Sr Sr rfl (gb (by exact hlt))) ?_
  refine Jl rfl ty27 Sr (Ja rfl (JL_nil (Jr (Jm rfl (Js rfl (step_len_sl underlying27 Sr) ?_)))))
  refine Js rfl (step_eql Sr Sr) (Jm rfl (Jg rfl Sr rfl (fun hw => step_move Sr) (Jg rfl Sr rfl (fun hw => step_fieldAddr so30 Sr rfl) (Jg rfl Sr rfl (fun hw => step_load_ptr ty3 (Sub.w hw)) (Jg rfl Sr rfl (fun hw => step_call0 (isSet_spec _ _ zG) ⟨(Sub.w hw), (Sub.w hw), trivial⟩ call65) ?_)))))
  refine Jg rfl Sr rfl (fun hw => step_not (Sub.w hw)) (Js rfl (step_pick_or Sr Sr) (JL_nil ?_))
  refine J_cond Sr (fun h33 => ?_) (fun h33 => ?_)
  ·
   try simp only [NF] at h33
   refine Jr (Ja rfl (JL_nil (J_ret ?_)))
   refine K_ret1 (t := 2) rfl () ?_
   refine Sub.bool ?_
   have h2 := rall_f (f := fun i => (!decide ((nth g.Edges i).length = 0) && isSetM (nth g.Edges i) g.N)) hlt (by rcases h33 with h33 | h33 <;> (first | (rw [h33, Bool.and_false]) | simp [show (nth g.Edges i).length = 0 by omega]))
   unfold validG validG1; rw [h2, Bool.and_false]; rfl
  try simp only [NF] at h33
  refine J_skip (J_region (Js rfl (step_add Sr Sr z6) (Jm rfl (JL_nil ?_))))
  refine K_againL (σ := Nat) (s := i) (i + 1) zO ?_ (.u (.u (.u (SubE.upd Sr SubE.any)))) (LSub.rfl)
  refine ⟨by omega, fun k hk => ?_⟩
  by_cases e : k = i
  ·
   subst e; simp_all
  exact hv k zG
 try simp only [NF] at h21
 have hall := edges_all (g := g) hN hl (fun k hk => hv k zG)
 refine J_exit (J_seq ?_)
 refine J_draw [⟨0, [1], true⟩, ⟨1, [35], true⟩, ⟨3, [1], true⟩, ⟨4, [38], true⟩, ⟨2, [36], false⟩, ⟨5, [37, 39], true⟩, ⟨6, [40], true⟩] rfl (by kernel_rfl) ?_
 refine Mf rfl rfl (step_fieldAddr so30 Sr rfl) (Mf rfl rfl (step_load_ptr ty28 Sr) (Mf rfl rfl (step_fieldAddr so30 Sr rfl) (Mf rfl rfl (step_load_ptr ty28 Sr) ?_)))
 refine JM_stepX rfl rfl rfl rfl (step_call (Sel.none _) (Minimal_spec g.Edges h40 hall (fun e he => hab e he (hall e he).1 (hall e he).2.2.2.1)) ⟨Sr, trivial⟩ call67) fun mm => ?_
 refine Mf rfl rfl (step_call0 (EqualFuncL_spec mm.1 g.Edges (by have := mm.2.2.2; omega) zG (fun e he => by have := hl e (mm.2.2.1 e he); omega) (fun e he => by have := hl e he; omega)) ⟨Sr, Sr, Sr, trivial⟩ call66) ?_
 refine Mf rfl rfl (step_assign Sr) (JM_nil (J_ret ?_))
 refine K_ret1 (t := 2) rfl () ?_
 refine Sub.bool ?_
 have h2 := rall_t (n := g.Edges.length) (f := fun i => (!decide ((nth g.Edges i).length = 0) && isSetM (nth g.Edges i) g.N)) (fun k hk => hv k zG)
 unfold validG validG1; rw [h2, h16.1]
 simp [mm.2.1]
end Lg
