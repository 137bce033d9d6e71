/- Pure theory of the minimal sets and the witnesses, the example of the chapter, and the walk of head. -/
import Derived.Test.YticgfcbcaalioaaGreatDoorE
import Derived.Laws.Strings
set_option linter.unusedVariables false
set_option linter.unusedSimpArgs false
set_option linter.unusedSectionVars false
/- Pure theory: names of sets, the minimal sets. -/
namespace Lg
open Go Go.Proofs

abbrev Dig (l : List Int) : Prop := ∀ x ∈ l, 0 ≤ x ∧ x < 100
theorem ofBytes_inj {a b : List Int} (ha : ∀ x ∈ a, 0 ≤ x ∧ x < 256) (hb : ∀ x ∈ b, 0 ≤ x ∧ x < 256) (h : ofBytes a = ofBytes b) : a = b := by
  have key : ∀ l : List Int, (∀ x ∈ l, 0 ≤ x ∧ x < 256) → bytesOf (ofBytes l) = l := by
    intro l hl
    simp only [bytesOf, ofBytes, List.toList_toArray, List.map_map]
    refine (List.map_congr_left fun x hx => ?_).trans (List.map_id _)
    have := hl x hx
    simp only [Function.comp, id]
    have e : (UInt8.ofNat x.toNat).toNat = x.toNat := by
      rw [UInt8.toNat_ofNat']
      exact Nat.mod_eq_of_lt (by omega)
    rw [e]; omega
  rw [← key a ha, ← key b hb, h]
theorem digits_in {n : Nat} (h : n < 100) : ∀ x ∈ bytesOf (smallB n), 48 ≤ x ∧ x < 58 := by
  rw [smallB_digits n h]
  intro x hx
  split at hx
  · simp at hx; omega
  · simp at hx; omega
theorem nameL_in {l : List Int} (h : Dig l) : ∀ x ∈ nameL l, 0 ≤ x ∧ x < 256 := by
  intro x hx
  simp only [nameL, List.mem_flatMap, List.mem_append, List.mem_singleton] at hx
  obtain ⟨a, ha, hx | rfl⟩ := hx
  · have := digits_in (n := a.toNat) (by have := h a ha; omega) x hx
    omega
  · omega
theorem digits_inj {m n : Nat} (hm : m < 100) (hn : n < 100) {r s : List Int} (h : bytesOf (smallB m) ++ 32 :: r = bytesOf (smallB n) ++ 32 :: s) : m = n ∧ r = s := by
  rw [smallB_digits m hm, smallB_digits n hn] at h
  by_cases h1 : m < 10 <;> by_cases h2 : n < 10 <;> simp only [h1, h2, if_true, if_false, List.cons_append, List.nil_append, List.cons.injEq] at h
  · exact ⟨by omega, h.2.2⟩
  · omega
  · omega
  · exact ⟨by omega, h.2.2.2⟩
theorem nameL_inj : ∀ {a b : List Int}, Dig a → Dig b → nameL a = nameL b → a = b
  | [], [], _, _, _ => rfl
  | [], b :: y, _, _, h => by simp [nameL] at h
  | a :: x, [], _, _, h => by simp [nameL] at h
  | a :: x, b :: y, ha, hb, h => by
    have h' : bytesOf (smallB a.toNat) ++ 32 :: nameL x = bytesOf (smallB b.toNat) ++ 32 :: nameL y := by
      simpa [nameL] using h
    have h1 := ha a (by simp)
    have h2 := hb b (by simp)
    obtain ⟨e1, e2⟩ := digits_inj (by omega) (by omega) h'
    rw [nameL_inj (fun z hz => ha z (by simp [hz])) (fun z hz => hb z (by simp [hz])) e2]
    congr 1; omega
theorem nameB_inj {a b : List Int} (ha : Dig a) (hb : Dig b) : nameB a = nameB b ↔ a = b :=
  ⟨fun h => nameL_inj ha hb (ofBytes_inj (nameL_in ha) (nameL_in hb) h), fun h => h ▸ rfl⟩

theorem mget_known {tot : List (List Int)} (ht : ∀ s ∈ tot, Dig s) {s : List Int} (hs : Dig s) : mget (knownM tot) (nameB s) = if s ∈ tot then some s else none := by
  have h : ∀ (ys : List (List Int)) (m : KM), (∀ y ∈ ys, Dig y) → mget (ys.foldl (fun m s => mput m (nameB s) s) m) (nameB s) = if s ∈ ys then some s else mget m (nameB s) := by
    intro ys
    induction ys with
    | nil => intro m _; simp
    | cons y ys ih =>
      intro m hy
      rw [List.foldl_cons, ih _ fun z hz => hy z (by simp [hz]), mget_mput]
      by_cases h1 : s ∈ ys
      · simp [h1]
      · by_cases h2 : s = y
        · subst h2; simp [h1]
        · have : ¬ nameB s = nameB y := fun e => h2 ((nameB_inj hs (hy y (by simp))).1 e)
          simp [h1, h2, this]
  have := h tot [] ht
  simpa [knownM, mget] using this
theorem known_keys (tot : List (List Int)) : ((knownM tot).map (·.1)).Nodup := by
  have h : ∀ (ys : List (List Int)) (m : KM), (m.map (·.1)).Nodup → ((ys.foldl (fun m s => mput m (nameB s) s) m).map (·.1)).Nodup := by
    intro ys
    induction ys with
    | nil => intro m hm; exact hm
    | cons y ys ih => intro m hm; exact ih _ (mput_nodup hm _ _)
  exact h tot [] (by simp)
theorem known_vals (tot : List (List Int)) : ((knownM tot).map (·.2)).Nodup := by
  have h1 := known_keys tot
  have e : (knownM tot).map (·.1) = ((knownM tot).map (·.2)).map nameB := by
    rw [List.map_map]
    exact List.map_congr_left fun p hp => (knownM_mem p hp).2
  rw [e] at h1
  exact List.Pairwise.of_map nameB (fun a b hab hne => hab (congrArg nameB hne)) h1
theorem known_vals_iff {tot : List (List Int)} (ht : ∀ s ∈ tot, Dig s) {s : List Int} : s ∈ (knownM tot).map (·.2) ↔ s ∈ tot := by
  constructor
  · intro h
    obtain ⟨p, hp, rfl⟩ := List.mem_map.1 h
    exact (knownM_mem p hp).1
  · intro h
    have h1 := mget_known ht (ht s h)
    rw [if_pos h] at h1
    exact List.mem_map.2 ⟨_, (mget_mem (known_keys tot)).1 h1, rfl⟩
theorem sub1 {a : Int} {t : List Int} (h : t.Sublist [a]) : t = [] ∨ t = [a] := by
  rcases List.sublist_cons_iff.1 h with h | ⟨r, rfl, h'⟩
  · exact .inl (List.sublist_nil.1 h)
  · rw [List.sublist_nil.1 h']; exact .inr rfl
theorem sub2 {a b : Int} {t : List Int} (h : t.Sublist [a, b]) : t = [] ∨ t = [a] ∨ t = [b] ∨ t = [a, b] := by
  rcases List.sublist_cons_iff.1 h with h | ⟨r, rfl, h'⟩
  · rcases sub1 h with h | h <;> simp [h]
  · rcases sub1 h' with h | h <;> simp [h]
theorem sub3 {a b c : Int} {t : List Int} (h : t.Sublist [a, b, c]) : t = [] ∨ t = [a] ∨ t = [b] ∨ t = [c] ∨ t = [a, b] ∨ t = [a, c] ∨ t = [b, c] ∨ t = [a, b, c] := by
  rcases List.sublist_cons_iff.1 h with h | ⟨r, rfl, h'⟩
  · rcases sub2 h with h | h | h | h <;> simp [h]
  · rcases sub2 h' with h | h | h | h <;> simp [h]
/-- No proper part but the empty one. -/
def Least (tot : List (List Int)) (s : List Int) : Prop := ∀ t, t.Sublist s → t ≠ [] → t ≠ s → t ∉ tot
theorem isNone_known {tot : List (List Int)} (ht : ∀ s ∈ tot, Dig s) {s : List Int} (hs : Dig s) : (mget (knownM tot) (nameB s)).isNone = true ↔ s ∉ tot := by
  rw [mget_known ht hs]
  by_cases h : s ∈ tot <;> simp [h]
theorem part2 (a b : Int) : partT 1 [a, b] 2 = [a] ∧ partT 2 [a, b] 2 = [b] := ⟨rfl, rfl⟩
theorem part3 (a b c : Int) : partT 1 [a, b, c] 3 = [a] ∧ partT 2 [a, b, c] 3 = [b] ∧ partT 3 [a, b, c] 3 = [a, b] ∧ partT 4 [a, b, c] 3 = [c] ∧ partT 5 [a, b, c] 3 = [a, c] ∧ partT 6 [a, b, c] 3 = [b, c] := ⟨rfl, rfl, rfl, rfl, rfl, rfl⟩
theorem minOk_iff {tot : List (List Int)} (ht : ∀ s ∈ tot, Dig s) {s : List Int} (hs : Dig s) (hl : s.length ≤ 3) : minOk (knownM tot) s = true ↔ Least tot s := by
  have key : ∀ k, okN (knownM tot) s k = true ↔ ∀ b, b < k → partT (b + 1) s s.length ∉ tot := by
    intro k
    simp only [okN, List.all_eq_true, List.mem_range]
    refine forall_congr' fun b => forall_congr' fun _ => ?_
    exact isNone_known ht fun x hx => hs x (partT_mem (Nat.le_refl _) x hx)
  rw [minOk, key]
  match s, hl with
  | [], _ =>
    constructor
    · intro _ t h1 h2; exact absurd (List.sublist_nil.1 h1) h2
    · intro _ b hb; simp at hb
  | [a], _ =>
    constructor
    · intro _ t h1 h2 h3
      rcases sub1 h1 with h | h <;> contradiction
    · intro _ b hb; simp at hb
  | [a, b], _ =>
    obtain ⟨e1, e2⟩ := part2 a b
    constructor
    · intro h t h1 h2 h3
      have q0 := h 0 (by simp)
      have q1 := h 1 (by simp)
      have q0 : partT 1 [a, b] 2 ∉ tot := q0
      have q1 : partT 2 [a, b] 2 ∉ tot := q1
      rw [e1] at q0; rw [e2] at q1
      rcases sub2 h1 with e | e | e | e
      · exact absurd e h2
      · subst e; exact q0
      · subst e; exact q1
      · exact absurd e h3
    · intro h k hk
      have hk : k < 2 := by simpa using hk
      have : k = 0 ∨ k = 1 := by omega
      rcases this with rfl | rfl
      · show partT 1 [a, b] 2 ∉ tot; rw [e1]; exact h [a] (by simp) (by simp) (by simp)
      · show partT 2 [a, b] 2 ∉ tot; rw [e2]; exact h [b] (by simp) (by simp) (by simp)
  | [a, b, c], _ =>
    obtain ⟨e1, e2, e3, e4, e5, e6⟩ := part3 a b c
    constructor
    · intro h t h1 h2 h3
      have q0 : partT 1 [a, b, c] 3 ∉ tot := h 0 (by simp)
      have q1 : partT 2 [a, b, c] 3 ∉ tot := h 1 (by simp)
      have q2 : partT 3 [a, b, c] 3 ∉ tot := h 2 (by simp)
      have q3 : partT 4 [a, b, c] 3 ∉ tot := h 3 (by simp)
      have q4 : partT 5 [a, b, c] 3 ∉ tot := h 4 (by simp)
      have q5 : partT 6 [a, b, c] 3 ∉ tot := h 5 (by simp)
      rw [e1] at q0; rw [e2] at q1; rw [e3] at q2; rw [e4] at q3; rw [e5] at q4; rw [e6] at q5
      rcases sub3 h1 with e | e | e | e | e | e | e | e
      · exact absurd e h2
      · subst e; exact q0
      · subst e; exact q1
      · subst e; exact q3
      · subst e; exact q2
      · subst e; exact q4
      · subst e; exact q5
      · exact absurd e h3
    · intro h k hk
      have hk : k < 6 := by simpa using hk
      have : k = 0 ∨ k = 1 ∨ k = 2 ∨ k = 3 ∨ k = 4 ∨ k = 5 := by omega
      rcases this with rfl | rfl | rfl | rfl | rfl | rfl
      · show partT 1 [a, b, c] 3 ∉ tot; rw [e1]; exact h [a] (by simp) (by simp) (by simp)
      · show partT 2 [a, b, c] 3 ∉ tot; rw [e2]; exact h [b] (by simp) (by simp) (by simp)
      · show partT 3 [a, b, c] 3 ∉ tot; rw [e3]; exact h [a, b] (by simp) (by simp) (by simp)
      · show partT 4 [a, b, c] 3 ∉ tot; rw [e4]; exact h [c] (by simp) (by simp) (by simp)
      · show partT 5 [a, b, c] 3 ∉ tot; rw [e5]; exact h [a, c] (by simp) (by simp) (by simp)
      · show partT 6 [a, b, c] 3 ∉ tot; rw [e6]; exact h [b, c] (by simp) (by simp) (by simp)
  | _ :: _ :: _ :: _ :: _, hl => simp at hl
abbrev Okt (tot : List (List Int)) : Prop := ∀ s ∈ tot, s.length ≤ 3 ∧ Dig s
theorem minM_iff {tot : List (List Int)} (ht : Okt tot) {s : List Int} : s ∈ minM tot ↔ s ∈ tot ∧ Least tot s := by
  have hd : ∀ s ∈ tot, Dig s := fun s hs => (ht s hs).2
  rw [minM, (sortL_perm _).mem_iff, minL, List.mem_filter, known_vals_iff hd]
  constructor
  · rintro ⟨h1, h2⟩; exact ⟨h1, (minOk_iff hd (ht s h1).2 (ht s h1).1).1 h2⟩
  · rintro ⟨h1, h2⟩; exact ⟨h1, (minOk_iff hd (ht s h1).2 (ht s h1).1).2 h2⟩
theorem minM_nodup (tot : List (List Int)) : (minM tot).Nodup := by
  rw [minM, (sortL_perm _).nodup_iff]
  exact (known_vals tot).filter _
abbrev Strict (l : List (List Int)) : Prop := l.Pairwise fun a b => cmpL a b < 0
theorem minM_strict (tot : List (List Int)) : Strict (minM tot) := by
  have h1 := sortL_sorted (minL (knownM tot))
  have h2 := minM_nodup tot
  have := h1.and h2
  refine this.imp ?_
  rintro a b ⟨h3, h4⟩
  simp only [ltOf, decide_eq_false_iff_not] at h3
  have := cmpL_anti a b
  have h5 : cmpL a b ≠ 0 := fun e => h4 (cmpL_zero a b e)
  omega
theorem cmpL_self (a : List Int) : cmpL a a = 0 := by have := cmpL_anti a a; omega
theorem Strict.nodup {l : List (List Int)} (h : Strict l) : l.Nodup := h.imp fun {a b} hab e => by subst e; rw [cmpL_self] at hab; omega
theorem strict_ext {l m : List (List Int)} (hl : Strict l) (hm : Strict m) (h : ∀ s, s ∈ l ↔ s ∈ m) : l = m := by
  refine sortedL_unique ((List.perm_ext_iff_of_nodup hl.nodup hm.nodup).2 h) (hl.imp fun {a b} hab => ?_) (hm.imp fun {a b} hab => ?_)
  all_goals
    have := cmpL_anti a b
    simp only [ltOf, decide_eq_false_iff_not]
    omega
theorem ltL_iff : ∀ a b : List Int, ltL a b = true ↔ cmpL a b < 0
  | [], [] => by simp [ltL, cmpL]
  | [], _ :: _ => by simp [ltL, cmpL]
  | _ :: _, [] => by simp [ltL, cmpL]
  | a :: x, b :: y => by
    have ih := ltL_iff x y
    have e : cmpL (a :: x) (b :: y) = if ordI a b = 0 then cmpL x y else ordI a b := rfl
    have e' : ltL (a :: x) (b :: y) = if a = b then ltL x y else decide (a < b) := rfl
    rw [e, e']
    by_cases h : a = b
    · subst h
      rw [if_pos rfl, if_pos (ordI_zero.2 rfl), ih]
    · rw [if_neg h, if_neg (fun e => h (ordI_zero.1 e)), decide_eq_true_eq]
      unfold ordI
      by_cases h1 : a < b
      · simp [h1]
      · have : b < a := by omega
        simp [h1, this]
theorem ltL_cmp (a b : List Int) : ltL a b = decide (cmpL a b < 0) := by
  rw [Bool.eq_iff_iff, ltL_iff, decide_eq_true_eq]
theorem intsB_iff {a b : List Int} : intsB a b = true ↔ a = b := by
  simp only [intsB, ltL_cmp, Bool.and_eq_true, Bool.not_eq_true', decide_eq_false_iff_not]
  constructor
  · rintro ⟨h1, h2⟩
    have := cmpL_anti a b
    exact cmpL_zero a b (by omega)
  · rintro rfl; rw [cmpL_self]; omega
theorem setsB_iff : ∀ {a b : List (List Int)}, setsB a b = true ↔ a = b
  | [], [] => by simp [setsB]
  | [], _ :: _ => by simp [setsB]
  | _ :: _, [] => by simp [setsB]
  | x :: a, y :: b => by simp only [setsB, Bool.and_eq_true, intsB_iff, setsB_iff, List.cons.injEq]
theorem exists_least {tot : List (List Int)} : ∀ (n : Nat) {s : List Int}, s.length ≤ n → s ∈ tot → s ≠ [] → ∃ t ∈ tot, t ≠ [] ∧ t.Sublist s ∧ Least tot t
  | 0, s, hl, _, hne => absurd (List.eq_nil_of_length_eq_zero (by omega)) hne
  | n + 1, s, hl, hs, hne => by
    by_cases h : Least tot s
    · exact ⟨s, hs, hne, List.Sublist.refl _, h⟩
    · simp only [Least] at h
      have : ∃ t, t.Sublist s ∧ t ≠ [] ∧ t ≠ s ∧ t ∈ tot := Classical.byContradiction fun hn => h fun t h1 h2 h3 h4 => hn ⟨t, h1, h2, h3, h4⟩
      obtain ⟨t, h1, h2, h3, h4⟩ := this
      have hlt : t.length < s.length := by
        rcases Nat.lt_or_ge t.length s.length with q | q
        · exact q
        · exact absurd (h1.eq_of_length_le q) h3
      obtain ⟨u, q1, q2, q3, q4⟩ := exists_least n (by omega) h4 h2
      exact ⟨u, q1, q2, q3.trans h1, q4⟩
/-- Each set of the list has a least one in it. -/
theorem minM_below {tot : List (List Int)} (ht : Okt tot) {s : List Int} (hs : s ∈ tot) (hne : s ≠ []) : ∃ t ∈ minM tot, t.Sublist s := by
  obtain ⟨t, h1, _, h3, h4⟩ := exists_least s.length (Nat.le_refl _) hs hne
  exact ⟨t, (minM_iff ht).2 ⟨h1, h4⟩, h3⟩
end Lg

/- Pure theory: the witnesses. -/
namespace Lg
open Go Go.Proofs

abbrev Srt (l : List Int) : Prop := l.Pairwise fun a b => a < b
/-- The assignments that asg walks through. -/
def path (d : GRule) (facts : List GFact) (cands : List Int) : Nat → List Int → List Int → Prop
  | 0, at_, at' => at' = at_
  | n + 1, at_, at' => ∃ c ∈ cands, cand d facts at_ c = true ∧ path d facts cands n (at_ ++ [c]) at'
theorem asg_mem {d : GRule} {facts : List GFact} {cands : List Int} : ∀ {n : Nat} {at_ s : List Int}, s ∈ asg d facts cands n at_ ↔ ∃ at', path d facts cands n at_ at' ∧ sortI at' = s
  | 0, at_, s => by simp [asg, path, eq_comm]
  | n + 1, at_, s => by
    simp only [asg, List.mem_flatMap, path]
    constructor
    · rintro ⟨c, hc, hs⟩
      split at hs
      · obtain ⟨at', h1, h2⟩ := asg_mem.1 hs
        exact ⟨at', ⟨c, hc, ‹_›, h1⟩, h2⟩
      · cases hs
    · rintro ⟨at', ⟨c, hc, hd, h1⟩, h2⟩
      refine ⟨c, hc, ?_⟩
      rw [if_pos hd]
      exact asg_mem.2 ⟨at', h1, h2⟩
theorem cand_new {d : GRule} {facts : List GFact} {at_ : List Int} {c : Int} (h : cand d facts at_ c = true) : c ∉ at_ := by
  simp only [cand, Bool.and_eq_true, Bool.not_eq_true'] at h
  have := h.1.2
  intro hc
  rw [List.contains_iff_mem.2 hc] at this
  cases this
theorem path_props {d : GRule} {facts : List GFact} {cands : List Int} : ∀ {n : Nat} {at_ at' : List Int}, path d facts cands n at_ at' → at_ <+: at' ∧ at'.length = at_.length + n ∧ (∀ x ∈ at', x ∈ at_ ∨ x ∈ cands) ∧ (at_.Nodup → at'.Nodup)
  | 0, at_, at', h => by
    have h : at' = at_ := h
    subst h
    exact ⟨List.prefix_refl _, rfl, fun x hx => .inl hx, id⟩
  | n + 1, at_, at', h => by
    obtain ⟨c, hc, hd, h1⟩ := h
    obtain ⟨i1, i2, i3, i4⟩ := path_props h1
    refine ⟨(List.prefix_append _ _).trans i1, by rw [i2]; simp; omega, fun x hx => ?_, fun hn => i4 ?_⟩
    · rcases i3 x hx with h | h
      · rcases List.mem_append.1 h with h | h
        · exact .inl h
        · rw [List.mem_singleton.1 h]; exact .inr hc
      · exact .inr h
    · refine List.nodup_append.2 ⟨hn, by simp, ?_⟩
      intro a ha b hb e
      rw [List.mem_singleton.1 hb] at e
      exact cand_new hd (e ▸ ha)
theorem path_sub {d : GRule} {facts : List GFact} {cands cands2 : List Int} : ∀ {n : Nat} {at_ at' : List Int}, path d facts cands n at_ at' → (∀ x ∈ at', x ∈ at_ ∨ x ∈ cands2) → path d facts cands2 n at_ at'
  | 0, at_, at', h, _ => h
  | n + 1, at_, at', h, hs => by
    obtain ⟨c, hc, hd, h1⟩ := h
    have hp := (path_props h1).1
    have hca : c ∈ at' := hp.subset (by simp)
    have hc2 : c ∈ cands2 := by
      rcases hs c hca with h | h
      · exact absurd h (cand_new hd)
      · exact h
    refine ⟨c, hc2, hd, path_sub h1 fun x hx => ?_⟩
    rcases hs x hx with h | h
    · exact .inl (List.mem_append_left _ h)
    · exact .inr h
theorem excl_mem {facts : List GFact} : ∀ {cs done : List Int} {s : List Int}, s ∈ excl facts done cs ↔ ∃ p c q b, cs = p ++ c :: q ∧ b ∈ done ++ p ∧ ent facts b = ent facts c ∧ exP facts b c = true ∧ s = [b, c]
  | [], done, s => by simp [excl]
  | c :: cs, done, s => by
    rw [excl, List.mem_append, excl_mem]
    constructor
    · rintro (h | ⟨p, c', q, b, e, hb, h1, h2, h3⟩)
      · simp only [exRow, exOf, List.mem_map, List.mem_filter, decide_eq_true_eq] at h
        obtain ⟨b, ⟨⟨h1, h2⟩, h3⟩, rfl⟩ := h
        exact ⟨[], c, cs, b, rfl, by simpa using h1, h2, h3, rfl⟩
      · subst e
        exact ⟨c :: p, c', q, b, rfl, by simpa [List.append_assoc] using hb, h1, h2, h3⟩
    · rintro ⟨p, c', q, b, e, hb, h1, h2, h3⟩
      cases p with
      | nil =>
        simp only [List.nil_append, List.cons.injEq] at e
        obtain ⟨rfl, rfl⟩ := e
        left
        simp only [exRow, exOf, List.mem_map, List.mem_filter, decide_eq_true_eq]
        exact ⟨b, ⟨⟨by simpa using hb, h1⟩, h2⟩, h3.symm⟩
      | cons a p =>
        simp only [List.cons_append, List.cons.injEq] at e
        obtain ⟨rfl, rfl⟩ := e
        right
        exact ⟨p, c', q, b, rfl, by simpa [List.append_assoc] using hb, h1, h2, h3⟩
theorem excl_sorted {facts : List GFact} {cs : List Int} (hs : Srt cs) {s : List Int} : s ∈ excl facts [] cs ↔ ∃ b c, b ∈ cs ∧ c ∈ cs ∧ b < c ∧ ent facts b = ent facts c ∧ exP facts b c = true ∧ s = [b, c] := by
  rw [excl_mem]
  constructor
  · rintro ⟨p, c, q, b, rfl, hb, h1, h2, h3⟩
    rw [List.nil_append] at hb
    refine ⟨b, c, List.mem_append_left _ hb, by simp, ?_, h1, h2, h3⟩
    exact (List.pairwise_append.1 hs).2.2 b hb c (by simp)
  · rintro ⟨b, c, hb, hc, hlt, h1, h2, h3⟩
    obtain ⟨p, q, rfl⟩ := List.append_of_mem hc
    refine ⟨p, c, q, b, rfl, ?_, h1, h2, h3⟩
    rw [List.nil_append]
    rcases List.mem_append.1 hb with h | h
    · exact h
    · exfalso
      rcases List.mem_cons.1 h with h | h
      · omega
      · have := (List.pairwise_cons.1 (List.pairwise_append.1 hs).2.1).1 b h
        omega
theorem wits_iff {rules : List GRule} {facts : List GFact} {cs : List Int} (hs : Srt cs) {s : List Int} : s ∈ wits rules facts cs ↔
    (∃ b c, b ∈ cs ∧ c ∈ cs ∧ b < c ∧ ent facts b = ent facts c ∧ exP facts b c = true ∧ s = [b, c]) ∨ ∃ d ∈ loweredR rules, ∃ at', path d facts cs d.Tables.length [] at' ∧ sortI at' = s := by
  rw [wits, List.mem_append, excl_sorted hs, List.mem_flatMap]
  simp only [asgs, asg_mem]
theorem sortI_perm (l : List Int) : (sortI l).Perm l := List.mergeSort_perm _ _
theorem sortI_mem {l : List Int} {x : Int} : x ∈ sortI l ↔ x ∈ l := (sortI_perm l).mem_iff
theorem sortI_le (l : List Int) : (sortI l).Pairwise fun a b => a ≤ b := by
  have := List.pairwise_mergeSort (le := fun a b : Int => decide (a ≤ b)) (fun a b c h1 h2 => by simp only [decide_eq_true_eq] at *; omega) (fun a b => by simp only [Bool.or_eq_true, decide_eq_true_eq]; omega) l
  exact this.imp fun h => by simpa using h
theorem sortI_srt {l : List Int} (h : l.Nodup) : Srt (sortI l) := by
  have h1 := sortI_le l
  have h2 : (sortI l).Nodup := (sortI_perm l).nodup_iff.2 h
  exact (h1.and h2).imp fun {a b} h => by have := h.1; have := h.2; omega
theorem srt_unique : ∀ {l m : List Int}, l.Perm m → l.Pairwise (fun a b => a ≤ b) → m.Pairwise (fun a b => a ≤ b) → l = m
  | [], m, hp, _, _ => (List.nil_perm.1 hp).symm ▸ rfl
  | a :: l, [], hp, _, _ => absurd hp.length_eq (by simp)
  | a :: l, b :: m, hp, h1, h2 => by
    have h1' := List.pairwise_cons.1 h1
    have h2' := List.pairwise_cons.1 h2
    have e : a = b := by
      rcases List.mem_cons.1 (hp.mem_iff.1 (by simp : a ∈ a :: l)) with e | ha
      · exact e
      rcases List.mem_cons.1 (hp.mem_iff.2 (by simp : b ∈ b :: m)) with e | hb
      · exact e.symm
      have := h2'.1 a ha
      have := h1'.1 b hb
      omega
    subst e
    rw [srt_unique hp.cons_inv h1'.2 h2'.2]
theorem sortI_eq {l m : List Int} (hp : l.Perm m) (hm : m.Pairwise fun a b => a ≤ b) : sortI l = m := srt_unique ((sortI_perm l).trans hp) (sortI_le l) hm
theorem loweredR_tab {rules : List GRule} {d : GRule} (h : d ∈ loweredR rules) : 0 < d.Tables.length ∧ d.Tables.length ≤ 3 := by
  obtain ⟨r, _, hr⟩ := List.mem_flatMap.1 h
  have := (List.mem_filter.1 hr).2
  simp only [okD3, Bool.and_eq_true, decide_eq_true_eq] at this
  omega
theorem wits_ok {rules : List GRule} {facts : List GFact} {cs : List Int} (hs : Srt cs) {s : List Int} (h : s ∈ wits rules facts cs) : s ≠ [] ∧ s.length ≤ 3 ∧ Srt s ∧ ∀ x ∈ s, x ∈ cs := by
  rcases (wits_iff hs).1 h with ⟨b, c, hb, hc, hlt, _, _, rfl⟩ | ⟨d, hd, at', hp, rfl⟩
  · refine ⟨by simp, by simp, by simpa using hlt, ?_⟩
    intro x hx
    simp only [List.mem_cons, List.not_mem_nil, or_false] at hx
    rcases hx with rfl | rfl <;> assumption
  · obtain ⟨_, h2, h3, h4⟩ := path_props hp
    have ht := loweredR_tab hd
    have hl := sortI_len at'
    refine ⟨fun e => ?_, by rw [hl, h2]; simp; omega, sortI_srt (h4 (by simp)), fun x hx => ?_⟩
    · rw [e] at hl; simp at hl h2; omega
    · rcases h3 x (sortI_mem.1 hx) with h | h
      · cases h
      · exact h
/-- The witnesses in a part of the candidates are those that lie in it. -/
theorem wits_sub {rules : List GRule} {facts : List GFact} {cs cs2 : List Int} (hs : Srt cs) (hs2 : Srt cs2) (hsub : ∀ x ∈ cs2, x ∈ cs) {s : List Int} : s ∈ wits rules facts cs2 ↔ s ∈ wits rules facts cs ∧ ∀ x ∈ s, x ∈ cs2 := by
  constructor
  · intro h
    refine ⟨?_, (wits_ok hs2 h).2.2.2⟩
    rcases (wits_iff hs2).1 h with ⟨b, c, hb, hc, q⟩ | ⟨d, hd, at', hp, e⟩
    · exact (wits_iff hs).2 (.inl ⟨b, c, hsub b hb, hsub c hc, q⟩)
    · refine (wits_iff hs).2 (.inr ⟨d, hd, at', path_sub hp fun x hx => ?_, e⟩)
      rcases (path_props hp).2.2.1 x hx with h | h
      · exact .inl h
      · exact .inr (hsub x h)
  · rintro ⟨h, hin⟩
    rcases (wits_iff hs).1 h with ⟨b, c, hb, hc, h1, h2, h3, rfl⟩ | ⟨d, hd, at', hp, rfl⟩
    · exact (wits_iff hs2).2 (.inl ⟨b, c, hin b (by simp), hin c (by simp), h1, h2, h3, rfl⟩)
    · exact (wits_iff hs2).2 (.inr ⟨d, hd, at', path_sub hp fun x hx => .inr (hin x (sortI_mem.2 hx)), rfl⟩)
theorem iota_srt (n : Nat) : Srt (iota n) := by
  unfold iota
  refine List.Pairwise.map _ (fun a b h => ?_) List.pairwise_lt_range
  exact_mod_cast h
theorem iota_mem_iff {n : Nat} {x : Int} : x ∈ iota n ↔ 0 ≤ x ∧ x < n := by
  constructor
  · exact iota_mem
  · rintro ⟨h1, h2⟩
    exact List.mem_map.2 ⟨x.toNat, List.mem_range.2 (by omega), by omega⟩
theorem isSetFrom_iff {n : Int} : ∀ {l : List Int} {p : Int}, isSetFrom n p l = true ↔ Srt (p :: l) ∧ ∀ x ∈ l, 0 ≤ x ∧ x < n
  | [], p => by simp [isSetFrom]
  | a :: l, p => by
    simp only [isSetFrom, Bool.and_eq_true, decide_eq_true_eq, isSetFrom_iff]
    constructor
    · rintro ⟨⟨⟨h1, h2⟩, h3⟩, h4, h5⟩
      refine ⟨List.pairwise_cons.2 ⟨fun x hx => ?_, h4⟩, fun x hx => ?_⟩
      · rcases List.mem_cons.1 hx with rfl | hx
        · exact h3
        · have := (List.pairwise_cons.1 h4).1 x hx; omega
      · rcases List.mem_cons.1 hx with rfl | hx
        · exact ⟨h1, h2⟩
        · exact h5 x hx
    · rintro ⟨h1, h2⟩
      have h1' := List.pairwise_cons.1 h1
      exact ⟨⟨h2 a (by simp), h1'.1 a (by simp)⟩, h1'.2, fun x hx => h2 x (by simp [hx])⟩
theorem isSet_iff {n : Nat} {l : List Int} : isSet l n = true ↔ Srt l ∧ ∀ x ∈ l, 0 ≤ x ∧ x < n := by
  rw [isSet, isSetFrom_iff]
  constructor
  · rintro ⟨h1, h2⟩; exact ⟨(List.pairwise_cons.1 h1).2, h2⟩
  · rintro ⟨h1, h2⟩; exact ⟨List.pairwise_cons.2 ⟨fun x hx => by have := h2 x hx; omega, h1⟩, h2⟩
abbrev allW (rules : List GRule) (facts : List GFact) : List (List Int) := wits rules facts (iota facts.length)
/-- Consistent: a set without a witness in it. -/
theorem consM_iff {rules : List GRule} {facts : List GFact} {set : List Int} : consM rules facts set = true ↔ (Srt set ∧ ∀ x ∈ set, 0 ≤ x ∧ x < (facts.length : Int)) ∧ ∀ s ∈ allW rules facts, ¬ ∀ x ∈ s, x ∈ set := by
  rw [consM, Bool.and_eq_true, isSet_iff, List.isEmpty_iff]
  constructor
  · rintro ⟨h1, h2⟩
    refine ⟨h1, fun s hs hin => ?_⟩
    have := (wits_sub (iota_srt _) h1.1 (fun x hx => iota_mem_iff.2 (h1.2 x hx))).2 ⟨hs, hin⟩
    rw [h2] at this
    cases this
  · rintro ⟨h1, h2⟩
    refine ⟨h1, List.eq_nil_iff_forall_not_mem.2 fun s hs => ?_⟩
    obtain ⟨h3, h4⟩ := (wits_sub (iota_srt _) h1.1 (fun x hx => iota_mem_iff.2 (h1.2 x hx))).1 hs
    exact h2 s h3 h4
theorem excl_len (facts : List GFact) : ∀ (cs done : List Int), (excl facts done cs).length ≤ (done.length + cs.length) * cs.length
  | [], done => by simp [excl]
  | c :: cs, done => by
    have ih := excl_len facts cs (done ++ [c])
    have h1 : (exRow facts c (exOf facts done c)).length ≤ done.length := by
      rw [exRow, List.length_map]
      exact Nat.le_trans (List.length_filter_le _ _) (List.length_filter_le _ _)
    rw [excl, List.length_append]
    simp only [List.length_append, List.length_cons, List.length_nil] at ih ⊢
    have e1 : (done.length + (0 + 1) + cs.length) * cs.length + (done.length + (cs.length + 1)) = (done.length + (cs.length + 1)) * (cs.length + 1) := by
      rw [Nat.mul_succ, show done.length + (0 + 1) + cs.length = done.length + (cs.length + 1) by omega]
    omega
theorem flat_len {α β : Type} (f : α → List β) (k : Nat) : ∀ (l : List α), (∀ x ∈ l, (f x).length ≤ k) → (l.flatMap f).length ≤ l.length * k
  | [], _ => by simp
  | a :: l, h => by
    have ih := flat_len f k l fun x hx => h x (by simp [hx])
    have := h a (by simp)
    rw [List.flatMap_cons, List.length_append, List.length_cons, Nat.succ_mul]
    omega
theorem asg_len (d : GRule) (facts : List GFact) (cands : List Int) : ∀ (n : Nat) (at_ : List Int), (asg d facts cands n at_).length ≤ cands.length ^ n
  | 0, at_ => by simp [asg]
  | n + 1, at_ => by
    rw [asg, Nat.pow_succ, Nat.mul_comm]
    refine flat_len _ _ _ fun c hc => ?_
    split
    · exact asg_len d facts cands n _
    · simp
/-- What Few leaves. -/
structure FewP (rules : List GRule) (facts : List GFact) : Prop where
  rl : rules.length ≤ 6
  fl : facts.length ≤ 12
  rr : ∀ r ∈ rules, r.Cols.length ≤ 12 ∧ r.Fixed.length ≤ 12 ∧ r.Tables.length ≤ 12 ∧ r.Tests.length ≤ 12
theorem FewP.of {rules : List GRule} {facts : List GFact} (h : fewB rules facts 12 = true) : FewP rules facts := by
  simp only [fewB, Bool.and_eq_true, decide_eq_true_eq, List.all_eq_true, fewR] at h
  refine ⟨by omega, by omega, fun r hr => ?_⟩
  have := h.1.2 r hr
  omega
theorem VHyp.of {rules : List GRule} {facts : List GFact} (hr : rules.length ≤ 6) (hf : facts.length ≤ 12) (hq : ∀ r ∈ rules, r.Cols.length ≤ 30 ∧ r.Fixed.length ≤ 30 ∧ r.Tests.length ≤ 60) : VHyp rules facts where
  fl := by omega
  rl := by omega
  ru := ⟨by omega, fun r h => by have := hq r h; omega, fun r h => by have := hq r h; omega⟩
  hw := fun s hs => by
    obtain ⟨_, h1, _, h2⟩ := wits_ok (iota_srt _) hs
    exact ⟨h1, fun x hx => by have := iota_mem (h2 x hx); omega⟩
  hwl := by
    have h1 := excl_len facts (iota facts.length) []
    have hl : (iota facts.length).length = facts.length := by simp [iota]
    rw [hl] at h1
    have h2 : ((loweredR rules).flatMap fun d => asgs d facts (iota facts.length)).length ≤ (loweredR rules).length * 1728 := by
      refine flat_len _ _ _ fun d hd => ?_
      have h3 := asg_len d facts (iota facts.length) d.Tables.length []
      rw [hl] at h3
      have h4 := loweredR_tab hd
      have h5 : facts.length ^ d.Tables.length ≤ 12 ^ d.Tables.length := Nat.pow_le_pow_left hf _
      have h6 : 12 ^ d.Tables.length ≤ 12 ^ 3 := Nat.pow_le_pow_right (by omega) h4.2
      have h7 : (12 : Nat) ^ 3 = 1728 := by decide
      show (asg d facts (iota facts.length) d.Tables.length []).length ≤ 1728
      omega
    have h3 := loweredR_len rules
    have h4 : facts.length * facts.length ≤ 12 * 12 := Nat.mul_le_mul hf hf
    simp only [List.length_nil, Nat.zero_add] at h1
    rw [wits, List.length_append]
    have h5 : (loweredR rules).length * 1728 ≤ 6 * 1728 := Nat.mul_le_mul_right _ (by omega)
    omega
theorem VHyp.few {rules : List GRule} {facts : List GFact} (h : FewP rules facts) : VHyp rules facts :=
  VHyp.of h.rl h.fl fun r hr => by have := h.rr r hr; omega
end Lg

/- The example of the chapter. -/
namespace Lg
open Go Go.Proofs
def tx : GValue := ⟨1, 0, ⟨#[120]⟩⟩
def ty_ : GValue := ⟨1, 0, ⟨#[121]⟩⟩
def nv (n : Int) : GValue := ⟨2, n, ⟨#[]⟩⟩
def exF : List GFact := [⟨0, 0, 0, [tx, nv 1], 0, []⟩, ⟨0, 1, 0, [tx, nv 2], 0, []⟩, ⟨0, 2, 0, [ty_, nv 1], 0, []⟩]
def exG : List GFact := [⟨0, 0, 0, [tx, nv 1], 0, []⟩, ⟨0, 1, 0, [tx, nv 2], 0, []⟩, ⟨0, 1, 1, [ty_, nv 1], 0, []⟩]
def rUnq : GRule := { zRule with Kind := 1, Cols := [0] }
def rUnq1 : GRule := { zRule with Kind := 1, Cols := [1] }
def rDep : GRule := { zRule with Kind := 2, Cols := [0], Col := 1 }
def rFix : GRule := { zRule with Kind := 2, Cols := [0], Col := 1, Fixed := [⟨1, nv 1⟩] }
def rLow : GRule := { zRule with Kind := 4, Tables := [0], Tests := [⟨⟨0, 1, zValue⟩, 3, ⟨-1, 0, nv 2⟩, 0⟩] }
def rLess : GRule := { zRule with Kind := 4, Tables := [0, 0], Tests := [⟨⟨0, 1, zValue⟩, 3, ⟨1, 1, zValue⟩, 0⟩] }
def rInc : GRule := { zRule with Kind := 3, OtherCol := 1 }
/-! The same, so that it can be reckoned. -/
def insI (x : Int) : List Int → List Int
  | [] => [x]
  | y :: l => if x ≤ y then x :: y :: l else y :: insI x l
def insS : List Int → List Int
  | [] => []
  | x :: l => insI x (insS l)
theorem insI_perm (x : Int) : ∀ l, (insI x l).Perm (x :: l)
  | [] => List.Perm.refl _
  | y :: l => by
    unfold insI
    split
    · exact List.Perm.refl _
    · exact ((insI_perm x l).cons y).trans (List.Perm.swap x y l)
theorem insI_sorted (x : Int) : ∀ l : List Int, l.Pairwise (fun a b => a ≤ b) → (insI x l).Pairwise (fun a b => a ≤ b)
  | [], _ => by simp [insI]
  | y :: l, h => by
    have h' := List.pairwise_cons.1 h
    unfold insI
    split
    · refine List.pairwise_cons.2 ⟨fun z hz => ?_, h⟩
      rcases List.mem_cons.1 hz with rfl | hz
      · assumption
      · have := h'.1 z hz; omega
    · refine List.pairwise_cons.2 ⟨fun z hz => ?_, insI_sorted x l h'.2⟩
      rcases List.mem_cons.1 ((insI_perm x l).mem_iff.1 hz) with rfl | hz
      · omega
      · exact h'.1 z hz
theorem insS_perm : ∀ l, (insS l).Perm l
  | [] => List.Perm.refl _
  | x :: l => (insI_perm x _).trans ((insS_perm l).cons x)
theorem insS_sorted : ∀ l, (insS l).Pairwise (fun a b => a ≤ b)
  | [] => List.Pairwise.nil
  | x :: l => insI_sorted x _ (insS_sorted l)
theorem sortI_ins : sortI = insS := funext fun l => sortI_eq (insS_perm l).symm (insS_sorted l)
def ordSC (a b : ByteArray) : Int := if Op.bytesLess a.data.toList b.data.toList then -1 else if Op.bytesLess a.data.toList b.data.toList || a.data.toList == b.data.toList then 0 else 1
theorem ordS_C : ordS = ordSC := funext fun a => funext fun b => by unfold ordS ordSC; simp only [ByteArray.toList_eq]
def cmpVC (a b : GValue) : Int := if ordI a.Kind b.Kind ≠ 0 then ordI a.Kind b.Kind else if ordI a.N b.N ≠ 0 then ordI a.N b.N else ordSC a.Text b.Text
def testVC (a : GValue) (op : Int) (b : GValue) (add : Int) : Bool :=
  if validV a = false ∨ validV b = false ∨ a.Kind ≠ b.Kind then false
  else if a.Kind = 2 ∨ a.Kind = 3 then opHolds op (ordI (a.N - b.N) add)
  else if a.Kind = 1 ∨ a.Kind = 4 then (if add ≠ 0 then false else opHolds op (cmpVC a b))
  else false
theorem testV_C : testV = testVC := funext fun a => funext fun op => funext fun b => funext fun add => by
  unfold testV testVC cmpV cmpVC; rw [ordS_C]
def holdsVC (t : GTest) (n : Int) (facts : List GFact) (at_ : List Int) : Bool :=
  (sideV t.Left n at_ facts).2.1 && (sideV t.Right n at_ facts).2.1 &&
  (((sideV t.Left n at_ facts).2.2 || (sideV t.Right n at_ facts).2.2) || testVC (sideV t.Left n at_ facts).1 t.Op (sideV t.Right n at_ facts).1 t.Add)
theorem holdsV_C : holdsV = holdsVC := funext fun t => funext fun n => funext fun f => funext fun at_ => by unfold holdsV holdsVC; rw [testV_C]
def candC (d : GRule) (facts : List GFact) (at_ : List Int) (c : Int) : Bool := decide ((nth facts c.toNat).Table = nth d.Tables at_.length) && !at_.contains c && d.Tests.all fun t => holdsVC t d.Tables.length facts (at_ ++ [c])
theorem cand_C : cand = candC := funext fun d => funext fun f => funext fun at_ => funext fun c => by unfold cand candC okT; rw [holdsV_C]
def asgC (d : GRule) (facts : List GFact) (cands : List Int) : Nat → List Int → List (List Int)
  | 0, at_ => [insS at_]
  | n + 1, at_ => cands.flatMap fun c => if candC d facts at_ c then asgC d facts cands n (at_ ++ [c]) else []
theorem asg_C (d : GRule) (facts : List GFact) (cands : List Int) : ∀ n at_, asg d facts cands n at_ = asgC d facts cands n at_
  | 0, at_ => by rw [asg, asgC, sortI_ins]
  | n + 1, at_ => by
    rw [asg, asgC, cand_C]
    congr 1
    funext c
    rw [asg_C d facts cands n]
def witsC (rules : List GRule) (facts : List GFact) (cands : List Int) : List (List Int) := excl facts [] cands ++ (loweredR rules).flatMap fun d => asgC d facts cands d.Tables.length []
theorem wits_C (rules : List GRule) (facts : List GFact) (cands : List Int) : wits rules facts cands = witsC rules facts cands := by
  unfold wits witsC
  congr 2
  funext d
  exact asg_C _ _ _ _ _
theorem w1 : allW [rUnq] exF = [[0, 1], [0, 1]] := by rw [allW, wits_C]; decide +kernel
theorem w2 : allW [rDep] exF = [[0, 1], [0, 1]] := by rw [allW, wits_C]; decide +kernel
theorem w3 : allW [rFix] exF = [] := by rw [allW, wits_C]; decide +kernel
theorem w4 : allW [rLow] exF = [[0], [2]] := by rw [allW, wits_C]; decide +kernel
theorem w5 : allW [rLess] exF = [[0, 1], [1, 2]] := by rw [allW, wits_C]; decide +kernel
theorem w6 : allW [rInc] exF = [] := by rw [allW, wits_C]; decide +kernel
theorem w7 : allW [rInc, rUnq] exF = [[0, 1], [0, 1]] := by rw [allW, wits_C]; decide +kernel
theorem w8 : allW [rUnq1] exG = [[1, 2], [0, 2], [0, 2]] := by rw [allW, wits_C]; decide +kernel
theorem d1 : danM [rInc] exF = [0, 1, 2] := by decide +kernel
theorem d2 : danM [rInc, rUnq] exF = [0, 1, 2] := by decide +kernel
theorem c1 : consM [rUnq] exG [0] = true := by unfold consM; rw [wits_C]; decide +kernel
theorem c2 : consM [rUnq] exG [0, 1] = false := by unfold consM; rw [wits_C]; decide +kernel
theorem minM_eq {W l : List (List Int)} (hW : ∀ s ∈ W, s.length ≤ 3 ∧ ∀ x ∈ s, 0 ≤ x ∧ x < 100) (hl : Strict l) (h1 : ∀ s ∈ l, s ∈ W ∧ ∀ t ∈ W, t.Sublist s → t = [] ∨ t = s) (h2 : ∀ s ∈ W, s ∈ l ∨ ∃ t ∈ W, t.Sublist s ∧ t ≠ [] ∧ t ≠ s) : minM W = l := by
  refine strict_ext (minM_strict W) hl fun s => ?_
  rw [minM_iff hW]
  constructor
  · rintro ⟨q1, q2⟩
    rcases h2 s q1 with h | ⟨t, a, b, c, d⟩
    · exact h
    · exact absurd a (q2 t b c d)
  · intro hs
    refine ⟨(h1 s hs).1, fun t q1 q2 q3 q4 => ?_⟩
    rcases (h1 s hs).2 t q4 q1 with h | h
    · exact q2 h
    · exact q3 h
theorem v1 : vioM [rUnq] exF = [[0, 1]] := by rw [vioM, show wits [rUnq] exF (iota exF.length) = _ from w1]; exact minM_eq (by decide) (by decide) (by decide) (by decide)
theorem v2 : vioM [rDep] exF = [[0, 1]] := by rw [vioM, show wits [rDep] exF (iota exF.length) = _ from w2]; exact minM_eq (by decide) (by decide) (by decide) (by decide)
theorem v3 : vioM [rFix] exF = [] := by rw [vioM, show wits [rFix] exF (iota exF.length) = _ from w3]; exact minM_eq (by decide) (by decide) (by decide) (by decide)
theorem v4 : vioM [rLow] exF = [[0], [2]] := by rw [vioM, show wits [rLow] exF (iota exF.length) = _ from w4]; exact minM_eq (by decide) (by decide) (by decide) (by decide)
theorem v5 : vioM [rLess] exF = [[0, 1], [1, 2]] := by rw [vioM, show wits [rLess] exF (iota exF.length) = _ from w5]; exact minM_eq (by decide) (by decide) (by decide) (by decide)
theorem v6 : vioM [rInc] exF = [] := by rw [vioM, show wits [rInc] exF (iota exF.length) = _ from w6]; exact minM_eq (by decide) (by decide) (by decide) (by decide)
theorem v7 : vioM [rInc, rUnq] exF = [[0, 1]] := by rw [vioM, show wits [rInc, rUnq] exF (iota exF.length) = _ from w7]; exact minM_eq (by decide) (by decide) (by decide) (by decide)
theorem v8 : vioM [rUnq1] exG = [[0, 2], [1, 2]] := by rw [vioM, show wits [rUnq1] exG (iota exG.length) = _ from w8]; exact minM_eq (by decide) (by decide) (by decide) (by decide)
theorem e1 : edgM [rInc, rUnq] exF = [[0], [1], [2], [0, 1]] := by rw [edgM, v7, d2]; rfl
theorem m1 : minM (edgM [rInc, rUnq] exF) = [[0], [1], [2]] := by rw [e1]; exact minM_eq (by decide) (by decide) (by decide) (by decide)
theorem g1 : (confG [rInc, rUnq] exF).Edges = [[0], [1], [2]] := by
  rw [confG, if_neg (by decide)]; exact m1
theorem g2 : confE exF = 0 := by decide
theorem few1 (r : GRule) (h : r = rUnq ∨ r = rDep ∨ r = rFix ∨ r = rLow ∨ r = rLess ∨ r = rInc) : VHyp [r] exF := by
  refine VHyp.of (by simp) (by decide) fun q hq => ?_
  rw [List.mem_singleton.1 hq]
  rcases h with rfl | rfl | rfl | rfl | rfl | rfl <;> decide
theorem few2 : VHyp [rUnq1] exG := VHyp.of (by simp) (by decide) fun q hq => by rw [List.mem_singleton.1 hq]; decide
theorem few3 : VHyp [rInc, rUnq] exF := VHyp.of (by simp) (by decide) fun q hq => by
  simp only [List.mem_cons, List.not_mem_nil, or_false] at hq
  rcases hq with rfl | rfl <;> decide
end Lg

namespace Lg
open Go Go.Proofs


theorem vio_len3 {rules : List GRule} {facts : List GFact} (H : VHyp rules facts) : ∀ x ∈ vioM rules facts, x.length ≤ 3 := fun x hx => (H.hw x (minM_mem hx)).1
theorem vio_len {rules : List GRule} {facts : List GFact} (H : VHyp rules facts) : (vioM rules facts).length ≤ 20000 := Nat.le_trans (minM_len _) H.hwl
theorem head_true : (setsB (vioM [rUnq] exF) [[0, 1]] && setsB (vioM [rDep] exF) [[0, 1]] && setsB (vioM [rFix] exF) [] && setsB (vioM [rLow] exF) [[0], [2]] && setsB (vioM [rLess] exF) [[0, 1], [1, 2]] && setsB (vioM [rInc] exF) [] &&
    setsB (vioM [rUnq1] exG) [[0, 2], [1, 2]] && intsB (danM [rInc] exF) [0, 1, 2] && decide (confE exF = 0) && setsB (confG [rInc, rUnq] exF).Edges [[0], [1], [2]] && consM [rUnq] exG [0] && !consM [rUnq] exG [0, 1]) = true := by
  rw [v1, v2, v3, v4, v5, v6, v8, d1, g1, g2, c1, c2]; decide
theorem inU : InRules [rUnq] := (few1 rUnq (by simp)).ru
theorem offInt : OffR 54 rInt := fun _ _ _ _ _ _ e => e
theorem offG {G : GGraph} {v : Value} : Off 54 (tTup [rGraphE.ty G, tV v]) := Off.tup (by
  intro A hA
  simp only [List.mem_cons, List.not_mem_nil, or_false] at hA
  rcases hA with rfl | rfl
  · refine Off.struct ?_
    intro f hf
    simp only [fsGraphE, List.mem_cons, List.not_mem_nil, or_false] at hf
    rcases hf with rfl | rfl | rfl
    · exact offInt
    · exact OffR.slE (by decide) offInt
    · exact OffR.slE (by decide) (OffR.slE (by decide) offInt)
  · exact Off.v)

theorem text_spec (s : ByteArray) : Fun1 Tryz.prog 52 [tV (.string s)] (rValue.ty ⟨1, 0, s⟩) := by
  refine Spec.enter Tryz.func52 rfl rfl fun h0 w0 fr0 => ?_
  refine J_seq ?_
  refine J_region ?_
  refine JL_stepX rfl rfl rfl (step_alloc (fun w => Tryz.zeroValue60 w) zr60) fun v2 => ?_
  refine JL_nil ?_
  refine J_seq ?_
  refine J_region ?_
  refine JL_step rfl rfl rfl (step_move Sub.rfl) ?_
  refine JL_step rfl rfl rfl (step_build (x := (⟨1, 0, s⟩ : GValue)) (zs := [[Value.int .i64 0], [Value.int .i64 0], [Value.string ⟨#[]⟩]]) so60 (fun w => Tryz.zeroValue60 w) ⟨Sub.rfl, Sub.rfl, trivial⟩ ⟨⟨Sub.rfl, rfl⟩, fun _ => rfl, ⟨Sub.rfl, rfl⟩, trivial⟩) ?_
  refine JL_stepU rfl rfl (step_store_box ty60 Sub.rfl Sub.rfl (by first | exact Sel.take (Sel.none _) | exact Sel.skip (Sel.take (Sel.none _)) | exact Sel.skip (Sel.skip (Sel.take (Sel.none _))) | exact Sel.skip (Sel.skip (Sel.skip (Sel.take (Sel.none _)))) | exact Sel.skip (Sel.skip (Sel.skip (Sel.skip (Sel.take (Sel.none _))))))) fun _ => ?_
  refine JL_freeze (t := 2) (Sel.take (Sel.none _)) Frz.box ?_
  refine JL_nil ?_
  refine J_ret ?_
  refine K_retv (rv := .cell 2 60) rfl () (.imm ty60 Sub.rfl Sub.rfl) Sub.rfl
theorem number_spec (n : Int) : Fun1 Tryz.prog 53 [tV (.int .i64 n)] (rValue.ty (nv n)) := by
  refine Spec.enter Tryz.func53 rfl rfl fun h0 w0 fr0 => ?_
  refine J_seq ?_
  refine J_region ?_
  refine JL_stepX rfl rfl rfl (step_alloc (fun w => Tryz.zeroValue60 w) zr60) fun v2 => ?_
  refine JL_nil ?_
  refine J_seq ?_
  refine J_region ?_
  refine JL_step rfl rfl rfl (step_move Sub.rfl) ?_
  refine JL_step rfl rfl rfl (step_build (x := (nv n : GValue)) (zs := [[Value.int .i64 0], [Value.int .i64 0], [Value.string ⟨#[]⟩]]) so60 (fun w => Tryz.zeroValue60 w) ⟨Sub.rfl, Sub.rfl, trivial⟩ ⟨⟨Sub.rfl, rfl⟩, ⟨Sub.rfl, rfl⟩, fun _ => rfl, trivial⟩) ?_
  refine JL_stepU rfl rfl (step_store_box ty60 Sub.rfl Sub.rfl (by first | exact Sel.take (Sel.none _) | exact Sel.skip (Sel.take (Sel.none _)) | exact Sel.skip (Sel.skip (Sel.take (Sel.none _))) | exact Sel.skip (Sel.skip (Sel.skip (Sel.take (Sel.none _)))) | exact Sel.skip (Sel.skip (Sel.skip (Sel.skip (Sel.take (Sel.none _))))))) fun _ => ?_
  refine JL_freeze (t := 2) (Sel.take (Sel.none _)) Frz.box ?_
  refine JL_nil ?_
  refine J_ret ?_
  refine K_retv (rv := .cell 2 60) rfl () (.imm ty60 Sub.rfl Sub.rfl) Sub.rfl
theorem exfacts_spec  : Spec (X := Value) Tryz.prog 32 [] ([]) (fun z => rV.ty z) (fun z => [own 54 rFact z exF]) := by
  refine Spec.enter Tryz.func32 rfl rfl fun h0 w0 fr0 => ?_
  refine J_seq ?_
  refine J_region ?_
  refine JL_step rfl rfl rfl (step_assign Sub.rfl) ?_
  refine JL_nil ?_
  refine J_seq ?_
  refine J_region ?_
  refine JL_step rfl rfl rfl (step_assign Sub.rfl) ?_
  refine JL_nil ?_
  refine J_seq ?_
  refine J_region ?_
  refine JL_step rfl rfl rfl (step_assign Sub.rfl) ?_
  refine JL_nil ?_
  refine J_seq ?_
  refine J_region ?_
  refine JL_step rfl rfl rfl (step_move Sub.rfl) ?_
  refine JL_step rfl rfl rfl (step_callv0 (aT := [_]) Sub.clo0 (text_spec _) ⟨Sub.rfl, trivial⟩ Tryz.call52) ?_
  refine JL_step rfl rfl rfl (step_move Sub.rfl) ?_
  refine JL_step rfl rfl rfl (step_callv0 (aT := [_]) Sub.clo0 (number_spec _) ⟨Sub.rfl, trivial⟩ Tryz.call53) ?_
  refine JL_step rfl rfl rfl (step_literal (ys := [_, _]) Tryz.underlying52 el60 ⟨rfl, Sub.rfl, rfl, Sub.rfl, trivial⟩ rfl (by decide)) ?_
  refine JL_step rfl rfl rfl (step_build (x := (⟨0, 0, 0, [tx, nv 1], 0, []⟩ : GFact)) (zs := [[Value.int .i64 0], [Value.int .i64 0], [Value.int .i64 0], [Value.slice none 0 0], [Value.int .i64 0], [Value.slice none 0 0]]) so54 (fun w => Tryz.zeroValue54 w) ⟨Sub.rfl, trivial⟩ ⟨fun _ => rfl, fun _ => rfl, fun _ => rfl, ⟨Sub.rfl, rfl⟩, fun _ => rfl, fun _ => ⟨_, rfl, none, 0, rfl, fun q => absurd rfl q⟩, trivial⟩) ?_
  refine JL_step rfl rfl rfl (step_move Sub.rfl) ?_
  refine JL_step rfl rfl rfl (step_callv0 (aT := [_]) Sub.clo0 (text_spec _) ⟨Sub.rfl, trivial⟩ Tryz.call52) ?_
  refine JL_step rfl rfl rfl (step_move Sub.rfl) ?_
  refine JL_step rfl rfl rfl (step_callv0 (aT := [_]) Sub.clo0 (number_spec _) ⟨Sub.rfl, trivial⟩ Tryz.call53) ?_
  refine JL_step rfl rfl rfl (step_literal (ys := [_, _]) Tryz.underlying52 el60 ⟨rfl, Sub.rfl, rfl, Sub.rfl, trivial⟩ rfl (by decide)) ?_
  refine JL_step rfl rfl rfl (step_build (x := (⟨0, 1, 0, [tx, nv 2], 0, []⟩ : GFact)) (zs := [[Value.int .i64 0], [Value.int .i64 0], [Value.int .i64 0], [Value.slice none 0 0], [Value.int .i64 0], [Value.slice none 0 0]]) so54 (fun w => Tryz.zeroValue54 w) ⟨Sub.rfl, Sub.rfl, trivial⟩ ⟨fun _ => rfl, ⟨Sub.rfl, rfl⟩, fun _ => rfl, ⟨Sub.rfl, rfl⟩, fun _ => rfl, fun _ => ⟨_, rfl, none, 0, rfl, fun q => absurd rfl q⟩, trivial⟩) ?_
  refine JL_step rfl rfl rfl (step_move Sub.rfl) ?_
  refine JL_step rfl rfl rfl (step_callv0 (aT := [_]) Sub.clo0 (text_spec _) ⟨Sub.rfl, trivial⟩ Tryz.call52) ?_
  refine JL_step rfl rfl rfl (step_move Sub.rfl) ?_
  refine JL_step rfl rfl rfl (step_callv0 (aT := [_]) Sub.clo0 (number_spec _) ⟨Sub.rfl, trivial⟩ Tryz.call53) ?_
  refine JL_step rfl rfl rfl (step_literal (ys := [_, _]) Tryz.underlying52 el60 ⟨rfl, Sub.rfl, rfl, Sub.rfl, trivial⟩ rfl (by decide)) ?_
  refine JL_step rfl rfl rfl (step_build (x := (⟨0, 2, 0, [ty_, nv 1], 0, []⟩ : GFact)) (zs := [[Value.int .i64 0], [Value.int .i64 0], [Value.int .i64 0], [Value.slice none 0 0], [Value.int .i64 0], [Value.slice none 0 0]]) so54 (fun w => Tryz.zeroValue54 w) ⟨Sub.rfl, Sub.rfl, trivial⟩ ⟨fun _ => rfl, ⟨Sub.rfl, rfl⟩, fun _ => rfl, ⟨Sub.rfl, rfl⟩, fun _ => rfl, fun _ => ⟨_, rfl, none, 0, rfl, fun q => absurd rfl q⟩, trivial⟩) ?_
  refine JL_stepX rfl rfl rfl (step_literal_own (ys := exF) Tryz.underlying23 el54 ⟨rfl, Sub.rfl, rfl, Sub.rfl, rfl, Sub.rfl, trivial⟩ rfl (by decide)) fun v21 => ?_
  refine JL_step rfl rfl rfl (step_assign Sub.rfl) ?_
  refine JL_nil ?_
  refine J_ret ?_
  refine K_retv (rv := .tmp 0) rfl v21 (.tmp Sub.rfl) Sub.rfl
theorem is_spec (r : GRule) (l : List GFact) (want : List (List Int)) (H : VHyp [r] l) (hw : want.length ≤ 1000) (hwe : ∀ x ∈ want, x.length ≤ 1000) : Fun1 Tryz.prog 33 [rRule.ty r, tSl rFact l, tSl (rSl rInt) want] (tV (.bool (setsB (vioM [r] l) want))) := by
  refine Spec.enter Tryz.func33 rfl rfl fun h0 w0 fr0 => ?_
  refine J_seq ?_
  refine J_region ?_
  refine JL_step rfl rfl rfl (step_box (R := rRule) Sub.rfl) ?_
  refine JL_step rfl rfl rfl (step_assign Sub.rfl) ?_
  refine JL_nil ?_
  refine J_seq ?_
  refine J_region ?_
  refine JL_step rfl rfl rfl (step_load_ptr ty32 Sub.rfl) ?_
  refine JL_step rfl rfl rfl (step_literal (ys := [_]) Tryz.underlying22 el32 ⟨rfl, Sub.rfl, trivial⟩ rfl (by decide)) ?_
  refine JL_step rfl rfl rfl (step_move Sub.rfl) ?_
  refine JL_step rfl rfl rfl (step_call0 (Viol_spec H) ⟨Sub.rfl, Sub.rfl, trivial⟩ Tryz.call15) ?_
  refine JL_step rfl rfl rfl (step_move Sub.rfl) ?_
  refine JL_step rfl rfl rfl (step_extract Sub.rfl rfl) ?_
  refine JL_step rfl rfl rfl (step_extract Sub.rfl rfl) ?_
  refine JL_step rfl rfl rfl (step_assign Sub.rfl) ?_
  refine JL_step rfl rfl rfl (step_assign Sub.rfl) ?_
  refine JL_nil ?_
  refine J_seq ?_
  refine J_region ?_
  refine JL_step rfl rfl rfl (step_move Sub.rfl) ?_
  refine JL_step rfl rfl rfl (step_eql Sub.rfl Sub.rfl) ?_
  refine JL_step rfl rfl rfl (step_move Sub.rfl) ?_
  refine JL_stepG rfl rfl rfl (Gd.plain Sub.rfl) rfl rfl (fun hw => step_move Sub.rfl) ?_
  refine JL_stepG rfl rfl rfl (Gd.plain Sub.rfl) rfl rfl (fun hw => step_move Sub.rfl) ?_
  refine JL_stepG rfl rfl rfl (Gd.plain Sub.rfl) rfl rfl (fun hw => step_call0 (Sets_spec _ _ (Nat.le_trans (vio_len H) (by omega)) (by omega) (fun x hx => Nat.le_trans (vio_len3 H x hx) (by omega)) (fun x hx => Nat.le_trans (hwe x hx) (by omega))) ⟨Sub.trans (Sub.w hw) Sub.ofEE, Sub.w hw, trivial⟩ Tryz.call19) ?_
  refine JL_step rfl rfl rfl (step_pick_and Sub.rfl Sub.rfl) ?_
  refine JL_step rfl rfl rfl (step_assign Sub.rfl) ?_
  refine JL_nil ?_
  refine J_ret ?_
  refine K_retv (rv := .tmp 6) rfl () (.tmp Sub.rfl) (Sub.bool ?_)
  simp
theorem head_spec  : Fun1 Tryz.prog 10 [] (tV (.bool true)) := by
  refine Spec.enter Tryz.func10 rfl rfl fun h0 w0 fr0 => ?_
  refine J_seq ?_
  refine J_region ?_
  refine JL_step rfl rfl rfl (step_assign Sub.rfl) ?_
  refine JL_nil ?_
  refine J_seq ?_
  refine J_region ?_
  refine JL_stepX rfl rfl rfl (step_call (Sel.none _) exfacts_spec trivial Tryz.call32) fun v17 => ?_
  refine JL_step rfl rfl rfl (step_assign Sub.rfl) ?_
  refine JL_nil ?_
  refine J_seq ?_
  refine J_region ?_
  refine JL_step rfl rfl rfl (step_build (x := (⟨0, 1, zValue⟩ : GSide)) (zs := [[Value.int .i64 0], [Value.int .i64 0], [Value.int .i64 0, Value.int .i64 0, Value.string ⟨#[]⟩]]) so62 (fun w => Tryz.zeroValue62 w) ⟨Sub.rfl, trivial⟩ ⟨fun _ => rfl, ⟨Sub.rfl, rfl⟩, fun _ => ⟨[Value.int .i64 0], _, rfl, rfl, ⟨[Value.int .i64 0], _, rfl, rfl, ⟨[Value.string ⟨#[]⟩], _, rfl, rfl, rfl⟩⟩⟩, trivial⟩) ?_
  refine JL_stepX rfl rfl rfl (step_alloc (fun w => Tryz.zeroValue62 w) zr62) fun v2 => ?_
  refine JL_stepU rfl rfl (step_store_box ty62 Sub.rfl Sub.rfl (by first | exact Sel.take (Sel.none _) | exact Sel.skip (Sel.take (Sel.none _)) | exact Sel.skip (Sel.skip (Sel.take (Sel.none _))) | exact Sel.skip (Sel.skip (Sel.skip (Sel.take (Sel.none _)))) | exact Sel.skip (Sel.skip (Sel.skip (Sel.skip (Sel.take (Sel.none _))))))) fun _ => ?_
  refine JL_freeze (t := 2) (Sel.take (Sel.none _)) Frz.box ?_
  refine JL_nil ?_
  refine J_seq ?_
  refine J_region ?_
  refine JL_step rfl rfl rfl (step_build (x := (⟨1, 1, zValue⟩ : GSide)) (zs := [[Value.int .i64 0], [Value.int .i64 0], [Value.int .i64 0, Value.int .i64 0, Value.string ⟨#[]⟩]]) so62 (fun w => Tryz.zeroValue62 w) ⟨Sub.rfl, Sub.rfl, trivial⟩ ⟨⟨Sub.rfl, rfl⟩, ⟨Sub.rfl, rfl⟩, fun _ => ⟨[Value.int .i64 0], _, rfl, rfl, ⟨[Value.int .i64 0], _, rfl, rfl, ⟨[Value.string ⟨#[]⟩], _, rfl, rfl, rfl⟩⟩⟩, trivial⟩) ?_
  refine JL_stepX rfl rfl rfl (step_alloc (fun w => Tryz.zeroValue62 w) zr62) fun v3 => ?_
  refine JL_stepU rfl rfl (step_store_box ty62 Sub.rfl Sub.rfl (by first | exact Sel.take (Sel.none _) | exact Sel.skip (Sel.take (Sel.none _)) | exact Sel.skip (Sel.skip (Sel.take (Sel.none _))) | exact Sel.skip (Sel.skip (Sel.skip (Sel.take (Sel.none _)))) | exact Sel.skip (Sel.skip (Sel.skip (Sel.skip (Sel.take (Sel.none _))))))) fun _ => ?_
  refine JL_freeze (t := 3) (Sel.take (Sel.none _)) Frz.box ?_
  refine JL_nil ?_
  refine J_seq ?_
  refine J_region ?_
  refine JL_step rfl rfl rfl (step_build (x := (nv 1 : GValue)) (zs := [[Value.int .i64 0], [Value.int .i64 0], [Value.string ⟨#[]⟩]]) so60 (fun w => Tryz.zeroValue60 w) ⟨Sub.rfl, Sub.rfl, trivial⟩ ⟨⟨Sub.rfl, rfl⟩, ⟨Sub.rfl, rfl⟩, fun _ => rfl, trivial⟩) ?_
  refine JL_step rfl rfl rfl (step_build (x := (⟨-1, 0, nv 1⟩ : GSide)) (zs := [[Value.int .i64 0], [Value.int .i64 0], [Value.int .i64 0, Value.int .i64 0, Value.string ⟨#[]⟩]]) so62 (fun w => Tryz.zeroValue62 w) ⟨Sub.rfl, Sub.rfl, trivial⟩ ⟨⟨Sub.rfl, rfl⟩, fun _ => rfl, ⟨Sub.rfl, rfl⟩, trivial⟩) ?_
  refine JL_stepX rfl rfl rfl (step_alloc (fun w => Tryz.zeroValue62 w) zr62) fun v4 => ?_
  refine JL_stepU rfl rfl (step_store_box ty62 Sub.rfl Sub.rfl (by first | exact Sel.take (Sel.none _) | exact Sel.skip (Sel.take (Sel.none _)) | exact Sel.skip (Sel.skip (Sel.take (Sel.none _))) | exact Sel.skip (Sel.skip (Sel.skip (Sel.take (Sel.none _)))) | exact Sel.skip (Sel.skip (Sel.skip (Sel.skip (Sel.take (Sel.none _))))))) fun _ => ?_
  refine JL_freeze (t := 4) (Sel.take (Sel.none _)) Frz.box ?_
  refine JL_nil ?_
  refine J_seq ?_
  refine J_region ?_
  refine JL_step rfl rfl rfl (step_build (x := (nv 2 : GValue)) (zs := [[Value.int .i64 0], [Value.int .i64 0], [Value.string ⟨#[]⟩]]) so60 (fun w => Tryz.zeroValue60 w) ⟨Sub.rfl, Sub.rfl, trivial⟩ ⟨⟨Sub.rfl, rfl⟩, ⟨Sub.rfl, rfl⟩, fun _ => rfl, trivial⟩) ?_
  refine JL_step rfl rfl rfl (step_build (x := (⟨-1, 0, nv 2⟩ : GSide)) (zs := [[Value.int .i64 0], [Value.int .i64 0], [Value.int .i64 0, Value.int .i64 0, Value.string ⟨#[]⟩]]) so62 (fun w => Tryz.zeroValue62 w) ⟨Sub.rfl, Sub.rfl, trivial⟩ ⟨⟨Sub.rfl, rfl⟩, fun _ => rfl, ⟨Sub.rfl, rfl⟩, trivial⟩) ?_
  refine JL_stepX rfl rfl rfl (step_alloc (fun w => Tryz.zeroValue62 w) zr62) fun v5 => ?_
  refine JL_stepU rfl rfl (step_store_box ty62 Sub.rfl Sub.rfl (by first | exact Sel.take (Sel.none _) | exact Sel.skip (Sel.take (Sel.none _)) | exact Sel.skip (Sel.skip (Sel.take (Sel.none _))) | exact Sel.skip (Sel.skip (Sel.skip (Sel.take (Sel.none _)))) | exact Sel.skip (Sel.skip (Sel.skip (Sel.skip (Sel.take (Sel.none _))))))) fun _ => ?_
  refine JL_freeze (t := 5) (Sel.take (Sel.none _)) Frz.box ?_
  refine JL_nil ?_
  refine J_seq ?_
  refine J_region ?_
  refine JL_step rfl rfl rfl (step_literal (ys := [_]) Tryz.underlying24 el3 ⟨rfl, Sub.rfl, trivial⟩ rfl (by decide)) ?_
  refine JL_step rfl rfl rfl (step_build (x := (rUnq : GRule)) (zs := [[Value.int .i64 0], [Value.string ⟨#[]⟩], [Value.int .i64 0], [Value.slice none 0 0], [Value.int .i64 0], [Value.slice none 0 0], [Value.int .i64 0], [Value.int .i64 0], [Value.slice none 0 0], [Value.slice none 0 0]]) so32 (fun w => Tryz.zeroValue32 w) ⟨Sub.rfl, Sub.rfl, trivial⟩ ⟨⟨Sub.rfl, rfl⟩, fun _ => rfl, fun _ => rfl, ⟨Sub.rfl, rfl⟩, fun _ => rfl, fun _ => ⟨_, rfl, none, 0, rfl, fun q => absurd rfl q⟩, fun _ => rfl, fun _ => rfl, fun _ => ⟨_, rfl, none, 0, rfl, fun q => absurd rfl q⟩, fun _ => ⟨_, rfl, none, 0, rfl, fun q => absurd rfl q⟩, trivial⟩) ?_
  refine JL_stepX rfl rfl rfl (step_alloc (fun w => Tryz.zeroValue32 w) zr32) fun v6 => ?_
  refine JL_stepU rfl rfl (step_store_box ty32 Sub.rfl Sub.rfl (by first | exact Sel.take (Sel.none _) | exact Sel.skip (Sel.take (Sel.none _)) | exact Sel.skip (Sel.skip (Sel.take (Sel.none _))) | exact Sel.skip (Sel.skip (Sel.skip (Sel.take (Sel.none _)))) | exact Sel.skip (Sel.skip (Sel.skip (Sel.skip (Sel.take (Sel.none _))))))) fun _ => ?_
  refine JL_freeze (t := 6) (Sel.take (Sel.none _)) Frz.box ?_
  refine JL_nil ?_
  refine J_seq ?_
  refine J_region ?_
  refine JL_step rfl rfl rfl (step_literal (ys := [_]) Tryz.underlying24 el3 ⟨rfl, Sub.rfl, trivial⟩ rfl (by decide)) ?_
  refine JL_step rfl rfl rfl (step_build (x := (rDep : GRule)) (zs := [[Value.int .i64 0], [Value.string ⟨#[]⟩], [Value.int .i64 0], [Value.slice none 0 0], [Value.int .i64 0], [Value.slice none 0 0], [Value.int .i64 0], [Value.int .i64 0], [Value.slice none 0 0], [Value.slice none 0 0]]) so32 (fun w => Tryz.zeroValue32 w) ⟨Sub.rfl, Sub.rfl, Sub.rfl, trivial⟩ ⟨⟨Sub.rfl, rfl⟩, fun _ => rfl, fun _ => rfl, ⟨Sub.rfl, rfl⟩, ⟨Sub.rfl, rfl⟩, fun _ => ⟨_, rfl, none, 0, rfl, fun q => absurd rfl q⟩, fun _ => rfl, fun _ => rfl, fun _ => ⟨_, rfl, none, 0, rfl, fun q => absurd rfl q⟩, fun _ => ⟨_, rfl, none, 0, rfl, fun q => absurd rfl q⟩, trivial⟩) ?_
  refine JL_stepX rfl rfl rfl (step_alloc (fun w => Tryz.zeroValue32 w) zr32) fun v7 => ?_
  refine JL_stepU rfl rfl (step_store_box ty32 Sub.rfl Sub.rfl (by first | exact Sel.take (Sel.none _) | exact Sel.skip (Sel.take (Sel.none _)) | exact Sel.skip (Sel.skip (Sel.take (Sel.none _))) | exact Sel.skip (Sel.skip (Sel.skip (Sel.take (Sel.none _)))) | exact Sel.skip (Sel.skip (Sel.skip (Sel.skip (Sel.take (Sel.none _))))))) fun _ => ?_
  refine JL_freeze (t := 7) (Sel.take (Sel.none _)) Frz.box ?_
  refine JL_nil ?_
  refine J_seq ?_
  refine J_region ?_
  refine JL_step rfl rfl rfl (step_literal (ys := [_]) Tryz.underlying24 el3 ⟨rfl, Sub.rfl, trivial⟩ rfl (by decide)) ?_
  refine JL_step rfl rfl rfl (step_fieldAddr so62 Sub.rfl rfl) ?_
  refine JL_step rfl rfl rfl (step_load_ptr ty60 Sub.rfl) ?_
  refine JL_step rfl rfl rfl (step_build (x := (⟨1, nv 1⟩ : GFixed)) (zs := [[Value.int .i64 0], [Value.int .i64 0, Value.int .i64 0, Value.string ⟨#[]⟩]]) so64 (fun w => Tryz.zeroValue64 w) ⟨Sub.rfl, Sub.rfl, trivial⟩ ⟨⟨Sub.rfl, rfl⟩, ⟨Sub.rfl, rfl⟩, trivial⟩) ?_
  refine JL_step rfl rfl rfl (step_literal (ys := [_]) Tryz.underlying29 el64 ⟨rfl, Sub.rfl, trivial⟩ rfl (by decide)) ?_
  refine JL_step rfl rfl rfl (step_build (x := (rFix : GRule)) (zs := [[Value.int .i64 0], [Value.string ⟨#[]⟩], [Value.int .i64 0], [Value.slice none 0 0], [Value.int .i64 0], [Value.slice none 0 0], [Value.int .i64 0], [Value.int .i64 0], [Value.slice none 0 0], [Value.slice none 0 0]]) so32 (fun w => Tryz.zeroValue32 w) ⟨Sub.rfl, Sub.rfl, Sub.rfl, Sub.rfl, trivial⟩ ⟨⟨Sub.rfl, rfl⟩, fun _ => rfl, fun _ => rfl, ⟨Sub.rfl, rfl⟩, ⟨Sub.rfl, rfl⟩, ⟨Sub.rfl, rfl⟩, fun _ => rfl, fun _ => rfl, fun _ => ⟨_, rfl, none, 0, rfl, fun q => absurd rfl q⟩, fun _ => ⟨_, rfl, none, 0, rfl, fun q => absurd rfl q⟩, trivial⟩) ?_
  refine JL_stepX rfl rfl rfl (step_alloc (fun w => Tryz.zeroValue32 w) zr32) fun v8 => ?_
  refine JL_stepU rfl rfl (step_store_box ty32 Sub.rfl Sub.rfl (by first | exact Sel.take (Sel.none _) | exact Sel.skip (Sel.take (Sel.none _)) | exact Sel.skip (Sel.skip (Sel.take (Sel.none _))) | exact Sel.skip (Sel.skip (Sel.skip (Sel.take (Sel.none _)))) | exact Sel.skip (Sel.skip (Sel.skip (Sel.skip (Sel.take (Sel.none _))))))) fun _ => ?_
  refine JL_freeze (t := 8) (Sel.take (Sel.none _)) Frz.box ?_
  refine JL_nil ?_
  refine J_seq ?_
  refine J_region ?_
  refine JL_step rfl rfl rfl (step_literal (ys := [_]) Tryz.underlying24 el3 ⟨rfl, Sub.rfl, trivial⟩ rfl (by decide)) ?_
  refine JL_step rfl rfl rfl (step_load_ptr ty62 Sub.rfl) ?_
  refine JL_step rfl rfl rfl (step_load_ptr ty62 Sub.rfl) ?_
  refine JL_step rfl rfl rfl (step_build (x := (⟨⟨0, 1, zValue⟩, 3, ⟨-1, 0, nv 2⟩, 0⟩ : GTest)) (zs := [[Value.int .i64 0, Value.int .i64 0, Value.int .i64 0, Value.int .i64 0, Value.string ⟨#[]⟩], [Value.int .i64 0], [Value.int .i64 0, Value.int .i64 0, Value.int .i64 0, Value.int .i64 0, Value.string ⟨#[]⟩], [Value.int .i64 0]]) so66 (fun w => Tryz.zeroValue66 w) ⟨Sub.rfl, Sub.rfl, Sub.rfl, trivial⟩ ⟨⟨Sub.rfl, rfl⟩, ⟨Sub.rfl, rfl⟩, ⟨Sub.rfl, rfl⟩, fun _ => rfl, trivial⟩) ?_
  refine JL_step rfl rfl rfl (step_literal (ys := [_]) Tryz.underlying30 el66 ⟨rfl, Sub.rfl, trivial⟩ rfl (by decide)) ?_
  refine JL_step rfl rfl rfl (step_build (x := (rLow : GRule)) (zs := [[Value.int .i64 0], [Value.string ⟨#[]⟩], [Value.int .i64 0], [Value.slice none 0 0], [Value.int .i64 0], [Value.slice none 0 0], [Value.int .i64 0], [Value.int .i64 0], [Value.slice none 0 0], [Value.slice none 0 0]]) so32 (fun w => Tryz.zeroValue32 w) ⟨Sub.rfl, Sub.rfl, Sub.rfl, trivial⟩ ⟨⟨Sub.rfl, rfl⟩, fun _ => rfl, fun _ => rfl, fun _ => ⟨_, rfl, none, 0, rfl, fun q => absurd rfl q⟩, fun _ => rfl, fun _ => ⟨_, rfl, none, 0, rfl, fun q => absurd rfl q⟩, fun _ => rfl, fun _ => rfl, ⟨Sub.rfl, rfl⟩, ⟨Sub.rfl, rfl⟩, trivial⟩) ?_
  refine JL_stepX rfl rfl rfl (step_alloc (fun w => Tryz.zeroValue32 w) zr32) fun v9 => ?_
  refine JL_stepU rfl rfl (step_store_box ty32 Sub.rfl Sub.rfl (by first | exact Sel.take (Sel.none _) | exact Sel.skip (Sel.take (Sel.none _)) | exact Sel.skip (Sel.skip (Sel.take (Sel.none _))) | exact Sel.skip (Sel.skip (Sel.skip (Sel.take (Sel.none _)))) | exact Sel.skip (Sel.skip (Sel.skip (Sel.skip (Sel.take (Sel.none _))))))) fun _ => ?_
  refine JL_freeze (t := 9) (Sel.take (Sel.none _)) Frz.box ?_
  refine JL_nil ?_
  refine J_seq ?_
  refine J_region ?_
  refine JL_step rfl rfl rfl (step_literal (ys := [_, _]) Tryz.underlying24 el3 ⟨rfl, Sub.rfl, rfl, Sub.rfl, trivial⟩ rfl (by decide)) ?_
  refine JL_step rfl rfl rfl (step_load_ptr ty62 Sub.rfl) ?_
  refine JL_step rfl rfl rfl (step_load_ptr ty62 Sub.rfl) ?_
  refine JL_step rfl rfl rfl (step_build (x := (⟨⟨0, 1, zValue⟩, 3, ⟨1, 1, zValue⟩, 0⟩ : GTest)) (zs := [[Value.int .i64 0, Value.int .i64 0, Value.int .i64 0, Value.int .i64 0, Value.string ⟨#[]⟩], [Value.int .i64 0], [Value.int .i64 0, Value.int .i64 0, Value.int .i64 0, Value.int .i64 0, Value.string ⟨#[]⟩], [Value.int .i64 0]]) so66 (fun w => Tryz.zeroValue66 w) ⟨Sub.rfl, Sub.rfl, Sub.rfl, trivial⟩ ⟨⟨Sub.rfl, rfl⟩, ⟨Sub.rfl, rfl⟩, ⟨Sub.rfl, rfl⟩, fun _ => rfl, trivial⟩) ?_
  refine JL_step rfl rfl rfl (step_literal (ys := [_]) Tryz.underlying30 el66 ⟨rfl, Sub.rfl, trivial⟩ rfl (by decide)) ?_
  refine JL_step rfl rfl rfl (step_build (x := (rLess : GRule)) (zs := [[Value.int .i64 0], [Value.string ⟨#[]⟩], [Value.int .i64 0], [Value.slice none 0 0], [Value.int .i64 0], [Value.slice none 0 0], [Value.int .i64 0], [Value.int .i64 0], [Value.slice none 0 0], [Value.slice none 0 0]]) so32 (fun w => Tryz.zeroValue32 w) ⟨Sub.rfl, Sub.rfl, Sub.rfl, trivial⟩ ⟨⟨Sub.rfl, rfl⟩, fun _ => rfl, fun _ => rfl, fun _ => ⟨_, rfl, none, 0, rfl, fun q => absurd rfl q⟩, fun _ => rfl, fun _ => ⟨_, rfl, none, 0, rfl, fun q => absurd rfl q⟩, fun _ => rfl, fun _ => rfl, ⟨Sub.rfl, rfl⟩, ⟨Sub.rfl, rfl⟩, trivial⟩) ?_
  refine JL_stepX rfl rfl rfl (step_alloc (fun w => Tryz.zeroValue32 w) zr32) fun v10 => ?_
  refine JL_stepU rfl rfl (step_store_box ty32 Sub.rfl Sub.rfl (by first | exact Sel.take (Sel.none _) | exact Sel.skip (Sel.take (Sel.none _)) | exact Sel.skip (Sel.skip (Sel.take (Sel.none _))) | exact Sel.skip (Sel.skip (Sel.skip (Sel.take (Sel.none _)))) | exact Sel.skip (Sel.skip (Sel.skip (Sel.skip (Sel.take (Sel.none _))))))) fun _ => ?_
  refine JL_freeze (t := 10) (Sel.take (Sel.none _)) Frz.box ?_
  refine JL_nil ?_
  refine J_seq ?_
  refine J_region ?_
  refine JL_step rfl rfl rfl (step_build (x := (rInc : GRule)) (zs := [[Value.int .i64 0], [Value.string ⟨#[]⟩], [Value.int .i64 0], [Value.slice none 0 0], [Value.int .i64 0], [Value.slice none 0 0], [Value.int .i64 0], [Value.int .i64 0], [Value.slice none 0 0], [Value.slice none 0 0]]) so32 (fun w => Tryz.zeroValue32 w) ⟨Sub.rfl, Sub.rfl, trivial⟩ ⟨⟨Sub.rfl, rfl⟩, fun _ => rfl, fun _ => rfl, fun _ => ⟨_, rfl, none, 0, rfl, fun q => absurd rfl q⟩, fun _ => rfl, fun _ => ⟨_, rfl, none, 0, rfl, fun q => absurd rfl q⟩, fun _ => rfl, ⟨Sub.rfl, rfl⟩, fun _ => ⟨_, rfl, none, 0, rfl, fun q => absurd rfl q⟩, fun _ => ⟨_, rfl, none, 0, rfl, fun q => absurd rfl q⟩, trivial⟩) ?_
  refine JL_stepX rfl rfl rfl (step_alloc (fun w => Tryz.zeroValue32 w) zr32) fun v11 => ?_
  refine JL_stepU rfl rfl (step_store_box ty32 Sub.rfl Sub.rfl (by first | exact Sel.take (Sel.none _) | exact Sel.skip (Sel.take (Sel.none _)) | exact Sel.skip (Sel.skip (Sel.take (Sel.none _))) | exact Sel.skip (Sel.skip (Sel.skip (Sel.take (Sel.none _)))) | exact Sel.skip (Sel.skip (Sel.skip (Sel.skip (Sel.take (Sel.none _))))))) fun _ => ?_
  refine JL_freeze (t := 11) (Sel.take (Sel.none _)) Frz.box ?_
  refine JL_nil ?_
  refine J_seq ?_
  refine J_region ?_
  refine JL_step rfl rfl rfl (step_load_ptr ty32 Sub.rfl) ?_
  refine JL_step rfl rfl rfl (step_move Sub.rfl) ?_
  refine JL_step rfl rfl rfl (step_literal (ys := [_, _]) Tryz.underlying24 el3 ⟨rfl, Sub.rfl, rfl, Sub.rfl, trivial⟩ rfl (by decide)) ?_
  refine JL_step rfl rfl rfl (step_literal (ys := [_]) Tryz.underlying33 el24 ⟨rfl, Sub.rfl, trivial⟩ rfl (by decide)) ?_
  refine JL_step rfl rfl rfl (step_call_look (Sel.take (Sel.none _)) (is_spec rUnq exF _ (few1 _ (by simp)) (by decide) (by decide)) (fun _ => Flat.v _) ⟨(Frz.sub Sub.rfl), (Frz.own), (Frz.sub Sub.rfl), trivial⟩ Tryz.call33) ?_
  refine JL_step rfl rfl rfl (step_move Sub.rfl) ?_
  refine JL_stepG rfl rfl rfl (Gd.plain Sub.rfl) rfl rfl (fun hw => step_load_ptr ty32 Sub.rfl) ?_
  refine JL_stepG rfl rfl rfl (Gd.plain Sub.rfl) rfl rfl (fun hw => step_move Sub.rfl) ?_
  refine JL_stepG rfl rfl rfl (Gd.plain Sub.rfl) rfl rfl (fun hw => step_literal (ys := [_, _]) Tryz.underlying24 el3 ⟨rfl, Sub.rfl, rfl, Sub.rfl, trivial⟩ rfl (by decide)) ?_
  refine JL_stepG rfl rfl rfl (Gd.plain Sub.rfl) rfl rfl (fun hw => step_literal (ys := [_]) Tryz.underlying33 el24 ⟨rfl, (Sub.w hw), trivial⟩ rfl (by decide)) ?_
  refine JL_stepG rfl rfl rfl (Gd.plain Sub.rfl) rfl rfl (fun hw => step_call_look (Sel.take (Sel.none _)) (is_spec rDep exF _ (few1 _ (by simp)) (by decide) (by decide)) (fun _ => Flat.v _) ⟨(Frz.sub (Sub.w hw)), (Frz.w hw Frz.own), (Frz.sub (Sub.w hw)), trivial⟩ Tryz.call33) ?_
  refine JL_step rfl rfl rfl (step_pick_and Sub.rfl Sub.rfl) ?_
  refine JL_step rfl rfl rfl (step_move Sub.rfl) ?_
  refine JL_stepG rfl rfl rfl (Gd.plain Sub.rfl) rfl rfl (fun hw => step_load_ptr ty32 Sub.rfl) ?_
  refine JL_stepG rfl rfl rfl (Gd.plain Sub.rfl) rfl rfl (fun hw => step_move Sub.rfl) ?_
  refine JL_stepG rfl rfl rfl (Gd.plain Sub.rfl) rfl rfl (fun hw => step_call_look (Sel.take (Sel.none _)) (is_spec rFix exF _ (few1 _ (by simp)) (by decide) (by decide)) (fun _ => Flat.v _) ⟨(Frz.sub (Sub.w hw)), (Frz.w hw Frz.own), (Frz.sub Sub.nilsl), trivial⟩ Tryz.call33) ?_
  refine JL_step rfl rfl rfl (step_pick_and Sub.rfl Sub.rfl) ?_
  refine JL_step rfl rfl rfl (step_move Sub.rfl) ?_
  refine JL_stepG rfl rfl rfl (Gd.plain Sub.rfl) rfl rfl (fun hw => step_load_ptr ty32 Sub.rfl) ?_
  refine JL_stepG rfl rfl rfl (Gd.plain Sub.rfl) rfl rfl (fun hw => step_move Sub.rfl) ?_
  refine JL_stepG rfl rfl rfl (Gd.plain Sub.rfl) rfl rfl (fun hw => step_literal (ys := [_]) Tryz.underlying24 el3 ⟨rfl, Sub.rfl, trivial⟩ rfl (by decide)) ?_
  refine JL_stepG rfl rfl rfl (Gd.plain Sub.rfl) rfl rfl (fun hw => step_literal (ys := [_]) Tryz.underlying24 el3 ⟨rfl, Sub.rfl, trivial⟩ rfl (by decide)) ?_
  refine JL_stepG rfl rfl rfl (Gd.plain Sub.rfl) rfl rfl (fun hw => step_literal (ys := [_, _]) Tryz.underlying33 el24 ⟨rfl, (Sub.w hw), rfl, (Sub.w hw), trivial⟩ rfl (by decide)) ?_
  refine JL_stepG rfl rfl rfl (Gd.plain Sub.rfl) rfl rfl (fun hw => step_call_look (Sel.take (Sel.none _)) (is_spec rLow exF _ (few1 _ (by simp)) (by decide) (by decide)) (fun _ => Flat.v _) ⟨(Frz.sub (Sub.w hw)), (Frz.w hw Frz.own), (Frz.sub (Sub.w hw)), trivial⟩ Tryz.call33) ?_
  refine JL_step rfl rfl rfl (step_pick_and Sub.rfl Sub.rfl) ?_
  refine JL_step rfl rfl rfl (step_move Sub.rfl) ?_
  refine JL_stepG rfl rfl rfl (Gd.plain Sub.rfl) rfl rfl (fun hw => step_load_ptr ty32 Sub.rfl) ?_
  refine JL_stepG rfl rfl rfl (Gd.plain Sub.rfl) rfl rfl (fun hw => step_move Sub.rfl) ?_
  refine JL_stepG rfl rfl rfl (Gd.plain Sub.rfl) rfl rfl (fun hw => step_literal (ys := [_, _]) Tryz.underlying24 el3 ⟨rfl, Sub.rfl, rfl, Sub.rfl, trivial⟩ rfl (by decide)) ?_
  refine JL_stepG rfl rfl rfl (Gd.plain Sub.rfl) rfl rfl (fun hw => step_literal (ys := [_, _]) Tryz.underlying24 el3 ⟨rfl, Sub.rfl, rfl, Sub.rfl, trivial⟩ rfl (by decide)) ?_
  refine JL_stepG rfl rfl rfl (Gd.plain Sub.rfl) rfl rfl (fun hw => step_literal (ys := [_, _]) Tryz.underlying33 el24 ⟨rfl, (Sub.w hw), rfl, (Sub.w hw), trivial⟩ rfl (by decide)) ?_
  refine JL_stepG rfl rfl rfl (Gd.plain Sub.rfl) rfl rfl (fun hw => step_call_look (Sel.take (Sel.none _)) (is_spec rLess exF _ (few1 _ (by simp)) (by decide) (by decide)) (fun _ => Flat.v _) ⟨(Frz.sub (Sub.w hw)), (Frz.w hw Frz.own), (Frz.sub (Sub.w hw)), trivial⟩ Tryz.call33) ?_
  refine JL_step rfl rfl rfl (step_pick_and Sub.rfl Sub.rfl) ?_
  refine JL_step rfl rfl rfl (step_move Sub.rfl) ?_
  refine JL_stepG rfl rfl rfl (Gd.plain Sub.rfl) rfl rfl (fun hw => step_load_ptr ty32 Sub.rfl) ?_
  refine JL_stepG rfl rfl rfl (Gd.plain Sub.rfl) rfl rfl (fun hw => step_move Sub.rfl) ?_
  refine JL_stepG rfl rfl rfl (Gd.plain Sub.rfl) rfl rfl (fun hw => step_call_look (Sel.take (Sel.none _)) (is_spec rInc exF _ (few1 _ (by simp)) (by decide) (by decide)) (fun _ => Flat.v _) ⟨(Frz.sub (Sub.w hw)), (Frz.w hw Frz.own), (Frz.sub Sub.nilsl), trivial⟩ Tryz.call33) ?_
  refine JL_step rfl rfl rfl (step_pick_and Sub.rfl Sub.rfl) ?_
  refine JL_step rfl rfl rfl (step_assign Sub.rfl) ?_
  refine JL_nil ?_
  refine J_seq ?_
  refine J_region ?_
  refine JL_step rfl rfl rfl (step_load_ptr ty32 Sub.rfl) ?_
  refine JL_step rfl rfl rfl (step_literal (ys := [_]) Tryz.underlying22 el32 ⟨rfl, Sub.rfl, trivial⟩ rfl (by decide)) ?_
  refine JL_step rfl rfl rfl (step_move Sub.rfl) ?_
  refine JL_step rfl rfl rfl (step_call_lookE (e0 := 54) (Sel.take (Sel.none _)) (fun h m p => own_allE p) (Dangling_spec [rInc] exF (by decide) (by decide)) (fun _ => Off.slE (by decide) offInt) ⟨Frz.sub Sub.rfl, Frz.own, trivial⟩ Tryz.call22) ?_
  refine JL_step rfl rfl rfl (step_assign Sub.rfl) ?_
  refine JL_nil ?_
  refine J_seq ?_
  refine J_region ?_
  refine JL_step rfl rfl rfl (step_load_ptr ty32 Sub.rfl) ?_
  refine JL_step rfl rfl rfl (step_load_ptr ty32 Sub.rfl) ?_
  refine JL_step rfl rfl rfl (step_literal (ys := [_, _]) Tryz.underlying22 el32 ⟨rfl, Sub.rfl, rfl, Sub.rfl, trivial⟩ rfl (by decide)) ?_
  refine JL_step rfl rfl rfl (step_move Sub.rfl) ?_
  refine JL_step rfl rfl rfl (step_call_lookE (e0 := 54) (Sel.take (Sel.none _)) (fun h m p => own_allE p) (Conflicts_spec [rInc, rUnq] exF few3) (fun _ => offG) ⟨Frz.sub Sub.rfl, Frz.own, trivial⟩ Tryz.call17) ?_
  refine JL_step rfl rfl rfl (step_move Sub.rfl) ?_
  refine JL_step rfl rfl rfl (step_extract Sub.rfl rfl) ?_
  refine JL_step rfl rfl rfl (step_extract Sub.rfl rfl) ?_
  refine JL_stepX rfl rfl rfl (step_alloc (fun w => Tryz.zeroValue38 w) zr38E) fun v14 => ?_
  refine JL_stepU rfl rfl (step_store_box ty38E Sub.rfl Sub.rfl (by first | exact Sel.take (Sel.none _) | exact Sel.skip (Sel.take (Sel.none _)) | exact Sel.skip (Sel.skip (Sel.take (Sel.none _))) | exact Sel.skip (Sel.skip (Sel.skip (Sel.take (Sel.none _)))) | exact Sel.skip (Sel.skip (Sel.skip (Sel.skip (Sel.take (Sel.none _))))))) fun _ => ?_
  refine JL_freeze (t := 14) (Sel.take (Sel.none _)) Frz.box ?_
  refine JL_step rfl rfl rfl (step_assign Sub.rfl) ?_
  refine JL_nil ?_
  refine J_seq ?_
  refine J_region ?_
  refine JL_step rfl rfl rfl (step_move Sub.rfl) ?_
  refine JL_step rfl rfl rfl (step_indexAddr_own (i := 2) Tryz.underlying23 ty54 Sub.rfl (by first | exact Sel.take (Sel.none _) | exact Sel.skip (Sel.take (Sel.none _)) | exact Sel.skip (Sel.skip (Sel.take (Sel.none _))) | exact Sel.skip (Sel.skip (Sel.skip (Sel.take (Sel.none _)))) | exact Sel.skip (Sel.skip (Sel.skip (Sel.skip (Sel.take (Sel.none _)))))) Sub.rfl ?sg1 ?sg2) ?_
  case sg1 => rfl
  case sg2 => decide
  refine JL_step rfl rfl rfl (step_fieldAddr_elem (xs := exF) so54 Sub.rfl rfl (Sel.take (Sel.none _)) (by decide)) ?_
  refine JL_stepU rfl rfl (step_store_elemfld (y := nth exF 2) (y' := { nth exF 2 with Entity := 1 }) ty3 Sub.rfl Sub.rfl (Sel.take (Sel.none _)) rfl ⟨rfl, fun _ _ q => q, rfl, by intro g hg; simp only [List.mem_cons, List.not_mem_nil, or_false] at hg; rcases hg with rfl | rfl | rfl | rfl <;> rfl⟩) fun _ => ?_
  refine JL_nil ?_
  refine J_seq ?_
  refine J_region ?_
  refine JL_step rfl rfl rfl (step_move Sub.rfl) ?_
  refine JL_step rfl rfl rfl (step_indexAddr_own (i := 2) Tryz.underlying23 ty54 Sub.rfl (by first | exact Sel.take (Sel.none _) | exact Sel.skip (Sel.take (Sel.none _)) | exact Sel.skip (Sel.skip (Sel.take (Sel.none _))) | exact Sel.skip (Sel.skip (Sel.skip (Sel.take (Sel.none _)))) | exact Sel.skip (Sel.skip (Sel.skip (Sel.skip (Sel.take (Sel.none _)))))) Sub.rfl ?sg1 ?sg2) ?_
  case sg1 => rfl
  case sg2 => decide
  refine JL_step rfl rfl rfl (step_fieldAddr_elem so54 Sub.rfl rfl (Sel.take (Sel.none _)) (by decide)) ?_
  refine JL_stepU rfl rfl (step_store_elemfld (y := { nth exF 2 with Entity := 1 }) (y' := { nth exF 2 with Entity := 1, Variant := 1 }) ty3 Sub.rfl Sub.rfl (Sel.take (Sel.none _)) rfl ⟨rfl, rfl, fun _ _ q => q, rfl, by intro g hg; simp only [List.mem_cons, List.not_mem_nil, or_false] at hg; rcases hg with rfl | rfl | rfl <;> rfl⟩) fun _ => ?_
  refine JL_nil ?_
  refine J_seq ?_
  refine J_region ?_
  refine JL_step rfl rfl rfl (step_literal (ys := [_]) Tryz.underlying24 el3 ⟨rfl, Sub.rfl, trivial⟩ rfl (by decide)) ?_
  refine JL_step rfl rfl rfl (step_build (x := (rUnq1 : GRule)) (zs := [[Value.int .i64 0], [Value.string ⟨#[]⟩], [Value.int .i64 0], [Value.slice none 0 0], [Value.int .i64 0], [Value.slice none 0 0], [Value.int .i64 0], [Value.int .i64 0], [Value.slice none 0 0], [Value.slice none 0 0]]) so32 (fun w => Tryz.zeroValue32 w) ⟨Sub.rfl, Sub.rfl, trivial⟩ ⟨⟨Sub.rfl, rfl⟩, fun _ => rfl, fun _ => rfl, ⟨Sub.rfl, rfl⟩, fun _ => rfl, fun _ => ⟨_, rfl, none, 0, rfl, fun q => absurd rfl q⟩, fun _ => rfl, fun _ => rfl, fun _ => ⟨_, rfl, none, 0, rfl, fun q => absurd rfl q⟩, fun _ => ⟨_, rfl, none, 0, rfl, fun q => absurd rfl q⟩, trivial⟩) ?_
  refine JL_step rfl rfl rfl (step_move Sub.rfl) ?_
  refine JL_step rfl rfl rfl (step_literal (ys := [_, _]) Tryz.underlying24 el3 ⟨rfl, Sub.rfl, rfl, Sub.rfl, trivial⟩ rfl (by decide)) ?_
  refine JL_step rfl rfl rfl (step_literal (ys := [_, _]) Tryz.underlying24 el3 ⟨rfl, Sub.rfl, rfl, Sub.rfl, trivial⟩ rfl (by decide)) ?_
  refine JL_step rfl rfl rfl (step_literal (ys := [_, _]) Tryz.underlying33 el24 ⟨rfl, Sub.rfl, rfl, Sub.rfl, trivial⟩ rfl (by decide)) ?_
  refine JL_step rfl rfl rfl (step_call_look (Sel.take (Sel.none _)) (is_spec rUnq1 exG _ few2 (by decide) (by decide)) (fun _ => Flat.v _) ⟨(Frz.sub Sub.rfl), (Frz.own), (Frz.sub Sub.rfl), trivial⟩ Tryz.call33) ?_
  refine JL_step rfl rfl rfl (step_assign Sub.rfl) ?_
  refine JL_nil ?_
  refine J_seq ?_
  refine J_region ?_
  refine JL_step rfl rfl rfl (step_move Sub.rfl) ?_
  refine JL_step rfl rfl rfl (step_move Sub.rfl) ?_
  refine JL_stepG rfl rfl rfl (Gd.plain Sub.rfl) rfl rfl (fun hw => step_move Sub.rfl) ?_
  refine JL_step rfl rfl rfl (step_pick_and Sub.rfl Sub.rfl) ?_
  refine JL_step rfl rfl rfl (step_move Sub.rfl) ?_
  refine JL_stepG rfl rfl rfl (Gd.plain Sub.rfl) rfl rfl (fun hw => step_move Sub.rfl) ?_
  refine JL_stepG rfl rfl rfl (Gd.plain Sub.rfl) rfl rfl (fun hw => step_literal (ys := [_, _, _]) Tryz.underlying24 el3 ⟨rfl, Sub.rfl, rfl, Sub.rfl, rfl, Sub.rfl, trivial⟩ rfl (by decide)) ?_
  refine JL_stepG rfl rfl rfl (Gd.plain Sub.rfl) rfl rfl (fun hw => step_call0 (Ints_spec _ _ (by rw [d1]; decide) (by decide)) ⟨Sub.trans (Sub.w hw) Sub.ofE, Sub.w hw, trivial⟩ Tryz.call21) ?_
  refine JL_step rfl rfl rfl (step_pick_and Sub.rfl Sub.rfl) ?_
  refine JL_step rfl rfl rfl (step_move Sub.rfl) ?_
  refine JL_stepG rfl rfl rfl (Gd.plain Sub.rfl) rfl rfl (fun hw => step_move Sub.rfl) ?_
  refine JL_stepG rfl rfl rfl (Gd.plain Sub.rfl) rfl rfl (fun hw => step_eql (Sub.w hw) Sub.rfl) ?_
  refine JL_step rfl rfl rfl (step_pick_and Sub.rfl Sub.rfl) ?_
  refine JL_step rfl rfl rfl (step_move Sub.rfl) ?_
  refine JL_stepG rfl rfl rfl (Gd.plain Sub.rfl) rfl rfl (fun hw => step_fieldAddr so38E Sub.rfl rfl) ?_
  refine JL_stepG rfl rfl rfl (Gd.plain Sub.rfl) rfl rfl (fun hw => step_load_ptr ty33E (Sub.w hw)) ?_
  refine JL_stepG rfl rfl rfl (Gd.plain Sub.rfl) rfl rfl (fun hw => step_literal (ys := [_]) Tryz.underlying24 el3 ⟨rfl, Sub.rfl, trivial⟩ rfl (by decide)) ?_
  refine JL_stepG rfl rfl rfl (Gd.plain Sub.rfl) rfl rfl (fun hw => step_literal (ys := [_]) Tryz.underlying24 el3 ⟨rfl, Sub.rfl, trivial⟩ rfl (by decide)) ?_
  refine JL_stepG rfl rfl rfl (Gd.plain Sub.rfl) rfl rfl (fun hw => step_literal (ys := [_]) Tryz.underlying24 el3 ⟨rfl, Sub.rfl, trivial⟩ rfl (by decide)) ?_
  refine JL_stepG rfl rfl rfl (Gd.plain Sub.rfl) rfl rfl (fun hw => step_literal (ys := [_, _, _]) Tryz.underlying33 el24 ⟨rfl, (Sub.w hw), rfl, (Sub.w hw), rfl, (Sub.w hw), trivial⟩ rfl (by decide)) ?_
  refine JL_stepG rfl rfl rfl (Gd.plain Sub.rfl) rfl rfl (fun hw => step_call0 (Sets_spec (confG [rInc, rUnq] exF).Edges _ (by rw [g1]; decide) (by decide) (by rw [g1]; decide) (by decide)) ⟨Sub.trans (Sub.w hw) Sub.ofEE, Sub.w hw, trivial⟩ Tryz.call19) ?_
  refine JL_step rfl rfl rfl (step_pick_and Sub.rfl Sub.rfl) ?_
  refine JL_step rfl rfl rfl (step_move Sub.rfl) ?_
  refine JL_stepG rfl rfl rfl (Gd.plain Sub.rfl) rfl rfl (fun hw => step_load_ptr ty32 Sub.rfl) ?_
  refine JL_stepG rfl rfl rfl (Gd.plain Sub.rfl) rfl rfl (fun hw => step_literal (ys := [_]) Tryz.underlying22 el32 ⟨rfl, (Sub.w hw), trivial⟩ rfl (by decide)) ?_
  refine JL_stepG rfl rfl rfl (Gd.plain Sub.rfl) rfl rfl (fun hw => step_move Sub.rfl) ?_
  refine JL_stepG rfl rfl rfl (Gd.plain Sub.rfl) rfl rfl (fun hw => step_literal (ys := [_]) Tryz.underlying24 el3 ⟨rfl, Sub.rfl, trivial⟩ rfl (by decide)) ?_
  refine JL_stepG rfl rfl rfl (Gd.plain Sub.rfl) rfl rfl (fun hw => step_call_look (Sel.take (Sel.none _)) (Consistent_spec [rUnq] exG [0] (by decide) (by decide) inU) (fun _ => Flat.v _) ⟨(Frz.sub (Sub.w hw)), (Frz.w hw Frz.own), (Frz.sub (Sub.w hw)), trivial⟩ Tryz.call24) ?_
  refine JL_step rfl rfl rfl (step_pick_and Sub.rfl Sub.rfl) ?_
  refine JL_step rfl rfl rfl (step_move Sub.rfl) ?_
  refine JL_stepG rfl rfl rfl (Gd.plain Sub.rfl) rfl rfl (fun hw => step_load_ptr ty32 Sub.rfl) ?_
  refine JL_stepG rfl rfl rfl (Gd.plain Sub.rfl) rfl rfl (fun hw => step_literal (ys := [_]) Tryz.underlying22 el32 ⟨rfl, (Sub.w hw), trivial⟩ rfl (by decide)) ?_
  refine JL_stepG rfl rfl rfl (Gd.plain Sub.rfl) rfl rfl (fun hw => step_move Sub.rfl) ?_
  refine JL_stepG rfl rfl rfl (Gd.plain Sub.rfl) rfl rfl (fun hw => step_literal (ys := [_, _]) Tryz.underlying24 el3 ⟨rfl, Sub.rfl, rfl, Sub.rfl, trivial⟩ rfl (by decide)) ?_
  refine JL_stepG rfl rfl rfl (Gd.plain Sub.rfl) rfl rfl (fun hw => step_call_look (Sel.take (Sel.none _)) (Consistent_spec [rUnq] exG [0, 1] (by decide) (by decide) inU) (fun _ => Flat.v _) ⟨(Frz.sub (Sub.w hw)), (Frz.w hw Frz.own), (Frz.sub (Sub.w hw)), trivial⟩ Tryz.call24) ?_
  refine JL_stepG rfl rfl rfl (Gd.plain Sub.rfl) rfl rfl (fun hw => step_not (Sub.w hw)) ?_
  refine JL_step rfl rfl rfl (step_pick_and Sub.rfl Sub.rfl) ?_
  refine JL_step rfl rfl rfl (step_assign Sub.rfl) ?_
  refine JL_nil ?_
  refine J_ret ?_
  refine K_drop (Sel.take (Sel.none _)) ?_
  refine K_retv (rv := .tmp 0) rfl () (.tmp Sub.rfl) (Sub.bool ?_)
  exact head_true
end Lg
