/- A part of the proofs of the laws of cleanselaw26: contracts of functions that the law reaches, and facts about what they compute. -/
import Derived.Test.YtabonjploobnnaaGreatDoorF
import Derived.Laws.Strings
set_option linter.unusedVariables false
set_option linter.unusedSimpArgs false
set_option linter.unusedSectionVars false
namespace Lg
open Go Go.Proofs Go.Proofs.Tryz
theorem nth_mapV {α β : Type} [Inhabited α] [Inhabited β] (f : α → β) {l : List α} {i : Nat} (h : i < l.length) : nth (l.map f) i = f (nth l i) := by
  rw [nth_get (by simpa using h), nth_get h, List.getElem_map]
def gat (facts : List GFact) (l : List Int) : List GFact := l.map fun i => nth facts i.toNat
theorem gat_len (facts : List GFact) (l : List Int) : (gat facts l).length = l.length := List.length_map ..
theorem gat_nth {facts : List GFact} {l : List Int} {i : Nat} (h : i < l.length) : nth (gat facts l) i = nth facts (nth l i).toNat := nth_mapV _ h
theorem sideR_sd (s : GSide) (at_ : List Int) (facts : List GFact) : sideR s at_ facts = sdV s (gat facts at_) := by
  unfold sideR sdV
  by_cases h1 : s.Var = -1
  · rw [if_pos h1, if_pos h1]
  rw [if_neg h1, if_neg h1, gat_len]
  by_cases h2 : s.Var < 0 ∨ (at_.length : Int) ≤ s.Var
  · rw [if_pos h2, if_pos (.inl (.inl h2))]
  rw [if_neg h2]
  have e : nth (gat facts at_) s.Var.toNat = nth facts (nth at_ s.Var.toNat).toNat := gat_nth (by omega)
  rw [e]
  by_cases h3 : s.Col < 0 ∨ ((nth facts (nth at_ s.Var.toNat).toNat).Row.length : Int) ≤ s.Col
  · rw [if_pos h3, if_pos (by rcases h3 with q | q; exact .inl (.inr q); exact .inr q)]
  · rw [if_neg h3, if_neg (by rintro ((q | q) | q); exact h2 q; exact h3 (.inl q); exact h3 (.inr q))]
theorem holdsR_viol (d : GRule) (facts : List GFact) (at_ : List Int) : holdsR d facts at_ = violV d (gat facts at_) := by
  have e : tstR facts at_ = tstV (gat facts at_) := funext fun t => by unfold tstR tstV; rw [sideR_sd, sideR_sd]
  unfold holdsR violV
  rw [e]
  congr 1
  unfold tabB tabV
  rw [Bool.eq_iff_iff, List.all_eq_true, List.all_eq_true, gat_len]
  refine forall_congr' fun i => ⟨fun h q => ?_, fun h q => ?_⟩
  all_goals
    have := h q
    rw [gat_nth (List.mem_range.1 q)] at *
    exact this
theorem tab_ext {d : GRule} {facts : List GFact} {at_ : List Int} {c : Int} (ht : tabB d facts at_ = true) (hc : cand d facts at_ c = true) : tabB d facts (at_ ++ [c]) = true ∧ okT d facts (at_ ++ [c]) = true := by
  simp only [cand, Bool.and_eq_true, decide_eq_true_eq] at hc
  refine ⟨tab_iff.2 fun i hi => ?_, hc.2⟩
  rcases Nat.lt_or_ge i at_.length with q | q
  · rw [nth_append_left q]; exact tab_iff.1 ht i q
  · have : i = at_.length := by simp at hi; omega
    subst this
    have e : nth (at_ ++ [c]) at_.length = c := by rw [nth_get (by simp)]; simp
    rw [e]; exact hc.1.1
theorem path_full {d : GRule} {facts : List GFact} {cs : List Int} : ∀ {n : Nat} {at_ at' : List Int}, path d facts cs n at_ at' → tabB d facts at_ = true → tabB d facts at' = true ∧ (n ≠ 0 → okT d facts at' = true)
  | 0, at_, at', h, ht => by
    have h : at' = at_ := h
    subst h; exact ⟨ht, fun q => absurd rfl q⟩
  | n + 1, at_, at', ⟨c, hc, hd, h1⟩, ht => by
    obtain ⟨e1, e2⟩ := tab_ext ht hd
    obtain ⟨a, b⟩ := path_full h1 e1
    refine ⟨a, fun _ => ?_⟩
    cases n with
    | zero => have h1 : at' = at_ ++ [c] := h1; rw [h1]; exact e2
    | succ n => exact b (by omega)
theorem path_of {d : GRule} {facts : List GFact} {cs : List Int} : ∀ {n : Nat} {at_ at' : List Int}, at_ <+: at' → at'.length = at_.length + n → at'.length = d.Tables.length → at'.Nodup → (∀ x ∈ at', x ∈ cs) → tabB d facts at' = true → okT d facts at' = true → path d facts cs n at_ at'
  | 0, at_, at', hp, hl, _, _, _, _, _ => (hp.eq_of_length (by omega)).symm
  | n + 1, at_, at', hp, hl, hd, hn, hc, ht, ho => by
    obtain ⟨t, rfl⟩ := hp
    cases t with
    | nil => simp at hl
    | cons c t =>
      have hpre : at_ ++ [c] <+: at_ ++ c :: t := ⟨t, by simp⟩
      refine ⟨c, hc c (by simp), ?_, path_of hpre (by simp at hl ⊢; omega) hd hn hc ht ho⟩
      have e1 : nth (at_ ++ c :: t) at_.length = c := by rw [nth_get (by simp)]; simp
      have e2 := tab_iff.1 ht at_.length (by simp)
      rw [e1] at e2
      simp only [cand, Bool.and_eq_true, decide_eq_true_eq, Bool.not_eq_true']
      refine ⟨⟨e2, ?_⟩, ?_⟩
      · rw [← Bool.not_eq_true, List.contains_iff_mem]
        intro hm
        exact (List.nodup_append.1 hn).2.2 c hm c (by simp) rfl
      · simp only [okT, List.all_eq_true] at ho ⊢
        exact fun t hm => holds_pre hpre (by rw [hd]) (ho t hm)
theorem path_viol {d : GRule} {facts : List GFact} {l : List Int} (h1 : 1 ≤ d.Tables.length) : path d facts (iota facts.length) d.Tables.length [] l ↔ l.Nodup ∧ (∀ x ∈ l, 0 ≤ x ∧ x < (facts.length : Int)) ∧ l.length = d.Tables.length ∧ violV d (gat facts l) = true := by
  rw [← holdsR_viol]
  constructor
  · intro h
    obtain ⟨a1, a2, a3, a4⟩ := path_props h
    obtain ⟨b1, b2⟩ := path_full h (by simp [tabB])
    have hl : l.length = d.Tables.length := by simpa using a2
    refine ⟨a4 List.nodup_nil, fun x hx => ?_, hl, (holdsR_iff hl).2 ⟨b1, b2 (by omega)⟩⟩
    rcases a3 x hx with q | q
    · cases q
    · exact iota_mem_iff.1 q
  · rintro ⟨h2, h3, h4, h5⟩
    obtain ⟨b1, b2⟩ := (holdsR_iff h4).1 h5
    exact path_of (List.nil_prefix) (by simpa using h4) h4 h2 (fun x hx => iota_mem_iff.2 (h3 x hx)) b1 b2
/-- Two facts exclude each other. -/
def exF2 (a b : GFact) : Prop := a.Entity = b.Entity ∧ (a.Variant ≠ -1 ∨ b.Variant ≠ -1)
theorem exF2.symm {a b : GFact} (h : exF2 a b) : exF2 b a := ⟨h.1.symm, h.2.symm⟩
/-- Facts for the variables of a denial, or a pair that excludes itself. -/
def Bad (D : List GRule) (fs : List GFact) : Prop := (∃ a b, fs = [a, b] ∧ exF2 a b) ∨ ∃ d ∈ D, fs.length = d.Tables.length ∧ violV d fs = true
theorem sortI_two {a b : Int} : sortI [a, b] = if a ≤ b then [a, b] else [b, a] := by
  split
  · exact sortI_eq (List.Perm.refl _) (by simpa)
  · exact sortI_eq (List.Perm.swap ..) (by simp; omega)
theorem exP_iff {facts : List GFact} {b c : Int} : (ent facts b = ent facts c ∧ exP facts b c = true) ↔ exF2 (nth facts b.toNat) (nth facts c.toNat) := by
  simp only [ent, exP, exF2, Bool.or_eq_true, Bool.not_eq_true', decide_eq_false_iff_not, ne_eq]
  constructor
  · rintro ⟨h1, h2⟩; exact ⟨h1, h2.symm⟩
  · rintro ⟨h1, h2⟩; exact ⟨h1, h2.symm⟩
theorem allW_iff {rules : List GRule} {facts : List GFact} {s : List Int} : s ∈ allW rules facts ↔ ∃ l, l.Nodup ∧ (∀ x ∈ l, 0 ≤ x ∧ x < (facts.length : Int)) ∧ Bad (loweredR rules) (gat facts l) ∧ sortI l = s := by
  rw [allW, wits_iff (iota_srt _)]
  constructor
  · rintro (⟨b, c, hb, hc, hlt, h1, h2, rfl⟩ | ⟨d, hd, at', hp, rfl⟩)
    · refine ⟨[b, c], by simp; omega, ?_, .inl ⟨_, _, rfl, exP_iff.1 ⟨h1, h2⟩⟩, by rw [sortI_two, if_pos (by omega)]⟩
      intro x hx
      simp only [List.mem_cons, List.not_mem_nil, or_false] at hx
      rcases hx with rfl | rfl
      · exact iota_mem_iff.1 hb
      · exact iota_mem_iff.1 hc
    · obtain ⟨a1, a2, a3, a4⟩ := (path_viol (loweredR_tab hd).1).1 hp
      exact ⟨at', a1, a2, .inr ⟨d, hd, by rw [gat_len, a3], a4⟩, rfl⟩
  · rintro ⟨l, h1, h2, ⟨x, y, e, hx⟩ | ⟨d, hd, h3, h4⟩, rfl⟩
    · left
      match l, e with
      | [], e => cases e
      | [_], e => cases e
      | _ :: _ :: _ :: _, e => cases e
      | [b, c], e =>
        simp only [gat, List.map_cons, List.map_nil, List.cons.injEq, and_true] at e
        obtain ⟨rfl, rfl⟩ := e
        have hne : b ≠ c := by simpa using h1
        have hb := h2 b (by simp)
        have hc := h2 c (by simp)
        rw [sortI_two]
        by_cases q : b ≤ c
        · rw [if_pos q]
          have := exP_iff.2 hx
          exact ⟨b, c, iota_mem_iff.2 hb, iota_mem_iff.2 hc, by omega, this.1, this.2, rfl⟩
        · rw [if_neg q]
          have := exP_iff.2 hx.symm
          exact ⟨c, b, iota_mem_iff.2 hc, iota_mem_iff.2 hb, by omega, this.1, this.2, rfl⟩
    · right
      rw [gat_len] at h3
      exact ⟨d, hd, l, (path_viol (loweredR_tab hd).1).2 ⟨h1, h2, h3, h4⟩, rfl⟩
/-! ### Facts under numbers -/
abbrev PS := List (Int × GFact)
def nsP (ps : PS) : List Int := ps.map (·.1)
def gsP (ps : PS) : List GFact := ps.map (·.2)
def fO (ps : PS) (n : Int) : GFact := (mget ps n).getD zFact
structure POk (ps : PS) : Prop where
  srt : Srt (nsP ps)
  rng : ∀ n ∈ nsP ps, 0 ≤ n ∧ n < 1000000
theorem POk.nd {ps : PS} (h : POk ps) : (ps.map (·.1)).Nodup := h.srt.imp fun {a b} q e => by omega
def noP (ps : PS) (i : Int) : Int := nth (nsP ps) i.toNat
theorem nsP_len (ps : PS) : (nsP ps).length = ps.length := List.length_map ..
theorem gsP_len (ps : PS) : (gsP ps).length = ps.length := List.length_map ..
abbrev InR (n : Nat) (l : List Int) : Prop := ∀ x ∈ l, 0 ≤ x ∧ x < (n : Int)
section
variable {ps : PS} (hp : POk ps)
include hp
theorem fO_no {i : Int} (h : 0 ≤ i ∧ i < (ps.length : Int)) : fO ps (noP ps i) = nth (gsP ps) i.toNat := by
  have h2 : i.toNat < ps.length := by omega
  have : (noP ps i, nth (gsP ps) i.toNat) ∈ ps := by
    rw [noP, nth_get (by rw [nsP_len]; exact h2), nth_get (by rw [gsP_len]; exact h2)]
    simp only [nsP, gsP, List.getElem_map]
    exact List.getElem_mem h2
  rw [fO, (mget_mem hp.nd).2 this]; rfl
theorem no_lt {i j : Int} (h0 : 0 ≤ i) (h1 : i < j) (h2 : j < (ps.length : Int)) : noP ps i < noP ps j := by
  have := List.pairwise_iff_getElem.1 hp.srt i.toNat j.toNat (by rw [nsP_len]; omega) (by rw [nsP_len]; omega) (by omega)
  rw [noP, noP, nth_get (by rw [nsP_len]; omega), nth_get (by rw [nsP_len]; omega)]; exact this
theorem no_inj {i j : Int} (h : 0 ≤ i ∧ i < (ps.length : Int)) (h' : 0 ≤ j ∧ j < (ps.length : Int)) (e : noP ps i = noP ps j) : i = j := by
  rcases Int.lt_trichotomy i j with q | q | q
  · have := no_lt hp h.1 q h'.2; omega
  · exact q
  · have := no_lt hp h'.1 q h.2; omega
theorem no_iff {i j : Int} (h : 0 ≤ i ∧ i < (ps.length : Int)) (h' : 0 ≤ j ∧ j < (ps.length : Int)) : noP ps i < noP ps j ↔ i < j := by
  constructor
  · intro q
    rcases Int.lt_trichotomy i j with r | r | r
    · exact r
    · subst r; omega
    · have := no_lt hp h'.1 r h.2; omega
  · exact fun q => no_lt hp h.1 q h'.2
omit hp in
theorem no_mem {i : Int} (h : 0 ≤ i ∧ i < (ps.length : Int)) : noP ps i ∈ nsP ps := nth_mem (by rw [nsP_len]; omega)
omit hp in
theorem no_of {n : Int} (h : n ∈ nsP ps) : ∃ i, (0 ≤ i ∧ i < (ps.length : Int)) ∧ noP ps i = n := by
  obtain ⟨q, h1, h2⟩ := mem_nthV h
  rw [nsP_len] at h1
  exact ⟨q, by omega, by rw [noP]; simpa using h2⟩
omit hp in
theorem no_list : ∀ {l : List Int}, (∀ n ∈ l, n ∈ nsP ps) → ∃ k, InR ps.length k ∧ k.map (noP ps) = l
  | [], _ => ⟨[], fun x h => (by cases h), rfl⟩
  | n :: l, h => by
    obtain ⟨i, h1, h2⟩ := no_of (h n (by simp))
    obtain ⟨k, h3, h4⟩ := no_list (l := l) fun m hm => h m (by simp [hm])
    refine ⟨i :: k, fun x hx => ?_, by simp [h2, h4]⟩
    rcases List.mem_cons.1 hx with rfl | hx
    · exact h1
    · exact h3 x hx
theorem no_nd : ∀ {k : List Int}, InR ps.length k → ((k.map (noP ps)).Nodup ↔ k.Nodup)
  | [], _ => by simp
  | i :: k, h => by
    have ih := no_nd (k := k) fun x hx => h x (by simp [hx])
    simp only [List.map_cons, List.nodup_cons, ih, List.mem_map]
    refine and_congr_left fun _ => not_congr ⟨?_, fun q => ⟨i, q, rfl⟩⟩
    rintro ⟨j, hj, e⟩
    rw [← no_inj hp (h j (by simp [hj])) (h i (by simp)) e]; exact hj
theorem no_memL {k : List Int} {i : Int} (h : InR ps.length k) (hi : 0 ≤ i ∧ i < (ps.length : Int)) : noP ps i ∈ k.map (noP ps) ↔ i ∈ k := by
  rw [List.mem_map]
  constructor
  · rintro ⟨j, hj, e⟩
    rw [← no_inj hp (h j hj) hi e]; exact hj
  · exact fun q => ⟨i, q, rfl⟩
theorem no_sort {k : List Int} (h : InR ps.length k) : sortI (k.map (noP ps)) = (sortI k).map (noP ps) := by
  refine sortI_eq ((sortI_perm k).symm.map _) ?_
  have h2 : InR ps.length (sortI k) := fun x hx => h x (sortI_mem.1 hx)
  rw [List.pairwise_map]
  refine List.Pairwise.imp_of_mem ?_ (sortI_le k)
  intro a b ha hb hab
  rcases Int.lt_or_eq_of_le hab with q | q
  · have := no_lt hp (h2 a ha).1 q (h2 b hb).2; omega
  · rw [q]; exact Int.le_refl _
theorem no_gat {k : List Int} (h : InR ps.length k) : (k.map (noP ps)).map (fO ps) = gat (gsP ps) k := by
  rw [List.map_map]
  exact List.map_congr_left fun x hx => fO_no hp (h x hx)
theorem no_injL : ∀ {k m : List Int}, InR ps.length k → InR ps.length m → k.map (noP ps) = m.map (noP ps) → k = m
  | [], [], _, _, _ => rfl
  | [], _ :: _, _, _, e => by cases e
  | _ :: _, [], _, _, e => by cases e
  | i :: k, j :: m, h1, h2, e => by
    simp only [List.map_cons, List.cons.injEq] at e
    rw [no_inj hp (h1 i (by simp)) (h2 j (by simp)) e.1, no_injL (fun x hx => h1 x (by simp [hx])) (fun x hx => h2 x (by simp [hx])) e.2]
theorem cmp_no : ∀ {k m : List Int}, InR ps.length k → InR ps.length m → cmpL (k.map (noP ps)) (m.map (noP ps)) = cmpL k m
  | [], [], _, _ => rfl
  | [], _ :: _, _, _ => rfl
  | _ :: _, [], _, _ => rfl
  | i :: k, j :: m, h1, h2 => by
    have ih := cmp_no (k := k) (m := m) (fun x hx => h1 x (by simp [hx])) (fun x hx => h2 x (by simp [hx]))
    have e : ∀ (a b : Int) (x y : List Int), cmpL (a :: x) (b :: y) = if ordI a b = 0 then cmpL x y else ordI a b := fun _ _ _ _ => rfl
    have e2 : ordI (noP ps i) (noP ps j) = ordI i j := by
      have a1 := no_iff hp (h1 i (by simp)) (h2 j (by simp))
      have a2 := no_iff hp (h2 j (by simp)) (h1 i (by simp))
      unfold ordI
      by_cases q1 : i < j <;> by_cases q2 : j < i <;> simp only [q1, q2, iff_true, iff_false] at a1 a2 <;> simp [q1, q2, a1, a2]
    simp only [List.map_cons, e, e2, ih]
end
/-- A set of numbers of facts that violates something. -/
def WS (D : List GRule) (ps : PS) (s : List Int) : Prop := ∃ l, l.Nodup ∧ (∀ n ∈ l, n ∈ nsP ps) ∧ Bad D (l.map (fO ps)) ∧ sortI l = s
/-- And no part of it does. -/
def MinW (D : List GRule) (ps : PS) (s : List Int) : Prop := WS D ps s ∧ ∀ t, WS D ps t → (∀ x ∈ t, x ∈ s) → t = s
theorem WS_no {rules : List GRule} {ps : PS} (hp : POk ps) {s : List Int} : WS (loweredR rules) ps s ↔ ∃ k ∈ allW rules (gsP ps), k.map (noP ps) = s := by
  constructor
  · rintro ⟨l, h1, h2, h3, rfl⟩
    obtain ⟨k, hk, rfl⟩ := no_list h2
    rw [no_gat hp hk] at h3
    exact ⟨sortI k, allW_iff.2 ⟨k, (no_nd hp hk).1 h1, by rw [gsP_len]; exact hk, h3, rfl⟩, (no_sort hp hk).symm⟩
  · rintro ⟨k, hk, rfl⟩
    obtain ⟨l, h1, h2, h3, rfl⟩ := allW_iff.1 hk
    rw [gsP_len] at h2
    refine ⟨l.map (noP ps), (no_nd hp h2).2 h1, fun n hn => ?_, by rw [no_gat hp h2]; exact h3, no_sort hp h2⟩
    obtain ⟨i, hi, rfl⟩ := List.mem_map.1 hn
    exact no_mem (h2 i hi)
theorem WS.ok {D : List GRule} {ps : PS} (hd : ∀ d ∈ D, 1 ≤ d.Tables.length ∧ d.Tables.length ≤ 3) {s : List Int} (h : WS D ps s) : Srt s ∧ 1 ≤ s.length ∧ s.length ≤ 3 ∧ ∀ n ∈ s, n ∈ nsP ps := by
  obtain ⟨l, h1, h2, h3, rfl⟩ := h
  have hl : 1 ≤ l.length ∧ l.length ≤ 3 := by
    rcases h3 with ⟨a, b, e, _⟩ | ⟨d, hm, e, _⟩
    · have := congrArg List.length e; simp at this; omega
    · have := hd d hm; simp at e; omega
  exact ⟨sortI_srt h1, by rw [sortI_length]; omega, by rw [sortI_length]; omega, fun n hn => h2 n (sortI_mem.1 hn)⟩
/-- The violations, as lists of numbers in order. -/
def vioN (rules : List GRule) (ps : PS) : List (List Int) := (vioM rules (gsP ps)).map fun s => s.map (noP ps)
section
variable {rules : List GRule} {ps : PS} (hp : POk ps) (H : VHyp rules (gsP ps))
include hp H
theorem vio_InR {s : List Int} (h : s ∈ vioM rules (gsP ps)) : InR ps.length s := by
  have := (vio_w H h).2.2.2.2
  rw [gsP_len] at this; exact this
theorem mem_vioN {s : List Int} : s ∈ vioN rules ps ↔ MinW (loweredR rules) ps s := by
  have hw : ∀ {k : List Int}, k ∈ allW rules (gsP ps) → InR ps.length k ∧ Srt k ∧ k ≠ [] := fun {k} hk => by
    obtain ⟨a, b, c, d⟩ := wits_ok (iota_srt _) hk
    exact ⟨fun x hx => by have := iota_mem_iff.1 (d x hx); rw [gsP_len] at this; exact this, c, a⟩
  have hd : ∀ d ∈ loweredR rules, 1 ≤ d.Tables.length ∧ d.Tables.length ≤ 3 := fun d hd => loweredR_tab hd
  rw [vioN, List.mem_map]
  constructor
  · rintro ⟨k, hk, rfl⟩
    obtain ⟨h1, h2⟩ := (minM_iff (okt_all H)).1 hk
    refine ⟨(WS_no hp).2 ⟨k, h1, rfl⟩, fun t ht hs => ?_⟩
    obtain ⟨m, hm, rfl⟩ := (WS_no hp).1 ht
    obtain ⟨a1, a2, a3⟩ := hw hm
    obtain ⟨b1, b2, b3⟩ := hw h1
    by_cases e : m = k
    · rw [e]
    · exfalso
      exact h2 m (srt_sub a2 b2 fun x hx => (no_memL hp b1 (a1 x hx)).1 (hs _ (List.mem_map.2 ⟨x, hx, rfl⟩))) a3 e hm
  · rintro ⟨h1, h2⟩
    obtain ⟨k, hk, rfl⟩ := (WS_no hp).1 h1
    refine ⟨k, (minM_iff (okt_all H)).2 ⟨hk, fun t q1 q2 q3 q4 => q3 ?_⟩, rfl⟩
    exact no_injL hp (hw q4).1 (hw hk).1 (h2 _ ((WS_no hp).2 ⟨t, q4, rfl⟩) fun x hx => by
      obtain ⟨i, hi, rfl⟩ := List.mem_map.1 hx
      exact List.mem_map.2 ⟨i, q1.subset hi, rfl⟩)
theorem vioN_strict : Strict (vioN rules ps) := by
  show List.Pairwise _ _
  rw [vioN, List.pairwise_map]
  refine List.Pairwise.imp_of_mem ?_ (minM_strict _)
  intro a b ha hb hab
  rw [cmp_no hp (vio_InR hp H ha) (vio_InR hp H hb)]; exact hab
end
open Go Go.Proofs Go.Proofs.Tryz
section
variable {D : List GRule} {ps qs : PS} {num : Int}
/-- qs is ps without a number. -/
structure Less1 (qs ps : PS) (num : Int) : Prop where
  no : num ∉ nsP qs
  mem : ∀ n, n ∈ nsP qs ↔ n ∈ nsP ps ∧ n ≠ num
  eq : ∀ n, n ≠ num → fO qs n = fO ps n
theorem Less1.ws (h : Less1 qs ps num) {s : List Int} : WS D qs s ↔ WS D ps s ∧ num ∉ s := by
  constructor
  · rintro ⟨l, h1, h2, h3, rfl⟩
    have hn : num ∉ l := fun q => h.no (h2 _ q)
    have e : l.map (fO qs) = l.map (fO ps) := List.map_congr_left fun x hx => h.eq x fun e => hn (e ▸ hx)
    exact ⟨⟨l, h1, fun n q => ((h.mem n).1 (h2 n q)).1, e ▸ h3, rfl⟩, fun q => hn (sortI_mem.1 q)⟩
  · rintro ⟨⟨l, h1, h2, h3, rfl⟩, hn⟩
    have hn : num ∉ l := fun q => hn (sortI_mem.2 q)
    have e : l.map (fO qs) = l.map (fO ps) := List.map_congr_left fun x hx => h.eq x fun e => hn (e ▸ hx)
    exact ⟨l, h1, fun n q => (h.mem n).2 ⟨h2 n q, fun e => hn (e ▸ q)⟩, e.symm ▸ h3, rfl⟩
theorem Less1.min (h : Less1 qs ps num) {s : List Int} : MinW D qs s ↔ MinW D ps s ∧ num ∉ s := by
  constructor
  · rintro ⟨h1, h2⟩
    obtain ⟨a, b⟩ := h.ws.1 h1
    exact ⟨⟨a, fun t ht hs => h2 t (h.ws.2 ⟨ht, fun q => b (hs _ q)⟩) hs⟩, b⟩
  · rintro ⟨⟨h1, h2⟩, h3⟩
    exact ⟨h.ws.2 ⟨h1, h3⟩, fun t ht hs => h2 t (h.ws.1 ht).1 hs⟩
theorem min_below (hd : ∀ d ∈ D, 1 ≤ d.Tables.length ∧ d.Tables.length ≤ 3) : ∀ (n : Nat) {s : List Int}, s.length ≤ n → WS D ps s → ∃ t, MinW D ps t ∧ ∀ x ∈ t, x ∈ s
  | 0, s, hl, hs => by have := (hs.ok hd).2.1; omega
  | n + 1, s, hl, hs => by
    by_cases h : MinW D ps s
    · exact ⟨s, h, fun x hx => hx⟩
    · have : ∃ t, WS D ps t ∧ (∀ x ∈ t, x ∈ s) ∧ t ≠ s := Classical.byContradiction fun hn => h ⟨hs, fun t h1 h2 => Classical.byContradiction fun h3 => hn ⟨t, h1, h2, h3⟩⟩
      obtain ⟨t, h1, h2, h3⟩ := this
      have hsub := srt_sub (h1.ok hd).1 (hs.ok hd).1 h2
      have hlt : t.length < s.length := by
        rcases Nat.lt_or_ge t.length s.length with q | q
        · exact q
        · exact absurd (hsub.eq_of_length_le q) h3
      obtain ⟨u, q1, q2⟩ := min_below hd n (by omega) h1
      exact ⟨u, q1, fun x hx => h2 x (q2 x hx)⟩
end
/-! ### Sets as triples -/
theorem memM_tri {s : List Int} (hl : s.length ≤ 3) (h0 : ∀ x ∈ s, 0 ≤ x) : memM (triOf s) = s := by
  match s, hl, h0 with
  | [], _, _ => rfl
  | [a], _, h => simp [memM, triOf, GTri.l, h a (by simp)]
  | [a, b], _, h => simp [memM, triOf, GTri.l, h a (by simp), h b (by simp)]
  | [a, b, c], _, h => simp [memM, triOf, GTri.l, h a (by simp), h b (by simp), h c (by simp)]
  | _ :: _ :: _ :: _ :: _, hl, _ => simp at hl
theorem tri_inj {s t : List Int} (hs : s.length ≤ 3) (hs0 : ∀ x ∈ s, 0 ≤ x) (ht : t.length ≤ 3) (ht0 : ∀ x ∈ t, 0 ≤ x) (e : triOf s = triOf t) : s = t := by
  rw [← memM_tri hs hs0, ← memM_tri ht ht0, e]
theorem tri_mem {s : List Int} (hl : s.length ≤ 3) {n : Int} (hn : 0 ≤ n) : n ∈ (triOf s).l ↔ n ∈ s := by
  match s, hl with
  | [], _ => simp [triOf, GTri.l]; omega
  | [a], _ => simp [triOf, GTri.l]; omega
  | [a, b], _ => simp [triOf, GTri.l]; omega
  | [a, b, c], _ => simp [triOf, GTri.l]
  | _ :: _ :: _ :: _ :: _, hl => simp at hl
theorem hit_iff {mp : List (GTri × Bool)} (ht : ∀ p ∈ mp, p.2 = true) (t : GTri) : (mget mp t).getD false = true ↔ t ∈ mp.map (·.1) := by
  induction mp with
  | nil => simp [mget]
  | cons a mp ih =>
    obtain ⟨k, x⟩ := a
    rw [mget]
    split
    · rename_i q
      have hx : x = true := ht (k, x) (by simp)
      simp [q, hx]
    · rename_i q
      rw [ih fun p hp => ht p (List.mem_cons_of_mem _ hp)]
      simp [q]
theorem sort_self {s : List Int} (h : Srt s) : sortI s = s := sortI_eq (List.Perm.refl _) (h.imp fun q => by omega)
theorem cont_iff {mp : List (GTri × Bool)} (htr : ∀ p ∈ mp, p.2 = true) {s : List Int} (hl : s.length ≤ 3) (hs : Srt s) (h0 : ∀ x ∈ s, 0 ≤ x) : contV mp (triOf s) = true ↔ ∃ t, t.Sublist s ∧ t ≠ [] ∧ t ≠ s ∧ triOf t ∈ mp.map (·.1) := by
  have hh : ∀ t : List Int, t.Sublist s → ((mget mp (setM t)).getD false = true ↔ triOf t ∈ mp.map (·.1)) := fun t ht => by
    rw [hit_iff htr, setM, sort_self (List.Pairwise.sublist ht hs)]
  rw [contV, memM_tri hl h0]
  match s, hl, hh with
  | [], _, _ =>
    constructor
    · intro h; simp [parts6, hitM, partOk] at h
    · rintro ⟨t, h1, h2, _⟩; exact absurd (List.sublist_nil.1 h1) h2
  | [a], _, _ =>
    constructor
    · intro h; simp [parts6, hitM, partOk] at h
    · rintro ⟨t, h1, h2, h3, _⟩
      rcases sub1 h1 with e | e <;> contradiction
  | [a, b], _, hh =>
    have e : parts6.any (hitM mp [a, b]) = ((mget mp (setM [a])).getD false || (mget mp (setM [b])).getD false) := by
      simp [parts6, hitM, partOk, partM, nth]
    rw [e, Bool.or_eq_true, hh [a] (by simp), hh [b] (by simp)]
    constructor
    · rintro (h | h)
      · exact ⟨[a], by simp, by simp, by simp, h⟩
      · exact ⟨[b], by simp, by simp, by simp, h⟩
    · rintro ⟨t, h1, h2, h3, h4⟩
      rcases sub2 h1 with e | e | e | e
      · exact absurd e h2
      · subst e; exact .inl h4
      · subst e; exact .inr h4
      · exact absurd e h3
  | [a, b, c], _, hh =>
    have e : parts6.any (hitM mp [a, b, c]) = ((mget mp (setM [a])).getD false || ((mget mp (setM [b])).getD false || ((mget mp (setM [c])).getD false || ((mget mp (setM [a, b])).getD false || ((mget mp (setM [a, c])).getD false || (mget mp (setM [b, c])).getD false))))) := by
      simp [parts6, hitM, partOk, partM, nth]
    rw [e, Bool.or_eq_true, Bool.or_eq_true, Bool.or_eq_true, Bool.or_eq_true, Bool.or_eq_true, hh [a] (by simp), hh [b] (by simp), hh [c] (by simp), hh [a, b] (by simp), hh [a, c] (by simp), hh [b, c] (by simp)]
    constructor
    · rintro (h | h | h | h | h | h)
      · exact ⟨[a], by simp, by simp, by simp, h⟩
      · exact ⟨[b], by simp, by simp, by simp, h⟩
      · exact ⟨[c], by simp, by simp, by simp, h⟩
      · exact ⟨[a, b], by simp, by simp, by simp, h⟩
      · exact ⟨[a, c], by simp, by simp, by simp, h⟩
      · exact ⟨[b, c], by simp, by simp, by simp, h⟩
    · rintro ⟨t, h1, h2, h3, h4⟩
      rcases sub3 h1 with e | e | e | e | e | e | e | e
      · exact absurd e h2
      · subst e; exact .inl h4
      · subst e; exact .inr (.inl h4)
      · subst e; exact .inr (.inr (.inl h4))
      · subst e; exact .inr (.inr (.inr (.inl h4)))
      · subst e; exact .inr (.inr (.inr (.inr (.inl h4))))
      · subst e; exact .inr (.inr (.inr (.inr (.inr h4))))
      · exact absurd e h3
/-! ### Facts that meet -/
def meetP (d : GRule) (i j : Int) (x y : GFact) : Prop := x.Table = nth d.Tables i.toNat ∧ y.Table = nth d.Tables j.toNat ∧ ∀ c ∈ eqsV d i j, colEq x c.1 y c.2 = true
def MeetsP (rules : List GRule) (x y : GFact) : Prop := x.Entity = y.Entity ∨ ∃ d ∈ loweredR rules, ∃ i j : Nat, i < d.Tables.length ∧ j < d.Tables.length ∧ i ≠ j ∧ meetP d i j x y
theorem colEq_symm {x y : GFact} {a b : Int} (h : colEq x a y b = true) : colEq y b x a = true := by
  obtain ⟨h1, h2, h3⟩ := colEq_iff.1 h
  exact colEq_iff.2 ⟨h2, h1, h3.symm⟩
theorem sd_true {s : GSide} {fs : List GFact} (hv : s.Var ≠ -1) (h : (sdV s fs).2 = true) : 0 ≤ s.Var ∧ s.Var < (fs.length : Int) ∧ 0 ≤ s.Col ∧ s.Col < ((nth fs s.Var.toNat).Row.length : Int) ∧ (sdV s fs).1 = nth (nth fs s.Var.toNat).Row s.Col.toNat := by
  unfold sdV at *
  rw [if_neg hv] at *
  split at h
  · cases h
  · rename_i q
    rw [if_neg q]
    refine ⟨by omega, by omega, by omega, by omega, rfl⟩
/-- Facts that violate a denial meet. -/
theorem viol_meet {d : GRule} {fs : List GFact} (h : violV d fs = true) {i j : Nat} (hi : i < fs.length) (hj : j < fs.length) : meetP d i j (nth fs i) (nth fs j) := by
  simp only [violV, Bool.and_eq_true, tabV, List.all_eq_true, List.mem_range, decide_eq_true_eq] at h
  obtain ⟨h1, h2⟩ := h
  refine ⟨h1 i hi, h1 j hj, fun c hc => ?_⟩
  obtain ⟨t, ht, hc⟩ := List.mem_flatMap.1 hc
  have h3 := h2 t ht
  simp only [tstV, Bool.and_eq_true] at h3
  obtain ⟨⟨a1, a2⟩, a3⟩ := h3
  unfold eqT at hc
  split at hc
  · cases hc
  rename_i hop
  have hop : t.Op = 1 ∧ t.Add = 0 := by omega
  rw [hop.1, hop.2] at a3
  split at hc
  · rename_i q
    rw [List.mem_singleton.1 hc]
    obtain ⟨b1, b2, b3, b4, b5⟩ := sd_true (by omega) a1
    obtain ⟨c1, c2, c3, c4, c5⟩ := sd_true (by omega) a2
    rw [b5, c5] at a3
    rw [q.1] at b4 a3
    rw [q.2] at c4 a3
    simp only [colEq, Bool.and_eq_true, decide_eq_true_eq]
    exact ⟨⟨⟨b3, b4⟩, c3, c4⟩, a3⟩
  · split at hc
    · rename_i q
      rw [List.mem_singleton.1 hc]
      obtain ⟨b1, b2, b3, b4, b5⟩ := sd_true (by omega) a1
      obtain ⟨c1, c2, c3, c4, c5⟩ := sd_true (by omega) a2
      rw [b5, c5] at a3
      rw [q.1] at b4 a3
      rw [q.2] at c4 a3
      refine colEq_symm ?_
      simp only [colEq, Bool.and_eq_true, decide_eq_true_eq]
      exact ⟨⟨⟨b3, b4⟩, c3, c4⟩, a3⟩
    · cases hc
/-! ### The invariant -/
structure VInv (rules : List GRule) (s : VS) (ps : PS) (w : Int) : Prop where
  rl : s.rules = loweredR rules
  pr : s.pairs = prAll (loweredR rules)
  pt : PatR s.pairs s.pat
  fn : KN s.facts
  fm : ∀ p, p ∈ s.facts ↔ p ∈ ps
  en : ∀ e n, hasS s.ent e n ↔ ∃ f, (n, f) ∈ ps ∧ f.Entity = e
  ix : ∀ k n, hasS s.idx k n ↔ ∃ f, (n, f) ∈ ps ∧ k ∈ keysV s.rules s.pairs f s.pairs.length
  vn : KN s.vio
  vt : ∀ p ∈ s.vio, p.2 = true
  vm : ∀ t, t ∈ s.vio.map (·.1) ↔ ∃ l, MinW (loweredR rules) ps l ∧ t = triOf l
  wk : s.work = w
theorem no_WS {D : List GRule} (hd : ∀ d ∈ D, 1 ≤ d.Tables.length ∧ d.Tables.length ≤ 3) {l : List Int} (h : WS D [] l) : False := by
  have := h.ok hd
  match l, this with
  | [], h => simp at h
  | a :: l, h => exact absurd (h.2.2.2 a (by simp)) (by simp [nsP])
theorem lowT3 (rules : List GRule) : ∀ d ∈ loweredR rules, 1 ≤ d.Tables.length ∧ d.Tables.length ≤ 3 := fun d hd => loweredR_tab hd
theorem VInv.new {rules : List GRule} {s : VS} (h : NewR rules s) : VInv rules s [] 0 where
  rl := h.hr
  pr := h.hp
  pt := h.ht
  fn := by rw [h.hf]; exact List.nodup_nil
  fm := fun p => by rw [h.hf]
  en := fun e n => by rw [h.he]; simp [hasS, hval]
  ix := fun k n => by rw [h.hi]; simp [hasS, hval]
  vn := by rw [h.hv]; exact List.nodup_nil
  vt := fun p hp => by rw [h.hv] at hp; cases hp
  vm := fun t => by
    rw [h.hv]
    constructor
    · intro q; cases q
    · rintro ⟨l, q, _⟩; exact (no_WS (lowT3 rules) q.1).elim
  wk := h.hw
/-! ### A fact more -/
def insP : PS → Int → GFact → PS
  | [], n, f => [(n, f)]
  | (m, g) :: ps, n, f => if n < m then (n, f) :: (m, g) :: ps else (m, g) :: insP ps n f
def remP (ps : PS) (n : Int) : PS := ps.filter fun p => !decide (p.1 = n)
theorem mem_insP {p : Int × GFact} {n : Int} {f : GFact} : ∀ {ps : PS}, p ∈ insP ps n f ↔ p = (n, f) ∨ p ∈ ps
  | [] => by simp [insP]
  | (m, g) :: ps => by
    rw [insP]
    split
    · simp
    · simp only [List.mem_cons, mem_insP (ps := ps)]
      constructor
      · rintro (h | h | h)
        · exact .inr (.inl h)
        · exact .inl h
        · exact .inr (.inr h)
      · rintro (h | h | h)
        · exact .inr (.inl h)
        · exact .inl h
        · exact .inr (.inr h)
theorem insP_len (n : Int) (f : GFact) : ∀ ps : PS, (insP ps n f).length = ps.length + 1
  | [] => rfl
  | (m, g) :: ps => by
    rw [insP]; split
    · rfl
    · simp [insP_len n f ps]
theorem ns_insP {n m : Int} {f : GFact} {ps : PS} : m ∈ nsP (insP ps n f) ↔ m = n ∨ m ∈ nsP ps := by
  simp only [nsP, List.mem_map, mem_insP]
  constructor
  · rintro ⟨p, rfl | h, rfl⟩
    · exact .inl rfl
    · exact .inr ⟨p, h, rfl⟩
  · rintro (rfl | ⟨p, h, rfl⟩)
    · exact ⟨_, .inl rfl, rfl⟩
    · exact ⟨p, .inr h, rfl⟩
theorem insP_srt {n : Int} {f : GFact} : ∀ {ps : PS}, Srt (nsP ps) → n ∉ nsP ps → Srt (nsP (insP ps n f))
  | [], _, _ => by simp [insP, nsP]
  | (m, g) :: ps, h, hn => by
    have h' := List.pairwise_cons.1 (show List.Pairwise (fun a b => a < b) (m :: nsP ps) from h)
    have hne : n ≠ m := fun e => hn (by simp [nsP, e])
    rw [insP]
    split
    · rename_i q
      refine List.pairwise_cons.2 ⟨fun x hx => ?_, h⟩
      rcases List.mem_cons.1 (show x ∈ m :: nsP ps from hx) with rfl | hx
      · exact q
      · have := h'.1 x hx; show n < x; omega
    · rename_i q
      refine List.pairwise_cons.2 ⟨fun x hx => ?_, insP_srt h'.2 fun e => hn (List.mem_cons_of_mem _ e)⟩
      rcases ns_insP.1 (show x ∈ nsP (insP ps n f) from hx) with rfl | hx
      · show m < x; omega
      · exact h'.1 x hx
theorem POk.ins {ps : PS} {n : Int} {f : GFact} (h : POk ps) (hn : n ∉ nsP ps) (h0 : 0 ≤ n) (h1 : n < 1000000) : POk (insP ps n f) :=
  ⟨insP_srt h.srt hn, fun m hm => by
    rcases ns_insP.1 hm with rfl | q
    · exact ⟨h0, h1⟩
    · exact h.rng m q⟩
theorem ns_remP {n m : Int} {ps : PS} : m ∈ nsP (remP ps n) ↔ m ∈ nsP ps ∧ m ≠ n := by
  simp only [nsP, remP, List.mem_map, List.mem_filter, Bool.not_eq_true', decide_eq_false_iff_not]
  constructor
  · rintro ⟨p, ⟨h1, h2⟩, rfl⟩; exact ⟨⟨p, h1, rfl⟩, h2⟩
  · rintro ⟨⟨p, h1, rfl⟩, h2⟩; exact ⟨p, ⟨h1, h2⟩, rfl⟩
theorem mem_remP {n : Int} {ps : PS} {p : Int × GFact} : p ∈ remP ps n ↔ p ∈ ps ∧ p.1 ≠ n := by
  simp only [remP, List.mem_filter, Bool.not_eq_true', decide_eq_false_iff_not]
theorem POk.rem {ps : PS} {n : Int} (h : POk ps) : POk (remP ps n) :=
  ⟨List.Pairwise.sublist ((List.filter_sublist).map _) h.srt, fun m hm => h.rng m (ns_remP.1 hm).1⟩
theorem fO_iff {ps : PS} (h : POk ps) {n : Int} {f : GFact} (hm : (n, f) ∈ ps) : fO ps n = f := by rw [fO, (mget_mem h.nd).2 hm]; rfl
theorem ns_some {ps : PS} {n : Int} (h : n ∈ nsP ps) : (n, fO ps n) ∈ ps ∨ False := by
  obtain ⟨p, hp, rfl⟩ := List.mem_map.1 h
  left
  have : ∃ y, mget ps p.1 = some y := by
    cases e : mget ps p.1 with
    | some y => exact ⟨y, rfl⟩
    | none =>
      exfalso
      clear h
      induction ps with
      | nil => cases hp
      | cons a ps ih =>
        obtain ⟨k, x⟩ := a
        rw [mget] at e
        split at e
        · cases e
        · rename_i q
          rcases List.mem_cons.1 hp with rfl | hp
          · exact q rfl
          · exact ih hp e
  obtain ⟨y, hy⟩ := this
  rw [fO, hy]
  clear h hp
  induction ps with
  | nil => cases hy
  | cons a ps ih =>
    obtain ⟨k, x⟩ := a
    rw [mget] at hy
    split at hy
    · rename_i q; rw [q, ← Option.some.inj hy]; simp
    · exact List.mem_cons_of_mem _ (ih hy)
theorem fO_ins {ps : PS} {n m : Int} {f : GFact} (h : POk ps) (hp : POk (insP ps n f)) : m ≠ n → fO ps m = fO (insP ps n f) m := by
  intro hne
  by_cases q : m ∈ nsP ps
  · obtain ⟨p, h1, rfl⟩ := List.mem_map.1 q
    rw [fO_iff h (show (p.1, p.2) ∈ ps from h1), fO_iff hp (mem_insP.2 (.inr (show (p.1, p.2) ∈ ps from h1)))]
  · have key : ∀ {qs : PS}, m ∉ nsP qs → fO qs m = zFact := by
      intro qs hq
      cases e : mget qs m with
      | none => rw [fO, e]; rfl
      | some y =>
        exfalso
        refine hq ?_
        clear hq
        induction qs with
        | nil => cases e
        | cons a qs ih =>
          obtain ⟨k, x⟩ := a
          rw [mget] at e
          split at e
          · rename_i r; simp [nsP, r]
          · exact List.mem_cons_of_mem _ (ih e)
    rw [key q, key fun r => by rcases ns_insP.1 r with e | e; exact hne e; exact q e]
theorem Less1.ins {ps : PS} {n : Int} {f : GFact} (h : POk ps) (hn : n ∉ nsP ps) (h0 : 0 ≤ n) (h1 : n < 1000000) : Less1 ps (insP ps n f) n :=
  ⟨hn, fun m => by
    rw [ns_insP]
    constructor
    · exact fun q => ⟨.inr q, fun e => hn (e ▸ q)⟩
    · rintro ⟨q | q, h2⟩
      · exact absurd q h2
      · exact q, fun m hm => fO_ins h (h.ins hn h0 h1) hm⟩
theorem Less1.rem {ps : PS} {n : Int} (h : POk ps) : Less1 (remP ps n) ps n :=
  ⟨fun q => (ns_remP.1 q).2 rfl, fun m => ns_remP, fun m hm => by
    by_cases q : m ∈ nsP ps
    · obtain ⟨p, h1, rfl⟩ := List.mem_map.1 q
      rw [fO_iff h (show (p.1, p.2) ∈ ps from h1), fO_iff h.rem (mem_remP.2 ⟨show (p.1, p.2) ∈ ps from h1, hm⟩)]
    · have key : ∀ {qs : PS}, m ∉ nsP qs → mget qs m = none := by
        intro qs hq
        induction qs with
        | nil => rfl
        | cons a qs ih =>
          obtain ⟨k, x⟩ := a
          rw [mget, if_neg (fun e => hq (by simp [nsP, e])), ih fun r => hq (List.mem_cons_of_mem _ r)]
      rw [fO, fO, key q, key fun r => q (ns_remP.1 r).1]⟩
open Go Go.Proofs Go.Proofs.Tryz
section
variable {rules : List GRule} {s : VS} {ps : PS} {w : Int} (I : VInv rules s ps w) (hp : POk ps)
include I hp
theorem VInv.get {n : Int} {f : GFact} : mget s.facts n = some f ↔ (n, f) ∈ ps := by rw [mget_mem I.fn, I.fm]
theorem VInv.fact (n : Int) : factAt s n = fO ps n := by
  unfold factAt fO
  cases e : mget ps n with
  | some f => rw [(I.get hp).2 ((mget_mem hp.nd).1 e)]
  | none =>
    cases e2 : mget s.facts n with
    | none => rfl
    | some f => rw [(mget_mem hp.nd).2 ((I.get hp).1 e2)] at e; cases e
theorem VInv.some_iff {n : Int} : (mget s.facts n).isSome = true ↔ n ∈ nsP ps := by
  constructor
  · intro h
    cases e : mget s.facts n with
    | none => rw [e] at h; cases h
    | some f => exact List.mem_map.2 ⟨_, (I.get hp).1 e, rfl⟩
  · intro h
    obtain ⟨p, hm, rfl⟩ := List.mem_map.1 h
    rw [(I.get hp).2 (show (p.1, p.2) ∈ ps from hm)]; rfl
/-- The pair at a place. -/
theorem VInv.pair {q : Nat} (hq : q < s.pairs.length) : ∃ n i j : Nat, n < (loweredR rules).length ∧ i < (nth (loweredR rules) n).Tables.length ∧ j < (nth (loweredR rules) n).Tables.length ∧ i ≠ j ∧ prV s q = ⟨n, i, j, eqsV (nth (loweredR rules) n) i j⟩ ∧ rlV s q = nth (loweredR rules) n := by
  have hm := nth_mem hq
  have hm2 : nth s.pairs q ∈ prAll (loweredR rules) := by rw [← I.pr]; exact hm
  obtain ⟨n, i, j, h1, h2, h3, h4, h5⟩ := mem_prN.1 hm2
  refine ⟨n, i, j, h1, h2, h3, h4, h5, ?_⟩
  show nth s.rules (nth s.pairs q).rule.toNat = _
  rw [h5, I.rl]; rfl
omit hp in
theorem VInv.at {n i j : Nat} (h1 : n < (loweredR rules).length) (h2 : i < (nth (loweredR rules) n).Tables.length) (h3 : j < (nth (loweredR rules) n).Tables.length) (h4 : i ≠ j) : ∃ q, q < s.pairs.length ∧ prV s q = ⟨n, i, j, eqsV (nth (loweredR rules) n) i j⟩ ∧ rlV s q = nth (loweredR rules) n := by
  have hm : (⟨n, i, j, eqsV (nth (loweredR rules) n) i j⟩ : Gpair) ∈ s.pairs := by rw [I.pr]; exact mem_prN.2 ⟨n, i, j, h1, h2, h3, h4, rfl⟩
  obtain ⟨q, hq, e⟩ := mem_nthV hm
  refine ⟨q, hq, e, ?_⟩
  show nth s.rules (nth s.pairs q).rule.toNat = _
  rw [e, I.rl]; rfl
/-- Who is met for a pair. -/
theorem VInv.meet {q : Nat} (hq : q < s.pairs.length) {f : GFact} {n : Int} : n ∈ keysOf (meetV s q f).2 ↔ ∃ y, (n, y) ∈ ps ∧ meetP (rlV s q) (prV s q).i (prV s q).j f y := by
  obtain ⟨r, i, j, h1, h2, h3, h4, h5, h6⟩ := I.pair hp hq
  have hc : (nth s.pairs q).cols = eqsV (rlV s q) (prV s q).i (prV s q).j := by
    show (prV s q).cols = _
    rw [h6, h5]
  have k0 : ∀ k, keyV s.rules s.pairs 0 q f = some k ↔ f.Table = nth (rlV s q).Tables (prV s q).i.toNat ∧ txOk f (prV s q).cols 0 = true ∧ k = ⟨q, txB f (prV s q).cols 0 (prV s q).cols.length⟩ := fun k => by
    unfold keyV
    rw [if_pos rfl]
    split
    · rename_i hh
      constructor
      · intro e; exact ⟨hh.1, hh.2, (Option.some.inj e).symm⟩
      · rintro ⟨_, _, rfl⟩; rfl
    · rename_i hh
      constructor
      · intro e; cases e
      · rintro ⟨a, b, _⟩; exact absurd ⟨a, b⟩ hh
  have k1 : ∀ (y : GFact) k, keyV s.rules s.pairs 1 q y = some k ↔ y.Table = nth (rlV s q).Tables (prV s q).j.toNat ∧ txOk y (prV s q).cols 1 = true ∧ k = ⟨q, txB y (prV s q).cols 1 (prV s q).cols.length⟩ := fun y k => by
    unfold keyV
    rw [if_neg (show ¬ (1 : Nat) = 0 by decide)]
    split
    · rename_i hh
      constructor
      · intro e; exact ⟨hh.1, hh.2, (Option.some.inj e).symm⟩
      · rintro ⟨_, _, rfl⟩; rfl
    · rename_i hh
      constructor
      · intro e; cases e
      · rintro ⟨a, b, _⟩; exact absurd ⟨a, b⟩ hh
  have km : ∀ (y : GFact) (k : Gkey), k.pair = q → (k ∈ keysV s.rules s.pairs y s.pairs.length ↔ keyV s.rules s.pairs 1 q y = some k) := fun y k hk => by
    simp only [keysV, List.mem_filterMap, List.mem_range]
    constructor
    · rintro ⟨m, hm, e⟩
      have : m = q := by have := keyV_pair e; omega
      rw [← this]; exact e
    · intro e; exact ⟨q, hq, e⟩
  have hm : n ∈ keysOf (meetV s q f).2 ↔ ∃ k, keyV s.rules s.pairs 0 q f = some k ∧ hasS s.idx k n := by
    unfold meetV
    cases e : keyV s.rules s.pairs 0 q f with
    | none => simp
    | some k => simp [hasS]
  rw [hm]
  constructor
  · rintro ⟨k, hk, hn⟩
    obtain ⟨a1, a2, rfl⟩ := (k0 k).1 hk
    obtain ⟨y, hy, hk2⟩ := (I.ix _ _).1 hn
    obtain ⟨b1, b2, b3⟩ := (k1 y _).1 ((km y _ rfl).1 hk2)
    have e := congrArg Gkey.texts b3
    refine ⟨y, hy, a1, b1, ?_⟩
    rw [← hc]
    exact txB_iff.1 ⟨a2, b2, e⟩
  · rintro ⟨y, hy, a1, b1, h⟩
    rw [← hc] at h
    obtain ⟨a2, b2, e⟩ := txB_iff.2 h
    exact ⟨_, (k0 _).2 ⟨a1, a2, rfl⟩, (I.ix _ _).2 ⟨y, hy, (km y _ rfl).2 ((k1 y _).2 ⟨b1, b2, by rw [← e]⟩)⟩⟩
/-- The place of the pair of the third variable. -/
theorem VInv.patOk : PatOk s where
  at2 := fun q hq h3 => by
    obtain ⟨r, i, j, h1, h2, h3', h4, h5, h6⟩ := I.pair hp hq
    rw [h6] at h3
    have hl : lastV (prV s q) = ((3 - i - j : Nat) : Int) := by rw [h5]; simp only [lastV]; omega
    obtain ⟨m, hm, e1, e2⟩ := I.at h1 h2 (show 3 - i - j < (nth (loweredR rules) r).Tables.length by omega) (by omega)
    have hg := I.pt.get m hm
    refine ⟨m, hm, fun e => ?_, ?_, by rw [e1, h5], by rw [e1, h5], by rw [e1, hl]⟩
    · subst e
      rw [h5] at e1
      have := congrArg Gpair.j e1
      simp only at this
      omega
    · rw [hl, h5, ← hg]
      congr 1
      show _ = keyG (prV s m)
      rw [e1]
theorem VInv.i2 {q : Nat} (hq : q < s.pairs.length) (h3 : (rlV s q).Tables.length = 3) : i2V s q < s.pairs.length ∧ rlV s (i2V s q) = rlV s q ∧ (prV s (i2V s q)).i = (prV s q).i ∧ (prV s (i2V s q)).j = lastV (prV s q) := by
  obtain ⟨n, hn, _, e1, e2, e3, e4⟩ := (I.patOk hp).at2 q hq h3
  have : i2V s q = n := by
    unfold i2V
    rw [e1]; simp
  rw [this]
  refine ⟨hn, ?_, e3, e4⟩
  show nth s.rules (prV s n).rule.toNat = nth s.rules (prV s q).rule.toNat
  rw [e2]
end
/-- Numbers of facts for the variables of a denial. -/
def tup (len i j : Nat) (num m k : Int) : List Int := (List.range len).map fun x => if x = i then num else if x = j then m else k
theorem tup_nth {len i j x : Nat} {num m k : Int} (h : x < len) : nth (tup len i j num m k) x = if x = i then num else if x = j then m else k := by
  rw [nth_get (by simp [tup]; exact h)]; simp [tup]
theorem tup_len (len i j : Nat) (num m k : Int) : (tup len i j num m k).length = len := by simp [tup]
theorem tup2 {i j : Nat} (hi : i < 2) (hj : j < 2) (hij : i ≠ j) (num m k : Int) : (tup 2 i j num m k).Perm [num, m] := by
  have : (i = 0 ∧ j = 1) ∨ (i = 1 ∧ j = 0) := by omega
  rcases this with ⟨rfl, rfl⟩ | ⟨rfl, rfl⟩
  · exact List.Perm.refl _
  · exact List.Perm.swap ..
theorem tup3 {i j : Nat} (hi : i < 3) (hj : j < 3) (hij : i ≠ j) (num m k : Int) : (tup 3 i j num m k).Perm [num, m, k] := by
  have : (i = 0 ∧ j = 1) ∨ (i = 1 ∧ j = 0) ∨ (i = 0 ∧ j = 2) ∨ (i = 2 ∧ j = 0) ∨ (i = 1 ∧ j = 2) ∨ (i = 2 ∧ j = 1) := by omega
  rcases this with ⟨rfl, rfl⟩ | ⟨rfl, rfl⟩ | ⟨rfl, rfl⟩ | ⟨rfl, rfl⟩ | ⟨rfl, rfl⟩ | ⟨rfl, rfl⟩
  · exact List.Perm.refl _
  · exact List.Perm.swap ..
  · exact List.Perm.cons _ (List.Perm.swap ..)
  · show List.Perm [m, k, num] [num, m, k]
    exact (List.perm_append_comm (l₁ := [m, k]) (l₂ := [num]))
  · show List.Perm [k, num, m] [num, m, k]
    exact (List.perm_append_comm (l₁ := [k]) (l₂ := [num, m]))
  · show List.Perm [k, m, num] [num, m, k]
    refine List.Perm.trans (List.Perm.swap m k [num]) ?_
    exact List.Perm.trans (List.Perm.cons _ (List.Perm.swap num k [])) (List.Perm.swap num m [k])
section
variable {rules : List GRule} {s : VS} {ps : PS} {w : Int} (I : VInv rules s ps w) (hp : POk ps) {num : Int} {f : GFact} (hn : num ∉ nsP ps) (h0 : 0 ≤ num) (h1 : num < 1000000)
include I hp hn h0 h1
theorem VInv.fO' {m : Int} (hm : m ∈ nsP ps) : fO (insP ps num f) m = factAt s m := by
  rw [I.fact hp]
  exact ((Less1.ins hp hn h0 h1).eq m fun e => hn (e ▸ hm)).symm
theorem VInv.fON : fO (insP ps num f) num = f := fO_iff (hp.ins hn h0 h1) (mem_insP.2 (.inl rfl))
theorem VInv.found (t : GTri) : FoundP s num f t ↔ ∃ l, WS (loweredR rules) (insP ps num f) l ∧ num ∈ l ∧ t = triOf l := by
  have hps := hp.ins (f := f) hn h0 h1
  have mem_f : ∀ m y, (m, y) ∈ ps → m ∈ nsP ps ∧ factAt s m = y := fun m y h => ⟨List.mem_map.2 ⟨_, h, rfl⟩, by rw [I.fact hp, fO_iff hp h]⟩
  have in' : ∀ m, m ∈ nsP ps → m ∈ nsP (insP ps num f) := fun m h => ns_insP.2 (.inr h)
  have inN : num ∈ nsP (insP ps num f) := ns_insP.2 (.inl rfl)
  constructor
  · rintro (⟨n, hm, hv, rfl⟩ | ⟨q, hq, hl, hv, rfl⟩ | ⟨q, hq, m, hm, h⟩)
    · obtain ⟨y, hy, he⟩ := (I.en _ _).1 hm
      obtain ⟨a1, a2⟩ := mem_f n y hy
      have hne : num ≠ n := fun e => hn (e ▸ a1)
      refine ⟨sortI [num, n], ⟨[num, n], by simpa using hne, ?_, .inl ⟨f, y, ?_, he.symm, ?_⟩, rfl⟩, sortI_mem.2 (by simp), rfl⟩
      · intro x hx
        simp only [List.mem_cons, List.not_mem_nil, or_false] at hx
        rcases hx with rfl | rfl
        · exact inN
        · exact in' _ a1
      · simp only [List.map_cons, List.map_nil]; rw [I.fON hp hn h0 h1, I.fO' hp hn h0 h1 a1, a2]
      · rw [← a2]; exact hv
    · refine ⟨sortI [num], ⟨[num], by simp, fun x hx => by rw [List.mem_singleton.1 hx]; exact inN, .inr ⟨nth s.rules q, by rw [← I.rl]; exact nth_mem hq, by simp [hl], ?_⟩, rfl⟩, sortI_mem.2 (by simp), rfl⟩
      simp only [List.map_cons, List.map_nil]; rw [I.fON hp hn h0 h1]; exact hv
    · obtain ⟨r, i, j, g1, g2, g3, g4, g5, g6⟩ := I.pair hp hq
      obtain ⟨y, hy, _⟩ := (I.meet hp hq).1 hm
      obtain ⟨a1, a2⟩ := mem_f m y hy
      have hne : num ≠ m := fun e => hn (e ▸ a1)
      have hdm : rlV s q ∈ loweredR rules := by rw [g6]; exact nth_mem g1
      have hd3 := lowT3 rules _ hdm
      rcases h with ⟨hl, ⟨at_, ⟨b1, b2, b3⟩, b4⟩, rfl⟩ | ⟨hl, hlt, k, hk, hmk, ⟨at_, ⟨b1, b2, b3⟩, b4, b5⟩, rfl⟩
      · have hl2 : (nth (loweredR rules) r).Tables.length = 2 := by rw [← g6]; exact hl
        have hpm := tup2 (show i < 2 by omega) (show j < 2 by omega) g4 num m m
        have hmp : (tup 2 i j num m m).map (fO (insP ps num f)) = at_ := by
          refine ext_at (by simp [tup_len]; omega) fun x hx => ?_
          rw [List.length_map, tup_len] at hx
          rw [nth_mapV _ (by rw [tup_len]; exact hx), tup_nth hx]
          rw [g5] at b2 b3
          simp only [Int.toNat_natCast] at b2 b3
          by_cases q1 : x = i
          · rw [if_pos q1, q1, b2]; exact I.fON hp hn h0 h1
          · have q2 : x = j := by omega
            rw [if_neg q1, if_pos q2, q2, b3]; exact I.fO' hp hn h0 h1 a1
        refine ⟨sortI [num, m], ⟨tup 2 i j num m m, hpm.nodup_iff.2 (by simpa using hne), fun x hx => ?_, .inr ⟨_, hdm, by rw [hmp]; exact b1, by rw [hmp]; exact b4⟩, ?_⟩, sortI_mem.2 (by simp), rfl⟩
        · have hx := hpm.mem_iff.1 hx
          simp only [List.mem_cons, List.not_mem_nil, or_false] at hx
          rcases hx with rfl | rfl
          · exact inN
          · exact in' _ a1
        · exact sortI_eq (hpm.trans (sortI_perm _).symm) (sortI_le _)
      · have hl3 : (rlV s q).Tables.length = 3 := by
          have : i < (rlV s q).Tables.length ∧ j < (rlV s q).Tables.length := by rw [g6]; exact ⟨g2, g3⟩
          omega
        have hl3' : (nth (loweredR rules) r).Tables.length = 3 := by rw [← g6]; exact hl3
        obtain ⟨c1, c2, c3, c4⟩ := I.i2 hp hq hl3
        obtain ⟨z, hz, _⟩ := (I.meet hp c1).1 hk
        obtain ⟨a3, a4⟩ := mem_f k z hz
        have hne2 : num ≠ k := fun e => hn (e ▸ a3)
        have hpm := tup3 (show i < 3 by omega) (show j < 3 by omega) g4 num m k
        have hlast : (lastV (prV s q)).toNat = 3 - i - j := by rw [g5]; simp only [lastV]; omega
        have hmp : (tup 3 i j num m k).map (fO (insP ps num f)) = at_ := by
          refine ext_at (by simp [tup_len]; omega) fun x hx => ?_
          rw [List.length_map, tup_len] at hx
          rw [nth_mapV _ (by rw [tup_len]; exact hx), tup_nth hx]
          rw [hlast] at b4
          rw [g5] at b2 b3
          simp only [Int.toNat_natCast] at b2 b3
          by_cases q1 : x = i
          · rw [if_pos q1, q1, b2]; exact I.fON hp hn h0 h1
          · rw [if_neg q1]
            by_cases q2 : x = j
            · rw [if_pos q2, q2, b3]; exact I.fO' hp hn h0 h1 a1
            · have q3 : x = 3 - i - j := by omega
              rw [if_neg q2, q3, b4]; exact I.fO' hp hn h0 h1 a3
        refine ⟨sortI [num, m, k], ⟨tup 3 i j num m k, hpm.nodup_iff.2 (by simp [hne, hne2, hmk]), fun x hx => ?_, .inr ⟨_, hdm, by rw [hmp]; exact b1, by rw [hmp]; exact b5⟩, ?_⟩, sortI_mem.2 (by simp), rfl⟩
        · have hx := hpm.mem_iff.1 hx
          simp only [List.mem_cons, List.not_mem_nil, or_false] at hx
          rcases hx with rfl | rfl | rfl
          · exact inN
          · exact in' _ a1
          · exact in' _ a3
        · exact sortI_eq (hpm.trans (sortI_perm _).symm) (sortI_le _)
  · rintro ⟨_, ⟨l, hnd, hin, hb, rfl⟩, hnm, rfl⟩
    have hnm := sortI_mem.1 hnm
    have old : ∀ x ∈ l, x ≠ num → x ∈ nsP ps := fun x hx hne => by
      rcases ns_insP.1 (hin x hx) with e | e
      · exact absurd e hne
      · exact e
    have memP : ∀ x, x ∈ nsP ps → (x, factAt s x) ∈ ps := fun x hx => by
      rw [I.fact hp]
      rcases ns_some hx with h | h
      · exact h
      · exact h.elim
    rcases hb with ⟨a, b, e, hx⟩ | ⟨d, hd, hl, hv⟩
    · left
      match l, e, hnd, hnm, old with
      | [], e, _, _, _ => cases e
      | [_], e, _, _, _ => cases e
      | _ :: _ :: _ :: _, e, _, _, _ => cases e
      | [x, y], e, hnd, hnm, old =>
        simp only [List.map_cons, List.map_nil, List.cons.injEq, and_true] at e
        obtain ⟨e1, e2⟩ := e
        have hxy : x ≠ y := by simpa using hnd
        simp only [List.mem_cons, List.not_mem_nil, or_false] at hnm
        rcases hnm with hh | hh
        · subst hh
          have hy := old y (by simp) (Ne.symm hxy)
          rw [I.fON hp hn h0 h1] at e1
          rw [I.fO' hp hn h0 h1 hy] at e2
          subst e1 e2
          exact ⟨y, (I.en _ _).2 ⟨_, memP y hy, hx.1.symm⟩, hx.2, rfl⟩
        · subst hh
          have hy := old x (by simp) hxy
          rw [I.fON hp hn h0 h1] at e2
          rw [I.fO' hp hn h0 h1 hy] at e1
          subst e1 e2
          refine ⟨x, (I.en _ _).2 ⟨_, memP x hy, hx.1⟩, hx.2.symm, ?_⟩
          rw [setM]; congr 1
          exact sortI_eq ((List.Perm.swap ..).trans (sortI_perm _).symm) (sortI_le _)
    · rw [List.length_map] at hl
      have hd3 := lowT3 rules d hd
      obtain ⟨r, hr, er⟩ := mem_nthV hd
      obtain ⟨i, hi, ei⟩ := mem_nthV hnm
      have hnth : ∀ x, x < l.length → nth (l.map (fO (insP ps num f))) x = fO (insP ps num f) (nth l x) := fun x h => nth_mapV _ h
      have hinj : ∀ x y, x < l.length → y < l.length → x ≠ y → nth l x ≠ nth l y := fun x y h1 h2 h3 e => by
        rw [nth_get h1, nth_get h2] at e
        exact h3 ((List.getElem_inj hnd).1 e)
      have hoth : ∀ x, x < l.length → x ≠ i → nth l x ∈ nsP ps ∧ fO (insP ps num f) (nth l x) = factAt s (nth l x) := fun x h h2 => by
        have := old _ (nth_mem h) (by rw [← ei]; exact hinj x i h hi h2)
        exact ⟨this, I.fO' hp hn h0 h1 this⟩
      have hmt : ∀ x, x < l.length → x ≠ i → meetP d i x f (factAt s (nth l x)) := fun x h h2 => by
        have := viol_meet hv (i := i) (j := x) (by rw [List.length_map]; exact hi) (by rw [List.length_map]; exact h)
        rw [hnth i hi, hnth x h, ei, I.fON hp hn h0 h1, (hoth x h h2).2] at this
        exact this
      have h3l : l.length = 1 ∨ l.length = 2 ∨ l.length = 3 := by omega
      rcases h3l with q | q | q
      · right; left
        match l, q, ei, hi, hl, hv with
        | [x], _, ei, hi, hl, hv =>
          have : i = 0 := by simp at hi; omega
          subst this
          have ei : x = num := ei
          subst ei
          simp only [List.map_cons, List.map_nil] at hv
          rw [I.fON hp hn h0 h1] at hv
          exact ⟨r, by rw [I.rl]; exact hr, by rw [I.rl, er]; simpa using hl.symm, by rw [I.rl, er]; exact hv, rfl⟩
      · right; right
        have hj : 1 - i < l.length ∧ 1 - i ≠ i := by omega
        obtain ⟨p, hp1, hp2, hp3⟩ := I.at (n := r) (i := i) (j := 1 - i) hr (by rw [er]; omega) (by rw [er]; omega) (by omega)
        rw [er] at hp2 hp3
        obtain ⟨o1, o2⟩ := hoth _ hj.1 hj.2
        have hs : l = tup 2 i (1 - i) num (nth l (1 - i)) 0 := by
          refine (show ∀ {a b : List Int}, a.length = b.length → (∀ x, x < a.length → nth a x = nth b x) → a = b from fun {a b} h1 h2 => List.ext_getElem h1 fun x h3 h4 => by have := h2 x h3; rw [nth_get h3, nth_get h4] at this; exact this) (by rw [tup_len]; exact q) fun x hx => ?_
          rw [tup_nth (by omega)]
          by_cases r1 : x = i
          · rw [if_pos r1, r1, ei]
          · have r2 : x = 1 - i := by omega
            rw [if_neg r1, if_pos r2, r2]
        refine ⟨p, hp1, nth l (1 - i), (I.meet hp hp1).2 ⟨_, memP _ o1, ?_⟩, .inl ⟨by rw [hp3, ← hl]; exact q, ⟨l.map (fO (insP ps num f)), ⟨by rw [List.length_map, hp3]; exact hl, ?_, ?_⟩, by rw [hp3]; exact hv⟩, ?_⟩⟩
        · rw [hp3, hp2]; exact hmt _ hj.1 hj.2
        · rw [hp2]; simp only [Int.toNat_natCast]; rw [hnth i hi, ei]; exact I.fON hp hn h0 h1
        · rw [hp2]; simp only [Int.toNat_natCast]; rw [hnth _ hj.1]; exact o2
        · rw [setM]; congr 1
          refine sortI_eq (List.Perm.trans ?_ (sortI_perm _).symm) (sortI_le _)
          conv => lhs; rw [hs]
          exact tup2 (by omega) (by omega) (by omega) _ _ _
      · right; right
        obtain ⟨j, k, hj, hk, hij, hik, hjk, hlk⟩ : ∃ j k, j < 3 ∧ k < 3 ∧ i ≠ j ∧ i ≠ k ∧ j < k ∧ k = 3 - i - j := by
          have : i = 0 ∨ i = 1 ∨ i = 2 := by omega
          rcases this with rfl | rfl | rfl
          · exact ⟨1, 2, by omega⟩
          · exact ⟨0, 2, by omega⟩
          · exact ⟨0, 1, by omega⟩
        obtain ⟨p, hp1, hp2, hp3⟩ := I.at (n := r) (i := i) (j := j) hr (by rw [er]; omega) (by rw [er]; omega) (by omega)
        rw [er] at hp2 hp3
        have hl3 : (rlV s p).Tables.length = 3 := by rw [hp3]; omega
        obtain ⟨c1, c2, c3, c4⟩ := I.i2 hp hp1 hl3
        have hlast : lastV (prV s p) = (k : Int) := by rw [hp2]; simp only [lastV]; omega
        obtain ⟨o1, o2⟩ := hoth j (by omega) (by omega)
        obtain ⟨u1, u2⟩ := hoth k (by omega) (by omega)
        have hs : l = tup 3 i j num (nth l j) (nth l k) := by
          refine (show ∀ {a b : List Int}, a.length = b.length → (∀ x, x < a.length → nth a x = nth b x) → a = b from fun {a b} h1 h2 => List.ext_getElem h1 fun x h3 h4 => by have := h2 x h3; rw [nth_get h3, nth_get h4] at this; exact this) (by rw [tup_len]; exact q) fun x hx => ?_
          rw [tup_nth (by omega)]
          by_cases r1 : x = i
          · rw [if_pos r1, r1, ei]
          · rw [if_neg r1]
            by_cases r2 : x = j
            · rw [if_pos r2, r2]
            · rw [if_neg r2]; congr 1; omega
        have hjk' : nth l j ≠ nth l k := hinj j k (by omega) (by omega) (by omega)
        refine ⟨p, hp1, nth l j, (I.meet hp hp1).2 ⟨_, memP _ o1, ?_⟩, .inr ⟨by omega, ?_, nth l k, (I.meet hp c1).2 ⟨_, memP _ u1, ?_⟩, hjk', ⟨l.map (fO (insP ps num f)), ⟨by rw [List.length_map, hp3]; exact hl, ?_, ?_⟩, ?_, by rw [hp3]; exact hv⟩, ?_⟩⟩
        · rw [hp3, hp2]; exact hmt _ (by omega) (by omega)
        · rw [hlast, hp2]; simp only; omega
        · rw [c2, c3, c4, hlast, hp3, hp2]; exact hmt _ (by omega) (by omega)
        · rw [hp2]; simp only [Int.toNat_natCast]; rw [hnth i hi, ei]; exact I.fON hp hn h0 h1
        · rw [hp2]; simp only [Int.toNat_natCast]; rw [hnth j (by omega)]; exact o2
        · rw [hlast]; simp only [Int.toNat_natCast]; rw [hnth k (by omega)]; exact u2
        · rw [setM]; congr 1
          refine sortI_eq (List.Perm.trans ?_ (sortI_perm _).symm) (sortI_le _)
          conv => lhs; rw [hs]
          exact tup3 (by omega) (by omega) (by omega) _ _ _
end
open Go Go.Proofs Go.Proofs.Tryz
/-- The facts that a fact meets. -/
noncomputable def metL (rules : List GRule) (ps : PS) (f : GFact) : PS := ps.filter fun p => @decide (MeetsP rules f p.2) (Classical.propDecidable _)
theorem mem_metL {rules : List GRule} {ps : PS} {f : GFact} {p : Int × GFact} : p ∈ metL rules ps f ↔ p ∈ ps ∧ MeetsP rules f p.2 := by simp [metL]
noncomputable def metN (rules : List GRule) (ps : PS) (f : GFact) : Int := ((metL rules ps f).length : Nat)
theorem metN_le (rules : List GRule) (ps : PS) (f : GFact) : 0 ≤ metN rules ps f ∧ metN rules ps f ≤ (ps.length : Int) := by
  have := List.length_filter_le (fun p : Int × GFact => @decide (MeetsP rules f p.2) (Classical.propDecidable _)) ps
  unfold metN metL; omega
def putE (ps : PS) (num : Int) : Int := if num < 0 ∨ 1000000 ≤ num then 1 else if num ∈ nsP ps then 9 else 0
def putP (ps : PS) (num : Int) (f : GFact) : PS := if putE ps num = 0 then insP ps num f else ps
noncomputable def putW (rules : List GRule) (ps : PS) (num : Int) (f : GFact) : Int := if putE ps num = 0 then metN rules ps f else 0
def dropE (ps : PS) (num : Int) : Int := if num ∈ nsP ps then 0 else 11
theorem putE_0 {ps : PS} {num : Int} : putE ps num = 0 ↔ 0 ≤ num ∧ num < 1000000 ∧ num ∉ nsP ps := by
  unfold putE
  split
  · constructor
    · intro h; omega
    · intro h; omega
  · split
    · rename_i h; simp [h]
    · rename_i h1 h2; simp [h2]; omega
theorem remP_len (ps : PS) (n : Int) : (remP ps n).length ≤ ps.length := List.length_filter_le _ _
theorem remP_no {ps : PS} {n : Int} (h : n ∉ nsP ps) : remP ps n = ps := List.filter_eq_self.2 fun p hp => by
  have : p.1 ≠ n := fun e => h (List.mem_map.2 ⟨p, hp, e⟩)
  simp [this]
/-- All triples of some numbers. -/
def allT (l : List Int) : List GTri := l.flatMap fun a => l.flatMap fun b => l.map fun c => (⟨a, b, c⟩ : GTri)
theorem sum_const {α : Type} (n : Nat) : ∀ l : List α, (l.map fun _ => n).sum = l.length * n
  | [] => by simp
  | a :: l => by simp [sum_const n l, Nat.succ_mul]; omega
theorem allT_len (l : List Int) : (allT l).length = l.length * (l.length * l.length) := by
  simp only [allT, List.length_flatMap, List.length_map, sum_const]
theorem tri_all {s l : List Int} (h : ∀ x ∈ s, x ∈ l) : triOf s ∈ allT ((-1) :: l) := by
  have key : ∀ k, s.getD k (-1) ∈ (-1) :: l := fun k => by
    rw [List.getD_eq_getElem?_getD]
    cases e : s[k]? with
    | none => simp
    | some x => exact List.mem_cons_of_mem _ (h x (List.mem_of_getElem? e))
  simp only [allT, List.mem_flatMap, List.mem_map]
  exact ⟨_, key 0, _, key 1, _, key 2, rfl⟩
theorem tri_bound {ts : List GTri} {l : List Int} (hn : ts.Nodup) (hl : l.length ≤ 13) (h : ∀ t ∈ ts, ∃ s, t = triOf s ∧ ∀ x ∈ s, x ∈ l) : ts.length ≤ 2744 := by
  have := nodup_lenV hn (r := allT ((-1) :: l)) fun t ht => by
    obtain ⟨s, rfl, hs⟩ := h t ht
    exact tri_all hs
  rw [allT_len] at this
  have h2 : ((-1) :: l).length ≤ 14 := by simp; omega
  have h3 := Nat.mul_le_mul h2 (Nat.mul_le_mul h2 h2)
  omega
theorem addT_nd : ∀ {ml : List GTri} {vio : List (GTri × Bool)}, KN vio → KN (addT vio ml)
  | [], _, h => h
  | t :: ml, vio, h => addT_nd (ml := ml) (vio := mput vio t true) (mput_nodup h _ _)
theorem addT_keys : ∀ {ml : List GTri} {vio : List (GTri × Bool)} {t : GTri}, t ∈ (addT vio ml).map (·.1) ↔ t ∈ vio.map (·.1) ∨ t ∈ ml
  | [], _, t => by simp [addT]
  | a :: ml, vio, t => by
    have h : addT vio (a :: ml) = addT (mput vio a true) ml := rfl
    rw [h, addT_keys, mput_keys]
    split
    · rename_i q
      simp only [List.mem_cons]
      constructor
      · rintro (h | h)
        · exact .inl h
        · exact .inr (.inr h)
      · rintro (h | rfl | h)
        · exact .inl h
        · exact .inl q
        · exact .inr h
    · simp only [List.mem_append, List.mem_cons, List.not_mem_nil, or_false]
      constructor
      · rintro ((h | h) | h)
        · exact .inl h
        · exact .inr (.inl h)
        · exact .inr (.inr h)
      · rintro (h | h | h)
        · exact .inl (.inl h)
        · exact .inl (.inr h)
        · exact .inr h
theorem addT_tr : ∀ {ml : List GTri} {vio : List (GTri × Bool)}, KN vio → (∀ p ∈ vio, p.2 = true) → ∀ p ∈ addT vio ml, p.2 = true
  | [], _, _, h => h
  | a :: ml, vio, hk, h => addT_tr (ml := ml) (vio := mput vio a true) (mput_nodup hk _ _) fun p hp => by
    rcases (mput_mem hk).1 hp with rfl | ⟨q, _⟩
    · rfl
    · exact h p q
section
variable {rules : List GRule} {s : VS} {ps : PS} {w : Int} (I : VInv rules s ps w) (hp : POk ps)
include I hp
theorem VInv.flen : s.facts.length = ps.length :=
  ((List.perm_ext_iff_of_nodup (nodup_of_map I.fn) (nodup_of_map hp.nd)).2 I.fm).length_eq
theorem VInv.vlen (hl : ps.length ≤ 13) : s.vio.length ≤ 2744 := by
  have := tri_bound (ts := s.vio.map (·.1)) (l := nsP ps) I.vn (by rw [nsP_len]; exact hl) fun t ht => by
    obtain ⟨l, h1, rfl⟩ := (I.vm t).1 ht
    exact ⟨l, rfl, (h1.1.ok (lowT3 rules)).2.2.2⟩
  rwa [List.length_map] at this
theorem VInv.cand {f : GFact} {n : Int} : Cand s f s.pairs.length n ↔ ∃ y, (n, y) ∈ ps ∧ MeetsP rules f y := by
  unfold Cand MeetsP
  constructor
  · rintro (h | ⟨q, hq, h⟩)
    · obtain ⟨y, h1, h2⟩ := (I.en _ _).1 h
      exact ⟨y, h1, .inl h2.symm⟩
    · obtain ⟨y, h1, h2⟩ := (I.meet hp hq).1 h
      obtain ⟨r, i, j, g1, g2, g3, g4, g5, g6⟩ := I.pair hp hq
      rw [g5, g6] at h2
      exact ⟨y, h1, .inr ⟨_, nth_mem g1, i, j, g2, g3, g4, h2⟩⟩
  · rintro ⟨y, h1, h2 | ⟨d, hd, i, j, g2, g3, g4, h2⟩⟩
    · exact .inl ((I.en _ _).2 ⟨y, h1, h2.symm⟩)
    · obtain ⟨r, hr, rfl⟩ := mem_nthV hd
      obtain ⟨q, hq, e1, e2⟩ := I.at hr g2 g3 g4
      exact .inr ⟨q, hq, (I.meet hp hq).2 ⟨y, h1, by rw [e1, e2]; exact h2⟩⟩
theorem VInv.candIn {f : GFact} : ∀ n, Cand s f s.pairs.length n → n ∈ s.facts.map (·.1) := fun n h => by
  obtain ⟨y, h1, _⟩ := (I.cand hp).1 h
  exact List.mem_map.2 ⟨_, (I.fm _).2 h1, rfl⟩
theorem VInv.clen {f : GFact} {md : List (Int × Bool)} (hn : KN md) (h : ∀ n, n ∈ keysOf md ↔ Cand s f s.pairs.length n) : (md.length : Int) = metN rules ps f := by
  have : (keysOf md).Perm ((metL rules ps f).map (·.1)) := by
    refine (List.perm_ext_iff_of_nodup hn (List.Nodup.sublist ((List.filter_sublist).map _) hp.nd)).2 fun n => ?_
    rw [h, I.cand hp, List.mem_map]
    constructor
    · rintro ⟨y, h1, h2⟩; exact ⟨(n, y), mem_metL.2 ⟨h1, h2⟩, rfl⟩
    · rintro ⟨p, h1, rfl⟩; exact ⟨p.2, (mem_metL.1 h1).1, (mem_metL.1 h1).2⟩
  have := this.length_eq
  simp only [List.length_map] at this
  unfold metN; omega
theorem VInv.foundIn {num : Int} {f : GFact} {t : GTri} (h : FoundP s num f t) : ∃ l, t = triOf l ∧ ∀ x ∈ l, x ∈ num :: nsP ps := by
  have mem_f : ∀ m y, (m, y) ∈ ps → m ∈ nsP ps := fun m y h => List.mem_map.2 ⟨_, h, rfl⟩
  rcases h with ⟨n, hm, hv, rfl⟩ | ⟨q, hq, hl, hv, rfl⟩ | ⟨q, hq, m, hm, h⟩
  · obtain ⟨y, hy, he⟩ := (I.en _ _).1 hm
    refine ⟨_, rfl, fun x hx => ?_⟩
    have hx := sortI_mem.1 hx
    simp only [List.mem_cons, List.not_mem_nil, or_false] at hx
    rcases hx with rfl | rfl
    · simp
    · exact List.mem_cons_of_mem _ (mem_f _ _ hy)
  · refine ⟨_, rfl, fun x hx => ?_⟩
    have hx := sortI_mem.1 hx
    simp only [List.mem_cons, List.not_mem_nil, or_false] at hx
    simp [hx]
  · obtain ⟨r, i, j, g1, g2, g3, g4, g5, g6⟩ := I.pair hp hq
    obtain ⟨y, hy, _⟩ := (I.meet hp hq).1 hm
    rcases h with ⟨hl, _, rfl⟩ | ⟨hl, hlt, k, hk, hmk, _, rfl⟩
    · refine ⟨_, rfl, fun x hx => ?_⟩
      have hx := sortI_mem.1 hx
      simp only [List.mem_cons, List.not_mem_nil, or_false] at hx
      rcases hx with rfl | rfl
      · simp
      · exact List.mem_cons_of_mem _ (mem_f _ _ hy)
    · have hdm : rlV s q ∈ loweredR rules := by rw [g6]; exact nth_mem g1
      have hd3 := lowT3 rules _ hdm
      have hl3 : (rlV s q).Tables.length = 3 := by
        have : i < (rlV s q).Tables.length ∧ j < (rlV s q).Tables.length := by rw [g6]; exact ⟨g2, g3⟩
        omega
      obtain ⟨c1, c2, c3, c4⟩ := I.i2 hp hq hl3
      obtain ⟨z, hz, _⟩ := (I.meet hp c1).1 hk
      refine ⟨_, rfl, fun x hx => ?_⟩
      have hx := sortI_mem.1 hx
      simp only [List.mem_cons, List.not_mem_nil, or_false] at hx
      rcases hx with rfl | rfl | rfl
      · simp
      · exact List.mem_cons_of_mem _ (mem_f _ _ hy)
      · exact List.mem_cons_of_mem _ (mem_f _ _ hz)
theorem VInv.flimit {num : Int} {f : GFact} (hl : ps.length ≤ 12) {ts : List GTri} (hd : ts.Nodup) (h : ∀ t ∈ ts, FoundP s num f t) : ts.length ≤ 2744 :=
  tri_bound (l := num :: nsP ps) hd (by rw [List.length_cons, nsP_len]; omega) fun t ht => I.foundIn hp (h t ht)
theorem VInv.put {num : Int} {f : GFact} (hl : ps.length ≤ 12) {s' : VS} {e : Int} (h : PutR s num f s' e) : e = putE ps num ∧ VInv rules s' (putP ps num f) (w + putW rules ps num f) := by
  cases h with
  | arg h =>
    have e0 : putE ps num = 1 := by rw [putE, if_pos h]
    refine ⟨e0.symm, ?_⟩
    rw [putP, putW, e0, if_neg (by decide), if_neg (by decide), Int.add_zero]; exact I
  | twice h0 h1 h2 =>
    have e0 : putE ps num = 9 := by rw [putE, if_neg (by omega), if_pos ((I.some_iff hp).1 h2)]
    refine ⟨e0.symm, ?_⟩
    rw [putP, putW, e0, if_neg (by decide), if_neg (by decide), Int.add_zero]; exact I
  | limit ml h0 h1 h2 h3 h4 h5 =>
    exfalso
    have hn : num ∉ nsP ps := fun q => by rw [(I.some_iff hp).2 q] at h2; cases h2
    have q1 := I.flimit hp hl h3 h4
    have q2 := I.vlen hp (by omega)
    have q3 := I.flen hp
    omega
  | ok fr ml md q wn h0 h1 h2 hK hm hnd hmd hc hI =>
    have hn : num ∉ nsP ps := fun q => by rw [(I.some_iff hp).2 q] at h2; cases h2
    have e0 : putE ps num = 0 := putE_0.2 ⟨h0, h1, hn⟩
    have hps := hp.ins (f := f) hn h0 h1
    have L1 := Less1.ins (f := f) hp hn h0 h1
    refine ⟨e0.symm, ?_⟩
    rw [putP, putW, if_pos e0, if_pos e0]
    have kin : ∀ k n, hasS q k n ↔ ∃ y, (n, y) ∈ insP ps num f ∧ k ∈ keysV s.rules s.pairs y s.pairs.length := fun k n => by
      rw [hI.mem, I.ix]
      constructor
      · rintro (⟨y, a, b⟩ | ⟨a, rfl⟩)
        · exact ⟨y, mem_insP.2 (.inr a), b⟩
        · exact ⟨f, mem_insP.2 (.inl rfl), a⟩
      · rintro ⟨y, a, b⟩
        rcases mem_insP.1 a with e | a
        · cases e; exact .inr ⟨b, rfl⟩
        · exact .inl ⟨y, a, b⟩
    refine { rl := I.rl, pr := I.pr, pt := I.pt, fn := mput_nodup I.fn _ _, fm := fun p => ?_, en := fun e n => ?_, ix := kin, vn := addT_nd I.vn, vt := addT_tr I.vn I.vt, vm := fun t => ?_, wk := by rw [← I.clen hp hmd hc, ← I.wk] }
    · rw [mput_mem I.fn, mem_insP, I.fm]
      constructor
      · rintro (h | ⟨h, _⟩)
        · exact .inl h
        · exact .inr h
      · rintro (h | h)
        · exact .inl h
        · exact .inr ⟨h, fun e => hn (List.mem_map.2 ⟨p, h, e⟩)⟩
    · rw [hasS_sput, I.en]
      constructor
      · rintro (⟨y, a, b⟩ | ⟨rfl, rfl⟩)
        · exact ⟨y, mem_insP.2 (.inr a), b⟩
        · exact ⟨f, mem_insP.2 (.inl rfl), rfl⟩
      · rintro ⟨y, a, b⟩
        rcases mem_insP.1 a with e | a
        · cases e; exact .inr ⟨b.symm, rfl⟩
        · exact .inl ⟨y, a, b⟩
    · have hT := lowT3 rules
      have pos : ∀ {l : List Int}, WS (loweredR rules) (insP ps num f) l → l.length ≤ 3 ∧ (∀ x ∈ l, 0 ≤ x) ∧ Srt l := fun {l} h => ⟨(h.ok hT).2.2.1, fun x hx => (hps.rng x ((h.ok hT).2.2.2 x hx)).1, (h.ok hT).1⟩
      have frn : KN fr ∨ True := .inr trivial
      have hcf : ∀ {l : List Int}, WS (loweredR rules) (insP ps num f) l → (contV fr (triOf l) = true ↔ ∃ t, t.Sublist l ∧ t ≠ [] ∧ t ≠ l ∧ triOf t ∈ fr.map (·.1)) := fun {l} h => cont_iff hK.tr (pos h).1 (pos h).2.2 (pos h).2.1
      rw [addT_keys, I.vm, hm]
      constructor
      · rintro (⟨l, a, rfl⟩ | ⟨a, b, c⟩)
        · exact ⟨l, (L1.min.1 a).1, rfl⟩
        · obtain ⟨l, q1, q2, rfl⟩ := (I.found hp hn h0 h1 t).1 ((hK.ks t).1 a)
          refine ⟨l, ⟨q1, fun u hu hs => Classical.byContradiction fun hne => ?_⟩, rfl⟩
          have hsub := srt_sub (pos hu).2.2 (pos q1).2.2 hs
          have hu1 : u ≠ [] := fun e => by have := (hu.ok hT).2.1; rw [e] at this; simp at this
          by_cases hnu : num ∈ u
          · have := (hcf q1).2 ⟨u, hsub, hu1, hne, (hK.ks _).2 ((I.found hp hn h0 h1 _).2 ⟨u, hu, hnu, rfl⟩)⟩
            rw [c] at this; cases this
          · obtain ⟨v, v1, v2⟩ := min_below hT u.length (Nat.le_refl _) (L1.ws.2 ⟨hu, hnu⟩)
            have v3 := L1.min.1 v1
            have hsub2 := srt_sub (pos v3.1.1).2.2 (pos q1).2.2 fun x hx => hs x (v2 x hx)
            have := (cont_iff I.vt (pos q1).1 (pos q1).2.2 (pos q1).2.1).2 ⟨v, hsub2, fun e => by have := (v1.1.ok hT).2.1; rw [e] at this; simp at this, fun e => v3.2 (e ▸ q2), (I.vm _).2 ⟨v, v1, rfl⟩⟩
            rw [b] at this; cases this
      · rintro ⟨l, q1, rfl⟩
        by_cases hnl : num ∈ l
        · right
          refine ⟨(hK.ks _).2 ((I.found hp hn h0 h1 _).2 ⟨l, q1.1, hnl, rfl⟩), ?_, ?_⟩
          · rw [← Bool.not_eq_true, cont_iff I.vt (pos q1.1).1 (pos q1.1).2.2 (pos q1.1).2.1]
            rintro ⟨u, u1, u2, u3, u4⟩
            obtain ⟨v, v1, v2⟩ := (I.vm _).1 u4
            have hv := (L1.min.1 v1).1.1
            have e : u = v := tri_inj (Nat.le_trans u1.length_le (pos q1.1).1) (fun x hx => (pos q1.1).2.1 x (u1.subset hx)) (pos hv).1 (pos hv).2.1 v2
            exact u3 (q1.2 u (e ▸ hv) fun x hx => u1.subset hx)
          · rw [← Bool.not_eq_true, hcf q1.1]
            rintro ⟨u, u1, u2, u3, u4⟩
            obtain ⟨v, v1, _, v2⟩ := (I.found hp hn h0 h1 _).1 ((hK.ks _).1 u4)
            have e : u = v := tri_inj (Nat.le_trans u1.length_le (pos q1.1).1) (fun x hx => (pos q1.1).2.1 x (u1.subset hx)) (pos v1).1 (pos v1).2.1 v2
            exact u3 (q1.2 u (e ▸ v1) fun x hx => u1.subset hx)
        · exact .inl ⟨l, L1.min.2 ⟨q1, hnl⟩, rfl⟩
omit I hp in
theorem hrem_keys {m : List (Int × Bool)} {num n : Int} (hk : KN m) : n ∈ (mrem m num).map (·.1) ↔ n ∈ m.map (·.1) ∧ n ≠ num := by
  simp only [List.mem_map]
  constructor
  · rintro ⟨p, a, rfl⟩; exact ⟨⟨p, ((mem_mrem hk).1 a).1, rfl⟩, ((mem_mrem hk).1 a).2⟩
  · rintro ⟨⟨p, a, rfl⟩, b⟩; exact ⟨p, (mem_mrem hk).2 ⟨a, b⟩, rfl⟩
omit I hp in
theorem hasS_del {κ : Type} [DecidableEq κ] {q : SetL κ} {k j : κ} {num n : Int} (hk : ∀ k, KN (sval q k).2) : hasS (hupd q k fun m => mrem m num) j n ↔ hasS q j n ∧ ¬ (j = k ∧ n = num) := by
  unfold hasS
  have := hval_hupd (dv := .map none) (dg := ([] : List (Int × Bool))) k j (fun m => mrem m num) rfl q
  rw [sval, this]
  by_cases e : j = k
  · subst e
    rw [if_pos rfl]
    simp only [true_and]
    exact hrem_keys (hk j)
  · rw [if_neg e]; simp [e]
omit I hp in
theorem del_KN {κ : Type} [DecidableEq κ] {q : SetL κ} {k : κ} {num : Int} (hk : ∀ k, KN (sval q k).2) (j : κ) : KN (sval (hupd q k fun m => mrem m num) j).2 := by
  have := hval_hupd (dv := .map none) (dg := ([] : List (Int × Bool))) k j (fun m => mrem m num) rfl q
  rw [sval, this]
  by_cases e : j = k
  · rw [if_pos e]; exact mrem_nodup (hk k) _
  · rw [if_neg e]; exact hk j
omit I hp in
theorem hasS_delS {num n : Int} {k : Gkey} : ∀ {pre : List Gkey} {q : SetL Gkey}, (∀ k, KN (sval q k).2) → (hasS (delS q pre num) k n ↔ hasS q k n ∧ ¬ (k ∈ pre ∧ n = num))
  | [], q, _ => by simp [delS]
  | a :: pre, q, hk => by
    have e : delS q (a :: pre) num = delS (hupd q a fun m => mrem m num) pre num := rfl
    rw [e, hasS_delS (del_KN hk), hasS_del hk]
    simp only [List.mem_cons]
    constructor
    · rintro ⟨⟨h1, h2⟩, h3⟩
      refine ⟨h1, ?_⟩
      rintro ⟨h | h, h4⟩
      · exact h2 ⟨h, h4⟩
      · exact h3 ⟨h, h4⟩
    · rintro ⟨h1, h2⟩
      exact ⟨⟨h1, fun q => h2 ⟨.inl q.1, q.2⟩⟩, fun q => h2 ⟨.inr q.1, q.2⟩⟩
theorem VInv.drop (hke : ∀ e, KN (sval s.ent e).2) (hki : ∀ k, KN (sval s.idx k).2) {num : Int} {s' : VS} {e : Int} (h : DropR s num s' e) : e = dropE ps num ∧ VInv rules s' (remP ps num) w := by
  cases h with
  | none h =>
    have hn : num ∉ nsP ps := fun q => by rw [(I.some_iff hp).2 q] at h; cases h
    refine ⟨by rw [dropE, if_neg hn], ?_⟩
    rw [remP_no hn]; exact I
  | ok vio h hk hm =>
    have hn := (I.some_iff hp).1 h
    refine ⟨by rw [dropE, if_pos hn], ?_⟩
    have hf : (num, factAt s num) ∈ ps := by
      rw [I.fact hp]
      rcases ns_some hn with q | q
      · exact q
      · exact q.elim
    have uniq : ∀ {y}, (num, y) ∈ ps → y = factAt s num := fun {y} hy => by rw [I.fact hp, fO_iff hp hy]
    have L1 := Less1.rem (n := num) hp
    have h0 := (hp.rng num hn).1
    have hT := lowT3 rules
    have hmn : ∀ {l : List Int}, MinW (loweredR rules) ps l → (num ∈ (triOf l).l ↔ num ∈ l) := fun {l} hl => tri_mem (hl.1.ok hT).2.2.1 h0
    refine { rl := I.rl, pr := I.pr, pt := I.pt, fn := mrem_nodup I.fn _, fm := fun p => ?_, en := fun e n => ?_, ix := fun k n => ?_, vn := hk, vt := fun p hp' => I.vt p ((hm p).1 hp').1, vm := fun t => ?_, wk := I.wk }
    · rw [mem_mrem I.fn, mem_remP, I.fm]
    · rw [hasS_del hke, I.en]
      constructor
      · rintro ⟨⟨y, a, b⟩, c⟩
        refine ⟨y, mem_remP.2 ⟨a, fun q => c ⟨?_, q⟩⟩, b⟩
        have q : n = num := q
        subst q
        rw [← uniq a]; exact b.symm
      · rintro ⟨y, a, b⟩
        obtain ⟨a1, a2⟩ := mem_remP.1 a
        exact ⟨⟨y, a1, b⟩, fun q => a2 q.2⟩
    · show hasS (delS s.idx _ num) k n ↔ _
      rw [hasS_delS hki, I.ix]
      constructor
      · rintro ⟨⟨y, a, b⟩, c⟩
        refine ⟨y, mem_remP.2 ⟨a, fun q => c ⟨?_, q⟩⟩, b⟩
        have q : n = num := q
        subst q
        rw [← uniq a]; exact b
      · rintro ⟨y, a, b⟩
        obtain ⟨a1, a2⟩ := mem_remP.1 a
        exact ⟨⟨y, a1, b⟩, fun q => a2 q.2⟩
    · have e : t ∈ vio.map (·.1) ↔ t ∈ s.vio.map (·.1) ∧ num ∉ t.l := by
        simp only [List.mem_map]
        constructor
        · rintro ⟨p, a, rfl⟩; exact ⟨⟨p, ((hm p).1 a).1, rfl⟩, ((hm p).1 a).2⟩
        · rintro ⟨⟨p, a, rfl⟩, b⟩; exact ⟨p, (hm p).2 ⟨a, b⟩, rfl⟩
      show t ∈ vio.map (·.1) ↔ _
      rw [e, I.vm]
      constructor
      · rintro ⟨⟨l, a, rfl⟩, b⟩
        exact ⟨l, L1.min.2 ⟨a, fun q => b ((hmn a).2 q)⟩, rfl⟩
      · rintro ⟨l, a, rfl⟩
        obtain ⟨a1, a2⟩ := L1.min.1 a
        exact ⟨⟨l, a1, rfl⟩, fun q => a2 ((hmn a1).1 q)⟩
/-- What Violations returns. -/
theorem VInv.list (H : VHyp rules (gsP ps)) {ys : List (List Int)} (h1 : ys.Perm (s.vio.map fun p => memM p.1)) (h2 : ys.Pairwise fun a b => ltOf cmpL b a = false) : ys = vioN rules ps := by
  have hT := lowT3 rules
  have pos : ∀ {l : List Int}, MinW (loweredR rules) ps l → l.length ≤ 3 ∧ (∀ x ∈ l, 0 ≤ x) := fun {l} h => ⟨(h.1.ok hT).2.2.1, fun x hx => (hp.rng x ((h.1.ok hT).2.2.2 x hx)).1⟩
  have hmem : ∀ l, l ∈ (s.vio.map fun p => memM p.1) ↔ MinW (loweredR rules) ps l := fun l => by
    have e : (s.vio.map fun p => memM p.1) = (s.vio.map (·.1)).map memM := by rw [List.map_map]; rfl
    rw [e, List.mem_map]
    constructor
    · rintro ⟨t, a, rfl⟩
      obtain ⟨m, b, rfl⟩ := (I.vm t).1 a
      rw [memM_tri (pos b).1 (pos b).2]; exact b
    · intro a
      exact ⟨_, (I.vm _).2 ⟨l, a, rfl⟩, memM_tri (pos a).1 (pos a).2⟩
  have hnd : (s.vio.map fun p => memM p.1).Nodup := by
    have e : (s.vio.map fun p => memM p.1) = (s.vio.map (·.1)).map memM := by rw [List.map_map]; rfl
    rw [e]
    refine List.pairwise_map.2 (List.Pairwise.imp_of_mem ?_ I.vn)
    intro a b ha hb hab he
    obtain ⟨m, m1, rfl⟩ := (I.vm a).1 ha
    obtain ⟨k, k1, rfl⟩ := (I.vm b).1 hb
    rw [memM_tri (pos m1).1 (pos m1).2, memM_tri (pos k1).1 (pos k1).2] at he
    exact hab (he ▸ rfl)
  have hyn := h1.nodup_iff.2 hnd
  have hst : Strict ys := (h2.and hyn).imp fun {a b} h => by
    have h3 := h.1
    simp only [ltOf, decide_eq_false_iff_not] at h3
    have := cmpL_anti a b
    have h5 : cmpL a b ≠ 0 := fun e => h.2 (cmpL_zero a b e)
    omega
  exact strict_ext hst (vioN_strict hp H) fun l => by rw [h1.mem_iff, hmem, mem_vioN hp H]
end
open Go Go.Proofs Go.Proofs.Tryz
abbrev pos3 (i k m : Nat) : Nat := (i * 13 + k) * 13 + m
abbrev set3 (s i k m : Nat) : List Int := ([(i : Int), (k : Int), (m : Int)] : List Int).take s
theorem set3_len {s i k m : Nat} (hs : s ≤ 3) : (set3 s i k m).length = s := by simp [set3]; omega
def okS (rules : List GRule) (facts : List GFact) (s i k m : Nat) : Prop := ¬ (s < 3 ∧ k < m ∨ s < 2 ∧ i < k) ∧ set3 s i k m ∈ vioM rules facts
structure FnP (rules : List GRule) (facts : List GFact) (s : Nat) (F : List (List Int)) (i k m : Nat) : Prop where
  nd : F.Nodup
  len : F.length ≤ pos3 i k m
  mem : ∀ x, x ∈ F ↔ ∃ i' k' m', i' ≤ k' ∧ k' ≤ m' ∧ m' < facts.length ∧ pos3 i' k' m' < pos3 i k m ∧ okS rules facts s i' k' m' ∧ x = set3 s i' k' m'
theorem set3_inj {rules : List GRule} {facts : List GFact} {s i k m i' k' m' : Nat} (h1 : 1 ≤ s) (h3 : s ≤ 3) (a1 : i ≤ k) (a2 : k ≤ m) (b1 : i' ≤ k') (b2 : k' ≤ m') (ha : okS rules facts s i k m) (hb : okS rules facts s i' k' m') (e : set3 s i k m = set3 s i' k' m') : i' = i ∧ k' = k ∧ m' = m := by
  have ha := ha.1
  have hb := hb.1
  have : s = 1 ∨ s = 2 ∨ s = 3 := by omega
  rcases this with rfl | rfl | rfl
  · simp [set3] at e; omega
  · simp [set3] at e; omega
  · simp [set3] at e; omega
theorem pos_K {i k n i' k' m' : Nat} (hn : n ≤ 12) (hk : k < n) (hi : i ≤ k) (q1 : i' ≤ k') (q2 : k' ≤ m') (q3 : m' < n) : pos3 i' k' m' < pos3 i k n ↔ pos3 i' k' m' < pos3 i (k + 1) (k + 1) := by
  simp only [pos3]
  rcases Nat.lt_trichotomy i' i with h | h | h
  · omega
  · subst h
    rcases Nat.lt_trichotomy k' k with h | h | h
    · omega
    · subst h; omega
    · omega
  · omega
theorem pos_I {i n i' k' m' : Nat} (hn : n ≤ 12) (hi : i < n) (q1 : i' ≤ k') (q2 : k' ≤ m') (q3 : m' < n) : pos3 i' k' m' < pos3 i n n ↔ pos3 i' k' m' < pos3 (i + 1) (i + 1) (i + 1) := by
  simp only [pos3]
  rcases Nat.lt_trichotomy i' i with h | h | h
  · omega
  · omega
  · omega
theorem pos_M {i k m n i' k' m' : Nat} (hn : n ≤ 12) (hk : k ≤ m) (hm : m < n) (hi : i ≤ k) (q1 : i' ≤ k') (q2 : k' ≤ m') (q3 : m' < n) : pos3 i' k' m' < pos3 i k (m + 1) ↔ pos3 i' k' m' < pos3 i k m ∨ i' = i ∧ k' = k ∧ m' = m := by
  simp only [pos3]
  omega
section
variable {rules : List GRule} {facts : List GFact} {s : Nat} {F : List (List Int)} {i k m : Nat}
theorem FnP.start : FnP rules facts s [] 0 0 0 where
  nd := List.nodup_nil
  len := Nat.zero_le _
  mem := fun x => ⟨fun h => (by cases h), fun ⟨i', k', m', _, _, _, h, _⟩ => by simp only [pos3] at h; omega⟩
theorem FnP.move {i2 k2 m2 : Nat} (h : FnP rules facts s F i k m) (hp : pos3 i k m ≤ pos3 i2 k2 m2) (he : ∀ i' k' m', i' ≤ k' → k' ≤ m' → m' < facts.length → okS rules facts s i' k' m' → (pos3 i' k' m' < pos3 i k m ↔ pos3 i' k' m' < pos3 i2 k2 m2)) : FnP rules facts s F i2 k2 m2 where
  nd := h.nd
  len := Nat.le_trans h.len hp
  mem := fun x => by
    rw [h.mem]
    refine exists_congr fun i' => exists_congr fun k' => exists_congr fun m' => ?_
    constructor
    · rintro ⟨q1, q2, q3, q4, q5, q6⟩
      exact ⟨q1, q2, q3, (he _ _ _ q1 q2 q3 q5).1 q4, q5, q6⟩
    · rintro ⟨q1, q2, q3, q4, q5, q6⟩
      exact ⟨q1, q2, q3, (he _ _ _ q1 q2 q3 q5).2 q4, q5, q6⟩
theorem FnP.toK (h : FnP rules facts s F i k m) (hn : facts.length ≤ 12) (hi : i ≤ k) (hk : k < facts.length) (hm : m = facts.length) : FnP rules facts s F i (k + 1) (k + 1) := by
  subst hm
  exact h.move (by simp only [pos3]; omega) fun i' k' m' q1 q2 q3 _ => pos_K hn hk hi q1 q2 q3
theorem FnP.toI (h : FnP rules facts s F i k k) (hn : facts.length ≤ 12) (hi : i < facts.length) (hk : k = facts.length) : FnP rules facts s F (i + 1) (i + 1) (i + 1) := by
  subst hk
  exact h.move (by simp only [pos3]; omega) fun i' k' m' q1 q2 q3 _ => pos_I hn hi q1 q2 q3
theorem FnP.skip (h : FnP rules facts s F i k m) (hn : facts.length ≤ 12) (hi : i ≤ k) (hk : k ≤ m) (hm : m < facts.length) (hno : ¬ okS rules facts s i k m) : FnP rules facts s F i k (m + 1) :=
  h.move (by simp only [pos3]; omega) fun i' k' m' q1 q2 q3 q4 => by
    rw [pos_M hn hk hm hi q1 q2 q3]
    constructor
    · exact .inl
    · rintro (q | ⟨rfl, rfl, rfl⟩)
      · exact q
      · exact absurd q4 hno
theorem FnP.add (h : FnP rules facts s F i k m) (h1 : 1 ≤ s) (h3 : s ≤ 3) (hn : facts.length ≤ 12) (hi : i ≤ k) (hk : k ≤ m) (hm : m < facts.length) (hok : okS rules facts s i k m) : FnP rules facts s (F ++ [set3 s i k m]) i k (m + 1) where
  nd := by
    refine List.nodup_append.2 ⟨h.nd, by simp, fun x hx y hy e => ?_⟩
    rw [List.mem_singleton.1 hy] at e
    subst e
    obtain ⟨i', k', m', q1, q2, q3, q4, q5, q6⟩ := (h.mem _).1 hx
    obtain ⟨rfl, rfl, rfl⟩ := set3_inj h1 h3 hi hk q1 q2 hok q5 q6
    omega
  len := by have := h.len; simp only [List.length_append, List.length_singleton, pos3] at *; omega
  mem := fun x => by
    rw [List.mem_append, List.mem_singleton, h.mem]
    constructor
    · rintro (⟨i', k', m', q1, q2, q3, q4, q5, q6⟩ | rfl)
      · exact ⟨i', k', m', q1, q2, q3, by simp only [pos3] at *; omega, q5, q6⟩
      · exact ⟨i, k, m, hi, hk, hm, by simp only [pos3]; omega, hok, rfl⟩
    · rintro ⟨i', k', m', q1, q2, q3, q4, q5, q6⟩
      rcases (pos_M hn hk hm hi q1 q2 q3).1 q4 with q | ⟨rfl, rfl, rfl⟩
      · exact .inl ⟨i', k', m', q1, q2, q3, q, q5, q6⟩
      · exact .inr q6
end
structure SmP (rules : List GRule) (facts : List GFact) (s : Nat) (small : List (List Int)) : Prop where
  nd : small.Nodup
  len : small.length ≤ (s - 1) * 3000
  mem : ∀ x, x ∈ small ↔ x ∈ vioM rules facts ∧ x.length < s
section
variable {rules : List GRule} {facts : List GFact} {s : Nat} {small F : List (List Int)} {i k m : Nat}
theorem SmP.start (H : VHyp rules facts) : SmP rules facts 1 [] where
  nd := List.nodup_nil
  len := Nat.zero_le _
  mem := fun x => ⟨fun h => (by cases h), fun ⟨h1, h2⟩ => by
    exfalso
    have := (vio_w H h1).2.1
    have : x = [] := List.length_eq_zero_iff.1 (by omega)
    contradiction⟩
theorem SmP.le3 (h : SmP rules facts s small) (H : VHyp rules facts) : ∀ x ∈ small, x.length ≤ 3 := fun x hx => (vio_w H ((h.mem x).1 hx).1).2.2.1
/-- A violation as a triple. -/
theorem vio_triple (H : VHyp rules facts) {x : List Int} (hx : x ∈ vioM rules facts) : ∃ i' k' m', i' ≤ k' ∧ k' ≤ m' ∧ m' < facts.length ∧ okS rules facts x.length i' k' m' ∧ x = set3 x.length i' k' m' := by
  obtain ⟨_, h1, h2, h3, h4⟩ := vio_w H hx
  match x, h1, h2, h3, h4, hx with
  | [], h1, _, _, _, _ => exact absurd rfl h1
  | [a], _, _, _, h4, hx =>
    have := h4 a (by simp)
    have e : a = ((a.toNat : Nat) : Int) := by omega
    refine ⟨a.toNat, a.toNat, a.toNat, Nat.le_refl _, Nat.le_refl _, by omega, ⟨by simp, ?_⟩, ?_⟩
    · show [((a.toNat : Nat) : Int)] ∈ _; rw [← e]; exact hx
    · show [a] = [((a.toNat : Nat) : Int)]; rw [← e]
  | [a, b], _, _, h3, h4, hx =>
    have ha := h4 a (by simp)
    have hb := h4 b (by simp)
    have hab : a < b := by simpa [Srt] using h3
    have e : a = ((a.toNat : Nat) : Int) := by omega
    have e2 : b = ((b.toNat : Nat) : Int) := by omega
    refine ⟨a.toNat, b.toNat, b.toNat, by omega, Nat.le_refl _, by omega, ⟨by simp, ?_⟩, ?_⟩
    · show [((a.toNat : Nat) : Int), ((b.toNat : Nat) : Int)] ∈ _; rw [← e, ← e2]; exact hx
    · show [a, b] = [((a.toNat : Nat) : Int), ((b.toNat : Nat) : Int)]; rw [← e, ← e2]
  | [a, b, c], _, _, h3, h4, hx =>
    have ha := h4 a (by simp)
    have hb := h4 b (by simp)
    have hc := h4 c (by simp)
    have hab : (a < b ∧ a < c) ∧ b < c := by simpa [Srt] using h3
    have e : a = ((a.toNat : Nat) : Int) := by omega
    have e2 : b = ((b.toNat : Nat) : Int) := by omega
    have e3 : c = ((c.toNat : Nat) : Int) := by omega
    refine ⟨a.toNat, b.toNat, c.toNat, by omega, by omega, by omega, ⟨by simp, ?_⟩, ?_⟩
    · show [((a.toNat : Nat) : Int), ((b.toNat : Nat) : Int), ((c.toNat : Nat) : Int)] ∈ _; rw [← e, ← e2, ← e3]; exact hx
    · show [a, b, c] = [((a.toNat : Nat) : Int), ((b.toNat : Nat) : Int), ((c.toNat : Nat) : Int)]; rw [← e, ← e2, ← e3]
  | a :: b :: c :: d :: t, _, h2, _, _, _ => exact absurd h2 (by simp)
theorem SmP.next (h : SmP rules facts s small) (H : VHyp rules facts) (h1 : 1 ≤ s) (h3 : s ≤ 3) (hn : facts.length ≤ 12) (hF : FnP rules facts s F i i i) (hi : i = facts.length) : SmP rules facts (s + 1) (small ++ F) := by
  have hm : ∀ x, x ∈ F ↔ x ∈ vioM rules facts ∧ x.length = s := fun x => by
    rw [hF.mem]
    constructor
    · rintro ⟨i', k', m', q1, q2, q3, q4, q5, rfl⟩
      exact ⟨q5.2, set3_len h3⟩
    · rintro ⟨q1, q2⟩
      obtain ⟨i', k', m', a1, a2, a3, a4, a5⟩ := vio_triple H q1
      rw [q2] at a4 a5
      exact ⟨i', k', m', a1, a2, a3, by subst hi; simp only [pos3]; omega, a4, a5⟩
  refine ⟨List.nodup_append.2 ⟨h.nd, hF.nd, fun x hx y hy e => ?_⟩, ?_, fun x => ?_⟩
  · subst e
    have := ((h.mem x).1 hx).2
    have := ((hm x).1 hy).2
    omega
  · have a := h.len
    have b := hF.len
    simp only [List.length_append, pos3] at *
    have : (i * 13 + i) * 13 + i ≤ 3000 := by omega
    have : (s + 1 - 1) * 3000 = (s - 1) * 3000 + 3000 := by omega
    omega
  · rw [List.mem_append, h.mem, hm]
    constructor
    · rintro (⟨q1, q2⟩ | ⟨q1, q2⟩)
      · exact ⟨q1, by omega⟩
      · exact ⟨q1, by omega⟩
    · rintro ⟨q1, q2⟩
      by_cases e : x.length = s
      · exact .inr ⟨q1, e⟩
      · exact .inl ⟨q1, by omega⟩
theorem SmP.perm (h : SmP rules facts s small) (H : VHyp rules facts) (hs : s = 4) : small.Perm (vioM rules facts) := by
  refine (List.perm_ext_iff_of_nodup h.nd (minM_nodup _)).2 fun x => ?_
  rw [h.mem]
  exact ⟨fun q => q.1, fun q => ⟨q, by have := (vio_w H q).2.2.1; omega⟩⟩
theorem vio_sorted (rules : List GRule) (facts : List GFact) : sortL (vioM rules facts) = vioM rules facts := by
  refine sortedL_unique (sortL_perm _) (sortL_sorted _) ?_
  show (minM _).Pairwise _
  exact sortL_sorted _
theorem SmP.done (h : SmP rules facts s small) (H : VHyp rules facts) (hs : s = 4) : sortL small = vioM rules facts := by
  rw [← vio_sorted rules facts]
  exact sortedL_unique ((sortL_perm _).trans ((h.perm H hs).trans (sortL_perm _).symm)) (sortL_sorted _) (sortL_sorted _)
abbrev hasB (l : List (List Int)) (set : List Int) : Bool := l.any fun b => b.all fun x => set.contains x
theorem hasB_f {l : List (List Int)} {set : List Int} : hasB l set = false ↔ ∀ y ∈ l, ¬ ∀ z ∈ y, z ∈ set := by
  rw [← Bool.not_eq_true]
  simp only [hasB, List.any_eq_true, List.all_eq_true, List.contains_iff_mem, not_exists, not_and]
theorem SmP.iff (h : SmP rules facts s small) (H : VHyp rules facts) (h1 : 1 ≤ s) (h3 : s ≤ 3) (hset : isSet (set3 s i k m) facts.length = true) : (hasB small (set3 s i k m) = false ∧ goodM rules facts (set3 s i k m) = false) ↔ set3 s i k m ∈ vioM rules facts := by
  obtain ⟨s', rfl⟩ : ∃ s', s = s' + 1 := ⟨s - 1, by omega⟩
  rw [← vio_size H hset (set3_len h3), hasB_f]
  constructor
  · rintro ⟨q1, q2⟩; exact ⟨fun y hy hl => q1 y ((h.mem y).2 ⟨hy, by omega⟩), q2⟩
  · rintro ⟨q1, q2⟩; exact ⟨fun y hy => q1 y ((h.mem y).1 hy).1 (by have := ((h.mem y).1 hy).2; omega), q2⟩
theorem SmP.no (h : SmP rules facts s small) (H : VHyp rules facts) (h1 : 1 ≤ s) (h3 : s ≤ 3) (hc : ((((s : Int) < 3 ∧ (k : Int) < m ∨ (s : Int) < 2 ∧ (i : Int) < k) ∨ isSet (set3 s i k m) facts.length = false) ∨ hasB small (set3 s i k m) = true) ∨ goodM rules facts (set3 s i k m) = true) : ¬ okS rules facts s i k m := by
  rintro ⟨q1, q2⟩
  have hset : isSet (set3 s i k m) facts.length = true := isSet_iff.2 ⟨(vio_w H q2).2.2.2.1, (vio_w H q2).2.2.2.2⟩
  obtain ⟨a, b⟩ := (h.iff H h1 h3 hset).2 q2
  rw [hset, a, b] at hc
  simp at hc
  omega
theorem SmP.yes (h : SmP rules facts s small) (H : VHyp rules facts) (h1 : 1 ≤ s) (h3 : s ≤ 3) (hc : ((¬ ((s : Int) < 3 ∧ (k : Int) < m ∨ (s : Int) < 2 ∧ (i : Int) < k) ∧ isSet (set3 s i k m) facts.length = true) ∧ hasB small (set3 s i k m) = false) ∧ goodM rules facts (set3 s i k m) = false) : okS rules facts s i k m :=
  ⟨by omega, (h.iff H h1 h3 hc.1.1.2).1 ⟨hc.1.2, hc.2⟩⟩
end
open Go Go.Proofs Go.Proofs.Tryz
theorem has_spec (l : List (List Int)) (set : List Int) (hl : l.length ≤ 1000000000000) (hs : set.length ≤ 1000000000000) (hle : ∀ x ∈ l, x.length ≤ 1000000000000) : Fun1 prog 56 [tSl (rSl rInt) l, tSl rInt set] (tV (.bool (l.any fun b => b.all fun x => set.contains x))) := by
 refine Spec.enter func56 rfl rfl fun h0 w0 fr0 => ?_
 refine Jr (Ja rfl (JL_nil (J_seq (Jr (Ja rfl ?_)))))
 refine JL_nil (J_block ?_)
 refine J_loopL (σ := Nat) (fun i => i ≤ l.length ∧ (l.any fun b => b.all fun x => set.contains x) = (l.drop i).any fun b => b.all fun x => set.contains x) (fun i => upd (upd (upd env0 0 (tSl (rSl rInt) l)) 1 (tSl rInt set)) 5 (tV (.int .i64 i))) (fun i => []) (fun i => l.length - i) 0 ⟨by omega, by simp⟩ (zU) (LSub.rfl) ?_
 rintro i ⟨hi, hv⟩
 refine J_seq (Jr (Jm rfl (Jm rfl (Js rfl (step_len_sl underlying45 Sr) (Js rfl (step_lss Sr Sr) ?_)))))
 refine JL_nil ?_
 refine J_cond Sr (fun h9 => ?_) (fun h9 => ?_)
 ·
  try simp only [NF] at h9
  have hlt : i < l.length := by omega
  have hd := dropB hlt
  refine J_skip (J_seq (J_block (Jr (Jm rfl (Jm rfl ?_)))))
  refine Jm rfl ?_
  refine Js rfl (step_indexAddr_sl  underlying45 ty33 Sr Sr rfl (gb (by first | assumption | omega))) ?_
  refine Jl rfl ty33 Sr (Js rfl (step_call0 (Contains_spec _ _ hs (hle _ (nth_mem hlt))) ⟨Sr, Sr, trivial⟩ call74) (JL_nil ?_))
  refine J_cond Sr (fun h17 => ?_) (fun h17 => ?_)
  ·
   try simp only [NF] at h17
   skip
   refine Jr (Ja rfl (JL_nil (J_ret ?_)))
   refine K_ret1 (t := 4) rfl () ?_
   refine Sub.bool ?_
   rw [hv, hd, List.any_cons, h17]; rfl
  try simp only [NF] at h17
  refine J_skip (J_region (Jm rfl (Js rfl (step_add Sr Sr z6) (Ja rfl (JL_nil ?_)))))
  refine K_againL (σ := Nat) (s := i) (i + 1) zO ?_ (zU) (LSub.rfl)
  refine ⟨by omega, ?_⟩
  rw [hv, hd, List.any_cons, h17, Bool.false_or]
 try simp only [NF] at h9
 refine J_exit (Jr (Ja rfl (JL_nil (J_ret ?_))))
 refine K_ret1 (t := 4) rfl () ?_
 refine Sub.bool ?_
 rw [hv, List.drop_of_length_le zG]; rfl
open Go Go.Proofs Go.Proofs.Tryz
abbrev leL (a b : List Int) : Prop := cmpL a b ≤ 0
theorem leL_trans {a b c : List Int} (h1 : leL a b) (h2 : leL b c) : leL a c := (cmpL_trans a b c h1 h2).1
theorem leL_not {a b : List Int} (h : ltL a b = false) : leL b a := by
  have h1 : ¬ cmpL a b < 0 := fun q => by rw [(ltL_iff a b).2 q] at h; cases h
  have := cmpL_anti a b
  show cmpL b a ≤ 0
  omega
theorem leL_of {a b : List Int} (h : ltL a b = true) : leL a b := by
  have := (ltL_iff a b).1 h
  show cmpL a b ≤ 0
  omega
def swapL (out : List (List Int)) (k : Nat) : List (List Int) := (out.set k (nth out (k - 1))).set (k - 1) (nth out k)
theorem swap_perm {out : List (List Int)} {k : Nat} (h0 : 0 < k) (hk : k < out.length) : (swapL out k).Perm out := by
  unfold swapL
  rw [nth_get hk, nth_get (show k - 1 < out.length by omega)]
  exact List.set_set_perm hk (by omega)
theorem swap_nth {out : List (List Int)} {k j : Nat} (h0 : 0 < k) (hk : k < out.length) (hj : j < out.length) : nth (swapL out k) j = if j = k - 1 then nth out k else if j = k then nth out (k - 1) else nth out j := by
  unfold swapL
  rw [nth_set (by simpa using hj), nth_set hj]
  by_cases e1 : k - 1 = j
  · subst e1; simp
  · rw [if_neg e1, if_neg (Ne.symm e1)]
    by_cases e2 : k = j
    · subst e2; simp
    · rw [if_neg e2, if_neg (Ne.symm e2)]
def sInv (l out : List (List Int)) (i : Nat) : Prop := out.Perm l ∧ ∀ a b, a < b → b < i → b < out.length → leL (nth out a) (nth out b)
def kInv (l out : List (List Int)) (i k : Nat) : Prop := out.Perm l ∧ k ≤ i ∧ i < out.length ∧ ∀ a b, a < b → b ≤ i → b ≠ k → leL (nth out a) (nth out b)
theorem kInv_start {l out : List (List Int)} {i : Nat} (h : sInv l out i) (hi : i < out.length) : kInv l out i i := ⟨h.1, Nat.le_refl _, hi, fun a b h1 h2 h3 => h.2 a b h1 (by omega) (by omega)⟩
theorem kInv_step {l out : List (List Int)} {i k : Nat} (h : kInv l out i k) (h0 : 0 < k) (hlt : ltL (nth out k) (nth out (k - 1)) = true) : kInv l (swapL out k) i (k - 1) := by
  obtain ⟨h1, h2, h3, h4⟩ := h
  have hk : k < out.length := by omega
  have hp := swap_perm h0 hk
  refine ⟨hp.trans h1, by omega, by rw [hp.length_eq]; exact h3, fun a b q1 q2 q3 => ?_⟩
  rw [swap_nth h0 hk (show a < _ by omega), swap_nth h0 hk (show b < _ by omega)]
  by_cases eb : b = k
  · subst eb
    rw [if_neg (show ¬ b = b - 1 by omega), if_pos rfl]
    by_cases ea : a = b - 1
    · rw [if_pos ea]; exact leL_of hlt
    · rw [if_neg ea, if_neg (by omega)]; exact h4 a (b - 1) (by omega) (by omega) (by omega)
  · rw [if_neg q3, if_neg eb]
    by_cases ea : a = k - 1
    · rw [if_pos ea]; exact h4 k b (by omega) q2 eb
    · rw [if_neg ea]
      by_cases ea2 : a = k
      · rw [if_pos ea2]; exact h4 (k - 1) b (by omega) q2 eb
      · rw [if_neg ea2]; exact h4 a b q1 q2 eb
theorem kInv_end {l out : List (List Int)} {i k : Nat} (h : kInv l out i k) (hs : ¬ 0 < k ∨ ltL (nth out k) (nth out (k - 1)) = false) : sInv l out (i + 1) := by
  obtain ⟨h1, h2, h3, h4⟩ := h
  refine ⟨h1, fun a b q1 q2 q3 => ?_⟩
  by_cases eb : b = k
  · subst eb
    rcases hs with hs | hs
    · omega
    · have h5 := leL_not hs
      by_cases ea : a = b - 1
      · rw [ea]; exact h5
      · exact leL_trans (h4 a (b - 1) (by omega) (by omega) (by omega)) h5
  · exact h4 a b q1 (by omega) eb
theorem sInv_done {l out : List (List Int)} {i : Nat} (h : sInv l out i) (hi : out.length ≤ i) : out = sortL l := by
  refine sortedL_unique (h.1.trans (sortL_perm l).symm) ?_ (sortL_sorted l)
  refine List.pairwise_iff_getElem.2 fun a b ha hb hab => ?_
  have := h.2 a b hab (by omega) hb
  rw [nth_get ha, nth_get hb] at this
  have h2 := cmpL_anti out[a] out[b]
  have this : cmpL out[a] out[b] ≤ 0 := this
  simp only [ltOf, decide_eq_false_iff_not]
  omega
theorem Sorted__spec (l : List (List Int)) (hl : l.length ≤ 1000000) (hle : ∀ x ∈ l, x.length ≤ 1000000000000) : Fun1 prog 58 [tSl (rSl rInt) l] (tSl (rSl rInt) (sortL l)) := by
 refine Spec.enter func58 rfl rfl fun h0 w0 fr0 => ?_
 refine Jr (Ja rfl (JL_nil (Jr ?_)))
 refine Jx rfl (step_literal_own (ys := []) underlying45 el33 trivial rfl (by decide)) fun v7 => ?_
 refine Jm rfl ?_
 refine Jx rfl (step_append underlying45 el33 Sr Sr zS (by simp; omega) (by simp; omega)) fun v9 => ?_
 refine Ja rfl (JL_nil (J_seq (Jr (Ja rfl (JL_nil ?_)))))
 refine J_block ?_
 refine J_loopL (σ := Nat × List (List Int)) (fun ⟨i, out⟩ => 1 ≤ i ∧ sInv l out i) (fun ⟨i, out⟩ => upd (upd (upd env0 2 (tV (.slice none 0 0))) 3 (rV.ty v9)) 4 (tV (.int .i64 i))) (fun ⟨i, out⟩ => [own 33 (rSl rInt) v9 out]) (fun ⟨i, out⟩ => l.length - i) (1, l) ⟨by omega, List.Perm.refl _, fun a b h1 h2 _ => by omega⟩ (zU) (.c zS (own_eq (by simp)) (LSub.nil)) ?_
 rintro ⟨i, out⟩ ⟨hi, hv⟩
 have hol := hv.1.length_eq
 refine J_seq (Jr (Jm rfl (Jm rfl ?_)))
 refine Js rfl (step_len_own underlying45 Sr zS) ?_
 refine Js rfl (step_lss Sr Sr) (JL_nil ?_)
 refine J_cond Sr (fun h13 => ?_) (fun h13 => ?_)
 ·
  try simp only [NF] at h13
  have hlt : i < out.length := by omega
  refine J_skip (J_seq (J_block (Jr (Jm rfl (Ja rfl ?_)))))
  refine JL_nil (J_block ?_)
  refine J_loopL (σ := Nat × List (List Int)) (fun ⟨k, out2⟩ => kInv l out2 i k) (fun ⟨k, out2⟩ => upd (upd (upd (upd (upd (upd (upd env0 2 (tV (.slice none 0 0))) 3 (rV.ty v9)) 4 (tV (.int .i64 i))) 5 (tV (.int .i64 k))) 10 (tV (.int .i64 i))) 11 (rV.ty v9)) 16 (tV (.int .i64 i))) (fun ⟨k, out2⟩ => [own 33 (rSl rInt) v9 out2]) (fun ⟨k, out2⟩ => k) (i, out) (kInv_start hv hlt) (zU) (LSub.rfl) ?_
  rintro ⟨k, out2⟩ hk
  try dsimp only at hk
  refine J_seq (J_seq ?_)
  have hkl : k < out2.length := by have := hk.2.1; have := hk.2.2.1; omega
  have hb2 : ∀ j, j < out2.length → (nth out2 j).length ≤ 1000000000000 := fun j hj => hle _ (hk.1.mem_iff.1 (nth_mem hj))
  have hol2 := hk.1.length_eq
  refine J_drawN [⟨0, [5], true⟩, ⟨1, [17], true⟩, ⟨2, [18], true⟩, ⟨3, [3, 19], true⟩, ⟨4, [5, 19], true⟩, ⟨7, [3, 19], true⟩, ⟨8, [5, 19], true⟩, ⟨9, [19, 25], true⟩, ⟨5, [19, 20, 21], true⟩, ⟨6, [19, 22], true⟩, ⟨10, [19, 24, 26], true⟩, ⟨11, [19, 27], true⟩, ⟨12, [19, 23, 28], true⟩, ⟨13, [19, 29], true⟩] rfl (by kernel_rfl) rfl ?_
  refine JN_step rfl rfl rfl rfl (step_move Sr) ?_
  refine JN_step rfl rfl rfl rfl (step_gtr Sr Sr) ?_
  refine JN_step rfl rfl rfl rfl (step_move Sr) ?_
  refine JN_stepG rfl rfl rfl rfl (Gd.plain Sr) rfl rfl (fun hw => step_move Sr) ?_
  refine JN_stepG rfl rfl rfl rfl (Gd.plain Sr) rfl rfl (fun hw => step_move Sr) ?_
  refine JN_stepG rfl rfl rfl rfl (Gd.plain Sr) rfl rfl (fun hw => step_move Sr) ?_
  refine JN_stepG rfl rfl rfl rfl (Gd.plain Sr) rfl rfl (fun hw => step_move Sr) ?_
  refine JN_stepG rfl rfl rfl rfl (Gd.plain Sr) rfl rfl (fun hw => step_sub (Sub.w hw) Sr (by have hwq := hw; (try simp only [beqB_t, beqB_f, NF] at hwq); unfold in64; omega)) ?_
  refine JN_stepG rfl rfl rfl rfl (Gd.plain Sr) rfl rfl (fun hw => step_indexAddr_own  underlying45 ty33 (Sub.w hw) zS (Sub.w hw) rfl (by have hwq := hw; (try simp only [beqB_t, beqB_f, NF] at hwq); omega)) ?_
  refine JN_stepG rfl rfl rfl rfl (Gd.plain Sr) rfl rfl (fun hw => step_load_own ty33 (Sub.w hw) zS (gb (by have hwq := hw; (try simp only [beqB_t, beqB_f, NF] at hwq); omega))) ?_
  refine JN_stepG rfl rfl rfl rfl (Gd.plain Sr) rfl rfl (fun hw => step_indexAddr_own (i := k - 1) underlying45 ty33 (Sub.w hw) zS (Sub.w hw) (by have hwq := hw; (try simp only [beqB_t, beqB_f, NF] at hwq); omega) (by have hwq := hw; (try simp only [beqB_t, beqB_f, NF] at hwq); omega)) ?_
  refine JN_stepG rfl rfl rfl rfl (Gd.plain Sr) rfl rfl (fun hw => step_load_own ty33 (Sub.w hw) zS (gb (by have hwq := hw; (try simp only [beqB_t, beqB_f, NF] at hwq); omega))) ?_
  refine JN_stepG rfl rfl rfl rfl (Gd.plain Sr) rfl rfl (fun hw => step_call0 (Less_spec _ _ (hb2 k hkl) (hb2 (k - 1) zG)) ⟨(Sub.w hw), (Sub.w hw), trivial⟩ call33) ?_
  refine JN_step rfl rfl rfl rfl (step_pick_and Sr Sr) ?_
  refine JN_nil ?_
  refine J_cond Sr (fun h30 => ?_) (fun h30 => ?_)
  ·
   try simp only [NF] at h30
   have hk0 : 0 < k := by omega
   refine J_skip (J_seq (J_block (Jr (Jm rfl (Jm rfl ?_)))))
   refine Js rfl (step_indexAddr_own  underlying45 ty33 Sr zS Sr rfl (by first | assumption | omega)) ?_
   refine Js rfl (step_load_own ty33 Sr zS (gb (by first | assumption | omega))) ?_
   refine Ja rfl (JL_nil (Jr (Jm rfl (Jm rfl (Jm rfl ?_)))))
   refine Jm rfl (Js rfl (step_sub Sr Sr z6) ?_)
   refine Js rfl (step_indexAddr_own (i := k - 1) underlying45 ty33 Sr zS Sr zG zG) ?_
   refine Js rfl (step_load_own ty33 Sr zS (gb (by first | assumption | omega))) ?_
   refine Js rfl (step_indexAddr_own  underlying45 ty33 Sr zS Sr rfl zG) ?_
   refine Ju (step_store_own ty33 Sr Sr zS zG) fun _ => ?_
   refine JL_nil (J_region (Jm rfl (Jm rfl (Js rfl (step_sub Sr Sr z6) (Jm rfl ?_)))))
   refine Js rfl (step_indexAddr_own (i := k - 1) underlying45 ty33 Sr zS Sr zG (by rw [List.length_set]; omega)) ?_
   refine Ju (step_store_own ty33 Sr Sr zS (by rw [List.length_set]; omega)) fun _ => ?_
   refine JL_nil (J_region (Jm rfl (Js rfl (step_sub Sr Sr z6) (Ja rfl (JL_nil ?_)))))
   refine K_againL (σ := Nat × List (List Int)) (s := (k, out2)) (k - 1, swapL out2 k) zO (kInv_step hk hk0 h30.2) (.u (.u (.u (SubE.upd (Sub.int zG) (zU))))) (LSub.rfl)
  try simp only [NF] at h30
  refine J_exit (J_region (Jm rfl (Js rfl (step_add Sr Sr z6) (Ja rfl (JL_nil ?_)))))
  refine K_againL (σ := Nat × List (List Int)) (s := (i, out)) (i + 1, out2) zO ⟨by omega, kInv_end hk (by rcases h30 with h | h; exact .inl zG; exact .inr h)⟩ (zU) (LSub.rfl)
 try simp only [NF] at h13
 refine J_exit (Jr (Jm rfl (Ja rfl (JL_nil (J_ret ?_)))))
 refine K_ret1' (rv := .tmp 2) rfl () (Sel.all _) (.tmp Sr) (Frz.own' (sInv_done hv zG))
section
variable {C : Cx} {E : Env} {L : List SP} {d : Option Nat} {ty : Nat} {pos : String} {af : Array Edge} {g : Option (Nat × Bool)}
theorem tSlE.parts {α : Type} {e : Nat} {R : Rp α} {xs : List α} {h : PH} {v : Value} (t : (tSlE e R xs).p h v) (h0 : 0 < xs.length) :
    ∃ b off cap, v = .slice (some ⟨b, off, none⟩) xs.length cap ∧ xs.length ≤ cap ∧ ∀ (i : Nat) x, xs[i]? = some x → ∃ cs, Holds h b (off + i * R.k) cs ∧ R.rel h x cs := by
  obtain ⟨⟨ao, cap, rfl, H⟩, hE⟩ := t
  obtain ⟨b, off, rfl, H'⟩ := H (List.length_pos_iff.1 h0)
  exact ⟨b, off, cap, rfl, (hE b off _ cap rfl h0).1, H'⟩
/-- The beginning of a slice that may not change. -/
theorem step_slice_toE {α : Type} {T e n : Nat} {R : Rp α} {x y : Operand} {xs : List α} {k : IntKind} {i : Int} (hu : C.P.underlying T = some (.slice e)) (hR : TyOf C.P e R)
    (hx : Sub (opTy E x) (tSlE e R xs)) (hy : Sub (opTy E y) (tV (.int k i))) (hi : i = n) (h0 : 0 < xs.length) (hn : n ≤ xs.length) :
    Step1 C ⟨d, .slice T x none (some y) none, ty, pos, af, g⟩ E L (tSl R (xs.take n)) :=
  Step.of_run (by intro c h; cases h) fun a w h m l sp st fr => by
    obtain ⟨b, off, cap, hv, hlc, H⟩ := tSlE.parts (fr.get hx) h0
    have h2 : a.eval y = .int k i := fr.get hy
    subst hi
    refine ⟨(), .slice (some ⟨b, off, none⟩) n cap, w, h, _, ?_, HL.refl, sp, st, ⟨_, ⟨cap, by rw [List.length_take, Nat.min_eq_left hn]; omega⟩, congrArg (fun k => Value.slice (some ⟨b, off, none⟩) k cap) (by rw [List.length_take, Nat.min_eq_left hn]), fun _ => ⟨b, off, rfl, fun j z hz => H j z ?_⟩⟩⟩
    · simp [execOp, Instr.sliceAt, run_underlying hu, hv, h2, Instr.slice, Instr.sliceBounds, Instr.sliceBound, asIntOf, hR.size, show n ≤ cap by omega]
      intro _; rw [addr_add, Nat.add_zero]
    · rw [List.getElem?_take] at hz
      split at hz
      · exact hz
      · cases hz
end
theorem vio_len {rules : List GRule} {facts : List GFact} (H : VHyp rules facts) : (vioM rules facts).length ≤ 20000 := Nat.le_trans (minM_len _) H.hwl
open Go Go.Proofs Go.Proofs.Tryz
theorem ViolationsR_spec (rules : List GRule) (facts : List GFact) (H : VHyp rules facts) (hn : facts.length ≤ 12) (hr : ∀ r ∈ rules, (r.Fixed.length ≤ 1000000 ∧ r.Cols.length ≤ 1000000) ∧ r.Tests.length ≤ 900000) : Fun1 prog 32 [tSl rRule rules, tSl rFact facts] (tTup [tSl (rSl rInt) (vioM rules facts), tV (.int .i64 0)]) := by
 refine Spec.enter func32 rfl rfl fun h0 w0 fr0 => ?_
 have hrl := H.rl
 refine Jr (Ja rfl (Ja rfl (JL_nil (J_seq (Jr ?_)))))
 refine Jm rfl (Js rfl (step_len_sl underlying41 Sr) (Js rfl (step_gtr Sr Sr) (JL_nil ?_)))
 refine J_cond Sr (fun h16 => ?_) (fun h16 => ?_)
 ·
  try simp only [NF] at h16
  exfalso; omega
 try simp only [NF] at h16
 refine J_skip (Jr (Ja rfl (JL_nil (Jr (Jm rfl ?_)))))
 refine Js rfl (step_len_sl underlying41 Sr) (Ja rfl (JL_nil (J_seq (Jr (Ja rfl ?_)))))
 refine JL_nil (J_block ?_)
 refine J_loopL (σ := Nat × List (List Int) × Value) (fun ⟨s, small, vs⟩ => 1 ≤ s ∧ s ≤ 4 ∧ SmP rules facts s small) (fun ⟨s, small, vs⟩ => upd (upd (upd (upd (upd (upd (upd env0 0 (tSl rRule rules)) 1 (tSl rFact facts)) 4 (tV (.slice none 0 0))) 5 (tV (.int .i64 0))) 6 (rV.ty vs)) 7 (tV (.int .i64 facts.length))) 8 (tV (.int .i64 s))) (fun ⟨s, small, vs⟩ => [own 33 (rSl rInt) vs small]) (fun ⟨s, small, vs⟩ => 4 - s) (1, [], .slice none 0 0) ⟨by decide, by decide, SmP.start H⟩ (.u (.u (SubE.upd (Sub.rV rfl) (zU)))) (LSub.nilown) ?_
 rintro ⟨s, small, vs⟩ ⟨hs1, hs4, hv⟩
 refine J_seq (Jr (Jm rfl (Js rfl (step_leq Sr Sr) (JL_nil ?_))))
 refine J_cond Sr (fun h20 => ?_) (fun h20 => ?_)
 ·
  try simp only [NF] at h20
  have hs3 : s ≤ 3 := by omega
  have hsm := hv.len
  have hsl3 := hv.le3 H
  refine J_skip (J_seq (J_block (Jr (Ja rfl (JL_nil ?_)))))
  refine K_lsub (.r zS (LSub.nilown (e := 33) (R := rSl rInt))) ?_
  refine J_seq (Jr (Ja rfl (JL_nil (J_block ?_))))
  refine J_loopL (σ := Nat × List (List Int) × Value) (fun ⟨i, F, vF⟩ => i ≤ facts.length ∧ FnP rules facts s F i i i) (fun ⟨i, F, vF⟩ => upd (upd (upd (upd (upd (upd (upd (upd (upd (upd env0 0 (tSl rRule rules)) 1 (tSl rFact facts)) 4 (tV (.slice none 0 0))) 5 (tV (.int .i64 0))) 6 (rV.ty vs)) 7 (tV (.int .i64 facts.length))) 8 (tV (.int .i64 s))) 9 (rV.ty vF)) 10 (tV (.int .i64 i))) 19 (tV (.int .i64 s))) (fun ⟨i, F, vF⟩ => [own 33 (rSl rInt) vs small, own 33 (rSl rInt) vF F]) (fun ⟨i, F, vF⟩ => facts.length - i) (0, [], .slice none 0 0) ⟨by omega, FnP.start⟩ (.u (.u (SubE.upd (Sub.rV rfl) (zU)))) (zL) ?_
  rintro ⟨i, F, vF⟩ ⟨hi, hF⟩
  refine J_seq (Jr (Jm rfl (Jm rfl (Js rfl (step_lss Sr Sr) (JL_nil ?_)))))
  refine J_cond Sr (fun h25 => ?_) (fun h25 => ?_)
  ·
   try simp only [NF] at h25
   have hin : i < facts.length := by omega
   refine J_skip (J_seq (J_block (Jr (Jm rfl (Ja rfl ?_)))))
   refine JL_nil (J_block ?_)
   refine J_loopL (σ := Nat × List (List Int) × Value) (fun ⟨k, G, vG⟩ => i ≤ k ∧ k ≤ facts.length ∧ FnP rules facts s G i k k) (fun ⟨k, G, vG⟩ => upd (upd (upd (upd (upd (upd (upd (upd (upd (upd (upd (upd (upd (upd env0 0 (tSl rRule rules)) 1 (tSl rFact facts)) 4 (tV (.slice none 0 0))) 5 (tV (.int .i64 0))) 6 (rV.ty vs)) 7 (tV (.int .i64 facts.length))) 8 (tV (.int .i64 s))) 9 (rV.ty vG)) 10 (tV (.int .i64 i))) 11 (tV (.int .i64 k))) 19 (tV (.int .i64 s))) 23 (tV (.int .i64 i))) 24 (tV (.int .i64 facts.length))) 28 (tV (.int .i64 i))) (fun ⟨k, G, vG⟩ => [own 33 (rSl rInt) vs small, own 33 (rSl rInt) vG G]) (fun ⟨k, G, vG⟩ => facts.length - k) (i, F, vF) ⟨by omega, hi, hF⟩ (zU) (zL) ?_
   rintro ⟨k, G, vG⟩ ⟨hik, hk, hG⟩
   refine J_seq (Jr (Jm rfl (Jm rfl (Js rfl (step_lss Sr Sr) (JL_nil ?_)))))
   refine J_cond Sr (fun h31 => ?_) (fun h31 => ?_)
   ·
    try simp only [NF] at h31
    have hkn : k < facts.length := by omega
    refine J_skip (J_seq (J_block (Jr (Jm rfl (Ja rfl ?_)))))
    refine JL_nil (J_block ?_)
    refine J_loopL (σ := Nat × List (List Int) × Value) (fun ⟨m, K, vK⟩ => k ≤ m ∧ m ≤ facts.length ∧ FnP rules facts s K i k m) (fun ⟨m, K, vK⟩ => upd (upd (upd (upd (upd (upd (upd (upd (upd (upd (upd (upd (upd (upd (upd (upd (upd (upd env0 0 (tSl rRule rules)) 1 (tSl rFact facts)) 4 (tV (.slice none 0 0))) 5 (tV (.int .i64 0))) 6 (rV.ty vs)) 7 (tV (.int .i64 facts.length))) 8 (tV (.int .i64 s))) 9 (rV.ty vK)) 10 (tV (.int .i64 i))) 11 (tV (.int .i64 k))) 12 (tV (.int .i64 m))) 19 (tV (.int .i64 s))) 23 (tV (.int .i64 i))) 24 (tV (.int .i64 facts.length))) 28 (tV (.int .i64 i))) 29 (tV (.int .i64 k))) 30 (tV (.int .i64 facts.length))) 34 (tV (.int .i64 k))) (fun ⟨m, K, vK⟩ => [own 33 (rSl rInt) vs small, own 33 (rSl rInt) vK K]) (fun ⟨m, K, vK⟩ => facts.length - m) (k, G, vG) ⟨by omega, hk, hG⟩ (zU) (zL) ?_
    rintro ⟨m, K, vK⟩ ⟨hkm, hm, hK⟩
    refine J_seq (Jr (Jm rfl (Jm rfl (Js rfl (step_lss Sr Sr) (JL_nil ?_)))))
    refine J_cond Sr (fun h37 => ?_) (fun h37 => ?_)
    ·
     try simp only [NF] at h37
     have hmn : m < facts.length := by omega
     refine J_skip (J_seq (J_block (Jr (Jm rfl (Jm rfl ?_)))))
     refine Jm rfl ?_
     refine Js rfl (step_literalE (ys := [(i : Int), (k : Int), (m : Int)]) underlying33 el3 ⟨rfl, Sr, rfl, Sr, rfl, Sr, trivial⟩ rfl (by decide)) ?_
     refine Jm rfl ?_
     refine Js rfl (step_slice_toE (n := s) underlying33 ty3 Sr Sr rfl (by simp) (by simpa using hs3)) ?_
     refine Ja rfl (JL_nil (J_seq (Jr (Jm rfl (Js rfl (step_lss Sr Sr) ?_)))))
     refine Jm rfl ?_
     refine Jk rfl Sr rfl (step_move Sr) ?_
     refine Jk rfl Sr rfl (step_move Sr) ?_
     refine Jg rfl Sr rfl (fun hw => step_gtr (Sub.w hw) (Sub.w hw)) (Js rfl (step_pick_and Sr Sr) (Jm rfl ?_))
     refine Jk rfl Sr rfl (step_move Sr) ?_
     refine Jg rfl Sr rfl (fun hw => step_lss (Sub.w hw) Sr) (Jg rfl Sr rfl (fun hw => step_move (Sub.w hw)) ?_)
     refine Ji rfl Sr rfl (step_move Sr) ?_
     refine Ji rfl Sr rfl (step_move Sr) ?_
     refine Jh rfl Sr rfl (fun hw => step_gtr (Sub.w hw) (Sub.w hw)) (Jg rfl Sr rfl (fun hw => step_pick_and (Sub.w hw) (Sub.ww hw)) (Js rfl (step_pick_or Sr Sr) (Jm rfl ?_)))
     refine Jk rfl Sr rfl (step_move Sr) ?_
     refine Jk rfl Sr rfl (step_move Sr) ?_
     refine Jg rfl Sr rfl (fun hw => step_call0 (Set_spec (set3 s i k m) _ (by rw [set3_len hs3]; omega)) ⟨(Sub.w hw), (Sub.w hw), trivial⟩ call55) ?_
     refine Jg rfl Sr rfl (fun hw => step_not (Sub.w hw)) (Js rfl (step_pick_or Sr Sr) (Jm rfl ?_))
     refine Jk rfl Sr rfl (step_move Sr) ?_
     refine Jk rfl Sr rfl (step_move Sr) ?_
     refine Jg rfl Sr rfl (fun hw => step_call_look (Sel.take (Sel.none _)) (has_spec small (set3 s i k m) zG (by rw [set3_len hs3]; omega) (fun x hx => Nat.le_trans (hsl3 x hx) (by decide))) (fun _ => Flat.v _) ⟨(Frz.w hw Frz.own), (Frz.sub (Sub.w hw)), trivial⟩ call56) ?_
     refine Js rfl (step_pick_or Sr Sr) (Jm rfl ?_)
     refine Jk rfl Sr rfl (step_move Sr) ?_
     refine Jk rfl Sr rfl (step_move Sr) ?_
     refine Jk rfl Sr rfl (step_move Sr) ?_
     refine Jg rfl Sr rfl (fun hw => step_call0 (good_spec rules facts (set3 s i k m) (isSetFrom_InB (by have hq := hw; simp only [beqB_t, beqB_f, Bool.not_eq_true', Bool.or_eq_false_iff, Bool.not_eq_false'] at hq; exact hq.1.2)) (by rw [set3_len hs3]; omega) hr hrl) ⟨(Sub.w hw), (Sub.w hw), (Sub.w hw), trivial⟩ call57) ?_
     refine Js rfl (step_pick_or Sr Sr) (JL_nil ?_)
     refine J_cond Sr (fun h78 => ?_) (fun h78 => ?_)
     ·
      try simp only [NF] at h78
      have hno : ¬ okS rules facts s i k m := hv.no H hs1 hs3 h78
      refine J_exit (J_region (Jm rfl (Js rfl (step_add Sr Sr z6) (Ja rfl (JL_nil ?_)))))
      refine K_againL (σ := Nat × List (List Int) × Value) (s := (m, K, vK)) (m + 1, K, vK) zO ⟨by omega, by omega, hK.skip hn hik hkm hmn hno⟩ (zU) (zL)
     try simp only [NF] at h78
     have hyes : okS rules facts s i k m := hv.yes H hs1 hs3 ⟨⟨⟨by have := h78.1.1.1; omega, h78.1.1.2⟩, h78.1.2⟩, h78.2⟩
     refine J_skip (J_region ?_)
     have hKl : K.length ≤ 3000 := by have := hK.len; simp only [pos3] at this; omega
     refine Jm rfl ?_
     refine Jx rfl (step_literal_own (ys := []) underlying33 el3 trivial rfl (by decide)) fun v80 => ?_
     refine Jm rfl ?_
     refine Jx rfl (step_append underlying33 el3 Sr Sr zS (by rw [set3_len hs3]; simp; omega) (by rw [set3_len hs3]; simp; omega)) fun v82 => ?_
     refine JL_freeze (t := 82) (Sel.take (Sel.none _)) Frz.own ?_
     refine Js rfl (step_literal (ys := [_]) underlying45 el33 ⟨rfl, Sr, trivial⟩ rfl (by decide)) ?_
     refine Jx rfl (step_append underlying45 el33 Sr Sr zS (by simp; omega) (by simp; omega)) fun v84 => ?_
     refine Ja rfl (JL_nil (J_region (Jm rfl (Js rfl (step_add Sr Sr z6) (Ja rfl ?_)))))
     refine JL_nil ?_
     refine K_againL (σ := Nat × List (List Int) × Value) (s := (m, K, vK)) (m + 1, K ++ [(set3 s i k m)], v84) zO ⟨by omega, by omega, hK.add hs1 hs3 hn hik hkm hmn hyes⟩ (zU) (zL)
    try simp only [NF] at h37
    refine J_exit (J_region (Jm rfl (Js rfl (step_add Sr Sr z6) (Ja rfl (JL_nil ?_)))))
    refine K_againL (σ := Nat × List (List Int) × Value) (s := (k, G, vG)) (k + 1, K, vK) zO ⟨by omega, by omega, hK.toK hn hik hkn zG⟩ (zU) (zL)
   try simp only [NF] at h31
   refine J_exit (J_region (Jm rfl (Js rfl (step_add Sr Sr z6) (Ja rfl (JL_nil ?_)))))
   refine K_againL (σ := Nat × List (List Int) × Value) (s := (i, F, vF)) (i + 1, G, vG) zO ⟨by omega, hG.toI hn hin zG⟩ (zU) (zL)
  try simp only [NF] at h25
  refine J_exit (J_region ?_)
  have hFl : F.length ≤ 3000 := by have := hF.len; simp only [pos3] at this; omega
  refine JL_freeze (t := 9) (Sel.skip (Sel.take (Sel.none _))) Frz.own ?_
  refine Jm rfl (Jm rfl ?_)
  refine Jx rfl (step_append underlying45 el33 Sr Sr zS zG zG) fun v87 => ?_
  refine Ja rfl (JL_nil (J_region (Jm rfl (Js rfl (step_add Sr Sr z6) (Ja rfl ?_)))))
  refine JL_nil ?_
  refine K_againL (σ := Nat × List (List Int) × Value) (s := (s, small, vs)) (s + 1, small ++ F, v87) zO ⟨by omega, by omega, hv.next H hs1 hs3 hn hF zG⟩ (zU) (zL)
 try simp only [NF] at h20
 have hs4 : s = 4 := by omega
 refine J_exit (J_seq (Jr (Jm rfl ?_)))
 refine Js rfl (step_len_own underlying45 Sr zS) ?_
 refine Js rfl (step_gtr Sr Sr) (JL_nil ?_)
 refine J_cond Sr (fun h90 => ?_) (fun h90 => ?_)
 ·
  try simp only [NF] at h90
  exfalso; have := (hv.perm H zG).length_eq; have := vio_len H; omega
 try simp only [NF] at h90
 refine J_skip (Jr ?_)
 refine JL_freeze (t := 6) (Sel.take (Sel.none _)) Frz.own ?_
 refine Jm rfl ?_
 refine Js rfl (step_call0 (Sorted__spec small (by have := (hv.perm H zG).length_eq; have := vio_len H; omega) (fun x hx => Nat.le_trans (hv.le3 H x hx) (by decide))) ⟨Sr, trivial⟩ call58) ?_
 refine Ja rfl (Ja rfl (JL_nil (J_ret ?_)))
 refine K_ret2' (rv := .tmp 4) (rv' := .tmp 5) rfl () (Sel.all _) (.tmp Sr) (.tmp Sr) (Frz.sub ?_) (Frz.sub ?_) Sr
 ·
  rw [hv.done H zG]; exact Sr
 exact Sr
open Go Go.Proofs Go.Proofs.Tryz
theorem Spec.frame {X : Type} {P : Program} {f : Nat} {As : List Ty} {L : List SP} {res : X → Ty} {Lo : X → List SP} {B : SP} (h : Spec P f As L res Lo) : Spec P f As (B :: L) res (fun x => B :: Lo x) := fun vs h0 m r w ha sp st => by
  obtain ⟨m1, m2, d12, rfl, s1, s2⟩ := st
  have hm := PH.disj_join'.1 sp.hm
  have hr := PH.disj_join.1 sp.mr
  have s' : Sep h0 m2 (m1.join r) w := ⟨sp.inv, hm.2, PH.disj_join'.2 ⟨hm.1, sp.hr⟩, PH.disj_join'.2 ⟨PH.disj_symm d12, hr.2⟩, sp.hw, fun b o e => sp.mw _ _ (PH.le_join_right d12 _ _ e), PH.join_inw (fun b o e => sp.mw _ _ (PH.le_join_left _ _ _ _ e)) sp.rw⟩
  refine (h vs h0 m2 (m1.join r) w ha s' s2).mono ?_
  rintro e w' ⟨x', v, h', m', he, l, s, st', hv⟩
  have e1 := PH.disj_join'.1 s.hr
  have e2 := PH.disj_join'.1 s.mr
  refine ⟨x', v, h', m1.join m', he, l, ⟨s.inv, PH.disj_join'.2 ⟨e1.1, s.hm⟩, e1.2, PH.disj_join.2 ⟨hr.1, e2.2⟩, s.hw, PH.join_inw (fun b o e => s.rw _ _ (PH.le_join_left _ _ _ _ e)) s.mw, fun b o e => s.rw _ _ (PH.le_join_right hr.1 _ _ e)⟩, ⟨m1, m', PH.disj_symm e2.1, rfl, B.mono l.1 s1, st'⟩, hv⟩
structure RFew (rules : List GRule) : Prop where
  rl : rules.length ≤ 6
  rr : ∀ r ∈ rules, r.Cols.length ≤ 12 ∧ r.Fixed.length ≤ 12 ∧ r.Tables.length ≤ 12 ∧ r.Tests.length ≤ 12
theorem lowered_len : ∀ m : List GRule, (loweredR m).length ≤ m.length
  | [] => by simp [loweredR]
  | a :: m => by
    have h1 := lowerR_len a
    have h2 := List.length_filter_le okD3 (lowerR a)
    have h3 := lowered_len m
    have e : loweredR (a :: m) = (lowerR a).filter okD3 ++ loweredR m := rfl
    rw [e, List.length_append, List.length_cons]; omega
theorem RFew.tests {rules : List GRule} (h : RFew rules) : ∀ d ∈ loweredR rules, d.Tests.length ≤ 49 := fun d hd => by
  obtain ⟨r, hr, hd⟩ := List.mem_flatMap.1 hd
  have h1 := lowerR_deny (List.mem_filter.1 hd).1
  have h2 := h.rr r hr
  omega
theorem RFew.hyp {rules : List GRule} (h : RFew rules) {facts : List GFact} (hf : facts.length ≤ 12) : VHyp rules facts := VHyp.of h.rl hf fun r hr => by have := h.rr r hr; omega
theorem VInv.ok {rules : List GRule} {s : VS} {ps : PS} {w : Int} (I : VInv rules s ps w) (hp : POk ps) (h : RFew rules) : RulesOk s.rules s.pairs where
  rl := by rw [I.rl]; have := lowered_len rules; have := h.rl; omega
  pl := by
    rw [I.pr]; show (prN _ _).length ≤ _
    have h1 := prN_len (loweredR rules) (fun d hd => (lowT3 rules d hd).2) (loweredR rules).length (Nat.le_refl _)
    have := lowered_len rules; have := h.rl; omega
  tab := fun d hd => by
    rw [I.rl] at hd
    have h1 := lowT3 rules d hd
    have := h.tests d hd
    omega
  prs := fun p hpm => by
    obtain ⟨q, hq, e⟩ := mem_nthV hpm
    obtain ⟨n, i, j, h1, h2, h3, h4, h5, _⟩ := I.pair hp hq
    rw [← e, show nth s.pairs q = _ from h5, I.rl]
    have h6 : (eqsV (nth (loweredR rules) n) i j).length ≤ 1000 := by
      have h7 := eqsK_len (nth (loweredR rules) n) i j (nth (loweredR rules) n).Tests.length
      have h8 := h.tests _ (nth_mem h1)
      have e2 : eqsK (nth (loweredR rules) n) i j (nth (loweredR rules) n).Tests.length = eqsV (nth (loweredR rules) n) i j := by rw [eqsK, List.take_length]; rfl
      rw [e2] at h7; omega
    exact { r0 := by simp, r1 := by simpa using h1, i0 := by simp, i1 := by simpa using h2, j0 := by simp, j1 := by simpa using h3, ij := fun e => h4 (by simp only at e; omega), cl := h6 }
/-- A vigil: its rules, where it lies, the facts that are present, its work. -/
def vigO (rules : List GRule) (b : Nat) (ps : PS) (w : Int) : SP := SP.ex fun s : VS => stars [SP.pure (VInv rules s ps w), vB b s, vI s, vP s, vF s, vE s, vS s, vX s, vV s]
theorem vigO.to {rules : List GRule} {b : Nat} {ps : PS} {w : Int} {s : VS} {L : List SP} (I : VInv rules s ps w) : LSub ([vB b s, vI s, vP s, vF s, vE s, vS s, vX s, vV s] ++ L) (vigO rules b ps w :: L) :=
  LSub.ex s (LSub.stars (LSub.pure I LSub.rfl))
theorem vigO.spec {X : Type} {rules : List GRule} {b : Nat} {ps : PS} {w : Int} {f : Nat} {As : List Ty} {res : X → Ty} {Lo : X → List SP}
    (h : ∀ s, VInv rules s ps w → Spec Tryz.prog f As [vB b s, vI s, vP s, vF s, vE s, vS s, vX s, vV s] res Lo) : Spec Tryz.prog f As [vigO rules b ps w] res Lo :=
  Spec.exL fun s => Spec.lsub (LSub.starsL LSub.rfl) (Spec.pure0 fun I => h s I)
section
variable {rules : List GRule} (hr : RFew rules)
include hr
theorem NewV_spec : Spec (X := Nat) Tryz.prog 11 [tSl rRule rules] ([]) (fun b => tAt b 0) (fun b => [vigO rules b [] 0]) := by
  refine Spec.post (fun z : { z : Nat × VS // NewR rules z.2 } => z.1.1) (fun z => Sub.rfl) (fun z => vigO.to (L := []) (VInv.new z.2)) (New_spec rules (by have := hr.rl; omega) (fun r h => by have := hr.rr r h; omega) fun d hd => by have := hr.tests d hd; omega)
variable {ps : PS} (hp : POk ps) {w : Int}
include hp
theorem PutV_spec (b : Nat) (num : Int) (f : GFact) (hl : ps.length ≤ 12) (hrow : f.Row.length ≤ 1000000) (hw : 0 ≤ w ∧ w ≤ 1000000) : Spec (X := Unit) Tryz.prog 21 [tAt b 0, tV (.int .i64 num), rFact.ty f] [vigO rules b ps w] (fun _ => tV (.int .i64 (putE ps num))) (fun _ => [vigO rules b (putP ps num f) (w + putW rules ps num f)]) :=
  vigO.spec fun s I => Spec.post (fun _ => ()) (fun z => by rw [(I.put hp hl z.2).1]; exact Sub.rfl) (fun z => vigO.to (L := []) (I.put hp hl z.2).2)
    (Put_spec b s num f (I.ok hp hr) (I.patOk hp) hrow (I.candIn hp) (by rw [I.flen hp]; omega) (by rw [I.wk]; omega) (by have := I.vlen hp (by omega); omega) fun l h1 h2 => by have := I.flimit hp hl h1 h2; omega)
omit hr hp in
theorem setsO_KN {κ : Type} [DecidableEq κ] : ∀ {q : SetL κ} {h m : PH}, (setsO q).p h m → ∀ k, KN (sval q k).2
  | [], h, m, _, k => List.nodup_nil
  | (a, v, xs) :: q, h, m, ⟨m1, m2, d, e, ha, hb⟩, k => by
    show KN (hval (.map none) [] ((a, v, xs) :: q) k).2
    rw [hval]
    split
    · exact ha.1
    · exact setsO_KN hb k
theorem DropV_spec (b : Nat) (num : Int) : Spec (X := Unit) Tryz.prog 25 [tAt b 0, tV (.int .i64 num)] [vigO rules b ps w] (fun _ => tV (.int .i64 (dropE ps num))) (fun _ => [vigO rules b (remP ps num) w]) :=
  vigO.spec fun s I => Spec.lsub (L1 := [vS s, vX s, vB b s, vI s, vP s, vF s, vE s, vV s]) zL <| Spec.pureL (fun h m => setsO_KN) fun hke =>
    Spec.lsub (L1 := [vX s, vS s, vB b s, vI s, vP s, vF s, vE s, vV s]) zL <| Spec.pureL (fun h m => setsO_KN) fun hki =>
    Spec.lsub (L1 := [vB b s, vI s, vP s, vF s, vE s, vS s, vX s, vV s]) zL <|
    Spec.post (fun _ => ()) (fun z => by rw [(I.drop hp hke hki z.2).1]; exact Sub.rfl) (fun z => vigO.to (L := []) (I.drop hp hke hki z.2).2) (Drop_spec b s num (I.ok hp hr))
theorem ListV_spec (b : Nat) (hl : ps.length ≤ 12) : Spec (X := Unit) Tryz.prog 18 [tAt b 0] [vigO rules b ps w] (fun _ => tSlE 33 rI2 (vioN rules ps)) (fun _ => [vigO rules b ps w]) :=
  vigO.spec fun s I => Spec.lsub (L1 := [vI s, vP s, vF s, vE s, vS s, vX s, vB b s, vV s]) zL <|
    Spec.post (fun _ => ()) (fun z => by rw [I.list hp (hr.hyp (by rw [gsP_len]; exact hl)) z.2.1 z.2.2]; exact Sub.rfl) (fun z => LSub.trans (B := [vB b s, vI s, vP s, vF s, vE s, vS s, vX s, vV s]) zL (vigO.to (L := []) I))
      (Spec.frame (Spec.frame (Spec.frame (Spec.frame (Spec.frame (Spec.frame (Vlist_spec b s (by have := I.vlen hp (by omega); omega))))))))
omit hr hp in
theorem WorkV_spec (b : Nat) : Spec (X := Unit) Tryz.prog 16 [tAt b 0] [vigO rules b ps w] (fun _ => tV (.int .i64 w)) (fun _ => [vigO rules b ps w]) :=
  vigO.spec fun s I => Spec.lsub (L1 := [vI s, vP s, vF s, vE s, vS s, vX s, vV s, vB b s]) zL <|
    Spec.post (fun _ => ()) (fun z => by rw [I.wk]; exact Sub.rfl) (fun z => LSub.trans (B := [vB b s, vI s, vP s, vF s, vE s, vS s, vX s, vV s]) zL (vigO.to (L := []) I))
      (Spec.frame (Spec.frame (Spec.frame (Spec.frame (Spec.frame (Spec.frame (Spec.frame (Work_spec b s))))))))
end
open Go Go.Proofs Go.Proofs.Tryz
theorem vigO_eq {rules : List GRule} {b : Nat} {ps ps' : PS} {w w' : Int} (e1 : ps = ps') (e2 : w = w') : SPs (vigO rules b ps w) (vigO rules b ps' w') := e1 ▸ e2 ▸ SPs.rfl
def opE (ps : PS) (x : GOp) : Int := if x.Drop = true then dropE ps x.Number else putE ps x.Number
def opP (ps : PS) (x : GOp) : PS := if x.Drop = true then remP ps x.Number else putP ps x.Number x.Fact
noncomputable def opW (rules : List GRule) (ps : PS) (x : GOp) : Int := if x.Drop = true then 0 else putW rules ps x.Number x.Fact
theorem putP_ok {ps : PS} (h : POk ps) (n : Int) (f : GFact) : POk (putP ps n f) := by
  unfold putP
  split
  · rename_i e
    obtain ⟨a, b, c⟩ := putE_0.1 e
    exact h.ins c a b
  · exact h
theorem opP_ok {ps : PS} (h : POk ps) (x : GOp) : POk (opP ps x) := by
  unfold opP
  split
  · exact h.rem
  · exact putP_ok h _ _
theorem putP_len (ps : PS) (n : Int) (f : GFact) : (putP ps n f).length ≤ ps.length + 1 := by
  unfold putP; split
  · rw [insP_len]; omega
  · omega
theorem opP_len (ps : PS) (x : GOp) : (opP ps x).length ≤ ps.length + 1 := by
  unfold opP
  split
  · have := remP_len ps x.Number; omega
  · exact putP_len _ _ _
/-- The facts that are present after operations. -/
def presM (l : List GOp) : PS := l.foldl opP []
theorem presM_snoc (l : List GOp) (x : GOp) : presM (l ++ [x]) = opP (presM l) x := by simp [presM]
theorem presM_ok (l : List GOp) : POk (presM l) := by
  have : ∀ (l : List GOp) (ps : PS), POk ps → POk (l.foldl opP ps) := by
    intro l
    induction l with
    | nil => exact fun ps h => h
    | cons x l ih => exact fun ps h => ih _ (opP_ok h x)
  exact this l [] ⟨List.Pairwise.nil, fun n h => by cases h⟩
theorem presM_len (l : List GOp) : (presM l).length ≤ l.length := by
  have : ∀ (l : List GOp) (ps : PS), (l.foldl opP ps).length ≤ ps.length + l.length := by
    intro l
    induction l with
    | nil => exact fun ps => Nat.le_refl _
    | cons x l ih =>
      intro ps
      have h1 := ih (opP ps x)
      have h2 := opP_len ps x
      simp only [List.foldl_cons, List.length_cons]; omega
  have h := this l []
  simpa [presM] using h
theorem presM_succ {l : List GOp} {i : Nat} (h : i < l.length) : presM (l.take (i + 1)) = opP (presM (l.take i)) (nth l i) := by rw [takeV h, presM_snoc]
/-- Where a number is, or would be. -/
structure AtP (ps : PS) (n : Int) (a : Nat) : Prop where
  le : a ≤ ps.length
  lt : ∀ q, q < a → nth (nsP ps) q < n
  ge : ∀ q, a ≤ q → q < ps.length → n ≤ nth (nsP ps) q
theorem ns_sorted {ps : PS} (h : POk ps) {q r : Nat} (h1 : q < r) (h2 : r < ps.length) : nth (nsP ps) q < nth (nsP ps) r := by
  have := List.pairwise_iff_getElem.1 h.srt q r (by rw [nsP_len]; omega) (by rw [nsP_len]; omega) h1
  rw [nth_get (by rw [nsP_len]; omega), nth_get (by rw [nsP_len]; omega)]; exact this
theorem AtP.of {ps : PS} (h : POk ps) {n : Int} {a : Nat} (hl : a ≤ ps.length) (hlt : ∀ q, q < a → nth (nsP ps) q < n) (hs : ¬ (a < ps.length ∧ nth (nsP ps) a < n)) : AtP ps n a :=
  ⟨hl, hlt, fun q h1 h2 => by
    rcases Nat.lt_or_eq_of_le h1 with e | e
    · have := ns_sorted h e h2
      have := Int.not_lt.1 (fun q' => hs ⟨by omega, q'⟩)
      omega
    · subst e; exact Int.not_lt.1 fun q' => hs ⟨h2, q'⟩⟩
theorem insP_at {n : Int} {f : GFact} : ∀ {ps : PS} {a : Nat}, POk ps → AtP ps n a → n ∉ nsP ps → insP ps n f = ps.take a ++ (n, f) :: ps.drop a
  | [], a, _, ha, _ => by simp [insP]
  | (m, g) :: ps, 0, h, ha, hn => by
    have h1 := ha.ge 0 (Nat.le_refl _) (by simp)
    have h1 : n ≤ m := h1
    have h2 : n ≠ m := fun e => hn (by simp [nsP, e])
    rw [insP, if_pos (by omega)]; rfl
  | (m, g) :: ps, a + 1, h, ha, hn => by
    have h1 : m < n := ha.lt 0 (by omega)
    have h' : POk ps := ⟨(List.pairwise_cons.1 h.srt).2, fun k hk => h.rng k (List.mem_cons_of_mem _ hk)⟩
    have ha' : AtP ps n a := ⟨by have := ha.le; simp at this; omega, fun q hq => ha.lt (q + 1) (by omega), fun q h1 h2 => ha.ge (q + 1) (by omega) (by simp; omega)⟩
    rw [insP, if_neg (by omega), insP_at h' ha' fun q => hn (List.mem_cons_of_mem _ q)]; rfl
theorem remP_at {n : Int} : ∀ {ps : PS} {a : Nat}, POk ps → a < ps.length → nth (nsP ps) a = n → remP ps n = ps.take a ++ ps.drop (a + 1)
  | [], a, _, h, _ => by simp at h
  | (m, g) :: ps, 0, h, _, e => by
    have e : m = n := e
    subst e
    have hh := List.pairwise_cons.1 h.srt
    have : remP ps m = ps := remP_no fun q => by have := hh.1 m q; simp at this
    show List.filter _ _ = ps
    rw [List.filter_cons, if_neg (by simp)]; exact this
  | (m, g) :: ps, a + 1, h, hl, e => by
    have hl : a < ps.length := by simpa using hl
    have e : nth (nsP ps) a = n := e
    have h' : POk ps := ⟨(List.pairwise_cons.1 h.srt).2, fun k hk => h.rng k (List.mem_cons_of_mem _ hk)⟩
    have hne : m ≠ n := by
      have := (List.pairwise_cons.1 h.srt).1 n (by rw [← e]; exact nth_mem (by simpa using hl))
      simp only at this; omega
    have ih := remP_at h' hl e
    show List.filter _ _ = (m, g) :: (ps.take a ++ ps.drop (a + 1))
    rw [List.filter_cons, if_pos (by simp [hne])]; exact congrArg (List.cons _) ih
theorem ns_app (a b : PS) : nsP (a ++ b) = nsP a ++ nsP b := List.map_append
theorem gs_app (a b : PS) : gsP (a ++ b) = gsP a ++ gsP b := List.map_append
theorem ns_take (a : PS) (k : Nat) : nsP (a.take k) = (nsP a).take k := List.map_take
theorem gs_take (a : PS) (k : Nat) : gsP (a.take k) = (gsP a).take k := List.map_take
theorem ns_drop (a : PS) (k : Nat) : nsP (a.drop k) = (nsP a).drop k := List.map_drop
theorem gs_drop (a : PS) (k : Nat) : gsP (a.drop k) = (gsP a).drop k := List.map_drop
section
variable {C : Cx} {E : Env} {L : List SP} {d : Option Nat} {ty : Nat} {pos : String} {af : Array Edge} {g : Option (Nat × Bool)}
/-- s[n:] of a slice that may not change. -/
theorem step_slice_fromN {α : Type} {T e n : Nat} {R : Rp α} {x y : Operand} {xs : List α} {k : IntKind} {i : Int} (hu : C.P.underlying T = some (.slice e)) (hR : TyOf C.P e R)
    (hx : Sub (opTy E x) (tSl R xs)) (hy : Sub (opTy E y) (tV (.int k i))) (hi : i = n) (hn : n ≤ xs.length) :
    Step1 C ⟨d, .slice T x (some y) none none, ty, pos, af, g⟩ E L (tSl R (xs.drop n)) :=
  Step.of_run (by intro c h; cases h) fun a w h m l sp st fr => by
    obtain ⟨ao, ⟨cap, hlc⟩, hv, H⟩ := fr.get hx
    have hv : a.eval x = .slice ao xs.length cap := hv
    have h2 : a.eval y = .int k i := fr.get hy
    subst hi
    refine ⟨(), .slice (if cap = n then ao else ao.map (·.add (n * R.k))) (xs.length - n) (cap - n), w, h, _, ?_, HL.refl, sp, st, ⟨_, ⟨cap - n, by rw [List.length_drop]; omega⟩, by show Value.slice _ (xs.length - n) (cap - n) = Value.slice _ (xs.drop n).length (cap - n); rw [List.length_drop], fun hne => ?_⟩⟩
    · simp [execOp, Instr.sliceAt, run_underlying hu, hv, h2, Instr.slice, Instr.sliceBounds, Instr.sliceBound, asIntOf, hR.size, hn]
    · have hlt : n < xs.length := by
        rcases Nat.lt_or_ge n xs.length with q | q
        · exact q
        · exact absurd (List.drop_of_length_le q) hne
      obtain ⟨b, off, ea, H'⟩ := H (fun e => by rw [e] at hlt; simp at hlt)
      refine ⟨b, off + n * R.k, by rw [if_neg (by omega), ea]; simp [addr_add], fun j z hz => ?_⟩
      obtain ⟨cs, q1, q2⟩ := H' (n + j) z (by simpa [List.getElem?_drop] using hz)
      exact ⟨cs, by rw [show off + n * R.k + j * R.k = off + (n + j) * R.k by rw [Nat.add_mul]; omega]; exact q1, q2⟩
end
theorem few_spec (rules : List GRule) (l : List GOp) (hl : l.length * 96 ≤ 140737488355328) : Fun1 prog 10 [tSl rRule rules, tSl rOp l] (tV (.bool (fewB rules (l.map GOp.Fact) 12))) := by
 refine Spec.enter func10 rfl rfl fun h0 w0 fr0 => ?_
 refine Jr (Ja rfl (JL_nil (Jr (Ja rfl (JL_nil ?_)))))
 refine J_seq (Jr (Ja rfl (JL_nil (J_block ?_))))
 refine J_loopL (σ := Nat × Value) (fun ⟨i, u⟩ => i ≤ l.length) (fun ⟨i, u⟩ => upd (upd (upd (upd (upd env0 0 (tSl rRule rules)) 1 (tSl rOp l)) 4 (tV (.bool false))) 5 (rV.ty u)) 6 (tV (.int .i64 (i : Int)))) (fun ⟨i, u⟩ => [own 35 rFact u ((l.take i).map GOp.Fact)]) (fun ⟨i, u⟩ => l.length - i) (0, .slice none 0 0) (by exact Nat.zero_le _) (.u (SubE.upd (Sub.rV rfl) (zU))) (LSub.trans (LSub.nilown (e := 35) (R := rFact)) zL) ?_
 rintro ⟨i, u⟩ hi
 try dsimp only at hi
 refine J_seq (Jr (Jm rfl (Jm rfl (Js rfl (step_len_sl underlying23 Sr) (Js rfl (step_lss Sr Sr) ?_)))))
 refine JL_nil ?_
 refine J_cond Sr (fun h10 => ?_) (fun h10 => ?_)
 ·
  try simp only [NF] at h10
  have hlt : i < l.length := by omega
  refine J_skip (J_seq (J_block (J_region (Jm rfl (Jm rfl ?_)))))
  refine Jm rfl ?_
  refine Js rfl (step_indexAddr_sl  underlying23 ty37 Sr Sr rfl (gb (by exact hlt))) ?_
  refine Js rfl (step_fieldAddr so37 Sr rfl) (Jl rfl ty35 Sr ?_)
  refine Js rfl (step_literal (ys := [_]) underlying41 el35 ⟨rfl, Sr, trivial⟩ rfl (by decide)) ?_
  refine Jx rfl (step_append underlying41 el35 Sr Sr zS (by simp; omega) (by simp; omega)) fun v20 => ?_
  refine Ja rfl (JL_nil (J_region (Jm rfl (Js rfl (step_add Sr Sr z6) (Ja rfl ?_)))))
  refine JL_nil ?_
  refine K_againL (σ := Nat × Value) (s := (i, u)) (i + 1, v20) zO (by show i + 1 ≤ _; omega) (zU) (LSub.cons (A := own 35 rFact v20 ((l.take i).map GOp.Fact ++ [(nth l i).Fact])) zS (own_eq (by rw [takeV hlt, List.map_append]; rfl)) zL)
 try simp only [NF] at h10
 obtain rfl : i = l.length := by omega
 refine J_exit (J_seq ?_)
 refine K_freeze (S := [own 35 rFact u ((l.take l.length).map GOp.Fact)]) (t := 5) zS Frz.own ?_
 refine J_region (Jm rfl (Jm rfl ?_))
 refine Js rfl (step_call0 (Few_spec _ _ _ (by decide)) ⟨Sr, Sr, Sr, trivial⟩ call28) ?_
 refine Ja rfl (JL_nil (J_ret ?_))
 rw [List.take_length]
 refine K_retv (rv := .tmp 4) rfl () (.tmp Sr) Sr
theorem do_spec {rules : List GRule} (hr : RFew rules) {ps : PS} (hp : POk ps) {w : Int} (b : Nat) (x : GOp) (hl : ps.length ≤ 12) (hrow : x.Fact.Row.length ≤ 1000000) (hw : 0 ≤ w ∧ w ≤ 1000000) : Spec (X := Unit) prog 13 [tAt b 0, rOp.ty x] ([vigO rules b ps w]) (fun _ => tV (.int .i64 (opE ps x))) (fun _ => [vigO rules b (opP ps x) (w + opW rules ps x)]) := by
 refine Spec.enter func13 rfl rfl fun h0 w0 fr0 => ?_
 refine Jr (Js rfl (step_box (R := rOp) Sr) (Ja rfl (JL_nil (J_seq (Jr ?_)))))
 refine Js rfl (step_fieldAddr so37 Sr rfl) (Jl rfl ty4 Sr (JL_nil ?_))
 refine J_cond Sr (fun h6 => ?_) (fun h6 => ?_)
 ·
  try simp only [NF] at h6
  refine Jr (Jm rfl (Js rfl (step_fieldAddr so37 Sr rfl) (Jl rfl ty3 Sr ?_)))
  refine Jx rfl (step_call zS (DropV_spec hr hp b x.Number) ⟨Sr, Sr, trivial⟩ call25) fun v10 => ?_
  refine Ja rfl (JL_nil (J_ret ?_))
  refine K_lsub (L' := [vigO rules b (opP ps x) (w + opW rules ps x)]) (LSub.cons (A := vigO rules b (remP ps x.Number) w) zS (vigO_eq (by rw [opP, if_pos h6]) (by rw [opW, if_pos h6]; omega)) zL) ?_
  refine K_retv (rv := .tmp 4) rfl () (.tmp Sr) (by rw [opE, if_pos h6]; exact Sr)
 try simp only [NF] at h6
 refine J_skip (Jr (Jm rfl (Js rfl (step_fieldAddr so37 Sr rfl) (Jl rfl ty3 Sr (Js rfl (step_fieldAddr so37 Sr rfl) ?_)))))
 refine Jl rfl ty35 Sr ?_
 refine Jx rfl (step_call zS (PutV_spec hr hp b x.Number x.Fact hl hrow hw) ⟨Sr, Sr, Sr, trivial⟩ call21) fun v16 => ?_
 refine Ja rfl (JL_nil (J_ret ?_))
 refine K_lsub (L' := [vigO rules b (opP ps x) (w + opW rules ps x)]) (LSub.cons (A := vigO rules b (putP ps x.Number x.Fact) (w + putW rules ps x.Number x.Fact)) zS (vigO_eq (by rw [opP, if_neg (by simp [h6])]) (by rw [opW, if_neg (by simp [h6])])) zL) ?_
 refine K_retv (rv := .tmp 4) rfl () (.tmp Sr) (by rw [opE, if_neg (by simp [h6])]; exact Sr)
open Go Go.Proofs Go.Proofs.Tryz
def rUnq : GRule := { zRule with Kind := 1, Cols := [0] }
/-! The same, so that it can be reckoned. -/
def insI (x : Int) : List Int → List Int
  | [] => [x]
  | y :: l => if x ≤ y then x :: y :: l else y :: insI x l
def insS : List Int → List Int
  | [] => []
  | x :: l => insI x (insS l)
theorem insI_perm (x : Int) : ∀ l, (insI x l).Perm (x :: l)
  | [] => List.Perm.refl _
  | y :: l => by
    unfold insI
    split
    · exact List.Perm.refl _
    · exact ((insI_perm x l).cons y).trans (List.Perm.swap x y l)
theorem insI_sorted (x : Int) : ∀ l : List Int, l.Pairwise (fun a b => a ≤ b) → (insI x l).Pairwise (fun a b => a ≤ b)
  | [], _ => by simp [insI]
  | y :: l, h => by
    have h' := List.pairwise_cons.1 h
    unfold insI
    split
    · refine List.pairwise_cons.2 ⟨fun z hz => ?_, h⟩
      rcases List.mem_cons.1 hz with rfl | hz
      · assumption
      · have := h'.1 z hz; omega
    · refine List.pairwise_cons.2 ⟨fun z hz => ?_, insI_sorted x l h'.2⟩
      rcases List.mem_cons.1 ((insI_perm x l).mem_iff.1 hz) with rfl | hz
      · omega
      · exact h'.1 z hz
theorem insS_perm : ∀ l, (insS l).Perm l
  | [] => List.Perm.refl _
  | x :: l => (insI_perm x _).trans ((insS_perm l).cons x)
theorem insS_sorted : ∀ l, (insS l).Pairwise (fun a b => a ≤ b)
  | [] => List.Pairwise.nil
  | x :: l => insI_sorted x _ (insS_sorted l)
theorem sortI_ins : sortI = insS := funext fun l => sortI_eq (insS_perm l).symm (insS_sorted l)
def ordSC (a b : ByteArray) : Int := if Op.bytesLess a.data.toList b.data.toList then -1 else if Op.bytesLess a.data.toList b.data.toList || a.data.toList == b.data.toList then 0 else 1
theorem ordS_C : ordS = ordSC := funext fun a => funext fun b => by unfold ordS ordSC; simp only [ByteArray.toList_eq]
def cmpVC (a b : GValue) : Int := if ordI a.Kind b.Kind ≠ 0 then ordI a.Kind b.Kind else if ordI a.N b.N ≠ 0 then ordI a.N b.N else ordSC a.Text b.Text
def testVC (a : GValue) (op : Int) (b : GValue) (add : Int) : Bool :=
  if validV a = false ∨ validV b = false ∨ a.Kind ≠ b.Kind then false
  else if a.Kind = 2 ∨ a.Kind = 3 then opHolds op (ordI (a.N - b.N) add)
  else if a.Kind = 1 ∨ a.Kind = 4 then (if add ≠ 0 then false else opHolds op (cmpVC a b))
  else false
theorem testV_C : testV = testVC := funext fun a => funext fun op => funext fun b => funext fun add => by
  unfold testV testVC cmpV cmpVC; rw [ordS_C]
def holdsVC (t : GTest) (n : Int) (facts : List GFact) (at_ : List Int) : Bool :=
  (sideV t.Left n at_ facts).2.1 && (sideV t.Right n at_ facts).2.1 &&
  (((sideV t.Left n at_ facts).2.2 || (sideV t.Right n at_ facts).2.2) || testVC (sideV t.Left n at_ facts).1 t.Op (sideV t.Right n at_ facts).1 t.Add)
theorem holdsV_C : holdsV = holdsVC := funext fun t => funext fun n => funext fun f => funext fun at_ => by unfold holdsV holdsVC; rw [testV_C]
def candC (d : GRule) (facts : List GFact) (at_ : List Int) (c : Int) : Bool := decide ((nth facts c.toNat).Table = nth d.Tables at_.length) && !at_.contains c && d.Tests.all fun t => holdsVC t d.Tables.length facts (at_ ++ [c])
theorem cand_C : cand = candC := funext fun d => funext fun f => funext fun at_ => funext fun c => by unfold cand candC okT; rw [holdsV_C]
def asgC (d : GRule) (facts : List GFact) (cands : List Int) : Nat → List Int → List (List Int)
  | 0, at_ => [insS at_]
  | n + 1, at_ => cands.flatMap fun c => if candC d facts at_ c then asgC d facts cands n (at_ ++ [c]) else []
theorem asg_C (d : GRule) (facts : List GFact) (cands : List Int) : ∀ n at_, asg d facts cands n at_ = asgC d facts cands n at_
  | 0, at_ => by rw [asg, asgC, sortI_ins]
  | n + 1, at_ => by
    rw [asg, asgC, cand_C]
    congr 1
    funext c
    rw [asg_C d facts cands n]
def witsC (rules : List GRule) (facts : List GFact) (cands : List Int) : List (List Int) := excl facts [] cands ++ (loweredR rules).flatMap fun d => asgC d facts cands d.Tables.length []
theorem wits_C (rules : List GRule) (facts : List GFact) (cands : List Int) : wits rules facts cands = witsC rules facts cands := by
  unfold wits witsC
  congr 2
  funext d
  exact asg_C _ _ _ _ _
theorem minM_eq {W l : List (List Int)} (hW : ∀ s ∈ W, s.length ≤ 3 ∧ ∀ x ∈ s, 0 ≤ x ∧ x < 100) (hl : Strict l) (h1 : ∀ s ∈ l, s ∈ W ∧ ∀ t ∈ W, t.Sublist s → t = [] ∨ t = s) (h2 : ∀ s ∈ W, s ∈ l ∨ ∃ t ∈ W, t.Sublist s ∧ t ≠ [] ∧ t ≠ s) : minM W = l := by
  refine strict_ext (minM_strict W) hl fun s => ?_
  rw [minM_iff hW]
  constructor
  · rintro ⟨q1, q2⟩
    rcases h2 s q1 with h | ⟨t, a, b, c, d⟩
    · exact h
    · exact absurd a (q2 t b c d)
  · intro hs
    refine ⟨(h1 s hs).1, fun t q1 q2 q3 q4 => ?_⟩
    rcases (h1 s hs).2 t q4 q1 with h | h
    · exact q2 h
    · exact q3 h
/-! ### Who is met, so that it can be reckoned -/
def meetB (d : GRule) (i j : Int) (x y : GFact) : Bool := decide (x.Table = nth d.Tables i.toNat) && decide (y.Table = nth d.Tables j.toNat) && (eqsV d i j).all fun c => colEq x c.1 y c.2
def metB (rules : List GRule) (x y : GFact) : Bool := decide (x.Entity = y.Entity) || (loweredR rules).any fun d => (List.range d.Tables.length).any fun i => (List.range d.Tables.length).any fun j => decide (i ≠ j) && meetB d i j x y
theorem meetB_iff {d : GRule} {i j : Int} {x y : GFact} : meetB d i j x y = true ↔ meetP d i j x y := by
  simp only [meetB, meetP, Bool.and_eq_true, decide_eq_true_eq, List.all_eq_true, and_assoc]
theorem metB_iff {rules : List GRule} {x y : GFact} : metB rules x y = true ↔ MeetsP rules x y := by
  simp only [metB, MeetsP, Bool.or_eq_true, Bool.and_eq_true, decide_eq_true_eq, List.any_eq_true, List.mem_range, meetB_iff]
  constructor
  · rintro (h | ⟨d, hd, i, hi, j, hj, hij, h⟩)
    · exact .inl h
    · exact .inr ⟨d, hd, i, j, hi, hj, hij, h⟩
  · rintro (h | ⟨d, hd, i, j, hi, hj, hij, h⟩)
    · exact .inl h
    · exact .inr ⟨d, hd, i, hi, j, hj, hij, h⟩
theorem metL_eq (rules : List GRule) (ps : PS) (f : GFact) : metL rules ps f = ps.filter fun p => metB rules f p.2 := by
  unfold metL
  refine List.filter_congr fun p _ => ?_
  rw [Bool.eq_iff_iff, metB_iff]; simp
def colEqC (x : GFact) (a : Int) (y : GFact) (b : Int) : Bool := ((decide (0 ≤ a) && decide (a < (x.Row.length : Int))) && (decide (0 ≤ b) && decide (b < (y.Row.length : Int)))) && testVC (nth x.Row a.toNat) 1 (nth y.Row b.toNat) 0
theorem colEq_C : colEq = colEqC := funext fun x => funext fun a => funext fun y => funext fun b => by unfold colEq colEqC; rw [testV_C]
def meetC (d : GRule) (i j : Int) (x y : GFact) : Bool := decide (x.Table = nth d.Tables i.toNat) && decide (y.Table = nth d.Tables j.toNat) && (eqsV d i j).all fun c => colEqC x c.1 y c.2
def metC (rules : List GRule) (x y : GFact) : Bool := decide (x.Entity = y.Entity) || (loweredR rules).any fun d => (List.range d.Tables.length).any fun i => (List.range d.Tables.length).any fun j => decide (i ≠ j) && meetC d i j x y
theorem metN_C (rules : List GRule) (ps : PS) (f : GFact) : metN rules ps f = (((ps.filter fun p => metC rules f p.2).length : Nat) : Int) := by
  unfold metN
  rw [metL_eq]
  have : metB = metC := funext fun r => funext fun x => funext fun y => by unfold metB metC meetB meetC; rw [colEq_C]
  rw [this]
/-! ### The example -/
def hxF (e : Int) (s : ByteArray) : GFact := ⟨0, e, 0, [⟨1, 0, s⟩], 0, []⟩
def xB : ByteArray := ⟨#[120]⟩
def yB : ByteArray := ⟨#[121]⟩
def rH : List GRule := [rUnq]
def hp1 : PS := [(5, hxF 0 xB)]
def hp2 : PS := [(3, hxF 1 yB), (5, hxF 0 xB)]
def hp3 : PS := [(3, hxF 1 yB), (5, hxF 0 xB), (9, hxF 2 xB)]
def hp4 : PS := [(1, hxF 3 xB), (3, hxF 1 yB), (5, hxF 0 xB), (9, hxF 2 xB)]
def hp5 : PS := [(1, hxF 3 xB), (3, hxF 1 yB), (9, hxF 2 xB)]
theorem rH_few : RFew rH := ⟨by decide, by decide⟩
theorem pe1 : putE [] 5 = 0 := by decide
theorem pe2 : putE hp1 3 = 0 := by decide
theorem pe3 : putE hp2 9 = 0 := by decide
theorem pe4 : putE hp3 1 = 0 := by decide
theorem pe6 : putE hp5 1 = 9 := by decide
theorem pe7 : putE hp5 (-1) = 1 := by decide
theorem de5 : dropE hp4 5 = 0 := by decide
theorem de6 : dropE hp5 5 = 11 := by decide
theorem pp1 : putP [] 5 (hxF 0 xB) = hp1 := rfl
theorem pp2 : putP hp1 3 (hxF 1 yB) = hp2 := rfl
theorem pp3 : putP hp2 9 (hxF 2 xB) = hp3 := rfl
theorem pp4 : putP hp3 1 (hxF 3 xB) = hp4 := rfl
theorem pd5 : remP hp4 5 = hp5 := rfl
theorem pp6 (f : GFact) : putP hp5 1 f = hp5 := rfl
theorem pp7 (f : GFact) : putP hp5 (-1) f = hp5 := rfl
theorem pd6 : remP hp5 5 = hp5 := rfl
theorem pw1 : putW rH [] 5 (hxF 0 xB) = 0 := by rw [putW, if_pos pe1, metN_C]; decide +kernel
theorem pw2 : putW rH hp1 3 (hxF 1 yB) = 0 := by rw [putW, if_pos pe2, metN_C]; decide +kernel
theorem pw3 : putW rH hp2 9 (hxF 2 xB) = 1 := by rw [putW, if_pos pe3, metN_C]; decide +kernel
theorem pw4 : putW rH hp3 1 (hxF 3 xB) = 2 := by rw [putW, if_pos pe4, metN_C]; decide +kernel
theorem pw6 (f : GFact) : putW rH hp5 1 f = 0 := by rw [putW, pe6]; rfl
theorem pw7 (f : GFact) : putW rH hp5 (-1) f = 0 := by rw [putW, pe7]; rfl
theorem vw2 : allW rH (gsP hp2) = [] := by rw [allW, wits_C]; decide +kernel
theorem vw3 : allW rH (gsP hp3) = [[1, 2], [1, 2]] := by rw [allW, wits_C]; decide +kernel
theorem vw4 : allW rH (gsP hp4) = [[0, 2], [0, 3], [0, 2], [2, 3], [0, 3], [2, 3]] := by rw [allW, wits_C]; decide +kernel
theorem vw5 : allW rH (gsP hp5) = [[0, 2], [0, 2]] := by rw [allW, wits_C]; decide +kernel
theorem vv2 : vioN rH hp2 = [] := by
  have : vioM rH (gsP hp2) = [] := by rw [vioM, show wits rH (gsP hp2) (iota (gsP hp2).length) = _ from vw2]; exact minM_eq (by decide) (by decide) (by decide) (by decide)
  rw [vioN, this]; rfl
theorem vv3 : vioN rH hp3 = [[5, 9]] := by
  have : vioM rH (gsP hp3) = [[1, 2]] := by rw [vioM, show wits rH (gsP hp3) (iota (gsP hp3).length) = _ from vw3]; exact minM_eq (by decide) (by decide) (by decide) (by decide)
  rw [vioN, this]; rfl
theorem vv4 : vioN rH hp4 = [[1, 5], [1, 9], [5, 9]] := by
  have : vioM rH (gsP hp4) = [[0, 2], [0, 3], [2, 3]] := by rw [vioM, show wits rH (gsP hp4) (iota (gsP hp4).length) = _ from vw4]; exact minM_eq (by decide) (by decide) (by decide) (by decide)
  rw [vioN, this]; rfl
theorem vv5 : vioN rH hp5 = [[1, 9]] := by
  have : vioM rH (gsP hp5) = [[0, 2]] := by rw [vioM, show wits rH (gsP hp5) (iota (gsP hp5).length) = _ from vw5]; exact minM_eq (by decide) (by decide) (by decide) (by decide)
  rw [vioN, this]; rfl
open Go Go.Proofs Go.Proofs.Tryz
theorem Spec.cst {P : Program} {f : Nat} {As : List Ty} {L : List SP} {R R' : Ty} {L1 L2 : List SP} (e1 : R = R') (e2 : L1 = L2) (h : Spec (X := Unit) P f As L (fun _ => R) (fun _ => L1)) : Spec (X := Unit) P f As L (fun _ => R') (fun _ => L2) := by subst e1 e2; exact h
theorem vg_eq {rules : List GRule} {b : Nat} {ps ps' : PS} {w w' : Int} (e1 : ps = ps') (e2 : w = w') : [vigO rules b ps w] = [vigO rules b ps' w'] := by rw [e1, e2]
theorem ti_eq {x y : Int} (e : x = y) : tV (.int .i64 x) = tV (.int .i64 y) := by rw [e]
theorem hk0 : POk [] := ⟨List.Pairwise.nil, fun n h => by cases h⟩
theorem hk1 : POk hp1 := putP_ok hk0 5 (hxF 0 xB)
theorem hk2 : POk hp2 := putP_ok hk1 3 (hxF 1 yB)
theorem hk3 : POk hp3 := putP_ok hk2 9 (hxF 2 xB)
theorem hk4 : POk hp4 := putP_ok hk3 1 (hxF 3 xB)
theorem hk5 : POk hp5 := hk4.rem (n := 5)
theorem put1_spec (b : Nat) : Spec (X := Unit) prog 21 [tAt b 0, tV (.int .i64 5), rFact.ty (hxF 0 xB)] [vigO rH b [] 0] (fun _ => tV (.int .i64 0)) (fun _ => [vigO rH b hp1 0]) := Spec.cst (ti_eq pe1) (vg_eq pp1 (by rw [pw1]; rfl)) (PutV_spec rH_few hk0 b 5 (hxF 0 xB) (by decide) (by decide) (by decide))
theorem put2_spec (b : Nat) : Spec (X := Unit) prog 21 [tAt b 0, tV (.int .i64 3), rFact.ty (hxF 1 yB)] [vigO rH b hp1 0] (fun _ => tV (.int .i64 0)) (fun _ => [vigO rH b hp2 0]) := Spec.cst (ti_eq pe2) (vg_eq pp2 (by rw [pw2]; rfl)) (PutV_spec rH_few hk1 b 3 (hxF 1 yB) (by decide) (by decide) (by decide))
theorem put3_spec (b : Nat) : Spec (X := Unit) prog 21 [tAt b 0, tV (.int .i64 9), rFact.ty (hxF 2 xB)] [vigO rH b hp2 0] (fun _ => tV (.int .i64 0)) (fun _ => [vigO rH b hp3 1]) := Spec.cst (ti_eq pe3) (vg_eq pp3 (by rw [pw3]; rfl)) (PutV_spec rH_few hk2 b 9 (hxF 2 xB) (by decide) (by decide) (by decide))
theorem put4_spec (b : Nat) : Spec (X := Unit) prog 21 [tAt b 0, tV (.int .i64 1), rFact.ty (hxF 3 xB)] [vigO rH b hp3 1] (fun _ => tV (.int .i64 0)) (fun _ => [vigO rH b hp4 3]) := Spec.cst (ti_eq pe4) (vg_eq pp4 (by rw [pw4]; rfl)) (PutV_spec rH_few hk3 b 1 (hxF 3 xB) (by decide) (by decide) (by decide))
theorem put6_spec (b : Nat) (f : GFact) (hf : f.Row.length ≤ 1000000) : Spec (X := Unit) prog 21 [tAt b 0, tV (.int .i64 1), rFact.ty f] [vigO rH b hp5 3] (fun _ => tV (.int .i64 9)) (fun _ => [vigO rH b hp5 3]) := Spec.cst (ti_eq pe6) (vg_eq (pp6 f) (by rw [pw6 f]; rfl)) (PutV_spec rH_few hk5 b 1 f (by decide) hf (by decide))
theorem put7_spec (b : Nat) (f : GFact) (hf : f.Row.length ≤ 1000000) : Spec (X := Unit) prog 21 [tAt b 0, tV (.int .i64 (-1)), rFact.ty f] [vigO rH b hp5 3] (fun _ => tV (.int .i64 1)) (fun _ => [vigO rH b hp5 3]) := Spec.cst (ti_eq pe7) (vg_eq (pp7 f) (by rw [pw7 f]; rfl)) (PutV_spec rH_few hk5 b (-1) f (by decide) hf (by decide))
theorem drop5_spec (b : Nat) : Spec (X := Unit) prog 25 [tAt b 0, tV (.int .i64 5)] [vigO rH b hp4 3] (fun _ => tV (.int .i64 0)) (fun _ => [vigO rH b hp5 3]) := Spec.cst (ti_eq de5) (vg_eq pd5 rfl) (DropV_spec rH_few hk4 b 5)
theorem drop6_spec (b : Nat) : Spec (X := Unit) prog 25 [tAt b 0, tV (.int .i64 5)] [vigO rH b hp5 3] (fun _ => tV (.int .i64 11)) (fun _ => [vigO rH b hp5 3]) := Spec.cst (ti_eq de6) (vg_eq pd6 rfl) (DropV_spec rH_few hk5 b 5)
theorem lst2_spec (b : Nat) : Spec (X := Unit) prog 18 [tAt b 0] [vigO rH b hp2 0] (fun _ => tSlE 33 rI2 []) (fun _ => [vigO rH b hp2 0]) := Spec.cst (by rw [vv2]) rfl (ListV_spec rH_few hk2 b (by decide))
theorem lst3_spec (b : Nat) : Spec (X := Unit) prog 18 [tAt b 0] [vigO rH b hp3 1] (fun _ => tSlE 33 rI2 [[5, 9]]) (fun _ => [vigO rH b hp3 1]) := Spec.cst (by rw [vv3]) rfl (ListV_spec rH_few hk3 b (by decide))
theorem lst4_spec (b : Nat) : Spec (X := Unit) prog 18 [tAt b 0] [vigO rH b hp4 3] (fun _ => tSlE 33 rI2 [[1, 5], [1, 9], [5, 9]]) (fun _ => [vigO rH b hp4 3]) := Spec.cst (by rw [vv4]) rfl (ListV_spec rH_few hk4 b (by decide))
theorem lst5_spec (b : Nat) : Spec (X := Unit) prog 18 [tAt b 0] [vigO rH b hp5 3] (fun _ => tSlE 33 rI2 [[1, 9]]) (fun _ => [vigO rH b hp5 3]) := Spec.cst (by rw [vv5]) rfl (ListV_spec rH_few hk5 b (by decide))
theorem sS (l : List (List Int)) : setsB l l = true := setsB_iff.2 rfl
theorem text_spec (e : Int) (s : ByteArray) : Fun1 prog 27 [tV (.int .i64 e), tV (.string s)] (rFact.ty (hxF e s)) := by
 refine Spec.enter func27 rfl rfl fun h0 w0 fr0 => ?_
 refine Jr ?_
 refine Jx rfl (step_alloc (fun w => zeroValue35 w) zr35) fun v4 => ?_
 refine JL_nil (Jr (Jm rfl (Jm rfl (Js rfl (step_build (x := (⟨1, 0, s⟩ : GValue)) (zs := [[Value.int .i64 0], [Value.int .i64 0], [Value.string ⟨#[]⟩]]) so91 (fun w => zeroValue91 w) ⟨Sr, Sr, trivial⟩ ⟨⟨Sr, rfl⟩, fun _ => rfl, ⟨Sr, rfl⟩, trivial⟩) ?_))))
 refine Js rfl (step_literal (ys := [_]) underlying32 el91 ⟨rfl, Sr, trivial⟩ rfl (by decide)) ?_
 refine Js rfl (step_build (x := (hxF e s : GFact)) (zs := [[Value.int .i64 0], [Value.int .i64 0], [Value.int .i64 0], [Value.slice none 0 0], [Value.int .i64 0], [Value.slice none 0 0]]) so35 (fun w => zeroValue35 w) ⟨Sr, Sr, trivial⟩ ⟨fun _ => rfl, ⟨Sr, rfl⟩, fun _ => rfl, ⟨Sr, rfl⟩, fun _ => rfl, fun _ => ⟨_, rfl, none, ⟨0, Nat.le_refl _⟩, rfl, fun q => absurd rfl q⟩, trivial⟩) ?_
 refine Ju (step_store_box ty35 Sr Sr zS) fun _ => ?_
 refine JL_freeze (t := 4) (Sel.take (Sel.none _)) Frz.box ?_
 refine JL_nil (J_ret ?_)
 refine K_retv (rv := .cell 4 35) rfl () (.imm ty35 Sr Sr) Sr
set_option maxHeartbeats 2000000 in
theorem head_spec  : Fun1 prog 9 [] (tV (.bool true)) := by
 refine Spec.enter func9 rfl rfl fun h0 w0 fr0 => ?_
 refine Jr (Ja rfl (JL_nil (Jr ?_)))
 refine Js rfl (step_literal (ys := [_]) underlying33 el3 ⟨rfl, Sr, trivial⟩ rfl (by decide)) ?_
 refine Js rfl (step_build (x := (rUnq : GRule)) (zs := [[Value.int .i64 0], [Value.string ⟨#[]⟩], [Value.int .i64 0], [Value.slice none 0 0], [Value.int .i64 0], [Value.slice none 0 0], [Value.int .i64 0], [Value.int .i64 0], [Value.slice none 0 0], [Value.slice none 0 0]]) so59 (fun w => zeroValue59 w) ⟨Sr, Sr, trivial⟩ ⟨⟨Sr, rfl⟩, fun _ => rfl, fun _ => rfl, ⟨Sr, rfl⟩, fun _ => rfl, fun _ => ⟨_, rfl, none, ⟨0, Nat.le_refl _⟩, rfl, fun q => absurd rfl q⟩, fun _ => rfl, fun _ => rfl, fun _ => ⟨_, rfl, none, ⟨0, Nat.le_refl _⟩, rfl, fun q => absurd rfl q⟩, fun _ => ⟨_, rfl, none, ⟨0, Nat.le_refl _⟩, rfl, fun q => absurd rfl q⟩, trivial⟩) ?_
 refine Js rfl (step_literal (ys := [_]) underlying22 el59 ⟨rfl, Sr, trivial⟩ rfl (by decide)) ?_
 refine Jx rfl (step_call (Sel.none _) (NewV_spec rH_few) ⟨Sr, trivial⟩ call11) fun b1 => ?_
 refine Ja rfl (JL_nil (Jr (Jm rfl (Js rfl (step_call0 (text_spec 0 xB) ⟨Sr, Sr, trivial⟩ call27) ?_))))
 refine Jx rfl (step_call zS (put1_spec b1) ⟨Sr, Sr, Sr, trivial⟩ call21) fun v18 => ?_
 refine Ja rfl (JL_nil (Jr (Jm rfl (Js rfl (step_call0 (text_spec 1 yB) ⟨Sr, Sr, trivial⟩ call27) ?_))))
 refine Jx rfl (step_call zS (put2_spec b1) ⟨Sr, Sr, Sr, trivial⟩ call21) fun v21 => ?_
 refine Ja rfl (JL_nil (Jr (Jm rfl ?_)))
 refine Jx rfl (step_call zS (lst2_spec b1) ⟨Sr, trivial⟩ call18) fun v23 => ?_
 refine Js rfl (step_len_sl underlying45 Sub.ofE) (Js rfl (step_eql Sr Sr) (Jm rfl ?_))
 refine Jk rfl Sr rfl (step_move Sr) ?_
 refine JL_stepGX (tV (.bool false)) rfl rfl rfl (Gd.plain Sr) rfl rfl (fun hw => step_call zS (WorkV_spec (rules := rH) (ps := hp2) (w := 0) b1) ⟨Sub.w hw, trivial⟩ call16) (fun hw v28 => ?_) (fun hw => (by exfalso; simp [sS] at hw))
 refine Jg rfl Sr rfl (fun hw => step_eql (Sub.w hw) Sr) (Js rfl (step_pick_and Sr Sr) (Ja rfl (JL_nil (Jr (Jm rfl ?_)))))
 refine Js rfl (step_call0 (text_spec 2 xB) ⟨Sr, Sr, trivial⟩ call27) ?_
 refine Jx rfl (step_call zS (put3_spec b1) ⟨Sr, Sr, Sr, trivial⟩ call21) fun v33 => ?_
 refine Ja rfl (JL_nil (Jr (Jm rfl ?_)))
 refine Jx rfl (step_call zS (lst3_spec b1) ⟨Sr, trivial⟩ call18) fun v35 => ?_
 refine Js rfl (step_literal (ys := [_, _]) underlying33 el3 ⟨rfl, Sr, rfl, Sr, trivial⟩ rfl (by decide)) ?_
 refine Js rfl (step_literal (ys := [_]) underlying45 el33 ⟨rfl, Sr, trivial⟩ rfl (by decide)) ?_
 refine Js rfl (step_call0 (Sets_spec _ _ (by decide) (by decide) (by decide) (by decide)) ⟨Sub.ofEE, Sr, trivial⟩ call17) ?_
 refine Jm rfl ?_
 refine Jk rfl Sr rfl (step_move Sr) ?_
 refine JL_stepGX (tV (.bool false)) rfl rfl rfl (Gd.plain Sr) rfl rfl (fun hw => step_call zS (WorkV_spec (rules := rH) (ps := hp3) (w := 1) b1) ⟨Sub.w hw, trivial⟩ call16) (fun hw v41 => ?_) (fun hw => (by exfalso; simp [sS] at hw))
 refine Jg rfl Sr rfl (fun hw => step_eql (Sub.w hw) Sr) (Js rfl (step_pick_and Sr Sr) (Ja rfl (JL_nil (Jr (Jm rfl ?_)))))
 refine Js rfl (step_call0 (text_spec 3 xB) ⟨Sr, Sr, trivial⟩ call27) ?_
 refine Jx rfl (step_call zS (put4_spec b1) ⟨Sr, Sr, Sr, trivial⟩ call21) fun v46 => ?_
 refine Ja rfl (JL_nil (Jr (Jm rfl ?_)))
 refine Jx rfl (step_call zS (lst4_spec b1) ⟨Sr, trivial⟩ call18) fun v48 => ?_
 refine Js rfl (step_literal (ys := [_, _]) underlying33 el3 ⟨rfl, Sr, rfl, Sr, trivial⟩ rfl (by decide)) ?_
 refine Js rfl (step_literal (ys := [_, _]) underlying33 el3 ⟨rfl, Sr, rfl, Sr, trivial⟩ rfl (by decide)) ?_
 refine Js rfl (step_literal (ys := [_, _]) underlying33 el3 ⟨rfl, Sr, rfl, Sr, trivial⟩ rfl (by decide)) ?_
 refine Js rfl (step_literal (ys := [_, _, _]) underlying45 el33 ⟨rfl, Sr, rfl, Sr, rfl, Sr, trivial⟩ rfl (by decide)) ?_
 refine Js rfl (step_call0 (Sets_spec _ _ (by decide) (by decide) (by decide) (by decide)) ⟨Sub.ofEE, Sr, trivial⟩ call17) ?_
 refine Jm rfl ?_
 refine Jk rfl Sr rfl (step_move Sr) ?_
 refine JL_stepGX (tV (.bool false)) rfl rfl rfl (Gd.plain Sr) rfl rfl (fun hw => step_call zS (WorkV_spec (rules := rH) (ps := hp4) (w := 3) b1) ⟨Sub.w hw, trivial⟩ call16) (fun hw v56 => ?_) (fun hw => (by exfalso; simp [sS] at hw))
 refine Jg rfl Sr rfl (fun hw => step_eql (Sub.w hw) Sr) (Js rfl (step_pick_and Sr Sr) (Ja rfl (JL_nil (Jr (Jm rfl ?_)))))
 refine Jx rfl (step_call zS (drop5_spec b1) ⟨Sr, Sr, trivial⟩ call25) fun v60 => ?_
 refine Ja rfl (JL_nil (Jr (Jm rfl ?_)))
 refine Jx rfl (step_call zS (lst5_spec b1) ⟨Sr, trivial⟩ call18) fun v62 => ?_
 refine Js rfl (step_literal (ys := [_, _]) underlying33 el3 ⟨rfl, Sr, rfl, Sr, trivial⟩ rfl (by decide)) ?_
 refine Js rfl (step_literal (ys := [_]) underlying45 el33 ⟨rfl, Sr, trivial⟩ rfl (by decide)) ?_
 refine Js rfl (step_call0 (Sets_spec _ _ (by decide) (by decide) (by decide) (by decide)) ⟨Sub.ofEE, Sr, trivial⟩ call17) ?_
 refine Jm rfl ?_
 refine Jk rfl Sr rfl (step_move Sr) ?_
 refine JL_stepGX (tV (.bool false)) rfl rfl rfl (Gd.plain Sr) rfl rfl (fun hw => step_call zS (WorkV_spec (rules := rH) (ps := hp5) (w := 3) b1) ⟨Sub.w hw, trivial⟩ call16) (fun hw v68 => ?_) (fun hw => (by exfalso; simp [sS] at hw))
 refine Jg rfl Sr rfl (fun hw => step_eql (Sub.w hw) Sr) (Js rfl (step_pick_and Sr Sr) (Ja rfl (JL_nil (Jr (Ja rfl ?_)))))
 refine JL_nil (Jr (Jm rfl (Jm rfl ?_)))
 refine Jk rfl Sr rfl (step_move Sr) ?_
 refine Js rfl (step_pick_and Sr Sr) (Jm rfl ?_)
 refine Jk rfl Sr rfl (step_move Sr) ?_
 refine Js rfl (step_pick_and Sr Sr) (Jm rfl ?_)
 refine Jk rfl Sr rfl (step_move Sr) ?_
 refine Js rfl (step_pick_and Sr Sr) (Jm rfl ?_)
 refine Jk rfl Sr rfl (step_move Sr) ?_
 refine Jg rfl Sr rfl (fun hw => step_eql (Sub.w hw) Sr) (Js rfl (step_pick_and Sr Sr) (Jm rfl ?_))
 refine Jk rfl Sr rfl (step_move Sr) ?_
 refine Jg rfl Sr rfl (fun hw => step_eql (Sub.w hw) Sr) (Js rfl (step_pick_and Sr Sr) (Jm rfl ?_))
 refine Jk rfl Sr rfl (step_move Sr) ?_
 refine Jg rfl Sr rfl (fun hw => step_eql (Sub.w hw) Sr) (Js rfl (step_pick_and Sr Sr) (Jm rfl ?_))
 refine Jk rfl Sr rfl (step_move Sr) ?_
 refine Jg rfl Sr rfl (fun hw => step_eql (Sub.w hw) Sr) (Js rfl (step_pick_and Sr Sr) (Jm rfl ?_))
 refine Jk rfl Sr rfl (step_move Sr) ?_
 refine Jg rfl Sr rfl (fun hw => step_eql (Sub.w hw) Sr) (Js rfl (step_pick_and Sr Sr) (Jm rfl ?_))
 refine Jk rfl Sr rfl (step_move Sr) ?_
 refine Jk rfl Sr rfl (step_call0 (text_spec 0 _) ⟨Sr, Sr, trivial⟩ call27) ?_
 refine JL_stepGX (tV (.bool false)) rfl rfl rfl (Gd.plain Sr) rfl rfl (fun hw => step_call zS (put6_spec b1 _ (by decide)) ⟨Sub.w hw, Sr, Sub.w hw, trivial⟩ call21) (fun hw v104 => ?_) (fun hw => (by exfalso; simp [sS] at hw))
 refine Jg rfl Sr rfl (fun hw => step_eql (Sub.w hw) Sr) (Js rfl (step_pick_and Sr Sr) (Jm rfl ?_))
 refine Jk rfl Sr rfl (step_move Sr) ?_
 refine JL_stepGX (tV (.bool false)) rfl rfl rfl (Gd.plain Sr) rfl rfl (fun hw => step_call zS (drop6_spec b1) ⟨Sub.w hw, Sr, trivial⟩ call25) (fun hw v109 => ?_) (fun hw => (by exfalso; simp [sS] at hw))
 refine Jg rfl Sr rfl (fun hw => step_eql (Sub.w hw) Sr) (Js rfl (step_pick_and Sr Sr) (Jm rfl ?_))
 refine Jk rfl Sr rfl (step_move Sr) ?_
 refine Jk rfl Sr rfl (step_call0 (text_spec 0 _) ⟨Sr, Sr, trivial⟩ call27) ?_
 refine JL_stepGX (tV (.bool false)) rfl rfl rfl (Gd.plain Sr) rfl rfl (fun hw => step_call zS (put7_spec b1 _ (by decide)) ⟨Sub.w hw, Sr, Sub.w hw, trivial⟩ call21) (fun hw v115 => ?_) (fun hw => (by exfalso; simp [sS] at hw))
 refine Jg rfl Sr rfl (fun hw => step_eql (Sub.w hw) Sr) (Js rfl (step_pick_and Sr Sr) (Jm rfl ?_))
 refine Jk rfl Sr rfl (step_move Sr) ?_
 refine Jg rfl Sr rfl (fun hw => step_call0 (Drop0_spec 1) ⟨Sub.w hw, Sr, trivial⟩ call25) (Jg rfl Sr rfl (fun hw => step_eql (Sub.w hw) Sr) (Js rfl (step_pick_and Sr Sr) (Jm rfl ?_)))
 refine Jk rfl Sr rfl (step_move Sr) ?_
 refine Jg rfl Sr rfl (fun hw => step_call0 Work0_spec ⟨Sub.w hw, trivial⟩ call16) (Jg rfl Sr rfl (fun hw => step_eql (Sub.w hw) Sr) (Js rfl (step_pick_and Sr Sr) (Ja rfl (JL_nil (J_ret ?_)))))
 refine K_drop (S := [vigO rH b1 hp5 3]) zS ?_
 refine K_retv (rv := .tmp 0) rfl () (.tmp Sr) (Sub.bool (by simp [sS]))
open Go Go.Proofs Go.Proofs.Tryz
/-- How much was done. -/
noncomputable def workF (rules : List GRule) : PS → List GOp → Int
  | _, [] => 0
  | ps, x :: l => opW rules ps x + workF rules (opP ps x) l
theorem workF_snoc (rules : List GRule) (x : GOp) : ∀ (l : List GOp) (ps : PS), workF rules ps (l ++ [x]) = workF rules ps l + opW rules (l.foldl opP ps) x
  | [], ps => by simp [workF]
  | y :: l, ps => by
    show opW rules ps y + workF rules (opP ps y) (l ++ [x]) = opW rules ps y + workF rules (opP ps y) l + _
    rw [workF_snoc rules x l, Int.add_assoc]; rfl
theorem opW_bd (rules : List GRule) (ps : PS) (x : GOp) : 0 ≤ opW rules ps x ∧ opW rules ps x ≤ (ps.length : Int) := by
  have := metN_le rules ps x.Fact
  unfold opW putW
  split
  · omega
  · split <;> omega
theorem workF_bd (rules : List GRule) (m : Nat) : ∀ (l : List GOp) (ps : PS), ps.length + l.length ≤ m → 0 ≤ workF rules ps l ∧ workF rules ps l ≤ ((l.length * m : Nat) : Int)
  | [], ps, _ => by simp [workF]
  | x :: l, ps, h => by
    have h1 := opW_bd rules ps x
    have h2 := opP_len ps x
    simp only [List.length_cons] at h
    have h3 := workF_bd rules m l (opP ps x) (by omega)
    show 0 ≤ opW rules ps x + workF rules (opP ps x) l ∧ opW rules ps x + workF rules (opP ps x) l ≤ (((l.length + 1) * m : Nat) : Int)
    rw [Nat.succ_mul]
    constructor
    · omega
    · push_cast at h3 ⊢; omega
noncomputable def workM (rules : List GRule) (l : List GOp) : Int := workF rules [] l
theorem workM_succ (rules : List GRule) {l : List GOp} {i : Nat} (h : i < l.length) : workM rules (l.take (i + 1)) = workM rules (l.take i) + opW rules (presM (l.take i)) (nth l i) := by rw [takeV h]; exact workF_snoc _ _ _ _
theorem workM_bd (rules : List GRule) {l : List GOp} (h : l.length ≤ 12) : 0 ≤ workM rules l ∧ workM rules l ≤ 144 := by
  have := workF_bd rules 12 l [] (by simpa using h)
  have h2 : l.length * 12 ≤ 144 := by omega
  unfold workM; omega
theorem take_len12 {l : List GOp} {i : Nat} (h : l.length ≤ 12) : (l.take i).length ≤ 12 := by rw [List.length_take]; omega
theorem pres12 {l : List GOp} {i : Nat} (h : l.length ≤ 12) : (presM (l.take i)).length ≤ 12 := Nat.le_trans (presM_len _) (take_len12 h)
structure FewO (rules : List GRule) (l : List GOp) : Prop where
  rf : RFew rules
  ll : l.length ≤ 12
  row : ∀ x ∈ l, x.Fact.Row.length ≤ 1000000
theorem FewO.of {rules : List GRule} {l : List GOp} (h : fewB rules (l.map GOp.Fact) 12 = true) : FewO rules l := by
  have h2 := FewP.of h
  refine ⟨⟨h2.rl, h2.rr⟩, by have := h2.fl; rwa [List.length_map] at this, fun x hx => ?_⟩
  simp only [fewB, Bool.and_eq_true, List.all_eq_true, fewF, decide_eq_true_eq] at h
  have := (h.2 _ (List.mem_map.2 ⟨x, hx, rfl⟩)).1
  omega
theorem FewO.step {rules : List GRule} {l : List GOp} (h : FewO rules l) (b : Nat) {i : Nat} (hi : i < l.length) : Spec (X := Unit) prog 13 [tAt b 0, rOp.ty (nth l i)] [vigO rules b (presM (l.take i)) (workM rules (l.take i))] (fun _ => tV (.int .i64 (opE (presM (l.take i)) (nth l i)))) (fun _ => [vigO rules b (presM (l.take (i + 1))) (workM rules (l.take (i + 1)))]) := by
  rw [presM_succ hi, workM_succ rules hi]
  have hw := workM_bd rules (l := l.take i) (take_len12 h.ll)
  exact do_spec h.rf (presM_ok _) b (nth l i) (pres12 h.ll) (h.row _ (nth_mem hi)) (by omega)
theorem vioN_len {rules : List GRule} {ps : PS} (hr : RFew rules) (hl : ps.length ≤ 12) : (vioN rules ps).length ≤ 20000 := by
  rw [vioN, List.length_map]; exact vio_len (hr.hyp (by rw [gsP_len]; exact hl))
theorem vioN_el {rules : List GRule} {ps : PS} (hr : RFew rules) (hl : ps.length ≤ 12) : ∀ x ∈ vioN rules ps, x.length ≤ 3 := fun x hx => by
  obtain ⟨s, hs, rfl⟩ := List.mem_map.1 hx
  rw [List.length_map]; exact (vio_w (hr.hyp (by rw [gsP_len]; exact hl)) hs).2.2.1
theorem SetsN_spec {a b : List (List Int)} (ha : a.length ≤ 20000 ∧ ∀ x ∈ a, x.length ≤ 3) (hb : b.length ≤ 20000 ∧ ∀ x ∈ b, x.length ≤ 3) : Fun1 prog 17 [tSl (rSl rInt) a, tSl (rSl rInt) b] (tV (.bool (setsB a b))) :=
  Sets_spec a b (by omega) (by omega) (fun x hx => by have := ha.2 x hx; omega) (fun x hx => by have := hb.2 x hx; omega)
theorem vioN_ok {rules : List GRule} {ps : PS} (hr : RFew rules) (hl : ps.length ≤ 12) : (vioN rules ps).length ≤ 20000 ∧ ∀ x ∈ vioN rules ps, x.length ≤ 3 := ⟨vioN_len hr hl, vioN_el hr hl⟩
open Go Go.Proofs Go.Proofs.Tryz
theorem ListW_spec {rules : List GRule} (hr : RFew rules) {ps : PS} (hp : POk ps) {w : Int} (b : Nat) (hl : ps.length ≤ 12) : Spec (X := Unit) prog 18 [tAt b 0] [vigO rules b ps w] (fun _ => tSl (rSl rInt) (vioN rules ps)) (fun _ => [vigO rules b ps w]) :=
  Spec.post (fun _ => ()) (fun _ => Sub.ofEE) (fun _ => LSub.rfl) (ListV_spec hr hp b hl)
/-! ### What an operation returns -/
/-! ### Putting what is present from its end -/
open Go Go.Proofs Go.Proofs.Tryz
def colP (f : GFact) (c : Int) : GValue × Bool := if c < 0 ∨ (f.Row.length : Int) ≤ c then (zValue, false) else (nth f.Row c.toNat, true)
theorem colP_eq (x : GFact) (a : Int) (y : GFact) (b : Int) : ((colP x a).2 && (colP y b).2 && testV (colP x a).1 1 (colP y b).1 0) = colEq x a y b := by
  unfold colP colEq
  by_cases h1 : a < 0 ∨ (x.Row.length : Int) ≤ a
  · rw [if_pos h1]
    have : (decide (0 ≤ a) && decide (a < (x.Row.length : Int))) = false := by simp; omega
    simp [this]
  · rw [if_neg h1]
    have e1 : (decide (0 ≤ a) && decide (a < (x.Row.length : Int))) = true := by simp; omega
    by_cases h2 : b < 0 ∨ (y.Row.length : Int) ≤ b
    · rw [if_pos h2]
      have : (decide (0 ≤ b) && decide (b < (y.Row.length : Int))) = false := by simp; omega
      simp [this]
    · rw [if_neg h2]
      have e2 : (decide (0 ≤ b) && decide (b < (y.Row.length : Int))) = true := by simp; omega
      rw [e1, e2]; first | done | rfl
/-- What a test says of two facts that are to meet. -/
def tstM (i j : Int) (x y : GFact) (t : GTest) : Bool := (eqT i j t).all fun c => colEq x c.1 y c.2
theorem eqs_all (d : GRule) (i j : Int) (x y : GFact) : ((eqsV d i j).all fun c => colEq x c.1 y c.2) = d.Tests.all (tstM i j x y) := by
  unfold eqsV tstM; rw [List.all_flatMap]
theorem colEq_comm (x : GFact) (a : Int) (y : GFact) (b : Int) : colEq x a y b = colEq y b x a := by
  rw [Bool.eq_iff_iff]; exact ⟨colEq_symm, colEq_symm⟩
theorem tstM_skip {i j : Int} {x y : GFact} {t : GTest} (h : ¬ t.Op = 1 ∨ ¬ t.Add = 0) : tstM i j x y t = true := by
  unfold tstM eqT; rw [if_pos (by simpa using h)]; rfl
theorem tstM_a {i j : Int} {x y : GFact} {t : GTest} (h : t.Op = 1 ∧ t.Add = 0) (h1 : t.Left.Var = i ∧ t.Right.Var = j) : tstM i j x y t = colEq x t.Left.Col y t.Right.Col := by
  unfold tstM eqT; rw [if_neg (by omega), if_pos h1]; simp
theorem tstM_b {i j : Int} {x y : GFact} {t : GTest} (h : t.Op = 1 ∧ t.Add = 0) (hij : i ≠ j) (h1 : t.Left.Var = j ∧ t.Right.Var = i) : tstM i j x y t = colEq y t.Left.Col x t.Right.Col := by
  unfold tstM eqT; rw [if_neg (by omega), if_neg (by omega), if_pos h1]; simp [colEq_comm]
theorem tstM_c {i j : Int} {x y : GFact} {t : GTest} (h1 : ¬ (t.Left.Var = i ∧ t.Right.Var = j)) (h2 : ¬ (t.Left.Var = j ∧ t.Right.Var = i)) : tstM i j x y t = true := by
  unfold tstM eqT
  split
  · rfl
  · first | rfl | (rw [if_neg h1, if_neg h2]; rfl)
theorem tstM_ok {i j : Int} {x y : GFact} {t : GTest} (hij : i ≠ j) (h1 : (t.Left.Var = i ∧ t.Right.Var = j) → colEq x t.Left.Col y t.Right.Col = true) (h2 : (t.Left.Var = j ∧ t.Right.Var = i) → colEq y t.Left.Col x t.Right.Col = true) : tstM i j x y t = true := by
  by_cases h : t.Op = 1 ∧ t.Add = 0
  · by_cases a : t.Left.Var = i ∧ t.Right.Var = j
    · rw [tstM_a h a]; exact h1 a
    · by_cases b : t.Left.Var = j ∧ t.Right.Var = i
      · rw [tstM_b h hij b]; exact h2 b
      · exact tstM_c a b
  · exact tstM_skip (by omega)
/-- Meeting for a denial. -/
def metD (d : GRule) (x y : GFact) (i : Nat) : Bool := (List.range d.Tables.length).any fun j => decide (i ≠ j) && meetB d i j x y
def metR (r : GRule) (x y : GFact) : Bool := ((lowerR r).filter okD3).any fun d => (List.range d.Tables.length).any (metD d x y)
theorem metB_eq (rules : List GRule) (x y : GFact) : metB rules x y = (decide (x.Entity = y.Entity) || rules.any fun r => metR r x y) := by
  unfold metB loweredR metR metD; rw [List.any_flatMap]
theorem metR_no {r : GRule} {x y : GFact} (h : ¬ (((lowerR r).length : Int) = 1) ∨ (((nth (lowerR r) 0).Tables.length : Int)) > 3) : metR r x y = false := by
  unfold metR
  have hl := lowerR_len r
  match e : lowerR r, hl with
  | [], _ => rfl
  | [d], _ =>
    rw [e] at h
    have h2 : (d.Tables.length : Int) > 3 := by
      rcases h with h | h
      · simp at h
      · exact h
    have : okD3 d = false := by
      rw [← Bool.not_eq_true]; simp only [okD3, Bool.and_eq_true, decide_eq_true_eq]; omega
    simp [List.filter, this]
theorem metR_at {r : GRule} {x y : GFact} (h1 : ((lowerR r).length : Int) = 1) (h2 : ((nth (lowerR r) 0).Tables.length : Int) ≤ 3) : metR r x y = (List.range (nth (lowerR r) 0).Tables.length).any (metD (nth (lowerR r) 0) x y) := by
  unfold metR
  have hl := lowerR_len r
  match e : lowerR r, hl with
  | [], _ => rw [e] at h1; simp at h1
  | [d], _ =>
    rw [e] at h2
    have h2 : (d.Tables.length : Int) ≤ 3 := h2
    show _ = (List.range d.Tables.length).any (metD d x y)
    by_cases h0 : d.Tables.length = 0
    · rw [h0]
      cases ho : okD3 d <;> simp [List.filter, ho, h0]
    · have : okD3 d = true := by simp only [okD3, Bool.and_eq_true, decide_eq_true_eq]; omega
      simp [List.filter, this]
theorem any_rg {n : Nat} {p : Nat → Bool} (h : ∀ q, q < n → p q = false) : (List.range n).any p = false := by
  rw [← Bool.not_eq_true, List.any_eq_true]
  rintro ⟨q, hq, e⟩
  rw [h q (List.mem_range.1 hq)] at e; cases e
theorem any_rg1 {n i : Nat} {p : Nat → Bool} (hi : i < n) (h : p i = true) : (List.range n).any p = true := List.any_eq_true.2 ⟨i, List.mem_range.2 hi, h⟩
theorem any_no {rules : List GRule} {x y : GFact} (h : ∀ q, q < rules.length → metR (nth rules q) x y = false) : (rules.any fun r => metR r x y) = false := by
  rw [← Bool.not_eq_true, List.any_eq_true]
  rintro ⟨r, hr, e⟩
  obtain ⟨q, hq, rfl⟩ := mem_nthV hr
  rw [h q hq] at e; cases e
theorem colP_spec (f : GFact) (c : Int) : Fun1 prog 94 [rFact.ty f, tV (.int .i64 c)] (tTup [rValue.ty (colP f c).1, tV (.bool (colP f c).2)]) := by
 refine Spec.enter func94 rfl rfl fun h0 w0 fr0 => ?_
 refine Jr (Js rfl (step_box (R := rFact) Sr) ?_)
 refine Jx rfl (step_alloc (fun w => zeroValue91 w) zr91) fun v4 => ?_
 refine Ja rfl (JL_nil (J_seq (Jr (Jm rfl (Js rfl (step_lss Sr Sr) ?_)))))
 refine Jm rfl ?_
 refine Jk rfl Sr rfl (step_move Sr) ?_
 refine Jk rfl Sr rfl (step_fieldAddr so35 Sr rfl) ?_
 refine Jg rfl Sr rfl (fun hw => step_load_ptr ty32 (Sub.w hw)) (Jg rfl Sr rfl (fun hw => step_len_sl underlying32 (Sub.w hw)) (Jg rfl Sr rfl (fun hw => step_geq (Sub.w hw) (Sub.w hw)) (Js rfl (step_pick_or Sr Sr) (JL_nil ?_))))
 refine J_cond Sr (fun h14 => ?_) (fun h14 => ?_)
 ·
  try simp only [NF] at h14
  refine Jr (Js rfl (step_build (x := (zValue : GValue)) (zs := [[Value.int .i64 0], [Value.int .i64 0], [Value.string ⟨#[]⟩]]) so91 (fun w => zeroValue91 w) trivial ⟨fun _ => rfl, fun _ => rfl, fun _ => rfl, trivial⟩) ?_)
  refine Ju (step_store_box ty91 Sr Sr zS) fun _ => ?_
  refine Ja rfl (JL_nil (J_ret ?_))
  refine K_ret2' (rv := .cell 4 91) (rv' := .tmp 5) rfl () (Sel.all _) (.cell ty91 Sr zS Sr) (.tmp Sr) (Frz.sub ?_) (Frz.sub ?_) Sr
  ·
   rw [colP, if_pos h14]; exact Sr
  rw [colP, if_pos h14]; exact Sr
 try simp only [NF] at h14
 have hn : ¬ (c < 0 ∨ (f.Row.length : Int) ≤ c) := by omega
 refine J_skip (Jr (Js rfl (step_fieldAddr so35 Sr rfl) (Jl rfl ty32 Sr (Jm rfl ?_))))
 refine Js rfl (step_indexAddr_sl (i := c.toNat) underlying32 ty91 Sr Sr (by show c = _; omega) (gb (by show c.toNat < f.Row.length; omega))) ?_
 refine Jl rfl ty91 Sr ?_
 refine Ju (step_store_box ty91 Sr Sr zS) fun _ => ?_
 refine Ja rfl (JL_nil (J_ret ?_))
 refine K_ret2' (rv := .cell 4 91) (rv' := .tmp 5) rfl () (Sel.all _) (.cell ty91 Sr zS Sr) (.tmp Sr) (Frz.sub ?_) (Frz.sub ?_) Sr
 ·
  rw [colP, if_neg hn]; exact Sr
 rw [colP, if_neg hn]; exact Sr
theorem equalP_spec (x : GFact) (a : Int) (y : GFact) (b : Int) : Fun1 prog 67 [rFact.ty x, tV (.int .i64 a), rFact.ty y, tV (.int .i64 b)] (tV (.bool (colEq x a y b))) := by
 refine Spec.enter func67 rfl rfl fun h0 w0 fr0 => ?_
 refine Jr (Js rfl (step_box (R := rFact) Sr) (Js rfl (step_box (R := rFact) Sr) (Ja rfl (JL_nil (Jr ?_)))))
 refine Jl rfl ty35 Sr (Jm rfl (Js rfl (step_call0 (colP_spec _ _) ⟨Sr, Sr, trivial⟩ call94) (Jm rfl (Js rfl (step_extract Sr rfl) (Js rfl (step_extract Sr rfl) ?_)))))
 refine Jx rfl (step_alloc (fun w => zeroValue91 w) zr91) fun v9 => ?_
 refine Ju (step_store_box ty91 Sr Sr zS) fun _ => ?_
 refine JL_freeze (t := 9) (Sel.take (Sel.none _)) Frz.box ?_
 refine Ja rfl (JL_nil (Jr (Jl rfl ty35 Sr (Jm rfl (Js rfl (step_call0 (colP_spec _ _) ⟨Sr, Sr, trivial⟩ call94) ?_)))))
 refine Jm rfl (Js rfl (step_extract Sr rfl) (Js rfl (step_extract Sr rfl) ?_))
 refine Jx rfl (step_alloc (fun w => zeroValue91 w) zr91) fun v11 => ?_
 refine Ju (step_store_box ty91 Sr Sr zS) fun _ => ?_
 refine JL_freeze (t := 11) (Sel.take (Sel.none _)) Frz.box ?_
 refine Ja rfl (JL_nil (Jr (Jm rfl (Jm rfl ?_))))
 refine Jk rfl Sr rfl (step_move Sr) ?_
 refine Js rfl (step_pick_and Sr Sr) (Jm rfl ?_)
 refine Jk rfl Sr rfl (step_load_ptr ty91 Sr) ?_
 refine Jk rfl Sr rfl (step_load_ptr ty91 Sr) ?_
 refine Jg rfl Sr rfl (fun hw => step_call0 (TestR_spec _ _ _ _) ⟨(Sub.w hw), Sr, (Sub.w hw), Sr, trivial⟩ call95) (Js rfl (step_pick_and Sr Sr) (Ja rfl (JL_nil (J_ret ?_))))
 refine K_retv (rv := .tmp 8) rfl () (.tmp Sr) (Sub.bool ?_)
 exact (colP_eq x a y b)
set_option maxHeartbeats 2000000 in
theorem meetR_spec (d : GRule) (i j : Nat) (x y : GFact) (hi : i < d.Tables.length) (hj : j < d.Tables.length) (hij : i ≠ j) (hd : d.Tables.length ≤ 1000000) (hte : d.Tests.length ≤ 1000000) : Fun1 prog 48 [rRule.ty d, tV (.int .i64 (i : Int)), tV (.int .i64 (j : Int)), rFact.ty x, rFact.ty y] (tV (.bool (meetB d i j x y))) := by
 refine Spec.enter func48 rfl rfl fun h0 w0 fr0 => ?_
 have hij2 : (i : Int) ≠ (j : Int) := by omega
 refine Jr (Js rfl (step_box (R := rRule) Sr) (Js rfl (step_box (R := rFact) Sr) (Js rfl (step_box (R := rFact) Sr) (Ja rfl (JL_nil ?_)))))
 refine J_seq (J_seq ?_)
 refine J_draw [⟨0, [8], true⟩, ⟨1, [13], true⟩, ⟨2, [5], true⟩, ⟨3, [15], true⟩, ⟨4, [1], true⟩, ⟨5, [16, 17], true⟩, ⟨6, [18], true⟩, ⟨7, [14, 19], true⟩, ⟨8, [20], true⟩, ⟨9, [9, 21], true⟩, ⟨10, [21, 22], true⟩, ⟨11, [5, 21], true⟩, ⟨12, [21, 24], true⟩, ⟨13, [2, 21], true⟩, ⟨14, [21, 25, 26], true⟩, ⟨15, [21, 27], true⟩, ⟨16, [21, 23, 28], true⟩, ⟨17, [21, 29], true⟩] rfl (by kernel_rfl) ?_
 refine Mf rfl rfl (step_fieldAddr so35 Sr rfl) (Mf rfl rfl (step_load_ptr ty3 Sr) (Mf rfl rfl (step_fieldAddr so59 Sr rfl) (Mf rfl rfl (step_load_ptr ty33 Sr) (Mv rfl rfl ?_))))
 refine Mf rfl rfl (step_indexAddr_sl  underlying33 ty3 Sr Sr rfl (gb (by show i < d.Tables.length; exact hi))) ?_
 refine Mf rfl rfl (step_load_ptr ty3 Sr) (Mf rfl rfl (step_neq Sr Sr) (Mv rfl rfl ?_))
 refine Mk rfl rfl Sr rfl (step_fieldAddr so35 Sr rfl) ?_
 refine Mg rfl rfl Sr rfl (fun hw => step_load_ptr ty3 (Sub.w hw)) ?_
 refine Mk rfl rfl Sr rfl (step_fieldAddr so59 Sr rfl) ?_
 refine Mg rfl rfl Sr rfl (fun hw => step_load_ptr ty33 (Sub.w hw)) ?_
 refine Mk rfl rfl Sr rfl (step_move Sr) ?_
 refine Mg rfl rfl Sr rfl (fun hw => step_indexAddr_sl  underlying33 ty3 (Sub.w hw) (Sub.w hw) rfl (gb (by have hwq := hw; (try simp only [beqB_t, beqB_f, NF] at hwq); show j < d.Tables.length; exact hj))) ?_
 refine Mg rfl rfl Sr rfl (fun hw => step_load_ptr ty3 (Sub.w hw)) (Mg rfl rfl Sr rfl (fun hw => step_neq (Sub.w hw) (Sub.w hw)) (Mf rfl rfl (step_pick_or Sr Sr) (JM_nil ?_)))
 refine J_cond Sr (fun h30 => ?_) (fun h30 => ?_)
 ·
  try simp only [NF] at h30
  refine Jr (Ja rfl (JL_nil (J_ret ?_)))
  refine K_retv (rv := .tmp 10) rfl () (.tmp Sr) (Sub.bool ?_)
  rw [meetB, eq_comm, Bool.and_eq_false_iff, Bool.and_eq_false_iff]; left; simpa using h30
 try simp only [NF] at h30
 refine J_skip (J_seq (Jr (Ja rfl (JL_nil (J_block ?_)))))
 refine J_loopL (σ := Nat) (fun k => k ≤ d.Tests.length ∧ ∀ q, q < k → tstM i j x y (nth d.Tests q) = true) (fun k => upd (upd (upd (upd (upd (upd env0 1 (tV (.int .i64 (i : Int)))) 2 (tV (.int .i64 (j : Int)))) 5 (tPtr rRule d)) 8 (tPtr rFact x)) 9 (tPtr rFact y)) 11 (tV (.int .i64 (k : Int)))) (fun k => []) (fun k => d.Tests.length - k) 0 ⟨by omega, fun q hq => by omega⟩ (zU) (LSub.rfl) ?_
 rintro k ⟨hk, hv⟩
 refine J_seq (Jr (Jm rfl (Js rfl (step_fieldAddr so59 Sr rfl) (Jl rfl ty57 Sr (Js rfl (step_len_sl underlying57 Sr) ?_)))))
 refine Js rfl (step_lss Sr Sr) (JL_nil ?_)
 refine J_cond Sr (fun h35 => ?_) (fun h35 => ?_)
 ·
  try simp only [NF] at h35
  have hk2 : k < d.Tests.length := by omega
  refine J_skip (J_seq (J_block (Jr (Js rfl (step_fieldAddr so59 Sr rfl) (Jl rfl ty57 Sr ?_)))))
  refine Jm rfl ?_
  refine Js rfl (step_indexAddr_sl  underlying57 ty107 Sr Sr rfl (gb (by show k < d.Tests.length; exact hk2))) ?_
  refine Jl rfl ty107 Sr ?_
  refine Jx rfl (step_alloc (fun w => zeroValue107 w) zr107) fun v12 => ?_
  refine Ju (step_store_box ty107 Sr Sr zS) fun _ => ?_
  refine JL_freeze (t := 12) (Sel.take (Sel.none _)) Frz.box ?_
  refine JL_nil (J_seq (Jr (Js rfl (step_fieldAddr so107 Sr rfl) (Jl rfl ty3 Sr (Js rfl (step_neq Sr Sr) ?_)))))
  refine Jm rfl ?_
  refine Jk rfl Sr rfl (step_fieldAddr so107 Sr rfl) ?_
  refine Jg rfl Sr rfl (fun hw => step_load_ptr ty3 (Sub.w hw)) (Jg rfl Sr rfl (fun hw => step_neq (Sub.w hw) Sr) (Js rfl (step_pick_or Sr Sr) (JL_nil ?_)))
  refine J_cond Sr (fun h50 => ?_) (fun h50 => ?_)
  ·
   try simp only [NF] at h50
   refine J_exit (J_region (Jm rfl (Js rfl (step_add Sr Sr z6) (Ja rfl (JL_nil ?_)))))
   refine K_againL (σ := Nat) (s := k) (k + 1) zO ?_ (zU) (LSub.rfl)
   refine ⟨by omega, fun q hq => ?_⟩
   by_cases e : q = k
   ·
    subst e; exact tstM_skip (by simpa using h50)
   exact hv q zG
  try simp only [NF] at h50
  refine J_skip (J_seq (Jr (Js rfl (step_fieldAddr so107 Sr rfl) (Js rfl (step_fieldAddr so105 Sr rfl) (Jl rfl ty3 Sr ?_)))))
  refine Jm rfl (Js rfl (step_eql Sr Sr) (Jm rfl ?_))
  refine Jk rfl Sr rfl (step_fieldAddr so107 Sr rfl) ?_
  refine Jg rfl Sr rfl (fun hw => step_fieldAddr so105 (Sub.w hw) rfl) (Jg rfl Sr rfl (fun hw => step_load_ptr ty3 (Sub.w hw)) ?_)
  refine Jk rfl Sr rfl (step_move Sr) ?_
  refine Jg rfl Sr rfl (fun hw => step_eql (Sub.w hw) (Sub.w hw)) (Js rfl (step_pick_and Sr Sr) (Jm rfl ?_))
  refine Jk rfl Sr rfl (step_load_ptr ty35 Sr) ?_
  refine Jk rfl Sr rfl (step_fieldAddr so107 Sr rfl) ?_
  refine Jg rfl Sr rfl (fun hw => step_fieldAddr so105 (Sub.w hw) rfl) (Jg rfl Sr rfl (fun hw => step_load_ptr ty3 (Sub.w hw)) ?_)
  refine Jk rfl Sr rfl (step_load_ptr ty35 Sr) ?_
  refine Jk rfl Sr rfl (step_fieldAddr so107 Sr rfl) ?_
  refine Jg rfl Sr rfl (fun hw => step_fieldAddr so105 (Sub.w hw) rfl) (Jg rfl Sr rfl (fun hw => step_load_ptr ty3 (Sub.w hw)) (Jg rfl Sr rfl (fun hw => step_call0 (equalP_spec _ _ _ _) ⟨(Sub.w hw), (Sub.w hw), (Sub.w hw), (Sub.w hw), trivial⟩ call67) (Jg rfl Sr rfl (fun hw => step_not (Sub.w hw)) (Js rfl (step_pick_and Sr Sr) (JL_nil ?_)))))
  refine J_cond Sr (fun h74 => ?_) (fun h74 => ?_)
  ·
   try simp only [NF] at h74
   refine Jr (Ja rfl (JL_nil (J_ret ?_)))
   refine K_retv (rv := .tmp 10) rfl () (.tmp Sr) (Sub.bool ?_)
   have hb : tstM i j x y (nth d.Tests k) = false := by rw [tstM_a (by simpa using h50) (by simp_all)]; simp_all
   rw [meetB, eqs_all, all_dropV _ hk2 hb, Bool.and_false]
  try simp only [NF] at h74
  refine J_skip (Jr (Js rfl (step_fieldAddr so107 Sr rfl) (Js rfl (step_fieldAddr so105 Sr rfl) (Jl rfl ty3 Sr (Jm rfl ?_)))))
  refine Js rfl (step_eql Sr Sr) (Jm rfl ?_)
  refine Jk rfl Sr rfl (step_fieldAddr so107 Sr rfl) ?_
  refine Jg rfl Sr rfl (fun hw => step_fieldAddr so105 (Sub.w hw) rfl) (Jg rfl Sr rfl (fun hw => step_load_ptr ty3 (Sub.w hw)) ?_)
  refine Jk rfl Sr rfl (step_move Sr) ?_
  refine Jg rfl Sr rfl (fun hw => step_eql (Sub.w hw) (Sub.w hw)) (Js rfl (step_pick_and Sr Sr) (Jm rfl ?_))
  refine Jk rfl Sr rfl (step_load_ptr ty35 Sr) ?_
  refine Jk rfl Sr rfl (step_fieldAddr so107 Sr rfl) ?_
  refine Jg rfl Sr rfl (fun hw => step_fieldAddr so105 (Sub.w hw) rfl) (Jg rfl Sr rfl (fun hw => step_load_ptr ty3 (Sub.w hw)) ?_)
  refine Jk rfl Sr rfl (step_load_ptr ty35 Sr) ?_
  refine Jk rfl Sr rfl (step_fieldAddr so107 Sr rfl) ?_
  refine Jg rfl Sr rfl (fun hw => step_fieldAddr so105 (Sub.w hw) rfl) (Jg rfl Sr rfl (fun hw => step_load_ptr ty3 (Sub.w hw)) (Jg rfl Sr rfl (fun hw => step_call0 (equalP_spec _ _ _ _) ⟨(Sub.w hw), (Sub.w hw), (Sub.w hw), (Sub.w hw), trivial⟩ call67) (Jg rfl Sr rfl (fun hw => step_not (Sub.w hw)) (Js rfl (step_pick_and Sr Sr) (JL_nil ?_)))))
  refine J_cond Sr (fun h98 => ?_) (fun h98 => ?_)
  ·
   try simp only [NF] at h98
   refine Jr (Ja rfl (JL_nil (J_ret ?_)))
   refine K_retv (rv := .tmp 10) rfl () (.tmp Sr) (Sub.bool ?_)
   have hb : tstM i j x y (nth d.Tests k) = false := by rw [tstM_b (by simpa using h50) hij2 (by simp_all)]; simp_all
   rw [meetB, eqs_all, all_dropV _ hk2 hb, Bool.and_false]
  try simp only [NF] at h98
  refine J_skip (J_region (Jm rfl (Js rfl (step_add Sr Sr z6) (Ja rfl (JL_nil ?_)))))
  refine K_againL (σ := Nat) (s := k) (k + 1) zO ?_ (zU) (LSub.rfl)
  refine ⟨by omega, fun q hq => ?_⟩
  by_cases e : q = k
  ·
   subst e; exact tstM_ok hij2 (fun r => by simp_all) (fun r => by simp_all)
  exact hv q zG
 try simp only [NF] at h35
 obtain rfl : k = d.Tests.length := by omega
 refine J_exit (Jr (Ja rfl (JL_nil (J_ret ?_))))
 refine K_retv (rv := .tmp 10) rfl () (.tmp Sr) (Sub.bool ?_)
 have h2 : d.Tests.all (tstM i j x y) = true := by
  rw [List.all_eq_true]
  intro t ht
  obtain ⟨q, hq, rfl⟩ := mem_nthV ht
  exact hv q hq
 rw [meetB, eqs_all, h2]; simp [h30]
set_option maxHeartbeats 2000000 in
theorem Meets_spec (rules : List GRule) (hr : RFew rules) (x y : GFact) : Fun1 prog 22 [tSl rRule rules, rFact.ty x, rFact.ty y] (tV (.bool (metB rules x y))) := by
 refine Spec.enter func22 rfl rfl fun h0 w0 fr0 => ?_
 have hrl := hr.rl
 refine Jr (Js rfl (step_box (R := rFact) Sr) (Js rfl (step_box (R := rFact) Sr) (Ja rfl (JL_nil (J_seq ?_)))))
 refine Jr (Js rfl (step_fieldAddr so35 Sr rfl) (Jl rfl ty3 Sr (Js rfl (step_fieldAddr so35 Sr rfl) (Jl rfl ty3 Sr (Js rfl (step_eql Sr Sr) ?_)))))
 refine JL_nil ?_
 refine J_cond Sr (fun h15 => ?_) (fun h15 => ?_)
 ·
  try simp only [NF] at h15
  refine Jr (Ja rfl (JL_nil (J_ret ?_)))
  refine K_retv (rv := .tmp 6) rfl () (.tmp Sr) (Sub.bool ?_)
  rw [metB_eq, decide_eq_true h15]; rfl
 try simp only [NF] at h15
 refine J_skip (J_seq (Jr (Ja rfl (JL_nil (J_block ?_)))))
 refine J_loopL (σ := Nat) (fun n => n ≤ rules.length ∧ ∀ q, q < n → metR (nth rules q) x y = false) (fun n => upd (upd (upd (upd env0 0 (tSl rRule rules)) 4 (tPtr rFact x)) 5 (tPtr rFact y)) 7 (tV (.int .i64 (n : Int)))) (fun n => []) (fun n => rules.length - n) 0 ⟨by omega, fun q hq => by omega⟩ (zU) (LSub.rfl) ?_
 rintro n ⟨hn, hv⟩
 refine J_seq (Jr (Jm rfl (Jm rfl (Js rfl (step_len_sl underlying22 Sr) (Js rfl (step_lss Sr Sr) ?_)))))
 refine JL_nil ?_
 refine J_cond Sr (fun h19 => ?_) (fun h19 => ?_)
 ·
  try simp only [NF] at h19
  have hn2 : n < rules.length := by omega
  have hrr := hr.rr _ (nth_mem hn2)
  have hll := lowerR_len (nth rules n)
  refine J_skip (J_seq (J_block (Jr (Jm rfl (Jm rfl ?_)))))
  refine Js rfl (step_indexAddr_sl  underlying22 ty59 Sr Sr rfl (gb (by exact hn2))) ?_
  refine Jl rfl ty59 Sr (Js rfl (step_call0 (LowerR_spec _ zG zG) ⟨Sr, trivial⟩ call47) (Ja rfl (JL_nil (J_seq (Jr ?_)))))
  refine Jm rfl (Js rfl (step_len_sl underlying22 Sr) (Js rfl (step_neq Sr Sr) (Jm rfl ?_)))
  refine Jk rfl Sr rfl (step_move Sr) ?_
  refine Jg rfl Sr rfl (fun hw => step_indexAddr_sl (i := 0) underlying22 ty59 (Sub.w hw) Sr (by rfl) (gb (by have hwq := hw; (try simp only [beqB_t, beqB_f, NF] at hwq); show 0 < (lowerR (nth rules n)).length; (try simp at hwq); omega))) ?_
  refine Jg rfl Sr rfl (fun hw => step_fieldAddr so59 (Sub.w hw) rfl) (Jg rfl Sr rfl (fun hw => step_load_ptr ty33 (Sub.w hw)) (Jg rfl Sr rfl (fun hw => step_len_sl underlying33 (Sub.w hw)) (Jg rfl Sr rfl (fun hw => step_gtr (Sub.w hw) Sr) (Js rfl (step_pick_or Sr Sr) (JL_nil ?_)))))
  refine J_cond Sr (fun h37 => ?_) (fun h37 => ?_)
  ·
   try simp only [NF] at h37
   refine J_exit (J_region (Jm rfl (Js rfl (step_add Sr Sr z6) (Ja rfl (JL_nil ?_)))))
   refine K_againL (σ := Nat) (s := n) (n + 1) zO ?_ (zU) (LSub.rfl)
   refine ⟨by omega, fun q hq => ?_⟩
   by_cases e : q = n
   ·
    subst e; exact metR_no zG
   exact hv q zG
  try simp only [NF] at h37
  have hl1 : ((lowerR (nth rules n)).length : Int) = 1 := by simp_all
  have hd3 : ((nth (lowerR (nth rules n)) 0).Tables.length : Int) ≤ 3 := by simp_all
  have hdt := lowerR_deny (nth_mem (show 0 < (lowerR (nth rules n)).length by omega))
  refine J_skip (Jr (Ja rfl (JL_nil (J_block ?_))))
  refine J_loopL (σ := Nat) (fun i => i ≤ (nth (lowerR (nth rules n)) 0).Tables.length ∧ ∀ q, q < i → metD (nth (lowerR (nth rules n)) 0) x y q = false) (fun i => upd (upd (upd (upd (upd (upd env0 0 (tSl rRule rules)) 4 (tPtr rFact x)) 5 (tPtr rFact y)) 7 (tV (.int .i64 (n : Int)))) 8 (tSl rRule (lowerR (nth rules n)))) 9 (tV (.int .i64 (i : Int)))) (fun i => []) (fun i => (nth (lowerR (nth rules n)) 0).Tables.length - i) 0 ⟨by omega, fun q hq => by omega⟩ (zU) (LSub.rfl) ?_
  rintro i ⟨hi, hvi⟩
  refine J_seq (Jr (Jm rfl (Jm rfl ?_)))
  refine Js rfl (step_indexAddr_sl (i := 0) underlying22 ty59 Sr Sr (by rfl) (gb (by show 0 < (lowerR (nth rules n)).length; omega))) ?_
  refine Js rfl (step_fieldAddr so59 Sr rfl) (Jl rfl ty33 Sr (Js rfl (step_len_sl underlying33 Sr) (Js rfl (step_lss Sr Sr) (JL_nil ?_))))
  refine J_cond Sr (fun h44 => ?_) (fun h44 => ?_)
  ·
   try simp only [NF] at h44
   have hi2 : i < (nth (lowerR (nth rules n)) 0).Tables.length := by omega
   refine J_skip (J_seq (J_block (Jr (Ja rfl (JL_nil ?_)))))
   refine J_block ?_
   refine J_loopL (σ := Nat) (fun j => j ≤ (nth (lowerR (nth rules n)) 0).Tables.length ∧ ∀ q, q < j → (decide (i ≠ q) && meetB (nth (lowerR (nth rules n)) 0) i q x y) = false) (fun j => upd (upd (upd (upd (upd (upd (upd env0 0 (tSl rRule rules)) 4 (tPtr rFact x)) 5 (tPtr rFact y)) 7 (tV (.int .i64 (n : Int)))) 8 (tSl rRule (lowerR (nth rules n)))) 9 (tV (.int .i64 (i : Int)))) 10 (tV (.int .i64 (j : Int)))) (fun j => []) (fun j => (nth (lowerR (nth rules n)) 0).Tables.length - j) 0 ⟨by omega, fun q hq => by omega⟩ (zU) (LSub.rfl) ?_
   rintro j ⟨hj, hvj⟩
   refine J_seq (Jr (Jm rfl (Jm rfl ?_)))
   refine Js rfl (step_indexAddr_sl (i := 0) underlying22 ty59 Sr Sr (by rfl) (gb (by show 0 < (lowerR (nth rules n)).length; omega))) ?_
   refine Js rfl (step_fieldAddr so59 Sr rfl) (Jl rfl ty33 Sr (Js rfl (step_len_sl underlying33 Sr) (Js rfl (step_lss Sr Sr) (JL_nil ?_))))
   refine J_cond Sr (fun h53 => ?_) (fun h53 => ?_)
   ·
    try simp only [NF] at h53
    have hj2 : j < (nth (lowerR (nth rules n)) 0).Tables.length := by omega
    refine J_skip (J_seq (J_block (J_seq ?_)))
    refine J_draw [⟨0, [9], true⟩, ⟨1, [10], true⟩, ⟨2, [56, 57], true⟩, ⟨3, [58], true⟩, ⟨4, [8, 59], true⟩, ⟨5, [59, 60], true⟩, ⟨6, [59, 61], true⟩, ⟨7, [9, 59], true⟩, ⟨8, [10, 59], true⟩, ⟨9, [4, 59], true⟩, ⟨10, [5, 59], true⟩, ⟨11, [59, 62, 63, 64, 65, 66], true⟩, ⟨12, [59, 67], true⟩] rfl (by kernel_rfl) ?_
    refine Mv rfl rfl (Mv rfl rfl (Mf rfl rfl (step_neq Sr Sr) (Mv rfl rfl ?_)))
    refine Mk rfl rfl Sr rfl (step_move Sr) ?_
    refine Mg rfl rfl Sr rfl (fun hw => step_indexAddr_sl (i := 0) underlying22 ty59 (Sub.w hw) Sr (by rfl) (gb (by have hwq := hw; (try simp only [beqB_t, beqB_f, NF] at hwq); show 0 < (lowerR (nth rules n)).length; omega))) ?_
    refine Mg rfl rfl Sr rfl (fun hw => step_load_ptr ty59 (Sub.w hw)) ?_
    refine Mk rfl rfl Sr rfl (step_move Sr) ?_
    refine Mk rfl rfl Sr rfl (step_move Sr) ?_
    refine Mk rfl rfl Sr rfl (step_load_ptr ty35 Sr) ?_
    refine Mk rfl rfl Sr rfl (step_load_ptr ty35 Sr) ?_
    refine Mg rfl rfl Sr rfl (fun hw => step_call0 (meetR_spec (nth (lowerR (nth rules n)) 0) i j x y hi2 hj2 (by simp at hw; omega) zG zG) ⟨(Sub.w hw), (Sub.w hw), (Sub.w hw), (Sub.w hw), (Sub.w hw), trivial⟩ call48) ?_
    refine Mf rfl rfl (step_pick_and Sr Sr) (JM_nil ?_)
    refine J_cond Sr (fun h68 => ?_) (fun h68 => ?_)
    ·
     try simp only [NF] at h68
     refine Jr (Ja rfl (JL_nil (J_ret ?_)))
     refine K_retv (rv := .tmp 6) rfl () (.tmp Sr) (Sub.bool ?_)
     have hb : metR (nth rules n) x y = true := by
      rw [metR_at hl1 hd3]
      exact any_rg1 hi2 (any_rg1 hj2 (by simp only [Bool.and_eq_true, decide_eq_true_eq]; exact ⟨by omega, h68.2⟩))
     rw [metB_eq, any_hit (p := fun r => metR r x y) hn2 hb, Bool.or_true]
    try simp only [NF] at h68
    refine J_skip (J_region (Jm rfl (Js rfl (step_add Sr Sr z6) (Ja rfl (JL_nil ?_)))))
    refine K_againL (σ := Nat) (s := j) (j + 1) zO ?_ (zU) (LSub.rfl)
    refine ⟨by omega, fun q hq => ?_⟩
    by_cases e : q = j
    ·
     subst e
     rcases h68 with r | r
     ·
      have r2 : i = q := by omega
      simp [r2]
     simp [r]
    exact hvj q zG
   try simp only [NF] at h53
   obtain rfl : j = (nth (lowerR (nth rules n)) 0).Tables.length := by omega
   refine J_exit (J_region (Jm rfl (Js rfl (step_add Sr Sr z6) (Ja rfl (JL_nil ?_)))))
   refine K_againL (σ := Nat) (s := i) (i + 1) zO ?_ (zU) (LSub.rfl)
   refine ⟨by omega, fun q hq => ?_⟩
   by_cases e : q = i
   ·
    subst e; exact any_rg hvj
   exact hvi q zG
  try simp only [NF] at h44
  obtain rfl : i = (nth (lowerR (nth rules n)) 0).Tables.length := by omega
  refine J_exit (J_region (Jm rfl (Js rfl (step_add Sr Sr z6) (Ja rfl (JL_nil ?_)))))
  refine K_againL (σ := Nat) (s := n) (n + 1) zO ?_ (zU) (LSub.rfl)
  refine ⟨by omega, fun q hq => ?_⟩
  by_cases e : q = n
  ·
   subst e; rw [metR_at hl1 hd3]; exact any_rg hvi
  exact hv q zG
 try simp only [NF] at h19
 obtain rfl : n = rules.length := by omega
 refine J_exit (Jr (Ja rfl (JL_nil (J_ret ?_))))
 refine K_retv (rv := .tmp 6) rfl () (.tmp Sr) (Sub.bool ?_)
 rw [metB_eq, any_no hv, decide_eq_false h15]; rfl
open Go Go.Proofs Go.Proofs.Tryz
theorem grd_succ {α : Type} [Inhabited α] {B : List α} {P : α → Bool} {i : Nat} (hi : i < B.length) : ((B.take (i + 1)).filter P).length = ((B.take i).filter P).length + (if P (nth B i) = true then 1 else 0) := by
  rw [takeV hi, List.filter_append, List.length_append]
  cases h : P (nth B i) <;> simp [List.filter, h]
def cntM (rules : List GRule) (f : GFact) (qs : PS) : Nat := (qs.filter fun p => metB rules f p.2).length
theorem cnt_le (rules : List GRule) (f : GFact) (qs : PS) : cntM rules f qs ≤ qs.length := List.length_filter_le _ _
theorem nth_gs {ps : PS} {m : Nat} (h : m < ps.length) : (nth ps m).2 = nth (gsP ps) m := (nth_mapV (fun p : Int × GFact => p.2) h).symm
theorem cnt_succ {rules : List GRule} {f : GFact} {ps : PS} {m : Nat} (h : m < ps.length) : cntM rules f (ps.take (m + 1)) = cntM rules f (ps.take m) + (if metB rules f (nth (gsP ps) m) = true then 1 else 0) := by
  unfold cntM
  rw [grd_succ h, nth_gs h]
theorem cnt_met (rules : List GRule) (f : GFact) (ps : PS) : (cntM rules f ps : Int) = metN rules ps f := by
  unfold cntM metN; rw [metL_eq]
open Go Go.Proofs Go.Proofs.Tryz
/-- A slice of no elements and no room. -/
def tEmp : Ty := ⟨fun _ v => ∃ ao, v = .slice ao 0 0, fun _ h => h⟩
/-- own, or a slice of no elements and no room that lies in immutable memory. -/
def own0 {α : Type} (e : Nat) (R : Rp α) (v : Value) (xs : List α) : SP where
  p := fun h m => (own e R v xs).p h m ∨ (xs = [] ∧ m = PH.emp ∧ ∃ ao, v = .slice ao 0 0)
  mono := fun l r => r.elim (fun a => .inl ((own e R v xs).mono l a)) .inr
section
variable {C : Cx} {E : Env} {L : List SP} {d : Option Nat} {ty : Nat} {pos : String} {af : Array Edge} {g : Option (Nat × Bool)}
theorem step_literal_emp {α : Type} {T e bytes : Nat} {R : Rp α} {z : α} (hu : C.P.underlying T = some (.slice e)) (hE : ElT C.P e R bytes z) :
    Step1 C ⟨d, .buildSlice T 0 #[], ty, pos, af, g⟩ E L tEmp :=
  Step.of_run (by intro c h; cases h) fun a w h m l sp st fr => by
    obtain ⟨cs, r, hrun⟩ := run_literal (w := w) (ps := #[]) (ys := ([] : List α)) (len := 0) hu hE trivial rfl (by omega) fr
    refine ⟨(), .slice (some ⟨w.heap.size, 0, none⟩) 0 0, w.alloc (.cells cs.toArray e), h.join (PH.one w.heap.size (.cells cs.toArray e)), m, ?_, HL.imm _ (PH.le_join_left _ _), sp.allocImm _, (stars L).mono (PH.le_join_left _ _) st, ⟨_, rfl⟩⟩
    simp only [execOp, Sem.run_bind, hrun, Result.andThen_ok]; rfl
theorem step_append_emp {α : Type} {T e bytes : Nat} {R : Rp α} {z : α} {x y : Operand} {ys : List α} (hu : C.P.underlying T = some (.slice e)) (hE : ElT C.P e R bytes z)
    (hx : Sub (opTy E x) tEmp) (hy : Sub (opTy E y) (tSl R ys)) (hb : ys.length * bytes ≤ 140737488355328) (hn : ys.length ≤ 4611686018427387904) :
    Step C ⟨d, .call { callee := .builtin .append, args := #[x, y], argTypes := #[T, T] }, ty, pos, af, g⟩ E L (fun v' : Value => rV.ty v') (fun v' => own0 e R v' ys :: L) :=
  Step.of_run (by intro c h; cases h) fun a w h m l sp st fr => by
    obtain ⟨bo, hv⟩ := fr.get hx
    obtain ⟨ao, c, cs, hyv, rs, H⟩ := tSl.cells (fr.get hy)
    obtain ⟨i, zv, hi, hz, hk, hby, hzr⟩ := hE.inf
    have hop : ∀ u w', (Builtin.append_ #[T, T] ty #[.slice bo 0 0, .slice ao ys.length c]).run C.P w = .ok u w' →
        (execOp a.eval ⟨d, .call { callee := .builtin .append, args := #[x, y], argTypes := #[T, T] }, ty, pos, af, g⟩).run C.P w = .ok (.value u) w' := by
      intro u w' hr
      simp [execOp, resolve, invoke, builtin, hv, hyv, hr]
    have hrl := relAll_len rs
    by_cases hys : ys = []
    · subst hys
      refine ⟨.slice bo 0 0, _, w, h, m, hop _ _ (run_append_zero w T ty e i hu hi bo ao 0 0 c (by omega)), HL.refl, sp, ⟨PH.emp, m, PH.disj_emp_left m, (PH.emp_join m).symm, .inr ⟨rfl, rfl, _, rfl⟩, st⟩, ⟨rfl, rfl⟩⟩
    · obtain ⟨b, off, rfl, HH⟩ := H hys
      have hcell : ∀ j u, cs[j]? = some u → w.cell? ((⟨b, off, none⟩ : Addr).add j) = some u := fun j u hu' => by rw [addr_add]; exact HH.cell sp.hw hu'
      have hpos : 0 < ys.length := List.length_pos_iff.2 hys
      have good : ∀ (cap : Nat), ys.length ≤ cap → cap ≤ maxLen →
          ∃ m', Sep h m' C.r (w.drew.alloc (.cells (cs.toArray ++ Builtin.zeroCells zv.cells (cap - ys.length)) e)) ∧
            (stars (own0 e R (.slice (some ⟨w.heap.size, 0, none⟩) ys.length cap) ys :: L)).p h m' := by
        intro cap hcap hm
        refine ⟨_, sp.drew.allocOwn (w := w.drew) _, _, m, PH.disj_symm (PH.one_disj_new sp.mw _), rfl, .inl (.inr ⟨w.heap.size, cap, _, rfl, rfl, hcap, hm, ?_, ?_⟩), st⟩
        · have hzl := R.len (R.cells (hzr h))
          simp only [Array.size_append, List.size_toArray, hrl, size_zeroCells]
          have : zv.cells.size = R.k := by simpa using hzl
          rw [this, ← Nat.add_mul]; congr 1; omega
        · have e1 : (cs.toArray ++ Builtin.zeroCells zv.cells (cap - ys.length)).toList = cs ++ (Builtin.zeroCells zv.cells (cap - ys.length)).toList := by simp
          rw [e1, List.take_append_of_le_length (by simp [hrl]), List.take_of_length_le (by simp [hrl])]
          exact rs
      cases bo with
      | none =>
        have hr := run_append_nil (P := C.P) w T ty e i zv hu hi hz ⟨b, off, none⟩ ys.length c cs (by rw [hk]; exact hrl) hcell hpos (by omega) (by rw [hby]; omega)
        obtain ⟨m', s1, s3⟩ := good (grownCap w ys.length 0 e) (grownCap_ge w _ _ _) (grownCap_le_maxLen w _ _ _ (by unfold maxLen; omega))
        exact ⟨_, _, _, h, m', hop _ _ hr, HL.same (Same.drewAlloc _ _), s1, s3, ⟨rfl, rfl⟩⟩
      | some b0 =>
        have hr := run_append_grow (P := C.P) w T ty e i zv hu hi hz b0 0 0 [] (by simp) (by simp) ⟨b, off, none⟩ ys.length c cs (by rw [hk]; exact hrl) hcell (by omega) (by omega) (by rw [hby]; exact growslice_fits (by omega) (by rw [Nat.zero_add]; exact hb))
        obtain ⟨m', s1, s3⟩ := good (grownCap w (0 + ys.length) 0 e) (by simpa using grownCap_ge w (0 + ys.length) 0 e) (grownCap_le_maxLen w _ _ _ (by unfold maxLen; omega))
        refine ⟨_, _, _, h, m', hop _ _ hr, HL.same (Same.drewAlloc _ _), ?_, ?_, ⟨rfl, rfl⟩⟩
        · simpa using s1
        · simpa using s3
theorem step_append0 {α : Type} {T e bytes : Nat} {R : Rp α} {z : α} {x y : Operand} {v : Value} {xs ys : List α} {S : List SP} (hu : C.P.underlying T = some (.slice e)) (hE : ElT C.P e R bytes z)
    (hx : Sub (opTy E x) (rV.ty v)) (hy : Sub (opTy E y) (tSl R ys)) (sel : Sel L [own0 e R v xs] S) (hb : (xs.length + ys.length) * bytes ≤ 140737488355328) (hn : xs.length + ys.length ≤ 4611686018427387904) :
    Step C ⟨d, .call { callee := .builtin .append, args := #[x, y], argTypes := #[T, T] }, ty, pos, af, g⟩ E L (fun v' : Value => rV.ty v') (fun v' => own0 e R v' (xs ++ ys) :: S) :=
  fun a w h m n l sp st fr next Q hk => by
  obtain ⟨m1, m2, d12, rfl, ho, s2⟩ := sel.one.1 st
  rcases ho with ho | ⟨rfl, rfl, ao, rfl⟩
  · refine step_append hu hE hx hy (L := own e R v xs :: S) (Sel.take (Sel.none _)) hb hn a w h _ n l sp ⟨m1, m2, d12, rfl, ho, s2⟩ fr next Q fun u v' w' h' m' l' sp' st' hv => hk u v' w' h' m' l' sp' ?_ hv
    obtain ⟨m3, m4, d34, e, ho', s4⟩ := st'
    exact ⟨m3, m4, d34, e, .inl ho', s4⟩
  · rw [PH.emp_join] at sp
    refine step_append_emp hu hE (L := S) (Sub.trans hx fun _ u hu => ⟨_, hu.1⟩) hy (by simpa using hb) (by simpa using hn) a w h _ n l sp s2 fr next Q fun u v' w' h' m' l' sp' st' hv => hk u v' w' h' m' l' sp' (by simpa using st') hv
end
theorem LSub.own0 {α : Type} {e : Nat} {R : Rp α} {v : Value} {xs : List α} {L : List SP} (hne : xs ≠ []) : LSub (Lg.own0 e R v xs :: L) (own e R v xs :: L) := fun h m ⟨m1, m2, d, e, ho, s⟩ =>
  ⟨m1, m2, d, e, ho.elim id (fun q => absurd q.1 hne), s⟩
theorem Frz.own0V {α : Type} {e : Nat} {R : Rp α} {v : Value} {xs : List α} {S : List SP} : Frz (Lg.own0 e R v xs :: S) (tV v) (tSl R xs) := fun h m u d ⟨m1, m2, d12, em, ho, hs⟩ hu => by
  rcases ho with ho | ⟨rfl, rfl, ao, rfl⟩
  · exact Frz.ownV h m u d ⟨m1, m2, d12, em, ho, hs⟩ hu
  · obtain rfl : u = _ := hu
    exact ⟨ao, ⟨0, Nat.le_refl _⟩, rfl, fun q => absurd rfl q⟩
open Go Go.Proofs Go.Proofs.Tryz
theorem Step.freeze {X : Type} {C : Cx} {o : Oper} {E : Env} {L S R : List SP} {A : X → Ty} {L' : X → List SP} {t : Nat} {A' : Ty} (sel : Sel L S R) (f : Frz S (E t) A') (h : Step C o (upd E t A') R A L') : Step C o E L A L' :=
  fun a w hp m n l sp st fr next Q hk => by
  obtain ⟨m1, m2, d12, rfl, s1, s2⟩ := sel.stars.1 st
  have hd := PH.disj_join'.1 sp.hm
  have hle := PH.le_join_left hp m1
  refine h a w (hp.join m1) m2 n (HL.trans l ⟨hle, Same.refl _⟩) (sp.freeze d12) ((stars R).mono hle s2) (fun u => ?_) next Q fun x v w' h' m' l' sp' st' hv => hk x v w' h' m' (HL.trans ⟨hle, Same.refl _⟩ l') sp' st' hv
  unfold upd
  by_cases e : Nat.beq u t = true
  · obtain rfl := Nat.eq_of_beq_eq_true e
    simp only [e, if_true]
    exact f hp m1 _ hd.1 s1 (fr u)
  · simp only [e]
    exact (E u).mono hle (fr u)
theorem Frz.own0 {α : Type} {e : Nat} {R : Rp α} {v : Value} {xs : List α} {S : List SP} : Frz (Lg.own0 e R v xs :: S) (rV.ty v) (tSl R xs) := fun h m u d hs hu => Frz.own0V h m u d hs hu.1
end Lg
