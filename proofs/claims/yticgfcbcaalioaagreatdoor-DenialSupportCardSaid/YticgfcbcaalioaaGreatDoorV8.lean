/- For all inputs the law DenialSupport answers true: the card. -/
import Derived.Test.YticgfcbcaalioaaGreatDoorH
set_option linter.unusedVariables false
set_option linter.unusedSimpArgs false
set_option linter.unusedSectionVars false
/- Pure theory: Dangling. -/
namespace Lg
open Go Go.Proofs

/-- A fold whose first component never falls back: where it ends false, nothing was done. -/
theorem fold_still {α : Type} {f : Bool × List Bool → α → Bool × List Bool} {ok : List Bool → α → Prop} (hf : ∀ s x, (f s x).1 = false → f s x = s ∧ ok s.2 x) : ∀ (l : List α) (s : Bool × List Bool), (l.foldl f s).1 = false → l.foldl f s = s ∧ ∀ x ∈ l, ok s.2 x
  | [], s, _ => ⟨rfl, fun _ h => by cases h⟩
  | x :: l, s, h => by
    obtain ⟨h1, h2⟩ := fold_still hf l (f s x) h
    rw [List.foldl_cons] at h
    rw [h1] at h
    obtain ⟨h3, h4⟩ := hf s x h
    refine ⟨by rw [List.foldl_cons, h1, h3], fun y hy => ?_⟩
    rcases List.mem_cons.1 hy with rfl | hy
    · exact h4
    · have := h2 y hy
      rwa [h3] at this
theorem fold_inv {α σ : Type} {f : σ → α → σ} {I : σ → Prop} : ∀ (l : List α) (s : σ), (∀ s x, x ∈ l → I s → I (f s x)) → I s → I (l.foldl f s)
  | [], s, _, h => h
  | x :: l, s, hf, h => fold_inv l (f s x) (fun s y hy => hf s y (by simp [hy])) (hf s x (by simp) h)
def okI (facts : List GFact) (d : GRule) (gs : List Bool) (i : Nat) : Prop := dSkip facts d gs i = true ∨ ((iota facts.length).any (offB facts d gs (colM (nth facts i) d.Col))) = true
theorem dStep_still {facts : List GFact} {d : GRule} (s : Bool × List Bool) (i : Nat) (h : (dStep facts d s i).1 = false) : dStep facts d s i = s ∧ okI facts d s.2 i := by
  unfold dStep at h ⊢
  by_cases h1 : dSkip facts d s.2 i = true
  · rw [if_pos h1]; exact ⟨rfl, .inl h1⟩
  · rw [if_neg h1] at h ⊢
    by_cases h2 : ((iota facts.length).any (offB facts d s.2 (colM (nth facts i) d.Col))) = true
    · rw [if_pos h2]; exact ⟨rfl, .inr h2⟩
    · rw [if_neg h2] at h; cases h
def okRule (facts : List GFact) (gs : List Bool) (d : GRule) : Prop := d.Kind = 3 → ∀ i, i < facts.length → okI facts d gs i
theorem dRule_still {facts : List GFact} (s : Bool × List Bool) (d : GRule) (h : (dRule facts s d).1 = false) : dRule facts s d = s ∧ okRule facts s.2 d := by
  unfold dRule at h ⊢
  by_cases hk : d.Kind = 3
  · rw [if_pos hk] at h ⊢
    obtain ⟨h1, h2⟩ := fold_still (ok := fun gs i => okI facts d gs i) (fun s x => dStep_still s x) _ _ h
    exact ⟨h1, fun _ i hi => h2 i (List.mem_range.2 hi)⟩
  · rw [if_neg hk]; exact ⟨rfl, fun q => absurd q hk⟩
theorem dRound_still {rules : List GRule} {facts : List GFact} {gs : List Bool} (h : (dRound rules facts gs).1 = false) : dRound rules facts gs = (false, gs) ∧ ∀ d ∈ rules, okRule facts gs d :=
  fold_still (ok := fun gs d => okRule facts gs d) (fun s x => dRule_still s x) rules (false, gs) h
theorem dRun_still {rules : List GRule} {facts : List GFact} : ∀ (k : Nat) (gs : List Bool), gs.length = facts.length → cntF gs < k → (dRun rules facts k gs).length = facts.length ∧ dRound rules facts (dRun rules facts k gs) = (false, dRun rules facts k gs)
  | 0, gs, _, h => absurd h (by omega)
  | k + 1, gs, hl, h => by
    have hr := dRules_rel rules (false, gs) hl
    have e : dRun rules facts (k + 1) gs = if (dRound rules facts gs).1 = true then dRun rules facts k (dRound rules facts gs).2 else (dRound rules facts gs).2 := rfl
    by_cases hc : (dRound rules facts gs).1 = true
    · rw [e, if_pos hc]
      have hlt : cntF (dRound rules facts gs).2 < cntF gs := by
        rcases hr.2.2 hc with q | q
        · cases q
        · exact q
      exact dRun_still k _ (hr.1.trans hl) (by omega)
    · rw [e, if_neg hc]
      have hf : (dRound rules facts gs).1 = false := by simpa using hc
      have h1 := (dRound_still hf).1
      rw [h1]
      exact ⟨hl, h1⟩
theorem gone_len (rules : List GRule) (facts : List GFact) : (goneM rules facts).length = facts.length := (dRun_still _ _ (by simp) (by rw [cntF_rep]; omega)).1
theorem gone_ok (rules : List GRule) (facts : List GFact) : ∀ d ∈ rules, okRule facts (goneM rules facts) d := by
  have h := (dRun_still (rules := rules) (facts := facts) (facts.length + 1) (List.replicate facts.length false) (by simp) (by rw [cntF_rep]; omega)).2
  exact (dRound_still (rules := rules) (facts := facts) (gs := goneM rules facts) (by rw [goneM, h])).2
/-- Rule d asks a fact f for another one that offers its value. -/
def Asks (d : GRule) (f : GFact) : Prop := d.Kind = 3 ∧ f.Table = d.Table ∧ (colM f d.Col).Kind ≠ 0
def Offers (d : GRule) (f g : GFact) : Prop := g.Table = d.Other ∧ testV (colM f d.Col) 1 (colM g d.OtherCol) 0 = true
/-- A set of facts in which each finds what its rules ask for. -/
def Held (rules : List GRule) (facts : List GFact) (S : Nat → Prop) : Prop := ∀ i, i < facts.length → S i → ∀ d ∈ rules, Asks d (nth facts i) → ∃ k, k < facts.length ∧ S k ∧ Offers d (nth facts i) (nth facts k)
theorem offB_iff {facts : List GFact} {d : GRule} {gs : List Bool} {v : GValue} : ((iota facts.length).any (offB facts d gs v)) = true ↔ ∃ k, k < facts.length ∧ (nth facts k).Table = d.Other ∧ nth gs k = false ∧ testV v 1 (colM (nth facts k) d.OtherCol) 0 = true := by
  rw [List.any_eq_true]
  constructor
  · rintro ⟨x, hx, h⟩
    have := iota_mem hx
    simp only [offB, Bool.and_eq_true, decide_eq_true_eq, Bool.not_eq_true'] at h
    exact ⟨x.toNat, by omega, h.1.1, h.1.2, h.2⟩
  · rintro ⟨k, hk, h1, h2, h3⟩
    refine ⟨(k : Int), iota_mem_iff.2 (by omega), ?_⟩
    simp only [offB, Bool.and_eq_true, decide_eq_true_eq, Bool.not_eq_true', Int.toNat_natCast]
    exact ⟨⟨h1, h2⟩, h3⟩
theorem skip_iff {facts : List GFact} {d : GRule} {gs : List Bool} {i : Nat} : dSkip facts d gs i = true ↔ (nth facts i).Table ≠ d.Table ∨ nth gs i = true ∨ (colM (nth facts i) d.Col).Kind = 0 := by
  simp only [dSkip, Bool.or_eq_true, Bool.not_eq_true', decide_eq_false_iff_not, decide_eq_true_eq, or_assoc, ne_eq]
/-- Who is left finds what it asks for. -/
theorem gone_held (rules : List GRule) (facts : List GFact) : Held rules facts fun i => nth (goneM rules facts) i = false := by
  intro i hi hs d hd ha
  rcases gone_ok rules facts d hd ha.1 i hi with h | h
  · rcases skip_iff.1 h with h | h | h
    · exact absurd ha.2.1 h
    · rw [hs] at h; cases h
    · exact absurd h ha.2.2
  · obtain ⟨k, hk, h1, h2, h3⟩ := offB_iff.1 h
    exact ⟨k, hk, h2, h1, h3⟩
/-- And whoever finds what he asks for is left. -/
theorem held_left {rules : List GRule} {facts : List GFact} {S : Nat → Prop} (hS : Held rules facts S) : ∀ i, i < facts.length → S i → nth (goneM rules facts) i = false := by
  let I : List Bool → Prop := fun gs => gs.length = facts.length ∧ ∀ i, i < facts.length → S i → nth gs i = false
  have hstep : ∀ (d : GRule), d ∈ rules → d.Kind = 3 → ∀ (s : Bool × List Bool) (i : Nat), i < facts.length → I s.2 → I (dStep facts d s i).2 := by
    intro d hd hk s i hi ⟨hl, hI⟩
    unfold dStep
    by_cases h1 : dSkip facts d s.2 i = true
    · rw [if_pos h1]; exact ⟨hl, hI⟩
    · rw [if_neg h1]
      by_cases h2 : ((iota facts.length).any (offB facts d s.2 (colM (nth facts i) d.Col))) = true
      · rw [if_pos h2]; exact ⟨hl, hI⟩
      · rw [if_neg h2]
        refine ⟨by simp [hl], fun j hj hs => ?_⟩
        rw [nth_set (by omega)]
        by_cases e : i = j
        · exfalso
          subst e
          rw [skip_iff] at h1
          have h1' : (nth facts i).Table = d.Table ∧ (colM (nth facts i) d.Col).Kind ≠ 0 := ⟨Classical.byContradiction fun q => h1 (.inl q), fun q => h1 (.inr (.inr q))⟩
          obtain ⟨k, hk1, hk2, hk3⟩ := hS i hi hs d hd ⟨hk, h1'.1, h1'.2⟩
          exact h2 (offB_iff.2 ⟨k, hk1, hk3.1, hI k hk1 hk2, hk3.2⟩)
        · rw [if_neg e]; exact hI j hj hs
  have hrule : ∀ (d : GRule), d ∈ rules → ∀ (s : Bool × List Bool), I s.2 → I (dRule facts s d).2 := by
    intro d hd s hs
    unfold dRule
    by_cases hk : d.Kind = 3
    · rw [if_pos hk]
      exact fold_inv (I := fun s => I s.2) _ _ (fun s i hi hI => hstep d hd hk s i (List.mem_range.1 hi) hI) hs
    · rw [if_neg hk]; exact hs
  have hround : ∀ gs, I gs → I (dRound rules facts gs).2 := fun gs hI => fold_inv (I := fun s => I s.2) rules (false, gs) (fun s d hd hs => hrule d hd s hs) hI
  have hrun : ∀ k gs, I gs → I (dRun rules facts k gs) := by
    intro k
    induction k with
    | zero => exact fun gs h => h
    | succ k ih =>
      intro gs h
      have h2 := hround gs h
      show I (if (dRound rules facts gs).1 = true then dRun rules facts k (dRound rules facts gs).2 else (dRound rules facts gs).2)
      split
      · exact ih _ h2
      · exact h2
  have := hrun (facts.length + 1) (List.replicate facts.length false) ⟨by simp, fun i hi _ => by rw [nth_get (by simpa using hi)]; simp⟩
  exact fun i hi hs => this.2 i hi hs
theorem danM_iff {rules : List GRule} {facts : List GFact} {x : Int} : x ∈ danM rules facts ↔ (0 ≤ x ∧ x < facts.length) ∧ nth (goneM rules facts) x.toNat = true := by
  rw [danM, List.mem_filter, iota_mem_iff]
  simp
theorem danM_srt (rules : List GRule) (facts : List GFact) : Srt (danM rules facts) := (iota_srt _).filter _
/-- All of a list find what they ask for. -/
def AllHeld (rules : List GRule) (L : List GFact) : Prop := ∀ f ∈ L, ∀ d ∈ rules, Asks d f → ∃ g ∈ L, Offers d f g
theorem mem_nth {α : Type} [Inhabited α] {l : List α} {x : α} (h : x ∈ l) : ∃ i, i < l.length ∧ nth l i = x := by
  obtain ⟨i, hi, e⟩ := List.getElem_of_mem h
  exact ⟨i, hi, by rw [nth_get hi]; exact e⟩
theorem danM_nil {rules : List GRule} {L : List GFact} : danM rules L = [] ↔ AllHeld rules L := by
  constructor
  · intro h f hf d hd ha
    obtain ⟨i, hi, rfl⟩ := mem_nth hf
    have hn : ∀ j, j < L.length → nth (goneM rules L) j = false := fun j hj => by
      cases hg : nth (goneM rules L) j with
      | false => rfl
      | true =>
        have : (j : Int) ∈ danM rules L := danM_iff.2 ⟨by omega, by simpa using hg⟩
        rw [h] at this; cases this
    obtain ⟨k, hk, _, h2⟩ := gone_held rules L i hi (hn i hi) d hd ha
    exact ⟨_, nth_mem hk, h2⟩
  · intro h
    have := held_left (rules := rules) (facts := L) (S := fun _ => True) (fun i hi _ d hd ha => by
      obtain ⟨g, hg, ho⟩ := h _ (nth_mem hi) d hd ha
      obtain ⟨k, hk, rfl⟩ := mem_nth hg
      exact ⟨k, hk, trivial, ho⟩)
    refine List.eq_nil_iff_forall_not_mem.2 fun x hx => ?_
    obtain ⟨h1, h2⟩ := danM_iff.1 hx
    rw [this x.toNat (by omega) trivial] at h2
    cases h2
/-- The facts at some places. -/
def pick (facts : List GFact) (p : Nat → Bool) (n : Nat) : List GFact := ((List.range n).filter p).map (nth facts)
theorem pick_succ (facts : List GFact) (p : Nat → Bool) (n : Nat) : pick facts p (n + 1) = pick facts p n ++ if p n = true then [nth facts n] else [] := by
  unfold pick
  rw [List.range_succ, List.filter_append, List.map_append]
  by_cases h : p n = true <;> simp [h]
theorem pick_len (facts : List GFact) (p : Nat → Bool) (n : Nat) : (pick facts p n).length ≤ n := by
  unfold pick
  rw [List.length_map]
  exact Nat.le_trans (List.length_filter_le _ _) (by simp)
theorem pick_mem {facts : List GFact} {p : Nat → Bool} {n : Nat} {f : GFact} : f ∈ pick facts p n ↔ ∃ i, i < n ∧ p i = true ∧ nth facts i = f := by
  simp [pick, List.mem_map, List.mem_filter, and_assoc]
theorem rest_held (rules : List GRule) (facts : List GFact) : danM rules (pick facts (fun i => !(danM rules facts).contains (i : Int)) facts.length) = [] := by
  rw [danM_nil]
  intro f hf d hd ha
  obtain ⟨i, hi, hp, rfl⟩ := pick_mem.1 hf
  have key : ∀ j, j < facts.length → ((!(danM rules facts).contains (j : Int)) = true ↔ nth (goneM rules facts) j = false) := by
    intro j hj
    rw [Bool.not_eq_true', ← Bool.not_eq_true, List.contains_iff_mem, danM_iff, Int.toNat_natCast]
    cases nth (goneM rules facts) j with
    | false => simp
    | true =>
      constructor
      · intro h; exact absurd ⟨⟨by omega, by omega⟩, rfl⟩ h
      · intro h; cases h
  obtain ⟨k, hk, h1, h2⟩ := gone_held rules facts i hi ((key i hi).1 hp) d hd ha
  exact ⟨_, pick_mem.2 ⟨k, hk, (key k hk).2 h1, rfl⟩, h2⟩
theorem part_held {rules : List GRule} {facts : List GFact} {q : Nat → Bool} (h : danM rules (pick facts q facts.length) = []) : ∀ i, i < facts.length → q i = true → (i : Int) ∉ danM rules facts := by
  rw [danM_nil] at h
  have := held_left (rules := rules) (facts := facts) (S := fun i => q i = true) (fun i hi hs d hd ha => by
    obtain ⟨g, hg, ho⟩ := h _ (pick_mem.2 ⟨i, hi, hs, rfl⟩) d hd ha
    obtain ⟨k, hk, hq, rfl⟩ := pick_mem.1 hg
    exact ⟨k, hk, hq, ho⟩)
  intro i hi hs hd
  have h2 := (danM_iff.1 hd).2
  rw [Int.toNat_natCast, this i hi hs] at h2
  cases h2
end Lg

namespace Lg
open Go Go.Proofs


abbrev whP (which : List Bool) (j : Nat) : Bool := decide ((j : Int) < which.length) && nth which j
abbrev inP (rules : List GRule) (facts : List GFact) (j : Nat) : Bool := !(danM rules facts).contains (j : Int)
theorem supp_end {rules : List GRule} {facts : List GFact} {which : List Bool} {b : Bool} (hb : b = true → ∃ j, j < facts.length ∧ whP which j = true ∧ (j : Int) ∈ danM rules facts) :
    (true && decide (((danM rules (pick facts (inP rules facts) facts.length)).length : Int) = 0) && (decide (((danM rules (pick facts (whP which) facts.length)).length : Int) > 0) || !b)) = true := by
  rw [rest_held]
  by_cases hp : danM rules (pick facts (whP which) facts.length) = []
  · cases b with
    | false => simp
    | true =>
      obtain ⟨j, h1, h2, h3⟩ := hb rfl
      exact absurd h3 (part_held hp j h1 h2)
  · have : 0 < (danM rules (pick facts (whP which) facts.length)).length := List.length_pos_iff.2 hp
    simp only [List.length_nil, Bool.and_eq_true, Bool.or_eq_true, decide_eq_true_eq]
    refine ⟨⟨trivial, rfl⟩, .inl ?_⟩
    omega

theorem Support_spec (rules : List GRule) (facts : List GFact) (which : List Bool) : Fun1 Tryz.prog 8 [tSl rRule rules, tSl rFact facts, tSl rBool which] (tV (.bool true)) := by
  refine Spec.enter Tryz.func8 rfl rfl fun h0 w0 fr0 => ?_
  refine J_seq ?_
  refine J_region ?_
  refine JL_step rfl rfl rfl (step_assign Sub.rfl) ?_
  refine JL_nil ?_
  refine J_seq ?_
  refine J_region ?_
  refine JL_step rfl rfl rfl (step_call0 (head_spec) trivial Tryz.call10) ?_
  refine JL_step rfl rfl rfl (step_assign Sub.rfl) ?_
  refine JL_nil ?_
  refine J_seq ?_
  refine J_seq ?_
  refine J_region ?_
  refine JL_step rfl rfl rfl (step_move Sub.rfl) ?_
  refine JL_step rfl rfl rfl (step_move Sub.rfl) ?_
  refine JL_step rfl rfl rfl (step_call0 (Few_spec _ _ _ (by omega)) ⟨Sub.rfl, Sub.rfl, Sub.rfl, trivial⟩ Tryz.call11) ?_
  refine JL_step rfl rfl rfl (step_not Sub.rfl) ?_
  refine JL_nil ?_
  refine J_cond Sub.rfl (fun h18 => ?_) (fun h18 => ?_)
  · try simp only [decide_eq_true_eq, decide_eq_false_iff_not, Bool.and_eq_true, Bool.or_eq_true, Bool.and_eq_false_iff, Bool.or_eq_false_iff, Bool.not_eq_true', Bool.not_eq_false', Int.not_lt, Int.not_le, Bool.not_true, Bool.not_false] at h18
    refine J_seq ?_
    refine J_region ?_
    refine JL_step rfl rfl rfl (step_move Sub.rfl) ?_
    refine JL_step rfl rfl rfl (step_assign Sub.rfl) ?_
    refine JL_nil ?_
    refine J_ret ?_
    refine K_retv (rv := .tmp 6) rfl () (.tmp Sub.rfl) (Sub.bool ?_)
    rfl
  · try simp only [decide_eq_true_eq, decide_eq_false_iff_not, Bool.and_eq_true, Bool.or_eq_true, Bool.and_eq_false_iff, Bool.or_eq_false_iff, Bool.not_eq_true', Bool.not_eq_false', Int.not_lt, Int.not_le, Bool.not_true, Bool.not_false] at h18
    have HP := FewP.of h18
    have hfl := HP.fl
    have hrl := HP.rl
    refine J_skip ?_
    refine J_seq ?_
    refine J_region ?_
    refine JL_step rfl rfl rfl (step_move Sub.rfl) ?_
    refine JL_step rfl rfl rfl (step_move Sub.rfl) ?_
    refine JL_step rfl rfl rfl (step_call0 (Dangling_spec _ _ (by omega) (by omega)) ⟨Sub.rfl, Sub.rfl, trivial⟩ Tryz.call22) ?_
    refine JL_step rfl rfl rfl (step_assign Sub.rfl) ?_
    refine JL_nil ?_
    refine J_seq ?_
    refine J_region ?_
    refine JL_step rfl rfl rfl (step_assign Sub.rfl) ?_
    refine JL_nil ?_
    refine J_seq ?_
    refine J_region ?_
    refine JL_step rfl rfl rfl (step_assign Sub.rfl) ?_
    refine JL_nil ?_
    refine J_seq ?_
    refine J_region ?_
    refine JL_step rfl rfl rfl (step_assign Sub.rfl) ?_
    refine JL_nil ?_
    refine J_seq ?_
    refine J_seq ?_
    refine J_region ?_
    refine JL_step rfl rfl rfl (step_assign Sub.rfl) ?_
    refine JL_nil ?_
    refine J_block ?_
    refine J_loopL (σ := Nat × Value × Value × Bool) (fun ⟨i, vr, vp, b⟩ => i ≤ facts.length ∧ (b = true → ∃ j, j < i ∧ whP which j = true ∧ (j : Int) ∈ danM rules facts)) (fun ⟨i, vr, vp, b⟩ => upd (upd (upd (upd (upd (upd (upd (upd (upd (upd env0 0 (tSl rRule rules)) 1 (tSl rFact facts)) 2 (tSl rBool which)) 6 (tV (.bool false))) 7 (tV (.bool true))) 8 (tSlE 3 rInt (danM rules facts))) 9 (rV.ty vr)) 10 (rV.ty vp)) 11 (tV (.bool b))) 12 (tV (.int .i64 i))) (fun ⟨i, vr, vp, b⟩ => [own 54 rFact vr (pick facts (inP rules facts) i), own 54 rFact vp (pick facts (whP which) i)]) (fun ⟨i, vr, vp, b⟩ => facts.length - i) (0, .slice none 0 0, .slice none 0 0, false) ⟨by simp, by simp⟩ (SubE.upd Sub.rfl (SubE.upd Sub.rfl (SubE.upd (Sub.rV rfl) (SubE.upd (Sub.rV rfl) (SubE.upd Sub.rfl (SubE.upd Sub.rfl (SubE.upd Sub.rfl (SubE.upd Sub.rfl (SubE.upd Sub.rfl (SubE.upd Sub.rfl SubE.any)))))))))) (LSub.trans LSub.nilown LSub.nilown) ?_
    rintro ⟨i, vr, vp, b⟩ ⟨hi, hv⟩
    refine J_seq ?_
    refine J_seq ?_
    refine J_region ?_
    refine JL_step rfl rfl rfl (step_move Sub.rfl) ?_
    refine JL_step rfl rfl rfl (step_move Sub.rfl) ?_
    refine JL_step rfl rfl rfl (step_len_sl Tryz.underlying23 Sub.rfl) ?_
    refine JL_step rfl rfl rfl (step_lss Sub.rfl Sub.rfl) ?_
    refine JL_nil ?_
    refine J_cond Sub.rfl (fun h26 => ?_) (fun h26 => ?_)
    · try simp only [decide_eq_true_eq, decide_eq_false_iff_not, Bool.and_eq_true, Bool.or_eq_true, Bool.and_eq_false_iff, Bool.or_eq_false_iff, Bool.not_eq_true', Bool.not_eq_false', Int.not_lt, Int.not_le, Bool.not_true, Bool.not_false] at h26
      have hlt : i < facts.length := by omega
      have hpl1 := pick_len facts (inP rules facts) i
      have hpl2 := pick_len facts (whP which) i
      refine J_skip ?_
      refine J_seq ?_
      refine J_block ?_
      refine J_seq ?_
      refine J_region ?_
      refine JL_step rfl rfl rfl (step_move Sub.rfl) ?_
      refine JL_step rfl rfl rfl (step_move Sub.rfl) ?_
      refine JL_step rfl rfl rfl (step_call0 (In_spec _ _ (by have := danM_len rules facts; omega)) ⟨Sub.ofE, Sub.rfl, trivial⟩ Tryz.call29) ?_
      refine JL_step rfl rfl rfl (step_assign Sub.rfl) ?_
      refine JL_nil ?_
      refine J_seq ?_
      refine J_seq ?_
      refine J_region ?_
      refine JL_step rfl rfl rfl (step_move Sub.rfl) ?_
      refine JL_step rfl rfl rfl (step_not Sub.rfl) ?_
      refine JL_nil ?_
      refine J_cond Sub.rfl (fun h33 => ?_) (fun h33 => ?_)
      · try simp only [decide_eq_true_eq, decide_eq_false_iff_not, Bool.and_eq_true, Bool.or_eq_true, Bool.and_eq_false_iff, Bool.or_eq_false_iff, Bool.not_eq_true', Bool.not_eq_false', Int.not_lt, Int.not_le, Bool.not_true, Bool.not_false] at h33
        have hP : inP rules facts i = true := by simp only [inP]; simp_all
        refine J_region ?_
        refine JL_step rfl rfl rfl (step_move Sub.rfl) ?_
        refine JL_step rfl rfl rfl (step_move Sub.rfl) ?_
        refine JL_step rfl rfl rfl (step_move Sub.rfl) ?_
        refine JL_step rfl rfl rfl (step_indexAddr_sl  Tryz.underlying23 ty54 Sub.rfl Sub.rfl rfl (gb ?sg1)) ?_
        case sg1 => first | assumption | omega
        refine JL_step rfl rfl rfl (step_load_ptr ty54 Sub.rfl) ?_
        refine JL_step rfl rfl rfl (step_literal (ys := [_]) Tryz.underlying23 el54 ⟨rfl, Sub.rfl, trivial⟩ rfl (by decide)) ?_
        refine JL_stepX rfl rfl rfl (step_append Tryz.underlying23 el54 Sub.rfl Sub.rfl (by first | exact Sel.take (Sel.none _) | exact Sel.skip (Sel.take (Sel.none _)) | exact Sel.skip (Sel.skip (Sel.take (Sel.none _))) | exact Sel.skip (Sel.skip (Sel.skip (Sel.take (Sel.none _)))) | exact Sel.skip (Sel.skip (Sel.skip (Sel.skip (Sel.take (Sel.none _)))))) (by simp only [List.length_cons, List.length_nil]; omega) (by simp only [List.length_cons, List.length_nil]; omega)) fun v40 => ?_
        refine JL_step rfl rfl rfl (step_assign Sub.rfl) ?_
        refine JL_nil ?_
        refine J_seq ?_
        refine J_region ?_
        refine JL_step rfl rfl rfl (step_move Sub.rfl) ?_
        refine JL_step rfl rfl rfl (step_move Sub.rfl) ?_
        refine JL_step rfl rfl rfl (step_len_sl Tryz.underlying47 Sub.rfl) ?_
        refine JL_step rfl rfl rfl (step_lss Sub.rfl Sub.rfl) ?_
        refine JL_step rfl rfl rfl (step_move Sub.rfl) ?_
        refine JL_stepG rfl rfl rfl (Gd.plain Sub.rfl) rfl rfl (fun hw => step_move Sub.rfl) ?_
        refine JL_stepG rfl rfl rfl (Gd.plain Sub.rfl) rfl rfl (fun hw => step_move Sub.rfl) ?_
        refine JL_stepG rfl rfl rfl (Gd.plain Sub.rfl) rfl rfl (fun hw => step_indexAddr_sl  Tryz.underlying47 ty4 (Sub.w hw) (Sub.w hw) rfl (gb ?sg1)) ?_
        case sg1 => have hwq := hw; (try simp only [beqB_t, beqB_f, decide_eq_true_eq, decide_eq_false_iff_not, Bool.and_eq_true, Bool.or_eq_true, Bool.and_eq_false_iff, Bool.or_eq_false_iff, Bool.not_eq_true', Bool.not_eq_false', Int.not_lt, Int.not_le, Bool.not_true, Bool.not_false] at hwq); first | assumption | omega
        refine JL_stepG rfl rfl rfl (Gd.plain Sub.rfl) rfl rfl (fun hw => step_load_ptr ty4 (Sub.w hw)) ?_
        refine JL_step rfl rfl rfl (step_pick_and Sub.rfl Sub.rfl) ?_
        refine JL_nil ?_
        refine J_cond Sub.rfl (fun h50 => ?_) (fun h50 => ?_)
        · try simp only [decide_eq_true_eq, decide_eq_false_iff_not, Bool.and_eq_true, Bool.or_eq_true, Bool.and_eq_false_iff, Bool.or_eq_false_iff, Bool.not_eq_true', Bool.not_eq_false', Int.not_lt, Int.not_le, Bool.not_true, Bool.not_false] at h50
          have hQ : whP which i = true := by simp only [whP, Bool.and_eq_true, decide_eq_true_eq]; exact h50
          refine J_seq ?_
          refine J_region ?_
          refine JL_step rfl rfl rfl (step_move Sub.rfl) ?_
          refine JL_step rfl rfl rfl (step_move Sub.rfl) ?_
          refine JL_step rfl rfl rfl (step_move Sub.rfl) ?_
          refine JL_step rfl rfl rfl (step_indexAddr_sl  Tryz.underlying23 ty54 Sub.rfl Sub.rfl rfl (gb ?sg1)) ?_
          case sg1 => first | assumption | omega
          refine JL_step rfl rfl rfl (step_load_ptr ty54 Sub.rfl) ?_
          refine JL_step rfl rfl rfl (step_literal (ys := [_]) Tryz.underlying23 el54 ⟨rfl, Sub.rfl, trivial⟩ rfl (by decide)) ?_
          refine JL_stepX rfl rfl rfl (step_append Tryz.underlying23 el54 Sub.rfl Sub.rfl (by first | exact Sel.take (Sel.none _) | exact Sel.skip (Sel.take (Sel.none _)) | exact Sel.skip (Sel.skip (Sel.take (Sel.none _))) | exact Sel.skip (Sel.skip (Sel.skip (Sel.take (Sel.none _)))) | exact Sel.skip (Sel.skip (Sel.skip (Sel.skip (Sel.take (Sel.none _)))))) (by simp only [List.length_cons, List.length_nil]; omega) (by simp only [List.length_cons, List.length_nil]; omega)) fun v57 => ?_
          refine JL_step rfl rfl rfl (step_assign Sub.rfl) ?_
          refine JL_nil ?_
          refine J_region ?_
          refine JL_step rfl rfl rfl (step_move Sub.rfl) ?_
          refine JL_step rfl rfl rfl (step_move Sub.rfl) ?_
          refine JL_stepG rfl rfl rfl (Gd.plain Sub.rfl) rfl rfl (fun hw => step_move Sub.rfl) ?_
          refine JL_step rfl rfl rfl (step_pick_or Sub.rfl Sub.rfl) ?_
          refine JL_step rfl rfl rfl (step_assign Sub.rfl) ?_
          refine JL_nil ?_
          refine J_region ?_
          refine JL_step rfl rfl rfl (step_move Sub.rfl) ?_
          refine JL_step rfl rfl rfl (step_add Sub.rfl Sub.rfl ?sg1) ?_
          case sg1 => unfold in64; omega
          refine JL_step rfl rfl rfl (step_assign Sub.rfl) ?_
          refine JL_nil ?_
          refine K_againL (σ := Nat × Value × Value × Bool) (s := (i, vr, vp, b)) (i + 1, v40, v57, b || (danM rules facts).contains (i : Int)) (by first | omega | (dsimp only; omega) | (simp_all; omega)) ⟨by omega, fun h => by rw [Bool.or_eq_true] at h; rcases h with h | h; exact (fun h => by obtain ⟨j, q1, q2, q3⟩ := hv h; exact ⟨j, by omega, q2, q3⟩) h; exact ⟨i, by omega, hQ, List.contains_iff_mem.1 h⟩⟩ (SubE.upd Sub.rfl (SubE.upd Sub.rfl (SubE.upd Sub.rfl (SubE.upd Sub.rfl (SubE.upd Sub.rfl (SubE.upd Sub.rfl (SubE.upd Sub.rfl (SubE.upd Sub.rfl (SubE.upd Sub.rfl (SubE.upd Sub.rfl SubE.any)))))))))) (LSub.cons (by first | exact Sel.take (Sel.none _) | exact Sel.skip (Sel.take (Sel.none _)) | exact Sel.skip (Sel.skip (Sel.take (Sel.none _))) | exact Sel.skip (Sel.skip (Sel.skip (Sel.take (Sel.none _)))) | exact Sel.skip (Sel.skip (Sel.skip (Sel.skip (Sel.take (Sel.none _)))))) (own_eq (by rw [pick_succ, if_pos hP])) (LSub.cons (by first | exact Sel.take (Sel.none _) | exact Sel.skip (Sel.take (Sel.none _)) | exact Sel.skip (Sel.skip (Sel.take (Sel.none _))) | exact Sel.skip (Sel.skip (Sel.skip (Sel.take (Sel.none _)))) | exact Sel.skip (Sel.skip (Sel.skip (Sel.skip (Sel.take (Sel.none _)))))) (own_eq (by rw [pick_succ, if_pos hQ])) (LSub.nil)))
        · try simp only [decide_eq_true_eq, decide_eq_false_iff_not, Bool.and_eq_true, Bool.or_eq_true, Bool.and_eq_false_iff, Bool.or_eq_false_iff, Bool.not_eq_true', Bool.not_eq_false', Int.not_lt, Int.not_le, Bool.not_true, Bool.not_false] at h50
          have hQ : ¬ whP which i = true := by simp only [whP, Bool.and_eq_true, decide_eq_true_eq]; intro q; rcases h50 with h | h; omega; rw [q.2] at h; cases h
          refine J_skip ?_
          refine J_region ?_
          refine JL_step rfl rfl rfl (step_move Sub.rfl) ?_
          refine JL_step rfl rfl rfl (step_add Sub.rfl Sub.rfl ?sg1) ?_
          case sg1 => unfold in64; omega
          refine JL_step rfl rfl rfl (step_assign Sub.rfl) ?_
          refine JL_nil ?_
          refine K_againL (σ := Nat × Value × Value × Bool) (s := (i, vr, vp, b)) (i + 1, v40, vp, b) (by first | omega | (dsimp only; omega) | (simp_all; omega)) ⟨by omega, fun h => by obtain ⟨j, q1, q2, q3⟩ := hv h; exact ⟨j, by omega, q2, q3⟩⟩ (SubE.upd Sub.rfl (SubE.upd Sub.rfl (SubE.upd Sub.rfl (SubE.upd Sub.rfl (SubE.upd Sub.rfl (SubE.upd Sub.rfl (SubE.upd Sub.rfl (SubE.upd Sub.rfl (SubE.upd Sub.rfl (SubE.upd Sub.rfl SubE.any)))))))))) (LSub.cons (by first | exact Sel.take (Sel.none _) | exact Sel.skip (Sel.take (Sel.none _)) | exact Sel.skip (Sel.skip (Sel.take (Sel.none _))) | exact Sel.skip (Sel.skip (Sel.skip (Sel.take (Sel.none _)))) | exact Sel.skip (Sel.skip (Sel.skip (Sel.skip (Sel.take (Sel.none _)))))) (own_eq (by rw [pick_succ, if_pos hP])) (LSub.cons (by first | exact Sel.take (Sel.none _) | exact Sel.skip (Sel.take (Sel.none _)) | exact Sel.skip (Sel.skip (Sel.take (Sel.none _))) | exact Sel.skip (Sel.skip (Sel.skip (Sel.take (Sel.none _)))) | exact Sel.skip (Sel.skip (Sel.skip (Sel.skip (Sel.take (Sel.none _)))))) (own_eq (by rw [pick_succ, if_neg hQ, List.append_nil])) (LSub.nil)))
      · try simp only [decide_eq_true_eq, decide_eq_false_iff_not, Bool.and_eq_true, Bool.or_eq_true, Bool.and_eq_false_iff, Bool.or_eq_false_iff, Bool.not_eq_true', Bool.not_eq_false', Int.not_lt, Int.not_le, Bool.not_true, Bool.not_false] at h33
        have hP : ¬ inP rules facts i = true := by simp only [inP]; simp_all
        refine J_skip ?_
        refine J_seq ?_
        refine J_region ?_
        refine JL_step rfl rfl rfl (step_move Sub.rfl) ?_
        refine JL_step rfl rfl rfl (step_move Sub.rfl) ?_
        refine JL_step rfl rfl rfl (step_len_sl Tryz.underlying47 Sub.rfl) ?_
        refine JL_step rfl rfl rfl (step_lss Sub.rfl Sub.rfl) ?_
        refine JL_step rfl rfl rfl (step_move Sub.rfl) ?_
        refine JL_stepG rfl rfl rfl (Gd.plain Sub.rfl) rfl rfl (fun hw => step_move Sub.rfl) ?_
        refine JL_stepG rfl rfl rfl (Gd.plain Sub.rfl) rfl rfl (fun hw => step_move Sub.rfl) ?_
        refine JL_stepG rfl rfl rfl (Gd.plain Sub.rfl) rfl rfl (fun hw => step_indexAddr_sl  Tryz.underlying47 ty4 (Sub.w hw) (Sub.w hw) rfl (gb ?sg1)) ?_
        case sg1 => have hwq := hw; (try simp only [beqB_t, beqB_f, decide_eq_true_eq, decide_eq_false_iff_not, Bool.and_eq_true, Bool.or_eq_true, Bool.and_eq_false_iff, Bool.or_eq_false_iff, Bool.not_eq_true', Bool.not_eq_false', Int.not_lt, Int.not_le, Bool.not_true, Bool.not_false] at hwq); first | assumption | omega
        refine JL_stepG rfl rfl rfl (Gd.plain Sub.rfl) rfl rfl (fun hw => step_load_ptr ty4 (Sub.w hw)) ?_
        refine JL_step rfl rfl rfl (step_pick_and Sub.rfl Sub.rfl) ?_
        refine JL_nil ?_
        refine J_cond Sub.rfl (fun h50 => ?_) (fun h50 => ?_)
        · try simp only [decide_eq_true_eq, decide_eq_false_iff_not, Bool.and_eq_true, Bool.or_eq_true, Bool.and_eq_false_iff, Bool.or_eq_false_iff, Bool.not_eq_true', Bool.not_eq_false', Int.not_lt, Int.not_le, Bool.not_true, Bool.not_false] at h50
          have hQ : whP which i = true := by simp only [whP, Bool.and_eq_true, decide_eq_true_eq]; exact h50
          refine J_seq ?_
          refine J_region ?_
          refine JL_step rfl rfl rfl (step_move Sub.rfl) ?_
          refine JL_step rfl rfl rfl (step_move Sub.rfl) ?_
          refine JL_step rfl rfl rfl (step_move Sub.rfl) ?_
          refine JL_step rfl rfl rfl (step_indexAddr_sl  Tryz.underlying23 ty54 Sub.rfl Sub.rfl rfl (gb ?sg1)) ?_
          case sg1 => first | assumption | omega
          refine JL_step rfl rfl rfl (step_load_ptr ty54 Sub.rfl) ?_
          refine JL_step rfl rfl rfl (step_literal (ys := [_]) Tryz.underlying23 el54 ⟨rfl, Sub.rfl, trivial⟩ rfl (by decide)) ?_
          refine JL_stepX rfl rfl rfl (step_append Tryz.underlying23 el54 Sub.rfl Sub.rfl (by first | exact Sel.take (Sel.none _) | exact Sel.skip (Sel.take (Sel.none _)) | exact Sel.skip (Sel.skip (Sel.take (Sel.none _))) | exact Sel.skip (Sel.skip (Sel.skip (Sel.take (Sel.none _)))) | exact Sel.skip (Sel.skip (Sel.skip (Sel.skip (Sel.take (Sel.none _)))))) (by simp only [List.length_cons, List.length_nil]; omega) (by simp only [List.length_cons, List.length_nil]; omega)) fun v57 => ?_
          refine JL_step rfl rfl rfl (step_assign Sub.rfl) ?_
          refine JL_nil ?_
          refine J_region ?_
          refine JL_step rfl rfl rfl (step_move Sub.rfl) ?_
          refine JL_step rfl rfl rfl (step_move Sub.rfl) ?_
          refine JL_stepG rfl rfl rfl (Gd.plain Sub.rfl) rfl rfl (fun hw => step_move Sub.rfl) ?_
          refine JL_step rfl rfl rfl (step_pick_or Sub.rfl Sub.rfl) ?_
          refine JL_step rfl rfl rfl (step_assign Sub.rfl) ?_
          refine JL_nil ?_
          refine J_region ?_
          refine JL_step rfl rfl rfl (step_move Sub.rfl) ?_
          refine JL_step rfl rfl rfl (step_add Sub.rfl Sub.rfl ?sg1) ?_
          case sg1 => unfold in64; omega
          refine JL_step rfl rfl rfl (step_assign Sub.rfl) ?_
          refine JL_nil ?_
          refine K_againL (σ := Nat × Value × Value × Bool) (s := (i, vr, vp, b)) (i + 1, vr, v57, b || (danM rules facts).contains (i : Int)) (by first | omega | (dsimp only; omega) | (simp_all; omega)) ⟨by omega, fun h => by rw [Bool.or_eq_true] at h; rcases h with h | h; exact (fun h => by obtain ⟨j, q1, q2, q3⟩ := hv h; exact ⟨j, by omega, q2, q3⟩) h; exact ⟨i, by omega, hQ, List.contains_iff_mem.1 h⟩⟩ (SubE.upd Sub.rfl (SubE.upd Sub.rfl (SubE.upd Sub.rfl (SubE.upd Sub.rfl (SubE.upd Sub.rfl (SubE.upd Sub.rfl (SubE.upd Sub.rfl (SubE.upd Sub.rfl (SubE.upd Sub.rfl (SubE.upd Sub.rfl SubE.any)))))))))) (LSub.cons (by first | exact Sel.take (Sel.none _) | exact Sel.skip (Sel.take (Sel.none _)) | exact Sel.skip (Sel.skip (Sel.take (Sel.none _))) | exact Sel.skip (Sel.skip (Sel.skip (Sel.take (Sel.none _)))) | exact Sel.skip (Sel.skip (Sel.skip (Sel.skip (Sel.take (Sel.none _)))))) (own_eq (by rw [pick_succ, if_neg hP, List.append_nil])) (LSub.cons (by first | exact Sel.take (Sel.none _) | exact Sel.skip (Sel.take (Sel.none _)) | exact Sel.skip (Sel.skip (Sel.take (Sel.none _))) | exact Sel.skip (Sel.skip (Sel.skip (Sel.take (Sel.none _)))) | exact Sel.skip (Sel.skip (Sel.skip (Sel.skip (Sel.take (Sel.none _)))))) (own_eq (by rw [pick_succ, if_pos hQ])) (LSub.nil)))
        · try simp only [decide_eq_true_eq, decide_eq_false_iff_not, Bool.and_eq_true, Bool.or_eq_true, Bool.and_eq_false_iff, Bool.or_eq_false_iff, Bool.not_eq_true', Bool.not_eq_false', Int.not_lt, Int.not_le, Bool.not_true, Bool.not_false] at h50
          have hQ : ¬ whP which i = true := by simp only [whP, Bool.and_eq_true, decide_eq_true_eq]; intro q; rcases h50 with h | h; omega; rw [q.2] at h; cases h
          refine J_skip ?_
          refine J_region ?_
          refine JL_step rfl rfl rfl (step_move Sub.rfl) ?_
          refine JL_step rfl rfl rfl (step_add Sub.rfl Sub.rfl ?sg1) ?_
          case sg1 => unfold in64; omega
          refine JL_step rfl rfl rfl (step_assign Sub.rfl) ?_
          refine JL_nil ?_
          refine K_againL (σ := Nat × Value × Value × Bool) (s := (i, vr, vp, b)) (i + 1, vr, vp, b) (by first | omega | (dsimp only; omega) | (simp_all; omega)) ⟨by omega, fun h => by obtain ⟨j, q1, q2, q3⟩ := hv h; exact ⟨j, by omega, q2, q3⟩⟩ (SubE.upd Sub.rfl (SubE.upd Sub.rfl (SubE.upd Sub.rfl (SubE.upd Sub.rfl (SubE.upd Sub.rfl (SubE.upd Sub.rfl (SubE.upd Sub.rfl (SubE.upd Sub.rfl (SubE.upd Sub.rfl (SubE.upd Sub.rfl SubE.any)))))))))) (LSub.cons (by first | exact Sel.take (Sel.none _) | exact Sel.skip (Sel.take (Sel.none _)) | exact Sel.skip (Sel.skip (Sel.take (Sel.none _))) | exact Sel.skip (Sel.skip (Sel.skip (Sel.take (Sel.none _)))) | exact Sel.skip (Sel.skip (Sel.skip (Sel.skip (Sel.take (Sel.none _)))))) (own_eq (by rw [pick_succ, if_neg hP, List.append_nil])) (LSub.cons (by first | exact Sel.take (Sel.none _) | exact Sel.skip (Sel.take (Sel.none _)) | exact Sel.skip (Sel.skip (Sel.take (Sel.none _))) | exact Sel.skip (Sel.skip (Sel.skip (Sel.take (Sel.none _)))) | exact Sel.skip (Sel.skip (Sel.skip (Sel.skip (Sel.take (Sel.none _)))))) (own_eq (by rw [pick_succ, if_neg hQ, List.append_nil])) (LSub.nil)))
    · try simp only [decide_eq_true_eq, decide_eq_false_iff_not, Bool.and_eq_true, Bool.or_eq_true, Bool.and_eq_false_iff, Bool.or_eq_false_iff, Bool.not_eq_true', Bool.not_eq_false', Int.not_lt, Int.not_le, Bool.not_true, Bool.not_false] at h26
      refine J_exit ?_
      refine J_seq ?_
      refine J_region ?_
      obtain rfl : i = facts.length := by omega
      refine JL_freeze (t := 9) (Sel.take (Sel.none _)) Frz.own ?_
      refine JL_freeze (t := 10) (Sel.take (Sel.none _)) Frz.own ?_
      refine JL_step rfl rfl rfl (step_move Sub.rfl) ?_
      refine JL_step rfl rfl rfl (step_move Sub.rfl) ?_
      refine JL_stepG rfl rfl rfl (Gd.plain Sub.rfl) rfl rfl (fun hw => step_move Sub.rfl) ?_
      refine JL_stepG rfl rfl rfl (Gd.plain Sub.rfl) rfl rfl (fun hw => step_move Sub.rfl) ?_
      refine JL_stepG rfl rfl rfl (Gd.plain Sub.rfl) rfl rfl (fun hw => step_call0 (Dangling_spec _ _ (by omega) (by have := pick_len facts (inP rules facts) facts.length; omega)) ⟨(Sub.w hw), (Sub.w hw), trivial⟩ Tryz.call22) ?_
      refine JL_stepG rfl rfl rfl (Gd.plain Sub.rfl) rfl rfl (fun hw => step_len_sl Tryz.underlying24 (Sub.trans (Sub.w hw) Sub.ofE)) ?_
      refine JL_stepG rfl rfl rfl (Gd.plain Sub.rfl) rfl rfl (fun hw => step_eql (Sub.w hw) Sub.rfl) ?_
      refine JL_step rfl rfl rfl (step_pick_and Sub.rfl Sub.rfl) ?_
      refine JL_step rfl rfl rfl (step_move Sub.rfl) ?_
      refine JL_stepG rfl rfl rfl (Gd.plain Sub.rfl) rfl rfl (fun hw => step_move Sub.rfl) ?_
      refine JL_stepG rfl rfl rfl (Gd.plain Sub.rfl) rfl rfl (fun hw => step_move Sub.rfl) ?_
      refine JL_stepG rfl rfl rfl (Gd.plain Sub.rfl) rfl rfl (fun hw => step_call0 (Dangling_spec _ _ (by omega) (by have := pick_len facts (whP which) facts.length; omega)) ⟨(Sub.w hw), (Sub.w hw), trivial⟩ Tryz.call22) ?_
      refine JL_stepG rfl rfl rfl (Gd.plain Sub.rfl) rfl rfl (fun hw => step_len_sl Tryz.underlying24 (Sub.trans (Sub.w hw) Sub.ofE)) ?_
      refine JL_stepG rfl rfl rfl (Gd.plain Sub.rfl) rfl rfl (fun hw => step_gtr (Sub.w hw) Sub.rfl) ?_
      refine JL_stepG rfl rfl rfl (Gd.plain Sub.rfl) rfl rfl (fun hw => step_move (Sub.w hw)) ?_
      refine JL_stepG rfl rfl rfl (Gd.nest Sub.rfl) rfl rfl (fun hw => step_move Sub.rfl) ?_
      refine JL_stepG rfl rfl rfl (Gd.nest Sub.rfl) rfl rfl (fun hw => step_not (Sub.w hw)) ?_
      refine JL_stepG rfl rfl rfl (Gd.plain Sub.rfl) rfl rfl (fun hw => step_pick_or (Sub.w hw) (Sub.ww hw)) ?_
      refine JL_step rfl rfl rfl (step_pick_and Sub.rfl Sub.rfl) ?_
      refine JL_step rfl rfl rfl (step_assign Sub.rfl) ?_
      refine JL_nil ?_
      refine J_ret ?_
      refine K_retv (rv := .tmp 6) rfl () (.tmp Sub.rfl) (Sub.bool ?_)
      exact supp_end hv
end Lg

/- DenialSupport: the card. -/
namespace Go.Proofs.YticgfcbcaalioaaGreatDoor.denialSupport
open Go.ChangeShapes Go.WideShapes Go.ChangeAt Go.RowKit
set_option maxRecDepth 100000 in
theorem contract (H : Type) (enc : TypeId × Value → H) (W : World) (base : Nat) (args : Array Value) (ds gs : List (DataW H)) (before : List MemPlace)
    (hval : ∀ (j : Nat) t v, Tryz.f8.params[j]? = some t → args[j]? = some v → Value.okWide Tryz.prog W .any base t v)
    (hW : DataW.Whole enc Tryz.prog Tryz.f8.params.toList Rows.denialSupportSpec.vars false W args.toList ds gs before) :
    Calls Tryz.prog 8 args W fun e W' => ∃ v, e = .returned v ∧ Rows.denialSupportSpec.post enc Tryz.prog Tryz.f8 false true false false W args v W' := by
  have hW' := hW
  obtain ⟨p, q, hA0, hV, rfl, hfz, hnd⟩ := hW
  have hA : DataW.TrodAll enc Tryz.prog W 0 (fun _ => true) true Tryz.f8.params.toList args.toList ds p := hA0
  rw [Tryz.params8] at hA hval
  obtain ⟨v0, v1, v2, d0, d1, d2, p0, p1, p2, rfl, rfl, rfl, h0, h1, h2⟩ := trodAll_three hA
  obtain ⟨rfl, rfl⟩ := trodVars_none hV
  obtain ⟨rules, a0⟩ := Lg.arg_sl Tryz.underlying22 Lg.rd22 (hval 0 22 v0 rfl rfl) h0
  obtain ⟨facts, a1⟩ := Lg.arg_sl Tryz.underlying23 Lg.rd23 (hval 1 23 v1 rfl rfl) h1
  obtain ⟨which, a2⟩ := Lg.arg_sl Tryz.underlying47 Lg.rd47 (hval 2 47 v2 rfl rfl) h2
  refine (Lg.run_true (Lg.Support_spec rules facts which) (vs := [v0, v1, v2]) ⟨a0, a1, a2, trivial⟩).mono fun e W' ⟨he, hb⟩ => ?_
  subst he
  have e1 : Rows.denialSupportSpec.fn H ([d0, d1, d2] ++ []) = { results := [.lit (.bool true)], args := [d0, d1, d2] } := by simp [Rows.denialSupportSpec]
  refine ⟨_, rfl, _, _, _, [], p0 ++ (p1 ++ p2), [], hW', ?_, ?_, ?_, hb.frame _, fun h => by cases h⟩
  · rw [e1]; exact trodAll_mk1 (shut_bool Tryz.underlying4 true)
  · rw [e1, Tryz.params8]
    exact trodAll_mk3 (hb.trod laidOut rec22 size22 h0 fun x hx => hW'.lt x (by simp [hx])) (hb.trod laidOut rec23 size23 h1 fun x hx => hW'.lt x (by simp [hx])) (hb.trod laidOut rec47 size47 h2 fun x hx => hW'.lt x (by simp [hx]))
  · rw [e1]; rfl
noncomputable abbrev args0 : Array Value := #[.slice none 0 0, .slice none 0 0, .slice none 0 0]
theorem reads (os : Os) {H : Type} (enc : TypeId × Value → H) : ∃ places, DataW.whole enc Tryz.prog ((laidWorld os).forCall (fun _ _ => 0) ⟨#[], args0, []⟩).memory Tryz.f8.params.toList Rows.denialSupportSpec.vars false args0.toList 8 = some ([.nil, .nil, .nil], [], places) :=
  ⟨[], by kernel_rfl⟩
theorem laid_met (os : Os) : laidMet Tryz.prog Rows.denialSupportRow.laid ((laidWorld os).forCall (fun _ _ => 0) ⟨#[], args0, []⟩).memory :=
  laidMet_laidAll (laid := laidL) args0 (by kernel_rfl) (by kernel_rfl)
set_option maxRecDepth 100000 in
theorem lifted (os : Os) (started : os.Started) (H : Type) (enc : TypeId × Value → H) (F : Stop.Interp) :
    ReturnsInHanded {} Tryz.checked os 8 .any ((OpenSpec.ofChange Rows.denialSupportSpec).preRow enc Tryz.prog Tryz.f8 Rows.denialSupportRow.domain false Rows.denialSupportRow.laid) (((OpenSpec.ofChange Rows.denialSupportSpec).at F).post enc Tryz.prog Tryz.f8 false true false false) := by
  obtain ⟨places, hx⟩ := reads os enc
  refine returnsInHanded_of_row (C := Tryz.checked) (s := OpenSpec.ofChange Rows.denialSupportSpec) own started (by kernel_rfl) Tryz.func8
    (witness_row_at (enc := enc) (C := Tryz.checked) false (laidWorld os) args0 (World.laidAll_os _ _ _) (by kernel_rfl) (by kernel_rfl) (by kernel_rfl)
      (OpenSpec.preRow_of_cond 8 hx (by kernel_rfl) (fun k hk => by cases hk) (by kernel_rfl) (laid_met os))) ?_
  intro W base args ds gs before hval hW _ _ _ hL _ _
  exact contract H enc W base args ds gs before hval hW
theorem said : Rows.DenialSupportSaid :=
  OpenClaim.holds_of_cond 8 Tryz.f8 rfl rfl rfl rfl rfl rfl rfl ⟨rfl, rfl, rfl, rfl, rfl⟩ rfl rfl rfl rfl rfl (by kernel_rfl) Tryz.func8 (by kernel_rfl)
    (of_decide_eq_true (by kernel_rfl)) (by unfold Func.isWrapper; first | (rw [if_pos (by decide +kernel)]; kernel_rfl) | (rw [if_neg (by decide +kernel)]; exact ⟨rfl, rfl⟩))
    (fun os started H enc _ F => by rw [OpenClaim.pre_eq_preRow]; exact lifted os started H enc F)
theorem plain (f : FuncId) (fn : Func) (hf : Tryz.pinned.checked.prog.funcNamed "cleanse/cleanselaw25.DenialSupport" = some f) (hfn : Tryz.pinned.checked.prog.funcs[f]? = some fn) :
    false = Tryz.pinned.checked.prog.looks [] ∧ ∀ (j : Nat) t, fn.params[j]? = some t → Tryz.pinned.checked.prog.wantsStandIn t = false := by
  obtain rfl : f = 8 := Option.some.inj ((show Tryz.prog.funcNamed "cleanse/cleanselaw25.DenialSupport" = some 8 by kernel_rfl).symm.trans hf) |>.symm
  obtain rfl : fn = Tryz.f8 := (Option.some.inj (Tryz.func8.symm.trans hfn)).symm
  refine ⟨noLooks, fun j t ht => ?_⟩
  rw [Tryz.params8] at ht
  have hm : t ∈ #[22, 23, 47] := Array.mem_of_getElem? ht
  simp only [List.mem_toArray, List.mem_cons, List.not_mem_nil, or_false] at hm
  rcases hm with rfl | rfl | rfl
  · exact want22
  · exact want23
  · exact want47
theorem card : Rows.DenialSupportCardSaid :=
  Claim7.holds_tied_plain_at .later [] _ _ _ _ said (fun _ h => by cases h) (by kernel_rfl) (fun _ h => by cases h) denialSupport_row_tie rfl ⟨rfl, rfl⟩ (by kernel_rfl) rfl plain (by kernel_rfl)
end Go.Proofs.YticgfcbcaalioaaGreatDoor.denialSupport
