/- Walks and the plain law of RewriteMatchesReference. -/
import Derived.Test.YtjenebejjamnjaaGreatDoorWV4
set_option linter.unusedVariables false
set_option linter.unusedSimpArgs false
set_option linter.unusedSectionVars false
namespace Lg
open Go Go.Proofs Go.Proofs.Tryz
/-! Which sets are found -/
theorem nth_range_map {β : Type} [Inhabited β] {n : Nat} {f : Nat → β} {i : Nat} (h : i < n) : nth ((List.range n).map f) i = f i := by
  rw [nth_get (by simpa using h)]; simp
theorem list_ext {α : Type} [Inhabited α] {l m : List α} (h : l.length = m.length) (hn : ∀ i, i < l.length → nth l i = nth m i) : l = m := by
  apply List.ext_getElem h
  intro i h1 h2
  have := hn i h1
  rwa [nth_get h1, nth_get h2] at this
/-! Graphs of pairs -/
def PrsG (R : Nat → Nat → Prop) (N : Nat) (es : LL) : Prop := ∀ e, e ∈ es ↔ ∃ i j : Nat, i < j ∧ j < N ∧ R i j ∧ e = [(i : Int), (j : Int)]
open Go Go.Proofs Go.Proofs.Tryz
def kR (q : GConj) (facts : List GFact) (i j : Nat) : Prop := i < facts.length ∧ j < facts.length ∧ sameM q (nth facts i) (nth facts j) = true
theorem edgK_mem {q : GConj} {facts : List GFact} : PrsG (kR q facts) facts.length (edgK q facts facts.length) := by
  intro e
  unfold edgK pairsI
  rw [List.mem_flatMap]
  constructor
  · rintro ⟨i, hi, he⟩
    obtain ⟨j, hj, rfl⟩ := List.mem_map.1 he
    obtain ⟨h1, h2⟩ := List.mem_filter.1 hj
    have hi := List.mem_range.1 hi
    rw [List.mem_range'_1] at h1
    exact ⟨i, j, by omega, by omega, ⟨hi, by omega, h2⟩, rfl⟩
  · rintro ⟨i, j, hij, hj, ⟨h1, h2, h3⟩, rfl⟩
    exact ⟨i, List.mem_range.2 h1, List.mem_map.2 ⟨j, List.mem_filter.2 ⟨List.mem_range'_1.2 (by omega), h3⟩, rfl⟩⟩
theorem kR_iff {q : GConj} {facts : List GFact} (hfit : fitM q facts = true) {i : Nat} (hi : i < q.Atoms.length) {j x : Nat} (hj : j < facts.length) (tj : (nth facts j).Table = (nth q.Atoms i).Table) :
    kR q facts j x ↔ x < facts.length ∧ (nth facts x).Table = (nth q.Atoms i).Table ∧ kyF (nth q.Atoms i) (nth facts x) = kyF (nth q.Atoms i) (nth facts j) := by
  constructor
  · rintro ⟨_, hx, hs⟩
    obtain ⟨i', hi', t1, t2⟩ := same_tab hs
    have : i' = i := valid_inj (fit_valid hfit) hi' hi (t1.symm.trans tj)
    subst this
    exact ⟨hx, t2, ((same_iff hfit (nth_mem hj) (nth_mem hx) hi t1 t2).1 hs).symm⟩
  · rintro ⟨hx, t2, hk⟩
    exact ⟨hj, hx, (same_iff hfit (nth_mem hj) (nth_mem hx) hi tj t2).2 hk.symm⟩
open Go Go.Proofs Go.Proofs.Tryz
theorem pair_sub {i j i' j' : Nat} (h1 : i < j) (h2 : i' < j') (h : i ≠ i' ∨ j ≠ j') : subL [(i : Int), (j : Int)] [(i' : Int), (j' : Int)] = false := by
  rw [Bool.eq_false_iff]
  intro hs
  have hs := subL_iff.1 hs
  have a := hs (i : Int) (by simp)
  have b := hs (j : Int) (by simp)
  simp only [List.mem_cons, List.not_mem_nil, or_false] at a b
  omega
theorem pair_cmp {i j i' j' : Nat} (h : i < i' ∨ (i = i' ∧ j < j')) : cmpL [(i : Int), (j : Int)] [(i' : Int), (j' : Int)] < 0 := by
  unfold cmpL
  rcases cmpN_vals (i : Int) (i' : Int) with ⟨h1, e⟩ | ⟨h1, e⟩ | ⟨h1, e⟩
  · rw [e]; simp
  · rw [e, if_neg (by simp)]
    unfold cmpL
    rcases cmpN_vals (j : Int) (j' : Int) with ⟨h2, e2⟩ | ⟨h2, e2⟩ | ⟨h2, e2⟩
    · rw [e2]; simp
    · omega
    · omega
  · omega
def PrR (x y : List Int) : Prop := cmpL x y < 0 ∧ subL x y = false ∧ subL y x = false
theorem pair_rel {i j i' j' : Nat} (h1 : i < j) (h2 : i' < j') (h : i < i' ∨ (i = i' ∧ j < j')) : PrR [(i : Int), (j : Int)] [(i' : Int), (j' : Int)] :=
  ⟨pair_cmp h, pair_sub h1 h2 (by omega), pair_sub h2 h1 (by omega)⟩
theorem pairsI_mem {q : GConj} {facts : List GFact} {i m : Nat} {e : List Int} (h : e ∈ pairsI q facts i m) : ∃ j : Nat, i < j ∧ j < m ∧ e = [(i : Int), (j : Int)] := by
  unfold pairsI at h
  obtain ⟨j, hj, rfl⟩ := List.mem_map.1 h
  have h1 := List.mem_range'_1.1 (List.mem_filter.1 hj).1
  exact ⟨j, by omega, by omega, rfl⟩
theorem edgK_ok (q : GConj) (facts : List GFact) : okE (edgK q facts facts.length) := by
  have h : (edgK q facts facts.length).Pairwise PrR := by
    unfold edgK
    rw [List.pairwise_flatMap]
    constructor
    · intro i _
      unfold pairsI
      rw [List.pairwise_map]
      refine List.Pairwise.imp_of_mem (R := fun a b => a < b) (fun {a b} ha hb h => ?_) (List.Pairwise.sublist List.filter_sublist (List.pairwise_lt_range'))
      have h1 := List.mem_range'_1.1 (List.mem_filter.1 ha).1
      exact pair_rel (by omega) (by omega) (.inr ⟨rfl, h⟩)
    · refine List.pairwise_lt_range.imp fun {a b} hab x hx y hy => ?_
      obtain ⟨j, h1, _, rfl⟩ := pairsI_mem hx
      obtain ⟨k, h2, _, rfl⟩ := pairsI_mem hy
      exact pair_rel h1 h2 (.inl hab)
  exact ⟨h.imp fun {a b} h => h.1, h.imp fun {a b} h => h.2⟩
open Go Go.Proofs Go.Proofs.Tryz
theorem prB_succ (n : Nat) : prB (n + 1) = prB n + n := by
  unfold prB
  match n with
  | 0 => rfl
  | n + 1 =>
    rw [show n + 1 + 1 - 1 = n + 1 by omega, show n + 1 - 1 = n by omega]
    have : (n + 1 + 1) * (n + 1) = (n + 1) * n + 2 * (n + 1) := by rw [Nat.add_mul (n + 1) 1 (n + 1), Nat.mul_add (n + 1) n 1]; omega
    rw [this]; omega
theorem wantB_bput (k : ByteArray) (f : GFact) : ∀ m : List (ByteArray × List GFact), wantB (mput m k ((mget m k).getD [] ++ [f])) = wantB m + ((mget m k).getD []).length
  | [] => by simp [mput, mget, wantB, prB]
  | (c, x) :: m => by
    by_cases h : k = c
    · simp only [mput, mget, if_pos h, Option.getD_some, wantB, List.map_cons, List.sum_cons, List.length_append, List.length_singleton]
      rw [prB_succ]; omega
    · have ih := wantB_bput k f m
      simp only [mput, mget, if_neg h, wantB, List.map_cons, List.sum_cons] at ih ⊢
      omega
def incA (a : GAtom) (l : List GFact) (f : GFact) : Nat := if f.Table = a.Table then l.countP (inG a (kyF a f)) else 0
theorem wantB_step (a : GAtom) {l : List GFact} {i : Nat} (h : i < l.length) : wantB (blkM a (l.take (i + 1))) = wantB (blkM a (l.take i)) + incA a (l.take i) (nth l i) := by
  rw [blkM_snoc h]
  unfold incA
  by_cases ht : (nth l i).Table = a.Table
  · rw [if_pos ht, if_pos ht]
    unfold bput
    rw [wantB_bput, (blk_inv a (l.take i)).gt, List.countP_eq_length_filter]
  · rw [if_neg ht, if_neg ht]; rfl
theorem wantA_step (L : List GAtom) {l : List GFact} {i : Nat} (h : i < l.length) : wantA L (l.take (i + 1)) = wantA L (l.take i) + (L.map fun a => incA a (l.take i) (nth l i)).sum := by
  induction L with
  | nil => rfl
  | cons a L ih =>
    simp only [wantA, List.map_cons, List.sum_cons] at ih ⊢
    rw [wantB_step a h, ih]; omega
theorem inc_none {L : List GAtom} {l : List GFact} {f : GFact} (h : ∀ a ∈ L, f.Table ≠ a.Table) : (L.map fun a => incA a l f).sum = 0 := by
  induction L with
  | nil => rfl
  | cons a L ih =>
    rw [List.map_cons, List.sum_cons, ih fun b hb => h b (by simp [hb])]
    unfold incA
    rw [if_neg (h a (by simp))]
theorem inc_some {L : List GAtom} (hd : L.Pairwise fun a b => a.Table ≠ b.Table) {l : List GFact} {f : GFact} {a0 : GAtom} (ha : a0 ∈ L) (ht : f.Table = a0.Table) : (L.map fun a => incA a l f).sum = l.countP (inG a0 (kyF a0 f)) := by
  induction L with
  | nil => cases ha
  | cons a L ih =>
    obtain ⟨h1, h2⟩ := List.pairwise_cons.1 hd
    rw [List.map_cons, List.sum_cons]
    rcases List.mem_cons.1 ha with rfl | ha
    · rw [inc_none fun b hb e => h1 b hb (ht.symm.trans e)]
      unfold incA
      rw [if_pos ht]; rfl
    · rw [ih h2 ha]
      unfold incA
      rw [if_neg fun e => h1 a0 ha (e.symm.trans ht)]; omega
theorem atoms_dist {q : GConj} (hq : validQ q = true) : q.Atoms.Pairwise fun a b => a.Table ≠ b.Table :=
  List.pairwise_iff_getElem.2 fun i j hi hj hij => by
    have := valid_dist hq hij hj
    rwa [nth_get hi, nth_get hj] at this
theorem range_take {α : Type} [Inhabited α] {l : List α} {n : Nat} (h : n ≤ l.length) : (List.range n).map (nth l) = l.take n :=
  List.ext_getElem (by simp; omega) fun i h1 h2 => by
    have hi : i < n := by simpa using h1
    rw [List.getElem_map, List.getElem_range, List.getElem_take, nth_get (by omega)]
theorem same_inc {q : GConj} {facts : List GFact} (hfit : fitM q facts = true) {n : Nat} (hn : n < facts.length) :
    (List.range n).countP (fun i => sameM q (nth facts i) (nth facts n)) = (q.Atoms.map fun a => incA a (facts.take n) (nth facts n)).sum := by
  have hq := fit_valid hfit
  have e : (List.range n).countP (fun i => sameM q (nth facts i) (nth facts n)) = (facts.take n).countP fun f => sameM q f (nth facts n) := by
    rw [← range_take (by omega), List.countP_map]; rfl
  rw [e]
  by_cases h : ∃ i, i < q.Atoms.length ∧ (nth facts n).Table = (nth q.Atoms i).Table
  · obtain ⟨i, hi, ht⟩ := h
    rw [inc_some (atoms_dist hq) (nth_mem hi) ht]
    refine List.countP_congr fun f hf => ?_
    have hf := List.mem_of_mem_take hf
    unfold inG
    rw [Bool.and_eq_true, decide_eq_true_eq, decide_eq_true_eq]
    constructor
    · intro hs
      obtain ⟨i', hi', t1, t2⟩ := same_tab hs
      have : i' = i := valid_inj hq hi' hi (t2.symm.trans ht)
      subst this
      exact ⟨t1, (same_iff hfit hf (nth_mem hn) hi t1 t2).1 hs⟩
    · rintro ⟨t1, hk⟩
      exact (same_iff hfit hf (nth_mem hn) hi t1 ht).2 hk
  · rw [inc_none fun a ha et => h ?_]
    · refine List.countP_eq_zero.2 fun f _ hs => h ?_
      obtain ⟨i', hi', t1, t2⟩ := same_tab hs
      exact ⟨i', hi', t2⟩
    · obtain ⟨i, hi, rfl⟩ := List.getElem_of_mem ha
      exact ⟨i, hi, by rw [nth_get hi]; exact et⟩
def cntE2 (q : GConj) (facts : List GFact) (n : Nat) : Nat := ((List.range n).map fun i => (pairsI q facts i n).length).sum
theorem sum_add {f g : Nat → Nat} : ∀ l : List Nat, (l.map fun i => f i + g i).sum = (l.map f).sum + (l.map g).sum
  | [] => rfl
  | a :: l => by simp only [List.map_cons, List.sum_cons, sum_add l]; omega
theorem sum_cond (p : Nat → Bool) : ∀ l : List Nat, (l.map fun i => if p i then 1 else 0).sum = l.countP p
  | [] => rfl
  | a :: l => by
    rw [List.map_cons, List.sum_cons, sum_cond p l, List.countP_cons]; omega
theorem cntE2_succ (q : GConj) (facts : List GFact) (n : Nat) : cntE2 q facts (n + 1) = cntE2 q facts n + (List.range n).countP (fun i => sameM q (nth facts i) (nth facts n)) := by
  unfold cntE2
  rw [List.range_succ, List.map_append, List.sum_append, List.map_singleton, List.sum_singleton, pairsI_start, List.length_nil, Nat.add_zero, ← sum_cond, ← sum_add]
  congr 1
  refine List.map_congr_left fun i hi => ?_
  have hi := List.mem_range.1 hi
  rw [pairsI_succ (by omega), List.length_append]
  split <;> rfl
theorem edgK_want {q : GConj} {facts : List GFact} (hfit : fitM q facts = true) : (edgK q facts facts.length).length = wantA q.Atoms facts := by
  have key : ∀ n, n ≤ facts.length → cntE2 q facts n = wantA q.Atoms (facts.take n) := by
    intro n
    induction n with
    | zero =>
      intro _
      have : ∀ L : List GAtom, wantA L [] = 0 := by
        intro L
        induction L with
        | nil => rfl
        | cons a L ih => simp only [wantA, List.map_cons, List.sum_cons] at ih ⊢; rw [ih]; rfl
      rw [List.take_zero, this]; rfl
    | succ n ih =>
      intro hn
      rw [cntE2_succ, ih (by omega), same_inc hfit (by omega), wantA_step _ (by omega)]
  have := key facts.length (Nat.le_refl _)
  rw [List.take_length] at this
  rw [← this]
  unfold edgK cntE2
  rw [List.length_flatMap]
theorem tab_nat (facts : List GFact) (i : Nat) : tabF facts (i : Int) = (nth facts i).Table := by unfold tabF; rw [Int.toNat_natCast]
theorem edgK_ours {q : GConj} {facts : List GFact} (hfit : fitM q facts = true) {e : List Int} (he : e ∈ edgK q facts facts.length) : oursM q facts e = true ∧ edgeOk q facts e = true := by
  have hq := fit_valid hfit
  obtain ⟨i, j, hij, hj, ⟨hi, _, hs⟩, rfl⟩ := (edgK_mem e).1 he
  obtain ⟨a, ha, t1, t2⟩ := same_tab hs
  constructor
  · unfold oursM
    rw [List.any_eq_true]
    refine ⟨(i : Int), by simp, ?_⟩
    unfold hasT
    rw [tab_nat, t1]
    exact atomsM_isSome (l := q.Atoms) (m := []) (.inl (nth_mem ha))
  · unfold edgeOk keyF
    have hk := (same_iff hfit (nth_mem hi) (nth_mem hj) ha t1 t2).1 hs
    show (decide _ && (decide (tabF facts (i : Int) = tabF facts (j : Int)) && decide (keyB (atomAt q (tabF facts (i : Int))) (nth facts (i : Int).toNat) (atomAt q (tabF facts (i : Int))).Key.toNat = keyB (atomAt q (tabF facts (i : Int))) (nth facts (j : Int).toNat) (atomAt q (tabF facts (i : Int))).Key.toNat))) = true
    rw [tab_nat, tab_nat, t1, t2, atomAt_self hq ha, Int.toNat_natCast, Int.toNat_natCast]
    have hk : keyB (nth q.Atoms a) (nth facts i) (nth q.Atoms a).Key.toNat = keyB (nth q.Atoms a) (nth facts j) (nth q.Atoms a).Key.toNat := hk
    rw [hk]; simp
open Go Go.Proofs Go.Proofs.Tryz
structure BS (a : List Int) (v : Int) (i : Nat) : Prop where
  le : i ≤ a.length
  lo : ∀ t, t < i → nth a t < v
  hi : ∀ t, i ≤ t → t < a.length → v ≤ nth a t
theorem inc_nth {l : List Int} (h : Inc l) {i j : Nat} (hij : i < j) (hj : j < l.length) : nth l i < nth l j := by
  have := List.pairwise_iff_getElem.1 h i j (by omega) hj hij
  rwa [nth_get (by omega), nth_get hj]
theorem BS.mem {a : List Int} {v : Int} {i : Nat} (h : BS a v i) (hi : Inc a) : v ∈ a ↔ i < a.length ∧ nth a i = v := by
  constructor
  · intro hm
    obtain ⟨t, ht, e⟩ := List.getElem_of_mem hm
    rw [← nth_get ht] at e
    have h1 : i ≤ t := Classical.byContradiction fun q => by have := h.lo t (by omega); omega
    have h2 : t = i := Classical.byContradiction fun q => by
      have h3 := inc_nth hi (i := i) (j := t) (by omega) ht
      have := h.hi i (Nat.le_refl _) (by omega)
      omega
    subst h2; exact ⟨ht, e⟩
  · rintro ⟨h1, rfl⟩; exact nth_mem h1
theorem inc_drop {l : List Int} (h : Inc l) (k : Nat) : Inc (l.drop k) := List.Pairwise.sublist (List.drop_sublist k l) h
/-- What is left to be found stands in what is left. -/
structure CtI (a b : List Int) (i k : Nat) : Prop where
  kl : k ≤ a.length
  fd : ∀ t, t < i → nth b t ∈ a
  lf : ∀ t, i ≤ t → t < b.length → (nth b t ∈ a ↔ nth b t ∈ a.drop k)
theorem CtI.step {a b : List Int} (ha : Inc a) (hb : Inc b) {i k j : Nat} (h : CtI a b i k) (hi : i < b.length) (hj : BS (a.drop k) (nth b i) j) (hm : nth b i ∈ a.drop k) : CtI a b (i + 1) (k + (j + 1)) ∧ j + 1 ≤ (a.drop k).length := by
  obtain ⟨h1, h2⟩ := (hj.mem (inc_drop ha k)).1 hm
  have hdl : (a.drop k).length = a.length - k := List.length_drop
  have hkl := h.kl
  refine ⟨⟨by omega, fun t ht => ?_, fun t ht htb => ?_⟩, h1⟩
  · by_cases e : t = i
    · subst e; exact (h.lf t (Nat.le_refl _) hi).2 hm
    · exact h.fd t (by omega)
  · rw [h.lf t (by omega) htb]
    constructor
    · intro hx
      obtain ⟨s, hs, e⟩ := List.getElem_of_mem hx
      rw [← nth_get hs] at e
      have hgt : nth b i < nth b t := inc_nth hb (by omega) htb
      have hjs : j < s := Classical.byContradiction fun q => by
        by_cases e2 : s = j
        · subst e2; omega
        · have := inc_nth (inc_drop ha k) (i := s) (j := j) (by omega) h1
          omega
      have e3 : a.drop (k + (j + 1)) = (a.drop k).drop (j + 1) := by rw [List.drop_drop]
      rw [e3, ← e]
      have hs2 : s - (j + 1) < ((a.drop k).drop (j + 1)).length := by rw [List.length_drop]; omega
      have := nth_mem hs2
      have e4 : nth ((a.drop k).drop (j + 1)) (s - (j + 1)) = nth (a.drop k) s := by
        rw [nth_get hs2, nth_get hs, List.getElem_drop]
        congr 1; omega
      rwa [e4] at this
    · intro hx
      rw [← List.drop_drop] at hx
      exact List.mem_of_mem_drop hx
theorem ct_false {a b : List Int} {i k : Nat} (h : CtI a b i k) (hi : i < b.length) (hm : ¬ nth b i ∈ a.drop k) : subL b a = false := by
  rw [Bool.eq_false_iff]
  intro hs
  have := subL_iff.1 hs _ (nth_mem hi)
  rw [h.lf i (Nat.le_refl _) hi] at this
  exact hm this
theorem ct_true {a b : List Int} {i k : Nat} (h : CtI a b i k) (hi : b.length ≤ i) : subL b a = true := subL_iff.2 fun x hx => by
  obtain ⟨t, ht, rfl⟩ := List.getElem_of_mem hx
  rw [← nth_get ht]; exact h.fd t (by omega)
theorem cmpLess_spec (x y : Int) : Fun1 prog 179 [tV (.int .i64 x), tV (.int .i64 y)] (tV (.bool (decide (x < y)))) := by
 refine Spec.enter func179 rfl rfl fun h0 w0 fr0 => ?_
 refine Jr (Ja rfl (JL_nil (Jr (Jm rfl (Js rfl (step_call0 (isNaN_spec x) ⟨Sr, trivial⟩ call165) ?_)))))
 refine Jm rfl (Jg rfl Sr rfl (fun hw => step_move Sr) (Jg rfl Sr rfl (fun hw => step_call0 (isNaN_spec y) ⟨(Sub.w hw), trivial⟩ call165) (Jg rfl Sr rfl (fun hw => step_not (Sub.w hw)) (Js rfl (step_pick_and Sr Sr) (Jm rfl ?_)))))
 refine Jg rfl Sr rfl (fun hw => step_move Sr) (Jg rfl Sr rfl (fun hw => step_move Sr) (Jg rfl Sr rfl (fun hw => step_lss (Sub.w hw) (Sub.w hw)) (Js rfl (step_pick_or Sr Sr) (Ja rfl (JL_nil ?_)))))
 refine J_ret ?_
 refine K_ret1 (t := 4) rfl () ?_
 refine Sub.bool ?_
 simp
theorem slNaN_spec (x : Int) : Fun1 prog 183 [tV (.int .i64 x)] (tV (.bool false)) := by
 refine Spec.enter func183 rfl rfl fun h0 w0 fr0 => ?_
 refine Jr (Ja rfl (JL_nil (Jr (Jm rfl (Jm rfl ?_)))))
 refine Js rfl (step_neq Sr Sr) (Ja rfl (JL_nil (J_ret ?_)))
 refine K_ret1 (t := 2) rfl () ?_
 refine Sub.bool ?_
 simp
set_option maxHeartbeats 1000000 in
theorem BinS_spec (a : List Int) (v : Int) (ha : Inc a) (hl : a.length ≤ 1000000) : Spec (X := { i : Nat // BS a v i }) prog 153 [tSl rInt a, tV (.int .i64 v)] ([]) (fun i => tTup [tV (.int .i64 (i.1 : Int)), tV (.bool (decide (v ∈ a)))]) (fun i => []) := by
 refine Spec.enter func153 rfl rfl fun h0 w0 fr0 => ?_
 refine Jr (Ja rfl (Ja rfl (JL_nil (Jr (Jm rfl ?_)))))
 refine Js rfl (step_len_sl underlying27 Sr) (Ja rfl (JL_nil (Jr (Jm rfl (Ja rfl ?_)))))
 refine Ja rfl (JL_nil (J_seq (J_block ?_)))
 refine J_loopL (σ := Nat × Nat) (fun ⟨i, j⟩ => i ≤ j ∧ j ≤ a.length ∧ (∀ t, t < i → nth a t < v) ∧ ∀ t, j ≤ t → t < a.length → v ≤ nth a t) (fun ⟨i, j⟩ => upd (upd (upd (upd (upd (upd (upd env0 0 (tSl rInt a)) 1 (tV (.int .i64 v))) 4 (tV (.int .i64 0))) 5 (tV (.bool false))) 6 (tV (.int .i64 a.length))) 7 (tV (.int .i64 i))) 8 (tV (.int .i64 j))) (fun ⟨i, j⟩ => []) (fun ⟨i, j⟩ => j - i) (0, a.length) ⟨Nat.zero_le _, Nat.le_refl _, fun t h => by omega, fun t h1 h2 => by omega⟩ (.u (.u (.u (.u (.u (.u (SubE.upd Sr SubE.any))))))) (LSub.rfl) ?_
 rintro ⟨i, j⟩ ⟨hi, hj, hlo, hhi⟩
 refine J_seq (Jr (Jm rfl (Jm rfl (Js rfl (step_lss Sr Sr) (JL_nil ?_)))))
 refine J_cond Sr (fun h15 => ?_) (fun h15 => ?_)
 ·
  try simp only [NF] at h15
  have hij : i < j := by omega
  refine J_skip (J_block (Jr (Jm rfl (Jm rfl (Js rfl (step_add Sr Sr z6) ?_)))))
  refine Js rfl (step_convert_int (m := ((i + j : Nat) : Int)) underlying3 underlying164 Sr (by simp [IntKind.wrap, IntKind.bits, IntKind.signed]; omega)) ?_
  refine Js rfl (step_half Sr Sr) ?_
  refine Js rfl (step_convert_int (m := (((i + j) / 2 : Nat) : Int)) underlying164 underlying3 Sr (by simp [IntKind.wrap, IntKind.bits, IntKind.signed]; omega)) ?_
  refine Ja rfl (JL_nil (Jr (Jm rfl (Jm rfl ?_))))
  refine Js rfl (step_indexAddr_sl (i := ((i + j) / 2)) underlying27 ty3 Sr Sr zG (gb (by show (i + j) / 2 < a.length; omega))) ?_
  refine Jl rfl ty3 Sr (Jm rfl (Js rfl (step_call0 (cmpLess_spec _ _) ⟨Sr, Sr, trivial⟩ call179) (JL_nil ?_)))
  refine J_cond Sr (fun h27 => ?_) (fun h27 => ?_)
  ·
   try simp only [NF] at h27
   refine J_region (Jm rfl (Js rfl (step_add Sr Sr z6) (Ja rfl (JL_nil ?_))))
   refine K_againL (σ := Nat × Nat) (s := (i, j)) ((i + j) / 2 + 1, j) zO ?_ (.u (SubE.upd (Sub.int (by first | omega | (push_cast; omega))) (.u (.u (.u (.u (SubE.upd Sr SubE.any))))))) (LSub.rfl)
   refine ⟨by omega, hj, fun t ht => ?_, hhi⟩
   by_cases e : t = (i + j) / 2
   ·
    subst e; exact h27
   have := inc_nth ha (i := t) (j := (i + j) / 2) zG zG
   omega
  try simp only [NF] at h27
  refine J_region (Jm rfl (Ja rfl (JL_nil ?_)))
  refine K_againL (σ := Nat × Nat) (s := (i, j)) (i, (i + j) / 2) zO ?_ (.u (.u (.u (.u (.u (.u (SubE.upd Sr SubE.any))))))) (LSub.rfl)
  refine ⟨by omega, by omega, hlo, fun t ht htl => ?_⟩
  by_cases e : t = (i + j) / 2
  ·
   subst e; exact h27
  have := inc_nth ha (i := (i + j) / 2) (j := t) zG htl
  omega
 try simp only [NF] at h15
 have hije : i = j := by omega
 subst hije
 have hbs : BS a v i := ⟨hj, hlo, hhi⟩
 refine J_exit (Jr (Jm rfl (Jm rfl (Jm rfl (Js rfl (step_lss Sr Sr) ?_)))))
 refine Jm rfl (Jg rfl Sr rfl (fun hw => step_move Sr) (Jg rfl Sr rfl (fun hw => step_move Sr) ?_))
 refine Jg rfl Sr rfl (fun hw => step_indexAddr_sl (i := i) underlying27 ty3 (Sub.w hw) (Sub.w hw) (by rfl) (gb (by have hwq := hw; (try simp only [beqB_t, beqB_f, NF] at hwq); show i < a.length; omega))) ?_
 refine Jg rfl Sr rfl (fun hw => step_load_ptr ty3 (Sub.w hw)) (Jg rfl Sr rfl (fun hw => step_move Sr) (Jg rfl Sr rfl (fun hw => step_eql (Sub.w hw) (Sub.w hw)) (Jg rfl Sr rfl (fun hw => step_move (Sub.w hw)) (Jh rfl Sr rfl (fun hw => step_move Sr) (Jh rfl Sr rfl (fun hw => step_move Sr) ?_)))))
 refine Jh rfl Sr rfl (fun hw => step_indexAddr_sl (i := i) underlying27 ty3 (Sub.w hw) (Sub.w hw) (by rfl) (gb (by have hwq := hw; (try simp only [beqB_t, beqB_f, NF] at hwq); show i < a.length; omega))) ?_
 refine Jh rfl Sr rfl (fun hw => step_load_ptr ty3 (Sub.w hw)) (Jh rfl Sr rfl (fun hw => step_call0 (slNaN_spec _) ⟨(Sub.w hw), trivial⟩ call183) (Jh rfl Sr rfl (fun hw => step_move (Sub.w hw)) (Jh rfl Sr rfl (fun hw => step_move Sr) (Jh rfl Sr rfl (fun hw => step_call0 (slNaN_spec _) ⟨(Sub.w hw), trivial⟩ call183) (Jh rfl Sr rfl (fun hw => step_pick_and (Sub.w hw) (Sub.ww hw)) ?_)))))
 refine Jg rfl Sr rfl (fun hw => step_pick_or (Sub.w hw) (Sub.ww hw)) (Js rfl (step_pick_and Sr Sr) (Ja rfl (Ja rfl (JL_nil (J_ret ?_)))))
 refine K_ret2' (rv := .tmp 4) (rv' := .tmp 5) rfl (⟨i, hbs⟩ : { i : Nat // BS a v i }) (Sel.all _) (.tmp Sr) (.tmp Sr) (Frz.sub Sr) (Frz.sub (Sub.bool ?_)) Sr
 rw [Bool.eq_iff_iff, decide_eq_true_eq, hbs.mem ha]
 simp
set_option maxHeartbeats 1000000 in
theorem hContains_spec (a b : List Int) (ha : Inc a) (hb : Inc b) (hla : a.length ≤ 1000000) (hlb : b.length ≤ 1000000) : Fun1 prog 130 [tSl rInt a, tSl rInt b] (tV (.bool (subL b a))) := by
 refine Spec.enter func130 rfl rfl fun h0 w0 fr0 => ?_
 refine Jr (Ja rfl (JL_nil (J_seq (Jr (Jm rfl ?_)))))
 refine Js rfl (step_len_sl underlying27 Sr) (Jm rfl (JL_nil (J_block ?_)))
 refine J_loopL (σ := Nat × Nat) (fun ⟨i, k⟩ => CtI a b i k) (fun ⟨i, k⟩ => upd (upd (upd (upd env0 0 (tSl rInt (a.drop k))) 9 (tSl rInt b)) 10 (tV (.int .i64 b.length))) 11 (tV (.int .i64 i))) (fun ⟨i, k⟩ => []) (fun ⟨i, k⟩ => b.length - i) (0, 0) ⟨Nat.zero_le _, fun t h => absurd h (Nat.not_lt_zero _), fun t _ _ => Iff.rfl⟩ (.u (.u (.u (SubE.upd Sr SubE.any)))) (LSub.rfl) ?_
 rintro ⟨i, k⟩ hct
 try dsimp only at hct
 refine Jr (Js rfl (step_lss Sr Sr) (JL_nil (J_seq ?_)))
 refine J_cond Sr (fun h12 => ?_) (fun h12 => ?_)
 ·
  try simp only [NF] at h12
  have hlt : i < b.length := by omega
  refine J_skip (J_seq (J_block (Jr ?_)))
  refine Js rfl (step_indexAddr_sl  underlying27 ty3 Sr Sr rfl (gb (by exact hlt))) ?_
  refine Jl rfl ty3 Sr (Ja rfl (JL_nil (Jr (Jm rfl (Jm rfl ?_)))))
  refine Jx rfl (step_call (Sel.none _) (BinS_spec (a.drop k) (nth b i) (inc_drop ha k) (by rw [List.length_drop]; omega)) ⟨Sr, Sr, trivial⟩ call153) fun j18 => ?_
  refine Jm rfl (Js rfl (step_extract Sr rfl) (Js rfl (step_extract Sr rfl) (Ja rfl (Ja rfl (JL_nil ?_)))))
  refine J_seq (Jr (Jm rfl (Js rfl (step_not Sr) (JL_nil ?_))))
  refine J_cond Sr (fun h22 => ?_) (fun h22 => ?_)
  ·
   try simp only [NF] at h22
   refine Jr (Ja rfl (JL_nil (J_ret ?_)))
   refine K_ret1 (t := 4) rfl () ?_
   refine Sub.bool ?_
   rw [ct_false hct hlt h22]
  try simp only [NF] at h22
  have hjl := (hct.step ha hb hlt j18.2 h22).2
  have hdl : (a.drop k).length = a.length - k := List.length_drop
  refine J_skip (J_region (Jm rfl (Jm rfl (Js rfl (step_add Sr Sr z6) ?_))))
  refine Js rfl (step_slice_fromI (n := j18.1 + 1) underlying27 ty3 rfl Sr Sr (by first | omega | (push_cast; omega)) (hct.step ha hb hlt j18.2 h22).2) ?_
  refine Ja rfl (JL_nil (J_region (Js rfl (step_add Sr Sr z6) (Jm rfl (JL_nil ?_)))))
  refine K_againL (σ := Nat × Nat) (s := (i, k)) (i + 1, k + (j18.1 + 1)) zO (hct.step ha hb hlt j18.2 h22).1 (.u (.u (.u (SubE.upd (Sub.sl (by rw [List.drop_drop])) SubE.any)))) (LSub.rfl)
 try simp only [NF] at h12
 refine J_exit (Jr (Ja rfl (JL_nil (J_ret ?_))))
 refine K_ret1 (t := 4) rfl () ?_
 refine Sub.bool ?_
 rw [ct_true hct zG]
theorem IndexFuncO_spec (v : Value) (xs : LL) (hl : xs.length ≤ 1000000) (gi : Nat) (As : List Ty) (p : List Int → Bool) (hp : ∀ x ∈ xs, Fun1 prog gi ([tSl rInt x] ++ As) (tV (.bool (p x)))) (he : ∀ args w, (callFunc gi args).run prog w = .ok (.enter gi args) w) : Spec (X := Unit) prog 152 [rV.ty v, tClo gi As] ([own 27 (rSl rInt) v xs]) (fun _ => tV (.int .i64 (findI p 0 xs))) (fun _ => [own 27 (rSl rInt) v xs]) := by
 refine Spec.enter func152 rfl rfl fun h0 w0 fr0 => ?_
 refine Jr (Ja rfl (JL_nil (J_seq (Jr (Jm rfl ?_)))))
 refine Js rfl (step_len_own underlying28 Sr zS) ?_
 refine Jm rfl (JL_nil (J_block ?_))
 refine J_loopL (σ := Nat) (fun i => i ≤ xs.length ∧ findI p 0 xs = findI p i (xs.drop i)) (fun i => upd (upd (upd (upd env0 0 (rV.ty v)) 1 (tClo gi As)) 7 (tV (.int .i64 xs.length))) 8 (tV (.int .i64 i))) (fun i => [own 27 (rSl rInt) v xs]) (fun i => xs.length - i) 0 ⟨by omega, by simp⟩ (.u (.u (.u (SubE.upd Sr SubE.any)))) (LSub.rfl) ?_
 rintro i ⟨hi, hv⟩
 refine Jr (Js rfl (step_lss Sr Sr) (JL_nil (J_seq ?_)))
 refine J_cond Sr (fun h9 => ?_) (fun h9 => ?_)
 ·
  try simp only [NF] at h9
  have hlt : i < xs.length := by omega
  have hd := dropB hlt
  refine J_skip (J_seq (J_block (Jr (Jm rfl (Ja rfl ?_)))))
  refine JL_nil (Jr (Jm rfl (Jm rfl (Jm rfl ?_))))
  refine Js rfl (step_indexAddr_own (i := i) underlying28 ty27 Sr zS Sr (by rfl) (by exact hlt)) ?_
  refine Js rfl (step_load_own ty27 Sr zS (gb (by exact hlt))) ?_
  refine Js rfl (step_callv0 (aT := [_]) Sr (hp _ (nth_mem hlt)) ⟨Sr, trivial⟩ he) (JL_nil ?_)
  refine J_cond Sr (fun h16 => ?_) (fun h16 => ?_)
  ·
   try simp only [NF] at h16
   refine Jr (Jm rfl (Ja rfl (JL_nil (J_ret ?_))))
   refine K_retv (rv := .tmp 4) rfl () (.tmp Sr) (Sub.int ?_)
   rw [hv, hd]; simp only [findI]; rw [if_pos h16]
  try simp only [NF] at h16
  refine J_skip (J_region (Js rfl (step_add Sr Sr z6) (Jm rfl (JL_nil ?_))))
  refine K_againL (σ := Nat) (s := i) (i + 1) zO ?_ (.u (.u (.u (SubE.upd Sr SubE.any)))) (LSub.rfl)
  refine ⟨by omega, ?_⟩
  rw [hv, hd]; simp only [findI]; rw [if_neg (by simp [h16])]; simp
 try simp only [NF] at h9
 refine J_exit (Jr (Ja rfl (JL_nil (J_ret ?_))))
 refine K_retv (rv := .tmp 4) rfl () (.tmp Sr) (Sub.int ?_)
 rw [hv, List.drop_of_length_le zG]; rfl
theorem ContainsFuncO_spec (v : Value) (xs : LL) (hl : xs.length ≤ 1000000) (gi : Nat) (As : List Ty) (p : List Int → Bool) (hp : ∀ x ∈ xs, Fun1 prog gi ([tSl rInt x] ++ As) (tV (.bool (p x)))) (he : ∀ args w, (callFunc gi args).run prog w = .ok (.enter gi args) w) : Spec (X := Unit) prog 128 [rV.ty v, tClo gi As] ([own 27 (rSl rInt) v xs]) (fun _ => tV (.bool (xs.any p))) (fun _ => [own 27 (rSl rInt) v xs]) := by
 refine Spec.enter func128 rfl rfl fun h0 w0 fr0 => ?_
 refine Jr (Ja rfl (JL_nil (Jr (Jm rfl (Jm rfl ?_)))))
 refine Jx rfl (step_call (Sel.all _) (IndexFuncO_spec v xs hl gi As p hp he) ⟨Sr, Sr, trivial⟩ call152) fun v7 => ?_
 refine Js rfl (step_geq Sr Sr) (Ja rfl (JL_nil (J_ret ?_)))
 refine K_retv (rv := .tmp 4) rfl () (.tmp Sr) (Sub.bool ?_)
 have hq := (findI_bd p xs 0 zG).2.2
 by_cases ha : xs.any p = true
 ·
  rw [ha]; simp; exact hq.2 ha
 simp only [Bool.not_eq_true] at ha; rw [ha]; simp; have : ¬ 0 ≤ findI p 0 xs := (fun h => by rw [hq.1 h] at ha; cases ha)
 omega
theorem abvF_spec (e f : List Int) (he : Inc e) (hf : Inc f) (hle : e.length ≤ 1000000) (hlf : f.length ≤ 1000000) : Fun1 prog 129 [tSl rInt f, tPtr (rSl rInt) e] (tV (.bool (subL f e))) := by
 refine Spec.enter func129 rfl rfl fun h0 w0 fr0 => ?_
 refine Jr (Ja rfl (JL_nil (Jr (Jl rfl ty27 Sr (Jm rfl ?_)))))
 refine Js rfl (step_call0 (hContains_spec e f he hf hle hlf) ⟨Sr, Sr, trivial⟩ call130) (Ja rfl (JL_nil (J_ret ?_)))
 refine K_ret1 (t := 3) rfl () Sr
set_option maxHeartbeats 1000000 in
theorem aboveL_spec (e : List Int) (hinc : Inc e) (vo vk : Value) (out : LL) (m : List (ByteArray × Bool)) (hl : 6 < e.length) (hl2 : e.length ≤ 1000000) (ho : ∀ f ∈ out, Inc f ∧ f.length ≤ 1000000) (hk : out.length ≤ 1000000) : Spec (X := Unit) prog 104 [tSl rInt e, rV.ty vo, rV.ty vk] ([mapOwn kvS rBool vk m, own 27 (rSl rInt) vo out]) (fun _ => tV (.bool (abvM out e))) (fun _ => [mapOwn kvS rBool vk m, own 27 (rSl rInt) vo out]) := by
 refine Spec.enter func104 rfl rfl fun h0 w0 fr0 => ?_
 refine Jr (Js rfl (step_box (R := (rSl rInt)) Sr) ?_)
 refine Jx rfl (step_box_own (R := rV) Sr) fun v5 => ?_
 refine Jx rfl (step_alloc (fun w => zeroValue4 w) zr4) fun b6 => ?_
 refine JL_nil (J_seq (Jr (Jl rfl ty27 Sr (Js rfl (step_len_sl underlying27 Sr) (Js rfl (step_gtr Sr Sr) ?_)))))
 refine JL_nil ?_
 refine J_cond Sr (fun h10 => ?_) (fun h10 => ?_)
 ·
  try simp only [NF] at h10
  refine Jr (Jm rfl (Js rfl (step_makeFunc (As := [_]) ⟨Sr, trivial⟩) ?_))
  refine Jx rfl (step_call (Sel.skip (Sel.skip (Sel.skip (Sel.take (Sel.none _))))) (ContainsFuncO_spec vo out hk 129 [tPtr (rSl rInt) e] (fun f => subL f e) (fun f hf => abvF_spec e f hinc (ho f hf).1 hl2 (ho f hf).2) call129) ⟨Sr, Sr, trivial⟩ call128) fun v13 => ?_
  refine Ju (step_store_box ty4 Sr Sr zS) fun _ => ?_
  refine JL_nil (J_ret ?_)
  refine K_lsub (L' := [box b6 4 rBool (abvM out e), box v5 135 rV vk, mapOwn kvS rBool vk m, own 27 (rSl rInt) vo out]) (LSub.cons zS (SPs.rfl) (LSub.cons zS (SPs.rfl) (LSub.cons zS (SPs.rfl) (LSub.cons zS (SPs.rfl) (LSub.nil))))) ?_
  refine K_ret1' (rv := .cell 6 4) rfl () (Sel.take (Sel.take (Sel.none _))) (.cell ty4 Sr zS Sr) (Frz.sub Sr)
 try simp only [NF] at h10
 exfalso; omega
theorem AbvOk.large {e : List Int} (hl : 6 < e.length) (hl2 : e.length ≤ 1000000) (hinc : Inc e) : AbvOk e := fun vo vk out m ho _ hk => aboveL_spec e hinc vo vk out m hl hl2 ho hk
theorem AbvOk.any {e : List Int} (hl2 : e.length ≤ 1000000) (hinc : Inc e) (hb : ∀ x ∈ e, 0 ≤ x ∧ x < 100) : AbvOk e := by
  by_cases h : e.length ≤ 6
  · exact AbvOk.small h hinc hb
  · exact AbvOk.large (by omega) hl2 hinc
open Go Go.Proofs Go.Proofs.Tryz
instance decInc : DecidablePred Inc := fun l => inferInstanceAs (Decidable (l.Pairwise fun a b => a < b))
theorem inc_of_adj {l : List Int} (h : ∀ t, 1 ≤ t → t < l.length → nth l (t - 1) < nth l t) : Inc l := by
  refine List.pairwise_iff_getElem.2 fun i j hi hj hij => ?_
  rw [← nth_get hi, ← nth_get hj]
  induction j with
  | zero => omega
  | succ j ih =>
    have h2 := h (j + 1) (by omega) hj
    simp at h2
    by_cases e : i = j
    · subst e; exact h2
    · have := ih (by omega) (by omega); omega
def vertsR (l : List Int) (n : Int) : Bool := decide (Inc l) && (decide (l.length = 0) || (decide (0 ≤ nth l 0) && decide (nth l (l.length - 1) < n)))
def less2 (a b : List Int) : Bool := decide (cmpL a b < 0)
def edgeR (es : LL) (n : Int) (i : Nat) : Bool := (!decide ((nth es i).length = 0) && vertsR (nth es i) n && (decide (i = 0) || less2 (nth es (i - 1)) (nth es i))) && (List.range es.length).all fun k => decide (k = i) || !(nth es k).isSublist (nth es i)
theorem edgeR_t {es : LL} {n : Int} {i : Nat} (h : (¬ ((nth es i).length : Int) = 0 ∧ vertsR (nth es i) n = true) ∧ ((i : Int) ≤ 0 ∨ less2 (nth es (i - 1)) (nth es i) = true)) (h2 : ((List.range es.length).all fun k => decide (k = i) || !(nth es k).isSublist (nth es i)) = true) : edgeR es n i = true := by
  unfold edgeR
  obtain ⟨⟨h3, h4⟩, h5⟩ := h
  rw [h2, h4, decide_eq_false (p := (nth es i).length = 0) (by omega)]
  rcases h5 with h5 | h5
  · rw [decide_eq_true (p := i = 0) (by omega)]; rfl
  · rw [h5]; simp
theorem edgeR_f {es : LL} {n : Int} {i : Nat} (h : (((nth es i).length : Int) = 0 ∨ vertsR (nth es i) n = false) ∨ ((0 : Int) < i ∧ less2 (nth es (i - 1)) (nth es i) = false)) : edgeR es n i = false := by
  unfold edgeR
  rcases h with (h | h) | h
  · rw [decide_eq_true (p := (nth es i).length = 0) (by omega)]; rfl
  · rw [h]; simp
  · rw [h.2, decide_eq_false (p := i = 0) (by omega)]; simp
theorem edgeR_s {es : LL} {n : Int} {i k : Nat} (hk : k < es.length) (hne : k ≠ i) (h : (nth es k).isSublist (nth es i) = true) : edgeR es n i = false := by
  unfold edgeR
  rw [rall_f (i := k) hk (by rw [h, decide_eq_false hne]; rfl), Bool.and_false]
def validR (g : GGraph) : Bool := weighedM g.N g.Cost && decide (g.Edges.length ≤ 20000) && (List.range g.Edges.length).all (edgeR g.Edges g.N)
theorem sub_cons {x y : Int} {u w : List Int} : (y :: w).isSublist (x :: u) = if x = y then w.isSublist u else (y :: w).isSublist u := by
  show (if (y == x) = true then _ else _) = _
  by_cases h : x = y
  · subst h; simp
  · rw [if_neg h, if_neg]; simp; exact fun e => h e.symm
theorem rall_take {n i : Nat} {f : Nat → Bool} (h : ∀ k, k < i → f k = true) (hi : n ≤ i) : (List.range n).all f = true := rall_t fun k hk => h k (by omega)
def smallG (g : GGraph) (n m : Int) : Bool := decide (g.N ≤ n) && decide ((g.Cost.length : Int) ≤ n) && ((g.Edges.all fun e => decide (e.length ≤ 10)) && decide ((g.Edges.length : Int) ≤ m))
theorem less_ne {a b : List Int} {i : Nat} (hv : less2 a b = less2 (a.drop i) (b.drop i)) (hi : i < a.length) (hj : i < b.length) (h : nth a i ≠ nth b i) : decide (nth a i < nth b i) = less2 a b := by
  rw [hv]; unfold less2
  rw [cmpL_drop hi hj]
  rcases cmpN_vals (nth a i) (nth b i) with ⟨h1, e⟩ | ⟨h1, e⟩ | ⟨h1, e⟩
  · rw [e]; simp [h1]
  · exact absurd h1 h
  · rw [e]; simp; omega
theorem less_eq {a b : List Int} {i : Nat} (hv : less2 a b = less2 (a.drop i) (b.drop i)) (hi : i < a.length) (hj : i < b.length) (h : nth a i = nth b i) : less2 a b = less2 (a.drop (i + 1)) (b.drop (i + 1)) := by
  rw [hv]; unfold less2
  rw [cmpL_drop hi hj]
  rcases cmpN_vals (nth a i) (nth b i) with ⟨h1, e⟩ | ⟨h1, e⟩ | ⟨h1, e⟩
  · omega
  · rw [e, if_neg (by simp)]
  · omega
theorem less_end {a b : List Int} {i : Nat} (hv : less2 a b = less2 (a.drop i) (b.drop i)) (hia : i ≤ a.length) (hib : i ≤ b.length) (h : a.length ≤ i ∨ b.length ≤ i) : decide ((a.length : Int) < b.length) = less2 a b := by
  rw [hv]; unfold less2
  by_cases h1 : i < a.length
  · rw [cmpL_long h1 (by omega)]
    have : ¬ ((a.length : Int) < b.length) := by omega
    simp [this]
  · rw [cmpL_end (by omega)]
    by_cases h2 : i < b.length
    · rw [if_pos h2]; simp; omega
    · rw [if_neg h2]; simp; omega
theorem rIn_spec (l : List Int) (n : Int) (hl : l.length ≤ 1000000) : Fun1 prog 50 [tSl rInt l, tV (.int .i64 n)] (tV (.bool (decide (n ∈ l)))) := by
 refine Spec.enter func50 rfl rfl fun h0 w0 fr0 => ?_
 refine Jr (Ja rfl (JL_nil (J_seq (Jr (Ja rfl ?_)))))
 refine JL_nil (J_block ?_)
 refine J_loopL (σ := Nat) (fun i => i ≤ l.length ∧ ∀ t, t < i → nth l t ≠ n) (fun i => upd (upd (upd env0 0 (tSl rInt l)) 1 (tV (.int .i64 n))) 5 (tV (.int .i64 i))) (fun i => []) (fun i => l.length - i) 0 ⟨Nat.zero_le _, fun t h => absurd h (Nat.not_lt_zero _)⟩ (.u (.u (SubE.upd Sr SubE.any))) (LSub.rfl) ?_
 rintro i ⟨hi, hv⟩
 refine J_seq (Jr (Jm rfl (Jm rfl (Js rfl (step_len_sl underlying27 Sr) (Js rfl (step_lss Sr Sr) ?_)))))
 refine JL_nil ?_
 refine J_cond Sr (fun h9 => ?_) (fun h9 => ?_)
 ·
  try simp only [NF] at h9
  have hlt : i < l.length := by omega
  refine J_skip (J_seq (J_block (Jr (Jm rfl (Jm rfl ?_)))))
  refine Js rfl (step_indexAddr_sl (i := i) underlying27 ty3 Sr Sr (by rfl) (gb (by exact hlt))) ?_
  refine Jl rfl ty3 Sr (Jm rfl (Js rfl (step_eql Sr Sr) (JL_nil ?_)))
  refine J_cond Sr (fun h17 => ?_) (fun h17 => ?_)
  ·
   try simp only [NF] at h17
   refine Jr (Ja rfl (JL_nil (J_ret ?_)))
   refine K_ret1 (t := 4) rfl () ?_
   refine Sub.bool ?_
   have := nth_mem hlt; rw [h17] at this; simp [this]
  try simp only [NF] at h17
  refine J_skip (J_region (Jm rfl (Js rfl (step_add Sr Sr z6) (Ja rfl (JL_nil ?_)))))
  refine K_againL (σ := Nat) (s := i) (i + 1) zO ?_ (.u (.u (SubE.upd Sr SubE.any))) (LSub.rfl)
  refine ⟨hlt, fun t ht => ?_⟩
  by_cases e : t = i
  ·
   subst e; exact h17
  exact hv t zG
 try simp only [NF] at h9
 refine J_exit (Jr (Ja rfl (JL_nil (J_ret ?_))))
 refine K_ret1 (t := 4) rfl () ?_
 refine Sub.bool ?_
 have hno : n ∉ l := fun hm => by
  obtain ⟨t, ht, e⟩ := List.getElem_of_mem hm
  exact hv t zG (by rw [nth_get ht]; exact e)
 simp [hno]
theorem rInc_spec (l : List Int) (hl : l.length ≤ 1000000) : Fun1 prog 113 [tSl rInt l] (tV (.bool (decide (Inc l)))) := by
 refine Spec.enter func113 rfl rfl fun h0 w0 fr0 => ?_
 refine Jr (Ja rfl (JL_nil (J_seq (Jr (Ja rfl ?_)))))
 refine JL_nil (J_block ?_)
 refine J_loopL (σ := Nat) (fun i => 1 ≤ i ∧ ∀ t, 1 ≤ t → t < i → nth l (t - 1) < nth l t) (fun i => upd (upd env0 0 (tSl rInt l)) 3 (tV (.int .i64 i))) (fun i => []) (fun i => l.length - i) 1 ⟨Nat.le_refl _, fun t h1 h2 => by omega⟩ (SubE.upd (Sub.int rfl) (SubE.upd Sr SubE.any)) (LSub.rfl) ?_
 rintro i ⟨hi, hv⟩
 refine J_seq (Jr (Jm rfl (Jm rfl (Js rfl (step_len_sl underlying27 Sr) (Js rfl (step_lss Sr Sr) ?_)))))
 refine JL_nil ?_
 refine J_cond Sr (fun h7 => ?_) (fun h7 => ?_)
 ·
  try simp only [NF] at h7
  have hlt : i < l.length := by omega
  refine J_skip (J_seq (J_block (J_seq ?_)))
  refine J_draw [⟨0, [0], true⟩, ⟨1, [3], true⟩, ⟨2, [10, 11], true⟩, ⟨3, [12], true⟩, ⟨4, [0], true⟩, ⟨5, [3], true⟩, ⟨6, [15], true⟩, ⟨7, [14, 16], true⟩, ⟨8, [17], true⟩, ⟨9, [13, 18], true⟩] rfl (by kernel_rfl) ?_
  refine Mv rfl rfl (Mv rfl rfl ?_)
  refine Mf rfl rfl (step_indexAddr_sl (i := i) underlying27 ty3 Sr Sr (by rfl) (gb (by exact hlt))) ?_
  refine Mf rfl rfl (step_load_ptr ty3 Sr) (Mv rfl rfl (Mv rfl rfl (Mf rfl rfl (step_sub Sr Sr z6) ?_)))
  refine Mf rfl rfl (step_indexAddr_sl (i := i - 1) underlying27 ty3 Sr Sr zG (gb (by show i - 1 < l.length; omega))) ?_
  refine Mf rfl rfl (step_load_ptr ty3 Sr) (Mf rfl rfl (step_leq Sr Sr) (JM_nil ?_))
  refine J_cond Sr (fun h19 => ?_) (fun h19 => ?_)
  ·
   try simp only [NF] at h19
   refine Jr (Ja rfl (JL_nil (J_ret ?_)))
   refine K_ret1 (t := 2) rfl () ?_
   refine Sub.bool ?_
   have hno : ¬ Inc l := fun h => by have := inc_nth h (i := i - 1) (j := i) zG hlt; omega
   simp [hno]
  try simp only [NF] at h19
  refine J_skip (J_region (Jm rfl (Js rfl (step_add Sr Sr z6) (Ja rfl (JL_nil ?_)))))
  refine K_againL (σ := Nat) (s := i) (i + 1) zO ?_ (.u (SubE.upd Sr SubE.any)) (LSub.rfl)
  refine ⟨by omega, fun t h1 h2 => ?_⟩
  by_cases e : t = i
  ·
   subst e; exact h19
  exact hv t h1 zG
 try simp only [NF] at h7
 refine J_exit (Jr (Ja rfl (JL_nil (J_ret ?_))))
 refine K_ret1 (t := 2) rfl () ?_
 refine Sub.bool ?_
 have hy : Inc l := inc_of_adj fun t h1 h2 => hv t h1 zG
 simp [hy]
theorem rLess_spec (a b : List Int) (ha : a.length ≤ 1000000) (hb : b.length ≤ 1000000) : Fun1 prog 76 [tSl rInt a, tSl rInt b] (tV (.bool (less2 a b))) := by
 refine Spec.enter func76 rfl rfl fun h0 w0 fr0 => ?_
 refine Jr (Ja rfl (JL_nil (J_seq (Jr (Ja rfl ?_)))))
 refine JL_nil (J_block ?_)
 refine J_loopL (σ := Nat) (fun i => i ≤ a.length ∧ i ≤ b.length ∧ less2 a b = less2 (a.drop i) (b.drop i)) (fun i => upd (upd (upd env0 0 (tSl rInt a)) 1 (tSl rInt b)) 5 (tV (.int .i64 i))) (fun i => []) (fun i => a.length - i) 0 ⟨Nat.zero_le _, Nat.zero_le _, rfl⟩ (.u (.u (SubE.upd Sr SubE.any))) (LSub.rfl) ?_
 rintro i ⟨hi, hi2, hv⟩
 refine J_seq (Jr (Jm rfl (Jm rfl (Js rfl (step_len_sl underlying27 Sr) (Js rfl (step_lss Sr Sr) ?_)))))
 refine Jm rfl (Jg rfl Sr rfl (fun hw => step_move Sr) (Jg rfl Sr rfl (fun hw => step_move Sr) (Jg rfl Sr rfl (fun hw => step_len_sl underlying27 (Sub.w hw)) (Jg rfl Sr rfl (fun hw => step_lss (Sub.w hw) (Sub.w hw)) (Js rfl (step_pick_and Sr Sr) ?_)))))
 refine JL_nil ?_
 refine J_cond Sr (fun h15 => ?_) (fun h15 => ?_)
 ·
  try simp only [NF] at h15
  have hlt : i < a.length := by omega
  have hlt2 : i < b.length := by omega
  refine J_skip (J_seq (J_block (J_seq ?_)))
  refine J_draw [⟨0, [0], true⟩, ⟨1, [5], true⟩, ⟨2, [18, 19], true⟩, ⟨3, [20], true⟩, ⟨4, [1], true⟩, ⟨5, [5], true⟩, ⟨6, [22, 23], true⟩, ⟨7, [24], true⟩, ⟨8, [21, 25], true⟩] rfl (by kernel_rfl) ?_
  refine Mv rfl rfl (Mv rfl rfl ?_)
  refine Mf rfl rfl (step_indexAddr_sl (i := i) underlying27 ty3 Sr Sr (by rfl) (gb (by show i < a.length; omega))) ?_
  refine Mf rfl rfl (step_load_ptr ty3 Sr) (Mv rfl rfl (Mv rfl rfl ?_))
  refine Mf rfl rfl (step_indexAddr_sl (i := i) underlying27 ty3 Sr Sr (by rfl) (gb (by show i < b.length; omega))) ?_
  refine Mf rfl rfl (step_load_ptr ty3 Sr) (Mf rfl rfl (step_neq Sr Sr) (JM_nil ?_))
  refine J_cond Sr (fun h26 => ?_) (fun h26 => ?_)
  ·
   try simp only [NF] at h26
   refine J_seq ?_
   refine J_draw [⟨0, [0], true⟩, ⟨1, [5], true⟩, ⟨2, [27, 28], true⟩, ⟨3, [29], true⟩, ⟨4, [1], true⟩, ⟨5, [5], true⟩, ⟨6, [31, 32], true⟩, ⟨7, [33], true⟩, ⟨8, [30, 34], true⟩, ⟨9, [35], true⟩] rfl (by kernel_rfl) ?_
   refine Mv rfl rfl (Mv rfl rfl ?_)
   refine Mf rfl rfl (step_indexAddr_sl (i := i) underlying27 ty3 Sr Sr (by rfl) (gb (by show i < a.length; omega))) ?_
   refine Mf rfl rfl (step_load_ptr ty3 Sr) (Mv rfl rfl (Mv rfl rfl ?_))
   refine Mf rfl rfl (step_indexAddr_sl (i := i) underlying27 ty3 Sr Sr (by rfl) (gb (by show i < b.length; omega))) ?_
   refine Mf rfl rfl (step_load_ptr ty3 Sr) (Mf rfl rfl (step_lss Sr Sr) (Mf rfl rfl (step_assign Sr) (JM_nil (J_ret ?_))))
   refine K_ret1 (t := 4) rfl () ?_
   refine Sub.bool ?_
   exact less_ne hv hlt hlt2 h26
  try simp only [NF] at h26
  refine J_skip (J_region (Jm rfl (Js rfl (step_add Sr Sr z6) (Ja rfl (JL_nil ?_)))))
  refine K_againL (σ := Nat) (s := i) (i + 1) zO ?_ (.u (.u (SubE.upd Sr SubE.any))) (LSub.rfl)
  exact ⟨hlt, hlt2, less_eq hv hlt hlt2 h26⟩
 try simp only [NF] at h15
 refine J_exit (Jr (Jm rfl (Js rfl (step_len_sl underlying27 Sr) (Jm rfl (Js rfl (step_len_sl underlying27 Sr) ?_)))))
 refine Js rfl (step_lss Sr Sr) (Ja rfl (JL_nil (J_ret ?_)))
 refine K_ret1 (t := 4) rfl () ?_
 refine Sub.bool ?_
 exact less_end hv hi hi2 zG
theorem rContains_spec (a b : List Int) (ha : a.length ≤ 1000000) (hb : b.length ≤ 1000000) : Fun1 prog 77 [tSl rInt a, tSl rInt b] (tV (.bool (b.isSublist a))) := by
 refine Spec.enter func77 rfl rfl fun h0 w0 fr0 => ?_
 refine Jr (Ja rfl (JL_nil (Jr (Ja rfl (JL_nil ?_)))))
 refine J_seq (Jr (Ja rfl (JL_nil (J_block ?_))))
 refine J_loopL (σ := Nat × Nat) (fun ⟨i, k⟩ => i ≤ a.length ∧ k ≤ b.length ∧ b.isSublist a = (b.drop k).isSublist (a.drop i)) (fun ⟨i, k⟩ => upd (upd (upd (upd (upd env0 0 (tSl rInt a)) 1 (tSl rInt b)) 4 (tV (.bool false))) 5 (tV (.int .i64 k))) 6 (tV (.int .i64 i))) (fun ⟨i, k⟩ => []) (fun ⟨i, k⟩ => a.length - i) (0, 0) ⟨Nat.zero_le _, Nat.zero_le _, rfl⟩ (.u (.u (.u (.u (SubE.upd Sr SubE.any))))) (LSub.rfl) ?_
 rintro ⟨i, k⟩ ⟨hi, hk, hv⟩
 refine J_seq (Jr (Jm rfl (Jm rfl (Js rfl (step_len_sl underlying27 Sr) (Js rfl (step_lss Sr Sr) ?_)))))
 refine Jm rfl (Jg rfl Sr rfl (fun hw => step_move Sr) (Jg rfl Sr rfl (fun hw => step_move Sr) (Jg rfl Sr rfl (fun hw => step_len_sl underlying27 (Sub.w hw)) (Jg rfl Sr rfl (fun hw => step_lss (Sub.w hw) (Sub.w hw)) (Js rfl (step_pick_and Sr Sr) ?_)))))
 refine JL_nil ?_
 refine J_cond Sr (fun h16 => ?_) (fun h16 => ?_)
 ·
  try simp only [NF] at h16
  have hlt : i < a.length := by omega
  have hlt2 : k < b.length := by omega
  refine J_skip (J_seq (J_block (J_seq ?_)))
  refine J_draw [⟨0, [0], true⟩, ⟨1, [6], true⟩, ⟨2, [19, 20], true⟩, ⟨3, [21], true⟩, ⟨4, [1], true⟩, ⟨5, [5], true⟩, ⟨6, [23, 24], true⟩, ⟨7, [25], true⟩, ⟨8, [22, 26], true⟩] rfl (by kernel_rfl) ?_
  refine Mv rfl rfl (Mv rfl rfl ?_)
  refine Mf rfl rfl (step_indexAddr_sl (i := i) underlying27 ty3 Sr Sr (by rfl) (gb (by show i < a.length; omega))) ?_
  refine Mf rfl rfl (step_load_ptr ty3 Sr) (Mv rfl rfl (Mv rfl rfl ?_))
  refine Mf rfl rfl (step_indexAddr_sl (i := k) underlying27 ty3 Sr Sr (by rfl) (gb (by show k < b.length; omega))) ?_
  refine Mf rfl rfl (step_load_ptr ty3 Sr) (Mf rfl rfl (step_eql Sr Sr) (JM_nil ?_))
  refine J_cond Sr (fun h27 => ?_) (fun h27 => ?_)
  ·
   try simp only [NF] at h27
   refine J_region (Jm rfl (Js rfl (step_add Sr Sr z6) (Ja rfl (JL_nil (J_region ?_)))))
   refine Jm rfl (Js rfl (step_add Sr Sr z6) (Ja rfl (JL_nil ?_)))
   refine K_againL (σ := Nat × Nat) (s := (i, k)) (i + 1, k + 1) zO ?_ (.u (.u (.u (.u (SubE.upd Sr SubE.any))))) (LSub.rfl)
   exact ⟨hlt, hlt2, by rw [hv, dropB hlt, dropB hlt2, sub_cons, if_pos h27]⟩
  try simp only [NF] at h27
  refine J_skip (J_region (Jm rfl (Js rfl (step_add Sr Sr z6) (Ja rfl (JL_nil ?_)))))
  refine K_againL (σ := Nat × Nat) (s := (i, k)) (i + 1, k) zO ?_ (.u (.u (.u (.u (SubE.upd Sr SubE.any))))) (LSub.rfl)
  exact ⟨hlt, hk, by rw [hv, dropB hlt, dropB hlt2, sub_cons, if_neg h27]⟩
 try simp only [NF] at h16
 refine J_exit (Jr (Jm rfl (Jm rfl (Js rfl (step_len_sl underlying27 Sr) (Js rfl (step_eql Sr Sr) ?_)))))
 refine Ja rfl (JL_nil (J_ret ?_))
 refine K_ret1 (t := 4) rfl () ?_
 refine Sub.bool ?_
 by_cases hkb : k = b.length
 ·
  rw [hv, hkb, List.drop_length, decide_eq_true rfl]; cases a.drop i <;> rfl
 have hka : a.length ≤ i := by omega
 rw [hv, List.drop_of_length_le hka, dropB (show k < b.length by omega), decide_eq_false zG]; rfl
set_option maxHeartbeats 1000000 in
theorem rCosts_spec (n : Int) (cost : List Int) (hl : cost.length ≤ 1000000) : Fun1 prog 74 [tV (.int .i64 n), tSl rInt cost] (tV (.bool (weighedM n cost))) := by
 refine Spec.enter func74 rfl rfl fun h0 w0 fr0 => ?_
 refine Jr (Ja rfl (JL_nil (J_seq (Jr (Jm rfl ?_)))))
 refine Js rfl (step_lss Sr Sr) (Jm rfl (Jg rfl Sr rfl (fun hw => step_move Sr) (Jg rfl Sr rfl (fun hw => step_gtr (Sub.w hw) Sr) (Js rfl (step_pick_or Sr Sr) (Jm rfl ?_)))))
 refine Jg rfl Sr rfl (fun hw => step_move Sr) (Jg rfl Sr rfl (fun hw => step_len_sl underlying27 (Sub.w hw)) (Jg rfl Sr rfl (fun hw => step_move Sr) (Jg rfl Sr rfl (fun hw => step_neq (Sub.w hw) (Sub.w hw)) (Js rfl (step_pick_or Sr Sr) (JL_nil ?_)))))
 refine J_cond Sr (fun h17 => ?_) (fun h17 => ?_)
 ·
  try simp only [NF] at h17
  refine Jr (Ja rfl (JL_nil (J_ret ?_)))
  refine K_ret1 (t := 4) rfl () ?_
  refine Sub.bool ?_
  unfold weighedM; rcases h17 with (h17 | h17) | h17
  ·
   rw [decide_eq_false (p := 0 ≤ n) zG]; rfl
  ·
   rw [decide_eq_false (p := n ≤ 4000) zG]; simp
  rw [decide_eq_false (p := (cost.length : Int) = n) h17]; simp
 try simp only [NF] at h17
 refine J_skip (J_seq (Jr (Ja rfl (JL_nil (J_block ?_)))))
 refine J_loopL (σ := Nat) (fun i => i ≤ cost.length ∧ ∀ t, t < i → costBad (nth cost t) = false) (fun i => upd (upd (upd env0 0 (tV (.int .i64 n))) 1 (tSl rInt cost)) 5 (tV (.int .i64 i))) (fun i => []) (fun i => cost.length - i) 0 ⟨Nat.zero_le _, fun t h => absurd h (Nat.not_lt_zero _)⟩ (.u (.u (SubE.upd Sr SubE.any))) (LSub.rfl) ?_
 rintro i ⟨hi, hv⟩
 refine J_seq (Jr (Jm rfl (Jm rfl (Js rfl (step_lss Sr Sr) (JL_nil ?_)))))
 refine J_cond Sr (fun h20 => ?_) (fun h20 => ?_)
 ·
  try simp only [NF] at h20
  have hlt : i < cost.length := by omega
  refine J_skip (J_seq (J_block (Jr (Jm rfl (Jm rfl ?_)))))
  refine Js rfl (step_indexAddr_sl (i := i) underlying27 ty3 Sr Sr (by rfl) (gb (by show i < cost.length; omega))) ?_
  refine Jl rfl ty3 Sr (Js rfl (step_lss Sr Sr) (Jm rfl (Jg rfl Sr rfl (fun hw => step_move Sr) (Jg rfl Sr rfl (fun hw => step_move Sr) ?_))))
  refine Jg rfl Sr rfl (fun hw => step_indexAddr_sl (i := i) underlying27 ty3 (Sub.w hw) (Sub.w hw) (by rfl) (gb (by have hwq := hw; (try simp only [beqB_t, beqB_f, NF] at hwq); show i < cost.length; omega))) ?_
  refine Jg rfl Sr rfl (fun hw => step_load_ptr ty3 (Sub.w hw)) (Jg rfl Sr rfl (fun hw => step_gtr (Sub.w hw) Sr) (Js rfl (step_pick_or Sr Sr) (JL_nil ?_)))
  refine J_cond Sr (fun h34 => ?_) (fun h34 => ?_)
  ·
   try simp only [NF] at h34
   refine Jr (Ja rfl (JL_nil (J_ret ?_)))
   refine K_ret1 (t := 4) rfl () ?_
   refine Sub.bool ?_
   have hb : cost.any costBad = true := List.any_eq_true.2 ⟨nth cost i, nth_mem hlt, by unfold costBad; rcases h34 with h34 | h34 <;> simp <;> omega⟩
   unfold weighedM; rw [hb]; simp
  try simp only [NF] at h34
  refine J_skip (J_region (Jm rfl (Js rfl (step_add Sr Sr z6) (Ja rfl (JL_nil ?_)))))
  refine K_againL (σ := Nat) (s := i) (i + 1) zO ?_ (.u (.u (SubE.upd Sr SubE.any))) (LSub.rfl)
  refine ⟨hlt, fun t ht => ?_⟩
  by_cases e : t = i
  ·
   subst e; unfold costBad; rw [decide_eq_false zG, decide_eq_false zG]; rfl
  exact hv t zG
 try simp only [NF] at h20
 refine J_exit (Jr (Ja rfl (JL_nil (J_ret ?_))))
 refine K_ret1 (t := 4) rfl () ?_
 refine Sub.bool ?_
 have hb : cost.any costBad = false := List.any_eq_false.2 fun x hx => by
  obtain ⟨t, ht, rfl⟩ := List.getElem_of_mem hx
  rw [← nth_get ht, hv t zG]; simp
 unfold weighedM; rw [hb, decide_eq_true (p := 0 ≤ n) zG, decide_eq_true (p := n ≤ 4000) zG, decide_eq_true (p := (cost.length : Int) = n) zG]; rfl
theorem rVerts_spec (l : List Int) (n : Int) (hl : l.length ≤ 1000000) : Fun1 prog 75 [tSl rInt l, tV (.int .i64 n)] (tV (.bool (vertsR l n))) := by
 refine Spec.enter func75 rfl rfl fun h0 w0 fr0 => ?_
 refine Jr (Ja rfl (JL_nil (Jr (Jm rfl (Js rfl (step_call0 (rInc_spec l hl) ⟨Sr, trivial⟩ call113) ?_)))))
 refine Jm rfl (Jg rfl Sr rfl (fun hw => step_move Sr) (Jg rfl Sr rfl (fun hw => step_len_sl underlying27 (Sub.w hw)) (Jg rfl Sr rfl (fun hw => step_eql (Sub.w hw) Sr) (Jg rfl Sr rfl (fun hw => step_move (Sub.w hw)) (Jh rfl Sr rfl (fun hw => step_move Sr) ?_)))))
 refine Jh rfl Sr rfl (fun hw => step_indexAddr_sl (i := 0) underlying27 ty3 (Sub.w hw) Sr (by rfl) (gb (by have hwq := hw; (try simp only [beqB_t, beqB_f, NF] at hwq); show 0 < l.length; omega))) ?_
 refine Jh rfl Sr rfl (fun hw => step_load_ptr ty3 (Sub.w hw)) (Jh rfl Sr rfl (fun hw => step_geq (Sub.w hw) Sr) (Jh rfl Sr rfl (fun hw => step_move (Sub.w hw)) (Jh rfl Sr rfl (fun hw => step_move Sr) (Jh rfl Sr rfl (fun hw => step_move Sr) (Jh rfl Sr rfl (fun hw => step_len_sl underlying27 (Sub.w hw)) ?_)))))
 refine Jh rfl Sr rfl (fun hw => step_sub (Sub.w hw) Sr (by have hwq := hw; (try simp only [beqB_t, beqB_f, NF] at hwq); unfold in64; omega)) ?_
 refine Jh rfl Sr rfl (fun hw => step_indexAddr_sl (i := l.length - 1) underlying27 ty3 (Sub.w hw) (Sub.w hw) (by have hwq := hw; (try simp only [beqB_t, beqB_f, NF] at hwq); omega) (gb (by have hwq := hw; (try simp only [beqB_t, beqB_f, NF] at hwq); show l.length - 1 < l.length; omega))) ?_
 refine Jh rfl Sr rfl (fun hw => step_load_ptr ty3 (Sub.w hw)) (Jh rfl Sr rfl (fun hw => step_move Sr) (Jh rfl Sr rfl (fun hw => step_lss (Sub.w hw) (Sub.w hw)) (Jh rfl Sr rfl (fun hw => step_pick_and (Sub.w hw) (Sub.ww hw)) (Jg rfl Sr rfl (fun hw => step_pick_or (Sub.w hw) (Sub.ww hw)) (Js rfl (step_pick_and Sr Sr) ?_)))))
 refine Ja rfl (JL_nil (J_ret ?_))
 refine K_ret1 (t := 4) rfl () ?_
 refine Sub.bool ?_
 unfold vertsR; simp
theorem rFew_spec (es : LL) (m : Int) (hl : es.length ≤ 9223372036854775807) : Fun1 prog 30 [tSl (rSl rInt) es, tV (.int .i64 m)] (tV (.bool ((es.all fun e => decide (e.length ≤ 10)) && decide ((es.length : Int) ≤ m)))) := by
 refine Spec.enter func30 rfl rfl fun h0 w0 fr0 => ?_
 refine Jr (Ja rfl (JL_nil (J_seq (Jr (Ja rfl ?_)))))
 refine JL_nil (J_block ?_)
 refine J_loopL (σ := Nat) (fun i => i ≤ es.length ∧ (es.take i).all (fun e => decide (e.length ≤ 10)) = true) (fun i => upd (upd (upd env0 0 (tSl (rSl rInt) es)) 1 (tV (.int .i64 m))) 5 (tV (.int .i64 i))) (fun i => []) (fun i => es.length - i) 0 ⟨Nat.zero_le _, rfl⟩ (.u (.u (SubE.upd Sr SubE.any))) (LSub.rfl) ?_
 rintro i ⟨hi, hv⟩
 refine J_seq (Jr (Jm rfl (Jm rfl (Js rfl (step_len_sl underlying28 Sr) (Js rfl (step_lss Sr Sr) ?_)))))
 refine JL_nil ?_
 refine J_cond Sr (fun h9 => ?_) (fun h9 => ?_)
 ·
  try simp only [NF] at h9
  have hlt : i < es.length := by omega
  refine J_skip (J_seq (J_block (Jr (Jm rfl (Jm rfl ?_)))))
  refine Js rfl (step_indexAddr_sl (i := i) underlying28 ty27 Sr Sr (by rfl) (gb (by exact hlt))) ?_
  refine Jl rfl ty27 Sr (Js rfl (step_len_sl underlying27 Sr) (Js rfl (step_gtr Sr Sr) (JL_nil ?_)))
  refine J_cond Sr (fun h17 => ?_) (fun h17 => ?_)
  ·
   try simp only [NF] at h17
   refine Jr (Ja rfl (JL_nil (J_ret ?_)))
   refine K_ret1 (t := 4) rfl () ?_
   refine Sub.bool ?_
   have hb : es.all (fun e => decide (e.length ≤ 10)) = false := List.all_eq_false.2 ⟨nth es i, nth_mem hlt, by simp; omega⟩
   rw [hb]; rfl
  try simp only [NF] at h17
  refine J_skip (J_region (Jm rfl (Js rfl (step_add Sr Sr z6) (Ja rfl (JL_nil ?_)))))
  refine K_againL (σ := Nat) (s := i) (i + 1) zO ?_ (.u (.u (SubE.upd Sr SubE.any))) (LSub.rfl)
  refine ⟨hlt, ?_⟩
  rw [takeB hlt, List.all_append, hv]; simp; omega
 try simp only [NF] at h9
 refine J_exit (Jr (Jm rfl (Js rfl (step_len_sl underlying28 Sr) (Jm rfl (Js rfl (step_leq Sr Sr) ?_)))))
 refine Ja rfl (JL_nil (J_ret ?_))
 refine K_ret1 (t := 4) rfl () ?_
 refine Sub.bool ?_
 rw [List.take_of_length_le zG] at hv; rw [hv]; rfl
theorem rSmall_spec (g : GGraph) (n m : Int) (hl : g.Edges.length ≤ 9223372036854775807) : Fun1 prog 13 [rGraph.ty g, tV (.int .i64 n), tV (.int .i64 m)] (tV (.bool (smallG g n m))) := by
 refine Spec.enter func13 rfl rfl fun h0 w0 fr0 => ?_
 refine Jr (Js rfl (step_box (R := rGraph) Sr) (Ja rfl (JL_nil (Jr (Js rfl (step_fieldAddr so30 Sr rfl) ?_)))))
 refine Jl rfl ty3 Sr (Jm rfl (Js rfl (step_leq Sr Sr) (Jm rfl (Jg rfl Sr rfl (fun hw => step_fieldAddr so30 Sr rfl) (Jg rfl Sr rfl (fun hw => step_load_ptr ty27 (Sub.w hw)) ?_)))))
 refine Jg rfl Sr rfl (fun hw => step_len_sl underlying27 (Sub.w hw)) (Jg rfl Sr rfl (fun hw => step_move Sr) (Jg rfl Sr rfl (fun hw => step_leq (Sub.w hw) (Sub.w hw)) (Js rfl (step_pick_and Sr Sr) (Jm rfl (Jg rfl Sr rfl (fun hw => step_fieldAddr so30 Sr rfl) ?_)))))
 refine Jg rfl Sr rfl (fun hw => step_load_ptr ty28 (Sub.w hw)) (Jg rfl Sr rfl (fun hw => step_move Sr) (Jg rfl Sr rfl (fun hw => step_call0 (rFew_spec g.Edges m hl) ⟨(Sub.w hw), (Sub.w hw), trivial⟩ call30) (Js rfl (step_pick_and Sr Sr) (Ja rfl (JL_nil ?_)))))
 refine J_ret ?_
 refine K_ret1 (t := 6) rfl () ?_
 refine Sub.bool ?_
 unfold smallG; rfl
set_option maxHeartbeats 2000000 in
theorem rValid_spec (g : GGraph) (hl : g.Edges.length ≤ 1000000) (he : ∀ e ∈ g.Edges, e.length ≤ 1000000) (hc : g.Cost.length ≤ 1000000) : Fun1 prog 44 [rGraph.ty g] (tV (.bool (validR g))) := by
 refine Spec.enter func44 rfl rfl fun h0 w0 fr0 => ?_
 refine Jr (Js rfl (step_box (R := rGraph) Sr) (Ja rfl (JL_nil (J_seq (Jr ?_)))))
 refine Js rfl (step_fieldAddr so30 Sr rfl) (Jl rfl ty3 Sr (Js rfl (step_fieldAddr so30 Sr rfl) (Jl rfl ty27 Sr (Js rfl (step_call0 (rCosts_spec g.N g.Cost hc) ⟨Sr, Sr, trivial⟩ call74) (Js rfl (step_not Sr) ?_)))))
 refine Jm rfl (Jg rfl Sr rfl (fun hw => step_fieldAddr so30 Sr rfl) (Jg rfl Sr rfl (fun hw => step_load_ptr ty28 (Sub.w hw)) (Jg rfl Sr rfl (fun hw => step_len_sl underlying28 (Sub.w hw)) (Jg rfl Sr rfl (fun hw => step_gtr (Sub.w hw) Sr) (Js rfl (step_pick_or Sr Sr) ?_)))))
 refine JL_nil ?_
 refine J_cond Sr (fun h17 => ?_) (fun h17 => ?_)
 ·
  try simp only [NF] at h17
  refine Jr (Ja rfl (JL_nil (J_ret ?_)))
  refine K_ret1 (t := 2) rfl () ?_
  refine Sub.bool ?_
  unfold validR; rcases h17 with h17 | h17
  ·
   rw [h17]; rfl
  rw [decide_eq_false (p := g.Edges.length ≤ 20000) zG]; simp
 try simp only [NF] at h17
 refine J_skip (J_seq (Jr (Ja rfl (JL_nil (J_block ?_)))))
 refine J_loopL (σ := Nat) (fun i => i ≤ g.Edges.length ∧ ∀ t, t < i → edgeR g.Edges g.N t = true) (fun i => upd (upd env0 1 (tPtr rGraph g)) 3 (tV (.int .i64 i))) (fun i => []) (fun i => g.Edges.length - i) 0 ⟨Nat.zero_le _, fun t h => absurd h (Nat.not_lt_zero _)⟩ (.u (SubE.upd Sr SubE.any)) (LSub.rfl) ?_
 rintro i ⟨hi, hv⟩
 refine J_seq (Jr (Jm rfl (Js rfl (step_fieldAddr so30 Sr rfl) (Jl rfl ty28 Sr (Js rfl (step_len_sl underlying28 Sr) ?_)))))
 refine Js rfl (step_lss Sr Sr) (JL_nil ?_)
 refine J_cond Sr (fun h22 => ?_) (fun h22 => ?_)
 ·
  try simp only [NF] at h22
  have hlt : i < g.Edges.length := by omega
  have hle := he _ (nth_mem hlt)
  refine J_skip (J_seq (J_block (Jr (Js rfl (step_fieldAddr so30 Sr rfl) (Jl rfl ty28 Sr ?_)))))
  refine Jm rfl ?_
  refine Js rfl (step_indexAddr_sl (i := i) underlying28 ty27 Sr Sr (by rfl) (gb (by exact hlt))) ?_
  refine Jl rfl ty27 Sr (Ja rfl (JL_nil (J_seq (Jr (Jm rfl ?_)))))
  refine Js rfl (step_len_sl underlying27 Sr) (Js rfl (step_eql Sr Sr) (Jm rfl (Jg rfl Sr rfl (fun hw => step_move Sr) (Jg rfl Sr rfl (fun hw => step_fieldAddr so30 Sr rfl) (Jg rfl Sr rfl (fun hw => step_load_ptr ty3 (Sub.w hw)) ?_)))))
  refine Jg rfl Sr rfl (fun hw => step_call0 (rVerts_spec (nth g.Edges i) g.N hle) ⟨(Sub.w hw), (Sub.w hw), trivial⟩ call75) (Jg rfl Sr rfl (fun hw => step_not (Sub.w hw)) (Js rfl (step_pick_or Sr Sr) (Jm rfl (Jg rfl Sr rfl (fun hw => step_move Sr) (Jg rfl Sr rfl (fun hw => step_gtr (Sub.w hw) Sr) ?_)))))
  refine Jg rfl Sr rfl (fun hw => step_move (Sub.w hw)) (Jh rfl Sr rfl (fun hw => step_fieldAddr so30 Sr rfl) (Jh rfl Sr rfl (fun hw => step_load_ptr ty28 (Sub.w hw)) (Jh rfl Sr rfl (fun hw => step_move Sr) ?_)))
  refine Jh rfl Sr rfl (fun hw => step_sub (Sub.w hw) Sr (by have hwq := hw; (try simp only [beqB_t, beqB_f, NF] at hwq); unfold in64; omega)) ?_
  refine Jh rfl Sr rfl (fun hw => step_indexAddr_sl (i := i - 1) underlying28 ty27 (Sub.w hw) (Sub.w hw) (by have hwq := hw; (try simp only [beqB_t, beqB_f, NF] at hwq); omega) (gb (by have hwq := hw; (try simp only [beqB_t, beqB_f, NF] at hwq); show i - 1 < g.Edges.length; omega))) ?_
  refine Jh rfl Sr rfl (fun hw => step_load_ptr ty27 (Sub.w hw)) (Jh rfl Sr rfl (fun hw => step_move Sr) ?_)
  refine Jh rfl Sr rfl (fun hw => step_call0 (rLess_spec (nth g.Edges (i - 1)) (nth g.Edges i) (he _ (nth_mem (show i - 1 < g.Edges.length by omega))) hle) ⟨(Sub.w hw), (Sub.w hw), trivial⟩ call76) ?_
  refine Jh rfl Sr rfl (fun hw => step_not (Sub.w hw)) (Jg rfl Sr rfl (fun hw => step_pick_and (Sub.w hw) (Sub.ww hw)) (Js rfl (step_pick_or Sr Sr) (JL_nil ?_)))
  refine J_cond Sr (fun h54 => ?_) (fun h54 => ?_)
  ·
   try simp only [NF] at h54
   refine Jr (Ja rfl (JL_nil (J_ret ?_)))
   refine K_ret1 (t := 2) rfl () ?_
   refine Sub.bool ?_
   have h2 := rall_f (f := edgeR g.Edges g.N) hlt (edgeR_f h54)
   unfold validR; rw [h2, Bool.and_false]
  try simp only [NF] at h54
  refine J_skip (Jr (Ja rfl (JL_nil (J_block ?_))))
  refine J_loopL (σ := Nat) (fun k => k ≤ g.Edges.length ∧ ∀ t, t < k → (decide (t = i) || !(nth g.Edges t).isSublist (nth g.Edges i)) = true) (fun k => upd (upd (upd (upd (upd (upd (upd env0 1 (tPtr rGraph g)) 3 (tV (.int .i64 i))) 4 (tSl rInt (nth g.Edges i))) 5 (tV (.int .i64 k))) 18 (tV (.int .i64 i))) 27 (tV (.int .i64 i))) 30 (tSl rInt (nth g.Edges i))) (fun k => []) (fun k => g.Edges.length - k) 0 ⟨Nat.zero_le _, fun t h => absurd h (Nat.not_lt_zero _)⟩ (.u (.u (.u (.u (.u (.u (SubE.upd Sr SubE.any))))))) (LSub.rfl) ?_
  rintro k ⟨hk, hw2⟩
  refine J_seq (Jr (Jm rfl (Js rfl (step_fieldAddr so30 Sr rfl) (Jl rfl ty28 Sr (Js rfl (step_len_sl underlying28 Sr) ?_)))))
  refine Js rfl (step_lss Sr Sr) (JL_nil ?_)
  refine J_cond Sr (fun h59 => ?_) (fun h59 => ?_)
  ·
   try simp only [NF] at h59
   have hkt : k < g.Edges.length := by omega
   have hke := he _ (nth_mem hkt)
   refine J_skip (J_seq (J_block (Jr (Jm rfl (Jm rfl ?_)))))
   refine Js rfl (step_neq Sr Sr) (Jm rfl (Jg rfl Sr rfl (fun hw => step_move Sr) (Jg rfl Sr rfl (fun hw => step_fieldAddr so30 Sr rfl) (Jg rfl Sr rfl (fun hw => step_load_ptr ty28 (Sub.w hw)) (Jg rfl Sr rfl (fun hw => step_move Sr) ?_)))))
   refine Jg rfl Sr rfl (fun hw => step_indexAddr_sl (i := k) underlying28 ty27 (Sub.w hw) (Sub.w hw) (by rfl) (gb (by have hwq := hw; (try simp only [beqB_t, beqB_f, NF] at hwq); exact hkt))) ?_
   refine Jg rfl Sr rfl (fun hw => step_load_ptr ty27 (Sub.w hw)) (Jg rfl Sr rfl (fun hw => step_call0 (rContains_spec (nth g.Edges i) (nth g.Edges k) hle hke) ⟨(Sub.w hw), (Sub.w hw), trivial⟩ call77) (Js rfl (step_pick_and Sr Sr) (JL_nil ?_)))
   refine J_cond Sr (fun h73 => ?_) (fun h73 => ?_)
   ·
    try simp only [NF] at h73
    refine Jr (Ja rfl (JL_nil (J_ret ?_)))
    refine K_ret1 (t := 2) rfl () ?_
    refine Sub.bool ?_
    have h2 := rall_f (f := edgeR g.Edges g.N) hlt (edgeR_s hkt zG h73.2)
    unfold validR; rw [h2, Bool.and_false]
   try simp only [NF] at h73
   refine J_skip (J_region (Jm rfl (Js rfl (step_add Sr Sr z6) (Ja rfl (JL_nil ?_)))))
   refine K_againL (σ := Nat) (s := k) (k + 1) zO ?_ (.u (.u (.u (.u (.u (.u (SubE.upd Sr SubE.any))))))) (LSub.rfl)
   refine ⟨hkt, fun t ht => ?_⟩
   by_cases e : t = k
   ·
    subst e
    rcases h73 with h73 | h73
    ·
     have : t = i := by omega
     simp [this]
    simp [h73]
   exact hw2 t zG
  try simp only [NF] at h59
  refine J_exit (J_region (Jm rfl (Js rfl (step_add Sr Sr z6) (Ja rfl (JL_nil ?_)))))
  refine K_againL (σ := Nat) (s := i) (i + 1) zO ?_ (.u (SubE.upd Sr SubE.any)) (LSub.rfl)
  refine ⟨hlt, fun t ht => ?_⟩
  by_cases e : t = i
  ·
   subst e
   exact edgeR_t h54 (rall_take hw2 zG)
  exact hv t zG
 try simp only [NF] at h22
 refine J_exit (Jr (Ja rfl (JL_nil (J_ret ?_))))
 refine K_ret1 (t := 2) rfl () ?_
 refine Sub.bool ?_
 have h2 := rall_take (n := g.Edges.length) hv zG
 unfold validR; rw [h2, h17.1, decide_eq_true zG]; rfl
open Go Go.Proofs Go.Proofs.Tryz
theorem isSet_of {l : List Int} {n : Int} (h : Inc l) (hb : ∀ x ∈ l, 0 ≤ x ∧ x < n) : isSetM l n = true := by
  unfold isSetM
  refine rall_t fun i hi => ?_
  have h1 := hb _ (nth_mem hi)
  rw [decide_eq_true h1.1, decide_eq_true h1.2]
  by_cases e : i = 0
  · rw [decide_eq_true e]; rfl
  · rw [decide_eq_true (p := nth l (i - 1) < nth l i) (inc_nth h (by omega) hi)]; simp
theorem verts_iff {l : List Int} {n : Int} (hne : l.length ≠ 0) : vertsR l n = true ↔ isSetM l n = true := by
  unfold vertsR
  constructor
  · intro h
    rw [Bool.and_eq_true, decide_eq_true_eq, decide_eq_false hne, Bool.false_or, Bool.and_eq_true, decide_eq_true_eq, decide_eq_true_eq] at h
    obtain ⟨h1, h2, h3⟩ := h
    refine isSet_of h1 fun x hx => ?_
    obtain ⟨t, ht, rfl⟩ := List.getElem_of_mem hx
    rw [← nth_get ht]
    have a1 : nth l 0 ≤ nth l t := by
      by_cases e : t = 0
      · subst e; exact Int.le_refl _
      · have := inc_nth h1 (i := 0) (j := t) (by omega) ht; omega
    have a2 : nth l t ≤ nth l (l.length - 1) := by
      by_cases e : t = l.length - 1
      · rw [← e]; exact Int.le_refl _
      · have := inc_nth h1 (i := t) (j := l.length - 1) (by omega) (by omega); omega
    omega
  · intro h
    obtain ⟨h1, h2⟩ := isSet_ok h
    rw [decide_eq_true h1, decide_eq_true (h2 _ (nth_mem (show 0 < l.length by omega))).1, decide_eq_true (h2 _ (nth_mem (show l.length - 1 < l.length by omega))).2]; simp
theorem lex_adj {es : LL} (h : ∀ t, 1 ≤ t → t < es.length → cmpL (nth es (t - 1)) (nth es t) < 0) : es.Pairwise fun x y => cmpL x y < 0 := by
  refine List.pairwise_iff_getElem.2 fun i j hi hj hij => ?_
  rw [← nth_get hi, ← nth_get hj]
  induction j with
  | zero => omega
  | succ j ih =>
    have h2 := h (j + 1) (by omega) hj
    simp only [Nat.add_sub_cancel] at h2
    by_cases e : i = j
    · subst e; exact h2
    · exact cmpL_trans (ih (by omega) (by omega)) h2
theorem sub_bool {f e : List Int} (hf : Inc f) (he : Inc e) : f.isSublist e = subL f e := by
  rw [Bool.eq_iff_iff, List.isSublist_iff_sublist]
  exact ⟨fun h => subL_iff.2 fun x hx => h.subset hx, inc_sub hf he⟩
open Classical in
theorem valid_ref {g : GGraph} (hl : g.Edges.length ≤ 20000) : validR g = validG g := by
  unfold validR validG validG1
  rw [decide_eq_true hl, Bool.and_true, Bool.and_assoc]
  congr 1
  rw [Bool.eq_iff_iff, Bool.and_eq_true, decide_eq_true_eq]
  constructor
  · intro h
    have hE : ∀ i, i < g.Edges.length → edgeR g.Edges g.N i = true := fun i hi => rall_iff.1 h i hi
    have hS : ∀ i, i < g.Edges.length → (nth g.Edges i).length ≠ 0 ∧ isSetM (nth g.Edges i) g.N = true := fun i hi => by
      have := hE i hi
      unfold edgeR at this
      simp only [Bool.and_eq_true, Bool.not_eq_true', decide_eq_false_iff_not] at this
      exact ⟨this.1.1.1, (verts_iff this.1.1.1).1 this.1.1.2⟩
    refine ⟨rall_t fun i hi => ?_, lex_adj fun t h1 h2 => ?_, List.pairwise_iff_getElem.2 fun i j hi hj hij => ?_⟩
    · rw [decide_eq_false (hS i hi).1, (hS i hi).2]; rfl
    · have := hE t h2
      unfold edgeR less2 at this
      simp only [Bool.and_eq_true, Bool.or_eq_true, decide_eq_true_eq] at this
      rcases this.1.2 with h3 | h3
      · omega
      · exact h3
    · rw [← nth_get hi, ← nth_get hj]
      have hi1 := (isSet_ok (hS i hi).2).1
      have hj1 := (isSet_ok (hS j hj).2).1
      have key : ∀ a b, a < g.Edges.length → b < g.Edges.length → a ≠ b → (nth g.Edges a).isSublist (nth g.Edges b) = false := fun a b ha hb hne => by
        have := hE b hb
        unfold edgeR at this
        rw [Bool.and_eq_true] at this
        have := rall_iff.1 this.2 a ha
        rw [decide_eq_false hne, Bool.false_or] at this
        simpa using this
      exact ⟨by rw [← sub_bool hi1 hj1]; exact key i j hi hj (by omega), by rw [← sub_bool hj1 hi1]; exact key j i hj hi (by omega)⟩
  · rintro ⟨h1, h2, h3⟩
    have hS : ∀ i, i < g.Edges.length → (nth g.Edges i).length ≠ 0 ∧ isSetM (nth g.Edges i) g.N = true := fun i hi => by
      have := rall_iff.1 h1 i hi
      simpa using this
    refine rall_t fun i hi => ?_
    unfold edgeR less2
    rw [decide_eq_false (hS i hi).1, (verts_iff (hS i hi).1).2 (hS i hi).2]
    have hlex : (decide (i = 0) || decide (cmpL (nth g.Edges (i - 1)) (nth g.Edges i) < 0)) = true := by
      by_cases e : i = 0
      · rw [decide_eq_true e]; rfl
      · have := List.pairwise_iff_getElem.1 h2 (i - 1) i (by omega) hi (by omega)
        rw [← nth_get (by omega), ← nth_get hi] at this
        rw [decide_eq_true this, Bool.or_true]
    rw [hlex]
    simp only [Bool.not_false, Bool.true_and]
    refine rall_t fun k hk => ?_
    by_cases e : k = i
    · rw [decide_eq_true e]; rfl
    · have hi1 := (isSet_ok (hS i hi).2).1
      have hk1 := (isSet_ok (hS k hk).2).1
      rw [sub_bool hk1 hi1, decide_eq_false e, Bool.false_or]
      rcases Nat.lt_or_gt_of_ne e with h | h
      · have := (List.pairwise_iff_getElem.1 h3 k i hk hi h).1
        rw [← nth_get hk, ← nth_get hi] at this
        rw [this]; rfl
      · have := (List.pairwise_iff_getElem.1 h3 i k hi hk h).2
        rw [← nth_get hk, ← nth_get hi] at this
        rw [this]; rfl
open Go Go.Proofs Go.Proofs.Tryz
def vvalR (v : GValue) : Bool :=
  if v.Kind = 0 then decide (v.N = 0) && decide (v.Text = ⟨#[]⟩)
  else if v.Kind = 1 then decide (v.N = 0) && decide ((v.Text.size : Int) ≤ 200)
  else if v.Kind = 2 then (decide (v.N ≥ -1000000000) && decide (v.N ≤ 1000000000)) && decide (v.Text = ⟨#[]⟩)
  else if v.Kind = 3 then (decide (v.N ≥ 0) && decide (v.N ≤ 73048)) && decide (v.Text = ⟨#[]⟩)
  else if v.Kind = 4 then (decide (v.N = 0) || decide (v.N = 1)) && decide (v.Text = ⟨#[]⟩)
  else false
theorem vvalR_eq (v : GValue) : vvalR v = validV v := by
  unfold vvalR validV
  by_cases ht : v.Text = ⟨#[]⟩
  · have hs : v.Text.size = 0 := by rw [ht]; rfl
    have h1 : ¬ (v.Kind ≠ 1 ∧ v.Text ≠ ⟨#[]⟩) := fun q => q.2 ht
    have h2 : ¬ ((200 : Int) < (v.Text.size : Int)) := by omega
    rw [if_neg h1, if_neg h2]
    simp only [show decide (v.Text = ⟨#[]⟩) = true from decide_eq_true ht, Bool.and_true]
    rw [Bool.eq_iff_iff]
    (repeat' split) <;> simp <;> omega
  · by_cases hk : v.Kind = 1
    · have h1 : ¬ (v.Kind ≠ 1 ∧ v.Text ≠ ⟨#[]⟩) := fun q => q.1 hk
      rw [if_neg h1]
      simp only [hk]
      by_cases h2 : (200 : Int) < (v.Text.size : Int)
      · simp [h2] <;> omega
      · rw [Bool.eq_iff_iff]; simp [h2] <;> omega
    · rw [if_pos (⟨hk, ht⟩ : v.Kind ≠ 1 ∧ v.Text ≠ ⟨#[]⟩)]
      simp [ht, hk]
def testR (a : GValue) (op : Int) (b : GValue) (add : Int) : Bool :=
  if validV a = false ∨ validV b = false ∨ a.Kind ≠ b.Kind ∨ a.Kind = 0 then false
  else if add ≠ 0 ∧ a.Kind ≠ 2 ∧ a.Kind ≠ 3 then false
  else opHolds op (if a.Kind = 1 then cmpV a b else ordI (a.N - b.N) add)
theorem valid_kindR {v : GValue} (h : validV v = true) : 0 ≤ v.Kind ∧ v.Kind ≤ 4 ∧ (v.Kind ≠ 1 → v.Text = ⟨#[]⟩) := by
  rw [← vvalR_eq] at h
  unfold vvalR at h
  repeat' split at h
  all_goals simp at h
  all_goals refine ⟨by omega, by omega, fun _ => ?_⟩
  all_goals first | (exact h.2) | (exfalso; omega)
theorem testR_eq (a : GValue) (op : Int) (b : GValue) (add : Int) : testR a op b add = testV a op b add := by
  unfold testR testV
  by_cases h1 : validV a = false ∨ validV b = false ∨ a.Kind ≠ b.Kind
  · rw [if_pos h1, if_pos (by rcases h1 with h | h | h <;> simp [h])]
  · have hva : validV a = true := by simp only [not_or] at h1; simpa using h1.1
    have hvb : validV b = true := by simp only [not_or] at h1; simpa using h1.2.1
    have hk : a.Kind = b.Kind := Classical.byContradiction fun q => h1 (.inr (.inr q))
    obtain ⟨k1, k2, k3⟩ := valid_kindR hva
    obtain ⟨_, _, k4⟩ := valid_kindR hvb
    rw [if_neg h1]
    by_cases h0 : a.Kind = 0
    · rw [if_pos (by simp [h0])]
      simp [h0]
    · rw [if_neg (by simp only [not_or]; exact ⟨by simp [hva], by simp [hvb], fun q => q hk, h0⟩)]
      by_cases h23 : a.Kind = 2 ∨ a.Kind = 3
      · rw [if_pos h23, if_neg (by rintro ⟨_, q2, q3⟩; rcases h23 with q | q; exact q2 q; exact q3 q), if_neg (by omega)]
      · have h14 : a.Kind = 1 ∨ a.Kind = 4 := by omega
        rw [if_neg h23, if_pos h14]
        by_cases ha : add = 0
        · subst ha
          rw [if_neg (show ¬ ((0 : Int) ≠ 0 ∧ a.Kind ≠ 2 ∧ a.Kind ≠ 3) from fun q => q.1 rfl), if_neg (show ¬ ((0 : Int) ≠ 0) from fun q => q rfl)]
          rcases h14 with h | h
          · rw [if_pos h]
          · rw [if_neg (by omega)]
            have e1 := k3 (by omega)
            have e2 := k4 (by omega)
            have : cmpV a b = ordI (a.N - b.N) 0 := by
              unfold cmpV
              rw [if_neg (by rw [hk]; simp [ordI])]
              have hs : ordS a.Text b.Text = 0 := by rw [e1, e2]; decide +kernel
              rw [hs]
              unfold ordI
              (repeat' split) <;> omega
            rw [this]
        · rw [if_pos ⟨ha, by omega, by omega⟩, if_pos ha]
theorem rsign_spec (a b : Int) : Fun1 prog 170 [tV (.int .i64 a), tV (.int .i64 b)] (tV (.int .i64 (ordI a b))) := by
 refine Spec.enter func170 rfl rfl fun h0 w0 fr0 => ?_
 refine Jr (Ja rfl (JL_nil (J_seq (Jr (Jm rfl ?_)))))
 refine Jm rfl (Js rfl (step_lss Sr Sr) (JL_nil ?_))
 refine J_cond Sr (fun hc1 => ?_) (fun hc1 => ?_)
 ·
  try simp only [NF] at hc1
  refine Jr (Ja rfl (JL_nil (J_ret ?_)))
  refine K_retv (rv := .tmp 4) rfl () (.tmp Sr) (Sub.int ?_)
  simp [ordI, hc1]
 try simp only [NF] at hc1
 refine J_skip (J_seq (Jr (Jm rfl (Jm rfl (Js rfl (step_gtr Sr Sr) ?_)))))
 refine JL_nil ?_
 refine J_cond Sr (fun hc2 => ?_) (fun hc2 => ?_)
 ·
  try simp only [NF] at hc2
  refine Jr (Ja rfl (JL_nil (J_ret ?_)))
  refine K_retv (rv := .tmp 4) rfl () (.tmp Sr) (Sub.int ?_)
  have : ¬ a < b := by omega
  simp [ordI, this]; omega
 try simp only [NF] at hc2
 refine J_skip (Jr (Ja rfl (JL_nil (J_ret ?_))))
 refine K_retv (rv := .tmp 4) rfl () (.tmp Sr) (Sub.int ?_)
 have h1 : ¬ a < b := by omega
 have h2 : ¬ b < a := by omega
 simp [ordI, h1, h2]
theorem CompareR_spec (a b : GValue) : Fun1 prog 171 [rValue.ty a, rValue.ty b] (tV (.int .i64 (cmpV a b))) := by
 refine Spec.enter func171 rfl rfl fun h0 w0 fr0 => ?_
 refine Jr (Js rfl (step_box (R := rValue) Sr) (Js rfl (step_box (R := rValue) Sr) (Ja rfl (JL_nil (J_seq ?_)))))
 refine Jr (Js rfl (step_fieldAddr so58 Sr rfl) (Jl rfl ty3 Sr (Js rfl (step_fieldAddr so58 Sr rfl) (Jl rfl ty3 Sr (Js rfl (step_neq Sr Sr) ?_)))))
 refine JL_nil ?_
 refine J_cond Sr (fun h9 => ?_) (fun h9 => ?_)
 ·
  try simp only [NF] at h9
  refine Jr (Js rfl (step_fieldAddr so58 Sr rfl) (Jl rfl ty3 Sr (Js rfl (step_fieldAddr so58 Sr rfl) (Jl rfl ty3 Sr (Js rfl (step_call0 (rsign_spec _ _) ⟨Sr, Sr, trivial⟩ call170) ?_)))))
  refine Ja rfl (JL_nil (J_ret ?_))
  refine K_retv (rv := .tmp 4) rfl () (.tmp Sr) (Sub.int ?_)
  have : ordI a.Kind b.Kind ≠ 0 := fun e => h9 (ordI_zero.1 e)
  simp [cmpV, this]
 try simp only [NF] at h9
 refine J_skip (J_seq (Jr (Js rfl (step_fieldAddr so58 Sr rfl) (Jl rfl ty3 Sr (Js rfl (step_fieldAddr so58 Sr rfl) ?_)))))
 refine Jl rfl ty3 Sr (Js rfl (step_neq Sr Sr) (JL_nil ?_))
 refine J_cond Sr (fun h19 => ?_) (fun h19 => ?_)
 ·
  try simp only [NF] at h19
  refine Jr (Js rfl (step_fieldAddr so58 Sr rfl) (Jl rfl ty3 Sr (Js rfl (step_fieldAddr so58 Sr rfl) (Jl rfl ty3 Sr (Js rfl (step_call0 (rsign_spec _ _) ⟨Sr, Sr, trivial⟩ call170) ?_)))))
  refine Ja rfl (JL_nil (J_ret ?_))
  refine K_retv (rv := .tmp 4) rfl () (.tmp Sr) (Sub.int ?_)
  have h1 : ordI a.Kind b.Kind = 0 := ordI_zero.2 (by simpa using h9)
  have h2 : ordI a.N b.N ≠ 0 := fun e => h19 (ordI_zero.1 e)
  simp [cmpV, h1, h2]
 try simp only [NF] at h19
 refine J_skip (J_seq (Jr (Js rfl (step_fieldAddr so58 Sr rfl) (Jl rfl ty9 Sr (Js rfl (step_fieldAddr so58 Sr rfl) ?_)))))
 refine Jl rfl ty9 Sr (Js rfl (step_lss_str Sr Sr) (JL_nil ?_))
 refine J_cond Sr (fun h29 => ?_) (fun h29 => ?_)
 ·
  try simp only [NF] at h29
  refine Jr (Ja rfl (JL_nil (J_ret ?_)))
  refine K_retv (rv := .tmp 4) rfl () (.tmp Sr) (Sub.int ?_)
  have h1 : ordI a.Kind b.Kind = 0 := ordI_zero.2 (by simpa using h9)
  have h2 : ordI a.N b.N = 0 := ordI_zero.2 (by simpa using h19)
  simp only [cmpV, h1, h2, ordS]; simp_all
 try simp only [NF] at h29
 refine J_skip (J_seq (Jr (Js rfl (step_fieldAddr so58 Sr rfl) (Jl rfl ty9 Sr (Js rfl (step_fieldAddr so58 Sr rfl) ?_)))))
 refine Jl rfl ty9 Sr (Js rfl (step_gtr_str Sr Sr) (JL_nil ?_))
 refine J_cond Sr (fun h34 => ?_) (fun h34 => ?_)
 ·
  try simp only [NF] at h34
  refine Jr (Ja rfl (JL_nil (J_ret ?_)))
  refine K_retv (rv := .tmp 4) rfl () (.tmp Sr) (Sub.int ?_)
  have h1 : ordI a.Kind b.Kind = 0 := ordI_zero.2 (by simpa using h9)
  have h2 : ordI a.N b.N = 0 := ordI_zero.2 (by simpa using h19)
  simp only [cmpV, h1, h2, ordS]; simp_all
 try simp only [NF] at h34
 refine J_skip (Jr (Ja rfl (JL_nil (J_ret ?_))))
 refine K_retv (rv := .tmp 4) rfl () (.tmp Sr) (Sub.int ?_)
 have h1 : ordI a.Kind b.Kind = 0 := ordI_zero.2 (by simpa using h9)
 have h2 : ordI a.N b.N = 0 := ordI_zero.2 (by simpa using h19)
 simp only [cmpV, h1, h2, ordS]; simp_all
theorem TestR_spec (a b : GValue) (op add : Int) : Fun1 prog 146 [rValue.ty a, tV (.int .i64 op), rValue.ty b, tV (.int .i64 add)] (tV (.bool (testV a op b add))) := by
 refine Spec.enter func146 rfl rfl fun h0 w0 fr0 => ?_
 refine Jr (Js rfl (step_box (R := rValue) Sr) (Js rfl (step_box (R := rValue) Sr) (Ja rfl (JL_nil (J_seq ?_)))))
 refine Jr (Jl rfl ty58 Sr (Js rfl (step_call0 (refValidV_spec _) ⟨Sr, trivial⟩ call62) (Js rfl (step_not Sr) (Jm rfl (Jg rfl Sr rfl (fun hw => step_load_ptr ty58 Sr) ?_)))))
 refine Jg rfl Sr rfl (fun hw => step_call0 (refValidV_spec _) ⟨(Sub.w hw), trivial⟩ call62) (Jg rfl Sr rfl (fun hw => step_not (Sub.w hw)) (Js rfl (step_pick_or Sr Sr) (Jm rfl (Jg rfl Sr rfl (fun hw => step_fieldAddr so58 Sr rfl) (Jg rfl Sr rfl (fun hw => step_load_ptr ty3 (Sub.w hw)) ?_)))))
 refine Jg rfl Sr rfl (fun hw => step_fieldAddr so58 Sr rfl) (Jg rfl Sr rfl (fun hw => step_load_ptr ty3 (Sub.w hw)) (Jg rfl Sr rfl (fun hw => step_neq (Sub.w hw) (Sub.w hw)) (Js rfl (step_pick_or Sr Sr) (Jm rfl (Jg rfl Sr rfl (fun hw => step_fieldAddr so58 Sr rfl) ?_)))))
 refine Jg rfl Sr rfl (fun hw => step_load_ptr ty3 (Sub.w hw)) (Jg rfl Sr rfl (fun hw => step_eql (Sub.w hw) Sr) (Js rfl (step_pick_or Sr Sr) (JL_nil ?_)))
 refine J_cond Sr (fun h29 => ?_) (fun h29 => ?_)
 ·
  try simp only [NF] at h29
  refine Jr (Ja rfl (JL_nil (J_ret ?_)))
  refine K_retv (rv := .tmp 8) rfl () (.tmp Sr) (Sub.bool ?_)
  rw [← testR_eq]
  have : validV a = false ∨ validV b = false ∨ a.Kind ≠ b.Kind ∨ a.Kind = 0 := by simp_all [or_assoc]
  rw [testR, if_pos this]
 try simp only [NF] at h29
 have hva : validV a = true := by simp_all
 have hvb : validV b = true := by simp_all
 have hn1 : ¬ (validV a = false ∨ validV b = false ∨ a.Kind ≠ b.Kind ∨ a.Kind = 0) := by rintro (q | q | q | q) <;> simp_all
 refine J_skip (J_seq (Jr (Jm rfl (Js rfl (step_neq Sr Sr) (Jm rfl ?_)))))
 refine Jg rfl Sr rfl (fun hw => step_fieldAddr so58 Sr rfl) (Jg rfl Sr rfl (fun hw => step_load_ptr ty3 (Sub.w hw)) (Jg rfl Sr rfl (fun hw => step_neq (Sub.w hw) Sr) (Js rfl (step_pick_and Sr Sr) (Jm rfl (Jg rfl Sr rfl (fun hw => step_fieldAddr so58 Sr rfl) ?_)))))
 refine Jg rfl Sr rfl (fun hw => step_load_ptr ty3 (Sub.w hw)) (Jg rfl Sr rfl (fun hw => step_neq (Sub.w hw) Sr) (Js rfl (step_pick_and Sr Sr) (JL_nil ?_)))
 refine J_cond Sr (fun h41 => ?_) (fun h41 => ?_)
 ·
  try simp only [NF] at h41
  refine Jr (Ja rfl (JL_nil (J_ret ?_)))
  refine K_retv (rv := .tmp 8) rfl () (.tmp Sr) (Sub.bool ?_)
  rw [← testR_eq, testR, if_neg hn1, if_pos (by simp_all)]
 try simp only [NF] at h41
 have hn2 : ¬ (add ≠ 0 ∧ a.Kind ≠ 2 ∧ a.Kind ≠ 3) := by rintro ⟨q1, q2, q3⟩; simp_all
 refine J_skip (Jr (Js rfl (step_fieldAddr so58 Sr rfl) (Jl rfl ty3 Sr (Js rfl (step_fieldAddr so58 Sr rfl) (Jl rfl ty3 Sr ?_)))))
 refine Js rfl (step_sub Sr Sr (in64_sub hva hvb)) (Jm rfl (Js rfl (step_call0 (rsign_spec _ _) ⟨Sr, Sr, trivial⟩ call170) (Ja rfl (JL_nil (J_seq ?_)))))
 refine Jr (Js rfl (step_fieldAddr so58 Sr rfl) (Jl rfl ty3 Sr (Js rfl (step_eql Sr Sr) (JL_nil ?_))))
 refine J_cond Sr (fun h51 => ?_) (fun h51 => ?_)
 ·
  try simp only [NF] at h51
  refine J_region (Jl rfl ty58 Sr (Jl rfl ty58 Sr (Js rfl (step_call0 (CompareR_spec _ _) ⟨Sr, Sr, trivial⟩ call171) (Ja rfl (JL_nil ?_)))))
  refine J_seq (Jr (Jm rfl (JL_nil (J_block (Jr ?_)))))
  refine Js rfl (step_eql Sr Sr) (Ja rfl (JL_nil ?_))
  refine J_cond Sr (fun hc4 => ?_) (fun hc4 => ?_)
  ·
   try simp only [NF] at hc4
   refine Jr (Jm rfl (Js rfl (step_eql Sr Sr) (Ja rfl (JL_nil (J_ret ?_)))))
   refine K_retv (rv := .tmp 8) rfl () (.tmp Sr) (Sub.bool ?_)
   rw [← testR_eq]
   simp only [testR, if_neg hn1, if_neg hn2, opHolds]; simp_all
  try simp only [NF] at hc4
  refine Jr (Js rfl (step_eql Sr Sr) (Ja rfl (JL_nil ?_)))
  refine J_cond Sr (fun hc5 => ?_) (fun hc5 => ?_)
  ·
   try simp only [NF] at hc5
   refine Jr (Jm rfl (Js rfl (step_neq Sr Sr) (Ja rfl (JL_nil (J_ret ?_)))))
   refine K_retv (rv := .tmp 8) rfl () (.tmp Sr) (Sub.bool ?_)
   rw [← testR_eq]
   simp only [testR, if_neg hn1, if_neg hn2, opHolds]; simp_all
  try simp only [NF] at hc5
  refine Jr (Js rfl (step_eql Sr Sr) (Ja rfl (JL_nil ?_)))
  refine J_cond Sr (fun hc6 => ?_) (fun hc6 => ?_)
  ·
   try simp only [NF] at hc6
   refine Jr (Jm rfl (Js rfl (step_lss Sr Sr) (Ja rfl (JL_nil (J_ret ?_)))))
   refine K_retv (rv := .tmp 8) rfl () (.tmp Sr) (Sub.bool ?_)
   rw [← testR_eq]
   simp only [testR, if_neg hn1, if_neg hn2, opHolds]; simp_all
  try simp only [NF] at hc6
  refine Jr (Js rfl (step_eql Sr Sr) (Ja rfl (JL_nil ?_)))
  refine J_cond Sr (fun hc7 => ?_) (fun hc7 => ?_)
  ·
   try simp only [NF] at hc7
   refine Jr (Jm rfl (Js rfl (step_leq Sr Sr) (Ja rfl (JL_nil (J_ret ?_)))))
   refine K_retv (rv := .tmp 8) rfl () (.tmp Sr) (Sub.bool ?_)
   rw [← testR_eq]
   simp only [testR, if_neg hn1, if_neg hn2, opHolds]; simp_all
  try simp only [NF] at hc7
  refine J_skip (Jr (Ja rfl (JL_nil (J_ret ?_))))
  refine K_retv (rv := .tmp 8) rfl () (.tmp Sr) (Sub.bool ?_)
  rw [← testR_eq]
  simp only [testR, if_neg hn1, if_neg hn2, opHolds]; simp_all
 try simp only [NF] at h51
 refine J_skip (J_seq (Jr (Jm rfl (JL_nil (J_block ?_)))))
 refine Jr (Js rfl (step_eql Sr Sr) (Ja rfl (JL_nil ?_)))
 refine J_cond Sr (fun hc8 => ?_) (fun hc8 => ?_)
 ·
  try simp only [NF] at hc8
  refine Jr (Jm rfl (Js rfl (step_eql Sr Sr) (Ja rfl (JL_nil (J_ret ?_)))))
  refine K_retv (rv := .tmp 8) rfl () (.tmp Sr) (Sub.bool ?_)
  rw [← testR_eq]
  simp only [testR, if_neg hn1, if_neg hn2, opHolds]; simp_all
 try simp only [NF] at hc8
 refine Jr (Js rfl (step_eql Sr Sr) (Ja rfl (JL_nil ?_)))
 refine J_cond Sr (fun hc9 => ?_) (fun hc9 => ?_)
 ·
  try simp only [NF] at hc9
  refine Jr (Jm rfl (Js rfl (step_neq Sr Sr) (Ja rfl (JL_nil (J_ret ?_)))))
  refine K_retv (rv := .tmp 8) rfl () (.tmp Sr) (Sub.bool ?_)
  rw [← testR_eq]
  simp only [testR, if_neg hn1, if_neg hn2, opHolds]; simp_all
 try simp only [NF] at hc9
 refine Jr (Js rfl (step_eql Sr Sr) (Ja rfl (JL_nil ?_)))
 refine J_cond Sr (fun hc10 => ?_) (fun hc10 => ?_)
 ·
  try simp only [NF] at hc10
  refine Jr (Jm rfl (Js rfl (step_lss Sr Sr) (Ja rfl (JL_nil (J_ret ?_)))))
  refine K_retv (rv := .tmp 8) rfl () (.tmp Sr) (Sub.bool ?_)
  rw [← testR_eq]
  simp only [testR, if_neg hn1, if_neg hn2, opHolds]; simp_all
 try simp only [NF] at hc10
 refine Jr (Js rfl (step_eql Sr Sr) (Ja rfl (JL_nil ?_)))
 refine J_cond Sr (fun hc11 => ?_) (fun hc11 => ?_)
 ·
  try simp only [NF] at hc11
  refine Jr (Jm rfl (Js rfl (step_leq Sr Sr) (Ja rfl (JL_nil (J_ret ?_)))))
  refine K_retv (rv := .tmp 8) rfl () (.tmp Sr) (Sub.bool ?_)
  rw [← testR_eq]
  simp only [testR, if_neg hn1, if_neg hn2, opHolds]; simp_all
 try simp only [NF] at hc11
 refine J_skip (Jr (Ja rfl (JL_nil (J_ret ?_))))
 refine K_retv (rv := .tmp 8) rfl () (.tmp Sr) (Sub.bool ?_)
 rw [← testR_eq]
 simp only [testR, if_neg hn1, if_neg hn2, opHolds]; simp_all
theorem rAgree_spec (a b : GValue) : Fun1 prog 118 [rValue.ty a, rValue.ty b] (tV (.bool (testV a 1 b 0))) := by
 refine Spec.enter func118 rfl rfl fun h0 w0 fr0 => ?_
 refine Jr (Js rfl (step_box (R := rValue) Sr) (Js rfl (step_box (R := rValue) Sr) (Ja rfl (JL_nil (Jr ?_)))))
 refine Jl rfl ty58 Sr (Jl rfl ty58 Sr (Js rfl (step_call0 (TestR_spec _ _ _ _) ⟨Sr, Sr, Sr, Sr, trivial⟩ call146) (Ja rfl (JL_nil (J_ret ?_)))))
 exact K_ret1 (t := 4) rfl () Sr
/-- The facts with some numbers fit the first atoms. -/
structure MatH (q : GConj) (facts : List GFact) (ats : List Int) : Prop where
  fit : fitM q facts = true
  le : ats.length ≤ q.Atoms.length
  ix : ∀ i, i < ats.length → 0 ≤ nth ats i ∧ nth ats i < facts.length ∧ (nth facts (nth ats i).toNat).Table = (nth q.Atoms i).Table
abbrev fctA (facts : List GFact) (ats : List Int) (i : Nat) : GFact := nth facts (nth ats i).toNat
abbrev vl (q : GConj) (facts : List GFact) (ats : List Int) (i k : Nat) : GValue := valAt (nth q.Atoms i) (fctA facts ats i) k
structure AtF (q : GConj) (facts : List GFact) (ats : List Int) (i : Nat) : Prop where
  ia : i < q.Atoms.length
  fa : (nth ats i).toNat < facts.length
  cl : (nth q.Atoms i).Cols.length ≤ 12
  tl : (nth q.Atoms i).Terms.length = (nth q.Atoms i).Cols.length
  col : ∀ k, k < (nth q.Atoms i).Terms.length → 0 ≤ nth (nth q.Atoms i).Cols k ∧ (nth (nth q.Atoms i).Cols k).toNat < (fctA facts ats i).Row.length
  tm : ∀ k, k < (nth q.Atoms i).Terms.length → -(q.Consts.length : Int) ≤ nth (nth q.Atoms i).Terms k
  up : ∀ k, k < (nth q.Atoms i).Terms.length → nth (nth q.Atoms i).Terms k < q.Vars
theorem MatH.at {q : GConj} {facts : List GFact} {ats : List Int} (h : MatH q facts ats) {i : Nat} (hi : i < ats.length) : AtF q facts ats i := by
  have hia : i < q.Atoms.length := Nat.lt_of_lt_of_le hi h.le
  obtain ⟨h1, h2, h3⟩ := h.ix i hi
  have hf : (nth ats i).toNat < facts.length := by omega
  have ha := atom_ok (fit_valid h.fit) hia
  have hF := fit_fact h.fit (nth_mem hf) hia h3
  exact ⟨hia, hf, ha.cl, ha.tl, fun k hk => by have := hF k (by rw [← ha.tl]; exact hk); exact ⟨this.1, by show (nth (nth q.Atoms i).Cols k).toNat < (nth facts (nth ats i).toNat).Row.length; omega⟩, fun k hk => ha.tm k (by rw [← ha.tl]; exact hk), fun k hk => ((valid_cols (fit_valid h.fit) (nth_mem hia)).2.2.2.2 k (by rw [← ha.tl]; exact hk)).2.1⟩
def Mn (q : GConj) (facts : List GFact) (ats : List Int) (i k m n : Nat) : Prop := (m ≠ i ∨ n ≠ k) → (nth (nth q.Atoms m).Terms n = nth (nth q.Atoms i).Terms k) → testV (vl q facts ats i k) 1 (vl q facts ats m n) 0 = true
def Mm (q : GConj) (facts : List GFact) (ats : List Int) (i k m : Nat) : Prop := ∀ n, n < (nth q.Atoms m).Terms.length → Mn q facts ats i k m n
def Mk (q : GConj) (facts : List GFact) (ats : List Int) (i k : Nat) : Prop := (nth (nth q.Atoms i).Terms k < 0 → testV (vl q facts ats i k) 1 (nth q.Consts (-1 - nth (nth q.Atoms i).Terms k).toNat) 0 = true) ∧ (0 ≤ nth (nth q.Atoms i).Terms k → ∀ m, m < ats.length → Mm q facts ats i k m)
def Mi (q : GConj) (facts : List GFact) (ats : List Int) (i : Nat) : Prop := ∀ k, k < (nth q.Atoms i).Terms.length → Mk q facts ats i k
open Classical in
/-- The facts agree. -/
noncomputable def matB (q : GConj) (facts : List GFact) (ats : List Int) : Bool := decide (∀ i, i < ats.length → Mi q facts ats i)
open Classical in
theorem matB_no {q : GConj} {facts : List GFact} {ats : List Int} {i : Nat} (hi : i < ats.length) (h : ¬ Mi q facts ats i) : matB q facts ats = false := by
  unfold matB; rw [decide_eq_false_iff_not]; exact fun q => h (q i hi)
open Classical in
theorem matB_yes {q : GConj} {facts : List GFact} {ats : List Int} (h : ∀ i, i < ats.length → Mi q facts ats i) : matB q facts ats = true := by
  unfold matB; rw [decide_eq_true_eq]; exact h
set_option maxHeartbeats 4000000 in
theorem matched_spec (q : GConj) (facts : List GFact) (ats : List Int) (h : MatH q facts ats) (hl : ats.length ≤ 1000) (hfl : facts.length ≤ 1000000) : Fun1 prog 80 [rConj.ty q, tSl rFact facts, tSl rInt ats] (tV (.bool (matB q facts ats))) := by
 refine Spec.enter func80 rfl rfl fun h0 w0 fr0 => ?_
 refine Jr (Js rfl (step_box (R := rConj) Sr) (Ja rfl (JL_nil (J_seq (Jr ?_)))))
 refine Ja rfl (JL_nil (J_block ?_))
 refine J_loopL (σ := Nat) (fun i => i ≤ ats.length ∧ ∀ j, j < i → Mi q facts ats j) (fun i => upd (upd (upd (upd env0 1 (tSl rFact facts)) 2 (tSl rInt ats)) 3 (tPtr rConj q)) 7 (tV (.int .i64 i))) (fun i => []) (fun i => ats.length - i) 0 ⟨Nat.zero_le _, fun j hj => absurd hj (Nat.not_lt_zero _)⟩ (.u (.u (.u (SubE.upd Sr SubE.any)))) (LSub.rfl) ?_
 rintro i ⟨hi, hi2⟩
 refine J_seq (Jr (Jm rfl (Jm rfl (Js rfl (step_len_sl underlying27 Sr) (Js rfl (step_lss Sr Sr) ?_)))))
 refine JL_nil ?_
 refine J_cond Sr (fun h17 => ?_) (fun h17 => ?_)
 ·
  try simp only [NF] at h17
  have hlt : i < ats.length := by omega
  have hai := h.at hlt
  have hcl := hai.cl
  have htl := hai.tl
  refine J_skip (J_seq (J_block (Jr (Ja rfl (JL_nil ?_)))))
  refine J_block ?_
  refine J_loopL (σ := Nat) (fun k => k ≤ (nth q.Atoms i).Terms.length ∧ ∀ j, j < k → Mk q facts ats i j) (fun k => upd (upd (upd (upd (upd (upd (upd env0 1 (tSl rFact facts)) 2 (tSl rInt ats)) 3 (tPtr rConj q)) 7 (tV (.int .i64 i))) 8 (tV (.int .i64 k))) 14 (tV (.int .i64 i))) 15 (tSl rInt ats)) (fun k => []) (fun k => (nth q.Atoms i).Terms.length - k) 0 ⟨Nat.zero_le _, fun j hj => absurd hj (Nat.not_lt_zero _)⟩ (.u (.u (.u (.u (.u (.u (SubE.upd Sr SubE.any))))))) (LSub.rfl) ?_
  rintro k ⟨hk, hk2⟩
  refine J_seq (Jr (Jm rfl (Js rfl (step_fieldAddr so25 Sr rfl) (Jl rfl ty23 Sr (Jm rfl ?_)))))
  refine Js rfl (step_indexAddr_sl (i := i) underlying23 ty47 Sr Sr (by rfl) (gb (by show i < q.Atoms.length; exact hai.ia))) ?_
  refine Js rfl (step_fieldAddr so47 Sr rfl) (Jl rfl ty27 Sr (Js rfl (step_len_sl underlying27 Sr) (Js rfl (step_lss Sr Sr) (JL_nil ?_))))
  refine J_cond Sr (fun h28 => ?_) (fun h28 => ?_)
  ·
   try simp only [NF] at h28
   have hkt : k < (nth q.Atoms i).Terms.length := by omega
   refine J_skip (J_seq (J_block (Jr (Js rfl (step_fieldAddr so25 Sr rfl) (Jl rfl ty23 Sr ?_)))))
   refine Jm rfl ?_
   refine Js rfl (step_indexAddr_sl (i := i) underlying23 ty47 Sr Sr (by rfl) (gb (by show i < q.Atoms.length; exact hai.ia))) ?_
   refine Js rfl (step_fieldAddr so47 Sr rfl) (Jl rfl ty27 Sr (Jm rfl ?_))
   refine Js rfl (step_indexAddr_sl (i := k) underlying27 ty3 Sr Sr (by rfl) (gb (by show k < (nth q.Atoms i).Terms.length; omega))) ?_
   refine Jl rfl ty3 Sr (Ja rfl (JL_nil (J_seq ?_)))
   refine J_draw [⟨0, [1], true⟩, ⟨1, [2], true⟩, ⟨2, [7], true⟩, ⟨3, [41, 42], true⟩, ⟨4, [43], true⟩, ⟨5, [40, 44], true⟩, ⟨6, [45], true⟩, ⟨7, [46], true⟩, ⟨8, [3], true⟩, ⟨9, [48], true⟩, ⟨10, [7], true⟩, ⟨11, [49, 50], true⟩, ⟨12, [51], true⟩, ⟨13, [52], true⟩, ⟨14, [8], true⟩, ⟨15, [53, 54], true⟩, ⟨16, [55], true⟩, ⟨17, [47, 56], true⟩, ⟨18, [57], true⟩, ⟨19, [], false⟩, ⟨20, [10, 58], false⟩] rfl (by kernel_rfl) ?_
   refine Mv rfl rfl (Mv rfl rfl (Mv rfl rfl ?_))
   refine Mf rfl rfl (step_indexAddr_sl (i := i) underlying27 ty3 Sr Sr (by rfl) (gb (by show i < ats.length; omega))) ?_
   refine Mf rfl rfl (step_load_ptr ty3 Sr) ?_
   refine Mf rfl rfl (step_indexAddr_sl (i := (nth ats i).toNat) underlying26 ty45 Sr Sr (by have := (h.ix i hlt).1; omega) (gb (by show _ < facts.length; exact hai.fa))) ?_
   refine Mf rfl rfl (step_fieldAddr so45 Sr rfl) (Mf rfl rfl (step_load_ptr ty22 Sr) (Mf rfl rfl (step_fieldAddr so25 Sr rfl) (Mf rfl rfl (step_load_ptr ty23 Sr) (Mv rfl rfl ?_))))
   refine Mf rfl rfl (step_indexAddr_sl (i := i) underlying23 ty47 Sr Sr (by rfl) (gb (by show i < q.Atoms.length; exact hai.ia))) ?_
   refine Mf rfl rfl (step_fieldAddr so47 Sr rfl) (Mf rfl rfl (step_load_ptr ty27 Sr) (Mv rfl rfl ?_))
   refine Mf rfl rfl (step_indexAddr_sl (i := k) underlying27 ty3 Sr Sr (by rfl) (gb (by show k < (nth q.Atoms i).Cols.length; have := hai.tl; omega))) ?_
   refine Mf rfl rfl (step_load_ptr ty3 Sr) ?_
   refine Mf rfl rfl (step_indexAddr_sl (i := (nth (nth q.Atoms i).Cols k).toNat) underlying22 ty58 Sr Sr (by have := (hai.col k hkt).1; show nth (nth q.Atoms i).Cols k = (((nth (nth q.Atoms i).Cols k).toNat : Nat) : Int); omega) (gb (by show _ < (fctA facts ats i).Row.length; exact (hai.col k hkt).2))) ?_
   refine Mf rfl rfl (step_load_ptr ty58 Sr) ?_
   refine JM_stepX rfl rfl rfl rfl (step_alloc (fun w => zeroValue58 w) zr58) fun b10 => ?_
   refine JM_stepU rfl rfl rfl (step_store_box ty58 Sr Sr zS) fun _ => ?_
   refine JM_nil ?_
   refine K_freeze (t := 10) (A' := tPtr rValue (vl q facts ats i k)) zS Frz.box ?_
   refine J_seq (J_seq ?_)
   refine J_draw [⟨0, [9], true⟩, ⟨1, [59], true⟩, ⟨2, [60], true⟩, ⟨3, [10, 61], true⟩, ⟨4, [3, 61], true⟩, ⟨5, [61, 63], true⟩, ⟨6, [9, 61], true⟩, ⟨7, [61, 65], true⟩, ⟨8, [61, 64, 66], true⟩, ⟨9, [61, 67], true⟩, ⟨10, [61, 62, 68], true⟩, ⟨11, [61, 69], true⟩, ⟨12, [61, 70], true⟩] rfl (by kernel_rfl) ?_
   refine Mv rfl rfl (Mf rfl rfl (step_lss Sr Sr) (Mv rfl rfl (Mg rfl rfl Sr rfl (fun hw => step_load_ptr ty58 Sr) (Mg rfl rfl Sr rfl (fun hw => step_fieldAddr so25 Sr rfl) (Mg rfl rfl Sr rfl (fun hw => step_load_ptr ty22 (Sub.w hw)) ?_)))))
   refine Mg rfl rfl Sr rfl (fun hw => step_move Sr) ?_
   refine Mg rfl rfl Sr rfl (fun hw => step_sub Sr (Sub.w hw) (by have h1 := hai.tm k hkt; have h2 := (valid_bounds (fit_valid h.fit)).2.2.1; have h3 := hai.up k hkt; have h4 := (valid_bounds (fit_valid h.fit)).2.1; show in64 (-1 - nth (nth q.Atoms i).Terms k); unfold in64; omega)) ?_
   refine Mg rfl rfl Sr rfl (fun hw => step_indexAddr_sl (i := (-1 - (nth (nth q.Atoms i).Terms k)).toNat) underlying22 ty58 (Sub.w hw) (Sub.w hw) (by have hwq := hw; (try simp only [beqB_t, beqB_f, NF] at hwq); have := hai.tm k hkt; show -1 - (nth (nth q.Atoms i).Terms k) = (((-1 - (nth (nth q.Atoms i).Terms k)).toNat : Nat) : Int); omega) (gb (by have hwq := hw; (try simp only [beqB_t, beqB_f, NF] at hwq); show (-1 - (nth (nth q.Atoms i).Terms k)).toNat < q.Consts.length; have := hai.tm k hkt; omega))) ?_
   refine Mg rfl rfl Sr rfl (fun hw => step_load_ptr ty58 (Sub.w hw)) (Mg rfl rfl Sr rfl (fun hw => step_call0 (rAgree_spec _ _) ⟨(Sub.w hw), (Sub.w hw), trivial⟩ call118) (Mg rfl rfl Sr rfl (fun hw => step_not (Sub.w hw)) (Mf rfl rfl (step_pick_and Sr Sr) (JM_nil ?_))))
   refine J_cond Sr (fun h71 => ?_) (fun h71 => ?_)
   ·
    try simp only [NF] at h71
    refine Jr (Ja rfl (JL_nil (J_ret ?_)))
    refine K_ret1 (t := 6) rfl () ?_
    refine Sub.bool ?_
    refine (matB_no hlt fun hM => ?_).symm
    have h2 := (hM k hkt).1 zG
    rw [h71.2] at h2; cases h2
   try simp only [NF] at h71
   refine J_skip (Jr (Ja rfl (JL_nil (J_block ?_))))
   refine J_loopL (σ := Nat) (fun m => m ≤ ats.length ∧ ∀ j, j < m → Mm q facts ats i k j) (fun m => upd (upd (upd (upd (upd (upd (upd (upd (upd (upd (upd (upd (upd (upd (upd (upd (upd (upd (upd (upd env0 1 (tSl rFact facts)) 2 (tSl rInt ats)) 3 (tPtr rConj q)) 7 (tV (.int .i64 i))) 8 (tV (.int .i64 k))) 9 (tV (.int .i64 (nth (nth q.Atoms i).Terms k)))) 10 (tPtr rValue (vl q facts ats i k))) 11 (tV (.int .i64 m))) 14 (tV (.int .i64 i))) 15 (tSl rInt ats)) 20 (tV (.int .i64 k))) 23 (tV (.int .i64 i))) 33 (tV (.int .i64 i))) 37 (tV (.int .i64 k))) 40 (tSl rFact facts)) 41 (tSl rInt ats)) 42 (tV (.int .i64 i))) 50 (tV (.int .i64 i))) 54 (tV (.int .i64 k))) 59 (tV (.int .i64 (nth (nth q.Atoms i).Terms k)))) (fun m => []) (fun m => ats.length - m) 0 ⟨Nat.zero_le _, fun j hj => absurd hj (Nat.not_lt_zero _)⟩ (.u (.u (.u (.u (.u (.u (.u (.u (.u (.u (.u (.u (.u (.u (.u (.u (.u (.u (.u (SubE.upd Sr SubE.any)))))))))))))))))))) (LSub.rfl) ?_
   rintro m ⟨hm, hm2⟩
   refine J_seq (Jr (Jm rfl (Jm rfl (Js rfl (step_len_sl underlying27 Sr) (Js rfl (step_lss Sr Sr) ?_)))))
   refine Jm rfl (Jg rfl Sr rfl (fun hw => step_move Sr) (Jg rfl Sr rfl (fun hw => step_geq (Sub.w hw) Sr) (Js rfl (step_pick_and Sr Sr) (JL_nil ?_))))
   refine J_cond Sr (fun h79 => ?_) (fun h79 => ?_)
   ·
    try simp only [NF] at h79
    have hmt : m < ats.length := by omega
    have ham := h.at hmt
    have hcm := ham.cl
    have htm := ham.tl
    refine J_skip (J_seq (J_block (Jr (Ja rfl (JL_nil ?_)))))
    refine J_block ?_
    refine J_loopL (σ := Nat) (fun n => n ≤ (nth q.Atoms m).Terms.length ∧ ∀ j, j < n → Mn q facts ats i k m j) (fun n => upd (upd (upd (upd (upd (upd (upd (upd (upd (upd (upd (upd (upd (upd (upd (upd (upd (upd (upd (upd (upd (upd (upd env0 1 (tSl rFact facts)) 2 (tSl rInt ats)) 3 (tPtr rConj q)) 7 (tV (.int .i64 i))) 8 (tV (.int .i64 k))) 9 (tV (.int .i64 (nth (nth q.Atoms i).Terms k)))) 10 (tPtr rValue (vl q facts ats i k))) 11 (tV (.int .i64 m))) 12 (tV (.int .i64 n))) 14 (tV (.int .i64 i))) 15 (tSl rInt ats)) 20 (tV (.int .i64 k))) 23 (tV (.int .i64 i))) 33 (tV (.int .i64 i))) 37 (tV (.int .i64 k))) 40 (tSl rFact facts)) 41 (tSl rInt ats)) 42 (tV (.int .i64 i))) 50 (tV (.int .i64 i))) 54 (tV (.int .i64 k))) 59 (tV (.int .i64 (nth (nth q.Atoms i).Terms k)))) 72 (tV (.int .i64 m))) 73 (tSl rInt ats)) (fun n => []) (fun n => (nth q.Atoms m).Terms.length - n) 0 ⟨Nat.zero_le _, fun j hj => absurd hj (Nat.not_lt_zero _)⟩ (.u (.u (.u (.u (.u (.u (.u (.u (.u (.u (.u (.u (.u (.u (.u (.u (.u (.u (.u (.u (.u (.u (SubE.upd Sr SubE.any))))))))))))))))))))))) (LSub.rfl) ?_
    rintro n ⟨hn, hn2⟩
    refine J_seq (Jr (Jm rfl (Js rfl (step_fieldAddr so25 Sr rfl) (Jl rfl ty23 Sr (Jm rfl ?_)))))
    refine Js rfl (step_indexAddr_sl (i := m) underlying23 ty47 Sr Sr (by rfl) (gb (by show m < q.Atoms.length; exact ham.ia))) ?_
    refine Js rfl (step_fieldAddr so47 Sr rfl) (Jl rfl ty27 Sr (Js rfl (step_len_sl underlying27 Sr) (Js rfl (step_lss Sr Sr) (JL_nil ?_))))
    refine J_cond Sr (fun h90 => ?_) (fun h90 => ?_)
    ·
     try simp only [NF] at h90
     have hnt : n < (nth q.Atoms m).Terms.length := by omega
     refine J_skip (J_seq (J_block (J_seq ?_)))
     refine J_draw [⟨0, [1], true⟩, ⟨1, [2], true⟩, ⟨2, [11], true⟩, ⟨3, [94, 95], true⟩, ⟨4, [96], true⟩, ⟨5, [93, 97], true⟩, ⟨6, [98], true⟩, ⟨7, [99], true⟩, ⟨8, [3], true⟩, ⟨9, [101], true⟩, ⟨10, [11], true⟩, ⟨11, [102, 103], true⟩, ⟨12, [104], true⟩, ⟨13, [105], true⟩, ⟨14, [12], true⟩, ⟨15, [106, 107], true⟩, ⟨16, [108], true⟩, ⟨17, [100, 109], true⟩, ⟨18, [110], true⟩, ⟨19, [], false⟩, ⟨20, [13, 111], false⟩] rfl (by kernel_rfl) ?_
     refine Mv rfl rfl (Mv rfl rfl (Mv rfl rfl ?_))
     refine Mf rfl rfl (step_indexAddr_sl (i := m) underlying27 ty3 Sr Sr (by rfl) (gb (by show m < ats.length; omega))) ?_
     refine Mf rfl rfl (step_load_ptr ty3 Sr) ?_
     refine Mf rfl rfl (step_indexAddr_sl (i := (nth ats m).toNat) underlying26 ty45 Sr Sr (by have := (h.ix m hmt).1; omega) (gb (by show _ < facts.length; exact ham.fa))) ?_
     refine Mf rfl rfl (step_fieldAddr so45 Sr rfl) (Mf rfl rfl (step_load_ptr ty22 Sr) (Mf rfl rfl (step_fieldAddr so25 Sr rfl) (Mf rfl rfl (step_load_ptr ty23 Sr) (Mv rfl rfl ?_))))
     refine Mf rfl rfl (step_indexAddr_sl (i := m) underlying23 ty47 Sr Sr (by rfl) (gb (by show m < q.Atoms.length; exact ham.ia))) ?_
     refine Mf rfl rfl (step_fieldAddr so47 Sr rfl) (Mf rfl rfl (step_load_ptr ty27 Sr) (Mv rfl rfl ?_))
     refine Mf rfl rfl (step_indexAddr_sl (i := n) underlying27 ty3 Sr Sr (by rfl) (gb (by show n < (nth q.Atoms m).Cols.length; have := ham.tl; omega))) ?_
     refine Mf rfl rfl (step_load_ptr ty3 Sr) ?_
     refine Mf rfl rfl (step_indexAddr_sl (i := (nth (nth q.Atoms m).Cols n).toNat) underlying22 ty58 Sr Sr (by have := (ham.col n hnt).1; show nth (nth q.Atoms m).Cols n = (((nth (nth q.Atoms m).Cols n).toNat : Nat) : Int); omega) (gb (by show _ < (fctA facts ats m).Row.length; exact (ham.col n hnt).2))) ?_
     refine Mf rfl rfl (step_load_ptr ty58 Sr) ?_
     refine JM_stepX rfl rfl rfl rfl (step_alloc (fun w => zeroValue58 w) zr58) fun b13 => ?_
     refine JM_stepU rfl rfl rfl (step_store_box ty58 Sr Sr zS) fun _ => ?_
     refine JM_nil ?_
     refine K_freeze (t := 13) (A' := tPtr rValue (vl q facts ats m n)) zS Frz.box ?_
     refine Jr (Jm rfl (Jm rfl (Js rfl (step_neq Sr Sr) (Jm rfl (Jg rfl Sr rfl (fun hw => step_move Sr) ?_)))))
     refine Jg rfl Sr rfl (fun hw => step_move Sr) (Jg rfl Sr rfl (fun hw => step_neq (Sub.w hw) (Sub.w hw)) (Js rfl (step_pick_or Sr Sr) (Jm rfl (Jg rfl Sr rfl (fun hw => step_fieldAddr so25 Sr rfl) (Jg rfl Sr rfl (fun hw => step_load_ptr ty23 (Sub.w hw)) ?_)))))
     refine Jg rfl Sr rfl (fun hw => step_move Sr) ?_
     refine Jg rfl Sr rfl (fun hw => step_indexAddr_sl (i := m) underlying23 ty47 (Sub.w hw) (Sub.w hw) (by rfl) (gb (by have hwq := hw; (try simp only [beqB_t, beqB_f, NF] at hwq); show m < q.Atoms.length; exact ham.ia))) ?_
     refine Jg rfl Sr rfl (fun hw => step_fieldAddr so47 (Sub.w hw) rfl) (Jg rfl Sr rfl (fun hw => step_load_ptr ty27 (Sub.w hw)) (Jg rfl Sr rfl (fun hw => step_move Sr) ?_))
     refine Jg rfl Sr rfl (fun hw => step_indexAddr_sl (i := n) underlying27 ty3 (Sub.w hw) (Sub.w hw) (by rfl) (gb (by have hwq := hw; (try simp only [beqB_t, beqB_f, NF] at hwq); show n < (nth q.Atoms m).Terms.length; omega))) ?_
     refine Jg rfl Sr rfl (fun hw => step_load_ptr ty3 (Sub.w hw)) (Jg rfl Sr rfl (fun hw => step_move Sr) (Jg rfl Sr rfl (fun hw => step_eql (Sub.w hw) (Sub.w hw)) (Js rfl (step_pick_and Sr Sr) (Jm rfl (Jg rfl Sr rfl (fun hw => step_load_ptr ty58 Sr) ?_)))))
     refine Jg rfl Sr rfl (fun hw => step_load_ptr ty58 Sr) (Jg rfl Sr rfl (fun hw => step_call0 (rAgree_spec _ _) ⟨(Sub.w hw), (Sub.w hw), trivial⟩ call118) (Jg rfl Sr rfl (fun hw => step_not (Sub.w hw)) (Js rfl (step_pick_and Sr Sr) (JL_nil ?_))))
     refine J_cond Sr (fun h138 => ?_) (fun h138 => ?_)
     ·
      try simp only [NF] at h138
      refine Jr (Ja rfl (JL_nil (J_ret ?_)))
      refine K_ret1 (t := 6) rfl () ?_
      refine Sub.bool ?_
      refine (matB_no hlt fun hM => ?_).symm
      have h2 := (hM k hkt).2 zG m hmt n hnt zG h138.1.2
      rw [h138.2] at h2; cases h2
     try simp only [NF] at h138
     refine J_skip (J_region (Jm rfl (Js rfl (step_add Sr Sr z6) (Ja rfl (JL_nil ?_)))))
     refine K_againL (σ := Nat) (s := n) (n + 1) zO ?_ (.u (.u (.u (.u (.u (.u (.u (.u (.u (.u (.u (.u (.u (.u (.u (.u (.u (.u (.u (.u (.u (.u (SubE.upd Sr SubE.any))))))))))))))))))))))) (LSub.rfl)
     refine ⟨hnt, fun j hj => ?_⟩
     by_cases e : j = n
     ·
      subst e
      intro hne het
      rcases h138 with (h138 | h138) | h138
      ·
       exfalso; omega
      ·
       exact absurd het h138
      exact h138
     exact hn2 j zG
    try simp only [NF] at h90
    refine J_exit (J_region (Jm rfl (Js rfl (step_add Sr Sr z6) (Ja rfl (JL_nil ?_)))))
    refine K_againL (σ := Nat) (s := m) (m + 1) zO ?_ (.u (.u (.u (.u (.u (.u (.u (.u (.u (.u (.u (.u (.u (.u (.u (.u (.u (.u (.u (SubE.upd Sr SubE.any)))))))))))))))))))) (LSub.rfl)
    refine ⟨hmt, fun j hj => ?_⟩
    by_cases e : j = m
    ·
     subst e; exact fun n hn => hn2 n zG
    exact hm2 j zG
   try simp only [NF] at h79
   refine J_exit (J_region (Jm rfl (Js rfl (step_add Sr Sr z6) (Ja rfl (JL_nil ?_)))))
   refine K_againL (σ := Nat) (s := k) (k + 1) zO ?_ (.u (.u (.u (.u (.u (.u (SubE.upd Sr SubE.any))))))) (LSub.rfl)
   refine ⟨hkt, fun j hj => ?_⟩
   by_cases e : j = k
   ·
    subst e
    refine ⟨fun h0 => ?_, fun h0 j2 hj2 => hm2 j2 zG⟩
    rcases h71 with h71 | h71
    ·
     omega
    exact h71
   exact hk2 j zG
  try simp only [NF] at h28
  refine J_exit (J_region (Jm rfl (Js rfl (step_add Sr Sr z6) (Ja rfl (JL_nil ?_)))))
  refine K_againL (σ := Nat) (s := i) (i + 1) zO ?_ (.u (.u (.u (SubE.upd Sr SubE.any)))) (LSub.rfl)
  refine ⟨hlt, fun j hj => ?_⟩
  by_cases e : j = i
  ·
   subst e; exact fun k hk => hk2 k zG
  exact hi2 j zG
 try simp only [NF] at h17
 refine J_exit (Jr (Ja rfl (JL_nil (J_ret ?_))))
 refine K_ret1 (t := 6) rfl () ?_
 refine Sub.bool ?_
 exact (matB_yes fun j hj => hi2 j zG).symm
open Go Go.Proofs Go.Proofs.Tryz
def tbE (q : GConj) (facts : List GFact) (i : Nat) (j : Int) : Bool := decide ((nth facts j.toNat).Table = (nth q.Atoms i).Table)
/-- The reference's way to hold, n atoms ahead of the end. -/
noncomputable def hldR (q : GConj) (facts : List GFact) (set : List Int) : Nat → List Int → Bool
  | 0, ats => matB q facts ats
  | n + 1, ats => matB q facts ats && set.any fun j => tbE q facts ats.length j && hldR q facts set n (ats ++ [j])
def InR (facts : List GFact) (set : List Int) : Prop := ∀ x ∈ set, 0 ≤ x ∧ x < (facts.length : Int)
def HolS (q : GConj) (facts : List GFact) (set : List Int) (n : Nat) : Prop := ∀ ats : List Int, MatH q facts ats → ats.length + n = q.Atoms.length → Fun1 prog 51 [rConj.ty q, tSl rFact facts, tSl rInt set, tSl rInt ats] (tV (.bool (hldR q facts set n ats)))
theorem nth_snoc_lt {α : Type} [Inhabited α] {l : List α} {x : α} {i : Nat} (h : i < l.length) : nth (l ++ [x]) i = nth l i := by
  rw [nth_get (by simp; omega), nth_get h, List.getElem_append_left h]
theorem nth_snoc_eq {α : Type} [Inhabited α] {l : List α} {x : α} : nth (l ++ [x]) l.length = x := by
  rw [nth_get (by simp)]; simp
theorem MatH.snoc {q : GConj} {facts : List GFact} {ats : List Int} (h : MatH q facts ats) (hl : ats.length < q.Atoms.length) {j : Int} (hj : 0 ≤ j ∧ j < (facts.length : Int)) (ht : (nth facts j.toNat).Table = (nth q.Atoms ats.length).Table) : MatH q facts (ats ++ [j]) where
  fit := h.fit
  le := by rw [List.length_append]; simp; omega
  ix := fun i hi => by
    have hi : i < ats.length + 1 := by simpa using hi
    by_cases e : i = ats.length
    · subst e; rw [nth_snoc_eq]; exact ⟨hj.1, hj.2, ht⟩
    · rw [nth_snoc_lt (by omega)]; exact h.ix i (by omega)
theorem MatH.nil {q : GConj} {facts : List GFact} (h : fitM q facts = true) : MatH q facts [] := ⟨h, Nat.zero_le _, fun i hi => absurd hi (Nat.not_lt_zero _)⟩
theorem any_no {α : Type} [Inhabited α] {l : List α} {p : α → Bool} (h : ∀ t, t < l.length → p (nth l t) = false) : l.any p = false := by
  rw [List.any_eq_false]
  intro x hx
  obtain ⟨t, ht, rfl⟩ := List.getElem_of_mem hx
  rw [← nth_get ht, h t ht]; simp
theorem any_yes {α : Type} [Inhabited α] {l : List α} {p : α → Bool} {t : Nat} (ht : t < l.length) (h : p (nth l t) = true) : l.any p = true := List.any_eq_true.2 ⟨_, nth_mem ht, h⟩
/-- The reference's way to look at every choice. -/
noncomputable def alwR (q : GConj) (facts : List GFact) : Nat → Nat → List Int → Bool
  | 0, _, ch => hldR q facts ch q.Atoms.length []
  | n + 1, i, ch => if atomI q (nth facts i).Table < 0 then alwR q facts n (i + 1) ch else if ((List.range i).any fun k => sameM q (nth facts k) (nth facts i)) = true then alwR q facts n (i + 1) ch else (List.range' i (n + 1)).all fun k => !sameM q (nth facts i) (nth facts k) || alwR q facts n (i + 1) (ch ++ [(k : Int)])
def AlwS (q : GConj) (facts : List GFact) (n : Nat) : Prop := ∀ (i : Nat) (ch : List Int), i + n = facts.length → InR facts ch → ch.length ≤ i → Fun1 prog 38 [rConj.ty q, tSl rFact facts, tV (.int .i64 i), tSl rInt ch] (tV (.bool (alwR q facts n i ch)))
theorem InR.snoc {facts : List GFact} {ch : List Int} (h : InR facts ch) {k : Nat} (hk : k < facts.length) : InR facts (ch ++ [(k : Int)]) := fun x hx => by
  rcases List.mem_append.1 hx with hx | hx
  · exact h x hx
  · rw [List.mem_singleton.1 hx]; omega
theorem InR.nil {facts : List GFact} : InR facts [] := fun x hx => by cases hx
theorem alw_skip {q : GConj} {facts : List GFact} {n i : Nat} {ch : List Int} (h : atomI q (nth facts i).Table < 0) : alwR q facts (n + 1) i ch = alwR q facts n (i + 1) ch := by rw [alwR, if_pos h]
theorem alw_done {q : GConj} {facts : List GFact} {n i k : Nat} {ch : List Int} (h : ¬ atomI q (nth facts i).Table < 0) (hk : k < i) (hs : sameM q (nth facts k) (nth facts i) = true) : alwR q facts (n + 1) i ch = alwR q facts n (i + 1) ch := by
  rw [alwR, if_neg h, if_pos (List.any_eq_true.2 ⟨k, List.mem_range.2 hk, hs⟩)]
theorem alw_here {q : GConj} {facts : List GFact} {n i : Nat} {ch : List Int} (h : ¬ atomI q (nth facts i).Table < 0) (hs : ∀ k, k < i → sameM q (nth facts k) (nth facts i) = false) : alwR q facts (n + 1) i ch = (List.range' i (n + 1)).all fun k => !sameM q (nth facts i) (nth facts k) || alwR q facts n (i + 1) (ch ++ [(k : Int)]) := by
  rw [alwR, if_neg h, if_neg]
  rw [Bool.not_eq_true, List.any_eq_false]
  exact fun k hk => by rw [hs k (List.mem_range.1 hk)]; simp
def inS (set : List Int) (n : Nat) : List Int := ((List.range n).filter fun (i : Nat) => decide ((i : Int) ∈ set)).map fun (i : Nat) => (i : Int)
theorem inS_succ (set : List Int) (n : Nat) : inS set (n + 1) = inS set n ++ if (n : Int) ∈ set then [(n : Int)] else [] := by
  unfold inS
  rw [List.range_succ, List.filter_append, List.map_append]
  by_cases h : (n : Int) ∈ set <;> simp [h]
theorem inS_len (set : List Int) (n : Nat) : (inS set n).length ≤ n := by
  unfold inS
  rw [List.length_map]
  have := List.length_filter_le (fun i : Nat => decide ((i : Int) ∈ set)) (List.range n)
  simpa using this
theorem inS_in (set : List Int) (facts : List GFact) : InR facts (inS set facts.length) := fun x hx => by
  unfold inS at hx
  obtain ⟨i, hi, rfl⟩ := List.mem_map.1 hx
  have := List.mem_range.1 (List.mem_filter.1 hi).1
  omega
set_option maxHeartbeats 4000000 in
theorem rHolds1_spec (q : GConj) (facts : List GFact) (set : List Int) (hset : InR facts set) (hsl : set.length ≤ 1000) (hfl : facts.length ≤ 1000000) (n : Nat) (ats : List Int) (hM : MatH q facts ats) (hn : ats.length + n = q.Atoms.length) (ih : ∀ k, n = k + 1 → HolS q facts set k) : Fun1 prog 51 [rConj.ty q, tSl rFact facts, tSl rInt set, tSl rInt ats] (tV (.bool (hldR q facts set n ats))) := by
 refine Spec.enter func51 rfl rfl fun h0 w0 fr0 => ?_
 have hvb := valid_bounds (fit_valid hM.fit)
 refine Jr (Js rfl (step_box (R := rConj) Sr) (Ja rfl (JL_nil (J_seq (Jr ?_)))))
 refine Jl rfl ty25 Sr (Jm rfl (Jm rfl (Js rfl (step_call0 (matched_spec q facts ats hM zG hfl) ⟨Sr, Sr, Sr, trivial⟩ call80) (Js rfl (step_not Sr) (JL_nil ?_)))))
 refine J_cond Sr (fun h14 => ?_) (fun h14 => ?_)
 ·
  try simp only [NF] at h14
  refine Jr (Ja rfl (JL_nil (J_ret ?_)))
  refine K_ret1 (t := 8) rfl () ?_
  refine Sub.bool ?_
  cases n with
  | zero => exact h14.symm
  | succ n => show false = (matB q facts ats && _); rw [h14]; rfl
 try simp only [NF] at h14
 refine J_skip (J_seq (Jr (Jm rfl (Js rfl (step_len_sl underlying27 Sr) (Js rfl (step_fieldAddr so25 Sr rfl) ?_)))))
 refine Jl rfl ty23 Sr (Js rfl (step_len_sl underlying23 Sr) (Js rfl (step_eql Sr Sr) (JL_nil ?_)))
 refine J_cond Sr (fun h20 => ?_) (fun h20 => ?_)
 ·
  try simp only [NF] at h20
  obtain rfl : n = 0 := by omega
  refine Jr (Ja rfl (JL_nil (J_ret ?_)))
  refine K_ret1 (t := 8) rfl () ?_
  refine Sub.bool ?_
  exact h14.symm
 try simp only [NF] at h20
 obtain ⟨n, rfl⟩ : ∃ n', n = n' + 1 := ⟨n - 1, by omega⟩
 have ihn := ih n rfl
 have hat : ats.length < q.Atoms.length := by omega
 refine J_skip (J_seq (Jr (Ja rfl (JL_nil (J_block ?_)))))
 refine J_loopL (σ := Nat) (fun i => i ≤ set.length ∧ ∀ t, t < i → (tbE q facts ats.length (nth set t) && hldR q facts set n (ats ++ [nth set t])) = false) (fun i => upd (upd (upd (upd (upd env0 1 (tSl rFact facts)) 2 (tSl rInt set)) 3 (tSl rInt ats)) 4 (tPtr rConj q)) 9 (tV (.int .i64 i))) (fun i => []) (fun i => set.length - i) 0 ⟨Nat.zero_le _, fun t ht => absurd ht (Nat.not_lt_zero _)⟩ (.u (.u (.u (.u (SubE.upd Sr SubE.any))))) (LSub.rfl) ?_
 rintro i ⟨hi, hv⟩
 refine J_seq (Jr (Jm rfl (Jm rfl (Js rfl (step_len_sl underlying27 Sr) (Js rfl (step_lss Sr Sr) ?_)))))
 refine JL_nil ?_
 refine J_cond Sr (fun h24 => ?_) (fun h24 => ?_)
 ·
  try simp only [NF] at h24
  have hlt : i < set.length := by omega
  have hsi := hset _ (nth_mem hlt)
  refine J_skip (J_seq (J_block (J_seq ?_)))
  by_cases htb : (nth facts (nth set i).toNat).Table = (nth q.Atoms ats.length).Table
  ·
   skip
   refine J_draw [⟨0, [1], true⟩, ⟨1, [2], true⟩, ⟨2, [9], true⟩, ⟨3, [28, 29], true⟩, ⟨4, [30], true⟩, ⟨5, [27, 31], true⟩, ⟨6, [32], true⟩, ⟨7, [33], true⟩, ⟨8, [4], true⟩, ⟨9, [35], true⟩, ⟨10, [3], true⟩, ⟨11, [37], true⟩, ⟨12, [36, 38], true⟩, ⟨13, [39], true⟩, ⟨14, [40], true⟩, ⟨15, [34, 41], true⟩, ⟨16, [42], true⟩, ⟨17, [4, 43], true⟩, ⟨18, [1, 43], true⟩, ⟨19, [2, 43], true⟩, ⟨21, [3, 43], true⟩, ⟨23, [2, 43], true⟩, ⟨24, [9, 43], true⟩, ⟨25, [43, 50, 51], true⟩, ⟨26, [43, 52], true⟩, ⟨27, [43, 53], true⟩, ⟨20, [43], false⟩, ⟨22, [43, 47, 48], false⟩, ⟨28, [43, 49, 54], false⟩, ⟨29, [43, 44, 45, 46, 55], false⟩, ⟨30, [43, 56], true⟩] rfl (by kernel_rfl) ?_
   refine Mv rfl rfl (Mv rfl rfl (Mv rfl rfl ?_))
   refine Mf rfl rfl (step_indexAddr_sl (i := i) underlying27 ty3 Sr Sr (by rfl) (gb (by exact hlt))) ?_
   refine Mf rfl rfl (step_load_ptr ty3 Sr) ?_
   refine Mf rfl rfl (step_indexAddr_sl (i := (nth set i).toNat) underlying26 ty45 Sr Sr zG (gb (by show (nth set i).toNat < facts.length; omega))) ?_
   refine Mf rfl rfl (step_fieldAddr so45 Sr rfl) (Mf rfl rfl (step_load_ptr ty3 Sr) (Mf rfl rfl (step_fieldAddr so25 Sr rfl) (Mf rfl rfl (step_load_ptr ty23 Sr) (Mv rfl rfl (Mf rfl rfl (step_len_sl underlying27 Sr) ?_)))))
   refine Mf rfl rfl (step_indexAddr_sl (i := ats.length) underlying23 ty47 Sr Sr (by rfl) (gb (by show ats.length < q.Atoms.length; omega))) ?_
   refine Mf rfl rfl (step_fieldAddr so47 Sr rfl) (Mf rfl rfl (step_load_ptr ty3 Sr) (Mf rfl rfl (step_eql Sr Sr) (Mv rfl rfl ?_)))
   refine JM_stepG rfl rfl rfl rfl (Gd.cast (u := true) (by show beqB (decide ((nth facts (nth set i).toNat).Table = (nth q.Atoms ats.length).Table)) true = true; rw [decide_eq_true htb]; rfl) (Gd.plain Sr)) rfl rfl (fun hw _ => step_load_ptr ty25 Sr) ?_
   refine JM_stepG rfl rfl rfl rfl (Gd.cast (u := true) (by show beqB (decide ((nth facts (nth set i).toNat).Table = (nth q.Atoms ats.length).Table)) true = true; rw [decide_eq_true htb]; rfl) (Gd.plain Sr)) rfl rfl (fun hw _ => step_move Sr) ?_
   refine JM_stepG rfl rfl rfl rfl (Gd.cast (u := true) (by show beqB (decide ((nth facts (nth set i).toNat).Table = (nth q.Atoms ats.length).Table)) true = true; rw [decide_eq_true htb]; rfl) (Gd.plain Sr)) rfl rfl (fun hw _ => step_move Sr) ?_
   refine JM_stepG rfl rfl rfl rfl (Gd.cast (u := true) (by show beqB (decide ((nth facts (nth set i).toNat).Table = (nth q.Atoms ats.length).Table)) true = true; rw [decide_eq_true htb]; rfl) (Gd.plain Sr)) rfl rfl (fun hw _ => step_move Sr) ?_
   refine JM_stepG rfl rfl rfl rfl (Gd.cast (u := true) (by show beqB (decide ((nth facts (nth set i).toNat).Table = (nth q.Atoms ats.length).Table)) true = true; rw [decide_eq_true htb]; rfl) (Gd.plain Sr)) rfl rfl (fun hw _ => step_move Sr) ?_
   refine JM_stepG rfl rfl rfl rfl (Gd.cast (u := true) (by show beqB (decide ((nth facts (nth set i).toNat).Table = (nth q.Atoms ats.length).Table)) true = true; rw [decide_eq_true htb]; rfl) (Gd.plain Sr)) rfl rfl (fun hw _ => step_move Sr) ?_
   refine JM_stepG rfl rfl rfl rfl (Gd.cast (u := true) (by show beqB (decide ((nth facts (nth set i).toNat).Table = (nth q.Atoms ats.length).Table)) true = true; rw [decide_eq_true htb]; rfl) (Gd.plain Sr)) rfl rfl (fun hw _ => step_indexAddr_sl (i := i) underlying27 ty3 (Sub.w hw) (Sub.w hw) (by rfl) (gb (by have hwq := hw; (try simp only [beqB_t, beqB_f, NF] at hwq); exact hlt))) ?_
   refine JM_stepG rfl rfl rfl rfl (Gd.cast (u := true) (by show beqB (decide ((nth facts (nth set i).toNat).Table = (nth q.Atoms ats.length).Table)) true = true; rw [decide_eq_true htb]; rfl) (Gd.plain Sr)) rfl rfl (fun hw _ => step_load_ptr ty3 (Sub.w hw)) ?_
   refine JM_stepG rfl rfl rfl rfl (Gd.cast (u := true) (by show beqB (decide ((nth facts (nth set i).toNat).Table = (nth q.Atoms ats.length).Table)) true = true; rw [decide_eq_true htb]; rfl) (Gd.plain Sr)) rfl rfl (fun hw _ => step_literal (ys := [_]) underlying27 el3 ⟨rfl, (Sub.w hw), trivial⟩ rfl (by decide)) ?_
   refine JM_stepXG rfl rfl rfl rfl (Gd.cast (by show beqB (decide ((nth facts (nth set i).toNat).Table = (nth q.Atoms ats.length).Table)) true = true; rw [decide_eq_true htb]; rfl) (Gd.plain Sr)) rfl rfl (step_literal_own (ys := []) underlying27 el3 trivial rfl (by decide)) fun u47 => ?_
   refine JM_stepXG rfl rfl rfl rfl (Gd.cast (by show beqB (decide ((nth facts (nth set i).toNat).Table = (nth q.Atoms ats.length).Table)) true = true; rw [decide_eq_true htb]; rfl) (Gd.plain Sr)) rfl rfl (step_append underlying27 el3 Sr (Sub.w rfl) zS (by simp; omega) (by simp; omega)) fun u49 => ?_
   refine JM_stepXG rfl rfl rfl rfl (Gd.cast (by show beqB (decide ((nth facts (nth set i).toNat).Table = (nth q.Atoms ats.length).Table)) true = true; rw [decide_eq_true htb]; rfl) (Gd.plain Sr)) rfl rfl (step_append underlying27 el3 Sr (Sub.w rfl) zS (by simp; omega) (by simp; omega)) fun u55 => ?_
   refine JM_lookG rfl rfl rfl rfl (Gd.cast (u := true) (by show beqB (decide ((nth facts (nth set i).toNat).Table = (nth q.Atoms ats.length).Table)) true = true; rw [decide_eq_true htb]; rfl) (Gd.plain Sr)) rfl rfl (fun hw => step_call_look (Sel.all _) (ihn (ats ++ [(nth set i)]) (hM.snoc hat hsi htb) (by rw [List.length_append]; simp; omega)) (fun _ => Flat.v _) ⟨Frz.sub (Sub.w rfl), Frz.sub (Sub.w rfl), Frz.sub (Sub.w rfl), Frz.own, trivial⟩ call51) ?_
   refine Mf rfl rfl (step_pick_and Sr (Sub.wt (by show beqB (decide ((nth facts (nth set i).toNat).Table = (nth q.Atoms ats.length).Table)) true = true; rw [decide_eq_true htb]; rfl))) ?_
   refine JM_nil ?_
   refine K_drop (Sel.all _) ?_
   refine J_cond Sr (fun h57 => ?_) (fun h57 => ?_)
   ·
    try simp only [NF] at h57
    refine Jr (Ja rfl (JL_nil (J_ret ?_)))
    refine K_ret1 (t := 8) rfl () ?_
    refine Sub.bool ?_
    show true = (matB q facts ats && set.any fun j => tbE q facts ats.length j && hldR q facts set n (ats ++ [j]))
    rw [h14, any_yes hlt (by unfold tbE; rw [decide_eq_true htb, h57.2]; rfl)]; rfl
   try simp only [NF] at h57
   refine J_skip (J_region (Jm rfl (Js rfl (step_add Sr Sr z6) (Ja rfl (JL_nil ?_)))))
   refine K_againL (σ := Nat) (s := i) (i + 1) zO ?_ (.u (.u (.u (.u (SubE.upd Sr SubE.any))))) (LSub.rfl)
   refine ⟨hlt, fun t ht => ?_⟩
   by_cases e : t = i
   ·
    subst e; unfold tbE; rcases h57 with h57 | h57
    ·
     exact absurd htb h57
    rw [h57, Bool.and_false]
   exact hv t zG
  skip
  refine J_draw [⟨0, [1], true⟩, ⟨1, [2], true⟩, ⟨2, [9], true⟩, ⟨3, [28, 29], true⟩, ⟨4, [30], true⟩, ⟨5, [27, 31], true⟩, ⟨6, [32], true⟩, ⟨7, [33], true⟩, ⟨8, [4], true⟩, ⟨9, [35], true⟩, ⟨10, [3], true⟩, ⟨11, [37], true⟩, ⟨12, [36, 38], true⟩, ⟨13, [39], true⟩, ⟨14, [40], true⟩, ⟨15, [34, 41], true⟩, ⟨16, [42], true⟩, ⟨17, [4, 43], true⟩, ⟨18, [1, 43], true⟩, ⟨19, [2, 43], true⟩, ⟨20, [43], true⟩, ⟨21, [3, 43], true⟩, ⟨22, [43, 47, 48], true⟩, ⟨23, [2, 43], true⟩, ⟨24, [9, 43], true⟩, ⟨25, [43, 50, 51], true⟩, ⟨26, [43, 52], true⟩, ⟨27, [43, 53], true⟩, ⟨28, [43, 49, 54], true⟩, ⟨29, [43, 44, 45, 46, 55], true⟩, ⟨30, [43, 56], true⟩] rfl (by kernel_rfl) ?_
  refine Mv rfl rfl (Mv rfl rfl (Mv rfl rfl ?_))
  refine Mf rfl rfl (step_indexAddr_sl (i := i) underlying27 ty3 Sr Sr (by rfl) (gb (by exact hlt))) ?_
  refine Mf rfl rfl (step_load_ptr ty3 Sr) ?_
  refine Mf rfl rfl (step_indexAddr_sl (i := (nth set i).toNat) underlying26 ty45 Sr Sr zG (gb (by show (nth set i).toNat < facts.length; omega))) ?_
  refine Mf rfl rfl (step_fieldAddr so45 Sr rfl) (Mf rfl rfl (step_load_ptr ty3 Sr) (Mf rfl rfl (step_fieldAddr so25 Sr rfl) (Mf rfl rfl (step_load_ptr ty23 Sr) (Mv rfl rfl (Mf rfl rfl (step_len_sl underlying27 Sr) ?_)))))
  refine Mf rfl rfl (step_indexAddr_sl (i := ats.length) underlying23 ty47 Sr Sr (by rfl) (gb (by show ats.length < q.Atoms.length; omega))) ?_
  refine Mf rfl rfl (step_fieldAddr so47 Sr rfl) (Mf rfl rfl (step_load_ptr ty3 Sr) (Mf rfl rfl (step_eql Sr Sr) (Mv rfl rfl ?_)))
  refine JM_stepG (w := false) (B := tAny) rfl rfl rfl rfl (Gd.cast (by show beqB (decide ((nth facts (nth set i).toNat).Table = (nth q.Atoms ats.length).Table)) true = false; rw [decide_eq_false htb]; rfl) (Gd.plain Sr)) rfl rfl (fun hw _ => by cases hw) ?_
  refine JM_stepG (w := false) (B := tAny) rfl rfl rfl rfl (Gd.cast (by show beqB (decide ((nth facts (nth set i).toNat).Table = (nth q.Atoms ats.length).Table)) true = false; rw [decide_eq_false htb]; rfl) (Gd.plain Sr)) rfl rfl (fun hw _ => by cases hw) ?_
  refine JM_stepG (w := false) (B := tAny) rfl rfl rfl rfl (Gd.cast (by show beqB (decide ((nth facts (nth set i).toNat).Table = (nth q.Atoms ats.length).Table)) true = false; rw [decide_eq_false htb]; rfl) (Gd.plain Sr)) rfl rfl (fun hw _ => by cases hw) ?_
  refine JM_stepG (w := false) (B := tAny) rfl rfl rfl rfl (Gd.cast (by show beqB (decide ((nth facts (nth set i).toNat).Table = (nth q.Atoms ats.length).Table)) true = false; rw [decide_eq_false htb]; rfl) (Gd.plain Sr)) rfl rfl (fun hw _ => by cases hw) ?_
  refine JM_stepG (w := false) (B := tAny) rfl rfl rfl rfl (Gd.cast (by show beqB (decide ((nth facts (nth set i).toNat).Table = (nth q.Atoms ats.length).Table)) true = false; rw [decide_eq_false htb]; rfl) (Gd.plain Sr)) rfl rfl (fun hw _ => by cases hw) ?_
  refine JM_stepG (w := false) (B := tAny) rfl rfl rfl rfl (Gd.cast (by show beqB (decide ((nth facts (nth set i).toNat).Table = (nth q.Atoms ats.length).Table)) true = false; rw [decide_eq_false htb]; rfl) (Gd.plain Sr)) rfl rfl (fun hw _ => by cases hw) ?_
  refine JM_stepG (w := false) (B := tAny) rfl rfl rfl rfl (Gd.cast (by show beqB (decide ((nth facts (nth set i).toNat).Table = (nth q.Atoms ats.length).Table)) true = false; rw [decide_eq_false htb]; rfl) (Gd.plain Sr)) rfl rfl (fun hw _ => by cases hw) ?_
  refine JM_stepG (w := false) (B := tAny) rfl rfl rfl rfl (Gd.cast (by show beqB (decide ((nth facts (nth set i).toNat).Table = (nth q.Atoms ats.length).Table)) true = false; rw [decide_eq_false htb]; rfl) (Gd.plain Sr)) rfl rfl (fun hw _ => by cases hw) ?_
  refine JM_stepG (w := false) (B := tAny) rfl rfl rfl rfl (Gd.cast (by show beqB (decide ((nth facts (nth set i).toNat).Table = (nth q.Atoms ats.length).Table)) true = false; rw [decide_eq_false htb]; rfl) (Gd.plain Sr)) rfl rfl (fun hw _ => by cases hw) ?_
  refine JM_stepG (w := false) (B := tAny) rfl rfl rfl rfl (Gd.cast (by show beqB (decide ((nth facts (nth set i).toNat).Table = (nth q.Atoms ats.length).Table)) true = false; rw [decide_eq_false htb]; rfl) (Gd.plain Sr)) rfl rfl (fun hw _ => by cases hw) ?_
  refine JM_stepG (w := false) (B := tAny) rfl rfl rfl rfl (Gd.cast (by show beqB (decide ((nth facts (nth set i).toNat).Table = (nth q.Atoms ats.length).Table)) true = false; rw [decide_eq_false htb]; rfl) (Gd.plain Sr)) rfl rfl (fun hw _ => by cases hw) ?_
  refine JM_stepG (w := false) (B := tAny) rfl rfl rfl rfl (Gd.cast (by show beqB (decide ((nth facts (nth set i).toNat).Table = (nth q.Atoms ats.length).Table)) true = false; rw [decide_eq_false htb]; rfl) (Gd.plain Sr)) rfl rfl (fun hw _ => by cases hw) ?_
  refine JM_stepG (w := false) (B := tAny) rfl rfl rfl rfl (Gd.cast (by show beqB (decide ((nth facts (nth set i).toNat).Table = (nth q.Atoms ats.length).Table)) true = false; rw [decide_eq_false htb]; rfl) (Gd.plain Sr)) rfl rfl (fun hw _ => by cases hw) ?_
  refine Mf rfl rfl (step_pick_and Sr (Sub.wf (A := tV (.bool false)) (by show beqB (decide ((nth facts (nth set i).toNat).Table = (nth q.Atoms ats.length).Table)) true = false; rw [decide_eq_false htb]; rfl))) ?_
  refine JM_nil ?_
  refine K_drop (Sel.all _) ?_
  refine J_cond Sr (fun h57 => ?_) (fun h57 => ?_)
  ·
   try simp only [NF] at h57
   refine Jr (Ja rfl (JL_nil (J_ret ?_)))
   refine K_ret1 (t := 8) rfl () ?_
   refine Sub.bool ?_
   exfalso; exact htb h57.1
  try simp only [NF] at h57
  refine J_skip (J_region (Jm rfl (Js rfl (step_add Sr Sr z6) (Ja rfl (JL_nil ?_)))))
  refine K_againL (σ := Nat) (s := i) (i + 1) zO ?_ (.u (.u (.u (.u (SubE.upd Sr SubE.any))))) (LSub.rfl)
  refine ⟨hlt, fun t ht => ?_⟩
  by_cases e : t = i
  ·
   subst e; unfold tbE; rw [decide_eq_false htb]; rfl
  exact hv t zG
 try simp only [NF] at h24
 refine J_exit (Jr (Ja rfl (JL_nil (J_ret ?_))))
 refine K_ret1 (t := 8) rfl () ?_
 refine Sub.bool ?_
 show false = (matB q facts ats && set.any fun j => tbE q facts ats.length j && hldR q facts set n (ats ++ [j]))
 rw [any_no fun t ht => hv t zG, Bool.and_false]
theorem rHold_spec (q : GConj) (facts : List GFact) (set : List Int) (hset : InR facts set) (hsl : set.length ≤ 1000) (hfl : facts.length ≤ 1000000) : ∀ n, HolS q facts set n
  | 0 => fun ats h he => rHolds1_spec q facts set hset hsl hfl 0 ats h he fun k e => by cases e
  | n + 1 => fun ats h he => rHolds1_spec q facts set hset hsl hfl (n + 1) ats h he fun k e => by
    have : k = n := by omega
    subst this
    exact rHold_spec q facts set hset hsl hfl k
set_option maxHeartbeats 1000000 in
theorem rHoldsTop_spec (q : GConj) (facts : List GFact) (set : List Int) (hsl : set.length ≤ 1000) (hfl : facts.length ≤ 1000) : Fun1 prog 19 [rConj.ty q, tSl rFact facts, tSl rInt set] (tV (.bool (fitM q facts && hldR q facts (inS set facts.length) q.Atoms.length []))) := by
 refine Spec.enter func19 rfl rfl fun h0 w0 fr0 => ?_
 refine Jr (Js rfl (step_box (R := rConj) Sr) (Ja rfl (JL_nil (J_seq (Jr ?_)))))
 refine Jl rfl ty25 Sr (Jm rfl (Js rfl (step_call0 (refFits_spec q facts zG) ⟨Sr, Sr, trivial⟩ call36) (Js rfl (step_not Sr) (JL_nil ?_))))
 refine J_cond Sr (fun h12 => ?_) (fun h12 => ?_)
 ·
  try simp only [NF] at h12
  refine Jr (Ja rfl (JL_nil (J_ret ?_)))
  refine K_ret1 (t := 6) rfl () ?_
  refine Sub.bool ?_
  rw [h12]; rfl
 try simp only [NF] at h12
 refine J_skip (Jr (Ja rfl (JL_nil (J_seq (Jr ?_)))))
 refine Ja rfl (JL_nil (J_block ?_))
 refine J_loopL (σ := Nat × Value) (fun ⟨i, vo⟩ => i ≤ facts.length) (fun ⟨i, vo⟩ => upd (upd (upd (upd (upd (upd env0 1 (tSl rFact facts)) 2 (tSl rInt set)) 3 (tPtr rConj q)) 6 (tV (.bool false))) 7 (rV.ty vo)) 8 (tV (.int .i64 i))) (fun ⟨i, vo⟩ => [own 3 rInt vo (inS set i)]) (fun ⟨i, vo⟩ => facts.length - i) (0, .slice none 0 0) (Nat.zero_le _) (.u (SubE.upd (Sub.rV rfl) (.u (.u (.u (SubE.upd Sr SubE.any)))))) (LSub.nilown) ?_
 rintro ⟨i, vo⟩ hi
 try dsimp only at hi
 refine J_seq (Jr (Jm rfl (Jm rfl (Js rfl (step_len_sl underlying26 Sr) (Js rfl (step_lss Sr Sr) ?_)))))
 refine JL_nil ?_
 refine J_cond Sr (fun h16 => ?_) (fun h16 => ?_)
 ·
  try simp only [NF] at h16
  have hlt : i < facts.length := by omega
  have hil := inS_len set i
  refine J_skip (J_seq (J_block (Jr (Jm rfl (Jm rfl ?_)))))
  refine Js rfl (step_call0 (rIn_spec set (i : Int) zG) ⟨Sr, Sr, trivial⟩ call50) (JL_nil ?_)
  refine J_cond Sr (fun h21 => ?_) (fun h21 => ?_)
  ·
   try simp only [NF] at h21
   refine J_region (Jm rfl (Jm rfl ?_))
   refine Js rfl (step_literal (ys := [_]) underlying27 el3 ⟨rfl, Sr, trivial⟩ rfl (by decide)) ?_
   refine Jx rfl (step_append underlying27 el3 Sr Sr zS (by simp; omega) (by simp; omega)) fun u25 => ?_
   refine Ja rfl (JL_nil (J_region (Jm rfl (Js rfl (step_add Sr Sr z6) (Ja rfl ?_)))))
   refine JL_nil ?_
   refine K_againL (σ := Nat × Value) (s := (i, vo)) (i + 1, u25) zO hlt (.u (.u (.u (.u (.u (SubE.upd Sr SubE.any)))))) (LSub.cons zS (SPs.of (by rw [inS_succ, if_pos h21])) (LSub.nil))
  try simp only [NF] at h21
  refine J_skip (J_region (Jm rfl (Js rfl (step_add Sr Sr z6) (Ja rfl (JL_nil ?_)))))
  refine K_againL (σ := Nat × Value) (s := (i, vo)) (i + 1, vo) zO hlt (.u (.u (.u (.u (.u (SubE.upd Sr SubE.any)))))) (LSub.cons zS (SPs.of (by rw [inS_succ, if_neg h21, List.append_nil])) (LSub.nil))
 try simp only [NF] at h16
 obtain rfl : i = facts.length := by omega
 refine J_exit (J_seq ?_)
 refine K_freeze (t := 7) (A' := tSl rInt (inS set facts.length)) (Sel.take (Sel.none _)) Frz.own ?_
 refine J_region (Jl rfl ty25 Sr (Jm rfl (Jm rfl ?_)))
 refine Js rfl (step_call0 (rHold_spec q facts (inS set facts.length) (inS_in set facts) (by have := inS_len set facts.length; omega) zG q.Atoms.length [] (MatH.nil h12) (by simp)) ⟨Sr, Sr, Sr, Sub.nilsl, trivial⟩ call51) ?_
 refine Ja rfl (JL_nil (J_ret ?_))
 refine K_ret1 (t := 6) rfl () ?_
 refine Sub.bool ?_
 rw [h12]; rfl
set_option maxHeartbeats 4000000 in
theorem rAlways1_spec (q : GConj) (facts : List GFact) (hfit : fitM q facts = true) (hfl : facts.length ≤ 1000) (n i : Nat) (ch : List Int) (hin : i + n = facts.length) (hch : InR facts ch) (hcl : ch.length ≤ i) (ih : ∀ k, n = k + 1 → AlwS q facts k) : Fun1 prog 38 [rConj.ty q, tSl rFact facts, tV (.int .i64 i), tSl rInt ch] (tV (.bool (alwR q facts n i ch))) := by
 refine Spec.enter func38 rfl rfl fun h0 w0 fr0 => ?_
 have hvb := valid_bounds (fit_valid hfit)
 refine Jr (Js rfl (step_box (R := rConj) Sr) (Ja rfl (JL_nil (J_seq (Jr ?_)))))
 refine Jm rfl (Jm rfl (Js rfl (step_len_sl underlying26 Sr) (Js rfl (step_eql Sr Sr) (JL_nil ?_))))
 refine J_cond Sr (fun h14 => ?_) (fun h14 => ?_)
 ·
  try simp only [NF] at h14
  obtain rfl : n = 0 := by omega
  refine Jr (Jl rfl ty25 Sr (Jm rfl (Jm rfl ?_)))
  refine Js rfl (step_call0 (rHold_spec q facts ch hch zG zG q.Atoms.length [] (MatH.nil hfit) (by simp)) ⟨Sr, Sr, Sr, Sub.nilsl, trivial⟩ call51) ?_
  refine Ja rfl (JL_nil (J_ret ?_))
  refine K_ret1 (t := 8) rfl () ?_
  refine Sub.bool ?_
  rfl
 try simp only [NF] at h14
 obtain ⟨n, rfl⟩ : ∃ n', n = n' + 1 := ⟨n - 1, by omega⟩
 have ihn := ih n rfl
 have hit : i < facts.length := by omega
 refine J_skip (J_seq (J_seq ?_))
 refine J_draw [⟨0, [4], true⟩, ⟨1, [1], true⟩, ⟨2, [2], true⟩, ⟨3, [20, 21], true⟩, ⟨4, [22], true⟩, ⟨5, [23], true⟩, ⟨6, [19, 24], true⟩, ⟨7, [25], true⟩] rfl (by kernel_rfl) ?_
 refine Mf rfl rfl (step_load_ptr ty25 Sr) (Mv rfl rfl (Mv rfl rfl ?_))
 refine Mf rfl rfl (step_indexAddr_sl (i := i) underlying26 ty45 Sr Sr (by rfl) (gb (by exact hit))) ?_
 refine Mf rfl rfl (step_fieldAddr so45 Sr rfl) (Mf rfl rfl (step_load_ptr ty3 Sr) (Mf rfl rfl (step_call0 (refAtom_spec q _ zG) ⟨Sr, Sr, trivial⟩ call45) (Mf rfl rfl (step_lss Sr Sr) (JM_nil ?_))))
 refine J_cond Sr (fun h26 => ?_) (fun h26 => ?_)
 ·
  try simp only [NF] at h26
  refine Jr (Jl rfl ty25 Sr (Jm rfl (Jm rfl (Js rfl (step_add Sr Sr z6) (Jm rfl ?_)))))
  refine Js rfl (step_call0 (ihn (i + 1) ch zG hch zG) ⟨Sr, Sr, Sub.int zG, Sr, trivial⟩ call38) (Ja rfl (JL_nil (J_ret ?_)))
  refine K_ret1 (t := 8) rfl () ?_
  refine Sub.bool ?_
  rw [alw_skip h26]
 try simp only [NF] at h26
 refine J_skip (J_seq (Jr (Ja rfl (JL_nil (J_block ?_)))))
 refine J_loopL (σ := Nat) (fun k => k ≤ i ∧ ∀ t, t < k → sameM q (nth facts t) (nth facts i) = false) (fun k => upd (upd (upd (upd (upd env0 1 (tSl rFact facts)) 2 (tV (.int .i64 i))) 3 (tSl rInt ch)) 4 (tPtr rConj q)) 9 (tV (.int .i64 k))) (fun k => []) (fun k => i - k) 0 ⟨Nat.zero_le _, fun t ht => absurd ht (Nat.not_lt_zero _)⟩ (.u (.u (.u (.u (SubE.upd Sr SubE.any))))) (LSub.rfl) ?_
 rintro k ⟨hk, hv⟩
 refine J_seq (Jr (Jm rfl (Jm rfl (Js rfl (step_lss Sr Sr) (JL_nil ?_)))))
 refine J_cond Sr (fun h35 => ?_) (fun h35 => ?_)
 ·
  try simp only [NF] at h35
  have hki : k < i := by omega
  refine J_skip (J_seq (J_block (J_seq ?_)))
  refine J_draw [⟨0, [4], true⟩, ⟨1, [1], true⟩, ⟨2, [9], true⟩, ⟨3, [39, 40], true⟩, ⟨4, [41], true⟩, ⟨5, [1], true⟩, ⟨6, [2], true⟩, ⟨7, [43, 44], true⟩, ⟨8, [45], true⟩, ⟨9, [38, 42, 46], true⟩] rfl (by kernel_rfl) ?_
  refine Mf rfl rfl (step_load_ptr ty25 Sr) (Mv rfl rfl (Mv rfl rfl ?_))
  refine Mf rfl rfl (step_indexAddr_sl (i := k) underlying26 ty45 Sr Sr (by rfl) (gb (by show k < facts.length; omega))) ?_
  refine Mf rfl rfl (step_load_ptr ty45 Sr) (Mv rfl rfl (Mv rfl rfl ?_))
  refine Mf rfl rfl (step_indexAddr_sl (i := i) underlying26 ty45 Sr Sr (by rfl) (gb (by exact hit))) ?_
  refine Mf rfl rfl (step_load_ptr ty45 Sr) (Mf rfl rfl (step_call0 (refBlock_spec q facts hfit (nth facts k) (nth facts i) (nth_mem zG) (nth_mem hit)) ⟨Sr, Sr, Sr, trivial⟩ call46) (JM_nil ?_))
  refine J_cond Sr (fun h47 => ?_) (fun h47 => ?_)
  ·
   try simp only [NF] at h47
   refine Jr (Jl rfl ty25 Sr (Jm rfl (Jm rfl (Js rfl (step_add Sr Sr z6) (Jm rfl ?_)))))
   refine Js rfl (step_call0 (ihn (i + 1) ch zG hch zG) ⟨Sr, Sr, Sub.int zG, Sr, trivial⟩ call38) (Ja rfl (JL_nil (J_ret ?_)))
   refine K_ret1 (t := 8) rfl () ?_
   refine Sub.bool ?_
   rw [alw_done zG hki h47]
  try simp only [NF] at h47
  refine J_skip (J_region (Jm rfl (Js rfl (step_add Sr Sr z6) (Ja rfl (JL_nil ?_)))))
  refine K_againL (σ := Nat) (s := k) (k + 1) zO ?_ (.u (.u (.u (.u (SubE.upd Sr SubE.any))))) (LSub.rfl)
  refine ⟨hki, fun t ht => ?_⟩
  by_cases e : t = k
  ·
   subst e; exact h47
  exact hv t zG
 try simp only [NF] at h35
 refine J_exit (J_seq (Jr (Jm rfl (Ja rfl (JL_nil ?_)))))
 refine J_block ?_
 refine J_loopL (σ := Nat) (fun k => i ≤ k ∧ k ≤ facts.length ∧ ∀ t, i ≤ t → t < k → (!sameM q (nth facts i) (nth facts t) || alwR q facts n (i + 1) (ch ++ [(t : Int)])) = true) (fun k => upd (upd (upd (upd (upd env0 1 (tSl rFact facts)) 2 (tV (.int .i64 i))) 3 (tSl rInt ch)) 4 (tPtr rConj q)) 10 (tV (.int .i64 k))) (fun k => []) (fun k => facts.length - k) i ⟨Nat.le_refl _, by omega, fun t h1 h2 => by omega⟩ (.u (.u (.u (.u (SubE.upd Sr SubE.any))))) (LSub.rfl) ?_
 rintro k ⟨hik, hkl, hw2⟩
 refine J_seq (Jr (Jm rfl (Jm rfl (Js rfl (step_len_sl underlying26 Sr) (Js rfl (step_lss Sr Sr) ?_)))))
 refine JL_nil ?_
 refine J_cond Sr (fun h58 => ?_) (fun h58 => ?_)
 ·
  try simp only [NF] at h58
  have hkt : k < facts.length := by omega
  refine J_skip (J_seq (J_block (J_seq ?_)))
  by_cases htb : (sameM q (nth facts i) (nth facts k)) = true
  ·
   skip
   refine J_draw [⟨0, [4], true⟩, ⟨1, [1], true⟩, ⟨2, [2], true⟩, ⟨3, [62, 63], true⟩, ⟨4, [64], true⟩, ⟨5, [1], true⟩, ⟨6, [10], true⟩, ⟨7, [66, 67], true⟩, ⟨8, [68], true⟩, ⟨9, [61, 65, 69], true⟩, ⟨10, [70], true⟩, ⟨11, [4, 71], true⟩, ⟨12, [1, 71], true⟩, ⟨13, [2, 71], true⟩, ⟨14, [71, 74], true⟩, ⟨16, [3, 71], true⟩, ⟨18, [10, 71], true⟩, ⟨19, [71, 79], true⟩, ⟨15, [71], false⟩, ⟨17, [71, 76, 77], false⟩, ⟨20, [71, 78, 80], false⟩, ⟨21, [71, 72, 73, 75, 81], false⟩, ⟨22, [71, 82], true⟩, ⟨23, [71, 83], true⟩] rfl (by kernel_rfl) ?_
   refine Mf rfl rfl (step_load_ptr ty25 Sr) (Mv rfl rfl (Mv rfl rfl ?_))
   refine Mf rfl rfl (step_indexAddr_sl (i := i) underlying26 ty45 Sr Sr (by rfl) (gb (by exact hit))) ?_
   refine Mf rfl rfl (step_load_ptr ty45 Sr) (Mv rfl rfl (Mv rfl rfl ?_))
   refine Mf rfl rfl (step_indexAddr_sl (i := k) underlying26 ty45 Sr Sr (by rfl) (gb (by exact hkt))) ?_
   refine Mf rfl rfl (step_load_ptr ty45 Sr) (Mf rfl rfl (step_call0 (refBlock_spec q facts hfit (nth facts i) (nth facts k) (nth_mem hit) (nth_mem hkt)) ⟨Sr, Sr, Sr, trivial⟩ call46) (Mv rfl rfl ?_))
   refine JM_stepG rfl rfl rfl rfl (Gd.cast (u := true) (by show beqB (sameM q (nth facts i) (nth facts k)) true = true; rw [htb]; rfl) (Gd.plain Sr)) rfl rfl (fun hw _ => step_load_ptr ty25 Sr) ?_
   refine JM_stepG rfl rfl rfl rfl (Gd.cast (u := true) (by show beqB (sameM q (nth facts i) (nth facts k)) true = true; rw [htb]; rfl) (Gd.plain Sr)) rfl rfl (fun hw _ => step_move Sr) ?_
   refine JM_stepG rfl rfl rfl rfl (Gd.cast (u := true) (by show beqB (sameM q (nth facts i) (nth facts k)) true = true; rw [htb]; rfl) (Gd.plain Sr)) rfl rfl (fun hw _ => step_move Sr) ?_
   refine JM_stepG rfl rfl rfl rfl (Gd.cast (u := true) (by show beqB (sameM q (nth facts i) (nth facts k)) true = true; rw [htb]; rfl) (Gd.plain Sr)) rfl rfl (fun hw _ => step_add (Sub.w hw) Sr (by have hwq := hw; (try simp only [beqB_t, beqB_f, NF] at hwq); unfold in64; omega)) ?_
   refine JM_stepG rfl rfl rfl rfl (Gd.cast (u := true) (by show beqB (sameM q (nth facts i) (nth facts k)) true = true; rw [htb]; rfl) (Gd.plain Sr)) rfl rfl (fun hw _ => step_move Sr) ?_
   refine JM_stepG rfl rfl rfl rfl (Gd.cast (u := true) (by show beqB (sameM q (nth facts i) (nth facts k)) true = true; rw [htb]; rfl) (Gd.plain Sr)) rfl rfl (fun hw _ => step_move Sr) ?_
   refine JM_stepG rfl rfl rfl rfl (Gd.cast (u := true) (by show beqB (sameM q (nth facts i) (nth facts k)) true = true; rw [htb]; rfl) (Gd.plain Sr)) rfl rfl (fun hw _ => step_literal (ys := [_]) underlying27 el3 ⟨rfl, (Sub.w hw), trivial⟩ rfl (by decide)) ?_
   refine JM_stepXG rfl rfl rfl rfl (Gd.cast (by show beqB (sameM q (nth facts i) (nth facts k)) true = true; rw [htb]; rfl) (Gd.plain Sr)) rfl rfl (step_literal_own (ys := []) underlying27 el3 trivial rfl (by decide)) fun u76 => ?_
   refine JM_stepXG rfl rfl rfl rfl (Gd.cast (by show beqB (sameM q (nth facts i) (nth facts k)) true = true; rw [htb]; rfl) (Gd.plain Sr)) rfl rfl (step_append underlying27 el3 Sr (Sub.w rfl) zS (by simp; omega) (by simp; omega)) fun u78 => ?_
   refine JM_stepXG rfl rfl rfl rfl (Gd.cast (by show beqB (sameM q (nth facts i) (nth facts k)) true = true; rw [htb]; rfl) (Gd.plain Sr)) rfl rfl (step_append underlying27 el3 Sr (Sub.w rfl) zS (by simp; omega) (by simp; omega)) fun u81 => ?_
   refine JM_lookG rfl rfl rfl rfl (Gd.cast (u := true) (by show beqB (sameM q (nth facts i) (nth facts k)) true = true; rw [htb]; rfl) (Gd.plain Sr)) rfl rfl (fun hw => step_call_look (Sel.all _) (ihn (i + 1) (ch ++ [(k : Int)]) zG (hch.snoc hkt) (by rw [List.length_append]; simp; omega)) (fun _ => Flat.v _) ⟨Frz.sub (Sub.w rfl), Frz.sub (Sub.w rfl), Frz.sub (Sub.trans (Sub.w rfl) (Sub.int zG)), Frz.own, trivial⟩ call38) ?_
   refine JM_stepG rfl rfl rfl rfl (Gd.cast (u := true) (by show beqB (sameM q (nth facts i) (nth facts k)) true = true; rw [htb]; rfl) (Gd.plain Sr)) rfl rfl (fun hw _ => step_not (Sub.w hw)) ?_
   refine Mf rfl rfl (step_pick_and Sr (Sub.wt (by show beqB (sameM q (nth facts i) (nth facts k)) true = true; rw [htb]; rfl))) ?_
   refine JM_nil ?_
   refine K_drop (Sel.all _) ?_
   refine J_cond Sr (fun h84 => ?_) (fun h84 => ?_)
   ·
    try simp only [NF] at h84
    refine Jr (Ja rfl (JL_nil (J_ret ?_)))
    refine K_ret1 (t := 8) rfl () ?_
    refine Sub.bool ?_
    rw [alw_here zG fun t ht => hv t zG]
    symm
    rw [List.all_eq_false]
    exact ⟨k, List.mem_range'_1.2 zG, by rw [htb, h84.2]; simp⟩
   try simp only [NF] at h84
   refine J_skip (J_region (Jm rfl (Js rfl (step_add Sr Sr z6) (Ja rfl (JL_nil ?_)))))
   refine K_againL (σ := Nat) (s := k) (k + 1) zO ?_ (.u (.u (.u (.u (SubE.upd Sr SubE.any))))) (LSub.rfl)
   refine ⟨by omega, hkt, fun t h1 h2 => ?_⟩
   by_cases e : t = k
   ·
    subst e; rcases h84 with h84 | h84
    ·
     rw [h84]; rfl
    rw [h84]; simp
   exact hw2 t h1 zG
  skip
  refine J_draw [⟨0, [4], true⟩, ⟨1, [1], true⟩, ⟨2, [2], true⟩, ⟨3, [62, 63], true⟩, ⟨4, [64], true⟩, ⟨5, [1], true⟩, ⟨6, [10], true⟩, ⟨7, [66, 67], true⟩, ⟨8, [68], true⟩, ⟨9, [61, 65, 69], true⟩, ⟨10, [70], true⟩, ⟨11, [4, 71], true⟩, ⟨12, [1, 71], true⟩, ⟨13, [2, 71], true⟩, ⟨14, [71, 74], true⟩, ⟨15, [71], true⟩, ⟨16, [3, 71], true⟩, ⟨17, [71, 76, 77], true⟩, ⟨18, [10, 71], true⟩, ⟨19, [71, 79], true⟩, ⟨20, [71, 78, 80], true⟩, ⟨21, [71, 72, 73, 75, 81], true⟩, ⟨22, [71, 82], true⟩, ⟨23, [71, 83], true⟩] rfl (by kernel_rfl) ?_
  refine Mf rfl rfl (step_load_ptr ty25 Sr) (Mv rfl rfl (Mv rfl rfl ?_))
  refine Mf rfl rfl (step_indexAddr_sl (i := i) underlying26 ty45 Sr Sr (by rfl) (gb (by exact hit))) ?_
  refine Mf rfl rfl (step_load_ptr ty45 Sr) (Mv rfl rfl (Mv rfl rfl ?_))
  refine Mf rfl rfl (step_indexAddr_sl (i := k) underlying26 ty45 Sr Sr (by rfl) (gb (by exact hkt))) ?_
  refine Mf rfl rfl (step_load_ptr ty45 Sr) (Mf rfl rfl (step_call0 (refBlock_spec q facts hfit (nth facts i) (nth facts k) (nth_mem hit) (nth_mem hkt)) ⟨Sr, Sr, Sr, trivial⟩ call46) (Mv rfl rfl ?_))
  refine JM_stepG (w := false) (B := tAny) rfl rfl rfl rfl (Gd.cast (by show beqB (sameM q (nth facts i) (nth facts k)) true = false; rw [Bool.eq_false_iff.2 htb]; rfl) (Gd.plain Sr)) rfl rfl (fun hw _ => by cases hw) ?_
  refine JM_stepG (w := false) (B := tAny) rfl rfl rfl rfl (Gd.cast (by show beqB (sameM q (nth facts i) (nth facts k)) true = false; rw [Bool.eq_false_iff.2 htb]; rfl) (Gd.plain Sr)) rfl rfl (fun hw _ => by cases hw) ?_
  refine JM_stepG (w := false) (B := tAny) rfl rfl rfl rfl (Gd.cast (by show beqB (sameM q (nth facts i) (nth facts k)) true = false; rw [Bool.eq_false_iff.2 htb]; rfl) (Gd.plain Sr)) rfl rfl (fun hw _ => by cases hw) ?_
  refine JM_stepG (w := false) (B := tAny) rfl rfl rfl rfl (Gd.cast (by show beqB (sameM q (nth facts i) (nth facts k)) true = false; rw [Bool.eq_false_iff.2 htb]; rfl) (Gd.plain Sr)) rfl rfl (fun hw _ => by cases hw) ?_
  refine JM_stepG (w := false) (B := tAny) rfl rfl rfl rfl (Gd.cast (by show beqB (sameM q (nth facts i) (nth facts k)) true = false; rw [Bool.eq_false_iff.2 htb]; rfl) (Gd.plain Sr)) rfl rfl (fun hw _ => by cases hw) ?_
  refine JM_stepG (w := false) (B := tAny) rfl rfl rfl rfl (Gd.cast (by show beqB (sameM q (nth facts i) (nth facts k)) true = false; rw [Bool.eq_false_iff.2 htb]; rfl) (Gd.plain Sr)) rfl rfl (fun hw _ => by cases hw) ?_
  refine JM_stepG (w := false) (B := tAny) rfl rfl rfl rfl (Gd.cast (by show beqB (sameM q (nth facts i) (nth facts k)) true = false; rw [Bool.eq_false_iff.2 htb]; rfl) (Gd.plain Sr)) rfl rfl (fun hw _ => by cases hw) ?_
  refine JM_stepG (w := false) (B := tAny) rfl rfl rfl rfl (Gd.cast (by show beqB (sameM q (nth facts i) (nth facts k)) true = false; rw [Bool.eq_false_iff.2 htb]; rfl) (Gd.plain Sr)) rfl rfl (fun hw _ => by cases hw) ?_
  refine JM_stepG (w := false) (B := tAny) rfl rfl rfl rfl (Gd.cast (by show beqB (sameM q (nth facts i) (nth facts k)) true = false; rw [Bool.eq_false_iff.2 htb]; rfl) (Gd.plain Sr)) rfl rfl (fun hw _ => by cases hw) ?_
  refine JM_stepG (w := false) (B := tAny) rfl rfl rfl rfl (Gd.cast (by show beqB (sameM q (nth facts i) (nth facts k)) true = false; rw [Bool.eq_false_iff.2 htb]; rfl) (Gd.plain Sr)) rfl rfl (fun hw _ => by cases hw) ?_
  refine JM_stepG (w := false) (B := tAny) rfl rfl rfl rfl (Gd.cast (by show beqB (sameM q (nth facts i) (nth facts k)) true = false; rw [Bool.eq_false_iff.2 htb]; rfl) (Gd.plain Sr)) rfl rfl (fun hw _ => by cases hw) ?_
  refine JM_stepG (w := false) (B := tAny) rfl rfl rfl rfl (Gd.cast (by show beqB (sameM q (nth facts i) (nth facts k)) true = false; rw [Bool.eq_false_iff.2 htb]; rfl) (Gd.plain Sr)) rfl rfl (fun hw _ => by cases hw) ?_
  refine Mf rfl rfl (step_pick_and Sr (Sub.wf (A := tV (.bool false)) (by show beqB (sameM q (nth facts i) (nth facts k)) true = false; rw [Bool.eq_false_iff.2 htb]; rfl))) ?_
  refine JM_nil ?_
  refine K_drop (Sel.all _) ?_
  refine J_cond Sr (fun h84 => ?_) (fun h84 => ?_)
  ·
   try simp only [NF] at h84
   refine Jr (Ja rfl (JL_nil (J_ret ?_)))
   refine K_ret1 (t := 8) rfl () ?_
   refine Sub.bool ?_
   exfalso; exact htb h84.1
  try simp only [NF] at h84
  refine J_skip (J_region (Jm rfl (Js rfl (step_add Sr Sr z6) (Ja rfl (JL_nil ?_)))))
  refine K_againL (σ := Nat) (s := k) (k + 1) zO ?_ (.u (.u (.u (.u (SubE.upd Sr SubE.any))))) (LSub.rfl)
  refine ⟨by omega, hkt, fun t h1 h2 => ?_⟩
  by_cases e : t = k
  ·
   subst e; rw [Bool.eq_false_iff.2 htb]; rfl
  exact hw2 t h1 zG
 try simp only [NF] at h58
 refine J_exit (Jr (Ja rfl (JL_nil (J_ret ?_))))
 refine K_ret1 (t := 8) rfl () ?_
 refine Sub.bool ?_
 rw [alw_here zG fun t ht => hv t zG]
 symm
 rw [List.all_eq_true]
 exact fun t ht => by have := List.mem_range'_1.1 ht; exact hw2 t zG zG
theorem rAlw_spec (q : GConj) (facts : List GFact) (hfit : fitM q facts = true) (hfl : facts.length ≤ 1000) : ∀ n, AlwS q facts n
  | 0 => fun i ch hi hc hl => rAlways1_spec q facts hfit hfl 0 i ch hi hc hl fun k e => by cases e
  | n + 1 => fun i ch hi hc hl => rAlways1_spec q facts hfit hfl (n + 1) i ch hi hc hl fun k e => by
    have : k = n := by omega
    subst this
    exact rAlw_spec q facts hfit hfl k
open Go Go.Proofs Go.Proofs.Tryz
def bsA (q : GConj) (facts : List GFact) (ats : List Int) : List (List (Bnd GValue)) := (List.range ats.length).map fun i => bnd (nth q.Atoms i) (fctA facts ats i)
theorem bnd_at (a : GAtom) (f : GFact) (k : Nat) : (bnd a f)[k]? = if k < a.Terms.length then some (nth a.Terms k, valAt a f k) else none := by
  unfold bnd
  by_cases h : k < a.Terms.length
  · rw [if_pos h]; simp [h, valAt]
  · rw [if_neg h]; simp; omega
theorem mem_bnd {a : GAtom} {f : GFact} {x : Bnd GValue} : x ∈ bnd a f ↔ ∃ k, k < a.Terms.length ∧ x = (nth a.Terms k, valAt a f k) := by
  constructor
  · intro h
    obtain ⟨k, hk⟩ := List.getElem?_of_mem h
    rw [bnd_at] at hk
    split at hk
    · rename_i h2; exact ⟨k, h2, (Option.some.inj hk).symm⟩
    · cases hk
  · rintro ⟨k, hk, rfl⟩
    exact List.mem_of_getElem? (i := k) (by rw [bnd_at, if_pos hk])
def qyA (q : GConj) (ats : List Int) : Qy GValue GFact := ⟨ats.length, fun i => (nth q.Atoms i).Terms, fun i => (nth q.Atoms i).Key.toNat, fun i f => bnd (nth q.Atoms i) f⟩
open Classical in
theorem mat_ok (q : GConj) (facts : List GFact) (ats : List Int) : matB q facts ats = true ↔ okB (eqT q) (bsA q facts ats).flatten := by
  have h1 : okB (eqT q) (bsA q facts ats).flatten ↔ okP (eqT q) (qyA q ats) (fctA facts ats) := (okP_iff (T := eqT q) (Q := qyA q ats) (p := fctA facts ats)).symm
  rw [h1]
  unfold matB
  rw [decide_eq_true_eq]
  constructor
  · intro h
    refine ⟨fun i hi x hx h0 => ?_, fun i j k m hi hj hne x y hx hy e h0 => ?_⟩
    · obtain ⟨k, hk, rfl⟩ := mem_bnd.1 hx
      exact (h i hi k hk).1 h0
    · have hx : (bnd (nth q.Atoms i) (fctA facts ats i))[k]? = some x := hx
      have hy : (bnd (nth q.Atoms j) (fctA facts ats j))[m]? = some y := hy
      rw [bnd_at] at hx hy
      split at hx
      · split at hy
        · rename_i a1 a2
          have hx := Option.some.inj hx; have hy := Option.some.inj hy
          subst hx; subst hy
          refine (h i hi k a1).2 h0 j hj m a2 ?_ e.symm
          rcases Nat.lt_trichotomy j i with q1 | q1 | q1
          · exact .inl (by omega)
          · subst q1; exact .inr fun q2 => hne (by rw [q2])
          · exact .inl (by omega)
        · cases hy
      · cases hx
  · rintro ⟨h2, h3⟩ i hi k hk
    refine ⟨fun h0 => h2 i hi _ (mem_bnd.2 ⟨k, hk, rfl⟩) h0, fun h0 m hm n hn hne e => ?_⟩
    exact h3 i m k n hi hm (fun q => by injection q with q1 q2; rcases hne with h | h; exact h q1.symm; exact h q2.symm) (nth (nth q.Atoms i).Terms k, vl q facts ats i k) (nth (nth q.Atoms m).Terms n, vl q facts ats m n) (by show (bnd _ _)[k]? = _; rw [bnd_at, if_pos hk]) (by show (bnd _ _)[n]? = _; rw [bnd_at, if_pos hn]) e.symm h0
theorem nth_append_lt {α : Type} [Inhabited α] {l m : List α} {i : Nat} (h : i < l.length) : nth (l ++ m) i = nth l i := by
  rw [nth_get (by simp; omega), nth_get h, List.getElem_append_left h]
open Classical in
theorem mat_mono {q : GConj} {facts : List GFact} {ats cs : List Int} (h : matB q facts (ats ++ cs) = true) : matB q facts ats = true := by
  unfold matB at h ⊢
  rw [decide_eq_true_eq] at h ⊢
  have e : ∀ i, i < ats.length → fctA facts (ats ++ cs) i = fctA facts ats i := fun i hi => by
    show nth facts (nth (ats ++ cs) i).toNat = _
    rw [nth_append_lt hi]
  intro i hi k hk
  have h1 := h i (by rw [List.length_append]; omega) k hk
  refine ⟨fun h0 => ?_, fun h0 m hm n hn hne et => ?_⟩
  · have := h1.1 h0
    unfold vl at this ⊢
    rwa [e i hi] at this
  · have := h1.2 h0 m (by rw [List.length_append]; omega) n hn hne et
    unfold vl at this ⊢
    rwa [e i hi, e m hm] at this
theorem hld_iff {q : GConj} {facts : List GFact} {set : List Int} : ∀ (n : Nat) (ats : List Int), hldR q facts set n ats = true ↔ ∃ cs : List Int, cs.length = n ∧ (∀ t, t < n → nth cs t ∈ set ∧ tbE q facts (ats.length + t) (nth cs t) = true) ∧ matB q facts (ats ++ cs) = true
  | 0, ats => by
    unfold hldR
    constructor
    · intro h; exact ⟨[], rfl, fun t ht => absurd ht (Nat.not_lt_zero _), by simpa using h⟩
    · rintro ⟨cs, hl, _, h⟩
      have : cs = [] := List.eq_nil_of_length_eq_zero hl
      subst this; simpa using h
  | n + 1, ats => by
    show (matB q facts ats && set.any fun j => tbE q facts ats.length j && hldR q facts set n (ats ++ [j])) = true ↔ _
    rw [Bool.and_eq_true, List.any_eq_true]
    constructor
    · rintro ⟨_, j, hj, h⟩
      rw [Bool.and_eq_true] at h
      obtain ⟨cs, hl, h1, h2⟩ := (hld_iff n (ats ++ [j])).1 h.2
      refine ⟨j :: cs, by simp [hl], fun t ht => ?_, by simpa using h2⟩
      match t, ht with
      | 0, _ => exact ⟨hj, h.1⟩
      | t + 1, ht =>
        have := h1 t (by omega)
        rw [List.length_append, List.length_singleton] at this
        rw [show ats.length + (t + 1) = ats.length + 1 + t by omega]
        exact this
    · rintro ⟨cs, hl, h1, h2⟩
      match cs, hl with
      | j :: cs, hl =>
        have h0 := h1 0 (by omega)
        refine ⟨mat_mono h2, j, h0.1, ?_⟩
        rw [Bool.and_eq_true]
        refine ⟨h0.2, (hld_iff n (ats ++ [j])).2 ⟨cs, by simpa using hl, fun t ht => ?_, by simpa using h2⟩⟩
        have := h1 (t + 1) (by omega)
        rw [show ats.length + (t + 1) = (ats ++ [j]).length + t by simp; omega] at this
        exact this
theorem pick_of {α β : Type} [Inhabited α] [Inhabited β] {F : α → List β} : ∀ {L : List α} {fs : List β}, fs.length = L.length → (∀ i, i < L.length → nth fs i ∈ F (nth L i)) → Pick (L.map F) fs
  | [], [], _, _ => trivial
  | [], _ :: _, h, _ => by simp at h
  | _ :: _, [], h, _ => by simp at h
  | a :: L, f :: fs, h, hp => ⟨hp 0 (by simp), pick_of (by simpa using h) fun i hi => hp (i + 1) (by simpa using hi)⟩
theorem cand_mem {facts : List GFact} {set : List Int} {a : GAtom} {f : GFact} : f ∈ candA facts set a ↔ ∃ j ∈ set, 0 ≤ j ∧ j < (facts.length : Int) ∧ (nth facts j.toNat).Table = a.Table ∧ f = nth facts j.toNat := by
  unfold candA
  rw [List.mem_filterMap]
  constructor
  · rintro ⟨j, hj, e⟩
    split at e
    · rename_i h; exact ⟨j, hj, h.1, h.2.1, h.2.2, (Option.some.inj e).symm⟩
    · cases e
  · rintro ⟨j, hj, h1, h2, h3, rfl⟩
    exact ⟨j, hj, by rw [if_pos ⟨h1, h2, h3⟩]⟩
theorem hold_ref {q : GConj} {facts : List GFact} {set : List Int} (hfit : fitM q facts = true) (hset : InR facts set) : hldR q facts set q.Atoms.length [] = holdsM q facts set := by
  rw [Bool.eq_iff_iff, holds_set hfit, hld_iff, HoldP_iff (eqT q) _ (okB_nil (eqT q))]
  constructor
  · rintro ⟨cs, hl, h1, h2⟩
    refine ⟨bsA q facts cs, pick_of (by simp [bsA, hl]) fun i hi => ?_, by rw [List.nil_append] at h2 ⊢; exact (mat_ok q facts cs).1 h2⟩
    obtain ⟨h3, h4⟩ := h1 i hi
    have h5 := hset _ h3
    unfold bsA
    rw [nth_range_map (by omega)]
    refine List.mem_map.2 ⟨fctA facts cs i, cand_mem.2 ⟨nth cs i, h3, h5.1, h5.2, ?_, rfl⟩, rfl⟩
    unfold tbE at h4
    simpa using h4
  · rintro ⟨fs, hp, hok⟩
    obtain ⟨hl, hpf⟩ := pick_fn hp
    have hex : ∀ i, ∃ j : Int, i < q.Atoms.length → j ∈ set ∧ (nth facts j.toNat).Table = (nth q.Atoms i).Table ∧ bnd (nth q.Atoms i) (nth facts j.toNat) = nth fs i := fun i => by
      by_cases hi : i < q.Atoms.length
      · obtain ⟨f, hf, e⟩ := List.mem_map.1 (hpf i hi)
        obtain ⟨j, hj, _, _, ht, rfl⟩ := cand_mem.1 hf
        exact ⟨j, fun _ => ⟨hj, ht, e⟩⟩
      · exact ⟨0, fun h => absurd h hi⟩
    let g : Nat → Int := fun i => Classical.choose (hex i)
    have hg : ∀ i, i < q.Atoms.length → g i ∈ set ∧ (nth facts (g i).toNat).Table = (nth q.Atoms i).Table ∧ bnd (nth q.Atoms i) (nth facts (g i).toNat) = nth fs i := fun i hi => Classical.choose_spec (hex i) hi
    refine ⟨(List.range q.Atoms.length).map g, by simp, fun t ht => ?_, ?_⟩
    · rw [nth_range_map ht]
      refine ⟨(hg t ht).1, ?_⟩
      unfold tbE
      rw [List.length_nil, Nat.zero_add, decide_eq_true (hg t ht).2.1]
    · rw [List.nil_append, mat_ok]
      have e : bsA q facts ((List.range q.Atoms.length).map g) = fs := by
        refine list_ext (by simp [bsA, hl]) fun i hi => ?_
        have hi : i < q.Atoms.length := by simpa [bsA] using hi
        unfold bsA
        rw [nth_range_map (by simpa using hi)]
        show bnd _ (nth facts (nth ((List.range q.Atoms.length).map g) i).toNat) = _
        rw [nth_range_map hi]
        exact (hg i hi).2.2
      rw [e]
      rw [List.nil_append] at hok
      exact hok
/-! Every choice -/
def fstI (q : GConj) (facts : List GFact) (i : Nat) : Bool := !decide (atomI q (nth facts i).Table < 0) && !((List.range i).any fun k => sameM q (nth facts k) (nth facts i))
def picks (q : GConj) (facts : List GFact) (σ : Nat → Nat) (i n : Nat) : List Int := (List.range' i n).flatMap fun j => if fstI q facts j then [(σ j : Int)] else []
def OkS (q : GConj) (facts : List GFact) (σ : Nat → Nat) : Prop := ∀ j, j < facts.length → fstI q facts j = true → j ≤ σ j ∧ σ j < facts.length ∧ sameM q (nth facts j) (nth facts (σ j)) = true
theorem picks_succ (q : GConj) (facts : List GFact) (σ : Nat → Nat) (i n : Nat) : picks q facts σ i (n + 1) = (if fstI q facts i then [(σ i : Int)] else []) ++ picks q facts σ (i + 1) n := by
  unfold picks
  rw [List.range'_succ, List.flatMap_cons]
theorem picks_congr {q : GConj} {facts : List GFact} {σ τ : Nat → Nat} {i n : Nat} (h : ∀ j, i ≤ j → σ j = τ j) : picks q facts σ i n = picks q facts τ i n := by
  unfold picks
  rw [List.flatMap_def, List.flatMap_def]
  congr 1
  refine List.map_congr_left fun j hj => ?_
  rw [h j (List.mem_range'_1.1 hj).1]
theorem fst_atom {q : GConj} {facts : List GFact} (hfit : fitM q facts = true) {i : Nat} (hi : i < facts.length) (h : ¬ atomI q (nth facts i).Table < 0) : sameM q (nth facts i) (nth facts i) = true := by
  obtain ⟨a, _, ha, ht, _⟩ := (atomI_at (fit_valid hfit) (nth facts i).Table).1 (by omega)
  exact same_self hfit (nth_mem hi) ha ht.symm
theorem alw_iff {q : GConj} {facts : List GFact} (hfit : fitM q facts = true) : ∀ (n i : Nat) (ch : List Int), i + n = facts.length → (alwR q facts n i ch = true ↔ ∀ σ, OkS q facts σ → hldR q facts (ch ++ picks q facts σ i n) q.Atoms.length [] = true)
  | 0, i, ch, _ => by
    have e : ∀ σ, picks q facts σ i 0 = [] := fun σ => rfl
    constructor
    · intro h σ _; rw [e, List.append_nil]; exact h
    · intro h
      have := h (fun j => j) fun j hj hf => ⟨Nat.le_refl _, hj, by
        unfold fstI at hf
        simp only [Bool.and_eq_true, Bool.not_eq_true', decide_eq_false_iff_not] at hf
        exact fst_atom hfit hj hf.1⟩
      rw [e, List.append_nil] at this; exact this
  | n + 1, i, ch, hin => by
    have ih := fun ch' => alw_iff hfit n (i + 1) ch' (by omega)
    by_cases h1 : atomI q (nth facts i).Table < 0
    · rw [alw_skip h1, ih]
      have hf : fstI q facts i = false := by unfold fstI; rw [decide_eq_true h1]; rfl
      have e : ∀ σ, picks q facts σ i (n + 1) = picks q facts σ (i + 1) n := fun σ => by rw [picks_succ, hf]; rfl
      simp only [e]
    · by_cases h2 : ∃ k, k < i ∧ sameM q (nth facts k) (nth facts i) = true
      · obtain ⟨k, hk, hs⟩ := h2
        rw [alw_done h1 hk hs, ih]
        have hf : fstI q facts i = false := by
          unfold fstI
          rw [List.any_eq_true.2 ⟨k, List.mem_range.2 hk, hs⟩]; simp
        have e : ∀ σ, picks q facts σ i (n + 1) = picks q facts σ (i + 1) n := fun σ => by rw [picks_succ, hf]; rfl
        simp only [e]
      · have h3 : ∀ k, k < i → sameM q (nth facts k) (nth facts i) = false := fun k hk => Bool.eq_false_iff.2 fun h => h2 ⟨k, hk, h⟩
        have hf : fstI q facts i = true := by
          unfold fstI
          rw [decide_eq_false h1, List.any_eq_false.2 fun k hk => by rw [h3 k (List.mem_range.1 hk)]; simp]; rfl
        rw [alw_here h1 h3, List.all_eq_true]
        have e : ∀ σ, picks q facts σ i (n + 1) = [(σ i : Int)] ++ picks q facts σ (i + 1) n := fun σ => by rw [picks_succ, hf]; rfl
        constructor
        · intro h σ hσ
          obtain ⟨a1, a2, a3⟩ := hσ i (by omega) hf
          have := h (σ i) (List.mem_range'_1.2 (by omega))
          rw [a3, Bool.not_true, Bool.false_or] at this
          rw [e, ← List.append_assoc]
          exact (ih _).1 this σ hσ
        · intro h k hk
          have hk := List.mem_range'_1.1 hk
          cases hs : sameM q (nth facts i) (nth facts k) with
          | false => rfl
          | true =>
            rw [Bool.not_true, Bool.false_or]
            refine (ih _).2 fun σ hσ => ?_
            have hσ' : OkS q facts (fun j => if j = i then k else σ j) := fun j hj hfj => by
              show j ≤ (if j = i then k else σ j) ∧ (if j = i then k else σ j) < facts.length ∧ sameM q (nth facts j) (nth facts (if j = i then k else σ j)) = true
              by_cases ej : j = i
              · subst ej; rw [if_pos rfl]; exact ⟨hk.1, by omega, hs⟩
              · rw [if_neg ej]; exact hσ j hj hfj
            have h4 := h _ hσ'
            rw [e] at h4
            have e1 : (if i = i then k else σ i) = k := if_pos rfl
            simp only [e1] at h4
            rw [picks_congr (σ := fun j => if j = i then k else σ j) (τ := σ) (fun j hj => if_neg (by omega)), ← List.append_assoc] at h4
            exact h4
theorem mem_picks {q : GConj} {facts : List GFact} {σ : Nat → Nat} {x : Int} : x ∈ picks q facts σ 0 facts.length ↔ ∃ m, m < facts.length ∧ fstI q facts m = true ∧ x = (σ m : Int) := by
  unfold picks
  rw [List.mem_flatMap]
  constructor
  · rintro ⟨m, hm, h⟩
    have hm := List.mem_range'_1.1 hm
    by_cases hf : fstI q facts m = true
    · rw [if_pos hf, List.mem_singleton] at h
      exact ⟨m, by omega, hf, h⟩
    · rw [if_neg hf] at h; cases h
  · rintro ⟨m, hm, hf, rfl⟩
    exact ⟨m, List.mem_range'_1.2 (by omega), by rw [if_pos hf]; simp⟩
theorem picks_in {q : GConj} {facts : List GFact} {σ : Nat → Nat} (h : OkS q facts σ) : InR facts (picks q facts σ 0 facts.length) := fun x hx => by
  obtain ⟨m, hm, hf, rfl⟩ := mem_picks.1 hx
  have := (h m hm hf).2.1
  omega
theorem atomI_not {q : GConj} {i : Nat} (hi : i < q.Atoms.length) {t : Int} (h : t = (nth q.Atoms i).Table) (hq : validQ q = true) : ¬ atomI q t < 0 := fun hn =>
  ((atomI_at hq t).2 hn).2 i hi h.symm
theorem picks_meets {q : GConj} {facts : List GFact} (hfit : fitM q facts = true) {σ : Nat → Nat} (hσ : OkS q facts σ) {i : Nat} (hi : i < q.Atoms.length) {f : GFact} (hf : f ∈ facts) (ht : f.Table = (nth q.Atoms i).Table) :
    ∃ k : Nat, (k : Int) ∈ picks q facts σ 0 facts.length ∧ k < facts.length ∧ (nth facts k).Table = (nth q.Atoms i).Table ∧ kyF (nth q.Atoms i) (nth facts k) = kyF (nth q.Atoms i) f := by
  obtain ⟨j, hj, rfl⟩ := List.getElem_of_mem hf
  rw [← nth_get hj] at hf ht ⊢
  obtain ⟨m, hmj, ⟨hm1, hm2, hm3⟩, hmin⟩ := least (P := fun m => m < facts.length ∧ (nth facts m).Table = (nth q.Atoms i).Table ∧ kyF (nth q.Atoms i) (nth facts m) = kyF (nth q.Atoms i) (nth facts j)) (n := j) ⟨hj, ht, rfl⟩
  have hfst : fstI q facts m = true := by
    unfold fstI
    rw [decide_eq_false (atomI_not hi hm2 (fit_valid hfit)), List.any_eq_false.2 fun k hk hs => ?_]
    · rfl
    · have hk := List.mem_range.1 hk
      obtain ⟨i', hi', t1, t2⟩ := same_tab hs
      have : i' = i := valid_inj (fit_valid hfit) hi' hi (t2.symm.trans hm2)
      subst this
      exact hmin k hk ⟨by omega, t1, ((same_iff hfit (nth_mem (by omega)) (nth_mem hm1) hi t1 t2).1 hs).trans hm3⟩
  obtain ⟨a1, a2, a3⟩ := hσ m hm1 hfst
  obtain ⟨b1, b2, b3⟩ := (kR_iff hfit hi hm1 hm2).1 ⟨hm1, a2, a3⟩
  exact ⟨σ m, mem_picks.2 ⟨m, hm1, hfst, rfl⟩, a2, b2, b3.trans hm3⟩
theorem alw_cert {q : GConj} {facts : List GFact} (hfit : fitM q facts = true) (hf : firstM q = true) : alwR q facts facts.length 0 [] = certB q facts := by
  have hq := fit_valid hfit
  rw [Bool.eq_iff_iff, alw_iff hfit facts.length 0 [] (by omega)]
  constructor
  · intro h
    rw [cert_sem hfit hf]
    intro c hc
    have hex : ∀ m, ∃ y : Nat, m < facts.length → fstI q facts m = true → y < facts.length ∧ ∃ i, i < q.Atoms.length ∧ (nth facts m).Table = (nth q.Atoms i).Table ∧ nth facts y = c (nth q.Atoms i) (vlsA (nth q.Atoms i) (nth facts m)) := fun m => by
      by_cases hm : m < facts.length
      · by_cases hfm : fstI q facts m = true
        · have hat : ¬ atomI q (nth facts m).Table < 0 := by
            unfold fstI at hfm
            simp only [Bool.and_eq_true, Bool.not_eq_true', decide_eq_false_iff_not] at hfm
            exact hfm.1
          obtain ⟨i, _, hi, ht, _⟩ := (atomI_at hq (nth facts m).Table).1 (by omega)
          obtain ⟨g1, _, _⟩ := hc _ (nth_mem hi) _ (nth_mem hm) ht.symm
          obtain ⟨y, hy, ey⟩ := List.getElem_of_mem g1
          exact ⟨y, fun _ _ => ⟨hy, i, hi, ht.symm, by rw [nth_get hy, ey]⟩⟩
        · exact ⟨0, fun _ h2 => absurd h2 hfm⟩
      · exact ⟨0, fun h1 => absurd h1 hm⟩
    let σ : Nat → Nat := fun m => Classical.choose (hex m)
    have hs := fun m => Classical.choose_spec (hex m)
    have hOk : OkS q facts σ := fun m hm hfm => by
      obtain ⟨h1, i, hi, ht, e⟩ := hs m hm hfm
      obtain ⟨g1, g2, g3⟩ := hc _ (nth_mem hi) _ (nth_mem hm) ht
      have tx : (nth facts (σ m)).Table = (nth q.Atoms i).Table := by show (nth facts (Classical.choose (hex m))).Table = _; rw [e]; exact g2
      have vx : vlsA (nth q.Atoms i) (nth facts (σ m)) = vlsA (nth q.Atoms i) (nth facts m) := by show vlsA _ (nth facts (Classical.choose (hex m))) = _; rw [e]; exact g3
      have hk := (vls_fit hfit hi (nth_mem h1) (nth_mem hm) tx ht).1 vx
      refine ⟨Classical.byContradiction fun hlt => ?_, h1, (same_iff hfit (nth_mem hm) (nth_mem h1) hi ht tx).2 hk.symm⟩
      unfold fstI at hfm
      simp only [Bool.and_eq_true, Bool.not_eq_true', List.any_eq_false] at hfm
      exact hfm.2 (σ m) (List.mem_range.2 (by omega)) ((same_iff hfit (nth_mem h1) (nth_mem hm) hi tx ht).2 hk)
    have h1 := h σ hOk
    rw [List.nil_append, hold_ref hfit (picks_in hOk), holds_set hfit] at h1
    refine HoldP_mono (eqT q) (all2_map fun a ha => ?_) h1
    intro b hb
    obtain ⟨f, hf1, rfl⟩ := List.mem_map.1 hb
    obtain ⟨j, hj, _, _, ht, rfl⟩ := cand_mem.1 hf1
    obtain ⟨m, hm, hfm, rfl⟩ := mem_picks.1 hj
    rw [Int.toNat_natCast] at ht ⊢
    obtain ⟨h2, i, hi, tm, e⟩ := hs m hm hfm
    obtain ⟨g1, g2, g3⟩ := hc _ (nth_mem hi) _ (nth_mem hm) tm
    have e : nth facts (σ m) = c (nth q.Atoms i) (vlsA (nth q.Atoms i) (nth facts m)) := e
    obtain ⟨i', hi', rfl⟩ := List.getElem_of_mem ha
    rw [← nth_get hi'] at ht ⊢
    have : i' = i := valid_inj hq hi' hi (ht.symm.trans (by rw [e]; exact g2))
    subst this
    refine List.mem_map.2 ⟨nth facts (σ m), mem_tabL.2 ⟨nth_mem h2, ht⟩, ?_⟩
    have ev : vlsA (nth q.Atoms i') (nth facts (σ m)) = vlsA (nth q.Atoms i') (nth facts m) := by rw [e]; exact g3
    rw [ev, ← e]
  · intro h σ hσ
    rw [List.nil_append, hold_ref hfit (picks_in hσ)]
    rw [cert_iff hfit hf] at h
    rw [holds_set hfit]
    refine HoldP_perm (eqT q) ((sorted_perm hf).map _) ?_
    refine Cert_hold (eqT q) (all2_map fun a ha => ?_) h
    obtain ⟨i, hi, rfl⟩ := sorted_mem hf ha
    intro b hb
    obtain ⟨b0, hb0, rfl⟩ := List.mem_map.1 hb
    obtain ⟨f, hf1, hf2, hf3⟩ := (blk_grp (nth q.Atoms i) facts b0.2).1 ⟨b0, hb0, rfl⟩
    obtain ⟨k, hk1, hk2, hk3, hk4⟩ := picks_meets hfit hσ hi hf1 hf2
    exact ⟨bnd (nth q.Atoms i) (nth facts k), List.mem_map.2 ⟨nth facts k, by rw [hf3, mem_grpF]; exact ⟨nth_mem hk2, hk3, hk4⟩, rfl⟩, List.mem_map.2 ⟨nth facts k, cand_mem.2 ⟨(k : Int), hk1, by omega, by omega, by rw [Int.toNat_natCast]; exact hk3, by rw [Int.toNat_natCast]⟩, rfl⟩⟩
theorem holds_in {q : GConj} {facts : List GFact} {set : List Int} (hfit : fitM q facts = true) : hldR q facts (inS set facts.length) q.Atoms.length [] = holdsM q facts set := by
  rw [hold_ref hfit (inS_in set facts), Bool.eq_iff_iff]
  have hin : ∀ x ∈ inS set facts.length, x ∈ set := fun x hx => by
    unfold inS at hx
    obtain ⟨i, hi, rfl⟩ := List.mem_map.1 hx
    simpa using (List.mem_filter.1 hi).2
  constructor
  · exact holds_mono hin
  · intro h
    rw [holds_set hfit] at h ⊢
    refine HoldP_mono (eqT q) (all2_map fun a _ => ?_) h
    intro b hb
    obtain ⟨f, hf, rfl⟩ := List.mem_map.1 hb
    obtain ⟨j, hj, h0, h1, ht, rfl⟩ := cand_mem.1 hf
    refine List.mem_map.2 ⟨_, cand_mem.2 ⟨j, ?_, h0, h1, ht, rfl⟩, rfl⟩
    unfold inS
    exact List.mem_map.2 ⟨j.toNat, List.mem_filter.2 ⟨List.mem_range.2 (by omega), by rw [show ((j.toNat : Nat) : Int) = j by omega]; simpa using hj⟩, by omega⟩
open Go Go.Proofs Go.Proofs.Tryz
def varsM (n : Int) (ts : List Int) : List Bool := (List.range n.toNat).map fun (v : Nat) => decide ((v : Int) ∈ ts)
theorem varsM_len (n : Int) (ts : List Int) : (varsM n ts).length = n.toNat := by simp [varsM]
theorem varsM_nth {n : Int} {ts : List Int} {v : Nat} (h : v < n.toNat) : nth (varsM n ts) v = decide ((v : Int) ∈ ts) := nth_range_map h
theorem varsM_nil (n : Int) : varsM n [] = List.replicate n.toNat false := list_ext (by simp [varsM]) fun i hi => by
  rw [varsM_len] at hi
  rw [varsM_nth hi, nth_get (l := List.replicate n.toNat false) (by simpa using hi)]; simp
theorem varsM_set {n : Int} {ts : List Int} {i : Nat} (hi : i < ts.length) (h0 : 0 ≤ nth ts i) (h1 : nth ts i < n) : (varsM n (ts.take i)).set (nth ts i).toNat true = varsM n (ts.take (i + 1)) := list_ext (by simp [varsM_len]) fun j hj => by
  rw [List.length_set, varsM_len] at hj
  rw [Lg.nth_set (by rw [varsM_len]; exact hj), varsM_nth hj, varsM_nth hj, takeB hi]
  by_cases e : (nth ts i).toNat = j
  · rw [if_pos e]
    have : (j : Int) = nth ts i := by omega
    simp [this]
  · rw [if_neg e]
    have : (j : Int) ≠ nth ts i := by omega
    simp [this]
theorem varsM_neg {n : Int} {ts : List Int} {i : Nat} (hi : i < ts.length) (h0 : nth ts i < 0) : varsM n (ts.take (i + 1)) = varsM n (ts.take i) := list_ext (by simp [varsM_len]) fun j hj => by
  rw [varsM_len] at hj
  rw [varsM_nth hj, varsM_nth hj, takeB hi]
  have : (j : Int) ≠ nth ts i := by omega
  simp [this]
def withinM (a b : List Bool) : Bool := (List.range a.length).all fun i => !nth a i || nth b i
def orM (out all : List Bool) (v : Nat) : List Bool := (List.range out.length).map fun u => nth out u || (decide (u < v) && nth all u)
theorem orM_len (out all : List Bool) (v : Nat) : (orM out all v).length = out.length := by simp [orM]
theorem orM_nth {out all : List Bool} {v u : Nat} (h : u < out.length) : nth (orM out all v) u = (nth out u || (decide (u < v) && nth all u)) := nth_range_map h
theorem orM_zero (out all : List Bool) : orM out all 0 = out := list_ext (orM_len _ _ _) fun i hi => by rw [orM_len] at hi; rw [orM_nth hi]; simp
theorem orM_succ {out all : List Bool} {v : Nat} (hv : v < out.length) : (orM out all v).set v (nth (orM out all v) v || nth all v) = orM out all (v + 1) := list_ext (by simp [orM_len]) fun j hj => by
  rw [List.length_set, orM_len] at hj
  rw [Lg.nth_set (by rw [orM_len]; exact hj), orM_nth hv, orM_nth hj, orM_nth hj]
  by_cases e : v = j
  · subst e; simp
  · rw [if_neg e]
    have : (j < v + 1) ↔ (j < v) := by omega
    simp [this]
def clStep (q : GConj) (w : Int) (out : List Bool) (i : Nat) : List Bool := if (i : Int) = w ∨ withinM (varsM q.Vars (keyT q i)) out = false then out else orM out (varsM q.Vars (nth q.Atoms i).Terms) q.Vars.toNat
def rndM (q : GConj) (w : Int) (out : List Bool) (n : Nat) : List Bool := (List.range n).foldl (clStep q w) out
def closedM (q : GConj) (w : Int) (set : List Bool) : Nat → List Bool
  | 0 => set
  | n + 1 => rndM q w (closedM q w set n) q.Atoms.length
theorem rnd_succ (q : GConj) (w : Int) (out : List Bool) (n : Nat) : rndM q w out (n + 1) = clStep q w (rndM q w out n) n := by unfold rndM; rw [List.range_succ, List.foldl_append]; rfl
theorem clStep_len (q : GConj) (w : Int) (out : List Bool) (i : Nat) : (clStep q w out i).length = out.length := by unfold clStep; split; rfl; exact orM_len _ _ _
theorem rnd_len (q : GConj) (w : Int) (out : List Bool) : ∀ n, (rndM q w out n).length = out.length
  | 0 => rfl
  | n + 1 => by rw [rnd_succ, clStep_len, rnd_len q w out n]
theorem closed_len (q : GConj) (w : Int) (set : List Bool) : ∀ n, (closedM q w set n).length = set.length
  | 0 => rfl
  | n + 1 => by show (rndM _ _ _ _).length = _; rw [rnd_len, closed_len q w set n]
structure AtV (q : GConj) (i : Nat) : Prop where
  tl : (nth q.Atoms i).Terms.length ≤ 12
  k0 : 0 ≤ (nth q.Atoms i).Key
  kt : (nth q.Atoms i).Key.toNat ≤ (nth q.Atoms i).Terms.length
  up : ∀ t ∈ (nth q.Atoms i).Terms, t < q.Vars
theorem at_v {q : GConj} (hq : validQ q = true) {i : Nat} (hi : i < q.Atoms.length) : AtV q i := by
  obtain ⟨h1, h2, h3, h4, h5⟩ := valid_cols hq (nth_mem hi)
  refine ⟨by omega, by omega, by omega, fun t ht => ?_⟩
  obtain ⟨k, hk, rfl⟩ := List.getElem_of_mem ht
  rw [← nth_get hk]
  exact (h5 k (by omega)).2.1
/-! Attacks -/
def lnkR (q : GConj) (plus : List Bool) (g h : Nat) (n : Nat) : Bool := (List.range n).any fun v => (nth (varsM q.Vars (nth q.Atoms g).Terms) v && nth (varsM q.Vars (nth q.Atoms h).Terms) v) && !nth plus v
def rowR (q : GConj) (plus : List Bool) (g : Nat) (r : List Bool) (n : Nat) : List Bool := (List.range n).foldl (fun r h => r.set h (nth r h || lnkR q plus g h q.Vars.toNat)) r
def rcStep (q : GConj) (plus : List Bool) (r : List Bool) (g : Nat) : List Bool := if nth r g = true then rowR q plus g r q.Atoms.length else r
def rcRnd (q : GConj) (plus : List Bool) (r : List Bool) (n : Nat) : List Bool := (List.range n).foldl (rcStep q plus) r
def reachM (q : GConj) (plus : List Bool) (r : List Bool) : Nat → List Bool
  | 0 => r
  | n + 1 => rcRnd q plus (reachM q plus r n) q.Atoms.length
theorem row_succ (q : GConj) (plus : List Bool) (g : Nat) (r : List Bool) (n : Nat) : rowR q plus g r (n + 1) = (rowR q plus g r n).set n (nth (rowR q plus g r n) n || lnkR q plus g n q.Vars.toNat) := by unfold rowR; rw [List.range_succ, List.foldl_append]; rfl
theorem row_len (q : GConj) (plus : List Bool) (g : Nat) (r : List Bool) : ∀ n, (rowR q plus g r n).length = r.length
  | 0 => rfl
  | n + 1 => by rw [row_succ, List.length_set, row_len q plus g r n]
theorem rcStep_len (q : GConj) (plus : List Bool) (r : List Bool) (g : Nat) : (rcStep q plus r g).length = r.length := by unfold rcStep; split; exact row_len _ _ _ _ _; rfl
theorem rc_succ (q : GConj) (plus : List Bool) (r : List Bool) (n : Nat) : rcRnd q plus r (n + 1) = rcStep q plus (rcRnd q plus r n) n := by unfold rcRnd; rw [List.range_succ, List.foldl_append]; rfl
theorem rc_len (q : GConj) (plus : List Bool) (r : List Bool) : ∀ n, (rcRnd q plus r n).length = r.length
  | 0 => rfl
  | n + 1 => by rw [rc_succ, rcStep_len, rc_len q plus r n]
theorem reach_len (q : GConj) (plus : List Bool) (r : List Bool) : ∀ n, (reachM q plus r n).length = r.length
  | 0 => rfl
  | n + 1 => by show (rcRnd _ _ _ _).length = _; rw [rc_len, reach_len q plus r n]
theorem row_mono (q : GConj) (plus : List Bool) (g : Nat) (r : List Bool) (j : Nat) (hj : j < r.length) (h : nth r j = true) : ∀ n, nth (rowR q plus g r n) j = true
  | 0 => h
  | n + 1 => by
    rw [row_succ, Lg.nth_set (by rw [row_len]; exact hj)]
    have := row_mono q plus g r j hj h n
    split
    · rename_i e; subst e; rw [this]; rfl
    · exact this
theorem lnk_succ (q : GConj) (plus : List Bool) (g h n : Nat) : lnkR q plus g h (n + 1) = (lnkR q plus g h n || ((nth (varsM q.Vars (nth q.Atoms g).Terms) n && nth (varsM q.Vars (nth q.Atoms h).Terms) n) && !nth plus n)) := by
  unfold lnkR; rw [List.range_succ, List.any_append]; simp
theorem set_or {r : List Bool} {h : Nat} (hh : h < r.length) (a b : Bool) : (r.set h (nth r h || a)).set h (nth (r.set h (nth r h || a)) h || b) = r.set h (nth r h || (a || b)) := by
  rw [List.set_set, Lg.nth_set hh, if_pos rfl, Bool.or_assoc]
theorem set_same {r : List Bool} {h : Nat} (hh : h < r.length) : r.set h (nth r h || false) = r := list_ext (by simp) fun i hi => by
  rw [List.length_set] at hi
  rw [Lg.nth_set hi]
  split
  · rename_i e; subst e; simp
  · rfl
def plusM (q : GConj) (f : Nat) : List Bool := closedM q f (varsM q.Vars (keyT q f)) q.Atoms.length
def attR (q : GConj) (f : Nat) : List Bool := (reachM q (plusM q f) ((List.replicate q.Atoms.length false).set f true) q.Atoms.length).set f false
/-! First order -/
def frS (l : List (List Bool)) (gone : List Bool) (f n : Nat) : Bool := (List.range n).all fun g => !nth (nth l g) f || nth gone g
def gnRnd (l : List (List Bool)) (gone : List Bool) (n : Nat) : List Bool := (List.range n).foldl (fun r f => r.set f (nth r f || frS l r f l.length)) gone
def goneM (l : List (List Bool)) : Nat → List Bool
  | 0 => List.replicate l.length false
  | n + 1 => gnRnd l (goneM l n) l.length
theorem gn_succ (l : List (List Bool)) (gone : List Bool) (n : Nat) : gnRnd l gone (n + 1) = (gnRnd l gone n).set n (nth (gnRnd l gone n) n || frS l (gnRnd l gone n) n l.length) := by unfold gnRnd; rw [List.range_succ, List.foldl_append]; rfl
theorem gn_len (l : List (List Bool)) (gone : List Bool) : ∀ n, (gnRnd l gone n).length = gone.length
  | 0 => rfl
  | n + 1 => by rw [gn_succ, List.length_set, gn_len l gone n]
theorem gone_len (l : List (List Bool)) : ∀ n, (goneM l n).length = l.length
  | 0 => by simp [goneM]
  | n + 1 => by show (gnRnd _ _ _).length = _; rw [gn_len, gone_len l n]
theorem fr_succ (l : List (List Bool)) (gone : List Bool) (f n : Nat) : frS l gone f (n + 1) = (frS l gone f n && (!nth (nth l n) f || nth gone n)) := by
  unfold frS; rw [List.range_succ, List.all_append]; simp
def allGone (l : List (List Bool)) : Bool := (List.range l.length).all (nth (goneM l l.length))
theorem rVars_spec (q : GConj) (ts : List Int) (hz0 : 0 ≤ q.Vars) (hv : q.Vars ≤ 1000) (hl : ts.length ≤ 1000) (hb : ∀ t ∈ ts, t < q.Vars) : Fun1 prog 99 [rConj.ty q, tSl rInt ts] (tSl rBool (varsM q.Vars ts)) := by
 refine Spec.enter func99 rfl rfl fun h0 w0 fr0 => ?_
 refine Jr (Js rfl (step_box (R := rConj) Sr) (Ja rfl (JL_nil (Jr (Js rfl (step_fieldAddr so25 Sr rfl) ?_)))))
 refine Jl rfl ty3 Sr ?_
 refine Jx rfl (step_make (n := q.Vars.toNat) underlying95 el4 Sr Sr (by show q.Vars = _; omega) zG zG) fun v9 => ?_
 refine Ja rfl (JL_nil (J_seq (Jr (Ja rfl (JL_nil ?_)))))
 refine J_block ?_
 refine J_loopL (σ := Nat) (fun i => i ≤ ts.length) (fun i => upd (upd (upd (upd env0 1 (tSl rInt ts)) 4 (tV (.slice none 0 0))) 5 (rV.ty v9)) 6 (tV (.int .i64 i))) (fun i => [own 4 rBool v9 (varsM q.Vars (ts.take i))]) (fun i => ts.length - i) 0 (Nat.zero_le _) (.u (.u (.u (SubE.upd Sr SubE.any)))) (LSub.cons zS (SPs.of (by rw [List.take_zero, varsM_nil])) (LSub.nil)) ?_
 rintro i hi
 refine J_seq (Jr (Jm rfl (Jm rfl (Js rfl (step_len_sl underlying27 Sr) (Js rfl (step_lss Sr Sr) ?_)))))
 refine JL_nil ?_
 refine J_cond Sr (fun h13 => ?_) (fun h13 => ?_)
 ·
  try simp only [NF] at h13
  have hlt : i < ts.length := by omega
  have hbi := hb _ (nth_mem hlt)
  refine J_skip (J_seq (J_block (Jr (Jm rfl (Jm rfl ?_)))))
  refine Js rfl (step_indexAddr_sl (i := i) underlying27 ty3 Sr Sr (by rfl) (gb (by exact hlt))) ?_
  refine Jl rfl ty3 Sr (Js rfl (step_geq Sr Sr) (JL_nil ?_))
  refine J_cond Sr (fun h20 => ?_) (fun h20 => ?_)
  ·
   try simp only [NF] at h20
   refine J_region (Jm rfl (Jm rfl (Jm rfl ?_)))
   refine Js rfl (step_indexAddr_sl (i := i) underlying27 ty3 Sr Sr (by rfl) (gb (by exact hlt))) ?_
   refine Jl rfl ty3 Sr ?_
   refine Js rfl (step_indexAddr_own (i := (nth ts i).toNat) underlying95 ty4 Sr zS Sr zG (by rw [varsM_len]; omega)) ?_
   refine Ju (step_store_own ty4 Sr Sr zS (by rw [varsM_len]; omega)) fun _ => ?_
   refine JL_nil (J_region (Jm rfl (Js rfl (step_add Sr Sr z6) (Ja rfl (JL_nil ?_)))))
   refine K_againL (σ := Nat) (s := i) (i + 1) zO hlt (.u (.u (.u (SubE.upd Sr SubE.any)))) (LSub.cons zS (SPs.of (by rw [varsM_set hlt h20 hbi])) (LSub.nil))
  try simp only [NF] at h20
  refine J_skip (J_region (Jm rfl (Js rfl (step_add Sr Sr z6) (Ja rfl (JL_nil ?_)))))
  refine K_againL (σ := Nat) (s := i) (i + 1) zO hlt (.u (.u (.u (SubE.upd Sr SubE.any)))) (LSub.cons zS (SPs.of (by rw [varsM_neg hlt h20])) (LSub.nil))
 try simp only [NF] at h13
 refine J_exit (Jr (Jm rfl (Ja rfl (JL_nil (J_ret ?_)))))
 refine K_ret1' (rv := .tmp 4) rfl () (Sel.all _) (.tmp Sr) (Frz.own' (by rw [List.take_of_length_le zG]))
theorem rWithin_spec (a b : List Bool) (hl : a.length ≤ b.length) (hb : b.length ≤ 1000) : Fun1 prog 123 [tSl rBool a, tSl rBool b] (tV (.bool (withinM a b))) := by
 refine Spec.enter func123 rfl rfl fun h0 w0 fr0 => ?_
 refine Jr (Ja rfl (JL_nil (J_seq (Jr (Ja rfl ?_)))))
 refine JL_nil (J_block ?_)
 refine J_loopL (σ := Nat) (fun i => i ≤ a.length ∧ ∀ t, t < i → (!nth a t || nth b t) = true) (fun i => upd (upd (upd env0 0 (tSl rBool a)) 1 (tSl rBool b)) 5 (tV (.int .i64 i))) (fun i => []) (fun i => a.length - i) 0 ⟨Nat.zero_le _, fun t ht => absurd ht (Nat.not_lt_zero _)⟩ (.u (.u (SubE.upd Sr SubE.any))) (LSub.rfl) ?_
 rintro i ⟨hi, hv⟩
 refine J_seq (Jr (Jm rfl (Jm rfl (Js rfl (step_len_sl underlying95 Sr) (Js rfl (step_lss Sr Sr) ?_)))))
 refine JL_nil ?_
 refine J_cond Sr (fun h9 => ?_) (fun h9 => ?_)
 ·
  try simp only [NF] at h9
  have hlt : i < a.length := by omega
  refine J_skip (J_seq (J_block (Jr (Jm rfl (Jm rfl ?_)))))
  refine Js rfl (step_indexAddr_sl (i := i) underlying95 ty4 Sr Sr (by rfl) (gb (by exact hlt))) ?_
  refine Jl rfl ty4 Sr (Jm rfl (Jg rfl Sr rfl (fun hw => step_move Sr) (Jg rfl Sr rfl (fun hw => step_move Sr) ?_)))
  refine Jg rfl Sr rfl (fun hw => step_indexAddr_sl (i := i) underlying95 ty4 (Sub.w hw) (Sub.w hw) (by rfl) (gb (by have hwq := hw; (try simp only [beqB_t, beqB_f, NF] at hwq); show i < b.length; omega))) ?_
  refine Jg rfl Sr rfl (fun hw => step_load_ptr ty4 (Sub.w hw)) (Jg rfl Sr rfl (fun hw => step_not (Sub.w hw)) (Js rfl (step_pick_and Sr Sr) (JL_nil ?_)))
  refine J_cond Sr (fun h22 => ?_) (fun h22 => ?_)
  ·
   try simp only [NF] at h22
   refine Jr (Ja rfl (JL_nil (J_ret ?_)))
   refine K_ret1 (t := 4) rfl () ?_
   refine Sub.bool ?_
   symm; exact rall_f (f := fun i => !nth a i || nth b i) hlt (by rw [h22.1, h22.2]; rfl)
  try simp only [NF] at h22
  refine J_skip (J_region (Jm rfl (Js rfl (step_add Sr Sr z6) (Ja rfl (JL_nil ?_)))))
  refine K_againL (σ := Nat) (s := i) (i + 1) zO ?_ (.u (.u (SubE.upd Sr SubE.any))) (LSub.rfl)
  refine ⟨hlt, fun t ht => ?_⟩
  by_cases e : t = i
  ·
   subst e; rcases h22 with h22 | h22 <;> rw [h22] <;> simp
  exact hv t zG
 try simp only [NF] at h9
 refine J_exit (Jr (Ja rfl (JL_nil (J_ret ?_))))
 refine K_ret1 (t := 4) rfl () ?_
 refine Sub.bool ?_
 symm; exact rall_t fun t ht => hv t zG
set_option maxHeartbeats 4000000 in
theorem rClosed_spec (q : GConj) (hq : validQ q = true) (w : Int) (set : List Bool) (hl : set.length = q.Vars.toNat) : Fun1 prog 98 [rConj.ty q, tV (.int .i64 w), tSl rBool set] (tSl rBool (closedM q w set q.Atoms.length)) := by
 refine Spec.enter func98 rfl rfl fun h0 w0 fr0 => ?_
 have hvb := valid_bounds hq
 refine Jr (Js rfl (step_box (R := rConj) Sr) (Ja rfl (JL_nil (Jr ?_))))
 refine Jx rfl (step_literal_own (ys := []) underlying95 el4 trivial rfl (by decide)) fun u13 => ?_
 refine Jm rfl ?_
 refine Jx rfl (step_append underlying95 el4 Sr Sr zS (by simp; omega) (by simp; omega)) fun u15 => ?_
 refine Ja rfl (JL_nil (J_seq (Jr (Ja rfl (JL_nil ?_)))))
 refine J_block ?_
 refine J_loopL (σ := Nat) (fun n => n ≤ q.Atoms.length) (fun n => upd (upd (upd (upd (upd env0 1 (tV (.int .i64 w))) 3 (tPtr rConj q)) 6 (tV (.slice none 0 0))) 7 (rV.ty u15)) 8 (tV (.int .i64 n))) (fun n => [own 4 rBool u15 (closedM q w set n)]) (fun n => q.Atoms.length - n) 0 (Nat.zero_le _) (.u (.u (.u (.u (SubE.upd Sr SubE.any))))) (LSub.cons zS (SPs.of rfl) (LSub.nil)) ?_
 rintro n hi
 refine J_seq (Jr (Jm rfl (Js rfl (step_fieldAddr so25 Sr rfl) (Jl rfl ty23 Sr (Js rfl (step_len_sl underlying23 Sr) ?_)))))
 refine Js rfl (step_lss Sr Sr) (JL_nil ?_)
 refine J_cond Sr (fun h20 => ?_) (fun h20 => ?_)
 ·
  try simp only [NF] at h20
  have hnt : n < q.Atoms.length := by omega
  refine J_skip (J_seq (J_block (Jr (Ja rfl (JL_nil ?_)))))
  refine J_block ?_
  refine J_loopL (σ := Nat) (fun i => i ≤ q.Atoms.length) (fun i => upd (upd (upd (upd (upd (upd (upd env0 1 (tV (.int .i64 w))) 3 (tPtr rConj q)) 6 (tV (.slice none 0 0))) 7 (rV.ty u15)) 8 (tV (.int .i64 n))) 9 (tV (.int .i64 i))) 16 (tV (.int .i64 n))) (fun i => [own 4 rBool u15 (rndM q w (closedM q w set n) i)]) (fun i => q.Atoms.length - i) 0 (Nat.zero_le _) (.u (.u (.u (.u (.u (.u (SubE.upd Sr SubE.any))))))) (LSub.cons zS (SPs.of rfl) (LSub.nil)) ?_
  rintro i hi
  refine J_seq (Jr (Jm rfl (Js rfl (step_fieldAddr so25 Sr rfl) (Jl rfl ty23 Sr (Js rfl (step_len_sl underlying23 Sr) ?_)))))
  refine Js rfl (step_lss Sr Sr) (JL_nil ?_)
  refine J_cond Sr (fun h27 => ?_) (fun h27 => ?_)
  ·
   try simp only [NF] at h27
   have hit : i < q.Atoms.length := by omega
   have hav := at_v hq hit
   have htl := hav.tl
   have hk0 := hav.k0
   have hkt := hav.kt
   refine J_skip (J_seq (J_block (Jr (Js rfl (step_fieldAddr so25 Sr rfl) (Jl rfl ty23 Sr ?_)))))
   refine Jm rfl ?_
   refine Js rfl (step_indexAddr_sl (i := i) underlying23 ty47 Sr Sr (by rfl) (gb (by show i < q.Atoms.length; exact hit))) ?_
   refine Jl rfl ty47 Sr ?_
   refine Jx rfl (step_alloc (fun w => zeroValue47 w) zr47) fun v10 => ?_
   refine Ju (step_store_box ty47 Sr Sr zS) fun _ => ?_
   refine JL_freeze (t := 10) (Sel.take (Sel.none _)) Frz.box ?_
   refine JL_nil (J_seq (J_seq ?_))
   refine J_draw [⟨0, [9], true⟩, ⟨1, [1], true⟩, ⟨2, [35, 36], true⟩, ⟨3, [37], true⟩, ⟨4, [3, 38], true⟩, ⟨5, [10, 38], true⟩, ⟨6, [38, 40], true⟩, ⟨7, [10, 38], true⟩, ⟨8, [38, 42], true⟩, ⟨9, [38, 41, 43], true⟩, ⟨10, [38, 39, 44], true⟩, ⟨11, [7, 38], true⟩, ⟨12, [38, 45, 46], false⟩, ⟨13, [38, 47], true⟩, ⟨14, [38, 48], true⟩] rfl (by kernel_rfl) ?_
   refine Mv rfl rfl (Mv rfl rfl (Mf rfl rfl (step_eql Sr Sr) (Mv rfl rfl (Mg rfl rfl Sr rfl (fun hw => step_load_ptr ty25 Sr) (Mg rfl rfl Sr rfl (fun hw => step_fieldAddr so47 Sr rfl) ?_)))))
   refine Mg rfl rfl Sr rfl (fun hw => step_load_ptr ty27 (Sub.w hw)) (Mg rfl rfl Sr rfl (fun hw => step_fieldAddr so47 Sr rfl) (Mg rfl rfl Sr rfl (fun hw => step_load_ptr ty3 (Sub.w hw)) ?_))
   refine Mg rfl rfl Sr rfl (fun hw => step_slice_toI (n := (nth q.Atoms i).Key.toNat) underlying27 ty3 (Sub.w hw) (Sub.w hw) (by have hwq := hw; (try simp only [beqB_t, beqB_f, NF] at hwq); show (nth q.Atoms i).Key = _; omega) (by have hwq := hw; (try simp only [beqB_t, beqB_f, NF] at hwq); show _ ≤ (nth q.Atoms i).Terms.length; omega)) ?_
   refine Mg rfl rfl Sr rfl (fun hw => step_call0 (rVars_spec q (keyT q i) hvb.1 zG (by rw [List.length_take]; omega) (fun t ht => hav.up t (List.mem_of_mem_take ht))) ⟨(Sub.w hw), (Sub.w hw), trivial⟩ call99) ?_
   refine Mg rfl rfl Sr rfl (fun hw => step_move Sr) ?_
   refine JM_lookG rfl rfl rfl rfl (Gd.plain Sr) rfl rfl (fun hw => step_call_look zS (rWithin_spec (varsM q.Vars (keyT q i)) (rndM q w (closedM q w set n) i) (by rw [varsM_len, rnd_len, closed_len]; omega) (by rw [rnd_len, closed_len]; omega)) (fun _ => Flat.v _) ⟨(Frz.sub (Sub.w hw)), (Frz.w hw Frz.own), trivial⟩ call123) ?_
   refine Mg rfl rfl Sr rfl (fun hw => step_not (Sub.w hw)) (Mf rfl rfl (step_pick_or Sr Sr) (JM_nil ?_))
   refine J_cond Sr (fun h49 => ?_) (fun h49 => ?_)
   ·
    try simp only [NF] at h49
    refine J_exit (J_region (Jm rfl (Js rfl (step_add Sr Sr z6) (Ja rfl (JL_nil ?_)))))
    refine K_againL (σ := Nat) (s := i) (i + 1) zO hit (.u (.u (.u (.u (.u (.u (SubE.upd Sr SubE.any))))))) (LSub.cons zS (SPs.of (by rw [rnd_succ, clStep, if_pos h49])) (LSub.nil))
   try simp only [NF] at h49
   refine J_skip (Jr (Jl rfl ty25 Sr (Js rfl (step_fieldAddr so47 Sr rfl) (Jl rfl ty27 Sr (Js rfl (step_call0 (rVars_spec q (nth q.Atoms i).Terms hvb.1 zG zG hav.up) ⟨Sr, Sr, trivial⟩ call99) ?_)))))
   refine Ja rfl (JL_nil (Jr (Ja rfl (JL_nil (J_block ?_)))))
   refine J_loopL (σ := Nat) (fun v => v ≤ q.Vars.toNat) (fun v => upd (upd (upd (upd (upd (upd (upd (upd (upd (upd (upd (upd (upd env0 1 (tV (.int .i64 w))) 3 (tPtr rConj q)) 6 (tV (.slice none 0 0))) 7 (rV.ty u15)) 8 (tV (.int .i64 n))) 9 (tV (.int .i64 i))) 11 (tSl rBool (varsM q.Vars (nth q.Atoms i).Terms))) 12 (tV (.int .i64 v))) 16 (tV (.int .i64 n))) 23 (tV (.int .i64 i))) 32 (tV (.int .i64 i))) 35 (tV (.int .i64 i))) 36 (tV (.int .i64 w))) (fun v => [own 4 rBool u15 (orM (rndM q w (closedM q w set n) i) (varsM q.Vars (nth q.Atoms i).Terms) v)]) (fun v => q.Vars.toNat - v) 0 (Nat.zero_le _) (.u (.u (.u (.u (.u (.u (.u (.u (.u (.u (.u (.u (SubE.upd Sr SubE.any))))))))))))) (LSub.cons zS (SPs.of (by rw [orM_zero])) (LSub.nil)) ?_
   rintro v hi
   refine J_seq (Jr (Jm rfl (Jm rfl (Js rfl (step_len_sl underlying95 Sr) (Js rfl (step_lss Sr Sr) ?_)))))
   refine JL_nil ?_
   refine J_cond Sr (fun h57 => ?_) (fun h57 => ?_)
   ·
    try simp only [NF] at h57
    have hvt : v < q.Vars.toNat := by rw [varsM_len] at h57; omega
    refine J_skip (J_seq (J_block (J_region (Jm rfl (Jm rfl ?_)))))
    refine Jm rfl (Jm rfl ?_)
    refine Js rfl (step_indexAddr_own (i := v) underlying95 ty4 Sr zS Sr (by rfl) (by rw [orM_len, rnd_len, closed_len]; omega)) ?_
    refine Js rfl (step_load_own ty4 Sr zS (gb (by rw [orM_len, rnd_len, closed_len]; omega))) ?_
    refine Jm rfl (Jg rfl Sr rfl (fun hw => step_move Sr) (Jg rfl Sr rfl (fun hw => step_move Sr) ?_))
    refine Jg rfl Sr rfl (fun hw => step_indexAddr_sl (i := v) underlying95 ty4 (Sub.w hw) (Sub.w hw) (by rfl) (gb (by have hwq := hw; (try simp only [beqB_t, beqB_f, NF] at hwq); rw [varsM_len]; omega))) ?_
    refine Jg rfl Sr rfl (fun hw => step_load_ptr ty4 (Sub.w hw)) (Js rfl (step_pick_or Sr Sr) ?_)
    refine Js rfl (step_indexAddr_own (i := v) underlying95 ty4 Sr zS Sr (by rfl) (by rw [orM_len, rnd_len, closed_len]; omega)) ?_
    refine Ju (step_store_own ty4 Sr Sr zS (by rw [orM_len, rnd_len, closed_len]; omega)) fun _ => ?_
    refine JL_nil (J_region (Jm rfl (Js rfl (step_add Sr Sr z6) (Ja rfl (JL_nil ?_)))))
    refine K_againL (σ := Nat) (s := v) (v + 1) zO hvt (.u (.u (.u (.u (.u (.u (.u (.u (.u (.u (.u (.u (SubE.upd Sr SubE.any))))))))))))) (LSub.cons zS (SPs.of (by rw [← orM_succ (by rw [rnd_len, closed_len]; omega)])) (LSub.nil))
   try simp only [NF] at h57
   refine J_exit (J_region (Jm rfl (Js rfl (step_add Sr Sr z6) (Ja rfl (JL_nil ?_)))))
   refine K_againL (σ := Nat) (s := i) (i + 1) zO hit (.u (.u (.u (.u (.u (.u (SubE.upd Sr SubE.any))))))) (LSub.cons zS (SPs.of (by rw [rnd_succ, clStep, if_neg (by rintro (h | h); exact h49.1 h; rw [h49.2] at h; cases h)]; rw [varsM_len] at h57; obtain rfl : v = q.Vars.toNat := zG; rfl)) (LSub.nil))
  try simp only [NF] at h27
  refine J_exit (J_region (Jm rfl (Js rfl (step_add Sr Sr z6) (Ja rfl (JL_nil ?_)))))
  refine K_againL (σ := Nat) (s := n) (n + 1) zO hnt (.u (.u (.u (.u (SubE.upd Sr SubE.any))))) (LSub.cons zS (SPs.of (by obtain rfl : i = q.Atoms.length := zG; rfl)) (LSub.nil))
 try simp only [NF] at h20
 refine J_exit (Jr (Jm rfl (Ja rfl (JL_nil (J_ret ?_)))))
 refine K_ret1' (rv := .tmp 6) rfl () (Sel.all _) (.tmp Sr) (Frz.own' (by obtain rfl : n = q.Atoms.length := zG; rfl))
open Go Go.Proofs Go.Proofs.Tryz
def attRL (q : GConj) : List (List Bool) := (List.range q.Atoms.length).map (attR q)
theorem attRL_len (q : GConj) : (attRL q).length = q.Atoms.length := by simp [attRL]
theorem attRL_nth (q : GConj) {f : Nat} (h : f < q.Atoms.length) : nth (attRL q) f = attR q f := nth_range_map h
theorem attR_len (q : GConj) (f : Nat) : (attR q f).length = q.Atoms.length := by unfold attR; rw [List.length_set, reach_len]; simp
theorem row_end {q : GConj} {plus r : List Bool} {g j : Nat} (hg : g < r.length) (h1 : j ≤ q.Atoms.length) (h2 : 0 < j → nth r g = true) (h : (q.Atoms.length : Int) ≤ (j : Int) ∨ nth (rowR q plus g r j) g = false) : rowR q plus g r j = rcStep q plus r g := by
  unfold rcStep
  by_cases hr : nth r g = true
  · rw [if_pos hr]
    have : j = q.Atoms.length := by
      rcases h with h | h
      · omega
      · rw [row_mono q plus g r g hg hr j] at h; cases h
    rw [this]
  · rw [if_neg hr]
    have : j = 0 := by
      rcases Nat.eq_zero_or_pos j with e | e
      · exact e
      · exact absurd (h2 e) hr
    subst this; rfl
theorem all_gone_f {l : List (List Bool)} {n f : Nat} (hl : l.length = n) (hf : f < n) (h : nth (goneM l n) f = false) : allGone l = false := by
  subst hl; unfold allGone; rw [List.all_eq_false]; exact ⟨f, List.mem_range.2 hf, by rw [h]; simp⟩
theorem all_gone_t {l : List (List Bool)} {n : Nat} (hl : l.length = n) (h : ∀ t, t < n → nth (goneM l n) t = true) : allGone l = true := by
  subst hl; unfold allGone; rw [List.all_eq_true]; exact fun t ht => h t (List.mem_range.1 ht)
set_option maxHeartbeats 4000000 in
theorem rAttacks_spec (q : GConj) : Fun1 prog 63 [rConj.ty q] (tTup [tSl (rSl rBool) (if validQ q = true then attRL q else []), tV (.int .i64 (errV q))]) := by
 refine Spec.enter func63 rfl rfl fun h0 w0 fr0 => ?_
 refine Jr (Js rfl (step_box (R := rConj) Sr) (Ja rfl (Ja rfl (JL_nil (J_seq ?_)))))
 refine Jr (Jl rfl ty25 Sr (Js rfl (step_call0 (refValid_spec q) ⟨Sr, trivial⟩ call61) (Js rfl (step_not Sr) (JL_nil ?_))))
 refine J_cond Sr (fun h18 => ?_) (fun h18 => ?_)
 ·
  try simp only [NF] at h18
  have hv : ¬ validQ q = true := by simp [h18]
  refine Jr (Ja rfl (Ja rfl (JL_nil (J_ret ?_))))
  refine K_ret2' (rv := .tmp 2) (rv' := .tmp 3) rfl () (Sel.all _) (.tmp Sr) (.tmp Sr) (Frz.sub ?_) (Frz.sub ?_) Sr
  ·
   rw [if_neg hv]; exact Sub.nilsl
  rw [errV, if_neg hv]; exact Sr
 try simp only [NF] at h18
 have hq : validQ q = true := by simpa using h18
 have hvb := valid_bounds hq
 refine J_skip (Jr (Js rfl (step_fieldAddr so25 Sr rfl) (Jl rfl ty23 Sr (Js rfl (step_len_sl underlying23 Sr) (Ja rfl ?_)))))
 refine JL_nil (Jr (Ja rfl (JL_nil ?_)))
 refine K_lsub (LSub.nilown (e := 95) (R := rSl rBool)) ?_
 refine J_seq (Jr (Ja rfl (JL_nil (J_block ?_))))
 refine J_loopL (σ := Nat × Value) (fun ⟨f, vo⟩ => f ≤ q.Atoms.length) (fun ⟨f, vo⟩ => upd (upd (upd (upd (upd (upd env0 1 (tPtr rConj q)) 2 (tV (.slice none 0 0))) 3 (tV (.int .i64 0))) 4 (tV (.int .i64 q.Atoms.length))) 5 (rV.ty vo)) 6 (tV (.int .i64 f))) (fun ⟨f, vo⟩ => [own 95 (rSl rBool) vo ((List.range f).map (attR q))]) (fun ⟨f, vo⟩ => q.Atoms.length - f) (0, .slice none 0 0) (Nat.zero_le _) (.u (SubE.upd (Sub.rV rfl) (.u (.u (.u (SubE.upd Sr SubE.any)))))) (LSub.cons zS (own_eq (by simp)) (LSub.nil)) ?_
 rintro ⟨f, vo⟩ hi
 try dsimp only at hi
 refine J_seq (Jr (Jm rfl (Jm rfl (Js rfl (step_lss Sr Sr) (JL_nil ?_)))))
 refine J_cond Sr (fun h24 => ?_) (fun h24 => ?_)
 ·
  try simp only [NF] at h24
  have hlt : f < q.Atoms.length := by omega
  have hav := at_v hq hlt
  have htl := hav.tl
  have hk0 := hav.k0
  have hkt := hav.kt
  refine J_skip (J_seq (J_block (Jr (Js rfl (step_fieldAddr so25 Sr rfl) (Jl rfl ty23 Sr ?_)))))
  refine Jm rfl ?_
  refine Js rfl (step_indexAddr_sl (i := f) underlying23 ty47 Sr Sr (by rfl) (gb (by exact hlt))) ?_
  refine Jl rfl ty47 Sr ?_
  refine Jx rfl (step_alloc (fun w => zeroValue47 w) zr47) fun v7 => ?_
  refine Ju (step_store_box ty47 Sr Sr zS) fun _ => ?_
  refine JL_freeze (t := 7) (Sel.take (Sel.none _)) Frz.box ?_
  refine JL_nil (J_seq ?_)
  refine J_draw [⟨0, [1], true⟩, ⟨1, [6], true⟩, ⟨2, [1], true⟩, ⟨3, [7], true⟩, ⟨4, [35], true⟩, ⟨5, [7], true⟩, ⟨6, [37], true⟩, ⟨7, [36, 38], true⟩, ⟨8, [34, 39], true⟩, ⟨9, [32, 33, 40], true⟩, ⟨10, [41], true⟩] rfl (by kernel_rfl) ?_
  refine Mf rfl rfl (step_load_ptr ty25 Sr) (Mv rfl rfl (Mf rfl rfl (step_load_ptr ty25 Sr) (Mf rfl rfl (step_fieldAddr so47 Sr rfl) (Mf rfl rfl (step_load_ptr ty27 Sr) (Mf rfl rfl (step_fieldAddr so47 Sr rfl) ?_)))))
  refine Mf rfl rfl (step_load_ptr ty3 Sr) ?_
  refine Mf rfl rfl (step_slice_toI (n := (nth q.Atoms f).Key.toNat) underlying27 ty3 Sr Sr (by show (nth q.Atoms f).Key = _; omega) (by show _ ≤ (nth q.Atoms f).Terms.length; omega)) ?_
  refine Mf rfl rfl (step_call0 (rVars_spec q (keyT q f) hvb.1 zG (by rw [List.length_take]; omega) (fun t ht => hav.up t (List.mem_of_mem_take ht))) ⟨Sr, Sr, trivial⟩ call99) ?_
  refine Mf rfl rfl (step_call0 (rClosed_spec q hq f _ (varsM_len _ _)) ⟨Sr, Sr, Sr, trivial⟩ call98) (Mf rfl rfl (step_assign Sr) (JM_nil (Jr (Jm rfl ?_))))
  refine Jx rfl (step_make (n := q.Atoms.length) underlying95 el4 Sr Sr rfl zG zG) fun w43 => ?_
  refine Ja rfl (JL_nil (Jr (Jm rfl (Jm rfl ?_))))
  refine Js rfl (step_indexAddr_own (i := f) underlying95 ty4 Sr zS Sr (by rfl) (by first | omega | (simp only [List.length_replicate]; omega))) ?_
  refine Ju (step_store_own ty4 Sr Sr zS (by first | omega | (simp only [List.length_replicate]; omega))) fun _ => ?_
  refine JL_nil (J_seq (Jr (Ja rfl (JL_nil (J_block ?_)))))
  refine J_loopL (σ := Nat) (fun k => k ≤ q.Atoms.length) (fun k => upd (upd (upd (upd (upd (upd (upd (upd (upd (upd (upd (upd (upd (upd (upd (upd (upd (upd env0 1 (tPtr rConj q)) 2 (tV (.slice none 0 0))) 3 (tV (.int .i64 0))) 4 (tV (.int .i64 q.Atoms.length))) 5 (rV.ty vo)) 6 (tV (.int .i64 f))) 7 (tPtr rAtom (nth q.Atoms f))) 8 (tSl rBool (plusM q f))) 9 (rV.ty w43)) 10 (tV (.int .i64 k))) 22 (tV (.int .i64 f))) 23 (tV (.int .i64 q.Atoms.length))) 29 (tV (.int .i64 f))) 33 (tV (.int .i64 f))) 42 (tV (.int .i64 q.Atoms.length))) 43 (rV.ty w43)) 44 (rV.ty w43)) 45 (tV (.int .i64 f))) (fun k => [own 4 rBool w43 (reachM q (plusM q f) ((List.replicate q.Atoms.length false).set f true) k), own 95 (rSl rBool) vo ((List.range f).map (attR q))]) (fun k => q.Atoms.length - k) 0 (Nat.zero_le _) (.u (.u (.u (.u (.u (.u (.u (.u (.u (.u (.u (.u (.u (.u (.u (.u (.u (SubE.upd Sr SubE.any)))))))))))))))))) (LSub.cons zS (SPs.rfl) (LSub.cons zS (SPs.rfl) (LSub.nil))) ?_
  rintro k hi
  refine J_seq (Jr (Jm rfl (Jm rfl (Js rfl (step_lss Sr Sr) (JL_nil ?_)))))
  refine J_cond Sr (fun h49 => ?_) (fun h49 => ?_)
  ·
   try simp only [NF] at h49
   have hkl : k < q.Atoms.length := by omega
   refine J_skip (J_seq (J_block (Jr (Ja rfl (JL_nil ?_)))))
   refine J_block ?_
   refine J_loopL (σ := Nat) (fun g => g ≤ q.Atoms.length) (fun g => upd (upd (upd (upd (upd (upd (upd (upd (upd (upd (upd (upd (upd (upd (upd (upd (upd (upd (upd (upd (upd env0 1 (tPtr rConj q)) 2 (tV (.slice none 0 0))) 3 (tV (.int .i64 0))) 4 (tV (.int .i64 q.Atoms.length))) 5 (rV.ty vo)) 6 (tV (.int .i64 f))) 7 (tPtr rAtom (nth q.Atoms f))) 8 (tSl rBool (plusM q f))) 9 (rV.ty w43)) 10 (tV (.int .i64 k))) 11 (tV (.int .i64 g))) 22 (tV (.int .i64 f))) 23 (tV (.int .i64 q.Atoms.length))) 29 (tV (.int .i64 f))) 33 (tV (.int .i64 f))) 42 (tV (.int .i64 q.Atoms.length))) 43 (rV.ty w43)) 44 (rV.ty w43)) 45 (tV (.int .i64 f))) 47 (tV (.int .i64 k))) 48 (tV (.int .i64 q.Atoms.length))) (fun g => [own 4 rBool w43 (rcRnd q (plusM q f) (reachM q (plusM q f) ((List.replicate q.Atoms.length false).set f true) k) g), own 95 (rSl rBool) vo ((List.range f).map (attR q))]) (fun g => q.Atoms.length - g) 0 (Nat.zero_le _) (.u (.u (.u (.u (.u (.u (.u (.u (.u (.u (.u (.u (.u (.u (.u (.u (.u (.u (.u (.u (SubE.upd Sr SubE.any))))))))))))))))))))) (LSub.cons zS (SPs.rfl) (LSub.cons zS (SPs.rfl) (LSub.nil))) ?_
   rintro g hi
   refine J_seq (Jr (Jm rfl (Jm rfl (Js rfl (step_lss Sr Sr) (JL_nil ?_)))))
   refine J_cond Sr (fun h54 => ?_) (fun h54 => ?_)
   ·
    try simp only [NF] at h54
    have hgl : g < q.Atoms.length := by omega
    refine J_skip (J_seq (J_block (Jr (Ja rfl (JL_nil ?_)))))
    refine J_block ?_
    refine J_loopL (σ := Nat) (fun j => j ≤ q.Atoms.length ∧ (0 < j → nth (rcRnd q (plusM q f) (reachM q (plusM q f) ((List.replicate q.Atoms.length false).set f true) k) g) g = true)) (fun j => upd (upd (upd (upd (upd (upd (upd (upd (upd (upd (upd (upd (upd (upd (upd (upd (upd (upd (upd (upd (upd (upd (upd (upd env0 1 (tPtr rConj q)) 2 (tV (.slice none 0 0))) 3 (tV (.int .i64 0))) 4 (tV (.int .i64 q.Atoms.length))) 5 (rV.ty vo)) 6 (tV (.int .i64 f))) 7 (tPtr rAtom (nth q.Atoms f))) 8 (tSl rBool (plusM q f))) 9 (rV.ty w43)) 10 (tV (.int .i64 k))) 11 (tV (.int .i64 g))) 12 (tV (.int .i64 j))) 22 (tV (.int .i64 f))) 23 (tV (.int .i64 q.Atoms.length))) 29 (tV (.int .i64 f))) 33 (tV (.int .i64 f))) 42 (tV (.int .i64 q.Atoms.length))) 43 (rV.ty w43)) 44 (rV.ty w43)) 45 (tV (.int .i64 f))) 47 (tV (.int .i64 k))) 48 (tV (.int .i64 q.Atoms.length))) 52 (tV (.int .i64 g))) 53 (tV (.int .i64 q.Atoms.length))) (fun j => [own 4 rBool w43 (rowR q (plusM q f) g (rcRnd q (plusM q f) (reachM q (plusM q f) ((List.replicate q.Atoms.length false).set f true) k) g) j), own 95 (rSl rBool) vo ((List.range f).map (attR q))]) (fun j => q.Atoms.length - j) 0 ⟨Nat.zero_le _, fun h => absurd h (Nat.lt_irrefl _)⟩ (.u (.u (.u (.u (.u (.u (.u (.u (.u (.u (.u (.u (.u (.u (.u (.u (.u (.u (.u (.u (.u (.u (.u (SubE.upd Sr SubE.any)))))))))))))))))))))))) (LSub.cons zS (SPs.rfl) (LSub.cons zS (SPs.rfl) (LSub.nil))) ?_
    rintro j ⟨hj1, hj2⟩
    refine J_seq (Jr (Jm rfl (Jm rfl (Js rfl (step_lss Sr Sr) (Jm rfl ?_)))))
    refine Jg rfl Sr rfl (fun hw => step_move Sr) (Jg rfl Sr rfl (fun hw => step_move Sr) ?_)
    refine Jg rfl Sr rfl (fun hw => step_indexAddr_own (i := g) underlying95 ty4 (Sub.w hw) zS (Sub.w hw) (by rfl) (by have hwq := hw; (try simp only [beqB_t, beqB_f, NF] at hwq); first | omega | (simp only [row_len, rc_len, reach_len, List.length_set, List.length_replicate]; omega))) ?_
    refine Jg rfl Sr rfl (fun hw => step_load_own ty4 (Sub.w hw) zS (gb (by have hwq := hw; (try simp only [beqB_t, beqB_f, NF] at hwq); first | omega | (simp only [row_len, rc_len, reach_len, List.length_set, List.length_replicate]; omega)))) ?_
    refine Js rfl (step_pick_and Sr Sr) (JL_nil ?_)
    refine J_cond Sr (fun h65 => ?_) (fun h65 => ?_)
    ·
     try simp only [NF] at h65
     obtain ⟨h65a, h65b⟩ := h65
     have hjl : j < q.Atoms.length := by omega
     have hgt : nth (rcRnd q (plusM q f) (reachM q (plusM q f) ((List.replicate q.Atoms.length false).set f true) k) g) g = true := by rcases Nat.eq_zero_or_pos j with e | e; (subst e; exact h65b); exact hj2 e
     refine J_skip (J_seq (J_block (J_seq ?_)))
     refine J_draw [⟨0, [1], true⟩, ⟨1, [1], true⟩, ⟨2, [69], true⟩, ⟨3, [11], true⟩, ⟨4, [70, 71], true⟩, ⟨5, [72], true⟩, ⟨6, [73], true⟩, ⟨7, [68, 74], true⟩, ⟨8, [75], true⟩] rfl (by kernel_rfl) ?_
     refine Mf rfl rfl (step_load_ptr ty25 Sr) (Mf rfl rfl (step_fieldAddr so25 Sr rfl) (Mf rfl rfl (step_load_ptr ty23 Sr) (Mv rfl rfl ?_)))
     refine Mf rfl rfl (step_indexAddr_sl (i := g) underlying23 ty47 Sr Sr (by rfl) (gb (by exact hgl))) ?_
     refine Mf rfl rfl (step_fieldAddr so47 Sr rfl) (Mf rfl rfl (step_load_ptr ty27 Sr) ?_)
     refine Mf rfl rfl (step_call0 (rVars_spec q (nth q.Atoms g).Terms hvb.1 zG (by have := (at_v hq hgl).tl; omega) (at_v hq hgl).up) ⟨Sr, Sr, trivial⟩ call99) ?_
     refine Mf rfl rfl (step_assign Sr) (JM_nil (J_seq ?_))
     refine J_draw [⟨0, [1], true⟩, ⟨1, [1], true⟩, ⟨2, [77], true⟩, ⟨3, [12], true⟩, ⟨4, [78, 79], true⟩, ⟨5, [80], true⟩, ⟨6, [81], true⟩, ⟨7, [76, 82], true⟩, ⟨8, [83], true⟩] rfl (by kernel_rfl) ?_
     refine Mf rfl rfl (step_load_ptr ty25 Sr) (Mf rfl rfl (step_fieldAddr so25 Sr rfl) (Mf rfl rfl (step_load_ptr ty23 Sr) (Mv rfl rfl ?_)))
     refine Mf rfl rfl (step_indexAddr_sl (i := j) underlying23 ty47 Sr Sr (by rfl) (gb (by exact hjl))) ?_
     refine Mf rfl rfl (step_fieldAddr so47 Sr rfl) (Mf rfl rfl (step_load_ptr ty27 Sr) ?_)
     refine Mf rfl rfl (step_call0 (rVars_spec q (nth q.Atoms j).Terms hvb.1 zG (by have := (at_v hq hjl).tl; omega) (at_v hq hjl).up) ⟨Sr, Sr, trivial⟩ call99) ?_
     refine Mf rfl rfl (step_assign Sr) (JM_nil (Jr (Ja rfl (JL_nil (J_block ?_)))))
     refine J_loopL (σ := Nat) (fun v => v ≤ q.Vars.toNat) (fun v => upd (upd (upd (upd (upd (upd (upd (upd (upd (upd (upd (upd (upd (upd (upd (upd (upd (upd (upd (upd (upd (upd (upd (upd (upd (upd (upd (upd (upd (upd (upd env0 1 (tPtr rConj q)) 2 (tV (.slice none 0 0))) 3 (tV (.int .i64 0))) 4 (tV (.int .i64 q.Atoms.length))) 5 (rV.ty vo)) 6 (tV (.int .i64 f))) 7 (tPtr rAtom (nth q.Atoms f))) 8 (tSl rBool (plusM q f))) 9 (rV.ty w43)) 10 (tV (.int .i64 k))) 11 (tV (.int .i64 g))) 12 (tV (.int .i64 j))) 13 (tSl rBool (varsM q.Vars (nth q.Atoms g).Terms))) 14 (tSl rBool (varsM q.Vars (nth q.Atoms j).Terms))) 15 (tV (.int .i64 v))) 22 (tV (.int .i64 f))) 23 (tV (.int .i64 q.Atoms.length))) 29 (tV (.int .i64 f))) 33 (tV (.int .i64 f))) 42 (tV (.int .i64 q.Atoms.length))) 43 (rV.ty w43)) 44 (rV.ty w43)) 45 (tV (.int .i64 f))) 47 (tV (.int .i64 k))) 48 (tV (.int .i64 q.Atoms.length))) 52 (tV (.int .i64 g))) 53 (tV (.int .i64 q.Atoms.length))) 57 (tV (.int .i64 j))) 58 (tV (.int .i64 q.Atoms.length))) 71 (tV (.int .i64 g))) 79 (tV (.int .i64 j))) (fun v => [own 4 rBool w43 ((rowR q (plusM q f) g (rcRnd q (plusM q f) (reachM q (plusM q f) ((List.replicate q.Atoms.length false).set f true) k) g) j).set j (nth (rowR q (plusM q f) g (rcRnd q (plusM q f) (reachM q (plusM q f) ((List.replicate q.Atoms.length false).set f true) k) g) j) j || lnkR q (plusM q f) g j v)), own 95 (rSl rBool) vo ((List.range f).map (attR q))]) (fun v => q.Vars.toNat - v) 0 (Nat.zero_le _) (.u (.u (.u (.u (.u (.u (.u (.u (.u (.u (.u (.u (.u (.u (.u (.u (.u (.u (.u (.u (.u (.u (.u (.u (.u (.u (.u (.u (.u (.u (SubE.upd Sr SubE.any))))))))))))))))))))))))))))))) (LSub.cons zS (own_eq (set_same (by first | omega | (simp only [row_len, rc_len, reach_len, List.length_set, List.length_replicate]; omega))).symm) (LSub.cons zS (SPs.rfl) (LSub.nil))) ?_
     rintro v hi
     refine J_seq (Jr (Jm rfl (Js rfl (step_fieldAddr so25 Sr rfl) (Jl rfl ty3 Sr (Js rfl (step_lss Sr Sr) ?_)))))
     refine JL_nil ?_
     refine J_cond Sr (fun h87 => ?_) (fun h87 => ?_)
     ·
      try simp only [NF] at h87
      have hvt : v < q.Vars.toNat := by omega
      refine J_skip (J_seq (J_block (J_region (Jm rfl (Jm rfl ?_)))))
      refine Jm rfl (Jm rfl ?_)
      refine Js rfl (step_indexAddr_own (i := j) underlying95 ty4 Sr zS Sr (by rfl) (by simp only [List.length_set, row_len, rc_len, reach_len, List.length_replicate]; omega)) ?_
      refine Js rfl (step_load_own ty4 Sr zS (gb (by simp only [List.length_set, row_len, rc_len, reach_len, List.length_replicate]; omega))) ?_
      refine Jm rfl (Jg rfl Sr rfl (fun hw => step_move Sr) (Jg rfl Sr rfl (fun hw => step_move Sr) ?_))
      refine Jg rfl Sr rfl (fun hw => step_indexAddr_sl (i := v) underlying95 ty4 (Sub.w hw) (Sub.w hw) (by rfl) (gb (by have hwq := hw; (try simp only [beqB_t, beqB_f, NF] at hwq); rw [varsM_len]; omega))) ?_
      refine Jg rfl Sr rfl (fun hw => step_load_ptr ty4 (Sub.w hw)) (Jg rfl Sr rfl (fun hw => step_move (Sub.w hw)) (Jh rfl Sr rfl (fun hw => step_move Sr) (Jh rfl Sr rfl (fun hw => step_move Sr) ?_)))
      refine Jh rfl Sr rfl (fun hw => step_indexAddr_sl (i := v) underlying95 ty4 (Sub.w hw) (Sub.w hw) (by rfl) (gb (by have hwq := hw; (try simp only [beqB_t, beqB_f, NF] at hwq); rw [varsM_len]; omega))) ?_
      refine Jh rfl Sr rfl (fun hw => step_load_ptr ty4 (Sub.w hw)) (Jg rfl Sr rfl (fun hw => step_pick_and (Sub.w hw) (Sub.ww hw)) (Jg rfl Sr rfl (fun hw => step_move (Sub.w hw)) (Jh rfl Sr rfl (fun hw => step_move Sr) (Jh rfl Sr rfl (fun hw => step_move Sr) ?_))))
      refine Jh rfl Sr rfl (fun hw => step_indexAddr_sl (i := v) underlying95 ty4 (Sub.w hw) (Sub.w hw) (by rfl) (gb (by have hwq := hw; (try simp only [beqB_t, beqB_f, NF] at hwq); show _ < (plusM q f).length; unfold plusM; rw [closed_len, varsM_len]; omega))) ?_
      refine Jh rfl Sr rfl (fun hw => step_load_ptr ty4 (Sub.w hw)) (Jh rfl Sr rfl (fun hw => step_not (Sub.w hw)) (Jg rfl Sr rfl (fun hw => step_pick_and (Sub.w hw) (Sub.ww hw)) (Js rfl (step_pick_or Sr Sr) ?_)))
      refine Js rfl (step_indexAddr_own (i := j) underlying95 ty4 Sr zS Sr (by rfl) (by simp only [List.length_set, row_len, rc_len, reach_len, List.length_replicate]; omega)) ?_
      refine Ju (step_store_own ty4 Sr Sr zS (by simp only [List.length_set, row_len, rc_len, reach_len, List.length_replicate]; omega)) fun _ => ?_
      refine JL_nil (J_region (Jm rfl (Js rfl (step_add Sr Sr z6) (Ja rfl (JL_nil ?_)))))
      refine K_againL (σ := Nat) (s := v) (v + 1) zO hvt (.u (.u (.u (.u (.u (.u (.u (.u (.u (.u (.u (.u (.u (.u (.u (.u (.u (.u (.u (.u (.u (.u (.u (.u (.u (.u (.u (.u (.u (.u (SubE.upd Sr SubE.any))))))))))))))))))))))))))))))) (LSub.cons zS (own_eq (by rw [lnk_succ]; exact set_or (by first | omega | (simp only [row_len, rc_len, reach_len, List.length_set, List.length_replicate]; omega)) _ _)) (LSub.cons zS (SPs.rfl) (LSub.nil)))
     try simp only [NF] at h87
     refine J_exit (J_region (Jm rfl (Js rfl (step_add Sr Sr z6) (Ja rfl (JL_nil ?_)))))
     refine K_againL (σ := Nat) (s := j) (j + 1) zO ⟨hjl, fun _ => hgt⟩ (.u (.u (.u (.u (.u (.u (.u (.u (.u (.u (.u (.u (.u (.u (.u (.u (.u (.u (.u (.u (.u (.u (.u (SubE.upd Sr SubE.any)))))))))))))))))))))))) (LSub.cons zS (SPs.of (by obtain rfl : v = q.Vars.toNat := zG; rw [← row_succ])) (LSub.cons zS (SPs.rfl) (LSub.nil)))
    try simp only [NF] at h65
    refine J_exit (J_region (Jm rfl (Js rfl (step_add Sr Sr z6) (Ja rfl (JL_nil ?_)))))
    refine K_againL (σ := Nat) (s := g) (g + 1) zO hgl (.u (.u (.u (.u (.u (.u (.u (.u (.u (.u (.u (.u (.u (.u (.u (.u (.u (.u (.u (.u (SubE.upd Sr SubE.any))))))))))))))))))))) (LSub.cons zS (own_eq ((row_end (q := q) (by first | omega | (simp only [row_len, rc_len, reach_len, List.length_set, List.length_replicate]; omega)) hj1 hj2 h65).trans (rc_succ _ _ _ _).symm)) (LSub.cons zS (SPs.rfl) (LSub.nil)))
   try simp only [NF] at h54
   refine J_exit (J_region (Jm rfl (Js rfl (step_add Sr Sr z6) (Ja rfl (JL_nil ?_)))))
   refine K_againL (σ := Nat) (s := k) (k + 1) zO hkl (.u (.u (.u (.u (.u (.u (.u (.u (.u (.u (.u (.u (.u (.u (.u (.u (.u (SubE.upd Sr SubE.any)))))))))))))))))) (LSub.cons zS (SPs.of (by obtain rfl : g = q.Atoms.length := zG; rfl)) (LSub.cons zS (SPs.rfl) (LSub.nil)))
  try simp only [NF] at h49
  refine J_exit (Jr (Jm rfl (Jm rfl ?_)))
  refine Js rfl (step_indexAddr_own (i := f) underlying95 ty4 Sr zS Sr (by rfl) (by first | omega | (simp only [row_len, rc_len, reach_len, List.length_set, List.length_replicate]; omega))) ?_
  refine Ju (step_store_own ty4 Sr Sr zS (by first | omega | (simp only [row_len, rc_len, reach_len, List.length_set, List.length_replicate]; omega))) fun _ => ?_
  refine JL_nil ?_
  refine K_freeze (t := 9) (A' := tSl rBool (attR q f)) (Sel.take (Sel.none _)) (Frz.own' (by obtain rfl : k = q.Atoms.length := zG; rfl)) ?_
  refine J_region (Jm rfl (Jm rfl ?_))
  refine Js rfl (step_literal (ys := [_]) underlying92 el95 ⟨rfl, Sr, trivial⟩ rfl (by decide)) ?_
  refine Jx rfl (step_append underlying92 el95 Sr Sr zS (by simp; omega) (by simp; omega)) fun v122 => ?_
  refine Ja rfl (JL_nil (J_region (Jm rfl (Js rfl (step_add Sr Sr z6) (Ja rfl ?_)))))
  refine JL_nil ?_
  refine K_againL (σ := Nat × Value) (s := (f, vo)) (f + 1, v122) zO hlt (.u (.u (.u (.u (.u (SubE.upd Sr SubE.any)))))) (LSub.cons zS (own_eq (by rw [List.range_succ]; simp)) (LSub.nil))
 try simp only [NF] at h24
 refine J_exit (Jr (Jm rfl (Ja rfl (Ja rfl (JL_nil ?_)))))
 refine J_ret ?_
 refine K_ret2' (rv := .tmp 2) (rv' := .tmp 3) rfl () (Sel.all _) (.tmp Sr) (.tmp Sr) (Frz.own' (by rw [if_pos hq, show f = q.Atoms.length by omega]; rfl)) (Frz.sub ?_) Sr
 rw [errV, if_pos hq]; exact Sr
set_option maxHeartbeats 4000000 in
theorem rFirst_spec (q : GConj) : Fun1 prog 37 [rConj.ty q] (tTup [tV (.bool (validQ q && allGone (attRL q))), tV (.int .i64 (errV q))]) := by
 refine Spec.enter func37 rfl rfl fun h0 w0 fr0 => ?_
 refine Jr (Js rfl (step_box (R := rConj) Sr) (Ja rfl (Ja rfl (JL_nil (Jr ?_)))))
 refine Jl rfl ty25 Sr (Js rfl (step_call0 (rAttacks_spec q) ⟨Sr, trivial⟩ call63) (Jm rfl (Js rfl (step_extract Sr rfl) (Js rfl (step_extract Sr rfl) (Ja rfl ?_)))))
 refine Ja rfl (JL_nil (J_seq (Jr (Jm rfl (Js rfl (step_neq Sr Sr) ?_)))))
 refine JL_nil ?_
 refine J_cond Sr (fun h19 => ?_) (fun h19 => ?_)
 ·
  try simp only [NF] at h19
  have hv : ¬ validQ q = true := by intro h; rw [errV, if_pos h] at h19; exact h19 rfl
  refine Jr (Jm rfl (Ja rfl (Ja rfl (JL_nil (J_ret ?_)))))
  refine K_ret2' (rv := .tmp 2) (rv' := .tmp 3) rfl () (Sel.all _) (.tmp Sr) (.tmp Sr) (Frz.sub ?_) (Frz.sub ?_) Sr
  ·
   refine Sub.bool ?_
   simp [hv]
  exact Sr
 try simp only [NF] at h19
 have hq : validQ q = true := by cases h : validQ q with | true => rfl | false => (exfalso; simp [errV, h] at h19)
 have hvb := valid_bounds hq
 have hal := attRL_len q
 refine J_skip (J_seq ?_)
 refine K_subT (t := 4) (A := tSl (rSl rBool) (attRL q)) (by rw [if_pos hq]; exact Sr) ?_
 refine J_region (Jm rfl (Js rfl (step_len_sl underlying92 Sr) (Ja rfl (JL_nil (Jr ?_)))))
 refine Jm rfl ?_
 refine Jx rfl (step_make (n := (attRL q).length) underlying95 el4 Sr Sr rfl zG zG) fun w24 => ?_
 refine Ja rfl (JL_nil (J_seq (Jr (Ja rfl (JL_nil ?_)))))
 refine J_block ?_
 refine J_loopL (σ := Nat) (fun k => k ≤ q.Atoms.length) (fun k => upd (upd (upd (upd (upd (upd env0 2 (tV (.bool false))) 3 (tV (.int .i64 0))) 4 (tSl (rSl rBool) (attRL q))) 6 (tV (.int .i64 (attRL q).length))) 7 (rV.ty w24)) 8 (tV (.int .i64 k))) (fun k => [own 4 rBool w24 (goneM (attRL q) k)]) (fun k => q.Atoms.length - k) 0 (Nat.zero_le _) (.u (.u (.u (.u (.u (SubE.upd Sr SubE.any)))))) (LSub.cons zS (SPs.rfl) (LSub.nil)) ?_
 rintro k hi
 refine J_seq (Jr (Jm rfl (Jm rfl (Js rfl (step_lss Sr Sr) (JL_nil ?_)))))
 refine J_cond Sr (fun h27 => ?_) (fun h27 => ?_)
 ·
  try simp only [NF] at h27
  have hkl : k < q.Atoms.length := by omega
  refine J_skip (J_seq (J_block (Jr (Ja rfl (JL_nil ?_)))))
  refine J_block ?_
  refine J_loopL (σ := Nat) (fun f => f ≤ q.Atoms.length) (fun f => upd (upd (upd (upd (upd (upd (upd (upd (upd env0 2 (tV (.bool false))) 3 (tV (.int .i64 0))) 4 (tSl (rSl rBool) (attRL q))) 6 (tV (.int .i64 (attRL q).length))) 7 (rV.ty w24)) 8 (tV (.int .i64 k))) 9 (tV (.int .i64 f))) 25 (tV (.int .i64 k))) 26 (tV (.int .i64 (attRL q).length))) (fun f => [own 4 rBool w24 (gnRnd (attRL q) (goneM (attRL q) k) f)]) (fun f => q.Atoms.length - f) 0 (Nat.zero_le _) (.u (.u (.u (.u (.u (.u (.u (.u (SubE.upd Sr SubE.any))))))))) (LSub.cons zS (SPs.rfl) (LSub.nil)) ?_
  rintro f hi
  refine J_seq (Jr (Jm rfl (Jm rfl (Js rfl (step_lss Sr Sr) (JL_nil ?_)))))
  refine J_cond Sr (fun h32 => ?_) (fun h32 => ?_)
  ·
   try simp only [NF] at h32
   have hfl : f < q.Atoms.length := by omega
   refine J_skip (J_seq (J_block (Jr (Ja rfl (JL_nil ?_)))))
   refine J_seq (Jr (Ja rfl (JL_nil (J_block ?_))))
   refine J_loopL (σ := Nat) (fun g => g ≤ q.Atoms.length) (fun g => upd (upd (upd (upd (upd (upd (upd (upd (upd (upd (upd (upd (upd env0 2 (tV (.bool false))) 3 (tV (.int .i64 0))) 4 (tSl (rSl rBool) (attRL q))) 6 (tV (.int .i64 (attRL q).length))) 7 (rV.ty w24)) 8 (tV (.int .i64 k))) 9 (tV (.int .i64 f))) 10 (tV (.bool (frS (attRL q) (gnRnd (attRL q) (goneM (attRL q) k) f) f g)))) 11 (tV (.int .i64 g))) 25 (tV (.int .i64 k))) 26 (tV (.int .i64 (attRL q).length))) 30 (tV (.int .i64 f))) 31 (tV (.int .i64 (attRL q).length))) (fun g => [own 4 rBool w24 (gnRnd (attRL q) (goneM (attRL q) k) f)]) (fun g => q.Atoms.length - g) 0 (Nat.zero_le _) (.u (.u (.u (.u (.u (.u (.u (.u (.u (.u (.u (.u (SubE.upd Sr SubE.any))))))))))))) (LSub.cons zS (SPs.rfl) (LSub.nil)) ?_
   rintro g hi
   refine J_seq (Jr (Jm rfl (Jm rfl (Js rfl (step_lss Sr Sr) (JL_nil ?_)))))
   refine J_cond Sr (fun h37 => ?_) (fun h37 => ?_)
   ·
    try simp only [NF] at h37
    have hgl : g < q.Atoms.length := by omega
    refine J_skip (J_seq (J_block (J_region (Jm rfl (Jm rfl ?_)))))
    refine Jg rfl Sr rfl (fun hw => step_move Sr) (Jg rfl Sr rfl (fun hw => step_move Sr) ?_)
    refine Jg rfl Sr rfl (fun hw => step_indexAddr_sl (i := g) underlying92 ty95 (Sub.w hw) (Sub.w hw) (by rfl) (gb (by have hwq := hw; (try simp only [beqB_t, beqB_f, NF] at hwq); rw [attRL_len]; omega))) ?_
    refine Jg rfl Sr rfl (fun hw => step_load_ptr ty95 (Sub.w hw)) (Jg rfl Sr rfl (fun hw => step_move Sr) ?_)
    refine Jg rfl Sr rfl (fun hw => step_indexAddr_sl (i := f) underlying95 ty4 (Sub.w hw) (Sub.w hw) (by rfl) (gb (by have hwq := hw; (try simp only [beqB_t, beqB_f, NF] at hwq); rw [attRL_nth q zG, attR_len]; omega))) ?_
    refine Jg rfl Sr rfl (fun hw => step_load_ptr ty4 (Sub.w hw)) (Jg rfl Sr rfl (fun hw => step_not (Sub.w hw)) (Jg rfl Sr rfl (fun hw => step_move (Sub.w hw)) (Jh rfl Sr rfl (fun hw => step_move Sr) (Jh rfl Sr rfl (fun hw => step_move Sr) ?_))))
    refine Jh rfl Sr rfl (fun hw => step_indexAddr_own (i := g) underlying95 ty4 (Sub.w hw) zS (Sub.w hw) (by rfl) (by have hwq := hw; (try simp only [beqB_t, beqB_f, NF] at hwq); simp only [gn_len, gone_len, attRL_len]; omega)) ?_
    refine Jh rfl Sr rfl (fun hw => step_load_own ty4 (Sub.w hw) zS (gb (by have hwq := hw; (try simp only [beqB_t, beqB_f, NF] at hwq); simp only [gn_len, gone_len, attRL_len]; omega))) ?_
    refine Jg rfl Sr rfl (fun hw => step_pick_or (Sub.w hw) (Sub.ww hw)) (Js rfl (step_pick_and Sr Sr) (Ja rfl (JL_nil (J_region (Jm rfl ?_)))))
    refine Js rfl (step_add Sr Sr z6) (Ja rfl (JL_nil ?_))
    refine K_againL (σ := Nat) (s := g) (g + 1) zO hgl (.u (.u (.u (.u (.u (SubE.upd (Sub.bool (by rw [fr_succ])) (.u (.u (.u (.u (.u (.u (SubE.upd Sr SubE.any))))))))))))) (LSub.cons zS (SPs.rfl) (LSub.nil))
   try simp only [NF] at h37
   refine J_exit (J_region (Jm rfl (Jm rfl (Jm rfl (Jm rfl ?_)))))
   refine Js rfl (step_indexAddr_own (i := f) underlying95 ty4 Sr zS Sr (by rfl) (by simp only [gn_len, gone_len, attRL_len]; omega)) ?_
   refine Js rfl (step_load_own ty4 Sr zS (gb (by simp only [gn_len, gone_len, attRL_len]; omega))) ?_
   refine Jm rfl (Jg rfl Sr rfl (fun hw => step_move Sr) (Js rfl (step_pick_or Sr Sr) ?_))
   refine Js rfl (step_indexAddr_own (i := f) underlying95 ty4 Sr zS Sr (by rfl) (by simp only [gn_len, gone_len, attRL_len]; omega)) ?_
   refine Ju (step_store_own ty4 Sr Sr zS (by simp only [gn_len, gone_len, attRL_len]; omega)) fun _ => ?_
   refine JL_nil (J_region (Jm rfl (Js rfl (step_add Sr Sr z6) (Ja rfl (JL_nil ?_)))))
   refine K_againL (σ := Nat) (s := f) (f + 1) zO hfl (.u (.u (.u (.u (.u (.u (.u (.u (SubE.upd Sr SubE.any))))))))) (LSub.cons zS (SPs.of (by obtain rfl : g = q.Atoms.length := zG; rw [gn_succ, hal])) (LSub.nil))
  try simp only [NF] at h32
  refine J_exit (J_region (Jm rfl (Js rfl (step_add Sr Sr z6) (Ja rfl (JL_nil ?_)))))
  refine K_againL (σ := Nat) (s := k) (k + 1) zO hkl (.u (.u (.u (.u (.u (SubE.upd Sr SubE.any)))))) (LSub.cons zS (SPs.of (by obtain rfl : f = q.Atoms.length := zG; rw [← hal]; rfl)) (LSub.nil))
 try simp only [NF] at h27
 refine J_exit (J_seq (Jr (Ja rfl (JL_nil (J_block ?_)))))
 refine J_loopL (σ := Nat) (fun f => f ≤ q.Atoms.length ∧ ∀ t, t < f → nth (goneM (attRL q) k) t = true) (fun f => upd (upd (upd env0 6 (tV (.int .i64 (attRL q).length))) 7 (rV.ty w24)) 12 (tV (.int .i64 f))) (fun f => [own 4 rBool w24 (goneM (attRL q) k)]) (fun f => q.Atoms.length - f) 0 ⟨Nat.zero_le _, fun t ht => absurd ht (Nat.not_lt_zero _)⟩ (.u (.u (SubE.upd Sr SubE.any))) (LSub.cons zS (SPs.rfl) (LSub.nil)) ?_
 rintro f ⟨hi1, hi2⟩
 refine J_seq (Jr (Jm rfl (Jm rfl (Js rfl (step_lss Sr Sr) (JL_nil ?_)))))
 refine J_cond Sr (fun h69 => ?_) (fun h69 => ?_)
 ·
  try simp only [NF] at h69
  have hfl : f < q.Atoms.length := by omega
  refine J_skip (J_seq (J_block (Jr (Jm rfl (Jm rfl ?_)))))
  refine Js rfl (step_indexAddr_own (i := f) underlying95 ty4 Sr zS Sr (by rfl) (by simp only [gn_len, gone_len, attRL_len]; omega)) ?_
  refine Js rfl (step_load_own ty4 Sr zS (gb (by simp only [gn_len, gone_len, attRL_len]; omega))) ?_
  refine Js rfl (step_not Sr) (JL_nil ?_)
  refine J_cond Sr (fun h76 => ?_) (fun h76 => ?_)
  ·
   try simp only [NF] at h76
   refine Jr (Ja rfl (Ja rfl (JL_nil (J_ret ?_))))
   refine K_ret2' (rv := .tmp 2) (rv' := .tmp 3) rfl () (Sel.all _) (.tmp Sr) (.tmp Sr) (Frz.sub ?_) (Frz.sub ?_) Sr
   ·
    refine Sub.bool ?_
    have hke : k = q.Atoms.length := by omega
    subst hke
    rw [all_gone_f hal hfl (by simpa using h76), hq]; rfl
   rw [errV, if_pos hq]; exact Sr
  try simp only [NF] at h76
  refine J_skip (J_region (Jm rfl (Js rfl (step_add Sr Sr z6) (Ja rfl (JL_nil ?_)))))
  refine K_againL (σ := Nat) (s := f) (f + 1) zO ?_ (.u (.u (SubE.upd Sr SubE.any))) (LSub.cons zS (SPs.rfl) (LSub.nil))
  refine ⟨hfl, fun t ht => ?_⟩
  by_cases e : t = f
  ·
   subst e; simpa using h76
  exact hi2 t zG
 try simp only [NF] at h69
 refine J_exit (Jr (Ja rfl (Ja rfl (JL_nil (J_ret ?_)))))
 refine K_ret2' (rv := .tmp 2) (rv' := .tmp 3) rfl () (Sel.all _) (.tmp Sr) (.tmp Sr) (Frz.sub ?_) (Frz.sub ?_) Sr
 ·
  refine Sub.bool ?_
  have hke : k = q.Atoms.length := by omega
  subst hke
  rw [all_gone_t hal fun t ht => hi2 t zG, hq]; rfl
 rw [errV, if_pos hq]; exact Sr
open Go Go.Proofs Go.Proofs.Tryz
def leB (a b : List Bool) : Prop := a.length = b.length ∧ ∀ v, v < a.length → nth a v = true → nth b v = true
theorem leB.rfl {a : List Bool} : leB a a := ⟨Eq.refl _, fun _ _ h => h⟩
theorem leB.trans {a b c : List Bool} (h : leB a b) (h2 : leB b c) : leB a c := ⟨h.1.trans h2.1, fun v hv e => h2.2 v (h.1 ▸ hv) (h.2 v hv e)⟩
theorem leB.antisymm {a b : List Bool} (h : leB a b) (h2 : leB b a) : a = b := list_ext h.1 fun i hi => by
  have x := h.2 i hi
  have y := h2.2 i (h.1 ▸ hi)
  cases e : nth a i with
  | true => exact (x e).symm
  | false =>
    cases e2 : nth b i with
    | true => rw [y e2] at e; cases e
    | false => rfl
theorem leB.diff {a b : List Bool} (h : leB a b) (hne : b ≠ a) : ∃ v, v < a.length ∧ nth a v = false ∧ nth b v = true := by
  refine Classical.byContradiction fun hc => hne (leB.antisymm ⟨h.1.symm, fun v hv e => ?_⟩ h)
  cases e2 : nth a v with
  | true => rfl
  | false => exact absurd ⟨v, h.1 ▸ hv, e2, e⟩ hc
section
variable {step : List Bool → Nat → List Bool}
theorem fold_succ (s : List Bool) (n : Nat) : (List.range (n + 1)).foldl step s = step ((List.range n).foldl step s) n := by rw [List.range_succ, List.foldl_append]; rfl
theorem fold_le (hinf : ∀ s i, leB s (step s i)) (s : List Bool) (i : Nat) : ∀ n, leB ((List.range i).foldl step s) ((List.range (i + n)).foldl step s)
  | 0 => leB.rfl
  | n + 1 => by rw [← Nat.add_assoc, fold_succ]; exact (fold_le hinf s i n).trans (hinf _ _)
theorem fold_le0 (hinf : ∀ s i, leB s (step s i)) (s : List Bool) (n : Nat) : leB s ((List.range n).foldl step s) := by
  have := fold_le hinf s 0 n
  rwa [Nat.zero_add] at this
theorem fold_fix (hinf : ∀ s i, leB s (step s i)) {s : List Bool} : ∀ {n}, (List.range n).foldl step s = s → ∀ i, i < n → step s i = s
  | 0, _, i, hi => absurd hi (Nat.not_lt_zero _)
  | n + 1, h, i, hi => by
    rw [fold_succ] at h
    have h1 : (List.range n).foldl step s = s := leB.antisymm (by have := hinf ((List.range n).foldl step s) n; rwa [h] at this) (fold_le0 hinf s n)
    rcases Nat.lt_or_ge i n with h2 | h2
    · exact fold_fix hinf h1 i h2
    · obtain rfl : i = n := by omega
      rwa [h1] at h
theorem fold_move {s : List Bool} : ∀ {n}, (List.range n).foldl step s ≠ s → ∃ i, i < n ∧ step ((List.range i).foldl step s) i ≠ (List.range i).foldl step s
  | 0, h => absurd rfl h
  | n + 1, h => by
    by_cases h1 : (List.range n).foldl step s = s
    · exact ⟨n, Nat.lt_succ_self _, fun e => h (by rw [fold_succ, e, h1])⟩
    · obtain ⟨i, hi, h2⟩ := fold_move h1
      exact ⟨i, by omega, h2⟩
theorem fold_inv {P : List Bool → Prop} {N : Nat} (hs : ∀ s i, i < N → P s → P (step s i)) {s : List Bool} (h : P s) : ∀ {n}, n ≤ N → P ((List.range n).foldl step s)
  | 0, _ => h
  | n + 1, hn => by rw [fold_succ]; exact hs _ _ (by omega) (fold_inv hs h (by omega))
end
theorem iter_fix {S : Type} {F : S → S} {c : S → Nat} {N : Nat} {g : Nat → S} (hg : ∀ n, g (n + 1) = F (g n)) (hc : ∀ n, c (g n) ≤ N) (hs : ∀ n, F (g n) ≠ g n → c (g n) < c (F (g n))) : F (g N) = g N := by
  have key : ∀ n, F (g n) = g n ∨ n ≤ c (g n) := by
    intro n
    induction n with
    | zero => exact .inr (Nat.zero_le _)
    | succ n ih =>
      by_cases e : F (g n) = g n
      · left; rw [hg, e, e]
      · right
        have h1 := hs n e
        rw [hg]
        rcases ih with h2 | h2
        · exact absurd h2 e
        · omega
  refine Classical.byContradiction fun hne => ?_
  have h1 := hs N hne
  have h2 := hc (N + 1)
  rw [hg] at h2
  rcases key N with h | h
  · exact hne h
  · omega
theorem countP_lt {α : Type} {p r : α → Bool} : ∀ {l : List α}, (∀ x ∈ l, p x = true → r x = true) → ∀ {a}, a ∈ l → p a = false → r a = true → l.countP p < l.countP r
  | x :: l, h, a, ha, hp, hr => by
    have hm := List.countP_mono_left (p := p) (q := r) fun y hy => h y (List.mem_cons_of_mem _ hy)
    rw [List.countP_cons, List.countP_cons]
    rcases List.mem_cons.1 ha with e | e
    · subst e; rw [hp, hr]; simp; omega
    · have := countP_lt (fun y hy => h y (List.mem_cons_of_mem _ hy)) e hp hr
      have hx := h x (List.mem_cons_self ..)
      cases e1 : p x with
      | true => rw [hx e1]; simp; omega
      | false => cases r x <;> simp <;> omega
theorem cnt_lt {a b : List Bool} {N : Nat} (hl : a.length = N) (h : leB a b) (hne : b ≠ a) : (List.range N).countP (nth a) < (List.range N).countP (nth b) := by
  obtain ⟨v, hv, h1, h2⟩ := h.diff hne
  exact countP_lt (fun x hx e => h.2 x (by rw [hl]; exact List.mem_range.1 hx) e) (List.mem_range.2 (hl ▸ hv)) h1 h2
theorem cnt_le (p : Nat → Bool) (N : Nat) : (List.range N).countP p ≤ N := by have := List.countP_le_length (p := p) (l := List.range N); rwa [List.length_range] at this
/-! closed -/
theorem within_iff {n : Int} {ts : List Int} {s : List Bool} : withinM (varsM n ts) s = true ↔ ∀ v : Nat, v < n.toNat → (v : Int) ∈ ts → nth s v = true := by
  unfold withinM
  rw [List.all_eq_true, varsM_len]
  constructor
  · intro h v hv hm
    have := h v (List.mem_range.2 hv)
    rw [varsM_nth hv, decide_eq_true hm] at this
    simpa using this
  · intro h v hv
    have hv := List.mem_range.1 hv
    rw [varsM_nth hv]
    by_cases hm : (v : Int) ∈ ts
    · rw [h v hv hm]; simp
    · simp [hm]
theorem within_mono {n : Int} {ts : List Int} {a b : List Bool} (hl : a.length = n.toNat) (h : leB a b) (hw : withinM (varsM n ts) a = true) : withinM (varsM n ts) b = true :=
  within_iff.2 fun v hv hm => h.2 v (hl ▸ hv) (within_iff.1 hw v hv hm)
theorem or_le (out all : List Bool) (v : Nat) : leB out (orM out all v) := ⟨(orM_len _ _ _).symm, fun u hu e => by rw [orM_nth hu, e]; rfl⟩
theorem cls_le (q : GConj) (w : Int) (s : List Bool) (i : Nat) : leB s (clStep q w s i) := by
  unfold clStep
  split
  · exact leB.rfl
  · exact or_le _ _ _
theorem cls_skip {q : GConj} {w : Int} {s : List Bool} {i : Nat} (h : (i : Int) = w ∨ withinM (varsM q.Vars (keyT q i)) s = false) : clStep q w s i = s := if_pos h
theorem cls_fire {q : GConj} {w : Int} {s : List Bool} {i : Nat} (h : ¬ ((i : Int) = w ∨ withinM (varsM q.Vars (keyT q i)) s = false)) : clStep q w s i = orM s (varsM q.Vars (nth q.Atoms i).Terms) q.Vars.toNat := if_neg h
theorem or_in {n : Int} {ts : List Int} {s : List Bool} (hl : s.length = n.toNat) : withinM (varsM n ts) (orM s (varsM n ts) n.toNat) = true := within_iff.2 fun v hv hm => by
  rw [orM_nth (hl ▸ hv), varsM_nth hv]; simp [hv, hm]
theorem or_same {n : Int} {ts : List Int} {s : List Bool} (hl : s.length = n.toNat) (h : withinM (varsM n ts) s = true) : orM s (varsM n ts) n.toNat = s := list_ext (orM_len _ _ _) fun v hv => by
  rw [orM_len] at hv
  rw [orM_nth hv]
  have hv2 := hl ▸ hv
  rw [varsM_nth hv2]
  by_cases hm : (v : Int) ∈ ts
  · rw [within_iff.1 h v hv2 hm]; rfl
  · simp [hm]
theorem closed_fix (q : GConj) (w : Int) (set : List Bool) (hl : set.length = q.Vars.toNat) : rndM q w (closedM q w set q.Atoms.length) q.Atoms.length = closedM q w set q.Atoms.length := by
  refine iter_fix (F := fun s => rndM q w s q.Atoms.length) (c := fun s => (List.range q.Atoms.length).countP fun i => withinM (varsM q.Vars (nth q.Atoms i).Terms) s) (g := closedM q w set) (fun _ => rfl) (fun _ => cnt_le _ _) fun n hne => ?_
  have hl2 : (closedM q w set n).length = q.Vars.toNat := by rw [closed_len, hl]
  generalize closedM q w set n = s at hne hl2
  obtain ⟨i, hi, hm⟩ := fold_move hne
  have hb : ((List.range i).foldl (clStep q w) s).length = q.Vars.toNat := (rnd_len q w s i).trans hl2
  have hle : leB s ((List.range i).foldl (clStep q w) s) := fold_le0 (cls_le q w) s i
  have hle2 : leB ((List.range (i + 1)).foldl (clStep q w) s) (rndM q w s q.Atoms.length) := by
    have := fold_le (cls_le q w) s (i + 1) (q.Atoms.length - (i + 1))
    rwa [show i + 1 + (q.Atoms.length - (i + 1)) = q.Atoms.length by omega] at this
  rw [fold_succ] at hle2
  have hc : ¬ ((i : Int) = w ∨ withinM (varsM q.Vars (keyT q i)) ((List.range i).foldl (clStep q w) s) = false) := fun hc => hm (cls_skip hc)
  rw [cls_fire hc] at hm hle2
  refine countP_lt (a := i) (fun x _ hx => within_mono hl2 (fold_le0 (cls_le q w) s q.Atoms.length) hx) (List.mem_range.2 hi) ?_ (within_mono (by rw [orM_len, hb]) hle2 (or_in hb))
  cases e : withinM (varsM q.Vars (nth q.Atoms i).Terms) s with
  | false => rfl
  | true => exact absurd (or_same hb (within_mono hl2 hle e)) hm
theorem closed_le (q : GConj) (w : Int) (set : List Bool) : ∀ n, leB set (closedM q w set n)
  | 0 => leB.rfl
  | n + 1 => (closed_le q w set n).trans (fold_le0 (cls_le q w) _ _)
theorem closed_sound {q : GConj} (hq : validQ q = true) {w : Int} {ts : List Int} : ∀ n, (closedM q w (varsM q.Vars ts) n).length = q.Vars.toNat ∧ ∀ v : Nat, v < q.Vars.toNat → nth (closedM q w (varsM q.Vars ts) n) v = true → ClV q w ts v
  | 0 => ⟨varsM_len _ _, fun v hv h => ClV.base (by have h : nth (varsM q.Vars ts) v = true := h; rw [varsM_nth hv] at h; exact of_decide_eq_true h)⟩
  | n + 1 => by
    refine fold_inv (P := fun s : List Bool => s.length = q.Vars.toNat ∧ ∀ v : Nat, v < q.Vars.toNat → nth s v = true → ClV q w ts v) (N := q.Atoms.length) (fun s i hi ⟨hl, h⟩ => ⟨by rw [clStep_len, hl], fun v hv e => ?_⟩) (closed_sound hq n) (Nat.le_refl _)
    unfold clStep at e
    split at e
    · exact h v hv e
    · rename_i hc
      rw [orM_nth (hl ▸ hv), Bool.or_eq_true] at e
      rcases e with e | e
      · exact h v hv e
      · rw [varsM_nth hv] at e
        have hm : (v : Int) ∈ (nth q.Atoms i).Terms := by simpa [hv] using e
        have hk : withinM (varsM q.Vars (keyT q i)) s = true := by
          cases e2 : withinM (varsM q.Vars (keyT q i)) s with
          | true => rfl
          | false => exact absurd (.inr e2) hc
        refine ClV.step hi (fun e2 => hc (.inl e2)) (fun t' ht' h0 => ?_) hm
        have hu := (at_v hq hi).up t' (List.mem_of_mem_take ht')
        have := h t'.toNat (by omega) (within_iff.1 hk t'.toNat (by omega) (by rw [Int.toNat_of_nonneg h0]; exact ht'))
        rwa [Int.toNat_of_nonneg h0] at this
theorem closed_iff {q : GConj} (hq : validQ q = true) {w : Int} {ts : List Int} {v : Nat} (hv : v < q.Vars.toNat) : nth (closedM q w (varsM q.Vars ts) q.Atoms.length) v = true ↔ ClV q w ts v := by
  refine ⟨(closed_sound hq _).2 v hv, fun h => ?_⟩
  have key : ∀ t : Int, ClV q w ts t → 0 ≤ t → t < q.Vars → nth (closedM q w (varsM q.Vars ts) q.Atoms.length) t.toNat = true := by
    intro t h
    induction h with
    | @base t hm =>
      intro h0 h1
      refine (closed_le q w (varsM q.Vars ts) _).2 _ (by rw [varsM_len]; omega) ?_
      rw [varsM_nth (by omega), Int.toNat_of_nonneg h0]
      exact decide_eq_true hm
    | @step H t hH hne _ hm ih =>
      intro h0 h1
      have hf := fold_fix (cls_le q w) (closed_fix q w (varsM q.Vars ts) (varsM_len _ _)) H hH
      have hlen : (closedM q w (varsM q.Vars ts) q.Atoms.length).length = q.Vars.toNat := by rw [closed_len, varsM_len]
      have hk : withinM (varsM q.Vars (keyT q H)) (closedM q w (varsM q.Vars ts) q.Atoms.length) = true := within_iff.2 fun u hu hmu => by
        have := ih u hmu (by omega) (by omega) (by omega)
        simpa using this
      rw [cls_fire (by rintro (e | e); exact hne e; rw [hk] at e; cases e)] at hf
      rw [← hf, orM_nth (by rw [hlen]; omega), varsM_nth (by omega), Int.toNat_of_nonneg h0, decide_eq_true hm]
      have : t.toNat < q.Vars.toNat := by omega
      simp [this]
  have := key v h (by omega) (by omega)
  simpa using this
/-! Attacks -/
theorem set_le (r : List Bool) (h : Nat) (b : Bool) : leB r (r.set h (nth r h || b)) := ⟨(List.length_set ..).symm, fun v hv e => by
  rw [Lg.nth_set hv]
  split
  · rename_i e2; subst e2; rw [e]; rfl
  · exact e⟩
theorem row_le (q : GConj) (plus : List Bool) (g : Nat) (r : List Bool) (n : Nat) : leB r (rowR q plus g r n) := ⟨(row_len ..).symm, fun j hj e => row_mono q plus g r j hj e n⟩
theorem rcs_le (q : GConj) (plus r : List Bool) (g : Nat) : leB r (rcStep q plus r g) := by
  unfold rcStep
  split
  · exact row_le _ _ _ _ _
  · exact leB.rfl
theorem reach_fix (q : GConj) (plus r : List Bool) (hl : r.length = q.Atoms.length) : rcRnd q plus (reachM q plus r q.Atoms.length) q.Atoms.length = reachM q plus r q.Atoms.length := by
  refine iter_fix (F := fun s => rcRnd q plus s q.Atoms.length) (c := fun s => (List.range q.Atoms.length).countP (nth s)) (g := reachM q plus r) (fun _ => rfl) (fun _ => cnt_le _ _) fun n hne => ?_
  exact cnt_lt ((reach_len q plus r n).trans hl) (fold_le0 (rcs_le q plus) _ _) hne
theorem reach_le (q : GConj) (plus r : List Bool) : ∀ n, leB r (reachM q plus r n)
  | 0 => leB.rfl
  | n + 1 => (reach_le q plus r n).trans (fold_le0 (rcs_le q plus) _ _)
theorem lnkR_iff {q : GConj} (hq : validQ q = true) {f g h : Nat} (hg : g < q.Atoms.length) (hh : h < q.Atoms.length) : lnkR q (plusM q f) g h q.Vars.toNat = true ↔ ∃ t, t ∈ (nth q.Atoms g).Terms ∧ t ∈ (nth q.Atoms h).Terms ∧ 0 ≤ t ∧ ¬ ClV q f (keyT q f) t := by
  unfold lnkR
  rw [List.any_eq_true]
  constructor
  · rintro ⟨v, hv, e⟩
    have hv := List.mem_range.1 hv
    rw [varsM_nth hv, varsM_nth hv, Bool.and_eq_true, Bool.and_eq_true, decide_eq_true_eq, decide_eq_true_eq] at e
    refine ⟨v, e.1.1, e.1.2, by omega, fun hc => ?_⟩
    have h2 := (closed_iff hq hv).2 hc
    have h1 := e.2
    unfold plusM at h1
    rw [h2] at h1; cases h1
  · rintro ⟨t, h1, h2, h0, hc⟩
    have hu := (at_v hq hg).up t h1
    refine ⟨t.toNat, List.mem_range.2 (by omega), ?_⟩
    rw [varsM_nth (by omega), varsM_nth (by omega), Int.toNat_of_nonneg h0, decide_eq_true h1, decide_eq_true h2]
    have : nth (plusM q f) t.toNat = false := by
      cases e : nth (plusM q f) t.toNat with
      | false => rfl
      | true =>
        have := (closed_iff hq (w := f) (ts := keyT q f) (v := t.toNat) (by omega)).1 e
        rw [Int.toNat_of_nonneg h0] at this
        exact absurd this hc
    rw [this]; rfl
theorem reach_sound {q : GConj} (hq : validQ q = true) {f : Nat} (hf : f < q.Atoms.length) : ∀ n, (reachM q (plusM q f) ((List.replicate q.Atoms.length false).set f true) n).length = q.Atoms.length ∧ ∀ h, h < q.Atoms.length → nth (reachM q (plusM q f) ((List.replicate q.Atoms.length false).set f true) n) h = true → RcQ q f h
  | 0 => ⟨by simp [reachM], fun h hh e => by
      have e : nth ((List.replicate q.Atoms.length false).set f true) h = true := e
      rw [Lg.nth_set (by simpa using hh)] at e
      split at e
      · rename_i e2; subst e2; exact RcQ.refl
      · rw [nth_get (by simpa using hh)] at e; simp at e⟩
  | n + 1 => by
    refine fold_inv (P := fun r : List Bool => r.length = q.Atoms.length ∧ ∀ h, h < q.Atoms.length → nth r h = true → RcQ q f h) (N := q.Atoms.length) (fun r g hg ⟨hl, h⟩ => ⟨by rw [rcStep_len, hl], fun k hk e => ?_⟩) (reach_sound hq hf n) (Nat.le_refl _)
    unfold rcStep at e
    split at e
    · rename_i hr
      have hrg := h g hg hr
      have key : ∀ m, m ≤ q.Atoms.length → ∀ k, k < q.Atoms.length → nth (rowR q (plusM q f) g r m) k = true → RcQ q f k := by
        intro m
        induction m with
        | zero => intro _ k hk e; exact h k hk e
        | succ m ih =>
          intro hm k hk e
          rw [row_succ, Lg.nth_set (by rw [row_len, hl]; exact hk)] at e
          split at e
          · rename_i e2; subst e2
            rw [Bool.or_eq_true] at e
            rcases e with e | e
            · exact ih (by omega) m hk e
            · obtain ⟨t, h1, h2, h0, hc⟩ := (lnkR_iff hq hg hk).1 e
              exact RcQ.step hrg hg hk h1 h2 h0 hc
          · exact ih (by omega) k hk e
      exact key _ (Nat.le_refl _) k hk e
    · exact h k hk e
theorem reach_iff {q : GConj} (hq : validQ q = true) {f h : Nat} (hf : f < q.Atoms.length) (hh : h < q.Atoms.length) : nth (reachM q (plusM q f) ((List.replicate q.Atoms.length false).set f true) q.Atoms.length) h = true ↔ RcQ q f h := by
  refine ⟨(reach_sound hq hf _).2 h hh, fun r => ?_⟩
  have hlen := (reach_sound hq hf q.Atoms.length).1
  have hfix := reach_fix q (plusM q f) ((List.replicate q.Atoms.length false).set f true) (by simp)
  have hle := reach_le q (plusM q f) ((List.replicate q.Atoms.length false).set f true) q.Atoms.length
  generalize reachM q (plusM q f) ((List.replicate q.Atoms.length false).set f true) q.Atoms.length = s at hlen hfix hle ⊢
  clear hh
  induction r with
  | refl => exact hle.2 f (by simpa using hf) (by rw [Lg.nth_set (by simpa using hf), if_pos rfl])
  | @step H K t r hH hK h1 h2 h0 hc ih =>
    have e := fold_fix (rcs_le q (plusM q f)) hfix H hH
    unfold rcStep at e
    rw [if_pos ih] at e
    have e2 := fold_fix (step := fun r h => r.set h (nth r h || lnkR q (plusM q f) H h q.Vars.toNat)) (fun s i => set_le s i _) e K hK
    have e3 : nth (s.set K (nth s K || lnkR q (plusM q f) H K q.Vars.toNat)) K = nth s K := by rw [e2]
    rw [Lg.nth_set (by rw [hlen]; exact hK), if_pos rfl, (lnkR_iff hq hH hK).2 ⟨t, h1, h2, h0, hc⟩, Bool.or_true] at e3
    exact e3.symm
open Classical in
theorem attR_eq {q : GConj} (hq : validQ q = true) {f : Nat} (hf : f < q.Atoms.length) : attR q f = attB q f := list_ext (by rw [attR_len, attB_len]) fun h hh => by
  rw [attR_len] at hh
  have hlen := (reach_sound hq hf q.Atoms.length).1
  have e1 : nth (attB q f) h = decide (RcQ q f h ∧ h ≠ f) := nth_range_map hh
  rw [e1]
  unfold attR
  rw [Lg.nth_set (by rw [hlen]; exact hh)]
  split
  · rename_i e; subst e; simp
  · rename_i e
    have e2 : h ≠ f := fun x => e x.symm
    cases e3 : nth (reachM q (plusM q f) ((List.replicate q.Atoms.length false).set f true) q.Atoms.length) h with
    | true => symm; rw [decide_eq_true_eq]; exact ⟨(reach_iff hq hf hh).1 e3, e2⟩
    | false =>
      symm; rw [decide_eq_false_iff_not]
      intro hc
      rw [(reach_iff hq hf hh).2 hc.1] at e3; cases e3
theorem attRL_eq {q : GConj} (hq : validQ q = true) : attRL q = attL q := List.map_congr_left fun f hf => attR_eq hq (List.mem_range.1 hf)
/-! First order -/
theorem gone_fix (l : List (List Bool)) : gnRnd l (goneM l l.length) l.length = goneM l l.length := by
  refine iter_fix (F := fun s => gnRnd l s l.length) (c := fun s => (List.range l.length).countP (nth s)) (g := goneM l) (fun _ => rfl) (fun _ => cnt_le _ _) fun n hne => ?_
  exact cnt_lt (gone_len l n) (fold_le0 (fun s i => set_le s i _) _ _) hne
theorem fr_iff {l : List (List Bool)} {gone : List Bool} {f n : Nat} : frS l gone f n = true ↔ ∀ g, g < n → nth (nth l g) f = true → nth gone g = true := by
  unfold frS
  rw [List.all_eq_true]
  constructor
  · intro h g hg e
    have := h g (List.mem_range.2 hg)
    rw [e] at this; simpa using this
  · intro h g hg
    cases e : nth (nth l g) f with
    | true => rw [h g (List.mem_range.1 hg) e]; rfl
    | false => rfl
theorem gone_back {l : List (List Bool)} {f : Nat} (hf : f < l.length) (h : ∀ g, g < l.length → nth (nth l g) f = true → nth (goneM l l.length) g = true) : nth (goneM l l.length) f = true := by
  have e := fold_fix (step := fun r f => r.set f (nth r f || frS l r f l.length)) (fun s i => set_le s i _) (gone_fix l) f hf
  have e2 : nth ((goneM l l.length).set f (nth (goneM l l.length) f || frS l (goneM l l.length) f l.length)) f = nth (goneM l l.length) f := by rw [e]
  rw [Lg.nth_set (by rw [gone_len]; exact hf), if_pos rfl, fr_iff.2 h, Bool.or_true] at e2
  exact e2.symm
theorem gone_topo {l : List (List Bool)} (hl : ∀ f, f < l.length → (nth l f).length = l.length) {fin : List Nat} (T : Topo l fin) (hall : ∀ f, f < l.length → f ∈ fin) : ∀ (n : Nat) (pre : List Nat) (v : Nat) (post : List Nat), fin = pre ++ v :: post → v ∉ pre → fin.length - pre.length ≤ n → v < l.length → nth (goneM l l.length) v = true
  | 0, pre, v, post, e, _, hn, _ => by rw [e, List.length_append, List.length_cons] at hn; omega
  | n + 1, pre, v, post, e, hp, hn, hv => by
    refine gone_back hv fun g hg hed => ?_
    obtain ⟨pre2, post2, e2, hp2⟩ := List.eq_append_cons_of_mem (hall g hg)
    have hin := T pre2 g post2 e2 v (ed_iff.2 ⟨by rw [hl g hg]; exact hv, hed⟩)
    have hlt : pre.length < pre2.length := by
      refine Classical.byContradiction fun hc => hp ?_
      have p1 : pre2 <+: fin := ⟨g :: post2, e2.symm⟩
      have p2 : pre <+: fin := ⟨v :: post, e.symm⟩
      exact (List.prefix_of_prefix_length_le p1 p2 (by omega)).subset hin
    have hpl : pre2.length ≤ fin.length := by rw [e2]; simp
    exact gone_topo hl T hall n pre2 g post2 e2 hp2 (by omega) hg
theorem rch_last {l : List (List Bool)} {a w : Nat} (h : Rch l a w) : a = w ∨ ∃ x, Rch l a x ∧ ed l x w := by
  induction h with
  | refl => exact .inl rfl
  | step h1 h2 ih =>
    rcases ih with e | ⟨x, h3, h4⟩
    · subst e; exact .inr ⟨_, Rch.refl _, h1⟩
    · exact .inr ⟨x, Rch.step h1 h3, h4⟩
theorem gone_cycle {l : List (List Bool)} (hl : ∀ f, f < l.length → (nth l f).length = l.length) (hx : ∀ f, l.length ≤ f → (nth l f).length = 0) {u v : Nat} (h1 : ed l u v) (h2 : Rch l v u) : ∀ n, (goneM l n).length = l.length ∧ ∀ w, w < l.length → Rch l v w → Rch l w u → nth (goneM l n) w = false
  | 0 => ⟨by simp [goneM], fun w hw _ _ => by show nth (List.replicate l.length false) w = false; rw [nth_get (by simpa using hw)]; simp⟩
  | n + 1 => by
    refine fold_inv (P := fun s : List Bool => s.length = l.length ∧ ∀ w, w < l.length → Rch l v w → Rch l w u → nth s w = false) (N := l.length) (fun s f hf ⟨hs, h⟩ => ⟨by rw [List.length_set, hs], fun w hw c1 c2 => ?_⟩) (gone_cycle hl hx h1 h2 n) (Nat.le_refl _)
    rw [Lg.nth_set (by rw [hs]; exact hw)]
    split
    · rename_i e; subst e
      rw [h f hw c1 c2]
      show frS l s f l.length = false
      obtain ⟨x, hxw, hvx, hxu⟩ : ∃ x, ed l x f ∧ Rch l v x ∧ Rch l x u := by
        rcases rch_last c1 with e | ⟨x, h3, h4⟩
        · subst e; exact ⟨u, h1, h2, Rch.refl _⟩
        · exact ⟨x, h4, h3, Rch.step h4 c2⟩
      have hi := ed_iff.1 hxw
      have hxl : x < l.length := by
        refine Classical.byContradiction fun hc => ?_
        have := hx x (by omega)
        omega
      cases e : frS l s f l.length with
      | false => rfl
      | true => exact absurd (fr_iff.1 e x hxl hi.2) (by rw [h x hxl hvx hxu]; simp)
    · exact h w hw c1 c2
theorem all_gone (q : GConj) : allGone (attL q) = firstM q := by
  have hl : ∀ f, f < (attL q).length → (nth (attL q) f).length = (attL q).length := fun f hf => by rw [attL_len] at hf; rw [attL_nth q hf, attB_len, attL_len]
  have hx : ∀ f, (attL q).length ≤ f → (nth (attL q) f).length = 0 := fun f hf => by
    have : nth (attL q) f = default := nth_over hf
    rw [this]; rfl
  cases h : firstM q with
  | true =>
    obtain ⟨fin, T, hall⟩ := first_topo h
    unfold allGone
    rw [List.all_eq_true]
    intro f hf
    have hf := List.mem_range.1 hf
    obtain ⟨pre, post, e, hp⟩ := List.eq_append_cons_of_mem (hall f (by rwa [attL_len] at hf))
    exact gone_topo hl T (fun f hf => hall f (by rwa [attL_len] at hf)) fin.length pre f post e hp (by omega) hf
  | false =>
    obtain ⟨u, v, h1, h2⟩ := first_cycle h
    have hv : v < (attL q).length := by rw [attL_len]; exact (ed_att.1 h1).2.1
    unfold allGone
    rw [List.all_eq_false]
    exact ⟨v, List.mem_range.2 hv, by rw [(gone_cycle hl hx h1 h2 _).2 v hv (Rch.refl _) h2]; simp⟩
theorem first_ref {q : GConj} (hq : validQ q = true) : allGone (attRL q) = firstM q := by rw [attRL_eq hq, all_gone]
open Go Go.Proofs Go.Proofs.Tryz
def hasE (es : List (List Int)) (i k n : Nat) : Bool := (List.range n).any fun m => decide (((nth es m).length : Int) = 2) && decide (nth (nth es m) 0 = (i : Int)) && decide (nth (nth es m) 1 = (k : Int))
theorem hasE_succ (es : List (List Int)) (i k n : Nat) : hasE es i k (n + 1) = (hasE es i k n || (decide (((nth es n).length : Int) = 2) && decide (nth (nth es n) 0 = (i : Int)) && decide (nth (nth es n) 1 = (k : Int)))) := by
  unfold hasE; rw [List.range_succ, List.any_append]; simp
def prR (q : GConj) (facts : List GFact) (es : List (List Int)) (i k : Nat) : Bool := (decide (atomI q (nth facts i).Table ≥ 0) || decide (atomI q (nth facts k).Table ≥ 0)) && !decide (hasE es i k es.length = sameM q (nth facts i) (nth facts k))
def bdR (q : GConj) (facts : List GFact) (e : List Int) (j : Nat) : Bool := !decide ((e.length : Int) = 2) && decide (atomI q (nth facts (nth e j).toNat).Table ≥ 0)
def PrP (q : GConj) (facts : List GFact) (es : List (List Int)) : Prop := ∀ i k, i < k → k < facts.length → prR q facts es i k = false
def BdP (q : GConj) (facts : List GFact) (es : List (List Int)) : Prop := ∀ m, m < es.length → ∀ j, j < (nth es m).length → bdR q facts (nth es m) j = false
open Classical in
noncomputable def appR (q : GConj) (facts : List GFact) (g : GGraph) : Bool := fitM q facts && validR g && decide (g.N = facts.length) && decide (PrP q facts g.Edges ∧ BdP q facts g.Edges)
theorem appR_no {q : GConj} {facts : List GFact} {g : GGraph} (h : ¬ (fitM q facts = true ∧ validR g = true ∧ g.N = facts.length)) : appR q facts g = false := by
  unfold appR
  cases h1 : fitM q facts with
  | false => rfl
  | true =>
    cases h2 : validR g with
    | false => rfl
    | true => rw [decide_eq_false fun h3 => h ⟨h1, h2, h3⟩]; rfl
theorem appR_bad {q : GConj} {facts : List GFact} {g : GGraph} (h : ¬ (PrP q facts g.Edges ∧ BdP q facts g.Edges)) : appR q facts g = false := by
  unfold appR
  rw [@decide_eq_false _ (_) h, Bool.and_false]
theorem appR_yes {q : GConj} {facts : List GFact} {g : GGraph} (h1 : fitM q facts = true) (h2 : validR g = true) (h3 : g.N = facts.length) (h4 : PrP q facts g.Edges) (h5 : BdP q facts g.Edges) : appR q facts g = true := by
  unfold appR
  rw [h1, h2, decide_eq_true h3, @decide_eq_true _ (_) ⟨h4, h5⟩]; rfl
theorem validR_in {g : GGraph} (h : validR g = true) : g.Edges.length ≤ 20000 ∧ ∀ m, m < g.Edges.length → ∀ j, j < (nth g.Edges m).length → 0 ≤ nth (nth g.Edges m) j ∧ nth (nth g.Edges m) j < g.N := by
  have hl : g.Edges.length ≤ 20000 := by
    unfold validR at h
    simp only [Bool.and_eq_true, decide_eq_true_eq] at h
    exact h.1.2
  refine ⟨hl, fun m hm j hj => ?_⟩
  rw [valid_ref hl] at h
  unfold validG validG1 at h
  simp only [Bool.and_eq_true] at h
  have h2 := List.all_eq_true.1 h.1.2 m (List.mem_range.2 hm)
  simp only [Bool.and_eq_true] at h2
  exact (isSet_ok h2.2).2 _ (nth_mem hj)
theorem pr_no {q : GConj} {facts : List GFact} {es : List (List Int)} {i k : Nat} (h : (atomI q (nth facts i).Table < 0 ∧ atomI q (nth facts k).Table < 0) ∨ (hasE es i k es.length == sameM q (nth facts i) (nth facts k)) = true) : prR q facts es i k = false := by
  unfold prR
  rcases h with ⟨h1, h2⟩ | h
  · rw [decide_eq_false (by omega), decide_eq_false (by omega)]; rfl
  · rw [decide_eq_true (show hasE es i k es.length = sameM q (nth facts i) (nth facts k) by simpa using h)]; simp
theorem pr_yes {q : GConj} {facts : List GFact} {es : List (List Int)} {i k : Nat} (h : (0 ≤ atomI q (nth facts i).Table ∨ 0 ≤ atomI q (nth facts k).Table) ∧ (hasE es i k es.length == sameM q (nth facts i) (nth facts k)) = false) : prR q facts es i k = true := by
  unfold prR
  rw [decide_eq_false (show ¬ hasE es i k es.length = sameM q (nth facts i) (nth facts k) by simpa using h.2)]
  rcases h.1 with h1 | h1
  · rw [decide_eq_true (show atomI q (nth facts i).Table ≥ 0 from h1)]; rfl
  · rw [decide_eq_true (show atomI q (nth facts k).Table ≥ 0 from h1)]; simp
theorem bd_no {q : GConj} {facts : List GFact} {e : List Int} {j : Nat} (h : (e.length : Int) = 2 ∨ atomI q (nth facts (nth e j).toNat).Table < 0) : bdR q facts e j = false := by
  unfold bdR
  rcases h with h | h
  · rw [decide_eq_true h]; rfl
  · rw [decide_eq_false (show ¬ atomI q (nth facts (nth e j).toNat).Table ≥ 0 by omega)]; simp
theorem bd_yes {q : GConj} {facts : List GFact} {e : List Int} {j : Nat} (h : ¬ (e.length : Int) = 2 ∧ 0 ≤ atomI q (nth facts (nth e j).toNat).Table) : bdR q facts e j = true := by
  unfold bdR
  rw [decide_eq_false h.1, decide_eq_true (show atomI q (nth facts (nth e j).toNat).Table ≥ 0 from h.2)]; rfl
theorem rCertain_spec (q : GConj) (facts : List GFact) (hl : facts.length ≤ 1000) : Fun1 prog 15 [rConj.ty q, tSl rFact facts] (tTup [tV (.bool (certB q facts)), tV (.int .i64 (certE q facts))]) := by
 refine Spec.enter func15 rfl rfl fun h0 w0 fr0 => ?_
 refine Jr (Js rfl (step_box (R := rConj) Sr) (Ja rfl (Ja rfl (JL_nil (J_seq ?_)))))
 refine Jr (Jl rfl ty25 Sr (Jm rfl (Js rfl (step_call0 (refFits_spec q facts zG) ⟨Sr, Sr, trivial⟩ call36) (Js rfl (step_not Sr) (JL_nil ?_)))))
 refine J_cond Sr (fun h11 => ?_) (fun h11 => ?_)
 ·
  try simp only [NF] at h11
  have hv : fitM q facts = false := by simpa using h11
  refine Jr (Ja rfl (Ja rfl (JL_nil (J_ret ?_))))
  refine K_ret2' (rv := .tmp 4) (rv' := .tmp 5) rfl () (Sel.all _) (.tmp Sr) (.tmp Sr) (Frz.sub ?_) (Frz.sub ?_) Sr
  ·
   refine Sub.bool ?_
   simp [certB, hv]
  refine Sub.int ?_
  simp [certE, hv]
 try simp only [NF] at h11
 have hfit : fitM q facts = true := by simpa using h11
 have hq := fit_valid hfit
 have hfr := first_ref hq
 refine J_skip (Jr (Jl rfl ty25 Sr (Js rfl (step_call0 (rFirst_spec q) ⟨Sr, trivial⟩ call37) (Jm rfl (Js rfl (step_extract Sr rfl) ?_)))))
 refine Js rfl (step_extract Sr rfl) (Ja rfl (Ja rfl (JL_nil (J_seq (Jr ?_)))))
 refine Jm rfl (Js rfl (step_neq Sr Sr) (Jm rfl (Jg rfl Sr rfl (fun hw => step_move Sr) (Jg rfl Sr rfl (fun hw => step_not (Sub.w hw)) (Js rfl (step_pick_or Sr Sr) ?_)))))
 refine JL_nil ?_
 refine J_cond Sr (fun h22 => ?_) (fun h22 => ?_)
 ·
  try simp only [NF] at h22
  have hfm : firstM q = false := by rw [errV, if_pos hq, hfr] at h22; simpa [hq] using h22
  refine Jr (Ja rfl (Ja rfl (JL_nil (J_ret ?_))))
  refine K_ret2' (rv := .tmp 4) (rv' := .tmp 5) rfl () (Sel.all _) (.tmp Sr) (.tmp Sr) (Frz.sub ?_) (Frz.sub ?_) Sr
  ·
   refine Sub.bool ?_
   simp [certB, hfm]
  refine Sub.int ?_
  simp [certE, hfit, hfm]
 try simp only [NF] at h22
 have hfm : firstM q = true := by rw [errV, if_pos hq, hfr] at h22; simpa [hq] using h22
 refine J_skip (Jr (Jl rfl ty25 Sr (Jm rfl ?_)))
 refine Js rfl (step_call0 (rAlw_spec q facts hfit zG facts.length 0 [] zG InR.nil (by simp)) ⟨Sr, Sr, Sr, Sub.nilsl, trivial⟩ call38) ?_
 refine Ja rfl (Ja rfl (JL_nil (J_ret ?_)))
 refine K_ret2' (rv := .tmp 4) (rv' := .tmp 5) rfl () (Sel.all _) (.tmp Sr) (.tmp Sr) (Frz.sub ?_) (Frz.sub ?_) Sr
 ·
  refine Sub.bool ?_
  exact alw_cert hfit hfm
 refine Sub.int ?_
 simp [certE, hfit, hfm]
set_option maxHeartbeats 4000000 in
theorem rApplies_spec (q : GConj) (facts : List GFact) (g : GGraph) (hl : facts.length ≤ 1000) (hE : g.Edges.length ≤ 1000000) (he : ∀ e ∈ g.Edges, e.length ≤ 1000000) (hc : g.Cost.length ≤ 1000000) : Fun1 prog 17 [rConj.ty q, tSl rFact facts, rGraph.ty g] (tV (.bool (appR q facts g))) := by
 refine Spec.enter func17 rfl rfl fun h0 w0 fr0 => ?_
 refine Jr (Js rfl (step_box (R := rConj) Sr) (Js rfl (step_box (R := rGraph) Sr) (Ja rfl (JL_nil (J_seq ?_)))))
 refine Jr (Jl rfl ty25 Sr (Jm rfl (Js rfl (step_call0 (refFits_spec q facts zG) ⟨Sr, Sr, trivial⟩ call36) (Js rfl (step_not Sr) (Jm rfl ?_)))))
 refine Jg rfl Sr rfl (fun hw => step_load_ptr ty30 Sr) (Jg rfl Sr rfl (fun hw => step_call0 (rValid_spec g hE he hc) ⟨(Sub.w hw), trivial⟩ call44) (Jg rfl Sr rfl (fun hw => step_not (Sub.w hw)) (Js rfl (step_pick_or Sr Sr) (Jm rfl (Jg rfl Sr rfl (fun hw => step_fieldAddr so30 Sr rfl) ?_)))))
 refine Jg rfl Sr rfl (fun hw => step_load_ptr ty3 (Sub.w hw)) (Jg rfl Sr rfl (fun hw => step_move Sr) (Jg rfl Sr rfl (fun hw => step_len_sl underlying26 (Sub.w hw)) (Jg rfl Sr rfl (fun hw => step_neq (Sub.w hw) (Sub.w hw)) (Js rfl (step_pick_or Sr Sr) (JL_nil ?_)))))
 refine J_cond Sr (fun h28 => ?_) (fun h28 => ?_)
 ·
  try simp only [NF] at h28
  refine Jr (Ja rfl (JL_nil (J_ret ?_)))
  refine K_ret1 (t := 6) rfl () ?_
  refine Sub.bool ?_
  symm
  refine appR_no fun hc => ?_
  rcases h28 with (h | h) | h
  ·
   rw [hc.1] at h; cases h
  ·
   rw [hc.2.1] at h; cases h
  exact h hc.2.2
 try simp only [NF] at h28
 have hfit : fitM q facts = true := by simpa using h28.1.1
 have hvr : validR g = true := by simpa using h28.1.2
 have hN : g.N = facts.length := by simpa using h28.2
 have hq := fit_valid hfit
 have hvb := valid_bounds hq
 obtain ⟨hE2, hin⟩ := validR_in hvr
 refine J_skip (J_seq (Jr (Ja rfl (JL_nil (J_block ?_)))))
 refine J_loopL (σ := Nat) (fun i => i ≤ facts.length ∧ ∀ a b, a < i → a < b → b < facts.length → prR q facts g.Edges a b = false) (fun i => upd (upd (upd (upd env0 1 (tSl rFact facts)) 3 (tPtr rConj q)) 5 (tPtr rGraph g)) 7 (tV (.int .i64 i))) (fun i => []) (fun i => facts.length - i) 0 ⟨Nat.zero_le _, fun a b ha => absurd ha (Nat.not_lt_zero _)⟩ (.u (.u (.u (SubE.upd Sr SubE.any)))) (LSub.rfl) ?_
 rintro i ⟨hi1, hi2⟩
 refine J_seq (Jr (Jm rfl (Js rfl (step_fieldAddr so30 Sr rfl) (Jl rfl ty3 Sr (Js rfl (step_lss Sr Sr) ?_)))))
 refine JL_nil ?_
 refine J_cond Sr (fun h32 => ?_) (fun h32 => ?_)
 ·
  try simp only [NF] at h32
  have hil : i < facts.length := by omega
  refine J_skip (J_seq (J_block (Jr (Jm rfl (Js rfl (step_add Sr Sr z6) ?_)))))
  refine Ja rfl (JL_nil (J_block ?_))
  refine J_loopL (σ := Nat) (fun k => i < k ∧ k ≤ facts.length ∧ ∀ b, i < b → b < k → prR q facts g.Edges i b = false) (fun k => upd (upd (upd (upd (upd (upd (upd env0 1 (tSl rFact facts)) 3 (tPtr rConj q)) 5 (tPtr rGraph g)) 7 (tV (.int .i64 i))) 8 (tV (.int .i64 k))) 29 (tV (.int .i64 i))) 35 (tV (.int .i64 i))) (fun k => []) (fun k => facts.length - k) (i + 1) ⟨Nat.lt_succ_self _, hil, fun b h1 h2 => absurd h2 zG⟩ (.u (.u (.u (.u (.u (.u (SubE.upd Sr SubE.any))))))) (LSub.rfl) ?_
  rintro k ⟨hk0, hk1, hk2⟩
  refine J_seq (Jr (Jm rfl (Js rfl (step_fieldAddr so30 Sr rfl) (Jl rfl ty3 Sr (Js rfl (step_lss Sr Sr) ?_)))))
  refine JL_nil ?_
  refine J_cond Sr (fun h40 => ?_) (fun h40 => ?_)
  ·
   try simp only [NF] at h40
   have hkl : k < facts.length := by omega
   refine J_skip (J_seq (J_block (Jr (Ja rfl (JL_nil ?_)))))
   refine J_seq (Jr (Ja rfl (JL_nil (J_block ?_))))
   refine J_loopL (σ := Nat) (fun m => m ≤ g.Edges.length) (fun m => upd (upd (upd (upd (upd (upd (upd (upd (upd (upd env0 1 (tSl rFact facts)) 3 (tPtr rConj q)) 5 (tPtr rGraph g)) 7 (tV (.int .i64 i))) 8 (tV (.int .i64 k))) 9 (tV (.bool (hasE g.Edges i k m)))) 10 (tV (.int .i64 m))) 29 (tV (.int .i64 i))) 35 (tV (.int .i64 i))) 37 (tV (.int .i64 k))) (fun m => []) (fun m => g.Edges.length - m) 0 (Nat.zero_le _) (.u (.u (.u (.u (.u (.u (.u (.u (.u (SubE.upd Sr SubE.any)))))))))) (LSub.rfl) ?_
   rintro m hi
   refine J_seq (Jr (Jm rfl (Js rfl (step_fieldAddr so30 Sr rfl) (Jl rfl ty28 Sr (Js rfl (step_len_sl underlying28 Sr) ?_)))))
   refine Js rfl (step_lss Sr Sr) (JL_nil ?_)
   refine J_cond Sr (fun h47 => ?_) (fun h47 => ?_)
   ·
    try simp only [NF] at h47
    have hml : m < g.Edges.length := by omega
    refine J_skip (J_seq (J_block (J_region (Jm rfl (Jm rfl ?_)))))
    refine Jg rfl Sr rfl (fun hw => step_fieldAddr so30 Sr rfl) (Jg rfl Sr rfl (fun hw => step_load_ptr ty28 (Sub.w hw)) (Jg rfl Sr rfl (fun hw => step_move Sr) ?_))
    refine Jg rfl Sr rfl (fun hw => step_indexAddr_sl (i := m) underlying28 ty27 (Sub.w hw) (Sub.w hw) (by rfl) (gb (by have hwq := hw; (try simp only [beqB_t, beqB_f, NF] at hwq); exact hml))) ?_
    refine Jg rfl Sr rfl (fun hw => step_load_ptr ty27 (Sub.w hw)) (Jg rfl Sr rfl (fun hw => step_len_sl underlying27 (Sub.w hw)) (Jg rfl Sr rfl (fun hw => step_eql (Sub.w hw) Sr) (Jg rfl Sr rfl (fun hw => step_move (Sub.w hw)) (Jh rfl Sr rfl (fun hw => step_fieldAddr so30 Sr rfl) (Jh rfl Sr rfl (fun hw => step_load_ptr ty28 (Sub.w hw)) ?_)))))
    refine Jh rfl Sr rfl (fun hw => step_move Sr) ?_
    refine Jh rfl Sr rfl (fun hw => step_indexAddr_sl (i := m) underlying28 ty27 (Sub.w hw) (Sub.w hw) (by rfl) (gb (by have hwq := hw; (try simp only [beqB_t, beqB_f, NF] at hwq); exact hml))) ?_
    refine Jh rfl Sr rfl (fun hw => step_load_ptr ty27 (Sub.w hw)) ?_
    refine Jh rfl Sr rfl (fun hw => step_indexAddr_sl (i := 0) underlying27 ty3 (Sub.w hw) Sr (by rfl) (gb (by have hwq := hw; (try simp only [beqB_t, beqB_f, NF] at hwq); (have hwq2 : ((nth g.Edges m).length : Int) = 2 := by first | exact hwq.2 | exact hwq.2.1); show _ < (nth g.Edges m).length; omega))) ?_
    refine Jh rfl Sr rfl (fun hw => step_load_ptr ty3 (Sub.w hw)) (Jh rfl Sr rfl (fun hw => step_move Sr) (Jh rfl Sr rfl (fun hw => step_eql (Sub.w hw) (Sub.w hw)) (Jg rfl Sr rfl (fun hw => step_pick_and (Sub.w hw) (Sub.ww hw)) (Jg rfl Sr rfl (fun hw => step_move (Sub.w hw)) (Jh rfl Sr rfl (fun hw => step_fieldAddr so30 Sr rfl) ?_)))))
    refine Jh rfl Sr rfl (fun hw => step_load_ptr ty28 (Sub.w hw)) (Jh rfl Sr rfl (fun hw => step_move Sr) ?_)
    refine Jh rfl Sr rfl (fun hw => step_indexAddr_sl (i := m) underlying28 ty27 (Sub.w hw) (Sub.w hw) (by rfl) (gb (by have hwq := hw; (try simp only [beqB_t, beqB_f, NF] at hwq); exact hml))) ?_
    refine Jh rfl Sr rfl (fun hw => step_load_ptr ty27 (Sub.w hw)) ?_
    refine Jh rfl Sr rfl (fun hw => step_indexAddr_sl (i := 1) underlying27 ty3 (Sub.w hw) Sr (by rfl) (gb (by have hwq := hw; (try simp only [beqB_t, beqB_f, NF] at hwq); (have hwq2 : ((nth g.Edges m).length : Int) = 2 := by first | exact hwq.2 | exact hwq.2.1); show _ < (nth g.Edges m).length; omega))) ?_
    refine Jh rfl Sr rfl (fun hw => step_load_ptr ty3 (Sub.w hw)) (Jh rfl Sr rfl (fun hw => step_move Sr) (Jh rfl Sr rfl (fun hw => step_eql (Sub.w hw) (Sub.w hw)) (Jg rfl Sr rfl (fun hw => step_pick_and (Sub.w hw) (Sub.ww hw)) (Js rfl (step_pick_or Sr Sr) (Ja rfl ?_)))))
    refine JL_nil (J_region (Jm rfl (Js rfl (step_add Sr Sr z6) (Ja rfl (JL_nil ?_)))))
    refine K_againL (σ := Nat) (s := m) (m + 1) zO hml (.u (.u (.u (.u (SubE.upd (Sub.bool (by rw [hasE_succ])) (.u (.u (.u (.u (SubE.upd Sr SubE.any)))))))))) (LSub.rfl)
   try simp only [NF] at h47
   refine J_exit (J_seq ?_)
   refine J_draw [⟨0, [3], true⟩, ⟨1, [1], true⟩, ⟨2, [7], true⟩, ⟨3, [83, 84], true⟩, ⟨4, [85], true⟩, ⟨5, [86], true⟩, ⟨6, [82, 87], true⟩, ⟨7, [88], true⟩, ⟨8, [89], true⟩, ⟨9, [3, 90], true⟩, ⟨10, [1, 90], true⟩, ⟨11, [8, 90], true⟩, ⟨12, [90, 92, 93], true⟩, ⟨13, [90, 94], true⟩, ⟨14, [90, 95], true⟩, ⟨15, [90, 91, 96], true⟩, ⟨16, [90, 97], true⟩, ⟨17, [90, 98], true⟩, ⟨18, [99], true⟩, ⟨19, [9, 100], true⟩, ⟨20, [3, 100], true⟩, ⟨21, [1, 100], true⟩, ⟨22, [7, 100], true⟩, ⟨23, [100, 103, 104], true⟩, ⟨24, [100, 105], true⟩, ⟨25, [1, 100], true⟩, ⟨26, [8, 100], true⟩, ⟨27, [100, 107, 108], true⟩, ⟨28, [100, 109], true⟩, ⟨29, [100, 102, 106, 110], true⟩, ⟨30, [100, 101, 111], true⟩, ⟨31, [100, 112], true⟩] rfl (by kernel_rfl) ?_
   refine Mf rfl rfl (step_load_ptr ty25 Sr) (Mv rfl rfl (Mv rfl rfl ?_))
   refine Mf rfl rfl (step_indexAddr_sl (i := i) underlying26 ty45 Sr Sr (by rfl) (gb (by exact hil))) ?_
   refine Mf rfl rfl (step_fieldAddr so45 Sr rfl) (Mf rfl rfl (step_load_ptr ty3 Sr) (Mf rfl rfl (step_call0 (refAtom_spec q _ zG) ⟨Sr, Sr, trivial⟩ call45) (Mf rfl rfl (step_geq Sr Sr) (Mv rfl rfl (Mg rfl rfl Sr rfl (fun hw => step_load_ptr ty25 Sr) ?_)))))
   refine Mg rfl rfl Sr rfl (fun hw => step_move Sr) (Mg rfl rfl Sr rfl (fun hw => step_move Sr) ?_)
   refine Mg rfl rfl Sr rfl (fun hw => step_indexAddr_sl (i := k) underlying26 ty45 (Sub.w hw) (Sub.w hw) (by rfl) (gb (by have hwq := hw; (try simp only [beqB_t, beqB_f, NF] at hwq); exact hkl))) ?_
   refine Mg rfl rfl Sr rfl (fun hw => step_fieldAddr so45 (Sub.w hw) rfl) (Mg rfl rfl Sr rfl (fun hw => step_load_ptr ty3 (Sub.w hw)) (Mg rfl rfl Sr rfl (fun hw => step_call0 (refAtom_spec q _ zG) ⟨(Sub.w hw), (Sub.w hw), trivial⟩ call45) (Mg rfl rfl Sr rfl (fun hw => step_geq (Sub.w hw) Sr) (Mf rfl rfl (step_pick_or Sr Sr) (Mv rfl rfl ?_)))))
   refine Mg rfl rfl Sr rfl (fun hw => step_move Sr) (Mg rfl rfl Sr rfl (fun hw => step_load_ptr ty25 Sr) (Mg rfl rfl Sr rfl (fun hw => step_move Sr) (Mg rfl rfl Sr rfl (fun hw => step_move Sr) ?_)))
   refine Mg rfl rfl Sr rfl (fun hw => step_indexAddr_sl (i := i) underlying26 ty45 (Sub.w hw) (Sub.w hw) (by rfl) (gb (by have hwq := hw; (try simp only [beqB_t, beqB_f, NF] at hwq); exact hil))) ?_
   refine Mg rfl rfl Sr rfl (fun hw => step_load_ptr ty45 (Sub.w hw)) (Mg rfl rfl Sr rfl (fun hw => step_move Sr) (Mg rfl rfl Sr rfl (fun hw => step_move Sr) ?_))
   refine Mg rfl rfl Sr rfl (fun hw => step_indexAddr_sl (i := k) underlying26 ty45 (Sub.w hw) (Sub.w hw) (by rfl) (gb (by have hwq := hw; (try simp only [beqB_t, beqB_f, NF] at hwq); exact hkl))) ?_
   refine Mg rfl rfl Sr rfl (fun hw => step_load_ptr ty45 (Sub.w hw)) (Mg rfl rfl Sr rfl (fun hw => step_call0 (refBlock_spec q facts hfit (nth facts i) (nth facts k) (nth_mem zG) (nth_mem hkl)) ⟨(Sub.w hw), (Sub.w hw), (Sub.w hw), trivial⟩ call46) (Mg rfl rfl Sr rfl (fun hw => step_neq_bool underlying4 (Sub.w hw) (Sub.w hw)) (Mf rfl rfl (step_pick_and Sr Sr) (JM_nil ?_))))
   refine J_cond Sr (fun h113 => ?_) (fun h113 => ?_)
   ·
    try simp only [NF] at h113
    refine Jr (Ja rfl (JL_nil (J_ret ?_)))
    refine K_ret1 (t := 6) rfl () ?_
    refine Sub.bool ?_
    symm
    refine appR_bad fun hc => ?_
    obtain rfl : m = g.Edges.length := by omega
    have := hc.1 i k zG hkl
    rw [pr_yes h113] at this; cases this
   try simp only [NF] at h113
   refine J_skip (J_region (Jm rfl (Js rfl (step_add Sr Sr z6) (Ja rfl (JL_nil ?_)))))
   refine K_againL (σ := Nat) (s := k) (k + 1) zO ?_ (.u (.u (.u (.u (.u (.u (SubE.upd Sr SubE.any))))))) (LSub.rfl)
   refine ⟨by omega, hkl, fun b h1 h2 => ?_⟩
   by_cases e : b = k
   ·
    subst e
    obtain rfl : m = g.Edges.length := by omega
    exact pr_no h113
   exact hk2 b h1 zG
  try simp only [NF] at h40
  refine J_exit (J_region (Jm rfl (Js rfl (step_add Sr Sr z6) (Ja rfl (JL_nil ?_)))))
  refine K_againL (σ := Nat) (s := i) (i + 1) zO ?_ (.u (.u (.u (SubE.upd Sr SubE.any)))) (LSub.rfl)
  refine ⟨hil, fun a b ha hab hb => ?_⟩
  by_cases e : a = i
  ·
   subst e; exact hk2 b hab zG
  exact hi2 a b zG hab hb
 try simp only [NF] at h32
 refine J_exit (J_seq (Jr (Ja rfl (JL_nil (J_block ?_)))))
 refine J_loopL (σ := Nat) (fun m => m ≤ g.Edges.length ∧ ∀ a, a < m → ∀ j, j < (nth g.Edges a).length → bdR q facts (nth g.Edges a) j = false) (fun m => upd (upd (upd (upd env0 1 (tSl rFact facts)) 3 (tPtr rConj q)) 5 (tPtr rGraph g)) 11 (tV (.int .i64 m))) (fun m => []) (fun m => g.Edges.length - m) 0 ⟨Nat.zero_le _, fun a ha => absurd ha (Nat.not_lt_zero _)⟩ (.u (.u (.u (SubE.upd Sr SubE.any)))) (LSub.rfl) ?_
 rintro m ⟨hm1, hm2⟩
 refine J_seq (Jr (Jm rfl (Js rfl (step_fieldAddr so30 Sr rfl) (Jl rfl ty28 Sr (Js rfl (step_len_sl underlying28 Sr) ?_)))))
 refine Js rfl (step_lss Sr Sr) (JL_nil ?_)
 refine J_cond Sr (fun h118 => ?_) (fun h118 => ?_)
 ·
  try simp only [NF] at h118
  have hml : m < g.Edges.length := by omega
  have hel := he _ (nth_mem hml)
  refine J_skip (J_seq (J_block (Jr (Ja rfl (JL_nil ?_)))))
  refine J_block ?_
  refine J_loopL (σ := Nat) (fun j => j ≤ (nth g.Edges m).length ∧ ∀ b, b < j → bdR q facts (nth g.Edges m) b = false) (fun j => upd (upd (upd (upd (upd (upd env0 1 (tSl rFact facts)) 3 (tPtr rConj q)) 5 (tPtr rGraph g)) 11 (tV (.int .i64 m))) 12 (tV (.int .i64 j))) 114 (tV (.int .i64 m))) (fun j => []) (fun j => (nth g.Edges m).length - j) 0 ⟨Nat.zero_le _, fun b hb => absurd hb (Nat.not_lt_zero _)⟩ (.u (.u (.u (.u (.u (SubE.upd Sr SubE.any)))))) (LSub.rfl) ?_
  rintro j ⟨hj1, hj2⟩
  refine J_seq (Jr (Jm rfl (Js rfl (step_fieldAddr so30 Sr rfl) (Jl rfl ty28 Sr (Jm rfl ?_)))))
  refine Js rfl (step_indexAddr_sl (i := m) underlying28 ty27 Sr Sr (by rfl) (gb (by exact hml))) ?_
  refine Jl rfl ty27 Sr (Js rfl (step_len_sl underlying27 Sr) (Js rfl (step_lss Sr Sr) (JL_nil ?_)))
  refine J_cond Sr (fun h128 => ?_) (fun h128 => ?_)
  ·
   try simp only [NF] at h128
   have hjl : j < (nth g.Edges m).length := by omega
   have hij := hin m hml j hjl
   refine J_skip (J_seq (J_block (J_seq ?_)))
   refine J_draw [⟨0, [5], true⟩, ⟨1, [131], true⟩, ⟨2, [11], true⟩, ⟨3, [132, 133], true⟩, ⟨4, [134], true⟩, ⟨5, [135], true⟩, ⟨6, [136], true⟩, ⟨7, [137], true⟩, ⟨8, [3, 138], true⟩, ⟨9, [1, 138], true⟩, ⟨10, [5, 138], true⟩, ⟨11, [138, 141], true⟩, ⟨12, [11, 138], true⟩, ⟨13, [138, 142, 143], true⟩, ⟨14, [138, 144], true⟩, ⟨15, [12, 138], true⟩, ⟨16, [138, 145, 146], true⟩, ⟨17, [138, 147], true⟩, ⟨18, [138, 140, 148], true⟩, ⟨19, [138, 149], true⟩, ⟨20, [138, 150], true⟩, ⟨21, [138, 139, 151], true⟩, ⟨22, [138, 152], true⟩, ⟨23, [138, 153], true⟩] rfl (by kernel_rfl) ?_
   refine Mf rfl rfl (step_fieldAddr so30 Sr rfl) (Mf rfl rfl (step_load_ptr ty28 Sr) (Mv rfl rfl ?_))
   refine Mf rfl rfl (step_indexAddr_sl (i := m) underlying28 ty27 Sr Sr (by rfl) (gb (by exact hml))) ?_
   refine Mf rfl rfl (step_load_ptr ty27 Sr) (Mf rfl rfl (step_len_sl underlying27 Sr) (Mf rfl rfl (step_neq Sr Sr) (Mv rfl rfl (Mg rfl rfl Sr rfl (fun hw => step_load_ptr ty25 Sr) (Mg rfl rfl Sr rfl (fun hw => step_move Sr) ?_)))))
   refine Mg rfl rfl Sr rfl (fun hw => step_fieldAddr so30 Sr rfl) (Mg rfl rfl Sr rfl (fun hw => step_load_ptr ty28 (Sub.w hw)) (Mg rfl rfl Sr rfl (fun hw => step_move Sr) ?_))
   refine Mg rfl rfl Sr rfl (fun hw => step_indexAddr_sl (i := m) underlying28 ty27 (Sub.w hw) (Sub.w hw) (by rfl) (gb (by have hwq := hw; (try simp only [beqB_t, beqB_f, NF] at hwq); exact hml))) ?_
   refine Mg rfl rfl Sr rfl (fun hw => step_load_ptr ty27 (Sub.w hw)) (Mg rfl rfl Sr rfl (fun hw => step_move Sr) ?_)
   refine Mg rfl rfl Sr rfl (fun hw => step_indexAddr_sl (i := j) underlying27 ty3 (Sub.w hw) (Sub.w hw) (by rfl) (gb (by have hwq := hw; (try simp only [beqB_t, beqB_f, NF] at hwq); exact hjl))) ?_
   refine Mg rfl rfl Sr rfl (fun hw => step_load_ptr ty3 (Sub.w hw)) ?_
   refine Mg rfl rfl Sr rfl (fun hw => step_indexAddr_sl (i := (nth (nth g.Edges m) j).toNat) underlying26 ty45 (Sub.w hw) (Sub.w hw) (by have hwq := hw; (try simp only [beqB_t, beqB_f, NF] at hwq); show nth (nth g.Edges m) j = _; omega) (gb (by have hwq := hw; (try simp only [beqB_t, beqB_f, NF] at hwq); show (nth (nth g.Edges m) j).toNat < facts.length; omega))) ?_
   refine Mg rfl rfl Sr rfl (fun hw => step_fieldAddr so45 (Sub.w hw) rfl) (Mg rfl rfl Sr rfl (fun hw => step_load_ptr ty3 (Sub.w hw)) (Mg rfl rfl Sr rfl (fun hw => step_call0 (refAtom_spec q _ zG) ⟨(Sub.w hw), (Sub.w hw), trivial⟩ call45) (Mg rfl rfl Sr rfl (fun hw => step_geq (Sub.w hw) Sr) (Mf rfl rfl (step_pick_and Sr Sr) (JM_nil ?_)))))
   refine J_cond Sr (fun h154 => ?_) (fun h154 => ?_)
   ·
    try simp only [NF] at h154
    refine Jr (Ja rfl (JL_nil (J_ret ?_)))
    refine K_ret1 (t := 6) rfl () ?_
    refine Sub.bool ?_
    symm
    refine appR_bad fun hc => ?_
    have := hc.2 m hml j hjl
    rw [bd_yes h154] at this; cases this
   try simp only [NF] at h154
   refine J_skip (J_region (Jm rfl (Js rfl (step_add Sr Sr z6) (Ja rfl (JL_nil ?_)))))
   refine K_againL (σ := Nat) (s := j) (j + 1) zO ?_ (.u (.u (.u (.u (.u (SubE.upd Sr SubE.any)))))) (LSub.rfl)
   refine ⟨hjl, fun b hb => ?_⟩
   by_cases e : b = j
   ·
    subst e; exact bd_no h154
   exact hj2 b zG
  try simp only [NF] at h128
  refine J_exit (J_region (Jm rfl (Js rfl (step_add Sr Sr z6) (Ja rfl (JL_nil ?_)))))
  refine K_againL (σ := Nat) (s := m) (m + 1) zO ?_ (.u (.u (.u (SubE.upd Sr SubE.any)))) (LSub.rfl)
  refine ⟨hml, fun a ha b hb => ?_⟩
  by_cases e : a = m
  ·
   subst e; exact hj2 b zG
  exact hm2 a zG b hb
 try simp only [NF] at h118
 refine J_exit (Jr (Ja rfl (JL_nil (J_ret ?_))))
 refine K_ret1 (t := 6) rfl () ?_
 refine Sub.bool ?_
 symm
 obtain rfl : i = facts.length := by omega
 obtain rfl : m = g.Edges.length := by omega
 exact appR_yes hfit hvr hN (fun a b hab hb => hi2 a b zG hab hb) hm2
open Go Go.Proofs Go.Proofs.Tryz
theorem nodup_lenS {α : Type} : ∀ {l m : List α}, l.Nodup → (∀ x ∈ l, x ∈ m) → l.length ≤ m.length
  | [], _, _, _ => Nat.zero_le _
  | a :: l, m, hd, hs => by
    obtain ⟨s, t, rfl⟩ := List.append_of_mem (hs a (List.mem_cons_self ..))
    obtain ⟨h1, h2⟩ := List.nodup_cons.1 hd
    have := nodup_lenS (m := s ++ t) h2 fun x hx => by
      have h3 := hs x (List.mem_cons_of_mem _ hx)
      simp only [List.mem_append, List.mem_cons] at h3 ⊢
      rcases h3 with h3 | h3 | h3
      · exact .inl h3
      · subst h3; exact absurd hx h1
      · exact .inr h3
    simp only [List.length_cons, List.length_append] at this ⊢
    omega
theorem nodup_sup {α : Type} {l m : List α} (hd : l.Nodup) (hs : ∀ x ∈ l, x ∈ m) (hl : m.length ≤ l.length) : ∀ x ∈ m, x ∈ l := fun x hx => by
  refine Classical.byContradiction fun hn => ?_
  have := nodup_lenS (List.nodup_cons.2 ⟨hn, hd⟩) fun y hy => by
    rcases List.mem_cons.1 hy with e | e
    · subst e; exact hx
    · exact hs y e
  simp only [List.length_cons] at this
  omega
theorem okE_nodup {es : LL} (h : okE es) : es.Nodup := h.1.imp fun {a b} hab e => by subst e; rw [cmpL_refl] at hab; omega
theorem has_iff {q : GConj} (hq : validQ q = true) {facts : List GFact} {v : Int} : hasT q facts v = true ↔ 0 ≤ atomI q (tabF facts v) := by
  have ha := atomI_at hq (tabF facts v)
  unfold hasT
  constructor
  · intro h
    refine Classical.byContradiction fun hc => ?_
    obtain ⟨a, e⟩ := Option.isSome_iff_exists.1 h
    rcases atomsM_get (l := q.Atoms) (m := []) e with ⟨h1, h2⟩ | h1
    · obtain ⟨i, hi, rfl⟩ := List.getElem_of_mem h1
      exact (ha.2 (by omega)).2 i hi (by rw [nth_get hi]; exact h2)
    · cases h1
  · intro h
    obtain ⟨i, _, hi, ht, _⟩ := ha.1 h
    rw [← ht]
    exact atomsM_isSome (l := q.Atoms) (m := []) (.inl (nth_mem hi))
theorem pair_eq {e : List Int} {n : Int} (h2 : e.length = 2) (hi : Inc e) (hb : ∀ x ∈ e, 0 ≤ x ∧ x < n) : ∃ i k : Nat, i < k ∧ (k : Int) < n ∧ e = [(i : Int), (k : Int)] := by
  match e, h2 with
  | [x, y], _ =>
    have hx := hb x (by simp)
    have hy := hb y (by simp)
    have hxy : x < y := by have := List.pairwise_cons.1 hi; exact this.1 y (by simp)
    exact ⟨x.toNat, y.toNat, by omega, by omega, by rw [Int.toNat_of_nonneg hx.1, Int.toNat_of_nonneg hy.1]⟩
theorem hasE_iff {es : LL} {i k : Nat} : hasE es i k es.length = true ↔ [(i : Int), (k : Int)] ∈ es := by
  unfold hasE
  rw [List.any_eq_true]
  constructor
  · rintro ⟨m, hm, e⟩
    have hm := List.mem_range.1 hm
    simp only [Bool.and_eq_true, decide_eq_true_eq] at e
    have hmem := nth_mem hm
    have h2 : (nth es m).length = 2 := by omega
    generalize nth es m = l at e hmem h2
    match l, h2 with
    | [x, y], _ =>
      have e1 : x = (i : Int) := e.1.2
      have e2 : y = (k : Int) := e.2
      rwa [e1, e2] at hmem
  · intro h
    obtain ⟨m, hm, e⟩ := List.getElem_of_mem h
    refine ⟨m, List.mem_range.2 hm, ?_⟩
    rw [nth_get hm, e]
    show (decide (((2 : Nat) : Int) = 2) && decide ((i : Int) = i) && decide ((k : Int) = k)) = true
    simp
theorem pr_get {q : GConj} {facts : List GFact} {es : LL} {i k : Nat} (h : prR q facts es i k = false) (h2 : 0 ≤ atomI q (nth facts i).Table ∨ 0 ≤ atomI q (nth facts k).Table) : hasE es i k es.length = sameM q (nth facts i) (nth facts k) := by
  refine Classical.byContradiction fun hc => ?_
  rw [pr_yes ⟨h2, by simpa using hc⟩] at h; cases h
theorem ours_pair {q : GConj} (hq : validQ q = true) {facts : List GFact} {i k : Nat} : oursM q facts [(i : Int), (k : Int)] = true ↔ 0 ≤ atomI q (nth facts i).Table ∨ 0 ≤ atomI q (nth facts k).Table := by
  show (hasT q facts (i : Int) || (hasT q facts (k : Int) || false)) = true ↔ _
  rw [Bool.or_false, Bool.or_eq_true, has_iff hq, has_iff hq, tab_nat, tab_nat]
theorem ok_edge {q : GConj} {facts : List GFact} (hfit : fitM q facts = true) {i k : Nat} (hik : i < k) (hk : k < facts.length) (ho : oursM q facts [(i : Int), (k : Int)] = true) (h : edgeOk q facts [(i : Int), (k : Int)] = true) : [(i : Int), (k : Int)] ∈ edgK q facts facts.length := by
  have hq := fit_valid hfit
  refine (edgK_mem _).2 ⟨i, k, hik, hk, ⟨by omega, hk, ?_⟩, rfl⟩
  have h : (decide (2 = 2) && (decide (tabF facts (i : Int) = tabF facts (k : Int)) && decide (keyF (atomAt q (tabF facts (i : Int))) facts (i : Int) = keyF (atomAt q (tabF facts (i : Int))) facts (k : Int)))) = true := h
  simp only [Bool.and_eq_true, decide_eq_true_eq] at h
  obtain ⟨_, h1, h2⟩ := h
  rw [tab_nat, tab_nat] at h1
  rw [tab_nat] at h2
  have hi : 0 ≤ atomI q (nth facts i).Table := by
    rcases (ours_pair hq).1 ho with h | h
    · exact h
    · rw [h1]; exact h
  obtain ⟨a, _, ha, ht, e⟩ := (atomI_at hq _).1 hi
  rw [← e] at h2
  refine (same_iff hfit (nth_mem (by omega)) (nth_mem hk) ha ht.symm (h1.symm.trans ht.symm)).2 ?_
  unfold keyF at h2
  rwa [Int.toNat_natCast, Int.toNat_natCast] at h2
theorem app_ref {q : GConj} {facts : List GFact} {g : GGraph} (hl : g.Edges.length ≤ 20000) : appR q facts g = appM (validG g) q facts g := by
  unfold appR appM
  rw [valid_ref hl]
  by_cases hfit : fitM q facts = true
  · by_cases hv : validG g = true
    · by_cases hN : g.N = facts.length
      · rw [hfit, hv, decide_eq_true hN]
        rw [Bool.true_and, Bool.true_and, Bool.true_and, Bool.true_and]
        have hq := fit_valid hfit
        have hv2 := hv
        unfold validG validG1 at hv2
        rw [Bool.and_eq_true, Bool.and_eq_true] at hv2
        have hok : okE g.Edges := @of_decide_eq_true _ (_) hv2.2
        have hed : ∀ e ∈ g.Edges, Inc e ∧ ∀ x ∈ e, 0 ≤ x ∧ x < (facts.length : Int) := fun e he => by
          obtain ⟨m, hm, rfl⟩ := List.getElem_of_mem he
          have h := List.all_eq_true.1 hv2.1.2 m (List.mem_range.2 hm)
          rw [nth_get hm, Bool.and_eq_true, hN] at h
          exact isSet_ok h.2
        have hnd : (g.Edges.filter (oursM q facts)).Nodup := (okE_nodup hok).sublist List.filter_sublist
        have hkd : (edgK q facts facts.length).Nodup := okE_nodup (edgK_ok q facts)
        have hcnt : pairsM q facts g.Edges = (g.Edges.filter (oursM q facts)).length := List.countP_eq_length_filter
        have hin : ∀ e ∈ g.Edges, oursM q facts e = true → edgeOk q facts e = true → e ∈ edgK q facts facts.length := fun e he ho hk => by
          have h2 : e.length = 2 := by
            unfold edgeOk at hk
            rw [Bool.and_eq_true, decide_eq_true_eq] at hk
            exact hk.1
          obtain ⟨i, k, hik, hkn, rfl⟩ := pair_eq h2 (hed e he).1 (hed e he).2
          exact ok_edge hfit hik (by omega) ho hk
        rw [Bool.eq_iff_iff, @decide_eq_true_eq _ (_), Bool.and_eq_true, decide_eq_true_eq, hcnt, ← edgK_want hfit]
        constructor
        · rintro ⟨hP, hB⟩
          have hall : ∀ e ∈ g.Edges, oursM q facts e = true → edgeOk q facts e = true ∧ e ∈ edgK q facts facts.length := fun e he ho => by
            have h2 : e.length = 2 := by
              unfold oursM at ho
              obtain ⟨v, hve, hvt⟩ := List.any_eq_true.1 ho
              obtain ⟨m, hm, e1⟩ := List.getElem_of_mem he
              obtain ⟨j, hj, e2⟩ := List.getElem_of_mem hve
              have e1 : nth g.Edges m = e := by rw [nth_get hm]; exact e1
              have e2 : nth e j = v := by rw [nth_get hj]; exact e2
              have hb := hB m hm j (by rw [e1]; exact hj)
              rw [e1] at hb
              refine Classical.byContradiction fun hc => ?_
              rw [bd_yes ⟨fun x => hc (by omega), by rw [e2]; exact (has_iff hq).1 hvt⟩] at hb; cases hb
            obtain ⟨i, k, hik, hkn, rfl⟩ := pair_eq h2 (hed e he).1 (hed e he).2
            have hs := pr_get (hP i k hik (by omega)) ((ours_pair hq).1 ho)
            rw [hasE_iff.2 he] at hs
            have hmem : [(i : Int), (k : Int)] ∈ edgK q facts facts.length := (edgK_mem _).2 ⟨i, k, hik, by omega, ⟨by omega, by omega, hs.symm⟩, rfl⟩
            exact ⟨(edgK_ours hfit hmem).2, hmem⟩
          constructor
          · refine rall_t fun m hm => ?_
            cases ho : oursM q facts (nth g.Edges m) with
            | false => rfl
            | true => rw [(hall _ (nth_mem hm) ho).1]; rfl
          · have h1 := nodup_lenS hnd fun e he => by
              obtain ⟨he, ho⟩ := List.mem_filter.1 he
              exact (hall e he ho).2
            have h2 := nodup_lenS (m := g.Edges.filter (oursM q facts)) hkd fun e he => by
              have ho := (edgK_ours hfit he).1
              obtain ⟨i, k, hik, hk, ⟨_, _, hs⟩, rfl⟩ := (edgK_mem e).1 he
              refine List.mem_filter.2 ⟨hasE_iff.1 ?_, ho⟩
              rw [pr_get (hP i k hik hk) ((ours_pair hq).1 ho)]
              exact hs
            omega
        · rintro ⟨hA, hC⟩
          have hA : ∀ e ∈ g.Edges, oursM q facts e = true → edgeOk q facts e = true := fun e he ho => by
            obtain ⟨m, hm, rfl⟩ := List.getElem_of_mem he
            have := List.all_eq_true.1 hA m (List.mem_range.2 hm)
            rw [nth_get hm, ho] at this
            simpa using this
          have hsup := nodup_sup hnd (fun e he => by
            obtain ⟨he, ho⟩ := List.mem_filter.1 he
            exact hin e he ho (hA e he ho)) (by omega)
          constructor
          · intro i k hik hk
            by_cases h : 0 ≤ atomI q (nth facts i).Table ∨ 0 ≤ atomI q (nth facts k).Table
            · refine pr_no (.inr ?_)
              rw [beq_iff_eq, Bool.eq_iff_iff, hasE_iff]
              constructor
              · intro he
                have ho := (ours_pair hq (facts := facts)).2 h
                obtain ⟨i', k', _, _, ⟨_, _, hs⟩, e⟩ := (edgK_mem _).1 (hin _ he ho (hA _ he ho))
                injection e with e1 e2
                injection e2 with e2
                have e1 : i = i' := by omega
                have e2 : k = k' := by omega
                subst e1; subst e2; exact hs
              · intro hs
                exact (List.mem_filter.1 (hsup _ ((edgK_mem _).2 ⟨i, k, hik, hk, ⟨by omega, hk, hs⟩, rfl⟩))).1
            · exact pr_no (.inl ⟨by omega, by omega⟩)
          · intro m hm j hj
            by_cases h2 : ((nth g.Edges m).length : Int) = 2
            · exact bd_no (.inl h2)
            · refine bd_no (.inr ?_)
              refine Classical.byContradiction fun hc => h2 ?_
              have ho : oursM q facts (nth g.Edges m) = true := List.any_eq_true.2 ⟨_, nth_mem hj, (has_iff hq).2 (by unfold tabF; omega)⟩
              have hk := hA _ (nth_mem hm) ho
              unfold edgeOk at hk
              rw [Bool.and_eq_true, decide_eq_true_eq] at hk
              omega
      · rw [decide_eq_false hN]; simp
    · simp [Bool.eq_false_iff.2 hv]
  · simp [Bool.eq_false_iff.2 hfit]
open Go Go.Proofs Go.Proofs.Tryz
theorem smallG_bd {g : GGraph} (h : smallG g 10 40 = true) : g.N ≤ 10 ∧ g.Cost.length ≤ 10 ∧ g.Edges.length ≤ 40 ∧ ∀ e ∈ g.Edges, e.length ≤ 10 := by
  unfold smallG at h
  simp only [Bool.and_eq_true, decide_eq_true_eq, List.all_eq_true] at h
  obtain ⟨⟨h1, h2⟩, h3, h4⟩ := h
  exact ⟨h1, by omega, by omega, h3⟩
theorem valid39 {g : GGraph} (h : smallG g 10 40 = true) : Fun1 prog 39 [rGraph.ty g] (tV (.bool (validG g))) := by
  obtain ⟨h1, h2, h3, h4⟩ := smallG_bd h
  exact hValid_spec g h3 (fun e he => Nat.le_trans (h4 e he) (by omega)) (by omega) (by omega) fun e he hi hb => AbvOk.any (Nat.le_trans (h4 e he) (by omega)) hi hb
theorem validG_bd {g : GGraph} (h : smallG g 10 40 = true) (hv : validG g = true) : g.Edges.length ≤ 20000 ∧ ∀ e ∈ g.Edges, e.length ≤ 1000000 ∧ ∀ x ∈ e, 0 ≤ x ∧ x < g.N := by
  obtain ⟨h1, h2, h3, h4⟩ := smallG_bd h
  refine ⟨by omega, fun e he => ⟨Nat.le_trans (h4 e he) (by omega), ?_⟩⟩
  obtain ⟨m, hm, rfl⟩ := List.getElem_of_mem he
  unfold validG validG1 at hv
  simp only [Bool.and_eq_true] at hv
  have h2 := List.all_eq_true.1 hv.1.2 m (List.mem_range.2 hm)
  rw [nth_get hm] at h2
  simp only [Bool.and_eq_true] at h2
  exact (isSet_ok h2.2).2
theorem holds_eq {q : GConj} {facts : List GFact} {set : List Int} : (fitM q facts && hldR q facts (inS set facts.length) q.Atoms.length []) = (fitM q facts && holdB q facts set 0 []) := by
  cases h : fitM q facts with
  | false => rfl
  | true => rw [holds_in h]; unfold holdsM; rw [h]; rfl
set_option maxHeartbeats 4000000 in
theorem RewriteMatches_spec (q : GConj) (facts : List GFact) (g : GGraph) (set : List Int) (hq : q.Atoms.length ≤ 9223372036854775807) (hE : g.Edges.length ≤ 9223372036854775807) : Fun1 prog 3 [rConj.ty q, tSl rFact facts, rGraph.ty g, tSl rInt set] (tV (.bool true)) := by
 refine Spec.enter func3 rfl rfl fun h0 w0 fr0 => ?_
 refine Jr (Js rfl (step_box (R := rConj) Sr) (Js rfl (step_box (R := rGraph) Sr) (Ja rfl (JL_nil (Jr ?_)))))
 refine Js rfl (step_call0 (head_spec) trivial call11) (Ja rfl (JL_nil (J_seq (Jr (Jl rfl ty25 Sr ?_)))))
 refine Jm rfl (Js rfl (step_call0 (Small_spec q facts 9 zG hq) ⟨Sr, Sr, Sr, trivial⟩ call12) (Js rfl (step_not Sr) (Jm rfl (Jg rfl Sr rfl (fun hw => step_move Sr) (Jg rfl Sr rfl (fun hw => step_len_sl underlying27 (Sub.w hw)) ?_)))))
 refine Jg rfl Sr rfl (fun hw => step_gtr (Sub.w hw) Sr) (Js rfl (step_pick_or Sr Sr) (Jm rfl (Jg rfl Sr rfl (fun hw => step_load_ptr ty30 Sr) (Jg rfl Sr rfl (fun hw => step_call0 (rSmall_spec g 10 40 hE) ⟨(Sub.w hw), Sr, Sr, trivial⟩ call13) (Jg rfl Sr rfl (fun hw => step_not (Sub.w hw)) ?_)))))
 refine Js rfl (step_pick_or Sr Sr) (JL_nil ?_)
 refine J_cond Sr (fun h28 => ?_) (fun h28 => ?_)
 ·
  try simp only [NF] at h28
  refine Jr (Jm rfl (Ja rfl (JL_nil (J_ret ?_))))
  refine K_ret1 (t := 8) rfl () Sr
 try simp only [NF] at h28
 have hsb := small_bd h28.1.1
 have hfl : facts.length ≤ 9 := by have := hsb.2.1; omega
 have hsl : set.length ≤ 20 := by have := h28.1.2; omega
 obtain ⟨hg1, hg2, hg3, hg4⟩ := smallG_bd h28.2
 refine J_skip (Jr (Jl rfl ty25 Sr (Jm rfl (Js rfl (step_call0 (Certain_spec q facts zG) ⟨Sr, Sr, trivial⟩ call14) (Jm rfl ?_)))))
 refine Js rfl (step_extract Sr rfl) (Js rfl (step_extract Sr rfl) (Ja rfl (Ja rfl (JL_nil (Jr ?_)))))
 refine Jl rfl ty25 Sr (Jm rfl (Js rfl (step_call0 (rCertain_spec q facts zG) ⟨Sr, Sr, trivial⟩ call15) (Jm rfl (Js rfl (step_extract Sr rfl) (Js rfl (step_extract Sr rfl) ?_)))))
 refine Ja rfl (Ja rfl (JL_nil (J_seq ?_)))
 refine J_draw [⟨0, [9], true⟩, ⟨1, [42], true⟩, ⟨2, [10, 43], true⟩, ⟨3, [12, 43], true⟩, ⟨4, [43, 44, 45], true⟩, ⟨5, [43, 46], true⟩, ⟨6, [47], true⟩, ⟨7, [11, 48], true⟩, ⟨8, [13, 48], true⟩, ⟨9, [48, 49, 50], true⟩, ⟨10, [48, 51], true⟩, ⟨11, [52], true⟩, ⟨12, [4, 53], true⟩, ⟨13, [1, 53], true⟩, ⟨14, [6, 53], true⟩, ⟨15, [53, 54, 55, 56], true⟩, ⟨16, [4, 53], true⟩, ⟨17, [1, 53], true⟩, ⟨18, [6, 53], true⟩, ⟨19, [53, 58, 59, 60], true⟩, ⟨20, [53, 57, 61], true⟩, ⟨21, [53, 62], true⟩, ⟨22, [63], true⟩, ⟨23, [4, 64], true⟩, ⟨24, [1, 64], true⟩, ⟨25, [3, 64], true⟩, ⟨26, [64, 65, 66, 67], true⟩, ⟨27, [4, 64], true⟩, ⟨28, [1, 64], true⟩, ⟨29, [3, 64], true⟩, ⟨30, [64, 69, 70, 71], true⟩, ⟨31, [64, 68, 72], true⟩, ⟨32, [64, 73], true⟩, ⟨33, [74], true⟩] rfl (by kernel_rfl) ?_
 refine Mv rfl rfl (Mv rfl rfl (Mg rfl rfl Sr rfl (fun hw => step_move Sr) (Mg rfl rfl Sr rfl (fun hw => step_move Sr) (Mg rfl rfl Sr rfl (fun hw => step_eql_bool underlying4 (Sub.w hw) (Sub.w hw)) (Mf rfl rfl (step_pick_and Sr Sr) ?_)))))
 refine Mv rfl rfl (Mg rfl rfl Sr rfl (fun hw => step_move Sr) (Mg rfl rfl Sr rfl (fun hw => step_move Sr) (Mg rfl rfl Sr rfl (fun hw => step_eql (Sub.w hw) (Sub.w hw)) (Mf rfl rfl (step_pick_and Sr Sr) (Mv rfl rfl ?_)))))
 refine Mg rfl rfl Sr rfl (fun hw => step_load_ptr ty25 Sr) (Mg rfl rfl Sr rfl (fun hw => step_move Sr) (Mg rfl rfl Sr rfl (fun hw => step_load_ptr ty30 Sr) (Mg rfl rfl Sr rfl (fun hw => step_call0 (Applies_spec q facts g (validG g) (valid39 h28.2) (validG_bd h28.2) zG) ⟨(Sub.w hw), (Sub.w hw), (Sub.w hw), trivial⟩ call16) (Mg rfl rfl Sr rfl (fun hw => step_load_ptr ty25 Sr) (Mg rfl rfl Sr rfl (fun hw => step_move Sr) ?_)))))
 refine Mg rfl rfl Sr rfl (fun hw => step_load_ptr ty30 Sr) (Mg rfl rfl Sr rfl (fun hw => step_call0 (rApplies_spec q facts g zG zG (fun e he => Nat.le_trans (hg4 e he) zG) zG) ⟨(Sub.w hw), (Sub.w hw), (Sub.w hw), trivial⟩ call17) (Mg rfl rfl Sr rfl (fun hw => step_eql_bool underlying4 (Sub.w hw) (Sub.w hw)) (Mf rfl rfl (step_pick_and Sr Sr) (Mv rfl rfl (Mg rfl rfl Sr rfl (fun hw => step_load_ptr ty25 Sr) ?_)))))
 refine Mg rfl rfl Sr rfl (fun hw => step_move Sr) (Mg rfl rfl Sr rfl (fun hw => step_move Sr) (Mg rfl rfl Sr rfl (fun hw => step_call0 (Holds_spec q facts set zG zG) ⟨(Sub.w hw), (Sub.w hw), (Sub.w hw), trivial⟩ call18) (Mg rfl rfl Sr rfl (fun hw => step_load_ptr ty25 Sr) (Mg rfl rfl Sr rfl (fun hw => step_move Sr) (Mg rfl rfl Sr rfl (fun hw => step_move Sr) ?_)))))
 refine Mg rfl rfl Sr rfl (fun hw => step_call0 (rHoldsTop_spec q facts set zG zG) ⟨(Sub.w hw), (Sub.w hw), (Sub.w hw), trivial⟩ call19) (Mg rfl rfl Sr rfl (fun hw => step_eql_bool underlying4 (Sub.w hw) (Sub.w hw)) (Mf rfl rfl (step_pick_and Sr Sr) (Mf rfl rfl (step_assign Sr) (JM_nil (J_ret ?_)))))
 refine K_ret1 (t := 8) rfl () ?_
 refine Sub.bool ?_
 have e1 := app_ref (q := q) (facts := facts) (g := g) zG
 have e2 := holds_eq (q := q) (facts := facts) (set := set)
 rw [e1, e2]; simp
end Lg
