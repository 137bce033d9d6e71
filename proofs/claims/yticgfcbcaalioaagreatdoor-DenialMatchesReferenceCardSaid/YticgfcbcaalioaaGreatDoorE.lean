/- Walks of minimal, Violations, Dangling, Conflicts and their closures. -/
import Derived.Test.YticgfcbcaalioaaGreatDoorD
set_option linter.unusedVariables false
set_option linter.unusedSimpArgs false
set_option linter.unusedSectionVars false
namespace Lg
open Go Go.Proofs


theorem ordI_anti (a b : Int) : ordI b a = - ordI a b := by unfold ordI; (repeat' split) <;> omega
theorem cmpL_anti : ∀ a b : List Int, cmpL b a = - cmpL a b
  | [], [] => rfl
  | [], _ :: _ => rfl
  | _ :: _, [] => rfl
  | a :: x, b :: y => by
    simp only [cmpL]
    rw [ordI_anti a b, cmpL_anti x y]
    by_cases h : ordI a b = 0
    · rw [if_pos h, if_pos (by omega)]
    · rw [if_neg h, if_neg (by omega)]
theorem cmpL_trans : ∀ a b c : List Int, cmpL a b ≤ 0 → cmpL b c ≤ 0 → cmpL a c ≤ 0 ∧ (cmpL a c = 0 → cmpL a b = 0 ∧ cmpL b c = 0)
  | [], [], [], _, _ => by simp [cmpL]
  | [], [], _ :: _, _, _ => by simp [cmpL]
  | [], _ :: _, [], _, h => by simp [cmpL] at h
  | [], _ :: _, _ :: _, _, _ => by simp [cmpL]
  | _ :: _, [], _, h, _ => by simp [cmpL] at h
  | _ :: _, _ :: _, [], _, h => by simp [cmpL] at h
  | a :: x, b :: y, c :: z, h1, h2 => by
    have ih := cmpL_trans x y z
    simp only [cmpL] at h1 h2 ⊢
    unfold ordI at h1 h2 ⊢
    by_cases e1 : a < b <;> by_cases e2 : b < c <;> by_cases e3 : a < c <;> by_cases e4 : b < a <;> by_cases e5 : c < b <;> by_cases e6 : c < a <;> simp only [e1, e2, e3, e4, e5, e6, if_true, if_false] at h1 h2 ⊢ <;> first | omega | (simp at h1 h2 ⊢; done) | (simp at h1 h2 ⊢; exact ih h1 h2)
theorem cmpL_swo : Go.Sort.SWO (ltOf cmpL) where
  irrefl x := by
    have := cmpL_anti x x
    have h : cmpL x x = 0 := by omega
    simp [ltOf, h]
  trans x y z h1 h2 := by
    simp only [ltOf, decide_eq_true_eq] at h1 h2 ⊢
    have := cmpL_trans x y z (by omega) (by omega)
    omega
  ntrans x y z h1 h2 := by
    simp only [ltOf, decide_eq_false_iff_not] at h1 h2 ⊢
    have a1 := cmpL_anti x y
    have a2 := cmpL_anti y z
    have a3 := cmpL_anti x z
    have := cmpL_trans z y x (by omega) (by omega)
    omega
theorem SortL_spec (v : Value) (xs : List (List Int)) (hpx : ∀ x ∈ xs, x.length ≤ 1000000000000) (hn : xs.length < 4611686018427387904) :
    Spec (X := { ys : List (List Int) // ys.Perm xs ∧ ys.Pairwise fun a b => ltOf cmpL b a = false }) Tryz.prog 55 [rV.ty v, tV (.func (.func 56) #[] #[])] [own 24 rI2 v xs] (fun _ => tTup []) (fun ys => [own 24 rI2 v ys.1]) :=
  sortFunc_spec Tryz.sortK rfl cmpL cmpL_swo Tryz.call56 (fun x => x.length ≤ 1000000000000) (fun x y hx hy => Fun1.sub2 Sub.ofE Sub.ofE (CompareL_spec x y hx hy)) v xs hpx hn
abbrev KM := List (ByteArray × List Int)
def knownM (xs : List (List Int)) : KM := xs.foldl (fun m s => mput m (nameB s) s) []
theorem knownM_snoc (xs : List (List Int)) (s : List Int) : knownM (xs ++ [s]) = mput (knownM xs) (nameB s) s := by simp [knownM]
theorem mput_vals {m : KM} {q : ByteArray} {y : List Int} : ∀ {p : ByteArray × List Int}, p ∈ mput m q y → p = (q, y) ∨ p ∈ m := by
  induction m with
  | nil => intro p h; simp [mput] at h; exact .inl h
  | cons a m ih =>
    intro p h
    simp only [mput] at h
    split at h
    · rcases List.mem_cons.1 h with rfl | h
      · rename_i he; exact .inl (by simp_all)
      · exact .inr (List.mem_cons_of_mem _ h)
    · rcases List.mem_cons.1 h with rfl | h
      · exact .inr (by simp)
      · rcases ih h with h | h
        · exact .inl h
        · exact .inr (List.mem_cons_of_mem _ h)
def partT (b : Nat) (s : List Int) (i : Nat) : List Int := ((List.range i).filter fun j => decide (b / 2 ^ j % 2 = 1)).map (nth s)
theorem partT_succ (b : Nat) (s : List Int) (i : Nat) : partT b s (i + 1) = partT b s i ++ if b / 2 ^ i % 2 = 1 then [nth s i] else [] := by
  unfold partT
  rw [List.range_succ, List.filter_append, List.map_append]
  by_cases h : b / 2 ^ i % 2 = 1 <;> simp [h]
theorem partT_len (b : Nat) (s : List Int) (i : Nat) : (partT b s i).length ≤ i := by
  unfold partT
  rw [List.length_map]
  exact Nat.le_trans (List.length_filter_le _ _) (by simp)
theorem partT_mem {b : Nat} {s : List Int} {i : Nat} (h : i ≤ s.length) : ∀ x ∈ partT b s i, x ∈ s := by
  intro x hx
  simp only [partT, List.mem_map, List.mem_filter, List.mem_range] at hx
  obtain ⟨j, ⟨hj, _⟩, rfl⟩ := hx
  exact nth_mem (by omega)
def okN (m : KM) (s : List Int) (k : Nat) : Bool := (List.range k).all fun b => (mget m (nameB (partT (b + 1) s s.length))).isNone
theorem okN_succ (m : KM) (s : List Int) (k : Nat) : okN m s (k + 1) = (okN m s k && (mget m (nameB (partT (k + 1) s s.length))).isNone) := by simp [okN, List.range_succ]
def minOk (m : KM) (s : List Int) : Bool := okN m s (2 ^ s.length - 2)
def outL (m : KM) (dn : List Nat) : List (List Int) := ((dn.filterMap fun i => m[i]?).map (·.2)).filter (minOk m)
theorem outL_snoc {m : KM} {dn : List Nat} {i : Nat} {k : ByteArray} {s : List Int} (h : m[i]? = some (k, s)) : outL m (dn ++ [i]) = outL m dn ++ if minOk m s then [s] else [] := by
  simp [outL, h]
  by_cases hs : minOk m s = true <;> simp [hs]
def minL (m : KM) : List (List Int) := (m.map (·.2)).filter (minOk m)
theorem nodup_sub_len : ∀ {l : List Nat}, l.Nodup → ∀ {r : List Nat}, (∀ a ∈ l, a ∈ r) → l.length ≤ r.length
  | [], _, r, _ => Nat.zero_le _
  | a :: l, hd, r, hs => by
    have hd' := List.nodup_cons.1 hd
    have ha := hs a (by simp)
    have := nodup_sub_len hd'.2 (r := r.erase a) (fun b hb => (List.mem_erase_of_ne (by intro e; subst e; exact hd'.1 hb)).2 (hs b (by simp [hb])))
    rw [List.length_erase_of_mem ha] at this
    have hp : 0 < r.length := List.length_pos_of_mem ha
    simp only [List.length_cons]
    omega
theorem nodup_lt_len {n : Nat} {l : List Nat} (hd : l.Nodup) (hl : ∀ a ∈ l, a < n) : l.length ≤ n := by
  have := nodup_sub_len hd (r := List.range n) (fun a ha => List.mem_range.2 (hl a ha))
  simpa using this
theorem range_get (m : KM) : ((List.range m.length).filterMap fun i => m[i]?) = m := by
  have h : ∀ k (l : KM), k = l.length → ((List.range k).filterMap fun i => (l)[i]?) = l := by
    intro k
    induction k with
    | zero => intro l e; have := List.eq_nil_of_length_eq_zero e.symm; subst this; rfl
    | succ k ih =>
      intro l e
      obtain ⟨l', a, rfl⟩ : ∃ l' a, l = l' ++ [a] := ⟨l.dropLast, l.getLast (by intro h; rw [h] at e; simp at e), (List.dropLast_concat_getLast _).symm⟩
      have e' : k = l'.length := by simp at e; exact e
      rw [List.range_succ, List.filterMap_append]
      have := ih l' e'
      have h2 : ((List.range k).filterMap fun i => (l' ++ [a])[i]?) = (List.range k).filterMap fun i => l'[i]? := by
        have h3 : ∀ (r : List Nat), (∀ i ∈ r, i < l'.length) → (r.filterMap fun i => (l' ++ [a])[i]?) = r.filterMap fun i => l'[i]? := by
          intro r
          induction r with
          | nil => intro _; rfl
          | cons i r ihr =>
            intro hr
            simp only [List.filterMap_cons]
            rw [List.getElem?_append_left (hr i (by simp)), ihr (fun j hj => hr j (by simp [hj]))]
        exact h3 _ (fun i hi => by have := List.mem_range.1 hi; omega)
      rw [h2, this]
      simp [e']
  exact h _ m rfl
theorem outL_perm {m : KM} {dn : List Nat} (hd : dn.Nodup) (hl : ∀ a ∈ dn, a < m.length) (hc : ∀ i, i < m.length → i ∈ dn) : (outL m dn).Perm (minL m) := by
  have hp : dn.Perm (List.range m.length) := (List.perm_ext_iff_of_nodup hd List.nodup_range).2 fun a => ⟨fun h => List.mem_range.2 (hl a h), fun h => hc a (List.mem_range.1 h)⟩
  have := ((hp.filterMap fun i => m[i]?).map (·.2)).filter (minOk m)
  rw [range_get] at this
  exact this
theorem outL_len (m : KM) (dn : List Nat) : (outL m dn).length ≤ dn.length := by
  unfold outL
  refine Nat.le_trans (List.length_filter_le _ _) ?_
  rw [List.length_map]
  exact List.length_filterMap_le _ _
theorem outL_mem {m : KM} {dn : List Nat} : ∀ x ∈ outL m dn, ∃ p ∈ m, p.2 = x := by
  intro x hx
  simp only [outL, List.mem_filter, List.mem_map, List.mem_filterMap] at hx
  obtain ⟨⟨p, ⟨i, _, hi⟩, rfl⟩, _⟩ := hx
  exact ⟨p, List.mem_of_getElem? hi, rfl⟩
theorem knownM_mem {xs : List (List Int)} : ∀ p ∈ knownM xs, p.2 ∈ xs ∧ p.1 = nameB p.2 := by
  have h : ∀ (ys : List (List Int)) (m : KM), (∀ p ∈ m, p.2 ∈ xs ∧ p.1 = nameB p.2) → (∀ y ∈ ys, y ∈ xs) → ∀ p ∈ ys.foldl (fun m s => mput m (nameB s) s) m, p.2 ∈ xs ∧ p.1 = nameB p.2 := by
    intro ys
    induction ys with
    | nil => intro m hm _ p hp; exact hm p hp
    | cons y ys ih =>
      intro m hm hy p hp
      refine ih (mput m (nameB y) y) (fun q hq => ?_) (fun z hz => hy z (by simp [hz])) p hp
      rcases mput_vals hq with rfl | hq
      · exact ⟨hy y (by simp), rfl⟩
      · exact hm q hq
  exact h xs [] (by simp) (fun y hy => hy)
theorem knownM_len (xs : List (List Int)) : (knownM xs).length ≤ xs.length := by
  have h : ∀ (ys : List (List Int)) (m : KM), (ys.foldl (fun m s => mput m (nameB s) s) m).length ≤ m.length + ys.length := by
    intro ys
    induction ys with
    | nil => intro m; simp
    | cons y ys ih =>
      intro m
      have h1 := ih (mput m (nameB y) y)
      have h2 := mput_length_le m (nameB y) y
      simp only [List.foldl_cons, List.length_cons]
      omega
  have := h xs []
  simpa [knownM] using this
theorem pw_wrap {n : Nat} (h : n ≤ 3) : IntKind.i64.wrap (1 * 2 ^ n) = ((2 ^ n : Nat) : Int) ∧ 2 ^ n ≤ 8 ∧ 1 ≤ 2 ^ n := by
  have : n = 0 ∨ n = 1 ∨ n = 2 ∨ n = 3 := by omega
  rcases this with rfl | rfl | rfl | rfl <;> decide

theorem minimal_spec (tot : List (List Int)) (ht : ∀ s ∈ tot, s.length ≤ 3 ∧ ∀ x ∈ s, 0 ≤ x ∧ x < 100) (htl : tot.length ≤ 1000000) (gi : Nat) (As : List Ty) (it : ItSpec Tryz.prog gi As [] tI2 (okP tot) (fun p => p = tot)) (he : ∀ args w, (callFunc gi args).run Tryz.prog w = .ok (.enter gi args) w) : Spec (X := { ys : List (List Int) // ys.Perm (minL (knownM tot)) ∧ ys.Pairwise fun a b => ltOf cmpL b a = false }) Tryz.prog 36 [tClo gi As] ([]) (fun ys => tSlE 24 rI2 ys.1) (fun ys => []) := by
  refine Spec.enter Tryz.func36 rfl rfl fun h0 w0 fr0 => ?_
  refine J_seq ?_
  refine J_region ?_
  refine JL_step rfl rfl rfl (step_assign Sub.rfl) ?_
  refine JL_nil ?_
  refine J_seq ?_
  refine J_region ?_
  refine JL_stepX rfl rfl rfl (step_makeMapV (kv := kvS) (R := rI2)) fun v15 => ?_
  refine JL_stepX rfl rfl rfl (step_alloc (fun w => Tryz.zeroValue82 w) zr82) fun v3 => ?_
  refine JL_stepU rfl rfl (step_store_box ty82 Sub.rfl Sub.rfl (by first | exact Sel.take (Sel.none _) | exact Sel.skip (Sel.take (Sel.none _)) | exact Sel.skip (Sel.skip (Sel.take (Sel.none _))) | exact Sel.skip (Sel.skip (Sel.skip (Sel.take (Sel.none _)))) | exact Sel.skip (Sel.skip (Sel.skip (Sel.skip (Sel.take (Sel.none _))))))) fun _ => ?_
  refine JL_freeze (t := 3) (Sel.take (Sel.none _)) Frz.box ?_
  refine JL_nil ?_
  refine J_seq ?_
  refine J_seq ?_
  refine J_region ?_
  refine JL_step rfl rfl rfl (step_move Sub.rfl) ?_
  refine JL_nil ?_
  refine J_block ?_
  refine J_range (A := []) (T := tI2) (Ok := okP tot) (Fin := fun p => p = tot) (R := []) (fun xs => mapOwn kvS rI2 v15 (knownM xs)) (fun _ _ => SP.pure False) rfl (fun _ => rfl) rfl it Sub.rfl he (LSub.rfl) ?round1 ?done1 ?stop1
  case round1 =>
    intro l1 rec1 h2 w2 fr2 pre y hle1 hst1 hpd1 hdj1 hok
    obtain ⟨hy3, hyb⟩ := ht y (hok.subset (by simp))
    have hy3 : y.length ≤ 1000000 := by omega
    refine J_region ?_
    refine JL_step rfl rfl rfl (step_assign Sub.rfl) ?_
    refine JL_nil ?_
    refine K_begin hst1 hdj1 ?_
    refine J_block ?_
    refine J_draw [⟨0, [3], true⟩, ⟨1, [4], true⟩, ⟨2, [19], true⟩, ⟨3, [4], true⟩, ⟨4, [18, 20, 21], false⟩] rfl (by kernel_rfl) ?_
    refine JM_step rfl rfl rfl rfl (fun _ => step_load_ptr ty82 Sub.rfl) ?_
    refine JM_step rfl rfl rfl rfl (fun _ => step_move Sub.rfl) ?_
    refine JM_step rfl rfl rfl rfl (fun _ => step_call0 (name_spec y hy3 hyb) ⟨Sub.ofE, trivial⟩ Tryz.call54) ?_
    refine JM_step rfl rfl rfl rfl (fun _ => step_move Sub.rfl) ?_
    refine JM_stepU rfl rfl rfl (step_mapUpdate (kv := kvS) (R := rI2) (KeyT.str Tryz.underlying9) Tryz.underlying82 Sub.ofRV Sub.rfl Sub.rfl (by first | exact Sel.take (Sel.none _) | exact Sel.skip (Sel.take (Sel.none _)) | exact Sel.skip (Sel.skip (Sel.take (Sel.none _))) | exact Sel.skip (Sel.skip (Sel.skip (Sel.take (Sel.none _)))) | exact Sel.skip (Sel.skip (Sel.skip (Sel.skip (Sel.take (Sel.none _))))))) fun _ => ?_
    refine JM_nil ?_
    refine K_roundN hst1 hpd1 ?_
    exact LSub.cons (by first | exact Sel.take (Sel.none _) | exact Sel.skip (Sel.take (Sel.none _)) | exact Sel.skip (Sel.skip (Sel.take (Sel.none _))) | exact Sel.skip (Sel.skip (Sel.skip (Sel.take (Sel.none _)))) | exact Sel.skip (Sel.skip (Sel.skip (Sel.skip (Sel.take (Sel.none _)))))) (SPs.rfl) (LSub.cons (by first | exact Sel.take (Sel.none _) | exact Sel.skip (Sel.take (Sel.none _)) | exact Sel.skip (Sel.skip (Sel.take (Sel.none _))) | exact Sel.skip (Sel.skip (Sel.skip (Sel.take (Sel.none _)))) | exact Sel.skip (Sel.skip (Sel.skip (Sel.skip (Sel.take (Sel.none _)))))) (SPs.of (by rw [knownM_snoc])) (LSub.nil))
  case done1 =>
    intro D1 xs hfin
    have hfin : xs = tot := hfin
    subst xs
    refine J_seq ?_
    refine J_region ?_
    refine JL_step rfl rfl rfl (step_assign Sub.rfl) ?_
    refine JL_nil ?_
    refine K_lsub (LSub.nilown (e := 24) (R := rI2)) ?_
    refine J_seq ?_
    refine J_seq ?_
    refine J_region ?_
    refine JL_step rfl rfl rfl (step_load_ptr ty82 Sub.rfl) ?_
    refine JL_stepX rfl rfl rfl (step_range_map (kv := kvS) (R := rI2) Tryz.underlying82 Sub.ofRV (by first | exact Sel.take (Sel.none _) | exact Sel.skip (Sel.take (Sel.none _)) | exact Sel.skip (Sel.skip (Sel.take (Sel.none _))) | exact Sel.skip (Sel.skip (Sel.skip (Sel.take (Sel.none _)))) | exact Sel.skip (Sel.skip (Sel.skip (Sel.skip (Sel.take (Sel.none _))))))) fun v23 => ?_
    refine JL_nil ?_
    refine J_block ?_
    refine J_loopL (σ := List Nat × Value) (fun ⟨dn, vo⟩ => dn.Nodup ∧ ∀ a ∈ dn, a < (knownM tot).length) (fun ⟨dn, vo⟩ => upd (upd (upd (upd env0 2 (tV (.slice none 0 0))) 3 (tPtr rV v15)) 5 (rV.ty vo)) 23 (tAt v23 0)) (fun ⟨dn, vo⟩ => [itOwn v23 v15 (knownM tot).length dn, mapOwn kvS rI2 v15 (knownM tot), own 24 rI2 vo (outL (knownM tot) dn), dfB D1]) (fun ⟨dn, vo⟩ => (knownM tot).length - dn.length) ([], .slice none 0 0) ⟨by simp, by simp⟩ (SubE.upd Sub.rfl (SubE.upd (Sub.rV rfl) (SubE.upd Sub.rfl (SubE.upd Sub.rfl SubE.any)))) (LSub.cons (by first | exact Sel.take (Sel.none _) | exact Sel.skip (Sel.take (Sel.none _)) | exact Sel.skip (Sel.skip (Sel.take (Sel.none _))) | exact Sel.skip (Sel.skip (Sel.skip (Sel.take (Sel.none _)))) | exact Sel.skip (Sel.skip (Sel.skip (Sel.skip (Sel.take (Sel.none _)))))) (SPs.rfl) (LSub.cons (by first | exact Sel.take (Sel.none _) | exact Sel.skip (Sel.take (Sel.none _)) | exact Sel.skip (Sel.skip (Sel.take (Sel.none _))) | exact Sel.skip (Sel.skip (Sel.skip (Sel.take (Sel.none _)))) | exact Sel.skip (Sel.skip (Sel.skip (Sel.skip (Sel.take (Sel.none _)))))) (SPs.rfl) (LSub.cons (by first | exact Sel.take (Sel.none _) | exact Sel.skip (Sel.take (Sel.none _)) | exact Sel.skip (Sel.skip (Sel.take (Sel.none _))) | exact Sel.skip (Sel.skip (Sel.skip (Sel.take (Sel.none _)))) | exact Sel.skip (Sel.skip (Sel.skip (Sel.skip (Sel.take (Sel.none _)))))) (SPs.rfl) (LSub.cons (by first | exact Sel.take (Sel.none _) | exact Sel.skip (Sel.take (Sel.none _)) | exact Sel.skip (Sel.skip (Sel.take (Sel.none _))) | exact Sel.skip (Sel.skip (Sel.skip (Sel.take (Sel.none _)))) | exact Sel.skip (Sel.skip (Sel.skip (Sel.skip (Sel.take (Sel.none _)))))) (SPs.rfl) (LSub.nil))))) ?_
    rintro ⟨dn, vo⟩ ⟨hnd, hdlt⟩
    refine J_seq ?_
    refine J_region ?_
    refine JL_stepX rfl rfl rfl (step_next rfl Sub.rfl LSub.rfl) fun o => ?_
    refine JL_step rfl rfl rfl (step_extract_next Sub.rfl) ?_
    refine JL_nil ?_
    refine J_seq ?_
    refine J_cond Sub.rfl (fun h25 => ?_) (fun h25 => ?_)
    · try simp only [decide_eq_true_eq, decide_eq_false_iff_not, Bool.and_eq_true, Bool.or_eq_true, Bool.and_eq_false_iff, Bool.or_eq_false_iff, Bool.not_eq_true', Bool.not_eq_false', Int.not_lt, Int.not_le, Bool.not_true, Bool.not_false] at h25
      obtain ⟨o, ho⟩ := o
      obtain ⟨i, rfl⟩ := Option.isSome_iff_exists.1 h25
      dsimp only at ho
      obtain ⟨hil, hid⟩ := ho
      obtain ⟨⟨nm, s⟩, hms⟩ : ∃ q, (knownM tot)[i]? = some q := ⟨_, List.getElem?_eq_getElem hil⟩
      obtain ⟨hs3, hsb⟩ := ht s (knownM_mem _ (List.mem_of_getElem? hms)).1
      obtain ⟨hpw, hT8, hT1⟩ := pw_wrap hs3
      have hmo : minOk (knownM tot) s = okN (knownM tot) s (2 ^ s.length - 2) := rfl
      generalize 2 ^ s.length = T at hpw hT8 hT1 hmo
      have hnd2 : (dn ++ [i]).Nodup := List.nodup_append.2 ⟨hnd, by simp, by intro a ha b hb e; simp at hb; subst hb; subst e; exact hid ha⟩
      have hlt2 : ∀ a ∈ dn ++ [i], a < (knownM tot).length := by intro a ha; rcases List.mem_append.1 ha with h | h; exact hdlt a h; simp at h; subst h; exact hil
      have hdl := nodup_lt_len hnd2 hlt2
      simp only [List.length_append, List.length_cons, List.length_nil] at hdl
      have hol := outL_len (knownM tot) dn
      have hkl := knownM_len tot
      refine J_skip ?_
      refine J_block ?_
      refine J_seq ?_
      refine J_region ?_
      refine JL_step rfl rfl rfl (step_entry Sub.rfl LSub.rfl hms) ?_
      refine JL_step rfl rfl rfl (step_extract Sub.rfl rfl) ?_
      refine JL_step rfl rfl rfl (step_assign Sub.rfl) ?_
      refine JL_nil ?_
      refine J_seq ?_
      refine J_region ?_
      refine JL_step rfl rfl rfl (step_assign Sub.rfl) ?_
      refine JL_nil ?_
      refine J_seq ?_
      refine J_seq ?_
      refine J_region ?_
      refine JL_step rfl rfl rfl (step_assign Sub.rfl) ?_
      refine JL_nil ?_
      refine J_block ?_
      refine J_loopL (σ := Nat) (fun n => n ≤ T - 2) (fun n => upd (upd (upd (upd (upd (upd (upd (upd env0 2 (tV (.slice none 0 0))) 3 (tPtr rV v15)) 5 (rV.ty vo)) 7 (tSlE 3 rInt s)) 8 (tV (.bool (okN (knownM tot) s n)))) 9 (tV (.int .i64 ((n : Int) + 1)))) 23 (tAt v23 0)) 27 (tSlE 3 rInt s)) (fun n => [itOwn v23 v15 (knownM tot).length (dn ++ [i]), mapOwn kvS rI2 v15 (knownM tot), own 24 rI2 vo (outL (knownM tot) dn), dfB D1]) (fun n => T - 2 - n) 0 (Nat.zero_le _) (SubE.upd Sub.rfl (SubE.upd Sub.rfl (SubE.upd (Sub.int (by simp)) (SubE.upd (Sub.bool (by simp [okN])) (SubE.upd Sub.rfl (SubE.upd Sub.rfl (SubE.upd Sub.rfl (SubE.upd Sub.rfl SubE.any)))))))) (LSub.rfl) ?_
      rintro n hi
      refine J_seq ?_
      refine J_seq ?_
      refine J_region ?_
      refine JL_step rfl rfl rfl (step_move Sub.rfl) ?_
      refine JL_step rfl rfl rfl (step_move Sub.rfl) ?_
      refine JL_step rfl rfl rfl (step_len_sl Tryz.underlying24 Sub.ofE) ?_
      refine JL_step rfl rfl rfl (step_shl (n := s.length) (m := (T : Int)) Sub.rfl Sub.rfl rfl (by omega) hpw) ?_
      refine JL_step rfl rfl rfl (step_sub Sub.rfl Sub.rfl ?sg1) ?_
      case sg1 => unfold in64; omega
      refine JL_step rfl rfl rfl (step_lss Sub.rfl Sub.rfl) ?_
      refine JL_nil ?_
      refine J_cond Sub.rfl (fun h33 => ?_) (fun h33 => ?_)
      · try simp only [decide_eq_true_eq, decide_eq_false_iff_not, Bool.and_eq_true, Bool.or_eq_true, Bool.and_eq_false_iff, Bool.or_eq_false_iff, Bool.not_eq_true', Bool.not_eq_false', Int.not_lt, Int.not_le, Bool.not_true, Bool.not_false] at h33
        have hnT : n < T - 2 := by omega
        refine J_skip ?_
        refine J_seq ?_
        refine J_block ?_
        refine J_seq ?_
        refine J_region ?_
        refine JL_step rfl rfl rfl (step_assign Sub.rfl) ?_
        refine JL_nil ?_
        refine J_seq ?_
        refine J_seq ?_
        refine J_region ?_
        refine JL_step rfl rfl rfl (step_move Sub.rfl) ?_
        refine JL_step rfl rfl rfl (step_len_sl Tryz.underlying24 Sub.ofE) ?_
        refine JL_step rfl rfl rfl (step_move Sub.rfl) ?_
        refine JL_nil ?_
        refine J_block ?_
        refine J_loopL (σ := Nat × Value) (fun ⟨j, vp⟩ => j ≤ s.length) (fun ⟨j, vp⟩ => upd (upd (upd (upd (upd (upd (upd (upd (upd (upd (upd (upd (upd (upd env0 2 (tV (.slice none 0 0))) 3 (tPtr rV v15)) 5 (rV.ty vo)) 7 (tSlE 3 rInt s)) 8 (tV (.bool (okN (knownM tot) s n)))) 9 (tV (.int .i64 ((n : Int) + 1)))) 10 (rV.ty vp)) 23 (tAt v23 0)) 27 (tSlE 3 rInt s)) 28 (tV (.int .i64 ((n : Int) + 1)))) 29 (tSlE 3 rInt s)) 36 (tSlE 3 rInt s)) 37 (tV (.int .i64 s.length))) 38 (tV (.int .i64 j))) (fun ⟨j, vp⟩ => [own 3 rInt vp (partT (n + 1) s j), itOwn v23 v15 (knownM tot).length (dn ++ [i]), mapOwn kvS rI2 v15 (knownM tot), own 24 rI2 vo (outL (knownM tot) dn), dfB D1]) (fun ⟨j, vp⟩ => s.length - j) (0, .slice none 0 0) (by simp) (SubE.upd Sub.rfl (SubE.upd Sub.rfl (SubE.upd Sub.rfl (SubE.upd Sub.rfl (SubE.upd Sub.rfl (SubE.upd Sub.rfl (SubE.upd Sub.rfl (SubE.upd (Sub.rV rfl) (SubE.upd Sub.rfl (SubE.upd Sub.rfl (SubE.upd Sub.rfl (SubE.upd Sub.rfl (SubE.upd Sub.rfl (SubE.upd Sub.rfl SubE.any)))))))))))))) (LSub.nilown) ?_
        rintro ⟨j, vp⟩ hj
        try dsimp only at hj
        refine J_seq ?_
        refine J_region ?_
        refine JL_step rfl rfl rfl (step_lss Sub.rfl Sub.rfl) ?_
        refine JL_nil ?_
        refine J_seq ?_
        refine J_cond Sub.rfl (fun h39 => ?_) (fun h39 => ?_)
        · try simp only [decide_eq_true_eq, decide_eq_false_iff_not, Bool.and_eq_true, Bool.or_eq_true, Bool.and_eq_false_iff, Bool.or_eq_false_iff, Bool.not_eq_true', Bool.not_eq_false', Int.not_lt, Int.not_le, Bool.not_true, Bool.not_false] at h39
          have hlj : j < s.length := by omega
          have hpl := partT_len (n + 1) s j
          refine J_skip ?_
          refine J_seq ?_
          refine J_block ?_
          refine J_seq ?_
          refine J_region ?_
          refine JL_step rfl rfl rfl (step_move Sub.rfl) ?_
          refine JL_step rfl rfl rfl (step_indexAddr_sl  Tryz.underlying24 ty3 Sub.ofE Sub.rfl rfl (gb ?sg1)) ?_
          case sg1 => first | assumption | omega
          refine JL_step rfl rfl rfl (step_load_ptr ty3 Sub.rfl) ?_
          refine JL_step rfl rfl rfl (step_assign Sub.rfl) ?_
          refine JL_step rfl rfl rfl (step_assign Sub.rfl) ?_
          refine JL_nil ?_
          refine J_seq ?_
          refine J_region ?_
          refine JL_step rfl rfl rfl (step_move Sub.rfl) ?_
          refine JL_step rfl rfl rfl (step_move Sub.rfl) ?_
          refine JL_step rfl rfl rfl (step_shr (n := j) Sub.rfl Sub.rfl rfl (by omega)) ?_
          refine JL_step rfl rfl rfl (step_and1 (n := (n + 1) / 2 ^ j) Sub.rfl Sub.rfl (by simp) rfl (Nat.lt_of_le_of_lt (Nat.div_le_self _ _) (by omega))) ?_
          refine JL_step rfl rfl rfl (step_eql Sub.rfl Sub.rfl) ?_
          refine JL_nil ?_
          refine J_cond Sub.rfl (fun h47 => ?_) (fun h47 => ?_)
          · try simp only [decide_eq_true_eq, decide_eq_false_iff_not, Bool.and_eq_true, Bool.or_eq_true, Bool.and_eq_false_iff, Bool.or_eq_false_iff, Bool.not_eq_true', Bool.not_eq_false', Int.not_lt, Int.not_le, Bool.not_true, Bool.not_false] at h47
            have hbit : (n + 1) / 2 ^ j % 2 = 1 := by exact_mod_cast h47
            refine J_region ?_
            refine JL_step rfl rfl rfl (step_move Sub.rfl) ?_
            refine JL_step rfl rfl rfl (step_move Sub.rfl) ?_
            refine JL_step rfl rfl rfl (step_literal (ys := [_]) Tryz.underlying24 el3 ⟨rfl, Sub.rfl, trivial⟩ rfl (by decide)) ?_
            refine JL_stepX rfl rfl rfl (step_append Tryz.underlying24 el3 Sub.rfl Sub.rfl (by first | exact Sel.take (Sel.none _) | exact Sel.skip (Sel.take (Sel.none _)) | exact Sel.skip (Sel.skip (Sel.take (Sel.none _))) | exact Sel.skip (Sel.skip (Sel.skip (Sel.take (Sel.none _)))) | exact Sel.skip (Sel.skip (Sel.skip (Sel.skip (Sel.take (Sel.none _)))))) (by simp; omega) (by simp; omega)) fun u51 => ?_
            refine JL_step rfl rfl rfl (step_assign Sub.rfl) ?_
            refine JL_nil ?_
            refine J_region ?_
            refine JL_step rfl rfl rfl (step_add Sub.rfl Sub.rfl ?sg1) ?_
            case sg1 => unfold in64; omega
            refine JL_step rfl rfl rfl (step_move Sub.rfl) ?_
            refine JL_nil ?_
            refine K_againL (σ := Nat × Value) (s := (j, vp)) (j + 1, u51) (by first | omega | (dsimp only; omega) | (simp_all; omega)) (by omega) (SubE.upd Sub.rfl (SubE.upd Sub.rfl (SubE.upd Sub.rfl (SubE.upd Sub.rfl (SubE.upd Sub.rfl (SubE.upd Sub.rfl (SubE.upd Sub.rfl (SubE.upd Sub.rfl (SubE.upd Sub.rfl (SubE.upd Sub.rfl (SubE.upd Sub.rfl (SubE.upd Sub.rfl (SubE.upd Sub.rfl (SubE.upd Sub.rfl SubE.any)))))))))))))) (LSub.cons (by first | exact Sel.take (Sel.none _) | exact Sel.skip (Sel.take (Sel.none _)) | exact Sel.skip (Sel.skip (Sel.take (Sel.none _))) | exact Sel.skip (Sel.skip (Sel.skip (Sel.take (Sel.none _)))) | exact Sel.skip (Sel.skip (Sel.skip (Sel.skip (Sel.take (Sel.none _)))))) (own_eq (by rw [partT_succ, if_pos hbit])) (LSub.cons (by first | exact Sel.take (Sel.none _) | exact Sel.skip (Sel.take (Sel.none _)) | exact Sel.skip (Sel.skip (Sel.take (Sel.none _))) | exact Sel.skip (Sel.skip (Sel.skip (Sel.take (Sel.none _)))) | exact Sel.skip (Sel.skip (Sel.skip (Sel.skip (Sel.take (Sel.none _)))))) (SPs.rfl) (LSub.cons (by first | exact Sel.take (Sel.none _) | exact Sel.skip (Sel.take (Sel.none _)) | exact Sel.skip (Sel.skip (Sel.take (Sel.none _))) | exact Sel.skip (Sel.skip (Sel.skip (Sel.take (Sel.none _)))) | exact Sel.skip (Sel.skip (Sel.skip (Sel.skip (Sel.take (Sel.none _)))))) (SPs.rfl) (LSub.cons (by first | exact Sel.take (Sel.none _) | exact Sel.skip (Sel.take (Sel.none _)) | exact Sel.skip (Sel.skip (Sel.take (Sel.none _))) | exact Sel.skip (Sel.skip (Sel.skip (Sel.take (Sel.none _)))) | exact Sel.skip (Sel.skip (Sel.skip (Sel.skip (Sel.take (Sel.none _)))))) (SPs.rfl) (LSub.cons (by first | exact Sel.take (Sel.none _) | exact Sel.skip (Sel.take (Sel.none _)) | exact Sel.skip (Sel.skip (Sel.take (Sel.none _))) | exact Sel.skip (Sel.skip (Sel.skip (Sel.take (Sel.none _)))) | exact Sel.skip (Sel.skip (Sel.skip (Sel.skip (Sel.take (Sel.none _)))))) (SPs.rfl) (LSub.nil))))))
          · try simp only [decide_eq_true_eq, decide_eq_false_iff_not, Bool.and_eq_true, Bool.or_eq_true, Bool.and_eq_false_iff, Bool.or_eq_false_iff, Bool.not_eq_true', Bool.not_eq_false', Int.not_lt, Int.not_le, Bool.not_true, Bool.not_false] at h47
            have hbit : ¬ (n + 1) / 2 ^ j % 2 = 1 := by intro h; apply h47; exact_mod_cast h
            refine J_skip ?_
            refine J_region ?_
            refine JL_step rfl rfl rfl (step_add Sub.rfl Sub.rfl ?sg1) ?_
            case sg1 => unfold in64; omega
            refine JL_step rfl rfl rfl (step_move Sub.rfl) ?_
            refine JL_nil ?_
            refine K_againL (σ := Nat × Value) (s := (j, vp)) (j + 1, vp) (by first | omega | (dsimp only; omega) | (simp_all; omega)) (by omega) (SubE.upd Sub.rfl (SubE.upd Sub.rfl (SubE.upd Sub.rfl (SubE.upd Sub.rfl (SubE.upd Sub.rfl (SubE.upd Sub.rfl (SubE.upd Sub.rfl (SubE.upd Sub.rfl (SubE.upd Sub.rfl (SubE.upd Sub.rfl (SubE.upd Sub.rfl (SubE.upd Sub.rfl (SubE.upd Sub.rfl (SubE.upd Sub.rfl SubE.any)))))))))))))) (LSub.cons (by first | exact Sel.take (Sel.none _) | exact Sel.skip (Sel.take (Sel.none _)) | exact Sel.skip (Sel.skip (Sel.take (Sel.none _))) | exact Sel.skip (Sel.skip (Sel.skip (Sel.take (Sel.none _)))) | exact Sel.skip (Sel.skip (Sel.skip (Sel.skip (Sel.take (Sel.none _)))))) (own_eq (by rw [partT_succ, if_neg hbit, List.append_nil])) (LSub.cons (by first | exact Sel.take (Sel.none _) | exact Sel.skip (Sel.take (Sel.none _)) | exact Sel.skip (Sel.skip (Sel.take (Sel.none _))) | exact Sel.skip (Sel.skip (Sel.skip (Sel.take (Sel.none _)))) | exact Sel.skip (Sel.skip (Sel.skip (Sel.skip (Sel.take (Sel.none _)))))) (SPs.rfl) (LSub.cons (by first | exact Sel.take (Sel.none _) | exact Sel.skip (Sel.take (Sel.none _)) | exact Sel.skip (Sel.skip (Sel.take (Sel.none _))) | exact Sel.skip (Sel.skip (Sel.skip (Sel.take (Sel.none _)))) | exact Sel.skip (Sel.skip (Sel.skip (Sel.skip (Sel.take (Sel.none _)))))) (SPs.rfl) (LSub.cons (by first | exact Sel.take (Sel.none _) | exact Sel.skip (Sel.take (Sel.none _)) | exact Sel.skip (Sel.skip (Sel.take (Sel.none _))) | exact Sel.skip (Sel.skip (Sel.skip (Sel.take (Sel.none _)))) | exact Sel.skip (Sel.skip (Sel.skip (Sel.skip (Sel.take (Sel.none _)))))) (SPs.rfl) (LSub.cons (by first | exact Sel.take (Sel.none _) | exact Sel.skip (Sel.take (Sel.none _)) | exact Sel.skip (Sel.skip (Sel.take (Sel.none _))) | exact Sel.skip (Sel.skip (Sel.skip (Sel.take (Sel.none _)))) | exact Sel.skip (Sel.skip (Sel.skip (Sel.skip (Sel.take (Sel.none _)))))) (SPs.rfl) (LSub.nil))))))
        · try simp only [decide_eq_true_eq, decide_eq_false_iff_not, Bool.and_eq_true, Bool.or_eq_true, Bool.and_eq_false_iff, Bool.or_eq_false_iff, Bool.not_eq_true', Bool.not_eq_false', Int.not_lt, Int.not_le, Bool.not_true, Bool.not_false] at h39
          obtain rfl : j = s.length := by omega
          have hpl := partT_len (n + 1) s s.length
          have hpb : ∀ x ∈ (partT (n + 1) s s.length), 0 ≤ x ∧ x < 100 := fun x hx => hsb x (partT_mem (Nat.le_refl _) x hx)
          refine J_exit ?_
          refine J_seq ?_
          refine J_draw [⟨0, [3], true⟩, ⟨1, [10], true⟩, ⟨2, [55], false⟩, ⟨3, [54, 56], false⟩, ⟨4, [57], true⟩, ⟨5, [53], true⟩, ⟨6, [53], true⟩, ⟨7, [58], true⟩, ⟨8, [59], true⟩] rfl (by kernel_rfl) ?_
          refine JM_step rfl rfl rfl rfl (fun _ => step_load_ptr ty82 Sub.rfl) ?_
          refine JM_step rfl rfl rfl rfl (fun _ => step_move Sub.rfl) ?_
          refine JM_look rfl rfl rfl rfl (step_call_look (by first | exact Sel.take (Sel.none _) | exact Sel.skip (Sel.take (Sel.none _)) | exact Sel.skip (Sel.skip (Sel.take (Sel.none _))) | exact Sel.skip (Sel.skip (Sel.skip (Sel.take (Sel.none _)))) | exact Sel.skip (Sel.skip (Sel.skip (Sel.skip (Sel.take (Sel.none _)))))) (name_spec (partT (n + 1) s s.length) (by omega) hpb) (fun _ => Flat.v _) ⟨(Frz.own), trivial⟩ Tryz.call54) ?_
          refine JM_look rfl rfl rfl rfl (step_lookup_ok (kv := kvS) (R := rI2) (z := []) (KeyT.str Tryz.underlying9) Tryz.underlying82 (fun w => Tryz.zeroValue24 w) zr24E Sub.ofRV Sub.rfl (by first | exact Sel.take (Sel.none _) | exact Sel.skip (Sel.take (Sel.none _)) | exact Sel.skip (Sel.skip (Sel.take (Sel.none _))) | exact Sel.skip (Sel.skip (Sel.skip (Sel.take (Sel.none _)))) | exact Sel.skip (Sel.skip (Sel.skip (Sel.skip (Sel.take (Sel.none _))))))) ?_
          refine JM_step rfl rfl rfl rfl (fun _ => step_move Sub.rfl) ?_
          refine JM_step rfl rfl rfl rfl (fun _ => step_extract Sub.rfl rfl) ?_
          refine JM_step rfl rfl rfl rfl (fun _ => step_extract Sub.rfl rfl) ?_
          refine JM_step rfl rfl rfl rfl (fun _ => step_assign Sub.rfl) ?_
          refine JM_step rfl rfl rfl rfl (fun _ => step_assign Sub.rfl) ?_
          refine JM_nil ?_
          refine J_seq ?_
          refine J_region ?_
          refine JL_step rfl rfl rfl (step_move Sub.rfl) ?_
          refine JL_nil ?_
          refine J_cond Sub.rfl (fun h60 => ?_) (fun h60 => ?_)
          · try simp only [decide_eq_true_eq, decide_eq_false_iff_not, Bool.and_eq_true, Bool.or_eq_true, Bool.and_eq_false_iff, Bool.or_eq_false_iff, Bool.not_eq_true', Bool.not_eq_false', Int.not_lt, Int.not_le, Bool.not_true, Bool.not_false] at h60
            refine J_region ?_
            refine JL_step rfl rfl rfl (step_assign Sub.rfl) ?_
            refine JL_nil ?_
            refine J_region ?_
            refine JL_step rfl rfl rfl (step_move Sub.rfl) ?_
            refine JL_step rfl rfl rfl (step_add Sub.rfl Sub.rfl ?sg1) ?_
            case sg1 => unfold in64; omega
            refine JL_step rfl rfl rfl (step_assign Sub.rfl) ?_
            refine JL_nil ?_
            refine K_drop (Sel.take (Sel.none _)) ?_
            refine K_againL (σ := Nat) (s := n) (n + 1) (by first | omega | (dsimp only; omega) | (simp_all; omega)) (by omega) (SubE.upd Sub.rfl (SubE.upd Sub.rfl (SubE.upd (Sub.int (by simp)) (SubE.upd (Sub.bool (by rw [okN_succ]; cases hq : mget (knownM tot) (nameB (partT (n + 1) s s.length)) <;> simp_all)) (SubE.upd Sub.rfl (SubE.upd Sub.rfl (SubE.upd Sub.rfl (SubE.upd Sub.rfl SubE.any)))))))) (LSub.rfl)
          · try simp only [decide_eq_true_eq, decide_eq_false_iff_not, Bool.and_eq_true, Bool.or_eq_true, Bool.and_eq_false_iff, Bool.or_eq_false_iff, Bool.not_eq_true', Bool.not_eq_false', Int.not_lt, Int.not_le, Bool.not_true, Bool.not_false] at h60
            refine J_skip ?_
            refine J_region ?_
            refine JL_step rfl rfl rfl (step_move Sub.rfl) ?_
            refine JL_step rfl rfl rfl (step_add Sub.rfl Sub.rfl ?sg1) ?_
            case sg1 => unfold in64; omega
            refine JL_step rfl rfl rfl (step_assign Sub.rfl) ?_
            refine JL_nil ?_
            refine K_drop (Sel.take (Sel.none _)) ?_
            refine K_againL (σ := Nat) (s := n) (n + 1) (by first | omega | (dsimp only; omega) | (simp_all; omega)) (by omega) (SubE.upd Sub.rfl (SubE.upd Sub.rfl (SubE.upd (Sub.int (by simp)) (SubE.upd (Sub.bool (by rw [okN_succ]; cases hq : mget (knownM tot) (nameB (partT (n + 1) s s.length)) <;> simp_all)) (SubE.upd Sub.rfl (SubE.upd Sub.rfl (SubE.upd Sub.rfl (SubE.upd Sub.rfl SubE.any)))))))) (LSub.rfl)
      · try simp only [decide_eq_true_eq, decide_eq_false_iff_not, Bool.and_eq_true, Bool.or_eq_true, Bool.and_eq_false_iff, Bool.or_eq_false_iff, Bool.not_eq_true', Bool.not_eq_false', Int.not_lt, Int.not_le, Bool.not_true, Bool.not_false] at h33
        obtain rfl : n = T - 2 := by omega
        skip
        refine J_exit ?_
        refine J_seq ?_
        refine J_region ?_
        refine JL_step rfl rfl rfl (step_move Sub.rfl) ?_
        refine JL_nil ?_
        refine J_cond Sub.rfl (fun h61 => ?_) (fun h61 => ?_)
        · try simp only [decide_eq_true_eq, decide_eq_false_iff_not, Bool.and_eq_true, Bool.or_eq_true, Bool.and_eq_false_iff, Bool.or_eq_false_iff, Bool.not_eq_true', Bool.not_eq_false', Int.not_lt, Int.not_le, Bool.not_true, Bool.not_false] at h61
          refine J_region ?_
          refine JL_step rfl rfl rfl (step_move Sub.rfl) ?_
          refine JL_step rfl rfl rfl (step_move Sub.rfl) ?_
          refine JL_step rfl rfl rfl (step_literal (ys := [_]) Tryz.underlying33 el24E ⟨rfl, Sub.rfl, trivial⟩ rfl (by decide)) ?_
          refine JL_stepX rfl rfl rfl (step_append Tryz.underlying33 el24E Sub.rfl Sub.rfl (by first | exact Sel.take (Sel.none _) | exact Sel.skip (Sel.take (Sel.none _)) | exact Sel.skip (Sel.skip (Sel.take (Sel.none _))) | exact Sel.skip (Sel.skip (Sel.skip (Sel.take (Sel.none _)))) | exact Sel.skip (Sel.skip (Sel.skip (Sel.skip (Sel.take (Sel.none _)))))) (by simp; omega) (by simp; omega)) fun u65 => ?_
          refine JL_step rfl rfl rfl (step_assign Sub.rfl) ?_
          refine JL_nil ?_
          refine K_againL (σ := List Nat × Value) (s := (dn, vo)) (dn ++ [i], u65) (by simp; omega) ⟨hnd2, hlt2⟩ (SubE.upd Sub.rfl (SubE.upd Sub.rfl (SubE.upd Sub.rfl (SubE.upd Sub.rfl SubE.any)))) (LSub.cons (by first | exact Sel.take (Sel.none _) | exact Sel.skip (Sel.take (Sel.none _)) | exact Sel.skip (Sel.skip (Sel.take (Sel.none _))) | exact Sel.skip (Sel.skip (Sel.skip (Sel.take (Sel.none _)))) | exact Sel.skip (Sel.skip (Sel.skip (Sel.skip (Sel.take (Sel.none _)))))) (SPs.rfl) (LSub.cons (by first | exact Sel.take (Sel.none _) | exact Sel.skip (Sel.take (Sel.none _)) | exact Sel.skip (Sel.skip (Sel.take (Sel.none _))) | exact Sel.skip (Sel.skip (Sel.skip (Sel.take (Sel.none _)))) | exact Sel.skip (Sel.skip (Sel.skip (Sel.skip (Sel.take (Sel.none _)))))) (SPs.rfl) (LSub.cons (by first | exact Sel.take (Sel.none _) | exact Sel.skip (Sel.take (Sel.none _)) | exact Sel.skip (Sel.skip (Sel.take (Sel.none _))) | exact Sel.skip (Sel.skip (Sel.skip (Sel.take (Sel.none _)))) | exact Sel.skip (Sel.skip (Sel.skip (Sel.skip (Sel.take (Sel.none _)))))) (own_eq (by rw [outL_snoc hms, hmo, if_pos h61])) (LSub.cons (by first | exact Sel.take (Sel.none _) | exact Sel.skip (Sel.take (Sel.none _)) | exact Sel.skip (Sel.skip (Sel.take (Sel.none _))) | exact Sel.skip (Sel.skip (Sel.skip (Sel.take (Sel.none _)))) | exact Sel.skip (Sel.skip (Sel.skip (Sel.skip (Sel.take (Sel.none _)))))) (SPs.rfl) (LSub.nil)))))
        · try simp only [decide_eq_true_eq, decide_eq_false_iff_not, Bool.and_eq_true, Bool.or_eq_true, Bool.and_eq_false_iff, Bool.or_eq_false_iff, Bool.not_eq_true', Bool.not_eq_false', Int.not_lt, Int.not_le, Bool.not_true, Bool.not_false] at h61
          refine J_skip ?_
          refine K_againL (σ := List Nat × Value) (s := (dn, vo)) (dn ++ [i], vo) (by simp; omega) ⟨hnd2, hlt2⟩ (SubE.upd Sub.rfl (SubE.upd Sub.rfl (SubE.upd Sub.rfl (SubE.upd Sub.rfl SubE.any)))) (LSub.cons (by first | exact Sel.take (Sel.none _) | exact Sel.skip (Sel.take (Sel.none _)) | exact Sel.skip (Sel.skip (Sel.take (Sel.none _))) | exact Sel.skip (Sel.skip (Sel.skip (Sel.take (Sel.none _)))) | exact Sel.skip (Sel.skip (Sel.skip (Sel.skip (Sel.take (Sel.none _)))))) (SPs.rfl) (LSub.cons (by first | exact Sel.take (Sel.none _) | exact Sel.skip (Sel.take (Sel.none _)) | exact Sel.skip (Sel.skip (Sel.take (Sel.none _))) | exact Sel.skip (Sel.skip (Sel.skip (Sel.take (Sel.none _)))) | exact Sel.skip (Sel.skip (Sel.skip (Sel.skip (Sel.take (Sel.none _)))))) (SPs.rfl) (LSub.cons (by first | exact Sel.take (Sel.none _) | exact Sel.skip (Sel.take (Sel.none _)) | exact Sel.skip (Sel.skip (Sel.take (Sel.none _))) | exact Sel.skip (Sel.skip (Sel.skip (Sel.take (Sel.none _)))) | exact Sel.skip (Sel.skip (Sel.skip (Sel.skip (Sel.take (Sel.none _)))))) (own_eq (by rw [outL_snoc hms, hmo, if_neg (by simp [h61])]; simp)) (LSub.cons (by first | exact Sel.take (Sel.none _) | exact Sel.skip (Sel.take (Sel.none _)) | exact Sel.skip (Sel.skip (Sel.take (Sel.none _))) | exact Sel.skip (Sel.skip (Sel.skip (Sel.take (Sel.none _)))) | exact Sel.skip (Sel.skip (Sel.skip (Sel.skip (Sel.take (Sel.none _)))))) (SPs.rfl) (LSub.nil)))))
    · try simp only [decide_eq_true_eq, decide_eq_false_iff_not, Bool.and_eq_true, Bool.or_eq_true, Bool.and_eq_false_iff, Bool.or_eq_false_iff, Bool.not_eq_true', Bool.not_eq_false', Int.not_lt, Int.not_le, Bool.not_true, Bool.not_false] at h25
      obtain ⟨o, ho⟩ := o
      obtain rfl : o = none := by simpa using h25
      dsimp only at ho
      have hperm := outL_perm hnd hdlt ho
      have hol := outL_len (knownM tot) dn
      have hkl := knownM_len tot
      have hdl := nodup_lt_len hnd hdlt
      have hpx : ∀ x ∈ outL (knownM tot) dn, x.length ≤ 1000000000000 := by intro x hx; obtain ⟨p, hp, rfl⟩ := outL_mem x hx; have := (ht _ (knownM_mem _ hp).1).1; omega
      refine J_exit ?_
      refine J_seq ?_
      refine J_region ?_
      refine JL_step rfl rfl rfl (step_move Sub.rfl) ?_
      refine JL_stepX rfl rfl rfl (step_call (by first | exact Sel.take (Sel.none _) | exact Sel.skip (Sel.take (Sel.none _)) | exact Sel.skip (Sel.skip (Sel.take (Sel.none _))) | exact Sel.skip (Sel.skip (Sel.skip (Sel.take (Sel.none _)))) | exact Sel.skip (Sel.skip (Sel.skip (Sel.skip (Sel.take (Sel.none _)))))) (SortL_spec _ _ hpx (by omega)) ⟨Sub.rfl, Sub.rfl, trivial⟩ Tryz.call55) fun ys => ?_
      refine JL_nil ?_
      refine J_seq ?_
      refine J_region ?_
      refine JL_step rfl rfl rfl (step_move Sub.rfl) ?_
      refine JL_step rfl rfl rfl (step_assign Sub.rfl) ?_
      refine JL_nil ?_
      refine J_ret ?_
      refine K_unmark (LSub.cons (by first | exact Sel.take (Sel.none _) | exact Sel.skip (Sel.take (Sel.none _)) | exact Sel.skip (Sel.skip (Sel.take (Sel.none _))) | exact Sel.skip (Sel.skip (Sel.skip (Sel.take (Sel.none _)))) | exact Sel.skip (Sel.skip (Sel.skip (Sel.skip (Sel.take (Sel.none _)))))) SPs.rfl LSub.rfl) ?_
      refine K_ret1' (rv := .tmp 2) rfl ⟨ys.1, ys.2.1.trans hperm, ys.2.2⟩ (Sel.all _) (.tmp Sub.rfl) Frz.ownE
  case stop1 =>
    intro D1 c1 xs
    refine K_pure fun h => h.elim
end Lg

namespace Lg
open Go Go.Proofs


theorem cmpL_zero : ∀ a b : List Int, cmpL a b = 0 → a = b
  | [], [], _ => rfl
  | [], _ :: _, h => by simp [cmpL] at h
  | _ :: _, [], h => by simp [cmpL] at h
  | a :: x, b :: y, h => by
    simp only [cmpL] at h
    by_cases e : ordI a b = 0
    · rw [if_pos e] at h
      rw [ordI_zero.1 e, cmpL_zero x y h]
    · rw [if_neg e] at h; exact absurd h e
theorem sortedL_unique : ∀ {ys zs : List (List Int)}, ys.Perm zs → (ys.Pairwise fun a b => ltOf cmpL b a = false) → (zs.Pairwise fun a b => ltOf cmpL b a = false) → ys = zs
  | [], zs, hp, _, _ => (List.nil_perm.1 hp).symm ▸ rfl
  | y :: ys, [], hp, _, _ => absurd hp.length_eq (by simp)
  | y :: ys, z :: zs, hp, h1, h2 => by
    have h1' := List.pairwise_cons.1 h1
    have h2' := List.pairwise_cons.1 h2
    have e : y = z := by
      rcases List.mem_cons.1 (hp.mem_iff.1 (by simp : y ∈ y :: ys)) with e | hy
      · exact e
      rcases List.mem_cons.1 (hp.mem_iff.2 (by simp : z ∈ z :: zs)) with e | hz
      · exact e.symm
      have q1 := h2'.1 y hy
      have q2 := h1'.1 z hz
      simp only [ltOf, decide_eq_false_iff_not] at q1 q2
      have := cmpL_anti y z
      exact cmpL_zero y z (by omega)
    subst e
    rw [sortedL_unique hp.cons_inv h1'.2 h2'.2]
def sortL (l : List (List Int)) : List (List Int) := l.mergeSort fun a b => !ltOf cmpL b a
theorem sortL_perm (l : List (List Int)) : (sortL l).Perm l := List.mergeSort_perm _ _
theorem sortL_sorted (l : List (List Int)) : (sortL l).Pairwise fun a b => ltOf cmpL b a = false := by
  have := List.pairwise_mergeSort (le := fun a b : List Int => !ltOf cmpL b a) (fun a b c h1 h2 => by
    simp only [Bool.not_eq_true'] at h1 h2 ⊢
    exact cmpL_swo.ntrans _ _ _ h2 h1) (fun a b => by
    have := cmpL_anti a b
    simp only [ltOf, Bool.or_eq_true, Bool.not_eq_true', decide_eq_false_iff_not]
    omega) l
  exact this.imp fun h => by simpa using h
def minM (tot : List (List Int)) : List (List Int) := sortL (minL (knownM tot))
theorem minimal1 (tot : List (List Int)) (ht : ∀ s ∈ tot, s.length ≤ 3 ∧ ∀ x ∈ s, 0 ≤ x ∧ x < 100) (htl : tot.length ≤ 1000000) (gi : Nat) (As : List Ty) (it : ItSpec Tryz.prog gi As [] tI2 (okP tot) (fun p => p = tot)) (he : ∀ args w, (callFunc gi args).run Tryz.prog w = .ok (.enter gi args) w) :
    Fun1 Tryz.prog 36 [tClo gi As] (tSlE 24 rI2 (minM tot)) := fun vs h m r w ha sp st => by
  refine (minimal_spec tot ht htl gi As it he vs h m r w ha sp st).mono ?_
  rintro e w' ⟨ys, v, h', m', q1, q2, q3, q4, q5⟩
  have : ys.1 = minM tot := sortedL_unique (ys.2.1.trans (sortL_perm _).symm) ys.2.2 (sortL_sorted _)
  exact ⟨(), v, h', m', q1, q2, q3, q4, by rw [← this]; exact q5⟩
abbrev vioM (rules : List GRule) (facts : List GFact) : List (List Int) := minM (wits rules facts (iota facts.length))
theorem iota_InB (n : Nat) : InB (iota n) n := fun a ha => by
  obtain ⟨k, hk, rfl⟩ := List.mem_map.1 ha
  have := List.mem_range.1 hk
  omega
def intsB (a b : List Int) : Bool := !ltL a b && !ltL b a
def setsB : List (List Int) → List (List Int) → Bool
  | [], [] => true
  | x :: a, y :: b => intsB x y && setsB a b
  | _, _ => false
theorem setsB_len : ∀ {a b : List (List Int)}, a.length ≠ b.length → setsB a b = false
  | [], [], h => absurd rfl h
  | [], _ :: _, _ => rfl
  | _ :: _, [], _ => rfl
  | x :: a, y :: b, h => by simp only [setsB]; rw [setsB_len (by simpa using h)]; simp

theorem Violations_spec (rules : List GRule) (facts : List GFact) (hfl : facts.length ≤ 100) (hru : InRules rules) (hw : ∀ s ∈ (wits rules facts (iota facts.length)), s.length ≤ 3 ∧ ∀ x ∈ s, 0 ≤ x ∧ x < 100) (hwl : (wits rules facts (iota facts.length)).length ≤ 1000000) (hml : (vioM rules facts).length ≤ 20000) : Fun1 Tryz.prog 15 [tSl rRule rules, tSl rFact facts] (tTup [tSlE 24 rI2 (vioM rules facts), tV (.int .i64 0)]) := by
  refine Spec.enter Tryz.func15 rfl rfl fun h0 w0 fr0 => ?_
  refine J_seq ?_
  refine J_region ?_
  refine JL_step rfl rfl rfl (step_assign Sub.rfl) ?_
  refine JL_step rfl rfl rfl (step_assign Sub.rfl) ?_
  refine JL_nil ?_
  refine J_seq ?_
  refine J_seq ?_
  refine J_region ?_
  refine JL_step rfl rfl rfl (step_move Sub.rfl) ?_
  refine JL_step rfl rfl rfl (step_len_sl Tryz.underlying23 Sub.rfl) ?_
  refine JL_step rfl rfl rfl (step_gtr Sub.rfl Sub.rfl) ?_
  refine JL_nil ?_
  refine J_cond Sub.rfl (fun hc1 => ?_) (fun hc1 => ?_)
  · try simp only [decide_eq_true_eq, decide_eq_false_iff_not, Bool.and_eq_true, Bool.or_eq_true, Bool.and_eq_false_iff, Bool.or_eq_false_iff, Bool.not_eq_true', Bool.not_eq_false', Int.not_lt, Int.not_le, Bool.not_true, Bool.not_false] at hc1
    exfalso; omega
  · try simp only [decide_eq_true_eq, decide_eq_false_iff_not, Bool.and_eq_true, Bool.or_eq_true, Bool.and_eq_false_iff, Bool.or_eq_false_iff, Bool.not_eq_true', Bool.not_eq_false', Int.not_lt, Int.not_le, Bool.not_true, Bool.not_false] at hc1
    refine J_skip ?_
    refine J_seq ?_
    refine J_region ?_
    refine JL_step rfl rfl rfl (step_move Sub.rfl) ?_
    refine JL_step rfl rfl rfl (step_move Sub.rfl) ?_
    refine JL_step rfl rfl rfl (step_move Sub.rfl) ?_
    refine JL_step rfl rfl rfl (step_call0 (all_spec _ (by omega)) ⟨Sub.rfl, trivial⟩ Tryz.call38) ?_
    refine JL_step rfl rfl rfl (step_call0 (witnesses_spec _ _ _) ⟨Sub.rfl, Sub.rfl, Sub.rfl, trivial⟩ Tryz.call37) ?_
    refine JL_step rfl rfl rfl (step_call0 (minimal1 (wits rules facts (iota facts.length)) hw hwl 57 _ (witnesses1_spec rules facts (iota facts.length) (iota_InB _) (by simp [iota]; omega) (by omega) hru) Tryz.call57) ⟨Sub.rfl, trivial⟩ Tryz.call36) ?_
    refine JL_step rfl rfl rfl (step_assign Sub.rfl) ?_
    refine JL_nil ?_
    refine J_seq ?_
    refine J_seq ?_
    refine J_region ?_
    refine JL_step rfl rfl rfl (step_move Sub.rfl) ?_
    refine JL_step rfl rfl rfl (step_len_sl Tryz.underlying33 Sub.ofE) ?_
    refine JL_step rfl rfl rfl (step_gtr Sub.rfl Sub.rfl) ?_
    refine JL_nil ?_
    refine J_cond Sub.rfl (fun hc2 => ?_) (fun hc2 => ?_)
    · try simp only [decide_eq_true_eq, decide_eq_false_iff_not, Bool.and_eq_true, Bool.or_eq_true, Bool.and_eq_false_iff, Bool.or_eq_false_iff, Bool.not_eq_true', Bool.not_eq_false', Int.not_lt, Int.not_le, Bool.not_true, Bool.not_false] at hc2
      exfalso; have hml : (minM (wits rules facts (iota facts.length))).length ≤ 20000 := hml; omega
    · try simp only [decide_eq_true_eq, decide_eq_false_iff_not, Bool.and_eq_true, Bool.or_eq_true, Bool.and_eq_false_iff, Bool.or_eq_false_iff, Bool.not_eq_true', Bool.not_eq_false', Int.not_lt, Int.not_le, Bool.not_true, Bool.not_false] at hc2
      refine J_skip ?_
      refine J_seq ?_
      refine J_region ?_
      refine JL_step rfl rfl rfl (step_move Sub.rfl) ?_
      refine JL_step rfl rfl rfl (step_assign Sub.rfl) ?_
      refine JL_step rfl rfl rfl (step_assign Sub.rfl) ?_
      refine JL_nil ?_
      refine J_ret ?_
      refine K_ret2' (rv := .tmp 4) (rv' := .tmp 5) rfl () (Sel.all _) (.tmp Sub.rfl) (.tmp Sub.rfl) (Frz.sub Sub.rfl) (Frz.sub Sub.rfl) Sub.rfl
theorem Ints_spec (a b : List Int) (ha : a.length ≤ 1000000000000) (hb : b.length ≤ 1000000000000) : Fun1 Tryz.prog 21 [tSl rInt a, tSl rInt b] (tV (.bool (intsB a b))) := by
  refine Spec.enter Tryz.func21 rfl rfl fun h0 w0 fr0 => ?_
  refine J_seq ?_
  refine J_region ?_
  refine JL_step rfl rfl rfl (step_assign Sub.rfl) ?_
  refine JL_nil ?_
  refine J_seq ?_
  refine J_region ?_
  refine JL_step rfl rfl rfl (step_move Sub.rfl) ?_
  refine JL_step rfl rfl rfl (step_move Sub.rfl) ?_
  refine JL_step rfl rfl rfl (step_call0 (Less_spec _ _ ha hb) ⟨Sub.rfl, Sub.rfl, trivial⟩ Tryz.call26) ?_
  refine JL_step rfl rfl rfl (step_not Sub.rfl) ?_
  refine JL_step rfl rfl rfl (step_move Sub.rfl) ?_
  refine JL_stepG rfl rfl rfl (Gd.plain Sub.rfl) rfl rfl (fun hw => step_move Sub.rfl) ?_
  refine JL_stepG rfl rfl rfl (Gd.plain Sub.rfl) rfl rfl (fun hw => step_move Sub.rfl) ?_
  refine JL_stepG rfl rfl rfl (Gd.plain Sub.rfl) rfl rfl (fun hw => step_call0 (Less_spec _ _ hb ha) ⟨(Sub.w hw), (Sub.w hw), trivial⟩ Tryz.call26) ?_
  refine JL_stepG rfl rfl rfl (Gd.plain Sub.rfl) rfl rfl (fun hw => step_not (Sub.w hw)) ?_
  refine JL_step rfl rfl rfl (step_pick_and Sub.rfl Sub.rfl) ?_
  refine JL_step rfl rfl rfl (step_assign Sub.rfl) ?_
  refine JL_nil ?_
  refine J_ret ?_
  refine K_ret1 (t := 4) rfl () ?_
  refine Sub.bool ?_
  simp [intsB]
theorem Contains_spec (a b : List Int) (ha : a.length ≤ 1000000000000) (hb : b.length ≤ 1000000000000) : Fun1 Tryz.prog 51 [tSl rInt a, tSl rInt b] (tV (.bool (b.all fun x => a.contains x))) := by
  refine Spec.enter Tryz.func51 rfl rfl fun h0 w0 fr0 => ?_
  refine J_seq ?_
  refine J_region ?_
  refine JL_step rfl rfl rfl (step_assign Sub.rfl) ?_
  refine JL_nil ?_
  refine J_seq ?_
  refine J_seq ?_
  refine J_region ?_
  refine JL_step rfl rfl rfl (step_assign Sub.rfl) ?_
  refine JL_nil ?_
  refine J_block ?_
  refine J_loopL (σ := Nat) (fun i => i ≤ b.length ∧ (b.all fun x => a.contains x) = (b.drop i).all fun x => a.contains x) (fun i => upd (upd (upd env0 0 (tSl rInt a)) 1 (tSl rInt b)) 5 (tV (.int .i64 i))) (fun i => []) (fun i => b.length - i) 0 ⟨by omega, by simp⟩ (SubE.upd Sub.rfl (SubE.upd Sub.rfl (SubE.upd Sub.rfl SubE.any))) (LSub.rfl) ?_
  rintro i ⟨hi, hv⟩
  refine J_seq ?_
  refine J_seq ?_
  refine J_region ?_
  refine JL_step rfl rfl rfl (step_move Sub.rfl) ?_
  refine JL_step rfl rfl rfl (step_move Sub.rfl) ?_
  refine JL_step rfl rfl rfl (step_len_sl Tryz.underlying24 Sub.rfl) ?_
  refine JL_step rfl rfl rfl (step_lss Sub.rfl Sub.rfl) ?_
  refine JL_nil ?_
  refine J_cond Sub.rfl (fun h9 => ?_) (fun h9 => ?_)
  · try simp only [decide_eq_true_eq, decide_eq_false_iff_not, Bool.and_eq_true, Bool.or_eq_true, Bool.and_eq_false_iff, Bool.or_eq_false_iff, Bool.not_eq_true', Bool.not_eq_false', Int.not_lt, Int.not_le, Bool.not_true, Bool.not_false] at h9
    have hlt : i < b.length := by omega
    have hd := dropB hlt
    refine J_skip ?_
    refine J_seq ?_
    refine J_block ?_
    refine J_seq ?_
    refine J_region ?_
    refine JL_step rfl rfl rfl (step_move Sub.rfl) ?_
    refine JL_step rfl rfl rfl (step_move Sub.rfl) ?_
    refine JL_step rfl rfl rfl (step_move Sub.rfl) ?_
    refine JL_step rfl rfl rfl (step_indexAddr_sl  Tryz.underlying24 ty3 Sub.rfl Sub.rfl rfl (gb ?sg1)) ?_
    case sg1 => first | assumption | omega
    refine JL_step rfl rfl rfl (step_load_ptr ty3 Sub.rfl) ?_
    refine JL_step rfl rfl rfl (step_call0 (In_spec _ _ ha) ⟨Sub.rfl, Sub.rfl, trivial⟩ Tryz.call29) ?_
    refine JL_step rfl rfl rfl (step_not Sub.rfl) ?_
    refine JL_nil ?_
    refine J_cond Sub.rfl (fun h18 => ?_) (fun h18 => ?_)
    · try simp only [decide_eq_true_eq, decide_eq_false_iff_not, Bool.and_eq_true, Bool.or_eq_true, Bool.and_eq_false_iff, Bool.or_eq_false_iff, Bool.not_eq_true', Bool.not_eq_false', Int.not_lt, Int.not_le, Bool.not_true, Bool.not_false] at h18
      refine J_seq ?_
      refine J_region ?_
      refine JL_step rfl rfl rfl (step_assign Sub.rfl) ?_
      refine JL_nil ?_
      refine J_ret ?_
      refine K_ret1 (t := 4) rfl () ?_
      refine Sub.bool ?_
      rw [hv, hd, List.all_cons, h18]; simp
    · try simp only [decide_eq_true_eq, decide_eq_false_iff_not, Bool.and_eq_true, Bool.or_eq_true, Bool.and_eq_false_iff, Bool.or_eq_false_iff, Bool.not_eq_true', Bool.not_eq_false', Int.not_lt, Int.not_le, Bool.not_true, Bool.not_false] at h18
      refine J_skip ?_
      refine J_region ?_
      refine JL_step rfl rfl rfl (step_move Sub.rfl) ?_
      refine JL_step rfl rfl rfl (step_add Sub.rfl Sub.rfl ?sg1) ?_
      case sg1 => unfold in64; omega
      refine JL_step rfl rfl rfl (step_assign Sub.rfl) ?_
      refine JL_nil ?_
      refine K_againL (σ := Nat) (s := i) (i + 1) (by first | omega | (dsimp only; omega) | (simp_all; omega)) ?_ (SubE.upd Sub.rfl (SubE.upd Sub.rfl (SubE.upd Sub.rfl SubE.any))) (LSub.rfl)
      refine ⟨by omega, ?_⟩
      rw [hv, hd, List.all_cons, h18]; simp
  · try simp only [decide_eq_true_eq, decide_eq_false_iff_not, Bool.and_eq_true, Bool.or_eq_true, Bool.and_eq_false_iff, Bool.or_eq_false_iff, Bool.not_eq_true', Bool.not_eq_false', Int.not_lt, Int.not_le, Bool.not_true, Bool.not_false] at h9
    refine J_exit ?_
    refine J_seq ?_
    refine J_region ?_
    refine JL_step rfl rfl rfl (step_assign Sub.rfl) ?_
    refine JL_nil ?_
    refine J_ret ?_
    refine K_ret1 (t := 4) rfl () ?_
    refine Sub.bool ?_
    rw [hv, List.drop_of_length_le (by omega)]; rfl
theorem Sets_spec (a b : List (List Int)) (ha : a.length ≤ 1000000000000) (hb : b.length ≤ 1000000000000) (hae : ∀ x ∈ a, x.length ≤ 1000000000000) (hbe : ∀ x ∈ b, x.length ≤ 1000000000000) : Fun1 Tryz.prog 19 [tSl (rSl rInt) a, tSl (rSl rInt) b] (tV (.bool (setsB a b))) := by
  refine Spec.enter Tryz.func19 rfl rfl fun h0 w0 fr0 => ?_
  refine J_seq ?_
  refine J_region ?_
  refine JL_step rfl rfl rfl (step_assign Sub.rfl) ?_
  refine JL_nil ?_
  refine J_seq ?_
  refine J_seq ?_
  refine J_region ?_
  refine JL_step rfl rfl rfl (step_move Sub.rfl) ?_
  refine JL_step rfl rfl rfl (step_len_sl Tryz.underlying33 Sub.rfl) ?_
  refine JL_step rfl rfl rfl (step_move Sub.rfl) ?_
  refine JL_step rfl rfl rfl (step_len_sl Tryz.underlying33 Sub.rfl) ?_
  refine JL_step rfl rfl rfl (step_neq Sub.rfl Sub.rfl) ?_
  refine JL_nil ?_
  refine J_cond Sub.rfl (fun h10 => ?_) (fun h10 => ?_)
  · try simp only [decide_eq_true_eq, decide_eq_false_iff_not, Bool.and_eq_true, Bool.or_eq_true, Bool.and_eq_false_iff, Bool.or_eq_false_iff, Bool.not_eq_true', Bool.not_eq_false', Int.not_lt, Int.not_le, Bool.not_true, Bool.not_false] at h10
    have hne : a.length ≠ b.length := by omega
    refine J_seq ?_
    refine J_region ?_
    refine JL_step rfl rfl rfl (step_assign Sub.rfl) ?_
    refine JL_nil ?_
    refine J_ret ?_
    refine K_ret1 (t := 4) rfl () ?_
    refine Sub.bool ?_
    exact (setsB_len hne).symm ▸ rfl
  · try simp only [decide_eq_true_eq, decide_eq_false_iff_not, Bool.and_eq_true, Bool.or_eq_true, Bool.and_eq_false_iff, Bool.or_eq_false_iff, Bool.not_eq_true', Bool.not_eq_false', Int.not_lt, Int.not_le, Bool.not_true, Bool.not_false] at h10
    have hle : a.length = b.length := by omega
    refine J_skip ?_
    refine J_seq ?_
    refine J_seq ?_
    refine J_region ?_
    refine JL_step rfl rfl rfl (step_assign Sub.rfl) ?_
    refine JL_nil ?_
    refine J_block ?_
    refine J_loopL (σ := Nat) (fun i => i ≤ a.length ∧ setsB a b = setsB (a.drop i) (b.drop i)) (fun i => upd (upd (upd env0 0 (tSl (rSl rInt) a)) 1 (tSl (rSl rInt) b)) 5 (tV (.int .i64 i))) (fun i => []) (fun i => a.length - i) 0 ⟨by omega, by simp⟩ (SubE.upd Sub.rfl (SubE.upd Sub.rfl (SubE.upd Sub.rfl SubE.any))) (LSub.rfl) ?_
    rintro i ⟨hi, hv⟩
    refine J_seq ?_
    refine J_seq ?_
    refine J_region ?_
    refine JL_step rfl rfl rfl (step_move Sub.rfl) ?_
    refine JL_step rfl rfl rfl (step_move Sub.rfl) ?_
    refine JL_step rfl rfl rfl (step_len_sl Tryz.underlying33 Sub.rfl) ?_
    refine JL_step rfl rfl rfl (step_lss Sub.rfl Sub.rfl) ?_
    refine JL_nil ?_
    refine J_cond Sub.rfl (fun h14 => ?_) (fun h14 => ?_)
    · try simp only [decide_eq_true_eq, decide_eq_false_iff_not, Bool.and_eq_true, Bool.or_eq_true, Bool.and_eq_false_iff, Bool.or_eq_false_iff, Bool.not_eq_true', Bool.not_eq_false', Int.not_lt, Int.not_le, Bool.not_true, Bool.not_false] at h14
      have hlt : i < a.length := by omega
      have hlu : i < b.length := by omega
      have hd := dropB hlt
      have he := dropB hlu
      refine J_skip ?_
      refine J_seq ?_
      refine J_block ?_
      refine J_seq ?_
      refine J_draw [⟨0, [0], true⟩, ⟨1, [5], true⟩, ⟨2, [17, 18], true⟩, ⟨3, [19], true⟩, ⟨4, [1], true⟩, ⟨5, [5], true⟩, ⟨6, [21, 22], true⟩, ⟨7, [23], true⟩, ⟨8, [20, 24], true⟩, ⟨9, [25], true⟩, ⟨10, [1, 26], true⟩, ⟨11, [5, 26], true⟩, ⟨12, [26, 27, 28], true⟩, ⟨13, [26, 29], true⟩, ⟨14, [0, 26], true⟩, ⟨15, [5, 26], true⟩, ⟨16, [26, 31, 32], true⟩, ⟨17, [26, 33], true⟩, ⟨18, [26, 30, 34], true⟩, ⟨19, [26, 35], true⟩] rfl (by kernel_rfl) ?_
      refine JM_step rfl rfl rfl rfl (fun _ => step_move Sub.rfl) ?_
      refine JM_step rfl rfl rfl rfl (fun _ => step_move Sub.rfl) ?_
      refine JM_step rfl rfl rfl rfl (fun _ => step_indexAddr_sl  Tryz.underlying33 ty24 Sub.rfl Sub.rfl rfl (gb ?sg1)) ?_
      case sg1 => first | assumption | omega
      refine JM_step rfl rfl rfl rfl (fun _ => step_load_ptr ty24 Sub.rfl) ?_
      refine JM_step rfl rfl rfl rfl (fun _ => step_move Sub.rfl) ?_
      refine JM_step rfl rfl rfl rfl (fun _ => step_move Sub.rfl) ?_
      refine JM_step rfl rfl rfl rfl (fun _ => step_indexAddr_sl  Tryz.underlying33 ty24 Sub.rfl Sub.rfl rfl (gb ?sg1)) ?_
      case sg1 => first | assumption | omega
      refine JM_step rfl rfl rfl rfl (fun _ => step_load_ptr ty24 Sub.rfl) ?_
      refine JM_step rfl rfl rfl rfl (fun _ => step_call0 (Less_spec _ _ (hae _ (nth_mem hlt)) (hbe _ (nth_mem hlu))) ⟨Sub.rfl, Sub.rfl, trivial⟩ Tryz.call26) ?_
      refine JM_step rfl rfl rfl rfl (fun _ => step_move Sub.rfl) ?_
      refine JM_stepG rfl rfl rfl rfl (Gd.plain Sub.rfl) rfl rfl (fun hw _ => step_move Sub.rfl) ?_
      refine JM_stepG rfl rfl rfl rfl (Gd.plain Sub.rfl) rfl rfl (fun hw _ => step_move Sub.rfl) ?_
      refine JM_stepG rfl rfl rfl rfl (Gd.plain Sub.rfl) rfl rfl (fun hw _ => step_indexAddr_sl  Tryz.underlying33 ty24 (Sub.w hw) (Sub.w hw) rfl (gb ?sg1)) ?_
      case sg1 => have hwq := hw; (try simp only [beqB_t, beqB_f, decide_eq_true_eq, decide_eq_false_iff_not, Bool.and_eq_true, Bool.or_eq_true, Bool.and_eq_false_iff, Bool.or_eq_false_iff, Bool.not_eq_true', Bool.not_eq_false', Int.not_lt, Int.not_le, Bool.not_true, Bool.not_false] at hwq); first | assumption | omega
      refine JM_stepG rfl rfl rfl rfl (Gd.plain Sub.rfl) rfl rfl (fun hw _ => step_load_ptr ty24 (Sub.w hw)) ?_
      refine JM_stepG rfl rfl rfl rfl (Gd.plain Sub.rfl) rfl rfl (fun hw _ => step_move Sub.rfl) ?_
      refine JM_stepG rfl rfl rfl rfl (Gd.plain Sub.rfl) rfl rfl (fun hw _ => step_move Sub.rfl) ?_
      refine JM_stepG rfl rfl rfl rfl (Gd.plain Sub.rfl) rfl rfl (fun hw _ => step_indexAddr_sl  Tryz.underlying33 ty24 (Sub.w hw) (Sub.w hw) rfl (gb ?sg1)) ?_
      case sg1 => have hwq := hw; (try simp only [beqB_t, beqB_f, decide_eq_true_eq, decide_eq_false_iff_not, Bool.and_eq_true, Bool.or_eq_true, Bool.and_eq_false_iff, Bool.or_eq_false_iff, Bool.not_eq_true', Bool.not_eq_false', Int.not_lt, Int.not_le, Bool.not_true, Bool.not_false] at hwq); first | assumption | omega
      refine JM_stepG rfl rfl rfl rfl (Gd.plain Sub.rfl) rfl rfl (fun hw _ => step_load_ptr ty24 (Sub.w hw)) ?_
      refine JM_stepG rfl rfl rfl rfl (Gd.plain Sub.rfl) rfl rfl (fun hw _ => step_call0 (Less_spec _ _ (hbe _ (nth_mem hlu)) (hae _ (nth_mem hlt))) ⟨(Sub.w hw), (Sub.w hw), trivial⟩ Tryz.call26) ?_
      refine JM_step rfl rfl rfl rfl (fun _ => step_pick_or Sub.rfl Sub.rfl) ?_
      refine JM_nil ?_
      refine J_cond Sub.rfl (fun h36 => ?_) (fun h36 => ?_)
      · try simp only [decide_eq_true_eq, decide_eq_false_iff_not, Bool.and_eq_true, Bool.or_eq_true, Bool.and_eq_false_iff, Bool.or_eq_false_iff, Bool.not_eq_true', Bool.not_eq_false', Int.not_lt, Int.not_le, Bool.not_true, Bool.not_false] at h36
        refine J_seq ?_
        refine J_region ?_
        refine JL_step rfl rfl rfl (step_assign Sub.rfl) ?_
        refine JL_nil ?_
        refine J_ret ?_
        refine K_ret1 (t := 4) rfl () ?_
        refine Sub.bool ?_
        rw [hv, hd, he]; simp only [setsB, intsB]; rcases h36 with h | h <;> rw [h] <;> simp
      · try simp only [decide_eq_true_eq, decide_eq_false_iff_not, Bool.and_eq_true, Bool.or_eq_true, Bool.and_eq_false_iff, Bool.or_eq_false_iff, Bool.not_eq_true', Bool.not_eq_false', Int.not_lt, Int.not_le, Bool.not_true, Bool.not_false] at h36
        refine J_skip ?_
        refine J_region ?_
        refine JL_step rfl rfl rfl (step_move Sub.rfl) ?_
        refine JL_step rfl rfl rfl (step_add Sub.rfl Sub.rfl ?sg1) ?_
        case sg1 => unfold in64; omega
        refine JL_step rfl rfl rfl (step_assign Sub.rfl) ?_
        refine JL_nil ?_
        refine K_againL (σ := Nat) (s := i) (i + 1) (by first | omega | (dsimp only; omega) | (simp_all; omega)) ?_ (SubE.upd Sub.rfl (SubE.upd Sub.rfl (SubE.upd Sub.rfl SubE.any))) (LSub.rfl)
        refine ⟨by omega, ?_⟩
        rw [hv, hd, he]; simp only [setsB, intsB]; rw [h36.1, h36.2]; rfl
    · try simp only [decide_eq_true_eq, decide_eq_false_iff_not, Bool.and_eq_true, Bool.or_eq_true, Bool.and_eq_false_iff, Bool.or_eq_false_iff, Bool.not_eq_true', Bool.not_eq_false', Int.not_lt, Int.not_le, Bool.not_true, Bool.not_false] at h14
      refine J_exit ?_
      refine J_seq ?_
      refine J_region ?_
      refine JL_step rfl rfl rfl (step_assign Sub.rfl) ?_
      refine JL_nil ?_
      refine J_ret ?_
      refine K_ret1 (t := 4) rfl () ?_
      refine Sub.bool ?_
      rw [hv, List.drop_of_length_le (by omega), List.drop_of_length_le (by omega)]; rfl
end Lg

namespace Lg
open Go Go.Proofs


def colM (f : GFact) (c : Int) : GValue := if c < 0 ∨ (f.Row.length : Int) ≤ c then zValue else nth f.Row c.toNat
/-- What the function offers answers. -/
def offB (facts : List GFact) (d : GRule) (gs : List Bool) (v : GValue) (k : Int) : Bool :=
  decide ((nth facts k.toNat).Table = d.Other) && !nth gs k.toNat && testV v 1 (colM (nth facts k.toNat) d.OtherCol) 0
def findI (p : Int → Bool) : Int → List Int → Int
  | _, [] => -1
  | i, x :: l => if p x then i else findI p (i + 1) l
theorem findI_bd (p : Int → Bool) : ∀ (l : List Int) (i : Int), 0 ≤ i → -1 ≤ findI p i l ∧ findI p i l < i + l.length ∧ (0 ≤ findI p i l ↔ l.any p = true)
  | [], i, h => by simp [findI]; omega
  | x :: l, i, h => by
    have ih := findI_bd p l (i + 1) (by omega)
    simp only [findI, List.length_cons, List.any_cons]
    by_cases hx : p x = true
    · simp [hx]; omega
    · simp only [hx, Bool.false_or]
      simp only [Bool.false_eq_true, if_false]
      refine ⟨ih.1, by have := ih.2.1; omega, ih.2.2⟩

theorem allo_spec (facts : List GFact) (hn : facts.length ≤ 1000000) : Spec (X := Value) Tryz.prog 38 [tSl rFact facts] ([]) (fun v => rV.ty v) (fun v => [own 3 rInt v (iota facts.length)]) := by
  refine Spec.enter Tryz.func38 rfl rfl fun h0 w0 fr0 => ?_
  refine J_seq ?_
  refine J_region ?_
  refine JL_step rfl rfl rfl (step_assign Sub.rfl) ?_
  refine JL_nil ?_
  refine J_seq ?_
  refine J_region ?_
  refine JL_step rfl rfl rfl (step_move Sub.rfl) ?_
  refine JL_step rfl rfl rfl (step_len_sl Tryz.underlying23 Sub.rfl) ?_
  refine JL_stepX rfl rfl rfl (step_make Tryz.underlying24 el3 Sub.rfl Sub.rfl rfl (by omega) (by omega)) fun v => ?_
  refine JL_step rfl rfl rfl (step_assign Sub.rfl) ?_
  refine JL_nil ?_
  refine J_seq ?_
  refine J_seq ?_
  refine J_region ?_
  refine JL_step rfl rfl rfl (step_move Sub.rfl) ?_
  refine JL_step rfl rfl rfl (step_len_own Tryz.underlying24 Sub.rfl (by first | exact Sel.take (Sel.none _) | exact Sel.skip (Sel.take (Sel.none _)) | exact Sel.skip (Sel.skip (Sel.take (Sel.none _))) | exact Sel.skip (Sel.skip (Sel.skip (Sel.take (Sel.none _)))) | exact Sel.skip (Sel.skip (Sel.skip (Sel.skip (Sel.take (Sel.none _))))))) ?_
  refine JL_step rfl rfl rfl (step_move Sub.rfl) ?_
  refine JL_nil ?_
  refine J_block ?_
  refine J_loopL (σ := Nat) (fun i => i ≤ facts.length) (fun i => upd (upd (upd (upd env0 2 (tV (.slice none 0 0))) 3 (rV.ty v)) 9 (tV (.int .i64 facts.length))) 10 (tV (.int .i64 i))) (fun i => [own 3 rInt v (iota i ++ List.replicate (facts.length - i) 0)]) (fun i => facts.length - i) 0 (by omega) (SubE.upd Sub.rfl (SubE.upd (Sub.int (by simp)) (SubE.upd Sub.rfl (SubE.upd Sub.rfl SubE.any)))) (LSub.cons (by first | exact Sel.take (Sel.none _) | exact Sel.skip (Sel.take (Sel.none _)) | exact Sel.skip (Sel.skip (Sel.take (Sel.none _))) | exact Sel.skip (Sel.skip (Sel.skip (Sel.take (Sel.none _)))) | exact Sel.skip (Sel.skip (Sel.skip (Sel.skip (Sel.take (Sel.none _)))))) (own_eq (by simp [iota])) LSub.nil) ?_
  rintro i hi
  refine J_seq ?_
  refine J_region ?_
  refine JL_step rfl rfl rfl (step_lss Sub.rfl Sub.rfl) ?_
  refine JL_nil ?_
  refine J_seq ?_
  refine J_cond Sub.rfl (fun hc1 => ?_) (fun hc1 => ?_)
  · try simp only [decide_eq_true_eq, decide_eq_false_iff_not, Bool.and_eq_true, Bool.or_eq_true, Bool.and_eq_false_iff, Bool.or_eq_false_iff, Bool.not_eq_true', Bool.not_eq_false', Int.not_lt, Int.not_le, Bool.not_true, Bool.not_false] at hc1
    have hlt : i < facts.length := by omega
    refine J_skip ?_
    refine J_seq ?_
    refine J_block ?_
    refine J_seq ?_
    refine J_region ?_
    refine JL_step rfl rfl rfl (step_move Sub.rfl) ?_
    refine JL_step rfl rfl rfl (step_assign Sub.rfl) ?_
    refine JL_nil ?_
    refine J_region ?_
    refine JL_step rfl rfl rfl (step_move Sub.rfl) ?_
    refine JL_step rfl rfl rfl (step_move Sub.rfl) ?_
    refine JL_step rfl rfl rfl (step_move Sub.rfl) ?_
    refine JL_step rfl rfl rfl (step_indexAddr_own  Tryz.underlying24 ty3 Sub.rfl (by first | exact Sel.take (Sel.none _) | exact Sel.skip (Sel.take (Sel.none _)) | exact Sel.skip (Sel.skip (Sel.take (Sel.none _))) | exact Sel.skip (Sel.skip (Sel.skip (Sel.take (Sel.none _)))) | exact Sel.skip (Sel.skip (Sel.skip (Sel.skip (Sel.take (Sel.none _)))))) Sub.rfl rfl ?sg1) ?_
    case sg1 => simp [iota_len]; omega
    refine JL_stepU rfl rfl (step_store_own ty3 Sub.rfl Sub.rfl (by first | exact Sel.take (Sel.none _) | exact Sel.skip (Sel.take (Sel.none _)) | exact Sel.skip (Sel.skip (Sel.take (Sel.none _))) | exact Sel.skip (Sel.skip (Sel.skip (Sel.take (Sel.none _)))) | exact Sel.skip (Sel.skip (Sel.skip (Sel.skip (Sel.take (Sel.none _)))))) ?sg1) fun _ => ?_
    case sg1 => simp [iota_len]; omega
    refine JL_nil ?_
    refine J_region ?_
    refine JL_step rfl rfl rfl (step_add Sub.rfl Sub.rfl ?sg1) ?_
    case sg1 => unfold in64; omega
    refine JL_step rfl rfl rfl (step_move Sub.rfl) ?_
    refine JL_nil ?_
    refine K_againL (σ := Nat) (s := i) (i + 1) (by first | omega | (dsimp only; omega) | (simp_all; omega)) (by omega) (SubE.upd Sub.rfl (SubE.upd Sub.rfl (SubE.upd Sub.rfl (SubE.upd Sub.rfl SubE.any)))) (LSub.cons (by first | exact Sel.take (Sel.none _) | exact Sel.skip (Sel.take (Sel.none _)) | exact Sel.skip (Sel.skip (Sel.take (Sel.none _))) | exact Sel.skip (Sel.skip (Sel.skip (Sel.take (Sel.none _)))) | exact Sel.skip (Sel.skip (Sel.skip (Sel.skip (Sel.take (Sel.none _)))))) (own_eq (set_fill hlt)) LSub.nil)
  · try simp only [decide_eq_true_eq, decide_eq_false_iff_not, Bool.and_eq_true, Bool.or_eq_true, Bool.and_eq_false_iff, Bool.or_eq_false_iff, Bool.not_eq_true', Bool.not_eq_false', Int.not_lt, Int.not_le, Bool.not_true, Bool.not_false] at hc1
    refine J_exit ?_
    refine J_seq ?_
    refine J_region ?_
    refine JL_step rfl rfl rfl (step_move Sub.rfl) ?_
    refine JL_step rfl rfl rfl (step_assign Sub.rfl) ?_
    refine JL_nil ?_
    refine J_ret ?_
    refine K_lsub (L' := [own 3 rInt v (iota facts.length)]) (LSub.cons (by first | exact Sel.take (Sel.none _) | exact Sel.skip (Sel.take (Sel.none _)) | exact Sel.skip (Sel.skip (Sel.take (Sel.none _))) | exact Sel.skip (Sel.skip (Sel.skip (Sel.take (Sel.none _)))) | exact Sel.skip (Sel.skip (Sel.skip (Sel.skip (Sel.take (Sel.none _)))))) (own_eq (by obtain rfl : i = facts.length := (by omega); simp)) LSub.nil) ?_
    refine K_retv (rv := .tmp 2) rfl v (.tmp Sub.rfl) Sub.rfl
theorem column_spec (f : GFact) (c : Int) : Fun1 Tryz.prog 43 [rFact.ty f, tV (.int .i64 c)] (rValue.ty (colM f c)) := by
  refine Spec.enter Tryz.func43 rfl rfl fun h0 w0 fr0 => ?_
  refine J_seq ?_
  refine J_region ?_
  refine JL_step rfl rfl rfl (step_box (R := rFact) Sub.rfl) ?_
  refine JL_stepX rfl rfl rfl (step_alloc (fun w => Tryz.zeroValue60 w) zr60) fun v4 => ?_
  refine JL_nil ?_
  refine J_seq ?_
  refine J_seq ?_
  refine J_region ?_
  refine JL_step rfl rfl rfl (step_move Sub.rfl) ?_
  refine JL_step rfl rfl rfl (step_lss Sub.rfl Sub.rfl) ?_
  refine JL_step rfl rfl rfl (step_move Sub.rfl) ?_
  refine JL_stepG rfl rfl rfl (Gd.plain Sub.rfl) rfl rfl (fun hw => step_move Sub.rfl) ?_
  refine JL_stepG rfl rfl rfl (Gd.plain Sub.rfl) rfl rfl (fun hw => step_fieldAddr so54 Sub.rfl rfl) ?_
  refine JL_stepG rfl rfl rfl (Gd.plain Sub.rfl) rfl rfl (fun hw => step_load_ptr ty52 (Sub.w hw)) ?_
  refine JL_stepG rfl rfl rfl (Gd.plain Sub.rfl) rfl rfl (fun hw => step_len_sl Tryz.underlying52 (Sub.w hw)) ?_
  refine JL_stepG rfl rfl rfl (Gd.plain Sub.rfl) rfl rfl (fun hw => step_geq (Sub.w hw) (Sub.w hw)) ?_
  refine JL_step rfl rfl rfl (step_pick_or Sub.rfl Sub.rfl) ?_
  refine JL_nil ?_
  refine J_cond Sub.rfl (fun h13 => ?_) (fun h13 => ?_)
  · try simp only [decide_eq_true_eq, decide_eq_false_iff_not, Bool.and_eq_true, Bool.or_eq_true, Bool.and_eq_false_iff, Bool.or_eq_false_iff, Bool.not_eq_true', Bool.not_eq_false', Int.not_lt, Int.not_le, Bool.not_true, Bool.not_false] at h13
    refine J_seq ?_
    refine J_region ?_
    refine JL_step rfl rfl rfl (step_build (x := (zValue : GValue)) (zs := [[Value.int .i64 0], [Value.int .i64 0], [Value.string ⟨#[]⟩]]) so60 (fun w => Tryz.zeroValue60 w) trivial ⟨fun _ => rfl, fun _ => rfl, fun _ => rfl, trivial⟩) ?_
    refine JL_stepU rfl rfl (step_store_box ty60 Sub.rfl Sub.rfl (by first | exact Sel.take (Sel.none _) | exact Sel.skip (Sel.take (Sel.none _)) | exact Sel.skip (Sel.skip (Sel.take (Sel.none _))) | exact Sel.skip (Sel.skip (Sel.skip (Sel.take (Sel.none _)))) | exact Sel.skip (Sel.skip (Sel.skip (Sel.skip (Sel.take (Sel.none _))))))) fun _ => ?_
    refine JL_nil ?_
    refine J_ret ?_
    refine K_ret1' (rv := .cell 4 60) rfl () (Sel.all _) (.cell ty60 Sub.rfl (by first | exact Sel.take (Sel.none _) | exact Sel.skip (Sel.take (Sel.none _)) | exact Sel.skip (Sel.skip (Sel.take (Sel.none _))) | exact Sel.skip (Sel.skip (Sel.skip (Sel.take (Sel.none _)))) | exact Sel.skip (Sel.skip (Sel.skip (Sel.skip (Sel.take (Sel.none _)))))) Sub.rfl) (Frz.sub ?_)
    unfold colM; rw [if_pos h13]; exact Sub.rfl
  · try simp only [decide_eq_true_eq, decide_eq_false_iff_not, Bool.and_eq_true, Bool.or_eq_true, Bool.and_eq_false_iff, Bool.or_eq_false_iff, Bool.not_eq_true', Bool.not_eq_false', Int.not_lt, Int.not_le, Bool.not_true, Bool.not_false] at h13
    refine J_skip ?_
    refine J_seq ?_
    refine J_region ?_
    refine JL_step rfl rfl rfl (step_fieldAddr so54 Sub.rfl rfl) ?_
    refine JL_step rfl rfl rfl (step_load_ptr ty52 Sub.rfl) ?_
    refine JL_step rfl rfl rfl (step_move Sub.rfl) ?_
    refine JL_step rfl rfl rfl (step_indexAddr_sl (i := c.toNat) Tryz.underlying52 ty60 Sub.rfl Sub.rfl ?sg1 (gb ?sg2)) ?_
    case sg1 => show c = _; omega
    case sg2 => show c.toNat < f.Row.length; omega
    refine JL_step rfl rfl rfl (step_load_ptr ty60 Sub.rfl) ?_
    refine JL_stepU rfl rfl (step_store_box ty60 Sub.rfl Sub.rfl (by first | exact Sel.take (Sel.none _) | exact Sel.skip (Sel.take (Sel.none _)) | exact Sel.skip (Sel.skip (Sel.take (Sel.none _))) | exact Sel.skip (Sel.skip (Sel.skip (Sel.take (Sel.none _)))) | exact Sel.skip (Sel.skip (Sel.skip (Sel.skip (Sel.take (Sel.none _))))))) fun _ => ?_
    refine JL_nil ?_
    refine J_ret ?_
    refine K_ret1' (rv := .cell 4 60) rfl () (Sel.all _) (.cell ty60 Sub.rfl (by first | exact Sel.take (Sel.none _) | exact Sel.skip (Sel.take (Sel.none _)) | exact Sel.skip (Sel.skip (Sel.take (Sel.none _))) | exact Sel.skip (Sel.skip (Sel.skip (Sel.take (Sel.none _)))) | exact Sel.skip (Sel.skip (Sel.skip (Sel.skip (Sel.take (Sel.none _)))))) Sub.rfl) (Frz.sub ?_)
    have hn : ¬ (c < 0 ∨ (f.Row.length : Int) ≤ c) := by omega
    unfold colM; rw [if_neg hn]; exact Sub.rfl
theorem keep_spec (vg : Value) (gs : List Bool) (k : Int) (hk : 0 ≤ k ∧ k < gs.length) : Spec (X := Unit) Tryz.prog 48 [tV (.int .i64 k), tPtr rV vg] ([own 4 rBool vg gs]) (fun _ => tV (.bool (!nth gs k.toNat))) (fun _ => [own 4 rBool vg gs]) := by
  refine Spec.enter Tryz.func48 rfl rfl fun h0 w0 fr0 => ?_
  refine J_seq ?_
  refine J_region ?_
  refine JL_step rfl rfl rfl (step_assign Sub.rfl) ?_
  refine JL_nil ?_
  refine J_seq ?_
  refine J_region ?_
  refine JL_step rfl rfl rfl (step_load_ptr ty47V Sub.rfl) ?_
  refine JL_step rfl rfl rfl (step_move Sub.rfl) ?_
  refine JL_step rfl rfl rfl (step_indexAddr_own (i := k.toNat) Tryz.underlying47 ty4 Sub.rfl (by first | exact Sel.take (Sel.none _) | exact Sel.skip (Sel.take (Sel.none _)) | exact Sel.skip (Sel.skip (Sel.take (Sel.none _))) | exact Sel.skip (Sel.skip (Sel.skip (Sel.take (Sel.none _)))) | exact Sel.skip (Sel.skip (Sel.skip (Sel.skip (Sel.take (Sel.none _)))))) Sub.rfl ?sg1 ?sg2) ?_
  case sg1 => show k = _; omega
  case sg2 => omega
  refine JL_step rfl rfl rfl (step_load_own ty4 Sub.rfl (by first | exact Sel.take (Sel.none _) | exact Sel.skip (Sel.take (Sel.none _)) | exact Sel.skip (Sel.skip (Sel.take (Sel.none _))) | exact Sel.skip (Sel.skip (Sel.skip (Sel.take (Sel.none _)))) | exact Sel.skip (Sel.skip (Sel.skip (Sel.skip (Sel.take (Sel.none _)))))) (gb ?sg1)) ?_
  case sg1 => first | assumption | omega
  refine JL_step rfl rfl rfl (step_not Sub.rfl) ?_
  refine JL_step rfl rfl rfl (step_assign Sub.rfl) ?_
  refine JL_nil ?_
  refine J_ret ?_
  exact K_retv (rv := .tmp 3) rfl () (.tmp Sub.rfl) Sub.rfl
theorem offers_spec (facts : List GFact) (d : GRule) (vg : Value) (gs : List Bool) (v : GValue) (k : Int) (hk : 0 ≤ k ∧ k < facts.length) (hgl : gs.length = facts.length) : Spec (X := Unit) Tryz.prog 44 [tV (.int .i64 k), tPtr (rSl rFact) facts, tPtr rRule d, tPtr rV vg, tPtr rValue v, tPtr rV (.func (.func 43) #[] #[])] ([own 4 rBool vg gs]) (fun _ => tV (.bool (offB facts d gs v k))) (fun _ => [own 4 rBool vg gs]) := by
  refine Spec.enter Tryz.func44 rfl rfl fun h0 w0 fr0 => ?_
  refine J_seq ?_
  refine J_region ?_
  refine JL_step rfl rfl rfl (step_assign Sub.rfl) ?_
  refine JL_nil ?_
  refine J_seq ?_
  refine J_draw [⟨0, [1], true⟩, ⟨1, [0], true⟩, ⟨2, [8, 9], true⟩, ⟨3, [10], true⟩, ⟨4, [11], true⟩, ⟨5, [2], true⟩, ⟨6, [13], true⟩, ⟨7, [12, 14], true⟩, ⟨8, [15], true⟩, ⟨9, [3, 16], true⟩, ⟨10, [0, 16], true⟩, ⟨11, [16, 17, 18], false⟩, ⟨12, [16, 19], false⟩, ⟨13, [16, 20], true⟩, ⟨14, [16, 21], true⟩, ⟨15, [22], true⟩, ⟨16, [4, 23], true⟩, ⟨17, [5, 23], true⟩, ⟨18, [1, 23], true⟩, ⟨19, [0, 23], true⟩, ⟨20, [23, 26, 27], true⟩, ⟨21, [23, 28], true⟩, ⟨22, [2, 23], true⟩, ⟨23, [23, 30], true⟩, ⟨24, [23, 25, 29, 31], true⟩, ⟨25, [23, 24, 32], true⟩, ⟨26, [23, 33], true⟩, ⟨27, [34], true⟩] rfl (by kernel_rfl) ?_
  refine JM_step rfl rfl rfl rfl (fun _ => step_load_ptr ty23 Sub.rfl) ?_
  refine JM_step rfl rfl rfl rfl (fun _ => step_move Sub.rfl) ?_
  refine JM_step rfl rfl rfl rfl (fun _ => step_indexAddr_sl (i := k.toNat) Tryz.underlying23 ty54 Sub.rfl Sub.rfl ?sg1 (gb ?sg2)) ?_
  case sg1 => show k = _; omega
  case sg2 => omega
  refine JM_step rfl rfl rfl rfl (fun _ => step_fieldAddr so54 Sub.rfl rfl) ?_
  refine JM_step rfl rfl rfl rfl (fun _ => step_load_ptr ty3 Sub.rfl) ?_
  refine JM_step rfl rfl rfl rfl (fun _ => step_fieldAddr so32 Sub.rfl rfl) ?_
  refine JM_step rfl rfl rfl rfl (fun _ => step_load_ptr ty3 Sub.rfl) ?_
  refine JM_step rfl rfl rfl rfl (fun _ => step_eql Sub.rfl Sub.rfl) ?_
  refine JM_step rfl rfl rfl rfl (fun _ => step_move Sub.rfl) ?_
  refine JM_stepG rfl rfl rfl rfl (Gd.plain Sub.rfl) rfl rfl (fun hw _ => step_load_ptr ty47V Sub.rfl) ?_
  refine JM_stepG rfl rfl rfl rfl (Gd.plain Sub.rfl) rfl rfl (fun hw _ => step_move Sub.rfl) ?_
  refine JM_lookG rfl rfl rfl rfl (Gd.plain Sub.rfl) rfl rfl (fun hw => step_indexAddr_own (i := k.toNat) Tryz.underlying47 ty4 (Sub.w hw) (by first | exact Sel.take (Sel.none _) | exact Sel.skip (Sel.take (Sel.none _)) | exact Sel.skip (Sel.skip (Sel.take (Sel.none _))) | exact Sel.skip (Sel.skip (Sel.skip (Sel.take (Sel.none _)))) | exact Sel.skip (Sel.skip (Sel.skip (Sel.skip (Sel.take (Sel.none _)))))) (Sub.w hw) ?sg1 ?sg2) ?_
  case sg1 => have hwq := hw; (try simp only [beqB_t, beqB_f, decide_eq_true_eq, decide_eq_false_iff_not, Bool.and_eq_true, Bool.or_eq_true, Bool.and_eq_false_iff, Bool.or_eq_false_iff, Bool.not_eq_true', Bool.not_eq_false', Int.not_lt, Int.not_le, Bool.not_true, Bool.not_false] at hwq); show k = _; omega
  case sg2 => have hwq := hw; (try simp only [beqB_t, beqB_f, decide_eq_true_eq, decide_eq_false_iff_not, Bool.and_eq_true, Bool.or_eq_true, Bool.and_eq_false_iff, Bool.or_eq_false_iff, Bool.not_eq_true', Bool.not_eq_false', Int.not_lt, Int.not_le, Bool.not_true, Bool.not_false] at hwq); omega
  refine JM_lookG rfl rfl rfl rfl (Gd.plain Sub.rfl) rfl rfl (fun hw => step_load_own ty4 (Sub.w hw) (by first | exact Sel.take (Sel.none _) | exact Sel.skip (Sel.take (Sel.none _)) | exact Sel.skip (Sel.skip (Sel.take (Sel.none _))) | exact Sel.skip (Sel.skip (Sel.skip (Sel.take (Sel.none _)))) | exact Sel.skip (Sel.skip (Sel.skip (Sel.skip (Sel.take (Sel.none _)))))) (gb ?sg1)) ?_
  case sg1 => have hwq := hw; (try simp only [beqB_t, beqB_f, decide_eq_true_eq, decide_eq_false_iff_not, Bool.and_eq_true, Bool.or_eq_true, Bool.and_eq_false_iff, Bool.or_eq_false_iff, Bool.not_eq_true', Bool.not_eq_false', Int.not_lt, Int.not_le, Bool.not_true, Bool.not_false] at hwq); first | assumption | omega
  refine JM_stepG rfl rfl rfl rfl (Gd.plain Sub.rfl) rfl rfl (fun hw _ => step_not (Sub.w hw)) ?_
  refine JM_step rfl rfl rfl rfl (fun _ => step_pick_and Sub.rfl Sub.rfl) ?_
  refine JM_step rfl rfl rfl rfl (fun _ => step_move Sub.rfl) ?_
  refine JM_stepG rfl rfl rfl rfl (Gd.plain Sub.rfl) rfl rfl (fun hw _ => step_load_ptr ty60 Sub.rfl) ?_
  refine JM_stepG rfl rfl rfl rfl (Gd.plain Sub.rfl) rfl rfl (fun hw _ => step_load_ptr ty75 Sub.rfl) ?_
  refine JM_stepG rfl rfl rfl rfl (Gd.plain Sub.rfl) rfl rfl (fun hw _ => step_load_ptr ty23 Sub.rfl) ?_
  refine JM_stepG rfl rfl rfl rfl (Gd.plain Sub.rfl) rfl rfl (fun hw _ => step_move Sub.rfl) ?_
  refine JM_stepG rfl rfl rfl rfl (Gd.plain Sub.rfl) rfl rfl (fun hw _ => step_indexAddr_sl (i := k.toNat) Tryz.underlying23 ty54 (Sub.w hw) (Sub.w hw) ?sg1 (gb ?sg2)) ?_
  case sg1 => have hwq := hw; (try simp only [beqB_t, beqB_f, decide_eq_true_eq, decide_eq_false_iff_not, Bool.and_eq_true, Bool.or_eq_true, Bool.and_eq_false_iff, Bool.or_eq_false_iff, Bool.not_eq_true', Bool.not_eq_false', Int.not_lt, Int.not_le, Bool.not_true, Bool.not_false] at hwq); show k = _; omega
  case sg2 => have hwq := hw; (try simp only [beqB_t, beqB_f, decide_eq_true_eq, decide_eq_false_iff_not, Bool.and_eq_true, Bool.or_eq_true, Bool.and_eq_false_iff, Bool.or_eq_false_iff, Bool.not_eq_true', Bool.not_eq_false', Int.not_lt, Int.not_le, Bool.not_true, Bool.not_false] at hwq); omega
  refine JM_stepG rfl rfl rfl rfl (Gd.plain Sub.rfl) rfl rfl (fun hw _ => step_load_ptr ty54 (Sub.w hw)) ?_
  refine JM_stepG rfl rfl rfl rfl (Gd.plain Sub.rfl) rfl rfl (fun hw _ => step_fieldAddr so32 Sub.rfl rfl) ?_
  refine JM_stepG rfl rfl rfl rfl (Gd.plain Sub.rfl) rfl rfl (fun hw _ => step_load_ptr ty3 (Sub.w hw)) ?_
  refine JM_stepG rfl rfl rfl rfl (Gd.plain Sub.rfl) rfl rfl (fun hw _ => step_callv0 (aT := [_, _]) (Sub.trans (Sub.w hw) (Sub.trans Sub.ofRV Sub.clo0)) (column_spec _ _) ⟨(Sub.w hw), (Sub.w hw), trivial⟩ Tryz.call43) ?_
  refine JM_stepG rfl rfl rfl rfl (Gd.plain Sub.rfl) rfl rfl (fun hw _ => step_call0 (Test_spec _ _ _ _) ⟨(Sub.w hw), Sub.rfl, (Sub.w hw), Sub.rfl, trivial⟩ Tryz.call45) ?_
  refine JM_step rfl rfl rfl rfl (fun _ => step_pick_and Sub.rfl Sub.rfl) ?_
  refine JM_step rfl rfl rfl rfl (fun _ => step_assign Sub.rfl) ?_
  refine JM_nil ?_
  refine J_ret ?_
  exact K_retv (rv := .tmp 7) rfl () (.tmp Sub.rfl) Sub.rfl
theorem IndexFunc_spec (l : List Int) (hl : l.length ≤ 1000000000000) (gi : Nat) (As : List Ty) (B : SP) (p : Int → Bool) (hp : ∀ x ∈ l, Spec (X := Unit) Tryz.prog gi ([tV (.int .i64 x)] ++ As) [B] (fun _ => tV (.bool (p x))) (fun _ => [B])) (he : ∀ args w, (callFunc gi args).run Tryz.prog w = .ok (.enter gi args) w) : Spec (X := Unit) Tryz.prog 67 [tSl rInt l, tClo gi As] ([B]) (fun _ => tV (.int .i64 (findI p 0 l))) (fun _ => [B]) := by
  refine Spec.enter Tryz.func67 rfl rfl fun h0 w0 fr0 => ?_
  refine J_seq ?_
  refine J_region ?_
  refine JL_step rfl rfl rfl (step_assign Sub.rfl) ?_
  refine JL_nil ?_
  refine J_seq ?_
  refine J_seq ?_
  refine J_region ?_
  refine JL_step rfl rfl rfl (step_move Sub.rfl) ?_
  refine JL_step rfl rfl rfl (step_len_sl Tryz.underlying24 Sub.rfl) ?_
  refine JL_step rfl rfl rfl (step_move Sub.rfl) ?_
  refine JL_nil ?_
  refine J_block ?_
  refine J_loopL (σ := Nat) (fun i => i ≤ l.length ∧ findI p 0 l = findI p i (l.drop i)) (fun i => upd (upd (upd (upd env0 0 (tSl rInt l)) 1 (tClo gi As)) 7 (tV (.int .i64 l.length))) 8 (tV (.int .i64 i))) (fun i => [B]) (fun i => l.length - i) 0 ⟨by omega, by simp⟩ (SubE.upd Sub.rfl (SubE.upd Sub.rfl (SubE.upd Sub.rfl (SubE.upd Sub.rfl SubE.any)))) (LSub.rfl) ?_
  rintro i ⟨hi, hv⟩
  refine J_seq ?_
  refine J_region ?_
  refine JL_step rfl rfl rfl (step_lss Sub.rfl Sub.rfl) ?_
  refine JL_nil ?_
  refine J_seq ?_
  refine J_cond Sub.rfl (fun h9 => ?_) (fun h9 => ?_)
  · try simp only [decide_eq_true_eq, decide_eq_false_iff_not, Bool.and_eq_true, Bool.or_eq_true, Bool.and_eq_false_iff, Bool.or_eq_false_iff, Bool.not_eq_true', Bool.not_eq_false', Int.not_lt, Int.not_le, Bool.not_true, Bool.not_false] at h9
    have hlt : i < l.length := by omega
    have hd := dropB hlt
    refine J_skip ?_
    refine J_seq ?_
    refine J_block ?_
    refine J_seq ?_
    refine J_region ?_
    refine JL_step rfl rfl rfl (step_move Sub.rfl) ?_
    refine JL_step rfl rfl rfl (step_assign Sub.rfl) ?_
    refine JL_nil ?_
    refine J_seq ?_
    refine J_region ?_
    refine JL_step rfl rfl rfl (step_move Sub.rfl) ?_
    refine JL_step rfl rfl rfl (step_move Sub.rfl) ?_
    refine JL_step rfl rfl rfl (step_move Sub.rfl) ?_
    refine JL_step rfl rfl rfl (step_indexAddr_sl  Tryz.underlying24 ty3 Sub.rfl Sub.rfl rfl (gb ?sg1)) ?_
    case sg1 => first | assumption | omega
    refine JL_step rfl rfl rfl (step_load_ptr ty3 Sub.rfl) ?_
    refine JL_stepX rfl rfl rfl (step_callv (aT := [_]) Sub.rfl (Sel.all _) (hp _ (nth_mem hlt)) ⟨Sub.rfl, trivial⟩ he) fun v16 => ?_
    refine JL_nil ?_
    refine J_cond Sub.rfl (fun h16 => ?_) (fun h16 => ?_)
    · try simp only [decide_eq_true_eq, decide_eq_false_iff_not, Bool.and_eq_true, Bool.or_eq_true, Bool.and_eq_false_iff, Bool.or_eq_false_iff, Bool.not_eq_true', Bool.not_eq_false', Int.not_lt, Int.not_le, Bool.not_true, Bool.not_false] at h16
      refine J_seq ?_
      refine J_region ?_
      refine JL_step rfl rfl rfl (step_move Sub.rfl) ?_
      refine JL_step rfl rfl rfl (step_assign Sub.rfl) ?_
      refine JL_nil ?_
      refine J_ret ?_
      refine K_retv (rv := .tmp 4) rfl () (.tmp Sub.rfl) (Sub.int ?_)
      rw [hv, hd]; simp only [findI]; rw [if_pos h16]
    · try simp only [decide_eq_true_eq, decide_eq_false_iff_not, Bool.and_eq_true, Bool.or_eq_true, Bool.and_eq_false_iff, Bool.or_eq_false_iff, Bool.not_eq_true', Bool.not_eq_false', Int.not_lt, Int.not_le, Bool.not_true, Bool.not_false] at h16
      refine J_skip ?_
      refine J_region ?_
      refine JL_step rfl rfl rfl (step_add Sub.rfl Sub.rfl ?sg1) ?_
      case sg1 => unfold in64; omega
      refine JL_step rfl rfl rfl (step_move Sub.rfl) ?_
      refine JL_nil ?_
      refine K_againL (σ := Nat) (s := i) (i + 1) (by first | omega | (dsimp only; omega) | (simp_all; omega)) ?_ (SubE.upd Sub.rfl (SubE.upd Sub.rfl (SubE.upd Sub.rfl (SubE.upd Sub.rfl SubE.any)))) (LSub.rfl)
      refine ⟨by omega, ?_⟩
      rw [hv, hd]; simp only [findI]; rw [if_neg (by simp [h16])]; simp
  · try simp only [decide_eq_true_eq, decide_eq_false_iff_not, Bool.and_eq_true, Bool.or_eq_true, Bool.and_eq_false_iff, Bool.or_eq_false_iff, Bool.not_eq_true', Bool.not_eq_false', Int.not_lt, Int.not_le, Bool.not_true, Bool.not_false] at h9
    refine J_exit ?_
    refine J_seq ?_
    refine J_region ?_
    refine JL_step rfl rfl rfl (step_assign Sub.rfl) ?_
    refine JL_nil ?_
    refine J_ret ?_
    refine K_retv (rv := .tmp 4) rfl () (.tmp Sub.rfl) (Sub.int ?_)
    rw [hv, List.drop_of_length_le (by omega)]; rfl
theorem ContainsFunc_spec (l : List Int) (hl : l.length ≤ 1000000000000) (gi : Nat) (As : List Ty) (B : SP) (p : Int → Bool) (hp : ∀ x ∈ l, Spec (X := Unit) Tryz.prog gi ([tV (.int .i64 x)] ++ As) [B] (fun _ => tV (.bool (p x))) (fun _ => [B])) (he : ∀ args w, (callFunc gi args).run Tryz.prog w = .ok (.enter gi args) w) : Spec (X := Unit) Tryz.prog 46 [tSl rInt l, tClo gi As] ([B]) (fun _ => tV (.bool (l.any p))) (fun _ => [B]) := by
  refine Spec.enter Tryz.func46 rfl rfl fun h0 w0 fr0 => ?_
  refine J_seq ?_
  refine J_region ?_
  refine JL_step rfl rfl rfl (step_assign Sub.rfl) ?_
  refine JL_nil ?_
  refine J_seq ?_
  refine J_region ?_
  refine JL_step rfl rfl rfl (step_move Sub.rfl) ?_
  refine JL_step rfl rfl rfl (step_move Sub.rfl) ?_
  refine JL_stepX rfl rfl rfl (step_call (Sel.all _) (IndexFunc_spec l hl gi As B p hp he) ⟨Sub.rfl, Sub.rfl, trivial⟩ Tryz.call67) fun v7 => ?_
  refine JL_step rfl rfl rfl (step_geq Sub.rfl Sub.rfl) ?_
  refine JL_step rfl rfl rfl (step_assign Sub.rfl) ?_
  refine JL_nil ?_
  refine J_ret ?_
  refine K_retv (rv := .tmp 4) rfl () (.tmp Sub.rfl) (Sub.bool ?_)
  have hq := (findI_bd p l 0 (by omega)).2.2
  by_cases ha : l.any p = true
  · rw [ha]; simp; exact hq.2 ha
  · simp only [Bool.not_eq_true] at ha; rw [ha]; simp; have : ¬ 0 ≤ findI p 0 l := (fun h => by rw [hq.1 h] at ha; cases ha)
    omega
end Lg

namespace Lg
open Go Go.Proofs


theorem findI_split (p : Int → Bool) : ∀ (l : List Int) (i : Int), 0 ≤ i → (findI p i l = -1 ∧ ∀ x ∈ l, p x = false) ∨ ∃ k : Nat, k < l.length ∧ findI p i l = i + k ∧ p (nth l k) = true ∧ ∀ x ∈ l.take k, p x = false
  | [], i, h => .inl ⟨rfl, by simp⟩
  | x :: l, i, h => by
    by_cases hx : p x = true
    · refine .inr ⟨0, by simp, by simp [findI, hx], hx, by simp⟩
    · have hx' : p x = false := by simpa using hx
      rcases findI_split p l (i + 1) (by omega) with ⟨h1, h2⟩ | ⟨k, h1, h2, h3, h4⟩
      · refine .inl ⟨by simp [findI, hx', h1], ?_⟩
        intro y hy
        rcases List.mem_cons.1 hy with rfl | hy
        · exact hx'
        · exact h2 y hy
      · refine .inr ⟨k + 1, by simp; omega, ?_, h3, ?_⟩
        · simp only [findI, hx', Bool.false_eq_true, if_false, h2]; omega
        · intro y hy
          rw [List.take_succ_cons] at hy
          rcases List.mem_cons.1 hy with rfl | hy
          · exact hx'
          · exact h4 y hy
abbrev delL (p : Int → Bool) (l : List Int) : List Int := l.filter fun x => !p x
theorem delL_all {p : Int → Bool} {l : List Int} (h : ∀ x ∈ l, p x = false) : delL p l = l := List.filter_eq_self.2 fun x hx => by simp [h x hx]
theorem delL_succ {p : Int → Bool} {l : List Int} {j : Nat} (h : j < l.length) : delL p (l.take (j + 1)) = delL p (l.take j) ++ if p (nth l j) = true then [] else [nth l j] := by
  rw [takeB h]
  simp only [delL, List.filter_append]
  by_cases hp : p (nth l j) = true <;> simp [hp]
def dInv (p : Int → Bool) (xs zs : List Int) (i j : Nat) : Prop := j ≤ xs.length ∧ i < j ∧ zs.length = xs.length ∧ zs.take i = delL p (xs.take j) ∧ zs.drop j = xs.drop j
theorem dInv_nth {p : Int → Bool} {xs zs : List Int} {i j : Nat} (h : dInv p xs zs i j) (hj : j < xs.length) : nth zs j = nth xs j := by
  have h1 := h.2.2.2.2
  rw [dropB (show j < zs.length by rw [h.2.2.1]; exact hj), dropB hj] at h1
  exact (List.cons.inj h1).1
theorem dInv_skip {p : Int → Bool} {xs zs : List Int} {i j : Nat} (h : dInv p xs zs i j) (hj : j < xs.length) (hp : p (nth xs j) = true) : dInv p xs zs i (j + 1) := by
  obtain ⟨h1, h2, h3, h4, h5⟩ := h
  refine ⟨by omega, by omega, h3, by rw [delL_succ hj, if_pos hp, List.append_nil]; exact h4, ?_⟩
  rw [dropB (show j < zs.length by omega), dropB hj] at h5
  exact (List.cons.inj h5).2
theorem dInv_put {p : Int → Bool} {xs zs : List Int} {i j : Nat} (h : dInv p xs zs i j) (hj : j < xs.length) (hp : ¬ p (nth xs j) = true) : dInv p xs (zs.set i (nth xs j)) (i + 1) (j + 1) := by
  obtain ⟨h1, h2, h3, h4, h5⟩ := h
  refine ⟨by omega, by omega, by simp [h3], ?_, ?_⟩
  · rw [delL_succ hj, if_neg hp, ← h4]
    have : i < zs.length := by omega
    have hl2 : (zs.take i).length = i := by simp; omega
    rw [List.take_set, takeB this, List.set_append, if_neg (by omega), hl2, Nat.sub_self]
    rfl
  · rw [List.drop_set_of_lt (by omega)]
    rw [dropB (show j < zs.length by omega), dropB hj] at h5
    exact (List.cons.inj h5).2
theorem dInv_start {p : Int → Bool} {xs : List Int} {k : Nat} (hk : k < xs.length) (hp : p (nth xs k) = true) (ha : ∀ x ∈ xs.take k, p x = false) : dInv p xs xs k (k + 1) := by
  refine ⟨by omega, by omega, rfl, ?_, rfl⟩
  rw [delL_succ hk, if_pos hp, List.append_nil, delL_all ha]

theorem IndexFunco_spec (v : Value) (l : List Int) (hl : l.length ≤ 1000000) (gi : Nat) (As : List Ty) (B : SP) (p : Int → Bool) (hp : ∀ x ∈ l, Spec (X := Unit) Tryz.prog gi ([tV (.int .i64 x)] ++ As) [B] (fun _ => tV (.bool (p x))) (fun _ => [B])) (he : ∀ args w, (callFunc gi args).run Tryz.prog w = .ok (.enter gi args) w) : Spec (X := Unit) Tryz.prog 67 [rV.ty v, tClo gi As] ([own 3 rInt v l, B]) (fun _ => tV (.int .i64 (findI p 0 l))) (fun _ => [own 3 rInt v l, B]) := by
  refine Spec.enter Tryz.func67 rfl rfl fun h0 w0 fr0 => ?_
  refine J_seq ?_
  refine J_region ?_
  refine JL_step rfl rfl rfl (step_assign Sub.rfl) ?_
  refine JL_nil ?_
  refine J_seq ?_
  refine J_seq ?_
  refine J_region ?_
  refine JL_step rfl rfl rfl (step_move Sub.rfl) ?_
  refine JL_step rfl rfl rfl (step_len_own Tryz.underlying24 Sub.rfl (by first | exact Sel.take (Sel.none _) | exact Sel.skip (Sel.take (Sel.none _)) | exact Sel.skip (Sel.skip (Sel.take (Sel.none _))) | exact Sel.skip (Sel.skip (Sel.skip (Sel.take (Sel.none _)))) | exact Sel.skip (Sel.skip (Sel.skip (Sel.skip (Sel.take (Sel.none _))))))) ?_
  refine JL_step rfl rfl rfl (step_move Sub.rfl) ?_
  refine JL_nil ?_
  refine J_block ?_
  refine J_loopL (σ := Nat) (fun i => i ≤ l.length ∧ findI p 0 l = findI p i (l.drop i)) (fun i => upd (upd (upd (upd env0 0 (rV.ty v)) 1 (tClo gi As)) 7 (tV (.int .i64 l.length))) 8 (tV (.int .i64 i))) (fun i => [own 3 rInt v l, B]) (fun i => l.length - i) 0 ⟨by omega, by simp⟩ (SubE.upd Sub.rfl (SubE.upd Sub.rfl (SubE.upd Sub.rfl (SubE.upd Sub.rfl SubE.any)))) (LSub.rfl) ?_
  rintro i ⟨hi, hv⟩
  refine J_seq ?_
  refine J_region ?_
  refine JL_step rfl rfl rfl (step_lss Sub.rfl Sub.rfl) ?_
  refine JL_nil ?_
  refine J_seq ?_
  refine J_cond Sub.rfl (fun h9 => ?_) (fun h9 => ?_)
  · try simp only [decide_eq_true_eq, decide_eq_false_iff_not, Bool.and_eq_true, Bool.or_eq_true, Bool.and_eq_false_iff, Bool.or_eq_false_iff, Bool.not_eq_true', Bool.not_eq_false', Int.not_lt, Int.not_le, Bool.not_true, Bool.not_false] at h9
    have hlt : i < l.length := by omega
    have hd := dropB hlt
    refine J_skip ?_
    refine J_seq ?_
    refine J_block ?_
    refine J_seq ?_
    refine J_region ?_
    refine JL_step rfl rfl rfl (step_move Sub.rfl) ?_
    refine JL_step rfl rfl rfl (step_assign Sub.rfl) ?_
    refine JL_nil ?_
    refine J_seq ?_
    refine J_region ?_
    refine JL_step rfl rfl rfl (step_move Sub.rfl) ?_
    refine JL_step rfl rfl rfl (step_move Sub.rfl) ?_
    refine JL_step rfl rfl rfl (step_move Sub.rfl) ?_
    refine JL_step rfl rfl rfl (step_indexAddr_own  Tryz.underlying24 ty3 Sub.rfl (by first | exact Sel.take (Sel.none _) | exact Sel.skip (Sel.take (Sel.none _)) | exact Sel.skip (Sel.skip (Sel.take (Sel.none _))) | exact Sel.skip (Sel.skip (Sel.skip (Sel.take (Sel.none _)))) | exact Sel.skip (Sel.skip (Sel.skip (Sel.skip (Sel.take (Sel.none _)))))) Sub.rfl rfl ?sg1) ?_
    case sg1 => first | assumption | omega
    refine JL_step rfl rfl rfl (step_load_own ty3 Sub.rfl (by first | exact Sel.take (Sel.none _) | exact Sel.skip (Sel.take (Sel.none _)) | exact Sel.skip (Sel.skip (Sel.take (Sel.none _))) | exact Sel.skip (Sel.skip (Sel.skip (Sel.take (Sel.none _)))) | exact Sel.skip (Sel.skip (Sel.skip (Sel.skip (Sel.take (Sel.none _)))))) (gb ?sg1)) ?_
    case sg1 => first | assumption | omega
    refine JL_stepX rfl rfl rfl (step_callv (aT := [_]) Sub.rfl (Sel.skip (Sel.take (Sel.none _))) (hp _ (nth_mem hlt)) ⟨Sub.rfl, trivial⟩ he) fun v16 => ?_
    refine JL_nil ?_
    refine J_cond Sub.rfl (fun h16 => ?_) (fun h16 => ?_)
    · try simp only [decide_eq_true_eq, decide_eq_false_iff_not, Bool.and_eq_true, Bool.or_eq_true, Bool.and_eq_false_iff, Bool.or_eq_false_iff, Bool.not_eq_true', Bool.not_eq_false', Int.not_lt, Int.not_le, Bool.not_true, Bool.not_false] at h16
      refine J_seq ?_
      refine J_region ?_
      refine JL_step rfl rfl rfl (step_move Sub.rfl) ?_
      refine JL_step rfl rfl rfl (step_assign Sub.rfl) ?_
      refine JL_nil ?_
      refine J_ret ?_
      refine K_lsub (L' := [own 3 rInt v l, B]) (LSub.cons (by first | exact Sel.take (Sel.none _) | exact Sel.skip (Sel.take (Sel.none _)) | exact Sel.skip (Sel.skip (Sel.take (Sel.none _))) | exact Sel.skip (Sel.skip (Sel.skip (Sel.take (Sel.none _)))) | exact Sel.skip (Sel.skip (Sel.skip (Sel.skip (Sel.take (Sel.none _)))))) (SPs.rfl) (LSub.cons (by first | exact Sel.take (Sel.none _) | exact Sel.skip (Sel.take (Sel.none _)) | exact Sel.skip (Sel.skip (Sel.take (Sel.none _))) | exact Sel.skip (Sel.skip (Sel.skip (Sel.take (Sel.none _)))) | exact Sel.skip (Sel.skip (Sel.skip (Sel.skip (Sel.take (Sel.none _)))))) (SPs.rfl) (LSub.nil))) ?_
      refine K_retv (rv := .tmp 4) rfl () (.tmp Sub.rfl) (Sub.int ?_)
      rw [hv, hd]; simp only [findI]; rw [if_pos h16]
    · try simp only [decide_eq_true_eq, decide_eq_false_iff_not, Bool.and_eq_true, Bool.or_eq_true, Bool.and_eq_false_iff, Bool.or_eq_false_iff, Bool.not_eq_true', Bool.not_eq_false', Int.not_lt, Int.not_le, Bool.not_true, Bool.not_false] at h16
      refine J_skip ?_
      refine J_region ?_
      refine JL_step rfl rfl rfl (step_add Sub.rfl Sub.rfl ?sg1) ?_
      case sg1 => unfold in64; omega
      refine JL_step rfl rfl rfl (step_move Sub.rfl) ?_
      refine JL_nil ?_
      refine K_againL (σ := Nat) (s := i) (i + 1) (by first | omega | (dsimp only; omega) | (simp_all; omega)) ?_ (SubE.upd Sub.rfl (SubE.upd Sub.rfl (SubE.upd Sub.rfl (SubE.upd Sub.rfl SubE.any)))) (LSub.cons (by first | exact Sel.take (Sel.none _) | exact Sel.skip (Sel.take (Sel.none _)) | exact Sel.skip (Sel.skip (Sel.take (Sel.none _))) | exact Sel.skip (Sel.skip (Sel.skip (Sel.take (Sel.none _)))) | exact Sel.skip (Sel.skip (Sel.skip (Sel.skip (Sel.take (Sel.none _)))))) (SPs.rfl) (LSub.cons (by first | exact Sel.take (Sel.none _) | exact Sel.skip (Sel.take (Sel.none _)) | exact Sel.skip (Sel.skip (Sel.take (Sel.none _))) | exact Sel.skip (Sel.skip (Sel.skip (Sel.take (Sel.none _)))) | exact Sel.skip (Sel.skip (Sel.skip (Sel.skip (Sel.take (Sel.none _)))))) (SPs.rfl) (LSub.nil)))
      refine ⟨by omega, ?_⟩
      rw [hv, hd]; simp only [findI]; rw [if_neg (by simp [h16])]; simp
  · try simp only [decide_eq_true_eq, decide_eq_false_iff_not, Bool.and_eq_true, Bool.or_eq_true, Bool.and_eq_false_iff, Bool.or_eq_false_iff, Bool.not_eq_true', Bool.not_eq_false', Int.not_lt, Int.not_le, Bool.not_true, Bool.not_false] at h9
    refine J_exit ?_
    refine J_seq ?_
    refine J_region ?_
    refine JL_step rfl rfl rfl (step_assign Sub.rfl) ?_
    refine JL_nil ?_
    refine J_ret ?_
    refine K_retv (rv := .tmp 4) rfl () (.tmp Sub.rfl) (Sub.int ?_)
    rw [hv, List.drop_of_length_le (by omega)]; rfl
theorem DeleteFunc_spec (v : Value) (l : List Int) (hl : l.length ≤ 1000000) (gi : Nat) (As : List Ty) (B : SP) (p : Int → Bool) (hp : ∀ x ∈ l, Spec (X := Unit) Tryz.prog gi ([tV (.int .i64 x)] ++ As) [B] (fun _ => tV (.bool (p x))) (fun _ => [B])) (he : ∀ args w, (callFunc gi args).run Tryz.prog w = .ok (.enter gi args) w) : Spec (X := Value) Tryz.prog 47 [rV.ty v, tClo gi As] ([own 3 rInt v l, B]) (fun z => rV.ty z) (fun z => [own 3 rInt z (delL p l), B]) := by
  refine Spec.enter Tryz.func47 rfl rfl fun h0 w0 fr0 => ?_
  refine J_seq ?_
  refine J_region ?_
  refine JL_step rfl rfl rfl (step_assign Sub.rfl) ?_
  refine JL_nil ?_
  refine J_seq ?_
  refine J_region ?_
  refine JL_step rfl rfl rfl (step_move Sub.rfl) ?_
  refine JL_step rfl rfl rfl (step_move Sub.rfl) ?_
  refine JL_stepX rfl rfl rfl (step_call (Sel.all _) (IndexFunco_spec v l hl gi As B p hp he) ⟨Sub.rfl, Sub.rfl, trivial⟩ Tryz.call67) fun v10 => ?_
  refine JL_step rfl rfl rfl (step_assign Sub.rfl) ?_
  refine JL_nil ?_
  refine J_seq ?_
  refine J_seq ?_
  refine J_region ?_
  refine JL_step rfl rfl rfl (step_move Sub.rfl) ?_
  refine JL_step rfl rfl rfl (step_eql Sub.rfl Sub.rfl) ?_
  refine JL_nil ?_
  refine J_cond Sub.rfl (fun h12 => ?_) (fun h12 => ?_)
  · try simp only [decide_eq_true_eq, decide_eq_false_iff_not, Bool.and_eq_true, Bool.or_eq_true, Bool.and_eq_false_iff, Bool.or_eq_false_iff, Bool.not_eq_true', Bool.not_eq_false', Int.not_lt, Int.not_le, Bool.not_true, Bool.not_false] at h12
    have hall : ∀ x ∈ l, p x = false := by rcases findI_split p l 0 (by omega) with ⟨_, h⟩ | ⟨k, _, h, _⟩; exact h; omega
    refine J_seq ?_
    refine J_region ?_
    refine JL_step rfl rfl rfl (step_move Sub.rfl) ?_
    refine JL_step rfl rfl rfl (step_assign Sub.rfl) ?_
    refine JL_nil ?_
    refine J_ret ?_
    refine K_lsub (L' := [own 3 rInt v (delL p l), B]) (LSub.cons (by first | exact Sel.take (Sel.none _) | exact Sel.skip (Sel.take (Sel.none _)) | exact Sel.skip (Sel.skip (Sel.take (Sel.none _))) | exact Sel.skip (Sel.skip (Sel.skip (Sel.take (Sel.none _)))) | exact Sel.skip (Sel.skip (Sel.skip (Sel.skip (Sel.take (Sel.none _)))))) (own_eq (delL_all hall).symm) (LSub.cons (by first | exact Sel.take (Sel.none _) | exact Sel.skip (Sel.take (Sel.none _)) | exact Sel.skip (Sel.skip (Sel.take (Sel.none _))) | exact Sel.skip (Sel.skip (Sel.skip (Sel.take (Sel.none _)))) | exact Sel.skip (Sel.skip (Sel.skip (Sel.skip (Sel.take (Sel.none _)))))) (SPs.rfl) (LSub.nil))) ?_
    refine K_retv (rv := .tmp 4) rfl v (.tmp Sub.rfl) Sub.rfl
  · try simp only [decide_eq_true_eq, decide_eq_false_iff_not, Bool.and_eq_true, Bool.or_eq_true, Bool.and_eq_false_iff, Bool.or_eq_false_iff, Bool.not_eq_true', Bool.not_eq_false', Int.not_lt, Int.not_le, Bool.not_true, Bool.not_false] at h12
    obtain ⟨k, hk, hfk, hpk, hak⟩ : ∃ k : Nat, k < l.length ∧ findI p 0 l = 0 + (k : Int) ∧ p (nth l k) = true ∧ ∀ x ∈ l.take k, p x = false := by rcases findI_split p l 0 (by omega) with ⟨h, _⟩ | h; exact absurd h h12; exact h
    rw [Int.zero_add] at hfk
    refine J_skip ?_
    refine J_seq ?_
    refine J_seq ?_
    refine J_region ?_
    refine JL_step rfl rfl rfl (step_move Sub.rfl) ?_
    refine JL_step rfl rfl rfl (step_add Sub.rfl Sub.rfl ?sg1) ?_
    case sg1 => unfold in64; omega
    refine JL_step rfl rfl rfl (step_assign Sub.rfl) ?_
    refine JL_nil ?_
    refine J_block ?_
    refine J_loopL (σ := Nat × Nat × List Int) (fun ⟨j, i, zs⟩ => dInv p l zs i j) (fun ⟨j, i, zs⟩ => upd (upd (upd (upd (upd env0 0 (rV.ty v)) 1 (tClo gi As)) 4 (tV (.slice none 0 0))) 5 (tV (.int .i64 i))) 6 (tV (.int .i64 j))) (fun ⟨j, i, zs⟩ => [own 3 rInt v zs, B]) (fun ⟨j, i, zs⟩ => l.length - j) (k + 1, k, l) (dInv_start hk hpk hak) (SubE.upd (Sub.int (by rw [hfk]; simp)) (SubE.upd (Sub.int hfk) (SubE.upd Sub.rfl (SubE.upd Sub.rfl (SubE.upd Sub.rfl SubE.any))))) (LSub.rfl) ?_
    rintro ⟨j, i, zs⟩ hv
    try dsimp only at hv
    refine J_seq ?_
    refine J_seq ?_
    refine J_region ?_
    refine JL_step rfl rfl rfl (step_move Sub.rfl) ?_
    refine JL_step rfl rfl rfl (step_move Sub.rfl) ?_
    refine JL_step rfl rfl rfl (step_len_own Tryz.underlying24 Sub.rfl (by first | exact Sel.take (Sel.none _) | exact Sel.skip (Sel.take (Sel.none _)) | exact Sel.skip (Sel.skip (Sel.take (Sel.none _))) | exact Sel.skip (Sel.skip (Sel.skip (Sel.take (Sel.none _)))) | exact Sel.skip (Sel.skip (Sel.skip (Sel.skip (Sel.take (Sel.none _))))))) ?_
    refine JL_step rfl rfl rfl (step_lss Sub.rfl Sub.rfl) ?_
    refine JL_nil ?_
    refine J_cond Sub.rfl (fun h19 => ?_) (fun h19 => ?_)
    · try simp only [decide_eq_true_eq, decide_eq_false_iff_not, Bool.and_eq_true, Bool.or_eq_true, Bool.and_eq_false_iff, Bool.or_eq_false_iff, Bool.not_eq_true', Bool.not_eq_false', Int.not_lt, Int.not_le, Bool.not_true, Bool.not_false] at h19
      have hlt : j < l.length := by have := hv.2.2.1; omega
      have hzj := dInv_nth hv hlt
      have hzl := hv.2.2.1
      have hij := hv.2.1
      refine J_skip ?_
      refine J_seq ?_
      refine J_block ?_
      refine J_seq ?_
      refine J_region ?_
      refine JL_step rfl rfl rfl (step_move Sub.rfl) ?_
      refine JL_step rfl rfl rfl (step_move Sub.rfl) ?_
      refine JL_step rfl rfl rfl (step_indexAddr_own  Tryz.underlying24 ty3 Sub.rfl (by first | exact Sel.take (Sel.none _) | exact Sel.skip (Sel.take (Sel.none _)) | exact Sel.skip (Sel.skip (Sel.take (Sel.none _))) | exact Sel.skip (Sel.skip (Sel.skip (Sel.take (Sel.none _)))) | exact Sel.skip (Sel.skip (Sel.skip (Sel.skip (Sel.take (Sel.none _)))))) Sub.rfl rfl ?sg1) ?_
      case sg1 => first | assumption | omega
      refine JL_step rfl rfl rfl (step_load_own ty3 Sub.rfl (by first | exact Sel.take (Sel.none _) | exact Sel.skip (Sel.take (Sel.none _)) | exact Sel.skip (Sel.skip (Sel.take (Sel.none _))) | exact Sel.skip (Sel.skip (Sel.skip (Sel.take (Sel.none _)))) | exact Sel.skip (Sel.skip (Sel.skip (Sel.skip (Sel.take (Sel.none _)))))) (gb ?sg1)) ?_
      case sg1 => first | assumption | omega
      refine JL_step rfl rfl rfl (step_assign Sub.rfl) ?_
      refine JL_nil ?_
      refine J_seq ?_
      refine J_region ?_
      refine JL_step rfl rfl rfl (step_move Sub.rfl) ?_
      refine JL_step rfl rfl rfl (step_move Sub.rfl) ?_
      refine JL_stepX rfl rfl rfl (step_callv (aT := [_]) Sub.rfl (Sel.skip (Sel.take (Sel.none _))) (hp _ (nth_mem hlt)) ⟨Sub.int hzj, trivial⟩ he) fun v28 => ?_
      refine JL_step rfl rfl rfl (step_not Sub.rfl) ?_
      refine JL_nil ?_
      refine J_cond Sub.rfl (fun h29 => ?_) (fun h29 => ?_)
      · try simp only [decide_eq_true_eq, decide_eq_false_iff_not, Bool.and_eq_true, Bool.or_eq_true, Bool.and_eq_false_iff, Bool.or_eq_false_iff, Bool.not_eq_true', Bool.not_eq_false', Int.not_lt, Int.not_le, Bool.not_true, Bool.not_false] at h29
        refine J_seq ?_
        refine J_region ?_
        refine JL_step rfl rfl rfl (step_move Sub.rfl) ?_
        refine JL_step rfl rfl rfl (step_move Sub.rfl) ?_
        refine JL_step rfl rfl rfl (step_move Sub.rfl) ?_
        refine JL_step rfl rfl rfl (step_indexAddr_own  Tryz.underlying24 ty3 Sub.rfl (by first | exact Sel.take (Sel.none _) | exact Sel.skip (Sel.take (Sel.none _)) | exact Sel.skip (Sel.skip (Sel.take (Sel.none _))) | exact Sel.skip (Sel.skip (Sel.skip (Sel.take (Sel.none _)))) | exact Sel.skip (Sel.skip (Sel.skip (Sel.skip (Sel.take (Sel.none _)))))) Sub.rfl rfl ?sg1) ?_
        case sg1 => first | assumption | omega
        refine JL_stepU rfl rfl (step_store_own ty3 Sub.rfl Sub.rfl (by first | exact Sel.take (Sel.none _) | exact Sel.skip (Sel.take (Sel.none _)) | exact Sel.skip (Sel.skip (Sel.take (Sel.none _))) | exact Sel.skip (Sel.skip (Sel.skip (Sel.take (Sel.none _)))) | exact Sel.skip (Sel.skip (Sel.skip (Sel.skip (Sel.take (Sel.none _)))))) ?sg1) fun _ => ?_
        case sg1 => first | assumption | omega
        refine JL_nil ?_
        refine J_region ?_
        refine JL_step rfl rfl rfl (step_move Sub.rfl) ?_
        refine JL_step rfl rfl rfl (step_add Sub.rfl Sub.rfl ?sg1) ?_
        case sg1 => unfold in64; omega
        refine JL_step rfl rfl rfl (step_assign Sub.rfl) ?_
        refine JL_nil ?_
        refine J_region ?_
        refine JL_step rfl rfl rfl (step_move Sub.rfl) ?_
        refine JL_step rfl rfl rfl (step_add Sub.rfl Sub.rfl ?sg1) ?_
        case sg1 => unfold in64; omega
        refine JL_step rfl rfl rfl (step_assign Sub.rfl) ?_
        refine JL_nil ?_
        refine K_againL (σ := Nat × Nat × List Int) (s := (j, i, zs)) (j + 1, i + 1, zs.set i (nth l j)) (by first | omega | (dsimp only; omega) | (simp_all; omega)) (dInv_put hv hlt (by simp_all)) (SubE.upd Sub.rfl (SubE.upd Sub.rfl (SubE.upd Sub.rfl (SubE.upd Sub.rfl (SubE.upd Sub.rfl SubE.any))))) (LSub.cons (by first | exact Sel.take (Sel.none _) | exact Sel.skip (Sel.take (Sel.none _)) | exact Sel.skip (Sel.skip (Sel.take (Sel.none _))) | exact Sel.skip (Sel.skip (Sel.skip (Sel.take (Sel.none _)))) | exact Sel.skip (Sel.skip (Sel.skip (Sel.skip (Sel.take (Sel.none _)))))) (own_eq (by rw [hzj])) (LSub.cons (by first | exact Sel.take (Sel.none _) | exact Sel.skip (Sel.take (Sel.none _)) | exact Sel.skip (Sel.skip (Sel.take (Sel.none _))) | exact Sel.skip (Sel.skip (Sel.skip (Sel.take (Sel.none _)))) | exact Sel.skip (Sel.skip (Sel.skip (Sel.skip (Sel.take (Sel.none _)))))) (SPs.rfl) (LSub.nil)))
      · try simp only [decide_eq_true_eq, decide_eq_false_iff_not, Bool.and_eq_true, Bool.or_eq_true, Bool.and_eq_false_iff, Bool.or_eq_false_iff, Bool.not_eq_true', Bool.not_eq_false', Int.not_lt, Int.not_le, Bool.not_true, Bool.not_false] at h29
        refine J_skip ?_
        refine J_region ?_
        refine JL_step rfl rfl rfl (step_move Sub.rfl) ?_
        refine JL_step rfl rfl rfl (step_add Sub.rfl Sub.rfl ?sg1) ?_
        case sg1 => unfold in64; omega
        refine JL_step rfl rfl rfl (step_assign Sub.rfl) ?_
        refine JL_nil ?_
        refine K_againL (σ := Nat × Nat × List Int) (s := (j, i, zs)) (j + 1, i, zs) (by first | omega | (dsimp only; omega) | (simp_all; omega)) (dInv_skip hv hlt (by simp_all)) (SubE.upd Sub.rfl (SubE.upd Sub.rfl (SubE.upd Sub.rfl (SubE.upd Sub.rfl (SubE.upd Sub.rfl SubE.any))))) (LSub.cons (by first | exact Sel.take (Sel.none _) | exact Sel.skip (Sel.take (Sel.none _)) | exact Sel.skip (Sel.skip (Sel.take (Sel.none _))) | exact Sel.skip (Sel.skip (Sel.skip (Sel.take (Sel.none _)))) | exact Sel.skip (Sel.skip (Sel.skip (Sel.skip (Sel.take (Sel.none _)))))) (SPs.rfl) (LSub.cons (by first | exact Sel.take (Sel.none _) | exact Sel.skip (Sel.take (Sel.none _)) | exact Sel.skip (Sel.skip (Sel.take (Sel.none _))) | exact Sel.skip (Sel.skip (Sel.skip (Sel.take (Sel.none _)))) | exact Sel.skip (Sel.skip (Sel.skip (Sel.skip (Sel.take (Sel.none _)))))) (SPs.rfl) (LSub.nil)))
    · try simp only [decide_eq_true_eq, decide_eq_false_iff_not, Bool.and_eq_true, Bool.or_eq_true, Bool.and_eq_false_iff, Bool.or_eq_false_iff, Bool.not_eq_true', Bool.not_eq_false', Int.not_lt, Int.not_le, Bool.not_true, Bool.not_false] at h19
      refine J_exit ?_
      refine J_seq ?_
      refine J_region ?_
      refine JL_step rfl rfl rfl (step_move Sub.rfl) ?_
      refine JL_step rfl rfl rfl (step_move Sub.rfl) ?_
      refine JL_step rfl rfl rfl (step_slice_tail Tryz.underlying24 ty3 Sub.rfl Sub.rfl rfl (by first | exact Sel.take (Sel.none _) | exact Sel.skip (Sel.take (Sel.none _)) | exact Sel.skip (Sel.skip (Sel.take (Sel.none _))) | exact Sel.skip (Sel.skip (Sel.skip (Sel.take (Sel.none _)))) | exact Sel.skip (Sel.skip (Sel.skip (Sel.skip (Sel.take (Sel.none _)))))) (by have := hv.2.2.1; have := hv.2.1; have := hv.1; omega)) ?_
      refine JL_stepU rfl rfl (step_clear Tryz.underlying24 (fun w => Tryz.zeroValue3 w) Sub.rfl (by first | exact Sel.take (Sel.none _) | exact Sel.skip (Sel.take (Sel.none _)) | exact Sel.skip (Sel.skip (Sel.take (Sel.none _))) | exact Sel.skip (Sel.skip (Sel.skip (Sel.take (Sel.none _)))) | exact Sel.skip (Sel.skip (Sel.skip (Sel.skip (Sel.take (Sel.none _)))))) (by have := hv.2.2.1; have := hv.2.1; have := hv.1; omega)) fun _ => ?_
      refine JL_nil ?_
      refine J_seq ?_
      refine J_region ?_
      refine JL_step rfl rfl rfl (step_move Sub.rfl) ?_
      refine JL_step rfl rfl rfl (step_move Sub.rfl) ?_
      refine JL_stepX rfl rfl rfl (step_slice_own (n := i) Tryz.underlying24 ty3 Sub.rfl Sub.rfl ?sg1 (by first | exact Sel.take (Sel.none _) | exact Sel.skip (Sel.take (Sel.none _)) | exact Sel.skip (Sel.skip (Sel.take (Sel.none _))) | exact Sel.skip (Sel.skip (Sel.skip (Sel.take (Sel.none _)))) | exact Sel.skip (Sel.skip (Sel.skip (Sel.skip (Sel.take (Sel.none _)))))) ?sg2) fun u41 => ?_
      case sg1 => rfl
      case sg2 => have := hv.2.2.1; have := hv.2.1; have := hv.1; simp; omega
      refine JL_step rfl rfl rfl (step_assign Sub.rfl) ?_
      refine JL_nil ?_
      refine J_ret ?_
      refine K_lsub (L' := [own 3 rInt u41 (delL p l), B]) (LSub.cons (by first | exact Sel.take (Sel.none _) | exact Sel.skip (Sel.take (Sel.none _)) | exact Sel.skip (Sel.skip (Sel.take (Sel.none _))) | exact Sel.skip (Sel.skip (Sel.skip (Sel.take (Sel.none _)))) | exact Sel.skip (Sel.skip (Sel.skip (Sel.skip (Sel.take (Sel.none _)))))) (own_eq (by obtain ⟨q1, q2, q3, q4, q5⟩ := hv; obtain rfl : j = l.length := (by omega); rw [List.take_length] at q4; rw [List.take_append_of_le_length (by simp; omega), List.take_take, Nat.min_self, q4])) (LSub.cons (by first | exact Sel.take (Sel.none _) | exact Sel.skip (Sel.take (Sel.none _)) | exact Sel.skip (Sel.skip (Sel.take (Sel.none _))) | exact Sel.skip (Sel.skip (Sel.skip (Sel.take (Sel.none _)))) | exact Sel.skip (Sel.skip (Sel.skip (Sel.skip (Sel.take (Sel.none _)))))) (SPs.rfl) (LSub.nil))) ?_
      refine K_retv (rv := .tmp 4) rfl u41 (.tmp Sub.rfl) Sub.rfl
end Lg

namespace Lg
open Go Go.Proofs


def someT (which : List Bool) (i : Nat) : List Int := ((List.range i).filter fun j => nth which j).map fun j : Nat => (j : Int)
theorem someT_succ (which : List Bool) (i : Nat) : someT which (i + 1) = someT which i ++ if nth which i = true then [(i : Int)] else [] := by
  unfold someT
  rw [List.range_succ, List.filter_append, List.map_append]
  by_cases h : nth which i = true <;> simp [h]
theorem someT_len (which : List Bool) (i : Nat) : (someT which i).length ≤ i := by
  unfold someT
  rw [List.length_map]
  exact Nat.le_trans (List.length_filter_le _ _) (by simp)
abbrev someL (n : Nat) (which : List Bool) : List Int := someT which (min n which.length)
abbrev turnL (n : Int) (l : List Int) : List Int := l.reverse.map fun x => n - 1 - x
theorem turnL_step {n : Int} {l : List Int} {k : Nat} (h : k < l.length) : turnL n (l.drop k) = turnL n (l.drop (k + 1)) ++ [n - 1 - nth l k] := by
  rw [dropB h]; simp [turnL]

theorem contains_spec (l : List (List Int)) (set : List Int) (hl : l.length ≤ 1000000000000) (hs : set.length ≤ 1000000000000) (hle : ∀ x ∈ l, x.length ≤ 1000000000000) : Fun1 Tryz.prog 28 [tSl (rSl rInt) l, tSl rInt set] (tV (.bool (l.any fun b => b.all fun x => set.contains x))) := by
  refine Spec.enter Tryz.func28 rfl rfl fun h0 w0 fr0 => ?_
  refine J_seq ?_
  refine J_region ?_
  refine JL_step rfl rfl rfl (step_assign Sub.rfl) ?_
  refine JL_nil ?_
  refine J_seq ?_
  refine J_seq ?_
  refine J_region ?_
  refine JL_step rfl rfl rfl (step_assign Sub.rfl) ?_
  refine JL_nil ?_
  refine J_block ?_
  refine J_loopL (σ := Nat) (fun i => i ≤ l.length ∧ (l.any fun b => b.all fun x => set.contains x) = (l.drop i).any fun b => b.all fun x => set.contains x) (fun i => upd (upd (upd env0 0 (tSl (rSl rInt) l)) 1 (tSl rInt set)) 5 (tV (.int .i64 i))) (fun i => []) (fun i => l.length - i) 0 ⟨by omega, by simp⟩ (SubE.upd Sub.rfl (SubE.upd Sub.rfl (SubE.upd Sub.rfl SubE.any))) (LSub.rfl) ?_
  rintro i ⟨hi, hv⟩
  refine J_seq ?_
  refine J_seq ?_
  refine J_region ?_
  refine JL_step rfl rfl rfl (step_move Sub.rfl) ?_
  refine JL_step rfl rfl rfl (step_move Sub.rfl) ?_
  refine JL_step rfl rfl rfl (step_len_sl Tryz.underlying33 Sub.rfl) ?_
  refine JL_step rfl rfl rfl (step_lss Sub.rfl Sub.rfl) ?_
  refine JL_nil ?_
  refine J_cond Sub.rfl (fun h9 => ?_) (fun h9 => ?_)
  · try simp only [decide_eq_true_eq, decide_eq_false_iff_not, Bool.and_eq_true, Bool.or_eq_true, Bool.and_eq_false_iff, Bool.or_eq_false_iff, Bool.not_eq_true', Bool.not_eq_false', Int.not_lt, Int.not_le, Bool.not_true, Bool.not_false] at h9
    have hlt : i < l.length := by omega
    have hd := dropB hlt
    refine J_skip ?_
    refine J_seq ?_
    refine J_block ?_
    refine J_seq ?_
    refine J_region ?_
    refine JL_step rfl rfl rfl (step_move Sub.rfl) ?_
    refine JL_step rfl rfl rfl (step_move Sub.rfl) ?_
    refine JL_step rfl rfl rfl (step_move Sub.rfl) ?_
    refine JL_step rfl rfl rfl (step_indexAddr_sl  Tryz.underlying33 ty24 Sub.rfl Sub.rfl rfl (gb ?sg1)) ?_
    case sg1 => first | assumption | omega
    refine JL_step rfl rfl rfl (step_load_ptr ty24 Sub.rfl) ?_
    refine JL_step rfl rfl rfl (step_call0 (Contains_spec _ _ hs (hle _ (nth_mem hlt))) ⟨Sub.rfl, Sub.rfl, trivial⟩ Tryz.call51) ?_
    refine JL_nil ?_
    refine J_cond Sub.rfl (fun h17 => ?_) (fun h17 => ?_)
    · try simp only [decide_eq_true_eq, decide_eq_false_iff_not, Bool.and_eq_true, Bool.or_eq_true, Bool.and_eq_false_iff, Bool.or_eq_false_iff, Bool.not_eq_true', Bool.not_eq_false', Int.not_lt, Int.not_le, Bool.not_true, Bool.not_false] at h17
      skip
      refine J_seq ?_
      refine J_region ?_
      refine JL_step rfl rfl rfl (step_assign Sub.rfl) ?_
      refine JL_nil ?_
      refine J_ret ?_
      refine K_ret1 (t := 4) rfl () ?_
      refine Sub.bool ?_
      rw [hv, hd, List.any_cons, h17]; rfl
    · try simp only [decide_eq_true_eq, decide_eq_false_iff_not, Bool.and_eq_true, Bool.or_eq_true, Bool.and_eq_false_iff, Bool.or_eq_false_iff, Bool.not_eq_true', Bool.not_eq_false', Int.not_lt, Int.not_le, Bool.not_true, Bool.not_false] at h17
      refine J_skip ?_
      refine J_region ?_
      refine JL_step rfl rfl rfl (step_move Sub.rfl) ?_
      refine JL_step rfl rfl rfl (step_add Sub.rfl Sub.rfl ?sg1) ?_
      case sg1 => unfold in64; omega
      refine JL_step rfl rfl rfl (step_assign Sub.rfl) ?_
      refine JL_nil ?_
      refine K_againL (σ := Nat) (s := i) (i + 1) (by first | omega | (dsimp only; omega) | (simp_all; omega)) ?_ (SubE.upd Sub.rfl (SubE.upd Sub.rfl (SubE.upd Sub.rfl SubE.any))) (LSub.rfl)
      refine ⟨by omega, ?_⟩
      rw [hv, hd, List.any_cons, h17, Bool.false_or]
  · try simp only [decide_eq_true_eq, decide_eq_false_iff_not, Bool.and_eq_true, Bool.or_eq_true, Bool.and_eq_false_iff, Bool.or_eq_false_iff, Bool.not_eq_true', Bool.not_eq_false', Int.not_lt, Int.not_le, Bool.not_true, Bool.not_false] at h9
    refine J_exit ?_
    refine J_seq ?_
    refine J_region ?_
    refine JL_step rfl rfl rfl (step_assign Sub.rfl) ?_
    refine JL_nil ?_
    refine J_ret ?_
    refine K_ret1 (t := 4) rfl () ?_
    refine Sub.bool ?_
    rw [hv, List.drop_of_length_le (by omega)]; rfl
theorem some_spec (n : Nat) (which : List Bool) (hn : n ≤ 1000000) : Fun1 Tryz.prog 27 [tV (.int .i64 n), tSl rBool which] (tSl rInt (someL n which)) := by
  refine Spec.enter Tryz.func27 rfl rfl fun h0 w0 fr0 => ?_
  refine J_seq ?_
  refine J_region ?_
  refine JL_step rfl rfl rfl (step_assign Sub.rfl) ?_
  refine JL_nil ?_
  refine J_seq ?_
  refine J_region ?_
  refine JL_step rfl rfl rfl (step_assign Sub.rfl) ?_
  refine JL_nil ?_
  refine J_seq ?_
  refine J_seq ?_
  refine J_region ?_
  refine JL_step rfl rfl rfl (step_assign Sub.rfl) ?_
  refine JL_nil ?_
  refine J_block ?_
  refine J_loopL (σ := Nat × Value) (fun ⟨i, v⟩ => i ≤ n ∧ i ≤ which.length) (fun ⟨i, v⟩ => upd (upd (upd (upd (upd env0 0 (tV (.int .i64 n))) 1 (tSl rBool which)) 4 (tV (.slice none 0 0))) 5 (rV.ty v)) 6 (tV (.int .i64 i))) (fun ⟨i, v⟩ => [own 3 rInt v (someT which i)]) (fun ⟨i, v⟩ => n - i) (0, .slice none 0 0) ⟨by simp, by simp⟩ (SubE.upd Sub.rfl (SubE.upd (Sub.rV rfl) (SubE.upd Sub.rfl (SubE.upd Sub.rfl (SubE.upd Sub.rfl SubE.any))))) (LSub.nilown) ?_
  rintro ⟨i, v⟩ ⟨hi, hj⟩
  refine J_seq ?_
  refine J_seq ?_
  refine J_region ?_
  refine JL_step rfl rfl rfl (step_move Sub.rfl) ?_
  refine JL_step rfl rfl rfl (step_move Sub.rfl) ?_
  refine JL_step rfl rfl rfl (step_lss Sub.rfl Sub.rfl) ?_
  refine JL_step rfl rfl rfl (step_move Sub.rfl) ?_
  refine JL_stepG rfl rfl rfl (Gd.plain Sub.rfl) rfl rfl (fun hw => step_move Sub.rfl) ?_
  refine JL_stepG rfl rfl rfl (Gd.plain Sub.rfl) rfl rfl (fun hw => step_move Sub.rfl) ?_
  refine JL_stepG rfl rfl rfl (Gd.plain Sub.rfl) rfl rfl (fun hw => step_len_sl Tryz.underlying47 (Sub.w hw)) ?_
  refine JL_stepG rfl rfl rfl (Gd.plain Sub.rfl) rfl rfl (fun hw => step_lss (Sub.w hw) (Sub.w hw)) ?_
  refine JL_step rfl rfl rfl (step_pick_and Sub.rfl Sub.rfl) ?_
  refine JL_nil ?_
  refine J_cond Sub.rfl (fun h15 => ?_) (fun h15 => ?_)
  · try simp only [decide_eq_true_eq, decide_eq_false_iff_not, Bool.and_eq_true, Bool.or_eq_true, Bool.and_eq_false_iff, Bool.or_eq_false_iff, Bool.not_eq_true', Bool.not_eq_false', Int.not_lt, Int.not_le, Bool.not_true, Bool.not_false] at h15
    have hlt : i < which.length := by omega
    have hln := someT_len which i
    refine J_skip ?_
    refine J_seq ?_
    refine J_block ?_
    refine J_seq ?_
    refine J_region ?_
    refine JL_step rfl rfl rfl (step_move Sub.rfl) ?_
    refine JL_step rfl rfl rfl (step_move Sub.rfl) ?_
    refine JL_step rfl rfl rfl (step_indexAddr_sl  Tryz.underlying47 ty4 Sub.rfl Sub.rfl rfl (gb ?sg1)) ?_
    case sg1 => first | assumption | omega
    refine JL_step rfl rfl rfl (step_load_ptr ty4 Sub.rfl) ?_
    refine JL_nil ?_
    refine J_cond Sub.rfl (fun h21 => ?_) (fun h21 => ?_)
    · try simp only [decide_eq_true_eq, decide_eq_false_iff_not, Bool.and_eq_true, Bool.or_eq_true, Bool.and_eq_false_iff, Bool.or_eq_false_iff, Bool.not_eq_true', Bool.not_eq_false', Int.not_lt, Int.not_le, Bool.not_true, Bool.not_false] at h21
      refine J_region ?_
      refine JL_step rfl rfl rfl (step_move Sub.rfl) ?_
      refine JL_step rfl rfl rfl (step_move Sub.rfl) ?_
      refine JL_step rfl rfl rfl (step_literal (ys := [_]) Tryz.underlying24 el3 ⟨rfl, Sub.rfl, trivial⟩ rfl (by decide)) ?_
      refine JL_stepX rfl rfl rfl (step_append Tryz.underlying24 el3 Sub.rfl Sub.rfl (by first | exact Sel.take (Sel.none _) | exact Sel.skip (Sel.take (Sel.none _)) | exact Sel.skip (Sel.skip (Sel.take (Sel.none _))) | exact Sel.skip (Sel.skip (Sel.skip (Sel.take (Sel.none _)))) | exact Sel.skip (Sel.skip (Sel.skip (Sel.skip (Sel.take (Sel.none _)))))) (by simp; omega) (by simp; omega)) fun u25 => ?_
      refine JL_step rfl rfl rfl (step_assign Sub.rfl) ?_
      refine JL_nil ?_
      refine J_region ?_
      refine JL_step rfl rfl rfl (step_move Sub.rfl) ?_
      refine JL_step rfl rfl rfl (step_add Sub.rfl Sub.rfl ?sg1) ?_
      case sg1 => unfold in64; omega
      refine JL_step rfl rfl rfl (step_assign Sub.rfl) ?_
      refine JL_nil ?_
      refine K_againL (σ := Nat × Value) (s := (i, v)) (i + 1, u25) (by first | omega | (dsimp only; omega) | (simp_all; omega)) ⟨by omega, by omega⟩ (SubE.upd Sub.rfl (SubE.upd Sub.rfl (SubE.upd Sub.rfl (SubE.upd Sub.rfl (SubE.upd Sub.rfl SubE.any))))) (LSub.cons (by first | exact Sel.take (Sel.none _) | exact Sel.skip (Sel.take (Sel.none _)) | exact Sel.skip (Sel.skip (Sel.take (Sel.none _))) | exact Sel.skip (Sel.skip (Sel.skip (Sel.take (Sel.none _)))) | exact Sel.skip (Sel.skip (Sel.skip (Sel.skip (Sel.take (Sel.none _)))))) (own_eq (by rw [someT_succ, if_pos h21])) LSub.nil)
    · try simp only [decide_eq_true_eq, decide_eq_false_iff_not, Bool.and_eq_true, Bool.or_eq_true, Bool.and_eq_false_iff, Bool.or_eq_false_iff, Bool.not_eq_true', Bool.not_eq_false', Int.not_lt, Int.not_le, Bool.not_true, Bool.not_false] at h21
      refine J_skip ?_
      refine J_region ?_
      refine JL_step rfl rfl rfl (step_move Sub.rfl) ?_
      refine JL_step rfl rfl rfl (step_add Sub.rfl Sub.rfl ?sg1) ?_
      case sg1 => unfold in64; omega
      refine JL_step rfl rfl rfl (step_assign Sub.rfl) ?_
      refine JL_nil ?_
      refine K_againL (σ := Nat × Value) (s := (i, v)) (i + 1, v) (by first | omega | (dsimp only; omega) | (simp_all; omega)) ⟨by omega, by omega⟩ (SubE.upd Sub.rfl (SubE.upd Sub.rfl (SubE.upd Sub.rfl (SubE.upd Sub.rfl (SubE.upd Sub.rfl SubE.any))))) (LSub.cons (by first | exact Sel.take (Sel.none _) | exact Sel.skip (Sel.take (Sel.none _)) | exact Sel.skip (Sel.skip (Sel.take (Sel.none _))) | exact Sel.skip (Sel.skip (Sel.skip (Sel.take (Sel.none _)))) | exact Sel.skip (Sel.skip (Sel.skip (Sel.skip (Sel.take (Sel.none _)))))) (own_eq (by rw [someT_succ, if_neg (by simp [h21]), List.append_nil])) LSub.nil)
  · try simp only [decide_eq_true_eq, decide_eq_false_iff_not, Bool.and_eq_true, Bool.or_eq_true, Bool.and_eq_false_iff, Bool.or_eq_false_iff, Bool.not_eq_true', Bool.not_eq_false', Int.not_lt, Int.not_le, Bool.not_true, Bool.not_false] at h15
    refine J_exit ?_
    refine J_seq ?_
    refine J_region ?_
    refine JL_step rfl rfl rfl (step_move Sub.rfl) ?_
    refine JL_step rfl rfl rfl (step_assign Sub.rfl) ?_
    refine JL_nil ?_
    refine J_ret ?_
    refine K_ret1' (rv := .tmp 4) rfl () (Sel.all _) (.tmp Sub.rfl) ?_
    exact Frz.own' (by have : i = min n which.length := (by omega); rw [this])
theorem turned_spec (n : Int) (set : List Int) (hn : 0 ≤ n ∧ n ≤ 1000000) (hs : set.length ≤ 1000000) (hb : ∀ x ∈ set, 0 ≤ x ∧ x ≤ 1000000) : Fun1 Tryz.prog 30 [tV (.int .i64 n), tSl rInt set] (tSl rInt (turnL n set)) := by
  refine Spec.enter Tryz.func30 rfl rfl fun h0 w0 fr0 => ?_
  refine J_seq ?_
  refine J_region ?_
  refine JL_step rfl rfl rfl (step_assign Sub.rfl) ?_
  refine JL_nil ?_
  refine J_seq ?_
  refine J_region ?_
  refine JL_step rfl rfl rfl (step_assign Sub.rfl) ?_
  refine JL_nil ?_
  refine J_seq ?_
  refine J_seq ?_
  refine J_region ?_
  refine JL_step rfl rfl rfl (step_move Sub.rfl) ?_
  refine JL_step rfl rfl rfl (step_len_sl Tryz.underlying24 Sub.rfl) ?_
  refine JL_step rfl rfl rfl (step_sub Sub.rfl Sub.rfl ?sg1) ?_
  case sg1 => unfold in64; omega
  refine JL_step rfl rfl rfl (step_assign Sub.rfl) ?_
  refine JL_nil ?_
  refine J_block ?_
  refine J_loopL (σ := Nat × Value) (fun ⟨k, v⟩ => k ≤ set.length) (fun ⟨k, v⟩ => upd (upd (upd (upd (upd env0 0 (tV (.int .i64 n))) 1 (tSl rInt set)) 4 (tV (.slice none 0 0))) 5 (rV.ty v)) 6 (tV (.int .i64 ((k : Int) - 1)))) (fun ⟨k, v⟩ => [own 3 rInt v (turnL n (set.drop k))]) (fun ⟨k, v⟩ => k) (set.length, .slice none 0 0) (by simp) (SubE.upd Sub.rfl (SubE.upd (Sub.rV rfl) (SubE.upd Sub.rfl (SubE.upd Sub.rfl (SubE.upd Sub.rfl SubE.any))))) (LSub.trans (LSub.nilown (e := 3) (R := rInt)) (LSub.cons (by first | exact Sel.take (Sel.none _) | exact Sel.skip (Sel.take (Sel.none _)) | exact Sel.skip (Sel.skip (Sel.take (Sel.none _))) | exact Sel.skip (Sel.skip (Sel.skip (Sel.take (Sel.none _)))) | exact Sel.skip (Sel.skip (Sel.skip (Sel.skip (Sel.take (Sel.none _)))))) (own_eq (by simp [turnL])) LSub.nil)) ?_
  rintro ⟨k, v⟩ hi
  try dsimp only at hi
  refine J_seq ?_
  refine J_seq ?_
  refine J_region ?_
  refine JL_step rfl rfl rfl (step_move Sub.rfl) ?_
  refine JL_step rfl rfl rfl (step_geq Sub.rfl Sub.rfl) ?_
  refine JL_nil ?_
  refine J_cond Sub.rfl (fun h11 => ?_) (fun h11 => ?_)
  · try simp only [decide_eq_true_eq, decide_eq_false_iff_not, Bool.and_eq_true, Bool.or_eq_true, Bool.and_eq_false_iff, Bool.or_eq_false_iff, Bool.not_eq_true', Bool.not_eq_false', Int.not_lt, Int.not_le, Bool.not_true, Bool.not_false] at h11
    obtain ⟨hb0, hb1⟩ := hb _ (nth_mem (show k - 1 < set.length by omega))
    have hst := turnL_step (n := n) (show k - 1 < set.length by omega)
    have hk1 : k - 1 + 1 = k := by omega
    rw [hk1] at hst
    refine J_skip ?_
    refine J_seq ?_
    refine J_block ?_
    refine J_region ?_
    refine JL_step rfl rfl rfl (step_move Sub.rfl) ?_
    refine JL_step rfl rfl rfl (step_move Sub.rfl) ?_
    refine JL_step rfl rfl rfl (step_sub Sub.rfl Sub.rfl ?sg1) ?_
    case sg1 => unfold in64; omega
    refine JL_step rfl rfl rfl (step_move Sub.rfl) ?_
    refine JL_step rfl rfl rfl (step_move Sub.rfl) ?_
    refine JL_step rfl rfl rfl (step_indexAddr_sl (i := k - 1) Tryz.underlying24 ty3 Sub.rfl Sub.rfl ?sg1 (gb ?sg2)) ?_
    case sg1 => omega
    case sg2 => omega
    refine JL_step rfl rfl rfl (step_load_ptr ty3 Sub.rfl) ?_
    refine JL_step rfl rfl rfl (step_sub Sub.rfl Sub.rfl ?sg1) ?_
    case sg1 => unfold in64; omega
    refine JL_step rfl rfl rfl (step_literal (ys := [_]) Tryz.underlying24 el3 ⟨rfl, Sub.rfl, trivial⟩ rfl (by decide)) ?_
    refine JL_stepX rfl rfl rfl (step_append Tryz.underlying24 el3 Sub.rfl Sub.rfl (by first | exact Sel.take (Sel.none _) | exact Sel.skip (Sel.take (Sel.none _)) | exact Sel.skip (Sel.skip (Sel.take (Sel.none _))) | exact Sel.skip (Sel.skip (Sel.skip (Sel.take (Sel.none _)))) | exact Sel.skip (Sel.skip (Sel.skip (Sel.skip (Sel.take (Sel.none _)))))) (by simp; omega) (by simp; omega)) fun u23 => ?_
    refine JL_step rfl rfl rfl (step_assign Sub.rfl) ?_
    refine JL_nil ?_
    refine J_region ?_
    refine JL_step rfl rfl rfl (step_move Sub.rfl) ?_
    refine JL_step rfl rfl rfl (step_sub Sub.rfl Sub.rfl ?sg1) ?_
    case sg1 => unfold in64; omega
    refine JL_step rfl rfl rfl (step_assign Sub.rfl) ?_
    refine JL_nil ?_
    refine K_againL (σ := Nat × Value) (s := (k, v)) (k - 1, u23) (by first | omega | (dsimp only; omega) | (simp_all; omega)) (by omega) (SubE.upd (Sub.int (by omega)) (SubE.upd Sub.rfl (SubE.upd Sub.rfl (SubE.upd Sub.rfl (SubE.upd Sub.rfl SubE.any))))) (LSub.cons (by first | exact Sel.take (Sel.none _) | exact Sel.skip (Sel.take (Sel.none _)) | exact Sel.skip (Sel.skip (Sel.take (Sel.none _))) | exact Sel.skip (Sel.skip (Sel.skip (Sel.take (Sel.none _)))) | exact Sel.skip (Sel.skip (Sel.skip (Sel.skip (Sel.take (Sel.none _)))))) (own_eq hst.symm) LSub.nil)
  · try simp only [decide_eq_true_eq, decide_eq_false_iff_not, Bool.and_eq_true, Bool.or_eq_true, Bool.and_eq_false_iff, Bool.or_eq_false_iff, Bool.not_eq_true', Bool.not_eq_false', Int.not_lt, Int.not_le, Bool.not_true, Bool.not_false] at h11
    refine J_exit ?_
    refine J_seq ?_
    refine J_region ?_
    refine JL_step rfl rfl rfl (step_move Sub.rfl) ?_
    refine JL_step rfl rfl rfl (step_assign Sub.rfl) ?_
    refine JL_nil ?_
    refine J_ret ?_
    refine K_ret1' (rv := .tmp 4) rfl () (Sel.all _) (.tmp Sub.rfl) ?_
    exact Frz.own' (by obtain rfl : k = 0 := (by omega); rfl)
end Lg

namespace Lg
open Go Go.Proofs


def fewR (r : GRule) : Bool := decide ((r.Cols.length : Int) ≤ 12) && decide ((r.Fixed.length : Int) ≤ 12) && decide ((r.Tables.length : Int) ≤ 12) && decide ((r.Tests.length : Int) ≤ 12)
def fewV (v : GValue) : Bool := decide ((v.Text.size : Int) ≤ 300)
def fewF (f : GFact) : Bool := decide ((f.Row.length : Int) ≤ 20) && f.Row.all fewV
def fewB (rules : List GRule) (facts : List GFact) (n : Int) : Bool := (decide ((rules.length : Int) ≤ 6) && decide ((facts.length : Int) ≤ n)) && rules.all fewR && facts.all fewF

theorem Few_spec (rules : List GRule) (facts : List GFact) (n : Int) (hn : n ≤ 1000000) : Fun1 Tryz.prog 11 [tSl rRule rules, tSl rFact facts, tV (.int .i64 n)] (tV (.bool (fewB rules facts n))) := by
  refine Spec.enter Tryz.func11 rfl rfl fun h0 w0 fr0 => ?_
  refine J_seq ?_
  refine J_region ?_
  refine JL_step rfl rfl rfl (step_assign Sub.rfl) ?_
  refine JL_nil ?_
  refine J_seq ?_
  refine J_seq ?_
  refine J_region ?_
  refine JL_step rfl rfl rfl (step_move Sub.rfl) ?_
  refine JL_step rfl rfl rfl (step_len_sl Tryz.underlying22 Sub.rfl) ?_
  refine JL_step rfl rfl rfl (step_gtr Sub.rfl Sub.rfl) ?_
  refine JL_step rfl rfl rfl (step_move Sub.rfl) ?_
  refine JL_stepG rfl rfl rfl (Gd.plain Sub.rfl) rfl rfl (fun hw => step_move Sub.rfl) ?_
  refine JL_stepG rfl rfl rfl (Gd.plain Sub.rfl) rfl rfl (fun hw => step_len_sl Tryz.underlying23 (Sub.w hw)) ?_
  refine JL_stepG rfl rfl rfl (Gd.plain Sub.rfl) rfl rfl (fun hw => step_move Sub.rfl) ?_
  refine JL_stepG rfl rfl rfl (Gd.plain Sub.rfl) rfl rfl (fun hw => step_gtr (Sub.w hw) (Sub.w hw)) ?_
  refine JL_step rfl rfl rfl (step_pick_or Sub.rfl Sub.rfl) ?_
  refine JL_nil ?_
  refine J_cond Sub.rfl (fun h18 => ?_) (fun h18 => ?_)
  · try simp only [decide_eq_true_eq, decide_eq_false_iff_not, Bool.and_eq_true, Bool.or_eq_true, Bool.and_eq_false_iff, Bool.or_eq_false_iff, Bool.not_eq_true', Bool.not_eq_false', Int.not_lt, Int.not_le, Bool.not_true, Bool.not_false] at h18
    have hq : (decide ((rules.length : Int) ≤ 6) && decide ((facts.length : Int) ≤ n)) = false := Bool.eq_false_iff.2 (fun h => by simp at h; omega)
    refine J_seq ?_
    refine J_region ?_
    refine JL_step rfl rfl rfl (step_assign Sub.rfl) ?_
    refine JL_nil ?_
    refine J_ret ?_
    refine K_ret1 (t := 6) rfl () ?_
    refine Sub.bool ?_
    simp only [fewB, hq, Bool.false_and]
  · try simp only [decide_eq_true_eq, decide_eq_false_iff_not, Bool.and_eq_true, Bool.or_eq_true, Bool.and_eq_false_iff, Bool.or_eq_false_iff, Bool.not_eq_true', Bool.not_eq_false', Int.not_lt, Int.not_le, Bool.not_true, Bool.not_false] at h18
    have hrl : (rules.length : Int) ≤ 6 := h18.1
    have hfl : (facts.length : Int) ≤ n := h18.2
    have hq0 : (decide ((rules.length : Int) ≤ 6) && decide ((facts.length : Int) ≤ n)) = true := by simp only [Bool.and_eq_true, decide_eq_true_eq]; exact ⟨hrl, hfl⟩
    refine J_skip ?_
    refine J_seq ?_
    refine J_seq ?_
    refine J_region ?_
    refine JL_step rfl rfl rfl (step_assign Sub.rfl) ?_
    refine JL_nil ?_
    refine J_block ?_
    refine J_loopL (σ := Nat) (fun i => i ≤ rules.length ∧ rules.all fewR = (rules.drop i).all fewR) (fun i => upd (upd (upd env0 0 (tSl rRule rules)) 1 (tSl rFact facts)) 7 (tV (.int .i64 i))) (fun i => []) (fun i => rules.length - i) 0 ⟨by omega, by simp⟩ (SubE.upd Sub.rfl (SubE.upd Sub.rfl (SubE.upd Sub.rfl SubE.any))) (LSub.rfl) ?_
    rintro i ⟨hi, hv⟩
    refine J_seq ?_
    refine J_seq ?_
    refine J_region ?_
    refine JL_step rfl rfl rfl (step_move Sub.rfl) ?_
    refine JL_step rfl rfl rfl (step_move Sub.rfl) ?_
    refine JL_step rfl rfl rfl (step_len_sl Tryz.underlying22 Sub.rfl) ?_
    refine JL_step rfl rfl rfl (step_lss Sub.rfl Sub.rfl) ?_
    refine JL_nil ?_
    refine J_cond Sub.rfl (fun h22 => ?_) (fun h22 => ?_)
    · try simp only [decide_eq_true_eq, decide_eq_false_iff_not, Bool.and_eq_true, Bool.or_eq_true, Bool.and_eq_false_iff, Bool.or_eq_false_iff, Bool.not_eq_true', Bool.not_eq_false', Int.not_lt, Int.not_le, Bool.not_true, Bool.not_false] at h22
      have hlt : i < rules.length := by omega
      have hd := dropB hlt
      refine J_skip ?_
      refine J_seq ?_
      refine J_block ?_
      refine J_seq ?_
      refine J_region ?_
      refine JL_step rfl rfl rfl (step_move Sub.rfl) ?_
      refine JL_step rfl rfl rfl (step_move Sub.rfl) ?_
      refine JL_step rfl rfl rfl (step_indexAddr_sl  Tryz.underlying22 ty32 Sub.rfl Sub.rfl rfl (gb ?sg1)) ?_
      case sg1 => first | assumption | omega
      refine JL_step rfl rfl rfl (step_fieldAddr so32 Sub.rfl rfl) ?_
      refine JL_step rfl rfl rfl (step_load_ptr ty24 Sub.rfl) ?_
      refine JL_step rfl rfl rfl (step_len_sl Tryz.underlying24 Sub.rfl) ?_
      refine JL_step rfl rfl rfl (step_gtr Sub.rfl Sub.rfl) ?_
      refine JL_step rfl rfl rfl (step_move Sub.rfl) ?_
      refine JL_stepG rfl rfl rfl (Gd.plain Sub.rfl) rfl rfl (fun hw => step_move Sub.rfl) ?_
      refine JL_stepG rfl rfl rfl (Gd.plain Sub.rfl) rfl rfl (fun hw => step_move Sub.rfl) ?_
      refine JL_stepG rfl rfl rfl (Gd.plain Sub.rfl) rfl rfl (fun hw => step_indexAddr_sl  Tryz.underlying22 ty32 (Sub.w hw) (Sub.w hw) rfl (gb ?sg1)) ?_
      case sg1 => have hwq := hw; (try simp only [beqB_t, beqB_f, decide_eq_true_eq, decide_eq_false_iff_not, Bool.and_eq_true, Bool.or_eq_true, Bool.and_eq_false_iff, Bool.or_eq_false_iff, Bool.not_eq_true', Bool.not_eq_false', Int.not_lt, Int.not_le, Bool.not_true, Bool.not_false] at hwq); first | assumption | omega
      refine JL_stepG rfl rfl rfl (Gd.plain Sub.rfl) rfl rfl (fun hw => step_fieldAddr so32 (Sub.w hw) rfl) ?_
      refine JL_stepG rfl rfl rfl (Gd.plain Sub.rfl) rfl rfl (fun hw => step_load_ptr ty29 (Sub.w hw)) ?_
      refine JL_stepG rfl rfl rfl (Gd.plain Sub.rfl) rfl rfl (fun hw => step_len_sl Tryz.underlying29 (Sub.w hw)) ?_
      refine JL_stepG rfl rfl rfl (Gd.plain Sub.rfl) rfl rfl (fun hw => step_gtr (Sub.w hw) Sub.rfl) ?_
      refine JL_step rfl rfl rfl (step_pick_or Sub.rfl Sub.rfl) ?_
      refine JL_step rfl rfl rfl (step_move Sub.rfl) ?_
      refine JL_stepG rfl rfl rfl (Gd.plain Sub.rfl) rfl rfl (fun hw => step_move Sub.rfl) ?_
      refine JL_stepG rfl rfl rfl (Gd.plain Sub.rfl) rfl rfl (fun hw => step_move Sub.rfl) ?_
      refine JL_stepG rfl rfl rfl (Gd.plain Sub.rfl) rfl rfl (fun hw => step_indexAddr_sl  Tryz.underlying22 ty32 (Sub.w hw) (Sub.w hw) rfl (gb ?sg1)) ?_
      case sg1 => have hwq := hw; (try simp only [beqB_t, beqB_f, decide_eq_true_eq, decide_eq_false_iff_not, Bool.and_eq_true, Bool.or_eq_true, Bool.and_eq_false_iff, Bool.or_eq_false_iff, Bool.not_eq_true', Bool.not_eq_false', Int.not_lt, Int.not_le, Bool.not_true, Bool.not_false] at hwq); first | assumption | omega
      refine JL_stepG rfl rfl rfl (Gd.plain Sub.rfl) rfl rfl (fun hw => step_fieldAddr so32 (Sub.w hw) rfl) ?_
      refine JL_stepG rfl rfl rfl (Gd.plain Sub.rfl) rfl rfl (fun hw => step_load_ptr ty24 (Sub.w hw)) ?_
      refine JL_stepG rfl rfl rfl (Gd.plain Sub.rfl) rfl rfl (fun hw => step_len_sl Tryz.underlying24 (Sub.w hw)) ?_
      refine JL_stepG rfl rfl rfl (Gd.plain Sub.rfl) rfl rfl (fun hw => step_gtr (Sub.w hw) Sub.rfl) ?_
      refine JL_step rfl rfl rfl (step_pick_or Sub.rfl Sub.rfl) ?_
      refine JL_step rfl rfl rfl (step_move Sub.rfl) ?_
      refine JL_stepG rfl rfl rfl (Gd.plain Sub.rfl) rfl rfl (fun hw => step_move Sub.rfl) ?_
      refine JL_stepG rfl rfl rfl (Gd.plain Sub.rfl) rfl rfl (fun hw => step_move Sub.rfl) ?_
      refine JL_stepG rfl rfl rfl (Gd.plain Sub.rfl) rfl rfl (fun hw => step_indexAddr_sl  Tryz.underlying22 ty32 (Sub.w hw) (Sub.w hw) rfl (gb ?sg1)) ?_
      case sg1 => have hwq := hw; (try simp only [beqB_t, beqB_f, decide_eq_true_eq, decide_eq_false_iff_not, Bool.and_eq_true, Bool.or_eq_true, Bool.and_eq_false_iff, Bool.or_eq_false_iff, Bool.not_eq_true', Bool.not_eq_false', Int.not_lt, Int.not_le, Bool.not_true, Bool.not_false] at hwq); first | assumption | omega
      refine JL_stepG rfl rfl rfl (Gd.plain Sub.rfl) rfl rfl (fun hw => step_fieldAddr so32 (Sub.w hw) rfl) ?_
      refine JL_stepG rfl rfl rfl (Gd.plain Sub.rfl) rfl rfl (fun hw => step_load_ptr ty30 (Sub.w hw)) ?_
      refine JL_stepG rfl rfl rfl (Gd.plain Sub.rfl) rfl rfl (fun hw => step_len_sl Tryz.underlying30 (Sub.w hw)) ?_
      refine JL_stepG rfl rfl rfl (Gd.plain Sub.rfl) rfl rfl (fun hw => step_gtr (Sub.w hw) Sub.rfl) ?_
      refine JL_step rfl rfl rfl (step_pick_or Sub.rfl Sub.rfl) ?_
      refine JL_nil ?_
      refine J_cond Sub.rfl (fun h58 => ?_) (fun h58 => ?_)
      · try simp only [decide_eq_true_eq, decide_eq_false_iff_not, Bool.and_eq_true, Bool.or_eq_true, Bool.and_eq_false_iff, Bool.or_eq_false_iff, Bool.not_eq_true', Bool.not_eq_false', Int.not_lt, Int.not_le, Bool.not_true, Bool.not_false] at h58
        have h58 : (((12 : Int) < (nth rules i).Cols.length ∨ (12 : Int) < (nth rules i).Fixed.length) ∨ (12 : Int) < (nth rules i).Tables.length) ∨ (12 : Int) < (nth rules i).Tests.length := h58
        have hq : fewR (nth rules i) = false := Bool.eq_false_iff.2 (fun h => by simp only [fewR, Bool.and_eq_true, decide_eq_true_eq] at h; omega)
        refine J_seq ?_
        refine J_region ?_
        refine JL_step rfl rfl rfl (step_assign Sub.rfl) ?_
        refine JL_nil ?_
        refine J_ret ?_
        refine K_ret1 (t := 6) rfl () ?_
        refine Sub.bool ?_
        simp only [fewB]; rw [hv, hd, List.all_cons, hq]; simp
      · try simp only [decide_eq_true_eq, decide_eq_false_iff_not, Bool.and_eq_true, Bool.or_eq_true, Bool.and_eq_false_iff, Bool.or_eq_false_iff, Bool.not_eq_true', Bool.not_eq_false', Int.not_lt, Int.not_le, Bool.not_true, Bool.not_false] at h58
        have h58 : ((((nth rules i).Cols.length : Int) ≤ 12 ∧ ((nth rules i).Fixed.length : Int) ≤ 12) ∧ ((nth rules i).Tables.length : Int) ≤ 12) ∧ ((nth rules i).Tests.length : Int) ≤ 12 := h58
        have hq : fewR (nth rules i) = true := by simp only [fewR, Bool.and_eq_true, decide_eq_true_eq]; exact h58
        refine J_skip ?_
        refine J_region ?_
        refine JL_step rfl rfl rfl (step_move Sub.rfl) ?_
        refine JL_step rfl rfl rfl (step_add Sub.rfl Sub.rfl ?sg1) ?_
        case sg1 => unfold in64; omega
        refine JL_step rfl rfl rfl (step_assign Sub.rfl) ?_
        refine JL_nil ?_
        refine K_againL (σ := Nat) (s := i) (i + 1) (by first | omega | (dsimp only; omega) | (simp_all; omega)) ?_ (SubE.upd Sub.rfl (SubE.upd Sub.rfl (SubE.upd Sub.rfl SubE.any))) (LSub.rfl)
        refine ⟨by omega, ?_⟩
        rw [hv, hd, List.all_cons, hq, Bool.true_and]
    · try simp only [decide_eq_true_eq, decide_eq_false_iff_not, Bool.and_eq_true, Bool.or_eq_true, Bool.and_eq_false_iff, Bool.or_eq_false_iff, Bool.not_eq_true', Bool.not_eq_false', Int.not_lt, Int.not_le, Bool.not_true, Bool.not_false] at h22
      have hrt : rules.all fewR = true := by rw [hv, List.drop_of_length_le (by omega)]; rfl
      refine J_exit ?_
      refine J_seq ?_
      refine J_seq ?_
      refine J_region ?_
      refine JL_step rfl rfl rfl (step_assign Sub.rfl) ?_
      refine JL_nil ?_
      refine J_block ?_
      refine J_loopL (σ := Nat) (fun j => j ≤ facts.length ∧ facts.all fewF = (facts.drop j).all fewF) (fun j => upd (upd env0 1 (tSl rFact facts)) 8 (tV (.int .i64 j))) (fun j => []) (fun j => facts.length - j) 0 ⟨by omega, by simp⟩ (SubE.upd Sub.rfl (SubE.upd Sub.rfl SubE.any)) (LSub.rfl) ?_
      rintro j ⟨hj, hw⟩
      refine J_seq ?_
      refine J_seq ?_
      refine J_region ?_
      refine JL_step rfl rfl rfl (step_move Sub.rfl) ?_
      refine JL_step rfl rfl rfl (step_move Sub.rfl) ?_
      refine JL_step rfl rfl rfl (step_len_sl Tryz.underlying23 Sub.rfl) ?_
      refine JL_step rfl rfl rfl (step_lss Sub.rfl Sub.rfl) ?_
      refine JL_nil ?_
      refine J_cond Sub.rfl (fun h62 => ?_) (fun h62 => ?_)
      · try simp only [decide_eq_true_eq, decide_eq_false_iff_not, Bool.and_eq_true, Bool.or_eq_true, Bool.and_eq_false_iff, Bool.or_eq_false_iff, Bool.not_eq_true', Bool.not_eq_false', Int.not_lt, Int.not_le, Bool.not_true, Bool.not_false] at h62
        have hlj : j < facts.length := by omega
        have he := dropB hlj
        refine J_skip ?_
        refine J_seq ?_
        refine J_block ?_
        refine J_seq ?_
        refine J_seq ?_
        refine J_region ?_
        refine JL_step rfl rfl rfl (step_move Sub.rfl) ?_
        refine JL_step rfl rfl rfl (step_move Sub.rfl) ?_
        refine JL_step rfl rfl rfl (step_indexAddr_sl  Tryz.underlying23 ty54 Sub.rfl Sub.rfl rfl (gb ?sg1)) ?_
        case sg1 => first | assumption | omega
        refine JL_step rfl rfl rfl (step_fieldAddr so54 Sub.rfl rfl) ?_
        refine JL_step rfl rfl rfl (step_load_ptr ty52 Sub.rfl) ?_
        refine JL_step rfl rfl rfl (step_len_sl Tryz.underlying52 Sub.rfl) ?_
        refine JL_step rfl rfl rfl (step_gtr Sub.rfl Sub.rfl) ?_
        refine JL_nil ?_
        refine J_cond Sub.rfl (fun h71 => ?_) (fun h71 => ?_)
        · try simp only [decide_eq_true_eq, decide_eq_false_iff_not, Bool.and_eq_true, Bool.or_eq_true, Bool.and_eq_false_iff, Bool.or_eq_false_iff, Bool.not_eq_true', Bool.not_eq_false', Int.not_lt, Int.not_le, Bool.not_true, Bool.not_false] at h71
          have h71 : (20 : Int) < (nth facts j).Row.length := h71
          have hq : fewF (nth facts j) = false := Bool.eq_false_iff.2 (fun h => by simp only [fewF, Bool.and_eq_true, decide_eq_true_eq] at h; omega)
          refine J_seq ?_
          refine J_region ?_
          refine JL_step rfl rfl rfl (step_assign Sub.rfl) ?_
          refine JL_nil ?_
          refine J_ret ?_
          refine K_ret1 (t := 6) rfl () ?_
          refine Sub.bool ?_
          simp only [fewB]; rw [hw, he, List.all_cons, hq]; simp
        · try simp only [decide_eq_true_eq, decide_eq_false_iff_not, Bool.and_eq_true, Bool.or_eq_true, Bool.and_eq_false_iff, Bool.or_eq_false_iff, Bool.not_eq_true', Bool.not_eq_false', Int.not_lt, Int.not_le, Bool.not_true, Bool.not_false] at h71
          have h71 : ((nth facts j).Row.length : Int) ≤ 20 := h71
          refine J_skip ?_
          refine J_seq ?_
          refine J_region ?_
          refine JL_step rfl rfl rfl (step_assign Sub.rfl) ?_
          refine JL_nil ?_
          refine J_block ?_
          refine J_loopL (σ := Nat) (fun k => k ≤ (nth facts j).Row.length ∧ (nth facts j).Row.all fewV = ((nth facts j).Row.drop k).all fewV) (fun k => upd (upd (upd (upd (upd (upd (upd env0 1 (tSl rFact facts)) 8 (tV (.int .i64 j))) 9 (tV (.int .i64 k))) 59 (tV (.int .i64 j))) 60 (tSl rFact facts)) 65 (tSl rFact facts)) 66 (tV (.int .i64 j))) (fun k => []) (fun k => (nth facts j).Row.length - k) 0 ⟨by omega, by simp⟩ (SubE.upd Sub.rfl (SubE.upd Sub.rfl (SubE.upd Sub.rfl (SubE.upd Sub.rfl (SubE.upd Sub.rfl (SubE.upd Sub.rfl (SubE.upd Sub.rfl SubE.any))))))) (LSub.rfl) ?_
          rintro k ⟨hk, hx⟩
          refine J_seq ?_
          refine J_seq ?_
          refine J_region ?_
          refine JL_step rfl rfl rfl (step_move Sub.rfl) ?_
          refine JL_step rfl rfl rfl (step_move Sub.rfl) ?_
          refine JL_step rfl rfl rfl (step_move Sub.rfl) ?_
          refine JL_step rfl rfl rfl (step_indexAddr_sl  Tryz.underlying23 ty54 Sub.rfl Sub.rfl rfl (gb ?sg1)) ?_
          case sg1 => first | assumption | omega
          refine JL_step rfl rfl rfl (step_fieldAddr so54 Sub.rfl rfl) ?_
          refine JL_step rfl rfl rfl (step_load_ptr ty52 Sub.rfl) ?_
          refine JL_step rfl rfl rfl (step_len_sl Tryz.underlying52 Sub.rfl) ?_
          refine JL_step rfl rfl rfl (step_lss Sub.rfl Sub.rfl) ?_
          refine JL_nil ?_
          refine J_cond Sub.rfl (fun h79 => ?_) (fun h79 => ?_)
          · try simp only [decide_eq_true_eq, decide_eq_false_iff_not, Bool.and_eq_true, Bool.or_eq_true, Bool.and_eq_false_iff, Bool.or_eq_false_iff, Bool.not_eq_true', Bool.not_eq_false', Int.not_lt, Int.not_le, Bool.not_true, Bool.not_false] at h79
            have hlk : k < (nth facts j).Row.length := by have h79 : (k : Int) < (nth facts j).Row.length := h79; omega
            have hf := dropB hlk
            refine J_skip ?_
            refine J_seq ?_
            refine J_block ?_
            refine J_seq ?_
            refine J_region ?_
            refine JL_step rfl rfl rfl (step_move Sub.rfl) ?_
            refine JL_step rfl rfl rfl (step_move Sub.rfl) ?_
            refine JL_step rfl rfl rfl (step_indexAddr_sl  Tryz.underlying23 ty54 Sub.rfl Sub.rfl rfl (gb ?sg1)) ?_
            case sg1 => first | assumption | omega
            refine JL_step rfl rfl rfl (step_fieldAddr so54 Sub.rfl rfl) ?_
            refine JL_step rfl rfl rfl (step_load_ptr ty52 Sub.rfl) ?_
            refine JL_step rfl rfl rfl (step_move Sub.rfl) ?_
            refine JL_step rfl rfl rfl (step_indexAddr_sl  Tryz.underlying52 ty60 Sub.rfl Sub.rfl rfl (gb ?sg1)) ?_
            case sg1 => exact hlk
            refine JL_step rfl rfl rfl (step_fieldAddr so60 Sub.rfl rfl) ?_
            refine JL_step rfl rfl rfl (step_load_ptr ty9 Sub.rfl) ?_
            refine JL_step rfl rfl rfl (step_len_str Tryz.underlying9 Sub.rfl) ?_
            refine JL_step rfl rfl rfl (step_gtr Sub.rfl Sub.rfl) ?_
            refine JL_nil ?_
            refine J_cond Sub.rfl (fun h92 => ?_) (fun h92 => ?_)
            · try simp only [decide_eq_true_eq, decide_eq_false_iff_not, Bool.and_eq_true, Bool.or_eq_true, Bool.and_eq_false_iff, Bool.or_eq_false_iff, Bool.not_eq_true', Bool.not_eq_false', Int.not_lt, Int.not_le, Bool.not_true, Bool.not_false] at h92
              have h92 : (300 : Int) < (nth (nth facts j).Row k).Text.size := h92
              have hq : fewV (nth (nth facts j).Row k) = false := Bool.eq_false_iff.2 (fun h => by simp only [fewV, decide_eq_true_eq] at h; omega)
              refine J_seq ?_
              refine J_region ?_
              refine JL_step rfl rfl rfl (step_assign Sub.rfl) ?_
              refine JL_nil ?_
              refine J_ret ?_
              refine K_ret1 (t := 6) rfl () ?_
              refine Sub.bool ?_
              have hq2 : fewF (nth facts j) = false := by simp only [fewF]; rw [hx, hf, List.all_cons, hq]; simp
              simp only [fewB]; rw [hw, he, List.all_cons, hq2]; simp
            · try simp only [decide_eq_true_eq, decide_eq_false_iff_not, Bool.and_eq_true, Bool.or_eq_true, Bool.and_eq_false_iff, Bool.or_eq_false_iff, Bool.not_eq_true', Bool.not_eq_false', Int.not_lt, Int.not_le, Bool.not_true, Bool.not_false] at h92
              have h92 : ((nth (nth facts j).Row k).Text.size : Int) ≤ 300 := h92
              have hq : fewV (nth (nth facts j).Row k) = true := by simp only [fewV, decide_eq_true_eq]; exact h92
              refine J_skip ?_
              refine J_region ?_
              refine JL_step rfl rfl rfl (step_move Sub.rfl) ?_
              refine JL_step rfl rfl rfl (step_add Sub.rfl Sub.rfl ?sg1) ?_
              case sg1 => unfold in64; omega
              refine JL_step rfl rfl rfl (step_assign Sub.rfl) ?_
              refine JL_nil ?_
              refine K_againL (σ := Nat) (s := k) (k + 1) (by first | omega | (dsimp only; omega) | (simp_all; omega)) ?_ (SubE.upd Sub.rfl (SubE.upd Sub.rfl (SubE.upd Sub.rfl (SubE.upd Sub.rfl (SubE.upd Sub.rfl (SubE.upd Sub.rfl (SubE.upd Sub.rfl SubE.any))))))) (LSub.rfl)
              refine ⟨by omega, ?_⟩
              rw [hx, hf, List.all_cons, hq, Bool.true_and]
          · try simp only [decide_eq_true_eq, decide_eq_false_iff_not, Bool.and_eq_true, Bool.or_eq_true, Bool.and_eq_false_iff, Bool.or_eq_false_iff, Bool.not_eq_true', Bool.not_eq_false', Int.not_lt, Int.not_le, Bool.not_true, Bool.not_false] at h79
            have hrw : (nth facts j).Row.all fewV = true := by have h79 : ((nth facts j).Row.length : Int) ≤ k := h79; rw [hx, List.drop_of_length_le (by omega)]; rfl
            refine J_exit ?_
            refine J_region ?_
            refine JL_step rfl rfl rfl (step_move Sub.rfl) ?_
            refine JL_step rfl rfl rfl (step_add Sub.rfl Sub.rfl ?sg1) ?_
            case sg1 => unfold in64; omega
            refine JL_step rfl rfl rfl (step_assign Sub.rfl) ?_
            refine JL_nil ?_
            refine K_againL (σ := Nat) (s := j) (j + 1) (by first | omega | (dsimp only; omega) | (simp_all; omega)) ?_ (SubE.upd Sub.rfl (SubE.upd Sub.rfl SubE.any)) (LSub.rfl)
            refine ⟨by omega, ?_⟩
            rw [hw, he, List.all_cons]
            have : fewF (nth facts j) = true := by simp only [fewF, Bool.and_eq_true, decide_eq_true_eq]; exact ⟨h71, hrw⟩
            rw [this, Bool.true_and]
      · try simp only [decide_eq_true_eq, decide_eq_false_iff_not, Bool.and_eq_true, Bool.or_eq_true, Bool.and_eq_false_iff, Bool.or_eq_false_iff, Bool.not_eq_true', Bool.not_eq_false', Int.not_lt, Int.not_le, Bool.not_true, Bool.not_false] at h62
        refine J_exit ?_
        refine J_seq ?_
        refine J_region ?_
        refine JL_step rfl rfl rfl (step_assign Sub.rfl) ?_
        refine JL_nil ?_
        refine J_ret ?_
        refine K_ret1 (t := 6) rfl () ?_
        refine Sub.bool ?_
        have hft : facts.all fewF = true := by rw [hw, List.drop_of_length_le (by omega)]; rfl
        simp only [fewB, hq0, hrt, hft]; rfl
end Lg

namespace Lg
open Go Go.Proofs

theorem has_spec (l : List (List Int)) (set : List Int) (hl : l.length ≤ 1000000000000) (hs : set.length ≤ 1000000000000) (hle : ∀ x ∈ l, x.length ≤ 1000000000000) : Fun1 Tryz.prog 40 [tSl (rSl rInt) l, tSl rInt set] (tV (.bool (l.any fun b => b.all fun x => set.contains x))) := by
  refine Spec.enter Tryz.func40 rfl rfl fun h0 w0 fr0 => ?_
  refine J_seq ?_
  refine J_region ?_
  refine JL_step rfl rfl rfl (step_assign Sub.rfl) ?_
  refine JL_nil ?_
  refine J_seq ?_
  refine J_seq ?_
  refine J_region ?_
  refine JL_step rfl rfl rfl (step_assign Sub.rfl) ?_
  refine JL_nil ?_
  refine J_block ?_
  refine J_loopL (σ := Nat) (fun i => i ≤ l.length ∧ (l.any fun b => b.all fun x => set.contains x) = (l.drop i).any fun b => b.all fun x => set.contains x) (fun i => upd (upd (upd env0 0 (tSl (rSl rInt) l)) 1 (tSl rInt set)) 5 (tV (.int .i64 i))) (fun i => []) (fun i => l.length - i) 0 ⟨by omega, by simp⟩ (SubE.upd Sub.rfl (SubE.upd Sub.rfl (SubE.upd Sub.rfl SubE.any))) (LSub.rfl) ?_
  rintro i ⟨hi, hv⟩
  refine J_seq ?_
  refine J_seq ?_
  refine J_region ?_
  refine JL_step rfl rfl rfl (step_move Sub.rfl) ?_
  refine JL_step rfl rfl rfl (step_move Sub.rfl) ?_
  refine JL_step rfl rfl rfl (step_len_sl Tryz.underlying33 Sub.rfl) ?_
  refine JL_step rfl rfl rfl (step_lss Sub.rfl Sub.rfl) ?_
  refine JL_nil ?_
  refine J_cond Sub.rfl (fun h9 => ?_) (fun h9 => ?_)
  · try simp only [decide_eq_true_eq, decide_eq_false_iff_not, Bool.and_eq_true, Bool.or_eq_true, Bool.and_eq_false_iff, Bool.or_eq_false_iff, Bool.not_eq_true', Bool.not_eq_false', Int.not_lt, Int.not_le, Bool.not_true, Bool.not_false] at h9
    have hlt : i < l.length := by omega
    have hd := dropB hlt
    refine J_skip ?_
    refine J_seq ?_
    refine J_block ?_
    refine J_seq ?_
    refine J_region ?_
    refine JL_step rfl rfl rfl (step_move Sub.rfl) ?_
    refine JL_step rfl rfl rfl (step_move Sub.rfl) ?_
    refine JL_step rfl rfl rfl (step_move Sub.rfl) ?_
    refine JL_step rfl rfl rfl (step_indexAddr_sl  Tryz.underlying33 ty24 Sub.rfl Sub.rfl rfl (gb ?sg1)) ?_
    case sg1 => first | assumption | omega
    refine JL_step rfl rfl rfl (step_load_ptr ty24 Sub.rfl) ?_
    refine JL_step rfl rfl rfl (step_call0 (Contains_spec _ _ hs (hle _ (nth_mem hlt))) ⟨Sub.rfl, Sub.rfl, trivial⟩ Tryz.call51) ?_
    refine JL_nil ?_
    refine J_cond Sub.rfl (fun h17 => ?_) (fun h17 => ?_)
    · try simp only [decide_eq_true_eq, decide_eq_false_iff_not, Bool.and_eq_true, Bool.or_eq_true, Bool.and_eq_false_iff, Bool.or_eq_false_iff, Bool.not_eq_true', Bool.not_eq_false', Int.not_lt, Int.not_le, Bool.not_true, Bool.not_false] at h17
      skip
      refine J_seq ?_
      refine J_region ?_
      refine JL_step rfl rfl rfl (step_assign Sub.rfl) ?_
      refine JL_nil ?_
      refine J_ret ?_
      refine K_ret1 (t := 4) rfl () ?_
      refine Sub.bool ?_
      rw [hv, hd, List.any_cons, h17]; rfl
    · try simp only [decide_eq_true_eq, decide_eq_false_iff_not, Bool.and_eq_true, Bool.or_eq_true, Bool.and_eq_false_iff, Bool.or_eq_false_iff, Bool.not_eq_true', Bool.not_eq_false', Int.not_lt, Int.not_le, Bool.not_true, Bool.not_false] at h17
      refine J_skip ?_
      refine J_region ?_
      refine JL_step rfl rfl rfl (step_move Sub.rfl) ?_
      refine JL_step rfl rfl rfl (step_add Sub.rfl Sub.rfl ?sg1) ?_
      case sg1 => unfold in64; omega
      refine JL_step rfl rfl rfl (step_assign Sub.rfl) ?_
      refine JL_nil ?_
      refine K_againL (σ := Nat) (s := i) (i + 1) (by first | omega | (dsimp only; omega) | (simp_all; omega)) ?_ (SubE.upd Sub.rfl (SubE.upd Sub.rfl (SubE.upd Sub.rfl SubE.any))) (LSub.rfl)
      refine ⟨by omega, ?_⟩
      rw [hv, hd, List.any_cons, h17, Bool.false_or]
  · try simp only [decide_eq_true_eq, decide_eq_false_iff_not, Bool.and_eq_true, Bool.or_eq_true, Bool.and_eq_false_iff, Bool.or_eq_false_iff, Bool.not_eq_true', Bool.not_eq_false', Int.not_lt, Int.not_le, Bool.not_true, Bool.not_false] at h9
    refine J_exit ?_
    refine J_seq ?_
    refine J_region ?_
    refine JL_step rfl rfl rfl (step_assign Sub.rfl) ?_
    refine JL_nil ?_
    refine J_ret ?_
    refine K_ret1 (t := 4) rfl () ?_
    refine Sub.bool ?_
    rw [hv, List.drop_of_length_le (by omega)]; rfl
end Lg

namespace Lg
open Go Go.Proofs


abbrev edgT (dn : List Int) (vs : List (List Int)) : List (List Int) := (dn.map fun d => [d]) ++ vs
theorem edg_pre1 {dn : List Int} {vs : List (List Int)} {i : Nat} (h : i < dn.length) : ((dn.take i).map fun d => [d]) ++ [[nth dn i]] <+: edgT dn vs := by
  have e : ((dn.take i).map fun d => [d]) ++ [[nth dn i]] = (dn.take (i + 1)).map fun d => [d] := by rw [takeB h]; simp
  rw [e]
  exact List.IsPrefix.trans ((List.take_prefix _ _).map _) (List.prefix_append _ _)
theorem edg_pre2 {dn : List Int} {vs : List (List Int)} {j : Nat} (h : j < vs.length) : ((dn.map fun d => [d]) ++ vs.take j) ++ [nth vs j] <+: edgT dn vs := by
  rw [List.append_assoc, ← takeB h]
  exact (List.prefix_append_right_inj _).2 (List.take_prefix _ _)

theorem edges_spec (rules : List GRule) (facts : List GFact) (dn : List Int) (vs : List (List Int)) (hD : Fun1 Tryz.prog 22 [tSl rRule rules, tSl rFact facts] (tSlE 3 rInt dn)) (hdl : dn.length ≤ 1000000) (hvl : vs.length ≤ 1000000) : ItSpec Tryz.prog 42 [tPtr (rSl rRule) rules, tPtr (rSl rFact) facts, tPtr (rSlE 24 rI2) vs] [] (tI2) (okP (edgT dn vs)) (fun p => p = (edgT dn vs)) := by
  intro M Mx
  refine Spec.enter Tryz.func42 rfl rfl fun h0 w0 fr0 => ?_
  refine J_seq ?_
  refine J_seq ?_
  refine J_region ?_
  refine JL_step rfl rfl rfl (step_load_ptr ty22 Sub.rfl) ?_
  refine JL_step rfl rfl rfl (step_load_ptr ty23 Sub.rfl) ?_
  refine JL_step rfl rfl rfl (step_call0 (hD) ⟨Sub.rfl, Sub.rfl, trivial⟩ Tryz.call22) ?_
  refine JL_step rfl rfl rfl (step_len_sl Tryz.underlying24 Sub.ofE) ?_
  refine JL_step rfl rfl rfl (step_move Sub.rfl) ?_
  refine JL_nil ?_
  refine J_block ?_
  refine J_loopL (σ := Nat) (fun i => i ≤ dn.length) (fun i => upd (upd (upd (upd (upd env0 0 (tYield Tryz.prog tI2 (okP (edgT dn vs)) M Mx)) 3 (tPtr (rSlE 24 rI2) vs)) 11 (tSlE 3 rInt dn)) 12 (tV (.int .i64 dn.length))) 13 (tV (.int .i64 i))) (fun i => [M ((dn.take i).map fun d => [d])]) (fun i => dn.length - i) 0 (by simp) (SubE.upd Sub.rfl (SubE.upd Sub.rfl (SubE.upd Sub.rfl (SubE.upd Sub.rfl (SubE.upd Sub.rfl SubE.any))))) (LSub.of rfl) ?_
  rintro i hi
  refine J_seq ?_
  refine J_region ?_
  refine JL_step rfl rfl rfl (step_lss Sub.rfl Sub.rfl) ?_
  refine JL_nil ?_
  refine J_seq ?_
  refine J_cond Sub.rfl (fun hc1 => ?_) (fun hc1 => ?_)
  · try simp only [decide_eq_true_eq, decide_eq_false_iff_not, Bool.and_eq_true, Bool.or_eq_true, Bool.and_eq_false_iff, Bool.or_eq_false_iff, Bool.not_eq_true', Bool.not_eq_false', Int.not_lt, Int.not_le, Bool.not_true, Bool.not_false] at hc1
    have hlt : i < dn.length := by omega
    refine J_skip ?_
    refine J_seq ?_
    refine J_block ?_
    refine J_seq ?_
    refine J_region ?_
    refine JL_step rfl rfl rfl (step_indexAddr_sl  Tryz.underlying24 ty3 Sub.ofE Sub.rfl rfl (gb ?sg1)) ?_
    case sg1 => first | assumption | omega
    refine JL_step rfl rfl rfl (step_load_ptr ty3 Sub.rfl) ?_
    refine JL_step rfl rfl rfl (step_assign Sub.rfl) ?_
    refine JL_nil ?_
    refine J_seq ?_
    refine J_region ?_
    refine JL_step rfl rfl rfl (step_move Sub.rfl) ?_
    refine JL_step rfl rfl rfl (step_move Sub.rfl) ?_
    refine JL_step rfl rfl rfl (step_literalE (ys := [_]) Tryz.underlying24 el3 ⟨rfl, Sub.rfl, trivial⟩ rfl (by decide)) ?_
    refine JL_stepX rfl rfl rfl (step_yield (T := tI2) (Ok := okP (edgT dn vs)) (M := M) (Mx := Mx) (pre := ((dn.take i).map fun d => [d])) (y := [nth dn i]) Sub.rfl ?sg1 ?sg2 (by first | exact Sel.take (Sel.none _) | exact Sel.skip (Sel.take (Sel.none _)) | exact Sel.skip (Sel.skip (Sel.take (Sel.none _))) | exact Sel.skip (Sel.skip (Sel.skip (Sel.take (Sel.none _)))) | exact Sel.skip (Sel.skip (Sel.skip (Sel.skip (Sel.take (Sel.none _))))))) fun v20 => ?_
    case sg1 => exact edg_pre1 hlt
    case sg2 => exact ⟨Sub.rfl, trivial⟩
    cases v20
    · skip
      refine JL_step rfl rfl rfl (step_not Sub.rfl) ?_
      refine JL_nil ?_
      refine J_cond Sub.rfl (fun hc2 => ?_) (fun hc2 => ?_)
      · try simp only [decide_eq_true_eq, decide_eq_false_iff_not, Bool.and_eq_true, Bool.or_eq_true, Bool.and_eq_false_iff, Bool.or_eq_false_iff, Bool.not_eq_true', Bool.not_eq_false', Int.not_lt, Int.not_le, Bool.not_true, Bool.not_false] at hc2
        refine J_ret ?_
        refine K_itStop (Fin := fun p => p = (edgT dn vs)) (M := M) (Mx := Mx) (A := []) ?_ (((dn.take i).map fun d => [d]) ++ [[nth dn i]]) ?_
        · rfl
        · exact LSub.of rfl
      · try simp only [decide_eq_true_eq, decide_eq_false_iff_not, Bool.and_eq_true, Bool.or_eq_true, Bool.and_eq_false_iff, Bool.or_eq_false_iff, Bool.not_eq_true', Bool.not_eq_false', Int.not_lt, Int.not_le, Bool.not_true, Bool.not_false] at hc2
        exfalso; simp_all
    · skip
      refine JL_step rfl rfl rfl (step_not Sub.rfl) ?_
      refine JL_nil ?_
      refine J_cond Sub.rfl (fun hc3 => ?_) (fun hc3 => ?_)
      · try simp only [decide_eq_true_eq, decide_eq_false_iff_not, Bool.and_eq_true, Bool.or_eq_true, Bool.and_eq_false_iff, Bool.or_eq_false_iff, Bool.not_eq_true', Bool.not_eq_false', Int.not_lt, Int.not_le, Bool.not_true, Bool.not_false] at hc3
        exfalso; simp_all
      · try simp only [decide_eq_true_eq, decide_eq_false_iff_not, Bool.and_eq_true, Bool.or_eq_true, Bool.and_eq_false_iff, Bool.or_eq_false_iff, Bool.not_eq_true', Bool.not_eq_false', Int.not_lt, Int.not_le, Bool.not_true, Bool.not_false] at hc3
        refine J_skip ?_
        refine J_region ?_
        refine JL_step rfl rfl rfl (step_add Sub.rfl Sub.rfl ?sg1) ?_
        case sg1 => unfold in64; omega
        refine JL_step rfl rfl rfl (step_move Sub.rfl) ?_
        refine JL_nil ?_
        refine K_againL (σ := Nat) (s := i) (i + 1) (by first | omega | (dsimp only; omega) | (simp_all; omega)) (by omega) (SubE.upd Sub.rfl (SubE.upd Sub.rfl (SubE.upd Sub.rfl (SubE.upd Sub.rfl (SubE.upd Sub.rfl SubE.any))))) (LSub.of (by rw [takeB hlt]; simp))
  · try simp only [decide_eq_true_eq, decide_eq_false_iff_not, Bool.and_eq_true, Bool.or_eq_true, Bool.and_eq_false_iff, Bool.or_eq_false_iff, Bool.not_eq_true', Bool.not_eq_false', Int.not_lt, Int.not_le, Bool.not_true, Bool.not_false] at hc1
    obtain rfl : i = dn.length := by omega
    refine J_exit ?_
    refine J_seq ?_
    refine J_region ?_
    refine JL_step rfl rfl rfl (step_load_ptr ty33E Sub.rfl) ?_
    refine JL_step rfl rfl rfl (step_len_sl Tryz.underlying33 Sub.ofE) ?_
    refine JL_step rfl rfl rfl (step_move Sub.rfl) ?_
    refine JL_nil ?_
    refine J_block ?_
    refine J_loopL (σ := Nat) (fun j => j ≤ vs.length) (fun j => upd (upd (upd (upd env0 0 (tYield Tryz.prog tI2 (okP (edgT dn vs)) M Mx)) 23 (tSlE 24 rI2 vs)) 24 (tV (.int .i64 vs.length))) 25 (tV (.int .i64 j))) (fun j => [M ((dn.map fun d => [d]) ++ vs.take j)]) (fun j => vs.length - j) 0 (by simp) (SubE.upd Sub.rfl (SubE.upd Sub.rfl (SubE.upd Sub.rfl (SubE.upd Sub.rfl SubE.any)))) (LSub.of (by simp)) ?_
    rintro j hj
    refine J_seq ?_
    refine J_region ?_
    refine JL_step rfl rfl rfl (step_lss Sub.rfl Sub.rfl) ?_
    refine JL_nil ?_
    refine J_seq ?_
    refine J_cond Sub.rfl (fun hc4 => ?_) (fun hc4 => ?_)
    · try simp only [decide_eq_true_eq, decide_eq_false_iff_not, Bool.and_eq_true, Bool.or_eq_true, Bool.and_eq_false_iff, Bool.or_eq_false_iff, Bool.not_eq_true', Bool.not_eq_false', Int.not_lt, Int.not_le, Bool.not_true, Bool.not_false] at hc4
      have hlj : j < vs.length := by omega
      refine J_skip ?_
      refine J_seq ?_
      refine J_block ?_
      refine J_seq ?_
      refine J_region ?_
      refine JL_step rfl rfl rfl (step_indexAddr_sl  Tryz.underlying33 ty24E Sub.ofE Sub.rfl rfl (gb ?sg1)) ?_
      case sg1 => first | assumption | omega
      refine JL_step rfl rfl rfl (step_load_ptr ty24E Sub.rfl) ?_
      refine JL_step rfl rfl rfl (step_assign Sub.rfl) ?_
      refine JL_nil ?_
      refine J_seq ?_
      refine J_region ?_
      refine JL_step rfl rfl rfl (step_move Sub.rfl) ?_
      refine JL_step rfl rfl rfl (step_move Sub.rfl) ?_
      refine JL_stepX rfl rfl rfl (step_yield (T := tI2) (Ok := okP (edgT dn vs)) (M := M) (Mx := Mx) (pre := ((dn.map fun d => [d]) ++ vs.take j)) (y := nth vs j) Sub.rfl ?sg1 ?sg2 (by first | exact Sel.take (Sel.none _) | exact Sel.skip (Sel.take (Sel.none _)) | exact Sel.skip (Sel.skip (Sel.take (Sel.none _))) | exact Sel.skip (Sel.skip (Sel.skip (Sel.take (Sel.none _)))) | exact Sel.skip (Sel.skip (Sel.skip (Sel.skip (Sel.take (Sel.none _))))))) fun v31 => ?_
      case sg1 => exact edg_pre2 hlj
      case sg2 => exact ⟨Sub.rfl, trivial⟩
      cases v31
      · skip
        refine JL_step rfl rfl rfl (step_not Sub.rfl) ?_
        refine JL_nil ?_
        refine J_cond Sub.rfl (fun hc5 => ?_) (fun hc5 => ?_)
        · try simp only [decide_eq_true_eq, decide_eq_false_iff_not, Bool.and_eq_true, Bool.or_eq_true, Bool.and_eq_false_iff, Bool.or_eq_false_iff, Bool.not_eq_true', Bool.not_eq_false', Int.not_lt, Int.not_le, Bool.not_true, Bool.not_false] at hc5
          refine J_ret ?_
          refine K_itStop (Fin := fun p => p = (edgT dn vs)) (M := M) (Mx := Mx) (A := []) ?_ (((dn.map fun d => [d]) ++ vs.take j) ++ [nth vs j]) ?_
          · rfl
          · exact LSub.of rfl
        · try simp only [decide_eq_true_eq, decide_eq_false_iff_not, Bool.and_eq_true, Bool.or_eq_true, Bool.and_eq_false_iff, Bool.or_eq_false_iff, Bool.not_eq_true', Bool.not_eq_false', Int.not_lt, Int.not_le, Bool.not_true, Bool.not_false] at hc5
          exfalso; simp_all
      · skip
        refine JL_step rfl rfl rfl (step_not Sub.rfl) ?_
        refine JL_nil ?_
        refine J_cond Sub.rfl (fun hc6 => ?_) (fun hc6 => ?_)
        · try simp only [decide_eq_true_eq, decide_eq_false_iff_not, Bool.and_eq_true, Bool.or_eq_true, Bool.and_eq_false_iff, Bool.or_eq_false_iff, Bool.not_eq_true', Bool.not_eq_false', Int.not_lt, Int.not_le, Bool.not_true, Bool.not_false] at hc6
          exfalso; simp_all
        · try simp only [decide_eq_true_eq, decide_eq_false_iff_not, Bool.and_eq_true, Bool.or_eq_true, Bool.and_eq_false_iff, Bool.or_eq_false_iff, Bool.not_eq_true', Bool.not_eq_false', Int.not_lt, Int.not_le, Bool.not_true, Bool.not_false] at hc6
          refine J_skip ?_
          refine J_region ?_
          refine JL_step rfl rfl rfl (step_add Sub.rfl Sub.rfl ?sg1) ?_
          case sg1 => unfold in64; omega
          refine JL_step rfl rfl rfl (step_move Sub.rfl) ?_
          refine JL_nil ?_
          refine K_againL (σ := Nat) (s := j) (j + 1) (by first | omega | (dsimp only; omega) | (simp_all; omega)) (by omega) (SubE.upd Sub.rfl (SubE.upd Sub.rfl (SubE.upd Sub.rfl (SubE.upd Sub.rfl SubE.any)))) (LSub.of (by rw [takeB hlj]; simp))
    · try simp only [decide_eq_true_eq, decide_eq_false_iff_not, Bool.and_eq_true, Bool.or_eq_true, Bool.and_eq_false_iff, Bool.or_eq_false_iff, Bool.not_eq_true', Bool.not_eq_false', Int.not_lt, Int.not_le, Bool.not_true, Bool.not_false] at hc4
      obtain rfl : j = vs.length := by omega
      refine J_exit ?_
      refine K_endRet (K_itDone (Fin := fun p => p = (edgT dn vs)) (M := M) (Mx := Mx) (A := []) ?_ (edgT dn vs) rfl ?_)
      · rfl
      · exact LSub.of (by rw [List.take_length])
end Lg

/- The model of denial.Dangling. -/
namespace Lg
open Go
def dSkip (facts : List GFact) (d : GRule) (gs : List Bool) (i : Nat) : Bool := (!decide ((nth facts i).Table = d.Table) || nth gs i) || decide ((colM (nth facts i) d.Col).Kind = 0)
def dStep (facts : List GFact) (d : GRule) (s : Bool × List Bool) (i : Nat) : Bool × List Bool :=
  if dSkip facts d s.2 i = true then s else if ((iota facts.length).any (offB facts d s.2 (colM (nth facts i) d.Col))) = true then s else (true, s.2.set i true)
def dRule (facts : List GFact) (s : Bool × List Bool) (d : GRule) : Bool × List Bool := if d.Kind = 3 then (List.range facts.length).foldl (dStep facts d) s else s
def dRound (rules : List GRule) (facts : List GFact) (gs : List Bool) : Bool × List Bool := rules.foldl (dRule facts) (false, gs)
def dRun (rules : List GRule) (facts : List GFact) : Nat → List Bool → List Bool
  | 0, gs => gs
  | k + 1, gs => if (dRound rules facts gs).1 = true then dRun rules facts k (dRound rules facts gs).2 else (dRound rules facts gs).2
def goneM (rules : List GRule) (facts : List GFact) : List Bool := dRun rules facts (facts.length + 1) (List.replicate facts.length false)
def danM (rules : List GRule) (facts : List GFact) : List Int := delL (fun i => !nth (goneM rules facts) i.toNat) (iota facts.length)
def cntF (gs : List Bool) : Nat := gs.countP fun b => !b
/-- What a step may do. -/
def dRel (s t : Bool × List Bool) : Prop := t.2.length = s.2.length ∧ cntF t.2 ≤ cntF s.2 ∧ (t.1 = true → s.1 = true ∨ cntF t.2 < cntF s.2)
theorem dRel_refl (s : Bool × List Bool) : dRel s s := ⟨rfl, Nat.le_refl _, fun h => .inl h⟩
theorem dRel_trans {s t u : Bool × List Bool} (h1 : dRel s t) (h2 : dRel t u) : dRel s u := by
  refine ⟨h2.1.trans h1.1, Nat.le_trans h2.2.1 h1.2.1, fun h => ?_⟩
  rcases h2.2.2 h with h | h
  · rcases h1.2.2 h with h | h
    · exact .inl h
    · exact .inr (Nat.lt_of_le_of_lt h2.2.1 h)
  · exact .inr (Nat.lt_of_lt_of_le h h1.2.1)
theorem cntF_set : ∀ {gs : List Bool} {i : Nat}, i < gs.length → nth gs i = false → cntF (gs.set i true) < cntF gs
  | [], i, h, _ => absurd h (by simp)
  | b :: gs, 0, _, hb => by
    have hb : b = false := hb
    subst hb; simp [cntF]
  | b :: gs, i + 1, h, hb => by
    have := cntF_set (gs := gs) (i := i) (by simpa using h) hb
    simp only [cntF, List.set_cons_succ, List.countP_cons] at this ⊢
    omega
theorem dStep_rel {facts : List GFact} {d : GRule} {s : Bool × List Bool} {i : Nat} (hl : s.2.length = facts.length) (hi : i < facts.length) : dRel s (dStep facts d s i) := by
  unfold dStep
  by_cases h1 : dSkip facts d s.2 i = true
  · rw [if_pos h1]; exact dRel_refl s
  rw [if_neg h1]
  by_cases h2 : ((iota facts.length).any (offB facts d s.2 (colM (nth facts i) d.Col))) = true
  · rw [if_pos h2]; exact dRel_refl s
  rw [if_neg h2]
  have hg : nth s.2 i = false := by
    simp only [dSkip, Bool.or_eq_true, not_or] at h1
    simpa using h1.1.2
  have := cntF_set (gs := s.2) (i := i) (by omega) hg
  exact ⟨by simp, Nat.le_of_lt this, fun _ => .inr this⟩
theorem dFold_rel {facts : List GFact} {d : GRule} : ∀ (l : List Nat) (s : Bool × List Bool), s.2.length = facts.length → (∀ i ∈ l, i < facts.length) → dRel s (l.foldl (dStep facts d) s)
  | [], s, _, _ => dRel_refl s
  | i :: l, s, hl, hi => by
    have h1 := dStep_rel (d := d) hl (hi i (by simp))
    exact dRel_trans h1 (dFold_rel l _ (h1.1.trans hl) fun j hj => hi j (by simp [hj]))
theorem dRule_rel {facts : List GFact} {d : GRule} {s : Bool × List Bool} (hl : s.2.length = facts.length) : dRel s (dRule facts s d) := by
  unfold dRule
  split
  · exact dFold_rel _ s hl fun i hi => List.mem_range.1 hi
  · exact dRel_refl s
theorem dRules_rel {facts : List GFact} : ∀ (l : List GRule) (s : Bool × List Bool), s.2.length = facts.length → dRel s (l.foldl (dRule facts) s)
  | [], s, _ => dRel_refl s
  | d :: l, s, hl => by
    have h1 := dRule_rel (d := d) hl
    exact dRel_trans h1 (dRules_rel l _ (h1.1.trans hl))
end Lg

namespace Lg
open Go Go.Proofs


theorem iota_mem {n : Nat} {x : Int} (h : x ∈ iota n) : 0 ≤ x ∧ x < n := iota_InB n x h
def dInv0 (rules : List GRule) (facts : List GFact) (c : Bool) (gs : List Bool) (k : Nat) : Prop :=
  gs.length = facts.length ∧ (c = true → dRun rules facts k gs = goneM rules facts ∧ cntF gs < k) ∧ (c = false → gs = goneM rules facts)
theorem cntF_rep (n : Nat) : cntF (List.replicate n false) = n := by
  unfold cntF; rw [List.countP_replicate]; rfl
theorem dInv0_start (rules : List GRule) (facts : List GFact) : dInv0 rules facts true (List.replicate facts.length false) (facts.length + 1) :=
  ⟨by simp, fun _ => ⟨rfl, by rw [cntF_rep]; omega⟩, fun h => by cases h⟩
theorem dInv0_again {rules : List GRule} {facts : List GFact} {gs gs2 : List Bool} {k : Nat} {c2 : Bool} (hv : dInv0 rules facts true gs k) (h : (c2, gs2) = dRound rules facts gs) :
    dInv0 rules facts c2 gs2 (k - 1) ∧ 2 * cntF gs2 + (if c2 = true then 1 else 0) < 2 * cntF gs + 1 := by
  obtain ⟨h1, h2, _⟩ := hv
  obtain ⟨h3, h4⟩ := h2 rfl
  have hr : dRel (false, gs) (c2, gs2) := h ▸ dRules_rel rules (false, gs) h1
  obtain ⟨k, rfl⟩ : ∃ j, k = j + 1 := ⟨k - 1, by omega⟩
  have e : dRun rules facts (k + 1) gs = if c2 = true then dRun rules facts k gs2 else gs2 := by
    show (if (dRound rules facts gs).1 = true then dRun rules facts k (dRound rules facts gs).2 else (dRound rules facts gs).2) = _
    rw [← h]
  rw [e] at h3
  cases c2 with
  | true =>
    have hlt : cntF gs2 < cntF gs := by
      rcases hr.2.2 rfl with q | q
      · cases q
      · exact q
    refine ⟨⟨hr.1.trans h1, fun _ => ⟨by simpa using h3, by simp; omega⟩, fun q => by cases q⟩, by simp; omega⟩
  | false =>
    have hle : cntF gs2 ≤ cntF gs := hr.2.1
    refine ⟨⟨hr.1.trans h1, fun q => (by cases q), fun _ => by simpa using h3⟩, by simp; omega⟩
def dInv2 (rules : List GRule) (facts : List GFact) (gs : List Bool) (q : Nat) (c2 : Bool) (gs2 : List Bool) : Prop :=
  q ≤ rules.length ∧ gs2.length = facts.length ∧ (c2, gs2) = (rules.take q).foldl (dRule facts) (false, gs)
theorem dInv2_start {rules : List GRule} {facts : List GFact} {gs : List Bool} (h : gs.length = facts.length) : dInv2 rules facts gs 0 false gs := ⟨by omega, h, rfl⟩
theorem dInv2_end {rules : List GRule} {facts : List GFact} {gs gs2 : List Bool} {q : Nat} {c2 : Bool} (h : dInv2 rules facts gs q c2 gs2) (hq : ¬ q < rules.length) : (c2, gs2) = dRound rules facts gs := by
  obtain ⟨h1, _, h3⟩ := h
  rw [List.take_of_length_le (by omega)] at h3
  exact h3
theorem dInv2_skip {rules : List GRule} {facts : List GFact} {gs gs2 : List Bool} {q : Nat} {c2 : Bool} (h : dInv2 rules facts gs q c2 gs2) (hq : q < rules.length) (hk : (nth rules q).Kind ≠ 3) : dInv2 rules facts gs (q + 1) c2 gs2 := by
  obtain ⟨h1, h2, h3⟩ := h
  refine ⟨by omega, h2, ?_⟩
  rw [takeB hq, List.foldl_append, ← h3]
  simp only [List.foldl_cons, List.foldl_nil, dRule]
  rw [if_neg hk]
def dInv4 (facts : List GFact) (d : GRule) (c2 : Bool) (gs2 : List Bool) (i : Nat) (c3 : Bool) (gs3 : List Bool) : Prop :=
  i ≤ facts.length ∧ gs3.length = facts.length ∧ (c3, gs3) = (List.range i).foldl (dStep facts d) (c2, gs2)
theorem dInv4_start {facts : List GFact} {d : GRule} {c2 : Bool} {gs2 : List Bool} (h : gs2.length = facts.length) : dInv4 facts d c2 gs2 0 c2 gs2 := ⟨by omega, h, rfl⟩
theorem dInv4_step {facts : List GFact} {d : GRule} {c2 : Bool} {gs2 : List Bool} {i : Nat} {c3 : Bool} {gs3 : List Bool} (h : dInv4 facts d c2 gs2 i c3 gs3) (hi : i < facts.length) {c4 : Bool} {gs4 : List Bool} (e : dStep facts d (c3, gs3) i = (c4, gs4)) : dInv4 facts d c2 gs2 (i + 1) c4 gs4 := by
  obtain ⟨h1, h2, h3⟩ := h
  refine ⟨by omega, ?_, ?_⟩
  · have := (dStep_rel (d := d) (s := (c3, gs3)) h2 hi).1
    rw [e] at this
    exact this.trans h2
  · rw [List.range_succ, List.foldl_append, ← h3]
    exact e.symm
theorem dStep_skip {facts : List GFact} {d : GRule} {c3 : Bool} {gs3 : List Bool} {i : Nat} (h : dSkip facts d gs3 i = true) : dStep facts d (c3, gs3) i = (c3, gs3) := by
  unfold dStep; rw [if_pos h]
theorem dStep_put {facts : List GFact} {d : GRule} {c3 : Bool} {gs3 : List Bool} {i : Nat} (h : dSkip facts d gs3 i = false) (ha : (iota facts.length).any (offB facts d gs3 (colM (nth facts i) d.Col)) = false) : dStep facts d (c3, gs3) i = (true, gs3.set i true) := by
  unfold dStep
  simp only [h, ha]
  simp
theorem dStep_stay {facts : List GFact} {d : GRule} {c3 : Bool} {gs3 : List Bool} {i : Nat} (h : dSkip facts d gs3 i = false) (ha : (iota facts.length).any (offB facts d gs3 (colM (nth facts i) d.Col)) = true) : dStep facts d (c3, gs3) i = (c3, gs3) := by
  unfold dStep
  simp only [h, ha]
  simp
theorem dInv2_rule {rules : List GRule} {facts : List GFact} {gs gs2 gs3 : List Bool} {q i : Nat} {c2 c3 : Bool} (h : dInv2 rules facts gs q c2 gs2) (hq : q < rules.length) (hk : (nth rules q).Kind = 3) (h4 : dInv4 facts (nth rules q) c2 gs2 i c3 gs3) (hi : ¬ i < facts.length) : dInv2 rules facts gs (q + 1) c3 gs3 := by
  obtain ⟨h1, h2, h3⟩ := h
  obtain ⟨g1, g2, g3⟩ := h4
  refine ⟨by omega, g2, ?_⟩
  rw [takeB hq, List.foldl_append, ← h3]
  simp only [List.foldl_cons, List.foldl_nil, dRule]
  rw [if_pos hk, g3, show i = facts.length by omega]

theorem Dangling_spec (rules : List GRule) (facts : List GFact) (hrl : rules.length ≤ 1000000) (hfl : facts.length ≤ 1000000) : Fun1 Tryz.prog 22 [tSl rRule rules, tSl rFact facts] (tSlE 3 rInt (danM rules facts)) := by
  refine Spec.enter Tryz.func22 rfl rfl fun h0 w0 fr0 => ?_
  refine J_seq ?_
  refine J_region ?_
  refine JL_step rfl rfl rfl (step_box (R := (rSl rFact)) Sub.rfl) ?_
  refine JL_step rfl rfl rfl (step_assign Sub.rfl) ?_
  refine JL_nil ?_
  refine J_seq ?_
  refine J_region ?_
  refine JL_stepX rfl rfl rfl (step_alloc (fun w => Tryz.zeroValue75 w) zr75) fun v5 => ?_
  refine JL_stepU rfl rfl (step_store_box (R := rV) ty75 Sub.rfl (Sub.rV rfl) (by first | exact Sel.take (Sel.none _) | exact Sel.skip (Sel.take (Sel.none _)) | exact Sel.skip (Sel.skip (Sel.take (Sel.none _))) | exact Sel.skip (Sel.skip (Sel.skip (Sel.take (Sel.none _)))) | exact Sel.skip (Sel.skip (Sel.skip (Sel.skip (Sel.take (Sel.none _))))))) fun _ => ?_
  refine JL_freeze (t := 5) (Sel.take (Sel.none _)) Frz.box ?_
  refine JL_nil ?_
  refine J_seq ?_
  refine J_region ?_
  refine JL_step rfl rfl rfl (step_load_ptr ty23 Sub.rfl) ?_
  refine JL_step rfl rfl rfl (step_len_sl Tryz.underlying23 Sub.rfl) ?_
  refine JL_stepX rfl rfl rfl (step_make Tryz.underlying47 el4 Sub.rfl Sub.rfl rfl (by omega) (by omega)) fun v16 => ?_
  refine JL_stepX rfl rfl rfl (step_alloc (R := rV) (z := Value.slice none 0 0) (fun w => Tryz.zeroValue47 w) (fun _ => ⟨rfl, rfl⟩)) fun v6 => ?_
  refine JL_stepU rfl rfl (step_store_box (R := rV) ty47V Sub.rfl Sub.rfl (by first | exact Sel.take (Sel.none _) | exact Sel.skip (Sel.take (Sel.none _)) | exact Sel.skip (Sel.skip (Sel.take (Sel.none _))) | exact Sel.skip (Sel.skip (Sel.skip (Sel.take (Sel.none _)))) | exact Sel.skip (Sel.skip (Sel.skip (Sel.skip (Sel.take (Sel.none _))))))) fun _ => ?_
  refine JL_nil ?_
  refine K_freeze (t := 6) (Sel.take (Sel.none _)) Frz.box ?_
  refine J_seq ?_
  refine J_seq ?_
  refine J_region ?_
  refine JL_step rfl rfl rfl (step_assign Sub.rfl) ?_
  refine JL_nil ?_
  refine J_block ?_
  refine J_loopL (σ := Bool × List Bool × Nat) (fun ⟨c, gs, k⟩ => dInv0 rules facts c gs k) (fun ⟨c, gs, k⟩ => upd (upd (upd (upd (upd (upd env0 0 (tSl rRule rules)) 3 (tPtr (rSl rFact) facts)) 4 (tV (.slice none 0 0))) 5 (tPtr rV (.func (.func 43) #[] #[]))) 6 (tPtr rV v16)) 7 (tV (.bool c))) (fun ⟨c, gs, k⟩ => [own 4 rBool v16 gs]) (fun ⟨c, gs, k⟩ => 2 * cntF gs + (if c = true then 1 else 0)) (true, List.replicate facts.length false, facts.length + 1) (dInv0_start rules facts) (SubE.upd Sub.rfl (SubE.upd Sub.rfl (SubE.upd Sub.rfl (SubE.upd Sub.rfl (SubE.upd Sub.rfl (SubE.upd Sub.rfl SubE.any)))))) (LSub.rfl) ?_
  rintro ⟨c, gs, k⟩ hv
  try dsimp only at hv
  refine J_seq ?_
  refine J_seq ?_
  refine J_region ?_
  refine JL_step rfl rfl rfl (step_move Sub.rfl) ?_
  refine JL_nil ?_
  refine J_cond Sub.rfl (fun h17 => ?_) (fun h17 => ?_)
  · try simp only [decide_eq_true_eq, decide_eq_false_iff_not, Bool.and_eq_true, Bool.or_eq_true, Bool.and_eq_false_iff, Bool.or_eq_false_iff, Bool.not_eq_true', Bool.not_eq_false', Int.not_lt, Int.not_le, Bool.not_true, Bool.not_false] at h17
    refine J_skip ?_
    refine J_block ?_
    refine J_seq ?_
    refine J_region ?_
    refine JL_step rfl rfl rfl (step_assign Sub.rfl) ?_
    refine JL_nil ?_
    refine J_seq ?_
    refine J_region ?_
    refine JL_step rfl rfl rfl (step_move Sub.rfl) ?_
    refine JL_step rfl rfl rfl (step_len_sl Tryz.underlying22 Sub.rfl) ?_
    refine JL_step rfl rfl rfl (step_move Sub.rfl) ?_
    refine JL_nil ?_
    refine J_block ?_
    refine J_loopL (σ := Nat × Bool × List Bool) (fun ⟨q, c2, gs2⟩ => dInv2 rules facts gs q c2 gs2) (fun ⟨q, c2, gs2⟩ => upd (upd (upd (upd (upd (upd (upd (upd (upd (upd env0 0 (tSl rRule rules)) 3 (tPtr (rSl rFact) facts)) 4 (tV (.slice none 0 0))) 5 (tPtr rV (.func (.func 43) #[] #[]))) 6 (tPtr rV v16)) 7 (tV (.bool c2))) 17 (tV (.bool c))) 18 (tSl rRule rules)) 19 (tV (.int .i64 rules.length))) 20 (tV (.int .i64 q))) (fun ⟨q, c2, gs2⟩ => [own 4 rBool v16 gs2]) (fun ⟨q, c2, gs2⟩ => rules.length - q) (0, false, gs) (dInv2_start hv.1) (SubE.upd Sub.rfl (SubE.upd Sub.rfl (SubE.upd Sub.rfl (SubE.upd Sub.rfl (SubE.upd Sub.rfl (SubE.upd Sub.rfl (SubE.upd Sub.rfl (SubE.upd Sub.rfl (SubE.upd Sub.rfl (SubE.upd Sub.rfl SubE.any)))))))))) (LSub.rfl) ?_
    rintro ⟨q, c2, gs2⟩ hi2
    try dsimp only at hi2
    refine J_seq ?_
    refine J_region ?_
    refine JL_step rfl rfl rfl (step_lss Sub.rfl Sub.rfl) ?_
    refine JL_nil ?_
    refine J_seq ?_
    refine J_cond Sub.rfl (fun h21 => ?_) (fun h21 => ?_)
    · try simp only [decide_eq_true_eq, decide_eq_false_iff_not, Bool.and_eq_true, Bool.or_eq_true, Bool.and_eq_false_iff, Bool.or_eq_false_iff, Bool.not_eq_true', Bool.not_eq_false', Int.not_lt, Int.not_le, Bool.not_true, Bool.not_false] at h21
      have hq : q < rules.length := by omega
      refine J_skip ?_
      refine J_seq ?_
      refine J_block ?_
      refine J_seq ?_
      refine J_region ?_
      refine JL_step rfl rfl rfl (step_indexAddr_sl  Tryz.underlying22 ty32 Sub.rfl Sub.rfl rfl (gb ?sg1)) ?_
      case sg1 => first | assumption | omega
      refine JL_step rfl rfl rfl (step_load_ptr ty32 Sub.rfl) ?_
      refine JL_stepX rfl rfl rfl (step_alloc (fun w => Tryz.zeroValue32 w) zr32) fun v9 => ?_
      refine JL_stepU rfl rfl (step_store_box ty32 Sub.rfl Sub.rfl (by first | exact Sel.take (Sel.none _) | exact Sel.skip (Sel.take (Sel.none _)) | exact Sel.skip (Sel.skip (Sel.take (Sel.none _))) | exact Sel.skip (Sel.skip (Sel.skip (Sel.take (Sel.none _)))) | exact Sel.skip (Sel.skip (Sel.skip (Sel.skip (Sel.take (Sel.none _))))))) fun _ => ?_
      refine JL_freeze (t := 9) (Sel.take (Sel.none _)) Frz.box ?_
      refine JL_nil ?_
      refine J_seq ?_
      refine J_seq ?_
      refine J_region ?_
      refine JL_step rfl rfl rfl (step_fieldAddr so32 Sub.rfl rfl) ?_
      refine JL_step rfl rfl rfl (step_load_ptr ty3 Sub.rfl) ?_
      refine JL_step rfl rfl rfl (step_neq Sub.rfl Sub.rfl) ?_
      refine JL_nil ?_
      refine J_cond Sub.rfl (fun h26 => ?_) (fun h26 => ?_)
      · try simp only [decide_eq_true_eq, decide_eq_false_iff_not, Bool.and_eq_true, Bool.or_eq_true, Bool.and_eq_false_iff, Bool.or_eq_false_iff, Bool.not_eq_true', Bool.not_eq_false', Int.not_lt, Int.not_le, Bool.not_true, Bool.not_false] at h26
        refine J_exit ?_
        refine J_region ?_
        refine JL_step rfl rfl rfl (step_add Sub.rfl Sub.rfl ?sg1) ?_
        case sg1 => unfold in64; omega
        refine JL_step rfl rfl rfl (step_move Sub.rfl) ?_
        refine JL_nil ?_
        refine K_againL (σ := Nat × Bool × List Bool) (s := (q, c2, gs2)) (q + 1, c2, gs2) (by first | omega | (dsimp only; omega) | (simp_all; omega)) (dInv2_skip hi2 hq h26) (SubE.upd Sub.rfl (SubE.upd Sub.rfl (SubE.upd Sub.rfl (SubE.upd Sub.rfl (SubE.upd Sub.rfl (SubE.upd Sub.rfl (SubE.upd Sub.rfl (SubE.upd Sub.rfl (SubE.upd Sub.rfl (SubE.upd Sub.rfl SubE.any)))))))))) (LSub.rfl)
      · try simp only [decide_eq_true_eq, decide_eq_false_iff_not, Bool.and_eq_true, Bool.or_eq_true, Bool.and_eq_false_iff, Bool.or_eq_false_iff, Bool.not_eq_true', Bool.not_eq_false', Int.not_lt, Int.not_le, Bool.not_true, Bool.not_false] at h26
        refine J_skip ?_
        refine J_seq ?_
        refine J_region ?_
        refine JL_step rfl rfl rfl (step_load_ptr ty23 Sub.rfl) ?_
        refine JL_step rfl rfl rfl (step_len_sl Tryz.underlying23 Sub.rfl) ?_
        refine JL_step rfl rfl rfl (step_move Sub.rfl) ?_
        refine JL_nil ?_
        refine J_block ?_
        refine J_loopL (σ := Nat × Bool × List Bool) (fun ⟨i, c3, gs3⟩ => dInv4 facts (nth rules q) c2 gs2 i c3 gs3) (fun ⟨i, c3, gs3⟩ => upd (upd (upd (upd (upd (upd (upd (upd (upd (upd (upd (upd (upd (upd (upd env0 0 (tSl rRule rules)) 3 (tPtr (rSl rFact) facts)) 4 (tV (.slice none 0 0))) 5 (tPtr rV (.func (.func 43) #[] #[]))) 6 (tPtr rV v16)) 7 (tV (.bool c3))) 9 (tPtr rRule (nth rules q))) 17 (tV (.bool c))) 18 (tSl rRule rules)) 19 (tV (.int .i64 rules.length))) 20 (tV (.int .i64 q))) 23 (rRule.ty (nth rules q))) 27 (tSl rFact facts)) 28 (tV (.int .i64 facts.length))) 29 (tV (.int .i64 i))) (fun ⟨i, c3, gs3⟩ => [own 4 rBool v16 gs3]) (fun ⟨i, c3, gs3⟩ => facts.length - i) (0, c2, gs2) (dInv4_start hi2.2.1) (SubE.upd Sub.rfl (SubE.upd Sub.rfl (SubE.upd Sub.rfl (SubE.upd Sub.rfl (SubE.upd Sub.rfl (SubE.upd Sub.rfl (SubE.upd Sub.rfl (SubE.upd Sub.rfl (SubE.upd Sub.rfl (SubE.upd Sub.rfl (SubE.upd Sub.rfl (SubE.upd Sub.rfl (SubE.upd Sub.rfl (SubE.upd Sub.rfl (SubE.upd Sub.rfl SubE.any))))))))))))))) (LSub.rfl) ?_
        rintro ⟨i, c3, gs3⟩ hi
        try dsimp only at hi
        refine J_seq ?_
        refine J_region ?_
        refine JL_step rfl rfl rfl (step_lss Sub.rfl Sub.rfl) ?_
        refine JL_nil ?_
        refine J_seq ?_
        refine J_cond Sub.rfl (fun h30 => ?_) (fun h30 => ?_)
        · try simp only [decide_eq_true_eq, decide_eq_false_iff_not, Bool.and_eq_true, Bool.or_eq_true, Bool.and_eq_false_iff, Bool.or_eq_false_iff, Bool.not_eq_true', Bool.not_eq_false', Int.not_lt, Int.not_le, Bool.not_true, Bool.not_false] at h30
          have hlt : i < facts.length := by omega
          have hgl := hi.2.1
          refine J_skip ?_
          refine J_seq ?_
          refine J_block ?_
          refine J_seq ?_
          refine J_region ?_
          refine JL_step rfl rfl rfl (step_move Sub.rfl) ?_
          refine JL_step rfl rfl rfl (step_indexAddr_sl  Tryz.underlying23 ty54 Sub.rfl Sub.rfl rfl (gb ?sg1)) ?_
          case sg1 => first | assumption | omega
          refine JL_step rfl rfl rfl (step_load_ptr ty54 Sub.rfl) ?_
          refine JL_stepX rfl rfl rfl (step_alloc (fun w => Tryz.zeroValue54 w) zr54) fun v11 => ?_
          refine JL_step rfl rfl rfl (step_assign Sub.rfl) ?_
          refine JL_stepU rfl rfl (step_store_box ty54 Sub.rfl Sub.rfl (by first | exact Sel.take (Sel.none _) | exact Sel.skip (Sel.take (Sel.none _)) | exact Sel.skip (Sel.skip (Sel.take (Sel.none _))) | exact Sel.skip (Sel.skip (Sel.skip (Sel.take (Sel.none _)))) | exact Sel.skip (Sel.skip (Sel.skip (Sel.skip (Sel.take (Sel.none _))))))) fun _ => ?_
          refine JL_freeze (t := 11) (Sel.take (Sel.none _)) Frz.box ?_
          refine JL_nil ?_
          refine J_seq ?_
          refine J_region ?_
          refine JL_step rfl rfl rfl (step_load_ptr ty75 Sub.rfl) ?_
          refine JL_step rfl rfl rfl (step_load_ptr ty54 Sub.rfl) ?_
          refine JL_step rfl rfl rfl (step_fieldAddr so32 Sub.rfl rfl) ?_
          refine JL_step rfl rfl rfl (step_load_ptr ty3 Sub.rfl) ?_
          refine JL_step rfl rfl rfl (step_callv0 (aT := [_, _]) (Sub.trans Sub.ofRV Sub.clo0) (column_spec _ _) ⟨Sub.rfl, Sub.rfl, trivial⟩ Tryz.call43) ?_
          refine JL_stepX rfl rfl rfl (step_alloc (fun w => Tryz.zeroValue60 w) zr60) fun v12 => ?_
          refine JL_stepU rfl rfl (step_store_box ty60 Sub.rfl Sub.rfl (by first | exact Sel.take (Sel.none _) | exact Sel.skip (Sel.take (Sel.none _)) | exact Sel.skip (Sel.skip (Sel.take (Sel.none _))) | exact Sel.skip (Sel.skip (Sel.skip (Sel.take (Sel.none _)))) | exact Sel.skip (Sel.skip (Sel.skip (Sel.skip (Sel.take (Sel.none _))))))) fun _ => ?_
          refine JL_freeze (t := 12) (Sel.take (Sel.none _)) Frz.box ?_
          refine JL_nil ?_
          refine J_seq ?_
          refine J_seq ?_
          refine J_region ?_
          refine JL_step rfl rfl rfl (step_fieldAddr so54 Sub.rfl rfl) ?_
          refine JL_step rfl rfl rfl (step_load_ptr ty3 Sub.rfl) ?_
          refine JL_step rfl rfl rfl (step_fieldAddr so32 Sub.rfl rfl) ?_
          refine JL_step rfl rfl rfl (step_load_ptr ty3 Sub.rfl) ?_
          refine JL_step rfl rfl rfl (step_neq Sub.rfl Sub.rfl) ?_
          refine JL_step rfl rfl rfl (step_move Sub.rfl) ?_
          refine JL_stepG rfl rfl rfl (Gd.plain Sub.rfl) rfl rfl (fun hw => step_load_ptr ty47V Sub.rfl) ?_
          refine JL_stepG rfl rfl rfl (Gd.plain Sub.rfl) rfl rfl (fun hw => step_move Sub.rfl) ?_
          refine JL_stepG rfl rfl rfl (Gd.plain Sub.rfl) rfl rfl (fun hw => step_indexAddr_own  Tryz.underlying47 ty4 (Sub.w hw) (by first | exact Sel.take (Sel.none _) | exact Sel.skip (Sel.take (Sel.none _)) | exact Sel.skip (Sel.skip (Sel.take (Sel.none _))) | exact Sel.skip (Sel.skip (Sel.skip (Sel.take (Sel.none _)))) | exact Sel.skip (Sel.skip (Sel.skip (Sel.skip (Sel.take (Sel.none _)))))) (Sub.w hw) rfl ?sg1) ?_
          case sg1 => have hwq := hw; (try simp only [beqB_t, beqB_f, decide_eq_true_eq, decide_eq_false_iff_not, Bool.and_eq_true, Bool.or_eq_true, Bool.and_eq_false_iff, Bool.or_eq_false_iff, Bool.not_eq_true', Bool.not_eq_false', Int.not_lt, Int.not_le, Bool.not_true, Bool.not_false] at hwq); first | assumption | omega
          refine JL_stepG rfl rfl rfl (Gd.plain Sub.rfl) rfl rfl (fun hw => step_load_own ty4 (Sub.w hw) (by first | exact Sel.take (Sel.none _) | exact Sel.skip (Sel.take (Sel.none _)) | exact Sel.skip (Sel.skip (Sel.take (Sel.none _))) | exact Sel.skip (Sel.skip (Sel.skip (Sel.take (Sel.none _)))) | exact Sel.skip (Sel.skip (Sel.skip (Sel.skip (Sel.take (Sel.none _)))))) (gb ?sg1)) ?_
          case sg1 => have hwq := hw; (try simp only [beqB_t, beqB_f, decide_eq_true_eq, decide_eq_false_iff_not, Bool.and_eq_true, Bool.or_eq_true, Bool.and_eq_false_iff, Bool.or_eq_false_iff, Bool.not_eq_true', Bool.not_eq_false', Int.not_lt, Int.not_le, Bool.not_true, Bool.not_false] at hwq); first | assumption | omega
          refine JL_step rfl rfl rfl (step_pick_or Sub.rfl Sub.rfl) ?_
          refine JL_step rfl rfl rfl (step_move Sub.rfl) ?_
          refine JL_stepG rfl rfl rfl (Gd.plain Sub.rfl) rfl rfl (fun hw => step_fieldAddr so60 Sub.rfl rfl) ?_
          refine JL_stepG rfl rfl rfl (Gd.plain Sub.rfl) rfl rfl (fun hw => step_load_ptr ty3 (Sub.w hw)) ?_
          refine JL_stepG rfl rfl rfl (Gd.plain Sub.rfl) rfl rfl (fun hw => step_eql (Sub.w hw) Sub.rfl) ?_
          refine JL_step rfl rfl rfl (step_pick_or Sub.rfl Sub.rfl) ?_
          refine JL_nil ?_
          refine J_cond Sub.rfl (fun h54 => ?_) (fun h54 => ?_)
          · try simp only [decide_eq_true_eq, decide_eq_false_iff_not, Bool.and_eq_true, Bool.or_eq_true, Bool.and_eq_false_iff, Bool.or_eq_false_iff, Bool.not_eq_true', Bool.not_eq_false', Int.not_lt, Int.not_le, Bool.not_true, Bool.not_false] at h54
            refine J_exit ?_
            refine J_region ?_
            refine JL_step rfl rfl rfl (step_add Sub.rfl Sub.rfl ?sg1) ?_
            case sg1 => unfold in64; omega
            refine JL_step rfl rfl rfl (step_move Sub.rfl) ?_
            refine JL_nil ?_
            have hsk : dSkip facts (nth rules q) gs3 i = true := by simp only [dSkip]; simp_all
            refine K_againL (σ := Nat × Bool × List Bool) (s := (i, c3, gs3)) (i + 1, c3, gs3) (by first | omega | (dsimp only; omega) | (simp_all; omega)) (dInv4_step hi hlt (dStep_skip hsk)) (SubE.upd Sub.rfl (SubE.upd Sub.rfl (SubE.upd Sub.rfl (SubE.upd Sub.rfl (SubE.upd Sub.rfl (SubE.upd Sub.rfl (SubE.upd Sub.rfl (SubE.upd Sub.rfl (SubE.upd Sub.rfl (SubE.upd Sub.rfl (SubE.upd Sub.rfl (SubE.upd Sub.rfl (SubE.upd Sub.rfl (SubE.upd Sub.rfl (SubE.upd Sub.rfl SubE.any))))))))))))))) (LSub.rfl)
          · try simp only [decide_eq_true_eq, decide_eq_false_iff_not, Bool.and_eq_true, Bool.or_eq_true, Bool.and_eq_false_iff, Bool.or_eq_false_iff, Bool.not_eq_true', Bool.not_eq_false', Int.not_lt, Int.not_le, Bool.not_true, Bool.not_false] at h54
            refine J_skip ?_
            refine J_seq ?_
            refine J_region ?_
            refine JL_step rfl rfl rfl (step_makeFunc (As := [_, _, _, _, _]) ⟨Sub.rfl, Sub.rfl, Sub.rfl, Sub.rfl, Sub.rfl, trivial⟩) ?_
            refine JL_step rfl rfl rfl (step_assign Sub.rfl) ?_
            refine JL_nil ?_
            refine J_seq ?_
            refine J_region ?_
            refine JL_step rfl rfl rfl (step_load_ptr ty23 Sub.rfl) ?_
            refine JL_step rfl rfl rfl (step_call0 (all_spec facts (by omega)) ⟨Sub.rfl, trivial⟩ Tryz.call38) ?_
            refine JL_step rfl rfl rfl (step_move Sub.rfl) ?_
            refine JL_stepX rfl rfl rfl (step_call (Sel.all _) (ContainsFunc_spec (iota facts.length) (by simp [iota_len]; omega) 44 _ (own 4 rBool v16 gs3) (offB facts (nth rules q) gs3 (colM (nth facts i) (nth rules q).Col)) (fun x hx => offers_spec facts (nth rules q) v16 gs3 (colM (nth facts i) (nth rules q).Col) x (iota_mem hx) hgl) Tryz.call44) ⟨Sub.rfl, Sub.rfl, trivial⟩ Tryz.call46) fun v59 => ?_
            refine JL_step rfl rfl rfl (step_not Sub.rfl) ?_
            refine JL_nil ?_
            refine J_cond Sub.rfl (fun h60 => ?_) (fun h60 => ?_)
            · try simp only [decide_eq_true_eq, decide_eq_false_iff_not, Bool.and_eq_true, Bool.or_eq_true, Bool.and_eq_false_iff, Bool.or_eq_false_iff, Bool.not_eq_true', Bool.not_eq_false', Int.not_lt, Int.not_le, Bool.not_true, Bool.not_false] at h60
              refine J_region ?_
              refine JL_step rfl rfl rfl (step_load_ptr ty47V Sub.rfl) ?_
              refine JL_step rfl rfl rfl (step_move Sub.rfl) ?_
              refine JL_step rfl rfl rfl (step_indexAddr_own  Tryz.underlying47 ty4 Sub.rfl (by first | exact Sel.take (Sel.none _) | exact Sel.skip (Sel.take (Sel.none _)) | exact Sel.skip (Sel.skip (Sel.take (Sel.none _))) | exact Sel.skip (Sel.skip (Sel.skip (Sel.take (Sel.none _)))) | exact Sel.skip (Sel.skip (Sel.skip (Sel.skip (Sel.take (Sel.none _)))))) Sub.rfl rfl ?sg1) ?_
              case sg1 => first | assumption | omega
              refine JL_stepU rfl rfl (step_store_own ty4 Sub.rfl Sub.rfl (by first | exact Sel.take (Sel.none _) | exact Sel.skip (Sel.take (Sel.none _)) | exact Sel.skip (Sel.skip (Sel.take (Sel.none _))) | exact Sel.skip (Sel.skip (Sel.skip (Sel.take (Sel.none _)))) | exact Sel.skip (Sel.skip (Sel.skip (Sel.skip (Sel.take (Sel.none _)))))) ?sg1) fun _ => ?_
              case sg1 => first | assumption | omega
              refine JL_step rfl rfl rfl (step_assign Sub.rfl) ?_
              refine JL_nil ?_
              refine J_region ?_
              refine JL_step rfl rfl rfl (step_add Sub.rfl Sub.rfl ?sg1) ?_
              case sg1 => unfold in64; omega
              refine JL_step rfl rfl rfl (step_move Sub.rfl) ?_
              refine JL_nil ?_
              have hsk : dSkip facts (nth rules q) gs3 i = false := by simp only [dSkip]; simp_all
              have hany : (iota facts.length).any (offB facts (nth rules q) gs3 (colM (nth facts i) (nth rules q).Col)) = false := by simp_all
              refine K_againL (σ := Nat × Bool × List Bool) (s := (i, c3, gs3)) (i + 1, true, gs3.set i true) (by first | omega | (dsimp only; omega) | (simp_all; omega)) (dInv4_step hi hlt (dStep_put hsk hany)) (SubE.upd Sub.rfl (SubE.upd Sub.rfl (SubE.upd Sub.rfl (SubE.upd Sub.rfl (SubE.upd Sub.rfl (SubE.upd Sub.rfl (SubE.upd Sub.rfl (SubE.upd Sub.rfl (SubE.upd Sub.rfl (SubE.upd Sub.rfl (SubE.upd Sub.rfl (SubE.upd Sub.rfl (SubE.upd Sub.rfl (SubE.upd Sub.rfl (SubE.upd Sub.rfl SubE.any))))))))))))))) (LSub.rfl)
            · try simp only [decide_eq_true_eq, decide_eq_false_iff_not, Bool.and_eq_true, Bool.or_eq_true, Bool.and_eq_false_iff, Bool.or_eq_false_iff, Bool.not_eq_true', Bool.not_eq_false', Int.not_lt, Int.not_le, Bool.not_true, Bool.not_false] at h60
              refine J_skip ?_
              refine J_region ?_
              refine JL_step rfl rfl rfl (step_add Sub.rfl Sub.rfl ?sg1) ?_
              case sg1 => unfold in64; omega
              refine JL_step rfl rfl rfl (step_move Sub.rfl) ?_
              refine JL_nil ?_
              have hsk : dSkip facts (nth rules q) gs3 i = false := by simp only [dSkip]; simp_all
              have hany : (iota facts.length).any (offB facts (nth rules q) gs3 (colM (nth facts i) (nth rules q).Col)) = true := by simp_all
              refine K_againL (σ := Nat × Bool × List Bool) (s := (i, c3, gs3)) (i + 1, c3, gs3) (by first | omega | (dsimp only; omega) | (simp_all; omega)) (dInv4_step hi hlt (dStep_stay hsk hany)) (SubE.upd Sub.rfl (SubE.upd Sub.rfl (SubE.upd Sub.rfl (SubE.upd Sub.rfl (SubE.upd Sub.rfl (SubE.upd Sub.rfl (SubE.upd Sub.rfl (SubE.upd Sub.rfl (SubE.upd Sub.rfl (SubE.upd Sub.rfl (SubE.upd Sub.rfl (SubE.upd Sub.rfl (SubE.upd Sub.rfl (SubE.upd Sub.rfl (SubE.upd Sub.rfl SubE.any))))))))))))))) (LSub.rfl)
        · try simp only [decide_eq_true_eq, decide_eq_false_iff_not, Bool.and_eq_true, Bool.or_eq_true, Bool.and_eq_false_iff, Bool.or_eq_false_iff, Bool.not_eq_true', Bool.not_eq_false', Int.not_lt, Int.not_le, Bool.not_true, Bool.not_false] at h30
          refine J_exit ?_
          refine J_region ?_
          refine JL_step rfl rfl rfl (step_add Sub.rfl Sub.rfl ?sg1) ?_
          case sg1 => unfold in64; omega
          refine JL_step rfl rfl rfl (step_move Sub.rfl) ?_
          refine JL_nil ?_
          refine K_againL (σ := Nat × Bool × List Bool) (s := (q, c2, gs2)) (q + 1, c3, gs3) (by first | omega | (dsimp only; omega) | (simp_all; omega)) (dInv2_rule hi2 hq h26 hi (by omega)) (SubE.upd Sub.rfl (SubE.upd Sub.rfl (SubE.upd Sub.rfl (SubE.upd Sub.rfl (SubE.upd Sub.rfl (SubE.upd Sub.rfl (SubE.upd Sub.rfl (SubE.upd Sub.rfl (SubE.upd Sub.rfl (SubE.upd Sub.rfl SubE.any)))))))))) (LSub.rfl)
    · try simp only [decide_eq_true_eq, decide_eq_false_iff_not, Bool.and_eq_true, Bool.or_eq_true, Bool.and_eq_false_iff, Bool.or_eq_false_iff, Bool.not_eq_true', Bool.not_eq_false', Int.not_lt, Int.not_le, Bool.not_true, Bool.not_false] at h21
      refine J_exit ?_
      have hend := dInv0_again (h17 ▸ hv) (dInv2_end hi2 (by omega))
      refine K_againL (σ := Bool × List Bool × Nat) (s := (c, gs, k)) (c2, gs2, k - 1) (by have := hend.2; rw [h17]; simp only [if_true]; exact this) hend.1 (SubE.upd Sub.rfl (SubE.upd Sub.rfl (SubE.upd Sub.rfl (SubE.upd Sub.rfl (SubE.upd Sub.rfl (SubE.upd Sub.rfl SubE.any)))))) (LSub.rfl)
  · try simp only [decide_eq_true_eq, decide_eq_false_iff_not, Bool.and_eq_true, Bool.or_eq_true, Bool.and_eq_false_iff, Bool.or_eq_false_iff, Bool.not_eq_true', Bool.not_eq_false', Int.not_lt, Int.not_le, Bool.not_true, Bool.not_false] at h17
    refine J_exit ?_
    refine J_seq ?_
    refine J_region ?_
    refine JL_step rfl rfl rfl (step_load_ptr ty23 Sub.rfl) ?_
    refine JL_stepX rfl rfl rfl (step_call (Sel.none _) (allo_spec facts (by omega)) ⟨Sub.rfl, trivial⟩ Tryz.call38) fun v67 => ?_
    refine JL_step rfl rfl rfl (step_makeFunc (As := [_]) ⟨Sub.rfl, trivial⟩) ?_
    refine JL_stepX rfl rfl rfl (step_call (Sel.all _) (DeleteFunc_spec v67 (iota facts.length) (by simp [iota_len]; omega) 48 _ (own 4 rBool v16 gs) (fun i => !nth gs i.toNat) (fun x hx => keep_spec v16 gs x (by have := iota_mem hx; have := hv.1; omega)) Tryz.call48) ⟨Sub.rfl, Sub.rfl, trivial⟩ Tryz.call47) fun v69 => ?_
    refine JL_step rfl rfl rfl (step_assign Sub.rfl) ?_
    refine JL_nil ?_
    refine J_ret ?_
    have hg : gs = goneM rules facts := hv.2.2 (by simpa using h17)
    subst hg
    exact K_ret1' (rv := .tmp 4) rfl () (Sel.all _) (.tmp Sub.rfl) Frz.ownE
end Lg

namespace Lg
open Go Go.Proofs


theorem Frz.upE {α α' β : Type} {b T e : Nat} {fs : List (SF α)} {fs' : List (SF α')} {R : Rp β} {x : α} {y : α'} {v : Value} {a : List β} {S : List SP} (hup : ∀ h h' cs, PH.le h h' → (tSlE e R a).p h' v → SF.rel h x fs cs → SF.rel h' y fs' cs) :
    Frz (Lg.box b T (rStruct fs) x :: Lg.own e R v a :: S) (tAt b 0) (tPtr (rStruct fs') y) := fun h m u d ⟨m1, m2, d12, e0, ⟨cs, r, e1⟩, hs⟩ hu => by
  subst e0
  have hd := PH.disj_join'.1 d
  have hvo : v.oneCell' = true := by
    obtain ⟨m3, m4, _, _, ho, _⟩ := hs
    rcases ho with ⟨rfl, _⟩ | ⟨g, cap, cur, rfl, _⟩ <;> rfl
  have hv := Frz.ownE (S := S) h m2 v hd.2 hs ⟨rfl, hvo⟩
  have hle : (h.join m2).le (h.join (m1.join m2)) := fun b o e => by
    simp only [PH.join] at e ⊢
    cases hb : h b with
    | some x => rw [hb] at e; exact e
    | none =>
      rw [hb] at e
      have := PH.le_join_right d12 b o e
      simp only [PH.join] at this
      exact this
  have r' := hup h (h.join (m1.join m2)) cs (PH.le_join_left _ _) ((tSlE e R a).mono hle hv) r
  subst e1
  exact ⟨b, 0, cs, hu, ⟨cs.toArray, T, (0, 0), PH.le_join_right d _ _ (PH.le_join_left _ _ _ _ (PH.one_same _ _)), fun i u hu => by simpa using hu⟩, r'⟩
def fsGraphE : List (SF GGraph) := [⟨Int, 3, rInt, GGraph.N⟩, ⟨List Int, 24, rI2, GGraph.Cost⟩, ⟨List (List Int), 33, (rSlE 24 rI2), GGraph.Edges⟩]
abbrev rGraphE : Rp GGraph := rStruct fsGraphE
theorem ty38E : TyOf Tryz.prog 38 rGraphE := ⟨fun w => Tryz.isAgg38 w, fun w => Tryz.sizeOf38 w⟩
theorem so38E : StructOf Tryz.prog 38 fsGraphE := ⟨⟨_, Tryz.underlying38, ⟨rfl, rfl, ty3, by decide, ⟨rfl, rfl, ty24E, by decide, ⟨rfl, rfl, ty33E, by decide, trivial⟩⟩⟩⟩, ty38E⟩
theorem zr38E : ∀ h, (rGraphE.ty zGraph).p h (.agg #[Value.int .i64 0, Value.slice none 0 0, Value.slice none 0 0]) := fun h => ⟨_, ⟨[Value.int .i64 0], _, rfl, rfl, ⟨[Value.slice none 0 0], _, rfl, ⟨_, rfl, zr24E h⟩, ⟨[Value.slice none 0 0], _, rfl, ⟨_, rfl, zr33E h⟩, rfl⟩⟩⟩, rfl⟩
def fsGraphWE : List (SF GGraphW) := [⟨Int, 3, rInt, GGraphW.N⟩, ⟨Value, 24, rV, GGraphW.Cost⟩, ⟨List (List Int), 33, (rSlE 24 rI2), GGraphW.Edges⟩]
abbrev rGraphWE : Rp GGraphW := rStruct fsGraphWE
theorem ty38WE : TyOf Tryz.prog 38 rGraphWE := ⟨fun w => Tryz.isAgg38 w, fun w => Tryz.sizeOf38 w⟩
theorem so38WE : StructOf Tryz.prog 38 fsGraphWE := ⟨⟨_, Tryz.underlying38, ⟨rfl, rfl, ty3, by decide, ⟨rfl, rfl, ty24V38, by decide, ⟨rfl, rfl, ty33E, by decide, trivial⟩⟩⟩⟩, ty38WE⟩
theorem zr38WE : ∀ h, (rGraphWE.ty zGraphW).p h (.agg #[Value.int .i64 0, Value.slice none 0 0, Value.slice none 0 0]) := fun h => ⟨_, ⟨[Value.int .i64 0], _, rfl, rfl, ⟨[Value.slice none 0 0], _, rfl, ⟨rfl, rfl⟩, ⟨[Value.slice none 0 0], _, rfl, ⟨_, rfl, zr33E h⟩, rfl⟩⟩⟩, rfl⟩
theorem up38WE {h h' : PH} {x : GGraphW} (aCost : List Int) {cs : List Value} (l : h.le h') (vCost : (tSlE 3 rInt aCost).p h' x.Cost) (r : SF.rel h x fsGraphWE cs) : SF.rel h' (x.up aCost) fsGraphE cs := by
  obtain ⟨c0, _, rfl, r0, c1, _, rfl, r1, c2, _, rfl, r2, rz⟩ := r
  exact ⟨c0, _, rfl, (rInt).mono l r0, ⟨c1, _, rfl, ⟨_, r1.1, vCost⟩, ⟨c2, _, rfl, ((rSlE 24 rI2)).mono l r2, rz⟩⟩⟩
structure VHyp (rules : List GRule) (facts : List GFact) : Prop where
  fl : facts.length ≤ 100
  rl : rules.length ≤ 1000000
  ru : InRules rules
  hw : ∀ s ∈ (wits rules facts (iota facts.length)), s.length ≤ 3 ∧ ∀ x ∈ s, 0 ≤ x ∧ x < 100
  hwl : (wits rules facts (iota facts.length)).length ≤ 20000
theorem minM_mem {tot : List (List Int)} {s : List Int} (h : s ∈ minM tot) : s ∈ tot := by
  have h1 := (sortL_perm _).mem_iff.1 h
  simp only [minL, List.mem_filter, List.mem_map] at h1
  obtain ⟨⟨p, hp, rfl⟩, _⟩ := h1
  exact (knownM_mem p hp).1
theorem minM_len (tot : List (List Int)) : (minM tot).length ≤ tot.length := by
  unfold minM
  rw [(sortL_perm _).length_eq]
  refine Nat.le_trans (List.length_filter_le _ _) ?_
  rw [List.length_map]
  exact knownM_len tot
theorem danM_mem {rules : List GRule} {facts : List GFact} {x : Int} (h : x ∈ danM rules facts) : 0 ≤ x ∧ x < facts.length := iota_mem (List.mem_filter.1 h).1
theorem danM_len (rules : List GRule) (facts : List GFact) : (danM rules facts).length ≤ facts.length := by
  refine Nat.le_trans (List.length_filter_le _ _) ?_
  simp [iota_len]
theorem Viol_spec {rules : List GRule} {facts : List GFact} (H : VHyp rules facts) : Fun1 Tryz.prog 15 [tSl rRule rules, tSl rFact facts] (tTup [tSlE 24 rI2 (vioM rules facts), tV (.int .i64 0)]) :=
  Violations_spec rules facts H.fl H.ru H.hw (Nat.le_trans H.hwl (by omega)) (Nat.le_trans (minM_len _) H.hwl)
abbrev edgM (rules : List GRule) (facts : List GFact) : List (List Int) := edgT (danM rules facts) (vioM rules facts)
theorem edgM_len {rules : List GRule} {facts : List GFact} (H : VHyp rules facts) : (edgM rules facts).length ≤ 20100 := by
  have h1 := danM_len rules facts
  have h2 := minM_len (wits rules facts (iota facts.length))
  have h3 := H.hwl
  have h4 := H.fl
  simp only [edgM, edgT, List.length_append, List.length_map, vioM]
  omega
theorem edgM_in {rules : List GRule} {facts : List GFact} (H : VHyp rules facts) : ∀ s ∈ edgM rules facts, s.length ≤ 3 ∧ ∀ x ∈ s, 0 ≤ x ∧ x < 100 := by
  intro s hs
  rcases List.mem_append.1 hs with hs | hs
  · obtain ⟨d, hd, rfl⟩ := List.mem_map.1 hs
    have := danM_mem hd
    have := H.fl
    simp only [List.length_cons, List.length_nil, List.mem_singleton, forall_eq]
    omega
  · exact H.hw s (minM_mem hs)
def badC (f : GFact) : Bool := decide (f.Cost < 0) || decide (f.Cost > 1000000000)
def confG (rules : List GRule) (facts : List GFact) : GGraph := if facts.any badC = true then zGraph else ⟨facts.length, facts.map GFact.Cost, minM (edgM rules facts)⟩
def confE (facts : List GFact) : Int := if facts.any badC = true then 1 else 0
theorem any_at {facts : List GFact} {i : Nat} (h : i < facts.length) (hb : badC (nth facts i) = true) : facts.any badC = true := List.any_eq_true.2 ⟨_, nth_mem h, hb⟩

theorem Conflicts_spec (rules : List GRule) (facts : List GFact) (H : VHyp rules facts) : Fun1 Tryz.prog 17 [tSl rRule rules, tSl rFact facts] (tTup [rGraphE.ty (confG rules facts), tV (.int .i64 (confE facts))]) := by
  refine Spec.enter Tryz.func17 rfl rfl fun h0 w0 fr0 => ?_
  have hfl := H.fl
  have hrl := H.rl
  refine J_seq ?_
  refine J_region ?_
  refine JL_step rfl rfl rfl (step_box (R := (rSl rRule)) Sub.rfl) ?_
  refine JL_step rfl rfl rfl (step_box (R := (rSl rFact)) Sub.rfl) ?_
  refine JL_stepX rfl rfl rfl (step_alloc (fun w => Tryz.zeroValue38 w) zr38E) fun v4 => ?_
  refine JL_step rfl rfl rfl (step_assign Sub.rfl) ?_
  refine JL_nil ?_
  refine J_seq ?_
  refine J_seq ?_
  refine J_region ?_
  refine JL_step rfl rfl rfl (step_load_ptr ty23 Sub.rfl) ?_
  refine JL_step rfl rfl rfl (step_len_sl Tryz.underlying23 Sub.rfl) ?_
  refine JL_step rfl rfl rfl (step_gtr Sub.rfl Sub.rfl) ?_
  refine JL_nil ?_
  refine J_cond Sub.rfl (fun h13 => ?_) (fun h13 => ?_)
  · try simp only [decide_eq_true_eq, decide_eq_false_iff_not, Bool.and_eq_true, Bool.or_eq_true, Bool.and_eq_false_iff, Bool.or_eq_false_iff, Bool.not_eq_true', Bool.not_eq_false', Int.not_lt, Int.not_le, Bool.not_true, Bool.not_false] at h13
    exfalso; omega
  · try simp only [decide_eq_true_eq, decide_eq_false_iff_not, Bool.and_eq_true, Bool.or_eq_true, Bool.and_eq_false_iff, Bool.or_eq_false_iff, Bool.not_eq_true', Bool.not_eq_false', Int.not_lt, Int.not_le, Bool.not_true, Bool.not_false] at h13
    refine J_skip ?_
    refine J_seq ?_
    refine J_region ?_
    refine JL_step rfl rfl rfl (step_load_ptr ty23 Sub.rfl) ?_
    refine JL_step rfl rfl rfl (step_len_sl Tryz.underlying23 Sub.rfl) ?_
    refine JL_step rfl rfl rfl (step_build (x := (⟨facts.length, .slice none 0 0, []⟩ : GGraphW)) (zs := [[Value.int .i64 0], [Value.slice none 0 0], [Value.slice none 0 0]]) so38WE (fun w => Tryz.zeroValue38 w) ⟨Sub.rfl, trivial⟩ ⟨⟨Sub.rfl, rfl⟩, fun _ => ⟨rfl, rfl⟩, fun _ => ⟨_, rfl, Sub.nilslE _ _ rfl⟩, trivial⟩) ?_
    refine JL_stepX rfl rfl rfl (step_alloc (fun w => Tryz.zeroValue38 w) zr38WE) fun v6 => ?_
    refine JL_stepU rfl rfl (step_store_box ty38WE Sub.rfl Sub.rfl (by first | exact Sel.take (Sel.none _) | exact Sel.skip (Sel.take (Sel.none _)) | exact Sel.skip (Sel.skip (Sel.take (Sel.none _))) | exact Sel.skip (Sel.skip (Sel.skip (Sel.take (Sel.none _)))) | exact Sel.skip (Sel.skip (Sel.skip (Sel.skip (Sel.take (Sel.none _))))))) fun _ => ?_
    refine JL_nil ?_
    refine K_lsub (LSub.nilown (e := 3) (R := rInt)) ?_
    refine J_seq ?_
    refine J_seq ?_
    refine J_region ?_
    refine JL_step rfl rfl rfl (step_load_ptr ty23 Sub.rfl) ?_
    refine JL_step rfl rfl rfl (step_len_sl Tryz.underlying23 Sub.rfl) ?_
    refine JL_step rfl rfl rfl (step_move Sub.rfl) ?_
    refine JL_nil ?_
    refine J_block ?_
    refine J_loopL (σ := Nat × Value) (fun ⟨i, v⟩ => i ≤ facts.length ∧ ∀ f ∈ facts.take i, badC f = false) (fun ⟨i, v⟩ => upd (upd (upd (upd (upd (upd (upd env0 2 (tPtr (rSl rRule) rules)) 3 (tPtr (rSl rFact) facts)) 4 (tAt v4 0)) 6 (tAt v6 0)) 18 (tSl rFact facts)) 19 (tV (.int .i64 facts.length))) 20 (tV (.int .i64 i))) (fun ⟨i, v⟩ => [box v4 38 rGraphE zGraph, box v6 38 rGraphWE (⟨facts.length, v, []⟩ : GGraphW), own 3 rInt v ((facts.take i).map GFact.Cost)]) (fun ⟨i, v⟩ => facts.length - i) (0, .slice none 0 0) ⟨by simp, by simp⟩ (SubE.upd Sub.rfl (SubE.upd Sub.rfl (SubE.upd Sub.rfl (SubE.upd Sub.rfl (SubE.upd Sub.rfl (SubE.upd Sub.rfl (SubE.upd Sub.rfl SubE.any))))))) (LSub.cons (by first | exact Sel.take (Sel.none _) | exact Sel.skip (Sel.take (Sel.none _)) | exact Sel.skip (Sel.skip (Sel.take (Sel.none _))) | exact Sel.skip (Sel.skip (Sel.skip (Sel.take (Sel.none _)))) | exact Sel.skip (Sel.skip (Sel.skip (Sel.skip (Sel.take (Sel.none _)))))) (SPs.rfl) (LSub.cons (by first | exact Sel.take (Sel.none _) | exact Sel.skip (Sel.take (Sel.none _)) | exact Sel.skip (Sel.skip (Sel.take (Sel.none _))) | exact Sel.skip (Sel.skip (Sel.skip (Sel.take (Sel.none _)))) | exact Sel.skip (Sel.skip (Sel.skip (Sel.skip (Sel.take (Sel.none _)))))) (SPs.rfl) (LSub.cons (by first | exact Sel.take (Sel.none _) | exact Sel.skip (Sel.take (Sel.none _)) | exact Sel.skip (Sel.skip (Sel.take (Sel.none _))) | exact Sel.skip (Sel.skip (Sel.skip (Sel.take (Sel.none _)))) | exact Sel.skip (Sel.skip (Sel.skip (Sel.skip (Sel.take (Sel.none _)))))) (own_eq (by simp)) (LSub.nil)))) ?_
    rintro ⟨i, v⟩ ⟨hi, hv⟩
    refine J_seq ?_
    refine J_region ?_
    refine JL_step rfl rfl rfl (step_lss Sub.rfl Sub.rfl) ?_
    refine JL_nil ?_
    refine J_seq ?_
    refine J_cond Sub.rfl (fun h21 => ?_) (fun h21 => ?_)
    · try simp only [decide_eq_true_eq, decide_eq_false_iff_not, Bool.and_eq_true, Bool.or_eq_true, Bool.and_eq_false_iff, Bool.or_eq_false_iff, Bool.not_eq_true', Bool.not_eq_false', Int.not_lt, Int.not_le, Bool.not_true, Bool.not_false] at h21
      have hlt : i < facts.length := by omega
      refine J_skip ?_
      refine J_seq ?_
      refine J_block ?_
      refine J_seq ?_
      refine J_region ?_
      refine JL_step rfl rfl rfl (step_indexAddr_sl  Tryz.underlying23 ty54 Sub.rfl Sub.rfl rfl (gb ?sg1)) ?_
      case sg1 => first | assumption | omega
      refine JL_step rfl rfl rfl (step_load_ptr ty54 Sub.rfl) ?_
      refine JL_stepX rfl rfl rfl (step_alloc (fun w => Tryz.zeroValue54 w) zr54) fun v8 => ?_
      refine JL_stepU rfl rfl (step_store_box ty54 Sub.rfl Sub.rfl (by first | exact Sel.take (Sel.none _) | exact Sel.skip (Sel.take (Sel.none _)) | exact Sel.skip (Sel.skip (Sel.take (Sel.none _))) | exact Sel.skip (Sel.skip (Sel.skip (Sel.take (Sel.none _)))) | exact Sel.skip (Sel.skip (Sel.skip (Sel.skip (Sel.take (Sel.none _))))))) fun _ => ?_
      refine JL_freeze (t := 8) (Sel.take (Sel.none _)) Frz.box ?_
      refine JL_nil ?_
      refine J_seq ?_
      refine J_seq ?_
      refine J_region ?_
      refine JL_step rfl rfl rfl (step_fieldAddr so54 Sub.rfl rfl) ?_
      refine JL_step rfl rfl rfl (step_load_ptr ty3 Sub.rfl) ?_
      refine JL_step rfl rfl rfl (step_lss Sub.rfl Sub.rfl) ?_
      refine JL_step rfl rfl rfl (step_move Sub.rfl) ?_
      refine JL_stepG rfl rfl rfl (Gd.plain Sub.rfl) rfl rfl (fun hw => step_fieldAddr so54 Sub.rfl rfl) ?_
      refine JL_stepG rfl rfl rfl (Gd.plain Sub.rfl) rfl rfl (fun hw => step_load_ptr ty3 (Sub.w hw)) ?_
      refine JL_stepG rfl rfl rfl (Gd.plain Sub.rfl) rfl rfl (fun hw => step_gtr (Sub.w hw) Sub.rfl) ?_
      refine JL_step rfl rfl rfl (step_pick_or Sub.rfl Sub.rfl) ?_
      refine JL_nil ?_
      refine J_cond Sub.rfl (fun h31 => ?_) (fun h31 => ?_)
      · try simp only [decide_eq_true_eq, decide_eq_false_iff_not, Bool.and_eq_true, Bool.or_eq_true, Bool.and_eq_false_iff, Bool.or_eq_false_iff, Bool.not_eq_true', Bool.not_eq_false', Int.not_lt, Int.not_le, Bool.not_true, Bool.not_false] at h31
        have hb : facts.any badC = true := any_at hlt (by simp only [badC, Bool.or_eq_true, decide_eq_true_eq]; omega)
        refine J_seq ?_
        refine J_region ?_
        refine JL_step rfl rfl rfl (step_build (x := (zGraph : GGraph)) (zs := [[Value.int .i64 0], [Value.slice none 0 0], [Value.slice none 0 0]]) so38E (fun w => Tryz.zeroValue38 w) trivial ⟨fun _ => rfl, fun _ => ⟨_, rfl, Sub.nilslE _ _ rfl⟩, fun _ => ⟨_, rfl, Sub.nilslE _ _ rfl⟩, trivial⟩) ?_
        refine JL_stepU rfl rfl (step_store_box ty38E Sub.rfl Sub.rfl (by first | exact Sel.take (Sel.none _) | exact Sel.skip (Sel.take (Sel.none _)) | exact Sel.skip (Sel.skip (Sel.take (Sel.none _))) | exact Sel.skip (Sel.skip (Sel.skip (Sel.take (Sel.none _)))) | exact Sel.skip (Sel.skip (Sel.skip (Sel.skip (Sel.take (Sel.none _))))))) fun _ => ?_
        refine JL_step rfl rfl rfl (step_assign Sub.rfl) ?_
        refine JL_nil ?_
        refine J_ret ?_
        refine K_ret2' (rv := .cell 4 38) (rv' := .tmp 5) rfl () (Sel.all _) (.cell ty38E Sub.rfl (by first | exact Sel.take (Sel.none _) | exact Sel.skip (Sel.take (Sel.none _)) | exact Sel.skip (Sel.skip (Sel.take (Sel.none _))) | exact Sel.skip (Sel.skip (Sel.skip (Sel.take (Sel.none _)))) | exact Sel.skip (Sel.skip (Sel.skip (Sel.skip (Sel.take (Sel.none _)))))) Sub.rfl) (.tmp Sub.rfl) (Frz.sub ?_) (Frz.sub ?_) Sub.rfl
        · rw [show confG rules facts = zGraph from if_pos hb]; exact Sub.rfl
        · rw [show confE facts = 1 from if_pos hb]; exact Sub.rfl
      · try simp only [decide_eq_true_eq, decide_eq_false_iff_not, Bool.and_eq_true, Bool.or_eq_true, Bool.and_eq_false_iff, Bool.or_eq_false_iff, Bool.not_eq_true', Bool.not_eq_false', Int.not_lt, Int.not_le, Bool.not_true, Bool.not_false] at h31
        have hb : badC (nth facts i) = false := by simp only [badC, Bool.or_eq_false_iff, decide_eq_false_iff_not]; omega
        refine J_skip ?_
        refine J_region ?_
        refine JL_step rfl rfl rfl (step_fieldAddr_own so38WE Sub.rfl rfl) ?_
        refine JL_step rfl rfl rfl (step_load_fld ty24V38 Sub.rfl rfl (by first | exact Sel.take (Sel.none _) | exact Sel.skip (Sel.take (Sel.none _)) | exact Sel.skip (Sel.skip (Sel.take (Sel.none _))) | exact Sel.skip (Sel.skip (Sel.skip (Sel.take (Sel.none _)))) | exact Sel.skip (Sel.skip (Sel.skip (Sel.skip (Sel.take (Sel.none _))))))) ?_
        refine JL_step rfl rfl rfl (step_fieldAddr so54 Sub.rfl rfl) ?_
        refine JL_step rfl rfl rfl (step_load_ptr ty3 Sub.rfl) ?_
        refine JL_step rfl rfl rfl (step_literal (ys := [_]) Tryz.underlying24 el3 ⟨rfl, Sub.rfl, trivial⟩ rfl (by decide)) ?_
        refine JL_stepX rfl rfl rfl (step_append Tryz.underlying24 el3 Sub.rfl Sub.rfl (by first | exact Sel.take (Sel.none _) | exact Sel.skip (Sel.take (Sel.none _)) | exact Sel.skip (Sel.skip (Sel.take (Sel.none _))) | exact Sel.skip (Sel.skip (Sel.skip (Sel.take (Sel.none _)))) | exact Sel.skip (Sel.skip (Sel.skip (Sel.skip (Sel.take (Sel.none _)))))) (by simp; omega) (by simp; omega)) fun v38 => ?_
        refine JL_step rfl rfl rfl (step_fieldAddr_own so38WE Sub.rfl rfl) ?_
        refine JL_stepU rfl rfl (step_store_fld (R := rV) (y' := (⟨facts.length, v38, []⟩ : GGraphW)) ty24V38 Sub.rfl Sub.rfl (by first | exact Sel.take (Sel.none _) | exact Sel.skip (Sel.take (Sel.none _)) | exact Sel.skip (Sel.skip (Sel.take (Sel.none _))) | exact Sel.skip (Sel.skip (Sel.skip (Sel.take (Sel.none _)))) | exact Sel.skip (Sel.skip (Sel.skip (Sel.skip (Sel.take (Sel.none _)))))) ?sg1) fun _ => ?_
        case sg1 => exact ⟨rfl, fun _ _ q => q, rfl, by intro g hg; rcases List.mem_singleton.1 hg with rfl; rfl⟩
        refine JL_nil ?_
        refine J_region ?_
        refine JL_step rfl rfl rfl (step_add Sub.rfl Sub.rfl ?sg1) ?_
        case sg1 => unfold in64; omega
        refine JL_step rfl rfl rfl (step_move Sub.rfl) ?_
        refine JL_nil ?_
        refine K_againL (σ := Nat × Value) (s := (i, v)) (i + 1, v38) (by first | omega | (dsimp only; omega) | (simp_all; omega)) ⟨by omega, by intro f hf; rw [takeB hlt] at hf; rcases List.mem_append.1 hf with hf | hf; exact hv f hf; rw [List.mem_singleton.1 hf]; exact hb⟩ (SubE.upd Sub.rfl (SubE.upd Sub.rfl (SubE.upd Sub.rfl (SubE.upd Sub.rfl (SubE.upd Sub.rfl (SubE.upd Sub.rfl (SubE.upd Sub.rfl SubE.any))))))) (LSub.cons (by first | exact Sel.take (Sel.none _) | exact Sel.skip (Sel.take (Sel.none _)) | exact Sel.skip (Sel.skip (Sel.take (Sel.none _))) | exact Sel.skip (Sel.skip (Sel.skip (Sel.take (Sel.none _)))) | exact Sel.skip (Sel.skip (Sel.skip (Sel.skip (Sel.take (Sel.none _)))))) (SPs.rfl) (LSub.cons (by first | exact Sel.take (Sel.none _) | exact Sel.skip (Sel.take (Sel.none _)) | exact Sel.skip (Sel.skip (Sel.take (Sel.none _))) | exact Sel.skip (Sel.skip (Sel.skip (Sel.take (Sel.none _)))) | exact Sel.skip (Sel.skip (Sel.skip (Sel.skip (Sel.take (Sel.none _)))))) (SPs.rfl) (LSub.cons (by first | exact Sel.take (Sel.none _) | exact Sel.skip (Sel.take (Sel.none _)) | exact Sel.skip (Sel.skip (Sel.take (Sel.none _))) | exact Sel.skip (Sel.skip (Sel.skip (Sel.take (Sel.none _)))) | exact Sel.skip (Sel.skip (Sel.skip (Sel.skip (Sel.take (Sel.none _)))))) (own_eq (by rw [take_succ_map GFact.Cost hlt])) (LSub.nil))))
    · try simp only [decide_eq_true_eq, decide_eq_false_iff_not, Bool.and_eq_true, Bool.or_eq_true, Bool.and_eq_false_iff, Bool.or_eq_false_iff, Bool.not_eq_true', Bool.not_eq_false', Int.not_lt, Int.not_le, Bool.not_true, Bool.not_false] at h21
      refine J_exit ?_
      refine J_seq ?_
      refine J_region ?_
      refine JL_step rfl rfl rfl (step_load_ptr ty22 Sub.rfl) ?_
      refine JL_step rfl rfl rfl (step_load_ptr ty23 Sub.rfl) ?_
      refine JL_step rfl rfl rfl (step_call0 (Viol_spec H) ⟨Sub.rfl, Sub.rfl, trivial⟩ Tryz.call15) ?_
      refine JL_step rfl rfl rfl (step_move Sub.rfl) ?_
      refine JL_step rfl rfl rfl (step_extract Sub.rfl rfl) ?_
      refine JL_step rfl rfl rfl (step_extract Sub.rfl rfl) ?_
      refine JL_stepX rfl rfl rfl (step_alloc (fun w => Tryz.zeroValue33 w) zr33E) fun v9 => ?_
      refine JL_stepU rfl rfl (step_store_box ty33E Sub.rfl Sub.rfl (by first | exact Sel.take (Sel.none _) | exact Sel.skip (Sel.take (Sel.none _)) | exact Sel.skip (Sel.skip (Sel.take (Sel.none _))) | exact Sel.skip (Sel.skip (Sel.skip (Sel.take (Sel.none _)))) | exact Sel.skip (Sel.skip (Sel.skip (Sel.skip (Sel.take (Sel.none _))))))) fun _ => ?_
      refine JL_freeze (t := 9) (Sel.take (Sel.none _)) Frz.box ?_
      refine JL_step rfl rfl rfl (step_assign Sub.rfl) ?_
      refine JL_nil ?_
      refine J_seq ?_
      refine J_seq ?_
      refine J_region ?_
      refine JL_step rfl rfl rfl (step_move Sub.rfl) ?_
      refine JL_step rfl rfl rfl (step_neq Sub.rfl Sub.rfl) ?_
      refine JL_nil ?_
      refine J_cond Sub.rfl (fun h48 => ?_) (fun h48 => ?_)
      · try simp only [decide_eq_true_eq, decide_eq_false_iff_not, Bool.and_eq_true, Bool.or_eq_true, Bool.and_eq_false_iff, Bool.or_eq_false_iff, Bool.not_eq_true', Bool.not_eq_false', Int.not_lt, Int.not_le, Bool.not_true, Bool.not_false] at h48
        exact absurd trivial h48
      · try simp only [decide_eq_true_eq, decide_eq_false_iff_not, Bool.and_eq_true, Bool.or_eq_true, Bool.and_eq_false_iff, Bool.or_eq_false_iff, Bool.not_eq_true', Bool.not_eq_false', Int.not_lt, Int.not_le, Bool.not_true, Bool.not_false] at h48
        refine J_skip ?_
        refine J_seq ?_
        refine J_region ?_
        refine JL_step rfl rfl rfl (step_makeFunc (As := [_, _, _]) ⟨Sub.rfl, Sub.rfl, Sub.rfl, trivial⟩) ?_
        refine JL_step rfl rfl rfl (step_call0 (minimal1 (edgM rules facts) (edgM_in H) (Nat.le_trans (edgM_len H) (by omega)) 42 _ (edges_spec rules facts _ _ (Dangling_spec rules facts (by omega) (by omega)) (Nat.le_trans (danM_len _ _) (by omega)) (Nat.le_trans (Nat.le_trans (minM_len _) H.hwl) (by omega))) Tryz.call42) ⟨Sub.rfl, trivial⟩ Tryz.call36) ?_
        refine JL_step rfl rfl rfl (step_fieldAddr_own so38WE Sub.rfl rfl) ?_
        refine JL_stepU rfl rfl (step_store_fld (R := (rSlE 24 rI2)) (y' := (⟨facts.length, v, minM (edgM rules facts)⟩ : GGraphW)) ty33E Sub.rfl Sub.rfl (by first | exact Sel.take (Sel.none _) | exact Sel.skip (Sel.take (Sel.none _)) | exact Sel.skip (Sel.skip (Sel.take (Sel.none _))) | exact Sel.skip (Sel.skip (Sel.skip (Sel.take (Sel.none _)))) | exact Sel.skip (Sel.skip (Sel.skip (Sel.skip (Sel.take (Sel.none _)))))) ?sg1) fun _ => ?_
        case sg1 => exact ⟨rfl, rfl, fun _ _ q => q, rfl, fun _ h => (by cases h)⟩
        refine JL_nil ?_
        refine J_seq ?_
        refine J_region ?_
        refine JL_freeze (t := 6) (Sel.take (Sel.skip (Sel.take (Sel.none _)))) (Frz.upE (y := (⟨facts.length, v, minM (edgM rules facts)⟩ : GGraphW).up _) fun h h2 cs l hv q => up38WE _ l hv q) ?_
        refine JL_step rfl rfl rfl (step_load_ptr ty38E Sub.rfl) ?_
        refine JL_stepU rfl rfl (step_store_box ty38E Sub.rfl Sub.rfl (by first | exact Sel.take (Sel.none _) | exact Sel.skip (Sel.take (Sel.none _)) | exact Sel.skip (Sel.skip (Sel.take (Sel.none _))) | exact Sel.skip (Sel.skip (Sel.skip (Sel.take (Sel.none _)))) | exact Sel.skip (Sel.skip (Sel.skip (Sel.skip (Sel.take (Sel.none _))))))) fun _ => ?_
        refine JL_step rfl rfl rfl (step_assign Sub.rfl) ?_
        refine JL_nil ?_
        refine J_ret ?_
        have hb : ¬ facts.any badC = true := by
          intro h; obtain ⟨f, hf, hx⟩ := List.any_eq_true.1 h; rw [List.take_of_length_le (by omega)] at hv; rw [hv f hf] at hx; cases hx
        refine K_ret2' (rv := .cell 4 38) (rv' := .tmp 5) rfl () (Sel.all _) (.cell ty38E Sub.rfl (by first | exact Sel.take (Sel.none _) | exact Sel.skip (Sel.take (Sel.none _)) | exact Sel.skip (Sel.skip (Sel.take (Sel.none _))) | exact Sel.skip (Sel.skip (Sel.skip (Sel.take (Sel.none _)))) | exact Sel.skip (Sel.skip (Sel.skip (Sel.skip (Sel.take (Sel.none _)))))) Sub.rfl) (.tmp Sub.rfl) (Frz.sub ?_) (Frz.sub ?_) Sub.rfl
        · rw [show confG rules facts = ⟨facts.length, facts.map GFact.Cost, minM (edgM rules facts)⟩ from if_neg hb]; obtain rfl : i = facts.length := (by omega); rw [List.take_length]; exact Sub.rfl
        · rw [show confE facts = 0 from if_neg hb]; exact Sub.rfl
end Lg
