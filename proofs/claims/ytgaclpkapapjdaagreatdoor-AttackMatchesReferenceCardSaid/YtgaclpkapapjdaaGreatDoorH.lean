/- The reference's builder: what it holds, and its walks; sizes of what is handed in. -/
import Derived.Test.YtgaclpkapapjdaaGreatDoorF
set_option linter.unusedVariables false
set_option linter.unusedSimpArgs false
set_option linter.unusedSectionVars false
namespace Lg
open Go Go.Proofs Go.Proofs.Tryz
def rbindS (s : Bst) (i k : Nat) : Bst := if topM s.P i ≤ topM s.P k then bindS s i k else bindS s k i
theorem rbind_keep (s : Bst) (i k : Nat) : Keep s (rbindS s i k) 1 := by
  unfold rbindS
  split
  · exact bind_keep s i k
  · exact bind_keep s k i
theorem rbind_inv {sc : GSchema} {s : Bst} (h : BdInv sc s) {i k : Nat} (hi : i < s.P.length) (hk : k < s.P.length) : BdInv sc (rbindS s i k) := by
  unfold rbindS
  split
  · exact bind_inv h hi hk
  · exact bind_inv h hk hi
def requalS (s : Bst) (t : GTest) (cols : List Int) : Bst :=
  if t.Op ≠ 1 ∨ t.Add ≠ 0 then { s with bad := true }
  else if t.Left.Var = -1 then fixS s (colAt cols t.Right.Col) t.Left.Value
  else if t.Right.Var = -1 then fixS s (colAt cols t.Left.Col) t.Right.Value
  else rbindS s (colAt cols t.Left.Col) (colAt cols t.Right.Col)
theorem requal_keep (s : Bst) (t : GTest) (cols : List Int) : Keep s (requalS s t cols) 1 := by
  unfold requalS
  split
  · exact ⟨rfl, by show s.F.length ≤ _; omega, rfl, rfl⟩
  · split
    · exact (fix_keep _ _ _).le (by omega)
    · split
      · exact (fix_keep _ _ _).le (by omega)
      · exact rbind_keep _ _ _
theorem requal_inv {sc : GSchema} {s : Bst} (h : BdInv sc s) {t : GTest} {cols : List Int} (hcb : ∀ c ∈ cols, 0 ≤ c ∧ c < s.P.length) (ht : testOk t cols.length = true) : BdInv sc (requalS s t cols) := by
  have hs := test_sides ht
  have hl := fun (q : t.Left.Var ≠ -1) => col_in hcb (side_col hs.1 q)
  have hr := fun (q : t.Right.Var ≠ -1) => col_in hcb (side_col hs.2.1 q)
  unfold requalS
  split
  · exact ⟨h.pok, h.fin, h.ts, h.tin⟩
  · split
    · rename_i q
      exact fix_inv h (hr (by have := hs.2.2; omega)).2.2.2 _
    · rename_i q
      split
      · exact fix_inv h (hl q).2.2.2 _
      · rename_i q2
        exact rbind_inv h (hl q).2.2.2 (hr q2).2.2.2
theorem rtests_ok {sc : GSchema} {cols : List Int} : ∀ {l : List GTest} {s : Bst}, BdInv sc s → (∀ c ∈ cols, 0 ≤ c ∧ c < s.P.length) → (∀ t ∈ l, testOk t cols.length = true) →
    BdInv sc (l.foldl (fun s t => requalS s t cols) s) ∧ Keep s (l.foldl (fun s t => requalS s t cols) s) l.length
  | [], s, h, _, _ => ⟨h, Keep.refl s⟩
  | t :: l, s, h, hc, ht => by
    have h1 := requal_inv h hc (ht t List.mem_cons_self)
    have hk := requal_keep s t cols
    obtain ⟨h2, h3⟩ := rtests_ok (l := l) h1 (fun c hc' => by rw [hk.pl]; exact hc c hc') (fun t' ht' => ht t' (List.mem_cons_of_mem _ ht'))
    exact ⟨h2, (hk.trans h3).le (by simp; omega)⟩
def rjoinStep (a : List GAttr) (k0 k1 : List Int) (st : Bst × List Int) (x : GAttr × Int) : Bst × List Int :=
  if 0 ≤ columnL a x.1.Name then (rbindS st.1 (colAt k0 (columnL a x.1.Name)) x.2.toNat, st.2) else (st.1, st.2 ++ [x.2])
def rjoinS (a b : List GAttr) (k0 k1 : List Int) (s : Bst) : Bst × List Int := (b.zip k1).foldl (rjoinStep a k0 k1) (s, k0)
theorem rjoinS_ok {sc : GSchema} {a : List GAttr} {k0 k1 : List Int} : ∀ {l : List (GAttr × Int)} {s : Bst} {o : List Int}, BdInv sc s → (∀ c ∈ k0, 0 ≤ c ∧ c < s.P.length) → k0.length = a.length → (∀ c ∈ o, 0 ≤ c ∧ c < s.P.length) → (∀ x ∈ l, 0 ≤ x.2 ∧ x.2 < s.P.length) →
    BdInv sc (l.foldl (rjoinStep a k0 k1) (s, o)).1 ∧ Keep s (l.foldl (rjoinStep a k0 k1) (s, o)).1 l.length ∧ (∀ c ∈ (l.foldl (rjoinStep a k0 k1) (s, o)).2, 0 ≤ c ∧ c < s.P.length) ∧
      (l.foldl (rjoinStep a k0 k1) (s, o)).2.length = o.length + (l.filter fun x => decide (columnL a x.1.Name < 0)).length
  | [], s, o, h, _, _, ho, _ => ⟨h, Keep.refl s, ho, by simp⟩
  | x :: l, s, o, h, h0, hl, ho, hx => by
    have hx0 := hx x List.mem_cons_self
    have hxs := fun y hy => hx y (List.mem_cons_of_mem _ hy)
    rw [List.foldl_cons]
    by_cases hc : 0 ≤ columnL a x.1.Name
    · have e : rjoinStep a k0 k1 (s, o) x = (rbindS s (colAt k0 (columnL a x.1.Name)) x.2.toNat, o) := by unfold rjoinStep; rw [if_pos hc]
      rw [e]
      have hcl := col_lt a x.1.Name
      have hci := col_in h0 (c := columnL a x.1.Name) ⟨hc, by omega⟩
      have h1 := rbind_inv h hci.2.2.2 (show x.2.toNat < s.P.length by omega)
      have hk := rbind_keep s (colAt k0 (columnL a x.1.Name)) x.2.toNat
      obtain ⟨g1, g2, g3, g4⟩ := rjoinS_ok (l := l) (o := o) h1 (by rw [hk.pl]; exact h0) hl (by rw [hk.pl]; exact ho) (by rw [hk.pl]; exact hxs)
      refine ⟨g1, (hk.trans g2).le (by simp; omega), by rw [hk.pl] at g3; exact g3, ?_⟩
      rw [g4, List.filter_cons_of_neg (by simpa using hc)]
    · have e : rjoinStep a k0 k1 (s, o) x = (s, o ++ [x.2]) := by unfold rjoinStep; rw [if_neg hc]
      rw [e]
      obtain ⟨g1, g2, g3, g4⟩ := rjoinS_ok (l := l) (o := o ++ [x.2]) h h0 hl (fun c hc' => by
        rcases List.mem_append.1 hc' with q | q
        · exact ho c q
        · rw [List.mem_singleton.1 q]; exact hx0) hxs
      refine ⟨g1, g2.le (by simp), g3, ?_⟩
      rw [g4, List.filter_cons_of_pos (by simp; omega)]; simp; omega
def ractS (sc : GSchema) (p : GPlan) (s : Bst) (kids : List (List Int)) : Bst × List Int :=
  if p.Kind = 2 then (p.Tests.foldl (fun s t => requalS s t (nth kids 0)) s, nth kids 0)
  else if p.Kind = 4 then rjoinS (nth p.Kids 0).Attrs (nth p.Kids 1).Attrs (nth kids 0) (nth kids 1) s
  else actS sc p s kids
/-- The reference's walk of queries of a depth. -/
def rwalkS (sc : GSchema) : Nat → Bst → GPlan → Bst × List Int
  | 0, s, p => (s, [])
  | n + 1, s, p =>
    if (kidsS (rwalkS sc n) s p.Kids).1.bad = true then ((kidsS (rwalkS sc n) s p.Kids).1, [])
    else if walkable p.Kind = false then ({ (kidsS (rwalkS sc n) s p.Kids).1 with bad := true }, [])
    else ractS sc p (kidsS (rwalkS sc n) s p.Kids).1 (kidsS (rwalkS sc n) s p.Kids).2
theorem ract_ok {sc : GSchema} (hs : schM sc = true) {n l : Nat} {p : GPlan} {s s0 : Bst} {ks : List (List Int)} (hv : validM sc l p = true) (hw : walkable p.Kind = true) (hk : KOk sc n s0 p.Kids (s, ks)) (hb : s.bad = false) : WOk sc (n + 1) s0 p (ractS sc p s ks) := by
  obtain ⟨h1, h2⟩ := hk.li hb
  have hi : BdInv sc s := hk.inv
  have k1 : s0.P.length ≤ s.P.length := hk.pl
  have k2 : s.P.length ≤ s0.P.length + 12 * (p.Kids.map (nodes n)).sum := hk.pm
  have k3 : s.F.length ≤ s0.F.length + (p.Kids.map (binds n)).sum := hk.fl
  have k4 : s.T.length ≤ s0.T.length + (p.Kids.map (nodes n)).sum := hk.tl
  have en : nodes (n + 1) p = 1 + (p.Kids.map (nodes n)).sum := rfl
  have eb : binds (n + 1) p = p.Tests.length + (nth p.Kids 1).Attrs.length + (p.Kids.map (binds n)).sum := rfl
  have h1 : ks.length = p.Kids.length := h1
  have h2 : ∀ i, i < p.Kids.length → (nth ks i).length = (nth p.Kids i).Attrs.length ∧ ∀ x ∈ nth ks i, 0 ≤ x ∧ x < s.P.length := h2
  have keep : ∀ {s' : Bst} {o : List Int} {k : Nat}, Keep s s' k → BdInv sc s' → k ≤ p.Tests.length + (nth p.Kids 1).Attrs.length → o.length = p.Attrs.length → (∀ x ∈ o, 0 ≤ x ∧ x < s.P.length) → WOk sc (n + 1) s0 p (s', o) := by
    intro s' o k hkp hinv hle hlen hin
    have e1 := hkp.pl; have e2 := hkp.fl; have e3 := hkp.t
    refine ⟨hinv, ?_, ?_, ?_, ?_, fun _ => ⟨hlen, ?_⟩⟩
    · show s0.P.length ≤ s'.P.length; omega
    · show s'.P.length ≤ _; rw [en]; omega
    · show s'.F.length ≤ _; rw [eb]; omega
    · show s'.T.length ≤ _; rw [e3, en]; omega
    · show ∀ x ∈ o, 0 ≤ x ∧ x < (s'.P.length : Int); rw [e1]; exact hin
  unfold ractS
  by_cases c2 : p.Kind = 2
  · rw [if_pos c2]
    obtain ⟨hn, ht, hl⟩ := vk2 hv c2
    have h0 := h2 0 (by omega)
    obtain ⟨g1, g2⟩ := rtests_ok (cols := nth ks 0) (l := p.Tests) hi h0.2 (by rw [h0.1]; exact ht)
    exact keep g2 g1 (by omega) (by rw [h0.1, hl]) h0.2
  rw [if_neg c2]
  by_cases c4 : p.Kind = 4
  · rw [if_pos c4]
    obtain ⟨hn, hl⟩ := vk4 hv c4
    have h0 := h2 0 (by omega)
    have h1' := h2 1 (by omega)
    obtain ⟨g1, g2, g3, g4⟩ := rjoinS_ok (sc := sc) (a := (nth p.Kids 0).Attrs) (k0 := nth ks 0) (k1 := nth ks 1) (l := (nth p.Kids 1).Attrs.zip (nth ks 1)) (o := nth ks 0) hi h0.2 h0.1 h0.2 (fun x hx => h1'.2 _ (zip_mem hx))
    have hz : ((nth p.Kids 1).Attrs.zip (nth ks 1)).length = (nth p.Kids 1).Attrs.length := by rw [List.length_zip, h1'.1]; simp
    rw [hz] at g2
    refine keep g2 g1 (by omega) ?_ g3
    show ((((nth p.Kids 1).Attrs.zip (nth ks 1)).foldl _ (s, nth ks 0)).2).length = _
    rw [g4, hl, join_cnt h1'.1, h0.1]; unfold joinL; rw [List.length_append]
  rw [if_neg c4]
  exact act_ok hs hv hw hk hb
theorem rwalk_ok {sc : GSchema} (hs : schM sc = true) : ∀ {n l : Nat} {p : GPlan} {s : Bst}, Dep n p → validM sc l p = true → BdInv sc s → WOk sc n s p (rwalkS sc n s p)
  | 0, _, _, _, hd, _, _ => hd.elim
  | n + 1, l, p, s, hd, hv, hi => by
    obtain ⟨l', rfl, _, _, hvk, _, _⟩ := valid_in hv
    have hk : KOk sc n s p.Kids (kidsS (rwalkS sc n) s p.Kids) := kids_ok (fun q hq s' hs' => rwalk_ok hs (hd q hq) (hvk q hq) hs') hi
    unfold rwalkS
    by_cases hb : (kidsS (rwalkS sc n) s p.Kids).1.bad = true
    · rw [if_pos hb]; exact WOk.bad hk hb
    · rw [if_neg hb]
      by_cases hw : walkable p.Kind = false
      · rw [if_pos hw]
        have hk' : KOk sc n s p.Kids ({ (kidsS (rwalkS sc n) s p.Kids).1 with bad := true }, (kidsS (rwalkS sc n) s p.Kids).2) :=
          ⟨⟨hk.inv.pok, hk.inv.fin, hk.inv.ts, hk.inv.tin⟩, hk.pl, hk.pm, hk.fl, hk.tl, hk.le, fun e => by cases e⟩
        exact WOk.bad hk' rfl
      · rw [if_neg hw]; exact ract_ok hs hv (by simpa using hw) hk (Bool.eq_false_iff.2 hb)
/-! ### Classes and their values -/
def valO (P : List Gplace) (j : Nat) : Option GValue := if (nth P j).fixed = true then some (nth P j).value else none
def cvT (P : List Gplace) (x : Nat) : Option GValue := valO P (topM P x)
structure ClsEq (P Q : List Gplace) : Prop where
  len : P.length = Q.length
  tog : ∀ x y, x < P.length → y < P.length → (topM P x = topM P y ↔ topM Q x = topM Q y)
  val : ∀ x, x < P.length → cvT P x = cvT Q x
  nn : ∀ x, x < P.length → ∀ v, cvT P x = some v → v.Kind ≠ 0
structure Rl (s s' : Bst) : Prop where
  bad : s.bad = s'.bad
  ok : s.bad = false → s.F = s'.F ∧ s.T = s'.T ∧ s.S = s'.S ∧ ClsEq s.P s'.P
theorem nth_out {α : Type} [Inhabited α] {l : List α} {i : Nat} (h : ¬ i < l.length) : nth l i = default := by
  induction l generalizing i with
  | nil => rfl
  | cons a l ih =>
    cases i with
    | zero => exact absurd (Nat.succ_pos _) h
    | succ i => exact ih (by simpa using h)
theorem upN_set {P : List Gplace} {k : Nat} {x : Gplace} (hk : k < P.length) : upN (P.set k x) = fun j => if j = k then x.up.toNat else upN P j := by
  funext j
  unfold upN
  by_cases hj : j < P.length
  · rw [Lg.nth_set hj]
    by_cases e : k = j
    · rw [if_pos e, if_pos e.symm]
    · rw [if_neg e, if_neg fun q => e q.symm]
  · rw [nth_out (by rw [List.length_set]; exact hj), nth_out hj, if_neg (by omega)]
theorem fix_upN {P : List Gplace} (h : POk P) {i : Nat} (hi : i < P.length) (v : GValue) : upN (fixM P i v) = upN P := by
  unfold fixM
  rw [upN_set (h.top_lt hi)]
  funext j
  by_cases e : j = topM P i
  · rw [if_pos e, e]; rfl
  · rw [if_neg e]
theorem fix_top {P : List Gplace} (h : POk P) {i : Nat} (hi : i < P.length) (v : GValue) {x : Nat} (hx : x < P.length) : topM (fixM P i v) x = topM P x :=
  top_of (h.fix hi v) (by rw [fix_len]; exact hx) (by rw [fix_upN h hi]; exact (top_rt h hx).1)
theorem fix_val {P : List Gplace} (h : POk P) {i : Nat} (hi : i < P.length) (v : GValue) {j : Nat} (hj : j < P.length) : valO (fixM P i v) j = if j = topM P i then some v else valO P j := by
  unfold valO fixM
  rw [Lg.nth_set hj]
  by_cases e : topM P i = j
  · rw [if_pos e, if_pos e.symm]; simp
  · rw [if_neg e]
    exact (if_neg fun q : j = topM P i => e q.symm).symm
theorem fix_cvT {P : List Gplace} (h : POk P) {i : Nat} (hi : i < P.length) (v : GValue) {x : Nat} (hx : x < P.length) : cvT (fixM P i v) x = if topM P x = topM P i then some v else cvT P x := by
  unfold cvT
  rw [fix_top h hi v hx, fix_val h hi v (h.top_lt hx)]
theorem lnk_upF {P : List Gplace} {i k : Nat} (hk : k < P.length) : upN (lnkM P i k) = lnkU (upN P) k i := by
  unfold lnkM
  rw [upN_set hk]
  funext j
  unfold lnkU
  by_cases e : j = k
  · rw [if_pos e, if_pos e]; simp
  · rw [if_neg e, if_neg e]
theorem lnk_top {P : List Gplace} (h : POk P) {i k : Nat} (hi : i < P.length) (hk : k < P.length) (ui : upN P i = i) (uk : upN P k = k) (hne : i ≠ k) {x : Nat} (hx : x < P.length) : topM (lnkM P i k) x = if topM P x = k then i else topM P x :=
  top_of (h.lnk hi hk ui hne) (by rw [lnk_len]; exact hx) (by rw [lnk_upF hk]; exact lnk_rt uk ui hne (top_rt h hx).1)
theorem lnk_val {P : List Gplace} {i k j : Nat} (hk : k < P.length) (hj : j < P.length) : valO (lnkM P i k) j = valO P j := by
  unfold valO lnkM
  rw [Lg.nth_set hj]
  by_cases e : k = j
  · rw [if_pos e, ← e]
  · rw [if_neg e]
def confB (a b : Option GValue) : Bool := match a, b with | some u, some w => !decide (u = w) | _, _ => false
theorem conf_comm (a b : Option GValue) : confB a b = confB b a := by
  cases a <;> cases b <;> simp [confB, eq_comm]
theorem conf_or {a b : Option GValue} (h : confB a b = false) : a.or b = b.or a := optOr_comm fun u w ha hb => by
  subst ha; subst hb; simpa [confB] using h
/-- What a binding does to classes and values. -/
theorem bind_sem {s : Bst} (h : POk s.P) (hb : s.bad = false) (nn : ∀ x, x < s.P.length → ∀ v, cvT s.P x = some v → v.Kind ≠ 0) {i k : Nat} (hi : i < s.P.length) (hk : k < s.P.length) :
    (∀ x y, x < s.P.length → y < s.P.length → (topM (bindS s i k).P x = topM (bindS s i k).P y ↔ topM s.P x = topM s.P y ∨ (topM s.P x = topM s.P i ∧ topM s.P y = topM s.P k) ∨ (topM s.P x = topM s.P k ∧ topM s.P y = topM s.P i))) ∧
    (bindS s i k).bad = confB (cvT s.P i) (cvT s.P k) ∧
    (∀ x, x < s.P.length → confB (cvT s.P i) (cvT s.P k) = false → cvT (bindS s i k).P x = if topM s.P x = topM s.P i ∨ topM s.P x = topM s.P k then (cvT s.P k).or (cvT s.P i) else cvT s.P x) := by
  have hti := h.top_lt hi
  have htk := h.top_lt hk
  have ui := top_up h hi
  have uk := top_up h hk
  by_cases e : topM s.P i = topM s.P k
  · have hB : bindS s i k = { s with F := if i = k then s.F ++ [(i : Int)] else s.F } := by unfold bindS; rw [if_pos e]
    have hc : cvT s.P i = cvT s.P k := by unfold cvT; rw [e]
    rw [hB, hc]
    refine ⟨fun x y _ _ => ?_, ?_, fun x _ _ => ?_⟩
    · show topM s.P x = topM s.P y ↔ _
      rw [e]
      constructor
      · exact .inl
      · rintro (q | q | q)
        · exact q
        · exact q.1.trans q.2.symm
        · exact q.1.trans q.2.symm
    · show s.bad = _; rw [hb]; cases cvT s.P k <;> simp [confB]
    · show cvT s.P x = _
      by_cases q : topM s.P x = topM s.P k
      · rw [if_pos (.inr q)]
        have : cvT s.P x = cvT s.P k := by unfold cvT; rw [q]
        rw [this]; cases cvT s.P k <;> rfl
      · rw [if_neg (by rw [e]; simp [q])]
  · have hl := h.lnk hti htk ui e
    have ht := fun {x : Nat} (hx : x < s.P.length) => lnk_top h hti htk ui uk e hx
    have hvl := fun {j : Nat} (hj : j < s.P.length) => lnk_val (i := topM s.P i) htk hj
    have htog : ∀ x y, x < s.P.length → y < s.P.length → (topM (lnkM s.P (topM s.P i) (topM s.P k)) x = topM (lnkM s.P (topM s.P i) (topM s.P k)) y ↔ topM s.P x = topM s.P y ∨ (topM s.P x = topM s.P i ∧ topM s.P y = topM s.P k) ∨ (topM s.P x = topM s.P k ∧ topM s.P y = topM s.P i)) := by
      intro x y hx hy
      rw [ht hx, ht hy]
      by_cases e1 : topM s.P x = topM s.P k <;> by_cases e2 : topM s.P y = topM s.P k
      · rw [if_pos e1, if_pos e2]; simp [e1, e2]
      · rw [if_pos e1, if_neg e2]
        constructor
        · intro q; exact .inr (.inr ⟨e1, q.symm⟩)
        · rintro (q | q | q)
          · exact absurd (q.symm.trans e1) e2
          · exact absurd q.2 e2
          · exact q.2.symm
      · rw [if_neg e1, if_pos e2]
        constructor
        · intro q; exact .inr (.inl ⟨q, e2⟩)
        · rintro (q | q | q)
          · exact absurd (q.trans e2) e1
          · exact q.1
          · exact absurd q.1 e1
      · rw [if_neg e1, if_neg e2]
        constructor
        · exact .inl
        · rintro (q | q | q)
          · exact q
          · exact absurd q.2 e2
          · exact absurd q.1 e1
    have hci : cvT s.P i = valO s.P (topM s.P i) := rfl
    have hck : cvT s.P k = valO s.P (topM s.P k) := rfl
    have hlt : topM s.P i < (lnkM s.P (topM s.P i) (topM s.P k)).length := by rw [lnk_len]; exact hti
    have hself : topM (lnkM s.P (topM s.P i) (topM s.P k)) (topM s.P i) = topM s.P i := by
      rw [ht hti, top_self h hti ui, if_neg e]
    have hcl : ∀ x, x < s.P.length → cvT (lnkM s.P (topM s.P i) (topM s.P k)) x = if topM s.P x = topM s.P i ∨ topM s.P x = topM s.P k then cvT s.P i else cvT s.P x := by
      intro x hx
      show valO _ (topM _ x) = _
      rw [ht hx]
      by_cases e1 : topM s.P x = topM s.P k
      · rw [if_pos e1, if_pos (.inr e1), hvl hti]; rfl
      · rw [if_neg e1, hvl (h.top_lt hx)]
        by_cases e2 : topM s.P x = topM s.P i
        · rw [if_pos (.inl e2), e2]; rfl
        · rw [if_neg (by simp [e1, e2])]; rfl
    by_cases hf : (nth s.P (topM s.P k)).fixed = true
    · have hB : bindS s i k = fixS { s with F := (if i = k then s.F ++ [(i : Int)] else s.F), P := lnkM s.P (topM s.P i) (topM s.P k) } (topM s.P i) (nth s.P (topM s.P k)).value := by unfold bindS; rw [if_neg e, if_pos hf]
      have hvk : cvT s.P k = some (nth s.P (topM s.P k)).value := by rw [hck]; unfold valO; rw [if_pos hf]
      have hkn := nn k hk _ hvk
      rw [hB]
      refine ⟨fun x y hx hy => ?_, ?_, fun x hx hcf => ?_⟩
      · show topM (fixM _ _ _) x = topM (fixM _ _ _) y ↔ _
        rw [fix_top hl hlt _ (by rw [lnk_len]; exact hx), fix_top hl hlt _ (by rw [lnk_len]; exact hy)]
        exact htog x y hx hy
      · show (s.bad || fixB _ _ _) = _
        rw [hb, Bool.false_or, hvk]
        unfold fixB
        rw [hself, decide_eq_false hkn, Bool.false_or]
        have hfi : (nth (lnkM s.P (topM s.P i) (topM s.P k)) (topM s.P i)) = nth s.P (topM s.P i) := by
          unfold lnkM; rw [Lg.nth_set hti, if_neg fun q => e q.symm]
        rw [hfi, hci]
        unfold valO
        by_cases g : (nth s.P (topM s.P i)).fixed = true
        · rw [if_pos g, g]; simp [confB]
        · rw [if_neg g, Bool.eq_false_iff.2 g]; simp [confB]
      · show cvT (fixM _ _ _) x = _
        rw [fix_cvT hl hlt _ (by rw [lnk_len]; exact hx), hself, hcl x hx, ht hx, hvk]
        by_cases e1 : topM s.P x = topM s.P k
        · rw [if_pos e1, if_pos rfl, if_pos (.inr e1)]; rfl
        · rw [if_neg e1]
          by_cases e2 : topM s.P x = topM s.P i
          · rw [if_pos e2, if_pos (.inl e2)]; rfl
          · rw [if_neg e2, if_neg (by simp [e1, e2]), if_neg (by simp [e1, e2])]
    · have hB : bindS s i k = { s with F := (if i = k then s.F ++ [(i : Int)] else s.F), P := lnkM s.P (topM s.P i) (topM s.P k) } := by unfold bindS; rw [if_neg e, if_neg hf]
      have hvk : cvT s.P k = none := by rw [hck]; unfold valO; rw [if_neg hf]
      rw [hB, hvk]
      refine ⟨htog, ?_, fun x hx _ => ?_⟩
      · show s.bad = _; rw [hb]; cases cvT s.P i <;> rfl
      · refine (hcl x hx).trans ?_
        cases cvT s.P i <;> rfl
theorem fix_mono {s : Bst} (h : s.bad = true) (i : Nat) (v : GValue) : (fixS s i v).bad = true := by unfold fixS; simp [h]
theorem bind_mono {s : Bst} (h : s.bad = true) (i k : Nat) : (bindS s i k).bad = true := by
  unfold bindS
  split
  · exact h
  · split
    · unfold fixS; simp [h]
    · exact h
theorem rbind_mono {s : Bst} (h : s.bad = true) (i k : Nat) : (rbindS s i k).bad = true := by
  unfold rbindS
  split
  · exact bind_mono h _ _
  · exact bind_mono h _ _
theorem bind_F (s : Bst) (i k : Nat) : (bindS s i k).F = if i = k then s.F ++ [(i : Int)] else s.F := by
  unfold bindS
  split
  · rfl
  · split <;> rfl
theorem bind_T (s : Bst) (i k : Nat) : (bindS s i k).T = s.T ∧ (bindS s i k).S = s.S := ⟨(bind_keep s i k).t, (bind_keep s i k).s⟩
theorem rbind_F (s : Bst) (i k : Nat) : (rbindS s i k).F = if i = k then s.F ++ [(i : Int)] else s.F := by
  unfold rbindS
  split
  · exact bind_F s i k
  · rw [bind_F]
    by_cases e : i = k
    · rw [if_pos e, if_pos e.symm, e]
    · rw [if_neg e, if_neg fun q => e q.symm]
theorem Rl.badd {s s' t t' : Bst} (h1 : t.bad = true) (h2 : t'.bad = true) : Rl t t' := ⟨by rw [h1, h2], fun q => by rw [h1] at q; cases q⟩
theorem fix_rel {s s' : Bst} (h : Rl s s') (p : POk s.P) (p' : POk s'.P) {i : Nat} (hi : s.bad = false → i < s.P.length) (v : GValue) : Rl (fixS s i v) (fixS s' i v) := by
  by_cases hb : s.bad = true
  · exact Rl.badd (s := s) (s' := s') (fix_mono hb i v) (fix_mono (by rw [← h.bad]; exact hb) i v)
  · have hb : s.bad = false := Bool.eq_false_iff.2 hb
    have hb' : s'.bad = false := by rw [← h.bad]; exact hb
    obtain ⟨hF, hT, hS, c⟩ := h.ok hb
    have hi := hi hb
    have hi' : i < s'.P.length := by rw [← c.len]; exact hi
    have hcv : ∀ (P : List Gplace) (x : Nat), fixB P x v = (decide (v.Kind = 0) || confB (cvT P x) (some v)) := fun P x => by
      unfold fixB cvT valO
      by_cases g : (nth P (topM P x)).fixed = true
      · rw [if_pos g, g]; simp [confB]
      · rw [if_neg g, Bool.eq_false_iff.2 g]; simp [confB]
    refine ⟨?_, fun hnb => ⟨hF, hT, hS, ?_⟩⟩
    · show (s.bad || fixB s.P i v) = (s'.bad || fixB s'.P i v)
      rw [hb, hb', hcv, hcv, c.val i hi]
    · have hnb : (s.bad || fixB s.P i v) = false := hnb
      rw [hb, Bool.false_or, hcv, Bool.or_eq_false_iff, decide_eq_false_iff_not] at hnb
      refine ⟨?_, fun x y hx hy => ?_, fun x hx => ?_, fun x hx w hw => ?_⟩
      · show (fixM s.P i v).length = (fixM s'.P i v).length; rw [fix_len, fix_len]; exact c.len
      · have hx : x < s.P.length := by have : (fixS s i v).P.length = _ := fix_len s.P i v; omega
        have hy : y < s.P.length := by have : (fixS s i v).P.length = _ := fix_len s.P i v; omega
        show topM (fixM s.P i v) x = topM (fixM s.P i v) y ↔ topM (fixM s'.P i v) x = topM (fixM s'.P i v) y
        rw [fix_top p hi v hx, fix_top p hi v hy, fix_top p' hi' v (by rw [← c.len]; exact hx), fix_top p' hi' v (by rw [← c.len]; exact hy)]
        exact c.tog x y hx hy
      · have hx : x < s.P.length := by have : (fixS s i v).P.length = _ := fix_len s.P i v; omega
        show cvT (fixM s.P i v) x = cvT (fixM s'.P i v) x
        rw [fix_cvT p hi v hx, fix_cvT p' hi' v (by rw [← c.len]; exact hx), c.val x hx]
        by_cases q : topM s.P x = topM s.P i
        · rw [if_pos q, if_pos ((c.tog x i hx hi).1 q)]
        · rw [if_neg q, if_neg fun z => q ((c.tog x i hx hi).2 z)]
      · have hx : x < s.P.length := by have : (fixS s i v).P.length = _ := fix_len s.P i v; omega
        have hw : cvT (fixM s.P i v) x = some w := hw
        rw [fix_cvT p hi v hx] at hw
        split at hw
        · cases hw; exact hnb.1
        · exact c.nn x hx w hw
theorem bind_rel {s s' : Bst} (h : Rl s s') (p : POk s.P) (p' : POk s'.P) {i k : Nat} (hi : s.bad = false → i < s.P.length) (hk : s.bad = false → k < s.P.length) : Rl (bindS s i k) (rbindS s' i k) := by
  by_cases hb : s.bad = true
  · exact Rl.badd (s := s) (s' := s') (bind_mono hb i k) (rbind_mono (by rw [← h.bad]; exact hb) i k)
  · have hb : s.bad = false := Bool.eq_false_iff.2 hb
    have hb' : s'.bad = false := by rw [← h.bad]; exact hb
    obtain ⟨hF, hT, hS, c⟩ := h.ok hb
    have hi := hi hb
    have hk := hk hb
    have hi' : i < s'.P.length := by rw [← c.len]; exact hi
    have hk' : k < s'.P.length := by rw [← c.len]; exact hk
    have nn' : ∀ x, x < s'.P.length → ∀ v, cvT s'.P x = some v → v.Kind ≠ 0 := fun x hx v hv => c.nn x (by rw [c.len]; exact hx) v (by rw [c.val x (by rw [c.len]; exact hx)]; exact hv)
    obtain ⟨a1, a2, a3⟩ := bind_sem p hb c.nn hi hk
    have B : (∀ x y, x < s'.P.length → y < s'.P.length → (topM (rbindS s' i k).P x = topM (rbindS s' i k).P y ↔ topM s'.P x = topM s'.P y ∨ (topM s'.P x = topM s'.P i ∧ topM s'.P y = topM s'.P k) ∨ (topM s'.P x = topM s'.P k ∧ topM s'.P y = topM s'.P i))) ∧
        (rbindS s' i k).bad = confB (cvT s'.P i) (cvT s'.P k) ∧
        (∀ x, x < s'.P.length → confB (cvT s'.P i) (cvT s'.P k) = false → cvT (rbindS s' i k).P x = if topM s'.P x = topM s'.P i ∨ topM s'.P x = topM s'.P k then (cvT s'.P k).or (cvT s'.P i) else cvT s'.P x) := by
      unfold rbindS
      split
      · exact bind_sem p' hb' nn' hi' hk'
      · obtain ⟨b1, b2, b3⟩ := bind_sem p' hb' nn' hk' hi'
        refine ⟨fun x y hx hy => (b1 x y hx hy).trans ⟨?_, ?_⟩, by rw [b2, conf_comm], fun x hx hc => ?_⟩
        · rintro (q | q | q); exact .inl q; exact .inr (.inr q); exact .inr (.inl q)
        · rintro (q | q | q); exact .inl q; exact .inr (.inr q); exact .inr (.inl q)
        · rw [b3 x hx (by rw [conf_comm]; exact hc), conf_or hc]
          by_cases q : topM s'.P x = topM s'.P i ∨ topM s'.P x = topM s'.P k
          · rw [if_pos q, if_pos q.symm]
          · rw [if_neg q, if_neg fun z => q z.symm]
    obtain ⟨b1, b2, b3⟩ := B
    have ek := c.val k hk
    have ei := c.val i hi
    refine ⟨by rw [a2, b2, ei, ek], fun hnb => ⟨by rw [bind_F, rbind_F, hF], ?_, ?_, ?_⟩⟩
    · rw [(bind_T s i k).1, (rbind_keep s' i k).t, hT]
    · rw [(bind_T s i k).2, (rbind_keep s' i k).s, hS]
    · rw [a2] at hnb
      have hnb' : confB (cvT s'.P i) (cvT s'.P k) = false := by rw [← ei, ← ek]; exact hnb
      have lb := bind_len s i k
      have lb' := (rbind_keep s' i k).pl
      have hmem : ∀ x, x < s.P.length → ((topM s.P x = topM s.P i ∨ topM s.P x = topM s.P k) ↔ (topM s'.P x = topM s'.P i ∨ topM s'.P x = topM s'.P k)) := fun x hx => by rw [c.tog x i hx hi, c.tog x k hx hk]
      have hval : ∀ x, x < s.P.length → cvT (bindS s i k).P x = cvT (rbindS s' i k).P x := fun x hx => by
        rw [a3 x hx hnb, b3 x (by rw [← c.len]; exact hx) hnb', ← ei, ← ek, ← c.val x hx]
        by_cases q : topM s.P x = topM s.P i ∨ topM s.P x = topM s.P k
        · rw [if_pos q, if_pos ((hmem x hx).1 q)]
        · rw [if_neg q, if_neg fun z => q ((hmem x hx).2 z)]
      refine ⟨by rw [lb, lb', c.len], fun x y hx hy => ?_, fun x hx => hval x (by omega), fun x hx w hw => ?_⟩
      · rw [a1 x y (by omega) (by omega), b1 x y (by rw [← c.len]; omega) (by rw [← c.len]; omega)]
        rw [c.tog x y (by omega) (by omega), c.tog x i (by omega) hi, c.tog y k (by omega) hk, c.tog x k (by omega) hk, c.tog y i (by omega) hi]
      · rw [a3 x (by omega) hnb] at hw
        split at hw
        · cases hc : cvT s.P k with
          | none => rw [hc] at hw; exact c.nn i hi w (by simpa using hw)
          | some u => rw [hc] at hw; cases hw; exact c.nn k hk w hc
        · exact c.nn x (by omega) w hw
open Go Go.Proofs Go.Proofs.Tryz
theorem equal_rel {s s' : Bst} (h : Rl s s') (p : POk s.P) (p' : POk s'.P) {t : GTest} {cols : List Int} (hcb : ∀ c ∈ cols, 0 ≤ c ∧ c < s.P.length) (ht : testOk t cols.length = true) : Rl (equalS s t cols) (requalS s' t cols) := by
  have hs := test_sides ht
  have hl := fun (q : t.Left.Var ≠ -1) => col_in hcb (side_col hs.1 q)
  have hr := fun (q : t.Right.Var ≠ -1) => col_in hcb (side_col hs.2.1 q)
  unfold equalS requalS
  by_cases c1 : t.Op ≠ 1 ∨ t.Add ≠ 0
  · rw [if_pos c1, if_pos c1]; exact Rl.badd (s := s) (s' := s') rfl rfl
  · rw [if_neg c1, if_neg c1]
    by_cases c2 : t.Left.Var = -1
    · rw [if_pos c2, if_pos c2]
      exact fix_rel h p p' (fun _ => (hr (by have := hs.2.2; omega)).2.2.2) _
    · rw [if_neg c2, if_neg c2]
      by_cases c3 : t.Right.Var = -1
      · rw [if_pos c3, if_pos c3]
        exact fix_rel h p p' (fun _ => (hl c2).2.2.2) _
      · rw [if_neg c3, if_neg c3]
        exact bind_rel h p p' (fun _ => (hl c2).2.2.2) (fun _ => (hr c3).2.2.2)
theorem tests_rel {sc : GSchema} {cols : List Int} : ∀ {l : List GTest} {s s' : Bst}, Rl s s' → BdInv sc s → BdInv sc s' → (∀ c ∈ cols, 0 ≤ c ∧ c < s.P.length) → (∀ c ∈ cols, 0 ≤ c ∧ c < s'.P.length) → (∀ t ∈ l, testOk t cols.length = true) →
    Rl (l.foldl (fun s t => equalS s t cols) s) (l.foldl (fun s t => requalS s t cols) s')
  | [], s, s', h, _, _, _, _, _ => h
  | t :: l, s, s', h, hi, hi', hc, hc', ht => by
    have ht0 := ht t List.mem_cons_self
    have k := equal_keep s t cols
    have k' := requal_keep s' t cols
    exact tests_rel (l := l) (equal_rel h hi.pok hi'.pok hc ht0) (equal_inv hi hc ht0) (requal_inv hi' hc' ht0) (by rw [k.pl]; exact hc) (by rw [k'.pl]; exact hc') (fun t' ht' => ht t' (List.mem_cons_of_mem _ ht'))
theorem join_rel {sc : GSchema} {a : List GAttr} {k0 k1 : List Int} : ∀ {l : List (GAttr × Int)} {s s' : Bst} {o : List Int}, Rl s s' → BdInv sc s → BdInv sc s' → (∀ c ∈ k0, 0 ≤ c ∧ c < s.P.length) → (∀ c ∈ k0, 0 ≤ c ∧ c < s'.P.length) → k0.length = a.length → (∀ x ∈ l, 0 ≤ x.2 ∧ x.2 < s.P.length) → (∀ x ∈ l, 0 ≤ x.2 ∧ x.2 < s'.P.length) →
    Rl (l.foldl (joinStep a k0 k1) (s, o)).1 (l.foldl (rjoinStep a k0 k1) (s', o)).1 ∧ (l.foldl (joinStep a k0 k1) (s, o)).2 = (l.foldl (rjoinStep a k0 k1) (s', o)).2
  | [], s, s', o, h, _, _, _, _, _, _, _ => ⟨h, rfl⟩
  | x :: l, s, s', o, h, hi, hi', h0, h0', hl, hx, hx' => by
    have hx0 := hx x List.mem_cons_self
    have hx0' := hx' x List.mem_cons_self
    have hxs := fun y hy => hx y (List.mem_cons_of_mem _ hy)
    have hxs' := fun y hy => hx' y (List.mem_cons_of_mem _ hy)
    rw [List.foldl_cons, List.foldl_cons]
    by_cases hc : 0 ≤ columnL a x.1.Name
    · have e : joinStep a k0 k1 (s, o) x = (bindS s (colAt k0 (columnL a x.1.Name)) x.2.toNat, o) := by unfold joinStep; rw [if_pos hc]
      have e' : rjoinStep a k0 k1 (s', o) x = (rbindS s' (colAt k0 (columnL a x.1.Name)) x.2.toNat, o) := by unfold rjoinStep; rw [if_pos hc]
      rw [e, e']
      have hcl := col_lt a x.1.Name
      have hci := col_in h0 (c := columnL a x.1.Name) ⟨hc, by omega⟩
      have hci' := col_in h0' (c := columnL a x.1.Name) ⟨hc, by omega⟩
      have k := bind_keep s (colAt k0 (columnL a x.1.Name)) x.2.toNat
      have k' := rbind_keep s' (colAt k0 (columnL a x.1.Name)) x.2.toNat
      exact join_rel (l := l) (o := o) (bind_rel h hi.pok hi'.pok (fun _ => hci.2.2.2) (fun _ => by omega)) (bind_inv hi hci.2.2.2 (by omega)) (rbind_inv hi' hci'.2.2.2 (by omega)) (by rw [k.pl]; exact h0) (by rw [k'.pl]; exact h0') hl (by rw [k.pl]; exact hxs) (by rw [k'.pl]; exact hxs')
    · have e : joinStep a k0 k1 (s, o) x = (s, o ++ [x.2]) := by unfold joinStep; rw [if_neg hc]
      have e' : rjoinStep a k0 k1 (s', o) x = (s', o ++ [x.2]) := by unfold rjoinStep; rw [if_neg hc]
      rw [e, e']
      exact join_rel (l := l) (o := o ++ [x.2]) h hi hi' h0 h0' hl hxs hxs'
theorem Rt.congr {up vp : Nat → Nat} {n : Nat} (hn : ∀ j, j < n → up j < n) (he : ∀ j, j < n → up j = vp j) {x t : Nat} (h : Rt up x t) (hx : x < n) : Rt vp x t := by
  induction h with
  | @here i h => exact .here (by rw [← he i hx]; exact h)
  | @go i t hne _ ih =>
    refine .go (by rw [← he i hx]; exact hne) ?_
    rw [← he i hx]
    exact ih (hn i hx)
theorem new_upO {P : List Gplace} {k j : Nat} (hj : j < P.length) : upN (P ++ newPl P.length k) j = upN P j := by unfold upN; rw [nth_app1 hj]
theorem new_upN {P : List Gplace} {k j : Nat} (h1 : P.length ≤ j) (h2 : j < P.length + k) : upN (P ++ newPl P.length k) j = j := by
  unfold upN; rw [nth_app2 h1 (by rw [newPl_len]; exact h2), newPl_nth (by omega)]
  show (((P.length + (j - P.length) : Nat) : Int)).toNat = j; omega
theorem new_topO {P : List Gplace} (h : POk P) {k x : Nat} (hx : x < P.length) : topM (P ++ newPl P.length k) x = topM P x :=
  top_of (h.new k) (by rw [List.length_append]; omega) (Rt.congr (fun j hj => h.ult hj) (fun j hj => (new_upO hj).symm) (top_rt h hx).1 hx)
theorem new_topN {P : List Gplace} (h : POk P) {k x : Nat} (h1 : P.length ≤ x) (h2 : x < P.length + k) : topM (P ++ newPl P.length k) x = x :=
  top_self (h.new k) (by rw [List.length_append, newPl_len]; exact h2) (new_upN h1 h2)
theorem new_cvO {P : List Gplace} (h : POk P) {k x : Nat} (hx : x < P.length) : cvT (P ++ newPl P.length k) x = cvT P x := by
  unfold cvT valO
  rw [new_topO h hx, nth_app1 (h.top_lt hx)]
theorem new_cvN {P : List Gplace} (h : POk P) {k x : Nat} (h1 : P.length ≤ x) (h2 : x < P.length + k) : cvT (P ++ newPl P.length k) x = none := by
  unfold cvT valO
  rw [new_topN h h1 h2, nth_app2 h1 (by rw [newPl_len]; exact h2), newPl_nth (by omega)]
  rfl
theorem cls_new {P Q : List Gplace} (c : ClsEq P Q) (p : POk P) (q : POk Q) (k : Nat) : ClsEq (P ++ newPl P.length k) (Q ++ newPl Q.length k) := by
  have hl := c.len
  have h1 : (P ++ newPl P.length k).length = P.length + k := by rw [List.length_append, newPl_len]
  have h2 : (Q ++ newPl Q.length k).length = Q.length + k := by rw [List.length_append, newPl_len]
  refine ⟨by omega, fun x y hx hy => ?_, fun x hx => ?_, fun x hx v hv => ?_⟩
  · rw [h1] at hx hy
    by_cases ex : x < P.length <;> by_cases ey : y < P.length
    · rw [new_topO p ex, new_topO p ey, new_topO q (by omega), new_topO q (by omega)]; exact c.tog x y ex ey
    · rw [new_topO p ex, new_topN p (by omega) hy, new_topO q (by omega), new_topN q (by omega) (by omega)]
      have := p.top_lt ex; have := q.top_lt (show x < Q.length by omega)
      constructor <;> intro z <;> omega
    · rw [new_topN p (by omega) hx, new_topO p ey, new_topN q (by omega) (by omega), new_topO q (by omega)]
      have := p.top_lt ey; have := q.top_lt (show y < Q.length by omega)
      constructor <;> intro z <;> omega
    · rw [new_topN p (by omega) hx, new_topN p (by omega) hy, new_topN q (by omega) (by omega), new_topN q (by omega) (by omega)]
  · rw [h1] at hx
    by_cases ex : x < P.length
    · rw [new_cvO p ex, new_cvO q (by omega)]; exact c.val x ex
    · rw [new_cvN p (by omega) hx, new_cvN q (by omega) (by omega)]
  · rw [h1] at hx
    by_cases ex : x < P.length
    · rw [new_cvO p ex] at hv; exact c.nn x ex v hv
    · rw [new_cvN p (by omega) hx] at hv; cases hv
theorem table_rel {sc : GSchema} {s s' : Bst} (h : Rl s s') (hi : BdInv sc s) (hi' : BdInv sc s') (t : Int) : Rl (tableS sc s t) (tableS sc s' t) := by
  by_cases hb : s.bad = true
  · exact Rl.badd (s := s) (s' := s') (by unfold tableS; simp [hb]) (by unfold tableS; simp [← h.bad, hb])
  · obtain ⟨hF, hT, hS, c⟩ := h.ok (Bool.eq_false_iff.2 hb)
    refine ⟨?_, fun _ => ⟨hF, ?_, ?_, cls_new c hi.pok hi'.pok _⟩⟩
    · show (s.bad || _) = (s'.bad || _); rw [h.bad, hT]
    · show s.T ++ [t] = s'.T ++ [t]; rw [hT]
    · show s.S ++ [(s.P.length : Int)] = s'.S ++ [(s'.P.length : Int)]; rw [hS, c.len]
theorem kids_rel {sc : GSchema} {n : Nat} {f f' : Bst → GPlan → Bst × List Int} : ∀ {l : List GPlan} {s s' : Bst}, (∀ q ∈ l, ∀ s, BdInv sc s → WOk sc n s q (f s q)) → (∀ q ∈ l, ∀ s, BdInv sc s → WOk sc n s q (f' s q)) →
    (∀ q ∈ l, ∀ s s', Rl s s' → s.bad = false → BdInv sc s → BdInv sc s' → Rl (f s q).1 (f' s' q).1 ∧ ((f s q).1.bad = false → (f s q).2 = (f' s' q).2)) → Rl s s' → s.bad = false → BdInv sc s → BdInv sc s' →
    Rl (kidsS f s l).1 (kidsS f' s' l).1 ∧ ((kidsS f s l).1.bad = false → (kidsS f s l).2 = (kidsS f' s' l).2)
  | [], s, s', _, _, _, h, _, _, _ => ⟨h, fun _ => rfl⟩
  | q :: l, s, s', w, w', hf, h, hb, hi, hi' => by
    obtain ⟨h1, h2⟩ := hf q List.mem_cons_self s s' h hb hi hi'
    have hi1 := (w q List.mem_cons_self s hi).inv
    have hi1' := (w' q List.mem_cons_self s' hi').inv
    unfold kidsS
    by_cases c : (f s q).1.bad = true
    · rw [if_pos c, if_pos (by rw [← h1.bad]; exact c)]
      exact ⟨h1, fun e => by rw [show (f s q).1.bad = false from e] at c⟩
    · rw [if_neg c, if_neg (by rw [← h1.bad]; exact c)]
      have c := Bool.eq_false_iff.2 c
      obtain ⟨g1, g2⟩ := kids_rel (l := l) (fun q hq => w q (List.mem_cons_of_mem _ hq)) (fun q hq => w' q (List.mem_cons_of_mem _ hq)) (fun q hq => hf q (List.mem_cons_of_mem _ hq)) h1 c hi1 hi1'
      exact ⟨g1, fun e => by show (f s q).2 :: _ = (f' s' q).2 :: _; rw [h2 c, g2 e]⟩
theorem act_rel {sc : GSchema} (hs : schM sc = true) {n l : Nat} {p : GPlan} {s s' s0 s0' : Bst} {ks : List (List Int)} (hv : validM sc l p = true) (hw : walkable p.Kind = true) (hk : KOk sc n s0 p.Kids (s, ks)) (hk' : KOk sc n s0' p.Kids (s', ks)) (h : Rl s s') (hb : s.bad = false) :
    Rl (actS sc p s ks).1 (ractS sc p s' ks).1 ∧ (actS sc p s ks).2 = (ractS sc p s' ks).2 := by
  have hb' : s'.bad = false := by rw [← h.bad]; exact hb
  obtain ⟨_, _, _, c⟩ := h.ok hb
  obtain ⟨h1, h2⟩ := hk.li hb
  obtain ⟨h1', h2'⟩ := hk'.li hb'
  have hi : BdInv sc s := hk.inv
  have hi' : BdInv sc s' := hk'.inv
  have h1 : ks.length = p.Kids.length := h1
  have h2 : ∀ i, i < p.Kids.length → (nth ks i).length = (nth p.Kids i).Attrs.length ∧ ∀ x ∈ nth ks i, 0 ≤ x ∧ x < s.P.length := h2
  have h2' : ∀ i, i < p.Kids.length → (nth ks i).length = (nth p.Kids i).Attrs.length ∧ ∀ x ∈ nth ks i, 0 ≤ x ∧ x < s'.P.length := h2'
  unfold ractS
  by_cases c2 : p.Kind = 2
  · obtain ⟨hn, ht, hl⟩ := vk2 hv c2
    have g0 := h2 0 (by omega)
    have g0' := h2' 0 (by omega)
    rw [if_pos c2, show actS sc p s ks = (p.Tests.foldl (fun s t => equalS s t (nth ks 0)) s, nth ks 0) by simp [actS, c2]]
    exact ⟨tests_rel h hi hi' g0.2 g0'.2 (by rw [g0.1]; exact ht), rfl⟩
  rw [if_neg c2]
  by_cases c4 : p.Kind = 4
  · obtain ⟨hn, hl⟩ := vk4 hv c4
    have g0 := h2 0 (by omega)
    have g1 := h2 1 (by omega)
    have g0' := h2' 0 (by omega)
    have g1' := h2' 1 (by omega)
    rw [if_pos c4, show actS sc p s ks = joinS (nth p.Kids 0).Attrs (nth p.Kids 1).Attrs (nth ks 0) (nth ks 1) s by simp [actS, c4]]
    exact join_rel (sc := sc) h hi hi' g0.2 g0'.2 g0.1 (fun x hx => g1.2 _ (zip_mem hx)) (fun x hx => g1'.2 _ (zip_mem hx))
  rw [if_neg c4]
  by_cases c1 : p.Kind = 1
  · have e : ∀ z : Bst, actS sc p z ks = (tableS sc z p.Table, newIx z.P.length (nth sc.Tables p.Table.toNat).Attrs.length) := fun z => by simp [actS, c1]
    rw [e, e]
    exact ⟨table_rel h hi hi' _, by show newIx _ _ = newIx _ _; rw [c.len]⟩
  by_cases c3 : p.Kind = 3
  · have e : ∀ z : Bst, actS sc p z ks = (z, p.Cols.map fun c => nth (nth ks 0) c.toNat) := fun z => by simp [actS, c3]
    rw [e, e]; exact ⟨h, rfl⟩
  have c7 : p.Kind = 7 := by unfold walkable at hw; simp only [Bool.or_eq_true, decide_eq_true_eq] at hw; omega
  have e : ∀ z : Bst, actS sc p z ks = (z, nth ks 0) := fun z => by simp [actS, c7]
  rw [e, e]; exact ⟨h, rfl⟩
theorem walk_rel {sc : GSchema} (hs : schM sc = true) : ∀ {n l : Nat} {p : GPlan} {s s' : Bst}, Dep n p → validM sc l p = true → Rl s s' → s.bad = false → BdInv sc s → BdInv sc s' →
    Rl (walkS sc n s p).1 (rwalkS sc n s' p).1 ∧ ((walkS sc n s p).1.bad = false → (walkS sc n s p).2 = (rwalkS sc n s' p).2)
  | 0, _, _, _, _, hd, _, _, _, _, _ => hd.elim
  | n + 1, l, p, s, s', hd, hv, h, hb, hi, hi' => by
    obtain ⟨l', rfl, _, _, hvk, _, _⟩ := valid_in hv
    have w : ∀ q ∈ p.Kids, ∀ s, BdInv sc s → WOk sc n s q (walkS sc n s q) := fun q hq s' hs' => walk_ok hs (hd q hq) (hvk q hq) hs'
    have w' : ∀ q ∈ p.Kids, ∀ s, BdInv sc s → WOk sc n s q (rwalkS sc n s q) := fun q hq s' hs' => rwalk_ok hs (hd q hq) (hvk q hq) hs'
    have hk := kids_ok w hi
    have hk' := kids_ok w' hi'
    obtain ⟨r1, r2⟩ := kids_rel w w' (fun q hq s s' h hb hi hi' => walk_rel hs (hd q hq) (hvk q hq) h hb hi hi') h hb hi hi'
    unfold walkS rwalkS
    by_cases hw : walkable p.Kind = false
    · rw [if_pos hw]
      refine ⟨Rl.badd (s := s) (s' := s') rfl ?_, fun e => by cases e⟩
      by_cases c : (kidsS (rwalkS sc n) s' p.Kids).1.bad = true
      · rw [if_pos c]; exact c
      · rw [if_neg c, if_pos hw]
    · rw [if_neg hw]
      by_cases c : (kidsS (walkS sc n) s p.Kids).1.bad = true
      · rw [if_pos c, if_pos (by rw [← r1.bad]; exact c)]
        exact ⟨r1, fun e => by rw [show (kidsS (walkS sc n) s p.Kids).1.bad = false from e] at c⟩
      · rw [if_neg c, if_neg (by rw [← r1.bad]; exact c), if_neg hw]
        have c := Bool.eq_false_iff.2 c
        have e2 := r2 c
        rw [← e2]
        have hk'' : KOk sc n s' p.Kids ((kidsS (rwalkS sc n) s' p.Kids).1, (kidsS (walkS sc n) s p.Kids).2) := by rw [e2]; exact kids_ok w' hi'
        have := act_rel hs hv (by simpa using hw) (show KOk sc n s p.Kids ((kidsS (walkS sc n) s p.Kids).1, (kidsS (walkS sc n) s p.Kids).2) from hk) hk'' r1 c
        exact ⟨this.1, fun _ => this.2⟩
/-! ### Constants and variables -/
theorem fixed_cv (P : List Gplace) (i : Nat) : (nth P (topM P i)).fixed = (cvT P i).isSome := by
  unfold cvT valO
  by_cases g : (nth P (topM P i)).fixed = true
  · rw [if_pos g, g]; rfl
  · rw [if_neg g, Bool.eq_false_iff.2 g]; rfl
theorem value_cv {P : List Gplace} {i : Nat} {v : GValue} (h : cvT P i = some v) : (nth P (topM P i)).fixed = true ∧ (nth P (topM P i)).value = v := by
  unfold cvT valO at h
  split at h
  · rename_i g; exact ⟨g, by injection h⟩
  · cases h
theorem alone_rel {P Q : List Gplace} (c : ClsEq P Q) {i : Nat} (hi : i < P.length) : aloneM P i = aloneM Q i := by
  unfold aloneM
  rw [fixed_cv, fixed_cv, c.val i hi, ← c.len]
  have : (List.range P.length).countP (fun k => decide (topM P k = topM P i)) = (List.range P.length).countP (fun k => decide (topM Q k = topM Q i)) :=
    List.countP_congr fun k hk => by
      have hk := List.mem_range.1 hk
      simp only [decide_eq_true_eq]
      exact c.tog k i hk hi
  rw [this]
structure Tr (P Q : List Gplace) (t u : Tst) : Prop where
  c : t.C = u.C
  l : t.M.length = u.M.length
  m : ∀ x, x < P.length → mget t.M (topM P x : Int) = mget u.M (topM Q x : Int)
theorem mget_no {m : List (Int × Int)} {q : Int} (h : mget m q = none) : q ∉ m.map (·.1) := by
  induction m with
  | nil => simp
  | cons a m ih =>
    obtain ⟨k, x⟩ := a
    simp only [mget] at h
    split at h
    · cases h
    · rename_i hne
      simp only [List.map_cons, List.mem_cons, not_or]
      exact ⟨hne, ih h⟩
theorem mput_new {m : List (Int × Int)} {q y : Int} (h : mget m q = none) : (mput m q y).length = m.length + 1 := by
  have := congrArg List.length (mput_keys m q y)
  rw [if_neg (mget_no h)] at this
  simpa using this
theorem term_rel {P Q : List Gplace} (c : ClsEq P Q) {t u : Tst} (h : Tr P Q t u) {i : Nat} (hi : i < P.length) : Tr P Q (termS P t i).1 (termS Q u i).1 ∧ (termS P t i).2 = (termS Q u i).2 := by
  have hv := c.val i hi
  unfold termS
  cases hc : cvT P i with
  | some v =>
    obtain ⟨f1, v1⟩ := value_cv hc
    obtain ⟨f2, v2⟩ := value_cv (hv ▸ hc : cvT Q i = some v)
    rw [if_pos f1, if_pos f2, v1, v2, ← h.c]
    split
    · exact ⟨⟨by show t.C ++ _ = t.C ++ _; rfl, h.l, h.m⟩, rfl⟩
    · exact ⟨h, rfl⟩
  | none =>
    have f1 : ¬ (nth P (topM P i)).fixed = true := by rw [fixed_cv, hc]; simp
    have f2 : ¬ (nth Q (topM Q i)).fixed = true := by rw [fixed_cv, ← hv, hc]; simp
    rw [if_neg f1, if_neg f2, ← h.m i hi]
    cases hg : mget t.M (topM P i : Int) with
    | some w => exact ⟨h, rfl⟩
    | none =>
      have hg' : mget u.M (topM Q i : Int) = none := by rw [← h.m i hi]; exact hg
      refine ⟨⟨h.c, ?_, fun x hx => ?_⟩, by show (t.M.length : Int) = u.M.length; rw [h.l]⟩
      · show (mput t.M _ _).length = (mput u.M _ _).length
        rw [mput_new hg, mput_new hg', h.l]
      · show mget (mput t.M _ _) _ = mget (mput u.M _ _) _
        rw [mget_mput, mget_mput, h.l, h.m x hx]
        have ht := c.tog x i hx hi
        by_cases q : topM P x = topM P i
        · rw [if_pos (by rw [q]), if_pos (by rw [ht.1 q])]
        · rw [if_neg (by omega), if_neg (by have := mt ht.2 q; omega)]
theorem terms_rel {P Q : List Gplace} (c : ClsEq P Q) {o : Nat} : ∀ {l : List Int} {t u : Tst}, Tr P Q t u → (∀ x ∈ l, o + x.toNat < P.length) → Tr P Q (termsS P o t l).1 (termsS Q o u l).1 ∧ (termsS P o t l).2 = (termsS Q o u l).2
  | [], t, u, h, _ => ⟨h, rfl⟩
  | x :: l, t, u, h, hl => by
    obtain ⟨h1, h2⟩ := term_rel c h (hl x List.mem_cons_self)
    obtain ⟨g1, g2⟩ := terms_rel c (l := l) h1 (fun y hy => hl y (List.mem_cons_of_mem _ hy))
    exact ⟨g1, by show _ :: _ = _ :: _; rw [h2, g2]⟩
theorem atoms_rel {sc : GSchema} (hs : schM sc = true) {P Q : List Gplace} (c : ClsEq P Q) : ∀ {l : List (Int × Int)} {t u : Tst}, Tr P Q t u → (∀ x ∈ l, (0 ≤ x.1 ∧ x.1 < sc.Tables.length) ∧ 0 ≤ x.2 ∧ x.2 + ((nth sc.Tables x.1.toNat).Attrs.length : Int) ≤ P.length) →
    Tr P Q (atomsS sc P t l).1 (atomsS sc Q u l).1 ∧ (atomsS sc P t l).2 = (atomsS sc Q u l).2
  | [], t, u, h, _ => ⟨h, rfl⟩
  | (a, o) :: l, t, u, h, hl => by
    obtain ⟨⟨b1, b2⟩, b3, b4⟩ := hl (a, o) List.mem_cons_self
    simp only at b1 b2 b3 b4
    have hk := (sch_keys hs _ (nth_mem (l := sc.Tables) (i := a.toNat) (by omega))).2.2
    obtain ⟨h1, h2⟩ := terms_rel c (o := o.toNat) (l := colsK (nth sc.Tables a.toNat)) h (fun x hx => by
      have := colsK_in hk x hx
      omega)
    obtain ⟨g1, g2⟩ := atoms_rel hs c (l := l) (t := (atomS sc P t a o.toNat).1) (u := (atomS sc Q u a o.toNat).1) h1 (fun y hy => hl y (List.mem_cons_of_mem _ hy))
    refine ⟨g1, ?_⟩
    show (atomS sc P t a o.toNat).2 :: _ = (atomS sc Q u a o.toNat).2 :: _
    rw [g2]
    unfold atomS
    rw [h2]
theorem conj_rel {sc : GSchema} (hs : schM sc = true) {s s' : Bst} (h : Rl s s') (hb : s.bad = false) (hi : BdInv sc s) : conjM sc s = conjM sc s' := by
  obtain ⟨hF, hT, hS, c⟩ := h.ok hb
  have hts := hi.ts
  obtain ⟨g1, g2⟩ := atoms_rel hs c (l := s.T.zip s.S) (t := ⟨[], []⟩) (u := ⟨[], []⟩) ⟨rfl, rfl, fun _ _ => rfl⟩ (fun x hx => by
    obtain ⟨i, hil, rfl⟩ := List.getElem_of_mem hx
    rw [List.length_zip] at hil
    have := hi.tin i (by omega)
    rw [List.getElem_zip, ← nth_get (by omega), ← nth_get (by omega)]
    exact this)
  unfold conjM
  rw [← hT, ← hS, g1.c, g1.l, g2]
/-- The reference's atoms of a query of a depth. -/
def ofR (sc : GSchema) (n : Nat) (p : GPlan) : GConj × Int :=
  if vldM sc p = false then (zConj', 1)
  else if (rwalkS sc n st0 p).1.bad = true ∨ ((rwalkS sc n st0 p).1.F.any fun i => aloneM (rwalkS sc n st0 p).1.P i.toNat) = true then (zConj', 11)
  else (conjM sc (rwalkS sc n st0 p).1, 0)
theorem ofR_eq {sc : GSchema} {n : Nat} {p : GPlan} (hd : Dep n p) : ofR sc n p = ofM sc n p := by
  unfold ofR ofM
  by_cases hv : vldM sc p = false
  · rw [if_pos hv, if_pos hv]
  · rw [if_neg hv, if_neg hv]
    have hv : vldM sc p = true := by simpa using hv
    unfold vldM at hv
    obtain ⟨hs, hv⟩ := Bool.and_eq_true_iff.1 hv
    have h0 : Rl st0 st0 := ⟨rfl, fun _ => ⟨rfl, rfl, rfl, ⟨rfl, fun x y hx _ => absurd hx (Nat.not_lt_zero _), fun x hx => absurd hx (Nat.not_lt_zero _), fun x hx => absurd hx (Nat.not_lt_zero _)⟩⟩⟩
    obtain ⟨r, _⟩ := walk_rel hs hd hv h0 rfl (st0_inv sc) (st0_inv sc)
    have w := walk_ok hs hd hv (st0_inv sc)
    by_cases hb : (walkS sc n st0 p).1.bad = true
    · rw [if_pos (.inl (by rw [← r.bad]; exact hb)), if_pos (.inl hb)]
    · have hb := Bool.eq_false_iff.2 hb
      obtain ⟨hF, _, _, c⟩ := r.ok hb
      have ha : ((rwalkS sc n st0 p).1.F.any fun i => aloneM (rwalkS sc n st0 p).1.P i.toNat) = ((walkS sc n st0 p).1.F.any fun i => aloneM (walkS sc n st0 p).1.P i.toNat) := by
        rw [← hF, Bool.eq_iff_iff, List.any_eq_true, List.any_eq_true]
        constructor
        · rintro ⟨x, hx, q⟩
          have := w.inv.fin x hx
          exact ⟨x, hx, by rw [alone_rel c (by omega)]; exact q⟩
        · rintro ⟨x, hx, q⟩
          have := w.inv.fin x hx
          exact ⟨x, hx, by rw [← alone_rel c (by omega)]; exact q⟩
      rw [← r.bad, ha]
      split
      · rfl
      · rw [conj_rel hs r hb w.inv]
/-! ### Valid queries are small -/
theorem valid_nodes {s : GSchema} : ∀ {n l : Nat} {p : GPlan}, Dep n p → validM s l p = true → nodes n p + 1 ≤ 2 ^ l
  | 0, _, _, hd, _ => hd.elim
  | n + 1, l, p, hd, hv => by
    obtain ⟨l', rfl, _, hn, hvk, _, _⟩ := valid_in hv
    have h2 : p.Kids.length ≤ 2 := by unfold kidsN at hn; split at hn <;> (try split at hn) <;> omega
    have hs : ∀ l : List GPlan, (∀ q ∈ l, nodes n q + 1 ≤ 2 ^ l') → (l.map (nodes n)).sum + l.length ≤ l.length * 2 ^ l' := by
      intro l
      induction l with
      | nil => intro _; simp
      | cons a l ih =>
        intro h
        have h1 := h a List.mem_cons_self
        have h3 := ih fun q hq => h q (List.mem_cons_of_mem _ hq)
        simp only [List.map_cons, List.sum_cons, List.length_cons, Nat.add_mul, Nat.one_mul]
        omega
    have h3 := hs p.Kids fun q hq => valid_nodes (hd q hq) (hvk q hq)
    have hp : 0 < 2 ^ l' := Nat.two_pow_pos l'
    show 1 + (p.Kids.map (nodes n)).sum + 1 ≤ 2 ^ (l' + 1)
    rw [Nat.pow_succ]
    have h4 : p.Kids.length = 0 ∨ p.Kids.length = 1 ∨ p.Kids.length = 2 := by omega
    rcases h4 with h4 | h4 | h4 <;> rw [h4] at h3 <;> omega
open Go Go.Proofs Go.Proofs.Tryz
def sumA (sc : GSchema) (T : List Int) : Nat := (T.map fun t => (nth sc.Tables t.toNat).Attrs.length).sum
structure SInv (sc : GSchema) (s : Bst) : Prop where
  ts : s.T.length = s.S.length
  pl : s.P.length = sumA sc s.T
  st : ∀ i, i < s.T.length → nth s.S i = (sumA sc (s.T.take i) : Int)
theorem SInv.keep {sc : GSchema} {s s' : Bst} {k : Nat} (h : SInv sc s) (hk : Keep s s' k) : SInv sc s' :=
  ⟨by rw [hk.t, hk.s]; exact h.ts, by rw [hk.pl, hk.t]; exact h.pl, fun i hi => by rw [hk.t] at hi ⊢; rw [hk.s]; exact h.st i hi⟩
theorem SInv.bad {sc : GSchema} {s : Bst} (h : SInv sc s) : SInv sc { s with bad := true } := ⟨h.ts, h.pl, h.st⟩
theorem sumA_snoc (sc : GSchema) (T : List Int) (t : Int) : sumA sc (T ++ [t]) = sumA sc T + (nth sc.Tables t.toNat).Attrs.length := by simp [sumA]
theorem sumA_take {sc : GSchema} {T : List Int} {i : Nat} (h : i < T.length) : sumA sc (T.take (i + 1)) = sumA sc (T.take i) + (nth sc.Tables (nth T i).toNat).Attrs.length := by rw [takeB h, sumA_snoc]
theorem SInv.table {sc : GSchema} {s : Bst} (h : SInv sc s) (t : Int) : SInv sc (tableS sc s t) := by
  refine ⟨?_, ?_, fun i hi => ?_⟩
  · show (s.T ++ [t]).length = (s.S ++ [(s.P.length : Int)]).length
    simp [h.ts]
  · show (s.P ++ newPl _ _).length = sumA sc (s.T ++ [t])
    rw [List.length_append, newPl_len, sumA_snoc, h.pl]
  · have hi : i < (s.T ++ [t]).length := hi
    rw [List.length_append, List.length_singleton] at hi
    show nth (s.S ++ [(s.P.length : Int)]) i = (sumA sc ((s.T ++ [t]).take i) : Int)
    have hts := h.ts
    by_cases e : i < s.T.length
    · rw [nth_app1 (by omega), List.take_append_of_le_length (by omega)]; exact h.st i e
    · have e2 : i = s.T.length := by omega
      subst e2
      rw [nth_app2 (by omega) (by simp; omega), List.take_append_of_le_length (Nat.le_refl _), List.take_length, ← h.pl]
      rw [show s.T.length - s.S.length = 0 by omega]; rfl
theorem rtests_keep (cols : List Int) : ∀ (l : List GTest) (s : Bst), Keep s (l.foldl (fun s t => requalS s t cols) s) l.length
  | [], s => Keep.refl s
  | t :: l, s => ((requal_keep s t cols).trans (rtests_keep cols l _)).le (by simp; omega)
theorem rjoin_keep (a : List GAttr) (k0 k1 : List Int) : ∀ (l : List (GAttr × Int)) (st : Bst × List Int), Keep st.1 (l.foldl (rjoinStep a k0 k1) st).1 l.length
  | [], st => Keep.refl _
  | x :: l, st => by
    have h1 : Keep st.1 (rjoinStep a k0 k1 st x).1 1 := by
      unfold rjoinStep
      split
      · exact rbind_keep _ _ _
      · exact (Keep.refl _).le (by omega)
    exact (h1.trans (rjoin_keep a k0 k1 l _)).le (by simp; omega)
theorem kids_sinv {sc : GSchema} {f : Bst → GPlan → Bst × List Int} (hf : ∀ s q, SInv sc s → SInv sc (f s q).1) : ∀ (l : List GPlan) (s : Bst), SInv sc s → SInv sc (kidsS f s l).1
  | [], s, h => h
  | q :: l, s, h => by
    unfold kidsS
    split
    · exact hf s q h
    · exact kids_sinv hf l _ (hf s q h)
theorem rwalk_sinv {sc : GSchema} : ∀ (n : Nat) (s : Bst) (p : GPlan), SInv sc s → SInv sc (rwalkS sc n s p).1
  | 0, s, p, h => h
  | n + 1, s, p, h => by
    have hk := kids_sinv (fun s q hs => rwalk_sinv n s q hs) p.Kids s h
    unfold rwalkS
    split
    · exact hk
    · split
      · exact hk.bad
      · unfold ractS
        split
        · exact hk.keep (rtests_keep _ _ _)
        · split
          · exact hk.keep (k := _) (by unfold rjoinS; exact rjoin_keep _ _ _ _ (_, _))
          · unfold actS
            split
            · exact hk.table _
            · split
              · exact hk
              · exact hk
theorem st0_sinv (sc : GSchema) : SInv sc st0 := ⟨rfl, rfl, fun i hi => absurd hi (Nat.not_lt_zero _)⟩
/-! ### Names of classes -/
def nmV (M : List (Int × Int)) (k : Nat) : Int := match mget M (k : Int) with | some v => v + 1 | none => 0
def namesM (n : Nat) (M : List (Int × Int)) : List Int := (List.range n).map (nmV M)
theorem names_ln (n : Nat) (M : List (Int × Int)) : (namesM n M).length = n := by simp [namesM]
theorem names_nth {n k : Nat} {M : List (Int × Int)} (h : k < n) : nth (namesM n M) k = nmV M k := by
  rw [nth_get (by rw [names_ln]; exact h)]; simp [namesM]
theorem names_nil (n : Nat) : namesM n [] = List.replicate n 0 := by
  refine List.ext_getElem (by simp [namesM]) fun i h1 h2 => ?_
  simp [namesM, nmV, mget]
theorem names_put {n k : Nat} {M : List (Int × Int)} (h : k < n) (v : Int) : (namesM n M).set k (v + 1) = namesM n (mput M (k : Int) v) := by
  refine list_extA (by rw [List.length_set, names_ln, names_ln]) fun i hi => ?_
  rw [List.length_set, names_ln] at hi
  rw [Lg.nth_set (by rw [names_ln]; exact hi), names_nth hi, names_nth hi]
  unfold nmV
  rw [mget_mput]
  by_cases e : k = i
  · subst e; rw [if_pos rfl, if_pos rfl]
  · rw [if_neg e, if_neg (by omega)]
/-- The values are numbers below their count. -/
def MB (M : List (Int × Int)) : Prop := ∀ k v, mget M k = some v → 0 ≤ v ∧ v < M.length
theorem MB.nil : MB [] := fun k v h => by cases h
theorem MB.put {M : List (Int × Int)} (h : MB M) {k : Int} (hk : mget M k = none) : MB (mput M k M.length) := by
  intro q v hv
  rw [mget_mput] at hv
  rw [mput_new hk]
  split at hv
  · cases hv; omega
  · have := h q v hv; omega
theorem term_mb {P : List Gplace} {t : Tst} (h : MB t.M) (i : Nat) : MB (termS P t i).1.M := by
  unfold termS
  split
  · split <;> exact h
  · cases hg : mget t.M (topM P i : Int) with
    | some v => exact h
    | none => exact h.put hg
theorem terms_mb {P : List Gplace} (o : Nat) : ∀ (l : List Int) {t : Tst}, MB t.M → MB (termsS P o t l).1.M
  | [], t, h => h
  | x :: l, t, h => terms_mb o l (term_mb h _)
theorem atoms_mb (sc : GSchema) (P : List Gplace) : ∀ (l : List (Int × Int)) {t : Tst}, MB t.M → MB (atomsS sc P t l).1.M
  | [], t, h => h
  | (a, o) :: l, t, h => atoms_mb sc P l (terms_mb _ _ h)
theorem nm_zero {M : List (Int × Int)} (h : MB M) {k : Nat} : nmV M k = 0 ↔ mget M (k : Int) = none := by
  unfold nmV
  cases hg : mget M (k : Int) with
  | none => simp
  | some v => have := h _ v hg; simp; omega
theorem nm_some {M : List (Int × Int)} {k : Nat} {v : Int} (h : mget M (k : Int) = some v) : nmV M k = v + 1 := by unfold nmV; rw [h]
theorem nm_mb {M : List (Int × Int)} (h : MB M) (k : Nat) : 0 ≤ nmV M k ∧ nmV M k ≤ M.length := by
  unfold nmV
  cases hg : mget M (k : Int) with
  | none => simp
  | some v => have := h _ v hg; simp; omega
/-! ### Constants -/
theorem find_idx (v : GValue) : ∀ (C : List GValue) (s : Int), findI (fun x => decide (v = x)) s C = if idxL C v < C.length then s + idxL C v else -1
  | [], s => by simp [findI, idxL]
  | x :: C, s => by
    have ih := find_idx v C (s + 1)
    unfold findI
    by_cases h : v = x
    · have e : idxL (x :: C) v = 0 := by unfold idxL; rw [List.findIdx_cons]; simp [h.symm]
      rw [e]; simp [h]
    · have e : idxL (x :: C) v = idxL C v + 1 := by unfold idxL; rw [List.findIdx_cons]; simp [show ¬ x = v from fun q => h q.symm]
      rw [e, List.length_cons]
      simp only [decide_eq_true_eq, h, if_false, ih]
      by_cases q : idxL C v < C.length
      · rw [if_pos q, if_pos (by omega)]; omega
      · rw [if_neg q, if_neg (by omega)]
theorem idx_le (C : List GValue) (v : GValue) : idxL C v ≤ C.length := List.findIdx_le_length
open Go Go.Proofs Go.Proofs.Tryz
def smA (a : GAttr) : Bool := decide (a.Was.length ≤ 10) && decide (a.Default.Text.size ≤ 300)
def smT (t : GTable) : Bool := decide (t.Attrs.length ≤ 20) && decide (t.Key.length ≤ 20) && decide (t.Name.size ≤ 100) && t.Attrs.all smA
def smS (s : GSchema) : Bool := decide (s.Tables.length ≤ 24) && s.Tables.all smT
/-- How many kids a query has that is handed in. -/
def PlLen : Nat → GPlan → Prop
  | 0, _ => True
  | n + 1, p => p.Kids.length ≤ 9223372036854775807 ∧ ∀ q ∈ p.Kids, PlLen n q
def narM : Nat → GPlan → Bool
  | 0, _ => true
  | n + 1, p => p.Kids.all (narM n) && (decide (p.Attrs.length ≤ 40) && decide (p.Tests.length ≤ 20) && decide (p.Cols.length ≤ 40))
def cntL (f : GPlan → Int) : Int → List GPlan → Int
  | a, [] => a
  | a, q :: l => if a < 1000 then cntL f (IntKind.i64.wrap (a + f q)) l else a
def cntW : Nat → GPlan → Int
  | 0, _ => 1
  | n + 1, p => cntL (cntW n) 1 p.Kids
theorem cntL_stop (f : GPlan → Int) {a : Int} (h : ¬ a < 1000) (l : List GPlan) : cntL f a l = a := by
  cases l with
  | nil => rfl
  | cons q l => unfold cntL; rw [if_neg h]
def rowsOk (m : Int) (t : List (List GValue)) : Bool := decide ((t.length : Int) ≤ m) && t.all fun r => decide (r.length ≤ 20)
def smallM (s : GSchema) (n : Nat) (p : GPlan) (ts : List (List (List GValue))) (m : Int) : Bool := smS s && decide (cntW n p ≤ 40) && narM n p && decide (ts.length ≤ 30) && ts.all (rowsOk m)
/-- What Count does at queries of a depth, and what narrow does. -/
def CntS (n : Nat) : Prop := ∀ (p : GPlan), PlLen n p → Fun1 prog 58 [(rPlan n).ty p] (tV (.int .i64 (cntW n p)))
def NarS (n : Nat) : Prop := ∀ (p : GPlan), PlLen n p → Fun1 prog 59 [(rPlan n).ty p] (tV (.bool (narM n p)))
theorem sm_sz {s : GSchema} (h : smS s = true) (hn : ∀ t ∈ s.Tables, ∀ x ∈ namesL t.Attrs, x.size ≤ 9223372036854775807) : SchSz s := by
  unfold smS at h
  simp only [Bool.and_eq_true, decide_eq_true_eq, List.all_eq_true] at h
  refine ⟨by omega, fun t ht => ?_⟩
  have h1 := h.2 t ht
  unfold smT at h1
  simp only [Bool.and_eq_true, decide_eq_true_eq, List.all_eq_true] at h1
  refine ⟨by omega, by omega, by omega, fun a ha => ?_, hn t ht⟩
  have h2 := h1.2 a ha
  unfold smA at h2
  simp only [Bool.and_eq_true, decide_eq_true_eq] at h2
  omega
theorem nar_sz : ∀ {n : Nat} {p : GPlan}, Dep n p → narM n p = true → PlLen n p → PlSz n p ∧ p.Attrs.length ≤ 1000
  | 0, _, hd, _, _ => hd.elim
  | n + 1, p, hd, h, hl => by
    obtain ⟨h1, h2⟩ := hl
    simp only [narM, Bool.and_eq_true, decide_eq_true_eq, List.all_eq_true] at h
    exact ⟨⟨h1, by omega, by omega, by omega, fun q hq => nar_sz (hd q hq) (h.1 q hq) (h2 q hq)⟩, by omega⟩
theorem nar_attrs {n : Nat} {p : GPlan} (hd : Dep n p) (h : narM n p = true) : p.Attrs.length ≤ 40 := by
  cases n with
  | zero => exact hd.elim
  | succ n => simp only [narM, Bool.and_eq_true, decide_eq_true_eq] at h; exact h.2.1.1
theorem nar_binds : ∀ {n : Nat} {p : GPlan}, Dep n p → narM n p = true → binds n p ≤ 60 * nodes n p
  | 0, _, hd, _ => hd.elim
  | n + 1, p, hd, h => by
    have h0 := h
    simp only [narM, Bool.and_eq_true, decide_eq_true_eq, List.all_eq_true] at h
    have ha : (nth p.Kids 1).Attrs.length ≤ 40 := by
      by_cases hk : 1 < p.Kids.length
      · exact nar_attrs (hd _ (nth_mem hk)) (h.1 _ (nth_mem hk))
      · rw [nth_out hk]; exact Nat.zero_le _
    have hs : ∀ l : List GPlan, (∀ q ∈ l, binds n q ≤ 60 * nodes n q) → (l.map (binds n)).sum ≤ 60 * (l.map (nodes n)).sum := by
      intro l
      induction l with
      | nil => intro _; simp
      | cons a l ih =>
        intro h
        have h1 := h a List.mem_cons_self
        have h3 := ih fun q hq => h q (List.mem_cons_of_mem _ hq)
        simp only [List.map_cons, List.sum_cons, Nat.mul_add]
        omega
    have h3 := hs p.Kids fun q hq => nar_binds (hd q hq) (h.1 q hq)
    show p.Tests.length + (nth p.Kids 1).Attrs.length + (p.Kids.map (binds n)).sum ≤ 60 * (1 + (p.Kids.map (nodes n)).sum)
    omega
/-- What a valid and narrow query holds. -/
theorem vld_bounds {s : GSchema} {n : Nat} {p : GPlan} (hd : Dep n p) (hv : vldM s p = true) (hn : narM n p = true) : 12 * nodes n p ≤ 1000000 ∧ binds n p ≤ 1000000000 := by
  unfold vldM at hv
  have h1 := valid_nodes hd (Bool.and_eq_true_iff.1 hv).2
  have h2 := nar_binds hd hn
  have : (2 : Nat) ^ 12 = 4096 := by decide
  omega
set_option maxHeartbeats 2000000 in
theorem rsSmall_spec (s : GSchema) : Fun1 prog 57 [rSchema.ty s] (tV (.bool (smS s))) := by
 refine Spec.enter func57 rfl rfl fun h0 w0 fr0 => ?_
 refine Jr (Js rfl (step_box (R := rSchema) Sr) (Ja rfl (JL_nil (J_seq (Jr ?_)))))
 refine Js rfl (step_fieldAddr so41 Sr rfl) (Jl rfl ty39 Sr (Js rfl (step_len_sl underlying39 Sr) (Js rfl (step_gtr Sr Sr) (JL_nil ?_))))
 refine J_cond Sr (fun h9 => ?_) (fun h9 => ?_)
 ·
  try simp only [NF] at h9
  refine Jr (Ja rfl (JL_nil (J_ret ?_)))
  refine K_ret1 (t := 2) rfl () ?_
  refine Sub.bool ?_
  have : ¬ s.Tables.length ≤ 24 := by omega
  simp [smS, this]
 try simp only [NF] at h9
 refine J_skip (J_seq (Jr (Ja rfl (JL_nil (J_block ?_)))))
 refine J_loopL (σ := Nat) (fun i => i ≤ s.Tables.length ∧ ∀ k, k < i → smT (nth s.Tables k) = true) (fun i => upd (upd env0 1 (tPtr rSchema s)) 3 (tV (.int .i64 i))) (fun i => []) (fun i => s.Tables.length - i) 0 ⟨by omega, fun k hk => by omega⟩ (zU) (LSub.rfl) ?_
 rintro i ⟨hi, hv⟩
 refine J_seq (Jr (Jm rfl (Js rfl (step_fieldAddr so41 Sr rfl) (Jl rfl ty39 Sr (Js rfl (step_len_sl underlying39 Sr) ?_)))))
 refine Js rfl (step_lss Sr Sr) (JL_nil ?_)
 refine J_cond Sr (fun h14 => ?_) (fun h14 => ?_)
 ·
  try simp only [NF] at h14
  have hlt : i < s.Tables.length := by omega
  refine J_skip (J_seq (J_block (Jr (Js rfl (step_fieldAddr so41 Sr rfl) (Jl rfl ty39 Sr ?_)))))
  refine Jm rfl ?_
  refine Js rfl (step_indexAddr_sl (i := i) underlying39 ty76 Sr Sr (by rfl) (gb (by exact hlt))) ?_
  refine Jl rfl ty76 Sr ?_
  refine Jx rfl (step_alloc (fun w => zeroValue76 w) zr76) fun b4 => ?_
  refine Ju (step_store_box ty76 Sr Sr zS) fun _ => ?_
  refine JL_freeze (t := 4) (Sel.take (Sel.none _)) Frz.box ?_
  refine JL_nil (J_seq (Jr (Js rfl (step_fieldAddr so76 Sr rfl) (Jl rfl ty44 Sr (Js rfl (step_len_sl underlying44 Sr) ?_)))))
  refine Js rfl (step_gtr Sr Sr) (Jm rfl ?_)
  refine Jk rfl Sr rfl (step_fieldAddr so76 Sr rfl) ?_
  refine Jg rfl Sr rfl (fun hw => step_load_ptr ty36 (Sub.w hw)) (Jg rfl Sr rfl (fun hw => step_len_sl underlying36 (Sub.w hw)) (Jg rfl Sr rfl (fun hw => step_gtr (Sub.w hw) Sr) (Js rfl (step_pick_or Sr Sr) (Jm rfl ?_))))
  refine Jk rfl Sr rfl (step_fieldAddr so76 Sr rfl) ?_
  refine Jg rfl Sr rfl (fun hw => step_load_ptr ty9 (Sub.w hw)) (Jg rfl Sr rfl (fun hw => step_len_str underlying9 (Sub.w hw)) (Jg rfl Sr rfl (fun hw => step_gtr (Sub.w hw) Sr) (Js rfl (step_pick_or Sr Sr) (JL_nil ?_))))
  refine J_cond Sr (fun h37 => ?_) (fun h37 => ?_)
  ·
   try simp only [NF] at h37
   refine Jr (Ja rfl (JL_nil (J_ret ?_)))
   refine K_ret1 (t := 2) rfl () ?_
   refine Sub.bool ?_
   have : smT (nth s.Tables i) = false := by
    unfold smT
    rcases h37 with (h | h) | h
    ·
     simp [show ¬ (nth s.Tables i).Attrs.length ≤ 20 by omega]
    ·
     simp [show ¬ (nth s.Tables i).Key.length ≤ 20 by omega]
    simp [show ¬ (nth s.Tables i).Name.size ≤ 100 by omega]
   simp [smS, all_f hlt this]
  try simp only [NF] at h37
  refine J_skip (Jr (Ja rfl (JL_nil (J_block ?_))))
  refine J_loopL (σ := Nat) (fun k => k ≤ (nth s.Tables i).Attrs.length ∧ ∀ j, j < k → smA (nth (nth s.Tables i).Attrs j) = true) (fun k => upd (upd (upd (upd env0 1 (tPtr rSchema s)) 3 (tV (.int .i64 i))) 4 (tPtr rTable (nth s.Tables i))) 5 (tV (.int .i64 k))) (fun k => []) (fun k => (nth s.Tables i).Attrs.length - k) 0 ⟨by omega, fun j hj => by omega⟩ (zU) (LSub.rfl) ?_
  rintro k ⟨hk, hw⟩
  refine J_seq (Jr (Jm rfl (Js rfl (step_fieldAddr so76 Sr rfl) (Jl rfl ty44 Sr (Js rfl (step_len_sl underlying44 Sr) ?_)))))
  refine Js rfl (step_lss Sr Sr) (JL_nil ?_)
  refine J_cond Sr (fun h42 => ?_) (fun h42 => ?_)
  ·
   try simp only [NF] at h42
   have hkt : k < (nth s.Tables i).Attrs.length := by omega
   refine J_skip (J_seq (J_block (Jr (Js rfl (step_fieldAddr so76 Sr rfl) (Jl rfl ty44 Sr ?_)))))
   refine Jm rfl ?_
   refine Js rfl (step_indexAddr_sl (i := k) underlying44 ty89 Sr Sr (by rfl) (gb (by exact hkt))) ?_
   refine Js rfl (step_fieldAddr so89 Sr rfl) (Jl rfl ty85 Sr (Js rfl (step_len_sl underlying85 Sr) (Js rfl (step_gtr Sr Sr) (Jm rfl ?_))))
   refine Jk rfl Sr rfl (step_fieldAddr so76 Sr rfl) ?_
   refine Jg rfl Sr rfl (fun hw => step_load_ptr ty44 (Sub.w hw)) ?_
   refine Jk rfl Sr rfl (step_move Sr) ?_
   refine Jg rfl Sr rfl (fun hw => step_indexAddr_sl (i := k) underlying44 ty89 (Sub.w hw) (Sub.w hw) (by rfl) (gb (by have hwq := hw; (try simp only [beqB_t, beqB_f, NF] at hwq); exact hkt))) ?_
   refine Jg rfl Sr rfl (fun hw => step_fieldAddr so89 (Sub.w hw) rfl) (Jg rfl Sr rfl (fun hw => step_fieldAddr so87 (Sub.w hw) rfl) (Jg rfl Sr rfl (fun hw => step_load_ptr ty9 (Sub.w hw)) (Jg rfl Sr rfl (fun hw => step_len_str underlying9 (Sub.w hw)) (Jg rfl Sr rfl (fun hw => step_gtr (Sub.w hw) Sr) (Js rfl (step_pick_or Sr Sr) ?_)))))
   refine JL_nil ?_
   refine J_cond Sr (fun h63 => ?_) (fun h63 => ?_)
   ·
    try simp only [NF] at h63
    refine Jr (Ja rfl (JL_nil (J_ret ?_)))
    refine K_ret1 (t := 2) rfl () ?_
    refine Sub.bool ?_
    have : smA (nth (nth s.Tables i).Attrs k) = false := by
     unfold smA
     rcases h63 with h | h
     ·
      simp [show ¬ (nth (nth s.Tables i).Attrs k).Was.length ≤ 10 by omega]
     simp [show ¬ (nth (nth s.Tables i).Attrs k).Default.Text.size ≤ 300 by omega]
    have : smT (nth s.Tables i) = false := by unfold smT; simp [all_f hkt this]
    simp [smS, all_f hlt this]
   try simp only [NF] at h63
   refine J_skip (J_region (Jm rfl (Js rfl (step_add Sr Sr z6) (Ja rfl (JL_nil ?_)))))
   refine K_againL (σ := Nat) (s := k) (k + 1) zO ?_ (zU) (LSub.rfl)
   refine ⟨by omega, fun j hj => ?_⟩
   by_cases e : j = k
   ·
    rw [e]; unfold smA; simp; omega
   exact hw j zG
  try simp only [NF] at h42
  have hat : (nth s.Tables i).Attrs.all smA = true := all_t (fun j hj => hw j zG)
  refine J_exit (J_region (Jm rfl (Js rfl (step_add Sr Sr z6) (Ja rfl (JL_nil ?_)))))
  refine K_againL (σ := Nat) (s := i) (i + 1) zO ?_ (zU) (LSub.rfl)
  refine ⟨by omega, fun k hk => ?_⟩
  by_cases e : k = i
  ·
   rw [e]; unfold smT; rw [hat]; simp; omega
  exact hv k zG
 try simp only [NF] at h14
 have hall : s.Tables.all smT = true := all_t (fun k hk => hv k zG)
 refine J_exit (Jr (Ja rfl (JL_nil (J_ret ?_))))
 refine K_ret1 (t := 2) rfl () ?_
 refine Sub.bool ?_
 have : s.Tables.length ≤ 24 := by omega
 simp only [smS, hall, this]; simp
set_option maxHeartbeats 1000000 in
theorem rcnt1_spec (n : Nat) (p : GPlan) (hl : PlLen (n + 1) p) (ih : CntS n) : Fun1 prog 58 [(rPlan (n + 1)).ty p] (tV (.int .i64 (cntW (n + 1) p))) := by
 refine Spec.enter func58 rfl rfl fun h0 w0 fr0 => ?_
 obtain ⟨hl1, hl2⟩ := hl
 refine Jr (Js rfl (step_box (R := (rPlan (n + 1))) Sr) (Ja rfl (JL_nil (Jr (Ja rfl ?_)))))
 refine JL_nil (J_seq (Jr (Ja rfl (JL_nil (J_block ?_)))))
 refine J_loopL (σ := Nat × Int) (fun ⟨i, a⟩ => i ≤ p.Kids.length ∧ cntL (cntW n) a (p.Kids.drop i) = cntL (cntW n) 1 p.Kids) (fun ⟨i, a⟩ => upd (upd (upd (upd env0 1 (tPtr (rPlan (n + 1)) p)) 2 (tV (.int .i64 0))) 3 (tV (.int .i64 a))) 4 (tV (.int .i64 i))) (fun ⟨i, a⟩ => []) (fun ⟨i, a⟩ => p.Kids.length - i) (0, 1) ⟨by omega, by rw [List.drop_zero]⟩ (zU) (LSub.rfl) ?_
 rintro ⟨i, a⟩ ⟨hi, hv⟩
 refine J_seq (Jr (Jm rfl (Js rfl (step_fieldAddr so46 Sr rfl) (Jl rfl ty42 Sr (Js rfl (step_len_sl underlying42 Sr) ?_)))))
 refine Js rfl (step_lss Sr Sr) (Jm rfl ?_)
 refine Jk rfl Sr rfl (step_move Sr) ?_
 refine Jg rfl Sr rfl (fun hw => step_lss (Sub.w hw) Sr) (Js rfl (step_pick_and Sr Sr) (JL_nil ?_))
 refine J_cond Sr (fun h13 => ?_) (fun h13 => ?_)
 ·
  try simp only [NF] at h13
  have hlt : i < p.Kids.length := by omega
  have ha : a < 1000 := h13.2
  have hdr := dropB hlt
  refine J_skip (J_seq (J_block (J_region (Jm rfl (Js rfl (step_fieldAddr so46 Sr rfl) ?_)))))
  refine Jl rfl ty42 Sr (Jm rfl ?_)
  refine Js rfl (step_indexAddr_sl (i := i) underlying42 ty46 Sr Sr (by rfl) (gb (by exact hlt))) ?_
  refine Jl rfl ty46 Sr (Js rfl (step_call0 (ih _ (hl2 _ (nth_mem hlt))) ⟨Sr, trivial⟩ call58) (Js rfl (step_addW Sr Sr) (Ja rfl (JL_nil (J_region ?_)))))
  refine Jm rfl (Js rfl (step_add Sr Sr z6) (Ja rfl (JL_nil ?_)))
  refine K_againL (σ := Nat × Int) (s := (i, a)) (i + 1, IntKind.i64.wrap (a + cntW n (nth p.Kids i))) zO ?_ (zU) (LSub.rfl)
  refine ⟨by omega, ?_⟩
  rw [← hv, hdr]
  show _ = if a < 1000 then _ else a
  rw [if_pos ha]
 try simp only [NF] at h13
 refine J_exit (Jr (Jm rfl (Ja rfl (JL_nil (J_ret ?_)))))
 refine K_ret1 (t := 2) rfl () (Sub.int ?_)
 show a = cntL (cntW n) 1 p.Kids
 rw [← hv]
 by_cases ha : a < 1000
 ·
  have : i = p.Kids.length := by omega
  rw [this, List.drop_length]; rfl
 rw [cntL_stop _ ha]
theorem rcnt_spec : ∀ n, CntS n
 | 0 => fun p hl => by
  refine Spec.enter func58 rfl rfl fun h0 w0 fr0 => ?_
  exact K_fact 0 (fun _ _ r => (show False from r)) fun q => q.elim
 | n + 1 => fun p hl => rcnt1_spec n p hl (rcnt_spec n)
set_option maxHeartbeats 1000000 in
theorem rnar1_spec (n : Nat) (p : GPlan) (hl : PlLen (n + 1) p) (ih : NarS n) : Fun1 prog 59 [(rPlan (n + 1)).ty p] (tV (.bool (narM (n + 1) p))) := by
 refine Spec.enter func59 rfl rfl fun h0 w0 fr0 => ?_
 obtain ⟨hl1, hl2⟩ := hl
 refine Jr (Js rfl (step_box (R := (rPlan (n + 1))) Sr) (Ja rfl (JL_nil (J_seq (Jr ?_)))))
 refine Ja rfl (JL_nil (J_block ?_))
 refine J_loopL (σ := Nat) (fun i => i ≤ p.Kids.length ∧ ∀ k, k < i → narM n (nth p.Kids k) = true) (fun i => upd (upd env0 1 (tPtr (rPlan (n + 1)) p)) 3 (tV (.int .i64 i))) (fun i => []) (fun i => p.Kids.length - i) 0 ⟨by omega, fun k hk => by omega⟩ (zU) (LSub.rfl) ?_
 rintro i ⟨hi, hv⟩
 refine J_seq (Jr (Jm rfl (Js rfl (step_fieldAddr so46 Sr rfl) (Jl rfl ty42 Sr (Js rfl (step_len_sl underlying42 Sr) ?_)))))
 refine Js rfl (step_lss Sr Sr) (JL_nil ?_)
 refine J_cond Sr (fun h8 => ?_) (fun h8 => ?_)
 ·
  try simp only [NF] at h8
  have hlt : i < p.Kids.length := by omega
  refine J_skip (J_seq (J_block (Jr (Js rfl (step_fieldAddr so46 Sr rfl) (Jl rfl ty42 Sr ?_)))))
  refine Jm rfl ?_
  refine Js rfl (step_indexAddr_sl (i := i) underlying42 ty46 Sr Sr (by rfl) (gb (by exact hlt))) ?_
  refine Jl rfl ty46 Sr (Js rfl (step_call0 (ih _ (hl2 _ (nth_mem hlt))) ⟨Sr, trivial⟩ call59) (Js rfl (step_not Sr) (JL_nil ?_)))
  refine J_cond Sr (fun h17 => ?_) (fun h17 => ?_)
  ·
   try simp only [NF] at h17
   refine Jr (Ja rfl (JL_nil (J_ret ?_)))
   refine K_ret1 (t := 2) rfl () ?_
   refine Sub.bool ?_
   have : p.Kids.all (narM n) = false := all_f hlt (by simpa using h17)
   simp only [narM, this, Bool.false_and]
  try simp only [NF] at h17
  refine J_skip (J_region (Jm rfl (Js rfl (step_add Sr Sr z6) (Ja rfl (JL_nil ?_)))))
  refine K_againL (σ := Nat) (s := i) (i + 1) zO ?_ (zU) (LSub.rfl)
  exact pred_again (p := fun q => narM n q = true) hlt hv (by simpa using h17)
 try simp only [NF] at h8
 have hall : p.Kids.all (narM n) = true := all_t (fun k hk => hv k zG)
 refine J_exit (Jr (Js rfl (step_fieldAddr so46 Sr rfl) (Jl rfl ty44 Sr (Js rfl (step_len_sl underlying44 Sr) (Js rfl (step_leq Sr Sr) ?_)))))
 refine Jm rfl ?_
 refine Jk rfl Sr rfl (step_fieldAddr so46 Sr rfl) ?_
 refine Jg rfl Sr rfl (fun hw => step_load_ptr ty43 (Sub.w hw)) (Jg rfl Sr rfl (fun hw => step_len_sl underlying43 (Sub.w hw)) (Jg rfl Sr rfl (fun hw => step_leq (Sub.w hw) Sr) (Js rfl (step_pick_and Sr Sr) (Jm rfl ?_))))
 refine Jk rfl Sr rfl (step_fieldAddr so46 Sr rfl) ?_
 refine Jg rfl Sr rfl (fun hw => step_load_ptr ty36 (Sub.w hw)) (Jg rfl Sr rfl (fun hw => step_len_sl underlying36 (Sub.w hw)) (Jg rfl Sr rfl (fun hw => step_leq (Sub.w hw) Sr) (Js rfl (step_pick_and Sr Sr) (Ja rfl (JL_nil ?_)))))
 refine J_ret ?_
 refine K_ret1 (t := 2) rfl () ?_
 refine Sub.bool ?_
 have e : ∀ a b : Nat, decide ((a : Int) ≤ (b : Int)) = decide (a ≤ b) := fun a b => by rw [decide_eq_decide]; omega
 simp only [narM, hall, Bool.true_and]
 have e1 := e p.Attrs.length 40
 have e2 := e p.Tests.length 20
 have e3 := e p.Cols.length 40
 simp only [← e1, ← e2, ← e3]; rfl
theorem rnar_spec : ∀ n, NarS n
 | 0 => fun p hl => by
  refine Spec.enter func59 rfl rfl fun h0 w0 fr0 => ?_
  exact K_fact 0 (fun _ _ r => (show False from r)) fun q => q.elim
 | n + 1 => fun p hl => rnar1_spec n p hl (rnar_spec n)
set_option maxHeartbeats 2000000 in
theorem rSmall_spec (s : GSchema) (n : Nat) (p : GPlan) (hl : PlLen n p) (ts : List (List (List GValue))) (m : Int) (hz : ∀ t ∈ ts, t.length ≤ 9223372036854775807) : Fun1 prog 19 [rSchema.ty s, (rPlan n).ty p, tSl (rSl (rSl rValue)) ts, tV (.int .i64 m)] (tV (.bool (smallM s n p ts m))) := by
 refine Spec.enter func19 rfl rfl fun h0 w0 fr0 => ?_
 refine Jr (Js rfl (step_box (R := rSchema) Sr) (Js rfl (step_box (R := (rPlan n)) Sr) (Ja rfl (JL_nil (J_seq ?_)))))
 refine Jr (Jl rfl ty41 Sr (Js rfl (step_call0 (rsSmall_spec _) ⟨Sr, trivial⟩ call57) (Js rfl (step_not Sr) (Jm rfl ?_))))
 refine Jk rfl Sr rfl (step_load_ptr ty46 Sr) ?_
 refine Jg rfl Sr rfl (fun hw => step_call0 (rcnt_spec n p hl) ⟨Sub.w hw, trivial⟩ call58) (Jg rfl Sr rfl (fun hw => step_gtr (Sub.w hw) Sr) (Js rfl (step_pick_or Sr Sr) (Jm rfl ?_)))
 refine Jk rfl Sr rfl (step_load_ptr ty46 Sr) ?_
 refine Jg rfl Sr rfl (fun hw => step_call0 (rnar_spec n p hl) ⟨Sub.w hw, trivial⟩ call59) (Jg rfl Sr rfl (fun hw => step_not (Sub.w hw)) (Js rfl (step_pick_or Sr Sr) (Jm rfl ?_)))
 refine Jk rfl Sr rfl (step_move Sr) ?_
 refine Jg rfl Sr rfl (fun hw => step_len_sl underlying61 (Sub.w hw)) (Jg rfl Sr rfl (fun hw => step_gtr (Sub.w hw) Sr) (Js rfl (step_pick_or Sr Sr) (JL_nil ?_)))
 refine J_cond Sr (fun h28 => ?_) (fun h28 => ?_)
 ·
  try simp only [NF] at h28
  refine Jr (Ja rfl (JL_nil (J_ret ?_)))
  refine K_ret1 (t := 8) rfl () ?_
  refine Sub.bool ?_
  unfold smallM
  rcases h28 with ((h | h) | h) | h
  ·
   simp [h]
  ·
   simp [show ¬ cntW n p ≤ 40 by omega]
  ·
   simp [h]
  simp [show ¬ ts.length ≤ 30 by omega]
 try simp only [NF] at h28
 have hb : smS s = true ∧ cntW n p ≤ 40 ∧ narM n p = true ∧ ts.length ≤ 30 := ⟨h28.1.1.1, h28.1.1.2, h28.1.2, by omega⟩
 refine J_skip (J_seq (Jr (Ja rfl (JL_nil (J_block ?_)))))
 refine J_loopL (σ := Nat) (fun i => i ≤ ts.length ∧ ∀ k, k < i → rowsOk m (nth ts k) = true) (fun i => upd (upd (upd env0 2 (tSl (rSl (rSl rValue)) ts)) 3 (tV (.int .i64 m))) 9 (tV (.int .i64 i))) (fun i => []) (fun i => ts.length - i) 0 ⟨by omega, fun k hk => by omega⟩ (zU) (LSub.rfl) ?_
 rintro i ⟨hi, hv⟩
 refine J_seq (Jr (Jm rfl (Jm rfl (Js rfl (step_len_sl underlying61 Sr) (Js rfl (step_lss Sr Sr) ?_)))))
 refine JL_nil ?_
 refine J_cond Sr (fun h32 => ?_) (fun h32 => ?_)
 ·
  try simp only [NF] at h32
  have hlt : i < ts.length := by omega
  have hzi := hz _ (nth_mem hlt)
  refine J_skip (J_seq (J_block (J_seq (Jr (Jm rfl ?_)))))
  refine Jm rfl ?_
  refine Js rfl (step_indexAddr_sl (i := i) underlying61 ty73 Sr Sr (by rfl) (gb (by exact hlt))) ?_
  refine Jl rfl ty73 Sr (Js rfl (step_len_sl underlying73 Sr) (Jm rfl (Js rfl (step_gtr Sr Sr) (JL_nil ?_))))
  refine J_cond Sr (fun h41 => ?_) (fun h41 => ?_)
  ·
   try simp only [NF] at h41
   refine Jr (Ja rfl (JL_nil (J_ret ?_)))
   refine K_ret1 (t := 8) rfl () ?_
   refine Sub.bool ?_
   have : rowsOk m (nth ts i) = false := by unfold rowsOk; simp [show ¬ ((nth ts i).length : Int) ≤ m by omega]
   simp [smallM, all_f hlt this]
  try simp only [NF] at h41
  refine J_skip (Jr (Ja rfl (JL_nil (J_block ?_))))
  refine J_loopL (σ := Nat) (fun k => k ≤ (nth ts i).length ∧ ∀ j, j < k → decide ((nth (nth ts i) j).length ≤ 20) = true) (fun k => upd (upd (upd (upd env0 2 (tSl (rSl (rSl rValue)) ts)) 3 (tV (.int .i64 m))) 9 (tV (.int .i64 i))) 10 (tV (.int .i64 k))) (fun k => []) (fun k => (nth ts i).length - k) 0 ⟨by omega, fun j hj => by omega⟩ (zU) (LSub.rfl) ?_
  rintro k ⟨hk, hw⟩
  refine J_seq (Jr (Jm rfl (Jm rfl (Jm rfl ?_))))
  refine Js rfl (step_indexAddr_sl (i := i) underlying61 ty73 Sr Sr (by rfl) (gb (by exact hlt))) ?_
  refine Jl rfl ty73 Sr (Js rfl (step_len_sl underlying73 Sr) (Js rfl (step_lss Sr Sr) (JL_nil ?_)))
  refine J_cond Sr (fun h48 => ?_) (fun h48 => ?_)
  ·
   try simp only [NF] at h48
   have hkt : k < (nth ts i).length := by omega
   refine J_skip (J_seq (J_block (Jr (Jm rfl (Jm rfl ?_)))))
   refine Js rfl (step_indexAddr_sl (i := i) underlying61 ty73 Sr Sr (by rfl) (gb (by exact hlt))) ?_
   refine Jl rfl ty73 Sr (Jm rfl ?_)
   refine Js rfl (step_indexAddr_sl (i := k) underlying73 ty22 Sr Sr (by rfl) (gb (by exact hkt))) ?_
   refine Jl rfl ty22 Sr (Js rfl (step_len_sl underlying22 Sr) (Js rfl (step_gtr Sr Sr) (JL_nil ?_)))
   refine J_cond Sr (fun h59 => ?_) (fun h59 => ?_)
   ·
    try simp only [NF] at h59
    refine Jr (Ja rfl (JL_nil (J_ret ?_)))
    refine K_ret1 (t := 8) rfl () ?_
    refine Sub.bool ?_
    have h1 : ((nth ts i).all fun r => decide (r.length ≤ 20)) = false := all_f hkt (by rw [decide_eq_false_iff_not]; omega)
    have : rowsOk m (nth ts i) = false := by unfold rowsOk; rw [h1, Bool.and_false]
    simp [smallM, all_f hlt this]
   try simp only [NF] at h59
   refine J_skip (J_region (Jm rfl (Js rfl (step_add Sr Sr z6) (Ja rfl (JL_nil ?_)))))
   refine K_againL (σ := Nat) (s := k) (k + 1) zO ?_ (zU) (LSub.rfl)
   refine ⟨by omega, fun j hj => ?_⟩
   by_cases e : j = k
   ·
    rw [e, decide_eq_true_eq]; omega
   exact hw j zG
  try simp only [NF] at h48
  have hrt : ((nth ts i).all fun r => decide (r.length ≤ 20)) = true := all_t (fun j hj => hw j zG)
  refine J_exit (J_region (Jm rfl (Js rfl (step_add Sr Sr z6) (Ja rfl (JL_nil ?_)))))
  refine K_againL (σ := Nat) (s := i) (i + 1) zO ?_ (zU) (LSub.rfl)
  refine ⟨by omega, fun k hk => ?_⟩
  by_cases e : k = i
  ·
   rw [e]; unfold rowsOk; rw [hrt]; simp; omega
  exact hv k zG
 try simp only [NF] at h32
 have hall : ts.all (rowsOk m) = true := all_t (fun k hk => hv k zG)
 refine J_exit (Jr (Ja rfl (JL_nil (J_ret ?_))))
 refine K_ret1 (t := 8) rfl () ?_
 refine Sub.bool ?_
 simp [smallM, hb.1, hb.2.1, hb.2.2.1, hb.2.2.2, hall]
open Go Go.Proofs Go.Proofs.Tryz
def abs1 (g : GPlace) : Gplace := ⟨g.To, g.Const, g.Fixed⟩
def absP (L : List GPlace) : List Gplace := L.map abs1
theorem abs_len (L : List GPlace) : (absP L).length = L.length := by simp [absP]
theorem abs_nth {L : List GPlace} {i : Nat} (h : i < L.length) : nth (absP L) i = abs1 (nth L i) := by
  rw [nth_get (by rw [abs_len]; exact h), nth_get h]; simp [absP]
theorem abs_set (L : List GPlace) (i : Nat) (x : GPlace) : absP (L.set i x) = (absP L).set i (abs1 x) := by simp [absP, List.map_set]
theorem abs_app (L M : List GPlace) : absP (L ++ M) = absP L ++ absP M := by simp [absP]
/-- A builder whose places may be read. -/
structure GBuilderP where
  S : GSchema
  Tables : Value
  Places : List GPlace
  Self : Value
  Bad : Bool
def fsBuilderP : List (SF GBuilderP) := [⟨GSchema, 41, rSchema, GBuilderP.S⟩, ⟨Value, 36, rV, GBuilderP.Tables⟩, ⟨List GPlace, 114, rSl rPlace, GBuilderP.Places⟩, ⟨Value, 36, rV, GBuilderP.Self⟩, ⟨Bool, 4, rBool, GBuilderP.Bad⟩]
abbrev rBuilderP : Rp GBuilderP := rStruct fsBuilderP
theorem ty116P : TyOf prog 116 rBuilderP := ⟨fun w => isAgg116 w, fun w => sizeOf116 w⟩
theorem so116P : StructOf prog 116 fsBuilderP := ⟨⟨_, underlying116, ⟨rfl, rfl, ty41, by decide, ⟨rfl, rfl, ty36V116, by decide, ⟨rfl, rfl, ty114, by decide, ⟨rfl, rfl, ty36V116, by decide, ⟨rfl, rfl, ty4, by decide, trivial⟩⟩⟩⟩⟩⟩, ty116P⟩
theorem Frz.bldRP {b : Nat} {sc : GSchema} {vt vp vf : Value} {bad : Bool} {L : List GPlace} {S : List SP} : Frz (Lg.box b 116 rBuilderW ⟨sc, vt, vp, vf, bad⟩ :: Lg.own 121 rPlace vp L :: S) (tAt b 0) (tPtr rBuilderP ⟨sc, vt, L, vf, bad⟩) :=
  Frz.up fun h h' cs le hv r => by
    obtain ⟨c0, _, rfl, r0, c1, _, rfl, r1, c2, _, rfl, r2, c3, _, rfl, r3, c4, _, rfl, r4, rz⟩ := r
    exact ⟨c0, _, rfl, rSchema.mono le r0, c1, _, rfl, rV.mono le r1, c2, _, rfl, ⟨_, r2.1, hv⟩, c3, _, rfl, rV.mono le r3, c4, _, rfl, rBool.mono le r4, rz⟩
abbrev bldR (b : Nat) (sc : GSchema) (vt vp vf : Value) (bad : Bool) : SP := box b 116 rBuilderW ⟨sc, vt, vp, vf, bad⟩
/-- The reference's builder that is one's own. -/
def rbS (b : Nat) (sc : GSchema) (s : Bst) : SP := SP.ex fun z : Value × Value × Value × { L : List GPlace // absP L = s.P } => stars [bldR b sc z.1 z.2.1 z.2.2.1 s.bad, own 121 rPlace z.2.1 z.2.2.2.1, own 3 rInt z.2.2.1 s.F, own 3 rInt z.1 s.T]
theorem LSub.rb {b : Nat} {sc : GSchema} {s : Bst} {vt vp vf : Value} {L : List GPlace} {M : List SP} (h : absP L = s.P) : LSub (bldR b sc vt vp vf s.bad :: own 121 rPlace vp L :: own 3 rInt vf s.F :: own 3 rInt vt s.T :: M) (rbS b sc s :: M) :=
  LSub.ex (vt, vp, vf, ⟨L, h⟩) (LSub.stars LSub.rfl)
theorem K_rb {b : Nat} {sc : GSchema} {s : Bst} {C : Cx} {k : Act → World → Prop} {E : Env} {M : List SP} (hk : ∀ vt vp vf L, absP L = s.P → K C k E (bldR b sc vt vp vf s.bad :: own 121 rPlace vp L :: own 3 rInt vf s.F :: own 3 rInt vt s.T :: M)) : K C k E (rbS b sc s :: M) :=
  K_ex fun ⟨vt, vp, vf, L⟩ => K_stars (hk vt vp vf L.1 L.2)
theorem minmax (a b : Nat) : ∃ lo hi : Nat, (if (b : Int) < (a : Int) then (b : Int) else (a : Int)) = (lo : Int) ∧ (if (b : Int) > (a : Int) then (b : Int) else (a : Int)) = (hi : Int) ∧ ((a ≤ b ∧ lo = a ∧ hi = b) ∨ (¬ a ≤ b ∧ lo = b ∧ hi = a)) := by
  by_cases h : a ≤ b
  · refine ⟨a, b, by rw [if_neg (by omega)], ?_, .inl ⟨h, rfl, rfl⟩⟩
    split <;> omega
  · exact ⟨b, a, by rw [if_pos (by omega)], by rw [if_neg (by omega)], .inr ⟨h, rfl, rfl⟩⟩
theorem cnt_split {n i : Nat} {p : Nat → Bool} (hp : p i = true) : i < n → (List.range n).countP p = 1 + (List.range n).countP fun k => decide (k ≠ i) && p k := by
  induction n with
  | zero => intro h; omega
  | succ n ih =>
    intro h
    rw [List.range_succ, List.countP_append, List.countP_append]
    by_cases e : i = n
    · subst e
      have : (List.range i).countP p = (List.range i).countP fun k => decide (k ≠ i) && p k := List.countP_congr fun k hk => by
        have := List.mem_range.1 hk
        simp [show k ≠ i by omega]
      rw [this]
      simp [List.countP_cons, hp]; omega
    · rw [ih (by omega)]
      have : n ≠ i := fun q => e q.symm
      simp [List.countP_cons, this]; omega
theorem alone_t {P : List Gplace} {i : Nat} (hi : i < P.length) (h : ∀ k, k < P.length → ¬ (k ≠ i ∧ topM P k = topM P i)) : aloneM P i = !(nth P (topM P i)).fixed := by
  unfold aloneM
  rw [cnt_split (i := i) (by simp) hi]
  have : (List.range P.length).countP (fun k => decide (k ≠ i) && decide (topM P k = topM P i)) = 0 := by
    rw [List.countP_eq_zero]
    intro k hk
    have := h k (List.mem_range.1 hk)
    simpa using this
  rw [this]; simp
theorem alone_f {P : List Gplace} {i k : Nat} (hi : i < P.length) (hk : k < P.length) (h : k ≠ i ∧ topM P k = topM P i) : aloneM P i = false := by
  unfold aloneM
  rw [cnt_split (i := i) (by simp) hi]
  have : 0 < (List.range P.length).countP (fun k => decide (k ≠ i) && decide (topM P k = topM P i)) := List.countP_pos_iff.2 ⟨k, List.mem_range.2 hk, by simp [h]⟩
  rw [show decide (1 + (List.range P.length).countP (fun k => decide (k ≠ i) && decide (topM P k = topM P i)) = 1) = false by rw [decide_eq_false_iff_not]; omega]; rfl
set_option maxHeartbeats 1000000 in
theorem rtop_spec (sc : GSchema) (vt vf : Value) (bad : Bool) (L : List GPlace) (h : POk (absP L)) (i : Nat) (hi : i < L.length) : Fun1 prog 70 [tPtr rBuilderP ⟨sc, vt, L, vf, bad⟩, tV (.int .i64 i)] (tV (.int .i64 (topM (absP L) i))) := by
 refine Spec.enter func70 rfl rfl fun h0 w0 fr0 => ?_
 obtain ⟨c, hc⟩ := h.acy.rank
 rw [abs_len] at hc
 refine Jr (Ja rfl (JL_nil (J_seq (J_block ?_))))
 refine J_loopL (σ := Nat) (fun j => j < L.length ∧ topM (absP L) j = topM (absP L) i) (fun j => upd (upd (upd env0 0 (tPtr rBuilderP ⟨sc, vt, L, vf, bad⟩)) 1 (tV (.int .i64 j))) 4 (tV (.int .i64 0))) (fun j => []) (fun j => c j) i ⟨hi, rfl⟩ (zU) (LSub.rfl) ?_
 rintro j ⟨hj, hv⟩
 refine J_seq (Jr (Jm rfl (Js rfl (step_nilCheckP Sr) (Js rfl (step_fieldAddr so116P Sr rfl) (Jl rfl ty114 Sr ?_)))))
 refine Jm rfl ?_
 refine Js rfl (step_indexAddr_sl (i := j) underlying114 ty121 Sr Sr (by rfl) (gb (by exact hj))) ?_
 refine Js rfl (step_fieldAddr so121 Sr rfl) (Jl rfl ty3 Sr (Jm rfl (Js rfl (step_neq Sr Sr) (JL_nil ?_))))
 refine J_cond Sr (fun h14 => ?_) (fun h14 => ?_)
 ·
  try simp only [NF] at h14
  have hup := h.nn j (by rw [abs_len]; exact hj)
  rw [abs_nth hj] at hup
  obtain ⟨hc1, hc2, hc3⟩ := hc j hj
  have eup : upN (absP L) j = (nth L j).To.toNat := by unfold upN; rw [abs_nth hj]; rfl
  have hup : 0 ≤ (nth L j).To := hup
  have hne : ¬ upN (absP L) j = j := fun e => h14 zG
  have hdec : c (upN (absP L) j) < c j := by rcases hc3 with q | q; exact absurd q hne; exact q
  refine J_skip (J_block (J_region (Jm rfl (Js rfl (step_nilCheckP Sr) (Js rfl (step_fieldAddr so116P Sr rfl) ?_)))))
  refine Jl rfl ty114 Sr (Jm rfl ?_)
  refine Js rfl (step_indexAddr_sl (i := j) underlying114 ty121 Sr Sr (by rfl) (gb (by exact hj))) ?_
  refine Js rfl (step_fieldAddr so121 Sr rfl) (Jl rfl ty3 Sr (Ja rfl (JL_nil ?_)))
  refine K_againL (σ := Nat) (s := j) (upN (absP L) j) (hdec) ⟨hc2, by rw [top_next h (by rw [abs_len]; exact hj) (by rw [abs_len]; exact hc2)]; exact hv⟩ (.u (SubE.upd (Sub.int (by show (nth L j).To = _; omega)) (zU))) (LSub.rfl)
 try simp only [NF] at h14
 have eup : upN (absP L) j = (nth L j).To.toNat := by unfold upN; rw [abs_nth hj]; rfl
 have hself : topM (absP L) j = j := top_self h (by rw [abs_len]; exact hj) zG
 refine J_exit (Jr (Jm rfl (Ja rfl (JL_nil (J_ret ?_)))))
 refine K_retv (rv := .tmp 4) rfl () (.tmp Sr) (Sub.int ?_)
 rw [← hv, hself]
set_option maxHeartbeats 4000000 in
theorem rfix_spec (b : Nat) (sc : GSchema) (s : Bst) (h : POk s.P) (i : Nat) (hi : i < s.P.length) (v : GValue) : Spec (X := Unit) prog 193 [tAt b 0, tV (.int .i64 i), rValue.ty v] ([rbS b sc s]) (fun _ => tTup []) (fun _ => [rbS b sc (fixS s i v)]) := by
 refine Spec.enter func193 rfl rfl fun h0 w0 fr0 => ?_
 obtain ⟨P, F, T, SS, bad⟩ := s
 refine K_rb fun vt vp vf L hL => ?_
 obtain rfl : P = absP L := hL.symm
 have hpk : POk (absP L) := h
 have hi : i < (absP L).length := hi
 have htl := hpk.top_lt hi
 rw [abs_len] at hi htl
 refine Jr (Js rfl (step_box (R := rValue) Sr) (JL_nil (Jr (Jm rfl (Jm rfl ?_)))))
 refine Js rfl (step_call_look (Sel.take (Sel.take (Sel.none _))) (rtop_spec sc vt vf bad L hpk i hi) (fun _ => Flat.v _) ⟨Frz.bldRP, Frz.sub Sr, trivial⟩ call70) (Ja rfl (JL_nil (J_seq (J_seq ?_))))
 refine J_drawN [⟨0, [5], true⟩, ⟨1, [9], true⟩, ⟨2, [10], true⟩, ⟨3, [11], true⟩, ⟨4, [0, 12], true⟩, ⟨5, [12, 13], true⟩, ⟨6, [12, 14], true⟩, ⟨8, [1, 12], true⟩, ⟨7, [12, 15], true⟩, ⟨9, [12, 16, 17], true⟩, ⟨10, [12, 18], true⟩, ⟨11, [12, 19], true⟩, ⟨12, [12, 20], true⟩, ⟨13, [0, 21], true⟩, ⟨14, [21, 22], true⟩, ⟨15, [21, 23], true⟩, ⟨17, [1, 21], true⟩, ⟨21, [5, 21], true⟩, ⟨16, [21, 24], true⟩, ⟨18, [21, 25, 26], true⟩, ⟨19, [21, 27], true⟩, ⟨20, [21, 28], true⟩, ⟨22, [21, 29, 30], true⟩, ⟨23, [12, 21, 31], true⟩, ⟨24, [12, 32], true⟩] rfl (by kernel_rfl) rfl ?_
 refine JN_step rfl rfl rfl rfl (step_fieldAddr so87 Sr rfl) ?_
 refine JN_step rfl rfl rfl rfl (step_load_ptr ty3 Sr) ?_
 refine JN_step rfl rfl rfl rfl (step_eql Sr Sr) ?_
 refine JN_step rfl rfl rfl rfl (step_move Sr) ?_
 refine JN_stepG rfl rfl rfl rfl (Gd.plain Sr) rfl rfl (fun hw => step_move Sr) ?_
 refine JN_stepG rfl rfl rfl rfl (Gd.plain Sr) rfl rfl (fun hw => step_nilCheck (Sub.w hw)) ?_
 refine JN_stepG rfl rfl rfl rfl (Gd.plain Sr) rfl rfl (fun hw => step_fieldAddr_own so116W (Sub.w hw) rfl) ?_
 refine JN_stepG rfl rfl rfl rfl (Gd.plain Sr) rfl rfl (fun hw => step_move Sr) ?_
 refine JN_stepG rfl rfl rfl rfl (Gd.plain Sr) rfl rfl (fun hw => step_load_fld ty114V116 (Sub.w hw) rfl zS) ?_
 refine JN_stepG rfl rfl rfl rfl (Gd.plain Sr) rfl rfl (fun hw => step_indexAddr_own (i := (topM (absP L) i)) underlying114 ty121 (Sub.w hw) zS (Sub.w hw) (by rfl) (by have hwq := hw; (try simp only [beqB_t, beqB_f, NF] at hwq); first | exact htl | (rw [List.length_set]; exact htl))) ?_
 refine JN_stepG rfl rfl rfl rfl (Gd.plain Sr) rfl rfl (fun hw => step_fieldAddr_elem (i := (topM (absP L) i)) so121 (Sub.w hw) rfl zS (by first | exact htl | (rw [List.length_set]; exact htl))) ?_
 refine JN_stepG rfl rfl rfl rfl (Gd.plain Sr) rfl rfl (fun hw => step_load_elemfld (i := (topM (absP L) i)) ty4 (Sub.w hw) rfl zS (gb (by first | exact htl | (rw [List.length_set]; exact htl)))) ?_
 refine JN_stepG rfl rfl rfl rfl (Gd.plain Sr) rfl rfl (fun hw => step_move (Sub.w hw)) ?_
 refine JN_stepG rfl rfl rfl rfl (Gd.nest Sr) rfl rfl (fun hw => step_move Sr) ?_
 refine JN_stepG rfl rfl rfl rfl (Gd.nest Sr) rfl rfl (fun hw => step_nilCheck (Sub.w hw)) ?_
 refine JN_stepG rfl rfl rfl rfl (Gd.nest Sr) rfl rfl (fun hw => step_fieldAddr_own so116W (Sub.w hw) rfl) ?_
 refine JN_stepG rfl rfl rfl rfl (Gd.nest Sr) rfl rfl (fun hw => step_move Sr) ?_
 refine JN_stepG rfl rfl rfl rfl (Gd.nest Sr) rfl rfl (fun hw => step_load_ptr ty87 Sr) ?_
 refine JN_stepG rfl rfl rfl rfl (Gd.nest Sr) rfl rfl (fun hw => step_load_fld ty114V116 (Sub.w hw) rfl zS) ?_
 refine JN_stepG rfl rfl rfl rfl (Gd.nest Sr) rfl rfl (fun hw => step_indexAddr_own (i := (topM (absP L) i)) underlying114 ty121 (Sub.w hw) zS (Sub.w hw) (by rfl) (by have hwq := hw; (try simp only [beqB_t, beqB_f, NF] at hwq); first | exact htl | (rw [List.length_set]; exact htl))) ?_
 refine JN_stepG rfl rfl rfl rfl (Gd.nest Sr) rfl rfl (fun hw => step_fieldAddr_elem (i := (topM (absP L) i)) so121 (Sub.w hw) rfl zS (by first | exact htl | (rw [List.length_set]; exact htl))) ?_
 refine JN_stepG rfl rfl rfl rfl (Gd.nest Sr) rfl rfl (fun hw => step_load_elemfld (i := (topM (absP L) i)) ty87 (Sub.w hw) rfl zS (gb (by first | exact htl | (rw [List.length_set]; exact htl)))) ?_
 refine JN_stepG rfl rfl rfl rfl (Gd.nest Sr) rfl rfl (fun hw => step_neq_val (Sub.w hw) (Sub.w hw)) ?_
 refine JN_stepG rfl rfl rfl rfl (Gd.plain Sr) rfl rfl (fun hw => step_pick_and (Sub.w hw) (Sub.ww hw)) ?_
 refine JN_step rfl rfl rfl rfl (step_pick_or Sr Sr) ?_
 refine JN_nil ?_
 refine J_cond Sr (fun h33 => ?_) (fun h33 => ?_)
 ·
  try simp only [NF] at h33
  have hb : fixB (absP L) i v = true := by
   unfold fixB; rw [abs_nth htl]
   show (decide (v.Kind = 0) || ((nth L (topM (absP L) i)).Fixed && !decide ((nth L (topM (absP L) i)).Const = v))) = true
   rcases h33 with q | ⟨q1, q2⟩
   ·
    simp [q]
   simp [show (nth L (topM (absP L) i)).Fixed = true from q1, show ¬ (nth L (topM (absP L) i)).Const = v from q2]
  refine J_region (Jm rfl (Js rfl (step_nilCheck Sr) (Js rfl (step_fieldAddr_own so116W Sr rfl) ?_)))
  refine Ju (step_store_fld (R := rBool) (y' := (⟨sc, vt, vp, vf, true⟩ : GBuilderW)) ty4 Sr Sr zS (by exact ⟨rfl, ⟨rfl, ⟨rfl, ⟨rfl, ⟨fun _ _ q => q, rfl, by intro g hg; cases hg⟩⟩⟩⟩⟩)) fun _ => ?_
  refine JL_nil (Jr (Jm rfl (Js rfl (step_nilCheck Sr) (Js rfl (step_fieldAddr_own so116W Sr rfl) ?_))))
  refine Js rfl (step_load_fld ty114V116 Sr rfl zS) ?_
  refine Jm rfl ?_
  refine Js rfl (step_indexAddr_own (i := (topM (absP L) i)) underlying114 ty121 Sr zS Sr (by rfl) (by first | exact htl | (rw [List.length_set]; exact htl))) ?_
  refine Js rfl (step_fieldAddr_elem (i := (topM (absP L) i)) so121 Sr rfl zS (by first | exact htl | (rw [List.length_set]; exact htl))) ?_
  refine Ju (step_store_elemfld (R := rBool) (i := (topM (absP L) i)) (y := (nth L (topM (absP L) i))) (y' := { nth L (topM (absP L) i) with Fixed := true }) ty4 Sr Sr zS (gb (by first | exact htl | (rw [List.length_set]; exact htl))) (by exact ⟨rfl, ⟨rfl, ⟨rfl, ⟨rfl, ⟨fun _ _ q => q, rfl, by intro g hg; cases hg⟩⟩⟩⟩⟩)) fun _ => ?_
  refine JL_nil ?_
  refine J_draw [⟨0, [0], true⟩, ⟨1, [44], true⟩, ⟨2, [45], true⟩, ⟨4, [1], true⟩, ⟨5, [5], true⟩, ⟨3, [46], false⟩, ⟨6, [47, 48], false⟩, ⟨7, [50], false⟩, ⟨8, [49, 51], false⟩] rfl (by kernel_rfl) ?_
  refine Mv rfl rfl (Mf rfl rfl (step_nilCheck Sr) (Mf rfl rfl (step_fieldAddr_own so116W Sr rfl) (Mv rfl rfl (Mf rfl rfl (step_load_ptr ty87 Sr) ?_))))
  refine JM_look rfl rfl rfl rfl (step_load_fld ty114V116 Sr rfl zS) ?_
  refine JM_look rfl rfl rfl rfl (step_indexAddr_own (i := (topM (absP L) i)) underlying114 ty121 Sr zS Sr (by rfl) (by first | exact htl | (rw [List.length_set]; exact htl))) ?_
  refine JM_look rfl rfl rfl rfl (step_fieldAddr_elem (i := (topM (absP L) i)) so121 Sr rfl zS (by first | exact htl | (rw [List.length_set]; exact htl))) ?_
  refine JM_stepU rfl rfl rfl (step_store_elemfld (R := rValue) (i := (topM (absP L) i)) (y := { nth L (topM (absP L) i) with Fixed := true }) (y' := { nth L (topM (absP L) i) with Fixed := true, Const := v }) ty87 Sr Sr zS (set_get htl) (by exact ⟨rfl, ⟨rfl, ⟨rfl, ⟨fun _ _ q => q, rfl, by intro g hg; simp only [List.mem_cons, List.not_mem_nil, or_false] at hg; subst hg; rfl⟩⟩⟩⟩)) fun _ => ?_
  refine JM_nil ?_
  have hab : absP ((L.set (topM (absP L) i) { nth L (topM (absP L) i) with Fixed := true }).set (topM (absP L) i) { nth L (topM (absP L) i) with Fixed := true, Const := v }) = fixM (absP L) i v := by rw [abs_set, abs_set, List.set_set]; unfold fixM; rw [abs_nth htl]; rfl
  refine K_lsub (L' := [bldR b sc vt vp vf ((fixS ⟨absP L, F, T, SS, bad⟩ i v).bad), own 121 rPlace vp ((L.set (topM (absP L) i) { nth L (topM (absP L) i) with Fixed := true }).set (topM (absP L) i) { nth L (topM (absP L) i) with Fixed := true, Const := v }), own 3 rInt vf F, own 3 rInt vt T]) (.c zS (SPs.of (A := bldR b sc vt vp vf (true)) (by rw [show (fixS ⟨absP L, F, T, SS, bad⟩ i v).bad = true by show (bad || fixB (absP L) i v) = _; rw [hb]; simp])) (zL)) ?_
  refine K_lsub (L' := [rbS b sc (fixS ⟨absP L, F, T, SS, bad⟩ i v)]) (LSub.rb hab) ?_
  refine K_end0 rfl () Sr
 try simp only [NF] at h33
 have hb : fixB (absP L) i v = false := by
  unfold fixB; rw [abs_nth htl]
  show (decide (v.Kind = 0) || ((nth L (topM (absP L) i)).Fixed && !decide ((nth L (topM (absP L) i)).Const = v))) = false
  obtain ⟨q1, q2⟩ := h33
  rcases q2 with q | q
  ·
   simp [show ¬ v.Kind = 0 from q1, show (nth L (topM (absP L) i)).Fixed = false from q]
  simp [show ¬ v.Kind = 0 from q1, show (nth L (topM (absP L) i)).Const = v from q]
 refine J_skip (Jr (Jm rfl (Js rfl (step_nilCheck Sr) (Js rfl (step_fieldAddr_own so116W Sr rfl) ?_))))
 refine Js rfl (step_load_fld ty114V116 Sr rfl zS) ?_
 refine Jm rfl ?_
 refine Js rfl (step_indexAddr_own (i := (topM (absP L) i)) underlying114 ty121 Sr zS Sr (by rfl) (by first | exact htl | (rw [List.length_set]; exact htl))) ?_
 refine Js rfl (step_fieldAddr_elem (i := (topM (absP L) i)) so121 Sr rfl zS (by first | exact htl | (rw [List.length_set]; exact htl))) ?_
 refine Ju (step_store_elemfld (R := rBool) (i := (topM (absP L) i)) (y := (nth L (topM (absP L) i))) (y' := { nth L (topM (absP L) i) with Fixed := true }) ty4 Sr Sr zS (gb (by first | exact htl | (rw [List.length_set]; exact htl))) (by exact ⟨rfl, ⟨rfl, ⟨rfl, ⟨rfl, ⟨fun _ _ q => q, rfl, by intro g hg; cases hg⟩⟩⟩⟩⟩)) fun _ => ?_
 refine JL_nil ?_
 refine J_draw [⟨0, [0], true⟩, ⟨1, [44], true⟩, ⟨2, [45], true⟩, ⟨4, [1], true⟩, ⟨5, [5], true⟩, ⟨3, [46], false⟩, ⟨6, [47, 48], false⟩, ⟨7, [50], false⟩, ⟨8, [49, 51], false⟩] rfl (by kernel_rfl) ?_
 refine Mv rfl rfl (Mf rfl rfl (step_nilCheck Sr) (Mf rfl rfl (step_fieldAddr_own so116W Sr rfl) (Mv rfl rfl (Mf rfl rfl (step_load_ptr ty87 Sr) ?_))))
 refine JM_look rfl rfl rfl rfl (step_load_fld ty114V116 Sr rfl zS) ?_
 refine JM_look rfl rfl rfl rfl (step_indexAddr_own (i := (topM (absP L) i)) underlying114 ty121 Sr zS Sr (by rfl) (by first | exact htl | (rw [List.length_set]; exact htl))) ?_
 refine JM_look rfl rfl rfl rfl (step_fieldAddr_elem (i := (topM (absP L) i)) so121 Sr rfl zS (by first | exact htl | (rw [List.length_set]; exact htl))) ?_
 refine JM_stepU rfl rfl rfl (step_store_elemfld (R := rValue) (i := (topM (absP L) i)) (y := { nth L (topM (absP L) i) with Fixed := true }) (y' := { nth L (topM (absP L) i) with Fixed := true, Const := v }) ty87 Sr Sr zS (set_get htl) (by exact ⟨rfl, ⟨rfl, ⟨rfl, ⟨fun _ _ q => q, rfl, by intro g hg; simp only [List.mem_cons, List.not_mem_nil, or_false] at hg; subst hg; rfl⟩⟩⟩⟩)) fun _ => ?_
 refine JM_nil ?_
 have hab : absP ((L.set (topM (absP L) i) { nth L (topM (absP L) i) with Fixed := true }).set (topM (absP L) i) { nth L (topM (absP L) i) with Fixed := true, Const := v }) = fixM (absP L) i v := by rw [abs_set, abs_set, List.set_set]; unfold fixM; rw [abs_nth htl]; rfl
 refine K_lsub (L' := [bldR b sc vt vp vf ((fixS ⟨absP L, F, T, SS, bad⟩ i v).bad), own 121 rPlace vp ((L.set (topM (absP L) i) { nth L (topM (absP L) i) with Fixed := true }).set (topM (absP L) i) { nth L (topM (absP L) i) with Fixed := true, Const := v }), own 3 rInt vf F, own 3 rInt vt T]) (.c zS (SPs.of (A := bldR b sc vt vp vf (bad)) (by rw [show (fixS ⟨absP L, F, T, SS, bad⟩ i v).bad = bad by show (bad || fixB (absP L) i v) = _; rw [hb]; simp])) (zL)) ?_
 refine K_lsub (L' := [rbS b sc (fixS ⟨absP L, F, T, SS, bad⟩ i v)]) (LSub.rb hab) ?_
 refine K_end0 rfl () Sr
set_option maxHeartbeats 4000000 in
theorem rbind_spec (b : Nat) (sc : GSchema) (s : Bst) (h : POk s.P) (hF : s.F.length ≤ 1000000000) (i k : Nat) (hi : i < s.P.length) (hk : k < s.P.length) : Spec (X := Unit) prog 124 [tAt b 0, tV (.int .i64 i), tV (.int .i64 k)] ([rbS b sc s]) (fun _ => tTup []) (fun _ => [rbS b sc (rbindS s i k)]) := by
 refine Spec.enter func124 rfl rfl fun h0 w0 fr0 => ?_
 obtain ⟨P, F, T, SS, bad⟩ := s
 refine K_rb fun vt vp vf L hL => ?_
 obtain rfl : P = absP L := hL.symm
 have hpk : POk (absP L) := h
 have hF : F.length ≤ 1000000000 := hF
 have hi : i < (absP L).length := hi
 have hk : k < (absP L).length := hk
 have hti := hpk.top_lt hi
 have htk := hpk.top_lt hk
 have hui := top_up hpk hi
 have huk := top_up hpk hk
 rw [abs_len] at hi hk hti htk
 obtain ⟨lo, hh, hlo, hhi, hsw⟩ := minmax (topM (absP L) i) (topM (absP L) k)
 have hll : lo < L.length := by omega
 have hhl : hh < L.length := by omega
 refine J_seq (Jr (Jm rfl (Jm rfl (Js rfl (step_eql Sr Sr) (JL_nil ?_)))))
 refine J_cut (X := Value) (fun vf2 => upd (upd (upd env0 0 (tAt b 0)) 1 (tV (.int .i64 i))) 2 (tV (.int .i64 k))) (fun vf2 => [bldR b sc vt vp vf2 (bad), own 121 rPlace vp L, own 3 rInt vf2 (if i = k then F ++ [(i : Int)] else F), own 3 rInt vt T]) ?_ ?_
 ·
  skip
  refine J_cond Sr (fun h11 => ?_) (fun h11 => ?_)
  ·
   try simp only [NF] at h11
   refine J_region (Jm rfl (Jm rfl (Js rfl (step_nilCheck Sr) (Js rfl (step_fieldAddr_own so116W Sr rfl) ?_))))
   refine Js rfl (step_load_fld ty36V116 Sr rfl zS) ?_
   refine Jm rfl ?_
   refine Js rfl (step_literal (ys := [_]) underlying36 el3 ⟨rfl, Sr, trivial⟩ rfl (by decide)) ?_
   refine Jx rfl (step_append underlying36 el3 Sr Sr zS (by simp; omega) (by simp; omega)) fun v19 => ?_
   refine Js rfl (step_nilCheck Sr) (Js rfl (step_fieldAddr_own so116W Sr rfl) ?_)
   refine Ju (step_store_fld (R := rV) (y' := (⟨sc, vt, vp, v19, bad⟩ : GBuilderW)) ty36V116 Sr Sr zS (by exact ⟨rfl, ⟨rfl, ⟨rfl, ⟨fun _ _ q => q, rfl, by intro g hg; simp only [List.mem_cons, List.not_mem_nil, or_false] at hg; subst hg; rfl⟩⟩⟩⟩)) fun _ => ?_
   refine JL_nil ?_
   refine K_cut (E := fun _ => env0) v19 (zU) (.r zS (.r zS (.c zS (SPs.of (A := own 3 rInt v19 (F ++ [(i : Int)])) (by rw [if_pos zG])) (zL))))
  try simp only [NF] at h11
  refine J_skip ?_
  refine K_cut (E := fun _ => env0) vf (zU) (.r zS (.r zS (.c zS (SPs.of (A := own 3 rInt vf F) (by rw [if_neg zG])) (zL))))
 rintro vf2
 refine Jr (Jm rfl (Jm rfl (Js rfl (step_call_look (Sel.take (Sel.take (Sel.none _))) (rtop_spec sc vt vf2 bad L hpk i hi) (fun _ => Flat.v _) ⟨Frz.bldRP, Frz.sub Sr, trivial⟩ call70) (Jm rfl (Jm rfl ?_)))))
 refine Js rfl (step_call_look (Sel.take (Sel.take (Sel.none _))) (rtop_spec sc vt vf2 bad L hpk k hk) (fun _ => Flat.v _) ⟨Frz.bldRP, Frz.sub Sr, trivial⟩ call70) (Ja rfl (Ja rfl (JL_nil (J_seq (Jr ?_)))))
 refine Jm rfl (Jm rfl (Js rfl (step_eql Sr Sr) (JL_nil ?_)))
 refine J_cond Sr (fun h30 => ?_) (fun h30 => ?_)
 ·
  try simp only [NF] at h30
  have hteq : (topM (absP L) i) = (topM (absP L) k) := by omega
  refine J_ret ?_
  have hB : (rbindS ⟨absP L, F, T, SS, bad⟩ i k) = ⟨absP L, (if i = k then F ++ [(i : Int)] else F), T, SS, bad⟩ := by unfold rbindS bindS; rw [if_pos (Nat.le_of_eq hteq), if_pos hteq]
  refine K_lsub (L' := [bldR b sc vt vp vf2 ((rbindS ⟨absP L, F, T, SS, bad⟩ i k).bad), own 121 rPlace vp L, own 3 rInt vf2 (rbindS ⟨absP L, F, T, SS, bad⟩ i k).F, own 3 rInt vt (rbindS ⟨absP L, F, T, SS, bad⟩ i k).T]) (.c zS (SPs.of (A := bldR b sc vt vp vf2 (bad)) (by rw [hB])) (.r zS (.c zS (SPs.of (A := own 3 rInt vf2 (if i = k then F ++ [(i : Int)] else F)) (by rw [hB])) (.c zS (SPs.of (A := own 3 rInt vt T) (by rw [hB])) (LSub.nil))))) ?_
  refine K_lsub (L' := [rbS b sc (rbindS ⟨absP L, F, T, SS, bad⟩ i k)]) (LSub.rb (by rw [hB])) ?_
  refine K_ret0 rfl () Sr
 try simp only [NF] at h30
 have htne : ¬ (topM (absP L) i) = (topM (absP L) k) := by omega
 have hlne : lo ≠ hh := by omega
 have hul : upN (absP L) lo = lo := by rcases hsw with ⟨_, rfl, rfl⟩ | ⟨_, rfl, rfl⟩; exact hui; exact huk
 have hlnk : POk (lnkM (absP L) lo hh) := hpk.lnk (by rw [abs_len]; exact hll) (by rw [abs_len]; exact hhl) hul hlne
 refine J_skip (Jr (Jm rfl (Jm rfl ?_)))
 refine Js rfl (step_eqTy (B := tV (.int .i64 lo)) (step_min Sr Sr) (by rw [hlo])) ?_
 refine Jm rfl (Jm rfl ?_)
 refine Js rfl (step_eqTy (B := tV (.int .i64 hh)) (step_max Sr Sr) (by rw [hhi])) ?_
 refine Ja rfl (Ja rfl (JL_nil (Jr (Jm rfl (Js rfl (step_nilCheck Sr) ?_)))))
 refine Js rfl (step_fieldAddr_own so116W Sr rfl) ?_
 refine Js rfl (step_load_fld ty114V116 Sr rfl zS) ?_
 refine Jm rfl ?_
 refine Js rfl (step_indexAddr_own (i := hh) underlying114 ty121 Sr zS Sr (by rfl) (by exact hhl)) ?_
 refine Js rfl (step_load_own ty121 Sr zS (gb (by first | assumption | omega))) ?_
 refine Jx rfl (step_alloc (fun w => zeroValue121 w) zr121) fun b8 => ?_
 refine Ju (step_store_box ty121 Sr Sr zS) fun _ => ?_
 refine JL_freeze (t := 8) (Sel.take (Sel.none _)) Frz.box ?_
 refine JL_nil (Jr (Jm rfl (Js rfl (step_nilCheck Sr) (Js rfl (step_fieldAddr_own so116W Sr rfl) ?_))))
 refine Js rfl (step_load_fld ty114V116 Sr rfl zS) ?_
 refine Jm rfl (Jm rfl ?_)
 refine Js rfl (step_indexAddr_own (i := hh) underlying114 ty121 Sr zS Sr (by rfl) (by exact hhl)) ?_
 refine Js rfl (step_fieldAddr_elem (i := hh) so121 Sr rfl zS (by exact hhl)) ?_
 refine Ju (step_store_elemfld (R := rInt) (i := hh) (y := (nth L hh)) (y' := { nth L hh with To := (lo : Int) }) ty3 Sr Sr zS (gb (by exact hhl)) (by exact ⟨rfl, ⟨rfl, ⟨fun _ _ q => q, rfl, by intro g hg; simp only [List.mem_cons, List.not_mem_nil, or_false] at hg; rcases hg with rfl | rfl <;> rfl⟩⟩⟩)) fun _ => ?_
 refine JL_nil (J_seq ?_)
 have hab : absP (L.set hh { nth L hh with To := (lo : Int) }) = lnkM (absP L) lo hh := by rw [abs_set]; unfold lnkM; rw [abs_nth hhl]; rfl
 refine K_lsub (L' := [bldR b sc vt vp vf2 ((⟨lnkM (absP L) lo hh, (if i = k then F ++ [(i : Int)] else F), T, SS, bad⟩ : Bst).bad), own 121 rPlace vp (L.set hh { nth L hh with To := (lo : Int) }), own 3 rInt vf2 (if i = k then F ++ [(i : Int)] else F), own 3 rInt vt T]) (zL) ?_
 refine K_lsub (L' := [rbS b sc ⟨lnkM (absP L) lo hh, (if i = k then F ++ [(i : Int)] else F), T, SS, bad⟩]) (LSub.rb hab) ?_
 refine J_region (Js rfl (step_fieldAddr so121 Sr rfl) (Jl rfl ty4 Sr (JL_nil ?_)))
 refine J_cond Sr (fun h53 => ?_) (fun h53 => ?_)
 ·
  try simp only [NF] at h53
  refine J_region (Jm rfl (Jm rfl (Js rfl (step_fieldAddr so121 Sr rfl) (Jl rfl ty87 Sr ?_))))
  refine Jx rfl (step_call (Sel.take (Sel.none _)) (rfix_spec b sc ⟨lnkM (absP L) lo hh, (if i = k then F ++ [(i : Int)] else F), T, SS, bad⟩ hlnk lo (by show _ < (lnkM _ _ _).length; rw [lnk_len, abs_len]; exact hll) (nth L hh).Const) ⟨Sr, Sr, Sr, trivial⟩ call193) fun v58 => ?_
  refine JL_nil ?_
  have hB : (rbindS ⟨absP L, F, T, SS, bad⟩ i k) = fixS ⟨lnkM (absP L) lo hh, (if i = k then F ++ [(i : Int)] else F), T, SS, bad⟩ lo (nth L hh).Const := by
   have ef : (nth (absP L) hh).fixed = true := by rw [abs_nth hhl]; exact h53
   have ev : (nth (absP L) hh).value = (nth L hh).Const := by rw [abs_nth hhl]; rfl
   rcases hsw with ⟨q, rfl, rfl⟩ | ⟨q, rfl, rfl⟩
   ·
    unfold rbindS bindS; rw [if_pos q, if_neg htne, if_pos ef, ev]
   unfold rbindS bindS; rw [if_neg q, if_neg fun z => htne z.symm, if_pos ef, ev]
   have hik : ¬ i = k := fun z => htne (by rw [z])
   rw [if_neg hik, if_neg fun z => hik z.symm]
  refine K_lsub (L' := [rbS b sc (rbindS ⟨absP L, F, T, SS, bad⟩ i k)]) (.c zS (SPs.of (A := rbS b sc (fixS ⟨lnkM (absP L) lo hh, (if i = k then F ++ [(i : Int)] else F), T, SS, bad⟩ lo (nth L hh).Const)) (by rw [hB])) (LSub.nil)) ?_
  refine K_end0 rfl () Sr
 try simp only [NF] at h53
 refine J_skip ?_
 have hB : (rbindS ⟨absP L, F, T, SS, bad⟩ i k) = ⟨lnkM (absP L) lo hh, (if i = k then F ++ [(i : Int)] else F), T, SS, bad⟩ := by
  have ef : ¬ (nth (absP L) hh).fixed = true := by rw [abs_nth hhl]; show ¬ (nth L hh).Fixed = true; rw [h53]; simp
  rcases hsw with ⟨q, rfl, rfl⟩ | ⟨q, rfl, rfl⟩
  ·
   unfold rbindS bindS; rw [if_pos q, if_neg htne, if_neg ef]
  unfold rbindS bindS; rw [if_neg q, if_neg fun z => htne z.symm, if_neg ef]
  have hik : ¬ i = k := fun z => htne (by rw [z])
  rw [if_neg hik, if_neg fun z => hik z.symm]
 refine K_lsub (L' := [rbS b sc (rbindS ⟨absP L, F, T, SS, bad⟩ i k)]) (.c zS (SPs.of (A := rbS b sc ⟨lnkM (absP L) lo hh, (if i = k then F ++ [(i : Int)] else F), T, SS, bad⟩) (by rw [hB])) (LSub.nil)) ?_
 refine K_end0 rfl () Sr
set_option maxHeartbeats 2000000 in
theorem ralone_spec (sc : GSchema) (vt vf : Value) (bad : Bool) (L : List GPlace) (h : POk (absP L)) (hl : L.length ≤ 1000000000) (i : Nat) (hi : i < L.length) : Fun1 prog 68 [tPtr rBuilderP ⟨sc, vt, L, vf, bad⟩, tV (.int .i64 i)] (tV (.bool (aloneM (absP L) i))) := by
 refine Spec.enter func68 rfl rfl fun h0 w0 fr0 => ?_
 have hi2 : i < (absP L).length := by rw [abs_len]; exact hi
 have htl := h.top_lt hi2
 rw [abs_len] at htl
 refine Jr (Ja rfl (JL_nil (J_seq (Jr (Ja rfl ?_)))))
 refine JL_nil (J_block ?_)
 refine J_loopL (σ := Nat) (fun k => k ≤ L.length ∧ ∀ j, j < k → ¬ (j ≠ i ∧ topM (absP L) j = topM (absP L) i)) (fun k => upd (upd (upd env0 0 (tPtr rBuilderP ⟨sc, vt, L, vf, bad⟩)) 1 (tV (.int .i64 i))) 5 (tV (.int .i64 k))) (fun k => []) (fun k => L.length - k) 0 ⟨by omega, fun j hj => by omega⟩ (zU) (LSub.rfl) ?_
 rintro k ⟨hk, hv⟩
 refine J_seq (Jr (Jm rfl (Jm rfl (Js rfl (step_nilCheckP Sr) (Js rfl (step_fieldAddr so116P Sr rfl) ?_)))))
 refine Jl rfl ty114 Sr (Js rfl (step_len_sl underlying114 Sr) (Js rfl (step_lss Sr Sr) (JL_nil ?_)))
 refine J_cond Sr (fun h12 => ?_) (fun h12 => ?_)
 ·
  try simp only [NF] at h12
  have hlt : k < L.length := by omega
  refine J_skip (J_seq (J_block (Jr (Jm rfl (Jm rfl ?_)))))
  refine Js rfl (step_neq Sr Sr) (Jm rfl ?_)
  refine Jk rfl Sr rfl (step_move Sr) ?_
  refine Jk rfl Sr rfl (step_move Sr) ?_
  refine Jg rfl Sr rfl (fun hw => step_call0 (rtop_spec sc vt vf bad L h k hlt) ⟨(Sub.w hw), (Sub.w hw), trivial⟩ call70) ?_
  refine Jk rfl Sr rfl (step_move Sr) ?_
  refine Jk rfl Sr rfl (step_move Sr) ?_
  refine Jg rfl Sr rfl (fun hw => step_call0 (rtop_spec sc vt vf bad L h i hi) ⟨(Sub.w hw), (Sub.w hw), trivial⟩ call70) (Jg rfl Sr rfl (fun hw => step_eql (Sub.w hw) (Sub.w hw)) (Js rfl (step_pick_and Sr Sr) (JL_nil ?_)))
  refine J_cond Sr (fun h26 => ?_) (fun h26 => ?_)
  ·
   try simp only [NF] at h26
   refine Jr (Ja rfl (JL_nil (J_ret ?_)))
   refine K_retv (rv := .tmp 4) rfl () (.tmp Sr) (Sub.bool ?_)
   exact (alone_f hi2 (by rw [abs_len]; exact hlt) ⟨by omega, by omega⟩).symm
  try simp only [NF] at h26
  refine J_skip (J_region (Jm rfl (Js rfl (step_add Sr Sr z6) (Ja rfl (JL_nil ?_)))))
  refine K_againL (σ := Nat) (s := k) (k + 1) zO ?_ (zU) (LSub.rfl)
  refine ⟨by omega, fun j hj => ?_⟩
  by_cases e : j = k
  ·
   rw [e]; rintro ⟨q1, q2⟩; rcases h26 with q | q
   ·
    omega
   omega
  exact hv j zG
 try simp only [NF] at h12
 have hall := alone_t hi2 (fun k hk => hv k (by rw [abs_len] at hk; omega))
 refine J_exit (J_seq ?_)
 refine J_draw [⟨0, [0], true⟩, ⟨1, [27], true⟩, ⟨2, [28], true⟩, ⟨3, [29], true⟩, ⟨4, [0], true⟩, ⟨5, [1], true⟩, ⟨6, [31, 32], true⟩, ⟨7, [30, 33], true⟩, ⟨8, [34], true⟩, ⟨9, [35], true⟩, ⟨10, [36], true⟩, ⟨11, [37], true⟩] rfl (by kernel_rfl) ?_
 refine Mv rfl rfl (Mf rfl rfl (step_nilCheckP Sr) (Mf rfl rfl (step_fieldAddr so116P Sr rfl) (Mf rfl rfl (step_load_ptr ty114 Sr) (Mv rfl rfl (Mv rfl rfl ?_)))))
 refine Mf rfl rfl (step_call0 (rtop_spec sc vt vf bad L h i hi) ⟨Sr, Sr, trivial⟩ call70) ?_
 refine Mf rfl rfl (step_indexAddr_sl (i := (topM (absP L) i)) underlying114 ty121 Sr Sr (by rfl) (gb (by exact htl))) ?_
 refine Mf rfl rfl (step_fieldAddr so121 Sr rfl) (Mf rfl rfl (step_load_ptr ty4 Sr) (Mf rfl rfl (step_not Sr) (Mf rfl rfl (step_assign Sr) (JM_nil (J_ret ?_)))))
 refine K_retv (rv := .tmp 4) rfl () (.tmp Sr) (Sub.bool ?_)
 rw [hall, abs_nth htl]; rfl
open Go Go.Proofs Go.Proofs.Tryz
def newR (n a k : Nat) : List GPlace := (List.range k).map fun (j : Nat) => (⟨(a : Int), (j : Int), ((n + j : Nat) : Int), ⟨0, 0, ⟨#[]⟩⟩, false⟩ : GPlace)
theorem newR_abs (n a k : Nat) : absP (newR n a k) = newPl n k := by simp [absP, newR, newPl, abs1]
theorem newR_len (n a k : Nat) : (newR n a k).length = k := by simp [newR]
theorem newR_snoc (n a k : Nat) : newR n a (k + 1) = newR n a k ++ [⟨(a : Int), (k : Int), ((n + k : Nat) : Int), ⟨0, 0, ⟨#[]⟩⟩, false⟩] := by simp [newR, List.range_succ]
theorem any_flip (l : List Int) (a : Int) : (l.any fun x => decide (x = a)) = l.any fun x => decide (a = x) := by
  congr 1; funext x; rw [decide_eq_decide]; exact eq_comm
theorem any_take {l : List Int} {i : Nat} (h : i < l.length) (a : Int) : ((l.take (i + 1)).any fun x => decide (x = a)) = (((l.take i).any fun x => decide (x = a)) || decide (nth l i = a)) := by
  rw [takeB h, List.any_append]; simp
/-- A builder whose schema is read. -/
def fsBuilderS : List (SF GBuilderW) := [⟨List GTable, 39, rSl rTable, fun x => x.S.Tables⟩, ⟨Value, 36, rV, GBuilderW.Tables⟩, ⟨Value, 114, rV, GBuilderW.Places⟩, ⟨Value, 36, rV, GBuilderW.Self⟩, ⟨Bool, 4, rBool, GBuilderW.Bad⟩]
abbrev bldRS (b : Nat) (B : GBuilderW) : SP := box b 116 (rStruct fsBuilderS) B
theorem SPs.toRS {b : Nat} {B : GBuilderW} : SPs (box b 116 rBuilderW B) (bldRS b B) := fun h m ⟨cs, r, e⟩ => ⟨cs, by
  obtain ⟨c0, _, rfl, ⟨d0, _, rfl, r0, rz⟩, rest⟩ := r
  rw [show _ = [] from rz, List.append_nil]
  exact ⟨d0, _, _root_.rfl, r0, rest⟩, e⟩
theorem SPs.ofRS {b : Nat} {B : GBuilderW} : SPs (bldRS b B) (box b 116 rBuilderW B) := fun h m ⟨cs, r, e⟩ => ⟨cs, by
  obtain ⟨c0, _, rfl, r0, rest⟩ := r
  exact ⟨c0, _, _root_.rfl, ⟨c0, [], by rw [List.append_nil], r0, _root_.rfl⟩, rest⟩, e⟩
set_option maxHeartbeats 1000000 in
theorem rorder_spec (t : GTable) (hk : t.Key.length ≤ 1000) (ha : t.Attrs.length ≤ 1000) : Fun1 prog 69 [rTable.ty t] (tSl rInt (colsK t)) := by
 refine Spec.enter func69 rfl rfl fun h0 w0 fr0 => ?_
 refine Jr (Js rfl (step_box (R := rTable) Sr) (Ja rfl (JL_nil (Jr ?_))))
 refine Jx rfl (step_literal_own (ys := []) underlying36 el3 trivial rfl (by decide)) fun u7 => ?_
 refine Js rfl (step_fieldAddr so76 Sr rfl) (Jl rfl ty36 Sr ?_)
 refine Jx rfl (step_append underlying36 el3 Sr Sr zS (by simp; omega) (by simp; omega)) fun v10 => ?_
 refine Ja rfl (JL_nil ?_)
 refine K_lsub (L' := [own 3 rInt v10 (colsJ t 0)]) (.c zS (SPs.of (A := own 3 rInt v10 ([] ++ t.Key)) (by rw [colsJ_zero]; rfl)) (LSub.nil)) ?_
 refine J_seq (Jr (Ja rfl (JL_nil (J_block ?_))))
 refine J_loopL (σ := Nat × Value) (fun ⟨j, v⟩ => j ≤ t.Attrs.length) (fun ⟨j, v⟩ => upd (upd (upd (upd env0 1 (tPtr rTable t)) 2 (tV (.slice none 0 0))) 3 (rV.ty v)) 4 (tV (.int .i64 j))) (fun ⟨j, v⟩ => [own 3 rInt v (colsJ t j)]) (fun ⟨j, v⟩ => t.Attrs.length - j) (0, v10) (by exact Nat.zero_le _) (zU) (LSub.rfl) ?_
 rintro ⟨j, v⟩ hj
 try dsimp only at hj
 refine J_seq (Jr (Jm rfl (Js rfl (step_fieldAddr so76 Sr rfl) (Jl rfl ty44 Sr (Js rfl (step_len_sl underlying44 Sr) ?_)))))
 refine Js rfl (step_lss Sr Sr) (JL_nil ?_)
 refine J_cond Sr (fun h15 => ?_) (fun h15 => ?_)
 ·
  try simp only [NF] at h15
  have hlt : j < t.Attrs.length := by omega
  have hcl := colsJ_len t j
  refine J_skip (J_seq (J_block (Jr (Ja rfl (JL_nil ?_)))))
  refine J_seq (Jr (Ja rfl (JL_nil (J_block ?_))))
  refine J_loopL (σ := Nat) (fun k => k ≤ t.Key.length) (fun k => upd (upd (upd (upd (upd (upd env0 1 (tPtr rTable t)) 2 (tV (.slice none 0 0))) 3 (rV.ty v)) 4 (tV (.int .i64 j))) 5 (tV (.bool ((t.Key.take k).any fun x => decide (x = (j : Int)))))) 6 (tV (.int .i64 k))) (fun k => [own 3 rInt v (colsJ t j)]) (fun k => t.Key.length - k) 0 zG (.u (SubE.upd (Sub.bool (by simp)) (zU))) (LSub.rfl) ?_
  rintro k hkl
  refine J_seq (Jr (Jm rfl (Js rfl (step_fieldAddr so76 Sr rfl) (Jl rfl ty36 Sr (Js rfl (step_len_sl underlying36 Sr) ?_)))))
  refine Js rfl (step_lss Sr Sr) (JL_nil ?_)
  refine J_cond Sr (fun h22 => ?_) (fun h22 => ?_)
  ·
   try simp only [NF] at h22
   have hkt : k < t.Key.length := by omega
   have hat := any_take hkt (j : Int)
   refine J_skip (J_seq (J_block (J_region (Jm rfl (Jm rfl ?_)))))
   refine Jk rfl Sr rfl (step_fieldAddr so76 Sr rfl) ?_
   refine Jg rfl Sr rfl (fun hw => step_load_ptr ty36 (Sub.w hw)) ?_
   refine Jk rfl Sr rfl (step_move Sr) ?_
   refine Jg rfl Sr rfl (fun hw => step_indexAddr_sl (i := k) underlying36 ty3 (Sub.w hw) (Sub.w hw) (by rfl) (gb (by have hwq := hw; (try simp only [beqB_t, beqB_f, NF] at hwq); exact hkt))) ?_
   refine Jg rfl Sr rfl (fun hw => step_load_ptr ty3 (Sub.w hw)) ?_
   refine Jk rfl Sr rfl (step_move Sr) ?_
   refine Jg rfl Sr rfl (fun hw => step_eql (Sub.w hw) (Sub.w hw)) (Js rfl (step_pick_or Sr Sr) (Ja rfl (JL_nil (J_region (Jm rfl ?_)))))
   refine Js rfl (step_add Sr Sr z6) (Ja rfl (JL_nil ?_))
   refine K_againL (σ := Nat) (s := k) (k + 1) zO zG (.u (SubE.upd (Sub.bool hat.symm) (zU))) (LSub.rfl)
  try simp only [NF] at h22
  obtain rfl : k = t.Key.length := by omega
  refine J_exit (Jr (Jm rfl (Js rfl (step_not Sr) (JL_nil ?_))))
  refine J_cond Sr (fun h36 => ?_) (fun h36 => ?_)
  ·
   try simp only [NF] at h36
   rw [List.take_length, any_flip] at h36
   refine J_region (Jm rfl (Jm rfl ?_))
   refine Js rfl (step_literal (ys := [_]) underlying36 el3 ⟨rfl, Sr, trivial⟩ rfl (by decide)) ?_
   refine Jx rfl (step_append underlying36 el3 Sr Sr zS (by simp; omega) (by simp; omega)) fun v40 => ?_
   refine Ja rfl (JL_nil (J_region (Jm rfl (Js rfl (step_add Sr Sr z6) (Ja rfl ?_)))))
   refine JL_nil ?_
   refine K_againL (σ := Nat × Value) (s := (j, v)) (j + 1, v40) zO (by show j + 1 ≤ _; omega) (zU) (.c zS (SPs.of (A := own 3 rInt v40 (colsJ t j ++ [(j : Int)])) (by rw [colsJ_out h36])) (LSub.nil))
  try simp only [NF] at h36
  rw [List.take_length, any_flip] at h36
  refine J_skip (J_region (Jm rfl (Js rfl (step_add Sr Sr z6) (Ja rfl (JL_nil ?_)))))
  refine K_againL (σ := Nat × Value) (s := (j, v)) (j + 1, v) zO (by show j + 1 ≤ _; omega) (zU) (.c zS (SPs.of (A := own 3 rInt v (colsJ t j)) (by rw [colsJ_in h36])) (LSub.nil))
 try simp only [NF] at h15
 obtain rfl : j = t.Attrs.length := by omega
 refine J_exit (Jr (Jm rfl (Ja rfl (JL_nil (J_ret ?_)))))
 refine K_lsub (L' := [own 3 rInt v (colsK t)]) (.c zS (SPs.of (A := own 3 rInt v (colsJ t t.Attrs.length)) (by rw [colsJ_all])) (LSub.nil)) ?_
 refine K_ret1' (rv := .tmp 2) rfl () (Sel.take (Sel.none _)) (.tmp Sr) Frz.own
set_option maxHeartbeats 4000000 in
theorem rtest_spec (b : Nat) (sc : GSchema) (s : Bst) (h : POk s.P) (hF : s.F.length ≤ 1000000000) (t : GTest) (cols : List Int) (hcb : ∀ c ∈ cols, 0 ≤ c ∧ c < s.P.length) (ht : testOk t cols.length = true) : Spec (X := Unit) prog 122 [tAt b 0, rTest.ty t, tSl rInt cols] ([rbS b sc s]) (fun _ => tTup []) (fun _ => [rbS b sc (requalS s t cols)]) := by
 refine Spec.enter func122 rfl rfl fun h0 w0 fr0 => ?_
 have hside := test_sides ht
 have hnl := fun (q : t.Left.Var ≠ -1) => col_in hcb (side_col hside.1 q)
 have hnr := fun (q : t.Right.Var ≠ -1) => col_in hcb (side_col hside.2.1 q)
 refine Jr (Js rfl (step_box (R := rTest) Sr) (JL_nil (J_seq (Jr (Js rfl (step_fieldAddr so93 Sr rfl) ?_)))))
 refine Jl rfl ty3 Sr (Js rfl (step_neq Sr Sr) (Jm rfl ?_))
 refine Jk rfl Sr rfl (step_fieldAddr so93 Sr rfl) ?_
 refine Jg rfl Sr rfl (fun hw => step_load_ptr ty3 (Sub.w hw)) (Jg rfl Sr rfl (fun hw => step_neq (Sub.w hw) Sr) (Js rfl (step_pick_or Sr Sr) (JL_nil ?_)))
 refine J_cond Sr (fun h13 => ?_) (fun h13 => ?_)
 ·
  try simp only [NF] at h13
  refine J_seq ?_
  refine K_rb fun vt vp vf L hL => ?_
  refine J_region (Jm rfl (Js rfl (step_nilCheck Sr) (Js rfl (step_fieldAddr_own so116W Sr rfl) ?_)))
  refine Ju (step_store_fld (R := rBool) (y' := (⟨sc, vt, vp, vf, true⟩ : GBuilderW)) ty4 Sr Sr zS (by exact ⟨rfl, ⟨rfl, ⟨rfl, ⟨rfl, ⟨fun _ _ q => q, rfl, by intro g hg; cases hg⟩⟩⟩⟩⟩)) fun _ => ?_
  refine JL_nil (J_ret ?_)
  have hE : requalS s t cols = { s with bad := true } := by unfold requalS; rw [if_pos zG]
  refine K_lsub (L' := [rbS b sc { s with bad := true }]) (LSub.rb (s := { s with bad := true }) hL) ?_
  refine K_lsub (L' := [rbS b sc (requalS s t cols)]) (.c zS (SPs.of (A := rbS b sc { s with bad := true }) (by rw [hE])) (LSub.nil)) ?_
  refine K_ret0 rfl () Sr
 try simp only [NF] at h13
 have h13b : ¬ (t.Op ≠ 1 ∨ t.Add ≠ 0) := by omega
 refine J_skip (Jr (Js rfl (step_fieldAddr so93 Sr rfl) (Js rfl (step_fieldAddr so91 Sr rfl) (Jl rfl ty3 Sr (Js rfl (step_eql Sr Sr) ?_)))))
 refine JL_nil ?_
 refine J_cond Sr (fun h20 => ?_) (fun h20 => ?_)
 ·
  try simp only [NF] at h20
  have hrv : t.Right.Var ≠ -1 := by have := hside.2.2; omega
  obtain ⟨hr1, hr2, hr3, hr4⟩ := hnr hrv
  refine J_draw [⟨0, [0], true⟩, ⟨1, [2], true⟩, ⟨2, [4], true⟩, ⟨3, [23], true⟩, ⟨4, [24], true⟩, ⟨5, [22, 25], true⟩, ⟨6, [26], true⟩, ⟨7, [4], true⟩, ⟨8, [28], true⟩, ⟨9, [29], true⟩, ⟨10, [21, 27, 30], false⟩] rfl (by kernel_rfl) ?_
  refine Mv rfl rfl (Mv rfl rfl (Mf rfl rfl (step_fieldAddr so93 Sr rfl) (Mf rfl rfl (step_fieldAddr so91 Sr rfl) (Mf rfl rfl (step_load_ptr ty3 Sr) ?_))))
  refine Mf rfl rfl (step_indexAddr_sl (i := t.Right.Col.toNat) underlying36 ty3 Sr Sr (by show t.Right.Col = _; omega) (gb (by exact hr2))) ?_
  refine Mf rfl rfl (step_load_ptr ty3 Sr) (Mf rfl rfl (step_fieldAddr so93 Sr rfl) (Mf rfl rfl (step_fieldAddr so91 Sr rfl) (Mf rfl rfl (step_load_ptr ty87 Sr) ?_)))
  refine JM_stepX rfl rfl rfl rfl (step_call (Sel.take (Sel.none _)) (rfix_spec b sc s h (colAt cols t.Right.Col) zG t.Left.Value) ⟨Sr, Sub.int (by unfold colAt; omega), Sr, trivial⟩ call193) fun v31 => ?_
  refine JM_nil ?_
  have hE : requalS s t cols = fixS s (colAt cols t.Right.Col) t.Left.Value := by unfold requalS; rw [if_neg h13b, if_pos h20]
  refine K_lsub (L' := [rbS b sc (requalS s t cols)]) (.c zS (SPs.of (A := rbS b sc (fixS s (colAt cols t.Right.Col) t.Left.Value)) (by rw [hE])) (LSub.nil)) ?_
  refine K_end0 rfl () Sr
 try simp only [NF] at h20
 obtain ⟨hl1, hl2, hl3, hl4⟩ := hnl zG
 refine Jr (Js rfl (step_fieldAddr so93 Sr rfl) (Js rfl (step_fieldAddr so91 Sr rfl) (Jl rfl ty3 Sr (Js rfl (step_eql Sr Sr) (JL_nil ?_)))))
 refine J_cond Sr (fun h35 => ?_) (fun h35 => ?_)
 ·
  try simp only [NF] at h35
  refine J_draw [⟨0, [0], true⟩, ⟨1, [2], true⟩, ⟨2, [4], true⟩, ⟨3, [38], true⟩, ⟨4, [39], true⟩, ⟨5, [37, 40], true⟩, ⟨6, [41], true⟩, ⟨7, [4], true⟩, ⟨8, [43], true⟩, ⟨9, [44], true⟩, ⟨10, [36, 42, 45], false⟩] rfl (by kernel_rfl) ?_
  refine Mv rfl rfl (Mv rfl rfl (Mf rfl rfl (step_fieldAddr so93 Sr rfl) (Mf rfl rfl (step_fieldAddr so91 Sr rfl) (Mf rfl rfl (step_load_ptr ty3 Sr) ?_))))
  refine Mf rfl rfl (step_indexAddr_sl (i := t.Left.Col.toNat) underlying36 ty3 Sr Sr (by show t.Left.Col = _; omega) (gb (by exact hl2))) ?_
  refine Mf rfl rfl (step_load_ptr ty3 Sr) (Mf rfl rfl (step_fieldAddr so93 Sr rfl) (Mf rfl rfl (step_fieldAddr so91 Sr rfl) (Mf rfl rfl (step_load_ptr ty87 Sr) ?_)))
  refine JM_stepX rfl rfl rfl rfl (step_call (Sel.take (Sel.none _)) (rfix_spec b sc s h (colAt cols t.Left.Col) zG t.Right.Value) ⟨Sr, Sub.int (by unfold colAt; omega), Sr, trivial⟩ call193) fun v46 => ?_
  refine JM_nil ?_
  have hE : requalS s t cols = fixS s (colAt cols t.Left.Col) t.Right.Value := by unfold requalS; rw [if_neg h13b, if_neg h20, if_pos h35]
  refine K_lsub (L' := [rbS b sc (requalS s t cols)]) (.c zS (SPs.of (A := rbS b sc (fixS s (colAt cols t.Left.Col) t.Right.Value)) (by rw [hE])) (LSub.nil)) ?_
  refine K_end0 rfl () Sr
 try simp only [NF] at h35
 obtain ⟨hr1, hr2, hr3, hr4⟩ := hnr zG
 refine J_draw [⟨0, [0], true⟩, ⟨1, [2], true⟩, ⟨2, [4], true⟩, ⟨3, [49], true⟩, ⟨4, [50], true⟩, ⟨5, [48, 51], true⟩, ⟨6, [52], true⟩, ⟨7, [2], true⟩, ⟨8, [4], true⟩, ⟨9, [55], true⟩, ⟨10, [56], true⟩, ⟨11, [54, 57], true⟩, ⟨12, [58], true⟩, ⟨13, [47, 53, 59], false⟩] rfl (by kernel_rfl) ?_
 refine Mv rfl rfl (Mv rfl rfl (Mf rfl rfl (step_fieldAddr so93 Sr rfl) (Mf rfl rfl (step_fieldAddr so91 Sr rfl) (Mf rfl rfl (step_load_ptr ty3 Sr) ?_))))
 refine Mf rfl rfl (step_indexAddr_sl (i := t.Left.Col.toNat) underlying36 ty3 Sr Sr (by show t.Left.Col = _; omega) (gb (by exact hl2))) ?_
 refine Mf rfl rfl (step_load_ptr ty3 Sr) (Mv rfl rfl (Mf rfl rfl (step_fieldAddr so93 Sr rfl) (Mf rfl rfl (step_fieldAddr so91 Sr rfl) (Mf rfl rfl (step_load_ptr ty3 Sr) ?_))))
 refine Mf rfl rfl (step_indexAddr_sl (i := t.Right.Col.toNat) underlying36 ty3 Sr Sr (by show t.Right.Col = _; omega) (gb (by exact hr2))) ?_
 refine Mf rfl rfl (step_load_ptr ty3 Sr) ?_
 refine JM_stepX rfl rfl rfl rfl (step_call (Sel.take (Sel.none _)) (rbind_spec b sc s h hF (colAt cols t.Left.Col) (colAt cols t.Right.Col) zG zG) ⟨Sr, Sub.int (by unfold colAt; omega), Sub.int (by unfold colAt; omega), trivial⟩ call124) fun v60 => ?_
 refine JM_nil ?_
 have hE : requalS s t cols = rbindS s (colAt cols t.Left.Col) (colAt cols t.Right.Col) := by unfold requalS; rw [if_neg h13b, if_neg h20, if_neg h35]
 refine K_lsub (L' := [rbS b sc (requalS s t cols)]) (.c zS (SPs.of (A := rbS b sc (rbindS s (colAt cols t.Left.Col) (colAt cols t.Right.Col))) (by rw [hE])) (LSub.nil)) ?_
 refine K_end0 rfl () Sr
set_option maxHeartbeats 4000000 in
theorem rtable_spec (b : Nat) (sc : GSchema) (s : Bst) (tb : Int) (ht : 0 ≤ tb ∧ tb < sc.Tables.length) (ha : (nth sc.Tables tb.toNat).Attrs.length ≤ 12) (hP : s.P.length ≤ 100000000) (hT : s.T.length ≤ 100000000) : Spec (X := Unit) prog 121 [tAt b 0, tV (.int .i64 tb)] ([rbS b sc s]) (fun _ => tSl rInt (newIx s.P.length (nth sc.Tables tb.toNat).Attrs.length)) (fun _ => [rbS b sc (tableS sc s tb)]) := by
 refine Spec.enter func121 rfl rfl fun h0 w0 fr0 => ?_
 obtain ⟨P, F, T, SS, bad⟩ := s
 refine K_rb fun vt vp vf L hL => ?_
 obtain rfl : P = absP L := hL.symm
 have hP : (absP L).length ≤ 100000000 := hP
 have hT : T.length ≤ 100000000 := hT
 rw [abs_len] at hP
 refine Jr (Ja rfl (JL_nil (J_seq (Jr (Ja rfl ?_)))))
 refine JL_nil (J_block ?_)
 refine J_loopL (σ := Nat) (fun i => i ≤ T.length) (fun i => upd (upd (upd (upd env0 0 (tAt b 0)) 1 (tV (.int .i64 tb))) 4 (tV (.slice none 0 0))) 5 (tV (.int .i64 i))) (fun i => [bldR b sc vt vp vf (bad || ((T.take i).any fun x => decide (x = tb))), own 121 rPlace vp L, own 3 rInt vf F, own 3 rInt vt T]) (fun i => T.length - i) 0 zG (zU) (.c zS (SPs.of (A := bldR b sc vt vp vf (bad)) (by simp)) (zL)) ?_
 rintro i hil
 refine J_seq (Jr (Jm rfl (Jm rfl (Js rfl (step_nilCheck Sr) (Js rfl (step_fieldAddr_own so116W Sr rfl) ?_)))))
 refine Js rfl (step_load_fld ty36V116 Sr rfl zS) ?_
 refine Js rfl (step_len_own underlying36 Sr zS) ?_
 refine Js rfl (step_lss Sr Sr) (JL_nil ?_)
 refine J_cond Sr (fun h15 => ?_) (fun h15 => ?_)
 ·
  try simp only [NF] at h15
  have hlt : i < T.length := by omega
  have hat := any_take hlt tb
  refine J_skip (J_seq (J_block (Jr (Jm rfl (Js rfl (step_nilCheck Sr) ?_)))))
  refine Js rfl (step_fieldAddr_own so116W Sr rfl) ?_
  refine Js rfl (step_load_fld ty36V116 Sr rfl zS) ?_
  refine Jm rfl ?_
  refine Js rfl (step_indexAddr_own (i := i) underlying36 ty3 Sr zS Sr (by rfl) (by exact hlt)) ?_
  refine Js rfl (step_load_own ty3 Sr zS (gb (by first | assumption | omega))) ?_
  refine Jm rfl (Js rfl (step_eql Sr Sr) (JL_nil ?_))
  refine J_cond Sr (fun h26 => ?_) (fun h26 => ?_)
  ·
   try simp only [NF] at h26
   refine J_region (Jm rfl (Js rfl (step_nilCheck Sr) (Js rfl (step_fieldAddr_own so116W Sr rfl) ?_)))
   refine Ju (step_store_fld (R := rBool) (y' := (⟨sc, vt, vp, vf, true⟩ : GBuilderW)) ty4 Sr Sr zS (by exact ⟨rfl, ⟨rfl, ⟨rfl, ⟨rfl, ⟨fun _ _ q => q, rfl, by intro g hg; cases hg⟩⟩⟩⟩⟩)) fun _ => ?_
   refine JL_nil (J_region (Jm rfl (Js rfl (step_add Sr Sr z6) (Ja rfl (JL_nil ?_)))))
   refine K_againL (σ := Nat) (s := i) (i + 1) zO zG (zU) (.c zS (SPs.of (A := bldR b sc vt vp vf (true)) (by rw [hat, decide_eq_true (show nth T i = tb from h26)]; simp)) (zL))
  try simp only [NF] at h26
  refine J_skip (J_region (Jm rfl (Js rfl (step_add Sr Sr z6) (Ja rfl (JL_nil ?_)))))
  refine K_againL (σ := Nat) (s := i) (i + 1) zO zG (zU) (.c zS (SPs.of (A := bldR b sc vt vp vf (bad || ((T.take i).any fun x => decide (x = tb)))) (by rw [hat, decide_eq_false (show ¬ nth T i = tb from h26)]; simp)) (zL))
 try simp only [NF] at h15
 obtain rfl : i = T.length := by omega
 refine J_exit (Jr (Ja rfl (JL_nil (J_seq (Jr ?_)))))
 refine Ja rfl (JL_nil (J_block ?_))
 refine J_loopL (σ := Nat × Value × Value) (fun ⟨c, vo, vp⟩ => c ≤ (nth sc.Tables tb.toNat).Attrs.length) (fun ⟨c, vo, vp⟩ => upd (upd (upd (upd (upd env0 0 (tAt b 0)) 1 (tV (.int .i64 tb))) 4 (tV (.slice none 0 0))) 6 (rV.ty vo)) 7 (tV (.int .i64 c))) (fun ⟨c, vo, vp⟩ => [bldR b sc vt vp vf (bad || (T.any fun x => decide (x = tb))), own 121 rPlace vp (L ++ newR L.length T.length c), own 3 rInt vf F, own 3 rInt vt T, own 3 rInt vo (newIx L.length c)]) (fun ⟨c, vo, vp⟩ => (nth sc.Tables tb.toNat).Attrs.length - c) (0, .slice none 0 0, vp) (by exact Nat.zero_le _) (.u (SubE.upd (Sub.rV rfl) (zU))) (LSub.trans (LSub.nilown (e := 3) (R := rInt)) (.c zS (SPs.of (A := bldR b sc vt vp vf (bad || ((T.take T.length).any fun x => decide (x = tb)))) (by rw [List.take_length])) (.c zS (SPs.of (A := own 121 rPlace vp L) (by simp [newR])) (.r zS (.r zS (.c zS (SPs.of (A := own 3 rInt (.slice none 0 0) ([] : List Int)) rfl) (LSub.nil))))))) ?_
 rintro ⟨c, vo, vp⟩ hcl
 try dsimp only at hcl
 refine J_seq (J_seq ?_)
 refine K_lsub (L' := [bldRS b ⟨sc, vt, vp, vf, bad || (T.any fun x => decide (x = tb))⟩, own 121 rPlace vp (L ++ newR L.length T.length c), own 3 rInt vf F, own 3 rInt vt T, own 3 rInt vo (newIx L.length c)]) (.c zS (SPs.toRS) (zL)) ?_
 refine J_region (Jm rfl (Jm rfl (Js rfl (step_nilCheck Sr) (Js rfl (step_fieldAddr_own so116W Sr rfl) (Js rfl (step_fieldAddr_box (o := 0) so41 Sr rfl) ?_)))))
 refine Js rfl (step_load_fld (n := 0) (fs := fsBuilderS) ty39 Sr rfl zS) ?_
 refine Jm rfl ?_
 refine Js rfl (step_indexAddr_sl (i := tb.toNat) underlying39 ty76 Sr Sr (by show tb = _; omega) (gb (by show tb.toNat < sc.Tables.length; omega))) ?_
 refine Js rfl (step_fieldAddr so76 Sr rfl) (Jl rfl ty44 Sr (Js rfl (step_len_sl underlying44 Sr) (Js rfl (step_lss Sr Sr) (JL_nil ?_))))
 refine K_lsub (L' := [bldR b sc vt vp vf (bad || (T.any fun x => decide (x = tb))), own 121 rPlace vp (L ++ newR L.length T.length c), own 3 rInt vf F, own 3 rInt vt T, own 3 rInt vo (newIx L.length c)]) (.c zS (SPs.ofRS) (zL)) ?_
 refine J_cond Sr (fun h41 => ?_) (fun h41 => ?_)
 ·
  try simp only [NF] at h41
  have hct : c < (nth sc.Tables tb.toNat).Attrs.length := by omega
  have hpl : (L ++ newR L.length T.length c).length = L.length + c := by rw [List.length_append, newR_len]
  refine J_skip (J_seq (J_block (Jr (Jm rfl (Js rfl (step_nilCheck Sr) ?_)))))
  refine Js rfl (step_fieldAddr_own so116W Sr rfl) ?_
  refine Js rfl (step_load_fld ty114V116 Sr rfl zS) ?_
  refine Js rfl (step_len_own underlying114 Sr zS) ?_
  refine Ja rfl (JL_nil (J_seq ?_))
  refine J_drawZ [bldR b sc vt vp vf (bad || (T.any fun x => decide (x = tb))), own 3 rInt vt T] [⟨0, [0], 0⟩, ⟨1, [0], 0⟩, ⟨2, [50], 0⟩, ⟨3, [51], 0⟩, ⟨4, [52], 1⟩, ⟨5, [0], 0⟩, ⟨6, [54], 0⟩, ⟨7, [55], 0⟩, ⟨8, [56], 1⟩, ⟨9, [57], 1⟩, ⟨10, [7], 0⟩, ⟨11, [8], 0⟩, ⟨12, [58, 59, 60], 0⟩, ⟨13, [61], 0⟩, ⟨15, [49], 0⟩, ⟨16, [64], 0⟩] [⟨14, [53, 62], 63, own 121 rPlace vp (L ++ newR L.length T.length c), fun v => rV.ty v, fun v => own 121 rPlace v ((L ++ newR L.length T.length c) ++ [⟨(T.length : Int), (c : Int), ((L ++ newR L.length T.length c).length : Int), ⟨0, 0, ⟨#[]⟩⟩, false⟩])⟩] [⟨17, [63, 65], 2⟩] (L := [own 3 rInt vf F, own 3 rInt vo (newIx L.length c)]) (zL) rfl (by kernel_rfl) (Nat.le_of_ble_eq_true rfl) ?_
  refine JF_step rfl rfl rfl rfl (fun _ => step_move Sr) ?_
  refine JF_step rfl rfl rfl rfl (fun _ => step_move Sr) ?_
  refine JF_step rfl rfl rfl rfl (fun _ => step_nilCheck Sr) ?_
  refine JF_step rfl rfl rfl rfl (fun _ => step_fieldAddr_own so116W Sr rfl) ?_
  refine JF_look rfl rfl rfl rfl (fun _ => step_load_fld ty114V116 Sr rfl zS) ?_
  refine JF_step rfl rfl rfl rfl (fun _ => step_move Sr) ?_
  refine JF_step rfl rfl rfl rfl (fun _ => step_nilCheck Sr) ?_
  refine JF_step rfl rfl rfl rfl (fun _ => step_fieldAddr_own so116W Sr rfl) ?_
  refine JF_look rfl rfl rfl rfl (fun _ => step_load_fld ty36V116 Sr rfl zS) ?_
  refine JF_look rfl rfl rfl rfl (fun _ => step_len_own underlying36 Sr zS) ?_
  refine JF_step rfl rfl rfl rfl (fun _ => step_move Sr) ?_
  refine JF_step rfl rfl rfl rfl (fun _ => step_move Sr) ?_
  refine JF_step rfl rfl rfl rfl (fun _ => step_build (x := (⟨(T.length : Int), (c : Int), ((L ++ newR L.length T.length c).length : Int), ⟨0, 0, ⟨#[]⟩⟩, false⟩ : GPlace)) (zs := [[Value.int .i64 0], [Value.int .i64 0], [Value.int .i64 0], [Value.int .i64 0, Value.int .i64 0, Value.string ⟨#[]⟩], [Value.bool false]]) so121 (fun w => zeroValue121 w) ⟨Sr, Sr, Sr, trivial⟩ ⟨⟨Sr, rfl⟩, ⟨Sr, rfl⟩, ⟨Sr, rfl⟩, fun _ => ⟨[Value.int .i64 0], _, rfl, rfl, ⟨[Value.int .i64 0], _, rfl, rfl, ⟨[Value.string ⟨#[]⟩], _, rfl, rfl, rfl⟩⟩⟩, fun _ => rfl, trivial⟩) ?_
  refine JF_step rfl rfl rfl rfl (fun _ => step_literal (ys := [_]) underlying114 el121 ⟨rfl, Sr, trivial⟩ rfl (by decide)) ?_
  refine JF_step rfl rfl rfl rfl (fun _ => step_nilCheck Sr) ?_
  refine JF_step rfl rfl rfl rfl (fun _ => step_fieldAddr_own so116W Sr rfl) ?_
  refine JF_nil ?_
  refine ⟨⟨_, rfl, rfl, rfl, rfl, fun _ => step_append underlying114 el121 Sr Sr zS (by rw [hpl]; simp; omega) (by rw [hpl]; simp; omega)⟩, fun v63 => ?_⟩
  refine upP_in ?_
  refine JX_stepU rfl rfl rfl (step_store_fld (R := rV) (y' := (⟨sc, vt, v63, vf, bad || (T.any fun x => decide (x = tb))⟩ : GBuilderW)) ty114V116 Sr Sr zS (by exact ⟨rfl, ⟨rfl, ⟨fun _ _ q => q, rfl, by intro g hg; simp only [List.mem_cons, List.not_mem_nil, or_false] at hg; rcases hg with rfl | rfl <;> rfl⟩⟩⟩)) fun _ => ?_
  refine JX_nil (J_region (Jm rfl (Jm rfl ?_)))
  refine Js rfl (step_literal (ys := [_]) underlying36 el3 ⟨rfl, Sr, trivial⟩ rfl (by decide)) ?_
  refine Jx rfl (step_append underlying36 el3 Sr Sr zS (by rw [newIx_len]; simp; omega) (by rw [newIx_len]; simp; omega)) fun v69 => ?_
  refine Ja rfl (JL_nil (J_region (Jm rfl (Js rfl (step_add Sr Sr z6) (Ja rfl ?_)))))
  refine JL_nil ?_
  refine K_againL (σ := Nat × Value × Value) (s := (c, vo, vp)) (c + 1, v69, v63) zO (by show c + 1 ≤ _; omega) (zU) (.r zS (.c zS (SPs.of (A := own 121 rPlace v63 ((L ++ newR L.length T.length c) ++ [⟨(T.length : Int), (c : Int), ((L ++ newR L.length T.length c).length : Int), ⟨0, 0, ⟨#[]⟩⟩, false⟩])) (by rw [newR_snoc, ← List.append_assoc, hpl])) (.r zS (.r zS (.c zS (SPs.of (A := own 3 rInt v69 (newIx L.length c ++ [((L ++ newR L.length T.length c).length : Int)])) (by rw [newIx_snoc, hpl])) (LSub.nil))))))
 try simp only [NF] at h41
 obtain rfl : c = (nth sc.Tables tb.toNat).Attrs.length := by omega
 refine J_exit (Jr (Jm rfl (Jm rfl (Js rfl (step_nilCheck Sr) (Js rfl (step_fieldAddr_own so116W Sr rfl) ?_)))))
 refine Js rfl (step_load_fld ty36V116 Sr rfl zS) ?_
 refine Jm rfl ?_
 refine Js rfl (step_literal (ys := [_]) underlying36 el3 ⟨rfl, Sr, trivial⟩ rfl (by decide)) ?_
 refine Jx rfl (step_append underlying36 el3 Sr Sr zS (by simp; omega) (by simp; omega)) fun v77 => ?_
 refine Js rfl (step_nilCheck Sr) (Js rfl (step_fieldAddr_own so116W Sr rfl) ?_)
 refine Ju (step_store_fld (R := rV) (y' := (⟨sc, v77, vp, vf, bad || (T.any fun x => decide (x = tb))⟩ : GBuilderW)) ty36V116 Sr Sr zS (by exact ⟨rfl, ⟨fun _ _ q => q, rfl, by intro g hg; simp only [List.mem_cons, List.not_mem_nil, or_false] at hg; rcases hg with rfl | rfl | rfl <;> rfl⟩⟩)) fun _ => ?_
 refine JL_nil (Jr (Jm rfl (Ja rfl (JL_nil (J_ret ?_)))))
 have hab : absP (L ++ newR L.length T.length (nth sc.Tables tb.toNat).Attrs.length) = (tableS sc ⟨absP L, F, T, SS, bad⟩ tb).P := by rw [abs_app, newR_abs]; show _ = absP L ++ newPl (absP L).length _; rw [abs_len]
 refine K_lsub (L' := [bldR b sc v77 vp vf ((tableS sc ⟨absP L, F, T, SS, bad⟩ tb).bad), own 121 rPlace vp (L ++ newR L.length T.length (nth sc.Tables tb.toNat).Attrs.length), own 3 rInt vf F, own 3 rInt v77 (T ++ [tb]), own 3 rInt vo (newIx L.length (nth sc.Tables tb.toNat).Attrs.length)]) (.c zS (SPs.of (A := bldR b sc v77 vp vf (bad || (T.any fun x => decide (x = tb)))) (by rw [any_flip]; rfl)) (zL)) ?_
 refine K_lsub (L' := [rbS b sc (tableS sc ⟨absP L, F, T, SS, bad⟩ tb), own 3 rInt vo (newIx L.length (nth sc.Tables tb.toNat).Attrs.length)]) (LSub.rb hab) ?_
 refine K_ret1' (rv := .tmp 4) rfl () (Sel.skip (Sel.take (Sel.none _))) (.tmp Sr) (Frz.own' (by show newIx L.length _ = newIx (absP L).length _; rw [abs_len]))
open Go Go.Proofs Go.Proofs.Tryz
abbrev rselI (l : List GTest) (cols : List Int) (s : Bst) (i : Nat) : Bst := (l.take i).foldl (fun s t => requalS s t cols) s
abbrev rjoinI (a b : List GAttr) (k0 k1 : List Int) (s : Bst) (i : Nat) : Bst × List Int := ((b.zip k1).take i).foldl (rjoinStep a k0 k1) (s, k0)
theorem rwalk_succ (sc : GSchema) (n : Nat) (s : Bst) (p : GPlan) : rwalkS sc (n + 1) s p = if (kidsS (rwalkS sc n) s p.Kids).1.bad = true then ((kidsS (rwalkS sc n) s p.Kids).1, [])
    else if walkable p.Kind = false then ({ (kidsS (rwalkS sc n) s p.Kids).1 with bad := true }, [])
    else ractS sc p (kidsS (rwalkS sc n) s p.Kids).1 (kidsS (rwalkS sc n) s p.Kids).2 := rfl
/-- What the reference's walk does at queries of a depth. -/
def WalkR (b : Nat) (sc : GSchema) (n : Nat) : Prop := ∀ (lv : Nat) (p : GPlan) (s : Bst), validM sc lv p = true → PlSz n p → Dep n p → BdInv sc s → s.bad = false → s.P.length + 12 * nodes n p ≤ 100000000 → s.T.length + nodes n p ≤ 100000000 → s.F.length + binds n p ≤ 1000000000 →
  Spec (X := Unit) prog 67 [tAt b 0, (rPlan n).ty p] [rbS b sc s] (fun _ => tSl rInt (rwalkS sc n s p).2) (fun _ => [rbS b sc (rwalkS sc n s p).1])
set_option maxHeartbeats 8000000 in
theorem rwalk1_spec (b : Nat) (sc : GSchema) (hs : schM sc = true) (n lv : Nat) (p : GPlan) (s : Bst) (hv : validM sc lv p = true) (hp : PlSz (n + 1) p) (hd : Dep (n + 1) p) (hi : BdInv sc s) (hb : s.bad = false) (hP : s.P.length + 12 * nodes (n + 1) p ≤ 100000000) (hT : s.T.length + nodes (n + 1) p ≤ 100000000) (hF : s.F.length + binds (n + 1) p ≤ 1000000000) (ih : WalkR b sc n) : Spec (X := Unit) prog 67 [tAt b 0, (rPlan (n + 1)).ty p] ([rbS b sc s]) (fun _ => tSl rInt (rwalkS sc (n + 1) s p).2) (fun _ => [rbS b sc (rwalkS sc (n + 1) s p).1]) := by
 refine Spec.enter func67 rfl rfl fun h0 w0 fr0 => ?_
 obtain ⟨lv', hlv, hkd, hkn, hvk, _, _⟩ := valid_in hv
 obtain ⟨z1, z2, z3, z4, z5⟩ := id hp
 have hk2 : p.Kids.length ≤ 2 := by unfold kidsN at hkn; split at hkn <;> (try split at hkn) <;> omega
 have en : nodes (n + 1) p = 1 + (p.Kids.map (nodes n)).sum := rfl
 have eb : binds (n + 1) p = p.Tests.length + (nth p.Kids 1).Attrs.length + (p.Kids.map (binds n)).sum := rfl
 have hkk : ∀ i, KOk sc n s (p.Kids.take i) (kidsS (rwalkS sc n) s (p.Kids.take i)) := fun i => kids_ok (fun q hq s' hs' => rwalk_ok hs (hd q (List.mem_of_mem_take hq)) (hvk q (List.mem_of_mem_take hq)) hs') hi
 refine K_fact 1 (fun _ _ r => plan_posP r) fun ⟨m, hm⟩ => ?_
 refine Jr (Js rfl (step_box (R := (rPlan (n + 1))) Sr) (Ja rfl (JL_nil (Jr (Ja rfl ?_)))))
 refine JL_nil (J_seq (Jr (Ja rfl (JL_nil (J_block ?_)))))
 refine J_loopL (σ := Nat × Value × List (List Int)) (fun ⟨i, v, ks⟩ => i ≤ p.Kids.length ∧ ((kidsS (rwalkS sc n) s (p.Kids.take i)).1.bad = false → ks = (kidsS (rwalkS sc n) s (p.Kids.take i)).2)) (fun ⟨i, v, ks⟩ => upd (upd (upd (upd (upd env0 0 (tAt b 0)) 3 (tPtr (rPlan (n + 1)) p)) 4 (tV (.slice none 0 0))) 5 (rV.ty v)) 6 (tV (.int .i64 i))) (fun ⟨i, v, ks⟩ => [rbS b sc (kidsS (rwalkS sc n) s (p.Kids.take i)).1, own 36 (rSl rInt) v ks]) (fun ⟨i, v, ks⟩ => p.Kids.length - i) (0, .slice none 0 0, []) ⟨by omega, fun _ => rfl⟩ (.u (SubE.upd (Sub.rV rfl) (zU))) (LSub.trans (LSub.nilown (e := 36) (R := rSl rInt)) (.c zS (SPs.of (A := rbS b sc s) rfl) (.c zS (SPs.of (A := own 36 (rSl rInt) (.slice none 0 0) ([] : List (List Int))) rfl) (LSub.nil)))) ?_
 rintro ⟨i, v, ks⟩ ⟨hil, hv2⟩
 refine J_seq (J_seq ?_)
 refine K_rb fun vt vp vf L hL => ?_
 refine J_region (Jm rfl (Js rfl (step_fieldAddr so46 Sr rfl) (Jl rfl ty42 Sr (Js rfl (step_len_sl underlying42 Sr) (Js rfl (step_lss Sr Sr) ?_)))))
 refine Jm rfl ?_
 refine Jk rfl Sr rfl (step_move Sr) ?_
 refine Jg rfl Sr rfl (fun hw => step_nilCheck (Sub.w hw)) (Jg rfl Sr rfl (fun hw => step_fieldAddr_own so116W (Sub.w hw) rfl) ?_)
 refine Jg rfl Sr rfl (fun hw => step_load_fld ty4 (Sub.w hw) rfl zS) ?_
 refine Jg rfl Sr rfl (fun hw => step_not (Sub.w hw)) (Js rfl (step_pick_and Sr Sr) (JL_nil ?_))
 refine K_lsub (LSub.rb hL) ?_
 refine J_cond Sr (fun h24 => ?_) (fun h24 => ?_)
 ·
  try simp only [NF] at h24
  obtain ⟨hlt0, hbi⟩ := h24
  have hlt : i < p.Kids.length := by omega
  have hks := hv2 hbi
  subst hks
  have hKi := hkk i
  have g1 := hKi.pm
  have g2 := hKi.fl
  have g3 := hKi.tl
  have g5 := hKi.le
  rw [List.length_take] at g5
  have g4 := sum_take (f := nodes n) hlt
  have g6 := sum_take (f := binds n) hlt
  have hsn := kids_snoc (f := rwalkS sc n) (q := (nth p.Kids i)) (l := p.Kids.take i) hb hbi
  rw [← takeB hlt] at hsn
  refine J_skip (J_seq (J_block (J_region (Jm rfl (Jm rfl ?_)))))
  refine Js rfl (step_fieldAddr so46 Sr rfl) (Jl rfl ty42 Sr (Jm rfl ?_))
  refine Js rfl (step_indexAddr_sl (i := i) underlying42 ty46 Sr Sr (by rfl) (gb (by exact hlt))) ?_
  refine Jl rfl ty46 Sr ?_
  refine Jx rfl (step_call (Sel.take (Sel.none _)) (ih lv' (nth p.Kids i) (kidsS (rwalkS sc n) s (p.Kids.take i)).1 (hvk _ (nth_mem hlt)) (z5 _ (nth_mem hlt)).1 (hd _ (nth_mem hlt)) hKi.inv hbi zG zG zG) ⟨Sr, Sr, trivial⟩ call67) fun v34 => ?_
  refine Js rfl (step_literal (ys := [_]) underlying58 el36 ⟨rfl, Sr, trivial⟩ rfl (by decide)) ?_
  refine Jx rfl (step_append underlying58 el36 Sr Sr zS (by simp; omega) (by simp; omega)) fun v36 => ?_
  refine Ja rfl (JL_nil (J_region (Jm rfl (Js rfl (step_add Sr Sr z6) (Ja rfl ?_)))))
  refine JL_nil ?_
  refine K_againL (σ := Nat × Value × List (List Int)) (s := (i, v, (kidsS (rwalkS sc n) s (p.Kids.take i)).2)) (i + 1, v36, (kidsS (rwalkS sc n) s (p.Kids.take i)).2 ++ [(rwalkS sc n (kidsS (rwalkS sc n) s (p.Kids.take i)).1 (nth p.Kids i)).2]) zO ?_ (zU) (.c zS (SPs.of (A := rbS b sc (rwalkS sc n (kidsS (rwalkS sc n) s (p.Kids.take i)).1 (nth p.Kids i)).1) (by rw [hsn])) (zL))
  refine ⟨by show i + 1 ≤ _; omega, fun hb2 => ?_⟩
  have hb3 : (rwalkS sc n (kidsS (rwalkS sc n) s (p.Kids.take i)).1 (nth p.Kids i)).1.bad = false := by rw [hsn] at hb2; exact hb2
  rw [hsn]
  show _ = if _ then _ else _
  rw [if_neg (by rw [hb3]; simp)]
 try simp only [NF] at h24
 refine J_exit (J_seq (J_seq ?_))
 refine K_rb fun vt vp vf L hL => ?_
 refine J_region (Jm rfl (Js rfl (step_nilCheck Sr) (Js rfl (step_fieldAddr_own so116W Sr rfl) ?_)))
 refine Js rfl (step_load_fld ty4 Sr rfl zS) ?_
 refine JL_nil ?_
 refine K_lsub (LSub.rb hL) ?_
 refine J_cond Sr (fun h40 => ?_) (fun h40 => ?_)
 ·
  try simp only [NF] at h40
  have hst : (kidsS (rwalkS sc n) s p.Kids) = (kidsS (rwalkS sc n) s (p.Kids.take i)) := (congrArg (kidsS (rwalkS sc n) s) (List.take_append_drop i p.Kids).symm).trans (kids_stop hb h40)
  have hW : (rwalkS sc (n + 1) s p) = ((kidsS (rwalkS sc n) s (p.Kids.take i)).1, []) := by rw [rwalk_succ, hst, if_pos h40]
  refine Jr (Ja rfl (JL_nil (J_ret ?_)))
  refine K_drop (Sel.skip (Sel.take (Sel.none _))) ?_
  refine K_lsub (L' := [rbS b sc (rwalkS sc (n + 1) s p).1]) (.c zS (SPs.of (A := rbS b sc (kidsS (rwalkS sc n) s (p.Kids.take i)).1) (by rw [hW])) (LSub.nil)) ?_
  refine K_retv (rv := .tmp 4) rfl () (.tmp Sr) ?_
  rw [hW]; exact Sub.nilsl
 try simp only [NF] at h40
 have hbi : (kidsS (rwalkS sc n) s (p.Kids.take i)).1.bad = false := h40
 obtain rfl : i = p.Kids.length := by rcases h24 with h | h; omega; rw [hbi] at h; cases h
 have hks := hv2 hbi
 subst hks
 have hK : (kidsS (rwalkS sc n) s (p.Kids.take p.Kids.length)) = (kidsS (rwalkS sc n) s p.Kids) := by rw [List.take_length]
 refine K_lsub (L' := [rbS b sc (kidsS (rwalkS sc n) s p.Kids).1, own 36 (rSl rInt) v (kidsS (rwalkS sc n) s p.Kids).2]) (.c zS (SPs.of (A := rbS b sc (kidsS (rwalkS sc n) s (p.Kids.take p.Kids.length)).1) (by rw [hK])) (.c zS (SPs.of (A := own 36 (rSl rInt) v (kidsS (rwalkS sc n) s (p.Kids.take p.Kids.length)).2) (by rw [hK])) (LSub.nil))) ?_
 refine K_freeze (t := 5) (A' := tSl (rSl rInt) (kidsS (rwalkS sc n) s p.Kids).2) (Sel.skip (Sel.take (Sel.none _))) Frz.own ?_
 have hall : KOk sc n s p.Kids (kidsS (rwalkS sc n) s p.Kids) ∧ (kidsS (rwalkS sc n) s p.Kids).1.bad = false ∧ (walkable p.Kind = false → (rwalkS sc (n + 1) s p) = ({ (kidsS (rwalkS sc n) s p.Kids).1 with bad := true }, [])) ∧ (walkable p.Kind = true → (rwalkS sc (n + 1) s p) = ractS sc p (kidsS (rwalkS sc n) s p.Kids).1 (kidsS (rwalkS sc n) s p.Kids).2) := by
  have hbS : (kidsS (rwalkS sc n) s p.Kids).1.bad = false := by rw [← hK]; exact hbi
  refine ⟨by have := hkk p.Kids.length; rw [List.take_length] at this; exact this, hbS, fun q => ?_, fun q => ?_⟩
  ·
   rw [rwalk_succ, if_neg (by rw [hbS]; simp), if_pos q]
  rw [rwalk_succ, if_neg (by rw [hbS]; simp), if_neg (by rw [q]; simp)]
 revert hall
 generalize (kidsS (rwalkS sc n) s p.Kids) = kk
 rintro ⟨hkS, hbS, hWu, hWw⟩
 obtain ⟨sk, ks⟩ := kk
 have hbS : sk.bad = false := hbS
 obtain ⟨hli1, hli2⟩ := hkS.li hbS
 have hi1 : BdInv sc sk := hkS.inv
 have hli1 : ks.length = p.Kids.length := hli1
 have hli2 : ∀ i, i < p.Kids.length → (nth ks i).length = (nth p.Kids i).Attrs.length ∧ ∀ x ∈ nth ks i, 0 ≤ x ∧ x < sk.P.length := hli2
 have g1 : sk.P.length ≤ s.P.length + 12 * (p.Kids.map (nodes n)).sum := hkS.pm
 have g2 : sk.F.length ≤ s.F.length + (p.Kids.map (binds n)).sum := hkS.fl
 have g3 : sk.T.length ≤ s.T.length + (p.Kids.map (nodes n)).sum := hkS.tl
 refine J_skip (J_seq (Jr (Js rfl (step_fieldAddr so46 Sr rfl) (Jl rfl ty3 Sr (JL_nil ?_)))))
 refine J_block (Jr (Js rfl (step_eql Sr Sr) (Ja rfl (JL_nil ?_))))
 refine J_cond Sr (fun h43 => ?_) (fun h43 => ?_)
 ·
  try simp only [NF] at h43
  have hvt := vk1 hv h43
  refine Jr (Jm rfl (Js rfl (step_fieldAddr so46 Sr rfl) (Jl rfl ty3 Sr ?_)))
  refine Jx rfl (step_call (Sel.take (Sel.none _)) (rtable_spec b sc sk p.Table hvt.1 (sch_attrs hs zG) zG zG) ⟨Sr, Sr, trivial⟩ call121) fun v48 => ?_
  refine Ja rfl (JL_nil (J_ret ?_))
  have hW : rwalkS sc (n + 1) s p = (tableS sc sk p.Table, newIx sk.P.length (nth sc.Tables p.Table.toNat).Attrs.length) := by rw [hWw (by unfold walkable; simp [h43])]; simp [ractS, actS, h43]
  refine K_lsub (L' := [rbS b sc (rwalkS sc (n + 1) s p).1]) (.c zS (SPs.of (A := rbS b sc (tableS sc sk p.Table)) (by rw [hW])) (LSub.nil)) ?_
  refine K_retv (rv := .tmp 4) rfl () (.tmp Sr) ?_
  rw [hW]; exact Sr
 try simp only [NF] at h43
 refine Jr (Js rfl (step_eql Sr Sr) (Ja rfl (JL_nil ?_)))
 refine J_cond Sr (fun h49 => ?_) (fun h49 => ?_)
 ·
  try simp only [NF] at h49
  have hvt := vk2 hv h49
  obtain ⟨hl0, hcb⟩ := hli2 0 zG
  have hk0 : 0 < ks.length := by omega
  refine J_seq (Jr (Ja rfl (JL_nil (J_block ?_))))
  refine J_loopL (σ := Nat) (fun i => i ≤ p.Tests.length) (fun i => upd (upd (upd (upd (upd (upd env0 0 (tAt b 0)) 3 (tPtr (rPlan (n + 1)) p)) 4 (tV (.slice none 0 0))) 5 (tSl (rSl rInt) ks)) 7 (tV (.int .i64 i))) 42 (tV (.int .i64 p.Kind))) (fun i => [rbS b sc (rselI p.Tests (nth ks 0) sk i)]) (fun i => p.Tests.length - i) 0 zG (zU) (.c zS (SPs.of (A := rbS b sc sk) (by simp [rselI])) (LSub.nil)) ?_
  rintro i hil
  refine J_seq (Jr (Jm rfl (Js rfl (step_fieldAddr so46 Sr rfl) (Jl rfl ty43 Sr (Js rfl (step_len_sl underlying43 Sr) ?_)))))
  refine Js rfl (step_lss Sr Sr) (JL_nil ?_)
  refine J_cond Sr (fun h55 => ?_) (fun h55 => ?_)
  ·
   try simp only [NF] at h55
   have hlt : i < p.Tests.length := by omega
   have hIK : BdInv sc (rselI p.Tests (nth ks 0) sk i) ∧ Keep sk (rselI p.Tests (nth ks 0) sk i) (p.Tests.take i).length := rtests_ok (cols := (nth ks 0)) (l := p.Tests.take i) hi1 hcb (fun t h => by rw [hl0]; exact hvt.2.1 t (List.mem_of_mem_take h))
   obtain ⟨hI, hKp⟩ := hIK
   have hKf := hKp.fl
   rw [List.length_take] at hKf
   refine J_skip (J_seq (J_block ?_))
   refine J_draw [⟨0, [0], true⟩, ⟨1, [3], true⟩, ⟨2, [59], true⟩, ⟨3, [7], true⟩, ⟨4, [60, 61], true⟩, ⟨5, [62], true⟩, ⟨6, [5], true⟩, ⟨7, [64], true⟩, ⟨8, [65], true⟩, ⟨9, [58, 63, 66], false⟩] rfl (by kernel_rfl) ?_
   refine Mv rfl rfl (Mf rfl rfl (step_fieldAddr so46 Sr rfl) (Mf rfl rfl (step_load_ptr ty43 Sr) (Mv rfl rfl ?_)))
   refine Mf rfl rfl (step_indexAddr_sl (i := i) underlying43 ty93 Sr Sr (by rfl) (gb (by exact hlt))) ?_
   refine Mf rfl rfl (step_load_ptr ty93 Sr) (Mv rfl rfl ?_)
   refine Mf rfl rfl (step_indexAddr_sl (i := 0) underlying58 ty36 Sr Sr (by rfl) (gb (by exact hk0))) ?_
   refine Mf rfl rfl (step_load_ptr ty36 Sr) ?_
   refine JM_stepX rfl rfl rfl rfl (step_call (Sel.take (Sel.none _)) (rtest_spec b sc (rselI p.Tests (nth ks 0) sk i) hI.pok zG (nth p.Tests i) (nth ks 0) (by rw [hKp.pl]; exact hcb) (by rw [hl0]; exact hvt.2.1 _ (nth_mem hlt))) ⟨Sr, Sr, Sr, trivial⟩ call122) fun v67 => ?_
   refine JM_nil (J_region (Jm rfl (Js rfl (step_add Sr Sr z6) (Ja rfl (JL_nil ?_)))))
   refine K_againL (σ := Nat) (s := i) (i + 1) zO zG (zU) (.c zS (SPs.of (A := rbS b sc (requalS (rselI p.Tests (nth ks 0) sk i) (nth p.Tests i) (nth ks 0))) (by rw [show (rselI p.Tests (nth ks 0) sk (i + 1)) = requalS (rselI p.Tests (nth ks 0) sk i) (nth p.Tests i) (nth ks 0) by unfold rselI; rw [takeB hlt, List.foldl_append]; rfl])) (LSub.nil))
  try simp only [NF] at h55
  obtain rfl : i = p.Tests.length := by omega
  refine J_exit (Jr (Jm rfl ?_))
  refine Js rfl (step_indexAddr_sl (i := 0) underlying58 ty36 Sr Sr (by rfl) (gb (by exact hk0))) ?_
  refine Jl rfl ty36 Sr (Ja rfl (JL_nil (J_ret ?_)))
  have hW : rwalkS sc (n + 1) s p = (p.Tests.foldl (fun s t => requalS s t (nth ks 0)) sk, (nth ks 0)) := by rw [hWw (by unfold walkable; simp [h49])]; simp [ractS, actS, h49]
  refine K_lsub (L' := [rbS b sc (rwalkS sc (n + 1) s p).1]) (.c zS (SPs.of (A := rbS b sc (rselI p.Tests (nth ks 0) sk p.Tests.length)) (by rw [hW]; unfold rselI; rw [List.take_length])) (LSub.nil)) ?_
  refine K_retv (rv := .tmp 4) rfl () (.tmp Sr) ?_
  rw [hW]; exact Sr
 try simp only [NF] at h49
 refine Jr (Js rfl (step_eql Sr Sr) (Ja rfl (JL_nil ?_)))
 refine J_cond Sr (fun h71 => ?_) (fun h71 => ?_)
 ·
  try simp only [NF] at h71
  have hvt := vk3 hv h71
  obtain ⟨hl0, hcb⟩ := hli2 0 zG
  have hk0 : 0 < ks.length := by omega
  refine Jr (Ja rfl (JL_nil (J_seq (Jr (Ja rfl ?_)))))
  refine JL_nil (J_block ?_)
  refine J_loopL (σ := Nat × Value) (fun ⟨i, v⟩ => i ≤ p.Cols.length) (fun ⟨i, v⟩ => upd (upd (upd (upd (upd (upd (upd env0 0 (tAt b 0)) 3 (tPtr (rPlan (n + 1)) p)) 4 (tV (.slice none 0 0))) 5 (tSl (rSl rInt) ks)) 8 (rV.ty v)) 9 (tV (.int .i64 i))) 42 (tV (.int .i64 p.Kind))) (fun ⟨i, v⟩ => [rbS b sc sk, own 3 rInt v ((p.Cols.take i).map fun c => nth (nth ks 0) c.toNat)]) (fun ⟨i, v⟩ => p.Cols.length - i) (0, .slice none 0 0) (by exact Nat.zero_le _) (.u (.u (SubE.upd (Sub.rV rfl) (zU)))) (LSub.trans (LSub.nilown (e := 3) (R := rInt)) (.r zS (.c zS (SPs.of (A := own 3 rInt (.slice none 0 0) ([] : List Int)) rfl) (LSub.nil)))) ?_
  rintro ⟨i, v⟩ hil
  try dsimp only at hil
  refine J_seq (Jr (Jm rfl (Js rfl (step_fieldAddr so46 Sr rfl) (Jl rfl ty36 Sr (Js rfl (step_len_sl underlying36 Sr) ?_)))))
  refine Js rfl (step_lss Sr Sr) (JL_nil ?_)
  refine J_cond Sr (fun h77 => ?_) (fun h77 => ?_)
  ·
   try simp only [NF] at h77
   have hlt : i < p.Cols.length := by omega
   have hci := hvt.2.1 _ (nth_mem hlt)
   refine J_skip (J_seq (J_block ?_))
   refine J_draw [⟨0, [8], true⟩, ⟨1, [5], true⟩, ⟨2, [81], true⟩, ⟨3, [82], true⟩, ⟨4, [3], true⟩, ⟨5, [84], true⟩, ⟨6, [9], true⟩, ⟨7, [85, 86], true⟩, ⟨8, [87], true⟩, ⟨9, [83, 88], true⟩, ⟨10, [89], true⟩, ⟨11, [90], true⟩, ⟨12, [80, 91], false⟩, ⟨13, [92], true⟩] rfl (by kernel_rfl) ?_
   refine Mv rfl rfl (Mv rfl rfl ?_)
   refine Mf rfl rfl (step_indexAddr_sl (i := 0) underlying58 ty36 Sr Sr (by rfl) (gb (by exact hk0))) ?_
   refine Mf rfl rfl (step_load_ptr ty36 Sr) (Mf rfl rfl (step_fieldAddr so46 Sr rfl) (Mf rfl rfl (step_load_ptr ty36 Sr) (Mv rfl rfl ?_)))
   refine Mf rfl rfl (step_indexAddr_sl (i := i) underlying36 ty3 Sr Sr (by rfl) (gb (by exact hlt))) ?_
   refine Mf rfl rfl (step_load_ptr ty3 Sr) ?_
   refine Mf rfl rfl (step_indexAddr_sl (i := (nth p.Cols i).toNat) underlying36 ty3 Sr Sr (by show nth p.Cols i = _; omega) (gb (by show _ < (nth ks 0).length; omega))) ?_
   refine Mf rfl rfl (step_load_ptr ty3 Sr) ?_
   refine Mf rfl rfl (step_literal (ys := [_]) underlying36 el3 ⟨rfl, Sr, trivial⟩ rfl (by decide)) ?_
   refine JM_stepX rfl rfl rfl rfl (step_append underlying36 el3 Sr Sr zS (by simp; omega) (by simp; omega)) fun v92 => ?_
   refine Mf rfl rfl (step_assign Sr) (JM_nil (J_region (Jm rfl (Js rfl (step_add Sr Sr z6) (Ja rfl ?_)))))
   refine JL_nil ?_
   refine K_againL (σ := Nat × Value) (s := (i, v)) (i + 1, v92) zO (by show i + 1 ≤ _; omega) (zU) (.r zS (.c zS (SPs.of (A := own 3 rInt v92 (((p.Cols.take i).map fun c => nth (nth ks 0) c.toNat) ++ [nth (nth ks 0) (nth p.Cols i).toNat])) (by rw [takeB hlt, List.map_append]; rfl)) (LSub.nil)))
  try simp only [NF] at h77
  obtain rfl : i = p.Cols.length := by omega
  refine J_exit (Jr (Jm rfl (Ja rfl (JL_nil (J_ret ?_)))))
  have hW : rwalkS sc (n + 1) s p = (sk, p.Cols.map fun c => nth (nth ks 0) c.toNat) := by rw [hWw (by unfold walkable; simp [h71])]; simp [ractS, actS, h71]
  refine K_lsub (L' := [rbS b sc (rwalkS sc (n + 1) s p).1, own 3 rInt v (p.Cols.map fun c => nth (nth ks 0) c.toNat)]) (.c zS (SPs.of (A := rbS b sc sk) (by rw [hW])) (.c zS (SPs.of (A := own 3 rInt v ((p.Cols.take p.Cols.length).map fun c => nth (nth ks 0) c.toNat)) (by rw [List.take_length])) (LSub.nil))) ?_
  refine K_ret1' (rv := .tmp 4) rfl () (Sel.skip (Sel.take (Sel.none _))) (.tmp Sr) (Frz.own' (by rw [hW]))
 try simp only [NF] at h71
 refine Jr (Js rfl (step_eql Sr Sr) (Ja rfl (JL_nil ?_)))
 refine J_cond Sr (fun h94 => ?_) (fun h94 => ?_)
 ·
  try simp only [NF] at h94
  have hvt := vk7 hv h94
  have hk0 : 0 < ks.length := by omega
  refine Jr (Jm rfl ?_)
  refine Js rfl (step_indexAddr_sl (i := 0) underlying58 ty36 Sr Sr (by rfl) (gb (by exact hk0))) ?_
  refine Jl rfl ty36 Sr (Ja rfl (JL_nil (J_ret ?_)))
  have hW : rwalkS sc (n + 1) s p = (sk, (nth ks 0)) := by rw [hWw (by unfold walkable; simp [h94])]; simp [ractS, actS, h94]
  refine K_lsub (L' := [rbS b sc (rwalkS sc (n + 1) s p).1]) (.c zS (SPs.of (A := rbS b sc sk) (by rw [hW])) (LSub.nil)) ?_
  refine K_retv (rv := .tmp 4) rfl () (.tmp Sr) ?_
  rw [hW]; exact Sr
 try simp only [NF] at h94
 refine Jr (Js rfl (step_eql Sr Sr) (Ja rfl (JL_nil ?_)))
 refine J_cond Sr (fun h99 => ?_) (fun h99 => ?_)
 ·
  try simp only [NF] at h99
  have hvt := vk4 hv h99
  have hpk0 : 0 < p.Kids.length := by omega
  have hpk1 : 1 < p.Kids.length := by omega
  obtain rfl := hm hpk0
  obtain ⟨hl0, hcb⟩ := hli2 0 hpk0
  obtain ⟨hl1, hcb1⟩ := hli2 1 hpk1
  have hk0 : 0 < ks.length := by omega
  have hk1 : 1 < ks.length := by omega
  have hA0 := (z5 _ (nth_mem hpk0)).2
  have hA1 := (z5 _ (nth_mem hpk1)).2
  have hz := zip_len (a := (nth p.Kids 1).Attrs) (b := (nth ks 1)) hl1
  refine Jr ?_
  refine Jx rfl (step_literal_own (ys := []) underlying36 el3 trivial rfl (by decide)) fun u101 => ?_
  refine Jm rfl ?_
  refine Js rfl (step_indexAddr_sl (i := 0) underlying58 ty36 Sr Sr (by rfl) (gb (by exact hk0))) ?_
  refine Jl rfl ty36 Sr ?_
  refine Jx rfl (step_append underlying36 el3 Sr Sr zS (by simp; omega) (by simp; omega)) fun v105 => ?_
  refine Ja rfl (JL_nil ?_)
  refine K_lsub (L' := [rbS b sc ((rjoinI (nth p.Kids 0).Attrs (nth p.Kids 1).Attrs (nth ks 0) (nth ks 1) sk 0)).1, own 3 rInt v105 ((rjoinI (nth p.Kids 0).Attrs (nth p.Kids 1).Attrs (nth ks 0) (nth ks 1) sk 0)).2]) (.r zS (.c zS (SPs.of (A := own 3 rInt v105 ([] ++ (nth ks 0))) (by simp [rjoinI])) (LSub.nil))) ?_
  refine J_seq (Jr (Ja rfl (JL_nil (J_block ?_))))
  refine J_loopL (σ := Nat × Value) (fun ⟨i, vo⟩ => i ≤ (nth p.Kids 1).Attrs.length) (fun ⟨i, vo⟩ => upd (upd (upd (upd (upd (upd env0 0 (tAt b 0)) 3 (tPtr (rPlan (m + 1 + 1)) p)) 4 (tV (.slice none 0 0))) 5 (tSl (rSl rInt) ks)) 10 (rV.ty vo)) 11 (tV (.int .i64 i))) (fun ⟨i, vo⟩ => [rbS b sc ((rjoinI (nth p.Kids 0).Attrs (nth p.Kids 1).Attrs (nth ks 0) (nth ks 1) sk i)).1, own 3 rInt vo ((rjoinI (nth p.Kids 0).Attrs (nth p.Kids 1).Attrs (nth ks 0) (nth ks 1) sk i)).2]) (fun ⟨i, vo⟩ => (nth p.Kids 1).Attrs.length - i) (0, v105) (by exact Nat.zero_le _) (zU) (LSub.rfl) ?_
  rintro ⟨i, vo⟩ hil
  try dsimp only at hil
  refine J_seq (Jr (Jm rfl (Js rfl (step_fieldAddr so46 Sr rfl) (Jl rfl ty42 Sr ?_))))
  refine Js rfl (step_indexAddr_sl (i := 1) underlying42 ty46 Sr Sr (by rfl) (gb (by exact hpk1))) ?_
  refine Js rfl (step_fieldAddr so46 Sr rfl) (Jl rfl ty44 Sr (Js rfl (step_len_sl underlying44 Sr) (Js rfl (step_lss Sr Sr) (JL_nil ?_))))
  refine J_cond Sr (fun h113 => ?_) (fun h113 => ?_)
  ·
   try simp only [NF] at h113
   have hlt : i < (nth p.Kids 1).Attrs.length := by omega
   have hltk : i < (nth ks 1).length := by omega
   have hIK : BdInv sc ((rjoinI (nth p.Kids 0).Attrs (nth p.Kids 1).Attrs (nth ks 0) (nth ks 1) sk i)).1 ∧ Keep sk ((rjoinI (nth p.Kids 0).Attrs (nth p.Kids 1).Attrs (nth ks 0) (nth ks 1) sk i)).1 (((nth p.Kids 1).Attrs.zip (nth ks 1)).take i).length ∧ (∀ c ∈ ((rjoinI (nth p.Kids 0).Attrs (nth p.Kids 1).Attrs (nth ks 0) (nth ks 1) sk i)).2, 0 ≤ c ∧ c < sk.P.length) ∧ ((rjoinI (nth p.Kids 0).Attrs (nth p.Kids 1).Attrs (nth ks 0) (nth ks 1) sk i)).2.length = (nth ks 0).length + ((((nth p.Kids 1).Attrs.zip (nth ks 1)).take i).filter fun x => decide (columnL (nth p.Kids 0).Attrs x.1.Name < 0)).length := rjoinS_ok (a := (nth p.Kids 0).Attrs) (k0 := (nth ks 0)) (k1 := (nth ks 1)) (l := ((nth p.Kids 1).Attrs.zip (nth ks 1)).take i) (o := (nth ks 0)) hi1 hcb hl0 hcb (fun x hx => hcb1 _ (zip_mem (List.mem_of_mem_take hx)))
   obtain ⟨hI, hKp, hIn, hLn⟩ := hIK
   have hKf := hKp.fl
   rw [List.length_take] at hKf
   have hfl := List.length_filter_le (fun x : GAttr × Int => decide (columnL (nth p.Kids 0).Attrs x.1.Name < 0)) (((nth p.Kids 1).Attrs.zip (nth ks 1)).take i)
   rw [List.length_take] at hfl
   have hcl := col_lt (nth p.Kids 0).Attrs (nth (nth p.Kids 1).Attrs i).Name
   have hx1 := hcb1 _ (nth_mem hltk)
   have hstep : (rjoinI (nth p.Kids 0).Attrs (nth p.Kids 1).Attrs (nth ks 0) (nth ks 1) sk (i + 1)) = rjoinStep (nth p.Kids 0).Attrs (nth ks 0) (nth ks 1) ((rjoinI (nth p.Kids 0).Attrs (nth p.Kids 1).Attrs (nth ks 0) (nth ks 1) sk i)) (nth (nth p.Kids 1).Attrs i, nth (nth ks 1) i) := by unfold rjoinI; rw [takeB (by rw [hz]; exact hlt), List.foldl_append, zip_nth hlt hltk]; rfl
   refine J_skip (J_seq (J_block (J_seq ?_)))
   refine J_draw [⟨0, [3], true⟩, ⟨1, [116], true⟩, ⟨2, [117], true⟩, ⟨3, [118], true⟩, ⟨4, [119], true⟩, ⟨5, [3], true⟩, ⟨6, [121], true⟩, ⟨7, [122], true⟩, ⟨8, [123], true⟩, ⟨9, [124], true⟩, ⟨10, [11], true⟩, ⟨11, [125, 126], true⟩, ⟨12, [127], true⟩, ⟨13, [128], true⟩, ⟨14, [120, 129], true⟩, ⟨15, [130], true⟩] rfl (by kernel_rfl) ?_
   refine Mf rfl rfl (step_fieldAddr so46 Sr rfl) (Mf rfl rfl (step_load_ptr ty42 Sr) ?_)
   refine Mf rfl rfl (step_indexAddr_sl (i := 0) underlying42 ty46 Sr Sr (by rfl) (gb (by exact hpk0))) ?_
   refine Mf rfl rfl (step_fieldAddr so46 Sr rfl) (Mf rfl rfl (step_load_ptr ty44 Sr) (Mf rfl rfl (step_fieldAddr so46 Sr rfl) (Mf rfl rfl (step_load_ptr ty42 Sr) ?_)))
   refine Mf rfl rfl (step_indexAddr_sl (i := 1) underlying42 ty46 Sr Sr (by rfl) (gb (by exact hpk1))) ?_
   refine Mf rfl rfl (step_fieldAddr so46 Sr rfl) (Mf rfl rfl (step_load_ptr ty44 Sr) (Mv rfl rfl ?_))
   refine Mf rfl rfl (step_indexAddr_sl (i := i) underlying44 ty89 Sr Sr (by rfl) (gb (by exact hlt))) ?_
   refine Mf rfl rfl (step_fieldAddr so89 Sr rfl) (Mf rfl rfl (step_load_ptr ty9 Sr) ?_)
   refine Mf rfl rfl (step_call0 (rcolL_spec _ _ (by show (nth p.Kids 0).Attrs.length ≤ _; omega)) ⟨Sr, Sr, trivial⟩ call123) ?_
   refine Mf rfl rfl (step_assign Sr) (JM_nil (Jr (Jm rfl (Js rfl (step_geq Sr Sr) (JL_nil ?_)))))
   refine J_cond Sr (fun h132 => ?_) (fun h132 => ?_)
   ·
    try simp only [NF] at h132
    have h132 : 0 ≤ (columnL (nth p.Kids 0).Attrs (nth (nth p.Kids 1).Attrs i).Name) := h132
    have hci := col_in (cols := (nth ks 0)) hcb (c := (columnL (nth p.Kids 0).Attrs (nth (nth p.Kids 1).Attrs i).Name)) ⟨h132, by omega⟩
    rw [show rjoinStep (nth p.Kids 0).Attrs (nth ks 0) (nth ks 1) ((rjoinI (nth p.Kids 0).Attrs (nth p.Kids 1).Attrs (nth ks 0) (nth ks 1) sk i)) (nth (nth p.Kids 1).Attrs i, nth (nth ks 1) i) = ((rbindS ((rjoinI (nth p.Kids 0).Attrs (nth p.Kids 1).Attrs (nth ks 0) (nth ks 1) sk i)).1 (colAt (nth ks 0) (columnL (nth p.Kids 0).Attrs (nth (nth p.Kids 1).Attrs i).Name)) (nth (nth ks 1) i).toNat), ((rjoinI (nth p.Kids 0).Attrs (nth p.Kids 1).Attrs (nth ks 0) (nth ks 1) sk i)).2) by unfold rjoinStep; rw [if_pos h132]] at hstep
    refine J_draw [⟨0, [0], true⟩, ⟨1, [5], true⟩, ⟨2, [134], true⟩, ⟨3, [135], true⟩, ⟨4, [12], true⟩, ⟨5, [136, 137], true⟩, ⟨6, [138], true⟩, ⟨7, [5], true⟩, ⟨8, [140], true⟩, ⟨9, [141], true⟩, ⟨10, [11], true⟩, ⟨11, [142, 143], true⟩, ⟨12, [144], true⟩, ⟨13, [133, 139, 145], false⟩] rfl (by kernel_rfl) ?_
    refine Mv rfl rfl (Mv rfl rfl ?_)
    refine Mf rfl rfl (step_indexAddr_sl (i := 0) underlying58 ty36 Sr Sr (by rfl) (gb (by exact hk0))) ?_
    refine Mf rfl rfl (step_load_ptr ty36 Sr) (Mv rfl rfl ?_)
    refine Mf rfl rfl (step_indexAddr_sl (i := ((columnL (nth p.Kids 0).Attrs (nth (nth p.Kids 1).Attrs i).Name)).toNat) underlying36 ty3 Sr Sr (by show (columnL (nth p.Kids 0).Attrs (nth (nth p.Kids 1).Attrs i).Name) = _; omega) (gb (by show ((columnL (nth p.Kids 0).Attrs (nth (nth p.Kids 1).Attrs i).Name)).toNat < (nth ks 0).length; omega))) ?_
    refine Mf rfl rfl (step_load_ptr ty3 Sr) (Mv rfl rfl ?_)
    refine Mf rfl rfl (step_indexAddr_sl (i := 1) underlying58 ty36 Sr Sr (by rfl) (gb (by exact hk1))) ?_
    refine Mf rfl rfl (step_load_ptr ty36 Sr) (Mv rfl rfl ?_)
    refine Mf rfl rfl (step_indexAddr_sl (i := i) underlying36 ty3 Sr Sr (by rfl) (gb (by exact hltk))) ?_
    refine Mf rfl rfl (step_load_ptr ty3 Sr) ?_
    refine JM_stepX rfl rfl rfl rfl (step_call (Sel.take (Sel.none _)) (rbind_spec b sc ((rjoinI (nth p.Kids 0).Attrs (nth p.Kids 1).Attrs (nth ks 0) (nth ks 1) sk i)).1 hI.pok zG (colAt (nth ks 0) (columnL (nth p.Kids 0).Attrs (nth (nth p.Kids 1).Attrs i).Name)) (nth (nth ks 1) i).toNat (by rw [hKp.pl]; exact hci.2.2.2) (by rw [hKp.pl]; omega)) ⟨Sr, Sub.int (by show nth (nth ks 0) ((columnL (nth p.Kids 0).Attrs (nth (nth p.Kids 1).Attrs i).Name)).toNat = _; unfold colAt; omega), Sub.int (by show nth (nth ks 1) i = _; omega), trivial⟩ call124) fun v146 => ?_
    refine JM_nil (J_region (Jm rfl (Js rfl (step_add Sr Sr z6) (Ja rfl (JL_nil ?_)))))
    refine K_againL (σ := Nat × Value) (s := (i, vo)) (i + 1, vo) zO (by show i + 1 ≤ _; omega) (zU) (.c zS (SPs.of (A := rbS b sc (rbindS ((rjoinI (nth p.Kids 0).Attrs (nth p.Kids 1).Attrs (nth ks 0) (nth ks 1) sk i)).1 (colAt (nth ks 0) (columnL (nth p.Kids 0).Attrs (nth (nth p.Kids 1).Attrs i).Name)) (nth (nth ks 1) i).toNat)) (by rw [hstep])) (.c zS (SPs.of (A := own 3 rInt vo ((rjoinI (nth p.Kids 0).Attrs (nth p.Kids 1).Attrs (nth ks 0) (nth ks 1) sk i)).2) (by rw [hstep])) (LSub.nil)))
   try simp only [NF] at h132
   have h132 : (columnL (nth p.Kids 0).Attrs (nth (nth p.Kids 1).Attrs i).Name) < 0 := h132
   rw [show rjoinStep (nth p.Kids 0).Attrs (nth ks 0) (nth ks 1) ((rjoinI (nth p.Kids 0).Attrs (nth p.Kids 1).Attrs (nth ks 0) (nth ks 1) sk i)) (nth (nth p.Kids 1).Attrs i, nth (nth ks 1) i) = (((rjoinI (nth p.Kids 0).Attrs (nth p.Kids 1).Attrs (nth ks 0) (nth ks 1) sk i)).1, ((rjoinI (nth p.Kids 0).Attrs (nth p.Kids 1).Attrs (nth ks 0) (nth ks 1) sk i)).2 ++ [nth (nth ks 1) i]) by unfold rjoinStep; rw [if_neg (by show ¬ 0 ≤ (columnL (nth p.Kids 0).Attrs (nth (nth p.Kids 1).Attrs i).Name); omega)]] at hstep
   refine J_region (Jm rfl (Jm rfl ?_))
   refine Js rfl (step_indexAddr_sl (i := 1) underlying58 ty36 Sr Sr (by rfl) (gb (by exact hk1))) ?_
   refine Jl rfl ty36 Sr (Jm rfl ?_)
   refine Js rfl (step_indexAddr_sl (i := i) underlying36 ty3 Sr Sr (by rfl) (gb (by exact hltk))) ?_
   refine Jl rfl ty3 Sr ?_
   refine Js rfl (step_literal (ys := [_]) underlying36 el3 ⟨rfl, Sr, trivial⟩ rfl (by decide)) ?_
   refine Jx rfl (step_append underlying36 el3 Sr Sr zS (by simp; omega) (by simp; omega)) fun v155 => ?_
   refine Ja rfl (JL_nil (J_region (Jm rfl (Js rfl (step_add Sr Sr z6) (Ja rfl ?_)))))
   refine JL_nil ?_
   refine K_againL (σ := Nat × Value) (s := (i, vo)) (i + 1, v155) zO (by show i + 1 ≤ _; omega) (zU) (.c zS (SPs.of (A := rbS b sc ((rjoinI (nth p.Kids 0).Attrs (nth p.Kids 1).Attrs (nth ks 0) (nth ks 1) sk i)).1) (by rw [hstep])) (.c zS (SPs.of (A := own 3 rInt v155 (((rjoinI (nth p.Kids 0).Attrs (nth p.Kids 1).Attrs (nth ks 0) (nth ks 1) sk i)).2 ++ [nth (nth ks 1) i])) (by rw [hstep])) (LSub.nil)))
  try simp only [NF] at h113
  obtain rfl : i = (nth p.Kids 1).Attrs.length := by omega
  have hend : (rjoinI (nth p.Kids 0).Attrs (nth p.Kids 1).Attrs (nth ks 0) (nth ks 1) sk (nth p.Kids 1).Attrs.length) = (rjoinS (nth p.Kids 0).Attrs (nth p.Kids 1).Attrs (nth ks 0) (nth ks 1) sk) := by unfold rjoinI rjoinS; rw [← hz, List.take_length]
  refine J_exit (Jr (Jm rfl (Ja rfl (JL_nil (J_ret ?_)))))
  have hW : rwalkS sc (m + 1 + 1) s p = (rjoinS (nth p.Kids 0).Attrs (nth p.Kids 1).Attrs (nth ks 0) (nth ks 1) sk) := by rw [hWw (by unfold walkable; simp [h99])]; simp [ractS, actS, h99]
  refine K_lsub (L' := [rbS b sc (rwalkS sc (m + 1 + 1) s p).1, own 3 rInt vo ((rjoinS (nth p.Kids 0).Attrs (nth p.Kids 1).Attrs (nth ks 0) (nth ks 1) sk)).2]) (.c zS (SPs.of (A := rbS b sc ((rjoinI (nth p.Kids 0).Attrs (nth p.Kids 1).Attrs (nth ks 0) (nth ks 1) sk (nth p.Kids 1).Attrs.length)).1) (by rw [hW, hend])) (.c zS (SPs.of (A := own 3 rInt vo ((rjoinI (nth p.Kids 0).Attrs (nth p.Kids 1).Attrs (nth ks 0) (nth ks 1) sk (nth p.Kids 1).Attrs.length)).2) (by rw [hend])) (LSub.nil))) ?_
  refine K_ret1' (rv := .tmp 4) rfl () (Sel.skip (Sel.take (Sel.none _))) (.tmp Sr) (Frz.own' (by rw [hW]))
 try simp only [NF] at h99
 refine J_skip (J_seq ?_)
 refine K_rb fun vt vp vf L hL => ?_
 refine J_region (Jm rfl (Js rfl (step_nilCheck Sr) (Js rfl (step_fieldAddr_own so116W Sr rfl) ?_)))
 refine Ju (step_store_fld (R := rBool) (y' := (⟨sc, vt, vp, vf, true⟩ : GBuilderW)) ty4 Sr Sr zS (by exact ⟨rfl, ⟨rfl, ⟨rfl, ⟨rfl, ⟨fun _ _ q => q, rfl, by intro g hg; cases hg⟩⟩⟩⟩⟩)) fun _ => ?_
 refine JL_nil (Jr (Ja rfl (JL_nil (J_ret ?_))))
 have hW : rwalkS sc (n + 1) s p = ({ sk with bad := true }, []) := hWu (by unfold walkable; simp [h43, h49, h71, h94, h99])
 refine K_lsub (L' := [rbS b sc { sk with bad := true }]) (LSub.rb (s := { sk with bad := true }) hL) ?_
 refine K_lsub (L' := [rbS b sc (rwalkS sc (n + 1) s p).1]) (.c zS (SPs.of (A := rbS b sc { sk with bad := true }) (by rw [hW])) (LSub.nil)) ?_
 refine K_retv (rv := .tmp 4) rfl () (.tmp Sr) ?_
 rw [hW]; exact Sub.nilsl
theorem rwalk_spec (b : Nat) (sc : GSchema) (hs : schM sc = true) : ∀ n, WalkR b sc n
  | 0 => fun _ _ _ _ _ hd _ _ _ _ _ => hd.elim
  | n + 1 => fun lv p s hv hp hd hi hb hP hT hF => rwalk1_spec b sc hs n lv p s hv hp hd hi hb hP hT hF (rwalk_spec b sc hs n)
open Go Go.Proofs Go.Proofs.Tryz
set_option linter.all false
section
variable {H : Type} {enc : TypeId × Value → H} {P : Program} {W : World}
/-- Whatever the kit reads at type t is represented by R, and Q holds of it. -/
structure RdQ {α H : Type} (enc : TypeId × Value → H) (P : Program) (W : World) (t : Nat) (R : Rp α) (Q : α → Prop) : Prop where
  k : P.cellsOf t = R.k
  rd : ∀ fuel cs x, DataW.trod enc P W 0 (fun _ => true) true fuel t cs = some x → ∃ y, R.rel (wholeH W) y cs ∧ Q y
theorem RdQ.str {t : Nat} (hT : TyOf P t rStr) (hu : P.underlying t = some .string) : RdQ enc P W t rStr (fun s => s.size ≤ 9223372036854775807) where
  k := hT.cells W
  rd := fun _ _ _ h => by
    obtain ⟨n, rfl, _, hm⟩ := DataW.trod_string hu h
    have : maxLen = 9223372036854775807 := by decide
    exact ⟨n, rfl, by omega⟩
theorem sl_rdQ {α : Type} {t e N : Nat} {R : Rp α} {Q : α → Prop} (hu : P.underlying t = some (.slice e)) (hk : 0 < R.k) (hc : P.cellsOf e = R.k)
    (hR : ∀ n, N = n + 1 → ∀ cs x, DataW.trod enc P W 0 (fun _ => true) true n e cs = some x → ∃ y, R.rel (wholeH W) y cs ∧ Q y) {cs : List Value} {x : DataW H × List MemPlace} (h : DataW.trod enc P W 0 (fun _ => true) true N t cs = some x) :
    ∃ y, (rSl R).rel (wholeH W) y cs ∧ y.length ≤ 9223372036854775807 ∧ ∀ a ∈ y, Q a := by
  rcases DataW.trod_slice hu h with ⟨rfl, _⟩ | ⟨a, len, cap, elems, rest, n, hN, rfl, _, _, hlc, hmx, hlen, hel, _, _⟩
  · exact ⟨[], ⟨_, rfl, none, ⟨0, Nat.le_refl _⟩, rfl, fun q => absurd rfl q⟩, Nat.zero_le _, fun a ha => by cases ha⟩
  have hall : ∀ i : Fin len, ∃ y, (∃ cs, W.cells? 0 (a.add (i.1 * R.k)) R.k = some cs ∧ R.rel (wholeH W) y cs) ∧ Q y := fun i => by
    have h1 := hel i.1 i.2
    rw [List.getElem?_eq_getElem (by omega : i.1 < elems.length), Option.bind_eq_some_iff] at h1
    obtain ⟨cs, h2, h3⟩ := h1
    obtain ⟨y, hy, hq⟩ := hR n hN _ _ h3
    rw [hc] at h2
    exact ⟨y, ⟨cs, h2, hy⟩, hq⟩
  let f : Fin len → α := fun i => Classical.choose (hall i)
  have hf : ∀ i : Fin len, ∃ cs, W.cells? 0 (a.add (i.1 * R.k)) R.k = some cs ∧ R.rel (wholeH W) (f i) cs := fun i => (Classical.choose_spec (hall i)).1
  have hfq : ∀ i : Fin len, Q (f i) := fun i => (Classical.choose_spec (hall i)).2
  have hml : maxLen = 9223372036854775807 := by decide
  refine ⟨List.ofFn f, ⟨_, rfl, some a, ⟨cap, by rw [List.length_ofFn]; exact hlc⟩, by show Value.slice (some a) len cap = Value.slice (some a) (List.ofFn f).length cap; rw [List.length_ofFn], fun hne => ?_⟩, by rw [List.length_ofFn]; omega, fun y hy => ?_⟩
  · have hl0 : 0 < len := by
      rcases Nat.eq_zero_or_pos len with h0 | h0
      · exfalso; apply hne; subst h0; simp
      · exact h0
    have hsp : a.spot = none := by
      obtain ⟨cs, h1, h2⟩ := hf ⟨0, hl0⟩
      obtain ⟨_, h3, h4⟩ := World.cells?_some h1
      have h5 := h4 0 hk
      rw [List.getElem?_eq_getElem (by omega : 0 < cs.length)] at h5
      have h6 : (a.add (0 * R.k)).add 0 = a := by simp [Addr.add]
      rw [h6] at h5
      exact World.cell?_spot h5
    obtain ⟨b, off, sp⟩ := a
    simp only at hsp
    subst hsp
    refine ⟨b, off, rfl, fun i y hy => ?_⟩
    have hi : i < len := by have := (List.getElem?_eq_some_iff.1 hy).1; simpa using this
    have hy' : f ⟨i, hi⟩ = y := by
      rw [List.getElem?_eq_getElem (by simpa using hi)] at hy
      simpa using hy
    obtain ⟨cs, h1, h2⟩ := hf ⟨i, hi⟩
    obtain ⟨_, h3, h4⟩ := World.cells?_some h1
    rw [hy'] at h2
    refine ⟨cs, cell_holds hk h3 fun j hj => ?_, h2⟩
    have := h4 j hj
    simp only [addr_add] at this
    exact this
  · obtain ⟨i, rfl⟩ := (List.mem_ofFn).1 hy
    exact hfq i
theorem RdQ.sl {α : Type} {t e : Nat} {R : Rp α} {Q : α → Prop} (hT : TyOf P t (rSl R)) (hu : P.underlying t = some (.slice e)) (hR : RdQ enc P W e R Q) (hk : 0 < R.k) : RdQ enc P W t (rSl R) (fun xs => xs.length ≤ 9223372036854775807 ∧ ∀ a ∈ xs, Q a) where
  k := hT.cells W
  rd := fun fuel cs x h => sl_rdQ hu hk hR.k (fun n _ cs x hx => hR.rd n cs x hx) h
theorem RdQ.at {α β : Type} {t : Nat} {fs : List (SF α)} {cs : List Value} {i : Nat} {T : Nat} {R : Rp β} {Q : β → Prop} {get : α → β} (hf : ∀ (i : Nat) (f : SF α), fs[i]? = some f → ∃ n z, DataW.trod enc P W 0 (fun _ => true) true n f.T ((cs.drop (SF.off fs i)).take f.R.k) = some z)
    (hR : RdQ enc P W T R Q) (hi : fs[i]? = some ⟨β, T, R, get⟩) : ∃ y, R.rel (wholeH W) y ((cs.drop (SF.off fs i)).take R.k) ∧ Q y := by
  obtain ⟨n, z, hz⟩ := hf i _ hi
  exact hR.rd _ _ _ hz
end
section
variable {H : Type} {enc : TypeId × Value → H} {W : World}
def strQ (s : ByteArray) : Prop := s.size ≤ 9223372036854775807
def attrQ (a : GAttr) : Prop := strQ a.Name ∧ ∀ x ∈ a.Was, strQ x
theorem rq9 : RdQ enc Tryz.prog W 9 rStr strQ := RdQ.str ty9 Tryz.underlying9
theorem rq85 : RdQ enc Tryz.prog W 85 (rSl rStr) (fun xs => xs.length ≤ 9223372036854775807 ∧ ∀ a ∈ xs, strQ a) := RdQ.sl ty85 Tryz.underlying85 rq9 (by decide)
theorem rq89 : RdQ enc Tryz.prog W 89 rAttr attrQ where
  k := ty89.cells W
  rd := fun fuel cs x h => by
    obtain ⟨hl, hf⟩ := readStruct so89 h
    obtain ⟨y0, h0, q0⟩ := RdQ.at (t := 89) (i := 0) hf rq9 rfl
    obtain ⟨y1, h1⟩ := Rd.at (t := 89) (i := 1) hf rd3 rfl
    obtain ⟨y2, h2, q2⟩ := RdQ.at (t := 89) (i := 2) hf rq85 rfl
    obtain ⟨y3, h3⟩ := Rd.at (t := 89) (i := 3) hf rd87 rfl
    refine ⟨⟨y0, y1, y2, y3⟩, SF.rel_of hl fun i f hi => ?_, q0, q2.2⟩
    match i, hi with
    | 0, hi => cases hi; exact h0
    | 1, hi => cases hi; exact h1
    | 2, hi => cases hi; exact h2
    | 3, hi => cases hi; exact h3
    | n + 4, hi => simp [fsAttr] at hi
theorem rq44 : RdQ enc Tryz.prog W 44 (rSl rAttr) (fun xs => xs.length ≤ 9223372036854775807 ∧ ∀ a ∈ xs, attrQ a) := RdQ.sl ty44 Tryz.underlying44 rq89 (by decide)
theorem rd44 : Rd enc Tryz.prog W 44 (rSl rAttr) := ⟨ty44.cells W, fun f cs x h => let ⟨y, hy, _⟩ := (rq44 (enc := enc) (W := W)).rd f cs x h; ⟨y, hy⟩⟩
theorem rq76 : RdQ enc Tryz.prog W 76 rTable (fun t => ∀ a ∈ t.Attrs, attrQ a) where
  k := ty76.cells W
  rd := fun fuel cs x h => by
    obtain ⟨hl, hf⟩ := readStruct so76 h
    obtain ⟨y0, h0⟩ := Rd.at (t := 76) (i := 0) hf rd9 rfl
    obtain ⟨y1, h1, q1⟩ := RdQ.at (t := 76) (i := 1) hf rq44 rfl
    obtain ⟨y2, h2⟩ := Rd.at (t := 76) (i := 2) hf rd36 rfl
    refine ⟨⟨y0, y1, y2⟩, SF.rel_of hl fun i f hi => ?_, q1.2⟩
    match i, hi with
    | 0, hi => cases hi; exact h0
    | 1, hi => cases hi; exact h1
    | 2, hi => cases hi; exact h2
    | n + 3, hi => simp [fsTable] at hi
theorem rq39 : RdQ enc Tryz.prog W 39 (rSl rTable) (fun xs => xs.length ≤ 9223372036854775807 ∧ ∀ t ∈ xs, ∀ a ∈ t.Attrs, attrQ a) := RdQ.sl ty39 Tryz.underlying39 rq76 (by decide)
theorem rq41 : RdQ enc Tryz.prog W 41 rSchema (fun s => ∀ t ∈ s.Tables, ∀ a ∈ t.Attrs, attrQ a) where
  k := ty41.cells W
  rd := fun fuel cs x h => by
    obtain ⟨hl, hf⟩ := readStruct so41 h
    obtain ⟨y0, h0, q0⟩ := RdQ.at (t := 41) (i := 0) hf rq39 rfl
    refine ⟨⟨y0⟩, SF.rel_of hl fun i f hi => ?_, q0.2⟩
    match i, hi with
    | 0, hi => cases hi; exact h0
    | n + 1, hi => simp [fsSchema] at hi
theorem rd91 : Rd enc Tryz.prog W 91 rSide where
  k := ty91.cells W
  rd := fun fuel cs x h => by
    obtain ⟨hl, hf⟩ := readStruct so91 h
    obtain ⟨y0, h0⟩ := Rd.at (t := 91) (i := 0) hf rd3 rfl
    obtain ⟨y1, h1⟩ := Rd.at (t := 91) (i := 1) hf rd3 rfl
    obtain ⟨y2, h2⟩ := Rd.at (t := 91) (i := 2) hf rd87 rfl
    refine ⟨⟨y0, y1, y2⟩, SF.rel_of hl fun i f hi => ?_⟩
    match i, hi with
    | 0, hi => cases hi; exact h0
    | 1, hi => cases hi; exact h1
    | 2, hi => cases hi; exact h2
    | n + 3, hi => simp [fsSide] at hi
theorem rd93 : Rd enc Tryz.prog W 93 rTest where
  k := ty93.cells W
  rd := fun fuel cs x h => by
    obtain ⟨hl, hf⟩ := readStruct so93 h
    obtain ⟨y0, h0⟩ := Rd.at (t := 93) (i := 0) hf rd91 rfl
    obtain ⟨y1, h1⟩ := Rd.at (t := 93) (i := 1) hf rd3 rfl
    obtain ⟨y2, h2⟩ := Rd.at (t := 93) (i := 2) hf rd91 rfl
    obtain ⟨y3, h3⟩ := Rd.at (t := 93) (i := 3) hf rd3 rfl
    refine ⟨⟨y0, y1, y2, y3⟩, SF.rel_of hl fun i f hi => ?_⟩
    match i, hi with
    | 0, hi => cases hi; exact h0
    | 1, hi => cases hi; exact h1
    | 2, hi => cases hi; exact h2
    | 3, hi => cases hi; exact h3
    | n + 4, hi => simp [fsTest] at hi
theorem rd43 : Rd enc Tryz.prog W 43 (rSl rTest) := Rd.sl ty43 Tryz.underlying43 rd93 (by decide)
theorem len_le : ∀ {m n : Nat} {p : GPlan}, Dep m p → PlLen m p → m ≤ n → PlLen n p
  | 0, _, _, hd, _, _ => hd.elim
  | m + 1, 0, _, _, _, h => absurd h (by omega)
  | m + 1, n + 1, p, hd, ⟨h1, h2⟩, h => ⟨h1, fun q hq => len_le (hd q hq) (h2 q hq) (by omega)⟩
theorem pl_rdQ : ∀ (N : Nat) {cs : List Value} {x : DataW H × List MemPlace}, DataW.trod enc Tryz.prog W 0 (fun _ => true) true N 46 cs = some x → ∃ y, (rPlan N).rel (wholeH W) y cs ∧ PlLen N y := by
  intro N
  induction N using Nat.strongRecOn with
  | ind N ih =>
    intro cs x h
    obtain ⟨n, rfl, hl, hf⟩ := st_rd (so46 (n := 0)) h
    obtain ⟨z0, e0⟩ := hf 0 _ rfl
    obtain ⟨z1, e1⟩ := hf 1 _ rfl
    obtain ⟨z2, e2⟩ := hf 2 _ rfl
    obtain ⟨z3, e3⟩ := hf 3 _ rfl
    obtain ⟨z4, e4⟩ := hf 4 _ rfl
    obtain ⟨z5, e5⟩ := hf 5 _ rfl
    obtain ⟨z6, e6⟩ := hf 6 _ rfl
    obtain ⟨z7, e7⟩ := hf 7 _ rfl
    obtain ⟨y0, h0⟩ := rd3.rd _ _ _ e0
    obtain ⟨y1, h1⟩ := rd3.rd _ _ _ e1
    obtain ⟨y2, h2, q2⟩ := sl_rdQ (R := rPlan n) (Q := PlLen n) Tryz.underlying42 (by rw [show (rPlan n).k = 8 from rPl_k _ _ _ n]; omega) (by rw [show (rPlan n).k = 8 from rPl_k _ _ _ n]; exact (ty46 (n := 0)).cells W) (fun m hm cs x hx => by
      obtain ⟨y, hy, hq⟩ := ih m (by omega) hx
      exact ⟨y, rPl_le cPl rAttr rTest (by omega) hy, len_le (pl_dep hy) hq (by omega)⟩) e2
    obtain ⟨y3, h3⟩ := rd43.rd _ _ _ e3
    obtain ⟨y4, h4⟩ := rd36.rd _ _ _ e4
    obtain ⟨y5, h5⟩ := rd3.rd _ _ _ e5
    obtain ⟨y6, h6⟩ := rd3.rd _ _ _ e6
    obtain ⟨y7, h7⟩ := rd44.rd _ _ _ e7
    refine ⟨GPl.mk y0 y1 y2 y3 y4 y5 y6 y7, SF.rel_of (fs := fsPl cPl rAttr rTest (rPlan n)) hl fun i f hi => ?_, q2⟩
    match i, hi with
    | 0, hi => cases hi; exact h0
    | 1, hi => cases hi; exact h1
    | 2, hi => cases hi; exact h2
    | 3, hi => cases hi; exact h3
    | 4, hi => cases hi; exact h4
    | 5, hi => cases hi; exact h5
    | 6, hi => cases hi; exact h6
    | 7, hi => cases hi; exact h7
    | n + 8, hi => simp [fsPl] at hi
end
theorem val_of {α H : Type} {enc : TypeId × Value → H} {W : World} {t : Nat} {R : Rp α} {v : Value} {x : α} (r : R.rel (wholeH W) x (Value.cells v).toList) (hg : R.agg = true) (hk : R.k ≠ 1) : (R.ty x).p (wholeH W) v := by
  refine R.iff.2 ⟨_, r, ?_⟩
  have hl := R.len r
  unfold packV
  rw [hg]
  cases v with
  | agg cs => simp [Value.cells]
  | _ => simp [Value.cells] at hl; exact absurd hl.symm hk
/-- A schema that is handed in. -/
theorem arg_sc {H : Type} {enc : TypeId × Value → H} {W : World} {base : Nat} {v : Value} {d : DataW H} {p : List MemPlace} (hok : Value.okWide Tryz.prog W .any base 41 v) (h : DataW.Trod enc Tryz.prog W 0 (fun _ => true) true 41 v d p) :
    ∃ s : GSchema, (rSchema.ty s).p (wholeH W) v ∧ ∀ t ∈ s.Tables, ∀ x ∈ namesL t.Attrs, x.size ≤ 9223372036854775807 := by
  simp only [Value.okWide, Tryz.underlying41] at hok
  obtain ⟨cs, rfl, _⟩ := hok
  obtain ⟨fuel, h⟩ := h
  obtain ⟨s, r, hq⟩ := rq41.rd _ _ _ h
  refine ⟨s, ?_, fun t ht x hx => ?_⟩
  · refine rSchema.iff.2 ⟨_, r, ?_⟩
    unfold packV
    rw [show rSchema.agg = true from rfl]
    simp [Value.cells]
  · unfold namesL at hx
    obtain ⟨a, ha, hx⟩ := List.mem_flatMap.1 hx
    have := hq t ht a ha
    rcases List.mem_cons.1 hx with rfl | hx
    · exact this.1
    · exact this.2 x hx
/-- A query that is handed in. -/
theorem arg_pl {H : Type} {enc : TypeId × Value → H} {W : World} {v : Value} {d : DataW H} {p : List MemPlace} (h : DataW.Trod enc Tryz.prog W 0 (fun _ => true) true 46 v d p) :
    ∃ (n : Nat) (q : GPlan), ((rPlan n).ty q).p (wholeH W) v ∧ PlLen n q ∧ Dep n q := by
  obtain ⟨fuel, h⟩ := h
  obtain ⟨q, r, hq⟩ := pl_rdQ fuel h
  exact ⟨fuel, q, val_of (enc := enc) (t := 46) r (rPl_agg _ _ _ _) (by rw [show (rPlan fuel).k = 8 from rPl_k _ _ _ fuel]; omega), hq, pl_dep r⟩
end Lg
namespace Go.Proofs.YtgaclpkapapjdaaGreatDoor
open Go.ChangeShapes Go.WideShapes Go.ChangeAt Go.RowKit
theorem size41 : (41 : Nat) < Tryz.prog.types.size := of_decide_eq_true (by kernel_rfl)
theorem rec41 : Tryz.prog.readableRec 41 = true := by kernel_rfl
theorem want41 : Tryz.prog.wantsStandIn 41 = false := by kernel_rfl
theorem size46 : (46 : Nat) < Tryz.prog.types.size := of_decide_eq_true (by kernel_rfl)
theorem rec46 : Tryz.prog.readableRec 46 = true := by kernel_rfl
theorem want46 : Tryz.prog.wantsStandIn 46 = false := by kernel_rfl
end Go.Proofs.YtgaclpkapapjdaaGreatDoor
