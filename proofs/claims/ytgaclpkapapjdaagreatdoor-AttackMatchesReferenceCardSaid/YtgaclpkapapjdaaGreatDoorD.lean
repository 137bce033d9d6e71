/- Walks of the builder of attack.Of. -/
import Derived.Test.YtgaclpkapapjdaaGreatDoorC
set_option linter.unusedVariables false
set_option linter.unusedSimpArgs false
set_option linter.unusedSectionVars false
namespace Lg
/-- Each place is bound to one of smaller rank, or is a top. -/
def Acy (up : Nat → Nat) (n : Nat) : Prop := ∃ r : Nat → Nat, ∀ i, i < n → up i < n ∧ (up i = i ∨ r (up i) < r i)
inductive Rt (up : Nat → Nat) : Nat → Nat → Prop
  | here {i : Nat} : up i = i → Rt up i i
  | go {i t : Nat} : up i ≠ i → Rt up (up i) t → Rt up i t
theorem Rt.top {up : Nat → Nat} {i t : Nat} (h : Rt up i t) : up t = t := by
  induction h with
  | here h => exact h
  | go _ _ ih => exact ih
theorem Rt.uniq {up : Nat → Nat} {i t t' : Nat} (h : Rt up i t) (h' : Rt up i t') : t = t' := by
  induction h with
  | here h =>
    cases h' with
    | here _ => rfl
    | go hn _ => exact absurd h hn
  | go hn _ ih =>
    cases h' with
    | here h2 => exact absurd h2 hn
    | go _ h2 => exact ih h2
def lnkU (up : Nat → Nat) (k i : Nat) : Nat → Nat := fun j => if j = k then i else up j
/-- A top is bound to another one. -/
theorem lnk_rt {up : Nat → Nat} {k i : Nat} (hk : up k = k) (hi : up i = i) (hne : i ≠ k) {j t : Nat} (h : Rt up j t) : Rt (lnkU up k i) j (if t = k then i else t) := by
  have hii : lnkU up k i i = i := by unfold lnkU; rw [if_neg hne]; exact hi
  induction h with
  | @here j h =>
    by_cases e : j = k
    · subst e
      rw [if_pos rfl]
      have e2 : lnkU up j i j = i := by unfold lnkU; rw [if_pos rfl]
      exact .go (by rw [e2]; exact hne) (by rw [e2]; exact .here hii)
    · rw [if_neg e]
      exact .here (by unfold lnkU; rw [if_neg e]; exact h)
  | @go j t hn _ ih =>
    have e : j ≠ k := fun e => hn (by rw [e]; exact hk)
    have e2 : lnkU up k i j = up j := by unfold lnkU; rw [if_neg e]
    exact .go (by rw [e2]; exact hn) (by rw [e2]; exact ih)
theorem lnk_acy {up : Nat → Nat} {n k i : Nat} (a : Acy up n) (hi : up i = i) (hin : i < n) (hne : i ≠ k) : Acy (lnkU up k i) n := by
  obtain ⟨r, hr⟩ := a
  -- all that is not bound to i's place rises by what i has
  refine ⟨fun j => if j = i then 0 else r j + 1, fun j hj => ?_⟩
  unfold lnkU
  by_cases e : j = k
  · rw [if_pos e]
    subst e
    refine ⟨hin, .inr ?_⟩
    dsimp only
    rw [if_pos rfl, if_neg fun x => hne x.symm]; omega
  · rw [if_neg e]
    refine ⟨(hr j hj).1, ?_⟩
    rcases (hr j hj).2 with h | h
    · exact .inl h
    · by_cases e2 : j = i
      · subst e2; exact .inl hi
      · refine .inr ?_
        dsimp only
        rw [if_neg e2]
        split <;> omega
end Lg
namespace Lg
section
variable {V : Type}
/-- The value that meets in a binding does not depend on its way. -/
theorem optOr_comm {a b : Option V} (h : ∀ u w, a = some u → b = some w → u = w) : (a.or b) = (b.or a) := by
  cases a with
  | none => cases b <;> rfl
  | some u =>
    cases b with
    | none => rfl
    | some w => rw [h u w rfl rfl]
end
open Go Go.Proofs Go.Proofs.Tryz
/-- The state of a builder of atoms. -/
structure Bst where
  P : List Gplace
  F : List Int
  T : List Int
  S : List Int
  bad : Bool
def upN (P : List Gplace) (i : Nat) : Nat := (nth P i).up.toNat
def topF (P : List Gplace) : Nat → Nat → Nat
  | 0, i => i
  | f + 1, i => if upN P i = i then i else topF P f (upN P i)
def topM (P : List Gplace) (i : Nat) : Nat := topF P P.length i
/-- Places that are bound to places, with no ring. -/
structure POk (P : List Gplace) : Prop where
  acy : Acy (upN P) P.length
  nn : ∀ i, i < P.length → 0 ≤ (nth P i).up
theorem countP_ltB {α : Type} {p q : α → Bool} {l : List α} (h : ∀ x ∈ l, p x = true → q x = true) {y : α} (hy : y ∈ l) (h1 : p y = false) (h2 : q y = true) : l.countP p < l.countP q := by
  induction l with
  | nil => cases hy
  | cons a l ih =>
    have hle : l.countP p ≤ l.countP q := List.countP_mono_left fun x hx => h x (List.mem_cons_of_mem _ hx)
    rw [List.countP_cons, List.countP_cons]
    rcases List.mem_cons.1 hy with rfl | hy
    · rw [h1, h2]; simp; omega
    · have := ih (fun x hx => h x (List.mem_cons_of_mem _ hx)) hy
      by_cases ha : p a = true
      · rw [if_pos ha, if_pos (h a List.mem_cons_self ha)]; omega
      · rw [if_neg ha]; split <;> omega
/-- A ring-free binding has ranks below the number of places. -/
theorem Acy.rank {up : Nat → Nat} {n : Nat} (a : Acy up n) : ∃ c : Nat → Nat, ∀ i, i < n → c i < n ∧ up i < n ∧ (up i = i ∨ c (up i) < c i) := by
  obtain ⟨r, hr⟩ := a
  refine ⟨fun i => (List.range n).countP fun j => decide (r j < r i), fun i hi => ⟨?_, (hr i hi).1, ?_⟩⟩
  · have h : (List.range n).countP (fun j => decide (r j < r i)) < (List.range n).countP (fun _ => true) :=
      countP_ltB (fun _ _ _ => rfl) (List.mem_range.2 hi) (by simp) rfl
    rw [List.countP_true, List.length_range] at h
    exact h
  · rcases (hr i hi).2 with h | h
    · exact .inl h
    · refine .inr (countP_ltB (fun x _ hx => ?_) (List.mem_range.2 (hr i hi).1) (by simp) (by simpa using h))
      simp only [decide_eq_true_eq] at hx ⊢; omega
theorem topF_rt {P : List Gplace} {c : Nat → Nat} (hc : ∀ i, i < P.length → c i < P.length ∧ upN P i < P.length ∧ (upN P i = i ∨ c (upN P i) < c i)) : ∀ (f i : Nat), i < P.length → c i < f → Rt (upN P) i (topF P f i) ∧ topF P f i < P.length
  | 0, i, hi, h => by omega
  | f + 1, i, hi, h => by
    unfold topF
    by_cases e : upN P i = i
    · rw [if_pos e]; exact ⟨.here e, hi⟩
    · rw [if_neg e]
      obtain ⟨h1, h2, h3⟩ := hc i hi
      rcases h3 with h3 | h3
      · exact absurd h3 e
      · obtain ⟨h4, h5⟩ := topF_rt hc f (upN P i) h2 (by omega)
        exact ⟨.go e h4, h5⟩
theorem top_rt {P : List Gplace} (h : POk P) {i : Nat} (hi : i < P.length) : Rt (upN P) i (topM P i) ∧ topM P i < P.length := by
  obtain ⟨c, hc⟩ := h.acy.rank
  exact topF_rt hc _ i hi (hc i hi).1
theorem top_up {P : List Gplace} (h : POk P) {i : Nat} (hi : i < P.length) : upN P (topM P i) = topM P i := (top_rt h hi).1.top
theorem top_of {P : List Gplace} (h : POk P) {i t : Nat} (hi : i < P.length) (r : Rt (upN P) i t) : topM P i = t := (top_rt h hi).1.uniq r
theorem top_self {P : List Gplace} (h : POk P) {i : Nat} (hi : i < P.length) (e : upN P i = i) : topM P i = i := top_of h hi (.here e)
theorem top_next {P : List Gplace} (h : POk P) {i : Nat} (hi : i < P.length) (hu : upN P i < P.length) : topM P (upN P i) = topM P i := by
  by_cases e : upN P i = i
  · rw [e]
  · exact (top_of h hi (.go e (top_rt h hu).1)).symm
theorem POk.ult {P : List Gplace} (h : POk P) {i : Nat} (hi : i < P.length) : upN P i < P.length := by
  obtain ⟨r, hr⟩ := h.acy; exact (hr i hi).1
/-- A class is fixed to a constant. -/
def fixM (P : List Gplace) (i : Nat) (v : GValue) : List Gplace := P.set (topM P i) { nth P (topM P i) with value := v, fixed := true }
def fixB (P : List Gplace) (i : Nat) (v : GValue) : Bool := decide (v.Kind = 0) || ((nth P (topM P i)).fixed && !decide ((nth P (topM P i)).value = v))
def fixS (s : Bst) (i : Nat) (v : GValue) : Bst := { s with P := fixM s.P i v, bad := s.bad || fixB s.P i v }
def lnkM (P : List Gplace) (i k : Nat) : List Gplace := P.set k { nth P k with up := (i : Int) }
def bindS (s : Bst) (i k : Nat) : Bst :=
  if topM s.P i = topM s.P k then { s with F := if i = k then s.F ++ [(i : Int)] else s.F }
  else if (nth s.P (topM s.P k)).fixed = true then fixS { s with F := (if i = k then s.F ++ [(i : Int)] else s.F), P := lnkM s.P (topM s.P i) (topM s.P k) } (topM s.P i) (nth s.P (topM s.P k)).value
  else { s with F := (if i = k then s.F ++ [(i : Int)] else s.F), P := lnkM s.P (topM s.P i) (topM s.P k) }
def colAt (cols : List Int) (c : Int) : Nat := (nth cols c.toNat).toNat
def equalS (s : Bst) (t : GTest) (cols : List Int) : Bst :=
  if t.Op ≠ 1 ∨ t.Add ≠ 0 then { s with bad := true }
  else if t.Left.Var = -1 then fixS s (colAt cols t.Right.Col) t.Left.Value
  else if t.Right.Var = -1 then fixS s (colAt cols t.Left.Col) t.Right.Value
  else bindS s (colAt cols t.Left.Col) (colAt cols t.Right.Col)
/-- The places of a table's columns. -/
def newPl (n : Nat) (k : Nat) : List Gplace := (List.range k).map fun j => ⟨((n + j : Nat) : Int), ⟨0, 0, ⟨#[]⟩⟩, false⟩
def newIx (n : Nat) (k : Nat) : List Int := (List.range k).map fun j => ((n + j : Nat) : Int)
def tableS (sc : GSchema) (s : Bst) (t : Int) : Bst :=
  { P := s.P ++ newPl s.P.length (nth sc.Tables t.toNat).Attrs.length, F := s.F, T := s.T ++ [t], S := s.S ++ [(s.P.length : Int)], bad := s.bad || s.T.any fun x => decide (t = x) }
def joinStep (a : List GAttr) (k0 k1 : List Int) (st : Bst × List Int) (x : GAttr × Int) : Bst × List Int :=
  if 0 ≤ columnL a x.1.Name then (bindS st.1 (colAt k0 (columnL a x.1.Name)) x.2.toNat, st.2) else (st.1, st.2 ++ [x.2])
def joinS (a b : List GAttr) (k0 k1 : List Int) (s : Bst) : Bst × List Int := (b.zip k1).foldl (joinStep a k0 k1) (s, k0)
def walkable (k : Int) : Bool := decide (k = 1) || decide (k = 2) || decide (k = 3) || decide (k = 4) || decide (k = 7)
def actS (sc : GSchema) (p : GPlan) (s : Bst) (kids : List (List Int)) : Bst × List Int :=
  if p.Kind = 1 then (tableS sc s p.Table, newIx s.P.length (nth sc.Tables p.Table.toNat).Attrs.length)
  else if p.Kind = 2 then (p.Tests.foldl (fun s t => equalS s t (nth kids 0)) s, nth kids 0)
  else if p.Kind = 3 then (s, p.Cols.map fun c => nth (nth kids 0) c.toNat)
  else if p.Kind = 4 then joinS (nth p.Kids 0).Attrs (nth p.Kids 1).Attrs (nth kids 0) (nth kids 1) s
  else (s, nth kids 0)
def kidsS (f : Bst → GPlan → Bst × List Int) : Bst → List GPlan → Bst × List (List Int)
  | s, [] => (s, [])
  | s, q :: l => if (f s q).1.bad = true then ((f s q).1, []) else ((kidsS f (f s q).1 l).1, (f s q).2 :: (kidsS f (f s q).1 l).2)
def walkS (sc : GSchema) : Nat → Bst → GPlan → Bst × List Int
  | 0, s, p => (s, [])
  | n + 1, s, p => if walkable p.Kind = false then ({ s with bad := true }, [])
    else if (kidsS (walkS sc n) s p.Kids).1.bad = true then ((kidsS (walkS sc n) s p.Kids).1, [])
    else actS sc p (kidsS (walkS sc n) s p.Kids).1 (kidsS (walkS sc n) s p.Kids).2
def aloneM (P : List Gplace) (i : Nat) : Bool := decide ((List.range P.length).countP (fun k => decide (topM P k = topM P i)) = 1) && !(nth P (topM P i)).fixed
/-- The terms: constants and variables by their first place. -/
structure Tst where
  C : List GValue
  M : List (Int × Int)
def termS (P : List Gplace) (s : Tst) (i : Nat) : Tst × Int :=
  if (nth P (topM P i)).fixed = true then
    (if findI (fun x => decide ((nth P (topM P i)).value = x)) 0 s.C < 0 then ({ s with C := s.C ++ [(nth P (topM P i)).value] }, -1 - s.C.length) else (s, -1 - findI (fun x => decide ((nth P (topM P i)).value = x)) 0 s.C))
  else match mget s.M (topM P i : Int) with
    | some v => (s, v)
    | none => ({ s with M := mput s.M (topM P i : Int) s.M.length }, s.M.length)
def termsS (P : List Gplace) (o : Nat) : Tst → List Int → Tst × List Int
  | s, [] => (s, [])
  | s, c :: l => ((termsS P o (termS P s (o + c.toNat)).1 l).1, (termS P s (o + c.toNat)).2 :: (termsS P o (termS P s (o + c.toNat)).1 l).2)
def colsK (t : GTable) : List Int := t.Key ++ ((List.range t.Attrs.length).filter fun (c : Nat) => !(t.Key.any fun x => decide ((c : Int) = x))).map fun (c : Nat) => (c : Int)
def atomS (sc : GSchema) (P : List Gplace) (s : Tst) (t : Int) (o : Nat) : Tst × GAtom :=
  ((termsS P o s (colsK (nth sc.Tables t.toNat))).1, ⟨t, colsK (nth sc.Tables t.toNat), (termsS P o s (colsK (nth sc.Tables t.toNat))).2, (nth sc.Tables t.toNat).Key.length⟩)
def atomsS (sc : GSchema) (P : List Gplace) : Tst → List (Int × Int) → Tst × List GAtom
  | s, [] => (s, [])
  | s, (t, o) :: l => ((atomsS sc P (atomS sc P s t o.toNat).1 l).1, (atomS sc P s t o.toNat).2 :: (atomsS sc P (atomS sc P s t o.toNat).1 l).2)
def conjM (sc : GSchema) (s : Bst) : GConj :=
  ⟨(atomsS sc s.P ⟨[], []⟩ (s.T.zip s.S)).1.M.length, (atomsS sc s.P ⟨[], []⟩ (s.T.zip s.S)).1.C, (atomsS sc s.P ⟨[], []⟩ (s.T.zip s.S)).2⟩
def st0 : Bst := ⟨[], [], [], [], false⟩
def zConj' : GConj := ⟨0, [], []⟩
/-- attack.Of at queries of a depth. -/
def ofM (sc : GSchema) (n : Nat) (p : GPlan) : GConj × Int :=
  if vldM sc p = false then (zConj', 1)
  else if (walkS sc n st0 p).1.bad = true ∨ ((walkS sc n st0 p).1.F.any fun i => aloneM (walkS sc n st0 p).1.P i.toNat) = true then (zConj', 11)
  else (conjM sc (walkS sc n st0 p).1, 0)
open Go Go.Proofs Go.Proofs.Tryz
theorem acy_congr {up vp : Nat → Nat} {n : Nat} (h : ∀ i, i < n → up i = vp i) (a : Acy up n) : Acy vp n := by
  obtain ⟨r, hr⟩ := a
  exact ⟨r, fun i hi => by rw [← h i hi]; exact hr i hi⟩
theorem upN_set_other {P : List Gplace} {k i : Nat} {x : Gplace} (hi : i < P.length) (hne : i ≠ k) : upN (P.set k x) i = upN P i := by
  unfold upN; rw [Lg.nth_set hi, if_neg fun e => hne e.symm]
theorem upN_set_self {P : List Gplace} {k : Nat} {x : Gplace} (hk : k < P.length) : upN (P.set k x) k = x.up.toNat := by
  unfold upN; rw [Lg.nth_set hk, if_pos rfl]
theorem lnk_len (P : List Gplace) (i k : Nat) : (lnkM P i k).length = P.length := by unfold lnkM; simp
theorem fix_len (P : List Gplace) (i : Nat) (v : GValue) : (fixM P i v).length = P.length := by unfold fixM; simp
theorem lnk_upN {P : List Gplace} {i k j : Nat} (hj : j < P.length) : upN (lnkM P i k) j = lnkU (upN P) k i j := by
  unfold lnkM lnkU
  by_cases e : j = k
  · subst e; rw [upN_set_self hj, if_pos rfl]; simp
  · rw [upN_set_other hj e, if_neg e]
theorem POk.lnk {P : List Gplace} (h : POk P) {i k : Nat} (hi : i < P.length) (hk : k < P.length) (hui : upN P i = i) (hne : i ≠ k) : POk (lnkM P i k) := by
  refine ⟨?_, fun j hj => ?_⟩
  · rw [lnk_len]
    exact acy_congr (fun j hj => (lnk_upN hj).symm) (lnk_acy h.acy hui hi hne)
  · rw [lnk_len] at hj
    unfold lnkM
    rw [Lg.nth_set hj]
    split
    · show (0 : Int) ≤ (i : Int); omega
    · exact h.nn j hj
theorem POk.fix {P : List Gplace} (h : POk P) {i : Nat} (hi : i < P.length) (v : GValue) : POk (fixM P i v) := by
  have ht := (top_rt h hi).2
  have hu : ∀ j, j < P.length → upN P j = upN (fixM P i v) j := fun j hj => by
    unfold fixM
    by_cases e : j = topM P i
    · rw [e, upN_set_self ht]; rfl
    · rw [upN_set_other hj e]
  refine ⟨?_, fun j hj => ?_⟩
  · rw [fix_len]; exact acy_congr hu h.acy
  · rw [fix_len] at hj
    unfold fixM
    rw [Lg.nth_set hj]
    split
    · exact h.nn _ ht
    · exact h.nn j hj
theorem POk.top_lt {P : List Gplace} (h : POk P) {i : Nat} (hi : i < P.length) : topM P i < P.length := (top_rt h hi).2
theorem set_get {α : Type} {l : List α} {i : Nat} {y : α} (h : i < l.length) : (l.set i y)[i]? = some y := by rw [List.getElem?_set_self h]
/-- A builder whose places may be read. -/
structure GbuilderP where
  schema : GSchema
  tables : Value
  start : Value
  places : List Gplace
  self : Value
  bad : Bool
def fsbuilderP : List (SF GbuilderP) := [⟨GSchema, 41, rSchema, GbuilderP.schema⟩, ⟨Value, 36, rV, GbuilderP.tables⟩, ⟨Value, 36, rV, GbuilderP.start⟩, ⟨List Gplace, 105, rSl rplace, GbuilderP.places⟩, ⟨Value, 36, rV, GbuilderP.self⟩, ⟨Bool, 4, rBool, GbuilderP.bad⟩]
abbrev rbuilderP : Rp GbuilderP := rStruct fsbuilderP
theorem ty107P : TyOf prog 107 rbuilderP := ⟨fun w => isAgg107 w, fun w => sizeOf107 w⟩
theorem so107P : StructOf prog 107 fsbuilderP := ⟨⟨_, underlying107, ⟨rfl, rfl, ty41, by decide, ⟨rfl, rfl, ty36V107, by decide, ⟨rfl, rfl, ty36V107, by decide, ⟨rfl, rfl, ty105, by decide, ⟨rfl, rfl, ty36V107, by decide, ⟨rfl, rfl, ty4, by decide, trivial⟩⟩⟩⟩⟩⟩⟩, ty107P⟩
theorem Frz.bldP {b : Nat} {sc : GSchema} {vt vs vp vf : Value} {bad : Bool} {P : List Gplace} {S : List SP} : Frz (Lg.box b 107 rbuilderW ⟨sc, vt, vs, vp, vf, bad⟩ :: Lg.own 168 rplace vp P :: S) (tAt b 0) (tPtr rbuilderP ⟨sc, vt, vs, P, vf, bad⟩) :=
  Frz.up fun h h' cs le hv r => by
    obtain ⟨c0, _, rfl, r0, c1, _, rfl, r1, c2, _, rfl, r2, c3, _, rfl, r3, c4, _, rfl, r4, c5, _, rfl, r5, rz⟩ := r
    exact ⟨c0, _, rfl, rSchema.mono le r0, c1, _, rfl, rV.mono le r1, c2, _, rfl, rV.mono le r2, c3, _, rfl, ⟨_, r3.1, hv⟩, c4, _, rfl, rV.mono le r4, c5, _, rfl, rBool.mono le r5, rz⟩
abbrev bldW (b : Nat) (sc : GSchema) (vt vs vp vf : Value) (bad : Bool) : SP := box b 107 rbuilderW ⟨sc, vt, vs, vp, vf, bad⟩
theorem bind_len (s : Bst) (i k : Nat) : (bindS s i k).P.length = s.P.length := by
  unfold bindS
  split
  · rfl
  · split
    · simp [fixS, fix_len, lnk_len]
    · simp [lnk_len]
theorem POk.bind {s : Bst} (h : POk s.P) {i k : Nat} (hi : i < s.P.length) (hk : k < s.P.length) : POk (bindS s i k).P := by
  unfold bindS
  split
  · exact h
  · rename_i hne
    have hl := POk.lnk h (h.top_lt hi) (h.top_lt hk) (top_up h hi) hne
    split
    · exact hl.fix (by show _ < (lnkM _ _ _).length; rw [lnk_len]; exact h.top_lt hi) _
    · exact hl
set_option maxHeartbeats 1000000 in
theorem top_spec (sc : GSchema) (vt vs vf : Value) (bad : Bool) (P : List Gplace) (h : POk P) (i : Nat) (hi : i < P.length) : Fun1 prog 118 [tPtr rbuilderP ⟨sc, vt, vs, P, vf, bad⟩, tV (.int .i64 i)] (tV (.int .i64 (topM P i))) := by
 refine Spec.enter func118 rfl rfl fun h0 w0 fr0 => ?_
 obtain ⟨c, hc⟩ := h.acy.rank
 refine Jr (Ja rfl (JL_nil (J_seq (J_block ?_))))
 refine J_loopL (σ := Nat) (fun j => j < P.length ∧ topM P j = topM P i) (fun j => upd (upd (upd env0 0 (tPtr rbuilderP ⟨sc, vt, vs, P, vf, bad⟩)) 1 (tV (.int .i64 j))) 4 (tV (.int .i64 0))) (fun j => []) (fun j => c j) i ⟨hi, rfl⟩ (zU) (LSub.rfl) ?_
 rintro j ⟨hj, hv⟩
 refine J_seq (Jr (Jm rfl (Js rfl (step_nilCheckP Sr) (Js rfl (step_fieldAddr so107P Sr rfl) (Jl rfl ty105 Sr ?_)))))
 refine Jm rfl ?_
 refine Js rfl (step_indexAddr_sl (i := j) underlying105 ty168 Sr Sr (by rfl) (gb (by exact hj))) ?_
 refine Js rfl (step_fieldAddr so168 Sr rfl) (Jl rfl ty3 Sr (Jm rfl (Js rfl (step_neq Sr Sr) (JL_nil ?_))))
 refine J_cond Sr (fun h14 => ?_) (fun h14 => ?_)
 ·
  try simp only [NF] at h14
  have hup := h.nn j hj
  obtain ⟨hc1, hc2, hc3⟩ := hc j hj
  have hne : ¬ upN P j = j := fun e => h14 (by unfold upN at e; omega)
  have hdec : c (upN P j) < c j := by rcases hc3 with q | q; exact absurd q hne; exact q
  refine J_skip (J_block (J_region (Jm rfl (Js rfl (step_nilCheckP Sr) (Js rfl (step_fieldAddr so107P Sr rfl) ?_)))))
  refine Jl rfl ty105 Sr (Jm rfl ?_)
  refine Js rfl (step_indexAddr_sl (i := j) underlying105 ty168 Sr Sr (by rfl) (gb (by exact hj))) ?_
  refine Js rfl (step_fieldAddr so168 Sr rfl) (Jl rfl ty3 Sr (Ja rfl (JL_nil ?_)))
  refine K_againL (σ := Nat) (s := j) (upN P j) (hdec) ⟨hc2, by rw [top_next h hj hc2]; exact hv⟩ (.u (SubE.upd (Sub.int (by show (nth P j).up = ((nth P j).up.toNat : Int); omega)) (zU))) (LSub.rfl)
 try simp only [NF] at h14
 have hself : topM P j = j := top_self h hj (by unfold upN; omega)
 refine J_exit (Jr (Jm rfl (Ja rfl (JL_nil (J_ret ?_)))))
 refine K_retv (rv := .tmp 4) rfl () (.tmp Sr) (Sub.int ?_)
 rw [← hv, hself]
set_option maxHeartbeats 2000000 in
theorem fix_spec (b : Nat) (sc : GSchema) (vt vs vp vf : Value) (bad : Bool) (P : List Gplace) (h : POk P) (i : Nat) (hi : i < P.length) (v : GValue) : Spec (X := Unit) prog 189 [tAt b 0, tV (.int .i64 i), rValue.ty v] ([bldW b sc vt vs vp vf (bad), own 168 rplace vp P]) (fun _ => tTup []) (fun _ => [bldW b sc vt vs vp vf (bad || fixB P i v), own 168 rplace vp (fixM P i v)]) := by
 refine Spec.enter func189 rfl rfl fun h0 w0 fr0 => ?_
 have htl := h.top_lt hi
 refine Jr (Js rfl (step_box (R := rValue) Sr) (JL_nil (J_seq ?_)))
 refine J_drawN [⟨0, [0], true⟩, ⟨1, [7], true⟩, ⟨2, [8], true⟩, ⟨4, [0], true⟩, ⟨5, [1], true⟩, ⟨3, [9], true⟩, ⟨6, [11, 12], true⟩, ⟨7, [10, 13], true⟩, ⟨8, [14], true⟩] rfl (by kernel_rfl) rfl ?_
 refine JN_step rfl rfl rfl rfl (step_move Sr) ?_
 refine JN_step rfl rfl rfl rfl (step_nilCheck Sr) ?_
 refine JN_step rfl rfl rfl rfl (step_fieldAddr_own so107W Sr rfl) ?_
 refine JN_step rfl rfl rfl rfl (step_move Sr) ?_
 refine JN_step rfl rfl rfl rfl (step_move Sr) ?_
 refine JN_step rfl rfl rfl rfl (step_load_fld ty105V107 Sr rfl zS) ?_
 refine JN_step rfl rfl rfl rfl (step_call_look (Sel.take (Sel.take (Sel.none _))) (top_spec sc vt vs vf bad P h i hi) (fun _ => Flat.v _) ⟨Frz.bldP, Frz.sub Sr, trivial⟩ call118) ?_
 refine JN_step rfl rfl rfl rfl (step_indexAddr_own (i := (topM P i)) underlying105 ty168 Sr zS Sr (by rfl) (by first | exact htl | (rw [List.length_set]; exact htl))) ?_
 refine JN_step rfl rfl rfl rfl (step_assign Sr) ?_
 refine JN_nil (J_seq (J_seq ?_))
 refine J_drawN [⟨0, [5], true⟩, ⟨1, [15], true⟩, ⟨2, [16], true⟩, ⟨3, [17], true⟩, ⟨4, [6, 18], true⟩, ⟨5, [18, 19], true⟩, ⟨6, [18, 20], true⟩, ⟨7, [18, 21], true⟩, ⟨8, [18, 22], true⟩, ⟨9, [6, 23], true⟩, ⟨13, [5, 23], true⟩, ⟨10, [23, 24], true⟩, ⟨11, [23, 25], true⟩, ⟨12, [23, 26], true⟩, ⟨14, [23, 27, 28], true⟩, ⟨15, [18, 23, 29], true⟩, ⟨16, [18, 30], true⟩] rfl (by kernel_rfl) rfl ?_
 refine JN_step rfl rfl rfl rfl (step_fieldAddr so87 Sr rfl) ?_
 refine JN_step rfl rfl rfl rfl (step_load_ptr ty3 Sr) ?_
 refine JN_step rfl rfl rfl rfl (step_eql Sr Sr) ?_
 refine JN_step rfl rfl rfl rfl (step_move Sr) ?_
 refine JN_stepG rfl rfl rfl rfl (Gd.plain Sr) rfl rfl (fun hw => step_move Sr) ?_
 refine JN_stepG rfl rfl rfl rfl (Gd.plain Sr) rfl rfl (fun hw => step_nilCheck_elem (i := (topM P i)) (Sub.w hw) zS (by first | exact htl | (rw [List.length_set]; exact htl))) ?_
 refine JN_stepG rfl rfl rfl rfl (Gd.plain Sr) rfl rfl (fun hw => step_fieldAddr_elem (i := (topM P i)) so168 (Sub.w hw) rfl zS (by first | exact htl | (rw [List.length_set]; exact htl))) ?_
 refine JN_stepG rfl rfl rfl rfl (Gd.plain Sr) rfl rfl (fun hw => step_load_elemfld (i := (topM P i)) ty4 (Sub.w hw) rfl zS (gb (by first | exact htl | (rw [List.length_set]; exact htl)))) ?_
 refine JN_stepG rfl rfl rfl rfl (Gd.plain Sr) rfl rfl (fun hw => step_move (Sub.w hw)) ?_
 refine JN_stepG rfl rfl rfl rfl (Gd.nest Sr) rfl rfl (fun hw => step_move Sr) ?_
 refine JN_stepG rfl rfl rfl rfl (Gd.nest Sr) rfl rfl (fun hw => step_load_ptr ty87 Sr) ?_
 refine JN_stepG rfl rfl rfl rfl (Gd.nest Sr) rfl rfl (fun hw => step_nilCheck_elem (i := (topM P i)) (Sub.w hw) zS (by first | exact htl | (rw [List.length_set]; exact htl))) ?_
 refine JN_stepG rfl rfl rfl rfl (Gd.nest Sr) rfl rfl (fun hw => step_fieldAddr_elem (i := (topM P i)) so168 (Sub.w hw) rfl zS (by first | exact htl | (rw [List.length_set]; exact htl))) ?_
 refine JN_stepG rfl rfl rfl rfl (Gd.nest Sr) rfl rfl (fun hw => step_load_elemfld (i := (topM P i)) ty87 (Sub.w hw) rfl zS (gb (by first | exact htl | (rw [List.length_set]; exact htl)))) ?_
 refine JN_stepG rfl rfl rfl rfl (Gd.nest Sr) rfl rfl (fun hw => step_neq_val (Sub.w hw) (Sub.w hw)) ?_
 refine JN_stepG rfl rfl rfl rfl (Gd.plain Sr) rfl rfl (fun hw => step_pick_and (Sub.w hw) (Sub.ww hw)) ?_
 refine JN_step rfl rfl rfl rfl (step_pick_or Sr Sr) ?_
 refine JN_nil ?_
 refine J_cond Sr (fun h31 => ?_) (fun h31 => ?_)
 ·
  try simp only [NF] at h31
  have hb : fixB P i v = true := by unfold fixB; simp_all
  refine J_region (Jm rfl (Js rfl (step_nilCheck Sr) (Js rfl (step_fieldAddr_own so107W Sr rfl) ?_)))
  refine Ju (step_store_fld (R := rBool) (y' := (⟨sc, vt, vs, vp, vf, true⟩ : GbuilderW)) ty4 Sr Sr zS (by exact ⟨rfl, ⟨rfl, ⟨rfl, ⟨rfl, ⟨rfl, ⟨fun _ _ q => q, rfl, by intro g hg; cases hg⟩⟩⟩⟩⟩⟩)) fun _ => ?_
  refine JL_nil (J_region (Jm rfl (Jm rfl (Jl rfl ty87 Sr ?_))))
  refine Js rfl (step_nilCheck_elem (i := (topM P i)) Sr zS (by first | exact htl | (rw [List.length_set]; exact htl))) ?_
  refine Js rfl (step_fieldAddr_elem (i := (topM P i)) so168 Sr rfl zS (by first | exact htl | (rw [List.length_set]; exact htl))) ?_
  refine Ju (step_store_elemfld (R := rValue) (i := (topM P i)) (y := (nth P (topM P i))) (y' := { nth P (topM P i) with value := v }) ty87 Sr Sr zS (gb (by first | exact htl | (rw [List.length_set]; exact htl))) (by exact ⟨rfl, ⟨fun _ _ q => q, rfl, by intro g hg; simp only [List.mem_cons, List.not_mem_nil, or_false] at hg; subst hg; rfl⟩⟩)) fun _ => ?_
  refine Js rfl (step_nilCheck_elem (i := (topM P i)) Sr zS (by first | exact htl | (rw [List.length_set]; exact htl))) ?_
  refine Js rfl (step_fieldAddr_elem (i := (topM P i)) so168 Sr rfl zS (by first | exact htl | (rw [List.length_set]; exact htl))) ?_
  refine Ju (step_store_elemfld (R := rBool) (i := (topM P i)) (y := { nth P (topM P i) with value := v }) (y' := { nth P (topM P i) with value := v, fixed := true }) ty4 Sr Sr zS (set_get htl) (by exact ⟨rfl, ⟨rfl, ⟨fun _ _ q => q, rfl, by intro g hg; cases hg⟩⟩⟩)) fun _ => ?_
  refine JL_nil ?_
  refine K_lsub (L' := [bldW b sc vt vs vp vf (bad || fixB P i v), own 168 rplace vp (fixM P i v)]) (.c zS (SPs.of (A := box b 107 rbuilderW (⟨sc, vt, vs, vp, vf, true⟩ : GbuilderW)) (by rw [hb]; simp)) (.c zS (SPs.of (A := own 168 rplace vp ((P.set (topM P i) { nth P (topM P i) with value := v }).set (topM P i) { nth P (topM P i) with value := v, fixed := true })) (by unfold fixM; rw [List.set_set])) (LSub.nil))) ?_
  refine K_end0 rfl () Sr
 try simp only [NF] at h31
 have hb : fixB P i v = false := by unfold fixB; obtain ⟨q1, q2⟩ := h31; rcases q2 with q | q <;> simp [q1, q]
 refine J_skip (J_region (Jm rfl (Jm rfl (Jl rfl ty87 Sr ?_))))
 refine Js rfl (step_nilCheck_elem (i := (topM P i)) Sr zS (by first | exact htl | (rw [List.length_set]; exact htl))) ?_
 refine Js rfl (step_fieldAddr_elem (i := (topM P i)) so168 Sr rfl zS (by first | exact htl | (rw [List.length_set]; exact htl))) ?_
 refine Ju (step_store_elemfld (R := rValue) (i := (topM P i)) (y := (nth P (topM P i))) (y' := { nth P (topM P i) with value := v }) ty87 Sr Sr zS (gb (by first | exact htl | (rw [List.length_set]; exact htl))) (by exact ⟨rfl, ⟨fun _ _ q => q, rfl, by intro g hg; simp only [List.mem_cons, List.not_mem_nil, or_false] at hg; subst hg; rfl⟩⟩)) fun _ => ?_
 refine Js rfl (step_nilCheck_elem (i := (topM P i)) Sr zS (by first | exact htl | (rw [List.length_set]; exact htl))) ?_
 refine Js rfl (step_fieldAddr_elem (i := (topM P i)) so168 Sr rfl zS (by first | exact htl | (rw [List.length_set]; exact htl))) ?_
 refine Ju (step_store_elemfld (R := rBool) (i := (topM P i)) (y := { nth P (topM P i) with value := v }) (y' := { nth P (topM P i) with value := v, fixed := true }) ty4 Sr Sr zS (set_get htl) (by exact ⟨rfl, ⟨rfl, ⟨fun _ _ q => q, rfl, by intro g hg; cases hg⟩⟩⟩)) fun _ => ?_
 refine JL_nil ?_
 refine K_lsub (L' := [bldW b sc vt vs vp vf (bad || fixB P i v), own 168 rplace vp (fixM P i v)]) (.c zS (SPs.of (A := box b 107 rbuilderW (⟨sc, vt, vs, vp, vf, bad⟩ : GbuilderW)) (by rw [hb]; simp)) (.c zS (SPs.of (A := own 168 rplace vp ((P.set (topM P i) { nth P (topM P i) with value := v }).set (topM P i) { nth P (topM P i) with value := v, fixed := true })) (by unfold fixM; rw [List.set_set])) (LSub.nil))) ?_
 refine K_end0 rfl () Sr
set_option maxHeartbeats 4000000 in
theorem bind_spec (b : Nat) (sc : GSchema) (vt vs vp vf : Value) (st : Bst) (h : POk st.P) (hF : st.F.length ≤ 1000000000) (i k : Nat) (hi : i < st.P.length) (hk : k < st.P.length) : Spec (X := Value) prog 116 [tAt b 0, tV (.int .i64 i), tV (.int .i64 k)] ([bldW b sc vt vs vp vf (st.bad), own 168 rplace vp st.P, own 3 rInt vf st.F]) (fun vf2 => tTup []) (fun vf2 => [bldW b sc vt vs vp vf2 ((bindS st i k).bad), own 168 rplace vp (bindS st i k).P, own 3 rInt vf2 (bindS st i k).F]) := by
 refine Spec.enter func116 rfl rfl fun h0 w0 fr0 => ?_
 have hti := h.top_lt hi
 have htk := h.top_lt hk
 refine J_seq (Jr (Jm rfl (Jm rfl (Js rfl (step_eql Sr Sr) (JL_nil ?_)))))
 refine J_cut (X := Value) (fun vf2 => upd (upd (upd env0 0 (tAt b 0)) 1 (tV (.int .i64 i))) 2 (tV (.int .i64 k))) (fun vf2 => [bldW b sc vt vs vp vf2 (st.bad), own 168 rplace vp st.P, own 3 rInt vf2 (if i = k then st.F ++ [(i : Int)] else st.F)]) ?_ ?_
 ·
  skip
  refine J_cond Sr (fun h9 => ?_) (fun h9 => ?_)
  ·
   try simp only [NF] at h9
   refine J_region (Jm rfl (Jm rfl (Js rfl (step_nilCheck Sr) (Js rfl (step_fieldAddr_own so107W Sr rfl) ?_))))
   refine Js rfl (step_load_fld ty36V107 Sr rfl zS) ?_
   refine Jm rfl ?_
   refine Js rfl (step_literal (ys := [_]) underlying36 el3 ⟨rfl, Sr, trivial⟩ rfl (by decide)) ?_
   refine Jx rfl (step_append underlying36 el3 Sr Sr zS (by simp; omega) (by simp; omega)) fun v17 => ?_
   refine Js rfl (step_nilCheck Sr) (Js rfl (step_fieldAddr_own so107W Sr rfl) ?_)
   refine Ju (step_store_fld (R := rV) (y' := (⟨sc, vt, vs, vp, v17, st.bad⟩ : GbuilderW)) ty36V107 Sr Sr zS (by exact ⟨rfl, ⟨rfl, ⟨rfl, ⟨rfl, ⟨fun _ _ q => q, rfl, by intro g hg; simp only [List.mem_cons, List.not_mem_nil, or_false] at hg; subst hg; rfl⟩⟩⟩⟩⟩)) fun _ => ?_
   refine JL_nil ?_
   refine K_cut (E := fun _ => env0) v17 (zU) (.r zS (.r zS (.c zS (SPs.of (A := own 3 rInt v17 (st.F ++ [(i : Int)])) (by rw [if_pos zG])) (LSub.nil))))
  try simp only [NF] at h9
  refine J_skip ?_
  refine K_cut (E := fun _ => env0) vf (zU) (.r zS (.r zS (.c zS (SPs.of (A := own 3 rInt vf st.F) (by rw [if_neg zG])) (LSub.nil))))
 rintro vf2
 refine Jr (Jm rfl (Jm rfl (Js rfl (step_call_look (Sel.take (Sel.take (Sel.none _))) (top_spec sc vt vs vf2 st.bad st.P h i hi) (fun _ => Flat.v _) ⟨Frz.bldP, Frz.sub Sr, trivial⟩ call118) (Jm rfl (Jm rfl ?_)))))
 refine Js rfl (step_call_look (Sel.take (Sel.take (Sel.none _))) (top_spec sc vt vs vf2 st.bad st.P h k hk) (fun _ => Flat.v _) ⟨Frz.bldP, Frz.sub Sr, trivial⟩ call118) (Ja rfl (Ja rfl (JL_nil (J_seq (Jr ?_)))))
 refine Jm rfl (Jm rfl (Js rfl (step_eql Sr Sr) (JL_nil ?_)))
 refine J_cond Sr (fun h28 => ?_) (fun h28 => ?_)
 ·
  try simp only [NF] at h28
  have hteq : (topM st.P i) = (topM st.P k) := by omega
  refine J_ret ?_
  have hB : bindS st i k = { st with F := (if i = k then st.F ++ [(i : Int)] else st.F) } := by unfold bindS; rw [if_pos hteq]
  refine K_lsub (L' := [bldW b sc vt vs vp vf2 ((bindS st i k).bad), own 168 rplace vp (bindS st i k).P, own 3 rInt vf2 (bindS st i k).F]) (.c zS (SPs.of (A := box b 107 rbuilderW _) (by rw [hB] <;> rfl)) (.c zS (SPs.of (A := own 168 rplace _ _) (by rw [hB] <;> rfl)) (.c zS (SPs.of (A := own 3 rInt _ _) (by rw [hB] <;> rfl)) (LSub.nil)))) ?_
  refine K_ret0 rfl vf2 Sr
 try simp only [NF] at h28
 have htne : ¬ (topM st.P i) = (topM st.P k) := by omega
 have hlnk := h.lnk hti htk (top_up h hi) htne
 refine J_skip (Jr (Jm rfl (Js rfl (step_nilCheck Sr) (Js rfl (step_fieldAddr_own so107W Sr rfl) ?_))))
 refine Js rfl (step_load_fld ty105V107 Sr rfl zS) ?_
 refine Jm rfl ?_
 refine Js rfl (step_indexAddr_own (i := (topM st.P k)) underlying105 ty168 Sr zS Sr (by rfl) (by exact htk)) ?_
 refine Js rfl (step_load_own ty168 Sr zS (gb (by first | assumption | omega))) ?_
 refine Jx rfl (step_alloc (fun w => zeroValue168 w) zr168) fun v6 => ?_
 refine Ju (step_store_box ty168 Sr Sr zS) fun _ => ?_
 refine JL_freeze (t := 6) (Sel.take (Sel.none _)) Frz.box ?_
 refine JL_nil (Jr (Jm rfl (Js rfl (step_nilCheck Sr) (Js rfl (step_fieldAddr_own so107W Sr rfl) ?_))))
 refine Js rfl (step_load_fld ty105V107 Sr rfl zS) ?_
 refine Jm rfl (Jm rfl ?_)
 refine Js rfl (step_indexAddr_own (i := (topM st.P k)) underlying105 ty168 Sr zS Sr (by rfl) (by exact htk)) ?_
 refine Js rfl (step_fieldAddr_elem (i := (topM st.P k)) so168 Sr rfl zS (by exact htk)) ?_
 refine Ju (step_store_elemfld (R := rInt) (i := (topM st.P k)) (y := (nth st.P (topM st.P k))) (y' := { nth st.P (topM st.P k) with up := ((topM st.P i) : Int) }) ty3 Sr Sr zS (gb (by exact htk)) (by exact ⟨fun _ _ q => q, rfl, by intro g hg; simp only [List.mem_cons, List.not_mem_nil, or_false] at hg; rcases hg with rfl | rfl <;> rfl⟩)) fun _ => ?_
 refine JL_nil (Jr (Js rfl (step_fieldAddr so168 Sr rfl) (Jl rfl ty4 Sr (JL_nil ?_))))
 refine J_cond Sr (fun h45 => ?_) (fun h45 => ?_)
 ·
  try simp only [NF] at h45
  refine K_lsub (L' := [bldW b sc vt vs vp vf2 (st.bad), own 168 rplace vp (lnkM st.P (topM st.P i) (topM st.P k)), own 3 rInt vf2 (if i = k then st.F ++ [(i : Int)] else st.F)]) (.c zS (SPs.rfl (A := box b 107 rbuilderW _)) (.c zS (SPs.of (A := own 168 rplace _ _) rfl) (zL))) ?_
  refine J_region (Jm rfl (Jm rfl (Js rfl (step_fieldAddr so168 Sr rfl) (Jl rfl ty87 Sr ?_))))
  refine Jx rfl (step_call (Sel.take (Sel.take (Sel.none _))) (fix_spec b sc vt vs vp vf2 st.bad (lnkM st.P (topM st.P i) (topM st.P k)) hlnk (topM st.P i) (by rw [lnk_len]; exact hti) (nth st.P (topM st.P k)).value) ⟨Sr, Sr, Sr, trivial⟩ call189) fun v50 => ?_
  refine JL_nil ?_
  have hB : bindS st i k = fixS { st with F := (if i = k then st.F ++ [(i : Int)] else st.F), P := lnkM st.P (topM st.P i) (topM st.P k) } (topM st.P i) (nth st.P (topM st.P k)).value := by unfold bindS; rw [if_neg htne, if_pos h45]
  refine K_lsub (L' := [bldW b sc vt vs vp vf2 ((bindS st i k).bad), own 168 rplace vp (bindS st i k).P, own 3 rInt vf2 (bindS st i k).F]) (.c zS (SPs.of (A := box b 107 rbuilderW _) (by rw [hB] <;> rfl)) (.c zS (SPs.of (A := own 168 rplace _ _) (by rw [hB] <;> rfl)) (.c zS (SPs.of (A := own 3 rInt _ _) (by rw [hB] <;> rfl)) (LSub.nil)))) ?_
  refine K_end0 rfl vf2 Sr
 try simp only [NF] at h45
 refine J_skip ?_
 have hB : bindS st i k = { st with F := (if i = k then st.F ++ [(i : Int)] else st.F), P := lnkM st.P (topM st.P i) (topM st.P k) } := by unfold bindS; rw [if_neg htne, if_neg (by rw [h45]; simp)]
 refine K_lsub (L' := [bldW b sc vt vs vp vf2 ((bindS st i k).bad), own 168 rplace vp (bindS st i k).P, own 3 rInt vf2 (bindS st i k).F]) (.c zS (SPs.of (A := box b 107 rbuilderW _) (by rw [hB] <;> rfl)) (.c zS (SPs.of (A := own 168 rplace _ _) (by rw [hB] <;> rfl)) (.c zS (SPs.of (A := own 3 rInt _ _) (by rw [hB] <;> rfl)) (LSub.nil)))) ?_
 refine K_end0 rfl vf2 Sr
theorem test_sides {t : GTest} {n : Int} (h : testOk t n = true) : sideM t.Left n = true ∧ sideM t.Right n = true ∧ (t.Left.Var = 0 ∨ t.Right.Var = 0) := by
  unfold testOk at h; simp only [Bool.and_eq_true, Bool.or_eq_true, decide_eq_true_eq] at h
  exact ⟨h.1.1.2, h.1.2, h.2⟩
theorem side_col {x : GSide} {n : Int} (h : sideM x n = true) (hv : x.Var ≠ -1) : 0 ≤ x.Col ∧ x.Col < n := by
  unfold sideM at h; rw [if_neg hv] at h; simp only [Bool.and_eq_true, decide_eq_true_eq] at h
  exact ⟨h.1.1.2, h.1.2⟩
theorem col_in {cols : List Int} {N : Nat} (hcb : ∀ c ∈ cols, 0 ≤ c ∧ c < N) {c : Int} (h : 0 ≤ c ∧ c < (cols.length : Nat)) : 0 ≤ c ∧ c.toNat < cols.length ∧ 0 ≤ nth cols c.toNat ∧ colAt cols c < N := by
  have h2 : c.toNat < cols.length := by omega
  have := hcb _ (nth_mem h2)
  exact ⟨h.1, h2, this.1, by unfold colAt; omega⟩
set_option maxHeartbeats 4000000 in
theorem equal_spec (b : Nat) (sc : GSchema) (vt vs vp vf : Value) (st : Bst) (h : POk st.P) (hF : st.F.length ≤ 1000000000) (t : GTest) (cols : List Int) (hcb : ∀ c ∈ cols, 0 ≤ c ∧ c < st.P.length) (ht : testOk t cols.length = true) : Spec (X := Value) prog 109 [tAt b 0, rTest.ty t, tSl rInt cols] ([bldW b sc vt vs vp vf (st.bad), own 168 rplace vp st.P, own 3 rInt vf st.F]) (fun vf2 => tTup []) (fun vf2 => [bldW b sc vt vs vp vf2 ((equalS st t cols).bad), own 168 rplace vp (equalS st t cols).P, own 3 rInt vf2 (equalS st t cols).F]) := by
 refine Spec.enter func109 rfl rfl fun h0 w0 fr0 => ?_
 have hside := test_sides ht
 have hnl := fun (q : t.Left.Var ≠ -1) => col_in hcb (side_col hside.1 q)
 have hnr := fun (q : t.Right.Var ≠ -1) => col_in hcb (side_col hside.2.1 q)
 refine Jr (Js rfl (step_box (R := rTest) Sr) (JL_nil (J_block (Jr (Js rfl (step_fieldAddr so93 Sr rfl) ?_)))))
 refine Jl rfl ty3 Sr (Js rfl (step_neq Sr Sr) (Jm rfl ?_))
 refine Jk rfl Sr rfl (step_fieldAddr so93 Sr rfl) ?_
 refine Jg rfl Sr rfl (fun hw => step_load_ptr ty3 (Sub.w hw)) (Jg rfl Sr rfl (fun hw => step_neq (Sub.w hw) Sr) (Js rfl (step_pick_or Sr Sr) (Ja rfl (JL_nil ?_))))
 refine J_cond Sr (fun h20 => ?_) (fun h20 => ?_)
 ·
  try simp only [NF] at h20
  refine J_region (Jm rfl (Js rfl (step_nilCheck Sr) (Js rfl (step_fieldAddr_own so107W Sr rfl) ?_)))
  refine Ju (step_store_fld (R := rBool) (y' := (⟨sc, vt, vs, vp, vf, true⟩ : GbuilderW)) ty4 Sr Sr zS (by exact ⟨rfl, ⟨rfl, ⟨rfl, ⟨rfl, ⟨rfl, ⟨fun _ _ q => q, rfl, by intro g hg; cases hg⟩⟩⟩⟩⟩⟩)) fun _ => ?_
  refine JL_nil ?_
  have hE : equalS st t cols = { st with bad := true } := by unfold equalS; rw [if_pos zG]
  refine K_lsub (L' := [bldW b sc vt vs vp vf ((equalS st t cols).bad), own 168 rplace vp (equalS st t cols).P, own 3 rInt vf (equalS st t cols).F]) (.c zS (SPs.of (A := box b 107 rbuilderW _) (by rw [hE] <;> rfl)) (.c zS (SPs.of (A := own 168 rplace _ _) (by rw [hE] <;> rfl)) (.c zS (SPs.of (A := own 3 rInt _ _) (by rw [hE] <;> rfl)) (LSub.nil)))) ?_
  refine K_end0 rfl vf Sr
 try simp only [NF] at h20
 have h20b : ¬ (t.Op ≠ 1 ∨ t.Add ≠ 0) := by omega
 refine Jr (Js rfl (step_fieldAddr so93 Sr rfl) (Js rfl (step_fieldAddr so91 Sr rfl) (Jl rfl ty3 Sr (Js rfl (step_eql Sr Sr) (Ja rfl ?_)))))
 refine JL_nil ?_
 refine J_cond Sr (fun h32 => ?_) (fun h32 => ?_)
 ·
  try simp only [NF] at h32
  have hrv : t.Right.Var ≠ -1 := by have := hside.2.2; omega
  obtain ⟨hr1, hr2, hr3, hr4⟩ := hnr hrv
  refine J_draw [⟨0, [0], true⟩, ⟨1, [2], true⟩, ⟨2, [4], true⟩, ⟨3, [39], true⟩, ⟨4, [40], true⟩, ⟨5, [38, 41], true⟩, ⟨6, [42], true⟩, ⟨7, [4], true⟩, ⟨8, [44], true⟩, ⟨9, [45], true⟩, ⟨10, [37, 43, 46], false⟩] rfl (by kernel_rfl) ?_
  refine Mv rfl rfl (Mv rfl rfl (Mf rfl rfl (step_fieldAddr so93 Sr rfl) (Mf rfl rfl (step_fieldAddr so91 Sr rfl) (Mf rfl rfl (step_load_ptr ty3 Sr) ?_))))
  refine Mf rfl rfl (step_indexAddr_sl (i := t.Right.Col.toNat) underlying36 ty3 Sr Sr (by show t.Right.Col = _; omega) (gb (by exact hr2))) ?_
  refine Mf rfl rfl (step_load_ptr ty3 Sr) (Mf rfl rfl (step_fieldAddr so93 Sr rfl) (Mf rfl rfl (step_fieldAddr so91 Sr rfl) (Mf rfl rfl (step_load_ptr ty87 Sr) ?_)))
  refine JM_stepX rfl rfl rfl rfl (step_call (Sel.take (Sel.take (Sel.none _))) (fix_spec b sc vt vs vp vf st.bad st.P h (colAt cols t.Right.Col) zG t.Left.Value) ⟨Sr, Sub.int (by unfold colAt; omega), Sr, trivial⟩ call189) fun v47 => ?_
  refine JM_nil ?_
  have hE : equalS st t cols = fixS st (colAt cols t.Right.Col) t.Left.Value := by unfold equalS; rw [if_neg h20b, if_pos h32]
  refine K_lsub (L' := [bldW b sc vt vs vp vf ((equalS st t cols).bad), own 168 rplace vp (equalS st t cols).P, own 3 rInt vf (equalS st t cols).F]) (.c zS (SPs.of (A := box b 107 rbuilderW _) (by rw [hE] <;> rfl)) (.c zS (SPs.of (A := own 168 rplace _ _) (by rw [hE] <;> rfl)) (.c zS (SPs.of (A := own 3 rInt _ _) (by rw [hE] <;> rfl)) (LSub.nil)))) ?_
  refine K_end0 rfl vf Sr
 try simp only [NF] at h32
 obtain ⟨hl1, hl2, hl3, hl4⟩ := hnl zG
 refine Jr (Js rfl (step_fieldAddr so93 Sr rfl) (Js rfl (step_fieldAddr so91 Sr rfl) (Jl rfl ty3 Sr (Js rfl (step_eql Sr Sr) (Ja rfl ?_)))))
 refine JL_nil ?_
 refine J_cond Sr (fun h48 => ?_) (fun h48 => ?_)
 ·
  try simp only [NF] at h48
  refine J_draw [⟨0, [0], true⟩, ⟨1, [2], true⟩, ⟨2, [4], true⟩, ⟨3, [55], true⟩, ⟨4, [56], true⟩, ⟨5, [54, 57], true⟩, ⟨6, [58], true⟩, ⟨7, [4], true⟩, ⟨8, [60], true⟩, ⟨9, [61], true⟩, ⟨10, [53, 59, 62], false⟩] rfl (by kernel_rfl) ?_
  refine Mv rfl rfl (Mv rfl rfl (Mf rfl rfl (step_fieldAddr so93 Sr rfl) (Mf rfl rfl (step_fieldAddr so91 Sr rfl) (Mf rfl rfl (step_load_ptr ty3 Sr) ?_))))
  refine Mf rfl rfl (step_indexAddr_sl (i := t.Left.Col.toNat) underlying36 ty3 Sr Sr (by show t.Left.Col = _; omega) (gb (by exact hl2))) ?_
  refine Mf rfl rfl (step_load_ptr ty3 Sr) (Mf rfl rfl (step_fieldAddr so93 Sr rfl) (Mf rfl rfl (step_fieldAddr so91 Sr rfl) (Mf rfl rfl (step_load_ptr ty87 Sr) ?_)))
  refine JM_stepX rfl rfl rfl rfl (step_call (Sel.take (Sel.take (Sel.none _))) (fix_spec b sc vt vs vp vf st.bad st.P h (colAt cols t.Left.Col) zG t.Right.Value) ⟨Sr, Sub.int (by unfold colAt; omega), Sr, trivial⟩ call189) fun v63 => ?_
  refine JM_nil ?_
  have hE : equalS st t cols = fixS st (colAt cols t.Left.Col) t.Right.Value := by unfold equalS; rw [if_neg h20b, if_neg h32, if_pos h48]
  refine K_lsub (L' := [bldW b sc vt vs vp vf ((equalS st t cols).bad), own 168 rplace vp (equalS st t cols).P, own 3 rInt vf (equalS st t cols).F]) (.c zS (SPs.of (A := box b 107 rbuilderW _) (by rw [hE] <;> rfl)) (.c zS (SPs.of (A := own 168 rplace _ _) (by rw [hE] <;> rfl)) (.c zS (SPs.of (A := own 3 rInt _ _) (by rw [hE] <;> rfl)) (LSub.nil)))) ?_
  refine K_end0 rfl vf Sr
 try simp only [NF] at h48
 obtain ⟨hr1, hr2, hr3, hr4⟩ := hnr zG
 refine J_draw [⟨0, [0], true⟩, ⟨1, [2], true⟩, ⟨2, [4], true⟩, ⟨3, [8], true⟩, ⟨4, [9], true⟩, ⟨5, [7, 10], true⟩, ⟨6, [11], true⟩, ⟨7, [2], true⟩, ⟨8, [4], true⟩, ⟨9, [14], true⟩, ⟨10, [15], true⟩, ⟨11, [13, 16], true⟩, ⟨12, [17], true⟩, ⟨13, [6, 12, 18], false⟩] rfl (by kernel_rfl) ?_
 refine Mv rfl rfl (Mv rfl rfl (Mf rfl rfl (step_fieldAddr so93 Sr rfl) (Mf rfl rfl (step_fieldAddr so91 Sr rfl) (Mf rfl rfl (step_load_ptr ty3 Sr) ?_))))
 refine Mf rfl rfl (step_indexAddr_sl (i := t.Left.Col.toNat) underlying36 ty3 Sr Sr (by show t.Left.Col = _; omega) (gb (by exact hl2))) ?_
 refine Mf rfl rfl (step_load_ptr ty3 Sr) (Mv rfl rfl (Mf rfl rfl (step_fieldAddr so93 Sr rfl) (Mf rfl rfl (step_fieldAddr so91 Sr rfl) (Mf rfl rfl (step_load_ptr ty3 Sr) ?_))))
 refine Mf rfl rfl (step_indexAddr_sl (i := t.Right.Col.toNat) underlying36 ty3 Sr Sr (by show t.Right.Col = _; omega) (gb (by exact hr2))) ?_
 refine Mf rfl rfl (step_load_ptr ty3 Sr) ?_
 refine JM_stepX rfl rfl rfl rfl (step_call (Sel.all _) (bind_spec b sc vt vs vp vf st h hF (colAt cols t.Left.Col) (colAt cols t.Right.Col) zG zG) ⟨Sr, Sub.int (by unfold colAt; omega), Sub.int (by unfold colAt; omega), trivial⟩ call116) fun v19 => ?_
 refine JM_nil ?_
 have hE : equalS st t cols = bindS st (colAt cols t.Left.Col) (colAt cols t.Right.Col) := by unfold equalS; rw [if_neg h20b, if_neg h32, if_neg h48]
 refine K_lsub (L' := [bldW b sc vt vs vp v19 ((equalS st t cols).bad), own 168 rplace vp (equalS st t cols).P, own 3 rInt v19 (equalS st t cols).F]) (.c zS (SPs.of (A := box b 107 rbuilderW _) (by rw [hE] <;> rfl)) (.c zS (SPs.of (A := own 168 rplace _ _) (by rw [hE] <;> rfl)) (.c zS (SPs.of (A := own 3 rInt _ _) (by rw [hE] <;> rfl)) (LSub.nil)))) ?_
 refine K_end0 rfl v19 Sr
open Go Go.Proofs Go.Proofs.Tryz
/-- The depth of a query. -/
def Dep : Nat → GPlan → Prop
  | 0, _ => False
  | n + 1, p => ∀ q ∈ p.Kids, Dep n q
theorem pl_dep : ∀ {n : Nat} {h : PH} {p : GPlan} {cs : List Value}, (rPlan n).rel h p cs → Dep n p
  | 0, _, _, _, r => r.elim
  | n + 1, h, p, cs, r => by
    obtain ⟨c0, _, rfl, _, c1, _, rfl, _, c2, _, rfl, r2, _⟩ := (show SF.rel h p (fsPl cPl rAttr rTest (rPlan n)) cs from r)
    obtain ⟨u, _, hu⟩ := r2
    intro q hq
    obtain ⟨ao, cap, e, H⟩ := hu
    obtain ⟨b, off, ea, H2⟩ := H (by intro z; rw [show p.Kids = [] from z] at hq; cases hq)
    obtain ⟨i, hi, rfl⟩ := List.getElem_of_mem hq
    obtain ⟨cs, _, r3⟩ := H2 i _ (List.getElem?_eq_getElem hi)
    exact pl_dep r3
def nodes : Nat → GPlan → Nat
  | 0, _ => 1
  | n + 1, p => 1 + (p.Kids.map (nodes n)).sum
def binds : Nat → GPlan → Nat
  | 0, _ => 0
  | n + 1, p => p.Tests.length + (nth p.Kids 1).Attrs.length + (p.Kids.map (binds n)).sum
structure BdInv (sc : GSchema) (s : Bst) : Prop where
  pok : POk s.P
  fin : ∀ f ∈ s.F, 0 ≤ f ∧ f < s.P.length
  ts : s.T.length = s.S.length
  tin : ∀ i, i < s.T.length → (0 ≤ nth s.T i ∧ nth s.T i < sc.Tables.length) ∧ 0 ≤ nth s.S i ∧ nth s.S i + (nth sc.Tables (nth s.T i).toNat).Attrs.length ≤ s.P.length
/-- What a step that binds leaves as it was. -/
structure Keep (s s' : Bst) (k : Nat) : Prop where
  pl : s'.P.length = s.P.length
  fl : s'.F.length ≤ s.F.length + k
  t : s'.T = s.T
  s : s'.S = s.S
theorem Keep.refl (s : Bst) : Keep s s 0 := ⟨rfl, Nat.le_refl _, rfl, rfl⟩
theorem Keep.trans {a b c : Bst} {i j : Nat} (h : Keep a b i) (k : Keep b c j) : Keep a c (i + j) :=
  ⟨k.pl.trans h.pl, by have := h.fl; have := k.fl; omega, k.t.trans h.t, k.s.trans h.s⟩
theorem Keep.le {a b : Bst} {i j : Nat} (h : Keep a b i) (hij : i ≤ j) : Keep a b j := ⟨h.pl, by have := h.fl; omega, h.t, h.s⟩
theorem BdInv.of {sc : GSchema} {s s' : Bst} {k : Nat} (h : BdInv sc s) (hk : Keep s s' k) (hp : POk s'.P) (hf : ∀ f ∈ s'.F, 0 ≤ f ∧ f < s'.P.length) : BdInv sc s' :=
  ⟨hp, hf, by rw [hk.t, hk.s]; exact h.ts, fun i hi => by rw [hk.t] at hi ⊢; rw [hk.s, hk.pl]; exact h.tin i hi⟩
theorem fix_keep (s : Bst) (i : Nat) (v : GValue) : Keep s (fixS s i v) 0 := ⟨fix_len _ _ _, Nat.le_refl _, rfl, rfl⟩
theorem fix_inv {sc : GSchema} {s : Bst} (h : BdInv sc s) {i : Nat} (hi : i < s.P.length) (v : GValue) : BdInv sc (fixS s i v) :=
  h.of (fix_keep s i v) (h.pok.fix hi v) fun f hf => by show 0 ≤ f ∧ f < ((fixM s.P i v).length : Int); rw [fix_len]; exact h.fin f hf
theorem bind_keep (s : Bst) (i k : Nat) : Keep s (bindS s i k) 1 := by
  refine ⟨bind_len s i k, ?_, ?_, ?_⟩
  · unfold bindS
    split
    · show (if i = k then s.F ++ [(i : Int)] else s.F).length ≤ _; split <;> simp
    · split
      · show (if i = k then s.F ++ [(i : Int)] else s.F).length ≤ _; split <;> simp
      · show (if i = k then s.F ++ [(i : Int)] else s.F).length ≤ _; split <;> simp
  · unfold bindS
    split
    · rfl
    · split <;> rfl
  · unfold bindS
    split
    · rfl
    · split <;> rfl
theorem bind_inv {sc : GSchema} {s : Bst} (h : BdInv sc s) {i k : Nat} (hi : i < s.P.length) (hk : k < s.P.length) : BdInv sc (bindS s i k) := by
  refine h.of (bind_keep s i k) (h.pok.bind hi hk) fun f hf => ?_
  rw [bind_len]
  have hF : (bindS s i k).F = if i = k then s.F ++ [(i : Int)] else s.F := by
    unfold bindS
    split
    · rfl
    · split <;> rfl
  rw [hF] at hf
  split at hf
  · rcases List.mem_append.1 hf with hf | hf
    · exact h.fin f hf
    · rw [List.mem_singleton.1 hf]; omega
  · exact h.fin f hf
theorem equal_keep (s : Bst) (t : GTest) (cols : List Int) : Keep s (equalS s t cols) 1 := by
  unfold equalS
  split
  · exact ⟨rfl, by show s.F.length ≤ _; omega, rfl, rfl⟩
  · split
    · exact (fix_keep _ _ _).le (by omega)
    · split
      · exact (fix_keep _ _ _).le (by omega)
      · exact bind_keep _ _ _
theorem equal_inv {sc : GSchema} {s : Bst} (h : BdInv sc s) {t : GTest} {cols : List Int} (hcb : ∀ c ∈ cols, 0 ≤ c ∧ c < s.P.length) (ht : testOk t cols.length = true) : BdInv sc (equalS s t cols) := by
  have hs := test_sides ht
  have hl := fun (q : t.Left.Var ≠ -1) => col_in hcb (side_col hs.1 q)
  have hr := fun (q : t.Right.Var ≠ -1) => col_in hcb (side_col hs.2.1 q)
  unfold equalS
  split
  · exact ⟨h.pok, h.fin, h.ts, h.tin⟩
  · split
    · rename_i q
      exact fix_inv h (hr (by have := hs.2.2; omega)).2.2.2 _
    · rename_i q
      split
      · exact fix_inv h (hl q).2.2.2 _
      · rename_i q2
        exact bind_inv h (hl q).2.2.2 (hr q2).2.2.2
theorem tests_ok {sc : GSchema} {cols : List Int} : ∀ {l : List GTest} {s : Bst}, BdInv sc s → (∀ c ∈ cols, 0 ≤ c ∧ c < s.P.length) → (∀ t ∈ l, testOk t cols.length = true) →
    BdInv sc (l.foldl (fun s t => equalS s t cols) s) ∧ Keep s (l.foldl (fun s t => equalS s t cols) s) l.length
  | [], s, h, _, _ => ⟨h, Keep.refl s⟩
  | t :: l, s, h, hc, ht => by
    have h1 := equal_inv h hc (ht t List.mem_cons_self)
    have hk := equal_keep s t cols
    obtain ⟨h2, h3⟩ := tests_ok (l := l) h1 (fun c hc' => by rw [hk.pl]; exact hc c hc') (fun t' ht' => ht t' (List.mem_cons_of_mem _ ht'))
    exact ⟨h2, (hk.trans h3).le (by simp; omega)⟩
/-- Tables. -/
theorem newPl_len (n k : Nat) : (newPl n k).length = k := by simp [newPl]
theorem newPl_nth {n k j : Nat} (h : j < k) : nth (newPl n k) j = ⟨((n + j : Nat) : Int), ⟨0, 0, ⟨#[]⟩⟩, false⟩ := by
  rw [nth_get (by rw [newPl_len]; exact h)]; simp [newPl]
theorem nth_app1 {α : Type} [Inhabited α] {a b : List α} {i : Nat} (h : i < a.length) : nth (a ++ b) i = nth a i := by
  rw [nth_get (by rw [List.length_append]; omega), nth_get h]; exact List.getElem_append_left h
theorem nth_app2 {α : Type} [Inhabited α] {a b : List α} {i : Nat} (h : a.length ≤ i) (h2 : i < a.length + b.length) : nth (a ++ b) i = nth b (i - a.length) := by
  rw [nth_get (by rw [List.length_append]; omega), nth_get (by omega)]; exact List.getElem_append_right h
theorem POk.new {P : List Gplace} (h : POk P) (k : Nat) : POk (P ++ newPl P.length k) := by
  have hup : ∀ i, i < P.length → upN (P ++ newPl P.length k) i = upN P i := fun i hi => by unfold upN; rw [nth_app1 hi]
  have hup2 : ∀ i, P.length ≤ i → i < P.length + k → upN (P ++ newPl P.length k) i = i := fun i hi hi2 => by
    unfold upN; rw [nth_app2 hi (by rw [newPl_len]; exact hi2), newPl_nth (by omega)]
    show (((P.length + (i - P.length) : Nat) : Int)).toNat = i; omega
  obtain ⟨r, hr⟩ := h.acy
  refine ⟨⟨r, fun i hi => ?_⟩, fun i hi => ?_⟩
  · rw [List.length_append, newPl_len] at hi ⊢
    by_cases e : i < P.length
    · rw [hup i e]; have := hr i e; exact ⟨by omega, this.2⟩
    · rw [hup2 i (by omega) hi]; exact ⟨hi, .inl rfl⟩
  · rw [List.length_append, newPl_len] at hi
    by_cases e : i < P.length
    · rw [nth_app1 e]; exact h.nn i e
    · rw [nth_app2 (by omega) (by rw [newPl_len]; omega), newPl_nth (by omega)]; show (0 : Int) ≤ ((_ : Nat) : Int); omega
theorem newIx_len (n k : Nat) : (newIx n k).length = k := by simp [newIx]
theorem newIx_in {n k : Nat} {x : Int} (h : x ∈ newIx n k) : 0 ≤ x ∧ x < ((n + k : Nat) : Int) := by
  obtain ⟨j, hj, rfl⟩ := List.mem_map.1 h
  have := List.mem_range.1 hj
  omega
theorem table_inv {sc : GSchema} {s : Bst} (h : BdInv sc s) {t : Int} (ht : 0 ≤ t ∧ t < sc.Tables.length) : BdInv sc (tableS sc s t) := by
  refine ⟨h.pok.new _, fun f hf => ?_, ?_, fun i hi => ?_⟩
  · have := h.fin f hf
    show 0 ≤ f ∧ f < ((s.P ++ newPl _ _).length : Int)
    rw [List.length_append]; omega
  · show (s.T ++ [t]).length = (s.S ++ [(s.P.length : Int)]).length
    simp [h.ts]
  · have hi : i < s.T.length + 1 := by have : (s.T ++ [t]).length = s.T.length + 1 := by simp
                                       have hi : i < (s.T ++ [t]).length := hi
                                       omega
    show (0 ≤ nth (s.T ++ [t]) i ∧ nth (s.T ++ [t]) i < _) ∧ 0 ≤ nth (s.S ++ [(s.P.length : Int)]) i ∧ nth (s.S ++ [(s.P.length : Int)]) i + ((nth sc.Tables (nth (s.T ++ [t]) i).toNat).Attrs.length : Int) ≤ ((s.P ++ newPl _ _).length : Int)
    rw [List.length_append, newPl_len]
    by_cases e : i < s.T.length
    · rw [nth_app1 e, nth_app1 (by rw [← h.ts]; exact e)]
      have := h.tin i e
      exact ⟨this.1, this.2.1, by have := this.2.2; omega⟩
    · have e2 : i = s.T.length := by omega
      subst e2
      rw [nth_app2 (Nat.le_refl _) (by simp)]
      have e3 : nth (s.S ++ [(s.P.length : Int)]) s.T.length = (s.P.length : Int) := by rw [h.ts, nth_app2 (Nat.le_refl _) (by simp)]; simp [nth]
      rw [e3]
      simp only [Nat.sub_self, nth]
      exact ⟨ht, by omega, by omega⟩
/-- Joins. -/
theorem joinS_ok {sc : GSchema} {a : List GAttr} {k0 k1 : List Int} : ∀ {l : List (GAttr × Int)} {s : Bst} {o : List Int}, BdInv sc s → (∀ c ∈ k0, 0 ≤ c ∧ c < s.P.length) → k0.length = a.length → (∀ c ∈ o, 0 ≤ c ∧ c < s.P.length) → (∀ x ∈ l, 0 ≤ x.2 ∧ x.2 < s.P.length) →
    BdInv sc (l.foldl (joinStep a k0 k1) (s, o)).1 ∧ Keep s (l.foldl (joinStep a k0 k1) (s, o)).1 l.length ∧ (∀ c ∈ (l.foldl (joinStep a k0 k1) (s, o)).2, 0 ≤ c ∧ c < s.P.length) ∧
      (l.foldl (joinStep a k0 k1) (s, o)).2.length = o.length + (l.filter fun x => decide (columnL a x.1.Name < 0)).length
  | [], s, o, h, _, _, ho, _ => ⟨h, Keep.refl s, ho, by simp⟩
  | x :: l, s, o, h, h0, hl, ho, hx => by
    have hx0 := hx x List.mem_cons_self
    have hxs := fun y hy => hx y (List.mem_cons_of_mem _ hy)
    rw [List.foldl_cons]
    by_cases hc : 0 ≤ columnL a x.1.Name
    · have e : joinStep a k0 k1 (s, o) x = (bindS s (colAt k0 (columnL a x.1.Name)) x.2.toNat, o) := by unfold joinStep; rw [if_pos hc]
      rw [e]
      have hcl := col_lt a x.1.Name
      have hci := col_in h0 (c := columnL a x.1.Name) ⟨hc, by omega⟩
      have h1 := bind_inv h hci.2.2.2 (show x.2.toNat < s.P.length by omega)
      have hk := bind_keep s (colAt k0 (columnL a x.1.Name)) x.2.toNat
      obtain ⟨g1, g2, g3, g4⟩ := joinS_ok (l := l) (o := o) h1 (by rw [hk.pl]; exact h0) hl (by rw [hk.pl]; exact ho) (by rw [hk.pl]; exact hxs)
      refine ⟨g1, (hk.trans g2).le (by simp; omega), by rw [hk.pl] at g3; exact g3, ?_⟩
      rw [g4, List.filter_cons_of_neg (by simpa using hc)]
    · have e : joinStep a k0 k1 (s, o) x = (s, o ++ [x.2]) := by unfold joinStep; rw [if_neg hc]
      rw [e]
      obtain ⟨g1, g2, g3, g4⟩ := joinS_ok (l := l) (o := o ++ [x.2]) h h0 hl (fun c hc' => by
        rcases List.mem_append.1 hc' with q | q
        · exact ho c q
        · rw [List.mem_singleton.1 q]; exact hx0) hxs
      refine ⟨g1, g2.le (by simp), g3, ?_⟩
      rw [g4, List.filter_cons_of_pos (by simp; omega)]; simp; omega
open Go Go.Proofs Go.Proofs.Tryz
theorem alike_len {a b : List GAttr} (h : alikeM a b = true) : a.length = b.length := by
  unfold alikeM eqL at h; simp only [Bool.and_eq_true, decide_eq_true_eq] at h; exact h.1
theorem valid_in {s : GSchema} {l : Nat} {p : GPlan} (h : validM s l p = true) : ∃ l', l = l' + 1 ∧ kindOk p.Kind = true ∧ (p.Kids.length : Int) = kidsN p.Kind ∧ (∀ q ∈ p.Kids, validM s l' q = true) ∧ (colsM s p).2 = true ∧ (colsM s p).1.length = p.Attrs.length := by
  cases l with
  | zero => simp [validM] at h
  | succ l =>
    simp only [validM, Bool.and_eq_true, decide_eq_true_eq, List.all_eq_true] at h
    exact ⟨l, rfl, h.1.1.1.1.1, h.1.1.1.1.2, h.1.1.1.2, h.2.1, alike_len h.2.2⟩
section
variable {s : GSchema} {l : Nat} {p : GPlan}
theorem vk1 (h : validM s l p = true) (hk : p.Kind = 1) : (0 ≤ p.Table ∧ p.Table < s.Tables.length) ∧ p.Attrs.length = (nth s.Tables p.Table.toNat).Attrs.length := by
  obtain ⟨l', _, _, _, _, h1, h2⟩ := valid_in h
  have e : colsM s p = if 0 ≤ p.Table ∧ p.Table < s.Tables.length then (tableL (nth s.Tables p.Table.toNat) p.Attrs, true) else ([], false) := by simp [colsM, hk]
  rw [e] at h1 h2
  split at h1
  · rename_i q
    rw [if_pos q] at h2
    exact ⟨q, by rw [← h2]; simp [tableL]⟩
  · cases h1
theorem vk2 (h : validM s l p = true) (hk : p.Kind = 2) : p.Kids.length = 1 ∧ (∀ t ∈ p.Tests, testOk t (nth p.Kids 0).Attrs.length = true) ∧ p.Attrs.length = (nth p.Kids 0).Attrs.length := by
  obtain ⟨l', _, _, hn, _, h1, h2⟩ := valid_in h
  have e : colsM s p = ((nth p.Kids 0).Attrs, decide (0 < (p.Tests.length : Int)) && !(p.Tests.any fun t => !testOk t (nth p.Kids 0).Attrs.length)) := by simp [colsM, hk]
  rw [e] at h1 h2
  rw [hk] at hn
  simp [kidsN] at hn
  simp only [Bool.and_eq_true, Bool.not_eq_true', List.any_eq_false] at h1
  exact ⟨by omega, fun t ht => by simpa using h1.2 t ht, h2.symm⟩
theorem vk3 (h : validM s l p = true) (hk : p.Kind = 3) : p.Kids.length = 1 ∧ (∀ c ∈ p.Cols, 0 ≤ c ∧ c < (nth p.Kids 0).Attrs.length) ∧ p.Attrs.length = p.Cols.length := by
  obtain ⟨l', _, _, hn, _, h1, h2⟩ := valid_in h
  have e : colsM s p = (pickM (nth p.Kids 0).Attrs p.Cols, pickOk (nth p.Kids 0).Attrs.length p.Cols) := by simp [colsM, hk]
  rw [e] at h1 h2
  rw [hk] at hn
  simp [kidsN] at hn
  have h3 := h1
  simp only [pickOk, List.all_eq_true, Bool.and_eq_true, decide_eq_true_eq] at h1
  refine ⟨by omega, h1, ?_⟩
  rw [← h2]
  show (pickM _ _).length = _
  rw [pickM, if_pos h3]; simp [pickL]
theorem vk4 (h : validM s l p = true) (hk : p.Kind = 4) : p.Kids.length = 2 ∧ p.Attrs.length = (joinL (nth p.Kids 0).Attrs (nth p.Kids 1).Attrs).length := by
  obtain ⟨l', _, _, hn, _, h1, h2⟩ := valid_in h
  have e : colsM s p = if joinOk (nth p.Kids 0).Attrs (nth p.Kids 1).Attrs = true then (joinL (nth p.Kids 0).Attrs (nth p.Kids 1).Attrs, true) else ([], false) := by simp [colsM, hk]
  rw [e] at h1 h2
  rw [hk] at hn
  simp [kidsN] at hn
  split at h1
  · rename_i q
    rw [if_pos q] at h2
    exact ⟨by omega, h2.symm⟩
  · cases h1
theorem vk7 (h : validM s l p = true) (hk : p.Kind = 7) : p.Kids.length = 1 ∧ p.Attrs.length = (nth p.Kids 0).Attrs.length := by
  obtain ⟨l', _, _, hn, _, h1, h2⟩ := valid_in h
  have e : colsM s p = if renOk p = true then (renL p, true) else ([], false) := by simp [colsM, hk]
  rw [e] at h1 h2
  rw [hk] at hn
  simp [kidsN] at hn
  split at h1
  · rename_i q
    rw [if_pos q] at h2
    exact ⟨by omega, by rw [← h2]; simp [renL]⟩
  · cases h1
end
theorem sch_attrs {s : GSchema} (h : schM s = true) {i : Nat} (hi : i < s.Tables.length) : (nth s.Tables i).Attrs.length ≤ 12 := by
  unfold schM at h
  simp only [Bool.and_eq_true, decide_eq_true_eq] at h
  have h1 := rall_iff.1 h.2 i hi
  simp only [Bool.and_eq_true] at h1
  have h2 := h1.1
  unfold rightM szT at h2
  simp only [Bool.and_eq_true, decide_eq_true_eq] at h2
  exact h2.1.1.1.1.2.2.1
structure WOk (sc : GSchema) (n : Nat) (s : Bst) (p : GPlan) (r : Bst × List Int) : Prop where
  inv : BdInv sc r.1
  pl : s.P.length ≤ r.1.P.length
  pm : r.1.P.length ≤ s.P.length + 12 * nodes n p
  fl : r.1.F.length ≤ s.F.length + binds n p
  tl : r.1.T.length ≤ s.T.length + nodes n p
  li : r.1.bad = false → r.2.length = p.Attrs.length ∧ ∀ x ∈ r.2, 0 ≤ x ∧ x < r.1.P.length
structure KOk (sc : GSchema) (n : Nat) (s : Bst) (l : List GPlan) (r : Bst × List (List Int)) : Prop where
  inv : BdInv sc r.1
  pl : s.P.length ≤ r.1.P.length
  pm : r.1.P.length ≤ s.P.length + 12 * (l.map (nodes n)).sum
  fl : r.1.F.length ≤ s.F.length + (l.map (binds n)).sum
  tl : r.1.T.length ≤ s.T.length + (l.map (nodes n)).sum
  le : r.2.length ≤ l.length
  li : r.1.bad = false → r.2.length = l.length ∧ ∀ i, i < l.length → (nth r.2 i).length = (nth l i).Attrs.length ∧ ∀ x ∈ nth r.2 i, 0 ≤ x ∧ x < r.1.P.length
theorem kids_ok {sc : GSchema} {n : Nat} {f : Bst → GPlan → Bst × List Int} : ∀ {l : List GPlan} {s : Bst}, (∀ q ∈ l, ∀ s, BdInv sc s → WOk sc n s q (f s q)) → BdInv sc s → KOk sc n s l (kidsS f s l)
  | [], s, _, h => ⟨h, Nat.le_refl _, by simp [kidsS], by simp [kidsS], by simp [kidsS], by simp [kidsS], fun _ => ⟨by simp [kidsS], fun i hi => by simp at hi⟩⟩
  | q :: l, s, hf, h => by
    have h1 := hf q List.mem_cons_self s h
    have hl1 := h1.pl; have hl2 := h1.pm; have hl3 := h1.fl; have hl4 := h1.tl
    have hs1 : ((q :: l).map (nodes n)).sum = nodes n q + (l.map (nodes n)).sum := by simp
    have hs2 : ((q :: l).map (binds n)).sum = binds n q + (l.map (binds n)).sum := by simp
    unfold kidsS
    by_cases hb : (f s q).1.bad = true
    · rw [if_pos hb]
      refine ⟨h1.inv, h1.pl, ?_, ?_, ?_, by simp, fun e => by rw [show (f s q).1.bad = false from e] at hb; cases hb⟩
      · show (f s q).1.P.length ≤ _; rw [hs1]; omega
      · show (f s q).1.F.length ≤ _; rw [hs2]; omega
      · show (f s q).1.T.length ≤ _; rw [hs1]; omega
    · rw [if_neg hb]
      have hb' : (f s q).1.bad = false := Bool.eq_false_iff.2 hb
      have h2 := kids_ok (l := l) (fun q' hq' => hf q' (List.mem_cons_of_mem _ hq')) h1.inv
      have hk1 := h2.pl; have hk2 := h2.pm; have hk3 := h2.fl; have hk4 := h2.tl; have hk5 := h2.le
      refine ⟨h2.inv, by show s.P.length ≤ (kidsS f (f s q).1 l).1.P.length; omega, ?_, ?_, ?_, ?_, fun e => ?_⟩
      · show (kidsS f (f s q).1 l).1.P.length ≤ _; rw [hs1]; omega
      · show (kidsS f (f s q).1 l).1.F.length ≤ _; rw [hs2]; omega
      · show (kidsS f (f s q).1 l).1.T.length ≤ _; rw [hs1]; omega
      · show ((f s q).2 :: (kidsS f (f s q).1 l).2).length ≤ _; simp; omega
      · have e : (kidsS f (f s q).1 l).1.bad = false := e
        obtain ⟨g1, g2⟩ := h2.li e
        obtain ⟨g3, g4⟩ := h1.li hb'
        refine ⟨by show ((f s q).2 :: (kidsS f (f s q).1 l).2).length = _; simp [g1], fun i hi => ?_⟩
        cases i with
        | zero => exact ⟨g3, fun x hx => by have := g4 x hx; show 0 ≤ x ∧ x < ((kidsS f (f s q).1 l).1.P.length : Int); omega⟩
        | succ i => exact g2 i (by simpa using hi)
theorem kids_stop {f : Bst → GPlan → Bst × List Int} {l2 : List GPlan} : ∀ {l1 : List GPlan} {s : Bst}, s.bad = false → (kidsS f s l1).1.bad = true → kidsS f s (l1 ++ l2) = kidsS f s l1
  | [], s, h, h1 => by rw [show (kidsS f s []).1.bad = s.bad from rfl, h] at h1; cases h1
  | q :: l1, s, h, h1 => by
    rw [List.cons_append]
    unfold kidsS at h1 ⊢
    by_cases hb : (f s q).1.bad = true
    · rw [if_pos hb, if_pos hb]
    · rw [if_neg hb] at h1 ⊢
      rw [if_neg hb, kids_stop (Bool.eq_false_iff.2 hb) h1]
theorem kids_snoc {f : Bst → GPlan → Bst × List Int} {q : GPlan} : ∀ {l : List GPlan} {s : Bst}, s.bad = false → (kidsS f s l).1.bad = false →
    kidsS f s (l ++ [q]) = ((f (kidsS f s l).1 q).1, if (f (kidsS f s l).1 q).1.bad = true then (kidsS f s l).2 else (kidsS f s l).2 ++ [(f (kidsS f s l).1 q).2])
  | [], s, h, _ => by
    show kidsS f s [q] = _
    unfold kidsS
    by_cases hb : (f s q).1.bad = true
    · rw [if_pos hb]; simp [kidsS, hb]
    · rw [if_neg hb]; simp [kidsS, hb]
  | x :: l, s, h, h1 => by
    rw [List.cons_append]
    by_cases hb : (f s x).1.bad = true
    · exfalso
      unfold kidsS at h1; rw [if_pos hb] at h1
      rw [show (f s x).1.bad = false from h1] at hb; cases hb
    · have e1 : ∀ m, kidsS f s (x :: m) = ((kidsS f (f s x).1 m).1, (f s x).2 :: (kidsS f (f s x).1 m).2) := fun m => by
        conv => lhs; unfold kidsS
        rw [if_neg hb]
      rw [e1] at h1 ⊢
      rw [e1]
      have ih := kids_snoc (q := q) (l := l) (Bool.eq_false_iff.2 hb) h1
      rw [ih]
      refine Prod.ext rfl ?_
      show (f s x).2 :: (if _ then _ else _) = if _ then _ else _
      split <;> simp
theorem zip_mem {α β : Type} {a : List α} {b : List β} {x : α × β} (h : x ∈ a.zip b) : x.2 ∈ b := (List.of_mem_zip h).2
theorem join_cnt {a : List GAttr} : ∀ {b : List GAttr} {k : List Int}, k.length = b.length → ((b.zip k).filter fun x => decide (columnL a x.1.Name < 0)).length = (b.filter fun x => decide (columnL a x.Name < 0)).length
  | [], _, _ => by simp
  | x :: b, [], h => by simp at h
  | x :: b, y :: k, h => by
    have ih := join_cnt (a := a) (b := b) (k := k) (by simpa using h)
    rw [List.zip_cons_cons]
    by_cases hc : columnL a x.Name < 0
    · rw [List.filter_cons_of_pos (by simpa using hc), List.filter_cons_of_pos (by simpa using hc), List.length_cons, List.length_cons, ih]
    · rw [List.filter_cons_of_neg (by simpa using hc), List.filter_cons_of_neg (by simpa using hc), ih]
theorem act_ok {sc : GSchema} (hs : schM sc = true) {n l : Nat} {p : GPlan} {s s0 : Bst} {ks : List (List Int)} (hv : validM sc l p = true) (hw : walkable p.Kind = true) (hk : KOk sc n s0 p.Kids (s, ks)) (hb : s.bad = false) : WOk sc (n + 1) s0 p (actS sc p s ks) := by
  obtain ⟨h1, h2⟩ := hk.li hb
  have hi : BdInv sc s := hk.inv
  have k1 : s0.P.length ≤ s.P.length := hk.pl
  have k2 : s.P.length ≤ s0.P.length + 12 * (p.Kids.map (nodes n)).sum := hk.pm
  have k3 : s.F.length ≤ s0.F.length + (p.Kids.map (binds n)).sum := hk.fl
  have k4 : s.T.length ≤ s0.T.length + (p.Kids.map (nodes n)).sum := hk.tl
  have en : nodes (n + 1) p = 1 + (p.Kids.map (nodes n)).sum := rfl
  have eb : binds (n + 1) p = p.Tests.length + (nth p.Kids 1).Attrs.length + (p.Kids.map (binds n)).sum := rfl
  have h1 : ks.length = p.Kids.length := h1
  have h2 : ∀ i, i < p.Kids.length → (nth ks i).length = (nth p.Kids i).Attrs.length ∧ ∀ x ∈ nth ks i, 0 ≤ x ∧ x < s.P.length := h2
  have keep : ∀ {s' : Bst} {o : List Int} {k : Nat}, Keep s s' k → BdInv sc s' → k ≤ p.Tests.length + (nth p.Kids 1).Attrs.length → o.length = p.Attrs.length → (∀ x ∈ o, 0 ≤ x ∧ x < s.P.length) → WOk sc (n + 1) s0 p (s', o) := by
    intro s' o k hkp hinv hle hlen hin
    have e1 := hkp.pl; have e2 := hkp.fl; have e3 := hkp.t
    refine ⟨hinv, ?_, ?_, ?_, ?_, fun _ => ⟨hlen, ?_⟩⟩
    · show s0.P.length ≤ s'.P.length; omega
    · show s'.P.length ≤ _; rw [en]; omega
    · show s'.F.length ≤ _; rw [eb]; omega
    · show s'.T.length ≤ _; rw [e3, en]; omega
    · show ∀ x ∈ o, 0 ≤ x ∧ x < (s'.P.length : Int); rw [e1]; exact hin
  unfold actS
  by_cases c1 : p.Kind = 1
  · rw [if_pos c1]
    obtain ⟨ht, hl⟩ := vk1 hv c1
    have h12 := sch_attrs hs (i := p.Table.toNat) (by omega)
    refine ⟨table_inv hi ht, ?_, ?_, ?_, ?_, fun _ => ⟨?_, ?_⟩⟩
    · show s0.P.length ≤ (s.P ++ newPl _ _).length; rw [List.length_append]; omega
    · show (s.P ++ newPl _ _).length ≤ _; rw [List.length_append, newPl_len, en]; omega
    · show s.F.length ≤ _; rw [eb]; omega
    · show (s.T ++ [p.Table]).length ≤ _; rw [List.length_append, List.length_singleton, en]; omega
    · show (newIx _ _).length = _; rw [newIx_len, hl]
    · intro x hx
      have := newIx_in hx
      show 0 ≤ x ∧ x < ((s.P ++ newPl _ _).length : Int)
      rw [List.length_append, newPl_len]; omega
  rw [if_neg c1]
  by_cases c2 : p.Kind = 2
  · rw [if_pos c2]
    obtain ⟨hn, ht, hl⟩ := vk2 hv c2
    have h0 := h2 0 (by omega)
    obtain ⟨g1, g2⟩ := tests_ok (cols := nth ks 0) (l := p.Tests) hi h0.2 (by rw [h0.1]; exact ht)
    exact keep g2 g1 (by omega) (by rw [h0.1, hl]) h0.2
  rw [if_neg c2]
  by_cases c3 : p.Kind = 3
  · rw [if_pos c3]
    obtain ⟨hn, ht, hl⟩ := vk3 hv c3
    have h0 := h2 0 (by omega)
    refine keep (Keep.refl s) hi (by omega) (by rw [List.length_map, hl]) fun x hx => ?_
    obtain ⟨c, hc, rfl⟩ := List.mem_map.1 hx
    have := ht c hc
    exact h0.2 _ (nth_mem (by rw [h0.1]; omega))
  rw [if_neg c3]
  by_cases c4 : p.Kind = 4
  · rw [if_pos c4]
    obtain ⟨hn, hl⟩ := vk4 hv c4
    have h0 := h2 0 (by omega)
    have h1' := h2 1 (by omega)
    obtain ⟨g1, g2, g3, g4⟩ := joinS_ok (sc := sc) (a := (nth p.Kids 0).Attrs) (k0 := nth ks 0) (k1 := nth ks 1) (l := (nth p.Kids 1).Attrs.zip (nth ks 1)) (o := nth ks 0) hi h0.2 h0.1 h0.2 (fun x hx => h1'.2 _ (zip_mem hx))
    have hz : ((nth p.Kids 1).Attrs.zip (nth ks 1)).length = (nth p.Kids 1).Attrs.length := by rw [List.length_zip, h1'.1]; simp
    rw [hz] at g2
    refine keep g2 g1 (by omega) ?_ g3
    show ((((nth p.Kids 1).Attrs.zip (nth ks 1)).foldl _ (s, nth ks 0)).2).length = _
    rw [g4, hl, join_cnt h1'.1, h0.1]; unfold joinL; rw [List.length_append]
  rw [if_neg c4]
  have c7 : p.Kind = 7 := by unfold walkable at hw; simp only [Bool.or_eq_true, decide_eq_true_eq] at hw; omega
  obtain ⟨hn, hl⟩ := vk7 hv c7
  have h0 := h2 0 (by omega)
  exact keep (Keep.refl s) hi (by omega) (by rw [h0.1, hl]) h0.2
theorem WOk.bad {sc : GSchema} {n : Nat} {p : GPlan} {s s0 : Bst} {ks : List (List Int)} (hk : KOk sc n s0 p.Kids (s, ks)) (hb : s.bad = true) : WOk sc (n + 1) s0 p (s, []) := by
  have k1 : s0.P.length ≤ s.P.length := hk.pl
  have k2 : s.P.length ≤ s0.P.length + 12 * (p.Kids.map (nodes n)).sum := hk.pm
  have k3 : s.F.length ≤ s0.F.length + (p.Kids.map (binds n)).sum := hk.fl
  have k4 : s.T.length ≤ s0.T.length + (p.Kids.map (nodes n)).sum := hk.tl
  have en : nodes (n + 1) p = 1 + (p.Kids.map (nodes n)).sum := rfl
  have eb : binds (n + 1) p = p.Tests.length + (nth p.Kids 1).Attrs.length + (p.Kids.map (binds n)).sum := rfl
  refine ⟨hk.inv, k1, ?_, ?_, ?_, fun e => by rw [show s.bad = false from e] at hb; cases hb⟩
  · show s.P.length ≤ _; rw [en]; omega
  · show s.F.length ≤ _; rw [eb]; omega
  · show s.T.length ≤ _; rw [en]; omega
theorem walk_ok {sc : GSchema} (hs : schM sc = true) : ∀ {n l : Nat} {p : GPlan} {s : Bst}, Dep n p → validM sc l p = true → BdInv sc s → WOk sc n s p (walkS sc n s p)
  | 0, _, _, _, hd, _, _ => hd.elim
  | n + 1, l, p, s, hd, hv, hi => by
    obtain ⟨l', rfl, _, _, hvk, _, _⟩ := valid_in hv
    have hk : KOk sc n s p.Kids (kidsS (walkS sc n) s p.Kids) := kids_ok (fun q hq s' hs' => walk_ok hs (hd q hq) (hvk q hq) hs') hi
    unfold walkS
    by_cases hw : walkable p.Kind = false
    · rw [if_pos hw]
      have en : nodes (n + 1) p = 1 + (p.Kids.map (nodes n)).sum := rfl
      exact ⟨⟨hi.pok, hi.fin, hi.ts, hi.tin⟩, Nat.le_refl _, by show s.P.length ≤ _; omega, by show s.F.length ≤ _; omega, by show s.T.length ≤ _; omega, fun e => by cases e⟩
    · rw [if_neg hw]
      by_cases hb : (kidsS (walkS sc n) s p.Kids).1.bad = true
      · rw [if_pos hb]; exact WOk.bad hk hb
      · rw [if_neg hb]; exact act_ok hs hv (by simpa using hw) hk (Bool.eq_false_iff.2 hb)
open Go Go.Proofs Go.Proofs.Tryz
theorem at_one {b : Nat} : ∀ h v, (tAt b 0).p h v → v.oneCell' = true := by rintro h v e; rw [show v = .pointer (some ⟨b, 0, none⟩) from e]; rfl
theorem ty104T {A : Ty} {ho : ∀ h v, A.p h v → v.oneCell' = true} : TyOf prog 104 (rTyp A ho) := ⟨fun w => isAgg104 w, fun w => sizeOf104 w⟩
abbrev CB (b : Nat) : Ty := tPtr (rTyp (tAt b 0) at_one) ()
/-- A builder that is one's own. -/
def bsS (b : Nat) (sc : GSchema) (s : Bst) : SP := SP.ex fun z : Value × Value × Value × Value => stars [bldW b sc z.1 z.2.1 z.2.2.1 z.2.2.2 s.bad, own 168 rplace z.2.2.1 s.P, own 3 rInt z.2.2.2 s.F, own 3 rInt z.1 s.T, own 3 rInt z.2.1 s.S]
theorem LSub.bs {b : Nat} {sc : GSchema} {s : Bst} {vt vs vp vf : Value} {L : List SP} : LSub (bldW b sc vt vs vp vf s.bad :: own 168 rplace vp s.P :: own 3 rInt vf s.F :: own 3 rInt vt s.T :: own 3 rInt vs s.S :: L) (bsS b sc s :: L) :=
  LSub.ex (vt, vs, vp, vf) (LSub.stars LSub.rfl)
theorem K_bs {b : Nat} {sc : GSchema} {s : Bst} {C : Cx} {k : Act → World → Prop} {E : Env} {L : List SP} (hk : ∀ vt vs vp vf, K C k E (bldW b sc vt vs vp vf s.bad :: own 168 rplace vp s.P :: own 3 rInt vf s.F :: own 3 rInt vt s.T :: own 3 rInt vs s.S :: L)) : K C k E (bsS b sc s :: L) :=
  K_ex fun ⟨vt, vs, vp, vf⟩ => K_stars (hk vt vs vp vf)
theorem Sub.eqT {A B : Ty} (h : A = B) : Sub A B := h ▸ Sr
abbrev selI (l : List GTest) (cols : List Int) (s : Bst) (i : Nat) : Bst := (l.take i).foldl (fun s t => equalS s t cols) s
abbrev joinI (a b : List GAttr) (k0 k1 : List Int) (s : Bst) (i : Nat) : Bst × List Int := ((b.zip k1).take i).foldl (joinStep a k0 k1) (s, k0)
theorem zip_len {α β : Type} {a : List α} {b : List β} (h : b.length = a.length) : (a.zip b).length = a.length := by rw [List.length_zip, h]; simp
theorem zip_nth {α β : Type} [Inhabited α] [Inhabited β] {a : List α} {b : List β} {i : Nat} (h : i < a.length) (h2 : i < b.length) : nth (a.zip b) i = (nth a i, nth b i) := by
  rw [nth_get (by rw [List.length_zip]; omega), nth_get h, nth_get h2, List.getElem_zip]
theorem newIx_snoc (n i : Nat) : newIx n (i + 1) = newIx n i ++ [((n + i : Nat) : Int)] := by simp [newIx, List.range_succ]
theorem newPl_snoc (n i : Nat) : newPl n (i + 1) = newPl n i ++ [⟨((n + i : Nat) : Int), ⟨0, 0, ⟨#[]⟩⟩, false⟩] := by simp [newPl, List.range_succ]
theorem CloneL_spec (l : List Int) (hl : l.length ≤ 1000000000) : Spec (X := Value) prog 113 [tSl rInt l] ([]) (fun v => rV.ty v) (fun v => [own 3 rInt v l]) := by
 refine Spec.enter func113 rfl rfl fun h0 w0 fr0 => ?_
 refine Jr (Ja rfl (JL_nil (J_seq (Jr (Jm rfl ?_)))))
 refine Jx rfl (step_eql_slnil underlying36 Sr) fun v4 => ?_
 refine JL_nil ?_
 refine J_cond Sr (fun h4 => ?_) (fun h4 => ?_)
 ·
  try simp only [NF] at h4
  refine Jr (Ja rfl (JL_nil (J_ret ?_)))
  have hl0 := v4.2 h4
  subst hl0
  refine K_lsub (LSub.nilown (e := 3) (R := rInt)) ?_
  refine K_ret1' (rv := .tmp 2) rfl (.slice none 0 0) (Sel.none _) (.tmp (Sub.rV rfl)) (Frz.sub Sr)
 try simp only [NF] at h4
 refine J_skip (Jr ?_)
 refine Jx rfl (step_literal_own (ys := []) underlying36 el3 trivial rfl (by decide)) fun v5 => ?_
 refine Jm rfl ?_
 refine Jx rfl (step_append underlying36 el3 Sr Sr zS (by simp; omega) (by simp; omega)) fun v7 => ?_
 refine Ja rfl (JL_nil (J_ret ?_))
 refine K_ret1' (rv := .tmp 2) rfl v7 (Sel.none _) (.tmp Sr) (Frz.sub Sr)
set_option maxHeartbeats 2000000 in
theorem wkSel_spec (b : Nat) (sc : GSchema) (n : Nat) (p : GPlan) (s : Bst) (kids : List (List Int)) (hi : BdInv sc s) (hk0 : 0 < kids.length) (hcb : ∀ c ∈ nth kids 0, 0 ≤ c ∧ c < s.P.length) (ht : ∀ t ∈ p.Tests, testOk t (nth kids 0).length = true) (hl : p.Tests.length ≤ 100000000) (hF : s.F.length + p.Tests.length ≤ 1000000000) : Spec (X := Unit) prog 108 [(rPlan (n + 1)).ty p, tSl (rSl rInt) kids, CB b] ([bsS b sc s]) (fun _ => tSl rInt (nth kids 0)) (fun _ => [bsS b sc (p.Tests.foldl (fun s t => equalS s t (nth kids 0)) s)]) := by
 refine Spec.enter func108 rfl rfl fun h0 w0 fr0 => ?_
 refine K_bs fun vt vs vp vf => ?_
 refine Jr (Js rfl (step_box (R := (rPlan (n + 1))) Sr) (Ja rfl (JL_nil (J_seq (Jr ?_)))))
 refine Js rfl (step_fieldAddr so46 Sr rfl) (Jl rfl ty43 Sr (Js rfl (step_len_sl underlying43 Sr) (Jm rfl (JL_nil (J_block ?_)))))
 refine J_loopL (σ := Nat × Value) (fun ⟨i, vf⟩ => i ≤ p.Tests.length) (fun ⟨i, vf⟩ => upd (upd (upd (upd (upd (upd env0 1 (tSl (rSl rInt) kids)) 2 (CB b)) 5 (tV (.slice none 0 0))) 9 (tSl rTest p.Tests)) 10 (tV (.int .i64 p.Tests.length))) 11 (tV (.int .i64 i))) (fun ⟨i, vf⟩ => [bldW b sc vt vs vp vf ((selI p.Tests (nth kids 0) s i).bad), own 168 rplace vp (selI p.Tests (nth kids 0) s i).P, own 3 rInt vf (selI p.Tests (nth kids 0) s i).F, own 3 rInt vt s.T, own 3 rInt vs s.S]) (fun ⟨i, vf⟩ => p.Tests.length - i) (0, vf) (by simp) (zU) (LSub.rfl) ?_
 rintro ⟨i, vf⟩ hil
 try dsimp only at hil
 refine Jr (Js rfl (step_lss Sr Sr) (JL_nil (J_seq ?_)))
 refine J_cond Sr (fun h12 => ?_) (fun h12 => ?_)
 ·
  try simp only [NF] at h12
  have hlt : i < p.Tests.length := by omega
  have hIK : BdInv sc (selI p.Tests (nth kids 0) s i) ∧ Keep s (selI p.Tests (nth kids 0) s i) (p.Tests.take i).length := tests_ok (cols := nth kids 0) (l := p.Tests.take i) hi hcb (fun t h => ht t (List.mem_of_mem_take h))
  obtain ⟨hI, hKp⟩ := hIK
  have hKf := hKp.fl
  rw [List.length_take] at hKf
  refine J_skip (J_seq (J_block (Jr ?_)))
  refine Js rfl (step_indexAddr_sl  underlying43 ty93 Sr Sr rfl (gb (by exact hlt))) ?_
  refine Jl rfl ty93 Sr ?_
  refine Jx rfl (step_alloc (fun w => zeroValue93 w) zr93) fun v7 => ?_
  refine Ju (step_store_box ty93 Sr Sr zS) fun _ => ?_
  refine JL_freeze (t := 7) (Sel.take (Sel.none _)) Frz.box ?_
  refine JL_nil ?_
  refine J_draw [⟨0, [2], true⟩, ⟨1, [7], true⟩, ⟨2, [1], true⟩, ⟨3, [17], true⟩, ⟨4, [18], true⟩, ⟨5, [15, 16, 19], false⟩] rfl (by kernel_rfl) ?_
  refine Mf rfl rfl (step_load_ptr ty104T Sr) (Mf rfl rfl (step_load_ptr ty93 Sr) (Mv rfl rfl ?_))
  refine Mf rfl rfl (step_indexAddr_sl (i := 0) underlying58 ty36 Sr Sr (by rfl) (gb (by exact hk0))) ?_
  refine Mf rfl rfl (step_load_ptr ty36 Sr) ?_
  refine JM_stepX rfl rfl rfl rfl (step_call (Sel.take (Sel.take (Sel.take (Sel.none _)))) (equal_spec b sc vt vs vp vf (selI p.Tests (nth kids 0) s i) hI.pok zG (nth p.Tests i) (nth kids 0) (by rw [hKp.pl]; exact hcb) (ht _ (nth_mem hlt))) ⟨Sr, Sr, Sr, trivial⟩ call109) fun v20 => ?_
  refine JM_nil (J_region (Js rfl (step_add Sr Sr z6) (Jm rfl (JL_nil ?_))))
  refine K_againL (σ := Nat × Value) (s := (i, vf)) (i + 1, v20) zO zG (zU) (.c zS (SPs.of (A := bldW b sc vt vs vp v20 ((equalS (selI p.Tests (nth kids 0) s i) (nth p.Tests i) (nth kids 0)).bad)) (by rw [show (selI p.Tests (nth kids 0) s (i + 1)) = equalS (selI p.Tests (nth kids 0) s i) (nth p.Tests i) (nth kids 0) by unfold selI; rw [takeB hlt, List.foldl_append]; rfl])) (.c zS (SPs.of (A := own 168 rplace vp (equalS (selI p.Tests (nth kids 0) s i) (nth p.Tests i) (nth kids 0)).P) (by rw [show (selI p.Tests (nth kids 0) s (i + 1)) = equalS (selI p.Tests (nth kids 0) s i) (nth p.Tests i) (nth kids 0) by unfold selI; rw [takeB hlt, List.foldl_append]; rfl])) (.c zS (SPs.of (A := own 3 rInt v20 (equalS (selI p.Tests (nth kids 0) s i) (nth p.Tests i) (nth kids 0)).F) (by rw [show (selI p.Tests (nth kids 0) s (i + 1)) = equalS (selI p.Tests (nth kids 0) s i) (nth p.Tests i) (nth kids 0) by unfold selI; rw [takeB hlt, List.foldl_append]; rfl])) (zL))))
 try simp only [NF] at h12
 obtain rfl : i = p.Tests.length := by omega
 obtain ⟨hI, hKp⟩ := tests_ok (cols := nth kids 0) (l := p.Tests) hi hcb ht
 refine J_exit (Jr (Jm rfl ?_))
 refine Js rfl (step_indexAddr_sl (i := 0) underlying58 ty36 Sr Sr (by rfl) (gb (by exact hk0))) ?_
 refine Jl rfl ty36 Sr (Ja rfl (JL_nil (J_ret ?_)))
 refine K_lsub (L' := [bldW b sc vt vs vp vf ((p.Tests.foldl (fun s t => equalS s t (nth kids 0)) s).bad), own 168 rplace vp (p.Tests.foldl (fun s t => equalS s t (nth kids 0)) s).P, own 3 rInt vf (p.Tests.foldl (fun s t => equalS s t (nth kids 0)) s).F, own 3 rInt vt (p.Tests.foldl (fun s t => equalS s t (nth kids 0)) s).T, own 3 rInt vs (p.Tests.foldl (fun s t => equalS s t (nth kids 0)) s).S]) (.c zS (SPs.of (A := bldW b sc vt vs vp vf ((selI p.Tests (nth kids 0) s p.Tests.length).bad)) (by rw [show (selI p.Tests (nth kids 0) s p.Tests.length) = (p.Tests.foldl (fun s t => equalS s t (nth kids 0)) s) by unfold selI; rw [List.take_length]])) (.c zS (SPs.of (A := own 168 rplace vp (selI p.Tests (nth kids 0) s p.Tests.length).P) (by rw [show (selI p.Tests (nth kids 0) s p.Tests.length) = (p.Tests.foldl (fun s t => equalS s t (nth kids 0)) s) by unfold selI; rw [List.take_length]])) (.c zS (SPs.of (A := own 3 rInt vf (selI p.Tests (nth kids 0) s p.Tests.length).F) (by rw [show (selI p.Tests (nth kids 0) s p.Tests.length) = (p.Tests.foldl (fun s t => equalS s t (nth kids 0)) s) by unfold selI; rw [List.take_length]])) (.c zS (SPs.of (A := own 3 rInt vt s.T) (by rw [hKp.t])) (.c zS (SPs.of (A := own 3 rInt vs s.S) (by rw [hKp.s])) (LSub.nil)))))) ?_
 refine K_lsub (L' := [bsS b sc (p.Tests.foldl (fun s t => equalS s t (nth kids 0)) s)]) LSub.bs ?_
 refine K_ret1 (t := 5) rfl () Sr
set_option maxHeartbeats 1000000 in
theorem wkProj_spec (b : Nat) (sc : GSchema) (n : Nat) (p : GPlan) (s : Bst) (kids : List (List Int)) (hk0 : 0 < kids.length) (hc : ∀ c ∈ p.Cols, 0 ≤ c ∧ c < (nth kids 0).length) (hl : p.Cols.length ≤ 100000000) : Spec (X := Unit) prog 110 [(rPlan (n + 1)).ty p, tSl (rSl rInt) kids] ([bsS b sc s]) (fun _ => tSl rInt (p.Cols.map fun c => nth (nth kids 0) c.toNat)) (fun _ => [bsS b sc s]) := by
 refine Spec.enter func110 rfl rfl fun h0 w0 fr0 => ?_
 refine Jr (Js rfl (step_box (R := (rPlan (n + 1))) Sr) (Ja rfl (JL_nil (Jr (Ja rfl ?_)))))
 refine JL_nil (J_seq (Jr (Js rfl (step_fieldAddr so46 Sr rfl) (Jl rfl ty36 Sr (Js rfl (step_len_sl underlying36 Sr) ?_)))))
 refine Jm rfl (JL_nil (J_block ?_))
 refine J_loopL (σ := Nat × Value) (fun ⟨i, v⟩ => i ≤ p.Cols.length) (fun ⟨i, v⟩ => upd (upd (upd (upd (upd (upd env0 1 (tSl (rSl rInt) kids)) 4 (tV (.slice none 0 0))) 5 (rV.ty v)) 9 (tSl rInt p.Cols)) 10 (tV (.int .i64 p.Cols.length))) 11 (tV (.int .i64 i))) (fun ⟨i, v⟩ => [own 3 rInt v ((p.Cols.take i).map fun c => nth (nth kids 0) c.toNat), bsS b sc s]) (fun ⟨i, v⟩ => p.Cols.length - i) (0, .slice none 0 0) (by simp) (.u (.u (.u (SubE.upd (Sub.rV rfl) (zU))))) (LSub.nilown) ?_
 rintro ⟨i, v⟩ hi
 try dsimp only at hi
 refine Jr (Js rfl (step_lss Sr Sr) (JL_nil (J_seq ?_)))
 refine J_cond Sr (fun h12 => ?_) (fun h12 => ?_)
 ·
  try simp only [NF] at h12
  have hlt : i < p.Cols.length := by omega
  have hci := hc _ (nth_mem hlt)
  refine J_skip (J_seq (J_block (Jr ?_)))
  refine Js rfl (step_indexAddr_sl  underlying36 ty3 Sr Sr rfl (gb (by exact hlt))) ?_
  refine Jl rfl ty3 Sr (Ja rfl (JL_nil (J_region (Jm rfl (Jm rfl ?_)))))
  refine Js rfl (step_indexAddr_sl (i := 0) underlying58 ty36 Sr Sr (by rfl) (gb (by exact hk0))) ?_
  refine Jl rfl ty36 Sr (Jm rfl (Js rfl (step_indexAddr_sl (i := (nth p.Cols i).toNat) underlying36 ty3 Sr Sr zG (gb zG)) (Jl rfl ty3 Sr ?_)))
  refine Js rfl (step_literal (ys := [_]) underlying36 el3 ⟨rfl, Sr, trivial⟩ rfl (by decide)) ?_
  refine Jx rfl (step_append underlying36 el3 Sr Sr zS (by simp; omega) (by simp; omega)) fun v23 => ?_
  refine Ja rfl (JL_nil (J_region (Js rfl (step_add Sr Sr z6) (Jm rfl (JL_nil ?_)))))
  refine K_againL (σ := Nat × Value) (s := (i, v)) (i + 1, v23) zO zG (zU) (.c zS (SPs.of (A := own 3 rInt v23 (((p.Cols.take i).map fun c => nth (nth kids 0) c.toNat) ++ [nth (nth kids 0) (nth p.Cols i).toNat])) (by rw [takeB hlt, List.map_append]; rfl)) (zL))
 try simp only [NF] at h12
 obtain rfl : i = p.Cols.length := by omega
 refine J_exit (Jr (Jm rfl (Ja rfl (JL_nil (J_ret ?_)))))
 refine K_lsub (L' := [own 3 rInt v (p.Cols.map fun c => nth (nth kids 0) c.toNat), bsS b sc s]) (.c zS (SPs.of (A := own 3 rInt v ((p.Cols.take p.Cols.length).map fun c => nth (nth kids 0) c.toNat)) (by rw [List.take_length])) (zL)) ?_
 refine K_ret1' (rv := .tmp 4) rfl () (Sel.take (Sel.none _)) (.tmp Sr) Frz.own
theorem wkRen_spec (b : Nat) (sc : GSchema) (n : Nat) (p : GPlan) (s : Bst) (kids : List (List Int)) (hk0 : 0 < kids.length) : Spec (X := Unit) prog 111 [(rPlan (n + 1)).ty p, tSl (rSl rInt) kids] ([bsS b sc s]) (fun _ => tSl rInt (nth kids 0)) (fun _ => [bsS b sc s]) := by
 refine Spec.enter func111 rfl rfl fun h0 w0 fr0 => ?_
 refine Jr (Js rfl (step_box (R := (rPlan (n + 1))) Sr) (Ja rfl (JL_nil (Jr (Jm rfl ?_)))))
 refine Js rfl (step_indexAddr_sl (i := 0) underlying58 ty36 Sr Sr (by rfl) (gb (by exact hk0))) ?_
 refine Jl rfl ty36 Sr (Ja rfl (JL_nil (J_ret ?_)))
 exact K_ret1 (t := 4) rfl () Sr
theorem wkJoinF_spec (x y : GAttr) : Fun1 prog 115 [rAttr.ty x, tPtr rAttr y] (tV (.bool (decide (x.Name = y.Name)))) := by
 refine Spec.enter func115 rfl rfl fun h0 w0 fr0 => ?_
 refine Jr (Js rfl (step_box (R := rAttr) Sr) (Ja rfl (JL_nil (Jr (Js rfl (step_fieldAddr so89 Sr rfl) ?_)))))
 refine Jl rfl ty9 Sr (Js rfl (step_fieldAddr so89 Sr rfl) (Jl rfl ty9 Sr (Js rfl (step_eql_str Sr Sr) (Ja rfl (JL_nil ?_)))))
 refine J_ret ?_
 exact K_ret1 (t := 3) rfl () Sr
set_option maxHeartbeats 4000000 in
theorem wkJoin_spec (b : Nat) (sc : GSchema) (n : Nat) (p : GPlan) (s : Bst) (kids : List (List Int)) (hi : BdInv sc s) (hk1 : 1 < kids.length) (hkn : 1 < p.Kids.length) (hcb : ∀ c ∈ nth kids 0, 0 ≤ c ∧ c < s.P.length) (hcb1 : ∀ c ∈ nth kids 1, 0 ≤ c ∧ c < s.P.length) (hl0 : (nth kids 0).length = (nth p.Kids 0).Attrs.length) (hl1 : (nth kids 1).length = (nth p.Kids 1).Attrs.length) (hb0 : (nth p.Kids 0).Attrs.length ≤ 100000000) (hb1 : (nth p.Kids 1).Attrs.length ≤ 100000000) (hF : s.F.length + (nth p.Kids 1).Attrs.length ≤ 1000000000) : Spec (X := Unit) prog 112 [(rPlan (n + 1 + 1)).ty p, tSl (rSl rInt) kids, CB b] ([bsS b sc s]) (fun _ => tSl rInt ((joinS (nth p.Kids 0).Attrs (nth p.Kids 1).Attrs (nth kids 0) (nth kids 1) s)).2) (fun _ => [bsS b sc ((joinS (nth p.Kids 0).Attrs (nth p.Kids 1).Attrs (nth kids 0) (nth kids 1) s)).1]) := by
 refine Spec.enter func112 rfl rfl fun h0 w0 fr0 => ?_
 have hk0 : 0 < kids.length := by omega
 have hz := zip_len (a := (nth p.Kids 1).Attrs) (b := (nth kids 1)) hl1
 refine K_bs fun vt vs vp vf => ?_
 refine Jr (Js rfl (step_box (R := (rPlan (n + 1 + 1))) Sr) (Ja rfl (JL_nil (Jr (Jm rfl ?_)))))
 refine Js rfl (step_indexAddr_sl (i := 0) underlying58 ty36 Sr Sr (by rfl) (gb (by exact hk0))) ?_
 refine Jl rfl ty36 Sr ?_
 refine Jx rfl (step_call (Sel.none _) (CloneL_spec _ zG) ⟨Sr, trivial⟩ call113) fun v13 => ?_
 refine Ja rfl (JL_nil (J_seq (Jr (Js rfl (step_fieldAddr so46 Sr rfl) (Jl rfl ty42 Sr ?_)))))
 refine Js rfl (step_indexAddr_sl (i := 1) underlying42 ty46 Sr Sr (by rfl) (gb (by exact hkn))) ?_
 refine Js rfl (step_fieldAddr so46 Sr rfl) (Jl rfl ty44 Sr (Js rfl (step_len_sl underlying44 Sr) (Jm rfl (JL_nil (J_block ?_)))))
 refine J_loopL (σ := Nat × Value × Value) (fun ⟨i, vf, vo⟩ => i ≤ (nth p.Kids 1).Attrs.length) (fun ⟨i, vf, vo⟩ => upd (upd (upd (upd (upd (upd (upd (upd env0 1 (tSl (rSl rInt) kids)) 2 (CB b)) 3 (tPtr (rPlan (n + 1 + 1)) p)) 5 (tV (.slice none 0 0))) 6 (rV.ty vo)) 18 (tSl rAttr (nth p.Kids 1).Attrs)) 19 (tV (.int .i64 (nth p.Kids 1).Attrs.length))) 20 (tV (.int .i64 i))) (fun ⟨i, vf, vo⟩ => [bldW b sc vt vs vp vf (((joinI (nth p.Kids 0).Attrs (nth p.Kids 1).Attrs (nth kids 0) (nth kids 1) s i)).1.bad), own 168 rplace vp ((joinI (nth p.Kids 0).Attrs (nth p.Kids 1).Attrs (nth kids 0) (nth kids 1) s i)).1.P, own 3 rInt vf ((joinI (nth p.Kids 0).Attrs (nth p.Kids 1).Attrs (nth kids 0) (nth kids 1) s i)).1.F, own 3 rInt vt s.T, own 3 rInt vs s.S, own 3 rInt vo ((joinI (nth p.Kids 0).Attrs (nth p.Kids 1).Attrs (nth kids 0) (nth kids 1) s i)).2]) (fun ⟨i, vf, vo⟩ => (nth p.Kids 1).Attrs.length - i) (0, vf, v13) (by simp) (zU) (.r zS (.r zS (.r zS (.r zS (.r zS (.c zS (SPs.of (A := own 3 rInt v13 (nth kids 0)) rfl) (LSub.nil))))))) ?_
 rintro ⟨i, vf, vo⟩ hil
 try dsimp only at hil
 refine Jr (Js rfl (step_lss Sr Sr) (JL_nil (J_seq ?_)))
 refine J_cond Sr (fun h21 => ?_) (fun h21 => ?_)
 ·
  try simp only [NF] at h21
  have hlt : i < (nth p.Kids 1).Attrs.length := by omega
  have hltk : i < (nth kids 1).length := by omega
  have hIK : BdInv sc ((joinI (nth p.Kids 0).Attrs (nth p.Kids 1).Attrs (nth kids 0) (nth kids 1) s i)).1 ∧ Keep s ((joinI (nth p.Kids 0).Attrs (nth p.Kids 1).Attrs (nth kids 0) (nth kids 1) s i)).1 (((nth p.Kids 1).Attrs.zip (nth kids 1)).take i).length ∧ (∀ c ∈ ((joinI (nth p.Kids 0).Attrs (nth p.Kids 1).Attrs (nth kids 0) (nth kids 1) s i)).2, 0 ≤ c ∧ c < s.P.length) ∧ ((joinI (nth p.Kids 0).Attrs (nth p.Kids 1).Attrs (nth kids 0) (nth kids 1) s i)).2.length = (nth kids 0).length + ((((nth p.Kids 1).Attrs.zip (nth kids 1)).take i).filter fun x => decide (columnL (nth p.Kids 0).Attrs x.1.Name < 0)).length := joinS_ok (a := (nth p.Kids 0).Attrs) (k0 := (nth kids 0)) (k1 := (nth kids 1)) (l := ((nth p.Kids 1).Attrs.zip (nth kids 1)).take i) (o := (nth kids 0)) hi hcb hl0 hcb (fun x hx => hcb1 _ (zip_mem (List.mem_of_mem_take hx)))
  obtain ⟨hI, hKp, hIn, hLn⟩ := hIK
  have hKf := hKp.fl
  rw [List.length_take] at hKf
  have hfl := List.length_filter_le (fun x : GAttr × Int => decide (columnL (nth p.Kids 0).Attrs x.1.Name < 0)) (((nth p.Kids 1).Attrs.zip (nth kids 1)).take i)
  rw [List.length_take] at hfl
  have hcl := col_lt (nth p.Kids 0).Attrs (nth (nth p.Kids 1).Attrs i).Name
  have hx1 := hcb1 _ (nth_mem hltk)
  have hstep : (joinI (nth p.Kids 0).Attrs (nth p.Kids 1).Attrs (nth kids 0) (nth kids 1) s (i + 1)) = joinStep (nth p.Kids 0).Attrs (nth kids 0) (nth kids 1) ((joinI (nth p.Kids 0).Attrs (nth p.Kids 1).Attrs (nth kids 0) (nth kids 1) s i)) (nth (nth p.Kids 1).Attrs i, nth (nth kids 1) i) := by unfold joinI; rw [takeB (by rw [hz]; exact hlt), List.foldl_append, zip_nth hlt hltk]; rfl
  refine J_skip (J_seq (J_block (Jr (Jm rfl ?_))))
  refine Js rfl (step_indexAddr_sl  underlying44 ty89 Sr Sr rfl (gb (by exact hlt))) ?_
  refine Jl rfl ty89 Sr ?_
  refine Jx rfl (step_alloc (fun w => zeroValue89 w) zr89) fun v8 => ?_
  refine Ja rfl ?_
  refine Ju (step_store_box ty89 Sr Sr zS) fun _ => ?_
  refine JL_freeze (t := 8) (Sel.take (Sel.none _)) Frz.box ?_
  refine JL_nil (Jr (Js rfl (step_fieldAddr so46 Sr rfl) (Jl rfl ty42 Sr ?_)))
  refine Js rfl (step_indexAddr_sl (i := 0) underlying42 ty46 Sr Sr (by rfl) (gb (by show 0 < p.Kids.length; omega))) ?_
  refine Js rfl (step_fieldAddr so46 Sr rfl) (Jl rfl ty44 Sr (Js rfl (step_makeFunc (As := [_]) ⟨Sr, trivial⟩) (Js rfl (step_call0 (IndexFuncAttr_spec (nth p.Kids 0).Attrs zG 115 [tPtr rAttr (nth (nth p.Kids 1).Attrs i)] (fun x => decide (x.Name = (nth (nth p.Kids 1).Attrs i).Name)) (fun x _ => wkJoinF_spec x _) call115) ⟨Sr, Sr, trivial⟩ call114) (Ja rfl (JL_nil ?_)))))
  refine Jr (Jm rfl (Js rfl (step_geq Sr Sr) (JL_nil ?_)))
  refine J_cond Sr (fun h33 => ?_) (fun h33 => ?_)
  ·
   try simp only [NF] at h33
   have h33 : 0 ≤ (columnL (nth p.Kids 0).Attrs (nth (nth p.Kids 1).Attrs i).Name) := h33
   have hci := col_in (cols := (nth kids 0)) hcb (c := (columnL (nth p.Kids 0).Attrs (nth (nth p.Kids 1).Attrs i).Name)) ⟨h33, by omega⟩
   rw [show joinStep (nth p.Kids 0).Attrs (nth kids 0) (nth kids 1) ((joinI (nth p.Kids 0).Attrs (nth p.Kids 1).Attrs (nth kids 0) (nth kids 1) s i)) (nth (nth p.Kids 1).Attrs i, nth (nth kids 1) i) = ((bindS ((joinI (nth p.Kids 0).Attrs (nth p.Kids 1).Attrs (nth kids 0) (nth kids 1) s i)).1 (colAt (nth kids 0) (columnL (nth p.Kids 0).Attrs (nth (nth p.Kids 1).Attrs i).Name)) (nth (nth kids 1) i).toNat), ((joinI (nth p.Kids 0).Attrs (nth p.Kids 1).Attrs (nth kids 0) (nth kids 1) s i)).2) by unfold joinStep; rw [if_pos h33]] at hstep
   refine J_draw [⟨0, [2], true⟩, ⟨1, [1], true⟩, ⟨2, [35], true⟩, ⟨3, [36], true⟩, ⟨4, [9], true⟩, ⟨5, [37, 38], true⟩, ⟨6, [39], true⟩, ⟨7, [1], true⟩, ⟨8, [41], true⟩, ⟨9, [42], true⟩, ⟨10, [7], true⟩, ⟨11, [43, 44], true⟩, ⟨12, [45], true⟩, ⟨13, [34, 40, 46], false⟩] rfl (by kernel_rfl) ?_
   refine Mf rfl rfl (step_load_ptr ty104T Sr) (Mv rfl rfl ?_)
   refine Mf rfl rfl (step_indexAddr_sl (i := 0) underlying58 ty36 Sr Sr (by rfl) (gb (by exact hk0))) ?_
   refine Mf rfl rfl (step_load_ptr ty36 Sr) (Mv rfl rfl ?_)
   refine Mf rfl rfl (step_indexAddr_sl (i := ((columnL (nth p.Kids 0).Attrs (nth (nth p.Kids 1).Attrs i).Name)).toNat) underlying36 ty3 Sr Sr (by show (columnL (nth p.Kids 0).Attrs (nth (nth p.Kids 1).Attrs i).Name) = _; omega) (gb (by show ((columnL (nth p.Kids 0).Attrs (nth (nth p.Kids 1).Attrs i).Name)).toNat < (nth kids 0).length; omega))) ?_
   refine Mf rfl rfl (step_load_ptr ty3 Sr) (Mv rfl rfl ?_)
   refine Mf rfl rfl (step_indexAddr_sl (i := 1) underlying58 ty36 Sr Sr (by rfl) (gb (by exact hk1))) ?_
   refine Mf rfl rfl (step_load_ptr ty36 Sr) (Mv rfl rfl ?_)
   refine Mf rfl rfl (step_indexAddr_sl (i := i) underlying36 ty3 Sr Sr (by rfl) (gb (by exact hltk))) ?_
   refine Mf rfl rfl (step_load_ptr ty3 Sr) ?_
   refine JM_stepX rfl rfl rfl rfl (step_call (Sel.take (Sel.take (Sel.take (Sel.none _)))) (bind_spec b sc vt vs vp vf ((joinI (nth p.Kids 0).Attrs (nth p.Kids 1).Attrs (nth kids 0) (nth kids 1) s i)).1 hI.pok zG (colAt (nth kids 0) (columnL (nth p.Kids 0).Attrs (nth (nth p.Kids 1).Attrs i).Name)) (nth (nth kids 1) i).toNat (by rw [hKp.pl]; exact hci.2.2.2) (by rw [hKp.pl]; omega)) ⟨Sr, Sub.int (by show nth (nth kids 0) ((columnL (nth p.Kids 0).Attrs (nth (nth p.Kids 1).Attrs i).Name)).toNat = _; unfold colAt; omega), Sub.int (by show nth (nth kids 1) i = _; omega), trivial⟩ call116) fun v47 => ?_
   refine JM_nil (J_region (Js rfl (step_add Sr Sr z6) (Jm rfl (JL_nil ?_))))
   refine K_againL (σ := Nat × Value × Value) (s := (i, vf, vo)) (i + 1, v47, vo) zO zG (zU) (.c zS (SPs.of (A := bldW b sc vt vs vp v47 ((bindS ((joinI (nth p.Kids 0).Attrs (nth p.Kids 1).Attrs (nth kids 0) (nth kids 1) s i)).1 (colAt (nth kids 0) (columnL (nth p.Kids 0).Attrs (nth (nth p.Kids 1).Attrs i).Name)) (nth (nth kids 1) i).toNat).bad)) (by rw [hstep])) (.c zS (SPs.of (A := own 168 rplace vp (bindS ((joinI (nth p.Kids 0).Attrs (nth p.Kids 1).Attrs (nth kids 0) (nth kids 1) s i)).1 (colAt (nth kids 0) (columnL (nth p.Kids 0).Attrs (nth (nth p.Kids 1).Attrs i).Name)) (nth (nth kids 1) i).toNat).P) (by rw [hstep])) (.c zS (SPs.of (A := own 3 rInt v47 (bindS ((joinI (nth p.Kids 0).Attrs (nth p.Kids 1).Attrs (nth kids 0) (nth kids 1) s i)).1 (colAt (nth kids 0) (columnL (nth p.Kids 0).Attrs (nth (nth p.Kids 1).Attrs i).Name)) (nth (nth kids 1) i).toNat).F) (by rw [hstep])) (.r zS (.r zS (.c zS (SPs.of (A := own 3 rInt vo ((joinI (nth p.Kids 0).Attrs (nth p.Kids 1).Attrs (nth kids 0) (nth kids 1) s i)).2) (by rw [hstep])) (LSub.nil)))))))
  try simp only [NF] at h33
  have h33 : (columnL (nth p.Kids 0).Attrs (nth (nth p.Kids 1).Attrs i).Name) < 0 := h33
  rw [show joinStep (nth p.Kids 0).Attrs (nth kids 0) (nth kids 1) ((joinI (nth p.Kids 0).Attrs (nth p.Kids 1).Attrs (nth kids 0) (nth kids 1) s i)) (nth (nth p.Kids 1).Attrs i, nth (nth kids 1) i) = (((joinI (nth p.Kids 0).Attrs (nth p.Kids 1).Attrs (nth kids 0) (nth kids 1) s i)).1, ((joinI (nth p.Kids 0).Attrs (nth p.Kids 1).Attrs (nth kids 0) (nth kids 1) s i)).2 ++ [nth (nth kids 1) i]) by unfold joinStep; rw [if_neg (by show ¬ 0 ≤ (columnL (nth p.Kids 0).Attrs (nth (nth p.Kids 1).Attrs i).Name); omega)]] at hstep
  refine J_region (Jm rfl (Jm rfl ?_))
  refine Js rfl (step_indexAddr_sl (i := 1) underlying58 ty36 Sr Sr (by rfl) (gb (by exact hk1))) ?_
  refine Jl rfl ty36 Sr (Jm rfl ?_)
  refine Js rfl (step_indexAddr_sl (i := i) underlying36 ty3 Sr Sr (by rfl) (gb (by exact hltk))) ?_
  refine Jl rfl ty3 Sr ?_
  refine Js rfl (step_literal (ys := [_]) underlying36 el3 ⟨rfl, Sr, trivial⟩ rfl (by decide)) ?_
  refine Jx rfl (step_append underlying36 el3 Sr Sr (Sel.skip (Sel.skip (Sel.skip (Sel.skip (Sel.skip (Sel.take (Sel.none _))))))) (by simp; omega) (by simp; omega)) fun v56 => ?_
  refine Ja rfl (JL_nil (J_region (Js rfl (step_add Sr Sr z6) (Jm rfl (JL_nil ?_)))))
  refine K_againL (σ := Nat × Value × Value) (s := (i, vf, vo)) (i + 1, vf, v56) zO zG (zU) (.c zS (SPs.of (A := bldW b sc vt vs vp vf (((joinI (nth p.Kids 0).Attrs (nth p.Kids 1).Attrs (nth kids 0) (nth kids 1) s i)).1.bad)) (by rw [hstep])) (.c zS (SPs.of (A := own 168 rplace vp ((joinI (nth p.Kids 0).Attrs (nth p.Kids 1).Attrs (nth kids 0) (nth kids 1) s i)).1.P) (by rw [hstep])) (.c zS (SPs.of (A := own 3 rInt vf ((joinI (nth p.Kids 0).Attrs (nth p.Kids 1).Attrs (nth kids 0) (nth kids 1) s i)).1.F) (by rw [hstep])) (.r zS (.r zS (.c zS (SPs.of (A := own 3 rInt v56 (((joinI (nth p.Kids 0).Attrs (nth p.Kids 1).Attrs (nth kids 0) (nth kids 1) s i)).2 ++ [nth (nth kids 1) i])) (by rw [hstep])) (LSub.nil)))))))
 try simp only [NF] at h21
 obtain rfl : i = (nth p.Kids 1).Attrs.length := by omega
 obtain ⟨hI, hKp, hIn, hLn⟩ := joinS_ok (a := (nth p.Kids 0).Attrs) (k0 := (nth kids 0)) (k1 := (nth kids 1)) (l := (nth p.Kids 1).Attrs.zip (nth kids 1)) (o := (nth kids 0)) hi hcb hl0 hcb (fun x hx => hcb1 _ (zip_mem hx))
 have hend : (joinI (nth p.Kids 0).Attrs (nth p.Kids 1).Attrs (nth kids 0) (nth kids 1) s (nth p.Kids 1).Attrs.length) = (joinS (nth p.Kids 0).Attrs (nth p.Kids 1).Attrs (nth kids 0) (nth kids 1) s) := by unfold joinI joinS; rw [← hz, List.take_length]
 refine J_exit (Jr (Jm rfl (Ja rfl (JL_nil (J_ret ?_)))))
 refine K_lsub (L' := [bldW b sc vt vs vp vf (((joinS (nth p.Kids 0).Attrs (nth p.Kids 1).Attrs (nth kids 0) (nth kids 1) s)).1.bad), own 168 rplace vp ((joinS (nth p.Kids 0).Attrs (nth p.Kids 1).Attrs (nth kids 0) (nth kids 1) s)).1.P, own 3 rInt vf ((joinS (nth p.Kids 0).Attrs (nth p.Kids 1).Attrs (nth kids 0) (nth kids 1) s)).1.F, own 3 rInt vt ((joinS (nth p.Kids 0).Attrs (nth p.Kids 1).Attrs (nth kids 0) (nth kids 1) s)).1.T, own 3 rInt vs ((joinS (nth p.Kids 0).Attrs (nth p.Kids 1).Attrs (nth kids 0) (nth kids 1) s)).1.S, own 3 rInt vo ((joinS (nth p.Kids 0).Attrs (nth p.Kids 1).Attrs (nth kids 0) (nth kids 1) s)).2]) (.c zS (SPs.of (A := bldW b sc vt vs vp vf (((joinI (nth p.Kids 0).Attrs (nth p.Kids 1).Attrs (nth kids 0) (nth kids 1) s (nth p.Kids 1).Attrs.length)).1.bad)) (by rw [hend])) (.c zS (SPs.of (A := own 168 rplace vp ((joinI (nth p.Kids 0).Attrs (nth p.Kids 1).Attrs (nth kids 0) (nth kids 1) s (nth p.Kids 1).Attrs.length)).1.P) (by rw [hend])) (.c zS (SPs.of (A := own 3 rInt vf ((joinI (nth p.Kids 0).Attrs (nth p.Kids 1).Attrs (nth kids 0) (nth kids 1) s (nth p.Kids 1).Attrs.length)).1.F) (by rw [hend])) (.c zS (SPs.of (A := own 3 rInt vt s.T) (by rw [show ((joinS (nth p.Kids 0).Attrs (nth p.Kids 1).Attrs (nth kids 0) (nth kids 1) s)).1.T = s.T from hKp.t])) (.c zS (SPs.of (A := own 3 rInt vs s.S) (by rw [show ((joinS (nth p.Kids 0).Attrs (nth p.Kids 1).Attrs (nth kids 0) (nth kids 1) s)).1.S = s.S from hKp.s])) (.c zS (SPs.of (A := own 3 rInt vo ((joinI (nth p.Kids 0).Attrs (nth p.Kids 1).Attrs (nth kids 0) (nth kids 1) s (nth p.Kids 1).Attrs.length)).2) (by rw [hend])) (LSub.nil))))))) ?_
 refine K_lsub (L' := [bsS b sc ((joinS (nth p.Kids 0).Attrs (nth p.Kids 1).Attrs (nth kids 0) (nth kids 1) s)).1, own 3 rInt vo ((joinS (nth p.Kids 0).Attrs (nth p.Kids 1).Attrs (nth kids 0) (nth kids 1) s)).2]) LSub.bs ?_
 refine K_ret1' (rv := .tmp 5) rfl () (Sel.skip (Sel.take (Sel.none _))) (.tmp Sr) Frz.own
open Go Go.Proofs Go.Proofs.Tryz
/-- A builder whose schema is read. -/
def fsbuilderS : List (SF GbuilderW) := [⟨List GTable, 39, rSl rTable, fun x => x.schema.Tables⟩, ⟨Value, 36, rV, GbuilderW.tables⟩, ⟨Value, 36, rV, GbuilderW.start⟩, ⟨Value, 105, rV, GbuilderW.places⟩, ⟨Value, 36, rV, GbuilderW.self⟩, ⟨Bool, 4, rBool, GbuilderW.bad⟩]
abbrev bldS (b : Nat) (B : GbuilderW) : SP := box b 107 (rStruct fsbuilderS) B
theorem SPs.toS {b : Nat} {B : GbuilderW} : SPs (box b 107 rbuilderW B) (bldS b B) := fun h m ⟨cs, r, e⟩ => ⟨cs, by
  obtain ⟨c0, _, rfl, ⟨d0, _, rfl, r0, rz⟩, rest⟩ := r
  rw [show _ = [] from rz, List.append_nil]
  exact ⟨d0, _, _root_.rfl, r0, rest⟩, e⟩
theorem SPs.ofS {b : Nat} {B : GbuilderW} : SPs (bldS b B) (box b 107 rbuilderW B) := fun h m ⟨cs, r, e⟩ => ⟨cs, by
  obtain ⟨c0, _, rfl, r0, rest⟩ := r
  exact ⟨c0, _, _root_.rfl, ⟨c0, [], by rw [List.append_nil], r0, _root_.rfl⟩, rest⟩, e⟩
set_option maxHeartbeats 4000000 in
theorem wkTab_spec (b : Nat) (sc : GSchema) (n : Nat) (p : GPlan) (s : Bst) (kids : List (List Int)) (hi : BdInv sc s) (ht : 0 ≤ p.Table ∧ p.Table < sc.Tables.length) (ha : (nth sc.Tables p.Table.toNat).Attrs.length ≤ 12) (hP : s.P.length ≤ 100000000) (hT : s.T.length ≤ 100000000) : Spec (X := Unit) prog 107 [(rPlan (n + 1)).ty p, tSl (rSl rInt) kids, CB b] ([bsS b sc s]) (fun _ => tSl rInt (newIx s.P.length (nth sc.Tables p.Table.toNat).Attrs.length)) (fun _ => [bsS b sc (tableS sc s p.Table)]) := by
 refine Spec.enter func107 rfl rfl fun h0 w0 fr0 => ?_
 have hts := hi.ts
 refine K_bs fun vt vs vp vf => ?_
 refine Jr (Js rfl (step_box (R := (rPlan (n + 1))) Sr) (Ja rfl (JL_nil (J_seq ?_))))
 refine J_draw [⟨0, [2], true⟩, ⟨1, [2], true⟩, ⟨2, [8], true⟩, ⟨3, [9], true⟩, ⟨4, [10], false⟩, ⟨5, [11], true⟩, ⟨6, [2, 12], true⟩, ⟨7, [12, 13], true⟩, ⟨8, [12, 14], true⟩, ⟨10, [3, 12], true⟩, ⟨11, [12, 17], true⟩, ⟨9, [12, 15], false⟩, ⟨12, [12, 16, 18], false⟩, ⟨13, [12, 19], true⟩, ⟨14, [7], true⟩, ⟨15, [21], true⟩, ⟨16, [20, 22], false⟩] rfl (by kernel_rfl) ?_
 refine Mf rfl rfl (step_load_ptr ty104T Sr) (Mf rfl rfl (step_load_ptr ty104T Sr) (Mf rfl rfl (step_nilCheck Sr) (Mf rfl rfl (step_fieldAddr_own so107W Sr rfl) ?_)))
 refine JM_look rfl rfl rfl rfl (step_load_fld ty4 Sr rfl zS) ?_
 refine Mv rfl rfl ?_
 refine Mk rfl rfl Sr rfl (step_load_ptr ty104T Sr) ?_
 refine Mg rfl rfl Sr rfl (fun hw => step_nilCheck (Sub.w hw)) (Mg rfl rfl Sr rfl (fun hw => step_fieldAddr_own so107W (Sub.w hw) rfl) ?_)
 refine Mk rfl rfl Sr rfl (step_fieldAddr so46 Sr rfl) ?_
 refine Mg rfl rfl Sr rfl (fun hw => step_load_ptr ty3 (Sub.w hw)) ?_
 refine JM_lookG rfl rfl rfl rfl (Gd.plain Sr) rfl rfl (fun hw => step_load_fld ty36V107 (Sub.w hw) rfl zS) ?_
 refine JM_lookG rfl rfl rfl rfl (Gd.plain Sr) rfl rfl (fun hw => step_call_look (Sel.skip (Sel.skip (Sel.skip (Sel.take (Sel.none _))))) (ContainsI_spec s.T p.Table zG) (fun _ => Flat.v _) ⟨Frz.w hw Frz.own, Frz.sub (Sub.w hw), trivial⟩ call54) ?_
 refine Mf rfl rfl (step_pick_or Sr Sr) (Mf rfl rfl (step_nilCheck Sr) (Mf rfl rfl (step_fieldAddr_own so107W Sr rfl) ?_))
 refine JM_stepU rfl rfl rfl (step_store_fld (R := rBool) (y' := (⟨sc, vt, vs, vp, vf, (s.bad || s.T.any fun x => decide (p.Table = x))⟩ : GbuilderW)) ty4 Sr Sr zS (by exact ⟨rfl, ⟨rfl, ⟨rfl, ⟨rfl, ⟨rfl, ⟨fun _ _ q => q, rfl, by intro g hg; cases hg⟩⟩⟩⟩⟩⟩)) fun _ => ?_
 refine JM_nil (J_seq ?_)
 refine K_lsub (L' := [bldW b sc vt vs vp vf (s.bad || s.T.any fun x => decide (p.Table = x)), own 168 rplace vp s.P, own 3 rInt vf s.F, own 3 rInt vt s.T, own 3 rInt vs s.S]) (zL) ?_
 refine K_lenOwn (e := 168) (R := rplace) (v := vp) (xs := s.P) zS fun hvp0 => ?_
 obtain ⟨pp0, cp0, hvp0⟩ := hvp0
 refine J_drawZ [bldW b sc vt vs vp vf (s.bad || s.T.any fun x => decide (p.Table = x)), own 168 rplace vp s.P] [⟨0, [2], 0⟩, ⟨1, [2], 0⟩, ⟨2, [2], 0⟩, ⟨3, [25], 0⟩, ⟨4, [26], 0⟩, ⟨5, [27], 1⟩, ⟨6, [3], 0⟩, ⟨7, [29], 0⟩, ⟨8, [30], 0⟩, ⟨10, [2], 0⟩, ⟨11, [33], 0⟩, ⟨12, [34], 0⟩, ⟨13, [35], 1⟩, ⟨14, [2], 0⟩, ⟨15, [37], 0⟩, ⟨16, [38], 0⟩, ⟨17, [39], 1⟩, ⟨18, [40], 0⟩, ⟨19, [41], 0⟩, ⟨21, [23], 0⟩, ⟨22, [44], 0⟩, ⟨24, [24], 0⟩, ⟨25, [46], 0⟩] [⟨9, [28, 31], 32, own 3 rInt vt s.T, fun v => rV.ty v, fun v => own 3 rInt v (s.T ++ [p.Table])⟩, ⟨20, [36, 42], 43, own 3 rInt vs s.S, fun v => rV.ty v, fun v => own 3 rInt v (s.S ++ [(s.P.length : Int)])⟩] [⟨23, [32, 45], 2⟩, ⟨26, [43, 47], 2⟩] (L := [own 3 rInt vf s.F]) (zL) rfl (by kernel_rfl) (Nat.le_of_ble_eq_true rfl) ?_
 refine JF_step rfl rfl rfl rfl (fun _ => step_load_ptr ty104T Sr) ?_
 refine JF_step rfl rfl rfl rfl (fun _ => step_load_ptr ty104T Sr) ?_
 refine JF_step rfl rfl rfl rfl (fun _ => step_load_ptr ty104T Sr) ?_
 refine JF_step rfl rfl rfl rfl (fun _ => step_nilCheck Sr) ?_
 refine JF_step rfl rfl rfl rfl (fun _ => step_fieldAddr_own so107W Sr rfl) ?_
 refine JF_look rfl rfl rfl rfl (fun _ => step_load_fld ty36V107 Sr rfl zS) ?_
 refine JF_step rfl rfl rfl rfl (fun _ => step_fieldAddr so46 Sr rfl) ?_
 refine JF_step rfl rfl rfl rfl (fun _ => step_load_ptr ty3 Sr) ?_
 refine JF_step rfl rfl rfl rfl (fun _ => step_literal (ys := [_]) underlying36 el3 ⟨rfl, Sr, trivial⟩ rfl (by decide)) ?_
 refine JF_step rfl rfl rfl rfl (fun _ => step_load_ptr ty104T Sr) ?_
 refine JF_step rfl rfl rfl rfl (fun _ => step_nilCheck Sr) ?_
 refine JF_step rfl rfl rfl rfl (fun _ => step_fieldAddr_own so107W Sr rfl) ?_
 refine JF_look rfl rfl rfl rfl (fun _ => step_load_fld ty36V107 Sr rfl zS) ?_
 refine JF_step rfl rfl rfl rfl (fun _ => step_load_ptr ty104T Sr) ?_
 refine JF_step rfl rfl rfl rfl (fun _ => step_nilCheck Sr) ?_
 refine JF_step rfl rfl rfl rfl (fun _ => step_fieldAddr_own so107W Sr rfl) ?_
 refine JF_look rfl rfl rfl rfl (fun _ => step_load_fld ty105V107 Sr rfl zS) ?_
 refine JF_step rfl rfl rfl rfl (fun _ => step_lenV (p := pp0) (n := s.P.length) (cap := cp0) underlying105 (Sub.eqT (by show rV.ty vp = _; rw [hvp0]))) ?_
 refine JF_step rfl rfl rfl rfl (fun _ => step_literal (ys := [_]) underlying36 el3 ⟨rfl, Sr, trivial⟩ rfl (by decide)) ?_
 refine JF_step rfl rfl rfl rfl (fun _ => step_nilCheck Sr) ?_
 refine JF_step rfl rfl rfl rfl (fun _ => step_fieldAddr_own so107W Sr rfl) ?_
 refine JF_step rfl rfl rfl rfl (fun _ => step_nilCheck Sr) ?_
 refine JF_step rfl rfl rfl rfl (fun _ => step_fieldAddr_own so107W Sr rfl) ?_
 refine JF_nil ?_
 refine ⟨⟨_, rfl, rfl, rfl, rfl, fun _ => step_append underlying36 el3 Sr Sr zS (by simp; omega) (by simp; omega)⟩, fun v32 => ?_⟩
 refine ⟨⟨_, rfl, rfl, rfl, rfl, fun _ => step_append underlying36 el3 Sr Sr zS (by simp; omega) (by simp; omega)⟩, fun v43 => ?_⟩
 refine upP_in ?_
 refine JX_stepU rfl rfl rfl (step_store_fld (R := rV) (y' := (⟨sc, v32, vs, vp, vf, (s.bad || s.T.any fun x => decide (p.Table = x))⟩ : GbuilderW)) ty36V107 Sr Sr zS (by exact ⟨rfl, ⟨fun _ _ q => q, rfl, by intro g hg; simp only [List.mem_cons, List.not_mem_nil, or_false] at hg; rcases hg with rfl | rfl | rfl | rfl <;> rfl⟩⟩)) fun _ => ?_
 refine JX_stepU rfl rfl rfl (step_store_fld (R := rV) (y' := (⟨sc, v32, v43, vp, vf, (s.bad || s.T.any fun x => decide (p.Table = x))⟩ : GbuilderW)) ty36V107 Sr Sr zS (by exact ⟨rfl, ⟨rfl, ⟨fun _ _ q => q, rfl, by intro g hg; simp only [List.mem_cons, List.not_mem_nil, or_false] at hg; rcases hg with rfl | rfl | rfl <;> rfl⟩⟩⟩)) fun _ => ?_
 refine JX_nil (Jr (Ja rfl (JL_nil (J_seq (J_seq ?_)))))
 refine K_lsub (L' := [bldS b ⟨sc, v32, v43, vp, vf, (s.bad || s.T.any fun x => decide (p.Table = x))⟩, own 168 rplace vp s.P, own 3 rInt vf s.F, own 3 rInt v32 (s.T ++ [p.Table]), own 3 rInt v43 (s.S ++ [(s.P.length : Int)])]) (.c zS (SPs.toS) (zL)) ?_
 refine J_draw [⟨0, [2], true⟩, ⟨1, [48], true⟩, ⟨2, [49], true⟩, ⟨3, [50], true⟩, ⟨5, [3], true⟩, ⟨6, [53], true⟩, ⟨11, [], true⟩, ⟨4, [51], false⟩, ⟨7, [52, 54], true⟩, ⟨8, [55], true⟩, ⟨9, [56], true⟩, ⟨10, [57], true⟩] rfl (by kernel_rfl) ?_
 refine Mf rfl rfl (step_load_ptr ty104T Sr) (Mf rfl rfl (step_nilCheck Sr) (Mf rfl rfl (step_fieldAddr_own so107W Sr rfl) (Mf rfl rfl (step_fieldAddr_box (o := 0) so41 Sr rfl) (Mf rfl rfl (step_fieldAddr so46 Sr rfl) (Mf rfl rfl (step_load_ptr ty3 Sr) ?_)))))
 refine Mv rfl rfl ?_
 refine JM_look rfl rfl rfl rfl (step_load_fld (n := 0) (fs := fsbuilderS) ty39 Sr rfl zS) ?_
 refine Mf rfl rfl (step_indexAddr_sl (i := p.Table.toNat) underlying39 ty76 Sr Sr (by show p.Table = _; omega) (gb (by show p.Table.toNat < sc.Tables.length; omega))) ?_
 refine Mf rfl rfl (step_fieldAddr so76 Sr rfl) (Mf rfl rfl (step_load_ptr ty44 Sr) (Mf rfl rfl (step_len_sl underlying44 Sr) (JM_nil ?_)))
 refine K_lsub (L' := [bldW b sc v32 v43 vp vf (s.bad || s.T.any fun x => decide (p.Table = x)), own 168 rplace vp s.P, own 3 rInt vf s.F, own 3 rInt v32 (s.T ++ [p.Table]), own 3 rInt v43 (s.S ++ [(s.P.length : Int)])]) (.c zS (SPs.ofS) (zL)) ?_
 refine J_block ?_
 refine J_loopL (σ := Nat × Value × Value) (fun ⟨i, vo, vp⟩ => i ≤ (nth sc.Tables p.Table.toNat).Attrs.length) (fun ⟨i, vo, vp⟩ => upd (upd (upd (upd (upd env0 2 (CB b)) 5 (tV (.slice none 0 0))) 6 (rV.ty vo)) 58 (tV (.int .i64 (nth sc.Tables p.Table.toNat).Attrs.length))) 59 (tV (.int .i64 i))) (fun ⟨i, vo, vp⟩ => [bldW b sc v32 v43 vp vf (s.bad || s.T.any fun x => decide (p.Table = x)), own 168 rplace vp (s.P ++ newPl s.P.length i), own 3 rInt vf s.F, own 3 rInt v32 (s.T ++ [p.Table]), own 3 rInt v43 (s.S ++ [(s.P.length : Int)]), own 3 rInt vo (newIx s.P.length i)]) (fun ⟨i, vo, vp⟩ => (nth sc.Tables p.Table.toNat).Attrs.length - i) (0, .slice none 0 0, vp) (by simp) (.u (.u (SubE.upd (Sub.rV rfl) (zU)))) (LSub.trans (LSub.nilown (e := 3) (R := rInt)) (.r zS (.c zS (SPs.of (A := own 168 rplace vp s.P) (by show _ = own 168 rplace vp (s.P ++ []); rw [List.append_nil])) (.r zS (.r zS (.r zS (.c zS (SPs.of (A := own 3 rInt (.slice none 0 0) ([] : List Int)) rfl) (LSub.nil)))))))) ?_
 rintro ⟨i, vo, vp⟩ hil
 try dsimp only at hil
 refine Jr (Js rfl (step_lss Sr Sr) (JL_nil (J_seq ?_)))
 refine J_cond Sr (fun h60 => ?_) (fun h60 => ?_)
 ·
  try simp only [NF] at h60
  have hlt : i < (nth sc.Tables p.Table.toNat).Attrs.length := by omega
  have hpl : (s.P ++ newPl s.P.length i).length = s.P.length + i := by rw [List.length_append, newPl_len]
  refine J_skip (J_seq (J_block (Jr (Jm rfl (Jl rfl ty104T Sr ?_)))))
  refine Js rfl (step_nilCheck Sr) (Js rfl (step_fieldAddr_own so107W Sr rfl) ?_)
  refine Js rfl (step_load_fld ty105V107 Sr rfl zS) ?_
  refine Js rfl (step_len_own underlying105 Sr zS) ?_
  refine Js rfl (step_literal (ys := [_]) underlying36 el3 ⟨rfl, Sr, trivial⟩ rfl (by decide)) ?_
  refine Jx rfl (step_append underlying36 el3 Sr Sr (Sel.skip (Sel.skip (Sel.skip (Sel.skip (Sel.skip (Sel.take (Sel.none _))))))) (by rw [newIx_len]; simp; omega) (by rw [newIx_len]; simp; omega)) fun v68 => ?_
  refine Ja rfl (JL_nil ?_)
  refine K_lenOwn (e := 168) (R := rplace) (v := vp) (xs := (s.P ++ newPl s.P.length i)) zS fun hvp => ?_
  obtain ⟨pp, cp, hvp⟩ := hvp
  subst hvp
  refine J_drawZ [bldW b sc v32 v43 (Value.slice pp (s.P ++ newPl s.P.length i).length cp) vf (s.bad || s.T.any fun x => decide (p.Table = x))] [⟨0, [2], 0⟩, ⟨1, [2], 0⟩, ⟨2, [70], 0⟩, ⟨3, [71], 0⟩, ⟨4, [72], 1⟩, ⟨5, [2], 0⟩, ⟨6, [74], 0⟩, ⟨7, [75], 0⟩, ⟨8, [76], 1⟩, ⟨9, [77], 0⟩, ⟨10, [78], 0⟩, ⟨11, [79], 0⟩, ⟨13, [69], 0⟩, ⟨14, [82], 0⟩] [⟨12, [73, 80], 81, own 168 rplace (Value.slice pp (s.P ++ newPl s.P.length i).length cp) (s.P ++ newPl s.P.length i), fun v => rV.ty v, fun v => own 168 rplace v ((s.P ++ newPl s.P.length i) ++ [⟨((s.P ++ newPl s.P.length i).length : Int), ⟨0, 0, ⟨#[]⟩⟩, false⟩])⟩] [⟨15, [81, 83], 2⟩] (L := [own 3 rInt v68 (newIx s.P.length i ++ [((s.P ++ newPl s.P.length i).length : Int)]), own 3 rInt vf s.F, own 3 rInt v32 (s.T ++ [p.Table]), own 3 rInt v43 (s.S ++ [(s.P.length : Int)])]) (zL) rfl (by kernel_rfl) (Nat.le_of_ble_eq_true rfl) ?_
  refine JF_step rfl rfl rfl rfl (fun _ => step_load_ptr ty104T Sr) ?_
  refine JF_step rfl rfl rfl rfl (fun _ => step_load_ptr ty104T Sr) ?_
  refine JF_step rfl rfl rfl rfl (fun _ => step_nilCheck Sr) ?_
  refine JF_step rfl rfl rfl rfl (fun _ => step_fieldAddr_own so107W Sr rfl) ?_
  refine JF_look rfl rfl rfl rfl (fun _ => step_load_fld ty105V107 Sr rfl zS) ?_
  refine JF_step rfl rfl rfl rfl (fun _ => step_load_ptr ty104T Sr) ?_
  refine JF_step rfl rfl rfl rfl (fun _ => step_nilCheck Sr) ?_
  refine JF_step rfl rfl rfl rfl (fun _ => step_fieldAddr_own so107W Sr rfl) ?_
  refine JF_look rfl rfl rfl rfl (fun _ => step_load_fld ty105V107 Sr rfl zS) ?_
  refine JF_step rfl rfl rfl rfl (fun _ => step_lenV underlying105 Sr) ?_
  refine JF_step rfl rfl rfl rfl (fun _ => step_build (x := (⟨((s.P ++ newPl s.P.length i).length : Int), ⟨0, 0, ⟨#[]⟩⟩, false⟩ : Gplace)) (zs := [[Value.int .i64 0], [Value.int .i64 0, Value.int .i64 0, Value.string ⟨#[]⟩], [Value.bool false]]) so168 (fun w => zeroValue168 w) ⟨Sr, trivial⟩ ⟨⟨Sr, rfl⟩, fun _ => ⟨[Value.int .i64 0], _, rfl, rfl, ⟨[Value.int .i64 0], _, rfl, rfl, ⟨[Value.string ⟨#[]⟩], _, rfl, rfl, rfl⟩⟩⟩, fun _ => rfl, trivial⟩) ?_
  refine JF_step rfl rfl rfl rfl (fun _ => step_literal (ys := [_]) underlying105 el168 ⟨rfl, Sr, trivial⟩ rfl (by decide)) ?_
  refine JF_step rfl rfl rfl rfl (fun _ => step_nilCheck Sr) ?_
  refine JF_step rfl rfl rfl rfl (fun _ => step_fieldAddr_own so107W Sr rfl) ?_
  refine JF_nil ?_
  refine ⟨⟨_, rfl, rfl, rfl, rfl, fun _ => step_append underlying105 el168 Sr Sr zS (by rw [hpl]; simp; omega) (by rw [hpl]; simp; omega)⟩, fun v81 => ?_⟩
  refine upP_in ?_
  refine JX_stepU rfl rfl rfl (step_store_fld (R := rV) (y' := (⟨sc, v32, v43, v81, vf, (s.bad || s.T.any fun x => decide (p.Table = x))⟩ : GbuilderW)) ty105V107 Sr Sr zS (by exact ⟨rfl, ⟨rfl, ⟨rfl, ⟨fun _ _ q => q, rfl, by intro g hg; simp only [List.mem_cons, List.not_mem_nil, or_false] at hg; rcases hg with rfl | rfl <;> rfl⟩⟩⟩⟩)) fun _ => ?_
  refine JX_nil (J_region (Js rfl (step_add Sr Sr z6) (Jm rfl (JL_nil ?_))))
  refine K_againL (σ := Nat × Value × Value) (s := (i, vo, Value.slice pp (s.P ++ newPl s.P.length i).length cp)) (i + 1, v68, v81) zO zG (zU) (.r zS (.c zS (SPs.of (A := own 168 rplace v81 ((s.P ++ newPl s.P.length i) ++ [⟨((s.P ++ newPl s.P.length i).length : Int), ⟨0, 0, ⟨#[]⟩⟩, false⟩])) (by rw [newPl_snoc, ← List.append_assoc, hpl])) (.r zS (.r zS (.r zS (.c zS (SPs.of (A := own 3 rInt v68 (newIx s.P.length i ++ [((s.P ++ newPl s.P.length i).length : Int)])) (by rw [newIx_snoc, hpl])) (LSub.nil)))))))
 try simp only [NF] at h60
 obtain rfl : i = (nth sc.Tables p.Table.toNat).Attrs.length := by omega
 refine J_exit (Jr (Jm rfl (Ja rfl (JL_nil (J_ret ?_)))))
 refine K_lsub (L' := [bldW b sc v32 v43 vp vf ((tableS sc s p.Table).bad), own 168 rplace vp (tableS sc s p.Table).P, own 3 rInt vf (tableS sc s p.Table).F, own 3 rInt v32 (tableS sc s p.Table).T, own 3 rInt v43 (tableS sc s p.Table).S, own 3 rInt vo (newIx s.P.length (nth sc.Tables p.Table.toNat).Attrs.length)]) (zL) ?_
 refine K_lsub (L' := [bsS b sc (tableS sc s p.Table), own 3 rInt vo (newIx s.P.length (nth sc.Tables p.Table.toNat).Attrs.length)]) LSub.bs ?_
 refine K_ret1' (rv := .tmp 5) rfl () (Sel.skip (Sel.take (Sel.none _))) (.tmp Sr) Frz.own
open Go Go.Proofs Go.Proofs.Tryz
/-- What walks a kind of queries. -/
def wkTy (b : Nat) (k : Int) : Ty := if k = 1 then tClo 107 [CB b] else if k = 2 then tClo 108 [CB b] else if k = 3 then tClo 110 [] else if k = 4 then tClo 112 [CB b] else if k = 7 then tClo 111 [] else tV .nilFunc
theorem wk_one {b : Nat} : ∀ k h v, (wkTy b k).p h v → v.oneCell' = true := by
  intro k h v hv
  unfold wkTy at hv
  repeat' split at hv
  all_goals first | (obtain ⟨c, rfl, _⟩ := hv; rfl) | (rw [show v = .nilFunc from hv]; rfl)
abbrev wkR (b : Nat) : Rp Int := rTypI (wkTy b) wk_one
def wkM : List (Int × Int) := [(1, 1), (2, 2), (3, 3), (7, 7), (4, 4)]
theorem wkM_get (k : Int) : (mget wkM k).getD 0 = if walkable k = true then k else 0 := by
  unfold walkable
  by_cases h1 : k = 1
  · subst h1; rfl
  by_cases h2 : k = 2
  · subst h2; rfl
  by_cases h3 : k = 3
  · subst h3; rfl
  by_cases h4 : k = 4
  · subst h4; rfl
  by_cases h7 : k = 7
  · subst h7; rfl
  simp [wkM, mget, h1, h2, h3, h4, h7]
theorem wk_nil {b : Nat} {k : Int} : ∀ h v, (wkTy b (if walkable k = true then k else 0)).p h v → (v = .nilFunc ∧ (!walkable k) = true) ∨ ((∃ f a c, v = .func f a c) ∧ (!walkable k) = false) := by
  intro h v hv
  by_cases hw : walkable k = true
  · rw [if_pos hw] at hv
    right
    refine ⟨?_, by rw [hw]; rfl⟩
    unfold walkable at hw
    unfold wkTy at hv
    simp only [Bool.or_eq_true, decide_eq_true_eq] at hw
    repeat' split at hv
    all_goals first | (obtain ⟨c, e, _⟩ := hv; exact ⟨_, _, _, e⟩) | omega
  · rw [if_neg hw] at hv
    left
    refine ⟨hv, ?_⟩
    rw [Bool.eq_false_iff.2 hw]; rfl
theorem step_cast {C : Cx} {o : Oper} {E : Env} {L : List SP} {A B : Ty} (h : Step1 C o E L A) (s : Sub A B) : Step1 C o E L B := fun a w hp m n l sp st fr next Q hk => h a w hp m n l sp st fr next Q fun x v w' h' m' l' sp' st' hv => hk x v w' h' m' l' sp' st' (s _ _ hv)
set_option maxHeartbeats 1000000 in
theorem walks_spec (b : Nat) : Fun1 prog 62 [tAt b 0] (tMapI kvI (wkR b) wkM) := by
 refine Spec.enter func62 rfl rfl fun h0 w0 fr0 => ?_
 refine Jr (Js rfl (step_box (R := rTyp (tAt b 0) at_one) (y := ()) Sr) (Ja rfl (JL_nil (Jr ?_))))
 refine Jx rfl (step_makeMap (kv := kvI) (R := wkR b)) fun v3 => ?_
 refine Js rfl (step_makeFunc (As := [_]) ⟨Sr, trivial⟩) ?_
 refine Ju (step_insert (kv := kvI) (R := wkR b) (z := (1 : Int)) (KeyT.int underlying3) underlying109 Sr Sr (Sub.trans Sr (Sub.eqT (B := wkTy b 1) rfl)) zS) fun _ => ?_
 refine Js rfl (step_makeFunc (As := [_]) ⟨Sr, trivial⟩) ?_
 refine Ju (step_insert (kv := kvI) (R := wkR b) (z := (2 : Int)) (KeyT.int underlying3) underlying109 Sr Sr (Sub.trans Sr (Sub.eqT (B := wkTy b 2) rfl)) zS) fun _ => ?_
 refine Ju (step_insert (kv := kvI) (R := wkR b) (z := (3 : Int)) (KeyT.int underlying3) underlying109 Sr Sr (Sub.trans Sub.clo0 (Sub.eqT (B := wkTy b 3) rfl)) zS) fun _ => ?_
 refine Ju (step_insert (kv := kvI) (R := wkR b) (z := (7 : Int)) (KeyT.int underlying3) underlying109 Sr Sr (Sub.trans Sub.clo0 (Sub.eqT (B := wkTy b 7) rfl)) zS) fun _ => ?_
 refine Js rfl (step_makeFunc (As := [_]) ⟨Sr, trivial⟩) ?_
 refine Ju (step_insert (kv := kvI) (R := wkR b) (z := (4 : Int)) (KeyT.int underlying3) underlying109 Sr Sr (Sub.trans Sr (Sub.eqT (B := wkTy b 4) rfl)) zS) fun _ => ?_
 refine Jm rfl (Ja rfl (JL_nil (J_ret ?_)))
 refine K_ret1' (rv := .tmp 2) rfl () (Sel.all _) (.tmp Sr) (Frz.mapI (m := wkM))
theorem walk_succ (sc : GSchema) (n : Nat) (s : Bst) (p : GPlan) : walkS sc (n + 1) s p = if walkable p.Kind = false then ({ s with bad := true }, [])
    else if (kidsS (walkS sc n) s p.Kids).1.bad = true then ((kidsS (walkS sc n) s p.Kids).1, [])
    else actS sc p (kidsS (walkS sc n) s p.Kids).1 (kidsS (walkS sc n) s p.Kids).2 := rfl
theorem zr46' {n m : Nat} (hm : n = m + 1) : ∀ h, ((rPlan n).ty GPl.zero).p h (.agg #[Value.int .i64 0, Value.int .i64 0, Value.slice none 0 0, Value.slice none 0 0, Value.slice none 0 0, Value.int .i64 0, Value.int .i64 0, Value.slice none 0 0]) := by subst hm; exact zr46
theorem sum_take {f : GPlan → Nat} {l : List GPlan} {i : Nat} (h : i < l.length) : ((l.take i).map f).sum + f (nth l i) ≤ (l.map f).sum := by
  have h1 : ((l.take (i + 1)).map f).sum = ((l.take i).map f).sum + f (nth l i) := by rw [takeB h]; simp
  have h2 : (l.map f).sum = ((l.take (i + 1)).map f).sum + ((l.drop (i + 1)).map f).sum := by
    conv => lhs; rw [← List.take_append_drop (i + 1) l]
    rw [List.map_append, List.sum_append]
  omega
section
variable {ro : Option Nat} {N : Nat} {ds : List Deferred} {h0 : PH} {w0 : World} {r : PH} {E : Env} {L R : List SP} {d : Option Nat} {ty : Nat} {pos : String} {af : Array Edge} {g : Option (Nat × Bool)} {x y z : Operand} {ts : Array Nat}
theorem step_kcall {f : Nat} {A B T : Ty} {As : List Ty} {S1 S2 : SP} (hx : Sub (opTy E x) (tClo f As)) (sel : Sel L [S1] R) (sp : Spec (X := Unit) prog f ([A, B] ++ As) [S1] (fun _ => T) (fun _ => [S2])) (hy : Sub (opTy E y) A) (hz : Sub (opTy E z) B) (he : ∀ args w, (callFunc f args).run prog w = .ok (.enter f args) w) :
    Step (X := Unit) ⟨prog, ro, N, ds, h0, w0, r⟩ ⟨d, .call { callee := .value x, args := #[y, z], argTypes := ts }, ty, pos, af, g⟩ E L (fun _ => T) (fun _ => S2 :: R) := by
  have := step_callv (C := ⟨prog, ro, N, ds, h0, w0, r⟩) (E := E) (L := L) (d := d) (ty := ty) (pos := pos) (af := af) (g := g) (x := x) (xs := #[y, z]) (ts := ts) (aT := [A, B]) hx sel sp (show ArgsE E [y, z] [A, B] from ⟨hy, hz, trivial⟩) he
  exact this
theorem step_act {b : Nat} {sc : GSchema} (hs : schM sc = true) {n l : Nat} {p : GPlan} {s s0 : Bst} {ks : List (List Int)} (hv : validM sc l p = true) (hd : Dep (n + 1) p) (hp : PlSz (n + 1) p) (hw : walkable p.Kind = true) (hk : KOk sc n s0 p.Kids (s, ks)) (hb : s.bad = false)
    (hP : s.P.length ≤ 100000000) (hT : s.T.length ≤ 100000000) (hF : s.F.length + p.Tests.length + (nth p.Kids 1).Attrs.length ≤ 1000000000)
    (hx : Sub (opTy E x) ((wkR b).ty (if walkable p.Kind = true then p.Kind else 0))) (hy : Sub (opTy E y) ((rPlan (n + 1)).ty p)) (hz : Sub (opTy E z) (tSl (rSl rInt) ks)) (sel : Sel L [bsS b sc s] R) :
    Step (X := Unit) ⟨prog, ro, N, ds, h0, w0, r⟩ ⟨d, .call { callee := .value x, args := #[y, z], argTypes := ts }, ty, pos, af, g⟩ E L (fun _ => tSl rInt (actS sc p s ks).2) (fun _ => bsS b sc (actS sc p s ks).1 :: R) := by
  obtain ⟨h1, h2⟩ := hk.li hb
  have hi : BdInv sc s := hk.inv
  have h1 : ks.length = p.Kids.length := h1
  have h2 : ∀ i, i < p.Kids.length → (nth ks i).length = (nth p.Kids i).Attrs.length ∧ ∀ x ∈ nth ks i, 0 ≤ x ∧ x < s.P.length := h2
  obtain ⟨z1, z2, z3, z4, z5⟩ := hp
  rw [if_pos hw] at hx
  have hx : Sub (opTy E x) (wkTy b p.Kind) := hx
  by_cases c1 : p.Kind = 1
  · obtain ⟨ht, hl⟩ := vk1 hv c1
    rw [c1] at hx
    have e : actS sc p s ks = (tableS sc s p.Table, newIx s.P.length (nth sc.Tables p.Table.toNat).Attrs.length) := by simp [actS, c1]
    rw [e]
    exact step_kcall (f := 107) (As := [CB b]) hx sel (wkTab_spec b sc n p s ks hi ht (sch_attrs hs (by omega)) hP hT) hy hz call107
  by_cases c2 : p.Kind = 2
  · obtain ⟨hn, ht, hl⟩ := vk2 hv c2
    have g0 := h2 0 (by omega)
    rw [c2] at hx
    have e : actS sc p s ks = (p.Tests.foldl (fun s t => equalS s t (nth ks 0)) s, nth ks 0) := by simp [actS, c2]
    rw [e]
    exact step_kcall (f := 108) (As := [CB b]) hx sel (wkSel_spec b sc n p s ks hi (by omega) g0.2 (by rw [g0.1]; exact ht) (by omega) (by omega)) hy hz call108
  by_cases c3 : p.Kind = 3
  · obtain ⟨hn, ht, hl⟩ := vk3 hv c3
    have g0 := h2 0 (by omega)
    rw [c3] at hx
    have e : actS sc p s ks = (s, p.Cols.map fun c => nth (nth ks 0) c.toNat) := by simp [actS, c3]
    rw [e]
    exact step_kcall (f := 110) (As := []) hx sel (wkProj_spec b sc n p s ks (by omega) (by rw [g0.1]; exact ht) (by omega)) hy hz call110
  by_cases c4 : p.Kind = 4
  · obtain ⟨hn, hl⟩ := vk4 hv c4
    have g0 := h2 0 (by omega)
    have g1 := h2 1 (by omega)
    rw [c4] at hx
    have e : actS sc p s ks = joinS (nth p.Kids 0).Attrs (nth p.Kids 1).Attrs (nth ks 0) (nth ks 1) s := by simp [actS, c4]
    rw [e]
    cases n with
    | zero => exact (hd _ (nth_mem (show 0 < p.Kids.length by omega))).elim
    | succ m =>
      exact step_kcall (f := 112) (As := [CB b]) hx sel (wkJoin_spec b sc m p s ks hi (by omega) (by omega) g0.2 g1.2 g0.1 g1.1 (Nat.le_trans (z5 _ (nth_mem (show 0 < p.Kids.length by omega))).2 (by omega)) (Nat.le_trans (z5 _ (nth_mem (show 1 < p.Kids.length by omega))).2 (by omega)) (by omega)) hy hz call112
  have c7 : p.Kind = 7 := by unfold walkable at hw; simp only [Bool.or_eq_true, decide_eq_true_eq] at hw; omega
  obtain ⟨hn, hl⟩ := vk7 hv c7
  rw [c7] at hx
  have e : actS sc p s ks = (s, nth ks 0) := by simp [actS, c7]
  rw [e]
  exact step_kcall (f := 111) (As := []) hx sel (wkRen_spec b sc n p s ks (by omega)) hy hz call111
end
/-- What walk does at queries of a depth. -/
def WalkC (b : Nat) (sc : GSchema) (n : Nat) : Prop := ∀ (lv : Nat) (p : GPlan) (s : Bst), validM sc lv p = true → PlSz n p → Dep n p → BdInv sc s → s.bad = false → s.P.length + 12 * nodes n p ≤ 100000000 → s.T.length + nodes n p ≤ 100000000 → s.F.length + binds n p ≤ 1000000000 →
  Spec (X := Unit) prog 61 [tAt b 0, tMapI kvI (wkR b) wkM, (rPlan n).ty p] [bsS b sc s] (fun _ => tSl rInt (walkS sc n s p).2) (fun _ => [bsS b sc (walkS sc n s p).1])
set_option maxHeartbeats 4000000 in
theorem walk1_spec (b : Nat) (sc : GSchema) (hs : schM sc = true) (n lv : Nat) (p : GPlan) (s : Bst) (hv : validM sc lv p = true) (hp : PlSz (n + 1) p) (hd : Dep (n + 1) p) (hi : BdInv sc s) (hb : s.bad = false) (hP : s.P.length + 12 * nodes (n + 1) p ≤ 100000000) (hT : s.T.length + nodes (n + 1) p ≤ 100000000) (hF : s.F.length + binds (n + 1) p ≤ 1000000000) (ih : WalkC b sc n) : Spec (X := Unit) prog 61 [tAt b 0, tMapI kvI (wkR b) wkM, (rPlan (n + 1)).ty p] ([bsS b sc s]) (fun _ => tSl rInt (walkS sc (n + 1) s p).2) (fun _ => [bsS b sc (walkS sc (n + 1) s p).1]) := by
 refine Spec.enter func61 rfl rfl fun h0 w0 fr0 => ?_
 obtain ⟨lv', hlv, hkd, hkn, hvk, _, _⟩ := valid_in hv
 obtain ⟨z1, z2, z3, z4, z5⟩ := id hp
 have hk2 : p.Kids.length ≤ 2 := by unfold kidsN at hkn; split at hkn <;> (try split at hkn) <;> omega
 have en : nodes (n + 1) p = 1 + (p.Kids.map (nodes n)).sum := rfl
 have eb : binds (n + 1) p = p.Tests.length + (nth p.Kids 1).Attrs.length + (p.Kids.map (binds n)).sum := rfl
 have hkk : ∀ i, KOk sc n s (p.Kids.take i) (kidsS (walkS sc n) s (p.Kids.take i)) := fun i => kids_ok (fun q hq s' hs' => walk_ok hs (hd q (List.mem_of_mem_take hq)) (hvk q (List.mem_of_mem_take hq)) hs') hi
 refine Jr (Js rfl (step_box (R := (rPlan (n + 1))) Sr) (Ja rfl (JL_nil (Jr (Jm rfl ?_)))))
 refine Js rfl (step_fieldAddr so46 Sr rfl) (Jl rfl ty3 Sr ?_)
 refine Js rfl (step_cast (step_lookupI (kv := kvI) (R := wkR b) (z := 0) (zv := .nilFunc) (KeyT.int underlying3) underlying109 (fun w => zeroValue166 w) (fun _ => (rfl : Value.nilFunc = Value.nilFunc)) Sr Sr) (Sub.eqT (by rw [wkM_get]))) ?_
 refine Ja rfl (JL_nil (J_seq (Jr (Jm rfl (Js rfl (step_eql_fnil underlying166 (A := wkTy b (if walkable p.Kind = true then p.Kind else 0)) (b := !walkable p.Kind) Sr wk_nil) ?_)))))
 refine JL_nil ?_
 refine J_cond Sr (fun h16 => ?_) (fun h16 => ?_)
 ·
  try simp only [NF] at h16
  have hwk : walkable p.Kind = false := by simpa using h16
  have hW : (walkS sc (n + 1) s p) = ({ s with bad := true }, []) := by rw [walk_succ, if_pos hwk]
  refine J_seq ?_
  refine K_bs fun vt vs vp vf => ?_
  refine J_region (Jm rfl (Js rfl (step_nilCheck Sr) (Js rfl (step_fieldAddr_own so107W Sr rfl) ?_)))
  refine Ju (step_store_fld (R := rBool) (y' := (⟨sc, vt, vs, vp, vf, true⟩ : GbuilderW)) ty4 Sr Sr zS (by exact ⟨rfl, ⟨rfl, ⟨rfl, ⟨rfl, ⟨rfl, ⟨fun _ _ q => q, rfl, by intro g hg; cases hg⟩⟩⟩⟩⟩⟩)) fun _ => ?_
  refine JL_nil (Jr (Ja rfl (JL_nil (J_ret ?_))))
  refine K_lsub (L' := [bldW b sc vt vs vp vf ((walkS sc (n + 1) s p).1.bad), own 168 rplace vp (walkS sc (n + 1) s p).1.P, own 3 rInt vf (walkS sc (n + 1) s p).1.F, own 3 rInt vt (walkS sc (n + 1) s p).1.T, own 3 rInt vs (walkS sc (n + 1) s p).1.S]) (.c zS (SPs.of (A := bldW b sc vt vs vp vf true) (by rw [hW])) (.c zS (SPs.of (A := own 168 rplace vp s.P) (by rw [hW])) (.c zS (SPs.of (A := own 3 rInt vf s.F) (by rw [hW])) (.c zS (SPs.of (A := own 3 rInt vt s.T) (by rw [hW])) (.c zS (SPs.of (A := own 3 rInt vs s.S) (by rw [hW])) (LSub.nil)))))) ?_
  refine K_lsub (L' := [bsS b sc (walkS sc (n + 1) s p).1]) LSub.bs ?_
  refine K_retv (rv := .tmp 6) rfl () (.tmp Sr) ?_
  rw [hW]; exact Sub.nilsl
 try simp only [NF] at h16
 have hwk : walkable p.Kind = true := by simpa using h16
 refine J_skip (Jr (Ja rfl (JL_nil (J_seq (Jr ?_)))))
 refine Js rfl (step_fieldAddr so46 Sr rfl) (Jl rfl ty42 Sr (Js rfl (step_len_sl underlying42 Sr) (Jm rfl (JL_nil (J_block ?_)))))
 refine J_loopL (σ := Nat × Value) (fun ⟨i, v⟩ => i ≤ p.Kids.length ∧ (kidsS (walkS sc n) s (p.Kids.take i)).1.bad = false) (fun ⟨i, v⟩ => upd (upd (upd (upd (upd (upd (upd (upd env0 0 (tAt b 0)) 1 (tMapI kvI (wkR b) wkM)) 5 (tPtr (rPlan (n + 1)) p)) 7 ((wkR b).ty (if walkable p.Kind = true then p.Kind else 0))) 8 (rV.ty v)) 21 (tSl (rPlan n) p.Kids)) 22 (tV (.int .i64 p.Kids.length))) 23 (tV (.int .i64 i))) (fun ⟨i, v⟩ => [bsS b sc (kidsS (walkS sc n) s (p.Kids.take i)).1, own 36 (rSl rInt) v (kidsS (walkS sc n) s (p.Kids.take i)).2]) (fun ⟨i, v⟩ => p.Kids.length - i) (0, .slice none 0 0) ⟨by omega, hb⟩ (.u (.u (.u (SubE.upd (Sub.rV rfl) (zU))))) (LSub.trans (LSub.nilown (e := 36) (R := rSl rInt)) (.c zS (SPs.of (A := bsS b sc s) rfl) (.c zS (SPs.of (A := own 36 (rSl rInt) (.slice none 0 0) ([] : List (List Int))) rfl) (LSub.nil)))) ?_
 rintro ⟨i, v⟩ ⟨hil, hbi⟩
 refine Jr (Js rfl (step_lss Sr Sr) (JL_nil (J_seq ?_)))
 refine J_cond Sr (fun h24 => ?_) (fun h24 => ?_)
 ·
  try simp only [NF] at h24
  have hlt : i < p.Kids.length := by omega
  refine K_fact 21 (fun _ _ r => kids_pos (show 0 < p.Kids.length by omega) r) fun ⟨m, hm⟩ => ?_
  have hKi := hkk i
  have g1 := hKi.pm
  have g2 := hKi.fl
  have g3 := hKi.tl
  have g5 := hKi.le
  rw [List.length_take] at g5
  have g4 := sum_take (f := nodes n) hlt
  have g6 := sum_take (f := binds n) hlt
  have hsn := kids_snoc (f := walkS sc n) (q := (nth p.Kids i)) (l := p.Kids.take i) hb hbi
  rw [← takeB hlt] at hsn
  refine J_skip (J_seq (J_block (Jr ?_)))
  refine Js rfl (step_indexAddr_sl  underlying42 ty46 Sr Sr rfl (gb (by exact hlt))) ?_
  refine Jl rfl ty46 Sr ?_
  refine Jx rfl (step_alloc (R := rPlan n) (z := GPl.zero) (fun w => zeroValue46 w) (zr46' hm)) fun v10 => ?_
  refine Ju (step_store_box ty46 Sr Sr zS) fun _ => ?_
  refine JL_freeze (t := 10) (Sel.take (Sel.none _)) Frz.box ?_
  refine JL_nil (Jr (Jm rfl (Jm rfl (Jm rfl (Jl rfl ty46 Sr ?_)))))
  refine Jx rfl (step_call (Sel.take (Sel.none _)) (ih lv' (nth p.Kids i) (kidsS (walkS sc n) s (p.Kids.take i)).1 (hvk _ (nth_mem hlt)) (z5 _ (nth_mem hlt)).1 (hd _ (nth_mem hlt)) hKi.inv hbi zG zG zG) ⟨Sr, Sr, Sr, trivial⟩ call61) fun v31 => ?_
  refine Js rfl (step_literal (ys := [_]) underlying58 el36 ⟨rfl, Sr, trivial⟩ rfl (by decide)) ?_
  refine Jx rfl (step_append underlying58 el36 Sr Sr zS (by simp; omega) (by simp; omega)) fun v33 => ?_
  refine Ja rfl (JL_nil (J_seq ?_))
  refine K_lsub (L' := [bsS b sc (walkS sc n (kidsS (walkS sc n) s (p.Kids.take i)).1 (nth p.Kids i)).1, own 36 (rSl rInt) v33 ((kidsS (walkS sc n) s (p.Kids.take i)).2 ++ [(walkS sc n (kidsS (walkS sc n) s (p.Kids.take i)).1 (nth p.Kids i)).2])]) (zL) ?_
  refine K_bs fun vt vs vp vf => ?_
  refine J_region (Jm rfl (Js rfl (step_nilCheck Sr) (Js rfl (step_fieldAddr_own so107W Sr rfl) ?_)))
  refine Js rfl (step_load_fld ty4 Sr rfl zS) ?_
  refine JL_nil ?_
  refine J_cond Sr (fun h37 => ?_) (fun h37 => ?_)
  ·
   try simp only [NF] at h37
   have hb1 : (walkS sc n (kidsS (walkS sc n) s (p.Kids.take i)).1 (nth p.Kids i)).1.bad = true := h37
   rw [if_pos hb1] at hsn
   have hst : (kidsS (walkS sc n) s p.Kids) = (kidsS (walkS sc n) s (p.Kids.take (i + 1))) := (congrArg (kidsS (walkS sc n) s) (List.take_append_drop (i + 1) p.Kids).symm).trans (kids_stop hb (by rw [hsn]; exact hb1))
   have hW : (walkS sc (n + 1) s p) = ((walkS sc n (kidsS (walkS sc n) s (p.Kids.take i)).1 (nth p.Kids i)).1, []) := by rw [walk_succ, if_neg (by rw [hwk]; simp), hst, hsn, if_pos hb1]
   refine Jr (Ja rfl (JL_nil (J_ret ?_)))
   refine K_lsub LSub.bs ?_
   refine K_drop (Sel.skip (Sel.take (Sel.none _))) ?_
   refine K_lsub (L' := [bsS b sc (walkS sc (n + 1) s p).1]) (.c zS (SPs.of (A := bsS b sc (walkS sc n (kidsS (walkS sc n) s (p.Kids.take i)).1 (nth p.Kids i)).1) (by rw [hW])) (LSub.nil)) ?_
   refine K_retv (rv := .tmp 6) rfl () (.tmp Sr) ?_
   rw [hW]; exact Sub.nilsl
  try simp only [NF] at h37
  have hb1 : (walkS sc n (kidsS (walkS sc n) s (p.Kids.take i)).1 (nth p.Kids i)).1.bad = false := h37
  rw [if_neg (by rw [hb1]; simp)] at hsn
  refine J_skip (J_region (Js rfl (step_add Sr Sr z6) (Jm rfl (JL_nil ?_))))
  refine K_againL (σ := Nat × Value) (s := (i, v)) (i + 1, v33) zO ⟨by omega, by rw [hsn]; exact hb1⟩ (zU) (LSub.trans LSub.bs (.c zS (SPs.of (A := bsS b sc (walkS sc n (kidsS (walkS sc n) s (p.Kids.take i)).1 (nth p.Kids i)).1) (by rw [hsn])) (.c zS (SPs.of (A := own 36 (rSl rInt) v33 ((kidsS (walkS sc n) s (p.Kids.take i)).2 ++ [(walkS sc n (kidsS (walkS sc n) s (p.Kids.take i)).1 (nth p.Kids i)).2])) (by rw [hsn])) (LSub.nil))))
 try simp only [NF] at h24
 obtain rfl : i = p.Kids.length := by omega
 have hK : (kidsS (walkS sc n) s (p.Kids.take p.Kids.length)) = (kidsS (walkS sc n) s p.Kids) := by rw [List.take_length]
 have hbS : (kidsS (walkS sc n) s p.Kids).1.bad = false := by rw [← hK]; exact hbi
 have hkS : KOk sc n s p.Kids ((kidsS (walkS sc n) s p.Kids).1, (kidsS (walkS sc n) s p.Kids).2) := by have := hkk p.Kids.length; rw [List.take_length] at this; exact this
 have g1 : (kidsS (walkS sc n) s p.Kids).1.P.length ≤ s.P.length + 12 * (p.Kids.map (nodes n)).sum := hkS.pm
 have g2 : (kidsS (walkS sc n) s p.Kids).1.F.length ≤ s.F.length + (p.Kids.map (binds n)).sum := hkS.fl
 have g3 : (kidsS (walkS sc n) s p.Kids).1.T.length ≤ s.T.length + (p.Kids.map (nodes n)).sum := hkS.tl
 have hW : (walkS sc (n + 1) s p) = actS sc p (kidsS (walkS sc n) s p.Kids).1 (kidsS (walkS sc n) s p.Kids).2 := by rw [walk_succ, if_neg (by rw [hwk]; simp), if_neg (by rw [hbS]; simp)]
 refine J_exit (J_seq ?_)
 refine K_lsub (L' := [bsS b sc (kidsS (walkS sc n) s p.Kids).1, own 36 (rSl rInt) v (kidsS (walkS sc n) s p.Kids).2]) (.c zS (SPs.of (A := bsS b sc (kidsS (walkS sc n) s (p.Kids.take p.Kids.length)).1) (by rw [hK])) (.c zS (SPs.of (A := own 36 (rSl rInt) v (kidsS (walkS sc n) s (p.Kids.take p.Kids.length)).2) (by rw [hK])) (LSub.nil))) ?_
 refine K_freeze (t := 8) (A' := tSl (rSl rInt) (kidsS (walkS sc n) s p.Kids).2) (Sel.skip (Sel.take (Sel.none _))) Frz.own ?_
 refine J_region (Jm rfl (Jl rfl ty46 Sr (Jm rfl ?_)))
 refine Jx rfl (step_act hs hv hd hp hwk (s := (kidsS (walkS sc n) s p.Kids).1) (ks := (kidsS (walkS sc n) s p.Kids).2) (s0 := s) hkS hbS zG zG zG Sr Sr Sr (Sel.take (Sel.none _))) fun v42 => ?_
 refine Ja rfl (JL_nil (J_ret ?_))
 refine K_lsub (L' := [bsS b sc (walkS sc (n + 1) s p).1]) (.c zS (SPs.of (A := bsS b sc (actS sc p (kidsS (walkS sc n) s p.Kids).1 (kidsS (walkS sc n) s p.Kids).2).1) (by rw [hW])) (LSub.nil)) ?_
 refine K_retv (rv := .tmp 6) rfl () (.tmp Sr) ?_
 rw [hW]; exact Sr
theorem walk_spec (b : Nat) (sc : GSchema) (hs : schM sc = true) : ∀ n, WalkC b sc n
  | 0 => fun _ _ _ _ _ hd _ _ _ _ _ => hd.elim
  | n + 1 => fun lv p s hv hp hd hi hb hP hT hF => walk1_spec b sc hs n lv p s hv hp hd hi hb hP hT hF (walk_spec b sc hs n)
open Go Go.Proofs Go.Proofs.Tryz
theorem termsS_snoc (P : List Gplace) (o : Nat) (c : Int) : ∀ (l : List Int) (s : Tst), termsS P o s (l ++ [c]) = ((termS P (termsS P o s l).1 (o + c.toNat)).1, (termsS P o s l).2 ++ [(termS P (termsS P o s l).1 (o + c.toNat)).2])
  | [], s => rfl
  | a :: l, s => by
    show termsS P o s (a :: (l ++ [c])) = _
    simp only [termsS, termsS_snoc P o c l, List.cons_append]
theorem atomsS_snoc (sc : GSchema) (P : List Gplace) (x : Int × Int) : ∀ (l : List (Int × Int)) (s : Tst), atomsS sc P s (l ++ [x]) = ((atomS sc P (atomsS sc P s l).1 x.1 x.2.toNat).1, (atomsS sc P s l).2 ++ [(atomS sc P (atomsS sc P s l).1 x.1 x.2.toNat).2])
  | [], s => rfl
  | (a, b) :: l, s => by
    show atomsS sc P s ((a, b) :: (l ++ [x])) = _
    simp only [atomsS, atomsS_snoc sc P x l, List.cons_append]
theorem termS_len (P : List Gplace) (s : Tst) (i : Nat) : (termS P s i).1.C.length ≤ s.C.length + 1 ∧ (termS P s i).1.M.length ≤ s.M.length + 1 := by
  unfold termS
  split
  · split
    · simp
    · simp
  · split
    · simp
    · rename_i h
      refine ⟨by simp, ?_⟩
      show (mput s.M _ _).length ≤ _
      exact mput_length_le s.M (topM P i : Int) (s.M.length : Int)
theorem termsS_len (P : List Gplace) (o : Nat) : ∀ (l : List Int) (s : Tst), (termsS P o s l).1.C.length ≤ s.C.length + l.length ∧ (termsS P o s l).1.M.length ≤ s.M.length + l.length ∧ (termsS P o s l).2.length = l.length
  | [], s => by simp [termsS]
  | c :: l, s => by
    have h1 := termS_len P s (o + c.toNat)
    have h2 := termsS_len P o l (termS P s (o + c.toNat)).1
    simp only [termsS, List.length_cons]
    omega
theorem colsK_len (t : GTable) : (colsK t).length ≤ t.Key.length + t.Attrs.length := by
  unfold colsK
  rw [List.length_append, List.length_map]
  have := List.length_filter_le (fun (c : Nat) => !(t.Key.any fun x => decide ((c : Int) = x))) (List.range t.Attrs.length)
  rw [List.length_range] at this
  omega
theorem atomsS_len (sc : GSchema) (P : List Gplace) (B : Nat) : ∀ (l : List (Int × Int)) (s : Tst), (∀ x ∈ l, (colsK (nth sc.Tables x.1.toNat)).length ≤ B) → (atomsS sc P s l).1.C.length ≤ s.C.length + l.length * B ∧ (atomsS sc P s l).1.M.length ≤ s.M.length + l.length * B ∧ (atomsS sc P s l).2.length = l.length
  | [], s, _ => by simp [atomsS]
  | (t, o) :: l, s, hB => by
    have h1 := termsS_len P o.toNat (colsK (nth sc.Tables t.toNat)) s
    have h2 := atomsS_len sc P B l (atomS sc P s t o.toNat).1 (fun x hx => hB x (List.mem_cons_of_mem _ hx))
    have h3 := hB (t, o) (by simp)
    have h3 : (colsK (nth sc.Tables t.toNat)).length ≤ B := h3
    have h4 : (atomS sc P s t o.toNat).1 = (termsS P o.toNat s (colsK (nth sc.Tables t.toNat))).1 := rfl
    rw [h4] at h2
    simp only [atomsS, List.length_cons, Nat.succ_mul, h4]
    refine ⟨by omega, by omega, by rw [h2.2.2]⟩
/-- The columns of a table behind its key, as far as reckoned. -/
def colsJ (t : GTable) (j : Nat) : List Int := t.Key ++ ((List.range j).filter fun (c : Nat) => !(t.Key.any fun x => decide ((c : Int) = x))).map fun (c : Nat) => (c : Int)
theorem colsJ_all (t : GTable) : colsJ t t.Attrs.length = colsK t := rfl
theorem colsJ_zero (t : GTable) : colsJ t 0 = t.Key := by simp [colsJ]
theorem colsJ_in {t : GTable} {j : Nat} (h : (t.Key.any fun x => decide ((j : Int) = x)) = true) : colsJ t (j + 1) = colsJ t j := by
  simp [colsJ, List.range_succ, List.filter_append, h]
theorem colsJ_out {t : GTable} {j : Nat} (h : (t.Key.any fun x => decide ((j : Int) = x)) = false) : colsJ t (j + 1) = colsJ t j ++ [(j : Int)] := by
  simp [colsJ, List.range_succ, List.filter_append, h]
theorem colsJ_len (t : GTable) (j : Nat) : (colsJ t j).length ≤ t.Key.length + j := by
  unfold colsJ
  rw [List.length_append, List.length_map]
  have := List.length_filter_le (fun (c : Nat) => !(t.Key.any fun x => decide ((c : Int) = x))) (List.range j)
  rw [List.length_range] at this
  omega
theorem colsK_in {t : GTable} (hk : ∀ c ∈ t.Key, 0 ≤ c ∧ c < t.Attrs.length) : ∀ c ∈ colsK t, 0 ≤ c ∧ c < t.Attrs.length := by
  intro c hc
  unfold colsK at hc
  rcases List.mem_append.1 hc with hc | hc
  · exact hk c hc
  · obtain ⟨i, hi, rfl⟩ := List.mem_map.1 hc
    have := List.mem_range.1 (List.mem_filter.1 hi).1
    omega
open Go Go.Proofs Go.Proofs.Tryz
theorem ptr_one {α : Type} {R : Rp α} {x : α} : ∀ h v, (tPtr R x).p h v → v.oneCell' = true := by rintro h v ⟨b, o, _, e, _⟩; rw [e]; rfl
abbrev bldO (sc : GSchema) (s : Bst) : Gbuilder := ⟨sc, s.T, s.S, s.P, s.F, s.bad⟩
abbrev CP (B : Gbuilder) : Ty := tPtr (rTyp (tPtr rbuilder B) ptr_one) ()
theorem ty174V : TyOf prog 174 rV := ⟨fun w => isAgg174 w, fun w => sizeOf174 w⟩
/-- A query as far as made: its constants, its atoms, the variables. -/
def qS (bq : Nat) (vm va : Value) (s : Tst) : SP := SP.ex fun vc : Value => stars [box bq 25 rConjW ⟨0, vc, va⟩, own 87 rValue vc s.C, mapOwn kvI rInt vm s.M]
theorem LSub.q {bq : Nat} {vm va vc : Value} {s : Tst} {L : List SP} : LSub (box bq 25 rConjW ⟨0, vc, va⟩ :: own 87 rValue vc s.C :: mapOwn kvI rInt vm s.M :: L) (qS bq vm va s :: L) := LSub.ex vc (LSub.stars LSub.rfl)
theorem K_q {bq : Nat} {vm va : Value} {s : Tst} {C : Cx} {k : Act → World → Prop} {E : Env} {L : List SP} (hk : ∀ vc, K C k E (box bq 25 rConjW ⟨0, vc, va⟩ :: own 87 rValue vc s.C :: mapOwn kvI rInt vm s.M :: L)) : K C k E (qS bq vm va s :: L) := K_ex fun vc => K_stars (hk vc)
theorem Frz.atom {b : Nat} {t k : Int} {vc vt : Value} {cols terms : List Int} {S : List SP} : Frz (Lg.box b 38 rAtomW ⟨t, vc, vt, k⟩ :: Lg.own 3 rInt vc cols :: Lg.own 3 rInt vt terms :: S) (tAt b 0) (tPtr rAtom ⟨t, cols, terms, k⟩) :=
  Frz.upS fun h m cs d hs r => up38W cols terms (PH.le_join_left h m) (Frz.ownV h m vc d hs rfl) ((Frz.skip Frz.ownV) h m vt d hs rfl) r
theorem Frz.conj {b : Nat} {n : Int} {vc va : Value} {C : List GValue} {A : List GAtom} {S : List SP} : Frz (Lg.box b 25 rConjW ⟨n, vc, va⟩ :: Lg.own 87 rValue vc C :: Lg.own 38 rAtom va A :: S) (tAt b 0) (tPtr rConj ⟨n, C, A⟩) :=
  Frz.upS fun h m cs d hs r => up25W C A (PH.le_join_left h m) (Frz.ownV h m vc d hs rfl) ((Frz.skip Frz.ownV) h m va d hs rfl) r
theorem Frz.bldO {b : Nat} {sc : GSchema} {s : Bst} {vt vs vp vf : Value} {S : List SP} : Frz (Lg.box b 107 rbuilderW ⟨sc, vt, vs, vp, vf, s.bad⟩ :: Lg.own 168 rplace vp s.P :: Lg.own 3 rInt vf s.F :: Lg.own 3 rInt vt s.T :: Lg.own 3 rInt vs s.S :: S) (tAt b 0) (tPtr rbuilder (Lg.bldO sc s)) :=
  Frz.upS fun h m cs d hs r => up107W s.T s.S s.P s.F (PH.le_join_left h m) ((Frz.skip (Frz.skip Frz.ownV)) h m vt d hs rfl) ((Frz.skip (Frz.skip (Frz.skip Frz.ownV))) h m vs d hs rfl) (Frz.ownV h m vp d hs rfl) ((Frz.skip Frz.ownV) h m vf d hs rfl) r
def atI (sc : GSchema) (s : Bst) (i : Nat) : Tst × List GAtom := atomsS sc s.P ⟨[], []⟩ ((s.T.zip s.S).take i)
set_option maxHeartbeats 1000000 in
theorem topO_spec (B : Gbuilder) (h : POk B.places) (i : Nat) (hi : i < B.places.length) : Fun1 prog 118 [tPtr rbuilder B, tV (.int .i64 i)] (tV (.int .i64 (topM B.places i))) := by
 refine Spec.enter func118 rfl rfl fun h0 w0 fr0 => ?_
 obtain ⟨c, hc⟩ := h.acy.rank
 refine Jr (Ja rfl (JL_nil (J_seq (J_block ?_))))
 refine J_loopL (σ := Nat) (fun j => j < B.places.length ∧ topM B.places j = topM B.places i) (fun j => upd (upd (upd env0 0 (tPtr rbuilder B)) 1 (tV (.int .i64 j))) 4 (tV (.int .i64 0))) (fun j => []) (fun j => c j) i ⟨hi, rfl⟩ (zU) (LSub.rfl) ?_
 rintro j ⟨hj, hv⟩
 refine J_seq (Jr (Jm rfl (Js rfl (step_nilCheckP Sr) (Js rfl (step_fieldAddr so107 Sr rfl) (Jl rfl ty105 Sr ?_)))))
 refine Jm rfl ?_
 refine Js rfl (step_indexAddr_sl (i := j) underlying105 ty168 Sr Sr (by rfl) (gb (by exact hj))) ?_
 refine Js rfl (step_fieldAddr so168 Sr rfl) (Jl rfl ty3 Sr (Jm rfl (Js rfl (step_neq Sr Sr) (JL_nil ?_))))
 refine J_cond Sr (fun h14 => ?_) (fun h14 => ?_)
 ·
  try simp only [NF] at h14
  have hup := h.nn j hj
  obtain ⟨hc1, hc2, hc3⟩ := hc j hj
  have hne : ¬ upN B.places j = j := fun e => h14 (by unfold upN at e; omega)
  have hdec : c (upN B.places j) < c j := by rcases hc3 with q | q; exact absurd q hne; exact q
  refine J_skip (J_block (J_region (Jm rfl (Js rfl (step_nilCheckP Sr) (Js rfl (step_fieldAddr so107 Sr rfl) ?_)))))
  refine Jl rfl ty105 Sr (Jm rfl ?_)
  refine Js rfl (step_indexAddr_sl (i := j) underlying105 ty168 Sr Sr (by rfl) (gb (by exact hj))) ?_
  refine Js rfl (step_fieldAddr so168 Sr rfl) (Jl rfl ty3 Sr (Ja rfl (JL_nil ?_)))
  refine K_againL (σ := Nat) (s := j) (upN B.places j) (hdec) ⟨hc2, by rw [top_next h hj hc2]; exact hv⟩ (.u (SubE.upd (Sub.int (by show (nth B.places j).up = ((nth B.places j).up.toNat : Int); omega)) (zU))) (LSub.rfl)
 try simp only [NF] at h14
 have hself : topM B.places j = j := top_self h hj (by unfold upN; omega)
 refine J_exit (Jr (Jm rfl (Ja rfl (JL_nil (J_ret ?_)))))
 refine K_retv (rv := .tmp 4) rfl () (.tmp Sr) (Sub.int ?_)
 rw [← hv, hself]
set_option maxHeartbeats 2000000 in
theorem aloneO_spec (B : Gbuilder) (h : POk B.places) (hl : B.places.length ≤ 1000000000) (i : Nat) (hi : i < B.places.length) : Fun1 prog 64 [tPtr rbuilder B, tV (.int .i64 i)] (tV (.bool (aloneM B.places i))) := by
 refine Spec.enter func64 rfl rfl fun h0 w0 fr0 => ?_
 have htl := h.top_lt hi
 refine Jr (Ja rfl (JL_nil (Jr (Ja rfl (JL_nil ?_)))))
 refine J_seq (Jr (Jm rfl (Js rfl (step_nilCheckP Sr) (Js rfl (step_fieldAddr so107 Sr rfl) (Jl rfl ty105 Sr ?_)))))
 refine Js rfl (step_len_sl underlying105 Sr) (Jm rfl (JL_nil (J_block ?_)))
 refine J_loopL (σ := Nat) (fun k => k ≤ B.places.length) (fun k => upd (upd (upd (upd (upd (upd env0 0 (tPtr rbuilder B)) 1 (tV (.int .i64 i))) 4 (tV (.bool false))) 5 (tV (.int .i64 (((List.range k).countP fun k => decide (topM B.places k = topM B.places i) : Nat) : Int)))) 11 (tV (.int .i64 B.places.length))) 12 (tV (.int .i64 k))) (fun k => []) (fun k => B.places.length - k) 0 zG (.u (.u (SubE.upd (Sub.int (by simp)) (zU)))) (LSub.rfl) ?_
 rintro k hk
 refine Jr (Js rfl (step_lss Sr Sr) (JL_nil (J_seq ?_)))
 refine J_cond Sr (fun h13 => ?_) (fun h13 => ?_)
 ·
  try simp only [NF] at h13
  have hlt : k < B.places.length := by omega
  have hcs : (List.range (k + 1)).countP (fun k => decide (topM B.places k = topM B.places i)) = (List.range k).countP (fun k => decide (topM B.places k = topM B.places i)) + if topM B.places k = topM B.places i then 1 else 0 := by rw [List.range_succ, List.countP_append]; simp [List.countP_cons]
  have hcl : (List.range k).countP (fun k => decide (topM B.places k = topM B.places i)) ≤ k := by have := List.countP_le_length (p := fun k => decide (topM B.places k = topM B.places i)) (l := List.range k); simpa using this
  refine J_skip (J_seq (J_block (Jr (Jm rfl (Ja rfl ?_)))))
  refine JL_nil (Jr (Jm rfl (Jm rfl (Js rfl (step_call0 (topO_spec B h k hlt) ⟨Sr, Sr, trivial⟩ call118) (Jm rfl ?_)))))
  refine Jm rfl (Js rfl (step_call0 (topO_spec B h i hi) ⟨Sr, Sr, trivial⟩ call118) (Js rfl (step_eql Sr Sr) (JL_nil ?_)))
  refine J_cond Sr (fun h21 => ?_) (fun h21 => ?_)
  ·
   try simp only [NF] at h21
   rw [if_pos zG] at hcs
   refine J_region (Jm rfl (Js rfl (step_add Sr Sr z6) (Ja rfl (JL_nil (J_region ?_)))))
   refine Js rfl (step_add Sr Sr z6) (Jm rfl (JL_nil ?_))
   refine K_againL (σ := Nat) (s := k) (k + 1) zO zG (.u (.u (SubE.upd (Sub.int (by rw [hcs]; omega)) (zU)))) (LSub.rfl)
  try simp only [NF] at h21
  rw [if_neg zG] at hcs
  refine J_skip (J_region (Js rfl (step_add Sr Sr z6) (Jm rfl (JL_nil ?_))))
  refine K_againL (σ := Nat) (s := k) (k + 1) zO zG (.u (.u (SubE.upd (Sub.int (by rw [hcs]; omega)) (zU)))) (LSub.rfl)
 try simp only [NF] at h13
 obtain rfl : k = B.places.length := by omega
 refine J_exit (J_seq ?_)
 refine J_draw [⟨0, [5], true⟩, ⟨1, [25], true⟩, ⟨2, [26], true⟩, ⟨3, [0, 27], true⟩, ⟨4, [27, 28], true⟩, ⟨5, [27, 29], true⟩, ⟨6, [27, 30], true⟩, ⟨7, [0, 27], true⟩, ⟨8, [1, 27], true⟩, ⟨9, [27, 32, 33], true⟩, ⟨10, [27, 31, 34], true⟩, ⟨11, [27, 35], true⟩, ⟨12, [27, 36], true⟩, ⟨13, [27, 37], true⟩, ⟨14, [27, 38], true⟩, ⟨15, [39], true⟩] rfl (by kernel_rfl) ?_
 refine Mv rfl rfl (Mf rfl rfl (step_eql Sr Sr) (Mv rfl rfl ?_))
 refine Mk rfl rfl Sr rfl (step_move Sr) ?_
 refine Mg rfl rfl Sr rfl (fun hw => step_nilCheckP (Sub.w hw)) (Mg rfl rfl Sr rfl (fun hw => step_fieldAddr so107 (Sub.w hw) rfl) (Mg rfl rfl Sr rfl (fun hw => step_load_ptr ty105 (Sub.w hw)) ?_))
 refine Mk rfl rfl Sr rfl (step_move Sr) ?_
 refine Mk rfl rfl Sr rfl (step_move Sr) ?_
 refine Mg rfl rfl Sr rfl (fun hw => step_call0 (topO_spec B h i hi) ⟨(Sub.w hw), (Sub.w hw), trivial⟩ call118) ?_
 refine Mg rfl rfl Sr rfl (fun hw => step_indexAddr_sl (i := (topM B.places i)) underlying105 ty168 (Sub.w hw) (Sub.w hw) (by rfl) (gb (by have hwq := hw; (try simp only [beqB_t, beqB_f, NF] at hwq); exact htl))) ?_
 refine Mg rfl rfl Sr rfl (fun hw => step_fieldAddr so168 (Sub.w hw) rfl) (Mg rfl rfl Sr rfl (fun hw => step_load_ptr ty4 (Sub.w hw)) (Mg rfl rfl Sr rfl (fun hw => step_not (Sub.w hw)) (Mf rfl rfl (step_pick_and Sr Sr) (Mf rfl rfl (step_assign Sr) (JM_nil ?_)))))
 refine J_ret ?_
 refine K_retv (rv := .tmp 4) rfl () (.tmp Sr) (Sub.bool ?_)
 unfold aloneM
 congr 1
 rw [decide_eq_decide]; omega
theorem IndexFuncB_spec (l : List Int) (hl : l.length ≤ 1000000000000) (gi : Nat) (Bs : List Ty) (p : Int → Bool) (hp : ∀ x ∈ l, Fun1 prog gi (Bs ++ [tV (.int .i64 x)]) (tV (.bool (p x)))) (he : ∀ args w, (callFunc gi args).run prog w = .ok (.enter gi args) w) : Fun1 prog 117 [tSl rInt l, tCloB gi Bs] (tV (.int .i64 (findI p 0 l))) := by
 refine Spec.enter func117 rfl rfl fun h0 w0 fr0 => ?_
 refine Jr (Ja rfl (JL_nil (J_seq (Jr (Jm rfl ?_)))))
 refine Js rfl (step_len_sl underlying36 Sr) (Jm rfl (JL_nil (J_block ?_)))
 refine J_loopL (σ := Nat) (fun i => i ≤ l.length ∧ findI p 0 l = findI p i (l.drop i)) (fun i => upd (upd (upd (upd env0 0 (tSl rInt l)) 1 (tCloB gi Bs)) 7 (tV (.int .i64 l.length))) 8 (tV (.int .i64 i))) (fun i => []) (fun i => l.length - i) 0 ⟨by omega, by simp⟩ (zU) (LSub.rfl) ?_
 rintro i ⟨hi, hv⟩
 refine Jr (Js rfl (step_lss Sr Sr) (JL_nil (J_seq ?_)))
 refine J_cond Sr (fun h9 => ?_) (fun h9 => ?_)
 ·
  try simp only [NF] at h9
  have hlt : i < l.length := by omega
  have hd := dropB hlt
  refine J_skip (J_seq (J_block (Jr (Jm rfl (Ja rfl ?_)))))
  refine JL_nil (Jr (Jm rfl (Jm rfl (Jm rfl ?_))))
  refine Js rfl (step_indexAddr_sl  underlying36 ty3 Sr Sr rfl (gb (by first | assumption | omega))) ?_
  refine Jl rfl ty3 Sr (Js rfl (step_callvB0 (aT := [_]) Sr (hp _ (nth_mem hlt)) ⟨Sr, trivial⟩ he) (JL_nil ?_))
  refine J_cond Sr (fun h16 => ?_) (fun h16 => ?_)
  ·
   try simp only [NF] at h16
   refine Jr (Jm rfl (Ja rfl (JL_nil (J_ret ?_))))
   refine K_retv (rv := .tmp 4) rfl () (.tmp Sr) (Sub.int ?_)
   rw [hv, hd]; simp only [findI]; rw [if_pos h16]
  try simp only [NF] at h16
  refine J_skip (J_region (Js rfl (step_add Sr Sr z6) (Jm rfl (JL_nil ?_))))
  refine K_againL (σ := Nat) (s := i) (i + 1) zO ?_ (zU) (LSub.rfl)
  refine ⟨by omega, ?_⟩
  rw [hv, hd]; simp only [findI]; rw [if_neg (by simp [h16])]; simp
 try simp only [NF] at h9
 refine J_exit (Jr (Ja rfl (JL_nil (J_ret ?_))))
 refine K_retv (rv := .tmp 4) rfl () (.tmp Sr) (Sub.int ?_)
 rw [hv, List.drop_of_length_le zG]; rfl
theorem ContainsFuncB_spec (l : List Int) (hl : l.length ≤ 1000000000000) (gi : Nat) (Bs : List Ty) (p : Int → Bool) (hp : ∀ x ∈ l, Fun1 prog gi (Bs ++ [tV (.int .i64 x)]) (tV (.bool (p x)))) (he : ∀ args w, (callFunc gi args).run prog w = .ok (.enter gi args) w) : Fun1 prog 63 [tSl rInt l, tCloB gi Bs] (tV (.bool (l.any p))) := by
 refine Spec.enter func63 rfl rfl fun h0 w0 fr0 => ?_
 refine Jr (Ja rfl (JL_nil (Jr (Jm rfl (Jm rfl ?_)))))
 refine Js rfl (step_call0 (IndexFuncB_spec l hl gi Bs p hp he) ⟨Sr, Sr, trivial⟩ call117) (Js rfl (step_geq Sr Sr) (Ja rfl (JL_nil (J_ret ?_))))
 refine K_retv (rv := .tmp 4) rfl () (.tmp Sr) (Sub.bool ?_)
 have hq := (findI_bd p l 0 zG).2.2
 by_cases ha : l.any p = true
 ·
  rw [ha]; simp; exact hq.2 ha
 simp only [Bool.not_eq_true] at ha; rw [ha]; simp; have : ¬ 0 ≤ findI p 0 l := (fun h => by rw [hq.1 h] at ha; cases ha)
 omega
set_option maxHeartbeats 2000000 in
theorem conjF_spec (B : Gbuilder) (h : POk B.places) (bq : Nat) (vm va : Value) (s : Tst) (i : Nat) (hi : i < B.places.length) (hC : s.C.length ≤ 100000000) (hM : s.M.length ≤ 100000000) : Spec (X := Value) prog 119 [tV (.int .i64 i), CP B, tAt bq 0, tPtr rV vm] ([qS bq vm va s]) (fun _ => tV (.int .i64 (termS B.places s i).2)) (fun _ => [qS bq vm va (termS B.places s i).1]) := by
 refine Spec.enter func119 rfl rfl fun h0 w0 fr0 => ?_
 have htl := h.top_lt hi
 refine K_q fun vc => ?_
 refine Jr (Ja rfl (JL_nil (Jr (Jl rfl ty104T Sr (Jm rfl ?_)))))
 refine Js rfl (step_call0 (topO_spec B h i hi) ⟨Sr, Sr, trivial⟩ call118) (Ja rfl (JL_nil (J_seq (Jr (Jl rfl ty104T Sr ?_)))))
 refine Js rfl (step_nilCheckP Sr) (Js rfl (step_fieldAddr so107 Sr rfl) (Jl rfl ty105 Sr (Jm rfl ?_)))
 refine Js rfl (step_indexAddr_sl (i := (topM B.places i)) underlying105 ty168 Sr Sr (by rfl) (gb (by exact htl))) ?_
 refine Jl rfl ty168 Sr ?_
 refine Jx rfl (step_alloc (fun w => zeroValue168 w) zr168) fun v6 => ?_
 refine Ju (step_store_box ty168 Sr Sr zS) fun _ => ?_
 refine JL_freeze (t := 6) (Sel.take (Sel.none _)) Frz.box ?_
 refine JL_nil (Jr (Js rfl (step_fieldAddr so168 Sr rfl) (Jl rfl ty4 Sr (JL_nil ?_))))
 refine J_cond Sr (fun h21 => ?_) (fun h21 => ?_)
 ·
  try simp only [NF] at h21
  have hbd := findI_bd (fun x => decide ((nth B.places (topM B.places i)).value = x)) s.C 0 zG
  refine Jr (Js rfl (step_fieldAddr_own so25W Sr rfl) ?_)
  refine Js rfl (step_load_fld ty22V25 Sr rfl zS) ?_
  refine Js rfl (step_fieldAddr so168 Sr rfl) (Jl rfl ty87 Sr ?_)
  refine Js rfl (step_call_look zS (IndexV_spec s.C (nth B.places (topM B.places i)).value zG) (fun _ => Flat.v _) ⟨Frz.own, Frz.sub Sr, trivial⟩ call100) ?_
  refine Ja rfl (JL_nil (J_seq (Jr (Jm rfl (Js rfl (step_lss Sr Sr) ?_)))))
  refine JL_nil ?_
  refine J_cond Sr (fun h28 => ?_) (fun h28 => ?_)
  ·
   try simp only [NF] at h28
   refine Jr (Js rfl (step_fieldAddr_own so25W Sr rfl) ?_)
   refine Js rfl (step_load_fld ty22V25 Sr rfl zS) ?_
   refine Js rfl (step_len_own underlying22 Sr zS) ?_
   refine Ja rfl (JL_nil (J_region (Js rfl (step_fieldAddr_own so25W Sr rfl) ?_)))
   refine Js rfl (step_load_fld ty22V25 Sr rfl zS) ?_
   refine Js rfl (step_fieldAddr so168 Sr rfl) (Jl rfl ty87 Sr ?_)
   refine Js rfl (step_literal (ys := [_]) underlying22 el87 ⟨rfl, Sr, trivial⟩ rfl (by decide)) ?_
   refine Jx rfl (step_append underlying22 el87 Sr Sr zS (by simp; omega) (by simp; omega)) fun v37 => ?_
   refine Js rfl (step_fieldAddr_own so25W Sr rfl) ?_
   refine Ju (step_store_fld (R := rV) (y' := (⟨0, v37, va⟩ : GConjW)) ty22V25 Sr Sr zS (by exact ⟨rfl, ⟨fun _ _ q => q, rfl, by intro g hg; simp only [List.mem_cons, List.not_mem_nil, or_false] at hg; subst hg; rfl⟩⟩)) fun _ => ?_
   refine JL_nil (Jr (Jm rfl (Js rfl (step_sub Sr Sr z6) (Ja rfl (JL_nil ?_)))))
   refine J_ret ?_
   have hT : termS B.places s i = ({ s with C := s.C ++ [(nth B.places (topM B.places i)).value] }, (-1 - (s.C.length : Int))) := by unfold termS; rw [if_pos h21, if_pos h28]
   refine K_lsub (L' := [box bq 25 rConjW ⟨0, v37, va⟩, own 87 rValue v37 (s.C ++ [(nth B.places (topM B.places i)).value]), mapOwn kvI rInt vm s.M]) (zL) ?_
   refine K_lsub (L' := [qS bq vm va ⟨(s.C ++ [(nth B.places (topM B.places i)).value]), s.M⟩]) (LSub.q (s := ⟨(s.C ++ [(nth B.places (topM B.places i)).value]), s.M⟩)) ?_
   refine K_lsub (L' := [qS bq vm va (termS B.places s i).1]) (.c zS (SPs.of (A := qS bq vm va ⟨(s.C ++ [(nth B.places (topM B.places i)).value]), s.M⟩) (by rw [hT])) (LSub.nil)) ?_
   refine K_retv (rv := .tmp 5) rfl default (.tmp Sr) (Sub.int (by rw [hT]))
  try simp only [NF] at h28
  refine J_skip (Jr (Jm rfl (Js rfl (step_sub Sr Sr z6) (Ja rfl (JL_nil ?_)))))
  refine J_ret ?_
  have hT : termS B.places s i = (s, -1 - (findI (fun x => decide ((nth B.places (topM B.places i)).value = x)) 0 s.C)) := by unfold termS; rw [if_pos h21, if_neg zG]
  refine K_lsub (L' := [box bq 25 rConjW ⟨0, vc, va⟩, own 87 rValue vc s.C, mapOwn kvI rInt vm s.M]) (zL) ?_
  refine K_lsub (L' := [qS bq vm va ⟨s.C, s.M⟩]) (LSub.q (s := ⟨s.C, s.M⟩)) ?_
  refine K_lsub (L' := [qS bq vm va (termS B.places s i).1]) (.c zS (SPs.of (A := qS bq vm va ⟨s.C, s.M⟩) (by rw [hT])) (LSub.nil)) ?_
  refine K_retv (rv := .tmp 5) rfl default (.tmp Sr) (Sub.int (by rw [hT]))
 try simp only [NF] at h21
 refine J_skip (Jr (Jl rfl ty174V Sr (Jm rfl ?_)))
 refine Js rfl (step_lookup_ok (kv := kvI) (R := rInt) (z := 0) (KeyT.int underlying3) underlying174 (fun w => zeroValue3 w) zr3 Sub.ofRV Sr zS) ?_
 refine Jm rfl (Js rfl (step_extract Sr rfl) (Js rfl (step_extract Sr rfl) (Ja rfl (Ja rfl (JL_nil ?_)))))
 refine J_seq (Jr (Jm rfl (Js rfl (step_not Sr) (JL_nil ?_))))
 refine J_cond Sr (fun h48 => ?_) (fun h48 => ?_)
 ·
  try simp only [NF] at h48
  have hy : mget s.M (topM B.places i : Int) = none := by simpa using h48
  refine Jr (Jl rfl ty174V Sr ?_)
  refine Js rfl (step_len_map underlying174 Sr zS) ?_
  refine Ja rfl (JL_nil (J_region (Jl rfl ty174V Sr (Jm rfl (Jm rfl ?_)))))
  refine Ju (step_mapUpdate (kv := kvI) (R := rInt) (KeyT.int underlying3) underlying174 Sub.ofRV Sr Sr zS) fun _ => ?_
  refine JL_nil (Jr (Jm rfl (Ja rfl (JL_nil (J_ret ?_)))))
  have hT : termS B.places s i = ({ s with M := mput s.M (topM B.places i : Int) s.M.length }, (s.M.length : Int)) := by unfold termS; rw [if_neg (by simp [h21]), hy]
  refine K_lsub (L' := [box bq 25 rConjW ⟨0, vc, va⟩, own 87 rValue vc s.C, mapOwn kvI rInt vm (mput s.M (topM B.places i : Int) s.M.length)]) (zL) ?_
  refine K_lsub (L' := [qS bq vm va ⟨s.C, (mput s.M (topM B.places i : Int) s.M.length)⟩]) (LSub.q (s := ⟨s.C, (mput s.M (topM B.places i : Int) s.M.length)⟩)) ?_
  refine K_lsub (L' := [qS bq vm va (termS B.places s i).1]) (.c zS (SPs.of (A := qS bq vm va ⟨s.C, (mput s.M (topM B.places i : Int) s.M.length)⟩) (by rw [hT])) (LSub.nil)) ?_
  refine K_retv (rv := .tmp 5) rfl default (.tmp Sr) (Sub.int (by rw [hT]))
 try simp only [NF] at h48
 obtain ⟨y, hy⟩ := Option.isSome_iff_exists.1 (by simpa using h48)
 refine J_skip (Jr (Jm rfl (Ja rfl (JL_nil (J_ret ?_)))))
 have hT : termS B.places s i = (s, y) := by unfold termS; rw [if_neg (by simp [h21]), hy]
 refine K_lsub (L' := [box bq 25 rConjW ⟨0, vc, va⟩, own 87 rValue vc s.C, mapOwn kvI rInt vm s.M]) (zL) ?_
 refine K_lsub (L' := [qS bq vm va ⟨s.C, s.M⟩]) (LSub.q (s := ⟨s.C, s.M⟩)) ?_
 refine K_lsub (L' := [qS bq vm va (termS B.places s i).1]) (.c zS (SPs.of (A := qS bq vm va ⟨s.C, s.M⟩) (by rw [hT])) (LSub.nil)) ?_
 refine K_retv (rv := .tmp 5) rfl default (.tmp Sr) (Sub.int (by rw [hT, hy]; rfl))
open Go Go.Proofs Go.Proofs.Tryz
theorem at_all (sc : GSchema) (s : Bst) (h : s.T.length = s.S.length) : atI sc s s.T.length = atomsS sc s.P ⟨[], []⟩ (s.T.zip s.S) := by
  unfold atI; rw [List.take_of_length_le (by rw [List.length_zip]; omega)]
theorem at_snoc (sc : GSchema) (s : Bst) (h : s.T.length = s.S.length) {i : Nat} (hi : i < s.T.length) : atI sc s (i + 1) = ((atomS sc s.P (atI sc s i).1 (nth s.T i) (nth s.S i).toNat).1, (atI sc s i).2 ++ [(atomS sc s.P (atI sc s i).1 (nth s.T i) (nth s.S i).toNat).2]) := by
  unfold atI
  rw [takeB (by rw [zip_len h.symm]; exact hi), zip_nth hi (by omega), atomsS_snoc]
theorem at_len (sc : GSchema) (s : Bst) (hk : ∀ t ∈ sc.Tables, t.Key.length ≤ 12 ∧ t.Attrs.length ≤ 12 ∧ ∀ c ∈ t.Key, 0 ≤ c ∧ c < t.Attrs.length) (hI : BdInv sc s) (i : Nat) (hi : i ≤ s.T.length) : (atI sc s i).1.C.length ≤ i * 24 ∧ (atI sc s i).1.M.length ≤ i * 24 ∧ (atI sc s i).2.length = i := by
  have hts := hI.ts
  have h := atomsS_len sc s.P 24 ((s.T.zip s.S).take i) ⟨[], []⟩ (fun x hx => by
    obtain ⟨j, hj, rfl⟩ := List.getElem_of_mem (List.mem_of_mem_take hx)
    rw [List.length_zip] at hj
    have hj' : j < s.T.length := by omega
    obtain ⟨⟨h1, h2⟩, _⟩ := hI.tin j hj'
    rw [List.getElem_zip]
    have := colsK_len (nth sc.Tables (nth s.T j).toNat)
    have h3 := hk _ (nth_mem (show (nth s.T j).toNat < sc.Tables.length by omega))
    rw [nth_get hj'] at this h3
    show (colsK (nth sc.Tables (s.T[j]).toNat)).length ≤ 24
    omega)
  rw [List.length_take, zip_len (show s.S.length = s.T.length by omega)] at h
  have e : min i s.T.length = i := by omega
  rw [e] at h
  simpa [atI] using h
set_option maxHeartbeats 8000000 in
theorem conj_spec (sc : GSchema) (s : Bst) (hI : BdInv sc s) (hk : ∀ t ∈ sc.Tables, t.Key.length ≤ 12 ∧ t.Attrs.length ≤ 12 ∧ ∀ c ∈ t.Key, 0 ≤ c ∧ c < t.Attrs.length) (hT : s.T.length ≤ 1000000) (hP : s.P.length ≤ 100000000) : Fun1 prog 65 [tPtr rbuilder (bldO sc s)] (rConj.ty (conjM sc s)) := by
 refine Spec.enter func65 rfl rfl fun h0 w0 fr0 => ?_
 have hts := hI.ts
 refine Jr (Js rfl (step_box (R := rTyp (tPtr rbuilder (bldO sc s)) ptr_one) (y := ()) Sr) ?_)
 refine Jx rfl (step_alloc (fun w => zeroValue25 w) zr25) fun v2 => ?_
 refine JL_nil (Jr ?_)
 refine Jx rfl (step_alloc (fun w => zeroValue25 w) zr25W) fun v3 => ?_
 refine JL_nil (Jr ?_)
 refine Jx rfl (step_makeMapV (kv := kvI) (R := rInt)) fun v13 => ?_
 refine Jx rfl (step_alloc (R := rV) (z := Value.map none) (fun w => zeroValue174 w) (fun _ => ⟨rfl, rfl⟩)) fun v4 => ?_
 refine Ju (step_store_box (R := rV) ty174V Sr Sr zS) fun _ => ?_
 refine JL_nil ?_
 refine K_freeze (t := 4) (A' := tPtr rV v13) (Sel.take (Sel.none _)) Frz.box ?_
 refine Jr (Js rfl (step_makeFunc (As := [_, _, _]) ⟨Sr, Sr, Sr, trivial⟩) (Ja rfl (JL_nil (J_seq (Jr ?_)))))
 refine Jl rfl ty104T Sr (Js rfl (step_nilCheckP Sr) (Js rfl (step_fieldAddr so107 Sr rfl) (Jl rfl ty36 Sr (Js rfl (step_len_sl underlying36 Sr) (Jm rfl ?_)))))
 refine JL_nil (J_block ?_)
 refine J_loopL (σ := Nat × Value) (fun ⟨i, va⟩ => i ≤ s.T.length) (fun ⟨i, va⟩ => upd (upd (upd (upd (upd (upd (upd (upd env0 1 (CP (bldO sc s))) 2 (tAt v2 0)) 3 (tAt v3 0)) 4 (tPtr rV v13)) 5 (tClo 119 [CP (bldO sc s), tAt v3 0, tPtr rV v13])) 18 (tSl rInt s.T)) 19 (tV (.int .i64 s.T.length))) 20 (tV (.int .i64 i))) (fun ⟨i, va⟩ => [qS v3 v13 va (atI sc s i).1, own 38 rAtom va (atI sc s i).2, box v2 25 rConj zConj]) (fun ⟨i, va⟩ => s.T.length - i) (0, (.slice none 0 0)) (by simp) (zU) (LSub.trans (LSub.nilown (e := 87) (R := rValue)) (LSub.trans (LSub.nilown (e := 38) (R := rAtom)) (LSub.trans (B := [box v3 25 rConjW ⟨0, (.slice none 0 0), (.slice none 0 0)⟩, own 87 rValue (.slice none 0 0) [], mapOwn kvI rInt v13 [], own 38 rAtom (.slice none 0 0) [], box v2 25 rConj zConj]) (zL) (LSub.q (s := ⟨[], []⟩))))) ?_
 rintro ⟨i, va⟩ hil
 try dsimp only at hil
 refine Jr (Js rfl (step_lss Sr Sr) (JL_nil (J_seq ?_)))
 refine J_cond Sr (fun h21 => ?_) (fun h21 => ?_)
 ·
  try simp only [NF] at h21
  have hlt : i < s.T.length := by omega
  obtain ⟨⟨ht1, ht2⟩, hs1, hs2⟩ := hI.tin i hlt
  have htt : (nth s.T i).toNat < sc.Tables.length := by omega
  obtain ⟨hk1, hk2, hk3⟩ := hk _ (nth_mem htt)
  have hcl := colsK_len (nth sc.Tables (nth s.T i).toNat)
  obtain ⟨hA1, hA2, hA3⟩ := at_len sc s hk hI i zG
  have hstep := at_snoc sc s hts hlt
  have hsl : i < s.S.length := by omega
  refine J_skip (J_seq (J_block (Jr (Jm rfl ?_))))
  refine Js rfl (step_indexAddr_sl  underlying36 ty3 Sr Sr rfl (gb (by exact hlt))) ?_
  refine Jl rfl ty3 Sr (Ja rfl (Ja rfl (JL_nil (Jr (Jl rfl ty104T Sr ?_)))))
  refine Js rfl (step_nilCheckP Sr) (Js rfl (step_fieldAddr so107 Sr rfl) (Js rfl (step_fieldAddr so41 Sr rfl) (Jl rfl ty39 Sr (Jm rfl ?_))))
  refine Js rfl (step_indexAddr_sl (i := (nth s.T i).toNat) underlying39 ty76 Sr Sr (by show nth s.T i = _; omega) (gb (by exact htt))) ?_
  refine Jl rfl ty76 Sr ?_
  refine Jx rfl (step_alloc (fun w => zeroValue76 w) zr76) fun v8 => ?_
  refine Ju (step_store_box ty76 Sr Sr zS) fun _ => ?_
  refine JL_freeze (t := 8) (Sel.take (Sel.none _)) Frz.box ?_
  refine JL_nil (J_seq ?_)
  refine J_drawZ1 [] [⟨0, [7], 0⟩, ⟨1, [8], 0⟩, ⟨2, [34], 0⟩, ⟨4, [8], 0⟩, ⟨5, [37], 0⟩, ⟨6, [38], 0⟩] ⟨3, [35], 36, SP.emp, fun v => rV.ty v, fun v => own 3 rInt v (nth sc.Tables (nth s.T i).toNat).Key⟩ [⟨7, [33, 36, 39], 0⟩] [⟨8, [], 9, SP.emp, fun v => tAt (vN v) 0, fun v => box (vN v) 38 rAtomW zAtomW⟩] [⟨9, [9, 40], 2⟩] (L := [qS v3 v13 va (atI sc s i).1, own 38 rAtom va (atI sc s i).2, box v2 25 rConj zConj]) (LSub.trans LSub.emp LSub.emp) rfl (by kernel_rfl) (Nat.le_of_ble_eq_true rfl) ?_
  refine JF_step rfl rfl rfl rfl (fun _ => step_move Sr) ?_
  refine JF_step rfl rfl rfl rfl (fun _ => step_fieldAddr so76 Sr rfl) ?_
  refine JF_step rfl rfl rfl rfl (fun _ => step_load_ptr ty36 Sr) ?_
  refine JF_step rfl rfl rfl rfl (fun _ => step_fieldAddr so76 Sr rfl) ?_
  refine JF_step rfl rfl rfl rfl (fun _ => step_load_ptr ty36 Sr) ?_
  refine JF_step rfl rfl rfl rfl (fun _ => step_len_sl underlying36 Sr) ?_
  refine JF_nil ?_
  refine ⟨⟨_, rfl, rfl, rfl, rfl, fun _ => by refine Step.empty ?_; exact Step.emb id (step_call (Sel.none _) (CloneL_spec (nth sc.Tables (nth s.T i).toNat).Key zG) ⟨Sr, trivial⟩ call113) (fun _ => rfl) (fun _ => rfl)⟩, fun v36 => ?_⟩
  refine JF_step rfl rfl rfl rfl (fun _ => step_build (x := (⟨nth s.T i, v36, (.slice none 0 0), ((nth sc.Tables (nth s.T i).toNat).Key.length : Int)⟩ : GAtomW)) (zs := [[Value.int .i64 0], [Value.slice none 0 0], [Value.slice none 0 0], [Value.int .i64 0]]) so38W (fun w => zeroValue38 w) ⟨Sr, (by first | exact Sr | exact Sub.rV rfl), Sr, trivial⟩ ⟨⟨Sr, rfl⟩, ⟨(by first | exact Sr | exact Sub.rV rfl), rfl⟩, fun _ => ⟨rfl, rfl⟩, ⟨Sr, rfl⟩, trivial⟩) ?_
  refine JF_nil ?_
  refine ⟨⟨_, rfl, rfl, rfl, rfl, fun _ => by refine Step.empty ?_; exact Step.emb ptrV (step_alloc (fun w => zeroValue38 w) zr38W) (fun _ => rfl) (fun _ => rfl)⟩, fun v9 => ?_⟩
  refine upP_in ?_
  refine JX_stepU rfl rfl rfl (step_store_box ty38W Sr Sr zS) fun _ => ?_
  refine JX_nil (J_seq (Jr (Js rfl (step_fieldAddr so76 Sr rfl) (Jl rfl ty44 Sr (Js rfl (step_len_sl underlying44 Sr) ?_)))))
  refine Jm rfl (JL_nil (J_block ?_))
  refine J_loopL (σ := Nat × Value) (fun ⟨j, vk⟩ => j ≤ (nth sc.Tables (nth s.T i).toNat).Attrs.length) (fun ⟨j, vk⟩ => upd (upd (upd (upd (upd (upd (upd (upd (upd (upd (upd (upd (upd (upd (upd (upd (upd (upd env0 1 (CP (bldO sc s))) 2 (tAt v2 0)) 3 (tAt v3 0)) 4 (tPtr rV v13)) 5 (tClo 119 [CP (bldO sc s), tAt v3 0, tPtr rV v13])) 6 (tV (.int .i64 i))) 8 (tPtr rTable (nth sc.Tables (nth s.T i).toNat))) 9 (tAt (vN v9) 0)) 18 (tSl rInt s.T)) 19 (tV (.int .i64 s.T.length))) 20 (tV (.int .i64 i))) 22 (tV (.int .i64 i))) 25 (tPtr rbuilder (bldO sc s))) 26 (tPtr rbuilder (bldO sc s))) 32 (rTable.ty (nth sc.Tables (nth s.T i).toNat))) 36 (rV.ty v36)) 43 (tV (.int .i64 (nth sc.Tables (nth s.T i).toNat).Attrs.length))) 44 (tV (.int .i64 j))) (fun ⟨j, vk⟩ => [box (vN v9) 38 rAtomW (⟨nth s.T i, vk, (.slice none 0 0), ((nth sc.Tables (nth s.T i).toNat).Key.length : Int)⟩ : GAtomW), own 3 rInt vk (colsJ (nth sc.Tables (nth s.T i).toNat) j), qS v3 v13 va (atI sc s i).1, own 38 rAtom va (atI sc s i).2, box v2 25 rConj zConj]) (fun ⟨j, vk⟩ => (nth sc.Tables (nth s.T i).toNat).Attrs.length - j) (0, v36) (by simp) (zU) (.r zS (.c zS (SPs.of (A := own 3 rInt v36 (nth sc.Tables (nth s.T i).toNat).Key) (by rw [colsJ_zero])) (zL))) ?_
  rintro ⟨j, vk⟩ hjl0
  try dsimp only at hjl0
  refine Jr (Js rfl (step_lss Sr Sr) (JL_nil (J_seq ?_)))
  refine J_cond Sr (fun h45 => ?_) (fun h45 => ?_)
  ·
   try simp only [NF] at h45
   have hjt : j < (nth sc.Tables (nth s.T i).toNat).Attrs.length := by omega
   have hjl := colsJ_len (nth sc.Tables (nth s.T i).toNat) j
   refine J_skip (J_seq (J_block (Jr (Jm rfl (Ja rfl ?_)))))
   refine JL_nil (Jr (Js rfl (step_fieldAddr so76 Sr rfl) (Jl rfl ty36 Sr (Jm rfl (Js rfl (step_call0 (ContainsI_spec (nth sc.Tables (nth s.T i).toNat).Key (j : Int) zG) ⟨Sr, Sr, trivial⟩ call54) ?_)))))
   refine Js rfl (step_not Sr) (JL_nil ?_)
   refine J_cond Sr (fun h51 => ?_) (fun h51 => ?_)
   ·
    try simp only [NF] at h51
    have hcj := colsJ_out (t := (nth sc.Tables (nth s.T i).toNat)) (j := j) (by simpa using h51)
    refine J_region (Js rfl (step_fieldAddr_own so38W Sr rfl) ?_)
    refine Js rfl (step_load_fld ty36V38 Sr rfl zS) ?_
    refine Jm rfl ?_
    refine Js rfl (step_literal (ys := [_]) underlying36 el3 ⟨rfl, Sr, trivial⟩ rfl (by decide)) ?_
    refine Jx rfl (step_append underlying36 el3 Sr Sr zS (by simp; omega) (by simp; omega)) fun v56 => ?_
    refine Js rfl (step_fieldAddr_own so38W Sr rfl) ?_
    refine Ju (step_store_fld (R := rV) (y' := (⟨nth s.T i, v56, (.slice none 0 0), ((nth sc.Tables (nth s.T i).toNat).Key.length : Int)⟩ : GAtomW)) ty36V38 Sr Sr zS (by exact ⟨rfl, ⟨fun _ _ q => q, rfl, by intro g hg; simp only [List.mem_cons, List.not_mem_nil, or_false] at hg; rcases hg with rfl | rfl <;> rfl⟩⟩)) fun _ => ?_
    refine JL_nil (J_region (Js rfl (step_add Sr Sr z6) (Jm rfl (JL_nil ?_))))
    refine K_againL (σ := Nat × Value) (s := (j, vk)) (j + 1, v56) zO zG (zU) (.r zS (.c zS (SPs.of (A := own 3 rInt v56 (colsJ (nth sc.Tables (nth s.T i).toNat) j ++ [(j : Int)])) (by rw [hcj])) (zL)))
   try simp only [NF] at h51
   have hcj := colsJ_in (t := (nth sc.Tables (nth s.T i).toNat)) (j := j) (by simpa using h51)
   refine J_skip (J_region (Js rfl (step_add Sr Sr z6) (Jm rfl (JL_nil ?_))))
   refine K_againL (σ := Nat × Value) (s := (j, vk)) (j + 1, vk) zO zG (zU) (.r zS (.c zS (SPs.of (A := own 3 rInt vk (colsJ (nth sc.Tables (nth s.T i).toNat) j)) (by rw [hcj])) (zL)))
  try simp only [NF] at h45
  obtain rfl : j = (nth sc.Tables (nth s.T i).toNat).Attrs.length := by omega
  refine J_exit (J_seq (J_seq ?_))
  refine K_lsub (L' := [box (vN v9) 38 rAtomW (⟨nth s.T i, vk, (.slice none 0 0), ((nth sc.Tables (nth s.T i).toNat).Key.length : Int)⟩ : GAtomW), own 3 rInt vk (colsK (nth sc.Tables (nth s.T i).toNat)), qS v3 v13 va (atI sc s i).1, own 38 rAtom va (atI sc s i).2, box v2 25 rConj zConj]) (.r zS (.c zS (SPs.of (A := own 3 rInt vk (colsJ (nth sc.Tables (nth s.T i).toNat) (nth sc.Tables (nth s.T i).toNat).Attrs.length)) rfl) (zL))) ?_
  refine J_region (Js rfl (step_fieldAddr_own so38W Sr rfl) ?_)
  refine Js rfl (step_load_fld ty36V38 Sr rfl zS) ?_
  refine Js rfl (step_len_own underlying36 Sr zS) ?_
  refine Jm rfl (JL_nil (J_block ?_))
  refine J_loopL (σ := Nat × Value) (fun ⟨k, vt⟩ => k ≤ (colsK (nth sc.Tables (nth s.T i).toNat)).length) (fun ⟨k, vt⟩ => upd (upd (upd (upd (upd (upd (upd (upd (upd (upd (upd (upd (upd (upd (upd (upd (upd (upd env0 1 (CP (bldO sc s))) 2 (tAt v2 0)) 3 (tAt v3 0)) 4 (tPtr rV v13)) 5 (tClo 119 [CP (bldO sc s), tAt v3 0, tPtr rV v13])) 6 (tV (.int .i64 i))) 8 (tPtr rTable (nth sc.Tables (nth s.T i).toNat))) 9 (tAt (vN v9) 0)) 18 (tSl rInt s.T)) 19 (tV (.int .i64 s.T.length))) 20 (tV (.int .i64 i))) 22 (tV (.int .i64 i))) 25 (tPtr rbuilder (bldO sc s))) 26 (tPtr rbuilder (bldO sc s))) 32 (rTable.ty (nth sc.Tables (nth s.T i).toNat))) 60 (rV.ty vk)) 61 (tV (.int .i64 (colsK (nth sc.Tables (nth s.T i).toNat)).length))) 62 (tV (.int .i64 k))) (fun ⟨k, vt⟩ => [box (vN v9) 38 rAtomW (⟨nth s.T i, vk, vt, ((nth sc.Tables (nth s.T i).toNat).Key.length : Int)⟩ : GAtomW), own 3 rInt vk (colsK (nth sc.Tables (nth s.T i).toNat)), own 3 rInt vt (termsS s.P (nth s.S i).toNat (atI sc s i).1 ((colsK (nth sc.Tables (nth s.T i).toNat)).take k)).2, qS v3 v13 va (termsS s.P (nth s.S i).toNat (atI sc s i).1 ((colsK (nth sc.Tables (nth s.T i).toNat)).take k)).1, own 38 rAtom va (atI sc s i).2, box v2 25 rConj zConj]) (fun ⟨k, vt⟩ => (colsK (nth sc.Tables (nth s.T i).toNat)).length - k) (0, (.slice none 0 0)) (by simp) (zU) (LSub.trans (LSub.nilown (e := 3) (R := rInt)) (zL)) ?_
  rintro ⟨k, vt⟩ hkl0
  try dsimp only at hkl0
  refine Jr (Js rfl (step_lss Sr Sr) (JL_nil (J_seq ?_)))
  refine J_cond Sr (fun h63 => ?_) (fun h63 => ?_)
  ·
   try simp only [NF] at h63
   have hkt : k < (colsK (nth sc.Tables (nth s.T i).toNat)).length := by omega
   obtain ⟨hc1, hc2⟩ := colsK_in hk3 _ (nth_mem hkt)
   have htl := termsS_len s.P (nth s.S i).toNat ((colsK (nth sc.Tables (nth s.T i).toNat)).take k) (atI sc s i).1
   rw [List.length_take] at htl
   obtain ⟨hl1, hl2, hl3⟩ := htl
   have hts2 := termsS_snoc s.P (nth s.S i).toNat (nth (colsK (nth sc.Tables (nth s.T i).toNat)) k) ((colsK (nth sc.Tables (nth s.T i).toNat)).take k) (atI sc s i).1
   rw [← takeB hkt] at hts2
   refine J_skip (J_seq (J_block (Jr ?_)))
   refine Js rfl (step_indexAddr_own (i := k) underlying36 ty3 Sr zS Sr (by rfl) (by exact hkt)) ?_
   refine Js rfl (step_load_own ty3 Sr zS (gb (by exact hkt))) ?_
   refine Ja rfl (JL_nil ?_)
   refine J_drawZ [box (vN v9) 38 rAtomW (⟨nth s.T i, vk, vt, ((nth sc.Tables (nth s.T i).toNat).Key.length : Int)⟩ : GAtomW)] [⟨0, [9], 0⟩, ⟨1, [66], 1⟩, ⟨2, [5], 0⟩, ⟨3, [1], 0⟩, ⟨4, [69], 0⟩, ⟨5, [70], 0⟩, ⟨6, [71], 0⟩, ⟨7, [6], 0⟩, ⟨8, [72, 73], 0⟩, ⟨9, [74], 0⟩, ⟨10, [12], 0⟩, ⟨11, [75, 76], 0⟩] [⟨12, [68, 77], 78, qS v3 v13 va (termsS s.P (nth s.S i).toNat (atI sc s i).1 ((colsK (nth sc.Tables (nth s.T i).toNat)).take k)).1, fun v => tV (.int .i64 (termS s.P (termsS s.P (nth s.S i).toNat (atI sc s i).1 ((colsK (nth sc.Tables (nth s.T i).toNat)).take k)).1 ((nth s.S i).toNat + (nth (colsK (nth sc.Tables (nth s.T i).toNat)) k).toNat)).2), fun v => qS v3 v13 va (termS s.P (termsS s.P (nth s.S i).toNat (atI sc s i).1 ((colsK (nth sc.Tables (nth s.T i).toNat)).take k)).1 ((nth s.S i).toNat + (nth (colsK (nth sc.Tables (nth s.T i).toNat)) k).toNat)).1⟩] [⟨13, [78], 0⟩, ⟨14, [67, 79], 2⟩, ⟨15, [9], 0⟩, ⟨16, [80, 81], 2⟩] (L := [own 3 rInt vk (colsK (nth sc.Tables (nth s.T i).toNat)), own 3 rInt vt (termsS s.P (nth s.S i).toNat (atI sc s i).1 ((colsK (nth sc.Tables (nth s.T i).toNat)).take k)).2, own 38 rAtom va (atI sc s i).2, box v2 25 rConj zConj]) (zL) rfl (by kernel_rfl) (Nat.le_of_ble_eq_true rfl) ?_
   refine JF_step rfl rfl rfl rfl (fun _ => step_fieldAddr_own so38W Sr rfl) ?_
   refine JF_look rfl rfl rfl rfl (fun _ => step_load_fld ty36V38 Sr rfl zS) ?_
   refine JF_step rfl rfl rfl rfl (fun _ => step_move Sr) ?_
   refine JF_step rfl rfl rfl rfl (fun _ => step_load_ptr ty104T Sr) ?_
   refine JF_step rfl rfl rfl rfl (fun _ => step_nilCheckP Sr) ?_
   refine JF_step rfl rfl rfl rfl (fun _ => step_fieldAddr so107 Sr rfl) ?_
   refine JF_step rfl rfl rfl rfl (fun _ => step_load_ptr ty36 Sr) ?_
   refine JF_step rfl rfl rfl rfl (fun _ => step_move Sr) ?_
   refine JF_step rfl rfl rfl rfl (fun _ => step_indexAddr_sl (i := i) underlying36 ty3 Sr Sr (by rfl) (gb (by show i < s.S.length; omega))) ?_
   refine JF_step rfl rfl rfl rfl (fun _ => step_load_ptr ty3 Sr) ?_
   refine JF_step rfl rfl rfl rfl (fun _ => step_move Sr) ?_
   refine JF_step rfl rfl rfl rfl (fun _ => step_add Sr Sr (by show in64 (nth s.S i + nth (colsK (nth sc.Tables (nth s.T i).toNat)) k); unfold in64; omega)) ?_
   refine JF_nil ?_
   refine ⟨⟨_, rfl, rfl, rfl, rfl, fun _ => by exact Step.emb id (step_callv (aT := [_]) Sr (Sel.take (Sel.none _)) (conjF_spec (bldO sc s) hI.pok v3 v13 va (termsS s.P (nth s.S i).toNat (atI sc s i).1 ((colsK (nth sc.Tables (nth s.T i).toNat)).take k)).1 ((nth s.S i).toNat + (nth (colsK (nth sc.Tables (nth s.T i).toNat)) k).toNat) (by show _ < s.P.length; omega) zG zG) ⟨Sub.int (by show nth s.S i + nth (colsK (nth sc.Tables (nth s.T i).toNat)) k = _; omega), trivial⟩ call119) (fun _ => rfl) (fun _ => rfl)⟩, fun v78 => ?_⟩
   refine upP_in ?_
   refine JX_step rfl rfl rfl rfl (fun _ => step_literal (ys := [_]) underlying36 el3 ⟨rfl, Sr, trivial⟩ rfl (by decide)) ?_
   refine JX_stepX rfl rfl rfl rfl (step_append underlying36 el3 Sr Sr zS (by simp; omega) (by simp; omega)) fun v80 => ?_
   refine JX_step rfl rfl rfl rfl (fun _ => step_fieldAddr_own so38W Sr rfl) ?_
   refine JX_stepU rfl rfl rfl (step_store_fld (R := rV) (y' := (⟨nth s.T i, vk, v80, ((nth sc.Tables (nth s.T i).toNat).Key.length : Int)⟩ : GAtomW)) ty36V38 Sr Sr zS (by exact ⟨rfl, ⟨rfl, ⟨fun _ _ q => q, rfl, by intro g hg; simp only [List.mem_cons, List.not_mem_nil, or_false] at hg; subst hg; rfl⟩⟩⟩)) fun _ => ?_
   refine JX_nil (J_region (Js rfl (step_add Sr Sr z6) (Jm rfl (JL_nil ?_))))
   refine K_againL (σ := Nat × Value) (s := (k, vt)) (k + 1, v80) zO zG (zU) (.r zS (.r zS (.c zS (SPs.of (A := own 3 rInt v80 ((termsS s.P (nth s.S i).toNat (atI sc s i).1 ((colsK (nth sc.Tables (nth s.T i).toNat)).take k)).2 ++ [(termS s.P (termsS s.P (nth s.S i).toNat (atI sc s i).1 ((colsK (nth sc.Tables (nth s.T i).toNat)).take k)).1 ((nth s.S i).toNat + (nth (colsK (nth sc.Tables (nth s.T i).toNat)) k).toNat)).2])) (by rw [hts2])) (.c zS (SPs.of (A := qS v3 v13 va (termS s.P (termsS s.P (nth s.S i).toNat (atI sc s i).1 ((colsK (nth sc.Tables (nth s.T i).toNat)).take k)).1 ((nth s.S i).toNat + (nth (colsK (nth sc.Tables (nth s.T i).toNat)) k).toNat)).1) (by rw [hts2])) (zL)))))
  try simp only [NF] at h63
  obtain rfl : k = (colsK (nth sc.Tables (nth s.T i).toNat)).length := by omega
  refine J_exit ?_
  refine K_lsub (L' := [box (vN v9) 38 rAtomW (⟨nth s.T i, vk, vt, ((nth sc.Tables (nth s.T i).toNat).Key.length : Int)⟩ : GAtomW), own 3 rInt vk (colsK (nth sc.Tables (nth s.T i).toNat)), own 3 rInt vt (termsS s.P (nth s.S i).toNat (atI sc s i).1 (colsK (nth sc.Tables (nth s.T i).toNat))).2, qS v3 v13 va (atomS sc s.P (atI sc s i).1 (nth s.T i) (nth s.S i).toNat).1, own 38 rAtom va (atI sc s i).2, box v2 25 rConj zConj]) (.r zS (.r zS (.c zS (SPs.of (A := own 3 rInt vt (termsS s.P (nth s.S i).toNat (atI sc s i).1 ((colsK (nth sc.Tables (nth s.T i).toNat)).take (colsK (nth sc.Tables (nth s.T i).toNat)).length)).2) (by rw [List.take_length])) (.c zS (SPs.of (A := qS v3 v13 va (termsS s.P (nth s.S i).toNat (atI sc s i).1 ((colsK (nth sc.Tables (nth s.T i).toNat)).take (colsK (nth sc.Tables (nth s.T i).toNat)).length)).1) (by rw [List.take_length]; rfl)) (zL))))) ?_
  refine K_freeze (t := 9) (A' := tPtr rAtom (atomS sc s.P (atI sc s i).1 (nth s.T i) (nth s.S i).toNat).2) (Sel.take (Sel.take (Sel.take (Sel.none _)))) Frz.atom ?_
  refine K_q fun vc => ?_
  refine J_region (Js rfl (step_fieldAddr_own so25W Sr rfl) ?_)
  refine Js rfl (step_load_fld ty23V25 Sr rfl zS) ?_
  refine Jl rfl ty38 Sr ?_
  refine Js rfl (step_literal (ys := [_]) underlying23 el38 ⟨rfl, Sr, trivial⟩ rfl (by decide)) ?_
  refine Jx rfl (step_append underlying23 el38 Sr Sr zS (by simp; omega) (by simp; omega)) fun v87 => ?_
  refine Js rfl (step_fieldAddr_own so25W Sr rfl) ?_
  refine Ju (step_store_fld (R := rV) (y' := (⟨0, vc, v87⟩ : GConjW)) ty23V25 Sr Sr zS (by exact ⟨rfl, ⟨rfl, ⟨fun _ _ q => q, rfl, by intro g hg; cases hg⟩⟩⟩)) fun _ => ?_
  refine JL_nil (J_region (Js rfl (step_add Sr Sr z6) (Jm rfl (JL_nil ?_))))
  refine K_againL (σ := Nat × Value) (s := (i, va)) (i + 1, v87) zO zG (zU) (LSub.trans (B := [box v3 25 rConjW ⟨0, vc, v87⟩, own 87 rValue vc (atomS sc s.P (atI sc s i).1 (nth s.T i) (nth s.S i).toNat).1.C, mapOwn kvI rInt v13 (atomS sc s.P (atI sc s i).1 (nth s.T i) (nth s.S i).toNat).1.M, own 38 rAtom v87 ((atI sc s i).2 ++ [(atomS sc s.P (atI sc s i).1 (nth s.T i) (nth s.S i).toNat).2]), box v2 25 rConj zConj]) (zL) (LSub.trans (LSub.q (s := (atomS sc s.P (atI sc s i).1 (nth s.T i) (nth s.S i).toNat).1)) (.c zS (SPs.of (A := qS v3 v13 v87 (atomS sc s.P (atI sc s i).1 (nth s.T i) (nth s.S i).toNat).1) (by rw [hstep])) (.c zS (SPs.of (A := own 38 rAtom v87 ((atI sc s i).2 ++ [(atomS sc s.P (atI sc s i).1 (nth s.T i) (nth s.S i).toNat).2])) (by rw [hstep])) (zL)))))
 try simp only [NF] at h21
 obtain rfl : i = s.T.length := by omega
 obtain ⟨hA1, hA2, hA3⟩ := at_len sc s hk hI s.T.length (Nat.le_refl _)
 have hend := at_all sc s hts
 refine J_exit (J_seq ?_)
 refine K_q fun vc => ?_
 refine J_region (Jl rfl ty174V Sr ?_)
 refine Js rfl (step_len_map underlying174 Sr zS) ?_
 refine Js rfl (step_fieldAddr_own so25W Sr rfl) ?_
 refine Ju (step_store_fld (R := rInt) (y' := (⟨((atI sc s s.T.length).1.M.length : Int), vc, va⟩ : GConjW)) ty3 Sr Sr zS (by exact ⟨fun _ _ q => q, rfl, by intro g hg; simp only [List.mem_cons, List.not_mem_nil, or_false] at hg; rcases hg with rfl | rfl <;> rfl⟩)) fun _ => ?_
 refine JL_nil (J_seq ?_)
 refine K_lsub (L' := [box v3 25 rConjW (⟨((atI sc s s.T.length).1.M.length : Int), vc, va⟩ : GConjW), own 87 rValue vc (atI sc s s.T.length).1.C, own 38 rAtom va (atI sc s s.T.length).2, mapOwn kvI rInt v13 (atI sc s s.T.length).1.M, box v2 25 rConj zConj]) (zL) ?_
 refine K_freeze (t := 3) (A' := tPtr rConj (conjM sc s)) (Sel.take (Sel.take (Sel.take (Sel.none _)))) (by unfold conjM; rw [← hend]; exact Frz.conj) ?_
 refine J_region (Jl rfl ty25 Sr ?_)
 refine Ju (step_store_box ty25 Sr Sr zS) fun _ => ?_
 refine JL_nil (J_ret ?_)
 refine K_ret1' (rv := .cell 2 25) rfl () (Sel.all _) (.cell ty25 Sr zS Sr) (Frz.sub Sr)
open Go Go.Proofs Go.Proofs.Tryz
theorem st0_inv (sc : GSchema) : BdInv sc st0 := by
  refine ⟨⟨⟨fun _ => 0, fun i hi => ?_⟩, fun i hi => ?_⟩, fun f hf => ?_, rfl, fun i hi => ?_⟩ <;> simp [st0] at *
theorem sch_keys {s : GSchema} (h : schM s = true) : ∀ t ∈ s.Tables, t.Key.length ≤ 12 ∧ t.Attrs.length ≤ 12 ∧ ∀ c ∈ t.Key, 0 ≤ c ∧ c < t.Attrs.length := by
  intro t ht
  obtain ⟨i, hi, rfl⟩ := List.getElem_of_mem ht
  rw [← nth_get hi]
  have ha := sch_attrs h hi
  unfold schM at h
  simp only [Bool.and_eq_true, decide_eq_true_eq] at h
  have h1 := rall_iff.1 h.2 i hi
  simp only [Bool.and_eq_true] at h1
  have h2 := h1.1
  unfold rightM at h2
  simp only [Bool.and_eq_true] at h2
  have h3 := rall_iff.1 h2.2
  generalize nth s.Tables i = t at h3 ha ⊢
  have hk : ∀ j, j < t.Key.length → 0 ≤ nth t.Key j ∧ nth t.Key j < t.Attrs.length ∧ (j = 0 ∨ nth t.Key (j - 1) < nth t.Key j) := fun j hj => by
    have := h3 j hj
    unfold keyOk at this
    simp only [Bool.and_eq_true, Bool.or_eq_true, decide_eq_true_eq] at this
    exact ⟨this.1.1, this.1.2, this.2⟩
  have hge : ∀ j, j < t.Key.length → (j : Int) ≤ nth t.Key j := by
    intro j
    induction j with
    | zero => intro hj; exact (hk 0 hj).1
    | succ j ih =>
      intro hj
      have h4 := ih (by omega)
      have h5 := (hk (j + 1) hj).2.2
      simp at h5
      omega
  refine ⟨?_, ha, fun c hc => ?_⟩
  · cases hl : t.Key.length with
    | zero => omega
    | succ L =>
      have h4 := hge L (by omega)
      have h5 := (hk L (by omega)).2.1
      omega
  · obtain ⟨j, hj, rfl⟩ := List.getElem_of_mem hc
    rw [← nth_get hj]
    exact ⟨(hk j hj).1, (hk j hj).2.1⟩
theorem of_bounds {sc : GSchema} {n : Nat} {p : GPlan} {r : Bst × List Int} (hw : WOk sc n st0 p r) : r.1.P.length ≤ 12 * nodes n p ∧ r.1.T.length ≤ nodes n p ∧ r.1.F.length ≤ binds n p :=
  ⟨by have := hw.pm; simpa [st0] using this, by have := hw.tl; simpa [st0] using this, by have := hw.fl; simpa [st0] using this⟩
theorem alone_all {sc : GSchema} {s : Bst} (hI : BdInv sc s) (hl : s.P.length ≤ 1000000000) : ∀ x ∈ s.F, Fun1 prog 64 ([tPtr rbuilder (bldO sc s)] ++ [tV (.int .i64 x)]) (tV (.bool (aloneM s.P x.toNat))) := fun x hx => by
  have hb := hI.fin x hx
  obtain ⟨k, rfl⟩ := Int.eq_ofNat_of_zero_le hb.1
  exact aloneO_spec (bldO sc s) hI.pok hl k (by show k < s.P.length; omega)
set_option maxHeartbeats 4000000 in
theorem Of_spec (sc : GSchema) (hz : SchSz sc) (n : Nat) (p : GPlan) (hp : PlSz n p) (hd : Dep n p) (hP : vldM sc p = true → 12 * nodes n p ≤ 1000000) (hF : vldM sc p = true → binds n p ≤ 1000000000) : Fun1 prog 20 [rSchema.ty sc, (rPlan n).ty p] (tTup [rConj.ty (ofM sc n p).1, tV (.int .i64 (ofM sc n p).2)]) := by
 refine Spec.enter func20 rfl rfl fun h0 w0 fr0 => ?_
 refine Jr (Js rfl (step_box (R := rSchema) Sr) (Js rfl (step_box (R := (rPlan n)) Sr) ?_))
 refine Jx rfl (step_alloc (fun w => zeroValue25 w) zr25) fun v4 => ?_
 refine Ja rfl (JL_nil (J_seq (Jr (Jl rfl ty41 Sr (Jl rfl ty46 Sr ?_)))))
 refine Js rfl (step_call0 (algValid_spec sc hz n p hp) ⟨Sr, Sr, trivial⟩ call60) (Js rfl (step_not Sr) (JL_nil ?_))
 refine J_cond Sr (fun h10 => ?_) (fun h10 => ?_)
 ·
  try simp only [NF] at h10
  refine Jr (Js rfl (step_build (x := (⟨0, [], []⟩ : GConj)) (zs := [[Value.int .i64 0], [Value.slice none 0 0], [Value.slice none 0 0]]) so25 (fun w => zeroValue25 w) trivial ⟨fun _ => rfl, fun _ => ⟨_, rfl, none, ⟨0, Nat.le_refl _⟩, rfl, fun q => absurd rfl q⟩, fun _ => ⟨_, rfl, none, ⟨0, Nat.le_refl _⟩, rfl, fun q => absurd rfl q⟩, trivial⟩) ?_)
  refine Ju (step_store_box ty25 Sr Sr zS) fun _ => ?_
  refine Ja rfl (JL_nil (J_ret ?_))
  have hO : ofM sc n p = (zConj', 1) := by unfold ofM; rw [if_pos h10]
  refine K_ret2' (rv := .cell 4 25) (rv' := .tmp 5) rfl () (Sel.all _) (.cell ty25 Sr zS Sr) (.tmp Sr) (Frz.sub (Sub.eqT (by rw [hO] <;> rfl))) (Frz.sub (Sub.eqT (by rw [hO] <;> rfl))) Sr
 try simp only [NF] at h10
 have hval : vldM sc p = true := by simpa using h10
 have hP := hP hval
 have hF := hF hval
 have hval2 := hval
 unfold vldM at hval2
 simp only [Bool.and_eq_true] at hval2
 obtain ⟨hs, hv⟩ := hval2
 have hw := walk_ok hs (s := st0) hd hv (st0_inv sc)
 obtain ⟨hb1, hb2, hb3⟩ := of_bounds hw
 have hfl : (walkS sc n st0 p).1.F.length ≤ 1000000000000 := by omega
 have hal := alone_all hw.inv zG
 refine J_skip (Jr (Jl rfl ty41 Sr (Js rfl (step_build (x := (⟨sc, (.slice none 0 0), (.slice none 0 0), (.slice none 0 0), (.slice none 0 0), false⟩ : GbuilderW)) (zs := [[Value.slice none 0 0], [Value.slice none 0 0], [Value.slice none 0 0], [Value.slice none 0 0], [Value.slice none 0 0], [Value.bool false]]) so107W (fun w => zeroValue107 w) ⟨Sr, trivial⟩ ⟨⟨Sr, rfl⟩, fun _ => ⟨rfl, rfl⟩, fun _ => ⟨rfl, rfl⟩, fun _ => ⟨rfl, rfl⟩, fun _ => ⟨rfl, rfl⟩, fun _ => rfl, trivial⟩) ?_)))
 refine Jx rfl (step_box_own (R := rbuilderW) Sr) fun v14 => ?_
 refine Ja rfl (JL_nil (J_seq ?_))
 refine K_lsub (L' := [bsS v14 sc st0, box v4 25 rConj zConj]) (LSub.trans (LSub.nilown (e := 3) (R := rInt)) (LSub.trans (LSub.nilown (e := 3) (R := rInt)) (LSub.trans (LSub.nilown (e := 3) (R := rInt)) (LSub.trans (LSub.nilown (e := 168) (R := rplace)) (LSub.trans (B := [bldW v14 sc (.slice none 0 0) (.slice none 0 0) (.slice none 0 0) (.slice none 0 0) false, own 168 rplace (.slice none 0 0) [], own 3 rInt (.slice none 0 0) [], own 3 rInt (.slice none 0 0) [], own 3 rInt (.slice none 0 0) [], box v4 25 rConj zConj]) (zL) (LSub.bs (s := st0))))))) ?_
 refine J_draw [⟨0, [6], true⟩, ⟨1, [6], true⟩, ⟨2, [16], true⟩, ⟨3, [3], true⟩, ⟨4, [15, 17, 18], false⟩] rfl (by kernel_rfl) ?_
 refine Mv rfl rfl (Mv rfl rfl (Mf rfl rfl (step_call0 (walks_spec v14) ⟨Sr, trivial⟩ call62) (Mf rfl rfl (step_load_ptr ty46 Sr) ?_)))
 refine JM_stepX rfl rfl rfl rfl (step_call (Sel.take (Sel.none _)) (walk_spec v14 sc hs n 12 p st0 hv hp hd (st0_inv sc) rfl (by simp [st0]; omega) (by simp [st0]; omega) (by simp [st0]; omega)) ⟨Sr, Sr, Sr, trivial⟩ call61) fun v19 => ?_
 refine JM_nil ?_
 refine K_bs fun vt vs vp vf => ?_
 refine K_freeze (t := 6) (A' := tPtr rbuilder (bldO sc (walkS sc n st0 p).1)) (Sel.take (Sel.take (Sel.take (Sel.take (Sel.take (Sel.none _)))))) Frz.bldO ?_
 refine J_seq (Jr (Jm rfl (Js rfl (step_nilCheckP Sr) (Js rfl (step_fieldAddr so107 Sr rfl) (Jl rfl ty4 Sr ?_)))))
 refine Jm rfl ?_
 refine Jk rfl Sr rfl (step_move Sr) ?_
 refine Jg rfl Sr rfl (fun hw => step_nilCheckP (Sub.w hw)) (Jg rfl Sr rfl (fun hw => step_fieldAddr so107 (Sub.w hw) rfl) (Jg rfl Sr rfl (fun hw => step_load_ptr ty36 (Sub.w hw)) ?_))
 refine Jk rfl Sr rfl (step_move Sr) ?_
 refine Jg rfl Sr rfl (fun hw => step_makeFuncB (As := [_]) ⟨Sub.w hw, trivial⟩) (Jg rfl Sr rfl (fun hw => step_call0 (ContainsFuncB_spec (walkS sc n st0 p).1.F hfl 64 [tPtr rbuilder (bldO sc (walkS sc n st0 p).1)] (fun i => aloneM (walkS sc n st0 p).1.P i.toNat) hal call64) ⟨Sub.w hw, Sub.w hw, trivial⟩ call63) (Js rfl (step_pick_or Sr Sr) (JL_nil ?_)))
 refine J_cond Sr (fun h32 => ?_) (fun h32 => ?_)
 ·
  try simp only [NF] at h32
  refine Jr (Js rfl (step_build (x := (⟨0, [], []⟩ : GConj)) (zs := [[Value.int .i64 0], [Value.slice none 0 0], [Value.slice none 0 0]]) so25 (fun w => zeroValue25 w) trivial ⟨fun _ => rfl, fun _ => ⟨_, rfl, none, ⟨0, Nat.le_refl _⟩, rfl, fun q => absurd rfl q⟩, fun _ => ⟨_, rfl, none, ⟨0, Nat.le_refl _⟩, rfl, fun q => absurd rfl q⟩, trivial⟩) ?_)
  refine Ju (step_store_box ty25 Sr Sr zS) fun _ => ?_
  refine Ja rfl (JL_nil (J_ret ?_))
  have hO : ofM sc n p = (zConj', 11) := by unfold ofM; rw [if_neg (by rw [hval]; simp), if_pos h32]
  refine K_ret2' (rv := .cell 4 25) (rv' := .tmp 5) rfl () (Sel.all _) (.cell ty25 Sr zS Sr) (.tmp Sr) (Frz.sub (Sub.eqT (by rw [hO] <;> rfl))) (Frz.sub (Sub.eqT (by rw [hO] <;> rfl))) Sr
 try simp only [NF] at h32
 refine J_skip (Jr (Jm rfl (Js rfl (step_call0 (conj_spec sc (walkS sc n st0 p).1 hw.inv (sch_keys hs) zG zG) ⟨Sr, trivial⟩ call65) ?_)))
 refine Ju (step_store_box ty25 Sr Sr zS) fun _ => ?_
 refine Ja rfl (JL_nil (J_ret ?_))
 have hO : ofM sc n p = (conjM sc (walkS sc n st0 p).1, 0) := by unfold ofM; rw [if_neg (by rw [hval]; simp), if_neg (by rintro (q | q) <;> simp_all)]
 refine K_ret2' (rv := .cell 4 25) (rv' := .tmp 5) rfl () (Sel.all _) (.cell ty25 Sr zS Sr) (.tmp Sr) (Frz.sub (Sub.eqT (by rw [hO] <;> rfl))) (Frz.sub (Sub.eqT (by rw [hO] <;> rfl))) Sr
end Lg
