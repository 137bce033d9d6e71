/- Walks of closures, attacks, the first order; the plain laws of attacks. -/
import Derived.Test.YtgaclpkapapjdaaGreatDoorD
set_option linter.unusedVariables false
set_option linter.unusedSimpArgs false
set_option linter.unusedSectionVars false
namespace Lg
theorem nodup_len {α : Type} [DecidableEq α] : ∀ {l U : List α}, l.Nodup → (∀ x ∈ l, x ∈ U) → l.length ≤ U.length
  | [], _, _, _ => Nat.zero_le _
  | x :: l, U, hd, hs => by
    have hx := hs x (by simp)
    have h1 : (U.erase x).length + 1 = U.length := by
      have := List.length_erase_of_mem hx
      have := List.length_pos_of_mem hx
      omega
    have hd := List.nodup_cons.1 hd
    have := nodup_len (U := U.erase x) hd.2 (fun y hy => (List.mem_erase_of_ne (fun e => hd.1 (by rw [← e]; exact hy))).2 (hs y (by simp [hy])))
    simp; omega
section
variable (rec : Nat → List Int → Bool × List Int)
/-- Through the arrows of a vertex. -/
def cycRow : List (Nat × Bool) → List Int → Bool × List Int
  | [], st => (false, st)
  | (g, is) :: r, st => if is = true then (if (rec g st).1 = true then (true, (rec g st).2) else cycRow r (rec g st).2) else cycRow r st
end
def enumL {α : Type} : List α → Nat → List (Nat × α)
  | [], _ => []
  | x :: l, i => (i, x) :: enumL l (i + 1)
section
variable (l : List (List Bool))
def cyc : Nat → Nat → List Int → Bool × List Int
  | 0, _, st => (true, st)
  | n + 1, f, st => if nth st f ≠ 0 then (decide (nth st f = 1), st) else
    if (cycRow (cyc n) (enumL (nth l f) 0) (st.set f 1)).1 = true then (true, (cycRow (cyc n) (enumL (nth l f) 0) (st.set f 1)).2)
    else (false, (cycRow (cyc n) (enumL (nth l f) 0) (st.set f 1)).2.set f 2)
/-- From each vertex. -/
def cycAll : Nat → List Nat → List Int → Bool × List Int
  | _, [], st => (false, st)
  | n, f :: r, st => if (cyc l n f st).1 = true then (true, (cyc l n f st).2) else cycAll n r (cyc l n f st).2
def ed (f g : Nat) : Prop := (g, true) ∈ enumL (nth l f) 0
/-- Each arrow points to what was before. -/
def Topo (fin : List Nat) : Prop := ∀ pre v post, fin = pre ++ v :: post → ∀ g, ed l v g → g ∈ pre
def zeros (st : List Int) : Nat := st.count 0
structure Fits (st : List Int) (fin : List Nat) : Prop where
  two : ∀ v, nth st v = 2 ↔ v ∈ fin
  topo : Topo l fin
  dom : ∀ v, nth st v = 0 ∨ nth st v = 1 ∨ nth st v = 2
theorem nth_st : ∀ (st : List Int) (f v : Nat) (x : Int) (hf : f < st.length), nth (st.set f x) v = if v = f then x else nth st v
  | a :: st, 0, 0, x, _ => rfl
  | a :: st, 0, v + 1, x, _ => rfl
  | a :: st, f + 1, 0, x, _ => rfl
  | a :: st, f + 1, v + 1, x, h => by
    have := nth_st st f v x (by simpa using h)
    simp only [List.set_cons_succ, nth, Nat.add_right_cancel_iff]
    exact this
theorem Topo.snoc {fin : List Nat} {f : Nat} (h : Topo l fin) (hg : ∀ g, ed l f g → g ∈ fin) : Topo l (fin ++ [f]) := by
  intro pre v post e g hv
  rcases List.eq_nil_or_concat post with rfl | ⟨post', z, rfl⟩
  · have : fin = pre ∧ [f] = [v] := List.append_inj' (by simpa using e) rfl
    obtain ⟨rfl, h2⟩ := this
    injection h2 with h2; subst h2
    exact hg g hv
  · have e' : fin ++ [f] = (pre ++ v :: post') ++ [z] := by rw [e]; simp
    obtain ⟨h1, h2⟩ := List.append_inj' e' rfl
    exact h pre v post' h1 g hv
theorem cyc_false : ∀ (n f : Nat) (st : List Int) (fin : List Nat), Fits l st fin → f < st.length → (∀ v g, ed l v g → g < st.length) → (cyc l n f st).1 = false →
    (cyc l n f st).2.length = st.length ∧ ∃ ext, Fits l (cyc l n f st).2 (fin ++ ext) ∧ f ∈ fin ++ ext ∧ ∀ v, nth st v = 1 ↔ nth (cyc l n f st).2 v = 1 := by
  intro n
  induction n with
  | zero => intro f st fin _ _ _ h; simp [cyc] at h
  | succ n ih =>
    intro f st fin F hf hr h
    by_cases h0 : nth st f = 0
    · have hrow : ∀ (r : List (Nat × Bool)) (st : List Int) (fin : List Nat), Fits l st fin → (∀ p ∈ r, p.2 = true → p.1 < st.length) → (∀ v g, ed l v g → g < st.length) → (cycRow (cyc l n) r st).1 = false →
          (cycRow (cyc l n) r st).2.length = st.length ∧ ∃ ext, Fits l (cycRow (cyc l n) r st).2 (fin ++ ext) ∧ (∀ g, (g, true) ∈ r → g ∈ fin ++ ext) ∧ ∀ v, nth st v = 1 ↔ nth (cycRow (cyc l n) r st).2 v = 1 := by
        intro r
        induction r with
        | nil => intro st fin F _ _ _; exact ⟨rfl, [], by simpa [cycRow] using F, by simp, fun v => Iff.rfl⟩
        | cons p r ihr =>
          obtain ⟨g, is⟩ := p
          intro st fin F hp hr h
          simp only [cycRow] at h ⊢
          by_cases hi : is = true
          · simp only [hi, if_true] at h ⊢
            by_cases hc : (cyc l n g st).1 = true
            · rw [if_pos hc] at h; cases h
            · rw [if_neg hc] at h ⊢
              obtain ⟨l1, e1, F1, m1, o1⟩ := ih g st fin F (hp (g, is) (by simp) hi) hr (by simpa using hc)
              obtain ⟨l2, e2, F2, m2, o2⟩ := ihr _ _ F1 (fun p hq => by rw [l1]; exact hp p (by simp [hq])) (fun v g hv => by rw [l1]; exact hr v g hv) h
              refine ⟨l2.trans l1, e1 ++ e2, by rw [← List.append_assoc]; exact F2, fun g' hg' => ?_, fun v => (o1 v).trans (o2 v)⟩
              rw [← List.append_assoc]
              rcases List.mem_cons.1 hg' with e | hg'
              · injection e with e _; subst e; exact List.mem_append_left _ m1
              · exact m2 g' hg'
          · simp only [hi, if_false] at h ⊢
            obtain ⟨l2, e2, F2, m2, o2⟩ := ihr st fin F (fun p hq => hp p (by simp [hq])) hr h
            refine ⟨l2, e2, F2, fun g' hg' => ?_, o2⟩
            rcases List.mem_cons.1 hg' with e | hg'
            · simp only [Prod.mk.injEq] at e; exact absurd e.2.symm (by simp_all)
            · exact m2 g' hg'
      simp only [cyc] at h ⊢
      rw [if_neg (by simpa using h0)] at h ⊢
      by_cases hc : (cycRow (cyc l n) (enumL (nth l f) 0) (st.set f 1)).1 = true
      · rw [if_pos hc] at h; cases h
      · rw [if_neg hc] at h ⊢
        have hnf : f ∉ fin := fun q => by have := (F.two f).2 q; omega
        have F0 : Fits l (st.set f 1) fin := ⟨fun v => by
          rw [nth_st st f v 1 hf]
          split
          · rename_i e; subst e; simp [hnf]
          · exact F.two v, F.topo, fun v => by
          rw [nth_st st f v 1 hf]
          split
          · simp
          · exact F.dom v⟩
        have hp : ∀ p ∈ enumL (nth l f) 0, p.2 = true → p.1 < (st.set f 1).length := fun p hp e => by
          rw [List.length_set]; exact hr f p.1 (by obtain ⟨a, b⟩ := p; have e : b = true := e; subst e; exact hp)
        obtain ⟨l2, ext, F2, m2, o2⟩ := hrow _ _ _ F0 hp (fun v g hv => by rw [List.length_set]; exact hr v g hv) (by simpa using hc)
        generalize (cycRow (cyc l n) (enumL (nth l f) 0) (st.set f 1)).2 = st2 at l2 F2 o2 ⊢
        rw [List.length_set] at l2
        have hf2 : f < st2.length := by omega
        have h1 : nth st2 f = 1 := (o2 f).1 (by rw [nth_st st f f 1 hf, if_pos rfl])
        have hnf2 : f ∉ fin ++ ext := fun q => by have := (F2.two f).2 q; omega
        refine ⟨by rw [List.length_set]; exact l2, ext ++ [f], ⟨fun v => ?_, ?_, fun v => ?_⟩, by simp, fun v => ?_⟩
        · rw [nth_st st2 f v 2 hf2, ← List.append_assoc]
          split
          · rename_i e; subst e; simp
          · rename_i e
            rw [F2.two v, List.mem_append (t := [f])]
            simp [e]
        · rw [← List.append_assoc]
          exact F2.topo.snoc l (fun g hg => m2 g hg)
        · rw [nth_st st2 f v 2 hf2]
          split
          · simp
          · exact F2.dom v
        · rw [nth_st st2 f v 2 hf2]
          split
          · rename_i e; subst e; omega
          · rename_i e
            rw [← o2 v, nth_st st f v 1 hf, if_neg e]
    · simp only [cyc] at h ⊢
      rw [if_pos h0] at h ⊢
      have h1 : ¬ nth st f = 1 := by simpa using h
      refine ⟨rfl, [], by simpa using F, ?_, fun v => Iff.rfl⟩
      rw [List.append_nil]
      exact (F.two f).1 ((F.dom f).resolve_left h0 |>.resolve_left h1)
theorem cycAll_false : ∀ (n : Nat) (r : List Nat) (st : List Int) (fin : List Nat), Fits l st fin → (∀ f ∈ r, f < st.length) → (∀ v g, ed l v g → g < st.length) → (cycAll l n r st).1 = false → ∃ ext, Topo l (fin ++ ext) ∧ ∀ f ∈ r, f ∈ fin ++ ext
  | n, [], st, fin, F, _, _, _ => ⟨[], by simpa using F.topo, by simp⟩
  | n, f :: r, st, fin, F, hf, hr, h => by
    simp only [cycAll] at h
    by_cases hc : (cyc l n f st).1 = true
    · rw [if_pos hc] at h; cases h
    · rw [if_neg hc] at h
      obtain ⟨l1, e1, F1, m1, o1⟩ := cyc_false l n f st fin F (hf f (by simp)) hr (by simpa using hc)
      obtain ⟨e2, t2, m2⟩ := cycAll_false n r _ _ F1 (fun f' h' => by rw [l1]; exact hf f' (by simp [h'])) (fun v g hv => by rw [l1]; exact hr v g hv) h
      refine ⟨e1 ++ e2, by rw [← List.append_assoc]; exact t2, fun f' h' => ?_⟩
      rw [← List.append_assoc]
      rcases List.mem_cons.1 h' with rfl | h'
      · exact List.mem_append_left _ m1
      · exact m2 f' h'
/-- Reached by arrows. -/
inductive Rch : Nat → Nat → Prop
  | refl (v : Nat) : Rch v v
  | step {u v w : Nat} : ed l u v → Rch v w → Rch u w
def Cycle : Prop := ∃ u v, ed l u v ∧ Rch l v u
theorem zeros_set {st : List Int} {f : Nat} {x : Int} (hf : f < st.length) (h0 : nth st f = 0) (hx : x ≠ 0) : zeros (st.set f x) + 1 = zeros st := by
  induction st generalizing f with
  | nil => simp at hf
  | cons a st ih =>
    match f with
    | 0 =>
      have h0 : a = 0 := h0
      subst h0
      simp only [zeros, List.set_cons_zero, List.count_cons]
      simp [hx]
    | f + 1 =>
      have := ih (f := f) (by simpa using hf) h0
      simp only [zeros, List.set_cons_succ, List.count_cons] at this ⊢
      omega
theorem zeros_set2 {st : List Int} {f : Nat} {x : Int} (hx : x ≠ 0) : zeros (st.set f x) ≤ zeros st := by
  induction st generalizing f with
  | nil => simp [zeros]
  | cons a st ih =>
    match f with
    | 0 =>
      simp only [zeros, List.set_cons_zero, List.count_cons]
      simp [hx]
    | f + 1 =>
      have := ih (f := f)
      simp only [zeros, List.set_cons_succ, List.count_cons] at this ⊢
      omega
theorem cycRow_zeros {rec : Nat → List Int → Bool × List Int} (hr : ∀ g st, zeros (rec g st).2 ≤ zeros st ∧ (rec g st).2.length = st.length) : ∀ (r : List (Nat × Bool)) (st : List Int), zeros (cycRow rec r st).2 ≤ zeros st ∧ (cycRow rec r st).2.length = st.length
  | [], st => ⟨Nat.le_refl _, rfl⟩
  | (g, is) :: r, st => by
    simp only [cycRow]
    have h1 := hr g st
    have h2 := cycRow_zeros hr r (rec g st).2
    split
    · split
      · exact h1
      · exact ⟨by omega, by omega⟩
    · exact cycRow_zeros hr r st
theorem cyc_zeros : ∀ (n f : Nat) (st : List Int), zeros (cyc l n f st).2 ≤ zeros st ∧ (cyc l n f st).2.length = st.length
  | 0, f, st => ⟨Nat.le_refl _, rfl⟩
  | n + 1, f, st => by
    have h2 := cycRow_zeros (cyc_zeros n) (enumL (nth l f) 0) (st.set f 1)
    have h3 := zeros_set2 (st := st) (f := f) (x := 1) (by decide)
    have h4 := zeros_set2 (st := (cycRow (cyc l n) (enumL (nth l f) 0) (st.set f 1)).2) (f := f) (x := 2) (by decide)
    have h5 : (st.set f 1).length = st.length := List.length_set
    simp only [cyc]
    split
    · exact ⟨Nat.le_refl _, rfl⟩
    · split
      · exact ⟨by show zeros (cycRow (cyc l n) (enumL (nth l f) 0) (st.set f 1)).2 ≤ _; omega, by show (cycRow (cyc l n) (enumL (nth l f) 0) (st.set f 1)).2.length = _; omega⟩
      · exact ⟨by simp only; omega, by rw [List.length_set]; omega⟩
/-- What a positive answer tells. -/
theorem cyc_true : ∀ (n f : Nat) (st : List Int) (fin : List Nat), Fits l st fin → f < st.length → (∀ v g, ed l v g → g < st.length) → zeros st < n → (cyc l n f st).1 = true → Cycle l ∨ ∃ v, nth st v = 1 ∧ Rch l f v := by
  intro n
  induction n with
  | zero => intro f st fin _ _ _ hz; omega
  | succ n ih =>
    intro f st fin F hf hr hz h
    by_cases h0 : nth st f = 0
    · have hrow : ∀ (r : List (Nat × Bool)) (st : List Int) (fin : List Nat), Fits l st fin → (∀ p ∈ r, p.2 = true → p.1 < st.length) → (∀ v g, ed l v g → g < st.length) → zeros st < n → (cycRow (cyc l n) r st).1 = true →
          Cycle l ∨ ∃ g v, (g, true) ∈ r ∧ nth st v = 1 ∧ Rch l g v := by
        intro r
        induction r with
        | nil => intro st fin F _ _ _ h; simp [cycRow] at h
        | cons p r ihr =>
          obtain ⟨g, is⟩ := p
          intro st fin F hp hr hz h
          simp only [cycRow] at h
          by_cases hi : is = true
          · subst hi
            simp only [if_true] at h
            by_cases hc : (cyc l n g st).1 = true
            · rcases ih g st fin F (hp (g, true) (by simp) rfl) hr hz hc with h1 | ⟨v, h1, h2⟩
              · exact .inl h1
              · exact .inr ⟨g, v, by simp, h1, h2⟩
            · rw [if_neg hc] at h
              obtain ⟨l1, e1, F1, m1, o1⟩ := cyc_false l n g st fin F (hp (g, true) (by simp) rfl) hr (by simpa using hc)
              rcases ihr _ _ F1 (fun p hq => by rw [l1]; exact hp p (by simp [hq])) (fun v g hv => by rw [l1]; exact hr v g hv) (Nat.lt_of_le_of_lt (cyc_zeros l n g st).1 hz) h with h1 | ⟨g', v, h1, h2, h3⟩
              · exact .inl h1
              · exact .inr ⟨g', v, by simp [h1], (o1 v).2 h2, h3⟩
          · rw [if_neg hi] at h
            rcases ihr _ _ F (fun p hq => hp p (by simp [hq])) hr hz h with h1 | ⟨g', v, h1, h2, h3⟩
            · exact .inl h1
            · exact .inr ⟨g', v, by simp [h1], h2, h3⟩
      simp only [cyc] at h
      rw [if_neg (by simpa using h0)] at h
      by_cases hc : (cycRow (cyc l n) (enumL (nth l f) 0) (st.set f 1)).1 = true
      · have hnf : f ∉ fin := fun q => by have := (F.two f).2 q; omega
        have F0 : Fits l (st.set f 1) fin := ⟨fun v => by
          rw [nth_st st f v 1 hf]
          split
          · rename_i e; subst e; simp [hnf]
          · exact F.two v, F.topo, fun v => by
          rw [nth_st st f v 1 hf]
          split
          · simp
          · exact F.dom v⟩
        have hp : ∀ p ∈ enumL (nth l f) 0, p.2 = true → p.1 < (st.set f 1).length := fun p hp e => by
          rw [List.length_set]; exact hr f p.1 (by obtain ⟨a, b⟩ := p; have e : b = true := e; subst e; exact hp)
        have hzz := zeros_set (x := 1) hf h0 (by decide)
        rcases hrow _ _ _ F0 hp (fun v g hv => by rw [List.length_set]; exact hr v g hv) (by omega) hc with h1 | ⟨g, v, h1, h2, h3⟩
        · exact .inl h1
        · rw [nth_st st f v 1 hf] at h2
          by_cases e : v = f
          · subst e; exact .inl ⟨v, g, h1, h3⟩
          · rw [if_neg e] at h2
            exact .inr ⟨v, h2, .step h1 h3⟩
      · rw [if_neg hc] at h; cases h
    · simp only [cyc] at h
      rw [if_pos h0] at h
      exact .inr ⟨f, by simpa using h, .refl _⟩
theorem cycAll_true : ∀ (n : Nat) (r : List Nat) (st : List Int) (fin : List Nat), Fits l st fin → (∀ f ∈ r, f < st.length) → (∀ v g, ed l v g → g < st.length) → zeros st < n → (∀ v, nth st v ≠ 1) → (cycAll l n r st).1 = true → Cycle l
  | n, [], st, fin, F, _, _, _, _, h => by simp [cycAll] at h
  | n, f :: r, st, fin, F, hf, hr, hz, h1, h => by
    simp only [cycAll] at h
    by_cases hc : (cyc l n f st).1 = true
    · rcases cyc_true l n f st fin F (hf f (by simp)) hr hz hc with h2 | ⟨v, h2, _⟩
      · exact h2
      · exact absurd h2 (h1 v)
    · rw [if_neg hc] at h
      obtain ⟨l1, e1, F1, m1, o1⟩ := cyc_false l n f st fin F (hf f (by simp)) hr (by simpa using hc)
      exact cycAll_true n r _ _ F1 (fun f' h' => by rw [l1]; exact hf f' (by simp [h'])) (fun v g hv => by rw [l1]; exact hr v g hv) (Nat.lt_of_le_of_lt (cyc_zeros l n f st).1 hz) (fun v e => h1 v ((o1 v).2 e)) h
end
open Go Go.Proofs Go.Proofs.Tryz
theorem Frz.mapV {κ β : Type} [DecidableEq κ] {kv : κ → Value} {R : Rp β} {v : Value} {m : List (κ × β)} {S : List SP} : Frz (mapOwn kv R v m :: S) (rV.ty v) (tMapI kv R m) := fun h mm u d hs hu => Frz.mapI h mm u d hs hu.1
theorem ty127V : TyOf prog 127 rV := ⟨fun w => isAgg127 w, fun w => sizeOf127 w⟩
abbrev MapB := List (Int × Bool)
def addM (m : MapB) (ts : List Int) : MapB := ts.foldl (fun m t => if 0 ≤ t then mput m t true else m) m
def covM (m : MapB) (ts : List Int) : Bool := !(ts.any fun t => decide (0 ≤ t) && !((mget m t).getD false))
abbrev keyT (q : GConj) (i : Nat) : List Int := (nth q.Atoms i).Terms.take (nth q.Atoms i).Key.toNat
/-- One pass over the first i atoms. -/
def passI (q : GConj) (w : Int) (m : MapB) : Nat → MapB
  | 0 => m
  | i + 1 => if (i : Int) ≠ w ∧ covM (passI q w m i) (keyT q i) = true then addM (passI q w m i) (nth q.Atoms i).Terms else passI q w m i
/-- The closure of variables by the keys of all atoms but one. -/
inductive ClV (q : GConj) (w : Int) (vars : List Int) : Int → Prop
  | base {t : Int} : t ∈ vars → ClV q w vars t
  | step {H : Nat} {t : Int} : H < q.Atoms.length → (H : Int) ≠ w → (∀ t' ∈ keyT q H, 0 ≤ t' → ClV q w vars t') → t ∈ (nth q.Atoms H).Terms → ClV q w vars t
def uniV (q : GConj) (vars : List Int) : List Int := vars ++ q.Atoms.flatMap (·.Terms)
structure GoodM (q : GConj) (w : Int) (vars : List Int) (m : MapB) : Prop where
  nd : (m.map (·.1)).Nodup
  ok : ∀ x ∈ m, x.2 = true ∧ 0 ≤ x.1 ∧ ClV q w vars x.1 ∧ x.1 ∈ uniV q vars
  base : ∀ t ∈ vars, 0 ≤ t → t ∈ m.map (·.1)
theorem mem_keys_mput {m : MapB} {t s : Int} {b : Bool} : s ∈ (mput m t b).map (·.1) ↔ s = t ∨ s ∈ m.map (·.1) := by
  rw [mput_keys]
  split
  · rename_i h
    exact ⟨.inr, fun q => q.elim (fun e => e ▸ h) id⟩
  · rw [List.mem_append, List.mem_singleton]; exact ⟨fun h => h.elim .inr .inl, fun h => h.elim .inr .inl⟩
theorem mem_mput {m : MapB} {t : Int} {b : Bool} {x : Int × Bool} (h : x ∈ mput m t b) : x = (t, b) ∨ x ∈ m := by
  induction m with
  | nil => simp [mput] at h; exact .inl h
  | cons a m ih =>
    obtain ⟨k, y⟩ := a
    simp only [mput] at h
    split at h
    · rcases List.mem_cons.1 h with h | h
      · exact .inl h
      · exact .inr (by simp [h])
    · rcases List.mem_cons.1 h with h | h
      · exact .inr (by simp [h])
      · exact (ih h).imp id (fun h => by simp [h])
theorem addM_keys : ∀ (ts : List Int) (m : MapB) (s : Int), s ∈ (addM m ts).map (·.1) ↔ s ∈ m.map (·.1) ∨ (s ∈ ts ∧ 0 ≤ s)
  | [], m, s => by simp [addM]
  | t :: ts, m, s => by
    have ih := addM_keys ts (if 0 ≤ t then mput m t true else m) s
    have e : addM m (t :: ts) = addM (if 0 ≤ t then mput m t true else m) ts := rfl
    rw [e, ih]
    split
    · rename_i h0
      rw [mem_keys_mput]
      constructor
      · rintro ((h | h) | h)
        · exact .inr ⟨by simp [h], h ▸ h0⟩
        · exact .inl h
        · exact .inr ⟨by simp [h.1], h.2⟩
      · rintro (h | ⟨h, h1⟩)
        · exact .inl (.inr h)
        · rcases List.mem_cons.1 h with h | h
          · exact .inl (.inl h)
          · exact .inr ⟨h, h1⟩
    · rename_i h0
      constructor
      · rintro (h | h)
        · exact .inl h
        · exact .inr ⟨by simp [h.1], h.2⟩
      · rintro (h | ⟨h, h1⟩)
        · exact .inl h
        · rcases List.mem_cons.1 h with h | h
          · exact absurd (h ▸ h1) h0
          · exact .inr ⟨h, h1⟩
theorem addM_nd : ∀ (ts : List Int) {m : MapB}, (m.map (·.1)).Nodup → ((addM m ts).map (·.1)).Nodup
  | [], m, h => h
  | t :: ts, m, h => by
    show ((addM (if 0 ≤ t then mput m t true else m) ts).map (·.1)).Nodup
    apply addM_nd
    split
    · exact mput_nodup h _ _
    · exact h
theorem addM_all : ∀ (ts : List Int) {m : MapB} {x : Int × Bool}, x ∈ addM m ts → x ∈ m ∨ (x.2 = true ∧ 0 ≤ x.1 ∧ x.1 ∈ ts)
  | [], m, x, h => .inl h
  | t :: ts, m, x, h => by
    have h : x ∈ addM (if 0 ≤ t then mput m t true else m) ts := h
    rcases addM_all ts h with h | ⟨h1, h2, h3⟩
    · split at h
      · rename_i h0
        rcases mem_mput h with rfl | h
        · exact .inr ⟨rfl, h0, by simp⟩
        · exact .inl h
      · exact .inl h
    · exact .inr ⟨h1, h2, by simp [h3]⟩
theorem GoodM.val {q : GConj} {w : Int} {vars : List Int} {m : MapB} (g : GoodM q w vars m) (t : Int) : (mget m t).getD false = true ↔ t ∈ m.map (·.1) := by
  constructor
  · intro h
    cases e : mget m t with
    | none => rw [e] at h; cases h
    | some b => exact List.mem_map.2 ⟨(t, b), (mget_mem g.nd).1 e, rfl⟩
  · intro h
    obtain ⟨⟨s, b⟩, hx, e⟩ := List.mem_map.1 h
    have e : s = t := e
    subst e
    have hb := (g.ok _ hx).1
    have hb : b = true := hb
    rw [(mget_mem g.nd).2 hx, hb]; rfl
theorem GoodM.cov {q : GConj} {w : Int} {vars : List Int} {m : MapB} (g : GoodM q w vars m) (ts : List Int) : covM m ts = true ↔ ∀ t ∈ ts, 0 ≤ t → t ∈ m.map (·.1) := by
  unfold covM
  rw [Bool.not_eq_true', List.any_eq_false]
  refine forall_congr' fun t => forall_congr' fun ht => ?_
  rw [Bool.and_eq_true, Bool.not_eq_true', decide_eq_true_eq, ← g.val t]
  constructor
  · intro h h0
    cases e : (mget m t).getD false with
    | true => rfl
    | false => exact absurd ⟨h0, e⟩ h
  · rintro h ⟨h0, h1⟩
    rw [h h0] at h1; cases h1
theorem uni_terms {q : GConj} {vars : List Int} {H : Nat} {t : Int} (hH : H < q.Atoms.length) (ht : t ∈ (nth q.Atoms H).Terms) : t ∈ uniV q vars :=
  List.mem_append_right _ (List.mem_flatMap.2 ⟨_, nth_mem hH, ht⟩)
theorem passI_good {q : GConj} {w : Int} {vars : List Int} {m : MapB} (g : GoodM q w vars m) : ∀ i, i ≤ q.Atoms.length → GoodM q w vars (passI q w m i) ∧ ∀ s, s ∈ m.map (·.1) → s ∈ (passI q w m i).map (·.1)
  | 0, _ => ⟨g, fun _ h => h⟩
  | i + 1, hi => by
    obtain ⟨g1, s1⟩ := passI_good g i (by omega)
    simp only [passI]
    split
    · rename_i h
      have hc := (g1.cov _).1 h.2
      refine ⟨⟨addM_nd _ g1.nd, fun x hx => ?_, fun t ht h0 => (addM_keys _ _ _).2 (.inl (g1.base t ht h0))⟩, fun s hs => (addM_keys _ _ _).2 (.inl (s1 s hs))⟩
      rcases addM_all _ hx with hx | ⟨h1, h2, h3⟩
      · exact g1.ok x hx
      · refine ⟨h1, h2, ClV.step (by omega) h.1 (fun t' ht' h0 => ?_) h3, uni_terms (by omega) h3⟩
        obtain ⟨y, hy, e⟩ := List.mem_map.1 (hc t' ht' h0)
        have := (g1.ok y hy).2.2.1
        rw [e] at this; exact this
    · exact ⟨g1, s1⟩
theorem GoodM.len {q : GConj} {w : Int} {vars : List Int} {m : MapB} (g : GoodM q w vars m) : m.length ≤ (uniV q vars).length := by
  have := nodup_len (U := uniV q vars) g.nd (fun x hx => by
    obtain ⟨y, hy, e⟩ := List.mem_map.1 hx
    have := (g.ok y hy).2.2.2
    rw [e] at this; exact this)
  simpa using this
theorem nodup_sub_eq {α : Type} [DecidableEq α] {a b : List α} (ha : a.Nodup) (hb : b.Nodup) (h : ∀ x ∈ a, x ∈ b) (hl : b.length ≤ a.length) : ∀ x ∈ b, x ∈ a := by
  intro x hx
  apply Classical.byContradiction
  intro hn
  have := nodup_len (l := x :: a) (U := b) (List.nodup_cons.2 ⟨hn, ha⟩) (fun y hy => by
    rcases List.mem_cons.1 hy with rfl | hy
    · exact hx
    · exact h y hy)
  simp at this; omega
/-- A pass that adds nothing: all is there. -/
theorem fix_closed {q : GConj} {w : Int} {vars : List Int} {m : MapB} (g : GoodM q w vars m) (hl : (passI q w m q.Atoms.length).length ≤ m.length) {t : Int} (h : ClV q w vars t) (h0 : 0 ≤ t) : t ∈ (passI q w m q.Atoms.length).map (·.1) := by
  obtain ⟨gn, sn⟩ := passI_good g q.Atoms.length (Nat.le_refl _)
  have back := nodup_sub_eq g.nd gn.nd sn (by simpa using hl)
  have mono : ∀ i j, i ≤ j → j ≤ q.Atoms.length → ∀ s, s ∈ (passI q w m i).map (·.1) → s ∈ (passI q w m j).map (·.1) := by
    intro i j hij
    induction hij with
    | refl => intro _ s h; exact h
    | @step j hij ih =>
      intro hj s hs
      have := ih (by omega) s hs
      simp only [passI]
      split
      · exact (addM_keys _ _ _).2 (.inl this)
      · exact this
  induction h with
  | base h => exact gn.base _ h h0
  | @step H t hH hw _ ht ih =>
    obtain ⟨gH, sH⟩ := passI_good g H (by omega)
    have hc : covM (passI q w m H) (keyT q H) = true := (gH.cov _).2 (fun t' ht' h0' => sH _ (back _ (ih t' ht' h0' h0')))
    refine mono (H + 1) _ (by omega) (Nat.le_refl _) t ?_
    simp only [passI]
    rw [if_pos ⟨hw, hc⟩]
    exact (addM_keys _ _ _).2 (.inr ⟨ht, h0⟩)
structure ClRes (q : GConj) (w : Int) (vars : List Int) (m : MapB) : Prop where
  good : GoodM q w vars m
  all : ∀ t, 0 ≤ t → ((mget m t).getD false = true ↔ ClV q w vars t)
theorem cl_res {q : GConj} {w : Int} {vars : List Int} {m : MapB} (g : GoodM q w vars m) (hl : (passI q w m q.Atoms.length).length ≤ m.length) : ClRes q w vars (passI q w m q.Atoms.length) := by
  obtain ⟨gn, sn⟩ := passI_good g q.Atoms.length (Nat.le_refl _)
  refine ⟨gn, fun t h0 => ⟨fun h => ?_, fun h => (gn.val t).2 (fix_closed g hl h h0)⟩⟩
  obtain ⟨y, hy, e⟩ := List.mem_map.1 ((gn.val t).1 h)
  have := (gn.ok y hy).2.2.1
  rw [e] at this; exact this
theorem good_start (q : GConj) (w : Int) (vars : List Int) : GoodM q w vars (addM [] vars) where
  nd := addM_nd _ (by simp)
  ok := fun x hx => by
    rcases addM_all _ hx with hx | ⟨h1, h2, h3⟩
    · cases hx
    · exact ⟨h1, h2, .base h3, List.mem_append_left _ h3⟩
  base := fun t ht h0 => (addM_keys _ _ _).2 (.inr ⟨ht, h0⟩)
/-- What holds at the head of the loop. -/
def CInv (q : GConj) (w : Int) (vars : List Int) (m : MapB) (size : Int) : Prop := GoodM q w vars m ∧ -1 ≤ size ∧ (size = -1 ∨ ∃ m0, GoodM q w vars m0 ∧ size = m0.length ∧ m = passI q w m0 q.Atoms.length)
theorem CInv.res {q : GConj} {w : Int} {vars : List Int} {m : MapB} {size : Int} (h : CInv q w vars m size) (hx : ¬ size < m.length) : ClRes q w vars m := by
  obtain ⟨g, _, h | ⟨m0, g0, e1, rfl⟩⟩ := h
  · omega
  · exact cl_res g0 (by omega)
theorem addM_snoc {m : MapB} {ts : List Int} {i : Nat} (h : i < ts.length) : addM m (ts.take (i + 1)) = if 0 ≤ nth ts i then mput (addM m (ts.take i)) (nth ts i) true else addM m (ts.take i) := by
  rw [takeB h]; simp [addM]
theorem valid_atom {q : GConj} (hq : validQ q = true) {i : Nat} (hi : i < q.Atoms.length) : 1 ≤ (nth q.Atoms i).Cols.length ∧ (nth q.Atoms i).Cols.length ≤ 12 ∧ (nth q.Atoms i).Terms.length = (nth q.Atoms i).Cols.length ∧ 1 ≤ (nth q.Atoms i).Key ∧ (nth q.Atoms i).Key ≤ (nth q.Atoms i).Cols.length := by
  unfold validQ at hq
  rw [Bool.and_eq_true] at hq
  have h1 := rall_iff.1 hq.2 i hi
  unfold okA at h1
  simp only [Bool.and_eq_true, decide_eq_true_eq] at h1
  exact h1.1.2
theorem valid_bounds {q : GConj} (hq : validQ q = true) : 0 ≤ q.Vars ∧ q.Vars ≤ 240 ∧ q.Consts.length ≤ 240 ∧ q.Atoms.length ≤ 20 := by
  unfold validQ at hq
  simp only [Bool.and_eq_true, decide_eq_true_eq] at hq
  exact hq.1.1
theorem setAdd_spec (v : Value) (m : MapB) (ts : List Int) (hl : ts.length ≤ 1000000000000) : Spec (X := Unit) prog 126 [rV.ty v, tSl rInt ts] ([mapOwn kvI rBool v m]) (fun _ => tTup []) (fun _ => [mapOwn kvI rBool v (addM m ts)]) := by
 refine Spec.enter func126 rfl rfl fun h0 w0 fr0 => ?_
 refine Jr (Jm rfl (Js rfl (step_len_sl underlying36 Sr) (Jm rfl (JL_nil (J_block ?_)))))
 refine J_loopL (σ := Nat) (fun i => i ≤ ts.length) (fun i => upd (upd (upd (upd env0 0 (rV.ty v)) 6 (tSl rInt ts)) 7 (tV (.int .i64 ts.length))) 8 (tV (.int .i64 i))) (fun i => [mapOwn kvI rBool v (addM m (ts.take i))]) (fun i => ts.length - i) 0 zG (zU) (.c zS (SPs.of (by simp [addM])) (LSub.nil)) ?_
 rintro i hi
 refine Jr (Js rfl (step_lss Sr Sr) (JL_nil (J_seq ?_)))
 refine J_cond Sr (fun h9 => ?_) (fun h9 => ?_)
 ·
  try simp only [NF] at h9
  have hlt : i < ts.length := by omega
  refine J_skip (J_seq (J_block (Jr ?_)))
  refine Js rfl (step_indexAddr_sl  underlying36 ty3 Sr Sr rfl (gb (by exact hlt))) ?_
  refine Jl rfl ty3 Sr (Ja rfl (JL_nil (Jr (Jm rfl (Js rfl (step_geq Sr Sr) ?_)))))
  refine JL_nil ?_
  refine J_cond Sr (fun h13 => ?_) (fun h13 => ?_)
  ·
   try simp only [NF] at h13
   refine J_region (Jm rfl (Jm rfl ?_))
   refine Ju (step_mapUpdate (kv := kvI) (R := rBool) (KeyT.int underlying3) underlying127 Sub.ofRV Sr Sr zS) fun _ => ?_
   refine JL_nil (J_region (Js rfl (step_add Sr Sr z6) (Jm rfl (JL_nil ?_))))
   refine K_againL (σ := Nat) (s := i) (i + 1) zO zG (zU) (.c zS (SPs.of (by rw [addM_snoc hlt, if_pos h13])) (LSub.nil))
  try simp only [NF] at h13
  refine J_skip (J_region (Js rfl (step_add Sr Sr z6) (Jm rfl (JL_nil ?_))))
  refine K_againL (σ := Nat) (s := i) (i + 1) zO zG (zU) (.c zS (SPs.of (by rw [addM_snoc hlt, if_neg zG])) (LSub.nil))
 try simp only [NF] at h9
 refine J_exit ?_
 refine K_lsub (.c zS (SPs.of (by rw [List.take_of_length_le zG])) (LSub.nil)) ?_
 refine K_end0 rfl () Sr
theorem coversF_spec (v : Value) (m : MapB) (t : Int) : Spec (X := Unit) prog 194 [tV (.int .i64 t), tPtr rV v] ([mapOwn kvI rBool v m]) (fun _ => tV (.bool (decide (0 ≤ t) && !((mget m t).getD false)))) (fun _ => [mapOwn kvI rBool v m]) := by
 refine Spec.enter func194 rfl rfl fun h0 w0 fr0 => ?_
 refine Jr (Ja rfl (JL_nil (Jr (Jm rfl (Js rfl (step_geq Sr Sr) ?_)))))
 refine Jm rfl ?_
 refine Jk rfl Sr rfl (step_load_ptr ty127V Sr) ?_
 refine Jk rfl Sr rfl (step_move Sr) ?_
 refine Jg rfl Sr rfl (fun hw => step_lookup (kv := kvI) (R := rBool) (z := false) (KeyT.int underlying3) underlying127 (fun w => zeroValue4 w) zr4 (Sub.trans (Sub.w hw) Sub.ofRV) (Sub.w hw) zS) ?_
 refine Jg rfl Sr rfl (fun hw => step_not (Sub.w hw)) (Js rfl (step_pick_and Sr Sr) (Ja rfl (JL_nil (J_ret ?_))))
 refine K_retv (rv := .tmp 3) rfl () (.tmp Sr) (Sub.bool ?_)
 simp
theorem covers_spec (v : Value) (m : MapB) (ts : List Int) (hl : ts.length ≤ 1000000000000) : Spec (X := Unit) prog 127 [rV.ty v, tSl rInt ts] ([mapOwn kvI rBool v m]) (fun _ => tV (.bool (covM m ts))) (fun _ => [mapOwn kvI rBool v m]) := by
 refine Spec.enter func127 rfl rfl fun h0 w0 fr0 => ?_
 refine Jr ?_
 refine Jx rfl (step_box_own (R := rV) Sr) fun v2 => ?_
 refine Ja rfl (JL_nil (Jr ?_))
 refine JL_freeze (t := 2) (Sel.take (Sel.none _)) Frz.box ?_
 refine Jm rfl (Js rfl (step_makeFunc (As := [_]) ⟨Sr, trivial⟩) ?_)
 refine Jx rfl (step_call (Sel.all _) (ContainsFuncM_spec ts hl 194 [tPtr rV v] (mapOwn kvI rBool v m) (fun t => decide (0 ≤ t) && !((mget m t).getD false)) (fun x _ => coversF_spec v m x) call194) ⟨Sr, Sr, trivial⟩ call63) fun v7 => ?_
 refine Js rfl (step_not Sr) (Ja rfl (JL_nil (J_ret ?_)))
 refine K_retv (rv := .tmp 4) rfl () (.tmp Sr) Sr
theorem closure_spec (q : GConj) (hq : validQ q = true) (w : Int) (vars : List Int) (hl : vars.length ≤ 1000000000) : Spec (X := { m : MapB // ClRes q w vars m }) prog 77 [rConj.ty q, tV (.int .i64 w), tSl rInt vars] ([]) (fun m => tMapI kvI rBool m.1) (fun m => []) := by
 refine Spec.enter func77 rfl rfl fun h0 w0 fr0 => ?_
 have hvb := valid_bounds hq
 refine Jr (Js rfl (step_box (R := rConj) Sr) (Ja rfl (JL_nil (Jr ?_))))
 refine Jx rfl (step_makeMapV (kv := kvI) (R := rBool)) fun v11 => ?_
 refine Ja rfl (JL_nil (Jr (Jm rfl (Jm rfl ?_))))
 refine Jx rfl (step_call zS (setAdd_spec v11 [] vars zG) ⟨Sr, Sr, trivial⟩ call126) fun v14 => ?_
 refine JL_nil (J_seq (Jr (Ja rfl (JL_nil (J_block ?_)))))
 refine J_loopL (σ := MapB × Int) (fun ⟨m, size⟩ => CInv q w vars m size) (fun ⟨m, size⟩ => upd (upd (upd (upd env0 1 (tV (.int .i64 w))) 3 (tPtr rConj q)) 7 (rV.ty v11)) 8 (tV (.int .i64 size))) (fun ⟨m, size⟩ => [mapOwn kvI rBool v11 m]) (fun ⟨m, size⟩ => ((uniV q vars).length + 1 - size).toNat) (addM [] vars, -1) ⟨good_start q w vars, by omega, .inl rfl⟩ (zU) (zL) ?_
 rintro ⟨m, size⟩ hci
 try dsimp only at hci
 refine J_seq (Jr (Jm rfl (Jm rfl ?_)))
 refine Js rfl (step_len_map underlying127 Sr zS) ?_
 refine Js rfl (step_lss Sr Sr) (JL_nil ?_)
 refine J_cond Sr (fun h18 => ?_) (fun h18 => ?_)
 ·
  try simp only [NF] at h18
  refine J_skip (J_block (Jr (Jm rfl ?_)))
  refine Js rfl (step_len_map underlying127 Sr zS) ?_
  refine Ja rfl (JL_nil (Jr (Js rfl (step_fieldAddr so25 Sr rfl) (Jl rfl ty23 Sr (Js rfl (step_len_sl underlying23 Sr) ?_)))))
  refine Jm rfl (JL_nil (J_block ?_))
  refine J_loopL (σ := Nat) (fun i => i ≤ q.Atoms.length) (fun i => upd (upd (upd (upd (upd (upd (upd (upd (upd (upd (upd env0 1 (tV (.int .i64 w))) 3 (tPtr rConj q)) 7 (rV.ty v11)) 8 (tV (.int .i64 m.length))) 15 (tV (.int .i64 size))) 16 (rV.ty v11)) 19 (rV.ty v11)) 20 (tV (.int .i64 m.length))) 22 (tSl rAtom q.Atoms)) 23 (tV (.int .i64 q.Atoms.length))) 24 (tV (.int .i64 i))) (fun i => [mapOwn kvI rBool v11 (passI q w m i)]) (fun i => q.Atoms.length - i) 0 zG (zU) (.c zS (SPs.of rfl) (LSub.nil)) ?_
  rintro i hi
  refine Jr (Js rfl (step_lss Sr Sr) (JL_nil (J_seq ?_)))
  refine J_cond Sr (fun h25 => ?_) (fun h25 => ?_)
  ·
   try simp only [NF] at h25
   have hlt : i < q.Atoms.length := by omega
   refine J_skip (J_seq (J_block (Jr (Jm rfl ?_))))
   refine Js rfl (step_indexAddr_sl  underlying23 ty38 Sr Sr rfl (gb (by exact hlt))) ?_
   refine Jl rfl ty38 Sr ?_
   refine Jx rfl (step_alloc (fun w => zeroValue38 w) zr38) fun v10 => ?_
   refine Ja rfl ?_
   refine Ju (step_store_box ty38 Sr Sr zS) fun _ => ?_
   refine JL_freeze (t := 10) (Sel.take (Sel.none _)) Frz.box ?_
   refine JL_nil (Jr (Jm rfl (Jm rfl (Js rfl (step_neq Sr Sr) (Jm rfl ?_)))))
   refine Jk rfl Sr rfl (step_move Sr) ?_
   refine Jk rfl Sr rfl (step_fieldAddr so38 Sr rfl) ?_
   refine Jg rfl Sr rfl (fun hw => step_load_ptr ty36 (Sub.w hw)) ?_
   refine Jk rfl Sr rfl (step_fieldAddr so38 Sr rfl) ?_
   refine Jg rfl Sr rfl (fun hw => step_load_ptr ty3 (Sub.w hw)) ?_
   refine Jg rfl Sr rfl (fun hw => step_slice_toI (n := (nth q.Atoms i).Key.toNat) underlying36 ty3 (Sub.w hw) (Sub.w hw) (by have hwq := hw; (try simp only [beqB_t, beqB_f, NF] at hwq); have := valid_atom hq hlt; show (nth q.Atoms i).Key = (((nth q.Atoms i).Key.toNat : Nat) : Int); omega) (by have hwq := hw; (try simp only [beqB_t, beqB_f, NF] at hwq); have := valid_atom hq hlt; show (nth q.Atoms i).Key.toNat ≤ (nth q.Atoms i).Terms.length; omega)) ?_
   refine JL_stepGX (tV (.bool false)) rfl rfl rfl (Gd.plain Sr) rfl rfl (fun hw => step_call zS (covers_spec v11 (passI q w m i) (keyT q i) (by have := valid_atom hq hlt; rw [List.length_take]; omega)) ⟨(Sub.w hw), (Sub.w hw), trivial⟩ call127) (fun hw v39 => ?_) (fun hw => ?_)
   ·
    skip
    refine Js rfl (step_pick_and Sr Sr) (JL_nil ?_)
    refine J_cond Sr (fun h40 => ?_) (fun h40 => ?_)
    ·
     try simp only [NF] at h40
     refine J_region (Jm rfl (Js rfl (step_fieldAddr so38 Sr rfl) (Jl rfl ty36 Sr ?_)))
     refine Jx rfl (step_call zS (setAdd_spec v11 (passI q w m i) (nth q.Atoms i).Terms (by have := valid_atom hq hlt; omega)) ⟨Sr, Sr, trivial⟩ call126) fun v44 => ?_
     refine JL_nil (J_region (Js rfl (step_add Sr Sr z6) (Jm rfl (JL_nil ?_))))
     refine K_againL (σ := Nat) (s := i) (i + 1) zO zG (zU) (.c zS (SPs.of (by simp only [passI]; rw [if_pos (by simp_all)])) (LSub.nil))
    try simp only [NF] at h40
    refine J_skip (J_region (Js rfl (step_add Sr Sr z6) (Jm rfl (JL_nil ?_))))
    refine K_againL (σ := Nat) (s := i) (i + 1) zO zG (zU) (.c zS (SPs.of (by simp only [passI]; rw [if_neg (by simp_all)])) (LSub.nil))
   skip
   refine Js rfl (step_pick_and Sr Sr) (JL_nil ?_)
   refine J_cond Sr (fun h40 => ?_) (fun h40 => ?_)
   ·
    try simp only [NF] at h40
    first | contradiction | omega | (simp_all; done)
   try simp only [NF] at h40
   refine J_skip (J_region (Js rfl (step_add Sr Sr z6) (Jm rfl (JL_nil ?_))))
   refine K_againL (σ := Nat) (s := i) (i + 1) zO zG (zU) (.c zS (SPs.of (by simp only [passI]; rw [if_neg (by simp_all)])) (LSub.nil))
  try simp only [NF] at h25
  refine J_exit ?_
  have hg := (passI_good hci.1 q.Atoms.length (Nat.le_refl _)).1
  have hlm := hci.1.len
  have hsz := hci.2.1
  refine K_againL (σ := MapB × Int) (s := (m, size)) (passI q w m q.Atoms.length, m.length) (by show (((uniV q vars).length : Int) + 1 - (m.length : Int)).toNat < (((uniV q vars).length : Int) + 1 - size).toNat; omega) ⟨hg, by omega, .inr ⟨m, hci.1, rfl, rfl⟩⟩ (zU) (.c zS (SPs.of (by rw [show i = q.Atoms.length by omega])) (LSub.nil))
 try simp only [NF] at h18
 refine J_exit (Jr (Jm rfl (Ja rfl (JL_nil (J_ret ?_)))))
 refine K_ret1' (rv := .tmp 6) rfl ⟨m, hci.res zG⟩ (Sel.all _) (.tmp Sr) Frz.mapV
open Go Go.Proofs Go.Proofs.Tryz
/-- Some type of a family. -/
def tEx {X : Type} (T : X → Ty) : Ty := ⟨fun h v => ∃ x, (T x).p h v, fun l ⟨x, a⟩ => ⟨x, (T x).mono l a⟩⟩
theorem Spec.ex {X : Type} {P : Program} {f : Nat} {aT : List Ty} {T : X → Ty} (h : Spec (X := X) P f aT [] T (fun _ => [])) : Fun1 P f aT (tEx T) := fun vs h0 m r w ha sp st =>
  (h vs h0 m r w ha sp st).mono fun e w' ⟨x, u, h', m', e1, l, s, st', hu⟩ => ⟨(), u, h', m', e1, l, s, st', ⟨x, hu⟩⟩
theorem K_exT {X : Type} {C : Cx} {k : Act → World → Prop} {E : Env} {L : List SP} {t : Nat} {A : X → Ty} (hE : ∀ h v, (E t).p h v → ∃ x, (A x).p h v) (hk : ∀ x, K C k (upd E t (A x)) L) : K C k E L :=
  fun a w ⟨n, ds, h, m, l, sp, st, fr⟩ => by
  obtain ⟨x, hx⟩ := hE h _ (fr t)
  refine hk x a w ⟨n, ds, h, m, l, sp, st, fun u => ?_⟩
  by_cases e : u = t
  · subst e; rw [upd_same]; exact hx
  · rw [upd_other _ _ e]; exact fr u
theorem tEx_one {κ β X : Type} [DecidableEq κ] {kv : κ → Value} {R : Rp β} {m : X → List (κ × β)} : ∀ h v, (tEx fun x => tMapI kv R (m x)).p h v → v.oneCell' = true := by
  rintro h v ⟨x, hx⟩
  obtain ⟨r, es, rfl, _⟩ := tMapI_iff hx; rfl
theorem ptr_ex {κ β X : Type} [DecidableEq κ] {kv : κ → Value} {R : Rp β} {m : X → List (κ × β)} : ∀ h v, (tPtr (rTyp (tEx fun x => tMapI kv R (m x)) tEx_one) ()).p h v → ∃ x, (tPtr (rOM kv R) (some (m x))).p h v := by
  rintro h v ⟨b, off, cs, rfl, H, u, rfl, x, hx⟩
  exact ⟨x, b, off, [u], rfl, H, u, rfl, hx⟩
theorem LSub.unstars {A L : List SP} : LSub (Lg.stars A :: L) (A ++ L) := fun h m p => stars_append.2 p
theorem ty127M : TyOf prog 127 (rOM kvI rBool) := ⟨fun w => isAgg127 w, fun w => sizeOf127 w⟩
/-- Atoms that an atom reaches by variables outside of the closure of its key. -/
inductive RcQ (q : GConj) (f : Nat) : Nat → Prop
  | refl : RcQ q f f
  | step {H K : Nat} {t : Int} : RcQ q f H → H < q.Atoms.length → K < q.Atoms.length → t ∈ (nth q.Atoms H).Terms → t ∈ (nth q.Atoms K).Terms → 0 ≤ t → ¬ ClV q f (keyT q f) t → RcQ q f K
open Classical in
/-- Which atoms an atom attacks. -/
noncomputable def attB (q : GConj) (f : Nat) : List Bool := (List.range q.Atoms.length).map fun h => decide (RcQ q f h ∧ h ≠ f)
abbrev lnkT (q : GConj) (m : MapB) (x : Nat) (t : Int) : Bool := (decide (0 ≤ t) && !((mget m t).getD false)) && ((nth q.Atoms x).Terms.any fun s => decide (t = s))
def lnk (q : GConj) (m : MapB) (x k : Nat) : Bool := (nth q.Atoms k).Terms.any (lnkT q m x)
theorem lnk_iff {q : GConj} {f : Nat} {m : MapB} (hm : ClRes q f (keyT q f) m) {x k : Nat} : lnk q m x k = true ↔ ∃ t, t ∈ (nth q.Atoms x).Terms ∧ t ∈ (nth q.Atoms k).Terms ∧ 0 ≤ t ∧ ¬ ClV q f (keyT q f) t := by
  unfold lnk
  rw [List.any_eq_true]
  constructor
  · rintro ⟨t, ht, h⟩
    simp only [lnkT, Bool.and_eq_true, Bool.not_eq_true', decide_eq_true_eq, List.any_eq_true] at h
    obtain ⟨⟨h0, h1⟩, s, hs, e⟩ := h
    subst e
    exact ⟨t, hs, ht, h0, fun q => by rw [(hm.all t h0).2 q] at h1; cases h1⟩
  · rintro ⟨t, h1, h2, h0, h3⟩
    refine ⟨t, h2, ?_⟩
    simp only [lnkT, Bool.and_eq_true, Bool.not_eq_true', decide_eq_true_eq, List.any_eq_true]
    refine ⟨⟨h0, ?_⟩, t, h1, rfl⟩
    cases e : (mget m t).getD false with
    | false => rfl
    | true => exact absurd ((hm.all t h0).1 e) h3
structure BInv (q : GConj) (f : Nat) (m : MapB) (out : List Bool) (w : List Int) (x : Option Nat) : Prop where
  len : out.length = q.Atoms.length
  self : nth out f = true
  rc : ∀ h, h < q.Atoms.length → nth out h = true → RcQ q f h
  wok : ∀ y ∈ w, ∃ h : Nat, y = h ∧ h < q.Atoms.length ∧ nth out h = true
  cl : ∀ h, h < q.Atoms.length → nth out h = true → (h : Int) ∉ w → some h ≠ x → ∀ k, k < q.Atoms.length → lnk q m h k = true → nth out k = true
theorem cnt_set : ∀ {out : List Bool} {k : Nat}, k < out.length → nth out k = false → (out.set k true).count false + 1 = out.count false
  | [], k, h, _ => by simp at h
  | a :: out, 0, _, h => by
    have h : a = false := h
    subst h; simp
  | a :: out, k + 1, h, h0 => by
    have := cnt_set (out := out) (k := k) (by simpa using h) h0
    simp only [List.set_cons_succ, List.count_cons] at this ⊢
    omega
theorem nth_setB {out : List Bool} {k j : Nat} (h : j < out.length) : nth (out.set k true) j = if k = j then true else nth out j := Lg.nth_set h
theorem BInv.add {q : GConj} {f : Nat} {m : MapB} {out : List Bool} {w : List Int} {x k : Nat} (b : BInv q f m out w (some x)) (hm : ClRes q f (keyT q f) m) (hf : f < q.Atoms.length) (hx : x < q.Atoms.length) (hxo : nth out x = true) (hk : k < q.Atoms.length) (hl : lnk q m x k = true) (h0 : nth out k = false) :
    BInv q f m (out.set k true) (w ++ [(k : Int)]) (some x) where
  len := by rw [List.length_set]; exact b.len
  self := by
    have := b.self
    rw [nth_setB (by rw [b.len]; exact hf)]; split <;> simp [this]
  rc := fun h hh e => by
    rw [nth_setB (by rw [b.len]; exact hh)] at e
    split at e
    · rename_i q; subst q
      obtain ⟨t, h1, h2, h3, h4⟩ := (lnk_iff hm).1 hl
      exact .step (b.rc x hx hxo) hx hk h1 h2 h3 h4
    · exact b.rc h hh e
  wok := fun y hy => by
    rcases List.mem_append.1 hy with hy | hy
    · obtain ⟨h, e, h1, h2⟩ := b.wok y hy
      refine ⟨h, e, h1, ?_⟩
      rw [nth_setB (by rw [b.len]; exact h1)]; split <;> simp [h2]
    · simp only [List.mem_singleton] at hy
      refine ⟨k, hy, hk, ?_⟩
      rw [nth_setB (by rw [b.len]; exact hk), if_pos rfl]
  cl := fun h hh e hw hne j hj hlj => by
    rw [nth_setB (by rw [b.len]; exact hh)] at e
    have hw : (h : Int) ∉ w ∧ ¬ (h : Int) = (k : Int) := by simpa [not_or] using hw
    rw [if_neg (by omega)] at e
    rw [nth_setB (by rw [b.len]; exact hj)]
    split
    · rfl
    · exact b.cl h hh e hw.1 hne j hj hlj
theorem BInv.next {q : GConj} {f : Nat} {m : MapB} {out : List Bool} {r : List Int} {x : Nat} (b : BInv q f m out ((x : Int) :: r) (some x)) (hx : ∀ k, k < q.Atoms.length → lnk q m x k = true → nth out k = true) : BInv q f m out r none where
  len := b.len
  self := b.self
  rc := b.rc
  wok := fun y hy => b.wok y (by simp [hy])
  cl := fun h hh e hw _ k hk hl => by
    by_cases q : h = x
    · subst q; exact hx k hk hl
    · exact b.cl h hh e (by simp only [List.mem_cons, not_or]; exact ⟨by omega, hw⟩) (fun e => by injection e with e; exact q e) k hk hl
theorem BInv.open {q : GConj} {f : Nat} {m : MapB} {out : List Bool} {w : List Int} (b : BInv q f m out w none) (x : Nat) : BInv q f m out w (some x) where
  len := b.len
  self := b.self
  rc := b.rc
  wok := b.wok
  cl := fun h hh e hw _ k hk hl => b.cl h hh e hw (by simp) k hk hl
theorem BInv.start {q : GConj} {f : Nat} {m : MapB} (hf : f < q.Atoms.length) : BInv q f m ((List.replicate q.Atoms.length false).set f true) [(f : Int)] none := by
  have hn : ∀ h, h < q.Atoms.length → nth (List.replicate q.Atoms.length false) h = false := fun h hh => by rw [nth_get (by simpa using hh)]; simp
  refine ⟨by simp, by rw [nth_setB (by simpa using hf), if_pos rfl], fun h hh e => ?_, fun y hy => ⟨f, by simpa using hy, hf, by rw [nth_setB (by simpa using hf), if_pos rfl]⟩, fun h hh e hw _ k hk hl => ?_⟩
  · rw [nth_setB (by simpa using hh), hn h hh] at e
    split at e
    · rename_i q; subst q; exact .refl
    · cases e
  · rw [nth_setB (by simpa using hh), hn h hh] at e
    split at e
    · rename_i q; subst q; simp at hw
    · cases e
theorem BInv.res {q : GConj} {f : Nat} {m : MapB} {out : List Bool} (hm : ClRes q f (keyT q f) m) (hf : f < q.Atoms.length) (b : BInv q f m out [] none) : out.set f false = attB q f := by
  have hall : ∀ h, RcQ q f h → h < q.Atoms.length → nth out h = true := by
    intro h r
    induction r with
    | refl => intro _; exact b.self
    | step r hH hK h1 h2 h3 h4 ih => intro _; exact b.cl _ hH (ih hH) (by simp) (by simp) _ hK ((lnk_iff hm).2 ⟨_, h1, h2, h3, h4⟩)
  apply List.ext_getElem?
  intro i
  unfold attB
  by_cases hi : i < q.Atoms.length
  · rw [List.getElem?_set, List.getElem?_map, List.getElem?_range hi]
    by_cases e : f = i
    · subst e; simp [b.len, hi]
    · rw [if_neg e, List.getElem?_eq_getElem (by rw [b.len]; exact hi)]
      simp only [Option.map_some, Option.some.injEq]
      rw [← nth_get]
      by_cases r : RcQ q f i
      · rw [hall i r hi]; simp [r, Ne.symm e]
      · cases e2 : nth out i with
        | false => simp [r]
        | true => exact absurd (b.rc i hi e2) r
  · rw [List.getElem?_eq_none (by simp [b.len]; omega), List.getElem?_eq_none (by simp; omega)]
theorem inner_add {q : GConj} {f x i n0 : Nat} {m : MapB} {out2 : List Bool} {r : List Int} (hm : ClRes q f (keyT q f) m) (hf : f < q.Atoms.length) (hx : x < q.Atoms.length) (hlt : i < q.Atoms.length) (hbi : BInv q f m out2 ((x : Int) :: r) (some x)) (hxo : nth out2 x = true) (hlk : ∀ k, k < i → lnk q m x k = true → nth out2 k = true) (hms : 2 * out2.count false + r.length ≤ n0) (hl : lnk q m x i = true) (h0 : nth out2 i = false) :
    i + 1 ≤ q.Atoms.length ∧ BInv q f m (out2.set i true) ((x : Int) :: (r ++ [(i : Int)])) (some x) ∧ nth (out2.set i true) x = true ∧ (∀ k, k < i + 1 → lnk q m x k = true → nth (out2.set i true) k = true) ∧ 2 * (out2.set i true).count false + (r ++ [(i : Int)]).length ≤ n0 := by
  have hil : i < out2.length := by rw [hbi.len]; exact hlt
  have hc := cnt_set hil h0
  refine ⟨hlt, hbi.add hm hf hx hxo hlt hl h0, ?_, fun k hk hlk' => ?_, ?_⟩
  · rw [nth_setB (by rw [hbi.len]; exact hx)]; split <;> simp [hxo]
  · rw [nth_setB (by rw [hbi.len]; omega)]
    split
    · rfl
    · exact hlk k (by omega) hlk'
  · rw [List.length_append]; simp only [List.length_cons, List.length_nil]; omega
theorem inner_skip {q : GConj} {f x i n0 : Nat} {m : MapB} {out2 : List Bool} {r : List Int} (hlt : i < q.Atoms.length) (hbi : BInv q f m out2 ((x : Int) :: r) (some x)) (hxo : nth out2 x = true) (hlk : ∀ k, k < i → lnk q m x k = true → nth out2 k = true) (hms : 2 * out2.count false + r.length ≤ n0) (h : lnk q m x i = false ∨ nth out2 i = true) :
    i + 1 ≤ q.Atoms.length ∧ BInv q f m out2 ((x : Int) :: r) (some x) ∧ nth out2 x = true ∧ (∀ k, k < i + 1 → lnk q m x k = true → nth out2 k = true) ∧ 2 * out2.count false + r.length ≤ n0 := by
  refine ⟨hlt, hbi, hxo, fun k hk hl => ?_, hms⟩
  by_cases e : k = i
  · subst e
    rcases h with h | h
    · rw [h] at hl; cases hl
    · exact h
  · exact hlk k (by omega) hl
theorem attB_len (q : GConj) (f : Nat) : (attB q f).length = q.Atoms.length := by simp [attB]
theorem closureE_spec (q : GConj) (hq : validQ q = true) (w : Int) (vars : List Int) (hl : vars.length ≤ 1000000000) : Fun1 prog 77 [rConj.ty q, tV (.int .i64 w), tSl rInt vars] (tEx fun m : { m : MapB // ClRes q w vars m } => tMapI kvI rBool m.1) := Spec.ex (closure_spec q hq w vars hl)
theorem ty127X {A : Ty} {ho : ∀ h v, A.p h v → v.oneCell' = true} : TyOf prog 127 (rTyp A ho) := ⟨fun w => isAgg127 w, fun w => sizeOf127 w⟩
noncomputable def attL (q : GConj) : List (List Bool) := (List.range q.Atoms.length).map (attB q)
theorem attF_spec (q : GConj) (m : MapB) (b : Nat) (v : Value) (x : Nat) (hx : x < q.Atoms.length) (r : List Int) (hlx : (nth q.Atoms x).Terms.length ≤ 1000000000000) (t : Int) : Spec (X := Unit) prog 103 [tV (.int .i64 t), tPtr (rOM kvI rBool) (some m), tPtr rConj q, tAt b 0] ([stars [box b 36 rV v, que v ((x : Int) :: r)]]) (fun _ => tV (.bool (lnkT q m x t))) (fun _ => [stars [box b 36 rV v, que v ((x : Int) :: r)]]) := by
 refine Spec.enter func103 rfl rfl fun h0 w0 fr0 => ?_
 refine J_seq ?_
 refine K_lsub LSub.unstars ?_
 refine J_region (Ja rfl (JL_nil (J_seq ?_)))
 refine J_drawN [⟨0, [0], true⟩, ⟨1, [6], true⟩, ⟨2, [7], true⟩, ⟨3, [1, 8], true⟩, ⟨4, [0, 8], true⟩, ⟨5, [8, 9, 10], true⟩, ⟨6, [8, 11], true⟩, ⟨7, [8, 12], true⟩, ⟨8, [13], true⟩, ⟨9, [2, 14], true⟩, ⟨10, [14, 15], true⟩, ⟨17, [0, 14], true⟩, ⟨11, [3, 14], true⟩, ⟨12, [14, 17], true⟩, ⟨13, [14, 18], true⟩, ⟨14, [14, 16, 19], true⟩, ⟨15, [14, 20], true⟩, ⟨16, [14, 21], true⟩, ⟨18, [14, 22, 23], true⟩, ⟨19, [14, 24], true⟩, ⟨20, [25], true⟩] rfl (by kernel_rfl) rfl ?_
 refine JN_step rfl rfl rfl rfl (step_move Sr) ?_
 refine JN_step rfl rfl rfl rfl (step_geq Sr Sr) ?_
 refine JN_step rfl rfl rfl rfl (step_move Sr) ?_
 refine JN_stepG rfl rfl rfl rfl (Gd.plain Sr) rfl rfl (fun hw => step_load_ptr ty127M Sr) ?_
 refine JN_stepG rfl rfl rfl rfl (Gd.plain Sr) rfl rfl (fun hw => step_move Sr) ?_
 refine JN_stepG rfl rfl rfl rfl (Gd.plain Sr) rfl rfl (fun hw => step_lookupI (kv := kvI) (R := rBool) (z := false) (KeyT.int underlying3) underlying127 (fun w => zeroValue4 w) zr4 (Sub.w hw) (Sub.w hw)) ?_
 refine JN_stepG rfl rfl rfl rfl (Gd.plain Sr) rfl rfl (fun hw => step_not (Sub.w hw)) ?_
 refine JN_step rfl rfl rfl rfl (step_pick_and Sr Sr) ?_
 refine JN_step rfl rfl rfl rfl (step_move Sr) ?_
 refine JN_stepG rfl rfl rfl rfl (Gd.plain Sr) rfl rfl (fun hw => step_fieldAddr so25 Sr rfl) ?_
 refine JN_stepG rfl rfl rfl rfl (Gd.plain Sr) rfl rfl (fun hw => step_load_ptr ty23 (Sub.w hw)) ?_
 refine JN_stepG rfl rfl rfl rfl (Gd.plain Sr) rfl rfl (fun hw => step_move Sr) ?_
 refine JN_stepG rfl rfl rfl rfl (Gd.plain Sr) rfl rfl (fun hw => step_load_box ty36V Sr zS) ?_
 refine JN_stepG rfl rfl rfl rfl (Gd.plain Sr) rfl rfl (fun hw => step_index_que underlying36 ty3 (Sub.w hw) Sr zS) ?_
 refine JN_stepG rfl rfl rfl rfl (Gd.plain Sr) rfl rfl (fun hw => step_load_que ty3 (Sub.w hw) zS) ?_
 refine JN_stepG rfl rfl rfl rfl (Gd.plain Sr) rfl rfl (fun hw => step_indexAddr_sl (i := x) underlying23 ty38 (Sub.w hw) (Sub.w hw) (by rfl) (gb (by have hwq := hw; (try simp only [beqB_t, beqB_f, NF] at hwq); exact hx))) ?_
 refine JN_stepG rfl rfl rfl rfl (Gd.plain Sr) rfl rfl (fun hw => step_fieldAddr so38 (Sub.w hw) rfl) ?_
 refine JN_stepG rfl rfl rfl rfl (Gd.plain Sr) rfl rfl (fun hw => step_load_ptr ty36 (Sub.w hw)) ?_
 refine JN_stepG rfl rfl rfl rfl (Gd.plain Sr) rfl rfl (fun hw => step_call0 (ContainsI_spec _ _ hlx) ⟨(Sub.w hw), (Sub.w hw), trivial⟩ call54) ?_
 refine JN_step rfl rfl rfl rfl (step_pick_and Sr Sr) ?_
 refine JN_step rfl rfl rfl rfl (step_assign Sr) ?_
 refine JN_nil (J_ret ?_)
 refine K_lsub (LSub.stars LSub.rfl) ?_
 refine K_retv (rv := .tmp 5) rfl () (.tmp Sr) (Sub.bool ?_)
 simp [lnkT]
set_option maxHeartbeats 4000000 in
theorem attacks_spec (q : GConj) (hq : validQ q = true) (f : Nat) (hf : f < q.Atoms.length) : Fun1 prog 55 [rConj.ty q, tV (.int .i64 f)] (tSl rBool (attB q f)) := by
 refine Spec.enter func55 rfl rfl fun h0 w0 fr0 => ?_
 have hvb := valid_bounds hq
 have hvf := valid_atom hq hf
 refine Jr (Js rfl (step_box (R := rConj) Sr) (Ja rfl (JL_nil (Jr (Js rfl (step_fieldAddr so25 Sr rfl) ?_)))))
 refine Jl rfl ty23 Sr (Jm rfl ?_)
 refine Js rfl (step_indexAddr_sl (i := f) underlying23 ty38 Sr Sr (by rfl) (gb (by exact hf))) ?_
 refine Jl rfl ty38 Sr ?_
 refine Jx rfl (step_alloc (fun w => zeroValue38 w) zr38) fun v5 => ?_
 refine Ju (step_store_box ty38 Sr Sr zS) fun _ => ?_
 refine JL_freeze (t := 5) (Sel.take (Sel.none _)) Frz.box ?_
 refine JL_nil (J_seq ?_)
 refine J_draw [⟨0, [2], true⟩, ⟨1, [1], true⟩, ⟨2, [5], true⟩, ⟨3, [19], true⟩, ⟨4, [5], true⟩, ⟨5, [21], true⟩, ⟨6, [20, 22], true⟩, ⟨7, [17, 18, 23], true⟩, ⟨8, [], false⟩, ⟨9, [6, 24], false⟩] rfl (by kernel_rfl) ?_
 refine Mf rfl rfl (step_load_ptr ty25 Sr) (Mv rfl rfl (Mf rfl rfl (step_fieldAddr so38 Sr rfl) (Mf rfl rfl (step_load_ptr ty36 Sr) (Mf rfl rfl (step_fieldAddr so38 Sr rfl) (Mf rfl rfl (step_load_ptr ty3 Sr) ?_)))))
 refine Mf rfl rfl (step_slice_toI (n := (nth q.Atoms f).Key.toNat) underlying36 ty3 Sr Sr (by show (nth q.Atoms f).Key = (((nth q.Atoms f).Key.toNat : Nat) : Int); omega) (by show (nth q.Atoms f).Key.toNat ≤ (nth q.Atoms f).Terms.length; omega)) ?_
 refine Mf rfl rfl (step_call0 (closureE_spec q hq f (keyT q f) (by rw [List.length_take]; omega)) ⟨Sr, Sr, Sr, trivial⟩ call77) ?_
 refine JM_stepX rfl rfl rfl rfl (step_alloc (R := rV) (z := Value.map none) (fun w => zeroValue127 w) (fun _ => ⟨rfl, rfl⟩)) fun v6 => ?_
 refine JM_stepU rfl rfl rfl (step_store_boxR (R := rV) (R' := rTyp (tEx fun m : { m : MapB // ClRes q f (keyT q f) m } => tMapI kvI rBool m.1) tEx_one) (z := ()) ty127X rfl Sr Sr zS) fun _ => ?_
 refine JM_nil (J_seq ?_)
 refine K_freeze (t := 6) (Sel.take (Sel.none _)) Frz.box ?_
 refine K_exT (t := 6) (A := fun m : { m : MapB // ClRes q f (keyT q f) m } => tPtr (rOM kvI rBool) (some m.1)) ptr_ex fun mm => ?_
 refine J_region (Js rfl (step_fieldAddr so25 Sr rfl) (Jl rfl ty23 Sr (Js rfl (step_len_sl underlying23 Sr) ?_)))
 refine Jx rfl (step_make (n := q.Atoms.length) underlying35 el4 Sr Sr rfl zG zG) fun v28 => ?_
 refine Ja rfl (JL_nil (Jr (Jm rfl (Jm rfl ?_))))
 refine Js rfl (step_indexAddr_own (i := f) underlying35 ty4 Sr zS Sr (by rfl) (by rw [List.length_replicate]; exact hf)) ?_
 refine Ju (step_store_own ty4 Sr Sr zS (by rw [List.length_replicate]; exact hf)) fun _ => ?_
 refine JL_nil (J_seq (Jr (Jm rfl ?_)))
 refine Jx rfl (step_literal_own (ys := [_]) underlying36 el3 ⟨rfl, Sr, trivial⟩ rfl (by decide)) fun v33 => ?_
 refine Jx rfl (step_alloc (R := rV) (z := Value.slice none 0 0) (fun w => zeroValue36 w) (fun _ => ⟨rfl, rfl⟩)) fun b9 => ?_
 refine Ju (step_store_box (R := rV) ty36V Sr Sr zS) fun _ => ?_
 refine JL_nil (J_block ?_)
 refine J_loopL (σ := Nat × Value × List Bool × List Int) (fun ⟨b8, vo, out, w⟩ => BInv q f mm.1 out w none ∧ 2 * out.count false + w.length ≤ 1000) (fun ⟨b8, vo, out, w⟩ => upd (upd (upd (upd (upd (upd env0 1 (tV (.int .i64 f))) 2 (tPtr rConj q)) 4 (tV (.slice none 0 0))) 6 (tPtr (rOM kvI rBool) (some mm.1))) 7 (rV.ty v28)) 8 (tAt b8 0)) (fun ⟨b8, vo, out, w⟩ => [box b8 36 rV vo, que vo w, own 4 rBool v28 out]) (fun ⟨b8, vo, out, w⟩ => 2 * out.count false + w.length) (b9, v33, (List.replicate q.Atoms.length false).set f true, [(f : Int)]) ⟨BInv.start hf, by have := List.count_le_length (a := false) (l := (List.replicate q.Atoms.length false).set f true); simp only [List.length_set, List.length_replicate] at this; simp only [List.length_cons, List.length_nil]; omega⟩ (zU) (.r zS (.c zS (own_que (by simp)) (zL))) ?_
 rintro ⟨b8, vo, out, w⟩ ⟨hbi, hbd⟩
 refine J_seq (Jr ?_)
 refine Js rfl (step_load_box ty36V Sr zS) ?_
 refine Js rfl (step_len_que underlying36 Sr zS) ?_
 refine Js rfl (step_gtr Sr Sr) (JL_nil ?_)
 refine J_cond Sr (fun h36 => ?_) (fun h36 => ?_)
 ·
  try simp only [NF] at h36
  obtain ⟨y, r0, rfl⟩ : ∃ y r0, w = y :: r0 := by cases w with | nil => simp at h36 | cons a b => exact ⟨a, b, rfl⟩
  obtain ⟨x, rfl, hx, hxo0⟩ := hbi.wok y (by simp)
  refine J_skip (J_seq (J_block (Jr (Js rfl (step_fieldAddr so25 Sr rfl) (Jl rfl ty23 Sr ?_)))))
  refine Js rfl (step_len_sl underlying23 Sr) (Jm rfl (JL_nil (J_block ?_)))
  refine J_loopL (σ := Nat × Value × List Bool × List Int) (fun ⟨i, vw, out2, r⟩ => i ≤ q.Atoms.length ∧ BInv q f mm.1 out2 ((x : Int) :: r) (some x) ∧ nth out2 x = true ∧ (∀ k, k < i → lnk q mm.1 x k = true → nth out2 k = true) ∧ 2 * out2.count false + r.length ≤ 2 * out.count false + r0.length) (fun ⟨i, vw, out2, r⟩ => upd (upd (upd (upd (upd (upd (upd (upd (upd env0 1 (tV (.int .i64 f))) 2 (tPtr rConj q)) 4 (tV (.slice none 0 0))) 6 (tPtr (rOM kvI rBool) (some mm.1))) 7 (rV.ty v28)) 8 (tAt b8 0)) 40 (tSl rAtom q.Atoms)) 41 (tV (.int .i64 q.Atoms.length))) 42 (tV (.int .i64 i))) (fun ⟨i, vw, out2, r⟩ => [box b8 36 rV vw, que vw ((x : Int) :: r), own 4 rBool v28 out2]) (fun ⟨i, vw, out2, r⟩ => q.Atoms.length - i) (0, vo, out, r0) ⟨by omega, hbi.open x, hxo0, fun k hk => by omega, Nat.le_refl _⟩ (zU) (zL) ?_
  rintro ⟨i, vw, out2, r⟩ ⟨hi, hbi, hxo, hlk, hms⟩
  refine Jr (Js rfl (step_lss Sr Sr) (JL_nil (J_seq ?_)))
  refine J_cond Sr (fun h43 => ?_) (fun h43 => ?_)
  ·
   try simp only [NF] at h43
   have hlt : i < q.Atoms.length := by omega
   refine J_skip (J_seq (J_block (Jr (Jm rfl ?_))))
   refine Js rfl (step_indexAddr_sl  underlying23 ty38 Sr Sr rfl (gb (by exact hlt))) ?_
   refine Jl rfl ty38 Sr ?_
   refine Jx rfl (step_alloc (fun w => zeroValue38 w) zr38) fun v10 => ?_
   refine Ja rfl ?_
   refine Ju (step_store_box ty38 Sr Sr zS) fun _ => ?_
   refine JL_freeze (t := 10) (Sel.take (Sel.none _)) Frz.box ?_
   refine JL_nil (Jr (Js rfl (step_fieldAddr so38 Sr rfl) (Jl rfl ty36 Sr (Js rfl (step_makeFunc (As := [_, _, _]) ⟨Sr, Sr, Sr, trivial⟩) ?_))))
   refine JL_lsub (LSub.trans (B := [box b8 36 rV vw, que vw ((x : Int) :: r), own 4 rBool v28 out2]) (zL) (LSub.stars (A := [box b8 36 rV vw, que vw ((x : Int) :: r)]) (L' := [own 4 rBool v28 out2]) LSub.rfl)) ?_
   refine Jx rfl (step_call (Sel.take (Sel.none _)) (ContainsFuncM_spec (nth q.Atoms i).Terms (by have := valid_atom hq hlt; omega) 103 [tPtr (rOM kvI rBool) (some mm.1), tPtr rConj q, tAt b8 0] (stars [box b8 36 rV vw, que vw ((x : Int) :: r)]) (fun t => lnkT q mm.1 x t) (fun t _ => attF_spec q mm.1 b8 vw x hx r (by have := valid_atom hq hx; omega) t) call103) ⟨Sr, Sr, trivial⟩ call63) fun v50 => ?_
   refine Ja rfl (JL_nil (J_seq ?_))
   refine K_lsub LSub.unstars ?_
   refine J_region (Jm rfl (Jm rfl ?_))
   refine Jk rfl Sr rfl (step_move Sr) ?_
   refine Jk rfl Sr rfl (step_move Sr) ?_
   refine Jg rfl Sr rfl (fun hw => step_indexAddr_own (i := i) underlying35 ty4 (Sub.w hw) zS (Sub.w hw) (by rfl) (by have hwq := hw; (try simp only [beqB_t, beqB_f, NF] at hwq); rw [hbi.len]; exact hlt)) ?_
   refine Jg rfl Sr rfl (fun hw => step_load_own ty4 (Sub.w hw) zS (gb (by have hwq := hw; (try simp only [beqB_t, beqB_f, NF] at hwq); rw [hbi.len]; exact hlt))) ?_
   refine Jg rfl Sr rfl (fun hw => step_not (Sub.w hw)) (Js rfl (step_pick_and Sr Sr) (JL_nil ?_))
   refine J_cond Sr (fun h58 => ?_) (fun h58 => ?_)
   ·
    try simp only [NF] at h58
    refine Jr (Jm rfl (Jm rfl ?_))
    refine Js rfl (step_indexAddr_own (i := i) underlying35 ty4 Sr zS Sr (by rfl) (by rw [hbi.len]; exact hlt)) ?_
    refine Ju (step_store_own ty4 Sr Sr zS (by rw [hbi.len]; exact hlt)) fun _ => ?_
    refine JL_nil (J_region ?_)
    refine Js rfl (step_load_box ty36V Sr zS) ?_
    refine Jm rfl ?_
    refine Js rfl (step_literal (ys := [_]) underlying36 el3 ⟨rfl, Sr, trivial⟩ rfl (by decide)) ?_
    refine Jx rfl (step_append_que underlying36 rfl el3 Sr Sr (by simp) zS (by simp only [List.length_cons, List.length_nil] at hbd ⊢; omega)) fun v65 => ?_
    refine Ju (step_store_box (R := rV) ty36V Sr Sr zS) fun _ => ?_
    refine JL_nil (J_region (Js rfl (step_add Sr Sr z6) (Jm rfl (JL_nil ?_))))
    refine K_againL (σ := Nat × Value × List Bool × List Int) (s := (i, vw, out2, r)) (i + 1, v65, out2.set i true, r ++ [(i : Int)]) zO (inner_add mm.2 hf hx hlt hbi hxo hlk hms h58.1 h58.2) (zU) (LSub.rfl)
   try simp only [NF] at h58
   refine J_skip (J_region (Js rfl (step_add Sr Sr z6) (Jm rfl (JL_nil ?_))))
   refine K_againL (σ := Nat × Value × List Bool × List Int) (s := (i, vw, out2, r)) (i + 1, vw, out2, r) zO (inner_skip hlt hbi hxo hlk hms h58) (zU) (LSub.rfl)
  try simp only [NF] at h43
  refine J_exit (J_seq (Jr ?_))
  refine Js rfl (step_load_box ty36V Sr zS) ?_
  refine JL_nil (J_region ?_)
  refine Jx rfl (step_alloc (R := rV) (z := Value.slice none 0 0) (fun w => zeroValue36 w) (fun _ => ⟨rfl, rfl⟩)) fun b9 => ?_
  refine Ju (step_store_box (R := rV) ty36V Sr Sr zS) fun _ => ?_
  refine JL_nil (J_region ?_)
  refine Js rfl (step_load_box ty36V Sr zS) ?_
  refine Jx rfl (step_slice_que underlying36 ty3 Sr Sr zS) fun v38 => ?_
  refine Ju (step_store_box (R := rV) ty36V Sr Sr zS) fun _ => ?_
  refine JL_nil ?_
  refine K_lsub (L' := [box b8 36 rV vw, box b9 36 rV v38, que v38 r, own 4 rBool v28 out2]) (zL) ?_
  refine K_drop (Sel.take (Sel.none _)) ?_
  refine K_againL (σ := Nat × Value × List Bool × List Int) (s := (b8, vo, out, ((x : Int) :: r0))) (b9, v38, out2, r) (by show 2 * out2.count false + r.length < _; simp only [List.length_cons] at hms ⊢; omega) ⟨hbi.next (fun k hk => hlk k zG), by simp only [List.length_cons] at hbd; omega⟩ (zU) (zL)
 try simp only [NF] at h36
 obtain rfl : w = [] := by cases w with | nil => rfl | cons a b => (exfalso; simp at h36; omega)
 refine J_exit (Jr (Jm rfl (Jm rfl ?_)))
 refine Js rfl (step_indexAddr_own (i := f) underlying35 ty4 Sr zS Sr (by rfl) (by rw [hbi.len]; exact hf)) ?_
 refine Ju (step_store_own ty4 Sr Sr zS (by rw [hbi.len]; exact hf)) fun _ => ?_
 refine JL_nil (Jr (Jm rfl (Ja rfl (JL_nil (J_ret ?_)))))
 refine K_lsub (L' := [own 4 rBool v28 (out.set f false), box b8 36 rV vo, que vo []]) (zL) ?_
 refine K_ret1' (rv := .tmp 4) rfl () (Sel.all _) (.tmp Sr) (Frz.own' (hbi.res mm.2 hf))
open Go Go.Proofs Go.Proofs.Tryz
theorem K_subT {C : Cx} {k : Act → World → Prop} {E : Env} {L : List SP} {t : Nat} {A : Ty} (hE : Sub (E t) A) (hk : K C k (upd E t A) L) : K C k E L :=
  fun a w ⟨n, ds, h, m, l, sp, st, fr⟩ => by
  refine hk a w ⟨n, ds, h, m, l, sp, st, fun u => ?_⟩
  by_cases e : u = t
  · subst e; rw [upd_same]; exact hE _ _ (fr u)
  · rw [upd_other _ _ e]; exact fr u
theorem ty99T {A : Ty} {ho : ∀ h v, A.p h v → v.oneCell' = true} : TyOf prog 99 (rTyp A ho) := ⟨fun w => isAgg99 w, fun w => sizeOf99 w⟩
theorem clo_one {f : Nat} {As : List Ty} : ∀ h v, (tClo f As).p h v → v.oneCell' = true := by rintro h v ⟨c, rfl, _⟩; rfl
abbrev errV (q : GConj) : Int := if validQ q = true then 0 else 1
abbrev cycA (v : Value) (l : List (List Bool)) (b : Nat) : List Ty := [tPtr rV v, tPtr (rSl (rSl rBool)) l, tAt b 0]
abbrev cycC (b : Nat) (v : Value) (l : List (List Bool)) : SP := box b 99 (rTyp (tClo 56 (cycA v l b)) clo_one) ()
def CycS (l : List (List Bool)) (b : Nat) (v : Value) (n f : Nat) (st : List Int) : Prop := Spec (X := Unit) prog 56 ([tV (.int .i64 f)] ++ cycA v l b) [cycC b v l, own 3 rInt v st] (fun _ => tV (.bool (cyc l n f st).1)) (fun _ => [cycC b v l, own 3 rInt v (cyc l n f st).2])
theorem enum_drop {α : Type} [Inhabited α] {l : List α} {i : Nat} (h : i < l.length) : enumL (l.drop i) i = (i, nth l i) :: enumL (l.drop (i + 1)) (i + 1) := by
  rw [dropB h]; rfl
/-- What is left of a row. -/
structure RowI (l : List (List Bool)) (n f i : Nat) (st st2 : List Int) : Prop where
  le : i ≤ (nth l f).length
  eq : cycRow (cyc l n) (enumL (nth l f) 0) (st.set f 1) = cycRow (cyc l n) (enumL ((nth l f).drop i) i) st2
  z : zeros st2 < n
  len : st2.length = st.length
theorem RowI.start {l : List (List Bool)} {n f : Nat} {st : List Int} (hf : f < st.length) (hz : zeros st < n + 1) (h0 : nth st f = 0) : RowI l n f 0 st (st.set f 1) :=
  ⟨Nat.zero_le _, by rw [List.drop_zero], by have := zeros_set (x := 1) hf h0 (by decide); omega, List.length_set⟩
theorem RowI.skip {l : List (List Bool)} {n f i : Nat} {st st2 : List Int} (r : RowI l n f i st st2) (hi : i < (nth l f).length) (h : nth (nth l f) i = false) : RowI l n f (i + 1) st st2 :=
  ⟨hi, by rw [r.eq, enum_drop hi, h]; simp only [cycRow]; rw [if_neg (by decide)], r.z, r.len⟩
theorem RowI.go {l : List (List Bool)} {n f i : Nat} {st st2 : List Int} (r : RowI l n f i st st2) (hi : i < (nth l f).length) (h : nth (nth l f) i = true) (hc : (cyc l n i st2).1 = false) : RowI l n f (i + 1) st (cyc l n i st2).2 :=
  ⟨hi, by rw [r.eq, enum_drop hi, h]; simp only [cycRow, if_true]; rw [if_neg (by rw [hc]; decide)], Nat.lt_of_le_of_lt (cyc_zeros l n i st2).1 r.z, ((cyc_zeros l n i st2).2).trans r.len⟩
theorem RowI.hit {l : List (List Bool)} {n f i : Nat} {st st2 : List Int} (r : RowI l n f i st st2) (hi : i < (nth l f).length) (h0 : nth st f = 0) (h : nth (nth l f) i = true) (hc : (cyc l n i st2).1 = true) : cyc l (n + 1) f st = (true, (cyc l n i st2).2) := by
  have : cycRow (cyc l n) (enumL (nth l f) 0) (st.set f 1) = (true, (cyc l n i st2).2) := by rw [r.eq, enum_drop hi, h]; simp only [cycRow, if_true]; rw [if_pos hc]
  simp only [cyc]
  rw [if_neg (by simpa using h0), this]; simp
theorem RowI.fin {l : List (List Bool)} {n f : Nat} {st st2 : List Int} (r : RowI l n f (nth l f).length st st2) (h0 : nth st f = 0) : cyc l (n + 1) f st = (false, st2.set f 2) := by
  have : cycRow (cyc l n) (enumL (nth l f) 0) (st.set f 1) = (false, st2) := by rw [r.eq, List.drop_of_length_le (Nat.le_refl _)]; rfl
  simp only [cyc]
  rw [if_neg (by simpa using h0), this]; simp
theorem cyc_ne {l : List (List Bool)} {n f : Nat} {st : List Int} (h : nth st f ≠ 0) : cyc l (n + 1) f st = (decide (nth st f = 1), st) := by
  simp only [cyc]; rw [if_pos h]
theorem Attacks_spec (q : GConj) : Fun1 prog 17 [rConj.ty q] (tTup [tSl (rSl rBool) (if validQ q = true then attL q else []), tV (.int .i64 (errV q))]) := by
 refine Spec.enter func17 rfl rfl fun h0 w0 fr0 => ?_
 refine Jr (Js rfl (step_box (R := rConj) Sr) (Ja rfl (Ja rfl (JL_nil (J_seq ?_)))))
 refine Jr (Jl rfl ty25 Sr (Js rfl (step_call0 (attackValid_spec q) ⟨Sr, trivial⟩ call16) (Js rfl (step_not Sr) (JL_nil ?_))))
 refine J_cond Sr (fun h8 => ?_) (fun h8 => ?_)
 ·
  try simp only [NF] at h8
  have hv : ¬ validQ q = true := by simp [h8]
  refine Jr (Ja rfl (Ja rfl (JL_nil (J_ret ?_))))
  refine K_ret2' (rv := .tmp 2) (rv' := .tmp 3) rfl () (Sel.all _) (.tmp Sr) (.tmp Sr) (Frz.sub ?_) (Frz.sub ?_) Sr
  ·
   rw [if_neg hv]; exact Sub.nilsl
  rw [errV, if_neg hv]; exact Sr
 try simp only [NF] at h8
 have hq : validQ q = true := by simpa using h8
 have hvb := valid_bounds hq
 refine J_skip (Jr (Ja rfl (JL_nil ?_)))
 refine K_lsub (LSub.nilown (e := 35) (R := rSl rBool)) ?_
 refine J_seq (Jr (Js rfl (step_fieldAddr so25 Sr rfl) (Jl rfl ty23 Sr (Js rfl (step_len_sl underlying23 Sr) (Jm rfl ?_)))))
 refine JL_nil (J_block ?_)
 refine J_loopL (σ := Nat × Value) (fun ⟨i, vo⟩ => i ≤ q.Atoms.length) (fun ⟨i, vo⟩ => upd (upd (upd (upd (upd (upd env0 1 (tPtr rConj q)) 2 (tV (.slice none 0 0))) 3 (tV (.int .i64 0))) 4 (rV.ty vo)) 11 (tV (.int .i64 q.Atoms.length))) 12 (tV (.int .i64 i))) (fun ⟨i, vo⟩ => [own 35 (rSl rBool) vo ((List.range i).map (attB q))]) (fun ⟨i, vo⟩ => q.Atoms.length - i) (0, .slice none 0 0) (by simp) (.u (.u (SubE.upd (Sub.rV rfl) (zU)))) (.c zS (own_eq (by simp)) (LSub.nil)) ?_
 rintro ⟨i, vo⟩ hi
 try dsimp only at hi
 refine Jr (Js rfl (step_lss Sr Sr) (JL_nil (J_seq ?_)))
 refine J_cond Sr (fun h13 => ?_) (fun h13 => ?_)
 ·
  try simp only [NF] at h13
  have hlt : i < q.Atoms.length := by omega
  refine J_skip (J_seq (J_block (Jr (Jm rfl (Ja rfl ?_)))))
  refine JL_nil (J_region (Jm rfl (Jl rfl ty25 Sr (Jm rfl (Js rfl (step_call0 (attacks_spec q hq i hlt) ⟨Sr, Sr, trivial⟩ call55) ?_)))))
  refine Js rfl (step_literal (ys := [_]) underlying29 el35 ⟨rfl, Sr, trivial⟩ rfl (by decide)) ?_
  refine Jx rfl (step_append underlying29 el35 Sr Sr zS (by simp; omega) (by simp; omega)) fun v20 => ?_
  refine Ja rfl (JL_nil (J_region (Js rfl (step_add Sr Sr z6) (Jm rfl (JL_nil ?_)))))
  refine K_againL (σ := Nat × Value) (s := (i, vo)) (i + 1, v20) zO hlt (zU) (.c zS (own_eq (by rw [List.range_succ]; simp)) (LSub.nil))
 try simp only [NF] at h13
 refine J_exit (Jr (Jm rfl (Ja rfl (Ja rfl (JL_nil ?_)))))
 refine J_ret ?_
 refine K_ret2' (rv := .tmp 2) (rv' := .tmp 3) rfl () (Sel.all _) (.tmp Sr) (.tmp Sr) (Frz.own' (by rw [if_pos hq, show i = q.Atoms.length by omega]; rfl)) (Frz.sub ?_) Sr
 rw [errV, if_pos hq]; exact Sr
set_option maxHeartbeats 2000000 in
theorem cycleS_spec (l : List (List Bool)) (b : Nat) (v : Value) (n : Nat) (IH : ∀ (g : Nat) (st : List Int), g < l.length → st.length = l.length → zeros st < n → CycS l b v n g st) (f : Nat) (st : List Int) (hf : f < l.length) (hs : st.length = l.length) (hz : zeros st < n + 1) (hrl : (nth l f).length ≤ l.length) (hl1 : l.length ≤ 1000) : CycS l b v (n + 1) f st := by
 refine Spec.enter func56 rfl rfl fun h0 w0 fr0 => ?_
 refine Jr (Ja rfl (JL_nil (J_seq (Jr (Jl rfl ty36V Sr ?_)))))
 refine Jm rfl ?_
 refine Js rfl (step_indexAddr_own (i := f) underlying36 ty3 Sr zS Sr (by rfl) (by rw [hs]; exact hf)) ?_
 refine Js rfl (step_load_own ty3 Sr zS (gb (by rw [hs]; exact hf))) ?_
 refine Js rfl (step_neq Sr Sr) (JL_nil ?_)
 refine J_cond Sr (fun h12 => ?_) (fun h12 => ?_)
 ·
  try simp only [NF] at h12
  have hne : nth st f ≠ 0 := by simpa using h12
  refine Jr (Jl rfl ty36V Sr (Jm rfl ?_))
  refine Js rfl (step_indexAddr_own (i := f) underlying36 ty3 Sr zS Sr (by rfl) (by rw [hs]; exact hf)) ?_
  refine Js rfl (step_load_own ty3 Sr zS (gb (by rw [hs]; exact hf))) ?_
  refine Js rfl (step_eql Sr Sr) (Ja rfl (JL_nil (J_ret ?_)))
  have hcy := cyc_ne (l := l) (n := n) hne
  refine K_lsub (L' := [cycC b v l, own 3 rInt v (cyc l (n + 1) f st).2]) (.r zS (.c zS (own_eq (by rw [hcy])) (LSub.nil))) ?_
  refine K_retv (rv := .tmp 5) rfl () (.tmp Sr) (Sub.bool ?_)
  rw [hcy]
 try simp only [NF] at h12
 have h00 : nth st f = 0 := by simpa using h12
 refine J_skip (Jr (Jl rfl ty36V Sr (Jm rfl ?_)))
 refine Js rfl (step_indexAddr_own (i := f) underlying36 ty3 Sr zS Sr (by rfl) (by rw [hs]; exact hf)) ?_
 refine Ju (step_store_own ty3 Sr Sr zS (by rw [hs]; exact hf)) fun _ => ?_
 refine JL_nil (J_seq (Jr (Jl rfl ty29 Sr (Jm rfl ?_))))
 refine Js rfl (step_indexAddr_sl (i := f) underlying29 ty35 Sr Sr (by rfl) (gb (by exact hf))) ?_
 refine Jl rfl ty35 Sr (Js rfl (step_len_sl underlying35 Sr) (Jm rfl (JL_nil (J_block ?_))))
 refine J_loopL (σ := Nat × List Int) (fun ⟨i, st2⟩ => RowI l n f i st st2) (fun ⟨i, st2⟩ => upd (upd (upd (upd (upd (upd env0 0 (tV (.int .i64 f))) 1 (tPtr rV v)) 3 (tAt b 0)) 24 (tSl rBool (nth l f))) 25 (tV (.int .i64 (nth l f).length))) 26 (tV (.int .i64 i))) (fun ⟨i, st2⟩ => [cycC b v l, own 3 rInt v st2]) (fun ⟨i, st2⟩ => (nth l f).length - i) (0, st.set f 1) (RowI.start (by rw [hs]; exact hf) hz h00) (zU) (zL) ?_
 rintro ⟨i, st2⟩ hr
 try dsimp only at hr
 refine Jr (Js rfl (step_lss Sr Sr) (JL_nil (J_seq ?_)))
 refine J_cond Sr (fun h27 => ?_) (fun h27 => ?_)
 ·
  try simp only [NF] at h27
  have hlt : i < (nth l f).length := by omega
  refine J_skip (J_seq (J_block (Jr (Jm rfl ?_))))
  refine Js rfl (step_indexAddr_sl  underlying35 ty4 Sr Sr rfl (gb (by exact hlt))) ?_
  refine Jl rfl ty4 Sr (Ja rfl (Ja rfl (JL_nil (Jr (Jm rfl ?_)))))
  refine Jm rfl ?_
  refine Jk rfl Sr rfl (step_load_box (R := rTyp (tClo 56 (cycA v l b)) clo_one) ty99T Sr zS) ?_
  refine Jk rfl Sr rfl (step_move Sr) ?_
  refine JL_stepGX (tV (.bool false)) rfl rfl rfl (Gd.plain Sr) rfl rfl (fun hw => step_callv (aT := [_]) (Sub.w hw) (Sel.all _) (IH i st2 zG (by rw [hr.len]; exact hs) hr.z) ⟨Sub.w hw, trivial⟩ call56) (fun hw v35 => ?_) (fun hw => ?_)
  ·
   skip
   refine Js rfl (step_pick_and Sr Sr) (JL_nil ?_)
   refine J_cond Sr (fun h36 => ?_) (fun h36 => ?_)
   ·
    try simp only [NF] at h36
    refine Jr (Ja rfl (JL_nil (J_ret ?_)))
    have hcy := hr.hit hlt h00 (by simpa using hw) h36.2
    refine K_lsub (L' := [cycC b v l, own 3 rInt v (cyc l (n + 1) f st).2]) (.r zS (.c zS (own_eq (by rw [hcy])) (LSub.nil))) ?_
    refine K_retv (rv := .tmp 5) rfl () (.tmp Sr) (Sub.bool ?_)
    rw [hcy]
   try simp only [NF] at h36
   refine J_skip (J_region (Js rfl (step_add Sr Sr z6) (Jm rfl (JL_nil ?_))))
   refine K_againL (σ := Nat × List Int) (s := (i, st2)) (i + 1, (cyc l n i st2).2) zO (hr.go hlt (by simpa using hw) (h36.resolve_left (by rw [show nth (nth l f) i = true by simpa using hw]; decide))) (zU) (zL)
  skip
  refine Js rfl (step_pick_and Sr Sr) (JL_nil ?_)
  refine J_cond Sr (fun h36 => ?_) (fun h36 => ?_)
  ·
   try simp only [NF] at h36
   first | contradiction | omega | (simp_all; done)
  try simp only [NF] at h36
  refine J_skip (J_region (Js rfl (step_add Sr Sr z6) (Jm rfl (JL_nil ?_))))
  refine K_againL (σ := Nat × List Int) (s := (i, st2)) (i + 1, st2) zO (hr.skip hlt (by simpa using hw)) (zU) (zL)
 try simp only [NF] at h27
 refine J_exit (Jr (Jl rfl ty36V Sr (Jm rfl ?_)))
 refine Js rfl (step_indexAddr_own (i := f) underlying36 ty3 Sr zS Sr (by rfl) (by rw [hr.len, hs]; exact hf)) ?_
 refine Ju (step_store_own ty3 Sr Sr zS (by rw [hr.len, hs]; exact hf)) fun _ => ?_
 refine JL_nil (Jr (Ja rfl (JL_nil (J_ret ?_))))
 have hcy := RowI.fin (show RowI l n f (nth l f).length st st2 by have := hr.le; rw [show (nth l f).length = i by omega]; exact hr) h00
 refine K_lsub (L' := [cycC b v l, own 3 rInt v (cyc l (n + 1) f st).2]) (.r zS (.c zS (own_eq (by rw [hcy])) (LSub.nil))) ?_
 refine K_retv (rv := .tmp 5) rfl () (.tmp Sr) (Sub.bool ?_)
 rw [hcy]
theorem cycle_spec (l : List (List Bool)) (hll : ∀ f, f < l.length → (nth l f).length ≤ l.length) (hl1 : l.length ≤ 1000) (b : Nat) (v : Value) : ∀ (n f : Nat) (st : List Int), f < l.length → st.length = l.length → zeros st < n → CycS l b v n f st
  | 0, _, _, _, _, h => absurd h (Nat.not_lt_zero _)
  | n + 1, f, st, hf, hs, hz => cycleS_spec l b v n (fun g st hg hs hz => cycle_spec l hll hl1 b v n g st hg hs hz) f st hf hs hz (hll f hf) hl1
noncomputable def firstM (q : GConj) : Bool := !(cycAll (attL q) (q.Atoms.length + 1) (List.range q.Atoms.length) (List.replicate q.Atoms.length 0)).1
theorem attL_len (q : GConj) : (attL q).length = q.Atoms.length := by simp [attL]
theorem attL_nth (q : GConj) {f : Nat} (h : f < q.Atoms.length) : nth (attL q) f = attB q f := by
  rw [nth_get (by rw [attL_len]; exact h)]; simp [attL]
structure AllI (q : GConj) (i : Nat) (st : List Int) : Prop where
  le : i ≤ q.Atoms.length
  eq : cycAll (attL q) (q.Atoms.length + 1) (List.range q.Atoms.length) (List.replicate q.Atoms.length 0) = cycAll (attL q) (q.Atoms.length + 1) (List.range' i (q.Atoms.length - i)) st
  z : zeros st < q.Atoms.length + 1
  len : st.length = q.Atoms.length
theorem AllI.start (q : GConj) : AllI q 0 (List.replicate q.Atoms.length 0) :=
  ⟨Nat.zero_le _, by rw [List.range_eq_range', Nat.sub_zero], by have := List.count_le_length (a := (0 : Int)) (l := List.replicate q.Atoms.length 0); simp only [List.length_replicate] at this; show List.count 0 _ < _; omega, by simp⟩
theorem AllI.go {q : GConj} {i : Nat} {st : List Int} (a : AllI q i st) (hi : i < q.Atoms.length) (hc : (cyc (attL q) (q.Atoms.length + 1) i st).1 = false) : AllI q (i + 1) (cyc (attL q) (q.Atoms.length + 1) i st).2 := by
  refine ⟨hi, ?_, Nat.lt_of_le_of_lt (cyc_zeros _ _ i st).1 a.z, (cyc_zeros _ _ i st).2.trans a.len⟩
  rw [a.eq, show q.Atoms.length - i = (q.Atoms.length - (i + 1)) + 1 by omega, List.range'_succ]
  simp only [cycAll]
  rw [if_neg (by rw [hc]; decide)]
theorem AllI.hit {q : GConj} {i : Nat} {st : List Int} (a : AllI q i st) (hi : i < q.Atoms.length) (hc : (cyc (attL q) (q.Atoms.length + 1) i st).1 = true) : firstM q = false := by
  unfold firstM
  rw [a.eq, show q.Atoms.length - i = (q.Atoms.length - (i + 1)) + 1 by omega, List.range'_succ]
  simp only [cycAll]
  rw [if_pos hc]; rfl
theorem AllI.fin {q : GConj} {st : List Int} (a : AllI q q.Atoms.length st) : firstM q = true := by
  unfold firstM
  rw [a.eq, Nat.sub_self]; rfl
set_option maxHeartbeats 2000000 in
theorem FirstOrder_spec (q : GConj) : Fun1 prog 18 [rConj.ty q] (tTup [tV (.bool (validQ q && firstM q)), tV (.int .i64 (errV q))]) := by
 refine Spec.enter func18 rfl rfl fun h0 w0 fr0 => ?_
 refine Jr (Js rfl (step_box (R := rConj) Sr) (Ja rfl (Ja rfl (JL_nil (Jr ?_)))))
 refine Jl rfl ty25 Sr (Js rfl (step_call0 (Attacks_spec q) ⟨Sr, trivial⟩ call17) (Jm rfl (Js rfl (step_extract Sr rfl) (Js rfl (step_extract Sr rfl) ?_))))
 refine Jx rfl (step_alloc (fun w => zeroValue29 w) zr29) fun v4 => ?_
 refine Ju (step_store_box ty29 Sr Sr zS) fun _ => ?_
 refine JL_freeze (t := 4) (Sel.take (Sel.none _)) Frz.box ?_
 refine Ja rfl (JL_nil (J_seq (Jr (Jm rfl (Js rfl (step_neq Sr Sr) ?_)))))
 refine JL_nil ?_
 refine J_cond Sr (fun h15 => ?_) (fun h15 => ?_)
 ·
  try simp only [NF] at h15
  have hv : ¬ validQ q = true := by intro h; rw [errV, if_pos h] at h15; exact h15 rfl
  refine Jr (Jm rfl (Ja rfl (Ja rfl (JL_nil (J_ret ?_)))))
  refine K_ret2' (rv := .tmp 2) (rv' := .tmp 3) rfl () (Sel.all _) (.tmp Sr) (.tmp Sr) (Frz.sub ?_) (Frz.sub ?_) Sr
  ·
   refine Sub.bool ?_
   simp [hv]
  exact Sr
 try simp only [NF] at h15
 have hq : validQ q = true := by cases h : validQ q with | true => rfl | false => (exfalso; simp [errV, h] at h15)
 have hvb := valid_bounds hq
 have hal := attL_len q
 refine J_skip (J_seq ?_)
 refine K_subT (t := 4) (A := tPtr (rSl (rSl rBool)) (attL q)) (by rw [if_pos hq]; exact Sr) ?_
 refine J_region (Jl rfl ty29 Sr (Js rfl (step_len_sl underlying29 Sr) ?_))
 refine Jx rfl (step_make (n := q.Atoms.length) underlying36 el3 Sr Sr (by show ((attL q).length : Int) = _; omega) zG zG) fun v19 => ?_
 refine Jx rfl (step_alloc (R := rV) (z := Value.slice none 0 0) (fun w => zeroValue36 w) (fun _ => ⟨rfl, rfl⟩)) fun b6 => ?_
 refine Ju (step_store_box (R := rV) ty36V Sr Sr zS) fun _ => ?_
 refine JL_nil (J_seq ?_)
 refine K_freeze (t := 6) (Sel.take (Sel.none _)) Frz.box ?_
 refine J_region ?_
 refine Jx rfl (step_alloc (R := rV) (fun w => zeroValue99 w) (fun _ => ⟨rfl, rfl⟩)) fun b7 => ?_
 refine JL_nil (Jr (Js rfl (step_makeFunc (As := [_, _, _]) ⟨Sr, Sr, Sr, trivial⟩) ?_))
 refine Ju (step_store_boxR (R := rV) (R' := rTyp (tClo 56 (cycA v19 (attL q) b7)) clo_one) (z := ()) ty99T rfl Sr Sr zS) fun _ => ?_
 refine JL_nil (J_seq (Jr (Jl rfl ty29 Sr (Js rfl (step_len_sl underlying29 Sr) (Jm rfl ?_)))))
 refine JL_nil (J_block ?_)
 refine J_loopL (σ := Nat × List Int) (fun ⟨i, st⟩ => AllI q i st) (fun ⟨i, st⟩ => upd (upd (upd env0 7 (tAt b7 0)) 22 (tV (.int .i64 (attL q).length))) 23 (tV (.int .i64 i))) (fun ⟨i, st⟩ => [cycC b7 v19 (attL q), own 3 rInt v19 st]) (fun ⟨i, st⟩ => q.Atoms.length - i) (0, List.replicate q.Atoms.length 0) (AllI.start q) (zU) (zL) ?_
 rintro ⟨i, st⟩ ha
 try dsimp only at ha
 refine Jr (Js rfl (step_lss Sr Sr) (JL_nil (J_seq ?_)))
 refine J_cond Sr (fun h24 => ?_) (fun h24 => ?_)
 ·
  try simp only [NF] at h24
  have hlt : i < q.Atoms.length := by omega
  refine J_skip (J_seq (J_block (Jr (Jm rfl (Ja rfl ?_)))))
  refine JL_nil (Jr ?_)
  refine Js rfl (step_load_box (R := rTyp (tClo 56 (cycA v19 (attL q) b7)) clo_one) ty99T Sr zS) ?_
  refine Jm rfl ?_
  refine Jx rfl (step_callv (aT := [_]) Sr (Sel.all _) (cycle_spec (attL q) (fun f hf => by rw [hal] at hf; rw [attL_nth q hf, attB_len]; omega) zG b7 v19 (q.Atoms.length + 1) i st zG (by rw [ha.len]; omega) ha.z) ⟨Sr, trivial⟩ call56) fun v28 => ?_
  refine JL_nil ?_
  refine J_cond Sr (fun h28 => ?_) (fun h28 => ?_)
  ·
   try simp only [NF] at h28
   refine Jr (Ja rfl (Ja rfl (JL_nil (J_ret ?_))))
   refine K_ret2' (rv := .tmp 2) (rv' := .tmp 3) rfl () (Sel.all _) (.tmp Sr) (.tmp Sr) (Frz.sub ?_) (Frz.sub ?_) Sr
   ·
    refine Sub.bool ?_
    rw [ha.hit hlt (by simpa using h28)]; simp
   rw [errV, if_pos hq]; exact Sr
  try simp only [NF] at h28
  refine J_skip (J_region (Js rfl (step_add Sr Sr z6) (Jm rfl (JL_nil ?_))))
  refine K_againL (σ := Nat × List Int) (s := (i, st)) (i + 1, (cyc (attL q) (q.Atoms.length + 1) i st).2) zO (ha.go hlt (by simpa using h28)) (zU) (zL)
 try simp only [NF] at h24
 refine J_exit (Jr (Ja rfl (Ja rfl (JL_nil (J_ret ?_)))))
 refine K_ret2' (rv := .tmp 2) (rv' := .tmp 3) rfl () (Sel.all _) (.tmp Sr) (.tmp Sr) (Frz.sub ?_) (Frz.sub ?_) Sr
 ·
  refine Sub.bool ?_
  have := AllI.fin (show AllI q q.Atoms.length st by have := ha.le; rw [show q.Atoms.length = i by omega]; exact ha)
  rw [this, hq]; rfl
 rw [errV, if_pos hq]; exact Sr
open Go Go.Proofs Go.Proofs.Tryz
theorem nth_take {α : Type} [Inhabited α] {l : List α} {n i : Nat} (h : i < n) : nth (l.take n) i = nth l i := by
  induction l generalizing n i with
  | nil => simp [nth]
  | cons a l ih =>
    obtain ⟨n, rfl⟩ : ∃ m, n = m + 1 := ⟨n - 1, by omega⟩
    match i with
    | 0 => rfl
    | i + 1 => exact ih (by omega)
theorem valid_cols {q : GConj} (hq : validQ q = true) {a : GAtom} (ha : a ∈ q.Atoms) : a.Cols.length ≤ 12 ∧ a.Terms.length = a.Cols.length ∧ 1 ≤ a.Key ∧ a.Key ≤ a.Cols.length ∧ ∀ k, k < a.Cols.length → 0 ≤ nth a.Cols k ∧ nth a.Terms k < q.Vars ∧ -(q.Consts.length : Int) ≤ nth a.Terms k := by
  obtain ⟨i, hi, rfl⟩ := List.getElem_of_mem ha
  have e : q.Atoms[i] = nth q.Atoms i := by rw [nth_get hi]
  rw [e]
  have h1 := valid_atom hq hi
  refine ⟨h1.2.1, h1.2.2.1, h1.2.2.2.1, h1.2.2.2.2, fun k hk => ?_⟩
  unfold validQ at hq
  rw [Bool.and_eq_true] at hq
  have h2 := rall_iff.1 hq.2 i hi
  unfold okA at h2
  rw [Bool.and_eq_true] at h2
  have h3 := rall_iff.1 h2.2 k hk
  unfold okK at h3
  simp only [Bool.and_eq_true, decide_eq_true_eq] at h3
  exact ⟨h3.1.1.1, h3.1.2, h3.2⟩
theorem enum_mem {α : Type} [Inhabited α] {x : α} {g : Nat} : ∀ {l : List α} {i : Nat}, (g, x) ∈ enumL l i ↔ i ≤ g ∧ g < i + l.length ∧ nth l (g - i) = x
  | [], i => by simp [enumL]; omega
  | a :: l, i => by
    simp only [enumL, List.mem_cons, Prod.mk.injEq, List.length_cons]
    rw [enum_mem (l := l)]
    constructor
    · rintro (⟨rfl, rfl⟩ | ⟨h1, h2, h3⟩)
      · exact ⟨by omega, by omega, by rw [Nat.sub_self]; rfl⟩
      · refine ⟨by omega, by omega, ?_⟩
        rw [show g - i = (g - (i + 1)) + 1 by omega]; exact h3
    · rintro ⟨h1, h2, h3⟩
      by_cases e : g = i
      · subst e; rw [Nat.sub_self] at h3; exact .inl ⟨rfl, h3.symm⟩
      · right
        refine ⟨by omega, by omega, ?_⟩
        rw [show g - i = (g - (i + 1)) + 1 by omega] at h3; exact h3
theorem ed_iff {l : List (List Bool)} {f g : Nat} : ed l f g ↔ g < (nth l f).length ∧ nth (nth l f) g = true := by
  unfold ed
  rw [enum_mem]
  simp
/-- No cycle: an order. -/
theorem first_topo {q : GConj} (h : firstM q = true) : ∃ fin, Topo (attL q) fin ∧ ∀ f, f < q.Atoms.length → f ∈ fin := by
  unfold firstM at h
  have h : (cycAll (attL q) (q.Atoms.length + 1) (List.range q.Atoms.length) (List.replicate q.Atoms.length 0)).1 = false := by simpa using h
  have hn : ∀ v, nth (List.replicate q.Atoms.length (0 : Int)) v = 0 := by
    intro v
    by_cases hv : v < q.Atoms.length
    · rw [nth_get (by simpa using hv)]; simp
    · have : ∀ (n v : Nat), n ≤ v → nth (List.replicate n (0 : Int)) v = 0 := by
        intro n
        induction n with
        | zero => intro v _; cases v <;> rfl
        | succ n ih => intro v hv; obtain ⟨w, rfl⟩ : ∃ w, v = w + 1 := ⟨v - 1, by omega⟩; exact ih w (by omega)
      exact this _ _ (by omega)
  have F : Fits (attL q) (List.replicate q.Atoms.length (0 : Int)) [] := ⟨fun v => by rw [hn]; simp, fun pre v post e => by simp at e, fun v => .inl (hn v)⟩
  have hr : ∀ v g, ed (attL q) v g → g < (List.replicate q.Atoms.length (0 : Int)).length := by
    intro v g hv
    have := ed_iff.1 hv
    rw [List.length_replicate]
    by_cases hvn : v < q.Atoms.length
    · rw [attL_nth q hvn, attB_len] at this; exact this.1
    · exfalso
      have h0 : ∀ (l : List (List Bool)) (v : Nat), l.length ≤ v → nth l v = [] := by
        intro l
        induction l with
        | nil => intro v _; cases v <;> rfl
        | cons a l ih => intro v hv; obtain ⟨w, rfl⟩ : ∃ w, v = w + 1 := ⟨v - 1, by simp at hv; omega⟩; exact ih w (by simpa using hv)
      rw [h0 _ v (by rw [attL_len]; omega)] at this
      simp at this
  obtain ⟨ext, t, m⟩ := cycAll_false (attL q) _ _ _ [] F (fun f hf => by rw [List.length_replicate]; exact List.mem_range.1 hf) hr h
  exact ⟨ext, by simpa using t, fun f hf => by simpa using m f (List.mem_range.2 hf)⟩
theorem least {P : Nat → Prop} {n : Nat} (h : P n) : ∃ m, m ≤ n ∧ P m ∧ ∀ k, k < m → ¬ P k := by
  induction n using Nat.strongRecOn with
  | _ n ih =>
    by_cases h2 : ∃ k, k < n ∧ P k
    · obtain ⟨k, hk, hp⟩ := h2
      obtain ⟨m, hm, h3⟩ := ih k hk hp
      exact ⟨m, by omega, h3⟩
    · exact ⟨n, Nat.le_refl _, h, fun k hk hp => h2 ⟨k, hk, hp⟩⟩
theorem nth_over {α : Type} [Inhabited α] : ∀ {l : List α} {i : Nat}, l.length ≤ i → nth l i = default
  | [], _, _ => rfl
  | _ :: _, 0, h => absurd h (Nat.not_succ_le_zero _)
  | _ :: l, i + 1, h => nth_over (l := l) (i := i) (by simpa using h)
theorem nth_range_map {β : Type} [Inhabited β] {n : Nat} {f : Nat → β} {i : Nat} (h : i < n) : nth ((List.range n).map f) i = f i := by
  rw [nth_get (by simpa using h)]; simp
theorem list_ext {α : Type} [Inhabited α] {l m : List α} (h : l.length = m.length) (hn : ∀ i, i < l.length → nth l i = nth m i) : l = m := by
  apply List.ext_getElem h
  intro i h1 h2
  have := hn i h1
  rwa [nth_get h1, nth_get h2] at this
open Go Go.Proofs Go.Proofs.Tryz
def idxL {α : Type} [DecidableEq α] (l : List α) (v : α) : Nat := l.findIdx fun x => decide (x = v)
theorem idx_is {α : Type} [DecidableEq α] [Inhabited α] {l : List α} {v : α} {i : Nat} (hi : i < l.length) (h : nth l i = v) (hb : ∀ j, j < i → nth l j ≠ v) : idxL l v = i := by
  unfold idxL
  rw [List.findIdx_eq hi]
  refine ⟨by rw [← nth_get hi]; simpa using h, fun j hj => ?_⟩
  have := hb j hj
  rw [nth_get (by omega)] at this
  simpa using this
theorem idx_no {α : Type} [DecidableEq α] [Inhabited α] {l : List α} {v : α} (hb : ∀ j, j < l.length → nth l j ≠ v) : idxL l v = l.length := by
  unfold idxL
  rw [List.findIdx_eq_length]
  intro x hx
  obtain ⟨j, hj, rfl⟩ := List.getElem_of_mem hx
  have := hb j hj
  rw [nth_get hj] at this
  simpa using this
theorem idx_self {α : Type} [DecidableEq α] [Inhabited α] {l : List α} {i : Nat} (hi : i < l.length) : decide (idxL l (nth l i) = i) = !((l.take i).any fun x => decide (nth l i = x)) := by
  by_cases h : ∃ j, j < i ∧ nth l j = nth l i
  · obtain ⟨m, hm, ⟨hm1, hm2⟩, hmin⟩ : ∃ m, m ≤ i ∧ (m < i ∧ nth l m = nth l i) ∧ ∀ k, k < m → ¬ (k < i ∧ nth l k = nth l i) := by
      obtain ⟨j, hj⟩ := h
      obtain ⟨m, h1, h2, h3⟩ := least (P := fun m => m < i ∧ nth l m = nth l i) (n := j) hj
      exact ⟨m, by omega, h2, h3⟩
    have e : idxL l (nth l i) = m := idx_is (by omega) hm2 fun j hj he => hmin j hj ⟨by omega, he⟩
    rw [e, decide_eq_false (by omega)]
    have : (l.take i).any (fun x => decide (nth l i = x)) = true := by
      rw [List.any_eq_true]
      exact ⟨nth l m, by
        have := nth_mem (l := l.take i) (i := m) (by rw [List.length_take]; omega)
        rwa [nth_take hm1] at this, by simpa using hm2.symm⟩
    rw [this]; rfl
  · have e : idxL l (nth l i) = i := idx_is hi rfl fun j hj he => h ⟨j, hj, he⟩
    rw [e, decide_eq_true rfl]
    have : (l.take i).any (fun x => decide (nth l i = x)) = false := by
      rw [List.any_eq_false]
      intro x hx
      obtain ⟨j, hj, rfl⟩ := List.getElem_of_mem hx
      have hji : j < i := by simp at hj; omega
      rw [List.getElem_take, ← nth_get (by omega)]
      simpa using fun he => h ⟨j, hji, he.symm⟩
    rw [this]; rfl
set_option maxHeartbeats 1000000 in
theorem refValidV_spec (v : GValue) : Fun1 prog 75 [rValue.ty v] (tV (.bool (validV v))) := by
 refine Spec.enter func75 rfl rfl fun h0 w0 fr0 => ?_
 refine Jr (Js rfl (step_box (R := rValue) Sr) (Ja rfl (JL_nil (J_seq (Jr ?_)))))
 refine Js rfl (step_fieldAddr so87 Sr rfl) (Jl rfl ty3 Sr (JL_nil (J_block (Jr (Js rfl (step_eql Sr Sr) ?_)))))
 refine Ja rfl (JL_nil ?_)
 refine J_cond Sr (fun k0 => ?_) (fun k0 => ?_)
 ·
  try simp only [NF] at k0
  refine Jr (Js rfl (step_fieldAddr so87 Sr rfl) (Jl rfl ty3 Sr (Js rfl (step_eql Sr Sr) (Jm rfl ?_))))
  refine Jk rfl Sr rfl (step_fieldAddr so87 Sr rfl) ?_
  refine Jg rfl Sr rfl (fun hw => step_load_ptr ty9 (Sub.w hw)) (Jg rfl Sr rfl (fun hw => step_eql_str (Sub.w hw) Sr) (Js rfl (step_pick_and Sr Sr) (Ja rfl (JL_nil (J_ret ?_)))))
  refine K_ret1' (rv := .tmp 2) rfl () (Sel.all _) (.tmp Sr) (Frz.sub (Sub.bool ?_))
  rw [Bool.eq_iff_iff]
  by_cases ht : v.Text = ⟨#[]⟩ <;> simp [validV, *] <;> omega
 try simp only [NF] at k0
 refine Jr (Js rfl (step_eql Sr Sr) (Ja rfl (JL_nil ?_)))
 refine J_cond Sr (fun k1 => ?_) (fun k1 => ?_)
 ·
  try simp only [NF] at k1
  refine Jr (Js rfl (step_fieldAddr so87 Sr rfl) (Jl rfl ty3 Sr (Js rfl (step_eql Sr Sr) (Jm rfl ?_))))
  refine Jk rfl Sr rfl (step_fieldAddr so87 Sr rfl) ?_
  refine Jg rfl Sr rfl (fun hw => step_load_ptr ty9 (Sub.w hw)) (Jg rfl Sr rfl (fun hw => step_len_str underlying9 (Sub.w hw)) (Jg rfl Sr rfl (fun hw => step_leq (Sub.w hw) Sr) (Js rfl (step_pick_and Sr Sr) (Ja rfl (JL_nil ?_)))))
  refine J_ret ?_
  refine K_ret1' (rv := .tmp 2) rfl () (Sel.all _) (.tmp Sr) (Frz.sub (Sub.bool ?_))
  rw [Bool.eq_iff_iff]
  by_cases ht : v.Text = ⟨#[]⟩ <;> simp [validV, *] <;> omega
 try simp only [NF] at k1
 refine Jr (Js rfl (step_eql Sr Sr) (Ja rfl (JL_nil ?_)))
 refine J_cond Sr (fun k2 => ?_) (fun k2 => ?_)
 ·
  try simp only [NF] at k2
  refine Jr (Js rfl (step_fieldAddr so87 Sr rfl) (Jl rfl ty3 Sr (Js rfl (step_geq Sr Sr) (Jm rfl ?_))))
  refine Jk rfl Sr rfl (step_fieldAddr so87 Sr rfl) ?_
  refine Jg rfl Sr rfl (fun hw => step_load_ptr ty3 (Sub.w hw)) (Jg rfl Sr rfl (fun hw => step_leq (Sub.w hw) Sr) (Js rfl (step_pick_and Sr Sr) (Jm rfl ?_)))
  refine Jk rfl Sr rfl (step_fieldAddr so87 Sr rfl) ?_
  refine Jg rfl Sr rfl (fun hw => step_load_ptr ty9 (Sub.w hw)) (Jg rfl Sr rfl (fun hw => step_eql_str (Sub.w hw) Sr) (Js rfl (step_pick_and Sr Sr) (Ja rfl (JL_nil (J_ret ?_)))))
  refine K_ret1' (rv := .tmp 2) rfl () (Sel.all _) (.tmp Sr) (Frz.sub (Sub.bool ?_))
  rw [Bool.eq_iff_iff]
  by_cases ht : v.Text = ⟨#[]⟩ <;> simp [validV, *] <;> omega
 try simp only [NF] at k2
 refine Jr (Js rfl (step_eql Sr Sr) (Ja rfl (JL_nil ?_)))
 refine J_cond Sr (fun k3 => ?_) (fun k3 => ?_)
 ·
  try simp only [NF] at k3
  refine Jr (Js rfl (step_fieldAddr so87 Sr rfl) (Jl rfl ty3 Sr (Js rfl (step_geq Sr Sr) (Jm rfl ?_))))
  refine Jk rfl Sr rfl (step_fieldAddr so87 Sr rfl) ?_
  refine Jg rfl Sr rfl (fun hw => step_load_ptr ty3 (Sub.w hw)) (Jg rfl Sr rfl (fun hw => step_leq (Sub.w hw) Sr) (Js rfl (step_pick_and Sr Sr) (Jm rfl ?_)))
  refine Jk rfl Sr rfl (step_fieldAddr so87 Sr rfl) ?_
  refine Jg rfl Sr rfl (fun hw => step_load_ptr ty9 (Sub.w hw)) (Jg rfl Sr rfl (fun hw => step_eql_str (Sub.w hw) Sr) (Js rfl (step_pick_and Sr Sr) (Ja rfl (JL_nil (J_ret ?_)))))
  refine K_ret1' (rv := .tmp 2) rfl () (Sel.all _) (.tmp Sr) (Frz.sub (Sub.bool ?_))
  rw [Bool.eq_iff_iff]
  by_cases ht : v.Text = ⟨#[]⟩ <;> simp [validV, *] <;> omega
 try simp only [NF] at k3
 refine Jr (Js rfl (step_eql Sr Sr) (Ja rfl (JL_nil ?_)))
 refine J_cond Sr (fun k4 => ?_) (fun k4 => ?_)
 ·
  try simp only [NF] at k4
  refine Jr (Js rfl (step_fieldAddr so87 Sr rfl) (Jl rfl ty3 Sr (Js rfl (step_eql Sr Sr) (Jm rfl ?_))))
  refine Jk rfl Sr rfl (step_fieldAddr so87 Sr rfl) ?_
  refine Jg rfl Sr rfl (fun hw => step_load_ptr ty3 (Sub.w hw)) (Jg rfl Sr rfl (fun hw => step_eql (Sub.w hw) Sr) (Js rfl (step_pick_or Sr Sr) (Jm rfl ?_)))
  refine Jk rfl Sr rfl (step_fieldAddr so87 Sr rfl) ?_
  refine Jg rfl Sr rfl (fun hw => step_load_ptr ty9 (Sub.w hw)) (Jg rfl Sr rfl (fun hw => step_eql_str (Sub.w hw) Sr) (Js rfl (step_pick_and Sr Sr) (Ja rfl (JL_nil (J_ret ?_)))))
  refine K_ret1' (rv := .tmp 2) rfl () (Sel.all _) (.tmp Sr) (Frz.sub (Sub.bool ?_))
  rw [Bool.eq_iff_iff]
  by_cases ht : v.Text = ⟨#[]⟩ <;> simp [validV, *] <;> omega
 try simp only [NF] at k4
 refine J_skip (Jr (Ja rfl (JL_nil (J_ret ?_))))
 refine K_ret1' (rv := .tmp 2) rfl () (Sel.all _) (.tmp Sr) (Frz.sub (Sub.bool ?_))
 rw [Bool.eq_iff_iff]
 by_cases ht : v.Text = ⟨#[]⟩ <;> simp [validV, *] <;> omega
theorem refIndex_spec (l : List GValue) (v : GValue) (hl : l.length ≤ 1000000000000) : Fun1 prog 71 [tSl rValue l, rValue.ty v] (tV (.int .i64 (idxL l v))) := by
 refine Spec.enter func71 rfl rfl fun h0 w0 fr0 => ?_
 refine Jr (Js rfl (step_box (R := rValue) Sr) (Ja rfl (JL_nil (J_seq (Jr ?_)))))
 refine Ja rfl (JL_nil (J_block ?_))
 refine J_loopL (σ := Nat) (fun i => i ≤ l.length ∧ ∀ j, j < i → nth l j ≠ v) (fun i => upd (upd (upd env0 0 (tSl rValue l)) 3 (tPtr rValue v)) 5 (tV (.int .i64 i))) (fun i => []) (fun i => l.length - i) 0 ⟨Nat.zero_le _, fun k hk => by omega⟩ (zU) (LSub.rfl) ?_
 rintro i ⟨hi, hv⟩
 refine J_seq (Jr (Jm rfl (Jm rfl (Js rfl (step_len_sl underlying22 Sr) (Js rfl (step_lss Sr Sr) ?_)))))
 refine JL_nil ?_
 refine J_cond Sr (fun h9 => ?_) (fun h9 => ?_)
 ·
  try simp only [NF] at h9
  have hlt : i < l.length := by omega
  refine J_skip (J_seq (J_block (J_seq ?_)))
  refine J_draw [⟨0, [0], true⟩, ⟨1, [5], true⟩, ⟨2, [12, 13], true⟩, ⟨3, [14], true⟩, ⟨4, [3], true⟩, ⟨5, [15, 16], true⟩] rfl (by kernel_rfl) ?_
  refine Mv rfl rfl (Mv rfl rfl ?_)
  refine Mf rfl rfl (step_indexAddr_sl (i := i) underlying22 ty87 Sr Sr (by rfl) (gb (by exact hlt))) ?_
  refine Mf rfl rfl (step_load_ptr ty87 Sr) (Mf rfl rfl (step_load_ptr ty87 Sr) (Mf rfl rfl (step_eql_val Sr Sr) (JM_nil ?_)))
  refine J_cond Sr (fun h17 => ?_) (fun h17 => ?_)
  ·
   try simp only [NF] at h17
   refine Jr (Jm rfl (Ja rfl (JL_nil (J_ret ?_))))
   refine K_ret1 (t := 4) rfl () (Sub.int (by rw [idx_is hlt h17 hv]))
  try simp only [NF] at h17
  refine J_skip (J_region (Jm rfl (Js rfl (step_add Sr Sr z6) (Ja rfl (JL_nil ?_)))))
  refine K_againL (σ := Nat) (s := i) (i + 1) zO ?_ (zU) (LSub.rfl)
  refine ⟨by omega, fun j hj => ?_⟩
  by_cases e : j = i
  ·
   subst e; exact h17
  exact hv j zG
 try simp only [NF] at h9
 refine J_exit (Jr (Jm rfl (Js rfl (step_len_sl underlying22 Sr) (Ja rfl (JL_nil ?_)))))
 refine J_ret ?_
 refine K_ret1 (t := 4) rfl () (Sub.int (by rw [idx_no fun j hj => hv j zG]))
open Go Go.Proofs Go.Proofs.Tryz
theorem any_take_t {α : Type} [Inhabited α] {l : List α} {p : α → Bool} {j i : Nat} (hj : j < i) (hi : i ≤ l.length) (h : p (nth l j) = true) : (l.take i).any p = true := by
  rw [List.any_eq_true]
  refine ⟨nth l j, ?_, h⟩
  have := nth_mem (l := l.take i) (i := j) (by rw [List.length_take]; omega)
  rwa [nth_take hj] at this
theorem any_take_f {α : Type} [Inhabited α] {l : List α} {p : α → Bool} {i : Nat} (hi : i ≤ l.length) (h : ∀ j, j < i → p (nth l j) = false) : (l.take i).any p = false := by
  rw [List.any_eq_false]
  intro x hx
  obtain ⟨j, hj, rfl⟩ := List.getElem_of_mem hx
  have hji : j < i := by simp at hj; omega
  rw [List.getElem_take, ← nth_get (by omega), h j hji]; simp
theorem okC_iff {q : GConj} {i : Nat} (hi : i < q.Consts.length) : okC q i = (validV (nth q.Consts i) && !decide ((nth q.Consts i).Kind = 0) && decide (idxL q.Consts (nth q.Consts i) = i)) := by
  unfold okC; rw [idx_self hi]
theorem valid_of {q : GConj} (hb : 0 ≤ q.Vars ∧ q.Vars ≤ 240 ∧ q.Consts.length ≤ 240 ∧ q.Atoms.length ≤ 20) (hc : ∀ i, i < q.Consts.length → okC q i = true) (ha : ∀ i, i < q.Atoms.length → okA q i = true) : validQ q = true := by
  unfold validQ
  rw [decide_eq_true hb, rall_t hc, rall_t ha]; rfl
theorem valid_noC {q : GConj} {i : Nat} (hi : i < q.Consts.length) (h : okC q i = false) : validQ q = false := by
  unfold validQ
  rw [rall_f hi h]; simp
theorem valid_noA {q : GConj} {i : Nat} (hi : i < q.Atoms.length) (h : okA q i = false) : validQ q = false := by
  unfold validQ
  rw [rall_f hi h]; simp
abbrev shapeA (a : GAtom) : Prop := 1 ≤ a.Cols.length ∧ a.Cols.length ≤ 12 ∧ a.Terms.length = a.Cols.length ∧ 1 ≤ a.Key ∧ a.Key ≤ a.Cols.length
theorem okA_no1 {q : GConj} {i : Nat} (h : ¬ (0 ≤ (nth q.Atoms i).Table ∧ shapeA (nth q.Atoms i))) : okA q i = false := by
  unfold okA
  by_cases h1 : 0 ≤ (nth q.Atoms i).Table
  · rw [decide_eq_false (p := shapeA (nth q.Atoms i)) (fun h2 => h ⟨h1, h2⟩)]; simp
  · rw [decide_eq_false h1]; rfl
theorem okA_no2 {q : GConj} {i j : Nat} (hj : j < i) (hi : i < q.Atoms.length) (h : (nth q.Atoms j).Table = (nth q.Atoms i).Table) : okA q i = false := by
  unfold okA
  rw [any_take_t (p := fun x : GAtom => decide (x.Table = (nth q.Atoms i).Table)) hj (by omega) (by simpa using h)]; simp
theorem okA_no3 {q : GConj} {i k : Nat} (hk : k < (nth q.Atoms i).Cols.length) (h : okK q (nth q.Atoms i) k = false) : okA q i = false := by
  unfold okA
  rw [rall_f (f := okK q (nth q.Atoms i)) hk h]; simp
theorem okA_yes {q : GConj} {i : Nat} (hi : i < q.Atoms.length) (h1 : 0 ≤ (nth q.Atoms i).Table) (h2 : shapeA (nth q.Atoms i)) (h3 : ∀ j, j < i → (nth q.Atoms j).Table ≠ (nth q.Atoms i).Table) (h4 : ∀ k, k < (nth q.Atoms i).Cols.length → okK q (nth q.Atoms i) k = true) : okA q i = true := by
  unfold okA
  rw [decide_eq_true h1, decide_eq_true (p := shapeA (nth q.Atoms i)) h2, any_take_f (p := fun x : GAtom => decide (x.Table = (nth q.Atoms i).Table)) (by omega) (fun j hj => by simpa using h3 j hj), rall_t h4]; rfl
theorem okK_no1 {q : GConj} {a : GAtom} {k : Nat} (h : ¬ (0 ≤ nth a.Cols k ∧ nth a.Terms k < q.Vars ∧ -(q.Consts.length : Int) ≤ nth a.Terms k)) : okK q a k = false := by
  unfold okK
  by_cases h1 : 0 ≤ nth a.Cols k
  · by_cases h2 : nth a.Terms k < q.Vars
    · rw [decide_eq_false (p := -(q.Consts.length : Int) ≤ nth a.Terms k) (fun h3 => h ⟨h1, h2, h3⟩)]; simp
    · rw [decide_eq_false h2]; simp
  · rw [decide_eq_false h1]; rfl
theorem okK_no2 {q : GConj} {a : GAtom} {k m : Nat} (hm : m < k) (hk : k < a.Cols.length) (h : nth a.Cols m = nth a.Cols k) : okK q a k = false := by
  unfold okK
  rw [any_take_t (p := fun x => decide (nth a.Cols k = x)) hm (by omega) (by simpa using h.symm)]; simp
theorem okK_yes {q : GConj} {a : GAtom} {k : Nat} (hk : k < a.Cols.length) (h1 : 0 ≤ nth a.Cols k) (h2 : nth a.Terms k < q.Vars) (h3 : -(q.Consts.length : Int) ≤ nth a.Terms k) (h4 : ∀ m, m < k → nth a.Cols m ≠ nth a.Cols k) : okK q a k = true := by
  unfold okK
  rw [decide_eq_true h1, decide_eq_true h2, decide_eq_true h3, any_take_f (p := fun x => decide (nth a.Cols k = x)) (by omega) (fun j hj => by simpa using fun e => h4 j hj e.symm)]; rfl
set_option maxHeartbeats 4000000 in
theorem refValid_spec (q : GConj) : Fun1 prog 25 [rConj.ty q] (tV (.bool (validQ q))) := by
 refine Spec.enter func25 rfl rfl fun h0 w0 fr0 => ?_
 refine Jr (Js rfl (step_box (R := rConj) Sr) (Ja rfl (JL_nil (J_seq (Jr ?_)))))
 refine Js rfl (step_fieldAddr so25 Sr rfl) (Jl rfl ty3 Sr (Js rfl (step_lss Sr Sr) (Jm rfl ?_)))
 refine Jk rfl Sr rfl (step_fieldAddr so25 Sr rfl) ?_
 refine Jg rfl Sr rfl (fun hw => step_load_ptr ty3 (Sub.w hw)) (Jg rfl Sr rfl (fun hw => step_gtr (Sub.w hw) Sr) (Js rfl (step_pick_or Sr Sr) (Jm rfl ?_)))
 refine Jk rfl Sr rfl (step_fieldAddr so25 Sr rfl) ?_
 refine Jg rfl Sr rfl (fun hw => step_load_ptr ty22 (Sub.w hw)) (Jg rfl Sr rfl (fun hw => step_len_sl underlying22 (Sub.w hw)) (Jg rfl Sr rfl (fun hw => step_gtr (Sub.w hw) Sr) (Js rfl (step_pick_or Sr Sr) (Jm rfl ?_))))
 refine Jk rfl Sr rfl (step_fieldAddr so25 Sr rfl) ?_
 refine Jg rfl Sr rfl (fun hw => step_load_ptr ty23 (Sub.w hw)) (Jg rfl Sr rfl (fun hw => step_len_sl underlying23 (Sub.w hw)) (Jg rfl Sr rfl (fun hw => step_gtr (Sub.w hw) Sr) (Js rfl (step_pick_or Sr Sr) (JL_nil ?_))))
 refine J_cond Sr (fun h28 => ?_) (fun h28 => ?_)
 ·
  try simp only [NF] at h28
  refine Jr (Ja rfl (JL_nil (J_ret ?_)))
  refine K_ret1' (rv := .tmp 2) rfl () (Sel.all _) (.tmp Sr) (Frz.sub (Sub.bool ?_))
  rw [eq_comm]
  unfold validQ
  rw [decide_eq_false zG]; rfl
 try simp only [NF] at h28
 have hvb : 0 ≤ q.Vars ∧ q.Vars ≤ 240 ∧ q.Consts.length ≤ 240 ∧ q.Atoms.length ≤ 20 := zG
 refine J_skip (J_seq (Jr (Ja rfl (JL_nil (J_block ?_)))))
 refine J_loopL (σ := Nat) (fun i => i ≤ q.Consts.length ∧ ∀ j, j < i → okC q j = true) (fun i => upd (upd env0 1 (tPtr rConj q)) 3 (tV (.int .i64 i))) (fun i => []) (fun i => q.Consts.length - i) 0 ⟨Nat.zero_le _, fun k hk => by omega⟩ (zU) (LSub.rfl) ?_
 rintro i ⟨hi, hv⟩
 refine J_seq (Jr (Jm rfl (Js rfl (step_fieldAddr so25 Sr rfl) (Jl rfl ty22 Sr (Js rfl (step_len_sl underlying22 Sr) ?_)))))
 refine Js rfl (step_lss Sr Sr) (JL_nil ?_)
 refine J_cond Sr (fun h33 => ?_) (fun h33 => ?_)
 ·
  try simp only [NF] at h33
  have hlt : i < q.Consts.length := by omega
  refine J_skip (J_seq (J_block (J_seq ?_)))
  refine J_draw [⟨0, [1], true⟩, ⟨1, [36], true⟩, ⟨2, [3], true⟩, ⟨3, [37, 38], true⟩, ⟨4, [39], true⟩, ⟨5, [40], true⟩, ⟨6, [41], true⟩, ⟨7, [42], true⟩, ⟨8, [1, 43], true⟩, ⟨9, [43, 44], true⟩, ⟨10, [3, 43], true⟩, ⟨11, [43, 45, 46], true⟩, ⟨12, [43, 47], true⟩, ⟨13, [43, 48], true⟩, ⟨14, [43, 49], true⟩, ⟨15, [43, 50], true⟩, ⟨16, [51], true⟩, ⟨17, [1, 52], true⟩, ⟨18, [52, 53], true⟩, ⟨19, [1, 52], true⟩, ⟨20, [52, 55], true⟩, ⟨21, [3, 52], true⟩, ⟨22, [52, 56, 57], true⟩, ⟨23, [52, 58], true⟩, ⟨24, [52, 54, 59], true⟩, ⟨25, [3, 52], true⟩, ⟨26, [52, 60, 61], true⟩, ⟨27, [52, 62], true⟩] rfl (by kernel_rfl) ?_
  refine Mf rfl rfl (step_fieldAddr so25 Sr rfl) (Mf rfl rfl (step_load_ptr ty22 Sr) (Mv rfl rfl ?_))
  refine Mf rfl rfl (step_indexAddr_sl (i := i) underlying22 ty87 Sr Sr (by rfl) (gb (by exact hlt))) ?_
  refine Mf rfl rfl (step_load_ptr ty87 Sr) (Mf rfl rfl (step_call0 (refValidV_spec _) ⟨Sr, trivial⟩ call75) (Mf rfl rfl (step_not Sr) (Mv rfl rfl ?_)))
  refine Mk rfl rfl Sr rfl (step_fieldAddr so25 Sr rfl) ?_
  refine Mg rfl rfl Sr rfl (fun hw => step_load_ptr ty22 (Sub.w hw)) ?_
  refine Mk rfl rfl Sr rfl (step_move Sr) ?_
  refine Mg rfl rfl Sr rfl (fun hw => step_indexAddr_sl (i := i) underlying22 ty87 (Sub.w hw) (Sub.w hw) (by rfl) (gb (by have hwq := hw; (try simp only [beqB_t, beqB_f, NF] at hwq); exact hlt))) ?_
  refine Mg rfl rfl Sr rfl (fun hw => step_fieldAddr so87 (Sub.w hw) rfl) (Mg rfl rfl Sr rfl (fun hw => step_load_ptr ty3 (Sub.w hw)) (Mg rfl rfl Sr rfl (fun hw => step_eql (Sub.w hw) Sr) (Mf rfl rfl (step_pick_or Sr Sr) (Mv rfl rfl ?_))))
  refine Mk rfl rfl Sr rfl (step_fieldAddr so25 Sr rfl) ?_
  refine Mg rfl rfl Sr rfl (fun hw => step_load_ptr ty22 (Sub.w hw)) ?_
  refine Mk rfl rfl Sr rfl (step_fieldAddr so25 Sr rfl) ?_
  refine Mg rfl rfl Sr rfl (fun hw => step_load_ptr ty22 (Sub.w hw)) ?_
  refine Mk rfl rfl Sr rfl (step_move Sr) ?_
  refine Mg rfl rfl Sr rfl (fun hw => step_indexAddr_sl (i := i) underlying22 ty87 (Sub.w hw) (Sub.w hw) (by rfl) (gb (by have hwq := hw; (try simp only [beqB_t, beqB_f, NF] at hwq); exact hlt))) ?_
  refine Mg rfl rfl Sr rfl (fun hw => step_load_ptr ty87 (Sub.w hw)) (Mg rfl rfl Sr rfl (fun hw => step_call0 (refIndex_spec q.Consts _ zG) ⟨(Sub.w hw), (Sub.w hw), trivial⟩ call71) ?_)
  refine Mk rfl rfl Sr rfl (step_move Sr) ?_
  refine Mg rfl rfl Sr rfl (fun hw => step_neq (Sub.w hw) (Sub.w hw)) (Mf rfl rfl (step_pick_or Sr Sr) (JM_nil ?_))
  refine J_cond Sr (fun h63 => ?_) (fun h63 => ?_)
  ·
   try simp only [NF] at h63
   refine Jr (Ja rfl (JL_nil (J_ret ?_)))
   refine K_ret1' (rv := .tmp 2) rfl () (Sel.all _) (.tmp Sr) (Frz.sub (Sub.bool ?_))
   rw [eq_comm]
   refine valid_noC hlt ?_
   rw [okC_iff hlt]
   rcases h63 with (c | c) | c
   ·
    rw [c]; rfl
   ·
    rw [decide_eq_true c]; simp
   have c2 : ¬ idxL q.Consts (nth q.Consts i) = i := fun e => c (by rw [e])
   rw [decide_eq_false c2]; simp
  try simp only [NF] at h63
  refine J_skip (J_region (Jm rfl (Js rfl (step_add Sr Sr z6) (Ja rfl (JL_nil ?_)))))
  refine K_againL (σ := Nat) (s := i) (i + 1) zO ?_ (zU) (LSub.rfl)
  refine ⟨by omega, fun j hj => ?_⟩
  by_cases e : j = i
  ·
   subst e
   rw [okC_iff hlt]
   simp only [Bool.and_eq_true, Bool.not_eq_true', decide_eq_true_eq, decide_eq_false_iff_not]
   obtain ⟨⟨c1, c2⟩, c3⟩ := h63
   exact ⟨⟨c1, c2⟩, by omega⟩
  exact hv j zG
 try simp only [NF] at h33
 have hcs : ∀ j, j < q.Consts.length → okC q j = true := fun j hj => hv j zG
 refine J_exit (J_seq (Jr (Ja rfl (JL_nil (J_block ?_)))))
 refine J_loopL (σ := Nat) (fun i => i ≤ q.Atoms.length ∧ ∀ j, j < i → okA q j = true) (fun i => upd (upd env0 1 (tPtr rConj q)) 4 (tV (.int .i64 i))) (fun i => []) (fun i => q.Atoms.length - i) 0 ⟨Nat.zero_le _, fun k hk => by omega⟩ (zU) (LSub.rfl) ?_
 rintro i ⟨hi2, hva⟩
 refine J_seq (Jr (Jm rfl (Js rfl (step_fieldAddr so25 Sr rfl) (Jl rfl ty23 Sr (Js rfl (step_len_sl underlying23 Sr) ?_)))))
 refine Js rfl (step_lss Sr Sr) (JL_nil ?_)
 refine J_cond Sr (fun h68 => ?_) (fun h68 => ?_)
 ·
  try simp only [NF] at h68
  have hat : i < q.Atoms.length := by omega
  refine J_skip (J_seq (J_block (Jr (Js rfl (step_fieldAddr so25 Sr rfl) (Jl rfl ty23 Sr ?_)))))
  refine Jm rfl ?_
  refine Js rfl (step_indexAddr_sl (i := i) underlying23 ty38 Sr Sr (by rfl) (gb (by exact hat))) ?_
  refine Jl rfl ty38 Sr ?_
  refine Jx rfl (step_alloc (fun w => zeroValue38 w) zr38) fun v5 => ?_
  refine Ju (step_store_box ty38 Sr Sr zS) fun _ => ?_
  refine JL_freeze (t := 5) (Sel.take (Sel.none _)) Frz.box ?_
  refine JL_nil (J_seq (Jr (Js rfl (step_fieldAddr so38 Sr rfl) (Jl rfl ty3 Sr (Js rfl (step_lss Sr Sr) ?_)))))
  refine Jm rfl ?_
  refine Jk rfl Sr rfl (step_fieldAddr so38 Sr rfl) ?_
  refine Jg rfl Sr rfl (fun hw => step_load_ptr ty36 (Sub.w hw)) (Jg rfl Sr rfl (fun hw => step_len_sl underlying36 (Sub.w hw)) (Jg rfl Sr rfl (fun hw => step_lss (Sub.w hw) Sr) (Js rfl (step_pick_or Sr Sr) (Jm rfl ?_))))
  refine Jk rfl Sr rfl (step_fieldAddr so38 Sr rfl) ?_
  refine Jg rfl Sr rfl (fun hw => step_load_ptr ty36 (Sub.w hw)) (Jg rfl Sr rfl (fun hw => step_len_sl underlying36 (Sub.w hw)) (Jg rfl Sr rfl (fun hw => step_gtr (Sub.w hw) Sr) (Js rfl (step_pick_or Sr Sr) (Jm rfl ?_))))
  refine Jk rfl Sr rfl (step_fieldAddr so38 Sr rfl) ?_
  refine Jg rfl Sr rfl (fun hw => step_load_ptr ty36 (Sub.w hw)) (Jg rfl Sr rfl (fun hw => step_len_sl underlying36 (Sub.w hw)) ?_)
  refine Jk rfl Sr rfl (step_fieldAddr so38 Sr rfl) ?_
  refine Jg rfl Sr rfl (fun hw => step_load_ptr ty36 (Sub.w hw)) (Jg rfl Sr rfl (fun hw => step_len_sl underlying36 (Sub.w hw)) (Jg rfl Sr rfl (fun hw => step_neq (Sub.w hw) (Sub.w hw)) (Js rfl (step_pick_or Sr Sr) (Jm rfl ?_))))
  refine Jk rfl Sr rfl (step_fieldAddr so38 Sr rfl) ?_
  refine Jg rfl Sr rfl (fun hw => step_load_ptr ty3 (Sub.w hw)) (Jg rfl Sr rfl (fun hw => step_lss (Sub.w hw) Sr) (Js rfl (step_pick_or Sr Sr) (Jm rfl ?_)))
  refine Jk rfl Sr rfl (step_fieldAddr so38 Sr rfl) ?_
  refine Jg rfl Sr rfl (fun hw => step_load_ptr ty3 (Sub.w hw)) ?_
  refine Jk rfl Sr rfl (step_fieldAddr so38 Sr rfl) ?_
  refine Jg rfl Sr rfl (fun hw => step_load_ptr ty36 (Sub.w hw)) (Jg rfl Sr rfl (fun hw => step_len_sl underlying36 (Sub.w hw)) (Jg rfl Sr rfl (fun hw => step_gtr (Sub.w hw) (Sub.w hw)) (Js rfl (step_pick_or Sr Sr) (JL_nil ?_))))
  refine J_cond Sr (fun h112 => ?_) (fun h112 => ?_)
  ·
   try simp only [NF] at h112
   refine Jr (Ja rfl (JL_nil (J_ret ?_)))
   refine K_ret1' (rv := .tmp 2) rfl () (Sel.all _) (.tmp Sr) (Frz.sub (Sub.bool ?_))
   rw [eq_comm]
   refine valid_noA hat (okA_no1 fun hh => ?_)
   obtain ⟨hh0, hh1, hh2, hh3, hh4, hh5⟩ := hh
   omega
  try simp only [NF] at h112
  have hsh : shapeA (nth q.Atoms i) := ⟨by omega, by omega, by omega, by omega, by omega⟩
  have htb : 0 ≤ (nth q.Atoms i).Table := by omega
  refine J_skip (J_seq (Jr (Ja rfl (JL_nil (J_block ?_)))))
  refine J_loopL (σ := Nat) (fun k => k ≤ i ∧ ∀ j, j < k → (nth q.Atoms j).Table ≠ (nth q.Atoms i).Table) (fun k => upd (upd (upd (upd (upd (upd env0 1 (tPtr rConj q)) 4 (tV (.int .i64 i))) 5 (tPtr rAtom (nth q.Atoms i))) 6 (tV (.int .i64 k))) 64 (tV (.int .i64 i))) 73 (tV (.int .i64 i))) (fun k => []) (fun k => i - k) 0 ⟨Nat.zero_le _, fun k hk => by omega⟩ (zU) (LSub.rfl) ?_
  rintro k ⟨hk, hw⟩
  refine J_seq (Jr (Jm rfl (Jm rfl (Js rfl (step_lss Sr Sr) (JL_nil ?_)))))
  refine J_cond Sr (fun h115 => ?_) (fun h115 => ?_)
  ·
   try simp only [NF] at h115
   have hki : k < q.Atoms.length := by omega
   refine J_skip (J_seq (J_block (J_seq ?_)))
   refine J_draw [⟨0, [1], true⟩, ⟨1, [118], true⟩, ⟨2, [6], true⟩, ⟨3, [119, 120], true⟩, ⟨4, [121], true⟩, ⟨5, [122], true⟩, ⟨6, [5], true⟩, ⟨7, [124], true⟩, ⟨8, [123, 125], true⟩] rfl (by kernel_rfl) ?_
   refine Mf rfl rfl (step_fieldAddr so25 Sr rfl) (Mf rfl rfl (step_load_ptr ty23 Sr) (Mv rfl rfl ?_))
   refine Mf rfl rfl (step_indexAddr_sl (i := k) underlying23 ty38 Sr Sr (by rfl) (gb (by exact hki))) ?_
   refine Mf rfl rfl (step_fieldAddr so38 Sr rfl) (Mf rfl rfl (step_load_ptr ty3 Sr) (Mf rfl rfl (step_fieldAddr so38 Sr rfl) (Mf rfl rfl (step_load_ptr ty3 Sr) (Mf rfl rfl (step_eql Sr Sr) (JM_nil ?_)))))
   refine J_cond Sr (fun h126 => ?_) (fun h126 => ?_)
   ·
    try simp only [NF] at h126
    refine Jr (Ja rfl (JL_nil (J_ret ?_)))
    refine K_ret1' (rv := .tmp 2) rfl () (Sel.all _) (.tmp Sr) (Frz.sub (Sub.bool ?_))
    rw [eq_comm]
    exact valid_noA hat (okA_no2 zG hat h126)
   try simp only [NF] at h126
   refine J_skip (J_region (Jm rfl (Js rfl (step_add Sr Sr z6) (Ja rfl (JL_nil ?_)))))
   refine K_againL (σ := Nat) (s := k) (k + 1) zO ?_ (zU) (LSub.rfl)
   refine ⟨by omega, fun j hj => ?_⟩
   by_cases e : j = k
   ·
    subst e; exact h126
   exact hw j zG
  try simp only [NF] at h115
  have htn : ∀ j, j < i → (nth q.Atoms j).Table ≠ (nth q.Atoms i).Table := fun j hj => hw j zG
  refine J_exit (Jr (Ja rfl (JL_nil (J_block ?_))))
  refine J_loopL (σ := Nat) (fun k => k ≤ (nth q.Atoms i).Cols.length ∧ ∀ j, j < k → okK q (nth q.Atoms i) j = true) (fun k => upd (upd (upd (upd (upd (upd (upd env0 1 (tPtr rConj q)) 4 (tV (.int .i64 i))) 5 (tPtr rAtom (nth q.Atoms i))) 7 (tV (.int .i64 k))) 64 (tV (.int .i64 i))) 73 (tV (.int .i64 i))) 114 (tV (.int .i64 i))) (fun k => []) (fun k => (nth q.Atoms i).Cols.length - k) 0 ⟨Nat.zero_le _, fun k hk => by omega⟩ (zU) (LSub.rfl) ?_
  rintro k ⟨hk, hx⟩
  refine J_seq (Jr (Jm rfl (Js rfl (step_fieldAddr so38 Sr rfl) (Jl rfl ty36 Sr (Js rfl (step_len_sl underlying36 Sr) ?_)))))
  refine Js rfl (step_lss Sr Sr) (JL_nil ?_)
  refine J_cond Sr (fun h131 => ?_) (fun h131 => ?_)
  ·
   try simp only [NF] at h131
   have hkt : k < (nth q.Atoms i).Cols.length := by omega
   refine J_skip (J_seq (J_block (J_seq (J_seq ?_))))
   refine J_draw [⟨0, [5], true⟩, ⟨1, [134], true⟩, ⟨2, [7], true⟩, ⟨3, [135, 136], true⟩, ⟨4, [137], true⟩, ⟨5, [138], true⟩, ⟨6, [139], true⟩, ⟨7, [5, 140], true⟩, ⟨8, [140, 141], true⟩, ⟨9, [7, 140], true⟩, ⟨10, [140, 142, 143], true⟩, ⟨11, [140, 144], true⟩, ⟨12, [1, 140], true⟩, ⟨13, [140, 146], true⟩, ⟨14, [140, 145, 147], true⟩, ⟨15, [140, 148], true⟩, ⟨16, [149], true⟩, ⟨17, [5, 150], true⟩, ⟨18, [150, 151], true⟩, ⟨19, [7, 150], true⟩, ⟨20, [150, 152, 153], true⟩, ⟨21, [150, 154], true⟩, ⟨22, [1, 150], true⟩, ⟨23, [150, 156], true⟩, ⟨24, [150, 157], true⟩, ⟨25, [150, 158], true⟩, ⟨26, [150, 155, 159], true⟩, ⟨27, [150, 160], true⟩] rfl (by kernel_rfl) ?_
   refine Mf rfl rfl (step_fieldAddr so38 Sr rfl) (Mf rfl rfl (step_load_ptr ty36 Sr) (Mv rfl rfl ?_))
   refine Mf rfl rfl (step_indexAddr_sl (i := k) underlying36 ty3 Sr Sr (by rfl) (gb (by exact hkt))) ?_
   refine Mf rfl rfl (step_load_ptr ty3 Sr) (Mf rfl rfl (step_lss Sr Sr) (Mv rfl rfl ?_))
   refine Mk rfl rfl Sr rfl (step_fieldAddr so38 Sr rfl) ?_
   refine Mg rfl rfl Sr rfl (fun hw => step_load_ptr ty36 (Sub.w hw)) ?_
   refine Mk rfl rfl Sr rfl (step_move Sr) ?_
   refine Mg rfl rfl Sr rfl (fun hw => step_indexAddr_sl (i := k) underlying36 ty3 (Sub.w hw) (Sub.w hw) (by rfl) (gb (by have hwq := hw; (try simp only [beqB_t, beqB_f, NF] at hwq); show k < (nth q.Atoms i).Terms.length; omega))) ?_
   refine Mg rfl rfl Sr rfl (fun hw => step_load_ptr ty3 (Sub.w hw)) ?_
   refine Mk rfl rfl Sr rfl (step_fieldAddr so25 Sr rfl) ?_
   refine Mg rfl rfl Sr rfl (fun hw => step_load_ptr ty3 (Sub.w hw)) (Mg rfl rfl Sr rfl (fun hw => step_geq (Sub.w hw) (Sub.w hw)) (Mf rfl rfl (step_pick_or Sr Sr) (Mv rfl rfl ?_)))
   refine Mk rfl rfl Sr rfl (step_fieldAddr so38 Sr rfl) ?_
   refine Mg rfl rfl Sr rfl (fun hw => step_load_ptr ty36 (Sub.w hw)) ?_
   refine Mk rfl rfl Sr rfl (step_move Sr) ?_
   refine Mg rfl rfl Sr rfl (fun hw => step_indexAddr_sl (i := k) underlying36 ty3 (Sub.w hw) (Sub.w hw) (by rfl) (gb (by have hwq := hw; (try simp only [beqB_t, beqB_f, NF] at hwq); show k < (nth q.Atoms i).Terms.length; omega))) ?_
   refine Mg rfl rfl Sr rfl (fun hw => step_load_ptr ty3 (Sub.w hw)) ?_
   refine Mk rfl rfl Sr rfl (step_fieldAddr so25 Sr rfl) ?_
   refine Mg rfl rfl Sr rfl (fun hw => step_load_ptr ty22 (Sub.w hw)) (Mg rfl rfl Sr rfl (fun hw => step_len_sl underlying22 (Sub.w hw)) ?_)
   refine Mg rfl rfl Sr rfl (fun hw => step_neg (Sub.w hw) (by show in64 (-(q.Consts.length : Int)); unfold in64; omega)) ?_
   refine Mg rfl rfl Sr rfl (fun hw => step_lss (Sub.w hw) (Sub.w hw)) (Mf rfl rfl (step_pick_or Sr Sr) (JM_nil ?_))
   refine J_cond Sr (fun h161 => ?_) (fun h161 => ?_)
   ·
    try simp only [NF] at h161
    refine Jr (Ja rfl (JL_nil (J_ret ?_)))
    refine K_ret1' (rv := .tmp 2) rfl () (Sel.all _) (.tmp Sr) (Frz.sub (Sub.bool ?_))
    rw [eq_comm]
    refine valid_noA hat (okA_no3 hkt (okK_no1 fun hh => ?_))
    obtain ⟨hh0, hh1, hh2⟩ := hh
    omega
   try simp only [NF] at h161
   refine J_skip (Jr (Ja rfl (JL_nil (J_block ?_))))
   refine J_loopL (σ := Nat) (fun m => m ≤ k ∧ ∀ j, j < m → nth (nth q.Atoms i).Cols j ≠ nth (nth q.Atoms i).Cols k) (fun m => upd (upd (upd (upd (upd (upd (upd (upd (upd (upd env0 1 (tPtr rConj q)) 4 (tV (.int .i64 i))) 5 (tPtr rAtom (nth q.Atoms i))) 7 (tV (.int .i64 k))) 8 (tV (.int .i64 m))) 64 (tV (.int .i64 i))) 73 (tV (.int .i64 i))) 114 (tV (.int .i64 i))) 127 (tV (.int .i64 k))) 136 (tV (.int .i64 k))) (fun m => []) (fun m => k - m) 0 ⟨Nat.zero_le _, fun k hk => by omega⟩ (zU) (LSub.rfl) ?_
   rintro m ⟨hm, hy⟩
   refine J_seq (Jr (Jm rfl (Jm rfl (Js rfl (step_lss Sr Sr) (JL_nil ?_)))))
   refine J_cond Sr (fun h164 => ?_) (fun h164 => ?_)
   ·
    try simp only [NF] at h164
    have hmt : m < (nth q.Atoms i).Cols.length := by omega
    refine J_skip (J_seq (J_block (J_seq ?_)))
    refine J_draw [⟨0, [5], true⟩, ⟨1, [167], true⟩, ⟨2, [8], true⟩, ⟨3, [168, 169], true⟩, ⟨4, [170], true⟩, ⟨5, [5], true⟩, ⟨6, [172], true⟩, ⟨7, [7], true⟩, ⟨8, [173, 174], true⟩, ⟨9, [175], true⟩, ⟨10, [171, 176], true⟩] rfl (by kernel_rfl) ?_
    refine Mf rfl rfl (step_fieldAddr so38 Sr rfl) (Mf rfl rfl (step_load_ptr ty36 Sr) (Mv rfl rfl ?_))
    refine Mf rfl rfl (step_indexAddr_sl (i := m) underlying36 ty3 Sr Sr (by rfl) (gb (by exact hmt))) ?_
    refine Mf rfl rfl (step_load_ptr ty3 Sr) (Mf rfl rfl (step_fieldAddr so38 Sr rfl) (Mf rfl rfl (step_load_ptr ty36 Sr) (Mv rfl rfl ?_)))
    refine Mf rfl rfl (step_indexAddr_sl (i := k) underlying36 ty3 Sr Sr (by rfl) (gb (by exact hkt))) ?_
    refine Mf rfl rfl (step_load_ptr ty3 Sr) (Mf rfl rfl (step_eql Sr Sr) (JM_nil ?_))
    refine J_cond Sr (fun h177 => ?_) (fun h177 => ?_)
    ·
     try simp only [NF] at h177
     refine Jr (Ja rfl (JL_nil (J_ret ?_)))
     refine K_ret1' (rv := .tmp 2) rfl () (Sel.all _) (.tmp Sr) (Frz.sub (Sub.bool ?_))
     rw [eq_comm]
     exact valid_noA hat (okA_no3 hkt (okK_no2 zG hkt h177))
    try simp only [NF] at h177
    refine J_skip (J_region (Jm rfl (Js rfl (step_add Sr Sr z6) (Ja rfl (JL_nil ?_)))))
    refine K_againL (σ := Nat) (s := m) (m + 1) zO ?_ (zU) (LSub.rfl)
    refine ⟨by omega, fun j hj => ?_⟩
    by_cases e : j = m
    ·
     subst e; exact h177
    exact hy j zG
   try simp only [NF] at h164
   refine J_exit (J_region (Jm rfl (Js rfl (step_add Sr Sr z6) (Ja rfl (JL_nil ?_)))))
   refine K_againL (σ := Nat) (s := k) (k + 1) zO ?_ (zU) (LSub.rfl)
   refine ⟨by omega, fun j hj => ?_⟩
   by_cases e : j = k
   ·
    subst e; exact okK_yes hkt zG zG zG (fun m2 hm2 => hy m2 zG)
   exact hx j zG
  try simp only [NF] at h131
  refine J_exit (J_region (Jm rfl (Js rfl (step_add Sr Sr z6) (Ja rfl (JL_nil ?_)))))
  refine K_againL (σ := Nat) (s := i) (i + 1) zO ?_ (zU) (LSub.rfl)
  refine ⟨by omega, fun j hj => ?_⟩
  by_cases e : j = i
  ·
   subst e; exact okA_yes hat htb hsh htn (fun k2 hk2 => hx k2 zG)
  exact hva j zG
 try simp only [NF] at h68
 refine J_exit (Jr (Ja rfl (JL_nil (J_ret ?_))))
 refine K_ret1' (rv := .tmp 2) rfl () (Sel.all _) (.tmp Sr) (Frz.sub (Sub.bool ?_))
 rw [eq_comm]
 exact valid_of hvb hcs (fun j hj => hva j zG)
open Go Go.Proofs Go.Proofs.Tryz
theorem terms_lt {q : GConj} (hq : validQ q = true) {a : GAtom} (ha : a ∈ q.Atoms) : ∀ t ∈ a.Terms, t < q.Vars := by
  intro t ht
  have h := valid_cols hq ha
  obtain ⟨k, hk, rfl⟩ := List.getElem_of_mem ht
  have := (h.2.2.2.2 k (by rw [← h.2.1]; exact hk)).2.1
  rwa [nth_get hk] at this
/-! Attacks -/
open Classical in
theorem ed_att {q : GConj} {u v : Nat} : ed (attL q) u v ↔ u < q.Atoms.length ∧ v < q.Atoms.length ∧ RcQ q u v ∧ v ≠ u := by
  rw [ed_iff]
  by_cases hu : u < q.Atoms.length
  · rw [attL_nth q hu, attB_len]
    constructor
    · rintro ⟨hv, h⟩
      unfold attB at h
      rw [nth_get (by simpa using hv)] at h
      simp at h
      exact ⟨hu, hv, h⟩
    · rintro ⟨_, hv, h⟩
      refine ⟨hv, ?_⟩
      unfold attB
      rw [nth_get (by simpa using hv)]
      simpa using h
  · constructor
    · rintro ⟨h1, h2⟩
      exfalso
      have h0 : ∀ (l : List (List Bool)) (v : Nat), l.length ≤ v → nth l v = [] := by
        intro l
        induction l with
        | nil => intro v _; cases v <;> rfl
        | cons a l ih => intro v hv; obtain ⟨w, rfl⟩ : ∃ w, v = w + 1 := ⟨v - 1, by simp at hv; omega⟩; exact ih w (by simpa using hv)
      rw [h0 _ u (by rw [attL_len]; omega)] at h1
      simp at h1
    · rintro ⟨h, _⟩; exact absurd h hu
theorem first_cycle {q : GConj} (h : firstM q = false) : Cycle (attL q) := by
  unfold firstM at h
  have h : (cycAll (attL q) (q.Atoms.length + 1) (List.range q.Atoms.length) (List.replicate q.Atoms.length 0)).1 = true := by simpa using h
  have hn : ∀ v, nth (List.replicate q.Atoms.length (0 : Int)) v = 0 := by
    intro v
    by_cases hv : v < q.Atoms.length
    · rw [nth_get (by simpa using hv)]; simp
    · have : ∀ (n v : Nat), n ≤ v → nth (List.replicate n (0 : Int)) v = 0 := by
        intro n
        induction n with
        | zero => intro v _; cases v <;> rfl
        | succ n ih => intro v hv; obtain ⟨w, rfl⟩ : ∃ w, v = w + 1 := ⟨v - 1, by omega⟩; exact ih w (by omega)
      exact this _ _ (by omega)
  have F : Fits (attL q) (List.replicate q.Atoms.length (0 : Int)) [] := ⟨fun v => by rw [hn]; simp, fun pre v post e => by simp at e, fun v => .inl (hn v)⟩
  refine cycAll_true (attL q) _ _ _ [] F (fun f hf => by rw [List.length_replicate]; exact List.mem_range.1 hf) (fun v g hv => ?_) ?_ (fun v => by rw [hn]; decide) h
  · rw [List.length_replicate]; exact (ed_att.1 hv).2.1
  · unfold zeros
    have := List.count_le_length (a := (0 : Int)) (l := List.replicate q.Atoms.length (0 : Int))
    simp at this ⊢
open Go Go.Proofs Go.Proofs.Tryz
def varsM (n : Int) (ts : List Int) : List Bool := (List.range n.toNat).map fun (v : Nat) => decide ((v : Int) ∈ ts)
theorem varsM_len (n : Int) (ts : List Int) : (varsM n ts).length = n.toNat := by simp [varsM]
theorem varsM_nth {n : Int} {ts : List Int} {v : Nat} (h : v < n.toNat) : nth (varsM n ts) v = decide ((v : Int) ∈ ts) := nth_range_map h
theorem varsM_nil (n : Int) : varsM n [] = List.replicate n.toNat false := list_ext (by simp [varsM]) fun i hi => by
  rw [varsM_len] at hi
  rw [varsM_nth hi, nth_get (l := List.replicate n.toNat false) (by simpa using hi)]; simp
theorem varsM_set {n : Int} {ts : List Int} {i : Nat} (hi : i < ts.length) (h0 : 0 ≤ nth ts i) (h1 : nth ts i < n) : (varsM n (ts.take i)).set (nth ts i).toNat true = varsM n (ts.take (i + 1)) := list_ext (by simp [varsM_len]) fun j hj => by
  rw [List.length_set, varsM_len] at hj
  rw [Lg.nth_set (by rw [varsM_len]; exact hj), varsM_nth hj, varsM_nth hj, takeB hi]
  by_cases e : (nth ts i).toNat = j
  · rw [if_pos e]
    have : (j : Int) = nth ts i := by omega
    simp [this]
  · rw [if_neg e]
    have : (j : Int) ≠ nth ts i := by omega
    simp [this]
theorem varsM_neg {n : Int} {ts : List Int} {i : Nat} (hi : i < ts.length) (h0 : nth ts i < 0) : varsM n (ts.take (i + 1)) = varsM n (ts.take i) := list_ext (by simp [varsM_len]) fun j hj => by
  rw [varsM_len] at hj
  rw [varsM_nth hj, varsM_nth hj, takeB hi]
  have : (j : Int) ≠ nth ts i := by omega
  simp [this]
def withinM (a b : List Bool) : Bool := (List.range a.length).all fun i => !nth a i || nth b i
def orM (out all : List Bool) (v : Nat) : List Bool := (List.range out.length).map fun u => nth out u || (decide (u < v) && nth all u)
theorem orM_len (out all : List Bool) (v : Nat) : (orM out all v).length = out.length := by simp [orM]
theorem orM_nth {out all : List Bool} {v u : Nat} (h : u < out.length) : nth (orM out all v) u = (nth out u || (decide (u < v) && nth all u)) := nth_range_map h
theorem orM_zero (out all : List Bool) : orM out all 0 = out := list_ext (orM_len _ _ _) fun i hi => by rw [orM_len] at hi; rw [orM_nth hi]; simp
theorem orM_succ {out all : List Bool} {v : Nat} (hv : v < out.length) : (orM out all v).set v (nth (orM out all v) v || nth all v) = orM out all (v + 1) := list_ext (by simp [orM_len]) fun j hj => by
  rw [List.length_set, orM_len] at hj
  rw [Lg.nth_set (by rw [orM_len]; exact hj), orM_nth hv, orM_nth hj, orM_nth hj]
  by_cases e : v = j
  · subst e; simp
  · rw [if_neg e]
    have : (j < v + 1) ↔ (j < v) := by omega
    simp [this]
def clStep (q : GConj) (w : Int) (out : List Bool) (i : Nat) : List Bool := if (i : Int) = w ∨ withinM (varsM q.Vars (keyT q i)) out = false then out else orM out (varsM q.Vars (nth q.Atoms i).Terms) q.Vars.toNat
def rndM (q : GConj) (w : Int) (out : List Bool) (n : Nat) : List Bool := (List.range n).foldl (clStep q w) out
def closedM (q : GConj) (w : Int) (set : List Bool) : Nat → List Bool
  | 0 => set
  | n + 1 => rndM q w (closedM q w set n) q.Atoms.length
theorem rnd_succ (q : GConj) (w : Int) (out : List Bool) (n : Nat) : rndM q w out (n + 1) = clStep q w (rndM q w out n) n := by unfold rndM; rw [List.range_succ, List.foldl_append]; rfl
theorem clStep_len (q : GConj) (w : Int) (out : List Bool) (i : Nat) : (clStep q w out i).length = out.length := by unfold clStep; split; rfl; exact orM_len _ _ _
theorem rnd_len (q : GConj) (w : Int) (out : List Bool) : ∀ n, (rndM q w out n).length = out.length
  | 0 => rfl
  | n + 1 => by rw [rnd_succ, clStep_len, rnd_len q w out n]
theorem closed_len (q : GConj) (w : Int) (set : List Bool) : ∀ n, (closedM q w set n).length = set.length
  | 0 => rfl
  | n + 1 => by show (rndM _ _ _ _).length = _; rw [rnd_len, closed_len q w set n]
structure AtV (q : GConj) (i : Nat) : Prop where
  tl : (nth q.Atoms i).Terms.length ≤ 12
  k0 : 0 ≤ (nth q.Atoms i).Key
  kt : (nth q.Atoms i).Key.toNat ≤ (nth q.Atoms i).Terms.length
  up : ∀ t ∈ (nth q.Atoms i).Terms, t < q.Vars
theorem at_v {q : GConj} (hq : validQ q = true) {i : Nat} (hi : i < q.Atoms.length) : AtV q i := by
  obtain ⟨h1, h2, h3, h4, h5⟩ := valid_cols hq (nth_mem hi)
  refine ⟨by omega, by omega, by omega, fun t ht => ?_⟩
  obtain ⟨k, hk, rfl⟩ := List.getElem_of_mem ht
  rw [← nth_get hk]
  exact (h5 k (by omega)).2.1
/-! Attacks -/
def lnkR (q : GConj) (plus : List Bool) (g h : Nat) (n : Nat) : Bool := (List.range n).any fun v => (nth (varsM q.Vars (nth q.Atoms g).Terms) v && nth (varsM q.Vars (nth q.Atoms h).Terms) v) && !nth plus v
def rowR (q : GConj) (plus : List Bool) (g : Nat) (r : List Bool) (n : Nat) : List Bool := (List.range n).foldl (fun r h => r.set h (nth r h || lnkR q plus g h q.Vars.toNat)) r
def rcStep (q : GConj) (plus : List Bool) (r : List Bool) (g : Nat) : List Bool := if nth r g = true then rowR q plus g r q.Atoms.length else r
def rcRnd (q : GConj) (plus : List Bool) (r : List Bool) (n : Nat) : List Bool := (List.range n).foldl (rcStep q plus) r
def reachM (q : GConj) (plus : List Bool) (r : List Bool) : Nat → List Bool
  | 0 => r
  | n + 1 => rcRnd q plus (reachM q plus r n) q.Atoms.length
theorem row_succ (q : GConj) (plus : List Bool) (g : Nat) (r : List Bool) (n : Nat) : rowR q plus g r (n + 1) = (rowR q plus g r n).set n (nth (rowR q plus g r n) n || lnkR q plus g n q.Vars.toNat) := by unfold rowR; rw [List.range_succ, List.foldl_append]; rfl
theorem row_len (q : GConj) (plus : List Bool) (g : Nat) (r : List Bool) : ∀ n, (rowR q plus g r n).length = r.length
  | 0 => rfl
  | n + 1 => by rw [row_succ, List.length_set, row_len q plus g r n]
theorem rcStep_len (q : GConj) (plus : List Bool) (r : List Bool) (g : Nat) : (rcStep q plus r g).length = r.length := by unfold rcStep; split; exact row_len _ _ _ _ _; rfl
theorem rc_succ (q : GConj) (plus : List Bool) (r : List Bool) (n : Nat) : rcRnd q plus r (n + 1) = rcStep q plus (rcRnd q plus r n) n := by unfold rcRnd; rw [List.range_succ, List.foldl_append]; rfl
theorem rc_len (q : GConj) (plus : List Bool) (r : List Bool) : ∀ n, (rcRnd q plus r n).length = r.length
  | 0 => rfl
  | n + 1 => by rw [rc_succ, rcStep_len, rc_len q plus r n]
theorem reach_len (q : GConj) (plus : List Bool) (r : List Bool) : ∀ n, (reachM q plus r n).length = r.length
  | 0 => rfl
  | n + 1 => by show (rcRnd _ _ _ _).length = _; rw [rc_len, reach_len q plus r n]
theorem row_mono (q : GConj) (plus : List Bool) (g : Nat) (r : List Bool) (j : Nat) (hj : j < r.length) (h : nth r j = true) : ∀ n, nth (rowR q plus g r n) j = true
  | 0 => h
  | n + 1 => by
    rw [row_succ, Lg.nth_set (by rw [row_len]; exact hj)]
    have := row_mono q plus g r j hj h n
    split
    · rename_i e; subst e; rw [this]; rfl
    · exact this
theorem lnk_succ (q : GConj) (plus : List Bool) (g h n : Nat) : lnkR q plus g h (n + 1) = (lnkR q plus g h n || ((nth (varsM q.Vars (nth q.Atoms g).Terms) n && nth (varsM q.Vars (nth q.Atoms h).Terms) n) && !nth plus n)) := by
  unfold lnkR; rw [List.range_succ, List.any_append]; simp
theorem set_or {r : List Bool} {h : Nat} (hh : h < r.length) (a b : Bool) : (r.set h (nth r h || a)).set h (nth (r.set h (nth r h || a)) h || b) = r.set h (nth r h || (a || b)) := by
  rw [List.set_set, Lg.nth_set hh, if_pos rfl, Bool.or_assoc]
theorem set_same {r : List Bool} {h : Nat} (hh : h < r.length) : r.set h (nth r h || false) = r := list_ext (by simp) fun i hi => by
  rw [List.length_set] at hi
  rw [Lg.nth_set hi]
  split
  · rename_i e; subst e; simp
  · rfl
def plusM (q : GConj) (f : Nat) : List Bool := closedM q f (varsM q.Vars (keyT q f)) q.Atoms.length
def attR (q : GConj) (f : Nat) : List Bool := (reachM q (plusM q f) ((List.replicate q.Atoms.length false).set f true) q.Atoms.length).set f false
/-! First order -/
def frS (l : List (List Bool)) (gone : List Bool) (f n : Nat) : Bool := (List.range n).all fun g => !nth (nth l g) f || nth gone g
def gnRnd (l : List (List Bool)) (gone : List Bool) (n : Nat) : List Bool := (List.range n).foldl (fun r f => r.set f (nth r f || frS l r f l.length)) gone
def goneM (l : List (List Bool)) : Nat → List Bool
  | 0 => List.replicate l.length false
  | n + 1 => gnRnd l (goneM l n) l.length
theorem gn_succ (l : List (List Bool)) (gone : List Bool) (n : Nat) : gnRnd l gone (n + 1) = (gnRnd l gone n).set n (nth (gnRnd l gone n) n || frS l (gnRnd l gone n) n l.length) := by unfold gnRnd; rw [List.range_succ, List.foldl_append]; rfl
theorem gn_len (l : List (List Bool)) (gone : List Bool) : ∀ n, (gnRnd l gone n).length = gone.length
  | 0 => rfl
  | n + 1 => by rw [gn_succ, List.length_set, gn_len l gone n]
theorem gone_len (l : List (List Bool)) : ∀ n, (goneM l n).length = l.length
  | 0 => by simp [goneM]
  | n + 1 => by show (gnRnd _ _ _).length = _; rw [gn_len, gone_len l n]
theorem fr_succ (l : List (List Bool)) (gone : List Bool) (f n : Nat) : frS l gone f (n + 1) = (frS l gone f n && (!nth (nth l n) f || nth gone n)) := by
  unfold frS; rw [List.range_succ, List.all_append]; simp
def allGone (l : List (List Bool)) : Bool := (List.range l.length).all (nth (goneM l l.length))
theorem rVars_spec (q : GConj) (ts : List Int) (hz0 : 0 ≤ q.Vars) (hv : q.Vars ≤ 1000) (hl : ts.length ≤ 1000) (hb : ∀ t ∈ ts, t < q.Vars) : Fun1 prog 73 [rConj.ty q, tSl rInt ts] (tSl rBool (varsM q.Vars ts)) := by
 refine Spec.enter func73 rfl rfl fun h0 w0 fr0 => ?_
 refine Jr (Js rfl (step_box (R := rConj) Sr) (Ja rfl (JL_nil (Jr (Js rfl (step_fieldAddr so25 Sr rfl) ?_)))))
 refine Jl rfl ty3 Sr ?_
 refine Jx rfl (step_make (n := q.Vars.toNat) underlying35 el4 Sr Sr (by show q.Vars = _; omega) zG zG) fun v9 => ?_
 refine Ja rfl (JL_nil (J_seq (Jr (Ja rfl (JL_nil ?_)))))
 refine J_block ?_
 refine J_loopL (σ := Nat) (fun i => i ≤ ts.length) (fun i => upd (upd (upd (upd env0 1 (tSl rInt ts)) 4 (tV (.slice none 0 0))) 5 (rV.ty v9)) 6 (tV (.int .i64 i))) (fun i => [own 4 rBool v9 (varsM q.Vars (ts.take i))]) (fun i => ts.length - i) 0 (Nat.zero_le _) (zU) (.c zS (SPs.of (by rw [List.take_zero, varsM_nil])) (LSub.nil)) ?_
 rintro i hi
 refine J_seq (Jr (Jm rfl (Jm rfl (Js rfl (step_len_sl underlying36 Sr) (Js rfl (step_lss Sr Sr) ?_)))))
 refine JL_nil ?_
 refine J_cond Sr (fun h13 => ?_) (fun h13 => ?_)
 ·
  try simp only [NF] at h13
  have hlt : i < ts.length := by omega
  have hbi := hb _ (nth_mem hlt)
  refine J_skip (J_seq (J_block (Jr (Jm rfl (Jm rfl ?_)))))
  refine Js rfl (step_indexAddr_sl (i := i) underlying36 ty3 Sr Sr (by rfl) (gb (by exact hlt))) ?_
  refine Jl rfl ty3 Sr (Js rfl (step_geq Sr Sr) (JL_nil ?_))
  refine J_cond Sr (fun h20 => ?_) (fun h20 => ?_)
  ·
   try simp only [NF] at h20
   refine J_region (Jm rfl (Jm rfl (Jm rfl ?_)))
   refine Js rfl (step_indexAddr_sl (i := i) underlying36 ty3 Sr Sr (by rfl) (gb (by exact hlt))) ?_
   refine Jl rfl ty3 Sr ?_
   refine Js rfl (step_indexAddr_own (i := (nth ts i).toNat) underlying35 ty4 Sr zS Sr zG (by rw [varsM_len]; omega)) ?_
   refine Ju (step_store_own ty4 Sr Sr zS (by rw [varsM_len]; omega)) fun _ => ?_
   refine JL_nil (J_region (Jm rfl (Js rfl (step_add Sr Sr z6) (Ja rfl (JL_nil ?_)))))
   refine K_againL (σ := Nat) (s := i) (i + 1) zO hlt (zU) (.c zS (SPs.of (by rw [varsM_set hlt h20 hbi])) (LSub.nil))
  try simp only [NF] at h20
  refine J_skip (J_region (Jm rfl (Js rfl (step_add Sr Sr z6) (Ja rfl (JL_nil ?_)))))
  refine K_againL (σ := Nat) (s := i) (i + 1) zO hlt (zU) (.c zS (SPs.of (by rw [varsM_neg hlt h20])) (LSub.nil))
 try simp only [NF] at h13
 refine J_exit (Jr (Jm rfl (Ja rfl (JL_nil (J_ret ?_)))))
 refine K_ret1' (rv := .tmp 4) rfl () (Sel.all _) (.tmp Sr) (Frz.own' (by rw [List.take_of_length_le zG]))
theorem rWithin_spec (a b : List Bool) (hl : a.length ≤ b.length) (hb : b.length ≤ 1000) : Fun1 prog 125 [tSl rBool a, tSl rBool b] (tV (.bool (withinM a b))) := by
 refine Spec.enter func125 rfl rfl fun h0 w0 fr0 => ?_
 refine Jr (Ja rfl (JL_nil (J_seq (Jr (Ja rfl ?_)))))
 refine JL_nil (J_block ?_)
 refine J_loopL (σ := Nat) (fun i => i ≤ a.length ∧ ∀ t, t < i → (!nth a t || nth b t) = true) (fun i => upd (upd (upd env0 0 (tSl rBool a)) 1 (tSl rBool b)) 5 (tV (.int .i64 i))) (fun i => []) (fun i => a.length - i) 0 ⟨Nat.zero_le _, fun t ht => absurd ht (Nat.not_lt_zero _)⟩ (zU) (LSub.rfl) ?_
 rintro i ⟨hi, hv⟩
 refine J_seq (Jr (Jm rfl (Jm rfl (Js rfl (step_len_sl underlying35 Sr) (Js rfl (step_lss Sr Sr) ?_)))))
 refine JL_nil ?_
 refine J_cond Sr (fun h9 => ?_) (fun h9 => ?_)
 ·
  try simp only [NF] at h9
  have hlt : i < a.length := by omega
  refine J_skip (J_seq (J_block (Jr (Jm rfl (Jm rfl ?_)))))
  refine Js rfl (step_indexAddr_sl (i := i) underlying35 ty4 Sr Sr (by rfl) (gb (by exact hlt))) ?_
  refine Jl rfl ty4 Sr (Jm rfl ?_)
  refine Jk rfl Sr rfl (step_move Sr) ?_
  refine Jk rfl Sr rfl (step_move Sr) ?_
  refine Jg rfl Sr rfl (fun hw => step_indexAddr_sl (i := i) underlying35 ty4 (Sub.w hw) (Sub.w hw) (by rfl) (gb (by have hwq := hw; (try simp only [beqB_t, beqB_f, NF] at hwq); show i < b.length; omega))) ?_
  refine Jg rfl Sr rfl (fun hw => step_load_ptr ty4 (Sub.w hw)) (Jg rfl Sr rfl (fun hw => step_not (Sub.w hw)) (Js rfl (step_pick_and Sr Sr) (JL_nil ?_)))
  refine J_cond Sr (fun h22 => ?_) (fun h22 => ?_)
  ·
   try simp only [NF] at h22
   refine Jr (Ja rfl (JL_nil (J_ret ?_)))
   refine K_ret1 (t := 4) rfl () ?_
   refine Sub.bool ?_
   symm; exact rall_f (f := fun i => !nth a i || nth b i) hlt (by rw [h22.1, h22.2]; rfl)
  try simp only [NF] at h22
  refine J_skip (J_region (Jm rfl (Js rfl (step_add Sr Sr z6) (Ja rfl (JL_nil ?_)))))
  refine K_againL (σ := Nat) (s := i) (i + 1) zO ?_ (zU) (LSub.rfl)
  refine ⟨hlt, fun t ht => ?_⟩
  by_cases e : t = i
  ·
   subst e; rcases h22 with h22 | h22 <;> rw [h22] <;> simp
  exact hv t zG
 try simp only [NF] at h9
 refine J_exit (Jr (Ja rfl (JL_nil (J_ret ?_))))
 refine K_ret1 (t := 4) rfl () ?_
 refine Sub.bool ?_
 symm; exact rall_t fun t ht => hv t zG
set_option maxHeartbeats 4000000 in
theorem rClosed_spec (q : GConj) (hq : validQ q = true) (w : Int) (set : List Bool) (hl : set.length = q.Vars.toNat) : Fun1 prog 72 [rConj.ty q, tV (.int .i64 w), tSl rBool set] (tSl rBool (closedM q w set q.Atoms.length)) := by
 refine Spec.enter func72 rfl rfl fun h0 w0 fr0 => ?_
 have hvb := valid_bounds hq
 refine Jr (Js rfl (step_box (R := rConj) Sr) (Ja rfl (JL_nil (Jr ?_))))
 refine Jx rfl (step_literal_own (ys := []) underlying35 el4 trivial rfl (by decide)) fun u13 => ?_
 refine Jm rfl ?_
 refine Jx rfl (step_append underlying35 el4 Sr Sr zS (by simp; omega) (by simp; omega)) fun u15 => ?_
 refine Ja rfl (JL_nil (J_seq (Jr (Ja rfl (JL_nil ?_)))))
 refine J_block ?_
 refine J_loopL (σ := Nat) (fun n => n ≤ q.Atoms.length) (fun n => upd (upd (upd (upd (upd env0 1 (tV (.int .i64 w))) 3 (tPtr rConj q)) 6 (tV (.slice none 0 0))) 7 (rV.ty u15)) 8 (tV (.int .i64 n))) (fun n => [own 4 rBool u15 (closedM q w set n)]) (fun n => q.Atoms.length - n) 0 (Nat.zero_le _) (zU) (.c zS (SPs.of rfl) (LSub.nil)) ?_
 rintro n hi
 refine J_seq (Jr (Jm rfl (Js rfl (step_fieldAddr so25 Sr rfl) (Jl rfl ty23 Sr (Js rfl (step_len_sl underlying23 Sr) ?_)))))
 refine Js rfl (step_lss Sr Sr) (JL_nil ?_)
 refine J_cond Sr (fun h20 => ?_) (fun h20 => ?_)
 ·
  try simp only [NF] at h20
  have hnt : n < q.Atoms.length := by omega
  refine J_skip (J_seq (J_block (Jr (Ja rfl (JL_nil ?_)))))
  refine J_block ?_
  refine J_loopL (σ := Nat) (fun i => i ≤ q.Atoms.length) (fun i => upd (upd (upd (upd (upd (upd (upd env0 1 (tV (.int .i64 w))) 3 (tPtr rConj q)) 6 (tV (.slice none 0 0))) 7 (rV.ty u15)) 8 (tV (.int .i64 n))) 9 (tV (.int .i64 i))) 16 (tV (.int .i64 n))) (fun i => [own 4 rBool u15 (rndM q w (closedM q w set n) i)]) (fun i => q.Atoms.length - i) 0 (Nat.zero_le _) (zU) (.c zS (SPs.of rfl) (LSub.nil)) ?_
  rintro i hi
  refine J_seq (Jr (Jm rfl (Js rfl (step_fieldAddr so25 Sr rfl) (Jl rfl ty23 Sr (Js rfl (step_len_sl underlying23 Sr) ?_)))))
  refine Js rfl (step_lss Sr Sr) (JL_nil ?_)
  refine J_cond Sr (fun h27 => ?_) (fun h27 => ?_)
  ·
   try simp only [NF] at h27
   have hit : i < q.Atoms.length := by omega
   have hav := at_v hq hit
   have htl := hav.tl
   have hk0 := hav.k0
   have hkt := hav.kt
   refine J_skip (J_seq (J_block (Jr (Js rfl (step_fieldAddr so25 Sr rfl) (Jl rfl ty23 Sr ?_)))))
   refine Jm rfl ?_
   refine Js rfl (step_indexAddr_sl (i := i) underlying23 ty38 Sr Sr (by rfl) (gb (by show i < q.Atoms.length; exact hit))) ?_
   refine Jl rfl ty38 Sr ?_
   refine Jx rfl (step_alloc (fun w => zeroValue38 w) zr38) fun v10 => ?_
   refine Ju (step_store_box ty38 Sr Sr zS) fun _ => ?_
   refine JL_freeze (t := 10) (Sel.take (Sel.none _)) Frz.box ?_
   refine JL_nil (J_seq (J_seq ?_))
   refine J_draw [⟨0, [9], true⟩, ⟨1, [1], true⟩, ⟨2, [35, 36], true⟩, ⟨3, [37], true⟩, ⟨4, [3, 38], true⟩, ⟨5, [10, 38], true⟩, ⟨6, [38, 40], true⟩, ⟨7, [10, 38], true⟩, ⟨8, [38, 42], true⟩, ⟨9, [38, 41, 43], true⟩, ⟨10, [38, 39, 44], true⟩, ⟨11, [7, 38], true⟩, ⟨12, [38, 45, 46], false⟩, ⟨13, [38, 47], true⟩, ⟨14, [38, 48], true⟩] rfl (by kernel_rfl) ?_
   refine Mv rfl rfl (Mv rfl rfl (Mf rfl rfl (step_eql Sr Sr) (Mv rfl rfl ?_)))
   refine Mk rfl rfl Sr rfl (step_load_ptr ty25 Sr) ?_
   refine Mk rfl rfl Sr rfl (step_fieldAddr so38 Sr rfl) ?_
   refine Mg rfl rfl Sr rfl (fun hw => step_load_ptr ty36 (Sub.w hw)) ?_
   refine Mk rfl rfl Sr rfl (step_fieldAddr so38 Sr rfl) ?_
   refine Mg rfl rfl Sr rfl (fun hw => step_load_ptr ty3 (Sub.w hw)) ?_
   refine Mg rfl rfl Sr rfl (fun hw => step_slice_toI (n := (nth q.Atoms i).Key.toNat) underlying36 ty3 (Sub.w hw) (Sub.w hw) (by have hwq := hw; (try simp only [beqB_t, beqB_f, NF] at hwq); show (nth q.Atoms i).Key = _; omega) (by have hwq := hw; (try simp only [beqB_t, beqB_f, NF] at hwq); show _ ≤ (nth q.Atoms i).Terms.length; omega)) ?_
   refine Mg rfl rfl Sr rfl (fun hw => step_call0 (rVars_spec q (keyT q i) hvb.1 zG (by rw [List.length_take]; omega) (fun t ht => hav.up t (List.mem_of_mem_take ht))) ⟨(Sub.w hw), (Sub.w hw), trivial⟩ call73) ?_
   refine Mk rfl rfl Sr rfl (step_move Sr) ?_
   refine JM_lookG rfl rfl rfl rfl (Gd.plain Sr) rfl rfl (fun hw => step_call_look zS (rWithin_spec (varsM q.Vars (keyT q i)) (rndM q w (closedM q w set n) i) (by rw [varsM_len, rnd_len, closed_len]; omega) (by rw [rnd_len, closed_len]; omega)) (fun _ => Flat.v _) ⟨(Frz.sub (Sub.w hw)), (Frz.w hw Frz.own), trivial⟩ call125) ?_
   refine Mg rfl rfl Sr rfl (fun hw => step_not (Sub.w hw)) (Mf rfl rfl (step_pick_or Sr Sr) (JM_nil ?_))
   refine J_cond Sr (fun h49 => ?_) (fun h49 => ?_)
   ·
    try simp only [NF] at h49
    refine J_exit (J_region (Jm rfl (Js rfl (step_add Sr Sr z6) (Ja rfl (JL_nil ?_)))))
    refine K_againL (σ := Nat) (s := i) (i + 1) zO hit (zU) (.c zS (SPs.of (by rw [rnd_succ, clStep, if_pos h49])) (LSub.nil))
   try simp only [NF] at h49
   refine J_skip (Jr (Jl rfl ty25 Sr (Js rfl (step_fieldAddr so38 Sr rfl) (Jl rfl ty36 Sr (Js rfl (step_call0 (rVars_spec q (nth q.Atoms i).Terms hvb.1 zG zG hav.up) ⟨Sr, Sr, trivial⟩ call73) ?_)))))
   refine Ja rfl (JL_nil (Jr (Ja rfl (JL_nil (J_block ?_)))))
   refine J_loopL (σ := Nat) (fun v => v ≤ q.Vars.toNat) (fun v => upd (upd (upd (upd (upd (upd (upd (upd (upd (upd (upd (upd (upd env0 1 (tV (.int .i64 w))) 3 (tPtr rConj q)) 6 (tV (.slice none 0 0))) 7 (rV.ty u15)) 8 (tV (.int .i64 n))) 9 (tV (.int .i64 i))) 11 (tSl rBool (varsM q.Vars (nth q.Atoms i).Terms))) 12 (tV (.int .i64 v))) 16 (tV (.int .i64 n))) 23 (tV (.int .i64 i))) 32 (tV (.int .i64 i))) 35 (tV (.int .i64 i))) 36 (tV (.int .i64 w))) (fun v => [own 4 rBool u15 (orM (rndM q w (closedM q w set n) i) (varsM q.Vars (nth q.Atoms i).Terms) v)]) (fun v => q.Vars.toNat - v) 0 (Nat.zero_le _) (zU) (.c zS (SPs.of (by rw [orM_zero])) (LSub.nil)) ?_
   rintro v hi
   refine J_seq (Jr (Jm rfl (Jm rfl (Js rfl (step_len_sl underlying35 Sr) (Js rfl (step_lss Sr Sr) ?_)))))
   refine JL_nil ?_
   refine J_cond Sr (fun h57 => ?_) (fun h57 => ?_)
   ·
    try simp only [NF] at h57
    have hvt : v < q.Vars.toNat := by rw [varsM_len] at h57; omega
    refine J_skip (J_seq (J_block (J_region (Jm rfl (Jm rfl ?_)))))
    refine Jm rfl (Jm rfl ?_)
    refine Js rfl (step_indexAddr_own (i := v) underlying35 ty4 Sr zS Sr (by rfl) (by rw [orM_len, rnd_len, closed_len]; omega)) ?_
    refine Js rfl (step_load_own ty4 Sr zS (gb (by rw [orM_len, rnd_len, closed_len]; omega))) ?_
    refine Jm rfl ?_
    refine Jk rfl Sr rfl (step_move Sr) ?_
    refine Jk rfl Sr rfl (step_move Sr) ?_
    refine Jg rfl Sr rfl (fun hw => step_indexAddr_sl (i := v) underlying35 ty4 (Sub.w hw) (Sub.w hw) (by rfl) (gb (by have hwq := hw; (try simp only [beqB_t, beqB_f, NF] at hwq); rw [varsM_len]; omega))) ?_
    refine Jg rfl Sr rfl (fun hw => step_load_ptr ty4 (Sub.w hw)) (Js rfl (step_pick_or Sr Sr) ?_)
    refine Js rfl (step_indexAddr_own (i := v) underlying35 ty4 Sr zS Sr (by rfl) (by rw [orM_len, rnd_len, closed_len]; omega)) ?_
    refine Ju (step_store_own ty4 Sr Sr zS (by rw [orM_len, rnd_len, closed_len]; omega)) fun _ => ?_
    refine JL_nil (J_region (Jm rfl (Js rfl (step_add Sr Sr z6) (Ja rfl (JL_nil ?_)))))
    refine K_againL (σ := Nat) (s := v) (v + 1) zO hvt (zU) (.c zS (SPs.of (by rw [← orM_succ (by rw [rnd_len, closed_len]; omega)])) (LSub.nil))
   try simp only [NF] at h57
   refine J_exit (J_region (Jm rfl (Js rfl (step_add Sr Sr z6) (Ja rfl (JL_nil ?_)))))
   refine K_againL (σ := Nat) (s := i) (i + 1) zO hit (zU) (.c zS (SPs.of (by rw [rnd_succ, clStep, if_neg (by rintro (h | h); exact h49.1 h; rw [h49.2] at h; cases h)]; rw [varsM_len] at h57; obtain rfl : v = q.Vars.toNat := zG; rfl)) (LSub.nil))
  try simp only [NF] at h27
  refine J_exit (J_region (Jm rfl (Js rfl (step_add Sr Sr z6) (Ja rfl (JL_nil ?_)))))
  refine K_againL (σ := Nat) (s := n) (n + 1) zO hnt (zU) (.c zS (SPs.of (by obtain rfl : i = q.Atoms.length := zG; rfl)) (LSub.nil))
 try simp only [NF] at h20
 refine J_exit (Jr (Jm rfl (Ja rfl (JL_nil (J_ret ?_)))))
 refine K_ret1' (rv := .tmp 6) rfl () (Sel.all _) (.tmp Sr) (Frz.own' (by obtain rfl : n = q.Atoms.length := zG; rfl))
open Go Go.Proofs Go.Proofs.Tryz
def attRL (q : GConj) : List (List Bool) := (List.range q.Atoms.length).map (attR q)
theorem attRL_len (q : GConj) : (attRL q).length = q.Atoms.length := by simp [attRL]
theorem attRL_nth (q : GConj) {f : Nat} (h : f < q.Atoms.length) : nth (attRL q) f = attR q f := nth_range_map h
theorem attR_len (q : GConj) (f : Nat) : (attR q f).length = q.Atoms.length := by unfold attR; rw [List.length_set, reach_len]; simp
theorem row_end {q : GConj} {plus r : List Bool} {g j : Nat} (hg : g < r.length) (h1 : j ≤ q.Atoms.length) (h2 : 0 < j → nth r g = true) (h : (q.Atoms.length : Int) ≤ (j : Int) ∨ nth (rowR q plus g r j) g = false) : rowR q plus g r j = rcStep q plus r g := by
  unfold rcStep
  by_cases hr : nth r g = true
  · rw [if_pos hr]
    have : j = q.Atoms.length := by
      rcases h with h | h
      · omega
      · rw [row_mono q plus g r g hg hr j] at h; cases h
    rw [this]
  · rw [if_neg hr]
    have : j = 0 := by
      rcases Nat.eq_zero_or_pos j with e | e
      · exact e
      · exact absurd (h2 e) hr
    subst this; rfl
theorem all_gone_f {l : List (List Bool)} {n f : Nat} (hl : l.length = n) (hf : f < n) (h : nth (goneM l n) f = false) : allGone l = false := by
  subst hl; unfold allGone; rw [List.all_eq_false]; exact ⟨f, List.mem_range.2 hf, by rw [h]; simp⟩
theorem all_gone_t {l : List (List Bool)} {n : Nat} (hl : l.length = n) (h : ∀ t, t < n → nth (goneM l n) t = true) : allGone l = true := by
  subst hl; unfold allGone; rw [List.all_eq_true]; exact fun t ht => h t (List.mem_range.1 ht)
set_option maxHeartbeats 4000000 in
theorem rAttacks_spec (q : GConj) : Fun1 prog 22 [rConj.ty q] (tTup [tSl (rSl rBool) (if validQ q = true then attRL q else []), tV (.int .i64 (errV q))]) := by
 refine Spec.enter func22 rfl rfl fun h0 w0 fr0 => ?_
 refine Jr (Js rfl (step_box (R := rConj) Sr) (Ja rfl (Ja rfl (JL_nil (J_seq ?_)))))
 refine Jr (Jl rfl ty25 Sr (Js rfl (step_call0 (refValid_spec q) ⟨Sr, trivial⟩ call25) (Js rfl (step_not Sr) (JL_nil ?_))))
 refine J_cond Sr (fun h18 => ?_) (fun h18 => ?_)
 ·
  try simp only [NF] at h18
  have hv : ¬ validQ q = true := by simp [h18]
  refine Jr (Ja rfl (Ja rfl (JL_nil (J_ret ?_))))
  refine K_ret2' (rv := .tmp 2) (rv' := .tmp 3) rfl () (Sel.all _) (.tmp Sr) (.tmp Sr) (Frz.sub ?_) (Frz.sub ?_) Sr
  ·
   rw [if_neg hv]; exact Sub.nilsl
  rw [errV, if_neg hv]; exact Sr
 try simp only [NF] at h18
 have hq : validQ q = true := by simpa using h18
 have hvb := valid_bounds hq
 refine J_skip (Jr (Js rfl (step_fieldAddr so25 Sr rfl) (Jl rfl ty23 Sr (Js rfl (step_len_sl underlying23 Sr) (Ja rfl ?_)))))
 refine JL_nil (Jr (Ja rfl (JL_nil ?_)))
 refine K_lsub (LSub.nilown (e := 35) (R := rSl rBool)) ?_
 refine J_seq (Jr (Ja rfl (JL_nil (J_block ?_))))
 refine J_loopL (σ := Nat × Value) (fun ⟨f, vo⟩ => f ≤ q.Atoms.length) (fun ⟨f, vo⟩ => upd (upd (upd (upd (upd (upd env0 1 (tPtr rConj q)) 2 (tV (.slice none 0 0))) 3 (tV (.int .i64 0))) 4 (tV (.int .i64 q.Atoms.length))) 5 (rV.ty vo)) 6 (tV (.int .i64 f))) (fun ⟨f, vo⟩ => [own 35 (rSl rBool) vo ((List.range f).map (attR q))]) (fun ⟨f, vo⟩ => q.Atoms.length - f) (0, .slice none 0 0) (Nat.zero_le _) (.u (SubE.upd (Sub.rV rfl) (zU))) (.c zS (own_eq (by simp)) (LSub.nil)) ?_
 rintro ⟨f, vo⟩ hi
 try dsimp only at hi
 refine J_seq (Jr (Jm rfl (Jm rfl (Js rfl (step_lss Sr Sr) (JL_nil ?_)))))
 refine J_cond Sr (fun h24 => ?_) (fun h24 => ?_)
 ·
  try simp only [NF] at h24
  have hlt : f < q.Atoms.length := by omega
  have hav := at_v hq hlt
  have htl := hav.tl
  have hk0 := hav.k0
  have hkt := hav.kt
  refine J_skip (J_seq (J_block (Jr (Js rfl (step_fieldAddr so25 Sr rfl) (Jl rfl ty23 Sr ?_)))))
  refine Jm rfl ?_
  refine Js rfl (step_indexAddr_sl (i := f) underlying23 ty38 Sr Sr (by rfl) (gb (by exact hlt))) ?_
  refine Jl rfl ty38 Sr ?_
  refine Jx rfl (step_alloc (fun w => zeroValue38 w) zr38) fun v7 => ?_
  refine Ju (step_store_box ty38 Sr Sr zS) fun _ => ?_
  refine JL_freeze (t := 7) (Sel.take (Sel.none _)) Frz.box ?_
  refine JL_nil (J_seq ?_)
  refine J_draw [⟨0, [1], true⟩, ⟨1, [6], true⟩, ⟨2, [1], true⟩, ⟨3, [7], true⟩, ⟨4, [35], true⟩, ⟨5, [7], true⟩, ⟨6, [37], true⟩, ⟨7, [36, 38], true⟩, ⟨8, [34, 39], true⟩, ⟨9, [32, 33, 40], true⟩, ⟨10, [41], true⟩] rfl (by kernel_rfl) ?_
  refine Mf rfl rfl (step_load_ptr ty25 Sr) (Mv rfl rfl (Mf rfl rfl (step_load_ptr ty25 Sr) (Mf rfl rfl (step_fieldAddr so38 Sr rfl) (Mf rfl rfl (step_load_ptr ty36 Sr) (Mf rfl rfl (step_fieldAddr so38 Sr rfl) ?_)))))
  refine Mf rfl rfl (step_load_ptr ty3 Sr) ?_
  refine Mf rfl rfl (step_slice_toI (n := (nth q.Atoms f).Key.toNat) underlying36 ty3 Sr Sr (by show (nth q.Atoms f).Key = _; omega) (by show _ ≤ (nth q.Atoms f).Terms.length; omega)) ?_
  refine Mf rfl rfl (step_call0 (rVars_spec q (keyT q f) hvb.1 zG (by rw [List.length_take]; omega) (fun t ht => hav.up t (List.mem_of_mem_take ht))) ⟨Sr, Sr, trivial⟩ call73) ?_
  refine Mf rfl rfl (step_call0 (rClosed_spec q hq f _ (varsM_len _ _)) ⟨Sr, Sr, Sr, trivial⟩ call72) (Mf rfl rfl (step_assign Sr) (JM_nil (Jr (Jm rfl ?_))))
  refine Jx rfl (step_make (n := q.Atoms.length) underlying35 el4 Sr Sr rfl zG zG) fun w43 => ?_
  refine Ja rfl (JL_nil (Jr (Jm rfl (Jm rfl ?_))))
  refine Js rfl (step_indexAddr_own (i := f) underlying35 ty4 Sr zS Sr (by rfl) (by first | omega | (simp only [List.length_replicate]; omega))) ?_
  refine Ju (step_store_own ty4 Sr Sr zS (by first | omega | (simp only [List.length_replicate]; omega))) fun _ => ?_
  refine JL_nil (J_seq (Jr (Ja rfl (JL_nil (J_block ?_)))))
  refine J_loopL (σ := Nat) (fun k => k ≤ q.Atoms.length) (fun k => upd (upd (upd (upd (upd (upd (upd (upd (upd (upd (upd (upd (upd (upd (upd (upd (upd (upd env0 1 (tPtr rConj q)) 2 (tV (.slice none 0 0))) 3 (tV (.int .i64 0))) 4 (tV (.int .i64 q.Atoms.length))) 5 (rV.ty vo)) 6 (tV (.int .i64 f))) 7 (tPtr rAtom (nth q.Atoms f))) 8 (tSl rBool (plusM q f))) 9 (rV.ty w43)) 10 (tV (.int .i64 k))) 22 (tV (.int .i64 f))) 23 (tV (.int .i64 q.Atoms.length))) 29 (tV (.int .i64 f))) 33 (tV (.int .i64 f))) 42 (tV (.int .i64 q.Atoms.length))) 43 (rV.ty w43)) 44 (rV.ty w43)) 45 (tV (.int .i64 f))) (fun k => [own 4 rBool w43 (reachM q (plusM q f) ((List.replicate q.Atoms.length false).set f true) k), own 35 (rSl rBool) vo ((List.range f).map (attR q))]) (fun k => q.Atoms.length - k) 0 (Nat.zero_le _) (zU) (zL) ?_
  rintro k hi
  refine J_seq (Jr (Jm rfl (Jm rfl (Js rfl (step_lss Sr Sr) (JL_nil ?_)))))
  refine J_cond Sr (fun h49 => ?_) (fun h49 => ?_)
  ·
   try simp only [NF] at h49
   have hkl : k < q.Atoms.length := by omega
   refine J_skip (J_seq (J_block (Jr (Ja rfl (JL_nil ?_)))))
   refine J_block ?_
   refine J_loopL (σ := Nat) (fun g => g ≤ q.Atoms.length) (fun g => upd (upd (upd (upd (upd (upd (upd (upd (upd (upd (upd (upd (upd (upd (upd (upd (upd (upd (upd (upd (upd env0 1 (tPtr rConj q)) 2 (tV (.slice none 0 0))) 3 (tV (.int .i64 0))) 4 (tV (.int .i64 q.Atoms.length))) 5 (rV.ty vo)) 6 (tV (.int .i64 f))) 7 (tPtr rAtom (nth q.Atoms f))) 8 (tSl rBool (plusM q f))) 9 (rV.ty w43)) 10 (tV (.int .i64 k))) 11 (tV (.int .i64 g))) 22 (tV (.int .i64 f))) 23 (tV (.int .i64 q.Atoms.length))) 29 (tV (.int .i64 f))) 33 (tV (.int .i64 f))) 42 (tV (.int .i64 q.Atoms.length))) 43 (rV.ty w43)) 44 (rV.ty w43)) 45 (tV (.int .i64 f))) 47 (tV (.int .i64 k))) 48 (tV (.int .i64 q.Atoms.length))) (fun g => [own 4 rBool w43 (rcRnd q (plusM q f) (reachM q (plusM q f) ((List.replicate q.Atoms.length false).set f true) k) g), own 35 (rSl rBool) vo ((List.range f).map (attR q))]) (fun g => q.Atoms.length - g) 0 (Nat.zero_le _) (zU) (zL) ?_
   rintro g hi
   refine J_seq (Jr (Jm rfl (Jm rfl (Js rfl (step_lss Sr Sr) (JL_nil ?_)))))
   refine J_cond Sr (fun h54 => ?_) (fun h54 => ?_)
   ·
    try simp only [NF] at h54
    have hgl : g < q.Atoms.length := by omega
    refine J_skip (J_seq (J_block (Jr (Ja rfl (JL_nil ?_)))))
    refine J_block ?_
    refine J_loopL (σ := Nat) (fun j => j ≤ q.Atoms.length ∧ (0 < j → nth (rcRnd q (plusM q f) (reachM q (plusM q f) ((List.replicate q.Atoms.length false).set f true) k) g) g = true)) (fun j => upd (upd (upd (upd (upd (upd (upd (upd (upd (upd (upd (upd (upd (upd (upd (upd (upd (upd (upd (upd (upd (upd (upd (upd env0 1 (tPtr rConj q)) 2 (tV (.slice none 0 0))) 3 (tV (.int .i64 0))) 4 (tV (.int .i64 q.Atoms.length))) 5 (rV.ty vo)) 6 (tV (.int .i64 f))) 7 (tPtr rAtom (nth q.Atoms f))) 8 (tSl rBool (plusM q f))) 9 (rV.ty w43)) 10 (tV (.int .i64 k))) 11 (tV (.int .i64 g))) 12 (tV (.int .i64 j))) 22 (tV (.int .i64 f))) 23 (tV (.int .i64 q.Atoms.length))) 29 (tV (.int .i64 f))) 33 (tV (.int .i64 f))) 42 (tV (.int .i64 q.Atoms.length))) 43 (rV.ty w43)) 44 (rV.ty w43)) 45 (tV (.int .i64 f))) 47 (tV (.int .i64 k))) 48 (tV (.int .i64 q.Atoms.length))) 52 (tV (.int .i64 g))) 53 (tV (.int .i64 q.Atoms.length))) (fun j => [own 4 rBool w43 (rowR q (plusM q f) g (rcRnd q (plusM q f) (reachM q (plusM q f) ((List.replicate q.Atoms.length false).set f true) k) g) j), own 35 (rSl rBool) vo ((List.range f).map (attR q))]) (fun j => q.Atoms.length - j) 0 ⟨Nat.zero_le _, fun h => absurd h (Nat.lt_irrefl _)⟩ (zU) (zL) ?_
    rintro j ⟨hj1, hj2⟩
    refine J_seq (Jr (Jm rfl (Jm rfl (Js rfl (step_lss Sr Sr) (Jm rfl ?_)))))
    refine Jk rfl Sr rfl (step_move Sr) ?_
    refine Jk rfl Sr rfl (step_move Sr) ?_
    refine Jg rfl Sr rfl (fun hw => step_indexAddr_own (i := g) underlying35 ty4 (Sub.w hw) zS (Sub.w hw) (by rfl) (by have hwq := hw; (try simp only [beqB_t, beqB_f, NF] at hwq); first | omega | (simp only [row_len, rc_len, reach_len, List.length_set, List.length_replicate]; omega))) ?_
    refine Jg rfl Sr rfl (fun hw => step_load_own ty4 (Sub.w hw) zS (gb (by have hwq := hw; (try simp only [beqB_t, beqB_f, NF] at hwq); first | omega | (simp only [row_len, rc_len, reach_len, List.length_set, List.length_replicate]; omega)))) ?_
    refine Js rfl (step_pick_and Sr Sr) (JL_nil ?_)
    refine J_cond Sr (fun h65 => ?_) (fun h65 => ?_)
    ·
     try simp only [NF] at h65
     obtain ⟨h65a, h65b⟩ := h65
     have hjl : j < q.Atoms.length := by omega
     have hgt : nth (rcRnd q (plusM q f) (reachM q (plusM q f) ((List.replicate q.Atoms.length false).set f true) k) g) g = true := by rcases Nat.eq_zero_or_pos j with e | e; (subst e; exact h65b); exact hj2 e
     refine J_skip (J_seq (J_block (J_seq ?_)))
     refine J_draw [⟨0, [1], true⟩, ⟨1, [1], true⟩, ⟨2, [69], true⟩, ⟨3, [11], true⟩, ⟨4, [70, 71], true⟩, ⟨5, [72], true⟩, ⟨6, [73], true⟩, ⟨7, [68, 74], true⟩, ⟨8, [75], true⟩] rfl (by kernel_rfl) ?_
     refine Mf rfl rfl (step_load_ptr ty25 Sr) (Mf rfl rfl (step_fieldAddr so25 Sr rfl) (Mf rfl rfl (step_load_ptr ty23 Sr) (Mv rfl rfl ?_)))
     refine Mf rfl rfl (step_indexAddr_sl (i := g) underlying23 ty38 Sr Sr (by rfl) (gb (by exact hgl))) ?_
     refine Mf rfl rfl (step_fieldAddr so38 Sr rfl) (Mf rfl rfl (step_load_ptr ty36 Sr) ?_)
     refine Mf rfl rfl (step_call0 (rVars_spec q (nth q.Atoms g).Terms hvb.1 zG (by have := (at_v hq hgl).tl; omega) (at_v hq hgl).up) ⟨Sr, Sr, trivial⟩ call73) ?_
     refine Mf rfl rfl (step_assign Sr) (JM_nil (J_seq ?_))
     refine J_draw [⟨0, [1], true⟩, ⟨1, [1], true⟩, ⟨2, [77], true⟩, ⟨3, [12], true⟩, ⟨4, [78, 79], true⟩, ⟨5, [80], true⟩, ⟨6, [81], true⟩, ⟨7, [76, 82], true⟩, ⟨8, [83], true⟩] rfl (by kernel_rfl) ?_
     refine Mf rfl rfl (step_load_ptr ty25 Sr) (Mf rfl rfl (step_fieldAddr so25 Sr rfl) (Mf rfl rfl (step_load_ptr ty23 Sr) (Mv rfl rfl ?_)))
     refine Mf rfl rfl (step_indexAddr_sl (i := j) underlying23 ty38 Sr Sr (by rfl) (gb (by exact hjl))) ?_
     refine Mf rfl rfl (step_fieldAddr so38 Sr rfl) (Mf rfl rfl (step_load_ptr ty36 Sr) ?_)
     refine Mf rfl rfl (step_call0 (rVars_spec q (nth q.Atoms j).Terms hvb.1 zG (by have := (at_v hq hjl).tl; omega) (at_v hq hjl).up) ⟨Sr, Sr, trivial⟩ call73) ?_
     refine Mf rfl rfl (step_assign Sr) (JM_nil (Jr (Ja rfl (JL_nil (J_block ?_)))))
     refine J_loopL (σ := Nat) (fun v => v ≤ q.Vars.toNat) (fun v => upd (upd (upd (upd (upd (upd (upd (upd (upd (upd (upd (upd (upd (upd (upd (upd (upd (upd (upd (upd (upd (upd (upd (upd (upd (upd (upd (upd (upd (upd (upd env0 1 (tPtr rConj q)) 2 (tV (.slice none 0 0))) 3 (tV (.int .i64 0))) 4 (tV (.int .i64 q.Atoms.length))) 5 (rV.ty vo)) 6 (tV (.int .i64 f))) 7 (tPtr rAtom (nth q.Atoms f))) 8 (tSl rBool (plusM q f))) 9 (rV.ty w43)) 10 (tV (.int .i64 k))) 11 (tV (.int .i64 g))) 12 (tV (.int .i64 j))) 13 (tSl rBool (varsM q.Vars (nth q.Atoms g).Terms))) 14 (tSl rBool (varsM q.Vars (nth q.Atoms j).Terms))) 15 (tV (.int .i64 v))) 22 (tV (.int .i64 f))) 23 (tV (.int .i64 q.Atoms.length))) 29 (tV (.int .i64 f))) 33 (tV (.int .i64 f))) 42 (tV (.int .i64 q.Atoms.length))) 43 (rV.ty w43)) 44 (rV.ty w43)) 45 (tV (.int .i64 f))) 47 (tV (.int .i64 k))) 48 (tV (.int .i64 q.Atoms.length))) 52 (tV (.int .i64 g))) 53 (tV (.int .i64 q.Atoms.length))) 57 (tV (.int .i64 j))) 58 (tV (.int .i64 q.Atoms.length))) 71 (tV (.int .i64 g))) 79 (tV (.int .i64 j))) (fun v => [own 4 rBool w43 ((rowR q (plusM q f) g (rcRnd q (plusM q f) (reachM q (plusM q f) ((List.replicate q.Atoms.length false).set f true) k) g) j).set j (nth (rowR q (plusM q f) g (rcRnd q (plusM q f) (reachM q (plusM q f) ((List.replicate q.Atoms.length false).set f true) k) g) j) j || lnkR q (plusM q f) g j v)), own 35 (rSl rBool) vo ((List.range f).map (attR q))]) (fun v => q.Vars.toNat - v) 0 (Nat.zero_le _) (zU) (.c zS (own_eq (set_same (by first | omega | (simp only [row_len, rc_len, reach_len, List.length_set, List.length_replicate]; omega))).symm) (zL)) ?_
     rintro v hi
     refine J_seq (Jr (Jm rfl (Js rfl (step_fieldAddr so25 Sr rfl) (Jl rfl ty3 Sr (Js rfl (step_lss Sr Sr) ?_)))))
     refine JL_nil ?_
     refine J_cond Sr (fun h87 => ?_) (fun h87 => ?_)
     ·
      try simp only [NF] at h87
      have hvt : v < q.Vars.toNat := by omega
      refine J_skip (J_seq (J_block (J_region (Jm rfl (Jm rfl ?_)))))
      refine Jm rfl (Jm rfl ?_)
      refine Js rfl (step_indexAddr_own (i := j) underlying35 ty4 Sr zS Sr (by rfl) (by simp only [List.length_set, row_len, rc_len, reach_len, List.length_replicate]; omega)) ?_
      refine Js rfl (step_load_own ty4 Sr zS (gb (by simp only [List.length_set, row_len, rc_len, reach_len, List.length_replicate]; omega))) ?_
      refine Jm rfl ?_
      refine Jk rfl Sr rfl (step_move Sr) ?_
      refine Jk rfl Sr rfl (step_move Sr) ?_
      refine Jg rfl Sr rfl (fun hw => step_indexAddr_sl (i := v) underlying35 ty4 (Sub.w hw) (Sub.w hw) (by rfl) (gb (by have hwq := hw; (try simp only [beqB_t, beqB_f, NF] at hwq); rw [varsM_len]; omega))) ?_
      refine Jg rfl Sr rfl (fun hw => step_load_ptr ty4 (Sub.w hw)) (Jg rfl Sr rfl (fun hw => step_move (Sub.w hw)) ?_)
      refine Ji rfl Sr rfl (step_move Sr) ?_
      refine Ji rfl Sr rfl (step_move Sr) ?_
      refine Jh rfl Sr rfl (fun hw => step_indexAddr_sl (i := v) underlying35 ty4 (Sub.w hw) (Sub.w hw) (by rfl) (gb (by have hwq := hw; (try simp only [beqB_t, beqB_f, NF] at hwq); rw [varsM_len]; omega))) ?_
      refine Jh rfl Sr rfl (fun hw => step_load_ptr ty4 (Sub.w hw)) (Jg rfl Sr rfl (fun hw => step_pick_and (Sub.w hw) (Sub.ww hw)) (Jg rfl Sr rfl (fun hw => step_move (Sub.w hw)) ?_))
      refine Ji rfl Sr rfl (step_move Sr) ?_
      refine Ji rfl Sr rfl (step_move Sr) ?_
      refine Jh rfl Sr rfl (fun hw => step_indexAddr_sl (i := v) underlying35 ty4 (Sub.w hw) (Sub.w hw) (by rfl) (gb (by have hwq := hw; (try simp only [beqB_t, beqB_f, NF] at hwq); show _ < (plusM q f).length; unfold plusM; rw [closed_len, varsM_len]; omega))) ?_
      refine Jh rfl Sr rfl (fun hw => step_load_ptr ty4 (Sub.w hw)) (Jh rfl Sr rfl (fun hw => step_not (Sub.w hw)) (Jg rfl Sr rfl (fun hw => step_pick_and (Sub.w hw) (Sub.ww hw)) (Js rfl (step_pick_or Sr Sr) ?_)))
      refine Js rfl (step_indexAddr_own (i := j) underlying35 ty4 Sr zS Sr (by rfl) (by simp only [List.length_set, row_len, rc_len, reach_len, List.length_replicate]; omega)) ?_
      refine Ju (step_store_own ty4 Sr Sr zS (by simp only [List.length_set, row_len, rc_len, reach_len, List.length_replicate]; omega)) fun _ => ?_
      refine JL_nil (J_region (Jm rfl (Js rfl (step_add Sr Sr z6) (Ja rfl (JL_nil ?_)))))
      refine K_againL (σ := Nat) (s := v) (v + 1) zO hvt (zU) (.c zS (own_eq (by rw [lnk_succ]; exact set_or (by first | omega | (simp only [row_len, rc_len, reach_len, List.length_set, List.length_replicate]; omega)) _ _)) (zL))
     try simp only [NF] at h87
     refine J_exit (J_region (Jm rfl (Js rfl (step_add Sr Sr z6) (Ja rfl (JL_nil ?_)))))
     refine K_againL (σ := Nat) (s := j) (j + 1) zO ⟨hjl, fun _ => hgt⟩ (zU) (.c zS (SPs.of (by obtain rfl : v = q.Vars.toNat := zG; rw [← row_succ])) (zL))
    try simp only [NF] at h65
    refine J_exit (J_region (Jm rfl (Js rfl (step_add Sr Sr z6) (Ja rfl (JL_nil ?_)))))
    refine K_againL (σ := Nat) (s := g) (g + 1) zO hgl (zU) (.c zS (own_eq ((row_end (q := q) (by first | omega | (simp only [row_len, rc_len, reach_len, List.length_set, List.length_replicate]; omega)) hj1 hj2 h65).trans (rc_succ _ _ _ _).symm)) (zL))
   try simp only [NF] at h54
   refine J_exit (J_region (Jm rfl (Js rfl (step_add Sr Sr z6) (Ja rfl (JL_nil ?_)))))
   refine K_againL (σ := Nat) (s := k) (k + 1) zO hkl (zU) (.c zS (SPs.of (by obtain rfl : g = q.Atoms.length := zG; rfl)) (zL))
  try simp only [NF] at h49
  refine J_exit (Jr (Jm rfl (Jm rfl ?_)))
  refine Js rfl (step_indexAddr_own (i := f) underlying35 ty4 Sr zS Sr (by rfl) (by first | omega | (simp only [row_len, rc_len, reach_len, List.length_set, List.length_replicate]; omega))) ?_
  refine Ju (step_store_own ty4 Sr Sr zS (by first | omega | (simp only [row_len, rc_len, reach_len, List.length_set, List.length_replicate]; omega))) fun _ => ?_
  refine JL_nil ?_
  refine K_freeze (t := 9) (A' := tSl rBool (attR q f)) (Sel.take (Sel.none _)) (Frz.own' (by obtain rfl : k = q.Atoms.length := zG; rfl)) ?_
  refine J_region (Jm rfl (Jm rfl ?_))
  refine Js rfl (step_literal (ys := [_]) underlying29 el35 ⟨rfl, Sr, trivial⟩ rfl (by decide)) ?_
  refine Jx rfl (step_append underlying29 el35 Sr Sr zS (by simp; omega) (by simp; omega)) fun v122 => ?_
  refine Ja rfl (JL_nil (J_region (Jm rfl (Js rfl (step_add Sr Sr z6) (Ja rfl ?_)))))
  refine JL_nil ?_
  refine K_againL (σ := Nat × Value) (s := (f, vo)) (f + 1, v122) zO hlt (zU) (.c zS (own_eq (by rw [List.range_succ]; simp)) (LSub.nil))
 try simp only [NF] at h24
 refine J_exit (Jr (Jm rfl (Ja rfl (Ja rfl (JL_nil ?_)))))
 refine J_ret ?_
 refine K_ret2' (rv := .tmp 2) (rv' := .tmp 3) rfl () (Sel.all _) (.tmp Sr) (.tmp Sr) (Frz.own' (by rw [if_pos hq, show f = q.Atoms.length by omega]; rfl)) (Frz.sub ?_) Sr
 rw [errV, if_pos hq]; exact Sr
set_option maxHeartbeats 4000000 in
theorem rFirst_spec (q : GConj) : Fun1 prog 23 [rConj.ty q] (tTup [tV (.bool (validQ q && allGone (attRL q))), tV (.int .i64 (errV q))]) := by
 refine Spec.enter func23 rfl rfl fun h0 w0 fr0 => ?_
 refine Jr (Js rfl (step_box (R := rConj) Sr) (Ja rfl (Ja rfl (JL_nil (Jr ?_)))))
 refine Jl rfl ty25 Sr (Js rfl (step_call0 (rAttacks_spec q) ⟨Sr, trivial⟩ call22) (Jm rfl (Js rfl (step_extract Sr rfl) (Js rfl (step_extract Sr rfl) (Ja rfl ?_)))))
 refine Ja rfl (JL_nil (J_seq (Jr (Jm rfl (Js rfl (step_neq Sr Sr) ?_)))))
 refine JL_nil ?_
 refine J_cond Sr (fun h19 => ?_) (fun h19 => ?_)
 ·
  try simp only [NF] at h19
  have hv : ¬ validQ q = true := by intro h; rw [errV, if_pos h] at h19; exact h19 rfl
  refine Jr (Jm rfl (Ja rfl (Ja rfl (JL_nil (J_ret ?_)))))
  refine K_ret2' (rv := .tmp 2) (rv' := .tmp 3) rfl () (Sel.all _) (.tmp Sr) (.tmp Sr) (Frz.sub ?_) (Frz.sub ?_) Sr
  ·
   refine Sub.bool ?_
   simp [hv]
  exact Sr
 try simp only [NF] at h19
 have hq : validQ q = true := by cases h : validQ q with | true => rfl | false => (exfalso; simp [errV, h] at h19)
 have hvb := valid_bounds hq
 have hal := attRL_len q
 refine J_skip (J_seq ?_)
 refine K_subT (t := 4) (A := tSl (rSl rBool) (attRL q)) (by rw [if_pos hq]; exact Sr) ?_
 refine J_region (Jm rfl (Js rfl (step_len_sl underlying29 Sr) (Ja rfl (JL_nil (Jr ?_)))))
 refine Jm rfl ?_
 refine Jx rfl (step_make (n := (attRL q).length) underlying35 el4 Sr Sr rfl zG zG) fun w24 => ?_
 refine Ja rfl (JL_nil (J_seq (Jr (Ja rfl (JL_nil ?_)))))
 refine J_block ?_
 refine J_loopL (σ := Nat) (fun k => k ≤ q.Atoms.length) (fun k => upd (upd (upd (upd (upd (upd env0 2 (tV (.bool false))) 3 (tV (.int .i64 0))) 4 (tSl (rSl rBool) (attRL q))) 6 (tV (.int .i64 (attRL q).length))) 7 (rV.ty w24)) 8 (tV (.int .i64 k))) (fun k => [own 4 rBool w24 (goneM (attRL q) k)]) (fun k => q.Atoms.length - k) 0 (Nat.zero_le _) (zU) (zL) ?_
 rintro k hi
 refine J_seq (Jr (Jm rfl (Jm rfl (Js rfl (step_lss Sr Sr) (JL_nil ?_)))))
 refine J_cond Sr (fun h27 => ?_) (fun h27 => ?_)
 ·
  try simp only [NF] at h27
  have hkl : k < q.Atoms.length := by omega
  refine J_skip (J_seq (J_block (Jr (Ja rfl (JL_nil ?_)))))
  refine J_block ?_
  refine J_loopL (σ := Nat) (fun f => f ≤ q.Atoms.length) (fun f => upd (upd (upd (upd (upd (upd (upd (upd (upd env0 2 (tV (.bool false))) 3 (tV (.int .i64 0))) 4 (tSl (rSl rBool) (attRL q))) 6 (tV (.int .i64 (attRL q).length))) 7 (rV.ty w24)) 8 (tV (.int .i64 k))) 9 (tV (.int .i64 f))) 25 (tV (.int .i64 k))) 26 (tV (.int .i64 (attRL q).length))) (fun f => [own 4 rBool w24 (gnRnd (attRL q) (goneM (attRL q) k) f)]) (fun f => q.Atoms.length - f) 0 (Nat.zero_le _) (zU) (zL) ?_
  rintro f hi
  refine J_seq (Jr (Jm rfl (Jm rfl (Js rfl (step_lss Sr Sr) (JL_nil ?_)))))
  refine J_cond Sr (fun h32 => ?_) (fun h32 => ?_)
  ·
   try simp only [NF] at h32
   have hfl : f < q.Atoms.length := by omega
   refine J_skip (J_seq (J_block (Jr (Ja rfl (JL_nil ?_)))))
   refine J_seq (Jr (Ja rfl (JL_nil (J_block ?_))))
   refine J_loopL (σ := Nat) (fun g => g ≤ q.Atoms.length) (fun g => upd (upd (upd (upd (upd (upd (upd (upd (upd (upd (upd (upd (upd env0 2 (tV (.bool false))) 3 (tV (.int .i64 0))) 4 (tSl (rSl rBool) (attRL q))) 6 (tV (.int .i64 (attRL q).length))) 7 (rV.ty w24)) 8 (tV (.int .i64 k))) 9 (tV (.int .i64 f))) 10 (tV (.bool (frS (attRL q) (gnRnd (attRL q) (goneM (attRL q) k) f) f g)))) 11 (tV (.int .i64 g))) 25 (tV (.int .i64 k))) 26 (tV (.int .i64 (attRL q).length))) 30 (tV (.int .i64 f))) 31 (tV (.int .i64 (attRL q).length))) (fun g => [own 4 rBool w24 (gnRnd (attRL q) (goneM (attRL q) k) f)]) (fun g => q.Atoms.length - g) 0 (Nat.zero_le _) (zU) (zL) ?_
   rintro g hi
   refine J_seq (Jr (Jm rfl (Jm rfl (Js rfl (step_lss Sr Sr) (JL_nil ?_)))))
   refine J_cond Sr (fun h37 => ?_) (fun h37 => ?_)
   ·
    try simp only [NF] at h37
    have hgl : g < q.Atoms.length := by omega
    refine J_skip (J_seq (J_block (J_region (Jm rfl (Jm rfl ?_)))))
    refine Jk rfl Sr rfl (step_move Sr) ?_
    refine Jk rfl Sr rfl (step_move Sr) ?_
    refine Jg rfl Sr rfl (fun hw => step_indexAddr_sl (i := g) underlying29 ty35 (Sub.w hw) (Sub.w hw) (by rfl) (gb (by have hwq := hw; (try simp only [beqB_t, beqB_f, NF] at hwq); rw [attRL_len]; omega))) ?_
    refine Jg rfl Sr rfl (fun hw => step_load_ptr ty35 (Sub.w hw)) ?_
    refine Jk rfl Sr rfl (step_move Sr) ?_
    refine Jg rfl Sr rfl (fun hw => step_indexAddr_sl (i := f) underlying35 ty4 (Sub.w hw) (Sub.w hw) (by rfl) (gb (by have hwq := hw; (try simp only [beqB_t, beqB_f, NF] at hwq); rw [attRL_nth q zG, attR_len]; omega))) ?_
    refine Jg rfl Sr rfl (fun hw => step_load_ptr ty4 (Sub.w hw)) (Jg rfl Sr rfl (fun hw => step_not (Sub.w hw)) (Jg rfl Sr rfl (fun hw => step_move (Sub.w hw)) ?_))
    refine Ji rfl Sr rfl (step_move Sr) ?_
    refine Ji rfl Sr rfl (step_move Sr) ?_
    refine Jh rfl Sr rfl (fun hw => step_indexAddr_own (i := g) underlying35 ty4 (Sub.w hw) zS (Sub.w hw) (by rfl) (by have hwq := hw; (try simp only [beqB_t, beqB_f, NF] at hwq); simp only [gn_len, gone_len, attRL_len]; omega)) ?_
    refine Jh rfl Sr rfl (fun hw => step_load_own ty4 (Sub.w hw) zS (gb (by have hwq := hw; (try simp only [beqB_t, beqB_f, NF] at hwq); simp only [gn_len, gone_len, attRL_len]; omega))) ?_
    refine Jg rfl Sr rfl (fun hw => step_pick_or (Sub.w hw) (Sub.ww hw)) (Js rfl (step_pick_and Sr Sr) (Ja rfl (JL_nil (J_region (Jm rfl ?_)))))
    refine Js rfl (step_add Sr Sr z6) (Ja rfl (JL_nil ?_))
    refine K_againL (σ := Nat) (s := g) (g + 1) zO hgl (.u (.u (.u (.u (.u (SubE.upd (Sub.bool (by rw [fr_succ])) (zU))))))) (zL)
   try simp only [NF] at h37
   refine J_exit (J_region (Jm rfl (Jm rfl (Jm rfl (Jm rfl ?_)))))
   refine Js rfl (step_indexAddr_own (i := f) underlying35 ty4 Sr zS Sr (by rfl) (by simp only [gn_len, gone_len, attRL_len]; omega)) ?_
   refine Js rfl (step_load_own ty4 Sr zS (gb (by simp only [gn_len, gone_len, attRL_len]; omega))) ?_
   refine Jm rfl ?_
   refine Jk rfl Sr rfl (step_move Sr) ?_
   refine Js rfl (step_pick_or Sr Sr) ?_
   refine Js rfl (step_indexAddr_own (i := f) underlying35 ty4 Sr zS Sr (by rfl) (by simp only [gn_len, gone_len, attRL_len]; omega)) ?_
   refine Ju (step_store_own ty4 Sr Sr zS (by simp only [gn_len, gone_len, attRL_len]; omega)) fun _ => ?_
   refine JL_nil (J_region (Jm rfl (Js rfl (step_add Sr Sr z6) (Ja rfl (JL_nil ?_)))))
   refine K_againL (σ := Nat) (s := f) (f + 1) zO hfl (zU) (.c zS (SPs.of (by obtain rfl : g = q.Atoms.length := zG; rw [gn_succ, hal])) (LSub.nil))
  try simp only [NF] at h32
  refine J_exit (J_region (Jm rfl (Js rfl (step_add Sr Sr z6) (Ja rfl (JL_nil ?_)))))
  refine K_againL (σ := Nat) (s := k) (k + 1) zO hkl (zU) (.c zS (SPs.of (by obtain rfl : f = q.Atoms.length := zG; rw [← hal]; rfl)) (LSub.nil))
 try simp only [NF] at h27
 refine J_exit (J_seq (Jr (Ja rfl (JL_nil (J_block ?_)))))
 refine J_loopL (σ := Nat) (fun f => f ≤ q.Atoms.length ∧ ∀ t, t < f → nth (goneM (attRL q) k) t = true) (fun f => upd (upd (upd env0 6 (tV (.int .i64 (attRL q).length))) 7 (rV.ty w24)) 12 (tV (.int .i64 f))) (fun f => [own 4 rBool w24 (goneM (attRL q) k)]) (fun f => q.Atoms.length - f) 0 ⟨Nat.zero_le _, fun t ht => absurd ht (Nat.not_lt_zero _)⟩ (zU) (zL) ?_
 rintro f ⟨hi1, hi2⟩
 refine J_seq (Jr (Jm rfl (Jm rfl (Js rfl (step_lss Sr Sr) (JL_nil ?_)))))
 refine J_cond Sr (fun h69 => ?_) (fun h69 => ?_)
 ·
  try simp only [NF] at h69
  have hfl : f < q.Atoms.length := by omega
  refine J_skip (J_seq (J_block (Jr (Jm rfl (Jm rfl ?_)))))
  refine Js rfl (step_indexAddr_own (i := f) underlying35 ty4 Sr zS Sr (by rfl) (by simp only [gn_len, gone_len, attRL_len]; omega)) ?_
  refine Js rfl (step_load_own ty4 Sr zS (gb (by simp only [gn_len, gone_len, attRL_len]; omega))) ?_
  refine Js rfl (step_not Sr) (JL_nil ?_)
  refine J_cond Sr (fun h76 => ?_) (fun h76 => ?_)
  ·
   try simp only [NF] at h76
   refine Jr (Ja rfl (Ja rfl (JL_nil (J_ret ?_))))
   refine K_ret2' (rv := .tmp 2) (rv' := .tmp 3) rfl () (Sel.all _) (.tmp Sr) (.tmp Sr) (Frz.sub ?_) (Frz.sub ?_) Sr
   ·
    refine Sub.bool ?_
    have hke : k = q.Atoms.length := by omega
    subst hke
    rw [all_gone_f hal hfl (by simpa using h76), hq]; rfl
   rw [errV, if_pos hq]; exact Sr
  try simp only [NF] at h76
  refine J_skip (J_region (Jm rfl (Js rfl (step_add Sr Sr z6) (Ja rfl (JL_nil ?_)))))
  refine K_againL (σ := Nat) (s := f) (f + 1) zO ?_ (zU) (zL)
  refine ⟨hfl, fun t ht => ?_⟩
  by_cases e : t = f
  ·
   subst e; simpa using h76
  exact hi2 t zG
 try simp only [NF] at h69
 refine J_exit (Jr (Ja rfl (Ja rfl (JL_nil (J_ret ?_)))))
 refine K_ret2' (rv := .tmp 2) (rv' := .tmp 3) rfl () (Sel.all _) (.tmp Sr) (.tmp Sr) (Frz.sub ?_) (Frz.sub ?_) Sr
 ·
  refine Sub.bool ?_
  have hke : k = q.Atoms.length := by omega
  subst hke
  rw [all_gone_t hal fun t ht => hi2 t zG, hq]; rfl
 rw [errV, if_pos hq]; exact Sr
open Go Go.Proofs Go.Proofs.Tryz
def leB (a b : List Bool) : Prop := a.length = b.length ∧ ∀ v, v < a.length → nth a v = true → nth b v = true
theorem leB.rfl {a : List Bool} : leB a a := ⟨Eq.refl _, fun _ _ h => h⟩
theorem leB.trans {a b c : List Bool} (h : leB a b) (h2 : leB b c) : leB a c := ⟨h.1.trans h2.1, fun v hv e => h2.2 v (h.1 ▸ hv) (h.2 v hv e)⟩
theorem leB.antisymm {a b : List Bool} (h : leB a b) (h2 : leB b a) : a = b := list_ext h.1 fun i hi => by
  have x := h.2 i hi
  have y := h2.2 i (h.1 ▸ hi)
  cases e : nth a i with
  | true => exact (x e).symm
  | false =>
    cases e2 : nth b i with
    | true => rw [y e2] at e; cases e
    | false => rfl
theorem leB.diff {a b : List Bool} (h : leB a b) (hne : b ≠ a) : ∃ v, v < a.length ∧ nth a v = false ∧ nth b v = true := by
  refine Classical.byContradiction fun hc => hne (leB.antisymm ⟨h.1.symm, fun v hv e => ?_⟩ h)
  cases e2 : nth a v with
  | true => rfl
  | false => exact absurd ⟨v, h.1 ▸ hv, e2, e⟩ hc
section
variable {step : List Bool → Nat → List Bool}
theorem fold_succ (s : List Bool) (n : Nat) : (List.range (n + 1)).foldl step s = step ((List.range n).foldl step s) n := by rw [List.range_succ, List.foldl_append]; rfl
theorem fold_le (hinf : ∀ s i, leB s (step s i)) (s : List Bool) (i : Nat) : ∀ n, leB ((List.range i).foldl step s) ((List.range (i + n)).foldl step s)
  | 0 => leB.rfl
  | n + 1 => by rw [← Nat.add_assoc, fold_succ]; exact (fold_le hinf s i n).trans (hinf _ _)
theorem fold_le0 (hinf : ∀ s i, leB s (step s i)) (s : List Bool) (n : Nat) : leB s ((List.range n).foldl step s) := by
  have := fold_le hinf s 0 n
  rwa [Nat.zero_add] at this
theorem fold_fix (hinf : ∀ s i, leB s (step s i)) {s : List Bool} : ∀ {n}, (List.range n).foldl step s = s → ∀ i, i < n → step s i = s
  | 0, _, i, hi => absurd hi (Nat.not_lt_zero _)
  | n + 1, h, i, hi => by
    rw [fold_succ] at h
    have h1 : (List.range n).foldl step s = s := leB.antisymm (by have := hinf ((List.range n).foldl step s) n; rwa [h] at this) (fold_le0 hinf s n)
    rcases Nat.lt_or_ge i n with h2 | h2
    · exact fold_fix hinf h1 i h2
    · obtain rfl : i = n := by omega
      rwa [h1] at h
theorem fold_move {s : List Bool} : ∀ {n}, (List.range n).foldl step s ≠ s → ∃ i, i < n ∧ step ((List.range i).foldl step s) i ≠ (List.range i).foldl step s
  | 0, h => absurd rfl h
  | n + 1, h => by
    by_cases h1 : (List.range n).foldl step s = s
    · exact ⟨n, Nat.lt_succ_self _, fun e => h (by rw [fold_succ, e, h1])⟩
    · obtain ⟨i, hi, h2⟩ := fold_move h1
      exact ⟨i, by omega, h2⟩
theorem fold_inv {P : List Bool → Prop} {N : Nat} (hs : ∀ s i, i < N → P s → P (step s i)) {s : List Bool} (h : P s) : ∀ {n}, n ≤ N → P ((List.range n).foldl step s)
  | 0, _ => h
  | n + 1, hn => by rw [fold_succ]; exact hs _ _ (by omega) (fold_inv hs h (by omega))
end
theorem iter_fix {S : Type} {F : S → S} {c : S → Nat} {N : Nat} {g : Nat → S} (hg : ∀ n, g (n + 1) = F (g n)) (hc : ∀ n, c (g n) ≤ N) (hs : ∀ n, F (g n) ≠ g n → c (g n) < c (F (g n))) : F (g N) = g N := by
  have key : ∀ n, F (g n) = g n ∨ n ≤ c (g n) := by
    intro n
    induction n with
    | zero => exact .inr (Nat.zero_le _)
    | succ n ih =>
      by_cases e : F (g n) = g n
      · left; rw [hg, e, e]
      · right
        have h1 := hs n e
        rw [hg]
        rcases ih with h2 | h2
        · exact absurd h2 e
        · omega
  refine Classical.byContradiction fun hne => ?_
  have h1 := hs N hne
  have h2 := hc (N + 1)
  rw [hg] at h2
  rcases key N with h | h
  · exact hne h
  · omega
theorem countP_lt {α : Type} {p r : α → Bool} : ∀ {l : List α}, (∀ x ∈ l, p x = true → r x = true) → ∀ {a}, a ∈ l → p a = false → r a = true → l.countP p < l.countP r
  | x :: l, h, a, ha, hp, hr => by
    have hm := List.countP_mono_left (p := p) (q := r) fun y hy => h y (List.mem_cons_of_mem _ hy)
    rw [List.countP_cons, List.countP_cons]
    rcases List.mem_cons.1 ha with e | e
    · subst e; rw [hp, hr]; simp; omega
    · have := countP_lt (fun y hy => h y (List.mem_cons_of_mem _ hy)) e hp hr
      have hx := h x (List.mem_cons_self ..)
      cases e1 : p x with
      | true => rw [hx e1]; simp; omega
      | false => cases r x <;> simp <;> omega
theorem cnt_lt {a b : List Bool} {N : Nat} (hl : a.length = N) (h : leB a b) (hne : b ≠ a) : (List.range N).countP (nth a) < (List.range N).countP (nth b) := by
  obtain ⟨v, hv, h1, h2⟩ := h.diff hne
  exact countP_lt (fun x hx e => h.2 x (by rw [hl]; exact List.mem_range.1 hx) e) (List.mem_range.2 (hl ▸ hv)) h1 h2
theorem cnt_le (p : Nat → Bool) (N : Nat) : (List.range N).countP p ≤ N := by have := List.countP_le_length (p := p) (l := List.range N); rwa [List.length_range] at this
/-! closed -/
theorem within_iff {n : Int} {ts : List Int} {s : List Bool} : withinM (varsM n ts) s = true ↔ ∀ v : Nat, v < n.toNat → (v : Int) ∈ ts → nth s v = true := by
  unfold withinM
  rw [List.all_eq_true, varsM_len]
  constructor
  · intro h v hv hm
    have := h v (List.mem_range.2 hv)
    rw [varsM_nth hv, decide_eq_true hm] at this
    simpa using this
  · intro h v hv
    have hv := List.mem_range.1 hv
    rw [varsM_nth hv]
    by_cases hm : (v : Int) ∈ ts
    · rw [h v hv hm]; simp
    · simp [hm]
theorem within_mono {n : Int} {ts : List Int} {a b : List Bool} (hl : a.length = n.toNat) (h : leB a b) (hw : withinM (varsM n ts) a = true) : withinM (varsM n ts) b = true :=
  within_iff.2 fun v hv hm => h.2 v (hl ▸ hv) (within_iff.1 hw v hv hm)
theorem or_le (out all : List Bool) (v : Nat) : leB out (orM out all v) := ⟨(orM_len _ _ _).symm, fun u hu e => by rw [orM_nth hu, e]; rfl⟩
theorem cls_le (q : GConj) (w : Int) (s : List Bool) (i : Nat) : leB s (clStep q w s i) := by
  unfold clStep
  split
  · exact leB.rfl
  · exact or_le _ _ _
theorem cls_skip {q : GConj} {w : Int} {s : List Bool} {i : Nat} (h : (i : Int) = w ∨ withinM (varsM q.Vars (keyT q i)) s = false) : clStep q w s i = s := if_pos h
theorem cls_fire {q : GConj} {w : Int} {s : List Bool} {i : Nat} (h : ¬ ((i : Int) = w ∨ withinM (varsM q.Vars (keyT q i)) s = false)) : clStep q w s i = orM s (varsM q.Vars (nth q.Atoms i).Terms) q.Vars.toNat := if_neg h
theorem or_in {n : Int} {ts : List Int} {s : List Bool} (hl : s.length = n.toNat) : withinM (varsM n ts) (orM s (varsM n ts) n.toNat) = true := within_iff.2 fun v hv hm => by
  rw [orM_nth (hl ▸ hv), varsM_nth hv]; simp [hv, hm]
theorem or_same {n : Int} {ts : List Int} {s : List Bool} (hl : s.length = n.toNat) (h : withinM (varsM n ts) s = true) : orM s (varsM n ts) n.toNat = s := list_ext (orM_len _ _ _) fun v hv => by
  rw [orM_len] at hv
  rw [orM_nth hv]
  have hv2 := hl ▸ hv
  rw [varsM_nth hv2]
  by_cases hm : (v : Int) ∈ ts
  · rw [within_iff.1 h v hv2 hm]; rfl
  · simp [hm]
theorem closed_fix (q : GConj) (w : Int) (set : List Bool) (hl : set.length = q.Vars.toNat) : rndM q w (closedM q w set q.Atoms.length) q.Atoms.length = closedM q w set q.Atoms.length := by
  refine iter_fix (F := fun s => rndM q w s q.Atoms.length) (c := fun s => (List.range q.Atoms.length).countP fun i => withinM (varsM q.Vars (nth q.Atoms i).Terms) s) (g := closedM q w set) (fun _ => rfl) (fun _ => cnt_le _ _) fun n hne => ?_
  have hl2 : (closedM q w set n).length = q.Vars.toNat := by rw [closed_len, hl]
  generalize closedM q w set n = s at hne hl2
  obtain ⟨i, hi, hm⟩ := fold_move hne
  have hb : ((List.range i).foldl (clStep q w) s).length = q.Vars.toNat := (rnd_len q w s i).trans hl2
  have hle : leB s ((List.range i).foldl (clStep q w) s) := fold_le0 (cls_le q w) s i
  have hle2 : leB ((List.range (i + 1)).foldl (clStep q w) s) (rndM q w s q.Atoms.length) := by
    have := fold_le (cls_le q w) s (i + 1) (q.Atoms.length - (i + 1))
    rwa [show i + 1 + (q.Atoms.length - (i + 1)) = q.Atoms.length by omega] at this
  rw [fold_succ] at hle2
  have hc : ¬ ((i : Int) = w ∨ withinM (varsM q.Vars (keyT q i)) ((List.range i).foldl (clStep q w) s) = false) := fun hc => hm (cls_skip hc)
  rw [cls_fire hc] at hm hle2
  refine countP_lt (a := i) (fun x _ hx => within_mono hl2 (fold_le0 (cls_le q w) s q.Atoms.length) hx) (List.mem_range.2 hi) ?_ (within_mono (by rw [orM_len, hb]) hle2 (or_in hb))
  cases e : withinM (varsM q.Vars (nth q.Atoms i).Terms) s with
  | false => rfl
  | true => exact absurd (or_same hb (within_mono hl2 hle e)) hm
theorem closed_le (q : GConj) (w : Int) (set : List Bool) : ∀ n, leB set (closedM q w set n)
  | 0 => leB.rfl
  | n + 1 => (closed_le q w set n).trans (fold_le0 (cls_le q w) _ _)
theorem closed_sound {q : GConj} (hq : validQ q = true) {w : Int} {ts : List Int} : ∀ n, (closedM q w (varsM q.Vars ts) n).length = q.Vars.toNat ∧ ∀ v : Nat, v < q.Vars.toNat → nth (closedM q w (varsM q.Vars ts) n) v = true → ClV q w ts v
  | 0 => ⟨varsM_len _ _, fun v hv h => ClV.base (by have h : nth (varsM q.Vars ts) v = true := h; rw [varsM_nth hv] at h; exact of_decide_eq_true h)⟩
  | n + 1 => by
    refine fold_inv (P := fun s : List Bool => s.length = q.Vars.toNat ∧ ∀ v : Nat, v < q.Vars.toNat → nth s v = true → ClV q w ts v) (N := q.Atoms.length) (fun s i hi ⟨hl, h⟩ => ⟨by rw [clStep_len, hl], fun v hv e => ?_⟩) (closed_sound hq n) (Nat.le_refl _)
    unfold clStep at e
    split at e
    · exact h v hv e
    · rename_i hc
      rw [orM_nth (hl ▸ hv), Bool.or_eq_true] at e
      rcases e with e | e
      · exact h v hv e
      · rw [varsM_nth hv] at e
        have hm : (v : Int) ∈ (nth q.Atoms i).Terms := by simpa [hv] using e
        have hk : withinM (varsM q.Vars (keyT q i)) s = true := by
          cases e2 : withinM (varsM q.Vars (keyT q i)) s with
          | true => rfl
          | false => exact absurd (.inr e2) hc
        refine ClV.step hi (fun e2 => hc (.inl e2)) (fun t' ht' h0 => ?_) hm
        have hu := (at_v hq hi).up t' (List.mem_of_mem_take ht')
        have := h t'.toNat (by omega) (within_iff.1 hk t'.toNat (by omega) (by rw [Int.toNat_of_nonneg h0]; exact ht'))
        rwa [Int.toNat_of_nonneg h0] at this
theorem closed_iff {q : GConj} (hq : validQ q = true) {w : Int} {ts : List Int} {v : Nat} (hv : v < q.Vars.toNat) : nth (closedM q w (varsM q.Vars ts) q.Atoms.length) v = true ↔ ClV q w ts v := by
  refine ⟨(closed_sound hq _).2 v hv, fun h => ?_⟩
  have key : ∀ t : Int, ClV q w ts t → 0 ≤ t → t < q.Vars → nth (closedM q w (varsM q.Vars ts) q.Atoms.length) t.toNat = true := by
    intro t h
    induction h with
    | @base t hm =>
      intro h0 h1
      refine (closed_le q w (varsM q.Vars ts) _).2 _ (by rw [varsM_len]; omega) ?_
      rw [varsM_nth (by omega), Int.toNat_of_nonneg h0]
      exact decide_eq_true hm
    | @step H t hH hne _ hm ih =>
      intro h0 h1
      have hf := fold_fix (cls_le q w) (closed_fix q w (varsM q.Vars ts) (varsM_len _ _)) H hH
      have hlen : (closedM q w (varsM q.Vars ts) q.Atoms.length).length = q.Vars.toNat := by rw [closed_len, varsM_len]
      have hk : withinM (varsM q.Vars (keyT q H)) (closedM q w (varsM q.Vars ts) q.Atoms.length) = true := within_iff.2 fun u hu hmu => by
        have := ih u hmu (by omega) (by omega) (by omega)
        simpa using this
      rw [cls_fire (by rintro (e | e); exact hne e; rw [hk] at e; cases e)] at hf
      rw [← hf, orM_nth (by rw [hlen]; omega), varsM_nth (by omega), Int.toNat_of_nonneg h0, decide_eq_true hm]
      have : t.toNat < q.Vars.toNat := by omega
      simp [this]
  have := key v h (by omega) (by omega)
  simpa using this
/-! Attacks -/
theorem set_le (r : List Bool) (h : Nat) (b : Bool) : leB r (r.set h (nth r h || b)) := ⟨(List.length_set ..).symm, fun v hv e => by
  rw [Lg.nth_set hv]
  split
  · rename_i e2; subst e2; rw [e]; rfl
  · exact e⟩
theorem row_le (q : GConj) (plus : List Bool) (g : Nat) (r : List Bool) (n : Nat) : leB r (rowR q plus g r n) := ⟨(row_len ..).symm, fun j hj e => row_mono q plus g r j hj e n⟩
theorem rcs_le (q : GConj) (plus r : List Bool) (g : Nat) : leB r (rcStep q plus r g) := by
  unfold rcStep
  split
  · exact row_le _ _ _ _ _
  · exact leB.rfl
theorem reach_fix (q : GConj) (plus r : List Bool) (hl : r.length = q.Atoms.length) : rcRnd q plus (reachM q plus r q.Atoms.length) q.Atoms.length = reachM q plus r q.Atoms.length := by
  refine iter_fix (F := fun s => rcRnd q plus s q.Atoms.length) (c := fun s => (List.range q.Atoms.length).countP (nth s)) (g := reachM q plus r) (fun _ => rfl) (fun _ => cnt_le _ _) fun n hne => ?_
  exact cnt_lt ((reach_len q plus r n).trans hl) (fold_le0 (rcs_le q plus) _ _) hne
theorem reach_le (q : GConj) (plus r : List Bool) : ∀ n, leB r (reachM q plus r n)
  | 0 => leB.rfl
  | n + 1 => (reach_le q plus r n).trans (fold_le0 (rcs_le q plus) _ _)
theorem lnkR_iff {q : GConj} (hq : validQ q = true) {f g h : Nat} (hg : g < q.Atoms.length) (hh : h < q.Atoms.length) : lnkR q (plusM q f) g h q.Vars.toNat = true ↔ ∃ t, t ∈ (nth q.Atoms g).Terms ∧ t ∈ (nth q.Atoms h).Terms ∧ 0 ≤ t ∧ ¬ ClV q f (keyT q f) t := by
  unfold lnkR
  rw [List.any_eq_true]
  constructor
  · rintro ⟨v, hv, e⟩
    have hv := List.mem_range.1 hv
    rw [varsM_nth hv, varsM_nth hv, Bool.and_eq_true, Bool.and_eq_true, decide_eq_true_eq, decide_eq_true_eq] at e
    refine ⟨v, e.1.1, e.1.2, by omega, fun hc => ?_⟩
    have h2 := (closed_iff hq hv).2 hc
    have h1 := e.2
    unfold plusM at h1
    rw [h2] at h1; cases h1
  · rintro ⟨t, h1, h2, h0, hc⟩
    have hu := (at_v hq hg).up t h1
    refine ⟨t.toNat, List.mem_range.2 (by omega), ?_⟩
    rw [varsM_nth (by omega), varsM_nth (by omega), Int.toNat_of_nonneg h0, decide_eq_true h1, decide_eq_true h2]
    have : nth (plusM q f) t.toNat = false := by
      cases e : nth (plusM q f) t.toNat with
      | false => rfl
      | true =>
        have := (closed_iff hq (w := f) (ts := keyT q f) (v := t.toNat) (by omega)).1 e
        rw [Int.toNat_of_nonneg h0] at this
        exact absurd this hc
    rw [this]; rfl
theorem reach_sound {q : GConj} (hq : validQ q = true) {f : Nat} (hf : f < q.Atoms.length) : ∀ n, (reachM q (plusM q f) ((List.replicate q.Atoms.length false).set f true) n).length = q.Atoms.length ∧ ∀ h, h < q.Atoms.length → nth (reachM q (plusM q f) ((List.replicate q.Atoms.length false).set f true) n) h = true → RcQ q f h
  | 0 => ⟨by simp [reachM], fun h hh e => by
      have e : nth ((List.replicate q.Atoms.length false).set f true) h = true := e
      rw [Lg.nth_set (by simpa using hh)] at e
      split at e
      · rename_i e2; subst e2; exact RcQ.refl
      · rw [nth_get (by simpa using hh)] at e; simp at e⟩
  | n + 1 => by
    refine fold_inv (P := fun r : List Bool => r.length = q.Atoms.length ∧ ∀ h, h < q.Atoms.length → nth r h = true → RcQ q f h) (N := q.Atoms.length) (fun r g hg ⟨hl, h⟩ => ⟨by rw [rcStep_len, hl], fun k hk e => ?_⟩) (reach_sound hq hf n) (Nat.le_refl _)
    unfold rcStep at e
    split at e
    · rename_i hr
      have hrg := h g hg hr
      have key : ∀ m, m ≤ q.Atoms.length → ∀ k, k < q.Atoms.length → nth (rowR q (plusM q f) g r m) k = true → RcQ q f k := by
        intro m
        induction m with
        | zero => intro _ k hk e; exact h k hk e
        | succ m ih =>
          intro hm k hk e
          rw [row_succ, Lg.nth_set (by rw [row_len, hl]; exact hk)] at e
          split at e
          · rename_i e2; subst e2
            rw [Bool.or_eq_true] at e
            rcases e with e | e
            · exact ih (by omega) m hk e
            · obtain ⟨t, h1, h2, h0, hc⟩ := (lnkR_iff hq hg hk).1 e
              exact RcQ.step hrg hg hk h1 h2 h0 hc
          · exact ih (by omega) k hk e
      exact key _ (Nat.le_refl _) k hk e
    · exact h k hk e
theorem reach_iff {q : GConj} (hq : validQ q = true) {f h : Nat} (hf : f < q.Atoms.length) (hh : h < q.Atoms.length) : nth (reachM q (plusM q f) ((List.replicate q.Atoms.length false).set f true) q.Atoms.length) h = true ↔ RcQ q f h := by
  refine ⟨(reach_sound hq hf _).2 h hh, fun r => ?_⟩
  have hlen := (reach_sound hq hf q.Atoms.length).1
  have hfix := reach_fix q (plusM q f) ((List.replicate q.Atoms.length false).set f true) (by simp)
  have hle := reach_le q (plusM q f) ((List.replicate q.Atoms.length false).set f true) q.Atoms.length
  generalize reachM q (plusM q f) ((List.replicate q.Atoms.length false).set f true) q.Atoms.length = s at hlen hfix hle ⊢
  clear hh
  induction r with
  | refl => exact hle.2 f (by simpa using hf) (by rw [Lg.nth_set (by simpa using hf), if_pos rfl])
  | @step H K t r hH hK h1 h2 h0 hc ih =>
    have e := fold_fix (rcs_le q (plusM q f)) hfix H hH
    unfold rcStep at e
    rw [if_pos ih] at e
    have e2 := fold_fix (step := fun r h => r.set h (nth r h || lnkR q (plusM q f) H h q.Vars.toNat)) (fun s i => set_le s i _) e K hK
    have e3 : nth (s.set K (nth s K || lnkR q (plusM q f) H K q.Vars.toNat)) K = nth s K := by rw [e2]
    rw [Lg.nth_set (by rw [hlen]; exact hK), if_pos rfl, (lnkR_iff hq hH hK).2 ⟨t, h1, h2, h0, hc⟩, Bool.or_true] at e3
    exact e3.symm
open Classical in
theorem attR_eq {q : GConj} (hq : validQ q = true) {f : Nat} (hf : f < q.Atoms.length) : attR q f = attB q f := list_ext (by rw [attR_len, attB_len]) fun h hh => by
  rw [attR_len] at hh
  have hlen := (reach_sound hq hf q.Atoms.length).1
  have e1 : nth (attB q f) h = decide (RcQ q f h ∧ h ≠ f) := nth_range_map hh
  rw [e1]
  unfold attR
  rw [Lg.nth_set (by rw [hlen]; exact hh)]
  split
  · rename_i e; subst e; simp
  · rename_i e
    have e2 : h ≠ f := fun x => e x.symm
    cases e3 : nth (reachM q (plusM q f) ((List.replicate q.Atoms.length false).set f true) q.Atoms.length) h with
    | true => symm; rw [decide_eq_true_eq]; exact ⟨(reach_iff hq hf hh).1 e3, e2⟩
    | false =>
      symm; rw [decide_eq_false_iff_not]
      intro hc
      rw [(reach_iff hq hf hh).2 hc.1] at e3; cases e3
theorem attRL_eq {q : GConj} (hq : validQ q = true) : attRL q = attL q := List.map_congr_left fun f hf => attR_eq hq (List.mem_range.1 hf)
/-! First order -/
theorem gone_fix (l : List (List Bool)) : gnRnd l (goneM l l.length) l.length = goneM l l.length := by
  refine iter_fix (F := fun s => gnRnd l s l.length) (c := fun s => (List.range l.length).countP (nth s)) (g := goneM l) (fun _ => rfl) (fun _ => cnt_le _ _) fun n hne => ?_
  exact cnt_lt (gone_len l n) (fold_le0 (fun s i => set_le s i _) _ _) hne
theorem fr_iff {l : List (List Bool)} {gone : List Bool} {f n : Nat} : frS l gone f n = true ↔ ∀ g, g < n → nth (nth l g) f = true → nth gone g = true := by
  unfold frS
  rw [List.all_eq_true]
  constructor
  · intro h g hg e
    have := h g (List.mem_range.2 hg)
    rw [e] at this; simpa using this
  · intro h g hg
    cases e : nth (nth l g) f with
    | true => rw [h g (List.mem_range.1 hg) e]; rfl
    | false => rfl
theorem gone_back {l : List (List Bool)} {f : Nat} (hf : f < l.length) (h : ∀ g, g < l.length → nth (nth l g) f = true → nth (goneM l l.length) g = true) : nth (goneM l l.length) f = true := by
  have e := fold_fix (step := fun r f => r.set f (nth r f || frS l r f l.length)) (fun s i => set_le s i _) (gone_fix l) f hf
  have e2 : nth ((goneM l l.length).set f (nth (goneM l l.length) f || frS l (goneM l l.length) f l.length)) f = nth (goneM l l.length) f := by rw [e]
  rw [Lg.nth_set (by rw [gone_len]; exact hf), if_pos rfl, fr_iff.2 h, Bool.or_true] at e2
  exact e2.symm
theorem gone_topo {l : List (List Bool)} (hl : ∀ f, f < l.length → (nth l f).length = l.length) {fin : List Nat} (T : Topo l fin) (hall : ∀ f, f < l.length → f ∈ fin) : ∀ (n : Nat) (pre : List Nat) (v : Nat) (post : List Nat), fin = pre ++ v :: post → v ∉ pre → fin.length - pre.length ≤ n → v < l.length → nth (goneM l l.length) v = true
  | 0, pre, v, post, e, _, hn, _ => by rw [e, List.length_append, List.length_cons] at hn; omega
  | n + 1, pre, v, post, e, hp, hn, hv => by
    refine gone_back hv fun g hg hed => ?_
    obtain ⟨pre2, post2, e2, hp2⟩ := List.eq_append_cons_of_mem (hall g hg)
    have hin := T pre2 g post2 e2 v (ed_iff.2 ⟨by rw [hl g hg]; exact hv, hed⟩)
    have hlt : pre.length < pre2.length := by
      refine Classical.byContradiction fun hc => hp ?_
      have p1 : pre2 <+: fin := ⟨g :: post2, e2.symm⟩
      have p2 : pre <+: fin := ⟨v :: post, e.symm⟩
      exact (List.prefix_of_prefix_length_le p1 p2 (by omega)).subset hin
    have hpl : pre2.length ≤ fin.length := by rw [e2]; simp
    exact gone_topo hl T hall n pre2 g post2 e2 hp2 (by omega) hg
theorem rch_last {l : List (List Bool)} {a w : Nat} (h : Rch l a w) : a = w ∨ ∃ x, Rch l a x ∧ ed l x w := by
  induction h with
  | refl => exact .inl rfl
  | step h1 h2 ih =>
    rcases ih with e | ⟨x, h3, h4⟩
    · subst e; exact .inr ⟨_, Rch.refl _, h1⟩
    · exact .inr ⟨x, Rch.step h1 h3, h4⟩
theorem gone_cycle {l : List (List Bool)} (hl : ∀ f, f < l.length → (nth l f).length = l.length) (hx : ∀ f, l.length ≤ f → (nth l f).length = 0) {u v : Nat} (h1 : ed l u v) (h2 : Rch l v u) : ∀ n, (goneM l n).length = l.length ∧ ∀ w, w < l.length → Rch l v w → Rch l w u → nth (goneM l n) w = false
  | 0 => ⟨by simp [goneM], fun w hw _ _ => by show nth (List.replicate l.length false) w = false; rw [nth_get (by simpa using hw)]; simp⟩
  | n + 1 => by
    refine fold_inv (P := fun s : List Bool => s.length = l.length ∧ ∀ w, w < l.length → Rch l v w → Rch l w u → nth s w = false) (N := l.length) (fun s f hf ⟨hs, h⟩ => ⟨by rw [List.length_set, hs], fun w hw c1 c2 => ?_⟩) (gone_cycle hl hx h1 h2 n) (Nat.le_refl _)
    rw [Lg.nth_set (by rw [hs]; exact hw)]
    split
    · rename_i e; subst e
      rw [h f hw c1 c2]
      show frS l s f l.length = false
      obtain ⟨x, hxw, hvx, hxu⟩ : ∃ x, ed l x f ∧ Rch l v x ∧ Rch l x u := by
        rcases rch_last c1 with e | ⟨x, h3, h4⟩
        · subst e; exact ⟨u, h1, h2, Rch.refl _⟩
        · exact ⟨x, h4, h3, Rch.step h4 c2⟩
      have hi := ed_iff.1 hxw
      have hxl : x < l.length := by
        refine Classical.byContradiction fun hc => ?_
        have := hx x (by omega)
        omega
      cases e : frS l s f l.length with
      | false => rfl
      | true => exact absurd (fr_iff.1 e x hxl hi.2) (by rw [h x hxl hvx hxu]; simp)
    · exact h w hw c1 c2
theorem all_gone (q : GConj) : allGone (attL q) = firstM q := by
  have hl : ∀ f, f < (attL q).length → (nth (attL q) f).length = (attL q).length := fun f hf => by rw [attL_len] at hf; rw [attL_nth q hf, attB_len, attL_len]
  have hx : ∀ f, (attL q).length ≤ f → (nth (attL q) f).length = 0 := fun f hf => by
    have : nth (attL q) f = default := nth_over hf
    rw [this]; rfl
  cases h : firstM q with
  | true =>
    obtain ⟨fin, T, hall⟩ := first_topo h
    unfold allGone
    rw [List.all_eq_true]
    intro f hf
    have hf := List.mem_range.1 hf
    obtain ⟨pre, post, e, hp⟩ := List.eq_append_cons_of_mem (hall f (by rwa [attL_len] at hf))
    exact gone_topo hl T (fun f hf => hall f (by rwa [attL_len] at hf)) fin.length pre f post e hp (by omega) hf
  | false =>
    obtain ⟨u, v, h1, h2⟩ := first_cycle h
    have hv : v < (attL q).length := by rw [attL_len]; exact (ed_att.1 h1).2.1
    unfold allGone
    rw [List.all_eq_false]
    exact ⟨v, List.mem_range.2 hv, by rw [(gone_cycle hl hx h1 h2 _).2 v hv (Rch.refl _) h2]; simp⟩
theorem first_ref {q : GConj} (hq : validQ q = true) : allGone (attRL q) = firstM q := by rw [attRL_eq hq, all_gone]
open Go Go.Proofs Go.Proofs.Tryz
end Lg
namespace Lg
open Go Go.Proofs Go.Proofs.Tryz
open Go Go.Proofs Go.Proofs.Tryz
/-! Closures as lists -/
open Classical in
noncomputable def clsL (q : GConj) (w : Int) (vars : List Int) : List Int := ((List.range q.Vars.toNat).filter fun (v : Nat) => decide (ClV q w vars v)).map fun (v : Nat) => (v : Int)
open Classical in
theorem cls_mem {q : GConj} {w : Int} {vars : List Int} {x : Int} : x ∈ clsL q w vars ↔ 0 ≤ x ∧ x < q.Vars ∧ ClV q w vars x := by
  unfold clsL
  rw [List.mem_map]
  constructor
  · rintro ⟨v, hv, rfl⟩
    obtain ⟨h1, h2⟩ := List.mem_filter.1 hv
    have h1 := List.mem_range.1 h1
    rw [decide_eq_true_eq] at h2
    exact ⟨by omega, by omega, h2⟩
  · rintro ⟨h0, h1, h2⟩
    refine ⟨x.toNat, List.mem_filter.2 ⟨List.mem_range.2 (by omega), ?_⟩, by omega⟩
    rw [decide_eq_true_eq, Int.toNat_of_nonneg h0]; exact h2
open Classical in
theorem cls_ref {q : GConj} (hq : validQ q = true) {w : Int} {a : List Int} : clsL q w a = ((List.range q.Vars.toNat).filter fun (v : Nat) => nth (closedM q w (varsM q.Vars a) q.Atoms.length) v).map fun (v : Nat) => (v : Int) := by
  unfold clsL
  congr 1
  refine List.filter_congr fun v hv => ?_
  have hv := List.mem_range.1 hv
  rw [Bool.eq_iff_iff, decide_eq_true_eq]
  exact (closed_iff hq hv).symm
open Go Go.Proofs Go.Proofs.Tryz
def atE (t k : Int) (ts : List Int) : GAtom := ⟨t, (List.range ts.length).map fun (i : Nat) => (i : Int), ts, k⟩
def boE (a b : GAtom) : GConj := ⟨3, [], [a, b]⟩
theorem att_val {q : GConj} {l : List (List Bool)} (hq : validQ q = true) (h : attRL q = l) : attL q = l := by rw [← attRL_eq hq, h]
theorem first_val {q : GConj} {b : Bool} (hq : validQ q = true) (h : allGone (attRL q) = b) : firstM q = b := by rw [← first_ref hq, h]
abbrev aq1 : GConj := boE (atE 0 1 [0, 1]) (atE 1 1 [1, 2])
abbrev aq2 : GConj := boE (atE 0 1 [0, 1]) (atE 1 1 [1, 0])
abbrev aq3 : GConj := boE (atE 0 1 [0, 1]) (atE 1 1 [2, 1])
abbrev aq4 : GConj := boE (atE 0 2 [0, 1]) (atE 1 1 [0, 1])
theorem aq1_ok : validQ aq1 = true ∧ attL aq1 = [[false, true], [false, false]] ∧ firstM aq1 = true := by
  have h : validQ aq1 = true := by decide +kernel
  exact ⟨h, att_val h (by decide +kernel), first_val h (by decide +kernel)⟩
theorem aq2_ok : validQ aq2 = true ∧ attL aq2 = [[false, true], [true, false]] ∧ firstM aq2 = false := by
  have h : validQ aq2 = true := by decide +kernel
  exact ⟨h, att_val h (by decide +kernel), first_val h (by decide +kernel)⟩
theorem aq3_ok : validQ aq3 = true ∧ attL aq3 = [[false, true], [true, false]] ∧ firstM aq3 = false := by
  have h : validQ aq3 = true := by decide +kernel
  exact ⟨h, att_val h (by decide +kernel), first_val h (by decide +kernel)⟩
theorem aq4_ok : validQ aq4 = true ∧ attL aq4 = [[false, false], [true, false]] ∧ firstM aq4 = true := by
  have h : validQ aq4 = true := by decide +kernel
  exact ⟨h, att_val h (by decide +kernel), first_val h (by decide +kernel)⟩
end Lg
