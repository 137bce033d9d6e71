/- A part of the proofs of the laws of cleanselaw33 and cleanselaw36: contracts of functions that the law reaches, and facts about what they compute. -/
import Derived.Test.YtecikhenhjphfaaGreatDoorE
import Derived.Test.YtecikhenhjphfaaGreatDoorCards
import Derived.Test.YtecikhenhjphfaaGreatDoorTie
import Derived.Lib.LaidTab
import Derived.Stop.LaidErr
import Derived.ProofKit
import Derived.OpenShut
import Derived.Deep.DeepHandedRow
import Derived.Lay
import Derived.SizedLaws
set_option linter.unusedVariables false
set_option linter.unusedSimpArgs false
set_option linter.unusedSectionVars false
namespace Lg
open Go Go.Proofs Go.Proofs.Tryz
theorem less_ofB (a b : ByteArray) : Op.bytesLess a.toList b.toList = decide (ofB a < ofB b) := by
  rw [Bool.eq_iff_iff, bytesLess_iff, ByteArray.toList_eq, ByteArray.toList_eq, decide_eq_true_eq]
theorem step_lss_strB {C : Cx} {E : Env} {L : List SP} {d : Option Nat} {ty : Nat} {pos : String} {af : Array Edge} {g : Option (Nat × Bool)} {T U : Nat} {x y : Operand} {a b : ByteArray} (hx : Sub (opTy E x) (tV (.string a))) (hy : Sub (opTy E y) (tV (.string b))) :
    Step1 C ⟨d, .binOp .lss T x y U, ty, pos, af, g⟩ E L (tV (.bool (decide (ofB a < ofB b)))) := by
  have h := step_lss_str (C := C) (L := L) (d := d) (ty := ty) (pos := pos) (af := af) (g := g) (T := T) (U := U) hx hy
  rw [less_ofB] at h; exact h
theorem step_gtr_strB {C : Cx} {E : Env} {L : List SP} {d : Option Nat} {ty : Nat} {pos : String} {af : Array Edge} {g : Option (Nat × Bool)} {T U : Nat} {x y : Operand} {a b : ByteArray} (hx : Sub (opTy E x) (tV (.string a))) (hy : Sub (opTy E y) (tV (.string b))) :
    Step1 C ⟨d, .binOp .gtr T x y U, ty, pos, af, g⟩ E L (tV (.bool (decide (ofB b < ofB a)))) := by
  have h := step_gtr_str (C := C) (L := L) (d := d) (ty := ty) (pos := pos) (af := af) (g := g) (T := T) (U := U) hx hy
  have e : (!(Op.bytesLess a.toList b.toList || a.toList == b.toList)) = decide (ofB b < ofB a) := by
    rw [less_ofB, toL_eq, Bool.eq_iff_iff]
    simp only [Bool.not_eq_true', Bool.or_eq_false_iff, decide_eq_false_iff_not, decide_eq_true_eq]
    constructor
    · rintro ⟨h1, h2⟩
      exact List.not_le.1 fun h3 => h2 (ofB_inj' (List.le_antisymm h3 (List.not_lt.1 h1)))
    · intro h1
      exact ⟨fun h2 => List.lt_irrefl _ (List.lt_trans h1 h2), fun h2 => by subst h2; exact List.lt_irrefl _ h1⟩
  rw [e] at h; exact h
theorem cmpR_step {a b : LV} {i : Nat} (h1 : i < a.length) (h2 : i < b.length) : cmpR (a.drop i) (b.drop i) = if cmpV (nth a i) (nth b i) ≠ 0 then cmpV (nth a i) (nth b i) else cmpR (a.drop (i + 1)) (b.drop (i + 1)) := by
  rw [List.drop_eq_getElem_cons h1, List.drop_eq_getElem_cons h2, nth_get h1, nth_get h2, cmpR]
theorem cmpR_end {a b : LV} {i : Nat} (h1 : i ≤ a.length) (h2 : i ≤ b.length) (h : ¬ (i < a.length ∧ i < b.length)) : cmpR (a.drop i) (b.drop i) = ordI a.length b.length := by
  have la : (a.drop i).length = a.length - i := List.length_drop ..
  have lb : (b.drop i).length = b.length - i := List.length_drop ..
  unfold ordI
  generalize a.drop i = x at la
  generalize b.drop i = y at lb
  match x, y with
  | [], [] => simp at la lb; rw [if_neg (by omega), if_neg (by omega)]; rfl
  | [], _ :: _ => simp at la lb; rw [if_pos (by omega)]; rfl
  | _ :: _, [] => simp at la lb; rw [if_neg (by omega), if_pos (by omega)]; rfl
  | _ :: _, _ :: _ => simp at la lb; omega
theorem rsign_spec (a b : Int) : Fun1 prog 112 [tV (.int .i64 a), tV (.int .i64 b)] (tV (.int .i64 (ordI a b))) := by
 refine Spec.enter func112 rfl rfl fun h0 w0 fr0 => ?_
 refine Jr (Ja rfl (JL_nil (J_seq (Jr (Jm rfl ?_)))))
 refine Jm rfl (Js rfl (step_lss Sr Sr) (JL_nil ?_))
 refine J_cond Sr (fun h7 => ?_) (fun h7 => ?_)
 ·
  try simp only [NF] at h7
  refine Jr (Ja rfl (JL_nil (J_ret ?_)))
  refine K_ret1 (t := 4) rfl () (Sub.int (by rw [ordI, if_pos h7]))
 try simp only [NF] at h7
 refine J_skip (J_seq (Jr (Jm rfl (Jm rfl (Js rfl (step_gtr Sr Sr) ?_)))))
 refine JL_nil ?_
 refine J_cond Sr (fun h10 => ?_) (fun h10 => ?_)
 ·
  try simp only [NF] at h10
  refine Jr (Ja rfl (JL_nil (J_ret ?_)))
  refine K_ret1 (t := 4) rfl () (Sub.int (by rw [ordI, if_neg zG, if_pos h10]))
 try simp only [NF] at h10
 refine J_skip (Jr (Ja rfl (JL_nil (J_ret ?_))))
 refine K_ret1 (t := 4) rfl () (Sub.int (by rw [ordI, if_neg zG, if_neg zG]))
set_option maxHeartbeats 1000000 in
theorem rcompare_spec (a b : GValue) : Fun1 prog 111 [rValue.ty a, rValue.ty b] (tV (.int .i64 (cmpV a b))) := by
 refine Spec.enter func111 rfl rfl fun h0 w0 fr0 => ?_
 refine Jr (Js rfl (step_box (R := rValue) Sr) (Js rfl (step_box (R := rValue) Sr) (Ja rfl (JL_nil (J_seq ?_)))))
 refine Jr (Js rfl (step_fieldAddr so62 Sr rfl) (Jl rfl ty3 Sr (Js rfl (step_fieldAddr so62 Sr rfl) (Jl rfl ty3 Sr (Js rfl (step_neq Sr Sr) ?_)))))
 refine JL_nil ?_
 refine J_cond Sr (fun h9 => ?_) (fun h9 => ?_)
 ·
  try simp only [NF] at h9
  have h9 : ordI a.Kind b.Kind ≠ 0 := fun q => h9 (c3_I.eq.1 q)
  refine Jr (Js rfl (step_fieldAddr so62 Sr rfl) (Jl rfl ty3 Sr (Js rfl (step_fieldAddr so62 Sr rfl) (Jl rfl ty3 Sr (Js rfl (step_call0 (rsign_spec a.Kind b.Kind) ⟨Sr, Sr, trivial⟩ call112) ?_)))))
  refine Ja rfl (JL_nil (J_ret ?_))
  refine K_ret1 (t := 4) rfl () (Sub.int (by unfold cmpV; rw [if_pos h9]))
 try simp only [NF] at h9
 have h9 : ordI a.Kind b.Kind = 0 := c3_I.eq.2 (by simpa using h9)
 refine J_skip (J_seq (Jr (Js rfl (step_fieldAddr so62 Sr rfl) (Jl rfl ty3 Sr (Js rfl (step_fieldAddr so62 Sr rfl) ?_)))))
 refine Jl rfl ty3 Sr (Js rfl (step_neq Sr Sr) (JL_nil ?_))
 refine J_cond Sr (fun h19 => ?_) (fun h19 => ?_)
 ·
  try simp only [NF] at h19
  have h19 : ordI a.N b.N ≠ 0 := fun q => h19 (c3_I.eq.1 q)
  refine Jr (Js rfl (step_fieldAddr so62 Sr rfl) (Jl rfl ty3 Sr (Js rfl (step_fieldAddr so62 Sr rfl) (Jl rfl ty3 Sr (Js rfl (step_call0 (rsign_spec a.N b.N) ⟨Sr, Sr, trivial⟩ call112) ?_)))))
  refine Ja rfl (JL_nil (J_ret ?_))
  refine K_ret1 (t := 4) rfl () (Sub.int (by unfold cmpV; rw [if_neg (by simp [h9]), if_pos h19]))
 try simp only [NF] at h19
 have h19 : ordI a.N b.N = 0 := c3_I.eq.2 (by simpa using h19)
 refine J_skip (J_seq (Jr (Js rfl (step_fieldAddr so62 Sr rfl) (Jl rfl ty9 Sr (Js rfl (step_fieldAddr so62 Sr rfl) ?_)))))
 refine Jl rfl ty9 Sr (Js rfl (step_lss_strB Sr Sr) (JL_nil ?_))
 refine J_cond Sr (fun h29 => ?_) (fun h29 => ?_)
 ·
  try simp only [NF] at h29
  refine Jr (Ja rfl (JL_nil (J_ret ?_)))
  refine K_ret1 (t := 4) rfl () (Sub.int (by unfold cmpV; rw [if_neg (by simp [h9]), if_neg (by simp [h19]), ordS, if_pos h29]))
 try simp only [NF] at h29
 refine J_skip (J_seq (Jr (Js rfl (step_fieldAddr so62 Sr rfl) (Jl rfl ty9 Sr (Js rfl (step_fieldAddr so62 Sr rfl) ?_)))))
 refine Jl rfl ty9 Sr (Js rfl (step_gtr_strB Sr Sr) (JL_nil ?_))
 refine J_cond Sr (fun h34 => ?_) (fun h34 => ?_)
 ·
  try simp only [NF] at h34
  refine Jr (Ja rfl (JL_nil (J_ret ?_)))
  refine K_ret1 (t := 4) rfl () (Sub.int (by unfold cmpV; rw [if_neg (by simp [h9]), if_neg (by simp [h19]), ordS, if_neg h29, if_pos h34]))
 try simp only [NF] at h34
 refine J_skip (Jr (Ja rfl (JL_nil (J_ret ?_))))
 refine K_ret1 (t := 4) rfl () (Sub.int (by unfold cmpV; rw [if_neg (by simp [h9]), if_neg (by simp [h19]), ordS, if_neg h29, if_neg h34]))
set_option maxHeartbeats 1000000 in
theorem rcompareRows_spec (a b : LV) (ha : a.length ≤ 4398046511104) (hb : b.length ≤ 4398046511104) : Fun1 prog 59 [tSl rValue a, tSl rValue b] (tV (.int .i64 (cmpR a b))) := by
 refine Spec.enter func59 rfl rfl fun h0 w0 fr0 => ?_
 refine Jr (Ja rfl (JL_nil (J_seq (Jr (Ja rfl ?_)))))
 refine JL_nil (J_block ?_)
 refine J_loopL (σ := Nat) (fun i => i ≤ a.length ∧ i ≤ b.length ∧ cmpR (a.drop i) (b.drop i) = cmpR a b) (fun i => upd (upd (upd env0 0 (tSl rValue a)) 1 (tSl rValue b)) 5 (tV (.int .i64 i))) (fun i => []) (fun i => a.length - i) 0 ⟨Nat.zero_le _, Nat.zero_le _, rfl⟩ (zU) (LSub.rfl) ?_
 rintro i ⟨hi1, hi2, hi3⟩
 refine J_seq (Jr (Jm rfl (Jm rfl (Js rfl (step_len_sl underlying45 Sr) (Js rfl (step_lss Sr Sr) ?_)))))
 refine Jm rfl ?_
 refine Jk rfl Sr rfl (step_move Sr) ?_
 refine Jk rfl Sr rfl (step_move Sr) ?_
 refine Jg rfl Sr rfl (fun hw => step_len_sl underlying45 (Sub.w hw)) (Jg rfl Sr rfl (fun hw => step_lss (Sub.w hw) (Sub.w hw)) (Js rfl (step_pick_and Sr Sr) (JL_nil ?_)))
 refine J_cond Sr (fun h16 => ?_) (fun h16 => ?_)
 ·
  try simp only [NF] at h16
  have hij : i < a.length ∧ i < b.length := by simpa using h16
  have hia := hij.1
  have hib := hij.2
  have hst := cmpR_step hia hib
  refine J_skip (J_seq (J_block (J_seq ?_)))
  refine J_draw [⟨0, [0], true⟩, ⟨1, [5], true⟩, ⟨2, [19, 20], true⟩, ⟨3, [21], true⟩, ⟨4, [1], true⟩, ⟨5, [5], true⟩, ⟨6, [23, 24], true⟩, ⟨7, [25], true⟩, ⟨8, [22, 26], true⟩, ⟨9, [27], true⟩] rfl (by kernel_rfl) ?_
  refine Mv rfl rfl (Mv rfl rfl ?_)
  refine Mf rfl rfl (step_indexAddr_sl (i := i) underlying45 ty62 Sr Sr (by rfl) (gb (by exact hia))) ?_
  refine Mf rfl rfl (step_load_ptr ty62 Sr) (Mv rfl rfl (Mv rfl rfl ?_))
  refine Mf rfl rfl (step_indexAddr_sl (i := i) underlying45 ty62 Sr Sr (by rfl) (gb (by exact hib))) ?_
  refine Mf rfl rfl (step_load_ptr ty62 Sr) (Mf rfl rfl (step_call0 (rcompare_spec (nth a i) (nth b i)) ⟨Sr, Sr, trivial⟩ call111) (Mf rfl rfl (step_assign Sr) (JM_nil (Jr (Jm rfl ?_)))))
  refine Js rfl (step_neq Sr Sr) (JL_nil ?_)
  refine J_cond Sr (fun h29 => ?_) (fun h29 => ?_)
  ·
   try simp only [NF] at h29
   have h29 : cmpV (nth a i) (nth b i) ≠ 0 := h29
   rw [if_pos h29] at hst
   refine Jr (Jm rfl (Ja rfl (JL_nil (J_ret ?_))))
   refine K_ret1 (t := 4) rfl () (Sub.int (by rw [← hi3, hst]))
  try simp only [NF] at h29
  have h29 : ¬ cmpV (nth a i) (nth b i) ≠ 0 := by simpa using h29
  rw [if_neg h29] at hst
  refine J_skip (J_region (Jm rfl (Js rfl (step_add Sr Sr z6) (Ja rfl (JL_nil ?_)))))
  refine K_againL (σ := Nat) (s := i) (i + 1) zO ⟨by omega, by omega, by rw [← hst]; exact hi3⟩ (zU) (LSub.rfl)
 try simp only [NF] at h16
 have hij : ¬ (i < a.length ∧ i < b.length) := fun q => (by rcases h16 with h | h <;> omega)
 refine J_exit (Jr (Jm rfl (Js rfl (step_len_sl underlying45 Sr) (Jm rfl (Js rfl (step_len_sl underlying45 Sr) ?_)))))
 refine Js rfl (step_call0 (rsign_spec a.length b.length) ⟨Sr, Sr, trivial⟩ call112) (Ja rfl (JL_nil (J_ret ?_)))
 refine K_ret1 (t := 4) rfl () (Sub.int (by rw [← hi3, cmpR_end hi1 hi2 hij]))
theorem rless_spec (a b : LV) (ha : a.length ≤ 4398046511104) (hb : b.length ≤ 4398046511104) : Fun1 prog 30 [tSl rValue a, tSl rValue b] (tV (.bool (decide (cmpR a b < 0)))) := by
 refine Spec.enter func30 rfl rfl fun h0 w0 fr0 => ?_
 refine Jr (Ja rfl (JL_nil (Jr (Jm rfl (Jm rfl ?_)))))
 refine Js rfl (step_call0 (rcompareRows_spec a b ha hb) ⟨Sr, Sr, trivial⟩ call59) (Js rfl (step_lss Sr Sr) (Ja rfl (JL_nil (J_ret ?_))))
 exact K_ret1 (t := 4) rfl () Sr
open Go Go.Proofs Go.Proofs.Tryz
def mrgR : List LV → List LV → List LV
  | [], b => b
  | x :: a, [] => x :: a
  | x :: a, y :: b => if cmpR x y < 0 then x :: mrgR a (y :: b) else if cmpR y x < 0 then y :: mrgR (x :: a) b else x :: mrgR a b
termination_by a b => a.length + b.length
abbrev StrictR (l : List LV) : Prop := l.Pairwise fun a b => cmpR a b < 0
theorem mrg_nil (a : List LV) : mrgR a [] = a := by cases a <;> simp [mrgR]
theorem mrg_ok : ∀ (n : Nat) (a b : List LV), a.length + b.length ≤ n → (∀ x, x ∈ mrgR a b ↔ x ∈ a ∨ x ∈ b) ∧ (mrgR a b).length ≤ a.length + b.length ∧ (StrictR a → StrictR b → StrictR (mrgR a b))
  | _, [], b, _ => by rw [mrgR]; exact ⟨fun x => by simp, by simp, fun _ h => h⟩
  | _, x :: a, [], _ => by rw [mrgR]; exact ⟨fun y => by simp, by simp, fun h _ => h⟩
  | 0, x :: a, y :: b, h => by simp at h
  | n + 1, x :: a, y :: b, h => by
    simp only [List.length_cons] at h
    rw [mrgR]
    have trl : ∀ {u v : LV} {l : List LV}, cmpR u v < 0 → StrictR (v :: l) → ∀ z ∈ v :: l, cmpR u z < 0 := fun {u v l} huv hs z hz => by
      rcases List.mem_cons.1 hz with rfl | hz
      · exact huv
      · exact c3_R.tr huv ((List.pairwise_cons.1 hs).1 z hz)
    by_cases h1 : cmpR x y < 0
    · rw [if_pos h1]
      obtain ⟨i1, i2, i3⟩ := mrg_ok n a (y :: b) (by simp; omega)
      refine ⟨fun z => by rw [List.mem_cons, i1]; simp only [List.mem_cons]; exact or_assoc.symm, by simp only [List.length_cons] at i2 ⊢; omega, fun ha hb => ?_⟩
      refine List.pairwise_cons.2 ⟨fun z hz => ?_, i3 (List.pairwise_cons.1 ha).2 hb⟩
      rcases (i1 z).1 hz with hz | hz
      · exact (List.pairwise_cons.1 ha).1 z hz
      · exact trl h1 hb z hz
    · rw [if_neg h1]
      by_cases h2 : cmpR y x < 0
      · rw [if_pos h2]
        obtain ⟨i1, i2, i3⟩ := mrg_ok n (x :: a) b (by simp; omega)
        refine ⟨fun z => by rw [List.mem_cons, i1]; simp only [List.mem_cons]; exact ⟨fun q => q.elim (fun h => .inr (.inl h)) (fun h => h.elim .inl (fun h => .inr (.inr h))), fun q => q.elim (fun h => .inr (.inl h)) (fun h => h.elim .inl (fun h => .inr (.inr h)))⟩, by simp only [List.length_cons] at i2 ⊢; omega, fun ha hb => ?_⟩
        refine List.pairwise_cons.2 ⟨fun z hz => ?_, i3 ha (List.pairwise_cons.1 hb).2⟩
        rcases (i1 z).1 hz with hz | hz
        · exact trl h2 ha z hz
        · exact (List.pairwise_cons.1 hb).1 z hz
      · rw [if_neg h2]
        have e : x = y := by
          have h3 := c3_R.anti (a := y) (b := x)
          exact c3_R.eq.1 (by omega)
        subst e
        obtain ⟨i1, i2, i3⟩ := mrg_ok n a b (by omega)
        refine ⟨fun z => by rw [List.mem_cons, i1]; simp only [List.mem_cons]; exact ⟨fun q => q.elim (fun h => .inl (.inl h)) (fun h => h.elim (fun h => .inl (.inr h)) (fun h => .inr (.inr h))), fun q => q.elim (fun h => h.elim .inl (fun h => .inr (.inl h))) (fun h => h.elim .inl (fun h => .inr (.inr h)))⟩, by simp only [List.length_cons]; omega, fun ha hb => ?_⟩
        refine List.pairwise_cons.2 ⟨fun z hz => ?_, i3 (List.pairwise_cons.1 ha).2 (List.pairwise_cons.1 hb).2⟩
        rcases (i1 z).1 hz with hz | hz
        · exact (List.pairwise_cons.1 ha).1 z hz
        · exact (List.pairwise_cons.1 hb).1 z hz
theorem mrg_a {a b : List LV} {i k : Nat} (hi : i < a.length) (hk : k ≤ b.length) (h : k = b.length ∨ cmpR (nth a i) (nth b k) < 0) : mrgR (a.drop i) (b.drop k) = nth a i :: mrgR (a.drop (i + 1)) (b.drop k) := by
  rw [List.drop_eq_getElem_cons hi, ← nth_get hi]
  by_cases hb : k < b.length
  · have h := h.resolve_left (by omega)
    rw [List.drop_eq_getElem_cons hb, ← nth_get hb, mrgR, if_pos h]
  · rw [show b.drop k = [] from List.drop_eq_nil_of_le (by omega), mrg_nil, mrg_nil]
theorem mrg_b {a b : List LV} {i k : Nat} (hi : i ≤ a.length) (hk : k < b.length) (hn : ¬ (i < a.length ∧ cmpR (nth a i) (nth b k) < 0)) (h : i = a.length ∨ cmpR (nth b k) (nth a i) < 0) : mrgR (a.drop i) (b.drop k) = nth b k :: mrgR (a.drop i) (b.drop (k + 1)) := by
  by_cases ha : i < a.length
  · have h := h.resolve_left (by omega)
    rw [List.drop_eq_getElem_cons hk, ← nth_get hk, List.drop_eq_getElem_cons ha, ← nth_get ha, mrgR, if_neg (fun q => hn ⟨ha, q⟩), if_pos h]
  · rw [show a.drop i = [] from List.drop_eq_nil_of_le (by omega), List.drop_eq_getElem_cons hk, ← nth_get hk, mrgR, mrgR]
theorem mrg_c {a b : List LV} {i k : Nat} (hi : i < a.length) (hk : k < b.length) (hn : ¬ cmpR (nth a i) (nth b k) < 0) (h : ¬ cmpR (nth b k) (nth a i) < 0) : mrgR (a.drop i) (b.drop k) = nth a i :: mrgR (a.drop (i + 1)) (b.drop (k + 1)) := by
  rw [List.drop_eq_getElem_cons hk, ← nth_get hk, List.drop_eq_getElem_cons hi, ← nth_get hi, mrgR, if_neg hn, if_neg h]
/-- Rows as a set, by a measure of its own. -/
def rowsR : Nat → List LV → List LV
  | 0, l => l
  | n + 1, l => if l.length < 2 then l else mrgR (rowsR n (l.take (l.length / 2))) (rowsR n (l.drop (l.length / 2)))
theorem rrows_ok : ∀ (n : Nat) (l : List LV), l.length ≤ n → (∀ x, x ∈ rowsR n l ↔ x ∈ l) ∧ (rowsR n l).length ≤ l.length ∧ StrictR (rowsR n l)
  | 0, l, h => by
    obtain rfl : l = [] := List.length_eq_zero_iff.1 (by omega)
    exact ⟨fun x => Iff.rfl, Nat.le_refl _, List.Pairwise.nil⟩
  | n + 1, l, h => by
    rw [rowsR]
    by_cases h2 : l.length < 2
    · rw [if_pos h2]
      refine ⟨fun x => Iff.rfl, Nat.le_refl _, ?_⟩
      match l, h2 with
      | [], _ => exact List.Pairwise.nil
      | [a], _ => exact List.pairwise_singleton _ _
      | _ :: _ :: _, h2 => simp only [List.length_cons] at h2; omega
    · rw [if_neg h2]
      obtain ⟨a1, a2, a3⟩ := rrows_ok n (l.take (l.length / 2)) (by rw [List.length_take]; omega)
      obtain ⟨b1, b2, b3⟩ := rrows_ok n (l.drop (l.length / 2)) (by rw [List.length_drop]; omega)
      obtain ⟨m1, m2, m3⟩ := mrg_ok _ (rowsR n (l.take (l.length / 2))) (rowsR n (l.drop (l.length / 2))) (Nat.le_refl _)
      rw [List.length_take] at a2
      rw [List.length_drop] at b2
      refine ⟨fun x => ?_, by omega, m3 a3 b3⟩
      rw [m1, a1, b1, ← List.mem_append, List.take_append_drop]
open Go Go.Proofs Go.Proofs.Tryz
/-- What the reference's Rows does at lists of a length. -/
def RRowS (n : Nat) : Prop := ∀ l : List LV, l.length ≤ n → l.length ≤ 1000000 → (∀ r ∈ l, r.length ≤ 4398046511104) → Fun1 prog 10 [tSl (rSl rValue) l] (tSl (rSl rValue) (rowsR n l))
theorem mrg_rest {a b out z : List LV} {i k : Nat} (h : out ++ mrgR (a.drop i) (b.drop k) = z) : out.length ≤ z.length := by
  have := congrArg List.length h
  rw [List.length_append] at this; omega
theorem app_snoc {out t z : List LV} {x : LV} {m : List LV} (h : out ++ m = z) (e : m = x :: t) : (out ++ [x]) ++ t = z := by rw [← h, e]; simp
set_option maxHeartbeats 4000000 in
theorem rrows1_spec (n : Nat) (l : List LV) (ih : 2 ≤ l.length → RRowS n) (hln : l.length ≤ n + 1) (hl : l.length ≤ 1000000) (hrl : ∀ r ∈ l, r.length ≤ 4398046511104) : Fun1 prog 10 [tSl (rSl rValue) l] (tSl (rSl rValue) (rowsR (n + 1) l)) := by
 refine Spec.enter func10 rfl rfl fun h0 w0 fr0 => ?_
 refine Jr (Ja rfl (JL_nil (J_seq (Jr (Jm rfl ?_)))))
 refine Js rfl (step_len_sl underlying38 Sr) (Js rfl (step_lss Sr Sr) (JL_nil ?_))
 refine J_cond Sr (fun h10 => ?_) (fun h10 => ?_)
 ·
  try simp only [NF] at h10
  have h2 : l.length < 2 := by omega
  refine Jr (Js rfl (step_literal_emp (R := rSl rValue) underlying38 el45) (Jm rfl ?_))
  refine Jx rfl (step_append_emp underlying38 el45 Sr Sr zG zG) fun v13 => ?_
  refine Ja rfl (JL_nil (J_ret ?_))
  refine K_ret1' (rv := .tmp 2) rfl () (Sel.all _) (.tmp Sr) (Frz.own0' (by rw [rowsR, if_pos h2]))
 try simp only [NF] at h10
 have h2 : ¬ l.length < 2 := by omega
 refine J_skip (Jr (Jm rfl (Jm rfl (Js rfl (step_len_sl underlying38 Sr) ?_))))
 refine Js rfl (step_quo Sr Sr (by first | assumption | omega) zG z6) ?_
 refine Js rfl (step_slice_toI (n := (l.length / 2)) underlying38 ty45 Sr Sr zG zG) ?_
 refine Js rfl (step_call0 (ih zG (l.take (l.length / 2)) (by rw [List.length_take]; omega) (by rw [List.length_take]; omega) (fun r hr => hrl r (List.mem_of_mem_take hr))) ⟨Sr, trivial⟩ call10) ?_
 refine Ja rfl (JL_nil (Jr (Jm rfl (Jm rfl (Js rfl (step_len_sl underlying38 Sr) ?_)))))
 refine Js rfl (step_quo Sr Sr (by first | assumption | omega) zG z6) ?_
 refine Js rfl (step_slice_fromI (n := (l.length / 2)) underlying38 ty45 rfl Sr Sr zG zG) ?_
 refine Js rfl (step_call0 (ih zG (l.drop (l.length / 2)) (by rw [List.length_drop]; omega) (by rw [List.length_drop]; omega) (fun r hr => hrl r (List.mem_of_mem_drop hr))) ⟨Sr, trivial⟩ call10) ?_
 refine Ja rfl (JL_nil ?_)
 obtain ⟨ra1, ra2, _⟩ := rrows_ok n (l.take (l.length / 2)) (by rw [List.length_take]; omega)
 obtain ⟨rb1, rb2, _⟩ := rrows_ok n (l.drop (l.length / 2)) (by rw [List.length_drop]; omega)
 rw [List.length_take] at ra2
 rw [List.length_drop] at rb2
 have hal : ∀ r ∈ (rowsR n (l.take (l.length / 2))), r.length ≤ 4398046511104 := fun r hr => Nat.le_trans (hrl r (List.mem_of_mem_take ((ra1 r).1 hr))) zG
 have hbl : ∀ r ∈ (rowsR n (l.drop (l.length / 2))), r.length ≤ 4398046511104 := fun r hr => Nat.le_trans (hrl r (List.mem_of_mem_drop ((rb1 r).1 hr))) zG
 have hrw : rowsR (n + 1) l = mrgR (rowsR n (l.take (l.length / 2))) (rowsR n (l.drop (l.length / 2))) := by rw [rowsR, if_neg h2]
 have hml := (mrg_ok _ (rowsR n (l.take (l.length / 2))) (rowsR n (l.drop (l.length / 2))) (Nat.le_refl _)).2.1
 generalize (rowsR n (l.take (l.length / 2))) = a at ra1 ra2 hal hrw hml ⊢
 generalize (rowsR n (l.drop (l.length / 2))) = b at rb1 rb2 hbl hrw hml ⊢
 refine Jr (Ja rfl (JL_nil (Jr (Ja rfl (JL_nil ?_)))))
 refine Jr (Ja rfl (JL_nil (J_seq (J_block ?_))))
 refine J_loopL (σ := Nat × Nat × Value × List LV) (fun ⟨i, k, vo, out⟩ => i ≤ a.length ∧ k ≤ b.length ∧ out ++ mrgR (a.drop i) (b.drop k) = mrgR a b) (fun ⟨i, k, vo, out⟩ => upd (upd (upd (upd (upd (upd env0 2 (tV (.slice none 0 0))) 3 (tSl (rSl rValue) a)) 4 (tSl (rSl rValue) b)) 5 (rV.ty vo)) 6 (tV (.int .i64 i))) 7 (tV (.int .i64 k))) (fun ⟨i, k, vo, out⟩ => [own 45 (rSl rValue) vo out]) (fun ⟨i, k, vo, out⟩ => (a.length - i) + (b.length - k)) (0, 0, .slice none 0 0, []) ⟨Nat.zero_le _, Nat.zero_le _, rfl⟩ (.u (.u (SubE.upd (Sub.rV rfl) (zU)))) (LSub.nilown) ?_
 rintro ⟨i, k, vo, out⟩ ⟨hi, hk, hm⟩
 refine J_seq (Jr (Jm rfl (Jm rfl (Js rfl (step_len_sl underlying38 Sr) (Js rfl (step_lss Sr Sr) ?_)))))
 refine Jm rfl ?_
 refine Jk rfl Sr rfl (step_move Sr) ?_
 refine Jk rfl Sr rfl (step_move Sr) ?_
 refine Jg rfl Sr rfl (fun hw => step_len_sl underlying38 (Sub.w hw)) (Jg rfl Sr rfl (fun hw => step_lss (Sub.w hw) (Sub.w hw)) (Js rfl (step_pick_or Sr Sr) (JL_nil ?_)))
 refine J_cond Sr (fun h35 => ?_) (fun h35 => ?_)
 ·
  try simp only [NF] at h35
  have hol := mrg_rest hm
  refine J_skip (J_block (J_seq ?_))
  refine J_draw [⟨0, [7], true⟩, ⟨1, [4], true⟩, ⟨2, [37], true⟩, ⟨3, [36, 38], true⟩, ⟨4, [39], true⟩, ⟨5, [6, 40], true⟩, ⟨6, [3, 40], true⟩, ⟨7, [40, 42], true⟩, ⟨8, [40, 41, 43], true⟩, ⟨9, [40, 44], true⟩, ⟨10, [3, 45], true⟩, ⟨11, [6, 45], true⟩, ⟨12, [45, 46, 47], true⟩, ⟨13, [45, 48], true⟩, ⟨14, [4, 45], true⟩, ⟨15, [7, 45], true⟩, ⟨16, [45, 50, 51], true⟩, ⟨17, [45, 52], true⟩, ⟨18, [45, 49, 53], true⟩, ⟨19, [40, 45, 54], true⟩, ⟨20, [40, 55], true⟩] rfl (by kernel_rfl) ?_
  refine Mv rfl rfl (Mv rfl rfl (Mf rfl rfl (step_len_sl underlying38 Sr) (Mf rfl rfl (step_eql Sr Sr) (Mv rfl rfl ?_))))
  refine Mk rfl rfl Sr rfl (step_move Sr) ?_
  refine Mk rfl rfl Sr rfl (step_move Sr) ?_
  refine Mg rfl rfl Sr rfl (fun hw => step_len_sl underlying38 (Sub.w hw)) (Mg rfl rfl Sr rfl (fun hw => step_lss (Sub.w hw) (Sub.w hw)) (Mg rfl rfl Sr rfl (fun hw => step_move (Sub.w hw)) ?_))
  refine JM_stepG rfl rfl rfl rfl (Gd.nest Sr) rfl rfl (fun hw _ => step_move Sr) ?_
  refine JM_stepG rfl rfl rfl rfl (Gd.nest Sr) rfl rfl (fun hw _ => step_move Sr) ?_
  refine JM_stepG rfl rfl rfl rfl (Gd.nest Sr) rfl rfl (fun hw _ => step_indexAddr_sl (i := i) underlying38 ty45 (Sub.w hw) (Sub.w hw) (by rfl) (gb (by have hwq := hw; (try simp only [beqB_t, beqB_f, NF] at hwq); (try simp at hwq); omega))) ?_
  refine JM_stepG rfl rfl rfl rfl (Gd.nest Sr) rfl rfl (fun hw _ => step_load_ptr ty45 (Sub.w hw)) ?_
  refine JM_stepG rfl rfl rfl rfl (Gd.nest Sr) rfl rfl (fun hw _ => step_move Sr) ?_
  refine JM_stepG rfl rfl rfl rfl (Gd.nest Sr) rfl rfl (fun hw _ => step_move Sr) ?_
  refine JM_stepG rfl rfl rfl rfl (Gd.nest Sr) rfl rfl (fun hw _ => step_indexAddr_sl (i := k) underlying38 ty45 (Sub.w hw) (Sub.w hw) (by rfl) (gb (by have hwq := hw; (try simp only [beqB_t, beqB_f, NF] at hwq); (try simp at hwq); omega))) ?_
  refine JM_stepG rfl rfl rfl rfl (Gd.nest Sr) rfl rfl (fun hw _ => step_load_ptr ty45 (Sub.w hw)) ?_
  refine JM_stepG rfl rfl rfl rfl (Gd.nest Sr) rfl rfl (fun hw _ => step_call0 (rless_spec (nth a i) (nth b k) (by have hwq := hw; simp at hwq; exact hal _ (nth_mem zG)) (by have hwq := hw; simp at hwq; exact hbl _ (nth_mem zG))) ⟨(Sub.w hw), (Sub.w hw), trivial⟩ call30) ?_
  refine Mg rfl rfl Sr rfl (fun hw => step_pick_and (Sub.w hw) (Sub.ww hw)) (Mf rfl rfl (step_pick_or Sr Sr) (JM_nil ?_))
  refine J_cond Sr (fun h56 => ?_) (fun h56 => ?_)
  ·
   try simp only [NF] at h56
   have hia : i < a.length := by rcases h56 with h | h <;> omega
   have hsa := mrg_a hia hk (by rcases h56 with h | h; exact .inl zG; exact .inr h.2)
   refine Jr (Jm rfl (Jm rfl (Jm rfl ?_)))
   refine Js rfl (step_indexAddr_sl (i := i) underlying38 ty45 Sr Sr (by rfl) (gb (by exact hia))) ?_
   refine Jl rfl ty45 Sr ?_
   refine Js rfl (step_literal (ys := [_]) underlying38 el45 ⟨rfl, Sr, trivial⟩ rfl (by decide)) ?_
   refine Jx rfl (step_append underlying38 el45 Sr Sr zS (by simp only [List.length_append, List.length_cons, List.length_nil]; omega) (by simp only [List.length_append, List.length_cons, List.length_nil]; omega)) fun v63 => ?_
   refine Ja rfl (JL_nil (J_region (Jm rfl (Js rfl (step_add Sr Sr z6) (Ja rfl ?_)))))
   refine JL_nil ?_
   refine K_againL (σ := Nat × Nat × Value × List LV) (s := (i, k, vo, out)) (i + 1, k, v63, out ++ [nth a i]) ((by show a.length - (i + 1) + (b.length - k) < a.length - i + (b.length - k); omega)) ⟨by omega, hk, app_snoc hm hsa⟩ (zU) (zL)
  try simp only [NF] at h56
  have hkb : k < b.length := by rcases h56 with ⟨h, _⟩; omega
  have hna : ¬ (i < a.length ∧ cmpR (nth a i) (nth b k) < 0) := fun q => by have := h56.2; simp at this; omega
  refine J_seq ?_
  refine J_draw [⟨0, [6], true⟩, ⟨1, [3], true⟩, ⟨2, [67], true⟩, ⟨3, [66, 68], true⟩, ⟨4, [69], true⟩, ⟨5, [4, 70], true⟩, ⟨6, [7, 70], true⟩, ⟨7, [70, 71, 72], true⟩, ⟨8, [70, 73], true⟩, ⟨9, [3, 70], true⟩, ⟨10, [6, 70], true⟩, ⟨11, [70, 75, 76], true⟩, ⟨12, [70, 77], true⟩, ⟨13, [70, 74, 78], true⟩, ⟨14, [70, 79], true⟩] rfl (by kernel_rfl) ?_
  refine Mv rfl rfl (Mv rfl rfl (Mf rfl rfl (step_len_sl underlying38 Sr) (Mf rfl rfl (step_eql Sr Sr) (Mv rfl rfl ?_))))
  refine Mk rfl rfl Sr rfl (step_move Sr) ?_
  refine Mk rfl rfl Sr rfl (step_move Sr) ?_
  refine Mg rfl rfl Sr rfl (fun hw => step_indexAddr_sl (i := k) underlying38 ty45 (Sub.w hw) (Sub.w hw) (by rfl) (gb (by have hwq := hw; (try simp only [beqB_t, beqB_f, NF] at hwq); (try simp at hwq); omega))) ?_
  refine Mg rfl rfl Sr rfl (fun hw => step_load_ptr ty45 (Sub.w hw)) ?_
  refine Mk rfl rfl Sr rfl (step_move Sr) ?_
  refine Mk rfl rfl Sr rfl (step_move Sr) ?_
  refine Mg rfl rfl Sr rfl (fun hw => step_indexAddr_sl (i := i) underlying38 ty45 (Sub.w hw) (Sub.w hw) (by rfl) (gb (by have hwq := hw; (try simp only [beqB_t, beqB_f, NF] at hwq); (try simp at hwq); omega))) ?_
  refine Mg rfl rfl Sr rfl (fun hw => step_load_ptr ty45 (Sub.w hw)) ?_
  refine Mg rfl rfl Sr rfl (fun hw => step_call0 (rless_spec (nth b k) (nth a i) (by exact hbl _ (nth_mem (by have hwq := hw; simp at hwq; omega))) (by exact hal _ (nth_mem (by have hwq := hw; simp at hwq; omega)))) ⟨(Sub.w hw), (Sub.w hw), trivial⟩ call30) ?_
  refine Mf rfl rfl (step_pick_or Sr Sr) (JM_nil ?_)
  refine J_cond Sr (fun h80 => ?_) (fun h80 => ?_)
  ·
   try simp only [NF] at h80
   have hsb := mrg_b hi hkb hna (by rcases h80 with h | h; exact .inl zG; exact .inr h)
   refine Jr (Jm rfl (Jm rfl (Jm rfl ?_)))
   refine Js rfl (step_indexAddr_sl (i := k) underlying38 ty45 Sr Sr (by rfl) (gb (by exact hkb))) ?_
   refine Jl rfl ty45 Sr ?_
   refine Js rfl (step_literal (ys := [_]) underlying38 el45 ⟨rfl, Sr, trivial⟩ rfl (by decide)) ?_
   refine Jx rfl (step_append underlying38 el45 Sr Sr zS (by simp only [List.length_append, List.length_cons, List.length_nil]; omega) (by simp only [List.length_append, List.length_cons, List.length_nil]; omega)) fun v87 => ?_
   refine Ja rfl (JL_nil (J_region (Jm rfl (Js rfl (step_add Sr Sr z6) (Ja rfl ?_)))))
   refine JL_nil ?_
   refine K_againL (σ := Nat × Nat × Value × List LV) (s := (i, k, vo, out)) (i, k + 1, v87, out ++ [nth b k]) ((by show a.length - i + (b.length - (k + 1)) < a.length - i + (b.length - k); omega)) ⟨hi, by omega, app_snoc hm hsb⟩ (zU) (zL)
  try simp only [NF] at h80
  have hia : i < a.length := by rcases h80 with ⟨h, _⟩; omega
  have hsc := mrg_c hia hkb (fun q => hna ⟨hia, q⟩) (by have := h80.2; omega)
  refine Jr (Jm rfl (Jm rfl (Jm rfl ?_)))
  refine Js rfl (step_indexAddr_sl (i := i) underlying38 ty45 Sr Sr (by rfl) (gb (by exact hia))) ?_
  refine Jl rfl ty45 Sr ?_
  refine Js rfl (step_literal (ys := [_]) underlying38 el45 ⟨rfl, Sr, trivial⟩ rfl (by decide)) ?_
  refine Jx rfl (step_append underlying38 el45 Sr Sr zS (by simp only [List.length_append, List.length_cons, List.length_nil]; omega) (by simp only [List.length_append, List.length_cons, List.length_nil]; omega)) fun v96 => ?_
  refine Ja rfl (JL_nil (Jr (Jm rfl (Js rfl (step_add Sr Sr z6) (Ja rfl ?_)))))
  refine JL_nil (J_region (Jm rfl (Js rfl (step_add Sr Sr z6) (Ja rfl (JL_nil ?_)))))
  refine K_againL (σ := Nat × Nat × Value × List LV) (s := (i, k, vo, out)) (i + 1, k + 1, v96, out ++ [nth a i]) ((by show a.length - (i + 1) + (b.length - (k + 1)) < a.length - i + (b.length - k); omega)) ⟨by omega, by omega, app_snoc hm hsc⟩ (zU) (zL)
 try simp only [NF] at h35
 obtain rfl : i = a.length := by omega
 obtain rfl : k = b.length := by omega
 refine J_exit (Jr (Jm rfl (Ja rfl (JL_nil (J_ret ?_)))))
 refine K_ret1' (rv := .tmp 2) rfl () (Sel.all _) (.tmp Sr) (Frz.own' (by rw [hrw, ← hm, List.drop_length, List.drop_length, mrgR, List.append_nil]))
theorem rrows_spec : ∀ n, RRowS n
  | 0 => fun l h1 h2 h3 => by
    obtain rfl : l = [] := List.length_eq_zero_iff.1 (by omega)
    have := rrows1_spec 0 [] (fun h => absurd h (by simp)) (by simp) h2 h3
    exact this
  | n + 1 => fun l h1 h2 h3 => rrows1_spec n l (fun _ => rrows_spec n) h1 h2 h3
open Go Go.Proofs Go.Proofs.Tryz
abbrev sNm : ByteArray := ⟨#[110, 97, 109, 101]⟩
abbrev sAg : ByteArray := ⟨#[97, 103, 101]⟩
abbrev sT1 : ByteArray := ⟨#[116]⟩
abbrev sN1 : ByteArray := ⟨#[110]⟩
abbrev sAnn : ByteArray := ⟨#[97, 110, 110]⟩
abbrev sBob : ByteArray := ⟨#[98, 111, 98]⟩
abbrev txV (s : ByteArray) : GValue := ⟨1, 0, s⟩
abbrev nmV33 (n : Int) : GValue := ⟨2, n, ⟨#[]⟩⟩
abbrev aNm : GAttr := ⟨sNm, 1, [], zValue⟩
abbrev aAg : GAttr := ⟨sAg, 2, [], zValue⟩
abbrev gA : List GAttr := [aNm, aAg]
abbrev gS : GSchema := ⟨[⟨sT1, gA, [0]⟩]⟩
abbrev gT0 : List LV := [[txV sAnn, nmV33 7], [txV sAnn, zValue], [txV sBob, nmV33 7]]
abbrev gT : List (List LV) := [gT0]
abbrev pAll : GPlan := GPl.mk 1 0 [] [] [] 0 0 gA
abbrev tYg (n : Int) : GTest := ⟨⟨0, 1, zValue⟩, 3, ⟨-1, 0, nmV33 n⟩, 0⟩
abbrev pYg (n : Int) : GPlan := GPl.mk 2 0 [pAll] [tYg n] [] 0 0 gA
def monoM : Nat → GPlan → Bool
  | 0, _ => true
  | n + 1, p => p.Kids.all (monoM n) && (!decide (p.Kind = 6) && !decide (p.Kind = 8))
def MonoS (n : Nat) : Prop := ∀ p : GPlan, PlSz n p → Fun1 prog 12 [(rPlan n).ty p] (tV (.bool (monoM n p)))
theorem text33_spec (s : ByteArray) : Fun1 prog 23 [tV (.string s)] (rValue.ty (txV s)) := by
 refine Spec.enter func23 rfl rfl fun h0 w0 fr0 => ?_
 refine Jr ?_
 refine Jx rfl (step_alloc (fun w => zeroValue62 w) zr62) fun b2 => ?_
 refine JL_nil (Jr (Jm rfl (Js rfl (step_build (x := (txV s : GValue)) (zs := [[Value.int .i64 0], [Value.int .i64 0], [Value.string ⟨#[]⟩]]) so62 (fun w => zeroValue62 w) ⟨Sr, Sr, trivial⟩ ⟨⟨Sr, rfl⟩, fun _ => rfl, ⟨Sr, rfl⟩, trivial⟩) ?_)))
 refine Ju (step_store_box ty62 Sr Sr zS) fun _ => ?_
 refine JL_nil (J_ret ?_)
 exact K_ret1' (rv := .cell 2 62) rfl () (Sel.all _) (.cell (R := rValue) ty62 Sr zS Sr) (Frz.sub Sr)
theorem num33_spec (n : Int) : Fun1 prog 24 [tV (.int .i64 n)] (rValue.ty (nmV33 n)) := by
 refine Spec.enter func24 rfl rfl fun h0 w0 fr0 => ?_
 refine Jr ?_
 refine Jx rfl (step_alloc (fun w => zeroValue62 w) zr62) fun b2 => ?_
 refine JL_nil (Jr (Jm rfl (Js rfl (step_build (x := (nmV33 n : GValue)) (zs := [[Value.int .i64 0], [Value.int .i64 0], [Value.string ⟨#[]⟩]]) so62 (fun w => zeroValue62 w) ⟨Sr, Sr, trivial⟩ ⟨⟨Sr, rfl⟩, ⟨Sr, rfl⟩, fun _ => rfl, trivial⟩) ?_)))
 refine Ju (step_store_box ty62 Sr Sr zS) fun _ => ?_
 refine JL_nil (J_ret ?_)
 exact K_ret1' (rv := .cell 2 62) rfl () (Sel.all _) (.cell (R := rValue) ty62 Sr zS Sr) (Frz.sub Sr)
theorem SameRows_spec (a b : List LV) (ha : a.length ≤ 1000000000000) (hb : ∀ r ∈ b, r.length ≤ 4398046511104) : Fun1 prog 9 [tSl (rSl rValue) a, tSl (rSl rValue) b] (tV (.bool (decide (a = b)))) := by
 refine Spec.enter func9 rfl rfl fun h0 w0 fr0 => ?_
 refine Jr (Ja rfl (JL_nil (J_seq (Jr (Jm rfl ?_)))))
 refine Js rfl (step_len_sl underlying38 Sr) (Jm rfl (Js rfl (step_len_sl underlying38 Sr) (Js rfl (step_neq Sr Sr) (JL_nil ?_))))
 refine J_cond Sr (fun h10 => ?_) (fun h10 => ?_)
 ·
  try simp only [NF] at h10
  refine Jr (Ja rfl (JL_nil (J_ret ?_)))
  refine K_ret1 (t := 4) rfl () (Sub.bool (Eq.symm (decide_eq_false fun q => ?_)))
  rw [q] at h10; omega
 try simp only [NF] at h10
 have hlen : a.length = b.length := by omega
 refine J_skip (J_seq (Jr (Ja rfl (JL_nil (J_block ?_)))))
 refine J_loopL (σ := Nat) (fun i => i ≤ a.length ∧ a.take i = b.take i) (fun i => upd (upd (upd env0 0 (tSl (rSl rValue) a)) 1 (tSl (rSl rValue) b)) 5 (tV (.int .i64 i))) (fun i => []) (fun i => a.length - i) 0 ⟨by omega, by simp⟩ (zU) (LSub.rfl) ?_
 rintro i ⟨hi, hv⟩
 refine J_seq (Jr (Jm rfl (Jm rfl (Js rfl (step_len_sl underlying38 Sr) (Js rfl (step_lss Sr Sr) ?_)))))
 refine JL_nil ?_
 refine J_cond Sr (fun h14 => ?_) (fun h14 => ?_)
 ·
  try simp only [NF] at h14
  have hlt : i < a.length := by omega
  refine J_skip (J_seq (J_block (J_seq ?_)))
  refine J_draw [⟨0, [0], true⟩, ⟨1, [5], true⟩, ⟨2, [17, 18], true⟩, ⟨3, [19], true⟩, ⟨4, [1], true⟩, ⟨5, [5], true⟩, ⟨6, [21, 22], true⟩, ⟨7, [23], true⟩, ⟨8, [20, 24], true⟩, ⟨9, [25], true⟩] rfl (by kernel_rfl) ?_
  refine Mv rfl rfl (Mv rfl rfl ?_)
  refine Mf rfl rfl (step_indexAddr_sl (i := i) underlying38 ty45 Sr Sr (by rfl) (gb (by exact hlt))) ?_
  refine Mf rfl rfl (step_load_ptr ty45 Sr) (Mv rfl rfl (Mv rfl rfl ?_))
  refine Mf rfl rfl (step_indexAddr_sl (i := i) underlying38 ty45 Sr Sr (by rfl) (gb zG)) ?_
  refine Mf rfl rfl (step_load_ptr ty45 Sr) (Mf rfl rfl (step_call0 (Rows_spec _ _ (hb _ (nth_mem zG))) ⟨Sr, Sr, trivial⟩ call29) (Mf rfl rfl (step_not Sr) (JM_nil ?_)))
  refine J_cond Sr (fun h26 => ?_) (fun h26 => ?_)
  ·
   try simp only [NF] at h26
   have hne : ¬ nth a i = nth b i := by simpa using h26
   refine Jr (Ja rfl (JL_nil (J_ret ?_)))
   refine K_ret1 (t := 4) rfl () (Sub.bool (Eq.symm (decide_eq_false fun q => hne (by rw [q]))))
  try simp only [NF] at h26
  have hei : nth a i = nth b i := by simpa using h26
  refine J_skip (J_region (Jm rfl (Js rfl (step_add Sr Sr z6) (Ja rfl (JL_nil ?_)))))
  refine K_againL (σ := Nat) (s := i) (i + 1) zO ⟨by omega, by rw [takeB hlt, takeB (show i < b.length by omega), hv, hei]⟩ (zU) (LSub.rfl)
 try simp only [NF] at h14
 obtain rfl : i = a.length := by omega
 refine J_exit (Jr (Ja rfl (JL_nil (J_ret ?_))))
 refine K_ret1 (t := 4) rfl () (Sub.bool (Eq.symm (decide_eq_true ?_)))
 rw [List.take_length] at hv
 rw [hv, hlen, List.take_length]
theorem In33_spec (l : List LV) (r : LV) (hl : l.length ≤ 1000000000000) (hr : r.length ≤ 4398046511104) : Fun1 prog 13 [tSl (rSl rValue) l, tSl rValue r] (tV (.bool (decide (r ∈ l)))) := by
 refine Spec.enter func13 rfl rfl fun h0 w0 fr0 => ?_
 refine Jr (Ja rfl (JL_nil (J_seq (Jr (Ja rfl ?_)))))
 refine JL_nil (J_block ?_)
 refine J_loopL (σ := Nat) (fun i => i ≤ l.length ∧ ∀ j, j < i → ¬ nth l j = r) (fun i => upd (upd (upd env0 0 (tSl (rSl rValue) l)) 1 (tSl rValue r)) 5 (tV (.int .i64 i))) (fun i => []) (fun i => l.length - i) 0 ⟨by omega, fun j hj => by omega⟩ (zU) (LSub.rfl) ?_
 rintro i ⟨hi, hv⟩
 refine J_seq (Jr (Jm rfl (Jm rfl (Js rfl (step_len_sl underlying38 Sr) (Js rfl (step_lss Sr Sr) ?_)))))
 refine JL_nil ?_
 refine J_cond Sr (fun h9 => ?_) (fun h9 => ?_)
 ·
  try simp only [NF] at h9
  have hlt : i < l.length := by omega
  refine J_skip (J_seq (J_block (Jr (Jm rfl (Jm rfl ?_)))))
  refine Js rfl (step_indexAddr_sl (i := i) underlying38 ty45 Sr Sr (by rfl) (gb (by exact hlt))) ?_
  refine Jl rfl ty45 Sr (Jm rfl (Js rfl (step_call0 (Rows_spec _ _ hr) ⟨Sr, Sr, trivial⟩ call29) (JL_nil ?_)))
  refine J_cond Sr (fun h17 => ?_) (fun h17 => ?_)
  ·
   try simp only [NF] at h17
   have heq : nth l i = r := by simpa using h17
   refine Jr (Ja rfl (JL_nil (J_ret ?_)))
   refine K_ret1 (t := 4) rfl () (Sub.bool (Eq.symm (decide_eq_true ?_)))
   rw [← heq]; exact nth_mem hlt
  try simp only [NF] at h17
  have hei : ¬ nth l i = r := by simpa using h17
  refine J_skip (J_region (Jm rfl (Js rfl (step_add Sr Sr z6) (Ja rfl (JL_nil ?_)))))
  refine K_againL (σ := Nat) (s := i) (i + 1) zO ⟨by omega, fun j hj => by by_cases e : j = i; exact e ▸ hei; exact hv j zG⟩ (zU) (LSub.rfl)
 try simp only [NF] at h9
 obtain rfl : i = l.length := by omega
 refine J_exit (Jr (Ja rfl (JL_nil (J_ret ?_))))
 refine K_ret1 (t := 4) rfl () (Sub.bool (Eq.symm (decide_eq_false fun q => ?_)))
 obtain ⟨j, hj, e⟩ := List.getElem_of_mem q
 rw [← nth_get hj] at e
 exact hv j hj e
theorem mono1_spec (n : Nat) (p : GPlan) (hz : PlSz (n + 1) p) (ih : MonoS n) : Fun1 prog 12 [(rPlan (n + 1)).ty p] (tV (.bool (monoM (n + 1) p))) := by
 refine Spec.enter func12 rfl rfl fun h0 w0 fr0 => ?_
 obtain ⟨z1, z2, z3, z4, z5⟩ := hz
 refine Jr (Js rfl (step_box (R := (rPlan (n + 1))) Sr) (Ja rfl (JL_nil (J_seq (Jr ?_)))))
 refine Ja rfl (JL_nil (J_block ?_))
 refine J_loopL (σ := Nat) (fun i => i ≤ p.Kids.length ∧ ∀ j, j < i → monoM n (nth p.Kids j) = true) (fun i => upd (upd env0 1 (tPtr (rPlan (n + 1)) p)) 3 (tV (.int .i64 i))) (fun i => []) (fun i => p.Kids.length - i) 0 ⟨by omega, fun j hj => by omega⟩ (zU) (LSub.rfl) ?_
 rintro i ⟨hi, hv⟩
 refine J_seq (Jr (Jm rfl (Js rfl (step_fieldAddr so30 Sr rfl) (Jl rfl ty25 Sr (Js rfl (step_len_sl underlying25 Sr) ?_)))))
 refine Js rfl (step_lss Sr Sr) (JL_nil ?_)
 refine J_cond Sr (fun h8 => ?_) (fun h8 => ?_)
 ·
  try simp only [NF] at h8
  have hlt : i < p.Kids.length := by omega
  refine J_skip (J_seq (J_block (Jr (Js rfl (step_fieldAddr so30 Sr rfl) (Jl rfl ty25 Sr ?_)))))
  refine Jm rfl ?_
  refine Js rfl (step_indexAddr_sl (i := i) underlying25 ty30 Sr Sr (by rfl) (gb (by exact hlt))) ?_
  refine Jl rfl ty30 Sr (Js rfl (step_call0 (ih (nth p.Kids i) (z5 _ (nth_mem hlt)).1) ⟨Sr, trivial⟩ call12) (Js rfl (step_not Sr) (JL_nil ?_)))
  refine J_cond Sr (fun h17 => ?_) (fun h17 => ?_)
  ·
   try simp only [NF] at h17
   have hkf : monoM n (nth p.Kids i) = false := by simpa using h17
   refine Jr (Ja rfl (JL_nil (J_ret ?_)))
   refine K_ret1 (t := 2) rfl () (Sub.bool (Eq.symm ?_))
   rw [monoM, show p.Kids.all (monoM n) = false from List.all_eq_false.2 ⟨_, nth_mem hlt, by rw [hkf]; simp⟩, Bool.false_and]
  try simp only [NF] at h17
  have hki : monoM n (nth p.Kids i) = true := by simpa using h17
  refine J_skip (J_region (Jm rfl (Js rfl (step_add Sr Sr z6) (Ja rfl (JL_nil ?_)))))
  refine K_againL (σ := Nat) (s := i) (i + 1) zO ⟨by omega, fun j hj => by by_cases e : j = i; exact e ▸ hki; exact hv j zG⟩ (zU) (LSub.rfl)
 try simp only [NF] at h8
 have hka : p.Kids.all (monoM n) = true := all_t (fun k hk => hv k zG)
 refine J_exit (Jr (Js rfl (step_fieldAddr so30 Sr rfl) (Jl rfl ty3 Sr (Js rfl (step_neq Sr Sr) (Jm rfl ?_)))))
 refine Jk rfl Sr rfl (step_fieldAddr so30 Sr rfl) ?_
 refine Jg rfl Sr rfl (fun hw => step_load_ptr ty3 (Sub.w hw)) (Jg rfl Sr rfl (fun hw => step_neq (Sub.w hw) Sr) (Js rfl (step_pick_and Sr Sr) (Ja rfl (JL_nil (J_ret ?_)))))
 refine K_ret1 (t := 2) rfl () (Sub.bool (Eq.symm ?_))
 rw [monoM, hka, Bool.true_and]
theorem mono_spec : ∀ n, MonoS n
 | 0 => fun p _ => Spec.enter func12 rfl rfl fun h0 w0 fr0 => K_fact 0 (fun _ _ r => (show False from r)) fun q => q.elim
 | n + 1 => fun p hz => mono1_spec n p hz (mono_spec n)
theorem sample33_spec  : Fun1 prog 20 [] (tTup [rSchema.ty gS, tSl (rSl (rSl rValue)) gT]) := by
 refine Spec.enter func20 rfl rfl fun h0 w0 fr0 => ?_
 refine Jr ?_
 refine Jx rfl (step_alloc (fun w => zeroValue24 w) zr24) fun b0 => ?_
 refine Ja rfl (JL_nil (Jr (Js rfl (step_build (x := (aNm : GAttr)) (zs := [[Value.string ⟨#[]⟩], [Value.int .i64 0], [Value.slice none 0 0], [Value.int .i64 0, Value.int .i64 0, Value.string ⟨#[]⟩]]) so64 (fun w => zeroValue64 w) ⟨Sr, Sr, trivial⟩ ⟨⟨Sr, rfl⟩, ⟨Sr, rfl⟩, fun _ => ⟨_, rfl, none, ⟨0, Nat.le_refl _⟩, rfl, fun q => absurd rfl q⟩, fun _ => ⟨[Value.int .i64 0], _, rfl, rfl, ⟨[Value.int .i64 0], _, rfl, rfl, ⟨[Value.string ⟨#[]⟩], _, rfl, rfl, rfl⟩⟩⟩, trivial⟩) (Js rfl (step_build (x := (aAg : GAttr)) (zs := [[Value.string ⟨#[]⟩], [Value.int .i64 0], [Value.slice none 0 0], [Value.int .i64 0, Value.int .i64 0, Value.string ⟨#[]⟩]]) so64 (fun w => zeroValue64 w) ⟨Sr, Sr, trivial⟩ ⟨⟨Sr, rfl⟩, ⟨Sr, rfl⟩, fun _ => ⟨_, rfl, none, ⟨0, Nat.le_refl _⟩, rfl, fun q => absurd rfl q⟩, fun _ => ⟨[Value.int .i64 0], _, rfl, rfl, ⟨[Value.int .i64 0], _, rfl, rfl, ⟨[Value.string ⟨#[]⟩], _, rfl, rfl, rfl⟩⟩⟩, trivial⟩) ?_))))
 refine Js rfl (step_literal (ys := gA) underlying28 el64 ⟨rfl, Sr, rfl, Sr, trivial⟩ rfl (by decide)) ?_
 refine Js rfl (step_literal (ys := [0]) underlying27 el3 ⟨rfl, Sr, trivial⟩ rfl (by decide)) ?_
 refine Js rfl (step_build (x := (⟨sT1, gA, [0]⟩ : GTable)) (zs := [[Value.string ⟨#[]⟩], [Value.slice none 0 0], [Value.slice none 0 0]]) so77 (fun w => zeroValue77 w) ⟨Sr, Sr, Sr, trivial⟩ ⟨⟨Sr, rfl⟩, ⟨Sr, rfl⟩, ⟨Sr, rfl⟩, trivial⟩) ?_
 refine Js rfl (step_literal (ys := gS.Tables) underlying22 el77 ⟨rfl, Sr, trivial⟩ rfl (by decide)) ?_
 refine Js rfl (step_build (x := (gS : GSchema)) (zs := [[Value.slice none 0 0]]) so24 (fun w => zeroValue24 w) ⟨Sr, trivial⟩ ⟨⟨Sr, rfl⟩, trivial⟩) ?_
 refine Jx rfl (step_alloc (fun w => zeroValue24 w) zr24) fun b2 => ?_
 refine Ju (step_store_box ty24 Sr Sr zS) fun _ => ?_
 refine JL_freeze (t := 2) (Sel.take (Sel.none _)) Frz.box ?_
 refine JL_nil (J_seq ?_)
 refine J_drawX [⟨0, [2], 0⟩, ⟨1, [], 0⟩, ⟨2, [], 0⟩, ⟨3, [11, 12], 0⟩, ⟨4, [], 0⟩, ⟨5, [], 0⟩, ⟨6, [14, 15], 0⟩, ⟨7, [], 0⟩, ⟨8, [], 0⟩, ⟨9, [17, 18], 0⟩, ⟨10, [13, 16, 19], 0⟩, ⟨11, [20], 0⟩, ⟨12, [0, 10], 2⟩, ⟨13, [21], 0⟩] rfl (by kernel_rfl) ?_
 refine JX_step rfl rfl rfl rfl (fun _ => step_load_ptr ty24 Sr) ?_
 refine JX_step rfl rfl rfl rfl (fun _ => step_call0 (text33_spec sAnn) ⟨Sr, trivial⟩ call23) ?_
 refine JX_step rfl rfl rfl rfl (fun _ => step_call0 (num33_spec 7) ⟨Sr, trivial⟩ call24) ?_
 refine JX_step rfl rfl rfl rfl (fun _ => step_literal (ys := [txV sAnn, nmV33 7]) underlying45 el62 ⟨rfl, Sr, rfl, Sr, trivial⟩ rfl (by decide)) ?_
 refine JX_step rfl rfl rfl rfl (fun _ => step_call0 (text33_spec sAnn) ⟨Sr, trivial⟩ call23) ?_
 refine JX_step rfl rfl rfl rfl (fun _ => step_build (x := (zValue : GValue)) (zs := [[Value.int .i64 0], [Value.int .i64 0], [Value.string ⟨#[]⟩]]) so62 (fun w => zeroValue62 w) trivial ⟨fun _ => rfl, fun _ => rfl, fun _ => rfl, trivial⟩) ?_
 refine JX_step rfl rfl rfl rfl (fun _ => step_literal (ys := [txV sAnn, zValue]) underlying45 el62 ⟨rfl, Sr, rfl, Sr, trivial⟩ rfl (by decide)) ?_
 refine JX_step rfl rfl rfl rfl (fun _ => step_call0 (text33_spec sBob) ⟨Sr, trivial⟩ call23) ?_
 refine JX_step rfl rfl rfl rfl (fun _ => step_call0 (num33_spec 7) ⟨Sr, trivial⟩ call24) ?_
 refine JX_step rfl rfl rfl rfl (fun _ => step_literal (ys := [txV sBob, nmV33 7]) underlying45 el62 ⟨rfl, Sr, rfl, Sr, trivial⟩ rfl (by decide)) ?_
 refine JX_step rfl rfl rfl rfl (fun _ => step_literal (ys := gT0) underlying38 el45 ⟨rfl, Sr, rfl, Sr, rfl, Sr, trivial⟩ rfl (by decide)) ?_
 refine JX_step rfl rfl rfl rfl (fun _ => step_literal (ys := gT) underlying35 el38 ⟨rfl, Sr, trivial⟩ rfl (by decide)) ?_
 refine JX_stepU rfl rfl rfl (step_store_box ty24 Sr Sr zS) fun _ => ?_
 refine JX_step rfl rfl rfl rfl (fun _ => step_assign Sr) ?_
 refine JX_nil (J_ret ?_)
 refine K_ret2' (rv := .cell 0 24) (rv' := .tmp 1) rfl () (Sel.all _) (.cell (R := rSchema) ty24 Sr zS Sr) (.tmp Sr) (Frz.sub Sr) (Frz.sub Sr) Sr
open Go Go.Proofs Go.Proofs.Tryz
theorem all33_spec (n : Nat) : Fun1 prog 21 [] ((rPlan (n + 1)).ty pAll) := by
 refine Spec.enter func21 rfl rfl fun h0 w0 fr0 => ?_
 refine Jr ?_
 refine Jx rfl (step_alloc (fun w => zeroValue30 w) (zr30 (n := n))) fun b0 => ?_
 refine JL_nil (Jr (Js rfl (step_call0 (sample33_spec) trivial call20) (Jm rfl (Js rfl (step_extract Sr rfl) (Js rfl (step_extract Sr rfl) ?_)))))
 refine Jx rfl (step_alloc (fun w => zeroValue24 w) zr24) fun b1 => ?_
 refine Ju (step_store_box ty24 Sr Sr zS) fun _ => ?_
 refine JL_freeze (t := 1) (Sel.take (Sel.none _)) Frz.box ?_
 refine Ja rfl (JL_nil (Jr (Js rfl (step_fieldAddr so24 Sr rfl) (Jl rfl ty22 Sr ?_))))
 refine Js rfl (step_indexAddr_sl (i := 0) underlying22 ty77 Sr Sr (by rfl) (gb (by decide))) ?_
 refine Js rfl (step_fieldAddr so77 Sr rfl) (Jl rfl ty28 Sr (Js rfl (step_build (x := (GPl.mk 1 0 [] [] [] 0 0 gA : GPlan)) (zs := [[Value.int .i64 0], [Value.int .i64 0], [Value.slice none 0 0], [Value.slice none 0 0], [Value.slice none 0 0], [Value.int .i64 0], [Value.int .i64 0], [Value.slice none 0 0]]) (so30 (n := n)) (fun w => zeroValue30 w) ⟨Sr, Sr, trivial⟩ ⟨⟨Sr, rfl⟩, fun _ => rfl, fun _ => ⟨_, rfl, none, ⟨0, Nat.le_refl _⟩, rfl, fun q => absurd rfl q⟩, fun _ => ⟨_, rfl, none, ⟨0, Nat.le_refl _⟩, rfl, fun q => absurd rfl q⟩, fun _ => ⟨_, rfl, none, ⟨0, Nat.le_refl _⟩, rfl, fun q => absurd rfl q⟩, fun _ => rfl, fun _ => rfl, ⟨Sr, rfl⟩, trivial⟩) ?_))
 refine Ju (step_store_box ty30 Sr Sr zS) fun _ => ?_
 refine JL_nil (J_ret ?_)
 exact K_ret1' (rv := .cell 0 30) rfl () (Sel.all _) (.cell (R := rPlan (n + 1)) ty30 Sr zS Sr) (Frz.sub Sr)
theorem young33_spec (n : Nat) (k : Int) : Fun1 prog 22 [tV (.int .i64 k)] ((rPlan (n + 2)).ty (pYg k)) := by
 refine Spec.enter func22 rfl rfl fun h0 w0 fr0 => ?_
 refine Jr ?_
 refine Jx rfl (step_alloc (fun w => zeroValue30 w) (zr30 (n := n + 1))) fun b2 => ?_
 refine JL_nil (Jr (Js rfl (step_build (x := ((⟨0, 1, zValue⟩ : GSide) : GSide)) (zs := [[Value.int .i64 0], [Value.int .i64 0], [Value.int .i64 0, Value.int .i64 0, Value.string ⟨#[]⟩]]) so91 (fun w => zeroValue91 w) ⟨Sr, trivial⟩ ⟨fun _ => rfl, ⟨Sr, rfl⟩, fun _ => ⟨[Value.int .i64 0], _, rfl, rfl, ⟨[Value.int .i64 0], _, rfl, rfl, ⟨[Value.string ⟨#[]⟩], _, rfl, rfl, rfl⟩⟩⟩, trivial⟩) (Jm rfl (Js rfl (step_call0 (num33_spec k) ⟨Sr, trivial⟩ call24) (Js rfl (step_build (x := ((⟨-1, 0, nmV33 k⟩ : GSide) : GSide)) (zs := [[Value.int .i64 0], [Value.int .i64 0], [Value.int .i64 0, Value.int .i64 0, Value.string ⟨#[]⟩]]) so91 (fun w => zeroValue91 w) ⟨Sr, Sr, trivial⟩ ⟨⟨Sr, rfl⟩, fun _ => rfl, ⟨Sr, rfl⟩, trivial⟩) ?_)))))
 refine Js rfl (step_build (x := (tYg k : GTest)) (zs := [[Value.int .i64 0, Value.int .i64 0, Value.int .i64 0, Value.int .i64 0, Value.string ⟨#[]⟩], [Value.int .i64 0], [Value.int .i64 0, Value.int .i64 0, Value.int .i64 0, Value.int .i64 0, Value.string ⟨#[]⟩], [Value.int .i64 0]]) so93 (fun w => zeroValue93 w) ⟨Sr, Sr, Sr, trivial⟩ ⟨⟨Sr, rfl⟩, ⟨Sr, rfl⟩, ⟨Sr, rfl⟩, fun _ => rfl, trivial⟩) ?_
 refine Jx rfl (step_alloc (fun w => zeroValue93 w) zr93) fun b3 => ?_
 refine Ju (step_store_box ty93 Sr Sr zS) fun _ => ?_
 refine JL_freeze (t := 3) (Sel.take (Sel.none _)) Frz.box ?_
 refine JL_nil (J_seq ?_)
 refine J_draw [⟨0, [], true⟩, ⟨1, [9], true⟩, ⟨2, [3], true⟩, ⟨3, [11], true⟩, ⟨4, [], true⟩, ⟨5, [13], true⟩, ⟨6, [10, 12, 14], true⟩, ⟨7, [2, 15], false⟩] rfl (by kernel_rfl) ?_
 refine Mf rfl rfl (step_call0 (all33_spec n) trivial call21) ?_
 refine Mf rfl rfl (step_literal (ys := [pAll]) underlying25 (el30 (n := n)) ⟨rfl, Sr, trivial⟩ rfl (by rw [rPl_k]; decide)) ?_
 refine Mf rfl rfl (step_load_ptr ty93 Sr) ?_
 refine Mf rfl rfl (step_literal (ys := [tYg k]) underlying26 el93 ⟨rfl, Sr, trivial⟩ rfl (by decide)) ?_
 refine Mf rfl rfl (step_call0 (all33_spec n) trivial call21) (Mf rfl rfl (step_field (fs := fsPl cPl rAttr rTest (rPlan n)) (y := pAll) so30 Sr rfl) (Mf rfl rfl (step_build (x := (GPl.mk 2 0 [pAll] [tYg k] [] 0 0 gA : GPlan)) (zs := [[Value.int .i64 0], [Value.int .i64 0], [Value.slice none 0 0], [Value.slice none 0 0], [Value.slice none 0 0], [Value.int .i64 0], [Value.int .i64 0], [Value.slice none 0 0]]) (so30 (n := n + 1)) (fun w => zeroValue30 w) ⟨Sr, Sr, Sr, Sr, trivial⟩ ⟨⟨Sr, rfl⟩, fun _ => rfl, ⟨Sr, rfl⟩, ⟨Sr, rfl⟩, fun _ => ⟨_, rfl, none, ⟨0, Nat.le_refl _⟩, rfl, fun q => absurd rfl q⟩, fun _ => rfl, fun _ => rfl, ⟨Sr, rfl⟩, trivial⟩) ?_))
 refine JM_stepU rfl rfl rfl (step_store_box ty30 Sr Sr zS) fun _ => ?_
 refine JM_nil (J_ret ?_)
 exact K_ret1' (rv := .cell 2 30) rfl () (Sel.all _) (.cell (R := rPlan (n + 2)) ty30 Sr zS Sr) (Frz.sub Sr)
open Go Go.Proofs Go.Proofs.Tryz
section
variable {α : Type} {e : Nat} {R : Rp α}
abbrev nilV : Value := .slice none 0 0
/-- The values a i, which hold b i. -/
def zq (n : Nat) (a : Nat → Value) (b : Nat → List α) : RowsL Nat α := (List.range n).map fun i => (i, a i, b i)
def fup {β : Type} (a : Nat → β) (i : Nat) (x : β) : Nat → β := fun j => if j = i then x else a j
theorem rval_map (a : Nat → Value) (b : Nat → List α) (k : Nat) : ∀ l : List Nat, k ∈ l → rval (l.map fun i => (i, a i, b i)) k = (a k, b k)
  | [], h => by cases h
  | i :: l, h => by
    by_cases e : k = i
    · subst e; simp [rval]
    · rcases List.mem_cons.1 h with h | h
      · exact absurd h e
      · simp only [List.map_cons, rval, if_neg e]; exact rval_map a b k l h
theorem rput_map (a : Nat → Value) (b : Nat → List α) (k : Nat) (v : Value) (x : List α) : ∀ l : List Nat, l.Nodup → k ∈ l → rput (l.map fun i => (i, a i, b i)) k v x = l.map fun i => (i, fup a k v i, fup b k x i)
  | [], _, h => by cases h
  | i :: l, hn, h => by
    obtain ⟨h1, h2⟩ := List.nodup_cons.1 hn
    by_cases e : k = i
    · subst e
      simp only [List.map_cons, rput, if_true, fup]
      congr 1
      refine List.map_congr_left fun j hj => ?_
      have : ¬ j = k := fun q => h1 (q ▸ hj)
      simp [this]
    · rcases List.mem_cons.1 h with h | h
      · exact absurd h e
      · simp only [List.map_cons, rput, if_neg e]
        rw [rput_map a b k v x l h2 h]
        have : ¬ i = k := fun q => e q.symm
        simp [fup, this]
theorem rval_zq {n k : Nat} {a : Nat → Value} {b : Nat → List α} (h : k < n) : rval (zq n a b) k = (a k, b k) := rval_map a b k _ (List.mem_range.2 h)
theorem rput_zq {n k : Nat} {a : Nat → Value} {b : Nat → List α} (v : Value) (x : List α) (h : k < n) : rput (zq n a b) k v x = zq n (fup a k v) (fup b k x) := rput_map a b k v x _ List.nodup_range (List.mem_range.2 h)
def vsO (n : Nat) (a : Nat → Value) : List Value := (List.range n).map a
theorem vsO_len (n : Nat) (a : Nat → Value) : (vsO n a).length = n := by simp [vsO]
theorem vsO_nth {n i : Nat} {a : Nat → Value} (h : i < n) : nth (vsO n a) i = a i := by
  rw [nth_get (by simpa [vsO] using h)]; simp [vsO]
theorem vsO_set {n i : Nat} {a : Nat → Value} {v : Value} (h : i < n) : (vsO n a).set i v = vsO n (fup a i v) := by
  apply List.ext_getElem
  · simp [vsO]
  · intro j h1 h2
    simp only [vsO, List.getElem_set, List.getElem_map, List.getElem_range, fup]
    by_cases e : i = j
    · subst e; simp
    · rw [if_neg e, if_neg (fun q => e q.symm)]
theorem rows_nils : ∀ (l : List Nat) {L : List SP}, LSub L (rowsO e R (l.map fun i => (i, nilV, ([] : List α))) :: L)
  | [], L => rows_nil
  | i :: l, L => LSub.trans (rows_nils l) (LSub.trans LSub.nilown LSub.push)
theorem zq_nils {n : Nat} {L : List SP} : LSub L (rowsO e R (zq n (fun _ => nilV) (fun _ => ([] : List α))) :: L) := rows_nils _
theorem vsO_rep (n : Nat) : List.replicate n nilV = vsO n fun _ => nilV := by
  apply List.ext_getElem
  · simp [vsO]
  · intro i h1 h2; simp [vsO]
theorem tSl_pt {h : PH} {n : Nat} {a : Nat → Value} {b : Nat → List α} {v : Value} (hv : (tSl rV (vsO n a)).p h v) (hb : ∀ i, i < n → (tSl R (b i)).p h (a i)) : (tSl (rSl R) ((List.range n).map b)).p h v := by
  obtain ⟨ao, cap, e1, H⟩ := hv
  have hl : ((List.range n).map b).length = (vsO n a).length := by simp [vsO]
  refine ⟨ao, ⟨cap.1, by rw [hl]; exact cap.2⟩, e1.trans (congrArg (fun k => Value.slice ao k cap.1) hl.symm), fun hn => ?_⟩
  have hn' : vsO n a ≠ [] := fun q => hn (List.length_eq_zero_iff.1 (by rw [hl, q]; rfl))
  obtain ⟨bb, off, ea, H2⟩ := H hn'
  refine ⟨bb, off, ea, fun i x hx => ?_⟩
  have hi : i < n := by
    have := (List.getElem?_eq_some_iff.1 hx).1
    simpa using this
  have hx' : b i = x := by simpa [hi] using hx
  obtain ⟨cs, H3, r1, r2⟩ := H2 i (a i) (by simp [vsO, hi])
  refine ⟨cs, H3, a i, r1, ?_⟩
  rw [← hx']; exact hb i hi
theorem Frz.nest {e0 n : Nat} {a : Nat → Value} {b : Nat → List α} {v : Value} {S : List SP} : Frz (Lg.own e0 rV v (vsO n a) :: rowsO e R (zq n a b) :: S) (rV.ty v) (tSl (rSl R) ((List.range n).map b)) := fun h m u d hs hu => by
  have h1 := Frz.own (S := rowsO e R (zq n a b) :: S) h m u d hs hu
  obtain ⟨m1, m2, d12, em, ho, m3, m4, d34, em2, hr, _⟩ := hs
  subst em; subst em2
  have hd := PH.disj_join'.1 d
  have hd2 := PH.disj_join'.1 hd.2
  have hfr := rows_frz hd2.1 hr
  have hle : (h.join m3).le (h.join (m1.join (m3.join m4))) := fun b o eo => by
    simp only [PH.join] at eo ⊢
    cases hb : h b with
    | some x => rw [hb] at eo; exact eo
    | none =>
      rw [hb] at eo
      have h1 : (m3.join m4) b = some o := PH.le_join_left m3 m4 b o eo
      have := PH.le_join_right d12 b o h1
      simp only [PH.join] at this
      exact this
  refine tSl_pt h1 fun i hi => ?_
  exact (tSl R (b i)).mono hle (hfr (i, a i, b i) (List.mem_map.2 ⟨i, List.mem_range.2 hi, rfl⟩))
end
theorem el38V : ElT prog 38 rV 24 nilV := ⟨ty38V, by decide, t38, nilV, by kernel_rfl, by kernel_rfl, by kernel_rfl, by kernel_rfl, fun _ => ⟨rfl, rfl⟩⟩
/-- The rows of some facts in a table. -/
def tabStep (facts : List GFact) (n : Nat) (b : Nat → List LV) (c : Int) : Nat → List LV :=
  if 0 ≤ c ∧ c < facts.length then (if 0 ≤ (nth facts c.toNat).Table ∧ (nth facts c.toNat).Table < n then fup b (nth facts c.toNat).Table.toNat (b (nth facts c.toNat).Table.toNat ++ [(nth facts c.toNat).Row]) else b) else b
def tabB (facts : List GFact) (n : Nat) (ch : List Int) : Nat → List LV := ch.foldl (tabStep facts n) fun _ => []
def tablesM (n : Nat) (facts : List GFact) (ch : List Int) : List (List LV) := (List.range n).map fun i => setR (tabB facts n ch i)
theorem tabB_mem {facts : List GFact} {n : Nat} {i : Nat} {r : LV} (hi : i < n) : ∀ (ch : List Int) (b : Nat → List LV), r ∈ ch.foldl (tabStep facts n) b i ↔ r ∈ b i ∨ ∃ c ∈ ch, (0 ≤ c ∧ c < (facts.length : Int)) ∧ (nth facts c.toNat).Table = i ∧ (nth facts c.toNat).Row = r
  | [], b => by simp
  | c :: ch, b => by
    rw [List.foldl_cons, tabB_mem hi ch]
    have hs : r ∈ tabStep facts n b c i ↔ r ∈ b i ∨ ((0 ≤ c ∧ c < (facts.length : Int)) ∧ (nth facts c.toNat).Table = i ∧ (nth facts c.toNat).Row = r) := by
      unfold tabStep
      by_cases h1 : 0 ≤ c ∧ c < (facts.length : Int)
      · rw [if_pos h1]
        by_cases h2 : 0 ≤ (nth facts c.toNat).Table ∧ (nth facts c.toNat).Table < n
        · rw [if_pos h2]
          unfold fup
          by_cases h3 : i = (nth facts c.toNat).Table.toNat
          · rw [if_pos h3, List.mem_append, List.mem_singleton, ← h3]
            have e : (nth facts c.toNat).Table = i := by omega
            constructor
            · rintro (h | h)
              · exact .inl h
              · exact .inr ⟨h1, e, h.symm⟩
            · rintro (h | ⟨_, _, h⟩)
              · exact .inl h
              · exact .inr h.symm
          · rw [if_neg h3]
            constructor
            · exact .inl
            · rintro (h | ⟨_, h, _⟩)
              · exact h
              · omega
        · rw [if_neg h2]
          constructor
          · exact .inl
          · rintro (h | ⟨_, h, _⟩)
            · exact h
            · omega
      · rw [if_neg h1]; simp [h1]
    rw [hs]
    constructor
    · rintro ((h | h) | ⟨c', h1, h2⟩)
      · exact .inl h
      · exact .inr ⟨c, by simp, h⟩
      · exact .inr ⟨c', by simp [h1], h2⟩
    · rintro (h | ⟨c', h1, h2⟩)
      · exact .inl (.inl h)
      · rcases List.mem_cons.1 h1 with rfl | h1
        · exact .inl (.inr h2)
        · exact .inr ⟨c', h1, h2⟩
theorem tabB_len {facts : List GFact} {n : Nat} {i : Nat} : ∀ (ch : List Int) (b : Nat → List LV), (ch.foldl (tabStep facts n) b i).length ≤ (b i).length + ch.length
  | [], b => by simp
  | c :: ch, b => by
    rw [List.foldl_cons]
    have h := tabB_len (facts := facts) (n := n) (i := i) ch (tabStep facts n b c)
    have h2 : (tabStep facts n b c i).length ≤ (b i).length + 1 := by
      unfold tabStep
      split
      · split
        · unfold fup; split
          · rename_i q; rw [q]; simp
          · omega
        · omega
      · omega
    simp only [List.length_cons]; omega
open Go Go.Proofs Go.Proofs.Tryz
section
variable {facts : List GFact} {n : Nat} {ch : List Int} {i : Nat}
theorem tabB_succ (h : i < ch.length) : tabB facts n (ch.take (i + 1)) = tabStep facts n (tabB facts n (ch.take i)) (nth ch i) := fold_tk h
theorem tabB_out (h : i < ch.length) (ho : ¬ (0 ≤ nth ch i ∧ nth ch i < facts.length)) : tabB facts n (ch.take (i + 1)) = tabB facts n (ch.take i) := by rw [tabB_succ h, tabStep, if_neg ho]
theorem tabB_no (h : i < ch.length) (ho : ¬ (0 ≤ (nth facts (nth ch i).toNat).Table ∧ (nth facts (nth ch i).toNat).Table < n)) : tabB facts n (ch.take (i + 1)) = tabB facts n (ch.take i) := by
  rw [tabB_succ h, tabStep]
  by_cases h1 : 0 ≤ nth ch i ∧ nth ch i < facts.length
  · rw [if_pos h1, if_neg ho]
  · rw [if_neg h1]
theorem tabB_put (h : i < ch.length) (h1 : 0 ≤ nth ch i ∧ nth ch i < facts.length) (h2 : 0 ≤ (nth facts (nth ch i).toNat).Table ∧ (nth facts (nth ch i).toNat).Table < n) :
    tabB facts n (ch.take (i + 1)) = fup (tabB facts n (ch.take i)) (nth facts (nth ch i).toNat).Table.toNat (tabB facts n (ch.take i) (nth facts (nth ch i).toNat).Table.toNat ++ [(nth facts (nth ch i).toNat).Row]) := by
  rw [tabB_succ h, tabStep, if_pos h1, if_pos h2]
def setI (b : Nat → List LV) (t : Nat) : Nat → List LV := fun j => if j < t then setR (b j) else b j
theorem setI_0 (b : Nat → List LV) : setI b 0 = b := by funext j; simp [setI]
theorem setI_succ (b : Nat → List LV) (t : Nat) : fup (setI b t) t (setR (b t)) = setI b (t + 1) := by
  funext j
  unfold fup setI
  by_cases h : j = t
  · subst h; simp
  · by_cases h2 : j < t
    · rw [if_neg h, if_pos h2, if_pos (by omega)]
    · rw [if_neg h, if_neg h2, if_neg (by omega)]
theorem setI_at (b : Nat → List LV) (t : Nat) : setI b t t = b t := by simp [setI]
theorem tabB_row {facts : List GFact} {n i : Nat} {ch : List Int} (hr : ∀ f ∈ facts, f.Row.length ≤ 4398046511104) (hi : i < n) : ∀ r ∈ tabB facts n ch i, r.length ≤ 4398046511104 := fun r h => by
  rcases (tabB_mem hi ch _).1 h with h | ⟨c, _, h1, _, rfl⟩
  · cases h
  · exact hr _ (nth_mem (by omega))
end
set_option maxHeartbeats 4000000 in
theorem Tables_spec (s : GSchema) (hs : s.Tables.length ≤ 1000000) (facts : List GFact) (hf : facts.length ≤ 1000000) (hr : ∀ f ∈ facts, f.Row.length ≤ 4398046511104) (ch : List Int) (hc : ch.length ≤ 1000000) : Fun1 prog 8 [rSchema.ty s, tSl rFact facts, tSl rInt ch] (tSl (rSl (rSl rValue)) (tablesM s.Tables.length facts ch)) := by
 refine Spec.enter func8 rfl rfl fun h0 w0 fr0 => ?_
 refine Jr (Js rfl (step_box (R := rSchema) Sr) (Ja rfl (JL_nil (Jr (Js rfl (step_fieldAddr so24 Sr rfl) ?_)))))
 refine Jl rfl ty22 Sr (Js rfl (step_len_sl underlying22 Sr) ?_)
 refine Jx rfl (step_make (n := s.Tables.length) underlying35 el38V Sr Sr rfl zG zG) fun v15 => ?_
 refine Ja rfl (JL_nil (J_seq (Jr (Jm rfl (Js rfl (step_len_sl underlying27 Sr) ?_)))))
 refine Jm rfl (JL_nil (J_block ?_))
 refine J_loopL (σ := Nat × (Nat → Value)) (fun ⟨i, a⟩ => i ≤ ch.length) (fun ⟨i, a⟩ => upd (upd (upd (upd (upd (upd env0 1 (tSl rFact facts)) 6 (tV (.slice none 0 0))) 7 (rV.ty v15)) 16 (tSl rInt ch)) 17 (tV (.int .i64 ch.length))) 18 (tV (.int .i64 i))) (fun ⟨i, a⟩ => [own 38 rV v15 (vsO s.Tables.length a), rowsO 45 (rSl rValue) (zq s.Tables.length a (tabB facts s.Tables.length (ch.take i)))]) (fun ⟨i, a⟩ => ch.length - i) (0, fun _ => nilV) (by exact Nat.zero_le _) (zU) (LSub.trans (.c zS (SPs.of (A := own 38 rV v15 (List.replicate s.Tables.length nilV)) (by rw [vsO_rep])) (LSub.nil)) (LSub.trans zq_nils LSub.swap)) ?_
 rintro ⟨i, a⟩ hi
 try dsimp only at hi
 refine Jr (Js rfl (step_lss Sr Sr) (JL_nil (J_seq ?_)))
 refine J_cond Sr (fun h19 => ?_) (fun h19 => ?_)
 ·
  try simp only [NF] at h19
  have hvl := vsO_len s.Tables.length a
  have hlt : i < ch.length := by omega
  refine J_skip (J_seq (J_block (Jr ?_)))
  refine Js rfl (step_indexAddr_sl (i := i) underlying27 ty3 Sr Sr (by rfl) (gb (by exact hlt))) ?_
  refine Jl rfl ty3 Sr (Ja rfl (JL_nil (J_seq (Jr (Jm rfl ?_)))))
  refine Js rfl (step_lss Sr Sr) (Jm rfl ?_)
  refine Jk rfl Sr rfl (step_move Sr) ?_
  refine Jk rfl Sr rfl (step_move Sr) ?_
  refine Jg rfl Sr rfl (fun hw => step_len_sl underlying31 (Sub.w hw)) (Jg rfl Sr rfl (fun hw => step_geq (Sub.w hw) (Sub.w hw)) (Js rfl (step_pick_or Sr Sr) (JL_nil ?_)))
  refine J_cond Sr (fun h29 => ?_) (fun h29 => ?_)
  ·
   try simp only [NF] at h29
   refine J_exit (J_region (Js rfl (step_add Sr Sr z6) (Jm rfl (JL_nil ?_))))
   refine K_againL (σ := Nat × (Nat → Value)) (s := (i, a)) (i + 1, a) zO (by show i + 1 ≤ _; omega) (zU) (.r zS (.c zS (SPs.of (A := rowsO 45 (rSl rValue) (zq s.Tables.length a (tabB facts s.Tables.length (ch.take i)))) (by rw [tabB_out hlt zG])) (LSub.nil)))
  try simp only [NF] at h29
  have hCb : 0 ≤ (nth ch i) ∧ (nth ch i) < (facts.length : Int) := by omega
  refine J_skip (Jr (Jm rfl (Jm rfl (Js rfl (step_indexAddr_sl (i := (nth ch i).toNat) underlying31 ty71 Sr Sr zG (gb zG)) (Js rfl (step_fieldAddr so71 Sr rfl) ?_)))))
  refine Jl rfl ty3 Sr (Ja rfl (JL_nil (Jr (Jm rfl (Js rfl (step_geq Sr Sr) ?_)))))
  refine Jm rfl ?_
  refine Jk rfl Sr rfl (step_move Sr) ?_
  refine Jk rfl Sr rfl (step_move Sr) ?_
  refine Jg rfl Sr rfl (fun hw => step_len_own underlying35 (Sub.w hw) zS) ?_
  refine Jg rfl Sr rfl (fun hw => step_lss (Sub.w hw) (Sub.w hw)) (Js rfl (step_pick_and Sr Sr) (JL_nil ?_))
  refine J_cond Sr (fun h42 => ?_) (fun h42 => ?_)
  ·
   try simp only [NF] at h42
   have hTb : 0 ≤ (nth facts (nth ch i).toNat).Table ∧ (nth facts (nth ch i).toNat).Table < (s.Tables.length : Int) := by omega
   have hT : (nth facts (nth ch i).toNat).Table.toNat < s.Tables.length := by omega
   have htl := tabB_len (facts := facts) (n := s.Tables.length) (i := (nth facts (nth ch i).toNat).Table.toNat) (ch.take i) (fun _ => [])
   have htl2 : ((tabB facts s.Tables.length (ch.take i)) (nth facts (nth ch i).toNat).Table.toNat).length ≤ [].length + (ch.take i).length := htl
   simp only [List.length_nil, List.length_take] at htl2
   refine K_lsub (L' := [own 45 (rSl rValue) (nth (vsO s.Tables.length a) (nth facts (nth ch i).toNat).Table.toNat) ((tabB facts s.Tables.length (ch.take i)) (nth facts (nth ch i).toNat).Table.toNat), rowsO 45 (rSl rValue) (rmv (zq s.Tables.length a (tabB facts s.Tables.length (ch.take i))) (nth facts (nth ch i).toNat).Table.toNat), own 38 rV v15 (vsO s.Tables.length a)]) (LSub.trans (B := [rowsO 45 (rSl rValue) (zq s.Tables.length a (tabB facts s.Tables.length (ch.take i))), own 38 rV v15 (vsO s.Tables.length a)]) (LSub.swap) (LSub.trans (rows_split (nth facts (nth ch i).toNat).Table.toNat) (.c zS (SPs.of (A := own 45 (rSl rValue) (rval (zq s.Tables.length a (tabB facts s.Tables.length (ch.take i))) (nth facts (nth ch i).toNat).Table.toNat).1 (rval (zq s.Tables.length a (tabB facts s.Tables.length (ch.take i))) (nth facts (nth ch i).toNat).Table.toNat).2) (by rw [rval_zq hT, vsO_nth hT])) (zL)))) ?_
   refine J_draw [⟨0, [7], true⟩, ⟨1, [10], true⟩, ⟨2, [7], true⟩, ⟨3, [10], true⟩, ⟨6, [1], true⟩, ⟨7, [9], true⟩, ⟨8, [49, 50], true⟩, ⟨9, [51], true⟩, ⟨10, [52], true⟩, ⟨11, [53], true⟩, ⟨12, [54], true⟩, ⟨4, [45, 46], false⟩, ⟨5, [47], false⟩, ⟨13, [48, 55], false⟩, ⟨14, [43, 44], false⟩, ⟨15, [56, 57], false⟩] rfl (by kernel_rfl) ?_
   refine Mv rfl rfl (Mv rfl rfl (Mv rfl rfl (Mv rfl rfl (Mv rfl rfl (Mv rfl rfl ?_)))))
   refine Mf rfl rfl (step_indexAddr_sl (i := (nth ch i).toNat) underlying31 ty71 Sr Sr zG (gb zG)) (Mf rfl rfl (step_fieldAddr so71 Sr rfl) (Mf rfl rfl (step_load_ptr ty45 Sr) ?_))
   refine Mf rfl rfl (step_call0 (CloneRowI_spec (nth facts (nth ch i).toNat).Row (by have := hr _ (nth_mem (l := facts) (i := (nth ch i).toNat) zG); omega)) ⟨Sr, trivial⟩ call27) ?_
   refine Mf rfl rfl (step_literal (ys := [_]) underlying38 el45 ⟨rfl, Sr, trivial⟩ rfl (by decide)) ?_
   refine JM_look rfl rfl rfl rfl (step_indexAddr_own (i := (nth facts (nth ch i).toNat).Table.toNat) underlying35 ty38V Sr zS Sr (by show (nth facts (nth ch i).toNat).Table = _; omega) (by rw [vsO_len]; omega)) ?_
   refine JM_look rfl rfl rfl rfl (step_load_own ty38V Sr zS (gb (by rw [vsO_len]; omega))) ?_
   refine JM_stepX rfl rfl rfl rfl (step_append underlying38 el45 Sr Sr zS (by simp only [List.length_append, List.length_cons, List.length_nil]; omega) (by simp only [List.length_append, List.length_cons, List.length_nil]; omega)) fun v56 => ?_
   refine JM_look rfl rfl rfl rfl (step_indexAddr_own (i := (nth facts (nth ch i).toNat).Table.toNat) underlying35 ty38V Sr zS Sr (by show (nth facts (nth ch i).toNat).Table = _; omega) (by rw [vsO_len]; omega)) ?_
   refine JM_stepU rfl rfl rfl (step_store_own ty38V Sr Sr zS (by rw [vsO_len]; omega)) fun _ => ?_
   refine JM_nil (J_region (Js rfl (step_add Sr Sr z6) (Jm rfl (JL_nil ?_))))
   refine K_againL (σ := Nat × (Nat → Value)) (s := (i, a)) (i + 1, fup a (nth facts (nth ch i).toNat).Table.toNat v56) zO (by show i + 1 ≤ _; omega) (zU) (LSub.trans (B := [own 45 (rSl rValue) v56 ((tabB facts s.Tables.length (ch.take i)) (nth facts (nth ch i).toNat).Table.toNat ++ [(nth facts (nth ch i).toNat).Row]), rowsO 45 (rSl rValue) (rmv (zq s.Tables.length a (tabB facts s.Tables.length (ch.take i))) (nth facts (nth ch i).toNat).Table.toNat), own 38 rV v15 ((vsO s.Tables.length a).set (nth facts (nth ch i).toNat).Table.toNat v56)]) (zL) (LSub.trans (rows_join (nth facts (nth ch i).toNat).Table.toNat v56 _) (.c zS (SPs.of (A := own 38 rV v15 ((vsO s.Tables.length a).set (nth facts (nth ch i).toNat).Table.toNat v56)) (by rw [vsO_set hT])) (.c zS (SPs.of (A := rowsO 45 (rSl rValue) (rput (zq s.Tables.length a (tabB facts s.Tables.length (ch.take i))) (nth facts (nth ch i).toNat).Table.toNat v56 ((tabB facts s.Tables.length (ch.take i)) (nth facts (nth ch i).toNat).Table.toNat ++ [(nth facts (nth ch i).toNat).Row]))) (by rw [rput_zq _ _ hT, tabB_put hlt hCb hTb])) (LSub.nil)))))
  try simp only [NF] at h42
  refine J_skip (J_region (Js rfl (step_add Sr Sr z6) (Jm rfl (JL_nil ?_))))
  refine K_againL (σ := Nat × (Nat → Value)) (s := (i, a)) (i + 1, a) zO (by show i + 1 ≤ _; omega) (zU) (.r zS (.c zS (SPs.of (A := rowsO 45 (rSl rValue) (zq s.Tables.length a (tabB facts s.Tables.length (ch.take i)))) (by rw [tabB_no hlt zG])) (LSub.nil)))
 try simp only [NF] at h19
 obtain rfl : i = ch.length := by omega
 refine J_exit (J_seq (Jr (Jm rfl ?_)))
 refine Js rfl (step_len_own underlying35 Sr zS) ?_
 refine Jm rfl (JL_nil (J_block ?_))
 refine J_loopL (σ := Nat × (Nat → Value)) (fun ⟨t, a⟩ => t ≤ s.Tables.length) (fun ⟨t, a⟩ => upd (upd (upd (upd env0 6 (tV (.slice none 0 0))) 7 (rV.ty v15)) 60 (tV (.int .i64 s.Tables.length))) 61 (tV (.int .i64 t))) (fun ⟨t, a⟩ => [own 38 rV v15 (vsO s.Tables.length a), rowsO 45 (rSl rValue) (zq s.Tables.length a (setI (tabB facts s.Tables.length ch) t))]) (fun ⟨t, a⟩ => s.Tables.length - t) (0, a) (by exact Nat.zero_le _) (.u (SubE.upd (Sub.int (by rw [vsO_len])) (zU))) (.r zS (.c zS (SPs.of (A := rowsO 45 (rSl rValue) (zq s.Tables.length a (tabB facts s.Tables.length (ch.take ch.length)))) (by rw [setI_0, List.take_length])) (LSub.nil))) ?_
 rintro ⟨t, a⟩ ht
 try dsimp only at ht
 refine Jr (Js rfl (step_lss Sr Sr) (JL_nil (J_seq ?_)))
 refine J_cond Sr (fun h62 => ?_) (fun h62 => ?_)
 ·
  try simp only [NF] at h62
  have hvl := vsO_len s.Tables.length a
  have hlt2 : t < s.Tables.length := by omega
  have htl := tabB_len (facts := facts) (n := s.Tables.length) (i := t) ch (fun _ => [])
  have htl2 : (tabB facts s.Tables.length ch t).length ≤ [].length + ch.length := htl
  simp only [List.length_nil] at htl2
  refine J_skip (J_seq (J_block (Jr (Jm rfl (Ja rfl ?_)))))
  refine JL_nil (J_region ?_)
  refine JL_lsub (L' := [own 45 (rSl rValue) (nth (vsO s.Tables.length a) t) (tabB facts s.Tables.length ch t), rowsO 45 (rSl rValue) (rmv (zq s.Tables.length a (setI (tabB facts s.Tables.length ch) t)) t), own 38 rV v15 (vsO s.Tables.length a)]) (LSub.trans (B := [rowsO 45 (rSl rValue) (zq s.Tables.length a (setI (tabB facts s.Tables.length ch) t)), own 38 rV v15 (vsO s.Tables.length a)]) (LSub.swap) (LSub.trans (rows_split t) (.c zS (SPs.of (A := own 45 (rSl rValue) (rval (zq s.Tables.length a (setI (tabB facts s.Tables.length ch) t)) t).1 (rval (zq s.Tables.length a (setI (tabB facts s.Tables.length ch) t)) t).2) (by rw [rval_zq hlt2, vsO_nth hlt2, setI_at])) (zL)))) ?_
  refine Jm rfl (Jm rfl (Jm rfl (Jm rfl ?_)))
  refine Js rfl (step_indexAddr_own (i := t) underlying35 ty38V Sr zS Sr (by rfl) (by rw [vsO_len]; omega)) ?_
  refine Js rfl (step_load_own ty38V Sr zS (gb (by rw [vsO_len]; omega))) ?_
  refine JL_freeze (t := 69) (A' := tSl (rSl rValue) (tabB facts s.Tables.length ch t)) (Sel.take (Sel.none _)) Frz.own ?_
  refine Jx rfl (step_call (Sel.none _) (setA_spec (tabB facts s.Tables.length ch t) zG (tabB_row hr hlt2)) ⟨Sr, trivial⟩ call28) fun v70 => ?_
  refine Js rfl (step_indexAddr_own (i := t) underlying35 ty38V Sr zS Sr (by rfl) (by rw [vsO_len]; omega)) ?_
  refine Ju (step_store_own ty38V Sr Sr zS (by rw [vsO_len]; omega)) fun _ => ?_
  refine JL_nil (J_region (Js rfl (step_add Sr Sr z6) (Jm rfl (JL_nil ?_))))
  refine K_againL (σ := Nat × (Nat → Value)) (s := (t, a)) (t + 1, fup a t v70) zO (by show t + 1 ≤ _; omega) (zU) (LSub.trans (B := [own 45 (rSl rValue) v70 (setR (tabB facts s.Tables.length ch t)), rowsO 45 (rSl rValue) (rmv (zq s.Tables.length a (setI (tabB facts s.Tables.length ch) t)) t), own 38 rV v15 ((vsO s.Tables.length a).set t v70)]) (zL) (LSub.trans (rows_join t v70 _) (.c zS (SPs.of (A := own 38 rV v15 ((vsO s.Tables.length a).set t v70)) (by rw [vsO_set hlt2])) (.c zS (SPs.of (A := rowsO 45 (rSl rValue) (rput (zq s.Tables.length a (setI (tabB facts s.Tables.length ch) t)) t v70 (setR (tabB facts s.Tables.length ch t)))) (by rw [rput_zq _ _ hlt2, setI_succ])) (LSub.nil)))))
 try simp only [NF] at h62
 obtain rfl : t = s.Tables.length := by omega
 refine J_exit (Jr (Jm rfl (Ja rfl (JL_nil (J_ret ?_)))))
 have e : tablesM s.Tables.length facts ch = (List.range s.Tables.length).map (setI (tabB facts s.Tables.length ch) s.Tables.length) := by
  unfold tablesM
  refine List.map_congr_left fun j hj => ?_
  rw [setI, if_pos (List.mem_range.1 hj)]
 rw [e]
 exact K_ret1' (rv := .tmp 6) rfl () (Sel.take (Sel.take (Sel.none _))) (.tmp Sr) Frz.nest
open Go Go.Proofs Go.Proofs.Tryz
theorem setR_of {xs ys zs : List LV} (hp : ys.Perm xs) (hs : ys.Pairwise fun a b => ¬ cmpR b a < 0) (hc : compM ys = zs) : setR xs = zs := by
  unfold setR; rw [← sortR_of hp hs]; exact hc
theorem ev_at {ts : List (List LV)} {n : Nat} {p : GPlan} {ks : List (List LV)} {xs zs : List LV} (hk : p.Kids.map (evV ts n) = ks) (hr : rowsV ts p ks = xs) (hz : setR xs = zs) : evV ts (n + 1) p = zs := by
  rw [evV, hk, hr, hz]
theorem evB_at {ts : List (List LV)} {n : Nat} {p : GPlan} {ks : List (List LV)} {zs : List LV} (hk : p.Kids.map (evV ts n) = ks) (ha : p.Kids.all (evB ts n) = true) (hb : rowsB p ks = true) (hv : evV ts (n + 1) p = zs) (hl : zs.length ≤ 4000) : evB ts (n + 1) p = true := by
  rw [evB, ha, hk, hb, hv]; simp [hl]
abbrev pAges : List GAttr := [aAg]
abbrev pProj : GPlan := GPl.mk 3 0 [pAll] [] [1] 0 0 pAges
abbrev aCnt : GAttr := ⟨sN1, 2, [], zValue⟩
abbrev pCount : GPlan := GPl.mk 8 0 [pAll] [] [0] (-1) 1 [aNm, aCnt]
abbrev pSum : GPlan := GPl.mk 8 0 [pAll] [] [] 1 2 pAges
abbrev pJoin : GPlan := GPl.mk 4 0 [pAll, pAll] [] [] 0 0 gA
abbrev pLeast : GPlan := GPl.mk 8 0 [pYg 0] [] [] 1 3 pAges
abbrev rA : LV := [txV sAnn, nmV33 7]
abbrev rN : LV := [txV sAnn, zValue]
abbrev rB : LV := [txV sBob, nmV33 7]
theorem vAll (n : Nat) : evV gT (n + 1) pAll = [rN, rA, rB] := ev_at (ks := []) rfl (by rfl) (setR_of (ys := [rN, rA, rB]) (by decide +kernel) (by decide +kernel) (by decide +kernel))
theorem bAll (n : Nat) : evB gT (n + 1) pAll = true := evB_at (ks := []) rfl rfl rfl (vAll n) (by decide)
theorem vYg8 (n : Nat) : evV gT (n + 2) (pYg 8) = [rA, rB] := ev_at (ks := [[rN, rA, rB]]) (by show [evV gT (n + 1) pAll] = _; rw [vAll]) (by decide +kernel) (setR_of (xs := [rA, rB]) (ys := [rA, rB]) (by decide +kernel) (by decide +kernel) (by decide +kernel))
theorem bYg8 (n : Nat) : evB gT (n + 2) (pYg 8) = true := evB_at (ks := [[rN, rA, rB]]) (by show [evV gT (n + 1) pAll] = _; rw [vAll]) (by show (evB gT (n + 1) pAll && true) = true; rw [bAll]; rfl) rfl (vYg8 n) (by decide)
theorem vYg0 (n : Nat) : evV gT (n + 2) (pYg 0) = [] := ev_at (ks := [[rN, rA, rB]]) (by show [evV gT (n + 1) pAll] = _; rw [vAll]) (by decide +kernel) (setR_of (xs := []) (ys := []) (by decide +kernel) (by decide +kernel) (by decide +kernel))
theorem bYg0 (n : Nat) : evB gT (n + 2) (pYg 0) = true := evB_at (ks := [[rN, rA, rB]]) (by show [evV gT (n + 1) pAll] = _; rw [vAll]) (by show (evB gT (n + 1) pAll && true) = true; rw [bAll]; rfl) rfl (vYg0 n) (by decide)
theorem vProj : evV gT 2 pProj = [[zValue], [nmV33 7]] := ev_at (ks := [[rN, rA, rB]]) (by show [evV gT 1 pAll] = _; rw [vAll]) (by decide +kernel) (setR_of (xs := [[zValue], [nmV33 7], [nmV33 7]]) (ys := [[zValue], [nmV33 7], [nmV33 7]]) (by decide +kernel) (by decide +kernel) (by decide +kernel))
theorem bProj : evB gT 2 pProj = true := evB_at (ks := [[rN, rA, rB]]) (by show [evV gT 1 pAll] = _; rw [vAll]) (by show (evB gT 1 pAll && true) = true; rw [bAll]; rfl) rfl vProj (by decide)
theorem vCount : evV gT 2 pCount = [[txV sAnn, nmV33 2], [txV sBob, nmV33 1]] := ev_at (ks := [[rN, rA, rB]]) (by show [evV gT 1 pAll] = _; rw [vAll]) (by decide +kernel) (setR_of (xs := [[txV sAnn, nmV33 2], [txV sBob, nmV33 1]]) (ys := [[txV sAnn, nmV33 2], [txV sBob, nmV33 1]]) (by decide +kernel) (by decide +kernel) (by decide +kernel))
theorem bCount : evB gT 2 pCount = true := evB_at (ks := [[rN, rA, rB]]) (by show [evV gT 1 pAll] = _; rw [vAll]) (by show (evB gT 1 pAll && true) = true; rw [bAll]; rfl) (by decide +kernel) vCount (by decide)
theorem vSum : evV gT 2 pSum = [[nmV33 14]] := ev_at (ks := [[rN, rA, rB]]) (by show [evV gT 1 pAll] = _; rw [vAll]) (by decide +kernel) (setR_of (xs := [[nmV33 14]]) (ys := [[nmV33 14]]) (by decide +kernel) (by decide +kernel) (by decide +kernel))
theorem bSum : evB gT 2 pSum = true := evB_at (ks := [[rN, rA, rB]]) (by show [evV gT 1 pAll] = _; rw [vAll]) (by show (evB gT 1 pAll && true) = true; rw [bAll]; rfl) (by decide +kernel) vSum (by decide)
theorem vJoin : evV gT 2 pJoin = [rA, rB] := ev_at (ks := [[rN, rA, rB], [rN, rA, rB]]) (by show [evV gT 1 pAll, evV gT 1 pAll] = _; rw [vAll]) (by decide +kernel) (setR_of (xs := [rA, rB]) (ys := [rA, rB]) (by decide +kernel) (by decide +kernel) (by decide +kernel))
theorem bJoin : evB gT 2 pJoin = true := evB_at (ks := [[rN, rA, rB], [rN, rA, rB]]) (by show [evV gT 1 pAll, evV gT 1 pAll] = _; rw [vAll]) (by show (evB gT 1 pAll && (evB gT 1 pAll && true)) = true; rw [bAll]; rfl) rfl vJoin (by decide)
theorem vLeast : evV gT 3 pLeast = [[zValue]] := ev_at (ks := [[]]) (by show [evV gT 2 (pYg 0)] = _; rw [vYg0]) (by decide +kernel) (setR_of (xs := [[zValue]]) (ys := [[zValue]]) (by decide +kernel) (by decide +kernel) (by decide +kernel))
theorem bLeast : evB gT 3 pLeast = true := evB_at (ks := [[]]) (by show [evV gT 2 (pYg 0)] = _; rw [vYg0]) (by show (evB gT 2 (pYg 0) && true) = true; rw [bYg0]; rfl) (by decide +kernel) vLeast (by decide)
theorem kYg8 : evalOk gS (pYg 8) gT = true := by decide +kernel
theorem kProj : evalOk gS pProj gT = true := by decide +kernel
theorem kCount : evalOk gS pCount gT = true := by decide +kernel
theorem kSum : evalOk gS pSum gT = true := by decide +kernel
theorem kJoin : evalOk gS pJoin gT = true := by decide +kernel
theorem kLeast : evalOk gS pLeast gT = true := by decide +kernel
theorem kNone : evalOk gS pProj [] = false := by decide +kernel
/-- Eval where its result is known. -/
theorem Eval_is {s : GSchema} (hz : SchSz s) {n : Nat} {p : GPlan} (hp : PlSz n p) {ts : List (List LV)} (hl : ∀ t ∈ ts, t.length ≤ 4000) (hr : ∀ t ∈ ts, ∀ r ∈ t, r.length ≤ 4398046511104) {zs : List LV} (h1 : evalOk s p ts = true) (h2 : evB ts n p = true) (h3 : evV ts n p = zs) :
    Fun1 prog 11 [rSchema.ty s, (rPlan n).ty p, tSl (rSl (rSl rValue)) ts] (tTup [tSl (rSl rValue) zs, tV (.int .i64 0)]) := fun vs h0 m r w ha sp st =>
  (Eval_spec s hz n p hp ts hl hr vs h0 m r w ha sp st).mono fun e w' ⟨x, v, h', m', e1, l, se, st', hv⟩ => ⟨(), v, h', m', e1, l, se, st', by
    have hk : evOk s n p ts = true := by rw [evOk, h1, h2]; rfl
    have hR : evR s n p ts = zs := by rw [evR, if_pos hk, h3]
    have hc : x.1 = 0 := x.2.1.2 hk
    have hv : (tTup [tSl (rSl rValue) (evR s n p ts), tV (.int .i64 x.1)]).p h' v := hv
    rw [hR, hc] at hv
    exact hv⟩
theorem Eval_no {s : GSchema} (hz : SchSz s) {n : Nat} {p : GPlan} (hp : PlSz n p) {ts : List (List LV)} (hl : ∀ t ∈ ts, t.length ≤ 4000) (hr : ∀ t ∈ ts, ∀ r ∈ t, r.length ≤ 4398046511104) (h1 : evalOk s p ts = false) :
    Fun1 prog 11 [rSchema.ty s, (rPlan n).ty p, tSl (rSl (rSl rValue)) ts] (tTup [tSl (rSl rValue) [], tV (.int .i64 1)]) := fun vs h0 m r w ha sp st =>
  (Eval_spec s hz n p hp ts hl hr vs h0 m r w ha sp st).mono fun e w' ⟨x, v, h', m', e1, l, se, st', hv⟩ => ⟨(), v, h', m', e1, l, se, st', by
    have hk : evOk s n p ts = false := by rw [evOk, h1]; rfl
    have hR : evR s n p ts = [] := by rw [evR, hk]; rfl
    have hc : x.1 = 1 := x.2.2 h1
    have hv : (tTup [tSl (rSl rValue) (evR s n p ts), tV (.int .i64 x.1)]).p h' v := hv
    rw [hR, hc] at hv
    exact hv⟩
open Go Go.Proofs Go.Proofs.Tryz
theorem gSz : SchSz gS := ⟨by decide, fun t ht => by
  rw [List.mem_singleton.1 ht]
  exact ⟨by decide, by decide, by decide, by decide, by decide⟩⟩
theorem gTl : ∀ t ∈ gT, t.length ≤ 4000 := by decide
theorem gTr : ∀ t ∈ gT, ∀ r ∈ t, r.length ≤ 4398046511104 := by decide
theorem zAll : PlSz 1 pAll := ⟨by decide, by decide, by decide, by decide, fun q hq => by cases hq⟩
theorem zYg0 : PlSz 2 (pYg 0) := ⟨by decide, by decide, by decide, by decide, fun q hq => by rw [List.mem_singleton.1 hq]; exact ⟨zAll, by decide⟩⟩
theorem zYg8 : PlSz 2 (pYg 8) := ⟨by decide, by decide, by decide, by decide, fun q hq => by rw [List.mem_singleton.1 hq]; exact ⟨zAll, by decide⟩⟩
theorem zProj : PlSz 2 pProj := ⟨by decide, by decide, by decide, by decide, fun q hq => by rw [List.mem_singleton.1 hq]; exact ⟨zAll, by decide⟩⟩
theorem zCount : PlSz 2 pCount := ⟨by decide, by decide, by decide, by decide, fun q hq => by rw [List.mem_singleton.1 hq]; exact ⟨zAll, by decide⟩⟩
theorem zSum : PlSz 2 pSum := ⟨by decide, by decide, by decide, by decide, fun q hq => by rw [List.mem_singleton.1 hq]; exact ⟨zAll, by decide⟩⟩
theorem zJoin : PlSz 2 pJoin := ⟨by decide, by decide, by decide, by decide, fun q hq => by rcases List.mem_cons.1 hq with h | h <;> (try (rw [h]; exact ⟨zAll, by decide⟩)); rw [List.mem_singleton.1 h]; exact ⟨zAll, by decide⟩⟩
theorem zLeast : PlSz 3 pLeast := ⟨by decide, by decide, by decide, by decide, fun q hq => by rw [List.mem_singleton.1 hq]; exact ⟨zYg0, by decide⟩⟩
set_option maxHeartbeats 8000000 in
theorem head33_spec  : Fun1 prog 5 [] (tV (.bool true)) := by
 refine Spec.enter func5 rfl rfl fun h0 w0 fr0 => ?_
 refine Jr (Ja rfl (JL_nil (Jr (Js rfl (step_call0 (sample33_spec) trivial call20) (Jm rfl ?_)))))
 refine Js rfl (step_extract Sr rfl) (Js rfl (step_extract Sr rfl) ?_)
 refine Jx rfl (step_alloc (fun w => zeroValue24 w) zr24) fun v1 => ?_
 refine Ju (step_store_box ty24 Sr Sr zS) fun _ => ?_
 refine JL_freeze (t := 1) (Sel.take (Sel.none _)) Frz.box ?_
 refine Ja rfl (JL_nil (Jr (Js rfl (step_build (x := (aAg : GAttr)) (zs := [[Value.string ⟨#[]⟩], [Value.int .i64 0], [Value.slice none 0 0], [Value.int .i64 0, Value.int .i64 0, Value.string ⟨#[]⟩]]) so64 (fun w => zeroValue64 w) ⟨Sr, Sr, trivial⟩ ⟨⟨Sr, rfl⟩, ⟨Sr, rfl⟩, fun _ => ⟨_, rfl, none, ⟨0, Nat.le_refl _⟩, rfl, fun q => absurd rfl q⟩, fun _ => ⟨[Value.int .i64 0], _, rfl, rfl, ⟨[Value.int .i64 0], _, rfl, rfl, ⟨[Value.string ⟨#[]⟩], _, rfl, rfl, rfl⟩⟩⟩, trivial⟩) ?_)))
 refine Js rfl (step_literal (ys := pAges) underlying28 el64 ⟨rfl, Sr, trivial⟩ rfl (by decide)) ?_
 refine Ja rfl (JL_nil (Jr (Js rfl (step_call0 (all33_spec 0) trivial call21) ?_)))
 refine Js rfl (step_literal (ys := [pAll]) underlying25 (el30 (n := 0)) ⟨rfl, Sr, trivial⟩ rfl (by rw [rPl_k]; decide)) ?_
 refine Js rfl (step_literal (ys := [1]) underlying27 el3 ⟨rfl, Sr, trivial⟩ rfl (by decide)) ?_
 refine Jm rfl (Js rfl (step_build (x := (pProj : GPlan)) (zs := [[Value.int .i64 0], [Value.int .i64 0], [Value.slice none 0 0], [Value.slice none 0 0], [Value.slice none 0 0], [Value.int .i64 0], [Value.int .i64 0], [Value.slice none 0 0]]) (so30 (n := 1)) (fun w => zeroValue30 w) ⟨Sr, Sr, Sr, Sr, trivial⟩ ⟨⟨Sr, rfl⟩, fun _ => rfl, ⟨Sr, rfl⟩, fun _ => ⟨_, rfl, none, ⟨0, Nat.le_refl _⟩, rfl, fun q => absurd rfl q⟩, ⟨Sr, rfl⟩, fun _ => rfl, fun _ => rfl, ⟨Sr, rfl⟩, trivial⟩) ?_)
 refine Jx rfl (step_alloc (fun w => zeroValue30 w) (zr30 (n := 1))) fun v4 => ?_
 refine Ju (step_store_box ty30 Sr Sr zS) fun _ => ?_
 refine JL_freeze (t := 4) (Sel.take (Sel.none _)) Frz.box ?_
 refine JL_nil (Jr (Js rfl (step_call0 (all33_spec 0) trivial call21) ?_))
 refine Js rfl (step_literal (ys := [pAll]) underlying25 (el30 (n := 0)) ⟨rfl, Sr, trivial⟩ rfl (by rw [rPl_k]; decide)) ?_
 refine Js rfl (step_literal (ys := [0]) underlying27 el3 ⟨rfl, Sr, trivial⟩ rfl (by decide)) ?_
 refine Js rfl (step_build (x := (aNm : GAttr)) (zs := [[Value.string ⟨#[]⟩], [Value.int .i64 0], [Value.slice none 0 0], [Value.int .i64 0, Value.int .i64 0, Value.string ⟨#[]⟩]]) so64 (fun w => zeroValue64 w) ⟨Sr, Sr, trivial⟩ ⟨⟨Sr, rfl⟩, ⟨Sr, rfl⟩, fun _ => ⟨_, rfl, none, ⟨0, Nat.le_refl _⟩, rfl, fun q => absurd rfl q⟩, fun _ => ⟨[Value.int .i64 0], _, rfl, rfl, ⟨[Value.int .i64 0], _, rfl, rfl, ⟨[Value.string ⟨#[]⟩], _, rfl, rfl, rfl⟩⟩⟩, trivial⟩) (Js rfl (step_build (x := (aCnt : GAttr)) (zs := [[Value.string ⟨#[]⟩], [Value.int .i64 0], [Value.slice none 0 0], [Value.int .i64 0, Value.int .i64 0, Value.string ⟨#[]⟩]]) so64 (fun w => zeroValue64 w) ⟨Sr, Sr, trivial⟩ ⟨⟨Sr, rfl⟩, ⟨Sr, rfl⟩, fun _ => ⟨_, rfl, none, ⟨0, Nat.le_refl _⟩, rfl, fun q => absurd rfl q⟩, fun _ => ⟨[Value.int .i64 0], _, rfl, rfl, ⟨[Value.int .i64 0], _, rfl, rfl, ⟨[Value.string ⟨#[]⟩], _, rfl, rfl, rfl⟩⟩⟩, trivial⟩) ?_)
 refine Js rfl (step_literal (ys := [aNm, aCnt]) underlying28 el64 ⟨rfl, Sr, rfl, Sr, trivial⟩ rfl (by decide)) ?_
 refine Js rfl (step_build (x := (pCount : GPlan)) (zs := [[Value.int .i64 0], [Value.int .i64 0], [Value.slice none 0 0], [Value.slice none 0 0], [Value.slice none 0 0], [Value.int .i64 0], [Value.int .i64 0], [Value.slice none 0 0]]) (so30 (n := 1)) (fun w => zeroValue30 w) ⟨Sr, Sr, Sr, Sr, Sr, Sr, trivial⟩ ⟨⟨Sr, rfl⟩, fun _ => rfl, ⟨Sr, rfl⟩, fun _ => ⟨_, rfl, none, ⟨0, Nat.le_refl _⟩, rfl, fun q => absurd rfl q⟩, ⟨Sr, rfl⟩, ⟨Sr, rfl⟩, ⟨Sr, rfl⟩, ⟨Sr, rfl⟩, trivial⟩) ?_
 refine Jx rfl (step_alloc (fun w => zeroValue30 w) (zr30 (n := 1))) fun v5 => ?_
 refine Ju (step_store_box ty30 Sr Sr zS) fun _ => ?_
 refine JL_freeze (t := 5) (Sel.take (Sel.none _)) Frz.box ?_
 refine JL_nil (Jr (Js rfl (step_call0 (all33_spec 0) trivial call21) ?_))
 refine Js rfl (step_literal (ys := [pAll]) underlying25 (el30 (n := 0)) ⟨rfl, Sr, trivial⟩ rfl (by rw [rPl_k]; decide)) ?_
 refine Jm rfl (Js rfl (step_build (x := (pSum : GPlan)) (zs := [[Value.int .i64 0], [Value.int .i64 0], [Value.slice none 0 0], [Value.slice none 0 0], [Value.slice none 0 0], [Value.int .i64 0], [Value.int .i64 0], [Value.slice none 0 0]]) (so30 (n := 1)) (fun w => zeroValue30 w) ⟨Sr, Sr, Sr, Sr, Sr, trivial⟩ ⟨⟨Sr, rfl⟩, fun _ => rfl, ⟨Sr, rfl⟩, fun _ => ⟨_, rfl, none, ⟨0, Nat.le_refl _⟩, rfl, fun q => absurd rfl q⟩, fun _ => ⟨_, rfl, none, ⟨0, Nat.le_refl _⟩, rfl, fun q => absurd rfl q⟩, ⟨Sr, rfl⟩, ⟨Sr, rfl⟩, ⟨Sr, rfl⟩, trivial⟩) ?_)
 refine Jx rfl (step_alloc (fun w => zeroValue30 w) (zr30 (n := 1))) fun v6 => ?_
 refine Ju (step_store_box ty30 Sr Sr zS) fun _ => ?_
 refine JL_freeze (t := 6) (Sel.take (Sel.none _)) Frz.box ?_
 refine JL_nil (Jr (Js rfl (step_call0 (all33_spec 0) trivial call21) (Js rfl (step_call0 (all33_spec 0) trivial call21) ?_)))
 refine Js rfl (step_literal (ys := [pAll, pAll]) underlying25 (el30 (n := 0)) ⟨rfl, Sr, rfl, Sr, trivial⟩ rfl (by rw [rPl_k]; decide)) ?_
 refine Js rfl (step_call0 (all33_spec 0) trivial call21) (Js rfl (step_field (fs := fsPl cPl rAttr rTest (rPlan 0)) (y := pAll) so30 Sr rfl) (Js rfl (step_build (x := (pJoin : GPlan)) (zs := [[Value.int .i64 0], [Value.int .i64 0], [Value.slice none 0 0], [Value.slice none 0 0], [Value.slice none 0 0], [Value.int .i64 0], [Value.int .i64 0], [Value.slice none 0 0]]) (so30 (n := 1)) (fun w => zeroValue30 w) ⟨Sr, Sr, Sr, trivial⟩ ⟨⟨Sr, rfl⟩, fun _ => rfl, ⟨Sr, rfl⟩, fun _ => ⟨_, rfl, none, ⟨0, Nat.le_refl _⟩, rfl, fun q => absurd rfl q⟩, fun _ => ⟨_, rfl, none, ⟨0, Nat.le_refl _⟩, rfl, fun q => absurd rfl q⟩, fun _ => rfl, fun _ => rfl, ⟨Sr, rfl⟩, trivial⟩) ?_))
 refine Jx rfl (step_alloc (fun w => zeroValue30 w) (zr30 (n := 1))) fun v7 => ?_
 refine Ju (step_store_box ty30 Sr Sr zS) fun _ => ?_
 refine JL_freeze (t := 7) (Sel.take (Sel.none _)) Frz.box ?_
 refine JL_nil (Jr (Js rfl (step_call0 (young33_spec 0 0) ⟨Sr, trivial⟩ call22) ?_))
 refine Js rfl (step_literal (ys := [pYg 0]) underlying25 (el30 (n := 1)) ⟨rfl, Sr, trivial⟩ rfl (by rw [rPl_k]; decide)) ?_
 refine Jm rfl (Js rfl (step_build (x := (pLeast : GPlan)) (zs := [[Value.int .i64 0], [Value.int .i64 0], [Value.slice none 0 0], [Value.slice none 0 0], [Value.slice none 0 0], [Value.int .i64 0], [Value.int .i64 0], [Value.slice none 0 0]]) (so30 (n := 2)) (fun w => zeroValue30 w) ⟨Sr, Sr, Sr, Sr, Sr, trivial⟩ ⟨⟨Sr, rfl⟩, fun _ => rfl, ⟨Sr, rfl⟩, fun _ => ⟨_, rfl, none, ⟨0, Nat.le_refl _⟩, rfl, fun q => absurd rfl q⟩, fun _ => ⟨_, rfl, none, ⟨0, Nat.le_refl _⟩, rfl, fun q => absurd rfl q⟩, ⟨Sr, rfl⟩, ⟨Sr, rfl⟩, ⟨Sr, rfl⟩, trivial⟩) ?_)
 refine Jx rfl (step_alloc (fun w => zeroValue30 w) (zr30 (n := 2))) fun v8 => ?_
 refine Ju (step_store_box ty30 Sr Sr zS) fun _ => ?_
 refine JL_freeze (t := 8) (Sel.take (Sel.none _)) Frz.box ?_
 refine JL_nil (J_seq ?_)
 refine J_draw [⟨0, [1], true⟩, ⟨1, [], true⟩, ⟨2, [2], true⟩, ⟨3, [58, 59, 60], true⟩, ⟨4, [61], true⟩, ⟨5, [57], true⟩, ⟨6, [57], true⟩, ⟨7, [62], true⟩, ⟨8, [63], true⟩] rfl (by kernel_rfl) ?_
 refine Mf rfl rfl (step_load_ptr ty24 Sr) (Mf rfl rfl (step_call0 (young33_spec 0 8) ⟨Sr, trivial⟩ call22) (Mv rfl rfl (Mf rfl rfl (step_call0 (Eval_is gSz zYg8 gTl gTr kYg8 (bYg8 0) (vYg8 0)) ⟨Sr, Sr, Sr, trivial⟩ call11) (Mv rfl rfl (Mf rfl rfl (step_extract Sr rfl) ?_)))))
 refine Mf rfl rfl (step_extract Sr rfl) (Mf rfl rfl (step_assign Sr) (Mf rfl rfl (step_assign Sr) (JM_nil (Jr (Jl rfl ty24 Sr ?_)))))
 refine Jl rfl ty30 Sr (Jm rfl (Js rfl (step_call0 (Eval_is gSz zProj gTl gTr kProj bProj vProj) ⟨Sr, Sr, Sr, trivial⟩ call11) (Jm rfl (Js rfl (step_extract Sr rfl) (Js rfl (step_extract Sr rfl) ?_)))))
 refine Ja rfl (Ja rfl (JL_nil (Jr (Jl rfl ty24 Sr (Jl rfl ty30 Sr ?_)))))
 refine Jm rfl (Js rfl (step_call0 (Eval_is gSz zCount gTl gTr kCount bCount vCount) ⟨Sr, Sr, Sr, trivial⟩ call11) (Jm rfl (Js rfl (step_extract Sr rfl) (Js rfl (step_extract Sr rfl) (Ja rfl ?_)))))
 refine Ja rfl (JL_nil (Jr (Jl rfl ty24 Sr (Jl rfl ty30 Sr (Jm rfl ?_)))))
 refine Js rfl (step_call0 (Eval_is gSz zSum gTl gTr kSum bSum vSum) ⟨Sr, Sr, Sr, trivial⟩ call11) ?_
 refine Jm rfl (Js rfl (step_extract Sr rfl) (Js rfl (step_extract Sr rfl) (Ja rfl (Ja rfl (JL_nil ?_)))))
 refine Jr (Jl rfl ty24 Sr (Jl rfl ty30 Sr (Jm rfl (Js rfl (step_call0 (Eval_is gSz zJoin gTl gTr kJoin bJoin vJoin) ⟨Sr, Sr, Sr, trivial⟩ call11) (Jm rfl ?_)))))
 refine Js rfl (step_extract Sr rfl) (Js rfl (step_extract Sr rfl) (Ja rfl (Ja rfl (JL_nil (Jr ?_)))))
 refine Jl rfl ty24 Sr (Jl rfl ty30 Sr (Jm rfl (Js rfl (step_call0 (Eval_is gSz zLeast gTl gTr kLeast bLeast vLeast) ⟨Sr, Sr, Sr, trivial⟩ call11) (Jm rfl (Js rfl (step_extract Sr rfl) ?_)))))
 refine Js rfl (step_extract Sr rfl) (Ja rfl (Ja rfl (JL_nil (Jr (Jl rfl ty24 Sr ?_)))))
 refine Jl rfl ty30 Sr ?_
 refine Js rfl (step_call0 (Eval_no gSz zProj (ts := []) (fun _ h => by cases h) (fun _ h => by cases h) kNone) ⟨Sr, Sr, Sub.nilsl, trivial⟩ call11) ?_
 refine Jm rfl (Js rfl (step_extract Sr rfl) (Js rfl (step_extract Sr rfl) (Ja rfl (Ja rfl (JL_nil ?_)))))
 refine Jr (Js rfl (step_call0 (text33_spec sAnn) ⟨Sr, trivial⟩ call23) (Js rfl (step_call0 (num33_spec 7) ⟨Sr, trivial⟩ call24) ?_))
 refine Js rfl (step_literal (ys := rA) underlying45 el62 ⟨rfl, Sr, rfl, Sr, trivial⟩ rfl (by decide)) ?_
 refine Js rfl (step_call0 (text33_spec sBob) ⟨Sr, trivial⟩ call23) (Js rfl (step_call0 (num33_spec 7) ⟨Sr, trivial⟩ call24) ?_)
 refine Js rfl (step_literal (ys := rB) underlying45 el62 ⟨rfl, Sr, rfl, Sr, trivial⟩ rfl (by decide)) ?_
 refine Js rfl (step_literal (ys := [rA, rB]) underlying38 el45 ⟨rfl, Sr, rfl, Sr, trivial⟩ rfl (by decide)) ?_
 refine Ja rfl (JL_nil (Jr (Jm rfl (Js rfl (step_eql Sr Sr) (Jm rfl ?_)))))
 refine Jk rfl Sr rfl (step_move Sr) ?_
 refine Jg rfl Sr rfl (fun hw => step_eql (Sub.w hw) Sr) (Js rfl (step_pick_and Sr Sr) (Jm rfl ?_))
 refine Jk rfl Sr rfl (step_move Sr) ?_
 refine Jg rfl Sr rfl (fun hw => step_eql (Sub.w hw) Sr) (Js rfl (step_pick_and Sr Sr) (Jm rfl ?_))
 refine Jk rfl Sr rfl (step_move Sr) ?_
 refine Jg rfl Sr rfl (fun hw => step_eql (Sub.w hw) Sr) (Js rfl (step_pick_and Sr Sr) (Jm rfl ?_))
 refine Jk rfl Sr rfl (step_move Sr) ?_
 refine Jg rfl Sr rfl (fun hw => step_eql (Sub.w hw) Sr) (Js rfl (step_pick_and Sr Sr) (Jm rfl ?_))
 refine Jk rfl Sr rfl (step_move Sr) ?_
 refine Jg rfl Sr rfl (fun hw => step_eql (Sub.w hw) Sr) (Js rfl (step_pick_and Sr Sr) (Jm rfl ?_))
 refine Jk rfl Sr rfl (step_move Sr) ?_
 refine Jg rfl Sr rfl (fun hw => step_eql (Sub.w hw) Sr) (Js rfl (step_pick_and Sr Sr) (Jm rfl ?_))
 refine Jk rfl Sr rfl (step_move Sr) ?_
 refine Jk rfl Sr rfl (step_move Sr) ?_
 refine Jg rfl Sr rfl (fun hw => step_call0 (SameRows_spec [rA, rB] [rA, rB] (by decide) (by decide)) ⟨(Sub.w hw), (Sub.w hw), trivial⟩ call9) ?_
 refine Js rfl (step_pick_and Sr Sr) (Jm rfl ?_)
 refine Jk rfl Sr rfl (step_move Sr) ?_
 refine Jk rfl Sr rfl (step_build (x := (zValue : GValue)) (zs := [[Value.int .i64 0], [Value.int .i64 0], [Value.string ⟨#[]⟩]]) so62 (fun w => zeroValue62 w) trivial ⟨fun _ => rfl, fun _ => rfl, fun _ => rfl, trivial⟩) ?_
 refine Jg rfl Sr rfl (fun hw => step_literal (ys := [zValue]) underlying45 el62 ⟨rfl, (Sub.w hw), trivial⟩ rfl (by decide)) ?_
 refine Jk rfl Sr rfl (step_call0 (num33_spec 7) ⟨Sr, trivial⟩ call24) ?_
 refine Jg rfl Sr rfl (fun hw => step_literal (ys := [nmV33 7]) underlying45 el62 ⟨rfl, (Sub.w hw), trivial⟩ rfl (by decide)) ?_
 refine Jg rfl Sr rfl (fun hw => step_literal (ys := [[zValue], [nmV33 7]]) underlying38 el45 ⟨rfl, (Sub.w hw), rfl, (Sub.w hw), trivial⟩ rfl (by decide)) ?_
 refine Jg rfl Sr rfl (fun hw => step_call0 (SameRows_spec [[zValue], [nmV33 7]] [[zValue], [nmV33 7]] (by decide) (by decide)) ⟨(Sub.w hw), (Sub.w hw), trivial⟩ call9) ?_
 refine Js rfl (step_pick_and Sr Sr) (Ja rfl (JL_nil (Jr (Jm rfl (Jm rfl ?_)))))
 refine Jk rfl Sr rfl (step_move Sr) ?_
 refine Jk rfl Sr rfl (step_call0 (text33_spec sAnn) ⟨Sr, trivial⟩ call23) ?_
 refine Jk rfl Sr rfl (step_call0 (num33_spec 2) ⟨Sr, trivial⟩ call24) ?_
 refine Jg rfl Sr rfl (fun hw => step_literal (ys := [txV sAnn, nmV33 2]) underlying45 el62 ⟨rfl, (Sub.w hw), rfl, (Sub.w hw), trivial⟩ rfl (by decide)) ?_
 refine Jk rfl Sr rfl (step_call0 (text33_spec sBob) ⟨Sr, trivial⟩ call23) ?_
 refine Jk rfl Sr rfl (step_call0 (num33_spec 1) ⟨Sr, trivial⟩ call24) ?_
 refine Jg rfl Sr rfl (fun hw => step_literal (ys := [txV sBob, nmV33 1]) underlying45 el62 ⟨rfl, (Sub.w hw), rfl, (Sub.w hw), trivial⟩ rfl (by decide)) ?_
 refine Jg rfl Sr rfl (fun hw => step_literal (ys := [[txV sAnn, nmV33 2], [txV sBob, nmV33 1]]) underlying38 el45 ⟨rfl, (Sub.w hw), rfl, (Sub.w hw), trivial⟩ rfl (by decide)) ?_
 refine Jg rfl Sr rfl (fun hw => step_call0 (SameRows_spec [[txV sAnn, nmV33 2], [txV sBob, nmV33 1]] [[txV sAnn, nmV33 2], [txV sBob, nmV33 1]] (by decide) (by decide)) ⟨(Sub.w hw), (Sub.w hw), trivial⟩ call9) ?_
 refine Js rfl (step_pick_and Sr Sr) (Jm rfl ?_)
 refine Jk rfl Sr rfl (step_move Sr) ?_
 refine Jk rfl Sr rfl (step_call0 (num33_spec 14) ⟨Sr, trivial⟩ call24) ?_
 refine Jg rfl Sr rfl (fun hw => step_literal (ys := [nmV33 14]) underlying45 el62 ⟨rfl, (Sub.w hw), trivial⟩ rfl (by decide)) ?_
 refine Jg rfl Sr rfl (fun hw => step_literal (ys := [[nmV33 14]]) underlying38 el45 ⟨rfl, (Sub.w hw), trivial⟩ rfl (by decide)) ?_
 refine Jg rfl Sr rfl (fun hw => step_call0 (SameRows_spec [[nmV33 14]] [[nmV33 14]] (by decide) (by decide)) ⟨(Sub.w hw), (Sub.w hw), trivial⟩ call9) ?_
 refine Js rfl (step_pick_and Sr Sr) (Jm rfl ?_)
 refine Jk rfl Sr rfl (step_move Sr) ?_
 refine Jk rfl Sr rfl (step_move Sr) ?_
 refine Jg rfl Sr rfl (fun hw => step_call0 (SameRows_spec [rA, rB] [rA, rB] (by decide) (by decide)) ⟨(Sub.w hw), (Sub.w hw), trivial⟩ call9) ?_
 refine Js rfl (step_pick_and Sr Sr) (Jm rfl ?_)
 refine Jk rfl Sr rfl (step_move Sr) ?_
 refine Jk rfl Sr rfl (step_build (x := (zValue : GValue)) (zs := [[Value.int .i64 0], [Value.int .i64 0], [Value.string ⟨#[]⟩]]) so62 (fun w => zeroValue62 w) trivial ⟨fun _ => rfl, fun _ => rfl, fun _ => rfl, trivial⟩) ?_
 refine Jg rfl Sr rfl (fun hw => step_literal (ys := [zValue]) underlying45 el62 ⟨rfl, (Sub.w hw), trivial⟩ rfl (by decide)) ?_
 refine Jg rfl Sr rfl (fun hw => step_literal (ys := [[zValue]]) underlying38 el45 ⟨rfl, (Sub.w hw), trivial⟩ rfl (by decide)) ?_
 refine Jg rfl Sr rfl (fun hw => step_call0 (SameRows_spec [[zValue]] [[zValue]] (by decide) (by decide)) ⟨(Sub.w hw), (Sub.w hw), trivial⟩ call9) ?_
 refine Js rfl (step_pick_and Sr Sr) (Ja rfl (JL_nil (J_ret ?_)))
 refine K_ret1 (t := 0) rfl () ?_
 refine Sub.bool ?_
 decide +kernel
open Go Go.Proofs Go.Proofs.Tryz
theorem str_nodup {l : List LV} (h : StrR l) : l.Nodup := List.nodup_iff_pairwise_ne.2 (h.imp fun {a b} q e => by
  rw [c3_R.eq.2 e] at q; omega)
theorem str_eq {a b : List LV} (ha : StrR a) (hb : StrR b) (h : ∀ x, x ∈ a ↔ x ∈ b) : a = b :=
  ((List.perm_ext_iff_of_nodup (str_nodup ha) (str_nodup hb)).2 h).eq_of_pairwise (le := fun a b => leR a b = true) (fun a b _ _ h1 h2 => leR_anti h1 h2)
    (ha.imp fun {x y} q => by unfold leR; simp only [decide_eq_true_eq]; omega) (hb.imp fun {x y} q => by unfold leR; simp only [decide_eq_true_eq]; omega)
/-- What both sets have. -/
theorem tab_both {n : Nat} {facts : List GFact} {one two : List Int} {t k : Nat} (ht : t < n) (hk : (nth (tablesM n facts one) t ++ nth (tablesM n facts two) t).length ≤ k) :
    rowsR k (nth (tablesM n facts one) t ++ nth (tablesM n facts two) t) = nth (tablesM n facts (one ++ two)) t := by
  have hn : ∀ ch, nth (tablesM n facts ch) t = setR (tabB facts n ch t) := fun ch => by
    unfold tablesM; rw [nth_get (by simpa using ht)]; simp
  have h := rrows_ok k _ hk
  refine str_eq h.2.2 (by rw [hn]; exact setR_str _) fun x => ?_
  rw [h.1, hn, hn, hn, List.mem_append, setR_mem, setR_mem, setR_mem]
  unfold tabB
  rw [tabB_mem ht, tabB_mem ht, tabB_mem ht]
  constructor
  · rintro (h | h)
    · rcases h with h | ⟨c, h1, h2⟩
      · cases h
      · exact .inr ⟨c, List.mem_append.2 (.inl h1), h2⟩
    · rcases h with h | ⟨c, h1, h2⟩
      · cases h
      · exact .inr ⟨c, List.mem_append.2 (.inr h1), h2⟩
  · rintro (h | ⟨c, h1, h2⟩)
    · cases h
    · rcases List.mem_append.1 h1 with h1 | h1
      · exact .inl (.inr ⟨c, h1, h2⟩)
      · exact .inr (.inr ⟨c, h1, h2⟩)
theorem tab_grow {n : Nat} {facts : List GFact} {one two : List Int} (i : Nat) : ∀ r ∈ nth (tablesM n facts one) i, r ∈ nth (tablesM n facts (one ++ two)) i := fun r hr => by
  by_cases hi : i < n
  · have hn : ∀ ch, nth (tablesM n facts ch) i = setR (tabB facts n ch i) := fun ch => by
      unfold tablesM; rw [nth_get (by simpa using hi)]; simp
    rw [hn, setR_mem] at hr ⊢
    unfold tabB at hr ⊢
    rw [tabB_mem hi] at hr ⊢
    rcases hr with h | ⟨c, h1, h2⟩
    · cases h
    · exact .inr ⟨c, List.mem_append.2 (.inl h1), h2⟩
  · rw [nth_out (by simp [tablesM]; omega)] at hr; cases hr
/-- Queries without minus and group grow. -/
theorem grow {s : GSchema} {ts us : List (List LV)} (hs : ∀ i, ∀ r ∈ nth ts i, r ∈ nth us i) : ∀ (n l : Nat) (p : GPlan), validM s l p = true → monoM n p = true → ∀ r ∈ evV ts n p, r ∈ evV us n p
  | 0, _, _, _, _, r, h => h
  | n + 1, l, p, hv, hm, r, h => by
    rw [evV, setR_mem] at h ⊢
    obtain ⟨l', _, hkd, _, hq, _⟩ := valid_in hv
    rw [monoM] at hm
    simp only [Bool.and_eq_true, List.all_eq_true, Bool.not_eq_true', decide_eq_false_iff_not] at hm
    obtain ⟨hmk, h6, h8⟩ := hm
    have hk : ∀ i, ∀ x ∈ nth (p.Kids.map (evV ts n)) i, x ∈ nth (p.Kids.map (evV us n)) i := fun i x hx => by
      by_cases hi : i < p.Kids.length
      · rw [kids_map hi] at hx ⊢
        exact grow hs n l' _ (hq _ (nth_mem hi)) (hmk _ (nth_mem hi)) x hx
      · rw [nth_out (by simp; omega)] at hx; cases hx
    generalize p.Kids.map (evV ts n) = ks at h hk
    generalize p.Kids.map (evV us n) = ls at h hk ⊢
    rcases kind_cases hkd with e | e | e | e | e | e | e | e
    · have e1 : ∀ tt kk, rowsV tt p kk = nth tt p.Table.toNat := fun tt kk => by simp [rowsV, e]
      rw [e1] at h ⊢; exact hs _ r h
    · have e1 : ∀ tt kk, rowsV tt p kk = selR p.Tests (nth kk 0) := fun tt kk => by simp [rowsV, e]
      rw [e1] at h ⊢
      obtain ⟨h1, h2⟩ := List.mem_filter.1 h
      exact List.mem_filter.2 ⟨hk 0 r h1, h2⟩
    · have e1 : ∀ tt kk, rowsV tt p kk = projR p.Cols (nth kk 0) := fun tt kk => by simp [rowsV, e]
      rw [e1] at h ⊢
      obtain ⟨q, h1, rfl⟩ := List.mem_map.1 h
      exact List.mem_map.2 ⟨q, hk 0 q h1, rfl⟩
    · have e1 : ∀ tt kk, rowsV tt p kk = joinT (Ka p 0) (Ka p 1) (nth kk 0) (nth kk 1) := fun tt kk => by simp [rowsV, e]
      rw [e1] at h ⊢
      obtain ⟨a, ha, b, hb, h1⟩ := joinT_mem.1 h
      exact joinT_mem.2 ⟨a, hk 0 a ha, b, hk 1 b hb, h1⟩
    · have e1 : ∀ tt kk, rowsV tt p kk = nth kk 0 ++ nth kk 1 := fun tt kk => by simp [rowsV, e]
      rw [e1] at h ⊢
      rcases List.mem_append.1 h with h | h
      · exact List.mem_append.2 (.inl (hk 0 r h))
      · exact List.mem_append.2 (.inr (hk 1 r h))
    · exact absurd e h6
    · have e1 : ∀ tt kk, rowsV tt p kk = nth kk 0 := fun tt kk => by simp [rowsV, e]
      rw [e1] at h ⊢; exact hk 0 r h
    · exact absurd e h8
theorem tables_len (n : Nat) (facts : List GFact) (ch : List Int) : (tablesM n facts ch).length = n := by simp [tablesM]
theorem tables_big {n : Nat} {facts : List GFact} {ch : List Int} : ∀ t ∈ tablesM n facts ch, t.length ≤ ch.length := fun t ht => by
  obtain ⟨i, _, rfl⟩ := List.mem_map.1 ht
  have h := tabB_len (facts := facts) (n := n) (i := i) ch (fun _ => [])
  have h2 : (tabB facts n ch i).length ≤ [].length + ch.length := h
  have := setR_len (tabB facts n ch i)
  simp only [List.length_nil] at h2; omega
theorem tables_row {n : Nat} {facts : List GFact} {ch : List Int} (hr : ∀ f ∈ facts, f.Row.length ≤ 4398046511104) : ∀ t ∈ tablesM n facts ch, ∀ r ∈ t, r.length ≤ 4398046511104 := fun t ht r h => by
  obtain ⟨i, hi, rfl⟩ := List.mem_map.1 ht
  exact tabB_row hr (List.mem_range.1 hi) r (setR_sub h)
/-- The law. -/
theorem grow_law {s : GSchema} {n : Nat} {p : GPlan} {facts : List GFact} {one two : List Int} (h1 : evOk s n p (tablesM s.Tables.length facts one) = true) (hm : monoM n p = true) :
    ∀ r ∈ evV (tablesM s.Tables.length facts one) n p, r ∈ evV (tablesM s.Tables.length facts (one ++ two)) n p := by
  have hv : vldM s p = true := by
    unfold evOk evalOk at h1
    simp only [Bool.and_eq_true] at h1
    exact h1.1.1.1
  unfold vldM at hv
  simp only [Bool.and_eq_true] at hv
  exact grow (fun i => tab_grow i) n 12 p hv.2 hm
open Go
theorem step_call_eat {X : Type} {C : Cx} {E : Env} {L S R : List SP} {d : Option Nat} {ty : Nat} {pos : String} {af : Array Edge} {g : Option (Nat × Bool)} {f : Nat} {xs : Array Operand} {ts : Array Nat} {asT : List Ty} {res : X → Ty}
    (sel : Sel L S R) (sp : Fun C.P f asT res) (ha : ArgsF E S xs.toList asT) (he : ∀ args w, (callFunc f args).run C.P w = .ok (.enter f args) w) :
    Step C ⟨d, .call { callee := .value (.func f), args := xs, argTypes := ts }, ty, pos, af, g⟩ E L res (fun _ => R) := fun a w h m n l se st fr next Q hk => by
  obtain ⟨m1, m2, d12, rfl, s1, s2⟩ := sel.stars.1 st
  have hd := PH.disj_join'.1 se.hm
  have hr := PH.disj_join.1 se.mr
  have hA := ha.args hd.1 s1 fr
  have hc := sp _ (h.join m1) PH.emp (m2.join C.r) w hA ⟨(by first | exact Sep.inv (by assumption) | exact Inv.mono (PH.le_join_left _ _) (Sep.inv (by assumption))), PH.disj_emp _, PH.disj_join'.2 ⟨PH.disj_join.2 ⟨hd.2, d12⟩, PH.disj_join.2 ⟨se.hr, hr.1⟩⟩, PH.disj_emp_left _, PH.join_inw se.hw (fun b o e => se.mw _ _ (PH.le_join_left _ _ _ _ e)), (fun b o e => (by cases e)),
    PH.join_inw (fun b o e => se.mw _ _ (PH.le_join_right d12 _ _ e)) se.rw⟩ rfl
  refine ⟨fun _ _ => trivial, ?_⟩
  rw [Fw_round, Oper.semAt_eq _ _ _ (by intro c h; cases h)]
  have hrun : (execOp a.eval ⟨d, .call { callee := .value (.func f), args := xs, argTypes := ts }, ty, pos, af, g⟩).run C.P w = .ok (.enter f (xs.toList.map a.eval).toArray) w := by
    simp only [execOp, resolve, show a.eval (.func f) = .func (.func f) #[] #[] from rfl, Deferred.ofValue]
    simp [invoke, he]
    rw [← Array.toList_map]
  rw [hrun]
  refine ⟨by simp, (callsIn_wide (n := 0 - 1)).2 (hc.mono ?_)⟩
  rintro e w' ⟨x, v, h', m', rfl, l', se', st', hv⟩
  have e1 := PH.disj_join'.1 se'.hr
  have e2 := PH.disj_join'.1 se'.mr
  rw [show m' = PH.emp from st'] at *
  exact hk x v w' h' m2 ⟨fun b o e => l'.1 _ _ (PH.le_join_left _ _ _ _ e), l'.2⟩ ⟨(by first | exact Sep.inv (by assumption) | exact Inv.mono (PH.le_join_left _ _) (Sep.inv (by assumption))), e1.1, e1.2, hr.2, se'.hw, fun b o e => se'.rw _ _ (PH.le_join_left _ _ _ _ e), fun b o e => se'.rw _ _ (PH.le_join_right hr.2 _ _ e)⟩
    ((stars R).mono (fun b o e => l'.1 _ _ (PH.le_join_left _ _ _ _ e)) s2) hv
open Go Go.Proofs Go.Proofs.Tryz
variable {H : Type} {enc : TypeId × Value → H} {W : World}
theorem rd3 : Rd enc Tryz.prog W 3 rInt := Rd.int ty3 Tryz.underlying3
theorem rd9 : Rd enc Tryz.prog W 9 rStr := Rd.str ty9 Tryz.underlying9
theorem rd27 : Rd enc Tryz.prog W 27 (rSl rInt) := Rd.sl ty27 Tryz.underlying27 rd3 (by decide)
theorem rd62 : Rd enc Tryz.prog W 62 rValue where
  k := ty62.cells W
  rd := fun fuel cs x h => by
    obtain ⟨hl, hf⟩ := readStruct so62 h
    obtain ⟨y0, h0⟩ := Rd.at (t := 62) (i := 0) hf rd3 rfl
    obtain ⟨y1, h1⟩ := Rd.at (t := 62) (i := 1) hf rd3 rfl
    obtain ⟨y2, h2⟩ := Rd.at (t := 62) (i := 2) hf rd9 rfl
    refine ⟨⟨y0, y1, y2⟩, SF.rel_of hl fun i f hi => ?_⟩
    match i, hi with
    | 0, hi => cases hi; exact h0
    | 1, hi => cases hi; exact h1
    | 2, hi => cases hi; exact h2
    | n + 3, hi => simp [fsValue] at hi
theorem rd45 : Rd enc Tryz.prog W 45 (rSl rValue) := Rd.sl ty45 Tryz.underlying45 rd62 (by decide)
theorem rd88 : Rd enc Tryz.prog W 88 rAtom where
  k := ty88.cells W
  rd := fun fuel cs x h => by
    obtain ⟨hl, hf⟩ := readStruct so88 h
    obtain ⟨y0, h0⟩ := Rd.at (t := 88) (i := 0) hf rd3 rfl
    obtain ⟨y1, h1⟩ := Rd.at (t := 88) (i := 1) hf rd27 rfl
    obtain ⟨y2, h2⟩ := Rd.at (t := 88) (i := 2) hf rd27 rfl
    obtain ⟨y3, h3⟩ := Rd.at (t := 88) (i := 3) hf rd3 rfl
    refine ⟨⟨y0, y1, y2, y3⟩, SF.rel_of hl fun i f hi => ?_⟩
    match i, hi with
    | 0, hi => cases hi; exact h0
    | 1, hi => cases hi; exact h1
    | 2, hi => cases hi; exact h2
    | 3, hi => cases hi; exact h3
    | n + 4, hi => simp [fsAtom] at hi
theorem rd47 : Rd enc Tryz.prog W 47 (rSl rAtom) := Rd.sl ty47 Tryz.underlying47 rd88 (by decide)
open Go Go.Proofs Go.Proofs.Tryz
theorem run_true {P : Program} {f : Nat} {As : List Ty} {vs : List Value} {W : World} (sp : Fun1 P f As (tV (.bool true))) (hi : Inv (wholeH W)) (ha : Args (wholeH W) As vs) :
    Calls P f vs.toArray W fun e W' => e = .returned (.bool true) ∧ Go.RowKit.Below W.heap.size W W' := by
  have hc := sp vs (wholeH W) PH.emp PH.emp W ha ⟨hi, PH.disj_emp _, PH.disj_emp _, PH.disj_emp _, wholeH_inw W, (fun b o e => by cases e), fun b o e => by cases e⟩ rfl
  refine hc.mono ?_
  rintro e W' ⟨x, v, h', m', rfl, l, s, _, hv⟩
  have hv : v = .bool true := hv
  subst hv
  exact ⟨rfl, below_of l.1 s.hw l.2⟩
section
variable {H : Type} {enc : TypeId × Value → H} {P : Program} {W : World} {base : Nat}
theorem arg_sl {α : Type} {t e : Nat} {R : Rp α} {v : Value} {d : DataW H} {p : List MemPlace} (hu : P.underlying t = some (.slice e)) (hR : Rd enc P W t (rSl R)) (hok : Value.okWide P W .any base t v) (h : DataW.Trod enc P W 0 (fun _ => true) true t v d p) :
    ∃ xs, (tSl R xs).p (wholeH W) v := by
  obtain ⟨a, len, cap, rfl⟩ := Go.WideShapes.okWide_slice hu hok
  obtain ⟨fuel, h⟩ := h
  obtain ⟨xs, u, e1, e2⟩ := hR.rd _ _ _ h
  have : Value.slice a len cap = u := by
    have := (List.cons.inj e1).1
    exact this
  exact ⟨xs, this ▸ e2⟩
theorem sl_len {α : Type} {t e : Nat} {R : Rp α} (hu : P.underlying t = some (.slice e)) {fuel : Nat} {cs : List Value} {x : DataW H × List MemPlace} (h : DataW.trod enc P W 0 (fun _ => true) true fuel t cs = some x) {xs : List α} (r : (rSl R).rel (wholeH W) xs cs) :
    xs.length ≤ 9223372036854775807 ∧ (x.1 = .nil ∧ xs = [] ∨ ∃ el rest, x.1 = .slice el rest ∧ el.length = xs.length) := by
  obtain ⟨u, e1, ao, cap, e2, _⟩ := r
  subst e1; subst e2
  rcases DataW.trod_slice hu h with ⟨h1, h2⟩ | ⟨a, len, cap', elems, rest, n, _, h1, h2, _, hlc, hm, hlen, _⟩
  · have h3 := (Value.slice.inj (List.cons.inj h1).1).2.1
    have h4 : xs = [] := List.eq_nil_of_length_eq_zero h3
    subst h4
    exact ⟨by simp, .inl ⟨by rw [h2], rfl⟩⟩
  · have h3 := (Value.slice.inj (List.cons.inj h1).1).2.1
    refine ⟨?_, .inr ⟨elems.map (·.1), rest.map (·.1), by rw [h2], by rw [List.length_map]; omega⟩⟩
    have : maxLen = 9223372036854775807 := by decide
    omega
/-- A slice that is handed in, and how long what was read is. -/
theorem arg_slL {α : Type} {t e : Nat} {R : Rp α} {v : Value} {d : DataW H} {p : List MemPlace} (hu : P.underlying t = some (.slice e)) (hR : Rd enc P W t (rSl R)) (hok : Value.okWide P W .any base t v) (h : DataW.Trod enc P W 0 (fun _ => true) true t v d p) :
    ∃ xs, (tSl R xs).p (wholeH W) v ∧ (d = .nil ∧ xs = [] ∨ ∃ el rest, d = .slice el rest ∧ el.length = xs.length) := by
  obtain ⟨a, len, cap, rfl⟩ := Go.WideShapes.okWide_slice hu hok
  obtain ⟨fuel, h⟩ := h
  obtain ⟨xs, hr⟩ := hR.rd _ _ _ h
  have hl := (sl_len hu h hr).2
  obtain ⟨u, e1, e2⟩ := hr
  have : Value.slice a len cap = u := (List.cons.inj e1).1
  exact ⟨xs, this ▸ e2, hl⟩
/-- A struct that is handed in. -/
theorem arg_st {α : Type} {t : Nat} {R : Rp α} {v : Value} {d : DataW H} {p : List MemPlace} (hR : Rd enc P W t R) (hg : R.agg = true) (hk : R.k ≠ 1) (h : DataW.Trod enc P W 0 (fun _ => true) true t v d p) :
    ∃ x, (R.ty x).p (wholeH W) v := by
  obtain ⟨fuel, h⟩ := h
  obtain ⟨x, r⟩ := hR.rd _ _ _ h
  refine ⟨x, R.iff.2 ⟨_, r, ?_⟩⟩
  have hl := R.len r
  unfold packV
  rw [hg]
  cases v with
  | agg cs => simp [Value.cells]
  | _ => simp [Value.cells] at hl; exact absurd hl.symm hk
theorem arg_str {t : Nat} {v : Value} {d : DataW H} {p : List MemPlace} (hu : P.underlying t = some .string) (hok : Value.okWide P W .any base t v) (h : DataW.Trod enc P W 0 (fun _ => true) true t v d p) :
    ∃ x : ByteArray, (tV (.string x)).p (wholeH W) v := by
  obtain ⟨x, rfl⟩ := Go.WideShapes.okWide_string hu hok
  exact ⟨x, rfl⟩
end
/-- A conjunction that is handed in. -/
theorem arg_cj {H : Type} {enc : TypeId × Value → H} {W : World} {v : Value} {d : DataW H} {p : List MemPlace} (h : DataW.Trod enc Tryz.prog W 0 (fun _ => true) true 49 v d p) :
    ∃ q : GConj, (rConj.ty q).p (wholeH W) v ∧ q.Atoms.length ≤ 9223372036854775807 := by
  obtain ⟨fuel, h⟩ := h
  obtain ⟨hl, hf⟩ := readStruct so49 h
  obtain ⟨y0, h0⟩ := Rd.at (t := 49) (i := 0) hf rd3 rfl
  obtain ⟨y1, h1⟩ := Rd.at (t := 49) (i := 1) hf rd45 rfl
  obtain ⟨n, z, hz⟩ := hf 2 _ rfl
  obtain ⟨y2, h2⟩ := rd47.rd _ _ _ hz
  have hb := (sl_len Tryz.underlying47 hz h2).1
  have hr : rConj.rel (wholeH W) (⟨y0, y1, y2⟩ : GConj) (Value.cells v).toList := SF.rel_of hl fun i f hi => by
    match i, hi with
    | 0, hi => cases hi; exact h0
    | 1, hi => cases hi; exact h1
    | 2, hi => cases hi; exact h2
    | n + 3, hi => simp [fsConj] at hi
  refine ⟨⟨y0, y1, y2⟩, rConj.iff.2 ⟨_, hr, ?_⟩, hb⟩
  have hl2 := rConj.len hr
  unfold packV
  rw [show rConj.agg = true from rfl]
  cases v with
  | agg cs => simp [Value.cells]
  | _ => simp [Value.cells] at hl2; exact absurd hl2.symm (by decide)
theorem inv_of {W : World} (h : Lib.TabIs Tryz.prog W "internal/strconv.uint64pow10" .u64 Lib.pow10Tab) : Inv (wholeH W) := by
  have hg : Tryz.prog.globalNamed "internal/strconv.uint64pow10" = some tabG := by kernel_rfl
  unfold Lib.TabIs World.var? at h
  rw [hg] at h
  simp only [Option.bind_some] at h
  unfold Inv wholeH
  cases hb : W.heap[tabG]? with
  | none => rw [hb] at h; cases h
  | some o =>
    rw [hb] at h
    cases o with
    | cells cs e fz => exact ⟨e, fz, by injection h with h; rw [h]; rfl⟩
    | _ => cases h
end Lg
namespace Go.Proofs.YtecikhenhjphfaaGreatDoor
open Go.ChangeShapes Go.WideShapes Go.ChangeAt Go.RowKit
theorem own : ownKnob Tryz.prog.godebug = none := by kernel_rfl
theorem laidOut : laidOutB Tryz.prog = true := by kernel_rfl
theorem size49 : (49 : Nat) < Tryz.prog.types.size := of_decide_eq_true (by kernel_rfl)
theorem rec49 : Tryz.prog.readableRec 49 = true := by kernel_rfl
theorem want49 : Tryz.prog.wantsStandIn 49 = false := by kernel_rfl
/-- What the rows list. -/
abbrev laidL : List (String × DataW Unit) := [("math/bits.deBruijn32tab", Rows.laid_math_bits_deBruijn32tab), ("math/bits.deBruijn64tab", Rows.laid_math_bits_deBruijn64tab), ("internal/strconv.uint64pow10", Rows.laid_internal_strconv_uint64pow10)]
noncomputable def laidWorld (os : Os) : World := World.laidAll Tryz.prog os laidL
theorem tab_of {W : World} (h : laidMet Tryz.prog laidL W) : Lib.TabIs Tryz.prog W "internal/strconv.uint64pow10" .u64 Lib.pow10Tab :=
  Lib.tabIs_of_head (g := Lg.tabG) (t := 296) (e := 201) (n := 20) (rest := []) (by kernel_rfl) (by kernel_rfl) Tryz.underlying296 Tryz.underlying201 (by kernel_rfl) (by kernel_rfl) h.tail.tail
theorem noLooks : true = Tryz.pinned.checked.prog.looks [] := by kernel_rfl
end Go.Proofs.YtecikhenhjphfaaGreatDoor
namespace Lg
open Go Go.Proofs Go.Proofs.Tryz
end Lg
namespace Go.Proofs.YtecikhenhjphfaaGreatDoor
open Go.ChangeShapes Go.WideShapes Go.ChangeAt Go.RowKit
theorem size27 : (27 : Nat) < Tryz.prog.types.size := of_decide_eq_true (by kernel_rfl)
theorem rec27 : Tryz.prog.readableRec 27 = true := by kernel_rfl
theorem want27 : Tryz.prog.wantsStandIn 27 = false := by kernel_rfl
end Go.Proofs.YtecikhenhjphfaaGreatDoor
namespace Lg
open Go Go.Proofs Go.Proofs.Tryz
section
variable {H : Type} {enc : TypeId × Value → H} {P : Program} {W : World}
/-- Whatever the kit reads at type t is represented by R, and Q holds of it. -/
structure RdQ {α H : Type} (enc : TypeId × Value → H) (P : Program) (W : World) (t : Nat) (R : Rp α) (Q : α → Prop) : Prop where
  k : P.cellsOf t = R.k
  rd : ∀ fuel cs x, DataW.trod enc P W 0 (fun _ => true) true fuel t cs = some x → ∃ y, R.rel (wholeH W) y cs ∧ Q y
theorem RdQ.str {t : Nat} (hT : TyOf P t rStr) (hu : P.underlying t = some .string) : RdQ enc P W t rStr (fun s => s.size ≤ 9223372036854775807) where
  k := hT.cells W
  rd := fun _ _ _ h => by
    obtain ⟨n, rfl, _, hm⟩ := DataW.trod_string hu h
    have : maxLen = 9223372036854775807 := by decide
    exact ⟨n, rfl, by omega⟩
theorem sl_rdQ {α : Type} {t e N : Nat} {R : Rp α} {Q : α → Prop} (hu : P.underlying t = some (.slice e)) (hk : 0 < R.k) (hc : P.cellsOf e = R.k)
    (hR : ∀ n, N = n + 1 → ∀ cs x, DataW.trod enc P W 0 (fun _ => true) true n e cs = some x → ∃ y, R.rel (wholeH W) y cs ∧ Q y) {cs : List Value} {x : DataW H × List MemPlace} (h : DataW.trod enc P W 0 (fun _ => true) true N t cs = some x) :
    ∃ y, (rSl R).rel (wholeH W) y cs ∧ y.length ≤ 9223372036854775807 ∧ ∀ a ∈ y, Q a := by
  rcases DataW.trod_slice hu h with ⟨rfl, _⟩ | ⟨a, len, cap, elems, rest, n, hN, rfl, _, _, hlc, hmx, hlen, hel, _, _⟩
  · exact ⟨[], ⟨_, rfl, none, ⟨0, Nat.le_refl _⟩, rfl, fun q => absurd rfl q⟩, Nat.zero_le _, fun a ha => by cases ha⟩
  have hall : ∀ i : Fin len, ∃ y, (∃ cs, W.cells? 0 (a.add (i.1 * R.k)) R.k = some cs ∧ R.rel (wholeH W) y cs) ∧ Q y := fun i => by
    have h1 := hel i.1 i.2
    rw [List.getElem?_eq_getElem (by omega : i.1 < elems.length), Option.bind_eq_some_iff] at h1
    obtain ⟨cs, h2, h3⟩ := h1
    obtain ⟨y, hy, hq⟩ := hR n hN _ _ h3
    rw [hc] at h2
    exact ⟨y, ⟨cs, h2, hy⟩, hq⟩
  let f : Fin len → α := fun i => Classical.choose (hall i)
  have hf : ∀ i : Fin len, ∃ cs, W.cells? 0 (a.add (i.1 * R.k)) R.k = some cs ∧ R.rel (wholeH W) (f i) cs := fun i => (Classical.choose_spec (hall i)).1
  have hfq : ∀ i : Fin len, Q (f i) := fun i => (Classical.choose_spec (hall i)).2
  have hml : maxLen = 9223372036854775807 := by decide
  refine ⟨List.ofFn f, ⟨_, rfl, some a, ⟨cap, by rw [List.length_ofFn]; exact hlc⟩, by show Value.slice (some a) len cap = Value.slice (some a) (List.ofFn f).length cap; rw [List.length_ofFn], fun hne => ?_⟩, by rw [List.length_ofFn]; omega, fun y hy => ?_⟩
  · have hl0 : 0 < len := by
      rcases Nat.eq_zero_or_pos len with h0 | h0
      · exfalso; apply hne; subst h0; simp
      · exact h0
    have hsp : a.spot = none := by
      obtain ⟨cs, h1, h2⟩ := hf ⟨0, hl0⟩
      obtain ⟨_, h3, h4⟩ := World.cells?_some h1
      have h5 := h4 0 hk
      rw [List.getElem?_eq_getElem (by omega : 0 < cs.length)] at h5
      have h6 : (a.add (0 * R.k)).add 0 = a := by simp [Addr.add]
      rw [h6] at h5
      exact World.cell?_spot h5
    obtain ⟨b, off, sp⟩ := a
    simp only at hsp
    subst hsp
    refine ⟨b, off, rfl, fun i y hy => ?_⟩
    have hi : i < len := by have := (List.getElem?_eq_some_iff.1 hy).1; simpa using this
    have hy' : f ⟨i, hi⟩ = y := by
      rw [List.getElem?_eq_getElem (by simpa using hi)] at hy
      simpa using hy
    obtain ⟨cs, h1, h2⟩ := hf ⟨i, hi⟩
    obtain ⟨_, h3, h4⟩ := World.cells?_some h1
    rw [hy'] at h2
    refine ⟨cs, cell_holds hk h3 fun j hj => ?_, h2⟩
    have := h4 j hj
    simp only [addr_add] at this
    exact this
  · obtain ⟨i, rfl⟩ := (List.mem_ofFn).1 hy
    exact hfq i
theorem RdQ.sl {α : Type} {t e : Nat} {R : Rp α} {Q : α → Prop} (hT : TyOf P t (rSl R)) (hu : P.underlying t = some (.slice e)) (hR : RdQ enc P W e R Q) (hk : 0 < R.k) : RdQ enc P W t (rSl R) (fun xs => xs.length ≤ 9223372036854775807 ∧ ∀ a ∈ xs, Q a) where
  k := hT.cells W
  rd := fun fuel cs x h => sl_rdQ hu hk hR.k (fun n _ cs x hx => hR.rd n cs x hx) h
theorem RdQ.at {α β : Type} {t : Nat} {fs : List (SF α)} {cs : List Value} {i : Nat} {T : Nat} {R : Rp β} {Q : β → Prop} {get : α → β} (hf : ∀ (i : Nat) (f : SF α), fs[i]? = some f → ∃ n z, DataW.trod enc P W 0 (fun _ => true) true n f.T ((cs.drop (SF.off fs i)).take f.R.k) = some z)
    (hR : RdQ enc P W T R Q) (hi : fs[i]? = some ⟨β, T, R, get⟩) : ∃ y, R.rel (wholeH W) y ((cs.drop (SF.off fs i)).take R.k) ∧ Q y := by
  obtain ⟨n, z, hz⟩ := hf i _ hi
  exact hR.rd _ _ _ hz
end
section
variable {H : Type} {enc : TypeId × Value → H} {W : World}
def strQ (s : ByteArray) : Prop := s.size ≤ 9223372036854775807
def attrQ (a : GAttr) : Prop := strQ a.Name ∧ ∀ x ∈ a.Was, strQ x
theorem rq9 : RdQ enc Tryz.prog W 9 rStr strQ := RdQ.str ty9 Tryz.underlying9
theorem rq85 : RdQ enc Tryz.prog W 60 (rSl rStr) (fun xs => xs.length ≤ 9223372036854775807 ∧ ∀ a ∈ xs, strQ a) := RdQ.sl ty60 Tryz.underlying60 rq9 (by decide)
theorem rq89 : RdQ enc Tryz.prog W 64 rAttr attrQ where
  k := ty64.cells W
  rd := fun fuel cs x h => by
    obtain ⟨hl, hf⟩ := readStruct so64 h
    obtain ⟨y0, h0, q0⟩ := RdQ.at (t := 64) (i := 0) hf rq9 rfl
    obtain ⟨y1, h1⟩ := Rd.at (t := 64) (i := 1) hf rd3 rfl
    obtain ⟨y2, h2, q2⟩ := RdQ.at (t := 64) (i := 2) hf rq85 rfl
    obtain ⟨y3, h3⟩ := Rd.at (t := 64) (i := 3) hf rd62 rfl
    refine ⟨⟨y0, y1, y2, y3⟩, SF.rel_of hl fun i f hi => ?_, q0, q2.2⟩
    match i, hi with
    | 0, hi => cases hi; exact h0
    | 1, hi => cases hi; exact h1
    | 2, hi => cases hi; exact h2
    | 3, hi => cases hi; exact h3
    | n + 4, hi => simp [fsAttr] at hi
theorem rq44 : RdQ enc Tryz.prog W 28 (rSl rAttr) (fun xs => xs.length ≤ 9223372036854775807 ∧ ∀ a ∈ xs, attrQ a) := RdQ.sl ty28 Tryz.underlying28 rq89 (by decide)
theorem rd28 : Rd enc Tryz.prog W 28 (rSl rAttr) := ⟨ty28.cells W, fun f cs x h => let ⟨y, hy, _⟩ := (rq44 (enc := enc) (W := W)).rd f cs x h; ⟨y, hy⟩⟩
theorem rq76 : RdQ enc Tryz.prog W 77 rTable (fun t => ∀ a ∈ t.Attrs, attrQ a) where
  k := ty77.cells W
  rd := fun fuel cs x h => by
    obtain ⟨hl, hf⟩ := readStruct so77 h
    obtain ⟨y0, h0⟩ := Rd.at (t := 77) (i := 0) hf rd9 rfl
    obtain ⟨y1, h1, q1⟩ := RdQ.at (t := 77) (i := 1) hf rq44 rfl
    obtain ⟨y2, h2⟩ := Rd.at (t := 77) (i := 2) hf rd27 rfl
    refine ⟨⟨y0, y1, y2⟩, SF.rel_of hl fun i f hi => ?_, q1.2⟩
    match i, hi with
    | 0, hi => cases hi; exact h0
    | 1, hi => cases hi; exact h1
    | 2, hi => cases hi; exact h2
    | n + 3, hi => simp [fsTable] at hi
theorem rq39 : RdQ enc Tryz.prog W 22 (rSl rTable) (fun xs => xs.length ≤ 9223372036854775807 ∧ ∀ t ∈ xs, ∀ a ∈ t.Attrs, attrQ a) := RdQ.sl ty22 Tryz.underlying22 rq76 (by decide)
theorem rq41 : RdQ enc Tryz.prog W 24 rSchema (fun s => ∀ t ∈ s.Tables, ∀ a ∈ t.Attrs, attrQ a) where
  k := ty24.cells W
  rd := fun fuel cs x h => by
    obtain ⟨hl, hf⟩ := readStruct so24 h
    obtain ⟨y0, h0, q0⟩ := RdQ.at (t := 24) (i := 0) hf rq39 rfl
    refine ⟨⟨y0⟩, SF.rel_of hl fun i f hi => ?_, q0.2⟩
    match i, hi with
    | 0, hi => cases hi; exact h0
    | n + 1, hi => simp [fsSchema] at hi
theorem rd91 : Rd enc Tryz.prog W 91 rSide where
  k := ty91.cells W
  rd := fun fuel cs x h => by
    obtain ⟨hl, hf⟩ := readStruct so91 h
    obtain ⟨y0, h0⟩ := Rd.at (t := 91) (i := 0) hf rd3 rfl
    obtain ⟨y1, h1⟩ := Rd.at (t := 91) (i := 1) hf rd3 rfl
    obtain ⟨y2, h2⟩ := Rd.at (t := 91) (i := 2) hf rd62 rfl
    refine ⟨⟨y0, y1, y2⟩, SF.rel_of hl fun i f hi => ?_⟩
    match i, hi with
    | 0, hi => cases hi; exact h0
    | 1, hi => cases hi; exact h1
    | 2, hi => cases hi; exact h2
    | n + 3, hi => simp [fsSide] at hi
theorem rd93 : Rd enc Tryz.prog W 93 rTest where
  k := ty93.cells W
  rd := fun fuel cs x h => by
    obtain ⟨hl, hf⟩ := readStruct so93 h
    obtain ⟨y0, h0⟩ := Rd.at (t := 93) (i := 0) hf rd91 rfl
    obtain ⟨y1, h1⟩ := Rd.at (t := 93) (i := 1) hf rd3 rfl
    obtain ⟨y2, h2⟩ := Rd.at (t := 93) (i := 2) hf rd91 rfl
    obtain ⟨y3, h3⟩ := Rd.at (t := 93) (i := 3) hf rd3 rfl
    refine ⟨⟨y0, y1, y2, y3⟩, SF.rel_of hl fun i f hi => ?_⟩
    match i, hi with
    | 0, hi => cases hi; exact h0
    | 1, hi => cases hi; exact h1
    | 2, hi => cases hi; exact h2
    | 3, hi => cases hi; exact h3
    | n + 4, hi => simp [fsTest] at hi
theorem rd26 : Rd enc Tryz.prog W 26 (rSl rTest) := Rd.sl ty26 Tryz.underlying26 rd93 (by decide)
theorem len_le : ∀ {m n : Nat} {p : GPlan}, Dep m p → PlLen m p → m ≤ n → PlLen n p
  | 0, _, _, hd, _, _ => hd.elim
  | m + 1, 0, _, _, _, h => absurd h (by omega)
  | m + 1, n + 1, p, hd, ⟨h1, h2⟩, h => ⟨h1, fun q hq => len_le (hd q hq) (h2 q hq) (by omega)⟩
theorem pl_rdQ : ∀ (N : Nat) {cs : List Value} {x : DataW H × List MemPlace}, DataW.trod enc Tryz.prog W 0 (fun _ => true) true N 30 cs = some x → ∃ y, (rPlan N).rel (wholeH W) y cs ∧ PlLen N y := by
  intro N
  induction N using Nat.strongRecOn with
  | ind N ih =>
    intro cs x h
    obtain ⟨n, rfl, hl, hf⟩ := st_rd (so30 (n := 0)) h
    obtain ⟨z0, e0⟩ := hf 0 _ rfl
    obtain ⟨z1, e1⟩ := hf 1 _ rfl
    obtain ⟨z2, e2⟩ := hf 2 _ rfl
    obtain ⟨z3, e3⟩ := hf 3 _ rfl
    obtain ⟨z4, e4⟩ := hf 4 _ rfl
    obtain ⟨z5, e5⟩ := hf 5 _ rfl
    obtain ⟨z6, e6⟩ := hf 6 _ rfl
    obtain ⟨z7, e7⟩ := hf 7 _ rfl
    obtain ⟨y0, h0⟩ := rd3.rd _ _ _ e0
    obtain ⟨y1, h1⟩ := rd3.rd _ _ _ e1
    obtain ⟨y2, h2, q2⟩ := sl_rdQ (R := rPlan n) (Q := PlLen n) Tryz.underlying25 (by rw [show (rPlan n).k = 8 from rPl_k _ _ _ n]; omega) (by rw [show (rPlan n).k = 8 from rPl_k _ _ _ n]; exact (ty30 (n := 0)).cells W) (fun m hm cs x hx => by
      obtain ⟨y, hy, hq⟩ := ih m (by omega) hx
      exact ⟨y, rPl_le cPl rAttr rTest (by omega) hy, len_le (pl_dep hy) hq (by omega)⟩) e2
    obtain ⟨y3, h3⟩ := rd26.rd _ _ _ e3
    obtain ⟨y4, h4⟩ := rd27.rd _ _ _ e4
    obtain ⟨y5, h5⟩ := rd3.rd _ _ _ e5
    obtain ⟨y6, h6⟩ := rd3.rd _ _ _ e6
    obtain ⟨y7, h7⟩ := rd28.rd _ _ _ e7
    refine ⟨GPl.mk y0 y1 y2 y3 y4 y5 y6 y7, SF.rel_of (fs := fsPl cPl rAttr rTest (rPlan n)) hl fun i f hi => ?_, q2⟩
    match i, hi with
    | 0, hi => cases hi; exact h0
    | 1, hi => cases hi; exact h1
    | 2, hi => cases hi; exact h2
    | 3, hi => cases hi; exact h3
    | 4, hi => cases hi; exact h4
    | 5, hi => cases hi; exact h5
    | 6, hi => cases hi; exact h6
    | 7, hi => cases hi; exact h7
    | n + 8, hi => simp [fsPl] at hi
end
theorem val_of {α H : Type} {enc : TypeId × Value → H} {W : World} {t : Nat} {R : Rp α} {v : Value} {x : α} (r : R.rel (wholeH W) x (Value.cells v).toList) (hg : R.agg = true) (hk : R.k ≠ 1) : (R.ty x).p (wholeH W) v := by
  refine R.iff.2 ⟨_, r, ?_⟩
  have hl := R.len r
  unfold packV
  rw [hg]
  cases v with
  | agg cs => simp [Value.cells]
  | _ => simp [Value.cells] at hl; exact absurd hl.symm hk
set_option maxRecDepth 100000 in
/-- A schema that is handed in. -/
theorem arg_sc {H : Type} {enc : TypeId × Value → H} {W : World} {base : Nat} {v : Value} {d : DataW H} {p : List MemPlace} (hok : Value.okWide Tryz.prog W .any base 24 v) (h : DataW.Trod enc Tryz.prog W 0 (fun _ => true) true 24 v d p) :
    ∃ s : GSchema, (rSchema.ty s).p (wholeH W) v ∧ ∀ t ∈ s.Tables, ∀ x ∈ namesL t.Attrs, x.size ≤ 9223372036854775807 := by
  simp only [Value.okWide, Tryz.underlying24] at hok
  obtain ⟨cs, rfl, _⟩ := hok
  obtain ⟨fuel, h⟩ := h
  obtain ⟨s, r, hq⟩ := rq41.rd _ _ _ h
  refine ⟨s, ?_, fun t ht x hx => ?_⟩
  · refine rSchema.iff.2 ⟨_, r, ?_⟩
    unfold packV
    rw [show rSchema.agg = true from rfl]
    simp [Value.cells]
  · unfold namesL at hx
    obtain ⟨a, ha, hx⟩ := List.mem_flatMap.1 hx
    have := hq t ht a ha
    rcases List.mem_cons.1 hx with rfl | hx
    · exact this.1
    · exact this.2 x hx
/-- A query that is handed in. -/
theorem arg_pl {H : Type} {enc : TypeId × Value → H} {W : World} {v : Value} {d : DataW H} {p : List MemPlace} (h : DataW.Trod enc Tryz.prog W 0 (fun _ => true) true 30 v d p) :
    ∃ (n : Nat) (q : GPlan), ((rPlan n).ty q).p (wholeH W) v ∧ PlLen n q ∧ Dep n q := by
  obtain ⟨fuel, h⟩ := h
  obtain ⟨q, r, hq⟩ := pl_rdQ fuel h
  exact ⟨fuel, q, val_of (enc := enc) (t := 30) r (rPl_agg _ _ _ _) (by rw [show (rPlan fuel).k = 8 from rPl_k _ _ _ fuel]; omega), hq, pl_dep r⟩
end Lg
namespace Go.Proofs.YtecikhenhjphfaaGreatDoor
open Go.ChangeShapes Go.WideShapes Go.ChangeAt Go.RowKit
theorem size24 : (24 : Nat) < Tryz.prog.types.size := of_decide_eq_true (by kernel_rfl)
theorem rec24 : Tryz.prog.readableRec 24 = true := by kernel_rfl
theorem want24 : Tryz.prog.wantsStandIn 24 = false := by kernel_rfl
theorem size30 : (30 : Nat) < Tryz.prog.types.size := of_decide_eq_true (by kernel_rfl)
theorem rec30 : Tryz.prog.readableRec 30 = true := by kernel_rfl
theorem want30 : Tryz.prog.wantsStandIn 30 = false := by kernel_rfl
end Go.Proofs.YtecikhenhjphfaaGreatDoor
namespace Lg
open Go Go.Proofs Go.Proofs.Tryz
section
variable {H : Type} {enc : TypeId × Value → H} {P : Program} {W : World}
/-- Whatever the kit reads at type t within its bytes is represented by R, and Q holds of it. -/
structure RdB {α H : Type} (enc : TypeId × Value → H) (P : Program) (W : World) (t : Nat) (R : Rp α) (Q : α → Prop) : Prop where
  k : P.cellsOf t = R.k
  rd : ∀ fuel cs x, DataW.trod enc P W 0 (fun _ => true) true fuel t cs = some x → (∀ n ∈ x.1.weights P t, n ≤ reachBytes) → ∃ y, R.rel (wholeH W) y cs ∧ Q y
theorem weights_all {e : TypeId} : ∀ {ds : List (DataW H)} {d : DataW H}, d ∈ ds → ∀ n ∈ d.weights P e, n ∈ DataW.weightsAll P e ds
  | a :: ds, d, hd, n, hn => by
    simp only [DataW.weightsAll, List.mem_append]
    rcases List.mem_cons.1 hd with rfl | hd
    · exact .inl hn
    · exact .inr (weights_all hd n hn)
theorem sl_rdB {α : Type} {t e b : Nat} {R : Rp α} {Q : α → Prop} (hu : P.underlying t = some (.slice e)) (hk : 0 < R.k) (hb : P.bytesOf e = b) (hR : RdB enc P W e R Q) {N : Nat} {cs : List Value} {x : DataW H × List MemPlace} (h : DataW.trod enc P W 0 (fun _ => true) true N t cs = some x)
    (hw : ∀ n ∈ x.1.weights P t, n ≤ reachBytes) : ∃ y, (rSl R).rel (wholeH W) y cs ∧ y.length * b ≤ reachBytes ∧ ∀ a ∈ y, Q a := by
  have hc := hR.k
  rcases DataW.trod_slice hu h with ⟨rfl, _⟩ | ⟨a, len, cap, elems, rest, n, hN, rfl, hx, _, hlc, hmx, hlen, hel, _, _⟩
  · exact ⟨[], ⟨_, rfl, none, ⟨0, Nat.le_refl _⟩, rfl, fun q => absurd rfl q⟩, by simp, fun a ha => by cases ha⟩
  rw [hx] at hw
  have hw1 : (elems.length + rest.length) * b ≤ reachBytes := hw _ (by simp [DataW.weights, hu, hb])
  have hw2 : ∀ i (hi : i < elems.length), ∀ n ∈ (elems[i]).1.weights P e, n ≤ reachBytes := fun i hi n hn => hw n (by
    simp only [DataW.weights, hu, List.mem_cons, List.mem_append]
    exact .inr (.inl (weights_all (List.mem_map.2 ⟨_, List.getElem_mem hi, rfl⟩) n hn)))
  have hall : ∀ i : Fin len, ∃ y, (∃ cs, W.cells? 0 (a.add (i.1 * R.k)) R.k = some cs ∧ R.rel (wholeH W) y cs) ∧ Q y := fun i => by
    have h1 := hel i.1 i.2
    have hi : i.1 < elems.length := by omega
    rw [List.getElem?_eq_getElem hi, Option.bind_eq_some_iff] at h1
    obtain ⟨cs, h2, h3⟩ := h1
    obtain ⟨y, hy, hq⟩ := hR.rd n _ _ h3 (hw2 i.1 hi)
    rw [hc] at h2
    exact ⟨y, ⟨cs, h2, hy⟩, hq⟩
  let f : Fin len → α := fun i => Classical.choose (hall i)
  have hf : ∀ i : Fin len, ∃ cs, W.cells? 0 (a.add (i.1 * R.k)) R.k = some cs ∧ R.rel (wholeH W) (f i) cs := fun i => (Classical.choose_spec (hall i)).1
  have hfq : ∀ i : Fin len, Q (f i) := fun i => (Classical.choose_spec (hall i)).2
  refine ⟨List.ofFn f, ⟨_, rfl, some a, ⟨cap, by rw [List.length_ofFn]; exact hlc⟩, by show Value.slice (some a) len cap = Value.slice (some a) (List.ofFn f).length cap; rw [List.length_ofFn], fun hne => ?_⟩, ?_, fun y hy => ?_⟩
  · have hl0 : 0 < len := by
      rcases Nat.eq_zero_or_pos len with h0 | h0
      · exfalso; apply hne; subst h0; simp
      · exact h0
    have hsp : a.spot = none := by
      obtain ⟨cs, h1, h2⟩ := hf ⟨0, hl0⟩
      obtain ⟨_, h3, h4⟩ := World.cells?_some h1
      have h5 := h4 0 hk
      rw [List.getElem?_eq_getElem (by omega : 0 < cs.length)] at h5
      have h6 : (a.add (0 * R.k)).add 0 = a := by simp [Addr.add]
      rw [h6] at h5
      exact World.cell?_spot h5
    obtain ⟨b, off, sp⟩ := a
    simp only at hsp
    subst hsp
    refine ⟨b, off, rfl, fun i y hy => ?_⟩
    have hi : i < len := by have := (List.getElem?_eq_some_iff.1 hy).1; simpa using this
    have hy' : f ⟨i, hi⟩ = y := by
      rw [List.getElem?_eq_getElem (by simpa using hi)] at hy
      simpa using hy
    obtain ⟨cs, h1, h2⟩ := hf ⟨i, hi⟩
    obtain ⟨_, h3, h4⟩ := World.cells?_some h1
    rw [hy'] at h2
    refine ⟨cs, cell_holds hk h3 fun j hj => ?_, h2⟩
    have := h4 j hj
    simp only [addr_add] at this
    exact this
  · rw [List.length_ofFn, ← hlen]
    exact Nat.le_trans (Nat.mul_le_mul_right _ (Nat.le_add_right _ _)) hw1
  · obtain ⟨i, rfl⟩ := (List.mem_ofFn).1 hy
    exact hfq i
theorem RdB.of {α : Type} {t : Nat} {R : Rp α} (h : Rd enc P W t R) : RdB enc P W t R (fun _ => True) := ⟨h.k, fun f cs x hx _ => let ⟨y, hy⟩ := h.rd f cs x hx; ⟨y, hy, trivial⟩⟩
theorem RdB.sl {α : Type} {t e b : Nat} {R : Rp α} {Q : α → Prop} (hT : TyOf P t (rSl R)) (hu : P.underlying t = some (.slice e)) (hb : P.bytesOf e = b) (hR : RdB enc P W e R Q) (hk : 0 < R.k) : RdB enc P W t (rSl R) (fun xs => xs.length * b ≤ reachBytes ∧ ∀ a ∈ xs, Q a) where
  k := hT.cells W
  rd := fun fuel cs x h hw => sl_rdB hu hk hb hR h hw
theorem readStructB {α : Type} {t : Nat} {fs : List (SF α)} (S : StructOf P t fs) {fuel : Nat} {cs : List Value} {x : DataW H × List MemPlace} (h : DataW.trod enc P W 0 (fun _ => true) true fuel t cs = some x) (hw : ∀ n ∈ x.1.weights P t, n ≤ reachBytes) :
    cs.length = SF.width fs ∧ ∀ (i : Nat) (f : SF α), fs[i]? = some f → ∃ n z, DataW.trod enc P W 0 (fun _ => true) true n f.T ((cs.drop (SF.off fs i)).take f.R.k) = some z ∧ ∀ n ∈ z.1.weights P f.T, n ≤ reachBytes := by
  obtain ⟨fls, hu, hl⟩ := S.lays
  obtain ⟨xs, n, _, hx, hlen, hxs, hf⟩ := DataW.trod_struct hu h
  refine ⟨hlen.trans (S.ty.cells W), fun i f hi => ?_⟩
  obtain ⟨fl, h1, h2, h3, h4, _⟩ := hl.get hi
  have h1' : fls[i]? = some fl := by simpa using h1
  have h5 := hf i fl h1'
  have hlt : i < xs.length := by rw [hxs]; exact (Array.getElem?_eq_some_iff.1 h1').1
  rw [List.getElem?_eq_getElem hlt, h2, h3, h4.cells W, Nat.zero_add] at h5
  refine ⟨n, _, h5, fun m hm => hw m ?_⟩
  rw [hx]
  simp only [DataW.weights, hu]
  have h6 : (fls.toList.map (·.type))[i]? = some f.T := by
    rw [List.getElem?_map, Array.getElem?_toList, h1']; simp [h2]
  have h7 : (xs.map (·.1))[i]? = some (xs[i]).1 := by
    rw [List.getElem?_map, List.getElem?_eq_getElem hlt]; rfl
  exact DataW.weights_mem_each h6 h7 m hm
theorem RdB.at {α β : Type} {t : Nat} {fs : List (SF α)} {cs : List Value} {i : Nat} {T : Nat} {R : Rp β} {Q : β → Prop} {get : α → β} (hf : ∀ (i : Nat) (f : SF α), fs[i]? = some f → ∃ n z, DataW.trod enc P W 0 (fun _ => true) true n f.T ((cs.drop (SF.off fs i)).take f.R.k) = some z ∧ ∀ n ∈ z.1.weights P f.T, n ≤ reachBytes)
    (hR : RdB enc P W T R Q) (hi : fs[i]? = some ⟨β, T, R, get⟩) : ∃ y, R.rel (wholeH W) y ((cs.drop (SF.off fs i)).take R.k) ∧ Q y := by
  obtain ⟨n, z, hz, hw⟩ := hf i _ hi
  exact hR.rd _ _ _ hz hw
end
section
variable {H : Type} {enc : TypeId × Value → H} {W : World}
theorem rb3 : RdB enc Tryz.prog W 3 rInt (fun _ => True) := RdB.of rd3
theorem rb27 : RdB enc Tryz.prog W 27 (rSl rInt) (fun _ => True) := RdB.of rd27
theorem rb45 : RdB enc Tryz.prog W 45 (rSl rValue) (fun xs => xs.length * 32 ≤ reachBytes ∧ ∀ a ∈ xs, True) := RdB.sl ty45 Tryz.underlying45 (by kernel_rfl) (RdB.of rd62) (by decide)
theorem rb71 : RdB enc Tryz.prog W 71 rFact (fun f => f.Row.length * 32 ≤ reachBytes) where
  k := ty71.cells W
  rd := fun fuel cs x h hw => by
    obtain ⟨hl, hf⟩ := readStructB so71 h hw
    obtain ⟨y0, h0, _⟩ := RdB.at (t := 71) (i := 0) hf rb3 rfl
    obtain ⟨y1, h1, _⟩ := RdB.at (t := 71) (i := 1) hf rb3 rfl
    obtain ⟨y2, h2, _⟩ := RdB.at (t := 71) (i := 2) hf rb3 rfl
    obtain ⟨y3, h3, q3⟩ := RdB.at (t := 71) (i := 3) hf rb45 rfl
    obtain ⟨y4, h4, _⟩ := RdB.at (t := 71) (i := 4) hf rb3 rfl
    obtain ⟨y5, h5, _⟩ := RdB.at (t := 71) (i := 5) hf rb27 rfl
    refine ⟨⟨y0, y1, y2, y3, y4, y5⟩, SF.rel_of hl fun i f hi => ?_, q3.1⟩
    match i, hi with
    | 0, hi => cases hi; exact h0
    | 1, hi => cases hi; exact h1
    | 2, hi => cases hi; exact h2
    | 3, hi => cases hi; exact h3
    | 4, hi => cases hi; exact h4
    | 5, hi => cases hi; exact h5
    | n + 6, hi => simp [fsFact] at hi
theorem rb31 : RdB enc Tryz.prog W 31 (rSl rFact) (fun xs => xs.length * 80 ≤ reachBytes ∧ ∀ f ∈ xs, f.Row.length * 32 ≤ reachBytes) := RdB.sl ty31 Tryz.underlying31 (by kernel_rfl) rb71 (by decide)
end
set_option maxRecDepth 100000 in
theorem arg_fa {H : Type} {enc : TypeId × Value → H} {W : World} {base : Nat} {v : Value} {d : DataW H} {p : List MemPlace} (hok : Value.okWide Tryz.prog W .any base 31 v) (h : DataW.Trod enc Tryz.prog W 0 (fun _ => true) true 31 v d p) (hw : ∀ n ∈ d.weights Tryz.prog 31, n ≤ reachBytes) :
    ∃ xs : List GFact, (tSl rFact xs).p (wholeH W) v ∧ ∀ f ∈ xs, f.Row.length ≤ 4398046511104 := by
  obtain ⟨a, len, cap, rfl⟩ := Go.WideShapes.okWide_slice Tryz.underlying31 hok
  obtain ⟨fuel, h⟩ := h
  obtain ⟨xs, ⟨u, e1, e2⟩, hq⟩ := rb31.rd _ _ _ h hw
  have : Value.slice a len cap = u := (List.cons.inj e1).1
  refine ⟨xs, this ▸ e2, fun f hf => ?_⟩
  have h1 := hq.2 f hf
  have h2 : reachBytes ≤ 140737488355328 := by decide
  omega
end Lg
namespace Go.Proofs.YtecikhenhjphfaaGreatDoor
open Go.ChangeShapes Go.WideShapes Go.ChangeAt Go.RowKit
theorem size31 : (31 : Nat) < Tryz.prog.types.size := of_decide_eq_true (by kernel_rfl)
theorem rec31 : Tryz.prog.readableRec 31 = true := by kernel_rfl
theorem want31 : Tryz.prog.wantsStandIn 31 = false := by kernel_rfl
end Go.Proofs.YtecikhenhjphfaaGreatDoor
