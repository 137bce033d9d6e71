/- Walks of values, lists, names, tables, schemas and columns. -/
import Derived.Test.YtgaclpkapapjdaaGreatDoorB
import Derived.Laws.StructEq
import Derived.Test.YtgaclpkapapjdaaGreatDoorProg
import Derived.Ground.NamesProg
import Derived.Shelf.Sort.Plain
import Derived.Shelf.Slices.In.SortNone
import Derived.Shelf.Slices.CompactS
set_option linter.unusedVariables false
set_option linter.unusedSimpArgs false
set_option linter.unusedSectionVars false
namespace Lg
open Go Go.Proofs Go.Proofs.Tryz
def validV (v : GValue) : Bool :=
  if v.Kind ≠ 1 ∧ v.Text ≠ ⟨#[]⟩ then false
  else if v.Kind = 0 then decide (0 ≤ v.N) && decide (v.N ≤ 0)
  else if v.Kind = 1 then (if 200 < (v.Text.size : Int) then false else decide (0 ≤ v.N) && decide (v.N ≤ 0))
  else if v.Kind = 2 then decide (-1000000000 ≤ v.N) && decide (v.N ≤ 1000000000)
  else if v.Kind = 3 then decide (0 ≤ v.N) && decide (v.N ≤ 73048)
  else if v.Kind = 4 then decide (0 ≤ v.N) && decide (v.N ≤ 1)
  else false
theorem Valid_spec (v : GValue) : Fun1 prog 50 [rValue.ty v] (tV (.bool (validV v))) := by
 refine Spec.enter func50 rfl rfl fun h0 w0 fr0 => ?_
 refine Jr (Js rfl (step_box (R := rValue) Sr) (Ja rfl (JL_nil (J_seq (Jr ?_)))))
 refine Js rfl (step_fieldAddr so87 Sr rfl) (Jl rfl ty3 Sr (Js rfl (step_neq Sr Sr) (Jm rfl ?_)))
 refine Jk rfl Sr rfl (step_fieldAddr so87 Sr rfl) ?_
 refine Jg rfl Sr rfl (fun hw => step_load_ptr ty9 (Sub.w hw)) (Jg rfl Sr rfl (fun hw => step_neq_str (Sub.w hw) Sr) (Js rfl (step_pick_and Sr Sr) (JL_nil ?_)))
 refine J_cond Sr (fun hc1 => ?_) (fun hc1 => ?_)
 ·
  try simp only [NF] at hc1
  refine Jr (Ja rfl (JL_nil (J_ret ?_)))
  refine K_ret1 (t := 2) rfl () ?_
  refine Sub.bool ?_
  simp [validV, hc1]
 try simp only [NF] at hc1
 refine J_skip (Jr (Ja rfl (Ja rfl (JL_nil (J_seq ?_)))))
 refine Jr (Js rfl (step_fieldAddr so87 Sr rfl) (Jl rfl ty3 Sr (JL_nil (J_block (Jr ?_)))))
 refine Js rfl (step_eql Sr Sr) (Ja rfl (JL_nil ?_))
 refine J_cond Sr (fun hc2 => ?_) (fun hc2 => ?_)
 ·
  try simp only [NF] at hc2
  refine J_skip (Jr (Jm rfl (Js rfl (step_fieldAddr so87 Sr rfl) (Jl rfl ty3 Sr (Js rfl (step_leq Sr Sr) ?_)))))
  refine Jm rfl ?_
  refine Jk rfl Sr rfl (step_fieldAddr so87 Sr rfl) ?_
  refine Jg rfl Sr rfl (fun hw => step_load_ptr ty3 (Sub.w hw)) ?_
  refine Jk rfl Sr rfl (step_move Sr) ?_
  refine Jg rfl Sr rfl (fun hw => step_leq (Sub.w hw) (Sub.w hw)) (Js rfl (step_pick_and Sr Sr) (Ja rfl (JL_nil (J_ret ?_))))
  refine K_ret1 (t := 2) rfl () ?_
  refine Sub.bool ?_
  have h1 : ¬ (v.Kind ≠ 1 ∧ v.Text ≠ ⟨#[]⟩) := by rintro ⟨p, q⟩; rcases hc1 with hc1 | hc1 <;> contradiction
  simp only [validV, if_neg h1]
  simp [*]
 try simp only [NF] at hc2
 refine Jr (Js rfl (step_eql Sr Sr) (Ja rfl (JL_nil ?_)))
 refine J_cond Sr (fun hc3 => ?_) (fun hc3 => ?_)
 ·
  try simp only [NF] at hc3
  refine Jr (Js rfl (step_fieldAddr so87 Sr rfl) (Jl rfl ty9 Sr (Js rfl (step_len_str underlying9 Sr) (Js rfl (step_gtr Sr Sr) (JL_nil ?_)))))
  refine J_cond Sr (fun hc4 => ?_) (fun hc4 => ?_)
  ·
   try simp only [NF] at hc4
   refine Jr (Ja rfl (JL_nil (J_ret ?_)))
   refine K_ret1 (t := 2) rfl () ?_
   refine Sub.bool ?_
   have h1 : ¬ (v.Kind ≠ 1 ∧ v.Text ≠ ⟨#[]⟩) := by rintro ⟨p, q⟩; rcases hc1 with hc1 | hc1 <;> contradiction
   simp only [validV, if_neg h1]
   first | (simp [*]; done) | (simp_all; omega)
  try simp only [NF] at hc4
  refine J_skip (Jr (Jm rfl (Js rfl (step_fieldAddr so87 Sr rfl) (Jl rfl ty3 Sr (Js rfl (step_leq Sr Sr) ?_)))))
  refine Jm rfl ?_
  refine Jk rfl Sr rfl (step_fieldAddr so87 Sr rfl) ?_
  refine Jg rfl Sr rfl (fun hw => step_load_ptr ty3 (Sub.w hw)) ?_
  refine Jk rfl Sr rfl (step_move Sr) ?_
  refine Jg rfl Sr rfl (fun hw => step_leq (Sub.w hw) (Sub.w hw)) (Js rfl (step_pick_and Sr Sr) (Ja rfl (JL_nil (J_ret ?_))))
  refine K_ret1 (t := 2) rfl () ?_
  refine Sub.bool ?_
  have h1 : ¬ (v.Kind ≠ 1 ∧ v.Text ≠ ⟨#[]⟩) := by rintro ⟨p, q⟩; rcases hc1 with hc1 | hc1 <;> contradiction
  simp only [validV, if_neg h1]
  first | (simp [*]; done) | (simp_all; omega)
 try simp only [NF] at hc3
 refine Jr (Js rfl (step_eql Sr Sr) (Ja rfl (JL_nil ?_)))
 refine J_cond Sr (fun hc5 => ?_) (fun hc5 => ?_)
 ·
  try simp only [NF] at hc5
  refine J_region (Ja rfl (Ja rfl (JL_nil (Jr (Jm rfl ?_)))))
  refine Js rfl (step_fieldAddr so87 Sr rfl) (Jl rfl ty3 Sr (Js rfl (step_leq Sr Sr) (Jm rfl ?_)))
  refine Jk rfl Sr rfl (step_fieldAddr so87 Sr rfl) ?_
  refine Jg rfl Sr rfl (fun hw => step_load_ptr ty3 (Sub.w hw)) ?_
  refine Jk rfl Sr rfl (step_move Sr) ?_
  refine Jg rfl Sr rfl (fun hw => step_leq (Sub.w hw) (Sub.w hw)) (Js rfl (step_pick_and Sr Sr) (Ja rfl (JL_nil (J_ret ?_))))
  refine K_ret1 (t := 2) rfl () ?_
  refine Sub.bool ?_
  have h1 : ¬ (v.Kind ≠ 1 ∧ v.Text ≠ ⟨#[]⟩) := by rintro ⟨p, q⟩; rcases hc1 with hc1 | hc1 <;> contradiction
  simp only [validV, if_neg h1]
  first | (simp [*]; done) | (simp_all; omega)
 try simp only [NF] at hc5
 refine Jr (Js rfl (step_eql Sr Sr) (Ja rfl (JL_nil ?_)))
 refine J_cond Sr (fun hc6 => ?_) (fun hc6 => ?_)
 ·
  try simp only [NF] at hc6
  refine J_region (Ja rfl (JL_nil (Jr (Jm rfl (Js rfl (step_fieldAddr so87 Sr rfl) ?_)))))
  refine Jl rfl ty3 Sr (Js rfl (step_leq Sr Sr) (Jm rfl ?_))
  refine Jk rfl Sr rfl (step_fieldAddr so87 Sr rfl) ?_
  refine Jg rfl Sr rfl (fun hw => step_load_ptr ty3 (Sub.w hw)) ?_
  refine Jk rfl Sr rfl (step_move Sr) ?_
  refine Jg rfl Sr rfl (fun hw => step_leq (Sub.w hw) (Sub.w hw)) (Js rfl (step_pick_and Sr Sr) (Ja rfl (JL_nil (J_ret ?_))))
  refine K_ret1 (t := 2) rfl () ?_
  refine Sub.bool ?_
  have h1 : ¬ (v.Kind ≠ 1 ∧ v.Text ≠ ⟨#[]⟩) := by rintro ⟨p, q⟩; rcases hc1 with hc1 | hc1 <;> contradiction
  simp only [validV, if_neg h1]
  first | (simp [*]; done) | (simp_all; omega)
 try simp only [NF] at hc6
 refine Jr (Js rfl (step_eql Sr Sr) (Ja rfl (JL_nil ?_)))
 refine J_cond Sr (fun hc7 => ?_) (fun hc7 => ?_)
 ·
  try simp only [NF] at hc7
  refine J_region (Ja rfl (JL_nil (Jr (Jm rfl (Js rfl (step_fieldAddr so87 Sr rfl) ?_)))))
  refine Jl rfl ty3 Sr (Js rfl (step_leq Sr Sr) (Jm rfl ?_))
  refine Jk rfl Sr rfl (step_fieldAddr so87 Sr rfl) ?_
  refine Jg rfl Sr rfl (fun hw => step_load_ptr ty3 (Sub.w hw)) ?_
  refine Jk rfl Sr rfl (step_move Sr) ?_
  refine Jg rfl Sr rfl (fun hw => step_leq (Sub.w hw) (Sub.w hw)) (Js rfl (step_pick_and Sr Sr) (Ja rfl (JL_nil (J_ret ?_))))
  refine K_ret1 (t := 2) rfl () ?_
  refine Sub.bool ?_
  have h1 : ¬ (v.Kind ≠ 1 ∧ v.Text ≠ ⟨#[]⟩) := by rintro ⟨p, q⟩; rcases hc1 with hc1 | hc1 <;> contradiction
  simp only [validV, if_neg h1]
  first | (simp [*]; done) | (simp_all; omega)
 try simp only [NF] at hc7
 refine Jr (Ja rfl (JL_nil (J_ret ?_)))
 refine K_ret1 (t := 2) rfl () ?_
 refine Sub.bool ?_
 have h1 : ¬ (v.Kind ≠ 1 ∧ v.Text ≠ ⟨#[]⟩) := by rintro ⟨p, q⟩; rcases hc1 with hc1 | hc1 <;> contradiction
 simp only [validV, if_neg h1]
 first | (simp [*]; done) | (simp_all; omega)
open Go Go.Proofs Go.Proofs.Tryz
abbrev kvV (v : GValue) : Value := .agg #[.int .i64 v.Kind, .int .i64 v.N, .string v.Text]
instance : DecidableEq GValue := fun a b => decidable_of_iff (a.Kind = b.Kind ∧ a.N = b.N ∧ a.Text = b.Text) ⟨fun ⟨h1, h2, h3⟩ => by cases a; cases b; simp_all, fun h => by subst h; exact ⟨rfl, rfl, rfl⟩⟩
theorem Sub.val {x : GValue} : Sub (rValue.ty x) (tV (kvV x)) := fun h v r => by
  obtain ⟨cs, r, rfl⟩ := r
  obtain ⟨c0, _, rfl, r0, c1, _, rfl, r1, c2, _, rfl, r2, rz⟩ := r
  have r0 : c0 = [.int .i64 x.Kind] := r0
  have r1 : c1 = [.int .i64 x.N] := r1
  have r2 : c2 = [.string x.Text] := r2
  subst r0 r1 r2; rw [show _ = [] from rz]; rfl
theorem toL_eq (a b : ByteArray) : (a.toList == b.toList) = decide (a = b) := by
  rw [← beq_toListBytes]
  obtain ⟨⟨x⟩⟩ := a
  obtain ⟨⟨y⟩⟩ := b
  show ((⟨x⟩ : Array UInt8) == ⟨y⟩) = _
  rw [Bool.eq_iff_iff]; simp
theorem eq_value (a b : GValue) (w : World) : (Op.equalIn 10000 87 (kvV a) (kvV b)).run prog w = .ok (decide (a = b)) w := by
  have u3 := underlying3
  have u9 := underlying9
  have a3 := isAgg3
  have a9 := isAgg9
  have z3 := sizeOf3
  have z9 := sizeOf9
  have hS : prog.underlying 87 = some (.struct (prog.fieldsOf 87)) := by kernel_rfl
  have hp : prog.stoodInHeld 87 = false := by kernel_rfl
  rw [show (10000 : Nat) = 9999 + 1 from rfl, run_equalIn_agg w 9999 87 _ _ hS hp]
  simp only [Program.fieldsOf, underlying87]
  go_simp
  have e : decide (a = b) = (decide (a.Kind = b.Kind) && (decide (a.N = b.N) && decide (a.Text = b.Text))) := by
    rw [Bool.eq_iff_iff]; simp
    constructor
    · intro h; subst h; exact ⟨rfl, rfl, rfl⟩
    · rintro ⟨h1, h2, h3⟩; cases a; cases b; simp_all
  have e2 : (a.Text.toList = b.Text.toList) ↔ a.Text = b.Text := by
    have := toL_eq a.Text b.Text
    rw [Bool.eq_iff_iff] at this
    simpa using this
  rw [e]
  by_cases h1 : a.Kind = b.Kind <;> by_cases h2 : a.N = b.N <;> by_cases h3 : a.Text = b.Text <;> simp [h1, h2, h3, e2]
theorem ge_value : prog.eqGuardType prog.depth 87 = false := by kernel_rfl
theorem step_neq_val {ro : Option Nat} {N : Nat} {ds : List Deferred} {h0 : PH} {w0 : World} {r : PH} {E : Env} {L : List SP} {d : Option Nat} {ty : Nat} {pos : String} {af : Array Edge} {g : Option (Nat × Bool)} {x y : Operand} {U : Nat} {a b : GValue} (hx : Sub (opTy E x) (rValue.ty a)) (hy : Sub (opTy E y) (rValue.ty b)) :
    Step1 ⟨prog, ro, N, ds, h0, w0, r⟩ ⟨d, .binOp .neq 87 x y U, ty, pos, af, g⟩ E L (tV (.bool (!decide (a = b)))) :=
  Step.of_same (by intro c h; cases h) fun ac w h hw f => by
    have h1 : ac.eval x = kvV a := f.get (Sub.trans hx Sub.val)
    have h2 : ac.eval y = kvV b := f.get (Sub.trans hy Sub.val)
    have he := run_eqGuard_agg (P := prog) w .neq 87 x y #[.int .i64 a.Kind, .int .i64 a.N, .string a.Text] #[.int .i64 b.Kind, .int .i64 b.N, .string b.Text] ge_value
    refine ⟨.bool (!decide (a = b)), ?_, rfl⟩
    simp [execOp, h1, h2, Sem.run_bind, he, run_neq_struct, eq_value]
theorem step_eql_val {ro : Option Nat} {N : Nat} {ds : List Deferred} {h0 : PH} {w0 : World} {r : PH} {E : Env} {L : List SP} {d : Option Nat} {ty : Nat} {pos : String} {af : Array Edge} {g : Option (Nat × Bool)} {x y : Operand} {U : Nat} {a b : GValue} (hx : Sub (opTy E x) (rValue.ty a)) (hy : Sub (opTy E y) (rValue.ty b)) :
    Step1 ⟨prog, ro, N, ds, h0, w0, r⟩ ⟨d, .binOp .eql 87 x y U, ty, pos, af, g⟩ E L (tV (.bool (decide (a = b)))) :=
  Step.of_same (by intro c h; cases h) fun ac w h hw f => by
    have h1 : ac.eval x = kvV a := f.get (Sub.trans hx Sub.val)
    have h2 : ac.eval y = kvV b := f.get (Sub.trans hy Sub.val)
    have he := run_eqGuard_agg (P := prog) w .eql 87 x y #[.int .i64 a.Kind, .int .i64 a.N, .string a.Text] #[.int .i64 b.Kind, .int .i64 b.N, .string b.Text] ge_value
    refine ⟨.bool (decide (a = b)), ?_, rfl⟩
    simp [execOp, h1, h2, Sem.run_bind, he, run_eql_struct, eq_value]
def findI {α : Type} (p : α → Bool) : Int → List α → Int
  | _, [] => -1
  | i, x :: l => if p x then i else findI p (i + 1) l
theorem findI_bd {α : Type} (p : α → Bool) : ∀ (l : List α) (i : Int), 0 ≤ i → -1 ≤ findI p i l ∧ findI p i l < i + l.length ∧ (0 ≤ findI p i l ↔ l.any p = true)
  | [], i, h => by simp [findI]; omega
  | x :: l, i, h => by
    have ih := findI_bd p l (i + 1) (by omega)
    simp only [findI, List.length_cons, List.any_cons]
    by_cases hx : p x = true
    · simp [hx]; omega
    · simp only [hx, Bool.false_or]
      simp only [Bool.false_eq_true, if_false]
      refine ⟨ih.1, by have := ih.2.1; omega, ih.2.2⟩
theorem any_f {α : Type} [Inhabited α] {p : α → Bool} {l : List α} (h : ∀ k, k < l.length → p (nth l k) = false) : l.any p = false := by
  rw [List.any_eq_false]
  intro x hx
  obtain ⟨k, hk, rfl⟩ := List.getElem_of_mem hx
  have := h k hk
  rw [nth_get hk] at this
  simp [this]
theorem any_t {α : Type} [Inhabited α] {p : α → Bool} {l : List α} {k : Nat} (hk : k < l.length) (h : p (nth l k) = true) : l.any p = true := by
  rw [List.any_eq_true]
  exact ⟨_, nth_mem hk, h⟩
theorem all_t {α : Type} [Inhabited α] {p : α → Bool} {l : List α} (h : ∀ k, k < l.length → p (nth l k) = true) : l.all p = true := by
  rw [List.all_eq_true]
  intro x hx
  obtain ⟨k, hk, rfl⟩ := List.getElem_of_mem hx
  have := h k hk
  rwa [nth_get hk] at this
theorem all_f {α : Type} [Inhabited α] {p : α → Bool} {l : List α} {k : Nat} (hk : k < l.length) (h : p (nth l k) = false) : l.all p = false := by
  rw [List.all_eq_false]
  exact ⟨_, nth_mem hk, by simp [h]⟩
theorem pred_again {α : Type} [Inhabited α] {p : α → Prop} {l : List α} {i : Nat} (hlt : i < l.length) (hv : ∀ k, k < i → p (nth l k)) (h : p (nth l i)) : i + 1 ≤ l.length ∧ ∀ k, k < i + 1 → p (nth l k) :=
  ⟨hlt, fun k hk => by
    by_cases e : k = i
    · subst e; exact h
    · exact hv k (by omega)⟩
open Go Go.Proofs Go.Proofs.Tryz
theorem IndexFuncI_spec (l : List Int) (hl : l.length ≤ 1000000000000) (gi : Nat) (As : List Ty) (p : Int → Bool) (hp : ∀ x ∈ l, Fun1 prog gi ([tV (.int .i64 x)] ++ As) (tV (.bool (p x)))) (he : ∀ args w, (callFunc gi args).run prog w = .ok (.enter gi args) w) : Fun1 prog 117 [tSl rInt l, tClo gi As] (tV (.int .i64 (findI p 0 l))) := by
 refine Spec.enter func117 rfl rfl fun h0 w0 fr0 => ?_
 refine Jr (Ja rfl (JL_nil (J_seq (Jr (Jm rfl ?_)))))
 refine Js rfl (step_len_sl underlying36 Sr) (Jm rfl (JL_nil (J_block ?_)))
 refine J_loopL (σ := Nat) (fun i => i ≤ l.length ∧ findI p 0 l = findI p i (l.drop i)) (fun i => upd (upd (upd (upd env0 0 (tSl rInt l)) 1 (tClo gi As)) 7 (tV (.int .i64 l.length))) 8 (tV (.int .i64 i))) (fun i => []) (fun i => l.length - i) 0 ⟨by omega, by simp⟩ (zU) (LSub.rfl) ?_
 rintro i ⟨hi, hv⟩
 refine Jr (Js rfl (step_lss Sr Sr) (JL_nil (J_seq ?_)))
 refine J_cond Sr (fun h9 => ?_) (fun h9 => ?_)
 ·
  try simp only [NF] at h9
  have hlt : i < l.length := by omega
  have hd := dropB hlt
  refine J_skip (J_seq (J_block (Jr (Jm rfl (Ja rfl ?_)))))
  refine JL_nil (Jr (Jm rfl (Jm rfl (Jm rfl ?_))))
  refine Js rfl (step_indexAddr_sl  underlying36 ty3 Sr Sr rfl (gb (by first | assumption | omega))) ?_
  refine Jl rfl ty3 Sr (Js rfl (step_callv0 (aT := [_]) Sr (hp _ (nth_mem hlt)) ⟨Sr, trivial⟩ he) (JL_nil ?_))
  refine J_cond Sr (fun h16 => ?_) (fun h16 => ?_)
  ·
   try simp only [NF] at h16
   refine Jr (Jm rfl (Ja rfl (JL_nil (J_ret ?_))))
   refine K_retv (rv := .tmp 4) rfl () (.tmp Sr) (Sub.int ?_)
   rw [hv, hd]; simp only [findI]; rw [if_pos h16]
  try simp only [NF] at h16
  refine J_skip (J_region (Js rfl (step_add Sr Sr z6) (Jm rfl (JL_nil ?_))))
  refine K_againL (σ := Nat) (s := i) (i + 1) zO ?_ (zU) (LSub.rfl)
  refine ⟨by omega, ?_⟩
  rw [hv, hd]; simp only [findI]; rw [if_neg (by simp [h16])]; simp
 try simp only [NF] at h9
 refine J_exit (Jr (Ja rfl (JL_nil (J_ret ?_))))
 refine K_retv (rv := .tmp 4) rfl () (.tmp Sr) (Sub.int ?_)
 rw [hv, List.drop_of_length_le zG]; rfl
theorem ContainsFuncI_spec (l : List Int) (hl : l.length ≤ 1000000000000) (gi : Nat) (As : List Ty) (p : Int → Bool) (hp : ∀ x ∈ l, Fun1 prog gi ([tV (.int .i64 x)] ++ As) (tV (.bool (p x)))) (he : ∀ args w, (callFunc gi args).run prog w = .ok (.enter gi args) w) : Fun1 prog 63 [tSl rInt l, tClo gi As] (tV (.bool (l.any p))) := by
 refine Spec.enter func63 rfl rfl fun h0 w0 fr0 => ?_
 refine Jr (Ja rfl (JL_nil (Jr (Jm rfl (Jm rfl ?_)))))
 refine Js rfl (step_call0 (IndexFuncI_spec l hl gi As p hp he) ⟨Sr, Sr, trivial⟩ call117) (Js rfl (step_geq Sr Sr) (Ja rfl (JL_nil (J_ret ?_))))
 refine K_retv (rv := .tmp 4) rfl () (.tmp Sr) (Sub.bool ?_)
 have hq := (findI_bd p l 0 zG).2.2
 by_cases ha : l.any p = true
 ·
  rw [ha]; simp; exact hq.2 ha
 simp only [Bool.not_eq_true] at ha; rw [ha]; simp; have : ¬ 0 ≤ findI p 0 l := (fun h => by rw [hq.1 h] at ha; cases ha)
 omega
theorem IndexFuncM_spec (l : List Int) (hl : l.length ≤ 1000000000000) (gi : Nat) (As : List Ty) (B : SP) (p : Int → Bool) (hp : ∀ x ∈ l, Spec (X := Unit) prog gi ([tV (.int .i64 x)] ++ As) [B] (fun _ => tV (.bool (p x))) (fun _ => [B])) (he : ∀ args w, (callFunc gi args).run prog w = .ok (.enter gi args) w) : Spec (X := Unit) prog 117 [tSl rInt l, tClo gi As] ([B]) (fun _ => tV (.int .i64 (findI p 0 l))) (fun _ => [B]) := by
 refine Spec.enter func117 rfl rfl fun h0 w0 fr0 => ?_
 refine Jr (Ja rfl (JL_nil (J_seq (Jr (Jm rfl ?_)))))
 refine Js rfl (step_len_sl underlying36 Sr) (Jm rfl (JL_nil (J_block ?_)))
 refine J_loopL (σ := Nat) (fun i => i ≤ l.length ∧ findI p 0 l = findI p i (l.drop i)) (fun i => upd (upd (upd (upd env0 0 (tSl rInt l)) 1 (tClo gi As)) 7 (tV (.int .i64 l.length))) 8 (tV (.int .i64 i))) (fun i => [B]) (fun i => l.length - i) 0 ⟨by omega, by simp⟩ (zU) (LSub.rfl) ?_
 rintro i ⟨hi, hv⟩
 refine Jr (Js rfl (step_lss Sr Sr) (JL_nil (J_seq ?_)))
 refine J_cond Sr (fun h9 => ?_) (fun h9 => ?_)
 ·
  try simp only [NF] at h9
  have hlt : i < l.length := by omega
  have hd := dropB hlt
  refine J_skip (J_seq (J_block (Jr (Jm rfl (Ja rfl ?_)))))
  refine JL_nil (Jr (Jm rfl (Jm rfl (Jm rfl ?_))))
  refine Js rfl (step_indexAddr_sl  underlying36 ty3 Sr Sr rfl (gb (by first | assumption | omega))) ?_
  refine Jl rfl ty3 Sr ?_
  refine Jx rfl (step_callv (aT := [_]) Sr (Sel.all _) (hp _ (nth_mem hlt)) ⟨Sr, trivial⟩ he) fun v16 => ?_
  refine JL_nil ?_
  refine J_cond Sr (fun h16 => ?_) (fun h16 => ?_)
  ·
   try simp only [NF] at h16
   refine Jr (Jm rfl (Ja rfl (JL_nil (J_ret ?_))))
   refine K_retv (rv := .tmp 4) rfl () (.tmp Sr) (Sub.int ?_)
   rw [hv, hd]; simp only [findI]; rw [if_pos h16]
  try simp only [NF] at h16
  refine J_skip (J_region (Js rfl (step_add Sr Sr z6) (Jm rfl (JL_nil ?_))))
  refine K_againL (σ := Nat) (s := i) (i + 1) zO ?_ (zU) (LSub.rfl)
  refine ⟨by omega, ?_⟩
  rw [hv, hd]; simp only [findI]; rw [if_neg (by simp [h16])]; simp
 try simp only [NF] at h9
 refine J_exit (Jr (Ja rfl (JL_nil (J_ret ?_))))
 refine K_retv (rv := .tmp 4) rfl () (.tmp Sr) (Sub.int ?_)
 rw [hv, List.drop_of_length_le zG]; rfl
theorem ContainsFuncM_spec (l : List Int) (hl : l.length ≤ 1000000000000) (gi : Nat) (As : List Ty) (B : SP) (p : Int → Bool) (hp : ∀ x ∈ l, Spec (X := Unit) prog gi ([tV (.int .i64 x)] ++ As) [B] (fun _ => tV (.bool (p x))) (fun _ => [B])) (he : ∀ args w, (callFunc gi args).run prog w = .ok (.enter gi args) w) : Spec (X := Unit) prog 63 [tSl rInt l, tClo gi As] ([B]) (fun _ => tV (.bool (l.any p))) (fun _ => [B]) := by
 refine Spec.enter func63 rfl rfl fun h0 w0 fr0 => ?_
 refine Jr (Ja rfl (JL_nil (Jr (Jm rfl (Jm rfl ?_)))))
 refine Jx rfl (step_call (Sel.all _) (IndexFuncM_spec l hl gi As B p hp he) ⟨Sr, Sr, trivial⟩ call117) fun v7 => ?_
 refine Js rfl (step_geq Sr Sr) (Ja rfl (JL_nil (J_ret ?_)))
 refine K_retv (rv := .tmp 4) rfl () (.tmp Sr) (Sub.bool ?_)
 have hq := (findI_bd p l 0 zG).2.2
 by_cases ha : l.any p = true
 ·
  rw [ha]; simp; exact hq.2 ha
 simp only [Bool.not_eq_true] at ha; rw [ha]; simp; have : ¬ 0 ≤ findI p 0 l := (fun h => by rw [hq.1 h] at ha; cases ha)
 omega
theorem IndexFuncA_spec (l : List GAtom) (hl : l.length ≤ 1000000000000) (gi : Nat) (As : List Ty) (p : GAtom → Bool) (hp : ∀ x ∈ l, Fun1 prog gi ([rAtom.ty x] ++ As) (tV (.bool (p x)))) (he : ∀ args w, (callFunc gi args).run prog w = .ok (.enter gi args) w) : Fun1 prog 101 [tSl rAtom l, tClo gi As] (tV (.int .i64 (findI p 0 l))) := by
 refine Spec.enter func101 rfl rfl fun h0 w0 fr0 => ?_
 refine Jr (Ja rfl (JL_nil (J_seq (Jr (Jm rfl ?_)))))
 refine Js rfl (step_len_sl underlying23 Sr) (Jm rfl (JL_nil (J_block ?_)))
 refine J_loopL (σ := Nat) (fun i => i ≤ l.length ∧ findI p 0 l = findI p i (l.drop i)) (fun i => upd (upd (upd (upd env0 0 (tSl rAtom l)) 1 (tClo gi As)) 7 (tV (.int .i64 l.length))) 8 (tV (.int .i64 i))) (fun i => []) (fun i => l.length - i) 0 ⟨by omega, by simp⟩ (zU) (LSub.rfl) ?_
 rintro i ⟨hi, hv⟩
 refine Jr (Js rfl (step_lss Sr Sr) (JL_nil (J_seq ?_)))
 refine J_cond Sr (fun h9 => ?_) (fun h9 => ?_)
 ·
  try simp only [NF] at h9
  have hlt : i < l.length := by omega
  have hd := dropB hlt
  refine J_skip (J_seq (J_block (Jr (Jm rfl (Ja rfl ?_)))))
  refine JL_nil (Jr (Jm rfl (Jm rfl (Jm rfl ?_))))
  refine Js rfl (step_indexAddr_sl  underlying23 ty38 Sr Sr rfl (gb (by first | assumption | omega))) ?_
  refine Jl rfl ty38 Sr (Js rfl (step_callv0 (aT := [_]) Sr (hp _ (nth_mem hlt)) ⟨Sr, trivial⟩ he) (JL_nil ?_))
  refine J_cond Sr (fun h16 => ?_) (fun h16 => ?_)
  ·
   try simp only [NF] at h16
   refine Jr (Jm rfl (Ja rfl (JL_nil (J_ret ?_))))
   refine K_retv (rv := .tmp 4) rfl () (.tmp Sr) (Sub.int ?_)
   rw [hv, hd]; simp only [findI]; rw [if_pos h16]
  try simp only [NF] at h16
  refine J_skip (J_region (Js rfl (step_add Sr Sr z6) (Jm rfl (JL_nil ?_))))
  refine K_againL (σ := Nat) (s := i) (i + 1) zO ?_ (zU) (LSub.rfl)
  refine ⟨by omega, ?_⟩
  rw [hv, hd]; simp only [findI]; rw [if_neg (by simp [h16])]; simp
 try simp only [NF] at h9
 refine J_exit (Jr (Ja rfl (JL_nil (J_ret ?_))))
 refine K_retv (rv := .tmp 4) rfl () (.tmp Sr) (Sub.int ?_)
 rw [hv, List.drop_of_length_le zG]; rfl
theorem ContainsFuncA_spec (l : List GAtom) (hl : l.length ≤ 1000000000000) (gi : Nat) (As : List Ty) (p : GAtom → Bool) (hp : ∀ x ∈ l, Fun1 prog gi ([rAtom.ty x] ++ As) (tV (.bool (p x)))) (he : ∀ args w, (callFunc gi args).run prog w = .ok (.enter gi args) w) : Fun1 prog 52 [tSl rAtom l, tClo gi As] (tV (.bool (l.any p))) := by
 refine Spec.enter func52 rfl rfl fun h0 w0 fr0 => ?_
 refine Jr (Ja rfl (JL_nil (Jr (Jm rfl (Jm rfl ?_)))))
 refine Js rfl (step_call0 (IndexFuncA_spec l hl gi As p hp he) ⟨Sr, Sr, trivial⟩ call101) (Js rfl (step_geq Sr Sr) (Ja rfl (JL_nil (J_ret ?_))))
 refine K_retv (rv := .tmp 4) rfl () (.tmp Sr) (Sub.bool ?_)
 have hq := (findI_bd p l 0 zG).2.2
 by_cases ha : l.any p = true
 ·
  rw [ha]; simp; exact hq.2 ha
 simp only [Bool.not_eq_true] at ha; rw [ha]; simp; have : ¬ 0 ≤ findI p 0 l := (fun h => by rw [hq.1 h] at ha; cases ha)
 omega
theorem IndexFuncS_spec (l : List ByteArray) (hl : l.length ≤ 1000000000000) (gi : Nat) (As : List Ty) (p : ByteArray → Bool) (hp : ∀ x ∈ l, Fun1 prog gi ([tV (.string x)] ++ As) (tV (.bool (p x)))) (he : ∀ args w, (callFunc gi args).run prog w = .ok (.enter gi args) w) : Fun1 prog 292 [tSl rStr l, tClo gi As] (tV (.int .i64 (findI p 0 l))) := by
 refine Spec.enter func292 rfl rfl fun h0 w0 fr0 => ?_
 refine Jr (Ja rfl (JL_nil (J_seq (Jr (Jm rfl ?_)))))
 refine Js rfl (step_len_sl underlying85 Sr) (Jm rfl (JL_nil (J_block ?_)))
 refine J_loopL (σ := Nat) (fun i => i ≤ l.length ∧ findI p 0 l = findI p i (l.drop i)) (fun i => upd (upd (upd (upd env0 0 (tSl rStr l)) 1 (tClo gi As)) 7 (tV (.int .i64 l.length))) 8 (tV (.int .i64 i))) (fun i => []) (fun i => l.length - i) 0 ⟨by omega, by simp⟩ (zU) (LSub.rfl) ?_
 rintro i ⟨hi, hv⟩
 refine Jr (Js rfl (step_lss Sr Sr) (JL_nil (J_seq ?_)))
 refine J_cond Sr (fun h9 => ?_) (fun h9 => ?_)
 ·
  try simp only [NF] at h9
  have hlt : i < l.length := by omega
  have hd := dropB hlt
  refine J_skip (J_seq (J_block (Jr (Jm rfl (Ja rfl ?_)))))
  refine JL_nil (Jr (Jm rfl (Jm rfl (Jm rfl ?_))))
  refine Js rfl (step_indexAddr_sl  underlying85 ty9 Sr Sr rfl (gb (by first | assumption | omega))) ?_
  refine Jl rfl ty9 Sr (Js rfl (step_callv0 (aT := [_]) Sr (hp _ (nth_mem hlt)) ⟨Sr, trivial⟩ he) (JL_nil ?_))
  refine J_cond Sr (fun h16 => ?_) (fun h16 => ?_)
  ·
   try simp only [NF] at h16
   refine Jr (Jm rfl (Ja rfl (JL_nil (J_ret ?_))))
   refine K_retv (rv := .tmp 4) rfl () (.tmp Sr) (Sub.int ?_)
   rw [hv, hd]; simp only [findI]; rw [if_pos h16]
  try simp only [NF] at h16
  refine J_skip (J_region (Js rfl (step_add Sr Sr z6) (Jm rfl (JL_nil ?_))))
  refine K_againL (σ := Nat) (s := i) (i + 1) zO ?_ (zU) (LSub.rfl)
  refine ⟨by omega, ?_⟩
  rw [hv, hd]; simp only [findI]; rw [if_neg (by simp [h16])]; simp
 try simp only [NF] at h9
 refine J_exit (Jr (Ja rfl (JL_nil (J_ret ?_))))
 refine K_retv (rv := .tmp 4) rfl () (.tmp Sr) (Sub.int ?_)
 rw [hv, List.drop_of_length_le zG]; rfl
theorem ContainsFuncS_spec (l : List ByteArray) (hl : l.length ≤ 1000000000000) (gi : Nat) (As : List Ty) (p : ByteArray → Bool) (hp : ∀ x ∈ l, Fun1 prog gi ([tV (.string x)] ++ As) (tV (.bool (p x)))) (he : ∀ args w, (callFunc gi args).run prog w = .ok (.enter gi args) w) : Fun1 prog 236 [tSl rStr l, tClo gi As] (tV (.bool (l.any p))) := by
 refine Spec.enter func236 rfl rfl fun h0 w0 fr0 => ?_
 refine Jr (Ja rfl (JL_nil (Jr (Jm rfl (Jm rfl ?_)))))
 refine Js rfl (step_call0 (IndexFuncS_spec l hl gi As p hp he) ⟨Sr, Sr, trivial⟩ call292) (Js rfl (step_geq Sr Sr) (Ja rfl (JL_nil (J_ret ?_))))
 refine K_retv (rv := .tmp 4) rfl () (.tmp Sr) (Sub.bool ?_)
 have hq := (findI_bd p l 0 zG).2.2
 by_cases ha : l.any p = true
 ·
  rw [ha]; simp; exact hq.2 ha
 simp only [Bool.not_eq_true] at ha; rw [ha]; simp; have : ¬ 0 ≤ findI p 0 l := (fun h => by rw [hq.1 h] at ha; cases ha)
 omega
theorem IndexFuncT_spec (l : List GTest) (hl : l.length ≤ 1000000000000) (gi : Nat) (As : List Ty) (p : GTest → Bool) (hp : ∀ x ∈ l, Fun1 prog gi ([rTest.ty x] ++ As) (tV (.bool (p x)))) (he : ∀ args w, (callFunc gi args).run prog w = .ok (.enter gi args) w) : Fun1 prog 297 [tSl rTest l, tClo gi As] (tV (.int .i64 (findI p 0 l))) := by
 refine Spec.enter func297 rfl rfl fun h0 w0 fr0 => ?_
 refine Jr (Ja rfl (JL_nil (J_seq (Jr (Jm rfl ?_)))))
 refine Js rfl (step_len_sl underlying43 Sr) (Jm rfl (JL_nil (J_block ?_)))
 refine J_loopL (σ := Nat) (fun i => i ≤ l.length ∧ findI p 0 l = findI p i (l.drop i)) (fun i => upd (upd (upd (upd env0 0 (tSl rTest l)) 1 (tClo gi As)) 7 (tV (.int .i64 l.length))) 8 (tV (.int .i64 i))) (fun i => []) (fun i => l.length - i) 0 ⟨by omega, by simp⟩ (zU) (LSub.rfl) ?_
 rintro i ⟨hi, hv⟩
 refine Jr (Js rfl (step_lss Sr Sr) (JL_nil (J_seq ?_)))
 refine J_cond Sr (fun h9 => ?_) (fun h9 => ?_)
 ·
  try simp only [NF] at h9
  have hlt : i < l.length := by omega
  have hd := dropB hlt
  refine J_skip (J_seq (J_block (Jr (Jm rfl (Ja rfl ?_)))))
  refine JL_nil (Jr (Jm rfl (Jm rfl (Jm rfl ?_))))
  refine Js rfl (step_indexAddr_sl  underlying43 ty93 Sr Sr rfl (gb (by first | assumption | omega))) ?_
  refine Jl rfl ty93 Sr (Js rfl (step_callv0 (aT := [_]) Sr (hp _ (nth_mem hlt)) ⟨Sr, trivial⟩ he) (JL_nil ?_))
  refine J_cond Sr (fun h16 => ?_) (fun h16 => ?_)
  ·
   try simp only [NF] at h16
   refine Jr (Jm rfl (Ja rfl (JL_nil (J_ret ?_))))
   refine K_retv (rv := .tmp 4) rfl () (.tmp Sr) (Sub.int ?_)
   rw [hv, hd]; simp only [findI]; rw [if_pos h16]
  try simp only [NF] at h16
  refine J_skip (J_region (Js rfl (step_add Sr Sr z6) (Jm rfl (JL_nil ?_))))
  refine K_againL (σ := Nat) (s := i) (i + 1) zO ?_ (zU) (LSub.rfl)
  refine ⟨by omega, ?_⟩
  rw [hv, hd]; simp only [findI]; rw [if_neg (by simp [h16])]; simp
 try simp only [NF] at h9
 refine J_exit (Jr (Ja rfl (JL_nil (J_ret ?_))))
 refine K_retv (rv := .tmp 4) rfl () (.tmp Sr) (Sub.int ?_)
 rw [hv, List.drop_of_length_le zG]; rfl
theorem ContainsFuncT_spec (l : List GTest) (hl : l.length ≤ 1000000000000) (gi : Nat) (As : List Ty) (p : GTest → Bool) (hp : ∀ x ∈ l, Fun1 prog gi ([rTest.ty x] ++ As) (tV (.bool (p x)))) (he : ∀ args w, (callFunc gi args).run prog w = .ok (.enter gi args) w) : Fun1 prog 246 [tSl rTest l, tClo gi As] (tV (.bool (l.any p))) := by
 refine Spec.enter func246 rfl rfl fun h0 w0 fr0 => ?_
 refine Jr (Ja rfl (JL_nil (Jr (Jm rfl (Jm rfl ?_)))))
 refine Js rfl (step_call0 (IndexFuncT_spec l hl gi As p hp he) ⟨Sr, Sr, trivial⟩ call297) (Js rfl (step_geq Sr Sr) (Ja rfl (JL_nil (J_ret ?_))))
 refine K_retv (rv := .tmp 4) rfl () (.tmp Sr) (Sub.bool ?_)
 have hq := (findI_bd p l 0 zG).2.2
 by_cases ha : l.any p = true
 ·
  rw [ha]; simp; exact hq.2 ha
 simp only [Bool.not_eq_true] at ha; rw [ha]; simp; have : ¬ 0 ≤ findI p 0 l := (fun h => by rw [hq.1 h] at ha; cases ha)
 omega
theorem IndexFuncAttr_spec (l : List GAttr) (hl : l.length ≤ 1000000000000) (gi : Nat) (As : List Ty) (p : GAttr → Bool) (hp : ∀ x ∈ l, Fun1 prog gi ([rAttr.ty x] ++ As) (tV (.bool (p x)))) (he : ∀ args w, (callFunc gi args).run prog w = .ok (.enter gi args) w) : Fun1 prog 114 [tSl rAttr l, tClo gi As] (tV (.int .i64 (findI p 0 l))) := by
 refine Spec.enter func114 rfl rfl fun h0 w0 fr0 => ?_
 refine Jr (Ja rfl (JL_nil (J_seq (Jr (Jm rfl ?_)))))
 refine Js rfl (step_len_sl underlying44 Sr) (Jm rfl (JL_nil (J_block ?_)))
 refine J_loopL (σ := Nat) (fun i => i ≤ l.length ∧ findI p 0 l = findI p i (l.drop i)) (fun i => upd (upd (upd (upd env0 0 (tSl rAttr l)) 1 (tClo gi As)) 7 (tV (.int .i64 l.length))) 8 (tV (.int .i64 i))) (fun i => []) (fun i => l.length - i) 0 ⟨by omega, by simp⟩ (zU) (LSub.rfl) ?_
 rintro i ⟨hi, hv⟩
 refine Jr (Js rfl (step_lss Sr Sr) (JL_nil (J_seq ?_)))
 refine J_cond Sr (fun h9 => ?_) (fun h9 => ?_)
 ·
  try simp only [NF] at h9
  have hlt : i < l.length := by omega
  have hd := dropB hlt
  refine J_skip (J_seq (J_block (Jr (Jm rfl (Ja rfl ?_)))))
  refine JL_nil (Jr (Jm rfl (Jm rfl (Jm rfl ?_))))
  refine Js rfl (step_indexAddr_sl  underlying44 ty89 Sr Sr rfl (gb (by first | assumption | omega))) ?_
  refine Jl rfl ty89 Sr (Js rfl (step_callv0 (aT := [_]) Sr (hp _ (nth_mem hlt)) ⟨Sr, trivial⟩ he) (JL_nil ?_))
  refine J_cond Sr (fun h16 => ?_) (fun h16 => ?_)
  ·
   try simp only [NF] at h16
   refine Jr (Jm rfl (Ja rfl (JL_nil (J_ret ?_))))
   refine K_retv (rv := .tmp 4) rfl () (.tmp Sr) (Sub.int ?_)
   rw [hv, hd]; simp only [findI]; rw [if_pos h16]
  try simp only [NF] at h16
  refine J_skip (J_region (Js rfl (step_add Sr Sr z6) (Jm rfl (JL_nil ?_))))
  refine K_againL (σ := Nat) (s := i) (i + 1) zO ?_ (zU) (LSub.rfl)
  refine ⟨by omega, ?_⟩
  rw [hv, hd]; simp only [findI]; rw [if_neg (by simp [h16])]; simp
 try simp only [NF] at h9
 refine J_exit (Jr (Ja rfl (JL_nil (J_ret ?_))))
 refine K_retv (rv := .tmp 4) rfl () (.tmp Sr) (Sub.int ?_)
 rw [hv, List.drop_of_length_le zG]; rfl
theorem IndexFuncTab_spec (l : List GTable) (hl : l.length ≤ 1000000000000) (gi : Nat) (As : List Ty) (p : GTable → Bool) (hp : ∀ x ∈ l, Fun1 prog gi ([rTable.ty x] ++ As) (tV (.bool (p x)))) (he : ∀ args w, (callFunc gi args).run prog w = .ok (.enter gi args) w) : Fun1 prog 240 [tSl rTable l, tClo gi As] (tV (.int .i64 (findI p 0 l))) := by
 refine Spec.enter func240 rfl rfl fun h0 w0 fr0 => ?_
 refine Jr (Ja rfl (JL_nil (J_seq (Jr (Jm rfl ?_)))))
 refine Js rfl (step_len_sl underlying39 Sr) (Jm rfl (JL_nil (J_block ?_)))
 refine J_loopL (σ := Nat) (fun i => i ≤ l.length ∧ findI p 0 l = findI p i (l.drop i)) (fun i => upd (upd (upd (upd env0 0 (tSl rTable l)) 1 (tClo gi As)) 7 (tV (.int .i64 l.length))) 8 (tV (.int .i64 i))) (fun i => []) (fun i => l.length - i) 0 ⟨by omega, by simp⟩ (zU) (LSub.rfl) ?_
 rintro i ⟨hi, hv⟩
 refine Jr (Js rfl (step_lss Sr Sr) (JL_nil (J_seq ?_)))
 refine J_cond Sr (fun h9 => ?_) (fun h9 => ?_)
 ·
  try simp only [NF] at h9
  have hlt : i < l.length := by omega
  have hd := dropB hlt
  refine J_skip (J_seq (J_block (Jr (Jm rfl (Ja rfl ?_)))))
  refine JL_nil (Jr (Jm rfl (Jm rfl (Jm rfl ?_))))
  refine Js rfl (step_indexAddr_sl  underlying39 ty76 Sr Sr rfl (gb (by first | assumption | omega))) ?_
  refine Jl rfl ty76 Sr (Js rfl (step_callv0 (aT := [_]) Sr (hp _ (nth_mem hlt)) ⟨Sr, trivial⟩ he) (JL_nil ?_))
  refine J_cond Sr (fun h16 => ?_) (fun h16 => ?_)
  ·
   try simp only [NF] at h16
   refine Jr (Jm rfl (Ja rfl (JL_nil (J_ret ?_))))
   refine K_retv (rv := .tmp 4) rfl () (.tmp Sr) (Sub.int ?_)
   rw [hv, hd]; simp only [findI]; rw [if_pos h16]
  try simp only [NF] at h16
  refine J_skip (J_region (Js rfl (step_add Sr Sr z6) (Jm rfl (JL_nil ?_))))
  refine K_againL (σ := Nat) (s := i) (i + 1) zO ?_ (zU) (LSub.rfl)
  refine ⟨by omega, ?_⟩
  rw [hv, hd]; simp only [findI]; rw [if_neg (by simp [h16])]; simp
 try simp only [NF] at h9
 refine J_exit (Jr (Ja rfl (JL_nil (J_ret ?_))))
 refine K_retv (rv := .tmp 4) rfl () (.tmp Sr) (Sub.int ?_)
 rw [hv, List.drop_of_length_le zG]; rfl
theorem IndexI_spec (l : List Int) (v : Int) (hl : l.length ≤ 1000000000000) : Fun1 prog 102 [tSl rInt l, tV (.int .i64 v)] (tV (.int .i64 (findI (fun x => decide (v = x)) 0 l))) := by
 refine Spec.enter func102 rfl rfl fun h0 w0 fr0 => ?_
 refine Jr (Ja rfl (JL_nil (J_seq (Jr (Jm rfl ?_)))))
 refine Js rfl (step_len_sl underlying36 Sr) (Jm rfl (JL_nil (J_block ?_)))
 refine J_loopL (σ := Nat) (fun i => i ≤ l.length ∧ findI (fun x => decide (v = x)) 0 l = findI (fun x => decide (v = x)) i (l.drop i)) (fun i => upd (upd (upd (upd env0 0 (tSl rInt l)) 1 (tV (.int .i64 v))) 7 (tV (.int .i64 l.length))) 8 (tV (.int .i64 i))) (fun i => []) (fun i => l.length - i) 0 ⟨by omega, by simp⟩ (zU) (LSub.rfl) ?_
 rintro i ⟨hi, hv⟩
 refine Jr (Js rfl (step_lss Sr Sr) (JL_nil (J_seq ?_)))
 refine J_cond Sr (fun h9 => ?_) (fun h9 => ?_)
 ·
  try simp only [NF] at h9
  have hlt : i < l.length := by omega
  have hd := dropB hlt
  refine J_skip (J_seq (J_block (Jr (Jm rfl (Ja rfl ?_)))))
  refine JL_nil (Jr (Jm rfl (Jm rfl (Jm rfl ?_))))
  refine Js rfl (step_indexAddr_sl  underlying36 ty3 Sr Sr rfl (gb (by first | assumption | omega))) ?_
  refine Jl rfl ty3 Sr (Js rfl (step_eql Sr Sr) (JL_nil ?_))
  refine J_cond Sr (fun h16 => ?_) (fun h16 => ?_)
  ·
   try simp only [NF] at h16
   have he : v = nth l i := by first | exact h16 | simpa using h16
   refine Jr (Jm rfl (Ja rfl (JL_nil (J_ret ?_))))
   refine K_ret1' (rv := .tmp 4) rfl () (Sel.all _) (.tmp Sr) (Frz.sub (Sub.int ?_))
   rw [hv, hd]; simp [findI, he]
  try simp only [NF] at h16
  have hne : ¬ v = nth l i := by first | exact h16 | simpa using h16
  refine J_skip (J_region (Js rfl (step_add Sr Sr z6) (Jm rfl (JL_nil ?_))))
  refine K_againL (σ := Nat) (s := i) (i + 1) zO ?_ (zU) (LSub.rfl)
  refine ⟨by omega, ?_⟩
  rw [hv, hd]; simp [findI, hne]
 try simp only [NF] at h9
 refine J_exit (Jr (Ja rfl (JL_nil (J_ret ?_))))
 refine K_ret1' (rv := .tmp 4) rfl () (Sel.all _) (.tmp Sr) (Frz.sub (Sub.int ?_))
 rw [hv, List.drop_of_length_le zG]; rfl
theorem ContainsI_spec (l : List Int) (v : Int) (hl : l.length ≤ 1000000000000) : Fun1 prog 54 [tSl rInt l, tV (.int .i64 v)] (tV (.bool (l.any fun x => decide (v = x)))) := by
 refine Spec.enter func54 rfl rfl fun h0 w0 fr0 => ?_
 refine Jr (Ja rfl (JL_nil (Jr (Jm rfl (Jm rfl ?_)))))
 refine Js rfl (step_call0 (IndexI_spec _ _ hl) ⟨Sr, Sr, trivial⟩ call102) (Js rfl (step_geq Sr Sr) (Ja rfl (JL_nil (J_ret ?_))))
 refine K_ret1' (rv := .tmp 4) rfl () (Sel.all _) (.tmp Sr) (Frz.sub (Sub.bool ?_))
 rw [Bool.eq_iff_iff, decide_eq_true_eq]; exact (findI_bd _ l 0 zG).2.2
theorem IndexV_spec (l : List GValue) (v : GValue) (hl : l.length ≤ 1000000000000) : Fun1 prog 100 [tSl rValue l, rValue.ty v] (tV (.int .i64 (findI (fun x => decide (v = x)) 0 l))) := by
 refine Spec.enter func100 rfl rfl fun h0 w0 fr0 => ?_
 refine Jr (Js rfl (step_box (R := rValue) Sr) (Ja rfl (JL_nil (J_seq (Jr ?_)))))
 refine Jm rfl (Js rfl (step_len_sl underlying22 Sr) (Jm rfl (JL_nil (J_block ?_))))
 refine J_loopL (σ := Nat) (fun i => i ≤ l.length ∧ findI (fun x => decide (v = x)) 0 l = findI (fun x => decide (v = x)) i (l.drop i)) (fun i => upd (upd (upd (upd env0 0 (tSl rValue l)) 3 (tPtr rValue v)) 7 (tV (.int .i64 l.length))) 8 (tV (.int .i64 i))) (fun i => []) (fun i => l.length - i) 0 ⟨by omega, by simp⟩ (zU) (LSub.rfl) ?_
 rintro i ⟨hi, hv⟩
 refine Jr (Js rfl (step_lss Sr Sr) (JL_nil (J_seq ?_)))
 refine J_cond Sr (fun h9 => ?_) (fun h9 => ?_)
 ·
  try simp only [NF] at h9
  have hlt : i < l.length := by omega
  have hd := dropB hlt
  refine J_skip (J_seq (J_block (Jr (Jm rfl (Ja rfl ?_)))))
  refine JL_nil (J_seq ?_)
  refine J_draw [⟨0, [3], true⟩, ⟨1, [0], true⟩, ⟨2, [5], true⟩, ⟨3, [12, 13], true⟩, ⟨4, [14], true⟩, ⟨5, [11, 15], true⟩] rfl (by kernel_rfl) ?_
  refine Mf rfl rfl (step_load_ptr ty87 Sr) (Mv rfl rfl (Mv rfl rfl ?_))
  refine Mf rfl rfl (step_indexAddr_sl  underlying22 ty87 Sr Sr rfl (gb (by first | assumption | omega))) ?_
  refine Mf rfl rfl (step_load_ptr ty87 Sr) (Mf rfl rfl (step_eql_val Sr Sr) (JM_nil ?_))
  refine J_cond Sr (fun h16 => ?_) (fun h16 => ?_)
  ·
   try simp only [NF] at h16
   have he : v = nth l i := by first | exact h16 | simpa using h16
   refine Jr (Jm rfl (Ja rfl (JL_nil (J_ret ?_))))
   refine K_ret1' (rv := .tmp 4) rfl () (Sel.all _) (.tmp Sr) (Frz.sub (Sub.int ?_))
   rw [hv, hd]; simp [findI, he]
  try simp only [NF] at h16
  have hne : ¬ v = nth l i := by first | exact h16 | simpa using h16
  refine J_skip (J_region (Js rfl (step_add Sr Sr z6) (Jm rfl (JL_nil ?_))))
  refine K_againL (σ := Nat) (s := i) (i + 1) zO ?_ (zU) (LSub.rfl)
  refine ⟨by omega, ?_⟩
  rw [hv, hd]; simp [findI, hne]
 try simp only [NF] at h9
 refine J_exit (Jr (Ja rfl (JL_nil (J_ret ?_))))
 refine K_ret1' (rv := .tmp 4) rfl () (Sel.all _) (.tmp Sr) (Frz.sub (Sub.int ?_))
 rw [hv, List.drop_of_length_le zG]; rfl
theorem ContainsV_spec (l : List GValue) (v : GValue) (hl : l.length ≤ 1000000000000) : Fun1 prog 51 [tSl rValue l, rValue.ty v] (tV (.bool (l.any fun x => decide (v = x)))) := by
 refine Spec.enter func51 rfl rfl fun h0 w0 fr0 => ?_
 refine Jr (Js rfl (step_box (R := rValue) Sr) (Ja rfl (JL_nil (Jr (Jm rfl ?_)))))
 refine Jl rfl ty87 Sr (Js rfl (step_call0 (IndexV_spec _ _ hl) ⟨Sr, Sr, trivial⟩ call100) (Js rfl (step_geq Sr Sr) (Ja rfl (JL_nil (J_ret ?_)))))
 refine K_ret1' (rv := .tmp 4) rfl () (Sel.all _) (.tmp Sr) (Frz.sub (Sub.bool ?_))
 rw [Bool.eq_iff_iff, decide_eq_true_eq]; exact (findI_bd _ l 0 zG).2.2
theorem IndexS_spec (l : List ByteArray) (v : ByteArray) (hl : l.length ≤ 1000000000000) : Fun1 prog 324 [tSl rStr l, tV (.string v)] (tV (.int .i64 (findI (fun x => decide (v = x)) 0 l))) := by
 refine Spec.enter func324 rfl rfl fun h0 w0 fr0 => ?_
 refine Jr (Ja rfl (JL_nil (J_seq (Jr (Jm rfl ?_)))))
 refine Js rfl (step_len_sl underlying85 Sr) (Jm rfl (JL_nil (J_block ?_)))
 refine J_loopL (σ := Nat) (fun i => i ≤ l.length ∧ findI (fun x => decide (v = x)) 0 l = findI (fun x => decide (v = x)) i (l.drop i)) (fun i => upd (upd (upd (upd env0 0 (tSl rStr l)) 1 (tV (.string v))) 7 (tV (.int .i64 l.length))) 8 (tV (.int .i64 i))) (fun i => []) (fun i => l.length - i) 0 ⟨by omega, by simp⟩ (zU) (LSub.rfl) ?_
 rintro i ⟨hi, hv⟩
 refine Jr (Js rfl (step_lss Sr Sr) (JL_nil (J_seq ?_)))
 refine J_cond Sr (fun h9 => ?_) (fun h9 => ?_)
 ·
  try simp only [NF] at h9
  have hlt : i < l.length := by omega
  have hd := dropB hlt
  refine J_skip (J_seq (J_block (Jr (Jm rfl (Ja rfl ?_)))))
  refine JL_nil (Jr (Jm rfl (Jm rfl (Jm rfl ?_))))
  refine Js rfl (step_indexAddr_sl  underlying85 ty9 Sr Sr rfl (gb (by first | assumption | omega))) ?_
  refine Jl rfl ty9 Sr (Js rfl (step_eql_str Sr Sr) (JL_nil ?_))
  refine J_cond Sr (fun h16 => ?_) (fun h16 => ?_)
  ·
   try simp only [NF] at h16
   have he : v = nth l i := by first | exact h16 | simpa using h16
   refine Jr (Jm rfl (Ja rfl (JL_nil (J_ret ?_))))
   refine K_ret1' (rv := .tmp 4) rfl () (Sel.all _) (.tmp Sr) (Frz.sub (Sub.int ?_))
   rw [hv, hd]; simp [findI, he]
  try simp only [NF] at h16
  have hne : ¬ v = nth l i := by first | exact h16 | simpa using h16
  refine J_skip (J_region (Js rfl (step_add Sr Sr z6) (Jm rfl (JL_nil ?_))))
  refine K_againL (σ := Nat) (s := i) (i + 1) zO ?_ (zU) (LSub.rfl)
  refine ⟨by omega, ?_⟩
  rw [hv, hd]; simp [findI, hne]
 try simp only [NF] at h9
 refine J_exit (Jr (Ja rfl (JL_nil (J_ret ?_))))
 refine K_ret1' (rv := .tmp 4) rfl () (Sel.all _) (.tmp Sr) (Frz.sub (Sub.int ?_))
 rw [hv, List.drop_of_length_le zG]; rfl
theorem ContainsS_spec (l : List ByteArray) (v : ByteArray) (hl : l.length ≤ 1000000000000) : Fun1 prog 296 [tSl rStr l, tV (.string v)] (tV (.bool (l.any fun x => decide (v = x)))) := by
 refine Spec.enter func296 rfl rfl fun h0 w0 fr0 => ?_
 refine Jr (Ja rfl (JL_nil (Jr (Jm rfl (Jm rfl ?_)))))
 refine Js rfl (step_call0 (IndexS_spec _ _ hl) ⟨Sr, Sr, trivial⟩ call324) (Js rfl (step_geq Sr Sr) (Ja rfl (JL_nil (J_ret ?_))))
 refine K_ret1' (rv := .tmp 4) rfl () (Sel.all _) (.tmp Sr) (Frz.sub (Sub.bool ?_))
 rw [Bool.eq_iff_iff, decide_eq_true_eq]; exact (findI_bd _ l 0 zG).2.2
open Go Go.Proofs Go.Proofs.Tryz
section
variable {C : Cx} {E : Env} {L : List SP} {d : Option Nat} {ty : Nat} {pos : String} {af : Array Edge} {g : Option (Nat × Bool)}
theorem step_neg {T : Nat} {x : Operand} {a : Int} (hx : Sub (opTy E x) (tV (.int .i64 a))) (hr : in64 (-a)) : Step1 C ⟨d, .unOp .neg T x, ty, pos, af, g⟩ E L (tV (.int .i64 (-a))) :=
  Step.of_same (by intro c h; cases h) fun ac w h hw f => ⟨.int .i64 (-a), by
    have h1 : ac.eval x = .int .i64 a := f.get hx
    have e : (0 : Int) - a = -a := by omega
    have hr2 : in64 (0 - a) := by rw [e]; exact hr
    simp [execOp, h1, Op.unary, Sem.run_bind, Op.intArith, wrap64_in hr, e], rfl⟩
end
theorem rall_t {n : Nat} {f : Nat → Bool} (h : ∀ k, k < n → f k = true) : (List.range n).all f = true := by
  rw [List.all_eq_true]; intro x hx; exact h x (List.mem_range.1 hx)
theorem rall_f {n i : Nat} {f : Nat → Bool} (hi : i < n) (h : f i = false) : (List.range n).all f = false := by
  rw [List.all_eq_false]; exact ⟨i, List.mem_range.2 hi, by simp [h]⟩
theorem rall_iff {n : Nat} {f : Nat → Bool} : (List.range n).all f = true ↔ ∀ k, k < n → f k = true := by
  rw [List.all_eq_true]; exact ⟨fun h k hk => h k (List.mem_range.2 hk), fun h x hx => h x (List.mem_range.1 hx)⟩
def okC (q : GConj) (i : Nat) : Bool := validV (nth q.Consts i) && !decide ((nth q.Consts i).Kind = 0) && !(q.Consts.take i).any fun x => decide (nth q.Consts i = x)
def okK (q : GConj) (a : GAtom) (k : Nat) : Bool := decide (0 ≤ nth a.Cols k) && !((a.Cols.take k).any fun x => decide (nth a.Cols k = x)) && decide (nth a.Terms k < q.Vars) && decide (-(q.Consts.length : Int) ≤ nth a.Terms k)
def okA (q : GConj) (i : Nat) : Bool := decide (0 ≤ (nth q.Atoms i).Table) && !((q.Atoms.take i).any fun x => decide (x.Table = (nth q.Atoms i).Table)) &&
  decide (1 ≤ (nth q.Atoms i).Cols.length ∧ (nth q.Atoms i).Cols.length ≤ 12 ∧ (nth q.Atoms i).Terms.length = (nth q.Atoms i).Cols.length ∧ 1 ≤ (nth q.Atoms i).Key ∧ (nth q.Atoms i).Key ≤ (nth q.Atoms i).Cols.length) &&
  (List.range (nth q.Atoms i).Cols.length).all (okK q (nth q.Atoms i))
def validQ (q : GConj) : Bool := decide (0 ≤ q.Vars ∧ q.Vars ≤ 240 ∧ q.Consts.length ≤ 240 ∧ q.Atoms.length ≤ 20) && (List.range q.Consts.length).all (okC q) && (List.range q.Atoms.length).all (okA q)
theorem atomTab_spec (x y : GAtom) : Fun1 prog 53 [rAtom.ty x, tPtr rAtom y] (tV (.bool (decide (x.Table = y.Table)))) := by
 refine Spec.enter func53 rfl rfl fun h0 w0 fr0 => ?_
 refine Jr (Js rfl (step_box (R := rAtom) Sr) (Ja rfl (JL_nil (Jr (Js rfl (step_fieldAddr so38 Sr rfl) ?_)))))
 refine Jl rfl ty3 Sr (Js rfl (step_fieldAddr so38 Sr rfl) (Jl rfl ty3 Sr (Js rfl (step_eql Sr Sr) (Ja rfl (JL_nil ?_)))))
 refine J_ret ?_
 exact K_ret1 (t := 3) rfl () Sr
set_option maxHeartbeats 2000000 in
theorem attackValid_spec (q : GConj) : Fun1 prog 16 [rConj.ty q] (tV (.bool (validQ q))) := by
 refine Spec.enter func16 rfl rfl fun h0 w0 fr0 => ?_
 refine Jr (Js rfl (step_box (R := rConj) Sr) (Ja rfl (JL_nil (J_seq (Jr ?_)))))
 refine Js rfl (step_fieldAddr so25 Sr rfl) (Jl rfl ty3 Sr (Js rfl (step_lss Sr Sr) (Jm rfl ?_)))
 refine Jk rfl Sr rfl (step_fieldAddr so25 Sr rfl) ?_
 refine Jg rfl Sr rfl (fun hw => step_load_ptr ty3 (Sub.w hw)) (Jg rfl Sr rfl (fun hw => step_gtr (Sub.w hw) Sr) (Js rfl (step_pick_or Sr Sr) (Jm rfl ?_)))
 refine Jk rfl Sr rfl (step_fieldAddr so25 Sr rfl) ?_
 refine Jg rfl Sr rfl (fun hw => step_load_ptr ty22 (Sub.w hw)) (Jg rfl Sr rfl (fun hw => step_len_sl underlying22 (Sub.w hw)) (Jg rfl Sr rfl (fun hw => step_gtr (Sub.w hw) Sr) (Js rfl (step_pick_or Sr Sr) (Jm rfl ?_))))
 refine Jk rfl Sr rfl (step_fieldAddr so25 Sr rfl) ?_
 refine Jg rfl Sr rfl (fun hw => step_load_ptr ty23 (Sub.w hw)) (Jg rfl Sr rfl (fun hw => step_len_sl underlying23 (Sub.w hw)) (Jg rfl Sr rfl (fun hw => step_gtr (Sub.w hw) Sr) (Js rfl (step_pick_or Sr Sr) (JL_nil ?_))))
 refine J_cond Sr (fun h28 => ?_) (fun h28 => ?_)
 ·
  try simp only [NF] at h28
  refine Jr (Ja rfl (JL_nil (J_ret ?_)))
  refine K_ret1 (t := 2) rfl () ?_
  refine Sub.bool ?_
  have : ¬ (0 ≤ q.Vars ∧ q.Vars ≤ 240 ∧ q.Consts.length ≤ 240 ∧ q.Atoms.length ≤ 20) := by omega
  simp [validQ, this]
 try simp only [NF] at h28
 have hb : 0 ≤ q.Vars ∧ q.Vars ≤ 240 ∧ q.Consts.length ≤ 240 ∧ q.Atoms.length ≤ 20 := by omega
 refine J_skip (J_seq (Jr (Js rfl (step_fieldAddr so25 Sr rfl) (Jl rfl ty22 Sr (Js rfl (step_len_sl underlying22 Sr) ?_)))))
 refine Jm rfl (JL_nil (J_block ?_))
 refine J_loopL (σ := Nat) (fun i => i ≤ q.Consts.length ∧ ∀ k, k < i → okC q k = true) (fun i => upd (upd (upd (upd env0 1 (tPtr rConj q)) 30 (tSl rValue q.Consts)) 31 (tV (.int .i64 q.Consts.length))) 32 (tV (.int .i64 i))) (fun i => []) (fun i => q.Consts.length - i) 0 ⟨by omega, fun k hk => by omega⟩ (zU) (LSub.rfl) ?_
 rintro i ⟨hi, hv⟩
 refine Jr (Js rfl (step_lss Sr Sr) (JL_nil (J_seq ?_)))
 refine J_cond Sr (fun h33 => ?_) (fun h33 => ?_)
 ·
  try simp only [NF] at h33
  have hlt : i < q.Consts.length := by omega
  refine J_skip (J_seq (J_block (Jr (Jm rfl ?_))))
  refine Js rfl (step_indexAddr_sl  underlying22 ty87 Sr Sr rfl (gb (by exact hlt))) ?_
  refine Jl rfl ty87 Sr ?_
  refine Jx rfl (step_alloc (fun w => zeroValue87 w) zr87) fun v4 => ?_
  refine Ja rfl ?_
  refine Ju (step_store_box ty87 Sr Sr zS) fun _ => ?_
  refine JL_freeze (t := 4) (Sel.take (Sel.none _)) Frz.box ?_
  refine JL_nil (J_seq ?_)
  refine J_draw [⟨0, [4], true⟩, ⟨1, [37], true⟩, ⟨2, [38], true⟩, ⟨3, [39], true⟩, ⟨4, [4, 40], true⟩, ⟨5, [40, 41], true⟩, ⟨6, [40, 42], true⟩, ⟨7, [40, 43], true⟩, ⟨8, [44], true⟩, ⟨9, [1, 45], true⟩, ⟨10, [45, 46], true⟩, ⟨11, [3, 45], true⟩, ⟨12, [45, 47, 48], true⟩, ⟨13, [4, 45], true⟩, ⟨14, [45, 49, 50], true⟩, ⟨15, [45, 51], true⟩] rfl (by kernel_rfl) ?_
  refine Mf rfl rfl (step_load_ptr ty87 Sr) (Mf rfl rfl (step_call0 (Valid_spec _) ⟨Sr, trivial⟩ call50) (Mf rfl rfl (step_not Sr) (Mv rfl rfl ?_)))
  refine Mk rfl rfl Sr rfl (step_fieldAddr so87 Sr rfl) ?_
  refine Mg rfl rfl Sr rfl (fun hw => step_load_ptr ty3 (Sub.w hw)) (Mg rfl rfl Sr rfl (fun hw => step_eql (Sub.w hw) Sr) (Mf rfl rfl (step_pick_or Sr Sr) (Mv rfl rfl ?_)))
  refine Mk rfl rfl Sr rfl (step_fieldAddr so25 Sr rfl) ?_
  refine Mg rfl rfl Sr rfl (fun hw => step_load_ptr ty22 (Sub.w hw)) ?_
  refine Mk rfl rfl Sr rfl (step_move Sr) ?_
  refine Mg rfl rfl Sr rfl (fun hw => step_slice_toI (n := i) underlying22 ty87 (Sub.w hw) (Sub.w hw) (by have hwq := hw; (try simp only [beqB_t, beqB_f, NF] at hwq); omega) (by have hwq := hw; (try simp only [beqB_t, beqB_f, NF] at hwq); first | assumption | omega)) ?_
  refine Mk rfl rfl Sr rfl (step_load_ptr ty87 Sr) ?_
  refine Mg rfl rfl Sr rfl (fun hw => step_call0 (ContainsV_spec _ _ (by rw [List.length_take]; omega)) ⟨(Sub.w hw), (Sub.w hw), trivial⟩ call51) ?_
  refine Mf rfl rfl (step_pick_or Sr Sr) (JM_nil ?_)
  refine J_cond Sr (fun h52 => ?_) (fun h52 => ?_)
  ·
   try simp only [NF] at h52
   refine Jr (Ja rfl (JL_nil (J_ret ?_)))
   refine K_ret1 (t := 2) rfl () ?_
   refine Sub.bool ?_
   have : okC q i = false := by rcases h52 with (h | h) | h <;> simp only [okC, h] <;> simp
   simp only [validQ, rall_f hlt this]; simp
  try simp only [NF] at h52
  refine J_skip (J_region (Js rfl (step_add Sr Sr z6) (Jm rfl (JL_nil ?_))))
  refine K_againL (σ := Nat) (s := i) (i + 1) zO ?_ (zU) (LSub.rfl)
  refine ⟨by omega, fun k hk => ?_⟩
  by_cases e : k = i
  ·
   subst e; simp_all [okC]
  exact hv k zG
 try simp only [NF] at h33
 have hcs : (List.range q.Consts.length).all (okC q) = true := rall_t (fun k hk => hv k zG)
 refine J_exit (J_seq (Jr (Js rfl (step_fieldAddr so25 Sr rfl) (Jl rfl ty23 Sr (Js rfl (step_len_sl underlying23 Sr) ?_)))))
 refine Jm rfl (JL_nil (J_block ?_))
 refine J_loopL (σ := Nat) (fun i => i ≤ q.Atoms.length ∧ ∀ k, k < i → okA q k = true) (fun i => upd (upd (upd (upd env0 1 (tPtr rConj q)) 55 (tSl rAtom q.Atoms)) 56 (tV (.int .i64 q.Atoms.length))) 57 (tV (.int .i64 i))) (fun i => []) (fun i => q.Atoms.length - i) 0 ⟨by omega, fun k hk => by omega⟩ (zU) (LSub.rfl) ?_
 rintro i ⟨hi, hv⟩
 refine Jr (Js rfl (step_lss Sr Sr) (JL_nil (J_seq ?_)))
 refine J_cond Sr (fun h58 => ?_) (fun h58 => ?_)
 ·
  try simp only [NF] at h58
  have hlt : i < q.Atoms.length := by omega
  refine J_skip (J_seq (J_block (Jr (Jm rfl ?_))))
  refine Js rfl (step_indexAddr_sl  underlying23 ty38 Sr Sr rfl (gb (by exact hlt))) ?_
  refine Jl rfl ty38 Sr ?_
  refine Jx rfl (step_alloc (fun w => zeroValue38 w) zr38) fun v6 => ?_
  refine Ja rfl ?_
  refine Ju (step_store_box ty38 Sr Sr zS) fun _ => ?_
  refine JL_freeze (t := 6) (Sel.take (Sel.none _)) Frz.box ?_
  refine JL_nil (J_seq (Jr (Js rfl (step_fieldAddr so38 Sr rfl) (Jl rfl ty3 Sr (Js rfl (step_lss Sr Sr) ?_)))))
  refine Jm rfl ?_
  refine Jk rfl Sr rfl (step_fieldAddr so25 Sr rfl) ?_
  refine Jg rfl Sr rfl (fun hw => step_load_ptr ty23 (Sub.w hw)) ?_
  refine Jk rfl Sr rfl (step_move Sr) ?_
  refine Jg rfl Sr rfl (fun hw => step_slice_toI (n := i) underlying23 ty38 (Sub.w hw) (Sub.w hw) (by have hwq := hw; (try simp only [beqB_t, beqB_f, NF] at hwq); omega) (by have hwq := hw; (try simp only [beqB_t, beqB_f, NF] at hwq); first | assumption | omega)) ?_
  refine Jk rfl Sr rfl (step_makeFunc (As := [_]) ⟨Sr, trivial⟩) ?_
  refine Jg rfl Sr rfl (fun hw => step_call0 (ContainsFuncA_spec (q.Atoms.take i) (by rw [List.length_take]; omega) 53 [tPtr rAtom (nth q.Atoms i)] (fun x => decide (x.Table = (nth q.Atoms i).Table)) (fun x _ => atomTab_spec x _) call53) ⟨(Sub.w hw), (Sub.w hw), trivial⟩ call52) ?_
  refine Js rfl (step_pick_or Sr Sr) (JL_nil ?_)
  refine J_cond Sr (fun h72 => ?_) (fun h72 => ?_)
  ·
   try simp only [NF] at h72
   refine Jr (Ja rfl (JL_nil (J_ret ?_)))
   refine K_ret1 (t := 2) rfl () ?_
   refine Sub.bool ?_
   have : okA q i = false := by
    rcases h72 with h | h
    ·
     have : ¬ 0 ≤ (nth q.Atoms i).Table := by omega
     simp only [okA, this]; simp
    simp only [okA, h]; simp
   simp only [validQ, rall_f hlt this]; simp
  try simp only [NF] at h72
  refine J_skip (J_seq (Jr (Js rfl (step_fieldAddr so38 Sr rfl) (Jl rfl ty36 Sr (Js rfl (step_len_sl underlying36 Sr) ?_)))))
  refine Js rfl (step_eql Sr Sr) (Jm rfl ?_)
  refine Jk rfl Sr rfl (step_fieldAddr so38 Sr rfl) ?_
  refine Jg rfl Sr rfl (fun hw => step_load_ptr ty36 (Sub.w hw)) (Jg rfl Sr rfl (fun hw => step_len_sl underlying36 (Sub.w hw)) (Jg rfl Sr rfl (fun hw => step_gtr (Sub.w hw) Sr) (Js rfl (step_pick_or Sr Sr) (Jm rfl ?_))))
  refine Jk rfl Sr rfl (step_fieldAddr so38 Sr rfl) ?_
  refine Jg rfl Sr rfl (fun hw => step_load_ptr ty36 (Sub.w hw)) (Jg rfl Sr rfl (fun hw => step_len_sl underlying36 (Sub.w hw)) ?_)
  refine Jk rfl Sr rfl (step_fieldAddr so38 Sr rfl) ?_
  refine Jg rfl Sr rfl (fun hw => step_load_ptr ty36 (Sub.w hw)) (Jg rfl Sr rfl (fun hw => step_len_sl underlying36 (Sub.w hw)) (Jg rfl Sr rfl (fun hw => step_neq (Sub.w hw) (Sub.w hw)) (Js rfl (step_pick_or Sr Sr) (Jm rfl ?_))))
  refine Jk rfl Sr rfl (step_fieldAddr so38 Sr rfl) ?_
  refine Jg rfl Sr rfl (fun hw => step_load_ptr ty3 (Sub.w hw)) (Jg rfl Sr rfl (fun hw => step_lss (Sub.w hw) Sr) (Js rfl (step_pick_or Sr Sr) (Jm rfl ?_)))
  refine Jk rfl Sr rfl (step_fieldAddr so38 Sr rfl) ?_
  refine Jg rfl Sr rfl (fun hw => step_load_ptr ty3 (Sub.w hw)) ?_
  refine Jk rfl Sr rfl (step_fieldAddr so38 Sr rfl) ?_
  refine Jg rfl Sr rfl (fun hw => step_load_ptr ty36 (Sub.w hw)) (Jg rfl Sr rfl (fun hw => step_len_sl underlying36 (Sub.w hw)) (Jg rfl Sr rfl (fun hw => step_gtr (Sub.w hw) (Sub.w hw)) (Js rfl (step_pick_or Sr Sr) (JL_nil ?_))))
  refine J_cond Sr (fun h104 => ?_) (fun h104 => ?_)
  ·
   try simp only [NF] at h104
   refine Jr (Ja rfl (JL_nil (J_ret ?_)))
   refine K_ret1 (t := 2) rfl () ?_
   refine Sub.bool ?_
   have : ¬ (1 ≤ (nth q.Atoms i).Cols.length ∧ (nth q.Atoms i).Cols.length ≤ 12 ∧ (nth q.Atoms i).Terms.length = (nth q.Atoms i).Cols.length ∧ 1 ≤ (nth q.Atoms i).Key ∧ (nth q.Atoms i).Key ≤ (nth q.Atoms i).Cols.length) := by omega
   have : okA q i = false := by simp only [okA, this]; simp
   simp only [validQ, rall_f hlt this]; simp
  try simp only [NF] at h104
  have hA : 1 ≤ (nth q.Atoms i).Cols.length ∧ (nth q.Atoms i).Cols.length ≤ 12 ∧ (nth q.Atoms i).Terms.length = (nth q.Atoms i).Cols.length ∧ 1 ≤ (nth q.Atoms i).Key ∧ (nth q.Atoms i).Key ≤ (nth q.Atoms i).Cols.length := by omega
  refine J_skip (Jr (Js rfl (step_fieldAddr so38 Sr rfl) (Jl rfl ty36 Sr (Js rfl (step_len_sl underlying36 Sr) (Jm rfl ?_)))))
  refine JL_nil (J_block ?_)
  refine J_loopL (σ := Nat) (fun k => k ≤ (nth q.Atoms i).Cols.length ∧ ∀ j, j < k → okK q (nth q.Atoms i) j = true) (fun k => upd (upd (upd (upd (upd (upd (upd (upd (upd (upd (upd env0 1 (tPtr rConj q)) 5 (tV (.int .i64 i))) 6 (tPtr rAtom (nth q.Atoms i))) 55 (tSl rAtom q.Atoms)) 56 (tV (.int .i64 q.Atoms.length))) 57 (tV (.int .i64 i))) 59 (tV (.int .i64 i))) 61 (rAtom.ty (nth q.Atoms i))) 106 (tSl rInt (nth q.Atoms i).Cols)) 107 (tV (.int .i64 (nth q.Atoms i).Cols.length))) 108 (tV (.int .i64 k))) (fun k => []) (fun k => (nth q.Atoms i).Cols.length - k) 0 ⟨by omega, fun k hk => by omega⟩ (zU) (LSub.rfl) ?_
  rintro k ⟨hk, hw⟩
  refine Jr (Js rfl (step_lss Sr Sr) (JL_nil (J_seq ?_)))
  refine J_cond Sr (fun h109 => ?_) (fun h109 => ?_)
  ·
   try simp only [NF] at h109
   have hkt : k < (nth q.Atoms i).Cols.length := by omega
   refine J_skip (J_seq (J_block (Jr (Jm rfl ?_))))
   refine Js rfl (step_indexAddr_sl  underlying36 ty3 Sr Sr rfl (gb (by exact hkt))) ?_
   refine Jl rfl ty3 Sr (Ja rfl (Ja rfl (JL_nil (J_seq ?_))))
   refine J_draw [⟨0, [8], true⟩, ⟨1, [113], true⟩, ⟨2, [114], true⟩, ⟨3, [6, 115], true⟩, ⟨4, [115, 116], true⟩, ⟨5, [7, 115], true⟩, ⟨6, [115, 117, 118], true⟩, ⟨7, [8, 115], true⟩, ⟨8, [115, 119, 120], true⟩, ⟨9, [115, 121], true⟩, ⟨10, [122], true⟩, ⟨11, [6, 123], true⟩, ⟨12, [123, 124], true⟩, ⟨13, [7, 123], true⟩, ⟨14, [123, 125, 126], true⟩, ⟨15, [123, 127], true⟩, ⟨16, [1, 123], true⟩, ⟨17, [123, 129], true⟩, ⟨18, [123, 128, 130], true⟩, ⟨19, [123, 131], true⟩, ⟨20, [132], true⟩, ⟨21, [6, 133], true⟩, ⟨22, [133, 134], true⟩, ⟨23, [7, 133], true⟩, ⟨24, [133, 135, 136], true⟩, ⟨25, [133, 137], true⟩, ⟨26, [1, 133], true⟩, ⟨27, [133, 139], true⟩, ⟨28, [133, 140], true⟩, ⟨29, [133, 141], true⟩, ⟨30, [133, 138, 142], true⟩, ⟨31, [133, 143], true⟩] rfl (by kernel_rfl) ?_
   refine Mv rfl rfl (Mf rfl rfl (step_lss Sr Sr) (Mv rfl rfl ?_))
   refine Mk rfl rfl Sr rfl (step_fieldAddr so38 Sr rfl) ?_
   refine Mg rfl rfl Sr rfl (fun hw => step_load_ptr ty36 (Sub.w hw)) ?_
   refine Mk rfl rfl Sr rfl (step_move Sr) ?_
   refine Mg rfl rfl Sr rfl (fun hw => step_slice_toI (n := k) underlying36 ty3 (Sub.w hw) (Sub.w hw) (by have hwq := hw; (try simp only [beqB_t, beqB_f, NF] at hwq); omega) (by have hwq := hw; (try simp only [beqB_t, beqB_f, NF] at hwq); first | assumption | omega)) ?_
   refine Mk rfl rfl Sr rfl (step_move Sr) ?_
   refine Mg rfl rfl Sr rfl (fun hw => step_call0 (ContainsI_spec _ _ (by rw [List.length_take]; omega)) ⟨(Sub.w hw), (Sub.w hw), trivial⟩ call54) ?_
   refine Mf rfl rfl (step_pick_or Sr Sr) (Mv rfl rfl ?_)
   refine Mk rfl rfl Sr rfl (step_fieldAddr so38 Sr rfl) ?_
   refine Mg rfl rfl Sr rfl (fun hw => step_load_ptr ty36 (Sub.w hw)) ?_
   refine Mk rfl rfl Sr rfl (step_move Sr) ?_
   refine Mg rfl rfl Sr rfl (fun hw => step_indexAddr_sl (i := k) underlying36 ty3 (Sub.w hw) (Sub.w hw) (by rfl) (gb (by have hwq := hw; (try simp only [beqB_t, beqB_f, NF] at hwq); show k < (nth q.Atoms i).Terms.length; omega))) ?_
   refine Mg rfl rfl Sr rfl (fun hw => step_load_ptr ty3 (Sub.w hw)) ?_
   refine Mk rfl rfl Sr rfl (step_fieldAddr so25 Sr rfl) ?_
   refine Mg rfl rfl Sr rfl (fun hw => step_load_ptr ty3 (Sub.w hw)) (Mg rfl rfl Sr rfl (fun hw => step_geq (Sub.w hw) (Sub.w hw)) (Mf rfl rfl (step_pick_or Sr Sr) (Mv rfl rfl ?_)))
   refine Mk rfl rfl Sr rfl (step_fieldAddr so38 Sr rfl) ?_
   refine Mg rfl rfl Sr rfl (fun hw => step_load_ptr ty36 (Sub.w hw)) ?_
   refine Mk rfl rfl Sr rfl (step_move Sr) ?_
   refine Mg rfl rfl Sr rfl (fun hw => step_indexAddr_sl (i := k) underlying36 ty3 (Sub.w hw) (Sub.w hw) (by rfl) (gb (by have hwq := hw; (try simp only [beqB_t, beqB_f, NF] at hwq); show k < (nth q.Atoms i).Terms.length; omega))) ?_
   refine Mg rfl rfl Sr rfl (fun hw => step_load_ptr ty3 (Sub.w hw)) ?_
   refine Mk rfl rfl Sr rfl (step_fieldAddr so25 Sr rfl) ?_
   refine Mg rfl rfl Sr rfl (fun hw => step_load_ptr ty22 (Sub.w hw)) (Mg rfl rfl Sr rfl (fun hw => step_len_sl underlying22 (Sub.w hw)) ?_)
   refine Mg rfl rfl Sr rfl (fun hw => step_neg (Sub.w hw) (by have hwq := hw; (try simp only [beqB_t, beqB_f, NF] at hwq); show in64 (-(q.Consts.length : Int)); unfold in64; omega)) ?_
   refine Mg rfl rfl Sr rfl (fun hw => step_lss (Sub.w hw) (Sub.w hw)) (Mf rfl rfl (step_pick_or Sr Sr) (JM_nil ?_))
   refine J_cond Sr (fun h144 => ?_) (fun h144 => ?_)
   ·
    try simp only [NF] at h144
    refine Jr (Ja rfl (JL_nil (J_ret ?_)))
    refine K_ret1 (t := 2) rfl () ?_
    refine Sub.bool ?_
    have : okK q (nth q.Atoms i) k = false := by
     rcases h144 with ((h | h) | h) | h
     ·
      have : ¬ 0 ≤ nth (nth q.Atoms i).Cols k := by omega
      simp only [okK, this]; simp
     ·
      simp only [okK, h]; simp
     ·
      have : ¬ nth (nth q.Atoms i).Terms k < q.Vars := by omega
      simp only [okK, this]; simp
     have : ¬ -(q.Consts.length : Int) ≤ nth (nth q.Atoms i).Terms k := by omega
     simp only [okK, this]; simp
    have : okA q i = false := by simp only [okA, rall_f hkt this]; simp
    simp only [validQ, rall_f hlt this]; simp
   try simp only [NF] at h144
   refine J_skip (J_region (Js rfl (step_add Sr Sr z6) (Jm rfl (JL_nil ?_))))
   refine K_againL (σ := Nat) (s := k) (k + 1) zO ?_ (zU) (LSub.rfl)
   refine ⟨by omega, fun j hj => ?_⟩
   by_cases e : j = k
   ·
    subst e; simp_all [okK]
   exact hw j zG
  try simp only [NF] at h109
  have hks : (List.range (nth q.Atoms i).Cols.length).all (okK q (nth q.Atoms i)) = true := rall_t (fun j hj => hw j zG)
  refine J_exit (J_region (Js rfl (step_add Sr Sr z6) (Jm rfl (JL_nil ?_))))
  refine K_againL (σ := Nat) (s := i) (i + 1) zO ?_ (zU) (LSub.rfl)
  refine ⟨by omega, fun k hk => ?_⟩
  by_cases e : k = i
  ·
   subst e; simp only [okA, hA, hks]; simp_all
  exact hv k zG
 try simp only [NF] at h58
 have has : (List.range q.Atoms.length).all (okA q) = true := rall_t (fun k hk => hv k zG)
 refine J_exit (Jr (Ja rfl (JL_nil (J_ret ?_))))
 refine K_ret1 (t := 2) rfl () ?_
 refine Sub.bool ?_
 simp only [validQ, hcs, has, hb]; simp
open Go Go.Proofs Go.Proofs.Tryz
theorem list_extA {α : Type} [Inhabited α] {l m : List α} (h : l.length = m.length) (hn : ∀ i, i < l.length → nth l i = nth m i) : l = m := by
  refine List.ext_getElem h fun i h1 h2 => ?_
  have := hn i h1
  rwa [nth_get h1, nth_get h2] at this
def letC (c : Int) : Bool := (decide (97 ≤ c) && decide (c ≤ 122)) || (decide (65 ≤ c) && decide (c ≤ 90))
def digC (c : Int) : Bool := (decide (48 ≤ c) && decide (c ≤ 57)) || decide (c = 95)
def nmC (s : ByteArray) (i : Nat) : Bool := letC (nth (bytesOf s) i) || (decide (0 < i) && digC (nth (bytesOf s) i))
def nameM (s : ByteArray) : Bool := (List.range s.size).all (nmC s) && (!decide (s = ⟨#[]⟩) && decide ((s.size : Int) ≤ 24))
def fitM (kind : Int) (v : GValue) : Bool := validV v && (decide (v.Kind = 0) || decide (v.Kind = kind))
def findT (s : GSchema) (n : ByteArray) : Int := findI (fun t => decide (t.Name = n)) 0 s.Tables
def columnT (t : GTable) (n : ByteArray) : Int :=
  if 0 ≤ findI (fun a => decide (a.Name = n)) 0 t.Attrs then findI (fun a => decide (a.Name = n)) 0 t.Attrs
  else findI (fun a => a.Was.any fun x => decide (n = x)) 0 t.Attrs
def namesL (l : List GAttr) : List ByteArray := l.flatMap fun a => a.Name :: a.Was
theorem names_snoc (l : List GAttr) (a : GAttr) : namesL (l ++ [a]) = (namesL l ++ [a.Name]) ++ a.Was := by simp [namesL]
theorem names_len {l : List GAttr} {M : Nat} (h : ∀ a ∈ l, a.Was.length ≤ M) : (namesL l).length ≤ l.length * (M + 1) := by
  induction l with
  | nil => simp [namesL]
  | cons a l ih =>
    have h1 := h a List.mem_cons_self
    have h2 := ih fun x hx => h x (List.mem_cons_of_mem _ hx)
    have e : namesL (a :: l) = (a.Name :: a.Was) ++ namesL l := by simp [namesL]
    rw [e, List.length_append, List.length_cons, List.length_cons, Nat.add_mul]
    omega
/-- Sizes that hold of what is handed in. -/
structure TabSz (t : GTable) : Prop where
  nm : t.Name.size ≤ 9223372036854775807
  at' : t.Attrs.length ≤ 1000000000
  key : t.Key.length ≤ 1000000000000
  was : ∀ a ∈ t.Attrs, a.Was.length ≤ 1000000
  nms : ∀ s ∈ namesL t.Attrs, s.size ≤ 9223372036854775807
structure SchSz (s : GSchema) : Prop where
  tabs : s.Tables.length ≤ 1000000000000
  tab : ∀ t ∈ s.Tables, TabSz t
set_option maxHeartbeats 1000000 in
theorem name_spec (s : ByteArray) (hs : s.size ≤ 9223372036854775807) : Fun1 prog 235 [tV (.string s)] (tV (.bool (nameM s))) := by
 refine Spec.enter func235 rfl rfl fun h0 w0 fr0 => ?_
 refine Jr (Ja rfl (JL_nil (J_seq (Jr (Jm rfl ?_)))))
 refine Js rfl (step_len_str underlying9 Sr) (Jm rfl (JL_nil (J_block ?_)))
 refine J_loopL (σ := Nat) (fun i => i ≤ s.size ∧ ∀ k, k < i → nmC s k = true) (fun i => upd (upd (upd env0 0 (tV (.string s))) 6 (tV (.int .i64 s.size))) 7 (tV (.int .i64 i))) (fun i => []) (fun i => s.size - i) 0 ⟨by omega, fun k hk => by omega⟩ (zU) (LSub.rfl) ?_
 rintro i ⟨hi, hv⟩
 refine Jr (Js rfl (step_lss Sr Sr) (JL_nil (J_seq ?_)))
 refine J_cond Sr (fun h8 => ?_) (fun h8 => ?_)
 ·
  try simp only [NF] at h8
  have hlt : i < s.size := by omega
  refine J_skip (J_seq (J_block (Jr (Jm rfl (Ja rfl ?_)))))
  refine JL_nil (Jr (Jm rfl (Jm rfl ?_)))
  refine Js rfl (step_index_str (i := i) underlying9 Sr Sr (by rfl) (by exact hlt)) ?_
  refine Ja rfl (JL_nil (J_block (J_seq (Jr (Jm rfl ?_)))))
  refine Js rfl (step_geq Sr Sr) (Jm rfl ?_)
  refine Jk rfl Sr rfl (step_move Sr) ?_
  refine Jg rfl Sr rfl (fun hw => step_leq (Sub.w hw) Sr) (Js rfl (step_pick_and Sr Sr) (Ja rfl (JL_nil ?_)))
  refine J_cond Sr (fun hc2 => ?_) (fun hc2 => ?_)
  ·
   try simp only [NF] at hc2
   refine J_skip ?_
   refine J_cond Sr (fun hc3 => ?_) (fun hc3 => ?_)
   ·
    try simp only [NF] at hc3
    refine J_skip (J_region (Js rfl (step_add Sr Sr z6) (Jm rfl (JL_nil ?_))))
    refine K_againL (σ := Nat) (s := i) (i + 1) zO ?_ (zU) (LSub.rfl)
    refine ⟨by omega, fun k hk => ?_⟩
    by_cases e : k = i
    ·
     subst e; first | exact hnm | (simp_all [nmC, letC, digC]; done) | (simp_all [nmC, letC, digC]; omega)
    exact hv k zG
   try simp only [NF] at hc3
   first | contradiction | omega | (simp_all; done)
  try simp only [NF] at hc2
  refine J_region (Jm rfl (Js rfl (step_geq Sr Sr) (Jm rfl ?_)))
  refine Jk rfl Sr rfl (step_move Sr) ?_
  refine Jg rfl Sr rfl (fun hw => step_leq (Sub.w hw) Sr) (Js rfl (step_pick_and Sr Sr) (Ja rfl (JL_nil ?_)))
  refine J_cond Sr (fun hc4 => ?_) (fun hc4 => ?_)
  ·
   try simp only [NF] at hc4
   refine J_skip (J_region (Js rfl (step_add Sr Sr z6) (Jm rfl (JL_nil ?_))))
   refine K_againL (σ := Nat) (s := i) (i + 1) zO ?_ (zU) (LSub.rfl)
   refine ⟨by omega, fun k hk => ?_⟩
   by_cases e : k = i
   ·
    subst e; first | exact hnm | (simp_all [nmC, letC, digC]; done) | (simp_all [nmC, letC, digC]; omega)
   exact hv k zG
  try simp only [NF] at hc4
  refine Jr (Jm rfl (Js rfl (step_gtr Sr Sr) (Jm rfl ?_)))
  refine Jk rfl Sr rfl (step_move Sr) ?_
  refine Jg rfl Sr rfl (fun hw => step_geq (Sub.w hw) Sr) (Jg rfl Sr rfl (fun hw => step_move (Sub.w hw)) ?_)
  refine Ji rfl Sr rfl (step_move Sr) ?_
  refine Jh rfl Sr rfl (fun hw => step_leq (Sub.w hw) Sr) (Jg rfl Sr rfl (fun hw => step_pick_and (Sub.w hw) (Sub.ww hw)) (Jg rfl Sr rfl (fun hw => step_move (Sub.w hw)) ?_))
  refine Ji rfl Sr rfl (step_move Sr) ?_
  refine Jh rfl Sr rfl (fun hw => step_eql (Sub.w hw) Sr) (Jg rfl Sr rfl (fun hw => step_pick_or (Sub.w hw) (Sub.ww hw)) (Js rfl (step_pick_and Sr Sr) (Ja rfl (JL_nil ?_))))
  refine J_cond Sr (fun hc5 => ?_) (fun hc5 => ?_)
  ·
   try simp only [NF] at hc5
   refine J_skip (J_region (Js rfl (step_add Sr Sr z6) (Jm rfl (JL_nil ?_))))
   refine K_againL (σ := Nat) (s := i) (i + 1) zO ?_ (zU) (LSub.rfl)
   refine ⟨by omega, fun k hk => ?_⟩
   by_cases e : k = i
   ·
    subst e; first | exact hnm | (simp_all [nmC, letC, digC]; done) | (simp_all [nmC, letC, digC]; omega)
   exact hv k zG
  try simp only [NF] at hc5
  refine Jr (Ja rfl (JL_nil (J_ret ?_)))
  refine K_ret1 (t := 2) rfl () ?_
  refine Sub.bool ?_
  have : nmC s i = false := by simp_all [nmC, letC, digC]; omega
  simp only [nameM, rall_f hlt this]; simp
 try simp only [NF] at h8
 have hall : (List.range s.size).all (nmC s) = true := rall_t (fun k hk => hv k zG)
 refine J_exit (Jr (Jm rfl (Js rfl (step_neq_str Sr Sr) (Jm rfl ?_))))
 refine Jk rfl Sr rfl (step_move Sr) ?_
 refine Jg rfl Sr rfl (fun hw => step_len_str underlying9 (Sub.w hw)) (Jg rfl Sr rfl (fun hw => step_leq (Sub.w hw) Sr) (Js rfl (step_pick_and Sr Sr) (Ja rfl (JL_nil (J_ret ?_)))))
 refine K_ret1 (t := 2) rfl () ?_
 refine Sub.bool ?_
 simp only [nameM, hall]; simp
theorem fit_spec (kind : Int) (v : GValue) : Fun1 prog 207 [tV (.int .i64 kind), rValue.ty v] (tV (.bool (fitM kind v))) := by
 refine Spec.enter func207 rfl rfl fun h0 w0 fr0 => ?_
 refine Jr (Js rfl (step_box (R := rValue) Sr) (Ja rfl (JL_nil (Jr (Jl rfl ty87 Sr ?_)))))
 refine Js rfl (step_call0 (Valid_spec _) ⟨Sr, trivial⟩ call50) (Jm rfl ?_)
 refine Jk rfl Sr rfl (step_fieldAddr so87 Sr rfl) ?_
 refine Jg rfl Sr rfl (fun hw => step_load_ptr ty3 (Sub.w hw)) (Jg rfl Sr rfl (fun hw => step_eql (Sub.w hw) Sr) (Jg rfl Sr rfl (fun hw => step_move (Sub.w hw)) ?_))
 refine Ji rfl Sr rfl (step_fieldAddr so87 Sr rfl) ?_
 refine Jh rfl Sr rfl (fun hw => step_load_ptr ty3 (Sub.w hw)) ?_
 refine Ji rfl Sr rfl (step_move Sr) ?_
 refine Jh rfl Sr rfl (fun hw => step_eql (Sub.w hw) (Sub.w hw)) (Jg rfl Sr rfl (fun hw => step_pick_or (Sub.w hw) (Sub.ww hw)) (Js rfl (step_pick_and Sr Sr) (Ja rfl (JL_nil (J_ret ?_)))))
 exact K_ret1 (t := 4) rfl () Sr
theorem findF_spec (t : GTable) (n : ByteArray) : Fun1 prog 241 [rTable.ty t, tPtr rStr n] (tV (.bool (decide (t.Name = n)))) := by
 refine Spec.enter func241 rfl rfl fun h0 w0 fr0 => ?_
 refine Jr (Js rfl (step_box (R := rTable) Sr) (Ja rfl (JL_nil (Jr (Js rfl (step_fieldAddr so76 Sr rfl) ?_)))))
 refine Jl rfl ty9 Sr (Jl rfl ty9 Sr (Js rfl (step_eql_str Sr Sr) (Ja rfl (JL_nil (J_ret ?_)))))
 exact K_ret1 (t := 3) rfl () Sr
theorem Find_spec (s : GSchema) (n : ByteArray) (hl : s.Tables.length ≤ 1000000000000) : Fun1 prog 165 [rSchema.ty s, tV (.string n)] (tV (.int .i64 (findT s n))) := by
 refine Spec.enter func165 rfl rfl fun h0 w0 fr0 => ?_
 refine Jr (Js rfl (step_box (R := rSchema) Sr) (Js rfl (step_box (R := rStr) Sr) (Ja rfl (JL_nil (Jr ?_)))))
 refine Js rfl (step_fieldAddr so41 Sr rfl) (Jl rfl ty39 Sr (Js rfl (step_makeFunc (As := [_]) ⟨Sr, trivial⟩) (Js rfl (step_call0 (IndexFuncTab_spec s.Tables hl 241 [tPtr rStr n] (fun t => decide (t.Name = n)) (fun x _ => findF_spec x n) call241) ⟨Sr, Sr, trivial⟩ call240) (Ja rfl (JL_nil ?_)))))
 refine J_ret ?_
 exact K_ret1 (t := 4) rfl () Sr
theorem colF1_spec (t : GAttr) (n : ByteArray) : Fun1 prog 294 [rAttr.ty t, tPtr rStr n] (tV (.bool (decide (t.Name = n)))) := by
 refine Spec.enter func294 rfl rfl fun h0 w0 fr0 => ?_
 refine Jr (Js rfl (step_box (R := rAttr) Sr) (Ja rfl (JL_nil (Jr (Js rfl (step_fieldAddr so89 Sr rfl) ?_)))))
 refine Jl rfl ty9 Sr (Jl rfl ty9 Sr (Js rfl (step_eql_str Sr Sr) (Ja rfl (JL_nil (J_ret ?_)))))
 exact K_ret1 (t := 3) rfl () Sr
theorem colF2_spec (t : GAttr) (n : ByteArray) (hl : t.Was.length ≤ 1000000000000) : Fun1 prog 295 [rAttr.ty t, tPtr rStr n] (tV (.bool (t.Was.any fun x => decide (n = x)))) := by
 refine Spec.enter func295 rfl rfl fun h0 w0 fr0 => ?_
 refine Jr (Js rfl (step_box (R := rAttr) Sr) (Ja rfl (JL_nil (Jr (Js rfl (step_fieldAddr so89 Sr rfl) ?_)))))
 refine Jl rfl ty85 Sr (Jl rfl ty9 Sr (Js rfl (step_call0 (ContainsS_spec _ _ hl) ⟨Sr, Sr, trivial⟩ call296) (Ja rfl (JL_nil (J_ret ?_)))))
 exact K_ret1 (t := 3) rfl () Sr
theorem Column_spec (t : GTable) (n : ByteArray) (hl : t.Attrs.length ≤ 1000000000000) (hw : ∀ a ∈ t.Attrs, a.Was.length ≤ 1000000000000) : Fun1 prog 245 [rTable.ty t, tV (.string n)] (tV (.int .i64 (columnT t n))) := by
 refine Spec.enter func245 rfl rfl fun h0 w0 fr0 => ?_
 refine Jr (Js rfl (step_box (R := rTable) Sr) (Js rfl (step_box (R := rStr) Sr) (Ja rfl (JL_nil (J_seq ?_)))))
 refine Jr (Js rfl (step_fieldAddr so76 Sr rfl) (Jl rfl ty44 Sr (Js rfl (step_makeFunc (As := [_]) ⟨Sr, trivial⟩) (Js rfl (step_call0 (IndexFuncAttr_spec t.Attrs hl 294 [tPtr rStr n] (fun a => decide (a.Name = n)) (fun x _ => colF1_spec x n) call294) ⟨Sr, Sr, trivial⟩ call114) (Ja rfl ?_)))))
 refine JL_nil (Jr (Jm rfl (Js rfl (step_geq Sr Sr) (JL_nil ?_))))
 refine J_cond Sr (fun h11 => ?_) (fun h11 => ?_)
 ·
  try simp only [NF] at h11
  refine Jr (Jm rfl (Ja rfl (JL_nil (J_ret ?_))))
  refine K_ret1 (t := 4) rfl () (Sub.int ?_)
  rw [columnT, if_pos h11]
 try simp only [NF] at h11
 refine J_skip (Jr (Js rfl (step_fieldAddr so76 Sr rfl) (Jl rfl ty44 Sr (Js rfl (step_makeFunc (As := [_]) ⟨Sr, trivial⟩) (Js rfl (step_call0 (IndexFuncAttr_spec t.Attrs hl 295 [tPtr rStr n] (fun a => a.Was.any fun x => decide (n = x)) (fun x hx => colF2_spec x n (hw x hx)) call295) ⟨Sr, Sr, trivial⟩ call114) ?_)))))
 refine Ja rfl (JL_nil (J_ret ?_))
 refine K_ret1 (t := 4) rfl () (Sub.int ?_)
 rw [columnT, if_neg zG]
theorem acolF_spec (t : GAttr) (n : ByteArray) : Fun1 prog 242 [rAttr.ty t, tPtr rStr n] (tV (.bool (decide (t.Name = n)))) := by
 refine Spec.enter func242 rfl rfl fun h0 w0 fr0 => ?_
 refine Jr (Js rfl (step_box (R := rAttr) Sr) (Ja rfl (JL_nil (Jr (Js rfl (step_fieldAddr so89 Sr rfl) ?_)))))
 refine Jl rfl ty9 Sr (Jl rfl ty9 Sr (Js rfl (step_eql_str Sr Sr) (Ja rfl (JL_nil (J_ret ?_)))))
 exact K_ret1 (t := 3) rfl () Sr
def columnL (l : List GAttr) (n : ByteArray) : Int := findI (fun a => decide (a.Name = n)) 0 l
theorem acolumn_spec (l : List GAttr) (n : ByteArray) (hl : l.length ≤ 1000000000000) : Fun1 prog 166 [tSl rAttr l, tV (.string n)] (tV (.int .i64 (columnL l n))) := by
 refine Spec.enter func166 rfl rfl fun h0 w0 fr0 => ?_
 refine Jr (Js rfl (step_box (R := rStr) Sr) (Ja rfl (JL_nil (Jr (Jm rfl ?_)))))
 refine Js rfl (step_makeFunc (As := [_]) ⟨Sr, trivial⟩) (Js rfl (step_call0 (IndexFuncAttr_spec l hl 242 [tPtr rStr n] (fun a => decide (a.Name = n)) (fun x _ => acolF_spec x n) call242) ⟨Sr, Sr, trivial⟩ call114) (Ja rfl (JL_nil (J_ret ?_))))
 exact K_ret1 (t := 4) rfl () Sr
theorem nameF_spec (s : ByteArray) (hs : s.size ≤ 9223372036854775807) : Fun1 prog 237 [tV (.string s)] (tV (.bool (!nameM s))) := by
 refine Spec.enter func237 rfl rfl fun h0 w0 fr0 => ?_
 refine Jr (Ja rfl (JL_nil (Jr (Jm rfl (Js rfl (step_call0 (name_spec _ hs) ⟨Sr, trivial⟩ call235) ?_)))))
 refine Js rfl (step_not Sr) (Ja rfl (JL_nil (J_ret ?_)))
 exact K_ret1 (t := 2) rfl () Sr
open Go Go.Proofs Go.Proofs.Tryz
def eqL (p : GAttr → GAttr → Bool) (a b : List GAttr) : Bool := decide (a.length = b.length) && (List.range a.length).all fun i => p (nth a i) (nth b i)
def alikeA (x y : GAttr) : Bool := decide (x.Name = y.Name) && decide (x.Kind = y.Kind)
def alikeM (a b : List GAttr) : Bool := eqL alikeA a b
def pickOk (n : Nat) (cols : List Int) : Bool := cols.all fun c => decide (0 ≤ c) && decide (c < n)
def pickL (l : List GAttr) (cols : List Int) : List GAttr := cols.map fun c => nth l c.toNat
def pickM (l : List GAttr) (cols : List Int) : List GAttr := if pickOk l.length cols = true then pickL l cols else []
def sideM (x : GSide) (n : Int) : Bool := if x.Var = -1 then decide (x.Col = 0) && validV x.Value else decide (x.Var = 0) && decide (0 ≤ x.Col) && decide (x.Col < n) && decide (x.Value = ⟨0, 0, ⟨#[]⟩⟩)
def testOk (t : GTest) (n : Int) : Bool := decide (1 ≤ t.Op) && decide (t.Op ≤ 4) && sideM t.Left n && sideM t.Right n && (decide (t.Left.Var = 0) || decide (t.Right.Var = 0))
def renA (t : GTable) (l : List GAttr) (i : Nat) : GAttr := if i < l.length ∧ columnT t (nth l i).Name = i then { nth t.Attrs i with Name := (nth l i).Name } else nth t.Attrs i
def tabI (t : GTable) (l : List GAttr) (n : Nat) : List GAttr := (List.range t.Attrs.length).map fun i => if i < n then renA t l i else nth t.Attrs i
def tableL (t : GTable) (l : List GAttr) : List GAttr := (List.range t.Attrs.length).map (renA t l)
def joinOk (a b : List GAttr) : Bool := b.all fun x => decide (columnL a x.Name < 0) || decide ((nth a (columnL a x.Name).toNat).Kind = x.Kind)
def joinL (a b : List GAttr) : List GAttr := a ++ b.filter fun x => decide (columnL a x.Name < 0)
def renOk (p : GPlan) : Bool := decide (0 ≤ p.Col ∧ p.Col < (nth p.Kids 0).Attrs.length ∧ p.Attrs.length = (nth p.Kids 0).Attrs.length)
def renL (p : GPlan) : List GAttr := (nth p.Kids 0).Attrs.set p.Col.toNat { nth (nth p.Kids 0).Attrs p.Col.toNat with Name := (nth p.Attrs p.Col.toNat).Name }
def grpOk (p : GPlan) : Bool := pickOk (nth p.Kids 0).Attrs.length p.Cols && decide (p.Attrs.length = p.Cols.length + 1 ∧ 1 ≤ p.Agg ∧ p.Agg ≤ 4)
def grpIn (p : GPlan) : Bool := decide (0 ≤ p.Col ∧ p.Col < (nth p.Kids 0).Attrs.length)
def grpB (p : GPlan) : Bool := if p.Agg = 1 then decide (p.Col = -1) else if grpIn p = false then false else if p.Agg = 2 then decide ((nth (nth p.Kids 0).Attrs p.Col.toNat).Kind = 2) else true
def grpK (p : GPlan) : Int := if p.Agg = 1 then 2 else if grpIn p = false then 2 else if p.Agg = 2 then 2 else (nth (nth p.Kids 0).Attrs p.Col.toNat).Kind
def grpL (p : GPlan) : List GAttr := pickL (nth p.Kids 0).Attrs p.Cols ++ [⟨(nth p.Attrs p.Cols.length).Name, grpK p, [], ⟨0, 0, ⟨#[]⟩⟩⟩]
/-- The columns of a query with valid kids. -/
def colsM (s : GSchema) (p : GPlan) : List GAttr × Bool :=
  if p.Kind = 1 then (if 0 ≤ p.Table ∧ p.Table < s.Tables.length then (tableL (nth s.Tables p.Table.toNat) p.Attrs, true) else ([], false))
  else if p.Kind = 2 then ((nth p.Kids 0).Attrs, decide (0 < (p.Tests.length : Int)) && !(p.Tests.any fun t => !testOk t (nth p.Kids 0).Attrs.length))
  else if p.Kind = 3 then (pickM (nth p.Kids 0).Attrs p.Cols, pickOk (nth p.Kids 0).Attrs.length p.Cols)
  else if p.Kind = 4 then (if joinOk (nth p.Kids 0).Attrs (nth p.Kids 1).Attrs = true then (joinL (nth p.Kids 0).Attrs (nth p.Kids 1).Attrs, true) else ([], false))
  else if p.Kind = 5 ∨ p.Kind = 6 then ((nth p.Kids 0).Attrs, alikeM (nth p.Kids 0).Attrs (nth p.Kids 1).Attrs)
  else if p.Kind = 7 then (if renOk p = true then (renL p, true) else ([], false))
  else (if grpOk p = true then (grpL p, grpB p) else ([], false))
theorem tab0 (t : GTable) (l : List GAttr) : tabI t l 0 = t.Attrs := by
  refine list_extA (by simp [tabI]) fun i hi => ?_
  have hi' : i < t.Attrs.length := by simpa [tabI] using hi
  rw [nth_get hi]; simp [tabI]
theorem tabI_len (t : GTable) (l : List GAttr) (n : Nat) : (tabI t l n).length = t.Attrs.length := by simp [tabI]
theorem tabI_nth {t : GTable} {l : List GAttr} {n i : Nat} (h : i < t.Attrs.length) : nth (tabI t l n) i = if i < n then renA t l i else nth t.Attrs i := by
  rw [nth_get (by rw [tabI_len]; exact h)]; simp [tabI]
theorem tab_full {t : GTable} {l : List GAttr} {n : Nat} (h : ¬ (n < t.Attrs.length ∧ n < l.length)) : tabI t l n = tableL t l := by
  unfold tabI tableL
  refine List.map_congr_left fun i hi => ?_
  have hi := List.mem_range.1 hi
  by_cases hn : i < n
  · rw [if_pos hn]
  · rw [if_neg hn, renA, if_neg (by omega)]
theorem tab_keep {t : GTable} {l : List GAttr} {n : Nat} (h1 : n < t.Attrs.length) (h : ¬ columnT t (nth l n).Name = n) : tabI t l (n + 1) = tabI t l n := by
  refine list_extA (by rw [tabI_len, tabI_len]) fun i hi => ?_
  rw [tabI_len] at hi
  rw [tabI_nth hi, tabI_nth hi]
  by_cases e : i = n
  · subst e; rw [if_pos (by omega), if_neg (by omega), renA, if_neg fun q => h q.2]
  · by_cases e2 : i < n
    · rw [if_pos (by omega), if_pos e2]
    · rw [if_neg (by omega), if_neg e2]
theorem tab_set {t : GTable} {l : List GAttr} {n : Nat} (h1 : n < t.Attrs.length) (h2 : n < l.length) (h : columnT t (nth l n).Name = n) : (tabI t l n).set n { nth (tabI t l n) n with Name := (nth l n).Name } = tabI t l (n + 1) := by
  refine list_extA (by rw [List.length_set, tabI_len, tabI_len]) fun i hi => ?_
  rw [List.length_set, tabI_len] at hi
  rw [Lg.nth_set (by rw [tabI_len]; exact hi), tabI_nth hi, tabI_nth hi]
  by_cases e : n = i
  · subst e; rw [if_pos rfl, if_pos (by omega), tabI_nth hi, if_neg (by omega), renA, if_pos ⟨h2, h⟩]
  · rw [if_neg e]
    by_cases e2 : i < n
    · rw [if_pos e2, if_pos (by omega)]
    · rw [if_neg e2, if_neg (by omega)]
theorem join_snoc {a l : List GAttr} {x : GAttr} : joinL a (l ++ [x]) = if columnL a x.Name < 0 then joinL a l ++ [x] else joinL a l := by
  unfold joinL
  rw [List.filter_append]
  by_cases h : columnL a x.Name < 0
  · rw [if_pos h, List.filter_cons_of_pos (by simpa using h)]; simp
  · rw [if_neg h, List.filter_cons_of_neg (by simpa using h)]; simp
theorem joinL_len (a b : List GAttr) : (joinL a b).length ≤ a.length + b.length := by
  unfold joinL; rw [List.length_append]; have := List.length_filter_le (fun x : GAttr => decide (columnL a x.Name < 0)) b; omega
theorem join_nth {a b : List GAttr} {i : Nat} (h : i < a.length) : nth (joinL a b) i = nth a i := by
  have h2 : i < (joinL a b).length := by unfold joinL; rw [List.length_append]; omega
  rw [nth_get h2, nth_get h]; unfold joinL; exact List.getElem_append_left h
theorem col_lt (a : List GAttr) (n : ByteArray) : -1 ≤ columnL a n ∧ columnL a n < a.length := by
  have := findI_bd (fun a : GAttr => decide (a.Name = n)) a 0 (by omega)
  unfold columnL; omega
theorem CloneA_spec (l : List GAttr) (hl : l.length ≤ 1000000000) : Spec (X := Value) prog 158 [tSl rAttr l] ([]) (fun v => rV.ty v) (fun v => [own 89 rAttr v l]) := by
 refine Spec.enter func158 rfl rfl fun h0 w0 fr0 => ?_
 refine Jr (Ja rfl (JL_nil (J_seq (Jr (Jm rfl ?_)))))
 refine Jx rfl (step_eql_slnil underlying44 Sr) fun v4 => ?_
 refine JL_nil ?_
 refine J_cond Sr (fun h4 => ?_) (fun h4 => ?_)
 ·
  try simp only [NF] at h4
  refine Jr (Ja rfl (JL_nil (J_ret ?_)))
  have hl0 := v4.2 h4
  subst hl0
  refine K_lsub (LSub.nilown (e := 89) (R := rAttr)) ?_
  refine K_ret1' (rv := .tmp 2) rfl (.slice none 0 0) (Sel.none _) (.tmp (Sub.rV rfl)) (Frz.sub Sr)
 try simp only [NF] at h4
 refine J_skip (Jr ?_)
 refine Jx rfl (step_literal_own (ys := []) underlying44 el89 trivial rfl (by decide)) fun v5 => ?_
 refine Jm rfl ?_
 refine Jx rfl (step_append underlying44 el89 Sr Sr zS (by simp; omega) (by simp; omega)) fun v7 => ?_
 refine Ja rfl (JL_nil (J_ret ?_))
 refine K_ret1' (rv := .tmp 2) rfl v7 (Sel.none _) (.tmp Sr) (Frz.sub Sr)
theorem alikeF_spec (x y : GAttr) : Fun1 prog 244 [rAttr.ty x, rAttr.ty y] (tV (.bool (alikeA x y))) := by
 refine Spec.enter func244 rfl rfl fun h0 w0 fr0 => ?_
 refine Jr (Js rfl (step_box (R := rAttr) Sr) (Js rfl (step_box (R := rAttr) Sr) (Ja rfl (JL_nil (Jr ?_)))))
 refine Js rfl (step_fieldAddr so89 Sr rfl) (Jl rfl ty9 Sr (Js rfl (step_fieldAddr so89 Sr rfl) (Jl rfl ty9 Sr (Js rfl (step_eql_str Sr Sr) (Jm rfl ?_)))))
 refine Jk rfl Sr rfl (step_fieldAddr so89 Sr rfl) ?_
 refine Jg rfl Sr rfl (fun hw => step_load_ptr ty3 (Sub.w hw)) ?_
 refine Jk rfl Sr rfl (step_fieldAddr so89 Sr rfl) ?_
 refine Jg rfl Sr rfl (fun hw => step_load_ptr ty3 (Sub.w hw)) (Jg rfl Sr rfl (fun hw => step_eql (Sub.w hw) (Sub.w hw)) (Js rfl (step_pick_and Sr Sr) (Ja rfl (JL_nil (J_ret ?_)))))
 exact K_ret1 (t := 4) rfl () Sr
set_option maxHeartbeats 1000000 in
theorem EqualFuncA_spec (a b : List GAttr) (hl : a.length ≤ 1000000000000) (gi : Nat) (As : List Ty) (p : GAttr → GAttr → Bool) (hp : ∀ x y, Fun1 prog gi ([rAttr.ty x, rAttr.ty y] ++ As) (tV (.bool (p x y)))) (he : ∀ args w, (callFunc gi args).run prog w = .ok (.enter gi args) w) : Fun1 prog 243 [tSl rAttr a, tSl rAttr b, tClo gi As] (tV (.bool (eqL p a b))) := by
 refine Spec.enter func243 rfl rfl fun h0 w0 fr0 => ?_
 refine Jr (Ja rfl (JL_nil (J_seq (Jr (Jm rfl ?_)))))
 refine Js rfl (step_len_sl underlying44 Sr) (Jm rfl (Js rfl (step_len_sl underlying44 Sr) (Js rfl (step_neq Sr Sr) (JL_nil ?_))))
 refine J_cond Sr (fun h14 => ?_) (fun h14 => ?_)
 ·
  try simp only [NF] at h14
  refine Jr (Ja rfl (JL_nil (J_ret ?_)))
  refine K_ret1 (t := 6) rfl () ?_
  refine Sub.bool ?_
  have : ¬ a.length = b.length := by omega
  simp [eqL, this]
 try simp only [NF] at h14
 have heq : a.length = b.length := by omega
 refine J_skip (J_seq (Jr (Jm rfl (Js rfl (step_len_sl underlying44 Sr) (Jm rfl ?_)))))
 refine JL_nil (J_block ?_)
 refine J_loopL (σ := Nat) (fun i => i ≤ a.length ∧ ∀ k, k < i → p (nth a k) (nth b k) = true) (fun i => upd (upd (upd (upd (upd env0 1 (tSl rAttr b)) 2 (tClo gi As)) 15 (tSl rAttr a)) 16 (tV (.int .i64 a.length))) 17 (tV (.int .i64 i))) (fun i => []) (fun i => a.length - i) 0 ⟨by omega, fun k hk => by omega⟩ (zU) (LSub.rfl) ?_
 rintro i ⟨hi, hv⟩
 refine Jr (Js rfl (step_lss Sr Sr) (JL_nil (J_seq ?_)))
 refine J_cond Sr (fun h18 => ?_) (fun h18 => ?_)
 ·
  try simp only [NF] at h18
  have hlt : i < a.length := by omega
  refine J_skip (J_seq (J_block (Jr (Jm rfl ?_))))
  refine Js rfl (step_indexAddr_sl  underlying44 ty89 Sr Sr rfl (gb (by exact hlt))) ?_
  refine Jl rfl ty89 Sr ?_
  refine Jx rfl (step_alloc (fun w => zeroValue89 w) zr89) fun v8 => ?_
  refine Ja rfl ?_
  refine Ju (step_store_box ty89 Sr Sr zS) fun _ => ?_
  refine JL_freeze (t := 8) (Sel.take (Sel.none _)) Frz.box ?_
  refine JL_nil (Jr (Jm rfl (Jm rfl ?_)))
  refine Js rfl (step_indexAddr_sl (i := i) underlying44 ty89 Sr Sr (by rfl) (gb (by show i < b.length; omega))) ?_
  refine Jl rfl ty89 Sr ?_
  refine Jx rfl (step_alloc (fun w => zeroValue89 w) zr89) fun v9 => ?_
  refine Ju (step_store_box ty89 Sr Sr zS) fun _ => ?_
  refine JL_freeze (t := 9) (Sel.take (Sel.none _)) Frz.box ?_
  refine JL_nil (Jr (Jm rfl (Jl rfl ty89 Sr (Jl rfl ty89 Sr (Js rfl (step_callv0 (aT := [_, _]) Sr (hp _ _) ⟨Sr, Sr, trivial⟩ he) ?_)))))
  refine Js rfl (step_not Sr) (JL_nil ?_)
  refine J_cond Sr (fun h30 => ?_) (fun h30 => ?_)
  ·
   try simp only [NF] at h30
   refine Jr (Ja rfl (JL_nil (J_ret ?_)))
   refine K_ret1 (t := 6) rfl () ?_
   refine Sub.bool ?_
   have : p (nth a i) (nth b i) = false := by simpa using h30
   simp only [eqL, rall_f (f := fun i => p (nth a i) (nth b i)) hlt this]; simp
  try simp only [NF] at h30
  refine J_skip (J_region (Js rfl (step_add Sr Sr z6) (Jm rfl (JL_nil ?_))))
  refine K_againL (σ := Nat) (s := i) (i + 1) zO ?_ (zU) (LSub.rfl)
  refine ⟨by omega, fun k hk => ?_⟩
  by_cases e : k = i
  ·
   subst e; simpa using h30
  exact hv k zG
 try simp only [NF] at h18
 have hall := rall_t (n := a.length) (fun k hk => hv k zG)
 refine J_exit (Jr (Ja rfl (JL_nil (J_ret ?_))))
 refine K_ret1 (t := 6) rfl () ?_
 refine Sub.bool ?_
 rw [eqL, hall]; simp [heq]
theorem alike_spec (a b : List GAttr) (hl : a.length ≤ 1000000000000) : Fun1 prog 167 [tSl rAttr a, tSl rAttr b] (tV (.bool (alikeM a b))) := by
 refine Spec.enter func167 rfl rfl fun h0 w0 fr0 => ?_
 refine Jr (Ja rfl (JL_nil (Jr (Jm rfl (Jm rfl ?_)))))
 refine Js rfl (step_call0 (EqualFuncA_spec a b hl 244 [] alikeA (fun x y => alikeF_spec x y) call244) ⟨Sr, Sr, Sub.clo0, trivial⟩ call243) (Ja rfl (JL_nil (J_ret ?_)))
 exact K_ret1 (t := 4) rfl () Sr
set_option maxHeartbeats 1000000 in
theorem pickA_spec (l : List GAttr) (cols : List Int) (hc : cols.length ≤ 1000000000) : Spec (X := Value) prog 255 [tSl rAttr l, tSl rInt cols] ([]) (fun v => tTup [rV.ty v, tV (.bool (pickOk l.length cols))]) (fun v => [own 89 rAttr v (pickM l cols)]) := by
 refine Spec.enter func255 rfl rfl fun h0 w0 fr0 => ?_
 refine Jr (Ja rfl (Ja rfl (JL_nil (Jr (Ja rfl ?_)))))
 refine JL_nil (J_seq (Jr (Jm rfl (Js rfl (step_len_sl underlying36 Sr) (Jm rfl ?_)))))
 refine JL_nil (J_block ?_)
 refine J_loopL (σ := Nat × Value) (fun ⟨i, v⟩ => i ≤ cols.length ∧ ∀ k, k < i → (decide (0 ≤ nth cols k) && decide (nth cols k < l.length)) = true) (fun ⟨i, v⟩ => upd (upd (upd (upd (upd env0 0 (tSl rAttr l)) 6 (rV.ty v)) 9 (tSl rInt cols)) 10 (tV (.int .i64 cols.length))) 11 (tV (.int .i64 i))) (fun ⟨i, v⟩ => [own 89 rAttr v (pickL l (cols.take i))]) (fun ⟨i, v⟩ => cols.length - i) (0, .slice none 0 0) ⟨by omega, fun k hk => by omega⟩ (.u (.u (.u (SubE.upd (Sub.rV rfl) (zU))))) (LSub.nilown) ?_
 rintro ⟨i, v⟩ ⟨hi, hv⟩
 refine Jr (Js rfl (step_lss Sr Sr) (JL_nil (J_seq ?_)))
 refine J_cond Sr (fun h12 => ?_) (fun h12 => ?_)
 ·
  try simp only [NF] at h12
  have hlt : i < cols.length := by omega
  have hpl : (pickL l (cols.take i)).length ≤ 1000000000 := by simp [pickL]; omega
  refine J_skip (J_seq (J_block (Jr ?_)))
  refine Js rfl (step_indexAddr_sl  underlying36 ty3 Sr Sr rfl (gb (by exact hlt))) ?_
  refine Jl rfl ty3 Sr (Ja rfl (JL_nil (J_seq (Jr (Jm rfl ?_)))))
  refine Js rfl (step_lss Sr Sr) (Jm rfl ?_)
  refine Jk rfl Sr rfl (step_move Sr) ?_
  refine Jk rfl Sr rfl (step_move Sr) ?_
  refine Jg rfl Sr rfl (fun hw => step_len_sl underlying44 (Sub.w hw)) (Jg rfl Sr rfl (fun hw => step_geq (Sub.w hw) (Sub.w hw)) (Js rfl (step_pick_or Sr Sr) (JL_nil ?_)))
  refine J_cond Sr (fun h22 => ?_) (fun h22 => ?_)
  ·
   try simp only [NF] at h22
   refine Jr (Ja rfl (Ja rfl (JL_nil (J_ret ?_))))
   have hno : pickOk l.length cols = false := all_f hlt (by rcases h22 with h | h <;> simp <;> omega)
   have hpm : pickM l cols = [] := by rw [pickM, if_neg (by rw [hno]; simp)]
   refine K_drop zS ?_
   refine K_lsub (L' := [own 89 rAttr (.slice none 0 0) (pickM l cols)]) (LSub.trans (LSub.nilown (e := 89) (R := rAttr)) (.c zS (SPs.of (A := own 89 rAttr (.slice none 0 0) ([] : List GAttr)) (by rw [hpm])) (LSub.nil))) ?_
   refine K_ret2' (rv := .tmp 4) (rv' := .tmp 5) rfl (.slice none 0 0) (Sel.none _) (.tmp (Sub.rV rfl)) (.tmp Sr) (Frz.sub Sr) (Frz.sub (Sub.bool hno.symm)) Sr
  try simp only [NF] at h22
  refine J_skip (J_region (Jm rfl (Jm rfl (Jm rfl (Js rfl (step_indexAddr_sl (i := (nth cols i).toNat) underlying44 ty89 Sr Sr zG (gb zG)) ?_)))))
  refine Jl rfl ty89 Sr ?_
  refine Js rfl (step_literal (ys := [_]) underlying44 el89 ⟨rfl, Sr, trivial⟩ rfl (by decide)) ?_
  refine Jx rfl (step_append underlying44 el89 Sr Sr zS (by simp; omega) (by simp; omega)) fun v29 => ?_
  refine Ja rfl (JL_nil (J_region (Js rfl (step_add Sr Sr z6) (Jm rfl (JL_nil ?_)))))
  refine K_againL (σ := Nat × Value) (s := (i, v)) (i + 1, v29) zO ?_ (zU) (.c zS (SPs.of (A := own 89 rAttr v29 (pickL l (cols.take i) ++ [nth l (nth cols i).toNat])) (by rw [takeB hlt]; simp [pickL])) (LSub.nil))
  refine ⟨by omega, fun k hk => ?_⟩
  by_cases e : k = i
  ·
   subst e; simp; omega
  exact hv k zG
 try simp only [NF] at h12
 obtain rfl : i = cols.length := by omega
 have hok : pickOk l.length cols = true := all_t hv
 refine J_exit (Jr (Jm rfl (Ja rfl (Ja rfl (JL_nil ?_)))))
 refine J_ret ?_
 have hpm : pickM l cols = pickL l cols := by rw [pickM, if_pos hok]
 refine K_lsub (L' := [own 89 rAttr v (pickM l cols)]) (.c zS (SPs.of (A := own 89 rAttr v (pickL l (cols.take cols.length))) (by rw [hpm, List.take_length])) (LSub.nil)) ?_
 refine K_ret2' (rv := .tmp 4) (rv' := .tmp 5) rfl v (Sel.none _) (.tmp Sr) (.tmp Sr) (Frz.sub Sr) (Frz.sub (Sub.bool hok.symm)) Sr
theorem side_spec (x : GSide) (n : Int) : Fun1 prog 298 [rSide.ty x, tV (.int .i64 n)] (tV (.bool (sideM x n))) := by
 refine Spec.enter func298 rfl rfl fun h0 w0 fr0 => ?_
 refine Jr (Js rfl (step_box (R := rSide) Sr) (Ja rfl (JL_nil (J_seq (Jr ?_)))))
 refine Js rfl (step_fieldAddr so91 Sr rfl) (Jl rfl ty3 Sr (Js rfl (step_eql Sr Sr) (JL_nil ?_)))
 refine J_cond Sr (fun h7 => ?_) (fun h7 => ?_)
 ·
  try simp only [NF] at h7
  refine Jr (Js rfl (step_fieldAddr so91 Sr rfl) (Jl rfl ty3 Sr (Js rfl (step_eql Sr Sr) (Jm rfl ?_))))
  refine Jk rfl Sr rfl (step_fieldAddr so91 Sr rfl) ?_
  refine Jg rfl Sr rfl (fun hw => step_load_ptr ty87 (Sub.w hw)) (Jg rfl Sr rfl (fun hw => step_call0 (Valid_spec _) ⟨(Sub.w hw), trivial⟩ call50) (Js rfl (step_pick_and Sr Sr) (Ja rfl (JL_nil (J_ret ?_)))))
  refine K_ret1 (t := 4) rfl () ?_
  refine Sub.bool ?_
  simp [sideM, h7]
 try simp only [NF] at h7
 refine J_skip (Jr (Js rfl (step_fieldAddr so91 Sr rfl) (Jl rfl ty3 Sr (Js rfl (step_eql Sr Sr) (Jm rfl ?_)))))
 refine Jk rfl Sr rfl (step_fieldAddr so91 Sr rfl) ?_
 refine Jg rfl Sr rfl (fun hw => step_load_ptr ty3 (Sub.w hw)) (Jg rfl Sr rfl (fun hw => step_geq (Sub.w hw) Sr) (Js rfl (step_pick_and Sr Sr) (Jm rfl ?_)))
 refine Jk rfl Sr rfl (step_fieldAddr so91 Sr rfl) ?_
 refine Jg rfl Sr rfl (fun hw => step_load_ptr ty3 (Sub.w hw)) ?_
 refine Jk rfl Sr rfl (step_move Sr) ?_
 refine Jg rfl Sr rfl (fun hw => step_lss (Sub.w hw) (Sub.w hw)) (Js rfl (step_pick_and Sr Sr) (Jm rfl ?_))
 refine Jk rfl Sr rfl (step_fieldAddr so91 Sr rfl) ?_
 refine Jg rfl Sr rfl (fun hw => step_load_ptr ty87 (Sub.w hw)) ?_
 refine Jk rfl Sr rfl (step_build (x := (⟨0, 0, ⟨#[]⟩⟩ : GValue)) (zs := [[Value.int .i64 0], [Value.int .i64 0], [Value.string ⟨#[]⟩]]) so87 (fun w => zeroValue87 w) trivial ⟨fun _ => rfl, fun _ => rfl, fun _ => rfl, trivial⟩) ?_
 refine Jg rfl Sr rfl (fun hw => step_eql_val (Sub.w hw) (Sub.w hw)) (Js rfl (step_pick_and Sr Sr) (Ja rfl (JL_nil (J_ret ?_))))
 refine K_ret1 (t := 4) rfl () ?_
 refine Sub.bool ?_
 simp [sideM, h7]
theorem testR_spec (t : GTest) (n : Int) : Fun1 prog 248 [rTest.ty t, tV (.int .i64 n)] (tV (.bool (testOk t n))) := by
 refine Spec.enter func248 rfl rfl fun h0 w0 fr0 => ?_
 refine Jr (Js rfl (step_box (R := rTest) Sr) (Ja rfl (JL_nil (Jr (Js rfl (step_fieldAddr so93 Sr rfl) ?_)))))
 refine Jl rfl ty3 Sr (Js rfl (step_geq Sr Sr) (Jm rfl ?_))
 refine Jk rfl Sr rfl (step_fieldAddr so93 Sr rfl) ?_
 refine Jg rfl Sr rfl (fun hw => step_load_ptr ty3 (Sub.w hw)) (Jg rfl Sr rfl (fun hw => step_leq (Sub.w hw) Sr) (Js rfl (step_pick_and Sr Sr) (Jm rfl ?_)))
 refine Jk rfl Sr rfl (step_fieldAddr so93 Sr rfl) ?_
 refine Jg rfl Sr rfl (fun hw => step_load_ptr ty91 (Sub.w hw)) ?_
 refine Jk rfl Sr rfl (step_move Sr) ?_
 refine Jg rfl Sr rfl (fun hw => step_call0 (side_spec _ _) ⟨(Sub.w hw), (Sub.w hw), trivial⟩ call298) (Js rfl (step_pick_and Sr Sr) (Jm rfl ?_))
 refine Jk rfl Sr rfl (step_fieldAddr so93 Sr rfl) ?_
 refine Jg rfl Sr rfl (fun hw => step_load_ptr ty91 (Sub.w hw)) ?_
 refine Jk rfl Sr rfl (step_move Sr) ?_
 refine Jg rfl Sr rfl (fun hw => step_call0 (side_spec _ _) ⟨(Sub.w hw), (Sub.w hw), trivial⟩ call298) (Js rfl (step_pick_and Sr Sr) (Jm rfl ?_))
 refine Jk rfl Sr rfl (step_fieldAddr so93 Sr rfl) ?_
 refine Jg rfl Sr rfl (fun hw => step_fieldAddr so91 (Sub.w hw) rfl) (Jg rfl Sr rfl (fun hw => step_load_ptr ty3 (Sub.w hw)) (Jg rfl Sr rfl (fun hw => step_eql (Sub.w hw) Sr) (Jg rfl Sr rfl (fun hw => step_move (Sub.w hw)) ?_)))
 refine Ji rfl Sr rfl (step_fieldAddr so93 Sr rfl) ?_
 refine Jh rfl Sr rfl (fun hw => step_fieldAddr so91 (Sub.w hw) rfl) (Jh rfl Sr rfl (fun hw => step_load_ptr ty3 (Sub.w hw)) (Jh rfl Sr rfl (fun hw => step_eql (Sub.w hw) Sr) (Jg rfl Sr rfl (fun hw => step_pick_or (Sub.w hw) (Sub.ww hw)) (Js rfl (step_pick_and Sr Sr) (Ja rfl ?_)))))
 refine JL_nil (J_ret ?_)
 exact K_ret1 (t := 4) rfl () Sr
theorem selF_spec (t : GTest) (kid : List GAttr) : Fun1 prog 247 [rTest.ty t, tPtr (rSl rAttr) kid] (tV (.bool (!testOk t kid.length))) := by
 refine Spec.enter func247 rfl rfl fun h0 w0 fr0 => ?_
 refine Jr (Js rfl (step_box (R := rTest) Sr) (Ja rfl (JL_nil (Jr (Jl rfl ty93 Sr ?_)))))
 refine Jl rfl ty44 Sr (Js rfl (step_len_sl underlying44 Sr) (Js rfl (step_call0 (testR_spec _ _) ⟨Sr, Sr, trivial⟩ call248) (Js rfl (step_not Sr) (Ja rfl (JL_nil ?_)))))
 refine J_ret ?_
 exact K_ret1 (t := 3) rfl () Sr
open Go Go.Proofs Go.Proofs.Tryz
theorem Sub.tupSB {α : Type} {R : Rp α} {xs ys : List α} {a b : Bool} (h1 : xs = ys) (h2 : a = b) : Sub (tTup [tSl R xs, tV (.bool a)]) (tTup [tSl R ys, tV (.bool b)]) := by subst h1 h2; exact Sr
theorem pickM_len (l : List GAttr) (cols : List Int) : (pickM l cols).length ≤ cols.length := by unfold pickM; split <;> simp [pickL]
theorem kids_pos {n : Nat} {xs : List GPlan} {h : PH} {v : Value} (hp : 0 < xs.length) (hv : (tSl (rPlan n) xs).p h v) : ∃ m, n = m + 1 := by
  obtain ⟨ao, cap, e, H⟩ := hv
  obtain ⟨b, off, ea, H2⟩ := H (by intro q; subst q; simp at hp)
  obtain ⟨cs, _, r⟩ := H2 0 (xs[0]) (List.getElem?_eq_getElem hp)
  exact rPl_pos cPl rAttr rTest r
theorem plan_pos {n : Nat} {p : Gplan} {h : PH} {v : Value} (hp : 0 < p.Plan.Kids.length) (hv : ((rplan n).ty p).p h v) : ∃ m, n = m + 1 := by
  obtain ⟨cs, r, _⟩ := hv
  obtain ⟨c0, _, rfl, r0, _⟩ := r
  obtain ⟨d0, _, rfl, _, d1, _, rfl, _, d2, _, rfl, r2, _⟩ := (show SF.rel h p.Plan (fsPl cPl rAttr rTest (rPlan n)) c0 from r0)
  obtain ⟨u, _, hu⟩ := r2
  exact kids_pos hp hu
set_option maxHeartbeats 2000000 in
theorem plTable_spec (n : Nat) (p : Gplan) (hz : SchSz p.schema) (hl : p.Plan.Attrs.length ≤ 1000000000) : Fun1 prog 170 [(rplan n).ty p] (tTup [tSl rAttr (if 0 ≤ p.Plan.Table ∧ p.Plan.Table < p.schema.Tables.length then tableL (nth p.schema.Tables p.Plan.Table.toNat) p.Plan.Attrs else []), tV (.bool (decide (0 ≤ p.Plan.Table ∧ p.Plan.Table < p.schema.Tables.length)))]) := by
 refine Spec.enter func170 rfl rfl fun h0 w0 fr0 => ?_
 refine Jr (Js rfl (step_box (R := (rplan n)) Sr) (Ja rfl (Ja rfl (JL_nil (J_seq ?_)))))
 refine Jr (Js rfl (step_fieldAddr so217 Sr rfl) (Js rfl (step_fieldAddr so46 Sr rfl) (Jl rfl ty3 Sr (Js rfl (step_lss Sr Sr) (Jm rfl ?_)))))
 refine Jk rfl Sr rfl (step_fieldAddr so217 Sr rfl) ?_
 refine Jg rfl Sr rfl (fun hw => step_fieldAddr so46 (Sub.w hw) rfl) (Jg rfl Sr rfl (fun hw => step_load_ptr ty3 (Sub.w hw)) ?_)
 refine Jk rfl Sr rfl (step_fieldAddr so217 Sr rfl) ?_
 refine Jg rfl Sr rfl (fun hw => step_fieldAddr so41 (Sub.w hw) rfl) (Jg rfl Sr rfl (fun hw => step_load_ptr ty39 (Sub.w hw)) (Jg rfl Sr rfl (fun hw => step_len_sl underlying39 (Sub.w hw)) (Jg rfl Sr rfl (fun hw => step_geq (Sub.w hw) (Sub.w hw)) (Js rfl (step_pick_or Sr Sr) (JL_nil ?_)))))
 refine J_cond Sr (fun h20 => ?_) (fun h20 => ?_)
 ·
  try simp only [NF] at h20
  refine Jr (Ja rfl (Ja rfl (JL_nil (J_ret ?_))))
  refine K_ret2' (rv := .tmp 2) (rv' := .tmp 3) rfl () (Sel.all _) (.tmp Sr) (.tmp Sr) (B := tSl rAttr []) (B' := tV (.bool false)) (Frz.sub Sub.nilsl) (Frz.sub Sr) ?_
  rw [if_neg zG, decide_eq_false zG]
  exact Sr
 try simp only [NF] at h20
 have hin : 0 ≤ p.Plan.Table ∧ p.Plan.Table < p.schema.Tables.length := by omega
 have hT := hz.tab _ (nth_mem (l := p.schema.Tables) (i := p.Plan.Table.toNat) zG)
 have hTl := hT.at'
 refine J_skip (Jr (Js rfl (step_fieldAddr so217 Sr rfl) (Js rfl (step_fieldAddr so41 Sr rfl) (Jl rfl ty39 Sr (Js rfl (step_fieldAddr so217 Sr rfl) ?_)))))
 refine Js rfl (step_fieldAddr so46 Sr rfl) (Jl rfl ty3 Sr ?_)
 refine Js rfl (step_indexAddr_sl (i := p.Plan.Table.toNat) underlying39 ty76 Sr Sr (by show p.Plan.Table = _; omega) (gb (by show p.Plan.Table.toNat < p.schema.Tables.length; omega))) ?_
 refine Jl rfl ty76 Sr ?_
 refine Jx rfl (step_alloc (fun w => zeroValue76 w) zr76) fun v4 => ?_
 refine Ju (step_store_box ty76 Sr Sr zS) fun _ => ?_
 refine JL_freeze (t := 4) (Sel.take (Sel.none _)) Frz.box ?_
 refine JL_nil (Jr (Js rfl (step_fieldAddr so76 Sr rfl) (Jl rfl ty44 Sr ?_)))
 refine Jx rfl (step_call (Sel.none _) (CloneA_spec _ hTl) ⟨Sr, trivial⟩ call158) fun v31 => ?_
 refine Ja rfl (JL_nil (J_seq (Jr (Jm rfl ?_))))
 refine Js rfl (step_len_own underlying44 Sr zS) ?_
 refine Js rfl (step_fieldAddr so217 Sr rfl) (Js rfl (step_fieldAddr so46 Sr rfl) (Jl rfl ty44 Sr (Js rfl (step_len_sl underlying44 Sr) (Js rfl (step_min Sr Sr) (Jm rfl ?_)))))
 refine JL_nil (J_block ?_)
 refine J_loopL (σ := Nat) (fun i => i ≤ (nth p.schema.Tables p.Plan.Table.toNat).Attrs.length ∧ i ≤ p.Plan.Attrs.length) (fun i => upd (upd (upd (upd (upd (upd (upd env0 1 (tPtr (rplan n) p)) 2 (tV (.slice none 0 0))) 3 (tV (.bool false))) 4 (tPtr rTable (nth p.schema.Tables p.Plan.Table.toNat))) 5 (rV.ty v31)) 38 (tV (.int .i64 (if (p.Plan.Attrs.length : Int) < ((nth p.schema.Tables p.Plan.Table.toNat).Attrs.length : Int) then (p.Plan.Attrs.length : Int) else ((nth p.schema.Tables p.Plan.Table.toNat).Attrs.length : Int))))) 39 (tV (.int .i64 i))) (fun i => [own 89 rAttr v31 (tabI (nth p.schema.Tables p.Plan.Table.toNat) p.Plan.Attrs i)]) (fun i => (nth p.schema.Tables p.Plan.Table.toNat).Attrs.length - i) 0 ⟨by omega, by omega⟩ (zU) (.c zS (SPs.of (A := own 89 rAttr v31 (nth p.schema.Tables p.Plan.Table.toNat).Attrs) (by rw [tab0])) (LSub.nil)) ?_
 rintro i ⟨hi, hi2⟩
 refine Jr (Js rfl (step_lss Sr Sr) (JL_nil (J_seq ?_)))
 refine J_cond Sr (fun h40 => ?_) (fun h40 => ?_)
 ·
  try simp only [NF] at h40
  have hlt : i < (nth p.schema.Tables p.Plan.Table.toNat).Attrs.length ∧ i < p.Plan.Attrs.length := by split at h40 <;> omega
  have hlt1 := hlt.1
  have hlt2 := hlt.2
  refine J_skip (J_seq (J_block (Jr (Jm rfl (Ja rfl ?_)))))
  refine JL_nil (J_seq ?_)
  refine J_draw [⟨0, [4], true⟩, ⟨1, [1], true⟩, ⟨2, [43], true⟩, ⟨3, [44], true⟩, ⟨4, [6], true⟩, ⟨5, [45, 46], true⟩, ⟨6, [47], true⟩, ⟨7, [48], true⟩, ⟨8, [42, 49], true⟩, ⟨9, [6], true⟩, ⟨10, [50, 51], true⟩] rfl (by kernel_rfl) ?_
  refine Mf rfl rfl (step_load_ptr ty76 Sr) (Mf rfl rfl (step_fieldAddr so217 Sr rfl) (Mf rfl rfl (step_fieldAddr so46 Sr rfl) (Mf rfl rfl (step_load_ptr ty44 Sr) (Mv rfl rfl ?_))))
  refine Mf rfl rfl (step_indexAddr_sl (i := i) underlying44 ty89 Sr Sr (by rfl) (gb (by exact hlt2))) ?_
  refine Mf rfl rfl (step_fieldAddr so89 Sr rfl) (Mf rfl rfl (step_load_ptr ty9 Sr) ?_)
  refine Mf rfl rfl (step_call0 (Column_spec _ _ zG (fun a ha => Nat.le_trans (hT.was a ha) (by decide))) ⟨Sr, Sr, trivial⟩ call245) ?_
  refine Mv rfl rfl (Mf rfl rfl (step_eql Sr Sr) (JM_nil ?_))
  refine J_cond Sr (fun h52 => ?_) (fun h52 => ?_)
  ·
   try simp only [NF] at h52
   refine J_region (Jm rfl (Jm rfl (Js rfl (step_fieldAddr so217 Sr rfl) (Js rfl (step_fieldAddr so46 Sr rfl) (Jl rfl ty44 Sr ?_)))))
   refine Jm rfl ?_
   refine Js rfl (step_indexAddr_sl (i := i) underlying44 ty89 Sr Sr (by rfl) (gb (by exact hlt2))) ?_
   refine Js rfl (step_fieldAddr so89 Sr rfl) (Jl rfl ty9 Sr ?_)
   refine Js rfl (step_indexAddr_own (i := i) underlying44 ty89 Sr zS Sr (by rfl) (by show i < (tabI _ _ _).length; rw [tabI_len]; exact hlt1)) ?_
   refine Js rfl (step_fieldAddr_elem (i := i) so89 Sr rfl zS (by show i < (tabI _ _ _).length; rw [tabI_len]; exact hlt1)) ?_
   refine Ju (step_store_elemfld (i := i) (y := nth (tabI (nth p.schema.Tables p.Plan.Table.toNat) p.Plan.Attrs i) i) (y' := { nth (tabI (nth p.schema.Tables p.Plan.Table.toNat) p.Plan.Attrs i) i with Name := (nth p.Plan.Attrs i).Name }) ty9 Sr Sr zS (gb (by rw [tabI_len]; exact hlt1)) ⟨fun _ _ q => q, rfl, by intro g hg; simp only [List.mem_cons, List.not_mem_nil, or_false] at hg; rcases hg with rfl | rfl | rfl <;> rfl⟩) fun _ => ?_
   refine JL_nil (J_region (Js rfl (step_add Sr Sr z6) (Jm rfl (JL_nil ?_))))
   refine K_againL (σ := Nat) (s := i) (i + 1) zO ⟨by omega, by omega⟩ (zU) (.c zS (SPs.of (A := own 89 rAttr v31 ((tabI (nth p.schema.Tables p.Plan.Table.toNat) p.Plan.Attrs i).set i { nth (tabI (nth p.schema.Tables p.Plan.Table.toNat) p.Plan.Attrs i) i with Name := (nth p.Plan.Attrs i).Name })) (by rw [tab_set hlt1 hlt2 h52])) (LSub.nil))
  try simp only [NF] at h52
  refine J_skip (J_region (Js rfl (step_add Sr Sr z6) (Jm rfl (JL_nil ?_))))
  refine K_againL (σ := Nat) (s := i) (i + 1) zO ⟨by omega, by omega⟩ (zU) (.c zS (SPs.of (A := own 89 rAttr v31 (tabI (nth p.schema.Tables p.Plan.Table.toNat) p.Plan.Attrs i)) (by rw [tab_keep hlt1 h52])) (LSub.nil))
 try simp only [NF] at h40
 have hfull : tabI (nth p.schema.Tables p.Plan.Table.toNat) p.Plan.Attrs i = tableL (nth p.schema.Tables p.Plan.Table.toNat) p.Plan.Attrs := tab_full (by split at h40 <;> omega)
 refine J_exit (Jr (Jm rfl (Ja rfl (Ja rfl (JL_nil ?_)))))
 refine J_ret ?_
 refine K_ret2' (rv := .tmp 2) (rv' := .tmp 3) rfl () (Sel.all _) (.tmp Sr) (.tmp Sr) (B := tSl rAttr (tabI (nth p.schema.Tables p.Plan.Table.toNat) p.Plan.Attrs i)) (B' := tV (.bool true)) (Frz.own) (Frz.sub Sr) ?_
 rw [if_pos hin, decide_eq_true hin, hfull]
 exact Sr
theorem plSel_spec (n : Nat) (p : Gplan) (hk0 : 0 < p.Plan.Kids.length) (hl : p.Plan.Tests.length ≤ 1000000000) : Fun1 prog 173 [(rplan n).ty p] (tTup [tSl rAttr (nth p.Plan.Kids 0).Attrs, tV (.bool (decide (0 < (p.Plan.Tests.length : Int)) && !(p.Plan.Tests.any fun t => !testOk t (nth p.Plan.Kids 0).Attrs.length)))]) := by
 refine Spec.enter func173 rfl rfl fun h0 w0 fr0 => ?_
 refine K_fact 0 (fun _ _ r => plan_pos hk0 r) fun hm => ?_
 obtain ⟨n, rfl⟩ := hm
 refine Jr (Js rfl (step_box (R := (rplan (n + 1))) Sr) (Ja rfl (Ja rfl (JL_nil (Jr ?_)))))
 refine Js rfl (step_fieldAddr so217 Sr rfl) (Js rfl (step_fieldAddr so46 Sr rfl) (Jl rfl ty42 Sr ?_))
 refine Js rfl (step_indexAddr_sl (i := 0) underlying42 ty46 Sr Sr (by rfl) (gb (by exact hk0))) ?_
 refine Js rfl (step_fieldAddr so46 Sr rfl) (Jl rfl ty44 Sr ?_)
 refine Jx rfl (step_alloc (fun w => zeroValue44 w) zr44) fun v4 => ?_
 refine Ju (step_store_box ty44 Sr Sr zS) fun _ => ?_
 refine JL_freeze (t := 4) (Sel.take (Sel.none _)) Frz.box ?_
 refine JL_nil (J_seq ?_)
 refine J_draw [⟨0, [4], true⟩, ⟨1, [1], true⟩, ⟨2, [12], true⟩, ⟨3, [13], true⟩, ⟨4, [14], true⟩, ⟨5, [15], true⟩, ⟨6, [16], true⟩, ⟨7, [1, 17], true⟩, ⟨8, [17, 18], true⟩, ⟨9, [17, 19], true⟩, ⟨10, [4, 17], true⟩, ⟨11, [17, 20, 21], true⟩, ⟨12, [17, 22], true⟩, ⟨13, [17, 23], true⟩, ⟨14, [11], true⟩, ⟨15, [24], true⟩] rfl (by kernel_rfl) ?_
 refine Mf rfl rfl (step_load_ptr ty44 Sr) (Mf rfl rfl (step_fieldAddr so217 Sr rfl) (Mf rfl rfl (step_fieldAddr so46 Sr rfl) (Mf rfl rfl (step_load_ptr ty43 Sr) (Mf rfl rfl (step_len_sl underlying43 Sr) (Mf rfl rfl (step_gtr Sr Sr) ?_)))))
 refine Mv rfl rfl ?_
 refine Mk rfl rfl Sr rfl (step_fieldAddr so217 Sr rfl) ?_
 refine Mg rfl rfl Sr rfl (fun hw => step_fieldAddr so46 (Sub.w hw) rfl) (Mg rfl rfl Sr rfl (fun hw => step_load_ptr ty43 (Sub.w hw)) ?_)
 refine Mk rfl rfl Sr rfl (step_makeFunc (As := [_]) ⟨Sr, trivial⟩) ?_
 refine Mg rfl rfl Sr rfl (fun hw => step_call0 (ContainsFuncT_spec p.Plan.Tests zG 247 [tPtr (rSl rAttr) (nth p.Plan.Kids 0).Attrs] (fun t => !testOk t (nth p.Plan.Kids 0).Attrs.length) (fun x _ => selF_spec x _) call247) ⟨(Sub.w hw), (Sub.w hw), trivial⟩ call246) (Mg rfl rfl Sr rfl (fun hw => step_not (Sub.w hw)) (Mf rfl rfl (step_pick_and Sr Sr) (Mf rfl rfl (step_assign Sr) (Mf rfl rfl (step_assign Sr) (JM_nil ?_)))))
 refine J_ret ?_
 refine K_ret2' (rv := .tmp 2) (rv' := .tmp 3) rfl () (Sel.all _) (.tmp Sr) (.tmp Sr) (Frz.sub Sr) (Frz.sub Sr) Sr
theorem plProj_spec (n : Nat) (p : Gplan) (hk0 : 0 < p.Plan.Kids.length) (hl : p.Plan.Cols.length ≤ 1000000000) : Fun1 prog 176 [(rplan n).ty p] (tTup [tSl rAttr (pickM (nth p.Plan.Kids 0).Attrs p.Plan.Cols), tV (.bool (pickOk (nth p.Plan.Kids 0).Attrs.length p.Plan.Cols))]) := by
 refine Spec.enter func176 rfl rfl fun h0 w0 fr0 => ?_
 refine K_fact 0 (fun _ _ r => plan_pos hk0 r) fun hm => ?_
 obtain ⟨n, rfl⟩ := hm
 refine Jr (Js rfl (step_box (R := (rplan (n + 1))) Sr) (Ja rfl (Ja rfl (JL_nil (J_seq ?_)))))
 refine J_draw [⟨0, [1], true⟩, ⟨1, [4], true⟩, ⟨2, [5], true⟩, ⟨3, [6], true⟩, ⟨4, [7], true⟩, ⟨5, [8], true⟩, ⟨6, [1], true⟩, ⟨7, [10], true⟩, ⟨8, [11], true⟩, ⟨9, [9, 12], false⟩, ⟨10, [13], true⟩, ⟨11, [13], true⟩, ⟨12, [14], true⟩, ⟨13, [15], true⟩] rfl (by kernel_rfl) ?_
 refine Mf rfl rfl (step_fieldAddr so217 Sr rfl) (Mf rfl rfl (step_fieldAddr so46 Sr rfl) (Mf rfl rfl (step_load_ptr ty42 Sr) ?_))
 refine Mf rfl rfl (step_indexAddr_sl (i := 0) underlying42 ty46 Sr Sr (by rfl) (gb (by exact hk0))) ?_
 refine Mf rfl rfl (step_fieldAddr so46 Sr rfl) (Mf rfl rfl (step_load_ptr ty44 Sr) (Mf rfl rfl (step_fieldAddr so217 Sr rfl) (Mf rfl rfl (step_fieldAddr so46 Sr rfl) (Mf rfl rfl (step_load_ptr ty36 Sr) ?_))))
 refine JM_stepX rfl rfl rfl rfl (step_call (Sel.none _) (pickA_spec _ _ hl) ⟨Sr, Sr, trivial⟩ call255) fun v13 => ?_
 refine Mf rfl rfl (step_extract Sr rfl) (Mf rfl rfl (step_extract Sr rfl) (Mf rfl rfl (step_assign Sr) (Mf rfl rfl (step_assign Sr) (JM_nil (J_ret ?_)))))
 refine K_ret2' (rv := .tmp 2) (rv' := .tmp 3) rfl () (Sel.all _) (.tmp Sr) (.tmp Sr) (Frz.own) (Frz.sub Sr) Sr
set_option maxHeartbeats 2000000 in
theorem plJoin_spec (n : Nat) (p : Gplan) (hk1 : 1 < p.Plan.Kids.length) (hl0 : (nth p.Plan.Kids 0).Attrs.length ≤ 100000000) (hl1 : (nth p.Plan.Kids 1).Attrs.length ≤ 100000000) : Fun1 prog 178 [(rplan n).ty p] (tTup [tSl rAttr (if joinOk (nth p.Plan.Kids 0).Attrs (nth p.Plan.Kids 1).Attrs = true then joinL (nth p.Plan.Kids 0).Attrs (nth p.Plan.Kids 1).Attrs else []), tV (.bool (joinOk (nth p.Plan.Kids 0).Attrs (nth p.Plan.Kids 1).Attrs))]) := by
 refine Spec.enter func178 rfl rfl fun h0 w0 fr0 => ?_
 have hk0 : 0 < p.Plan.Kids.length := by omega
 refine K_fact 0 (fun _ _ r => plan_pos hk0 r) fun hm => ?_
 obtain ⟨n, rfl⟩ := hm
 refine Jr (Js rfl (step_box (R := (rplan (n + 1))) Sr) (Ja rfl (Ja rfl (JL_nil (Jr ?_)))))
 refine Js rfl (step_fieldAddr so217 Sr rfl) (Js rfl (step_fieldAddr so46 Sr rfl) (Jl rfl ty42 Sr ?_))
 refine Js rfl (step_indexAddr_sl (i := 0) underlying42 ty46 Sr Sr (by rfl) (gb (by exact hk0))) ?_
 refine Js rfl (step_fieldAddr so46 Sr rfl) (Jl rfl ty44 Sr ?_)
 refine Jx rfl (step_call (Sel.none _) (CloneA_spec _ (by show (nth p.Plan.Kids 0).Attrs.length ≤ _; omega)) ⟨Sr, trivial⟩ call158) fun v14 => ?_
 refine Ja rfl (JL_nil (J_seq (Jr (Js rfl (step_fieldAddr so217 Sr rfl) (Js rfl (step_fieldAddr so46 Sr rfl) ?_)))))
 refine Jl rfl ty42 Sr ?_
 refine Js rfl (step_indexAddr_sl (i := 1) underlying42 ty46 Sr Sr (by rfl) (gb (by exact hk1))) ?_
 refine Js rfl (step_fieldAddr so46 Sr rfl) (Jl rfl ty44 Sr (Js rfl (step_len_sl underlying44 Sr) (Jm rfl (JL_nil (J_block ?_)))))
 refine J_loopL (σ := Nat × Value) (fun ⟨i, v⟩ => i ≤ (nth p.Plan.Kids 1).Attrs.length ∧ ∀ k, k < i → (decide (columnL (nth p.Plan.Kids 0).Attrs (nth (nth p.Plan.Kids 1).Attrs k).Name < 0) || decide ((nth (nth p.Plan.Kids 0).Attrs (columnL (nth p.Plan.Kids 0).Attrs (nth (nth p.Plan.Kids 1).Attrs k).Name).toNat).Kind = (nth (nth p.Plan.Kids 1).Attrs k).Kind)) = true) (fun ⟨i, v⟩ => upd (upd (upd (upd (upd env0 1 (tPtr (rplan (n + 1)) p)) 4 (rV.ty v)) 20 (tSl rAttr (nth p.Plan.Kids 1).Attrs)) 21 (tV (.int .i64 (nth p.Plan.Kids 1).Attrs.length))) 22 (tV (.int .i64 i))) (fun ⟨i, v⟩ => [own 89 rAttr v (joinL (nth p.Plan.Kids 0).Attrs ((nth p.Plan.Kids 1).Attrs.take i))]) (fun ⟨i, v⟩ => (nth p.Plan.Kids 1).Attrs.length - i) (0, v14) ⟨by omega, fun k hk => by omega⟩ (zU) (.c zS (SPs.of (A := own 89 rAttr v14 (nth p.Plan.Kids 0).Attrs) (by rw [List.take_zero]; simp [joinL])) (LSub.nil)) ?_
 rintro ⟨i, v⟩ ⟨hi, hv⟩
 refine Jr (Js rfl (step_lss Sr Sr) (JL_nil (J_seq ?_)))
 refine J_cond Sr (fun h23 => ?_) (fun h23 => ?_)
 ·
  try simp only [NF] at h23
  have hlt : i < (nth p.Plan.Kids 1).Attrs.length := by omega
  have hcl := col_lt (nth p.Plan.Kids 0).Attrs (nth (nth p.Plan.Kids 1).Attrs i).Name
  have hjl := joinL_len (nth p.Plan.Kids 0).Attrs ((nth p.Plan.Kids 1).Attrs.take i)
  rw [List.length_take] at hjl
  have hsn := join_snoc (a := (nth p.Plan.Kids 0).Attrs) (l := (nth p.Plan.Kids 1).Attrs.take i) (x := nth (nth p.Plan.Kids 1).Attrs i)
  rw [← takeB hlt] at hsn
  refine J_skip (J_seq (J_block (Jr ?_)))
  refine Js rfl (step_indexAddr_sl  underlying44 ty89 Sr Sr rfl (gb (by exact hlt))) ?_
  refine Jl rfl ty89 Sr ?_
  refine Jx rfl (step_alloc (fun w => zeroValue89 w) zr89) fun v6 => ?_
  refine Ju (step_store_box ty89 Sr Sr zS) fun _ => ?_
  refine JL_freeze (t := 6) (Sel.take (Sel.none _)) Frz.box ?_
  refine JL_nil (J_seq ?_)
  refine J_draw [⟨0, [1], true⟩, ⟨1, [26], true⟩, ⟨2, [27], true⟩, ⟨3, [28], true⟩, ⟨4, [29], true⟩, ⟨5, [30], true⟩, ⟨6, [6], true⟩, ⟨7, [32], true⟩, ⟨8, [31, 33], true⟩, ⟨9, [34], true⟩] rfl (by kernel_rfl) ?_
  refine Mf rfl rfl (step_fieldAddr so217 Sr rfl) (Mf rfl rfl (step_fieldAddr so46 Sr rfl) (Mf rfl rfl (step_load_ptr ty42 Sr) ?_))
  refine Mf rfl rfl (step_indexAddr_sl (i := 0) underlying42 ty46 Sr Sr (by rfl) (gb (by exact hk0))) ?_
  refine Mf rfl rfl (step_fieldAddr so46 Sr rfl) (Mf rfl rfl (step_load_ptr ty44 Sr) (Mf rfl rfl (step_fieldAddr so89 Sr rfl) (Mf rfl rfl (step_load_ptr ty9 Sr) ?_)))
  refine Mf rfl rfl (step_call0 (acolumn_spec _ _ (by show (nth p.Plan.Kids 0).Attrs.length ≤ _; omega)) ⟨Sr, Sr, trivial⟩ call166) ?_
  refine Mf rfl rfl (step_assign Sr) (JM_nil (J_block (Jr (Jm rfl (Js rfl (step_lss Sr Sr) ?_)))))
  refine Ja rfl (JL_nil ?_)
  refine J_cond Sr (fun h35 => ?_) (fun h35 => ?_)
  ·
   try simp only [NF] at h35
   refine J_region (Jm rfl (Jl rfl ty89 Sr ?_))
   refine Js rfl (step_literal (ys := [_]) underlying44 el89 ⟨rfl, Sr, trivial⟩ rfl (by decide)) ?_
   refine Jx rfl (step_append underlying44 el89 Sr Sr zS (by simp; omega) (by simp; omega)) fun v41 => ?_
   refine Ja rfl (JL_nil (J_region (Js rfl (step_add Sr Sr z6) (Jm rfl (JL_nil ?_)))))
   refine K_againL (σ := Nat × Value) (s := (i, v)) (i + 1, v41) zO ?_ (zU) (.c zS (SPs.of (A := own 89 rAttr v41 ((joinL (nth p.Plan.Kids 0).Attrs ((nth p.Plan.Kids 1).Attrs.take i)) ++ [nth (nth p.Plan.Kids 1).Attrs i])) (by rw [hsn, if_pos h35])) (LSub.nil))
   refine ⟨by omega, fun k hk => ?_⟩
   by_cases e : k = i
   ·
    subst e; simp [h35]
   exact hv k zG
  try simp only [NF] at h35
  have hjn : nth (joinL (nth p.Plan.Kids 0).Attrs ((nth p.Plan.Kids 1).Attrs.take i)) (columnL (nth p.Plan.Kids 0).Attrs (nth (nth p.Plan.Kids 1).Attrs i).Name).toNat = nth (nth p.Plan.Kids 0).Attrs (columnL (nth p.Plan.Kids 0).Attrs (nth (nth p.Plan.Kids 1).Attrs i).Name).toNat := join_nth zG
  refine J_seq ?_
  refine J_draw [⟨0, [4], true⟩, ⟨1, [7], true⟩, ⟨5, [6], true⟩, ⟨6, [48], true⟩, ⟨2, [43, 44], false⟩, ⟨3, [45], false⟩, ⟨4, [46], false⟩, ⟨7, [47, 49], true⟩, ⟨8, [50], true⟩] rfl (by kernel_rfl) ?_
  refine Mv rfl rfl (Mv rfl rfl (Mf rfl rfl (step_fieldAddr so89 Sr rfl) (Mf rfl rfl (step_load_ptr ty3 Sr) ?_)))
  refine JM_look rfl rfl rfl rfl (step_indexAddr_own (i := (columnL (nth p.Plan.Kids 0).Attrs (nth (nth p.Plan.Kids 1).Attrs i).Name).toNat) underlying44 ty89 Sr zS Sr (by show columnL (nth p.Plan.Kids 0).Attrs (nth (nth p.Plan.Kids 1).Attrs i).Name = _; omega) (by show _ < (joinL _ _).length; unfold joinL; rw [List.length_append]; omega)) ?_
  refine JM_look rfl rfl rfl rfl (step_fieldAddr_elem (i := (columnL (nth p.Plan.Kids 0).Attrs (nth (nth p.Plan.Kids 1).Attrs i).Name).toNat) so89 Sr rfl zS (by show _ < (joinL _ _).length; unfold joinL; rw [List.length_append]; omega)) ?_
  refine JM_look rfl rfl rfl rfl (step_load_elemfld (i := (columnL (nth p.Plan.Kids 0).Attrs (nth (nth p.Plan.Kids 1).Attrs i).Name).toNat) (f := ⟨Int, 3, rInt, GAttr.Kind⟩) ty3 Sr rfl zS (gb (by unfold joinL; rw [List.length_append]; omega))) ?_
  refine Mf rfl rfl (step_neq Sr Sr) (Mf rfl rfl (step_assign Sr) (JM_nil ?_))
  refine J_cond Sr (fun h42 => ?_) (fun h42 => ?_)
  ·
   try simp only [NF] at h42
   refine Jr (Ja rfl (Ja rfl (JL_nil (J_ret ?_))))
   refine K_ret2' (rv := .tmp 2) (rv' := .tmp 3) rfl () (Sel.all _) (.tmp Sr) (.tmp Sr) (B := tSl rAttr []) (B' := tV (.bool false)) (Frz.sub Sub.nilsl) (Frz.sub Sr) ?_
   have hno : joinOk (nth p.Plan.Kids 0).Attrs (nth p.Plan.Kids 1).Attrs = false := all_f hlt (by rw [hjn] at h42; simp [h42]; omega)
   rw [if_neg (by rw [hno]; simp), hno]
   exact Sr
  try simp only [NF] at h42
  refine J_skip (J_region (Js rfl (step_add Sr Sr z6) (Jm rfl (JL_nil ?_))))
  refine K_againL (σ := Nat × Value) (s := (i, v)) (i + 1, v) zO ?_ (zU) (.c zS (SPs.of (A := own 89 rAttr v (joinL (nth p.Plan.Kids 0).Attrs ((nth p.Plan.Kids 1).Attrs.take i))) (by rw [hsn, if_neg zG])) (LSub.nil))
  refine ⟨by omega, fun k hk => ?_⟩
  by_cases e : k = i
  ·
   subst e; rw [hjn] at h42; simp [h42]
  exact hv k zG
 try simp only [NF] at h23
 obtain rfl : i = (nth p.Plan.Kids 1).Attrs.length := by omega
 have hok : joinOk (nth p.Plan.Kids 0).Attrs (nth p.Plan.Kids 1).Attrs = true := all_t hv
 refine K_lsub (L' := [own 89 rAttr v (joinL (nth p.Plan.Kids 0).Attrs (nth p.Plan.Kids 1).Attrs)]) (.c zS (SPs.of (A := own 89 rAttr v (joinL (nth p.Plan.Kids 0).Attrs ((nth p.Plan.Kids 1).Attrs.take (nth p.Plan.Kids 1).Attrs.length))) (by rw [List.take_length])) (LSub.nil)) ?_
 refine J_exit (Jr (Jm rfl (Ja rfl (Ja rfl (JL_nil ?_)))))
 refine J_ret ?_
 refine K_ret2' (rv := .tmp 2) (rv' := .tmp 3) rfl () (Sel.all _) (.tmp Sr) (.tmp Sr) (B := tSl rAttr (joinL (nth p.Plan.Kids 0).Attrs (nth p.Plan.Kids 1).Attrs)) (B' := tV (.bool true)) (Frz.own) (Frz.sub Sr) ?_
 rw [if_pos hok, hok]
 exact Sr
theorem plBoth_spec (n : Nat) (p : Gplan) (hk1 : 1 < p.Plan.Kids.length) (hl0 : (nth p.Plan.Kids 0).Attrs.length ≤ 100000000) : Fun1 prog 180 [(rplan n).ty p] (tTup [tSl rAttr (nth p.Plan.Kids 0).Attrs, tV (.bool (alikeM (nth p.Plan.Kids 0).Attrs (nth p.Plan.Kids 1).Attrs))]) := by
 refine Spec.enter func180 rfl rfl fun h0 w0 fr0 => ?_
 have hk0 : 0 < p.Plan.Kids.length := by omega
 refine K_fact 0 (fun _ _ r => plan_pos hk0 r) fun hm => ?_
 obtain ⟨n, rfl⟩ := hm
 refine Jr (Js rfl (step_box (R := (rplan (n + 1))) Sr) (Ja rfl (Ja rfl (JL_nil (J_seq ?_)))))
 refine J_draw [⟨0, [1], true⟩, ⟨1, [4], true⟩, ⟨2, [5], true⟩, ⟨3, [6], true⟩, ⟨4, [7], true⟩, ⟨5, [8], true⟩, ⟨6, [1], true⟩, ⟨7, [10], true⟩, ⟨8, [11], true⟩, ⟨9, [12], true⟩, ⟨10, [13], true⟩, ⟨11, [14], true⟩, ⟨12, [1], true⟩, ⟨13, [16], true⟩, ⟨14, [17], true⟩, ⟨15, [18], true⟩, ⟨16, [19], true⟩, ⟨17, [20], true⟩, ⟨18, [15, 21], true⟩, ⟨19, [9], true⟩, ⟨20, [22], true⟩] rfl (by kernel_rfl) ?_
 refine Mf rfl rfl (step_fieldAddr so217 Sr rfl) (Mf rfl rfl (step_fieldAddr so46 Sr rfl) (Mf rfl rfl (step_load_ptr ty42 Sr) ?_))
 refine Mf rfl rfl (step_indexAddr_sl (i := 0) underlying42 ty46 Sr Sr (by rfl) (gb (by exact hk0))) ?_
 refine Mf rfl rfl (step_fieldAddr so46 Sr rfl) (Mf rfl rfl (step_load_ptr ty44 Sr) (Mf rfl rfl (step_fieldAddr so217 Sr rfl) (Mf rfl rfl (step_fieldAddr so46 Sr rfl) (Mf rfl rfl (step_load_ptr ty42 Sr) ?_))))
 refine Mf rfl rfl (step_indexAddr_sl (i := 0) underlying42 ty46 Sr Sr (by rfl) (gb (by exact hk0))) ?_
 refine Mf rfl rfl (step_fieldAddr so46 Sr rfl) (Mf rfl rfl (step_load_ptr ty44 Sr) (Mf rfl rfl (step_fieldAddr so217 Sr rfl) (Mf rfl rfl (step_fieldAddr so46 Sr rfl) (Mf rfl rfl (step_load_ptr ty42 Sr) ?_))))
 refine Mf rfl rfl (step_indexAddr_sl (i := 1) underlying42 ty46 Sr Sr (by rfl) (gb (by exact hk1))) ?_
 refine Mf rfl rfl (step_fieldAddr so46 Sr rfl) (Mf rfl rfl (step_load_ptr ty44 Sr) ?_)
 refine Mf rfl rfl (step_call0 (alike_spec _ _ (by show (nth p.Plan.Kids 0).Attrs.length ≤ _; omega)) ⟨Sr, Sr, trivial⟩ call167) ?_
 refine Mf rfl rfl (step_assign Sr) (Mf rfl rfl (step_assign Sr) (JM_nil (J_ret ?_)))
 refine K_ret2' (rv := .tmp 2) (rv' := .tmp 3) rfl () (Sel.all _) (.tmp Sr) (.tmp Sr) (Frz.sub Sr) (Frz.sub Sr) Sr
set_option maxHeartbeats 1000000 in
theorem plRen_spec (n : Nat) (p : Gplan) (hk0 : 0 < p.Plan.Kids.length) (hl0 : (nth p.Plan.Kids 0).Attrs.length ≤ 100000000) : Fun1 prog 183 [(rplan n).ty p] (tTup [tSl rAttr (if renOk p.Plan = true then renL p.Plan else []), tV (.bool (renOk p.Plan))]) := by
 refine Spec.enter func183 rfl rfl fun h0 w0 fr0 => ?_
 refine K_fact 0 (fun _ _ r => plan_pos hk0 r) fun hm => ?_
 obtain ⟨n, rfl⟩ := hm
 refine Jr (Js rfl (step_box (R := (rplan (n + 1))) Sr) (Ja rfl (Ja rfl (JL_nil (Jr ?_)))))
 refine Js rfl (step_fieldAddr so217 Sr rfl) (Js rfl (step_fieldAddr so46 Sr rfl) (Jl rfl ty42 Sr ?_))
 refine Js rfl (step_indexAddr_sl (i := 0) underlying42 ty46 Sr Sr (by rfl) (gb (by exact hk0))) ?_
 refine Js rfl (step_fieldAddr so46 Sr rfl) (Jl rfl ty44 Sr ?_)
 refine Jx rfl (step_call (Sel.none _) (CloneA_spec _ (by show (nth p.Plan.Kids 0).Attrs.length ≤ _; omega)) ⟨Sr, trivial⟩ call158) fun v11 => ?_
 refine Ja rfl (JL_nil (J_seq (Jr (Js rfl (step_fieldAddr so217 Sr rfl) (Js rfl (step_fieldAddr so46 Sr rfl) ?_)))))
 refine Jl rfl ty3 Sr (Js rfl (step_lss Sr Sr) (Jm rfl ?_))
 refine Jk rfl Sr rfl (step_fieldAddr so217 Sr rfl) ?_
 refine Jg rfl Sr rfl (fun hw => step_fieldAddr so46 (Sub.w hw) rfl) (Jg rfl Sr rfl (fun hw => step_load_ptr ty3 (Sub.w hw)) ?_)
 refine Jk rfl Sr rfl (step_move Sr) ?_
 refine Jg rfl Sr rfl (fun hw => step_len_own underlying44 (Sub.w hw) zS) ?_
 refine Jg rfl Sr rfl (fun hw => step_geq (Sub.w hw) (Sub.w hw)) (Js rfl (step_pick_or Sr Sr) (Jm rfl ?_))
 refine Jk rfl Sr rfl (step_fieldAddr so217 Sr rfl) ?_
 refine Jg rfl Sr rfl (fun hw => step_fieldAddr so46 (Sub.w hw) rfl) (Jg rfl Sr rfl (fun hw => step_load_ptr ty44 (Sub.w hw)) (Jg rfl Sr rfl (fun hw => step_len_sl underlying44 (Sub.w hw)) ?_))
 refine Jk rfl Sr rfl (step_move Sr) ?_
 refine Jg rfl Sr rfl (fun hw => step_len_own underlying44 (Sub.w hw) zS) ?_
 refine Jg rfl Sr rfl (fun hw => step_neq (Sub.w hw) (Sub.w hw)) (Js rfl (step_pick_or Sr Sr) (JL_nil ?_))
 refine J_cond Sr (fun h32 => ?_) (fun h32 => ?_)
 ·
  try simp only [NF] at h32
  refine Jr (Ja rfl (Ja rfl (JL_nil (J_ret ?_))))
  refine K_ret2' (rv := .tmp 2) (rv' := .tmp 3) rfl () (Sel.all _) (.tmp Sr) (.tmp Sr) (B := tSl rAttr []) (B' := tV (.bool false)) (Frz.sub Sub.nilsl) (Frz.sub Sr) ?_
  have hno : renOk p.Plan = false := by unfold renOk; rw [decide_eq_false_iff_not]; omega
  rw [if_neg (by rw [hno]; simp), hno]
  exact Sr
 try simp only [NF] at h32
 have hok : renOk p.Plan = true := by unfold renOk; rw [decide_eq_true_eq]; omega
 have hr : 0 ≤ p.Plan.Col ∧ p.Plan.Col < (nth p.Plan.Kids 0).Attrs.length ∧ p.Plan.Attrs.length = (nth p.Plan.Kids 0).Attrs.length := by omega
 refine J_skip (J_seq ?_)
 refine J_draw [⟨0, [4], true⟩, ⟨1, [1], true⟩, ⟨2, [34], true⟩, ⟨3, [35], true⟩, ⟨4, [1], true⟩, ⟨5, [37], true⟩, ⟨6, [38], true⟩, ⟨7, [1], true⟩, ⟨8, [40], true⟩, ⟨9, [41], true⟩, ⟨10, [39, 42], true⟩, ⟨11, [43], true⟩, ⟨12, [44], true⟩, ⟨13, [33, 36], false⟩, ⟨14, [46], false⟩, ⟨15, [45, 47], false⟩] rfl (by kernel_rfl) ?_
 refine Mv rfl rfl (Mf rfl rfl (step_fieldAddr so217 Sr rfl) (Mf rfl rfl (step_fieldAddr so46 Sr rfl) (Mf rfl rfl (step_load_ptr ty3 Sr) (Mf rfl rfl (step_fieldAddr so217 Sr rfl) (Mf rfl rfl (step_fieldAddr so46 Sr rfl) ?_)))))
 refine Mf rfl rfl (step_load_ptr ty44 Sr) (Mf rfl rfl (step_fieldAddr so217 Sr rfl) (Mf rfl rfl (step_fieldAddr so46 Sr rfl) (Mf rfl rfl (step_load_ptr ty3 Sr) ?_)))
 refine Mf rfl rfl (step_indexAddr_sl (i := p.Plan.Col.toNat) underlying44 ty89 Sr Sr (by show p.Plan.Col = _; omega) (gb (by show p.Plan.Col.toNat < p.Plan.Attrs.length; omega))) ?_
 refine Mf rfl rfl (step_fieldAddr so89 Sr rfl) (Mf rfl rfl (step_load_ptr ty9 Sr) ?_)
 refine JM_look rfl rfl rfl rfl (step_indexAddr_own (i := p.Plan.Col.toNat) underlying44 ty89 Sr zS Sr (by show p.Plan.Col = _; omega) (by show _ < (nth p.Plan.Kids 0).Attrs.length; omega)) ?_
 refine JM_look rfl rfl rfl rfl (step_fieldAddr_elem (i := p.Plan.Col.toNat) so89 Sr rfl zS (by show _ < (nth p.Plan.Kids 0).Attrs.length; omega)) ?_
 refine JM_stepU rfl rfl rfl (step_store_elemfld (i := p.Plan.Col.toNat) (y := nth (nth p.Plan.Kids 0).Attrs p.Plan.Col.toNat) (y' := { nth (nth p.Plan.Kids 0).Attrs p.Plan.Col.toNat with Name := (nth p.Plan.Attrs p.Plan.Col.toNat).Name }) ty9 Sr Sr zS (gb (by show _ < (nth p.Plan.Kids 0).Attrs.length; omega)) ⟨fun _ _ q => q, rfl, by intro g hg; simp only [List.mem_cons, List.not_mem_nil, or_false] at hg; rcases hg with rfl | rfl | rfl <;> rfl⟩) fun _ => ?_
 refine JM_nil (Jr (Jm rfl (Ja rfl (Ja rfl (JL_nil ?_)))))
 refine J_ret ?_
 refine K_ret2' (rv := .tmp 2) (rv' := .tmp 3) rfl () (Sel.all _) (.tmp Sr) (.tmp Sr) (B := tSl rAttr (renL p.Plan)) (B' := tV (.bool true)) (Frz.own) (Frz.sub Sr) ?_
 rw [if_pos hok, hok]
 exact Sr
set_option maxHeartbeats 4000000 in
theorem plGrp_spec (n : Nat) (p : Gplan) (hk0 : 0 < p.Plan.Kids.length) (hl0 : (nth p.Plan.Kids 0).Attrs.length ≤ 100000000) (hc : p.Plan.Cols.length ≤ 100000000) : Fun1 prog 186 [(rplan n).ty p] (tTup [tSl rAttr (if grpOk p.Plan = true then grpL p.Plan else []), tV (.bool (grpOk p.Plan && grpB p.Plan))]) := by
 refine Spec.enter func186 rfl rfl fun h0 w0 fr0 => ?_
 refine K_fact 0 (fun _ _ r => plan_pos hk0 r) fun hm => ?_
 obtain ⟨n, rfl⟩ := hm
 refine Jr (Js rfl (step_box (R := (rplan (n + 1))) Sr) (Ja rfl (Ja rfl (JL_nil (Jr ?_)))))
 refine Js rfl (step_fieldAddr so217 Sr rfl) (Js rfl (step_fieldAddr so46 Sr rfl) (Jl rfl ty42 Sr ?_))
 refine Js rfl (step_indexAddr_sl (i := 0) underlying42 ty46 Sr Sr (by rfl) (gb (by exact hk0))) ?_
 refine Js rfl (step_fieldAddr so46 Sr rfl) (Jl rfl ty44 Sr (Ja rfl (JL_nil (Jr (Jm rfl ?_)))))
 refine Js rfl (step_fieldAddr so217 Sr rfl) (Js rfl (step_fieldAddr so46 Sr rfl) (Jl rfl ty36 Sr ?_))
 refine Jx rfl (step_call (Sel.none _) (pickA_spec _ _ (by show p.Plan.Cols.length ≤ _; omega)) ⟨Sr, Sr, trivial⟩ call255) fun v19 => ?_
 refine Jm rfl (Js rfl (step_extract Sr rfl) (Js rfl (step_extract Sr rfl) (Ja rfl (Ja rfl (JL_nil ?_)))))
 refine J_seq (Jr (Jm rfl (Js rfl (step_not Sr) (Jm rfl ?_))))
 refine Jk rfl Sr rfl (step_fieldAddr so217 Sr rfl) ?_
 refine Jg rfl Sr rfl (fun hw => step_fieldAddr so46 (Sub.w hw) rfl) (Jg rfl Sr rfl (fun hw => step_load_ptr ty44 (Sub.w hw)) (Jg rfl Sr rfl (fun hw => step_len_sl underlying44 (Sub.w hw)) ?_))
 refine Jk rfl Sr rfl (step_move Sr) ?_
 refine Jg rfl Sr rfl (fun hw => step_len_own underlying44 (Sub.w hw) zS) ?_
 refine Jg rfl Sr rfl (fun hw => step_add (Sub.w hw) Sr (by show in64 (((pickM (nth p.Plan.Kids 0).Attrs p.Plan.Cols).length : Int) + 1); have := pickM_len (nth p.Plan.Kids 0).Attrs p.Plan.Cols; unfold in64; omega)) ?_
 refine Jg rfl Sr rfl (fun hw => step_neq (Sub.w hw) (Sub.w hw)) (Js rfl (step_pick_or Sr Sr) (Jm rfl ?_))
 refine Jk rfl Sr rfl (step_fieldAddr so217 Sr rfl) ?_
 refine Jg rfl Sr rfl (fun hw => step_fieldAddr so46 (Sub.w hw) rfl) (Jg rfl Sr rfl (fun hw => step_load_ptr ty3 (Sub.w hw)) (Jg rfl Sr rfl (fun hw => step_lss (Sub.w hw) Sr) (Js rfl (step_pick_or Sr Sr) (Jm rfl ?_))))
 refine Jk rfl Sr rfl (step_fieldAddr so217 Sr rfl) ?_
 refine Jg rfl Sr rfl (fun hw => step_fieldAddr so46 (Sub.w hw) rfl) (Jg rfl Sr rfl (fun hw => step_load_ptr ty3 (Sub.w hw)) (Jg rfl Sr rfl (fun hw => step_gtr (Sub.w hw) Sr) (Js rfl (step_pick_or Sr Sr) (JL_nil ?_))))
 refine J_cond Sr (fun h45 => ?_) (fun h45 => ?_)
 ·
  try simp only [NF] at h45
  refine Jr (Ja rfl (Ja rfl (JL_nil (J_ret ?_))))
  refine K_ret2' (rv := .tmp 2) (rv' := .tmp 3) rfl () (Sel.all _) (.tmp Sr) (.tmp Sr) (B := tSl rAttr []) (B' := tV (.bool false)) (Frz.sub Sub.nilsl) (Frz.sub Sr) ?_
  have hno : grpOk p.Plan = false := by
   unfold grpOk
   by_cases hpk : pickOk (nth p.Plan.Kids 0).Attrs.length p.Plan.Cols = true
   ·
    have hpl : (pickM (nth p.Plan.Kids 0).Attrs p.Plan.Cols).length = p.Plan.Cols.length := by rw [pickM, if_pos hpk]; simp [pickL]
    rw [hpk, Bool.true_and, decide_eq_false_iff_not]
    rcases h45 with ((h | h) | h) | h
    ·
     exact absurd hpk (by rw [show pickOk (nth p.Plan.Kids 0).Attrs.length p.Plan.Cols = false from h]; simp)
    all_goals omega
   rw [Bool.eq_false_iff.2 hpk, Bool.false_and]
  rw [if_neg (by rw [hno]; simp), hno]
  exact Sr
 try simp only [NF] at h45
 have hpk : pickOk (nth p.Plan.Kids 0).Attrs.length p.Plan.Cols = true := by simp_all
 have hpm : (pickM (nth p.Plan.Kids 0).Attrs p.Plan.Cols) = pickL (nth p.Plan.Kids 0).Attrs p.Plan.Cols := by rw [pickM, if_pos hpk]
 have hpl : (pickM (nth p.Plan.Kids 0).Attrs p.Plan.Cols).length = p.Plan.Cols.length := by rw [hpm]; simp [pickL]
 have hok : grpOk p.Plan = true := by unfold grpOk; rw [hpk, Bool.true_and, decide_eq_true_eq]; omega
 refine J_skip (Jr (Js rfl (step_fieldAddr so217 Sr rfl) (Js rfl (step_fieldAddr so46 Sr rfl) (Jl rfl ty44 Sr (Jm rfl ?_)))))
 refine Js rfl (step_len_own underlying44 Sr zS) ?_
 refine Js rfl (step_indexAddr_sl (i := p.Plan.Cols.length) underlying44 ty89 Sr Sr (by rw [hpl]) (gb (by show p.Plan.Cols.length < p.Plan.Attrs.length; omega))) ?_
 refine Js rfl (step_fieldAddr so89 Sr rfl) (Jl rfl ty9 Sr (Js rfl (step_build (x := (⟨(nth p.Plan.Attrs p.Plan.Cols.length).Name, 2, [], ⟨0, 0, ⟨#[]⟩⟩⟩ : GAttr)) (zs := [[Value.string ⟨#[]⟩], [Value.int .i64 0], [Value.slice none 0 0], [Value.int .i64 0, Value.int .i64 0, Value.string ⟨#[]⟩]]) so89 (fun w => zeroValue89 w) ⟨Sr, Sr, trivial⟩ ⟨⟨Sr, rfl⟩, ⟨Sr, rfl⟩, fun _ => ⟨_, rfl, none, ⟨0, Nat.le_refl _⟩, rfl, fun q => absurd rfl q⟩, fun _ => ⟨[Value.int .i64 0], _, rfl, rfl, ⟨[Value.int .i64 0], _, rfl, rfl, ⟨[Value.string ⟨#[]⟩], _, rfl, rfl, rfl⟩⟩⟩, trivial⟩) ?_))
 refine Jx rfl (step_alloc (fun w => zeroValue89 w) zr89) fun b7 => ?_
 refine Ju (step_store_box ty89 Sr Sr zS) fun _ => ?_
 refine JL_nil (J_seq (J_block (Jr (Js rfl (step_fieldAddr so217 Sr rfl) (Js rfl (step_fieldAddr so46 Sr rfl) ?_)))))
 refine Jl rfl ty3 Sr (Js rfl (step_eql Sr Sr) (Ja rfl (JL_nil ?_)))
 refine J_cond Sr (fun h63 => ?_) (fun h63 => ?_)
 ·
  try simp only [NF] at h63
  refine J_region (Js rfl (step_fieldAddr so217 Sr rfl) (Js rfl (step_fieldAddr so46 Sr rfl) (Jl rfl ty3 Sr (Js rfl (step_eql Sr Sr) (Ja rfl ?_)))))
  refine JL_nil (Jr (Jm rfl ?_))
  refine Js rfl (step_load_box ty89 Sr zS) ?_
  refine Js rfl (step_literal (ys := [_]) underlying44 el89 ⟨rfl, Sr, trivial⟩ rfl (by decide)) ?_
  refine Jx rfl (step_append underlying44 el89 Sr Sr zS (by rw [hpl]; simp; omega) (by rw [hpl]; simp; omega)) fun v101 => ?_
  refine Jm rfl (Ja rfl (Ja rfl (JL_nil (J_ret ?_))))
  refine K_ret2' (rv := .tmp 2) (rv' := .tmp 3) rfl () (Sel.all _) (.tmp Sr) (.tmp Sr) Frz.own (Frz.sub Sr) (Sub.tupSB ?_ ?_)
  ·
   rw [if_pos hok]
   show (pickM (nth p.Plan.Kids 0).Attrs p.Plan.Cols) ++ _ = _
   rw [hpm]
   first | (simp [grpL, grpK, h63]; done) | (simp [grpL, grpK, h63, hgi]; done) | (simp [grpL, grpK, h63, hgi, h85]; done)
  rw [hok, Bool.true_and]
  first | (simp [grpB, h63]; done) | (simp [grpB, h63, hgi]; done) | (simp [grpB, h63, hgi, h85]; done) | (simp [grpB, h63, hgi, h85]; exact hpk)
 try simp only [NF] at h63
 refine Jr (Js rfl (step_fieldAddr so217 Sr rfl) (Js rfl (step_fieldAddr so46 Sr rfl) (Jl rfl ty3 Sr (Js rfl (step_lss Sr Sr) (Jm rfl ?_)))))
 refine Jk rfl Sr rfl (step_fieldAddr so217 Sr rfl) ?_
 refine Jg rfl Sr rfl (fun hw => step_fieldAddr so46 (Sub.w hw) rfl) (Jg rfl Sr rfl (fun hw => step_load_ptr ty3 (Sub.w hw)) ?_)
 refine Jk rfl Sr rfl (step_move Sr) ?_
 refine Jg rfl Sr rfl (fun hw => step_len_sl underlying44 (Sub.w hw)) (Jg rfl Sr rfl (fun hw => step_geq (Sub.w hw) (Sub.w hw)) (Js rfl (step_pick_or Sr Sr) (Ja rfl (JL_nil ?_))))
 refine J_cond Sr (fun h72 => ?_) (fun h72 => ?_)
 ·
  try simp only [NF] at h72
  have hgi : grpIn p.Plan = false := by unfold grpIn; rw [decide_eq_false_iff_not]; omega
  refine J_region (Ja rfl (JL_nil (Jr (Jm rfl ?_))))
  refine Js rfl (step_load_box ty89 Sr zS) ?_
  refine Js rfl (step_literal (ys := [_]) underlying44 el89 ⟨rfl, Sr, trivial⟩ rfl (by decide)) ?_
  refine Jx rfl (step_append underlying44 el89 Sr Sr zS (by rw [hpl]; simp; omega) (by rw [hpl]; simp; omega)) fun v101 => ?_
  refine Jm rfl (Ja rfl (Ja rfl (JL_nil (J_ret ?_))))
  refine K_ret2' (rv := .tmp 2) (rv' := .tmp 3) rfl () (Sel.all _) (.tmp Sr) (.tmp Sr) Frz.own (Frz.sub Sr) (Sub.tupSB ?_ ?_)
  ·
   rw [if_pos hok]
   show (pickM (nth p.Plan.Kids 0).Attrs p.Plan.Cols) ++ _ = _
   rw [hpm]
   first | (simp [grpL, grpK, h63]; done) | (simp [grpL, grpK, h63, hgi]; done) | (simp [grpL, grpK, h63, hgi, h85]; done)
  rw [hok, Bool.true_and]
  first | (simp [grpB, h63]; done) | (simp [grpB, h63, hgi]; done) | (simp [grpB, h63, hgi, h85]; done) | (simp [grpB, h63, hgi, h85]; exact hpk)
 try simp only [NF] at h72
 have hgi : grpIn p.Plan = true := by unfold grpIn; rw [decide_eq_true_eq]; omega
 have hin : 0 ≤ p.Plan.Col ∧ p.Plan.Col < (nth p.Plan.Kids 0).Attrs.length := by omega
 refine Jr (Js rfl (step_fieldAddr so217 Sr rfl) (Js rfl (step_fieldAddr so46 Sr rfl) (Jl rfl ty3 Sr (Js rfl (step_eql Sr Sr) (Ja rfl ?_)))))
 refine JL_nil ?_
 refine J_cond Sr (fun h85 => ?_) (fun h85 => ?_)
 ·
  try simp only [NF] at h85
  refine J_region (Jm rfl (Js rfl (step_fieldAddr so217 Sr rfl) (Js rfl (step_fieldAddr so46 Sr rfl) (Jl rfl ty3 Sr ?_))))
  refine Js rfl (step_indexAddr_sl (i := p.Plan.Col.toNat) underlying44 ty89 Sr Sr (by show p.Plan.Col = _; omega) (gb (by show _ < (nth p.Plan.Kids 0).Attrs.length; omega))) ?_
  refine Js rfl (step_fieldAddr so89 Sr rfl) (Jl rfl ty3 Sr (Js rfl (step_eql Sr Sr) (Ja rfl (JL_nil (Jr ?_)))))
  refine Jm rfl ?_
  refine Js rfl (step_load_box ty89 Sr zS) ?_
  refine Js rfl (step_literal (ys := [_]) underlying44 el89 ⟨rfl, Sr, trivial⟩ rfl (by decide)) ?_
  refine Jx rfl (step_append underlying44 el89 Sr Sr zS (by rw [hpl]; simp; omega) (by rw [hpl]; simp; omega)) fun v101 => ?_
  refine Jm rfl (Ja rfl (Ja rfl (JL_nil (J_ret ?_))))
  refine K_ret2' (rv := .tmp 2) (rv' := .tmp 3) rfl () (Sel.all _) (.tmp Sr) (.tmp Sr) Frz.own (Frz.sub Sr) (Sub.tupSB ?_ ?_)
  ·
   rw [if_pos hok]
   show (pickM (nth p.Plan.Kids 0).Attrs p.Plan.Cols) ++ _ = _
   rw [hpm]
   first | (simp [grpL, grpK, h63]; done) | (simp [grpL, grpK, h63, hgi]; done) | (simp [grpL, grpK, h63, hgi, h85]; done)
  rw [hok, Bool.true_and]
  first | (simp [grpB, h63]; done) | (simp [grpB, h63, hgi]; done) | (simp [grpB, h63, hgi, h85]; done) | (simp [grpB, h63, hgi, h85]; exact hpk)
 try simp only [NF] at h85
 refine J_region (Jm rfl (Js rfl (step_fieldAddr so217 Sr rfl) (Js rfl (step_fieldAddr so46 Sr rfl) (Jl rfl ty3 Sr ?_))))
 refine Js rfl (step_indexAddr_sl (i := p.Plan.Col.toNat) underlying44 ty89 Sr Sr (by show p.Plan.Col = _; omega) (gb (by show _ < (nth p.Plan.Kids 0).Attrs.length; omega))) ?_
 refine Js rfl (step_fieldAddr so89 Sr rfl) (Jl rfl ty3 Sr (Js rfl (step_fieldAddr_own so89 Sr rfl) ?_))
 refine Ju (step_store_fld (R := rInt) (y' := (⟨(nth p.Plan.Attrs p.Plan.Cols.length).Name, (nth (nth p.Plan.Kids 0).Attrs p.Plan.Col.toNat).Kind, [], ⟨0, 0, ⟨#[]⟩⟩⟩ : GAttr)) ty3 Sr Sr zS (by exact ⟨rfl, fun _ _ q => q, rfl, by intro g hg; simp only [List.mem_cons, List.not_mem_nil, or_false] at hg; rcases hg with rfl | rfl <;> rfl⟩)) fun _ => ?_
 refine JL_nil (Jr (Jm rfl ?_))
 refine Js rfl (step_load_box ty89 Sr zS) ?_
 refine Js rfl (step_literal (ys := [_]) underlying44 el89 ⟨rfl, Sr, trivial⟩ rfl (by decide)) ?_
 refine Jx rfl (step_append underlying44 el89 Sr Sr zS (by rw [hpl]; simp; omega) (by rw [hpl]; simp; omega)) fun v101 => ?_
 refine Jm rfl (Ja rfl (Ja rfl (JL_nil (J_ret ?_))))
 refine K_ret2' (rv := .tmp 2) (rv' := .tmp 3) rfl () (Sel.all _) (.tmp Sr) (.tmp Sr) Frz.own (Frz.sub Sr) (Sub.tupSB ?_ ?_)
 ·
  rw [if_pos hok]
  show (pickM (nth p.Plan.Kids 0).Attrs p.Plan.Cols) ++ _ = _
  rw [hpm]
  first | (simp [grpL, grpK, h63]; done) | (simp [grpL, grpK, h63, hgi]; done) | (simp [grpL, grpK, h63, hgi, h85]; done)
 rw [hok, Bool.true_and]
 first | (simp [grpB, h63]; done) | (simp [grpB, h63, hgi]; done) | (simp [grpB, h63, hgi, h85]; done) | (simp [grpB, h63, hgi, h85]; exact hpk)
open Go
theorem leL_tot (a b : List UInt8) : (decide (a ≤ b) || decide (b ≤ a)) = true := by
  rcases List.le_total a b with h | h <;> simp [h]
theorem leL_trans (a b c : List UInt8) (h1 : decide (a ≤ b) = true) (h2 : decide (b ≤ c) = true) : decide (a ≤ c) = true := by
  simp only [decide_eq_true_eq] at *; exact List.le_trans h1 h2
theorem ofB_inj {x y : ByteArray} (h : ofB x = ofB y) : x = y := by rw [← toB_ofB x, h, toB_ofB]
theorem filter_full {α : Type} {p : α → Bool} {l : List α} (h : l.length ≤ (l.filter p).length) : ∀ x ∈ l, p x = true := by
  induction l with
  | nil => intro x hx; cases hx
  | cons a l ih =>
    intro x hx
    have hle := List.length_filter_le p l
    by_cases ha : p a = true
    · rw [List.filter_cons_of_pos ha, List.length_cons, List.length_cons] at h
      rcases List.mem_cons.1 hx with rfl | hx
      · exact ha
      · exact ih (by omega) x hx
    · rw [List.filter_cons_of_neg ha, List.length_cons] at h; omega
theorem compact_full (zs : List (List UInt8)) (hs : zs.Pairwise fun a b => decide (a ≤ b) = true) : zs.length ≤ (Lib.compact zs).length ↔ zs.Nodup := by
  have e : (Lib.compact zs).length = ((List.range zs.length).filter (Lib.keeps zs.toArray)).length := by simp [Lib.compact, Lib.compactUpTo]
  have hk : ∀ j, j < zs.length → (Lib.keeps zs.toArray j = true ↔ (j = 0 ∨ ∀ (h1 : j < zs.length) (h2 : j - 1 < zs.length), zs[j] ≠ zs[j - 1])) := by
    intro j hj
    have h2 : j - 1 < zs.length := by omega
    unfold Lib.keeps
    rw [decide_eq_true_eq]
    rw [getElem!_pos zs.toArray j (by simpa using hj), getElem!_pos zs.toArray (j - 1) (by simpa using h2)]
    simp only [List.getElem_toArray]
    constructor
    · rintro (h | h)
      · exact .inl h
      · exact .inr fun _ _ => h
    · rintro (h | h)
      · exact .inl h
      · exact .inr (h hj h2)
  rw [e]
  constructor
  · intro h
    have hall := filter_full (p := Lib.keeps zs.toArray) (l := List.range zs.length) (by rw [List.length_range]; exact h)
    have hadj : ∀ j (h1 : j + 1 < zs.length), zs[j] < zs[j + 1] := by
      intro j h1
      have h2 := (hk (j + 1) h1).1 (hall _ (List.mem_range.2 h1))
      rcases h2 with h2 | h2
      · omega
      · have h3 := h2 h1 (by omega)
        have h4 := List.pairwise_iff_getElem.1 hs j (j + 1) (by omega) h1 (by omega)
        simp only [decide_eq_true_eq] at h4
        simp only [Nat.add_sub_cancel] at h3
        rcases Decidable.em (zs[j] < zs[j + 1]) with h5 | h5
        · exact h5
        · exact absurd (List.le_antisymm (List.not_lt.1 h5) h4) h3
    have hlt : ∀ d i (h1 : i + d + 1 < zs.length), zs[i] < zs[i + d + 1] := by
      intro d
      induction d with
      | zero => intro i h1; exact hadj i h1
      | succ d ih =>
        intro i h1
        exact List.lt_trans (ih i (by omega)) (hadj (i + d + 1) h1)
    refine List.pairwise_iff_getElem.2 fun i j hi hj hij he => ?_
    have := hlt (j - i - 1) i (by omega)
    simp only [show i + (j - i - 1) + 1 = j by omega] at this
    rw [he] at this
    exact List.lt_irrefl _ this
  · intro h
    have : (List.range zs.length).filter (Lib.keeps zs.toArray) = List.range zs.length := by
      refine List.filter_eq_self.2 fun j hj => ?_
      have hj := List.mem_range.1 hj
      rw [hk j hj]
      by_cases h0 : j = 0
      · exact .inl h0
      · refine .inr fun h1 h2 he => ?_
        exact List.pairwise_iff_getElem.1 h (j - 1) j h2 h1 (by omega) he.symm
    rw [this, List.length_range]; exact Nat.le_refl _
theorem nodup_ofB (l : List ByteArray) : (l.map ofB).Nodup ↔ l.Nodup := by
  unfold List.Nodup
  rw [List.pairwise_map]
  exact ⟨fun h => h.imp fun {a b} h e => h (by rw [e]), fun h => h.imp fun {a b} h e => h (ofB_inj e)⟩
theorem comp_nodup (l : List ByteArray) : l.length ≤ (compS (sortS l)).length ↔ l.Nodup := by
  have e : (compS (sortS l)).length = (Lib.compact ((l.map ofB).mergeSort fun x y => decide (x ≤ y))).length := by
    unfold compS sortS
    rw [List.length_map, List.map_map]
    congr 2
    conv => rhs; rw [← List.map_id ((l.map ofB).mergeSort fun x y => decide (x ≤ y))]
    exact List.map_congr_left fun x _ => ofB_toB x
  have hl : l.length = ((l.map ofB).mergeSort fun x y => decide (x ≤ y)).length := by simp
  rw [e]
  conv => lhs; lhs; rw [hl]
  rw [compact_full _ (List.pairwise_mergeSort leL_trans leL_tot (l.map ofB)), ← nodup_ofB l]
  exact (List.mergeSort_perm (l.map ofB) _).nodup_iff
end Lg
namespace Go.Proofs
open Go.Shelf
def Tryz.sortJ_ren : Go.Shelf.Ren := ⟨fun | 189 => 78 | 125 => 129 | 257 => 128 | 128 => 204 | 129 => 205 | 294 => 195 | 295 => 196 | 296 => 197 | 297 => 198 | 298 => 199 | 299 => 200 | 216 => 201 | 300 => 202 | 301 => 203 | 328 => 271 | 329 => 272 | 330 => 273 | 331 => 274 | 332 => 275 | 215 => 276 | 343 => 311 | n => n, fun | 28 => 36 | 3 => 3 | 46 => 182 | 0 => 0 | 51 => 230 | 53 => 232 | 4 => 4 | 183 => 223 | 182 => 222 | 131 => 175 | 5 => 5 | 9 => 9 | 218 => 284 | 222 => 288 | 228 => 318 | 229 => 319 | n => n, fun | n => n⟩
theorem Tryz.sortJ : Go.Proofs.Lays.n189 Tryz.prog Tryz.sortJ_ren := {
  mixed := by kernel_rfl
  f125 := Tryz.func129.trans (congrArg some (by kernel_rfl))
  f128 := Tryz.func204.trans (congrArg some (by kernel_rfl))
  f129 := Tryz.func205.trans (congrArg some (by kernel_rfl))
  f189 := Tryz.func78.trans (congrArg some (by kernel_rfl))
  f215 := Tryz.func276.trans (congrArg some (by kernel_rfl))
  f216 := Tryz.func201.trans (congrArg some (by kernel_rfl))
  f257 := Tryz.func128.trans (congrArg some (by kernel_rfl))
  f294 := Tryz.func195.trans (congrArg some (by kernel_rfl))
  f295 := Tryz.func196.trans (congrArg some (by kernel_rfl))
  f296 := Tryz.func197.trans (congrArg some (by kernel_rfl))
  f297 := Tryz.func198.trans (congrArg some (by kernel_rfl))
  f298 := Tryz.func199.trans (congrArg some (by kernel_rfl))
  f299 := Tryz.func200.trans (congrArg some (by kernel_rfl))
  f300 := Tryz.func202.trans (congrArg some (by kernel_rfl))
  f301 := Tryz.func203.trans (congrArg some (by kernel_rfl))
  f328 := Tryz.func271.trans (congrArg some (by kernel_rfl))
  f329 := Tryz.func272.trans (congrArg some (by kernel_rfl))
  f330 := Tryz.func273.trans (congrArg some (by kernel_rfl))
  f331 := Tryz.func274.trans (congrArg some (by kernel_rfl))
  f332 := Tryz.func275.trans (congrArg some (by kernel_rfl))
  f343 := Tryz.func311.trans (congrArg some (by kernel_rfl))
  t0 := Tryz.underlying0
  a0 := Tryz.isAgg0
  z0 := Tryz.sizeOf0
  v0 := Tryz.zeroValue0
  t3 := Tryz.underlying3
  a3 := Tryz.isAgg3
  z3 := Tryz.sizeOf3
  v3 := Tryz.zeroValue3
  t4 := Tryz.underlying4
  a4 := Tryz.isAgg4
  z4 := Tryz.sizeOf4
  v4 := Tryz.zeroValue4
  t5 := Tryz.underlying5
  a5 := Tryz.isAgg5
  z5 := Tryz.sizeOf5
  v5 := Tryz.zeroValue5
  t9 := Tryz.underlying9
  a9 := Tryz.isAgg9
  z9 := Tryz.sizeOf9
  v9 := Tryz.zeroValue9
  t28 := Tryz.underlying36
  a28 := Tryz.isAgg36
  z28 := Tryz.sizeOf36
  v28 := Tryz.zeroValue36
  t46 := Tryz.underlying182
  a46 := Tryz.isAgg182
  z46 := Tryz.sizeOf182
  v46 := Tryz.zeroValue182
  t51 := Tryz.underlying230
  a51 := Tryz.isAgg230
  z51 := Tryz.sizeOf230
  v51 := Tryz.zeroValue230
  t53 := Tryz.underlying232
  a53 := Tryz.isAgg232
  z53 := Tryz.sizeOf232
  v53 := Tryz.zeroValue232
  t131 := Tryz.underlying175
  a131 := Tryz.isAgg175
  z131 := Tryz.sizeOf175
  v131 := Tryz.zeroValue175
  t182 := Tryz.underlying222
  a182 := Tryz.isAgg222
  z182 := Tryz.sizeOf222
  v182 := Tryz.zeroValue222
  t183 := Tryz.underlying223
  a183 := Tryz.isAgg223
  z183 := Tryz.sizeOf223
  v183 := Tryz.zeroValue223
  t218 := Tryz.underlying284
  a218 := Tryz.isAgg284
  z218 := Tryz.sizeOf284
  v218 := Tryz.zeroValue284
  t222 := Tryz.underlying288
  a222 := Tryz.isAgg288
  z222 := Tryz.sizeOf288
  v222 := Tryz.zeroValue288
  t228 := Tryz.underlying318
  a228 := Tryz.isAgg318
  z228 := Tryz.sizeOf318
  v228 := Tryz.zeroValue318
  t229 := Tryz.underlying319
  a229 := Tryz.isAgg319
  z229 := Tryz.sizeOf319
  v229 := Tryz.zeroValue319 }
def Tryz.sortSJ_ren : Go.Shelf.Ren := ⟨fun | 190 => 238 | 125 => 129 | 258 => 293 | 128 => 204 | 129 => 205 | 302 => 315 | 303 => 316 | 304 => 317 | 305 => 318 | 306 => 319 | 307 => 320 | 308 => 321 | 309 => 322 | 310 => 323 | 333 => 334 | 329 => 272 | 330 => 273 | 334 => 335 | 335 => 336 | 336 => 337 | 344 => 342 | n => n, fun | 31 => 85 | 9 => 9 | 3 => 3 | 46 => 182 | 0 => 0 | 51 => 230 | 53 => 232 | 4 => 4 | 183 => 223 | 182 => 222 | 131 => 175 | 5 => 5 | 218 => 284 | 222 => 288 | 228 => 318 | 229 => 319 | n => n, fun | n => n⟩
theorem Tryz.sortSJ : Go.Proofs.Lays.n190 Tryz.prog Tryz.sortSJ_ren := {
  mixed := by kernel_rfl
  f125 := Tryz.func129.trans (congrArg some (by kernel_rfl))
  f128 := Tryz.func204.trans (congrArg some (by kernel_rfl))
  f129 := Tryz.func205.trans (congrArg some (by kernel_rfl))
  f190 := Tryz.func238.trans (congrArg some (by kernel_rfl))
  f258 := Tryz.func293.trans (congrArg some (by kernel_rfl))
  f302 := Tryz.func315.trans (congrArg some (by kernel_rfl))
  f303 := Tryz.func316.trans (congrArg some (by kernel_rfl))
  f304 := Tryz.func317.trans (congrArg some (by kernel_rfl))
  f305 := Tryz.func318.trans (congrArg some (by kernel_rfl))
  f306 := Tryz.func319.trans (congrArg some (by kernel_rfl))
  f307 := Tryz.func320.trans (congrArg some (by kernel_rfl))
  f308 := Tryz.func321.trans (congrArg some (by kernel_rfl))
  f309 := Tryz.func322.trans (congrArg some (by kernel_rfl))
  f310 := Tryz.func323.trans (congrArg some (by kernel_rfl))
  f329 := Tryz.func272.trans (congrArg some (by kernel_rfl))
  f330 := Tryz.func273.trans (congrArg some (by kernel_rfl))
  f333 := Tryz.func334.trans (congrArg some (by kernel_rfl))
  f334 := Tryz.func335.trans (congrArg some (by kernel_rfl))
  f335 := Tryz.func336.trans (congrArg some (by kernel_rfl))
  f336 := Tryz.func337.trans (congrArg some (by kernel_rfl))
  f344 := Tryz.func342.trans (congrArg some (by kernel_rfl))
  t0 := Tryz.underlying0
  a0 := Tryz.isAgg0
  z0 := Tryz.sizeOf0
  v0 := Tryz.zeroValue0
  t3 := Tryz.underlying3
  a3 := Tryz.isAgg3
  z3 := Tryz.sizeOf3
  v3 := Tryz.zeroValue3
  t4 := Tryz.underlying4
  a4 := Tryz.isAgg4
  z4 := Tryz.sizeOf4
  v4 := Tryz.zeroValue4
  t5 := Tryz.underlying5
  a5 := Tryz.isAgg5
  z5 := Tryz.sizeOf5
  v5 := Tryz.zeroValue5
  t9 := Tryz.underlying9
  a9 := Tryz.isAgg9
  z9 := Tryz.sizeOf9
  v9 := Tryz.zeroValue9
  t31 := Tryz.underlying85
  a31 := Tryz.isAgg85
  z31 := Tryz.sizeOf85
  v31 := Tryz.zeroValue85
  t46 := Tryz.underlying182
  a46 := Tryz.isAgg182
  z46 := Tryz.sizeOf182
  v46 := Tryz.zeroValue182
  t51 := Tryz.underlying230
  a51 := Tryz.isAgg230
  z51 := Tryz.sizeOf230
  v51 := Tryz.zeroValue230
  t53 := Tryz.underlying232
  a53 := Tryz.isAgg232
  z53 := Tryz.sizeOf232
  v53 := Tryz.zeroValue232
  t131 := Tryz.underlying175
  a131 := Tryz.isAgg175
  z131 := Tryz.sizeOf175
  v131 := Tryz.zeroValue175
  t182 := Tryz.underlying222
  a182 := Tryz.isAgg222
  z182 := Tryz.sizeOf222
  v182 := Tryz.zeroValue222
  t183 := Tryz.underlying223
  a183 := Tryz.isAgg223
  z183 := Tryz.sizeOf223
  v183 := Tryz.zeroValue223
  t218 := Tryz.underlying284
  a218 := Tryz.isAgg284
  z218 := Tryz.sizeOf284
  v218 := Tryz.zeroValue284
  t222 := Tryz.underlying288
  a222 := Tryz.isAgg288
  z222 := Tryz.sizeOf288
  v222 := Tryz.zeroValue288
  t228 := Tryz.underlying318
  a228 := Tryz.isAgg318
  z228 := Tryz.sizeOf318
  v228 := Tryz.zeroValue318
  t229 := Tryz.underlying319
  a229 := Tryz.isAgg319
  z229 := Tryz.sizeOf319
  v229 := Tryz.zeroValue319 }
def Tryz.compJ_ren : Go.Shelf.Ren := ⟨fun | 194 => 239 | n => n, fun | 31 => 85 | 9 => 9 | 3 => 3 | 4 => 4 | 0 => 0 | n => n, fun | n => n⟩
theorem Tryz.compJ : Go.Proofs.Lays.n194 Tryz.prog Tryz.compJ_ren := {
  mixed := by kernel_rfl
  f194 := Tryz.func239.trans (congrArg some (by kernel_rfl))
  t0 := Tryz.underlying0
  a0 := Tryz.isAgg0
  z0 := Tryz.sizeOf0
  v0 := Tryz.zeroValue0
  t3 := Tryz.underlying3
  a3 := Tryz.isAgg3
  z3 := Tryz.sizeOf3
  v3 := Tryz.zeroValue3
  t4 := Tryz.underlying4
  a4 := Tryz.isAgg4
  z4 := Tryz.sizeOf4
  v4 := Tryz.zeroValue4
  t9 := Tryz.underlying9
  a9 := Tryz.isAgg9
  z9 := Tryz.sizeOf9
  v9 := Tryz.zeroValue9
  t31 := Tryz.underlying85
  a31 := Tryz.isAgg85
  z31 := Tryz.sizeOf85
  v31 := Tryz.zeroValue85 }
end Go.Proofs
namespace Lg
open Go Go.Proofs Go.Proofs.Tryz
def attrOk (a : GAttr) : Bool := decide (1 ≤ a.Kind) && decide (a.Kind ≤ 4) && fitM a.Kind a.Default
def keyOk (t : GTable) (i : Nat) : Bool := decide (0 ≤ nth t.Key i) && decide (nth t.Key i < t.Attrs.length) && (decide (i = 0) || decide (nth t.Key (i - 1) < nth t.Key i))
def szT (t : GTable) : Bool := decide (1 ≤ t.Attrs.length ∧ t.Attrs.length ≤ 12 ∧ 1 ≤ t.Key.length)
def rightM (t : GTable) : Bool := nameM t.Name && szT t && t.Attrs.all attrOk && (namesL t.Attrs).all nameM && decide (namesL t.Attrs).Nodup && (List.range t.Key.length).all (keyOk t)
theorem names_take {l : List GAttr} {i : Nat} (h : i < l.length) : namesL (l.take (i + 1)) = (namesL (l.take i) ++ [(nth l i).Name]) ++ (nth l i).Was := by rw [takeB h, names_snoc]
theorem allNot {α : Type} {p : α → Bool} {l : List α} : (l.any fun x => !p x) = !(l.all p) := by
  rw [List.any_eq_not_all_not]; simp
set_option maxHeartbeats 4000000 in
theorem right_spec (t : GTable) (hz : TabSz t) : Fun1 prog 164 [rTable.ty t] (tV (.bool (rightM t))) := by
 refine Spec.enter func164 rfl rfl fun h0 w0 fr0 => ?_
 have hz1 := hz.nm
 have hz2 := hz.at'
 have hz3 := hz.key
 refine Jr (Js rfl (step_box (R := rTable) Sr) (Ja rfl (JL_nil (J_seq (Jr ?_)))))
 refine Js rfl (step_fieldAddr so76 Sr rfl) (Jl rfl ty9 Sr (Js rfl (step_call0 (name_spec _ hz1) ⟨Sr, trivial⟩ call235) (Js rfl (step_not Sr) (Jm rfl ?_))))
 refine Jk rfl Sr rfl (step_fieldAddr so76 Sr rfl) ?_
 refine Jg rfl Sr rfl (fun hw => step_load_ptr ty44 (Sub.w hw)) (Jg rfl Sr rfl (fun hw => step_len_sl underlying44 (Sub.w hw)) (Jg rfl Sr rfl (fun hw => step_eql (Sub.w hw) Sr) (Js rfl (step_pick_or Sr Sr) (Jm rfl ?_))))
 refine Jk rfl Sr rfl (step_fieldAddr so76 Sr rfl) ?_
 refine Jg rfl Sr rfl (fun hw => step_load_ptr ty44 (Sub.w hw)) (Jg rfl Sr rfl (fun hw => step_len_sl underlying44 (Sub.w hw)) (Jg rfl Sr rfl (fun hw => step_gtr (Sub.w hw) Sr) (Js rfl (step_pick_or Sr Sr) (Jm rfl ?_))))
 refine Jk rfl Sr rfl (step_fieldAddr so76 Sr rfl) ?_
 refine Jg rfl Sr rfl (fun hw => step_load_ptr ty36 (Sub.w hw)) (Jg rfl Sr rfl (fun hw => step_len_sl underlying36 (Sub.w hw)) (Jg rfl Sr rfl (fun hw => step_eql (Sub.w hw) Sr) (Js rfl (step_pick_or Sr Sr) (JL_nil ?_))))
 refine J_cond Sr (fun h29 => ?_) (fun h29 => ?_)
 ·
  try simp only [NF] at h29
  refine Jr (Ja rfl (JL_nil (J_ret ?_)))
  refine K_ret1 (t := 2) rfl () ?_
  refine Sub.bool ?_
  have hs : nameM t.Name = false ∨ szT t = false := by
   rcases h29 with ((h | h) | h) | h
   ·
    exact .inl h
   all_goals exact .inr (by unfold szT; rw [decide_eq_false_iff_not]; omega)
  rcases hs with h | h <;> simp [rightM, h]
 try simp only [NF] at h29
 have hsz : szT t = true := by unfold szT; rw [decide_eq_true_eq]; omega
 have hA12 : t.Attrs.length ≤ 12 := by omega
 have hnmT : nameM t.Name = true := by simp_all
 have hnl := names_len hz.was
 have hnl2 : (namesL t.Attrs).length ≤ 12 * 1000001 := Nat.le_trans hnl (Nat.mul_le_mul_right _ hA12)
 refine J_skip (Jr (Ja rfl (JL_nil (J_seq (Jr ?_)))))
 refine Js rfl (step_fieldAddr so76 Sr rfl) (Jl rfl ty44 Sr (Js rfl (step_len_sl underlying44 Sr) (Jm rfl (JL_nil (J_block ?_)))))
 refine J_loopL (σ := Nat × Value) (fun ⟨i, v⟩ => i ≤ t.Attrs.length ∧ ∀ k, k < i → attrOk (nth t.Attrs k) = true) (fun ⟨i, v⟩ => upd (upd (upd (upd (upd env0 1 (tPtr rTable t)) 3 (rV.ty v)) 31 (tSl rAttr t.Attrs)) 32 (tV (.int .i64 t.Attrs.length))) 33 (tV (.int .i64 i))) (fun ⟨i, v⟩ => [own 9 rStr v (namesL (t.Attrs.take i))]) (fun ⟨i, v⟩ => t.Attrs.length - i) (0, .slice none 0 0) ⟨by omega, fun k hk => by omega⟩ (.u (.u (.u (SubE.upd (Sub.rV rfl) (zU))))) (LSub.nilown) ?_
 rintro ⟨i, v⟩ ⟨hi, hv⟩
 refine Jr (Js rfl (step_lss Sr Sr) (JL_nil (J_seq ?_)))
 refine J_cond Sr (fun h34 => ?_) (fun h34 => ?_)
 ·
  try simp only [NF] at h34
  have hlt : i < t.Attrs.length := by omega
  have hnt := names_take hlt
  have hnl3 := names_len (l := t.Attrs.take i) (M := 1000000) (fun a ha => hz.was a (List.mem_of_mem_take ha))
  have hnl4 : (namesL (t.Attrs.take i)).length ≤ 12 * 1000001 := Nat.le_trans hnl3 (Nat.mul_le_mul_right _ (by rw [List.length_take]; omega))
  have hwl := hz.was _ (nth_mem hlt)
  refine J_skip (J_seq (J_block (Jr ?_)))
  refine Js rfl (step_indexAddr_sl  underlying44 ty89 Sr Sr rfl (gb (by exact hlt))) ?_
  refine Jl rfl ty89 Sr ?_
  refine Jx rfl (step_alloc (fun w => zeroValue89 w) zr89) fun v5 => ?_
  refine Ju (step_store_box ty89 Sr Sr zS) fun _ => ?_
  refine JL_freeze (t := 5) (Sel.take (Sel.none _)) Frz.box ?_
  refine JL_nil (J_seq (Jr (Js rfl (step_fieldAddr so89 Sr rfl) (Jl rfl ty3 Sr (Js rfl (step_lss Sr Sr) ?_)))))
  refine Jm rfl ?_
  refine Jk rfl Sr rfl (step_fieldAddr so89 Sr rfl) ?_
  refine Jg rfl Sr rfl (fun hw => step_load_ptr ty3 (Sub.w hw)) (Jg rfl Sr rfl (fun hw => step_gtr (Sub.w hw) Sr) (Js rfl (step_pick_or Sr Sr) (Jm rfl ?_)))
  refine Jk rfl Sr rfl (step_fieldAddr so89 Sr rfl) ?_
  refine Jg rfl Sr rfl (fun hw => step_load_ptr ty3 (Sub.w hw)) ?_
  refine Jk rfl Sr rfl (step_fieldAddr so89 Sr rfl) ?_
  refine Jg rfl Sr rfl (fun hw => step_load_ptr ty87 (Sub.w hw)) (Jg rfl Sr rfl (fun hw => step_call0 (fit_spec _ _) ⟨(Sub.w hw), (Sub.w hw), trivial⟩ call207) (Jg rfl Sr rfl (fun hw => step_not (Sub.w hw)) (Js rfl (step_pick_or Sr Sr) (JL_nil ?_))))
  refine J_cond Sr (fun h52 => ?_) (fun h52 => ?_)
  ·
   try simp only [NF] at h52
   refine Jr (Ja rfl (JL_nil (J_ret ?_)))
   refine K_ret1' (rv := .tmp 2) rfl () (Sel.all _) (.tmp Sr) (Frz.sub (Sub.bool ?_))
   have : attrOk (nth t.Attrs i) = false := by
    unfold attrOk
    rcases h52 with (h | h) | h
    ·
     simp [show ¬ 1 ≤ (nth t.Attrs i).Kind by omega]
    ·
     simp [show ¬ (nth t.Attrs i).Kind ≤ 4 by omega]
    simp [h]
   simp [rightM, all_f hlt this]
  try simp only [NF] at h52
  refine J_skip ?_
  refine J_draw [⟨0, [3], true⟩, ⟨1, [5], true⟩, ⟨2, [54], true⟩, ⟨3, [55], true⟩, ⟨5, [5], true⟩, ⟨6, [58], true⟩, ⟨4, [53, 56], false⟩, ⟨7, [57, 59], false⟩, ⟨8, [60], true⟩] rfl (by kernel_rfl) ?_
  refine Mv rfl rfl (Mf rfl rfl (step_fieldAddr so89 Sr rfl) (Mf rfl rfl (step_load_ptr ty9 Sr) ?_))
  refine Mf rfl rfl (step_literal (ys := [_]) underlying85 el9 ⟨rfl, Sr, trivial⟩ rfl (by decide)) ?_
  refine Mf rfl rfl (step_fieldAddr so89 Sr rfl) (Mf rfl rfl (step_load_ptr ty85 Sr) ?_)
  refine JM_stepX rfl rfl rfl rfl (step_append underlying85 el9 Sr Sr zS (by simp; omega) (by simp; omega)) fun v57 => ?_
  refine JM_stepX rfl rfl rfl rfl (step_append underlying85 el9 Sr Sr zS (by simp; omega) (by simp; omega)) fun v60 => ?_
  refine Mf rfl rfl (step_assign Sr) (JM_nil (J_region (Js rfl (step_add Sr Sr z6) (Jm rfl (JL_nil ?_)))))
  refine K_againL (σ := Nat × Value) (s := (i, v)) (i + 1, v60) zO ?_ (zU) (.c zS (SPs.of (A := own 9 rStr v60 ((namesL (t.Attrs.take i) ++ [(nth t.Attrs i).Name]) ++ (nth t.Attrs i).Was)) (by rw [hnt])) (LSub.nil))
  refine ⟨by omega, fun k hk => ?_⟩
  by_cases e : k = i
  ·
   subst e; first | (simp_all [attrOk]; done) | (simp_all [attrOk]; omega)
  exact hv k zG
 try simp only [NF] at h34
 obtain rfl : i = t.Attrs.length := by omega
 have hats : t.Attrs.all attrOk = true := all_t hv
 refine K_lsub (L' := [own 9 rStr v (namesL t.Attrs)]) (.c zS (SPs.of (A := own 9 rStr v (namesL (t.Attrs.take t.Attrs.length))) (by rw [List.take_length])) (LSub.nil)) ?_
 refine J_exit (J_seq (Jr (Jm rfl ?_)))
 refine Js rfl (step_call_look zS (ContainsFuncS_spec (namesL t.Attrs) zG 237 [] (fun s => !nameM s) (fun x hx => nameF_spec x (hz.nms x hx)) call237) (fun _ => Flat.v _) ⟨(Frz.own), (Frz.sub Sub.clo0), trivial⟩ call236) ?_
 refine JL_nil ?_
 refine J_cond Sr (fun h63 => ?_) (fun h63 => ?_)
 ·
  try simp only [NF] at h63
  refine Jr (Ja rfl (JL_nil (J_ret ?_)))
  refine K_ret1' (rv := .tmp 2) rfl () (Sel.all _) (.tmp Sr) (Frz.sub (Sub.bool ?_))
  have : (namesL t.Attrs).all nameM = false := by rw [allNot] at h63; simpa using h63
  simp [rightM, this]
 try simp only [NF] at h63
 have hnms : (namesL t.Attrs).all nameM = true := by rw [allNot] at h63; simpa using h63
 refine J_skip (Jr (Jm rfl ?_))
 refine Jx rfl (step_call zS (sortStr_spec Tryz.sortSJ v (namesL t.Attrs) zG) ⟨Sr, trivial⟩ call238) fun v65 => ?_
 refine JL_nil (J_seq (J_seq ?_))
 refine K_lenOwn zS fun hv14 => ?_
 obtain ⟨p14, cap14, hv14⟩ := hv14
 subst hv14
 refine J_region (Jm rfl ?_)
 refine Jx rfl (step_call zS (compStr_spec Tryz.compJ _ (sortS (namesL t.Attrs)) (by rw [sortS_len]; omega)) ⟨Sr, trivial⟩ call239) fun v67 => ?_
 refine Js rfl (step_len_own underlying85 Sr zS) ?_
 refine Jm rfl (Js rfl (step_lenV underlying85 Sr) (Js rfl (step_lss Sr Sr) (JL_nil ?_)))
 refine J_cond Sr (fun h71 => ?_) (fun h71 => ?_)
 ·
  try simp only [NF] at h71
  refine Jr (Ja rfl (JL_nil (J_ret ?_)))
  refine K_ret1' (rv := .tmp 2) rfl () (Sel.all _) (.tmp Sr) (Frz.sub (Sub.bool ?_))
  have : ¬ (namesL t.Attrs).Nodup := fun h => by have := (comp_nodup _).2 h; rw [sortS_len] at h71; omega
  simp [rightM, this]
 try simp only [NF] at h71
 rw [sortS_len] at h71
 have hnd : (namesL t.Attrs).Nodup := (comp_nodup _).1 zG
 refine K_drop (Sel.all _) ?_
 refine J_skip (J_seq (Jr (Js rfl (step_fieldAddr so76 Sr rfl) (Jl rfl ty36 Sr (Js rfl (step_len_sl underlying36 Sr) ?_)))))
 refine Jm rfl (JL_nil (J_block ?_))
 refine J_loopL (σ := Nat) (fun i => i ≤ t.Key.length ∧ ∀ k, k < i → keyOk t k = true) (fun i => upd (upd (upd (upd env0 1 (tPtr rTable t)) 73 (tSl rInt t.Key)) 74 (tV (.int .i64 t.Key.length))) 75 (tV (.int .i64 i))) (fun i => []) (fun i => t.Key.length - i) 0 ⟨by omega, fun k hk => by omega⟩ (zU) (LSub.rfl) ?_
 rintro i ⟨hi2, hv2⟩
 refine Jr (Js rfl (step_lss Sr Sr) (JL_nil (J_seq ?_)))
 refine J_cond Sr (fun h76 => ?_) (fun h76 => ?_)
 ·
  try simp only [NF] at h76
  have hkt : i < t.Key.length := by omega
  refine J_skip (J_seq (J_block (Jr (Jm rfl ?_))))
  refine Js rfl (step_indexAddr_sl  underlying36 ty3 Sr Sr rfl (gb (by exact hkt))) ?_
  refine Jl rfl ty3 Sr (Ja rfl (Ja rfl (JL_nil (Jr (Jm rfl ?_)))))
  refine Js rfl (step_lss Sr Sr) (Jm rfl ?_)
  refine Jk rfl Sr rfl (step_move Sr) ?_
  refine Jk rfl Sr rfl (step_fieldAddr so76 Sr rfl) ?_
  refine Jg rfl Sr rfl (fun hw => step_load_ptr ty44 (Sub.w hw)) (Jg rfl Sr rfl (fun hw => step_len_sl underlying44 (Sub.w hw)) (Jg rfl Sr rfl (fun hw => step_geq (Sub.w hw) (Sub.w hw)) (Js rfl (step_pick_or Sr Sr) (Jm rfl ?_))))
  refine Jk rfl Sr rfl (step_move Sr) ?_
  refine Jg rfl Sr rfl (fun hw => step_gtr (Sub.w hw) Sr) (Jg rfl Sr rfl (fun hw => step_move (Sub.w hw)) ?_)
  refine Ji rfl Sr rfl (step_move Sr) ?_
  refine Ji rfl Sr rfl (step_fieldAddr so76 Sr rfl) ?_
  refine Jh rfl Sr rfl (fun hw => step_load_ptr ty36 (Sub.w hw)) ?_
  refine Ji rfl Sr rfl (step_move Sr) ?_
  refine Jh rfl Sr rfl (fun hw => step_sub (Sub.w hw) Sr (by have hwq := hw; (try simp only [beqB_t, beqB_f, NF] at hwq); unfold in64; omega)) ?_
  refine Jh rfl Sr rfl (fun hw => step_indexAddr_sl (i := (i - 1)) underlying36 ty3 (Sub.w hw) (Sub.w hw) (by have hwq := hw; (try simp only [beqB_t, beqB_f, NF] at hwq); omega) (gb (by have hwq := hw; (try simp only [beqB_t, beqB_f, NF] at hwq); show i - 1 < t.Key.length; omega))) ?_
  refine Jh rfl Sr rfl (fun hw => step_load_ptr ty3 (Sub.w hw)) (Jh rfl Sr rfl (fun hw => step_leq (Sub.w hw) (Sub.w hw)) (Jg rfl Sr rfl (fun hw => step_pick_and (Sub.w hw) (Sub.ww hw)) (Js rfl (step_pick_or Sr Sr) (JL_nil ?_))))
  refine J_cond Sr (fun h102 => ?_) (fun h102 => ?_)
  ·
   try simp only [NF] at h102
   refine Jr (Ja rfl (JL_nil (J_ret ?_)))
   refine K_ret1' (rv := .tmp 2) rfl () (Sel.all _) (.tmp Sr) (Frz.sub (Sub.bool ?_))
   have : keyOk t i = false := by
    unfold keyOk
    rcases h102 with (h | h) | ⟨h1, h2⟩
    ·
     simp [show ¬ 0 ≤ nth t.Key i by omega]
    ·
     simp [show ¬ nth t.Key i < t.Attrs.length by omega]
    simp [show ¬ nth t.Key (i - 1) < nth t.Key i by omega, show ¬ i = 0 by omega]
   simp [rightM, rall_f hkt this]
  try simp only [NF] at h102
  refine J_skip (J_region (Js rfl (step_add Sr Sr z6) (Jm rfl (JL_nil ?_))))
  refine K_againL (σ := Nat) (s := i) (i + 1) zO ?_ (zU) (LSub.rfl)
  refine ⟨by omega, fun k hk => ?_⟩
  by_cases e : k = i
  ·
   subst e; first | (simp_all [keyOk]; done) | (simp_all [keyOk]; omega)
  exact hv2 k zG
 try simp only [NF] at h76
 have hks : (List.range t.Key.length).all (keyOk t) = true := rall_t (fun k hk => hv2 k zG)
 refine J_exit (Jr (Ja rfl (JL_nil (J_ret ?_))))
 refine K_ret1' (rv := .tmp 2) rfl () (Sel.all _) (.tmp Sr) (Frz.sub (Sub.bool ?_))
 simp [rightM, hnmT, hsz, hats, hnms, hnd, hks]
def schM (s : GSchema) : Bool := decide (s.Tables.length ≤ 20) && (List.range s.Tables.length).all fun i => rightM (nth s.Tables i) && decide (findT s (nth s.Tables i).Name = i)
set_option maxHeartbeats 1000000 in
theorem schValid_spec (s : GSchema) (hz : SchSz s) : Fun1 prog 104 [rSchema.ty s] (tV (.bool (schM s))) := by
 refine Spec.enter func104 rfl rfl fun h0 w0 fr0 => ?_
 have hz1 := hz.tabs
 refine Jr (Js rfl (step_box (R := rSchema) Sr) (Ja rfl (JL_nil (J_seq (Jr ?_)))))
 refine Js rfl (step_fieldAddr so41 Sr rfl) (Jl rfl ty39 Sr (Js rfl (step_len_sl underlying39 Sr) (Js rfl (step_gtr Sr Sr) (JL_nil ?_))))
 refine J_cond Sr (fun h7 => ?_) (fun h7 => ?_)
 ·
  try simp only [NF] at h7
  refine Jr (Ja rfl (JL_nil (J_ret ?_)))
  refine K_ret1 (t := 2) rfl () ?_
  refine Sub.bool ?_
  have : ¬ s.Tables.length ≤ 20 := by omega
  simp [schM, this]
 try simp only [NF] at h7
 refine J_skip (J_seq (Jr (Js rfl (step_fieldAddr so41 Sr rfl) (Jl rfl ty39 Sr (Js rfl (step_len_sl underlying39 Sr) ?_)))))
 refine Jm rfl (JL_nil (J_block ?_))
 refine J_loopL (σ := Nat) (fun i => i ≤ s.Tables.length ∧ ∀ k, k < i → (rightM (nth s.Tables k) && decide (findT s (nth s.Tables k).Name = k)) = true) (fun i => upd (upd (upd env0 1 (tPtr rSchema s)) 10 (tV (.int .i64 s.Tables.length))) 11 (tV (.int .i64 i))) (fun i => []) (fun i => s.Tables.length - i) 0 ⟨by omega, fun k hk => by omega⟩ (zU) (LSub.rfl) ?_
 rintro i ⟨hi, hv⟩
 refine Jr (Js rfl (step_lss Sr Sr) (JL_nil (J_seq ?_)))
 refine J_cond Sr (fun h12 => ?_) (fun h12 => ?_)
 ·
  try simp only [NF] at h12
  have hlt : i < s.Tables.length := by omega
  refine J_skip (J_seq (J_block (Jr (Jm rfl (Ja rfl ?_)))))
  refine JL_nil (J_seq ?_)
  refine J_draw [⟨0, [1], true⟩, ⟨1, [14], true⟩, ⟨2, [3], true⟩, ⟨3, [15, 16], true⟩, ⟨4, [17], true⟩, ⟨5, [18], true⟩, ⟨6, [19], true⟩, ⟨7, [20], true⟩, ⟨8, [1, 21], true⟩, ⟨9, [1, 21], true⟩, ⟨10, [21, 23], true⟩, ⟨11, [3, 21], true⟩, ⟨12, [21, 24, 25], true⟩, ⟨13, [21, 26], true⟩, ⟨14, [21, 27], true⟩, ⟨15, [21, 22, 28], true⟩, ⟨16, [3, 21], true⟩, ⟨17, [21, 29, 30], true⟩, ⟨18, [21, 31], true⟩] rfl (by kernel_rfl) ?_
  refine Mf rfl rfl (step_fieldAddr so41 Sr rfl) (Mf rfl rfl (step_load_ptr ty39 Sr) (Mv rfl rfl ?_))
  refine Mf rfl rfl (step_indexAddr_sl (i := i) underlying39 ty76 Sr Sr (by rfl) (gb (by exact hlt))) ?_
  refine Mf rfl rfl (step_load_ptr ty76 Sr) (Mf rfl rfl (step_call0 (right_spec _ (hz.tab _ (nth_mem hlt))) ⟨Sr, trivial⟩ call164) (Mf rfl rfl (step_not Sr) (Mv rfl rfl ?_)))
  refine Mk rfl rfl Sr rfl (step_load_ptr ty41 Sr) ?_
  refine Mk rfl rfl Sr rfl (step_fieldAddr so41 Sr rfl) ?_
  refine Mg rfl rfl Sr rfl (fun hw => step_load_ptr ty39 (Sub.w hw)) ?_
  refine Mk rfl rfl Sr rfl (step_move Sr) ?_
  refine Mg rfl rfl Sr rfl (fun hw => step_indexAddr_sl (i := i) underlying39 ty76 (Sub.w hw) (Sub.w hw) (by rfl) (gb (by have hwq := hw; (try simp only [beqB_t, beqB_f, NF] at hwq); exact hlt))) ?_
  refine Mg rfl rfl Sr rfl (fun hw => step_fieldAddr so76 (Sub.w hw) rfl) (Mg rfl rfl Sr rfl (fun hw => step_load_ptr ty9 (Sub.w hw)) (Mg rfl rfl Sr rfl (fun hw => step_call0 (Find_spec _ _ hz1) ⟨(Sub.w hw), (Sub.w hw), trivial⟩ call165) ?_))
  refine Mk rfl rfl Sr rfl (step_move Sr) ?_
  refine Mg rfl rfl Sr rfl (fun hw => step_neq (Sub.w hw) (Sub.w hw)) (Mf rfl rfl (step_pick_or Sr Sr) (JM_nil ?_))
  refine J_cond Sr (fun h32 => ?_) (fun h32 => ?_)
  ·
   try simp only [NF] at h32
   refine Jr (Ja rfl (JL_nil (J_ret ?_)))
   refine K_ret1 (t := 2) rfl () ?_
   refine Sub.bool ?_
   have : (rightM (nth s.Tables i) && decide (findT s (nth s.Tables i).Name = i)) = false := by rcases h32 with h | h <;> simp [h]
   simp only [schM, rall_f (f := fun i => rightM (nth s.Tables i) && decide (findT s (nth s.Tables i).Name = i)) hlt this]; simp
  try simp only [NF] at h32
  refine J_skip (J_region (Js rfl (step_add Sr Sr z6) (Jm rfl (JL_nil ?_))))
  refine K_againL (σ := Nat) (s := i) (i + 1) zO ?_ (zU) (LSub.rfl)
  refine ⟨by omega, fun k hk => ?_⟩
  by_cases e : k = i
  ·
   subst e; simp_all
  exact hv k zG
 try simp only [NF] at h12
 have hall := rall_t (n := s.Tables.length) (fun k hk => hv k zG)
 refine J_exit (Jr (Ja rfl (JL_nil (J_ret ?_))))
 refine K_ret1 (t := 2) rfl () ?_
 refine Sub.bool ?_
 have : s.Tables.length ≤ 20 := by omega
 simp only [schM, hall, this]; simp
open Go Go.Proofs Go.Proofs.Tryz
def kindsM : List (Int × Gkind) := [(1, ⟨0, .func (.func 170) #[] #[], .func (.func 171) #[] #[], .func (.func 172) #[] #[]⟩), (2, ⟨1, .func (.func 173) #[] #[], .func (.func 174) #[] #[], .func (.func 175) #[] #[]⟩), (3, ⟨1, .func (.func 176) #[] #[], .func (.func 177) #[] #[], .func (.func 168) #[] #[]⟩), (4, ⟨2, .func (.func 178) #[] #[], .func (.func 179) #[] #[], .func (.func 169) #[] #[]⟩), (5, ⟨2, .func (.func 180) #[] #[], .func (.func 181) #[] #[], .func (.func 169) #[] #[]⟩), (6, ⟨2, .func (.func 180) #[] #[], .func (.func 182) #[] #[], .func (.func 169) #[] #[]⟩), (7, ⟨1, .func (.func 183) #[] #[], .func (.func 184) #[] #[], .func (.func 185) #[] #[]⟩), (8, ⟨1, .func (.func 186) #[] #[], .func (.func 187) #[] #[], .func (.func 188) #[] #[]⟩)]
abbrev kindV (k : Int) : Gkind := (mget kindsM k).getD zkind
def kindOk (k : Int) : Bool := decide (1 ≤ k ∧ k ≤ 8)
def kidsN (k : Int) : Int := if k = 1 then 0 else if k = 4 ∨ k = 5 ∨ k = 6 then 2 else 1
theorem kind_cases {k : Int} (h : kindOk k = true) : k = 1 ∨ k = 2 ∨ k = 3 ∨ k = 4 ∨ k = 5 ∨ k = 6 ∨ k = 7 ∨ k = 8 := by unfold kindOk at h; rw [decide_eq_true_eq] at h; omega
theorem kinds_some (k : Int) : (mget kindsM k).isSome = kindOk k := by
  by_cases h : kindOk k = true
  · rcases kind_cases h with rfl | rfl | rfl | rfl | rfl | rfl | rfl | rfl <;> rfl
  · have h2 : ¬ (1 ≤ k ∧ k ≤ 8) := by intro q; exact h (by unfold kindOk; rw [decide_eq_true_eq]; exact q)
    rw [Bool.eq_false_iff.2 h]
    simp [kindsM, mget, show ¬ k = 1 by omega, show ¬ k = 2 by omega, show ¬ k = 3 by omega, show ¬ k = 4 by omega, show ¬ k = 5 by omega, show ¬ k = 6 by omega, show ¬ k = 7 by omega, show ¬ k = 8 by omega]
theorem kinds_kids {k : Int} (h : kindOk k = true) : (kindV k).kids = kidsN k := by
  rcases kind_cases h with rfl | rfl | rfl | rfl | rfl | rfl | rfl | rfl <;> rfl
/-- A query whose fields that its kind has are zero. -/
def restM (p : GPlan) : GPlan :=
  if p.Kind = 1 then GPl.mk p.Kind 0 p.Kids p.Tests p.Cols p.Col p.Agg p.Attrs
  else if p.Kind = 2 then GPl.mk p.Kind p.Table p.Kids [] p.Cols p.Col p.Agg p.Attrs
  else if p.Kind = 3 then GPl.mk p.Kind p.Table p.Kids p.Tests [] p.Col p.Agg p.Attrs
  else if p.Kind = 7 then GPl.mk p.Kind p.Table p.Kids p.Tests p.Cols 0 p.Agg p.Attrs
  else if p.Kind = 8 then GPl.mk p.Kind p.Table p.Kids p.Tests [] 0 0 p.Attrs
  else p
def bareM (p : GPlan) : Bool := !((((!decide ((restM p).Table = 0) || decide (0 < ((restM p).Tests.length : Int))) || decide (0 < ((restM p).Cols.length : Int))) || !decide ((restM p).Col = 0)) || !decide ((restM p).Agg = 0))
def namesOk (l : List GAttr) (i : Nat) : Bool := decide (columnL l (nth l i).Name = i)
def validM (s : GSchema) : Nat → GPlan → Bool
  | 0, _ => false
  | l + 1, p => kindOk p.Kind && decide ((p.Kids.length : Int) = kidsN p.Kind) && p.Kids.all (validM s l) && bareM p && (List.range p.Attrs.length).all (namesOk p.Attrs) && ((colsM s p).2 && alikeM (colsM s p).1 p.Attrs)
/-- Sizes that hold of queries that are handed in. -/
def PlSz : Nat → GPlan → Prop
  | 0, _ => True
  | n + 1, p => p.Kids.length ≤ 9223372036854775807 ∧ p.Tests.length ≤ 1000 ∧ p.Cols.length ≤ 1000 ∧ p.Attrs.length ≤ 1000 ∧ ∀ q ∈ p.Kids, PlSz n q ∧ q.Attrs.length ≤ 1000
theorem restCols_spec (n : Nat) (p : GPlan) : Fun1 prog 168 [(rPlan (n + 1)).ty p] ((rPlan (n + 1)).ty (GPl.mk p.Kind p.Table p.Kids p.Tests [] p.Col p.Agg p.Attrs)) := by
 refine Spec.enter func168 rfl rfl fun h0 w0 fr0 => ?_
 refine Jr ?_
 refine Jx rfl (step_box_own (R := rPlan (n + 1)) Sr) fun b1 => ?_
 refine Jx rfl (step_alloc (fun w => zeroValue46 w) (zr46 (n := n))) fun b2 => ?_
 refine JL_nil (Jr (Js rfl (step_fieldAddr_own (so46 (n := n)) Sr rfl) ?_))
 refine Ju (step_store_fld (R := (rSl rInt)) (y' := GPl.mk p.Kind p.Table p.Kids p.Tests [] p.Col p.Agg p.Attrs) ty36 Sr Sub.nilsl zS (by exact ⟨rfl, ⟨rfl, ⟨rfl, ⟨rfl, ⟨fun _ _ q => q, rfl, by intro g hg; simp only [List.mem_cons, List.not_mem_nil, or_false] at hg; rcases hg with rfl | rfl | rfl <;> rfl⟩⟩⟩⟩⟩)) fun _ => ?_
 refine JL_nil (Jr ?_)
 refine Js rfl (step_load_box (R := rPlan (n + 1)) ty46 Sr zS) ?_
 refine Ju (step_store_box (R := rPlan (n + 1)) ty46 Sr Sr zS) fun _ => ?_
 refine JL_nil (J_ret ?_)
 refine K_ret1' (rv := .cell 2 46) rfl () (Sel.all _) (.cell (R := rPlan (n + 1)) ty46 Sr zS Sr) (Frz.sub Sr)
theorem restSame_spec (n : Nat) (p : GPlan) : Fun1 prog 169 [(rPlan (n + 1)).ty p] ((rPlan (n + 1)).ty (p)) := by
 refine Spec.enter func169 rfl rfl fun h0 w0 fr0 => ?_
 refine Jr ?_
 refine Jx rfl (step_box_own (R := rPlan (n + 1)) Sr) fun b1 => ?_
 refine Jx rfl (step_alloc (fun w => zeroValue46 w) (zr46 (n := n))) fun b2 => ?_
 refine JL_nil (Jr ?_)
 refine Js rfl (step_load_box (R := rPlan (n + 1)) ty46 Sr zS) ?_
 refine Ju (step_store_box (R := rPlan (n + 1)) ty46 Sr Sr zS) fun _ => ?_
 refine JL_nil (J_ret ?_)
 refine K_ret1' (rv := .cell 2 46) rfl () (Sel.all _) (.cell (R := rPlan (n + 1)) ty46 Sr zS Sr) (Frz.sub Sr)
theorem restTable_spec (n : Nat) (p : GPlan) : Fun1 prog 172 [(rPlan (n + 1)).ty p] ((rPlan (n + 1)).ty (GPl.mk p.Kind 0 p.Kids p.Tests p.Cols p.Col p.Agg p.Attrs)) := by
 refine Spec.enter func172 rfl rfl fun h0 w0 fr0 => ?_
 refine Jr ?_
 refine Jx rfl (step_box_own (R := rPlan (n + 1)) Sr) fun b1 => ?_
 refine Jx rfl (step_alloc (fun w => zeroValue46 w) (zr46 (n := n))) fun b2 => ?_
 refine JL_nil (Jr (Js rfl (step_fieldAddr_own (so46 (n := n)) Sr rfl) ?_))
 refine Ju (step_store_fld (R := rInt) (y' := GPl.mk p.Kind 0 p.Kids p.Tests p.Cols p.Col p.Agg p.Attrs) ty3 Sr Sr zS (by exact ⟨rfl, ⟨fun _ _ q => q, rfl, by intro g hg; simp only [List.mem_cons, List.not_mem_nil, or_false] at hg; rcases hg with rfl | rfl | rfl | rfl | rfl | rfl <;> rfl⟩⟩)) fun _ => ?_
 refine JL_nil (Jr ?_)
 refine Js rfl (step_load_box (R := rPlan (n + 1)) ty46 Sr zS) ?_
 refine Ju (step_store_box (R := rPlan (n + 1)) ty46 Sr Sr zS) fun _ => ?_
 refine JL_nil (J_ret ?_)
 refine K_ret1' (rv := .cell 2 46) rfl () (Sel.all _) (.cell (R := rPlan (n + 1)) ty46 Sr zS Sr) (Frz.sub Sr)
theorem restTests_spec (n : Nat) (p : GPlan) : Fun1 prog 175 [(rPlan (n + 1)).ty p] ((rPlan (n + 1)).ty (GPl.mk p.Kind p.Table p.Kids [] p.Cols p.Col p.Agg p.Attrs)) := by
 refine Spec.enter func175 rfl rfl fun h0 w0 fr0 => ?_
 refine Jr ?_
 refine Jx rfl (step_box_own (R := rPlan (n + 1)) Sr) fun b1 => ?_
 refine Jx rfl (step_alloc (fun w => zeroValue46 w) (zr46 (n := n))) fun b2 => ?_
 refine JL_nil (Jr (Js rfl (step_fieldAddr_own (so46 (n := n)) Sr rfl) ?_))
 refine Ju (step_store_fld (R := (rSl rTest)) (y' := GPl.mk p.Kind p.Table p.Kids [] p.Cols p.Col p.Agg p.Attrs) ty43 Sr Sub.nilsl zS (by exact ⟨rfl, ⟨rfl, ⟨rfl, ⟨fun _ _ q => q, rfl, by intro g hg; simp only [List.mem_cons, List.not_mem_nil, or_false] at hg; rcases hg with rfl | rfl | rfl | rfl <;> rfl⟩⟩⟩⟩)) fun _ => ?_
 refine JL_nil (Jr ?_)
 refine Js rfl (step_load_box (R := rPlan (n + 1)) ty46 Sr zS) ?_
 refine Ju (step_store_box (R := rPlan (n + 1)) ty46 Sr Sr zS) fun _ => ?_
 refine JL_nil (J_ret ?_)
 refine K_ret1' (rv := .cell 2 46) rfl () (Sel.all _) (.cell (R := rPlan (n + 1)) ty46 Sr zS Sr) (Frz.sub Sr)
theorem restCol_spec (n : Nat) (p : GPlan) : Fun1 prog 185 [(rPlan (n + 1)).ty p] ((rPlan (n + 1)).ty (GPl.mk p.Kind p.Table p.Kids p.Tests p.Cols 0 p.Agg p.Attrs)) := by
 refine Spec.enter func185 rfl rfl fun h0 w0 fr0 => ?_
 refine Jr ?_
 refine Jx rfl (step_box_own (R := rPlan (n + 1)) Sr) fun b1 => ?_
 refine Jx rfl (step_alloc (fun w => zeroValue46 w) (zr46 (n := n))) fun b2 => ?_
 refine JL_nil (Jr (Js rfl (step_fieldAddr_own (so46 (n := n)) Sr rfl) ?_))
 refine Ju (step_store_fld (R := rInt) (y' := GPl.mk p.Kind p.Table p.Kids p.Tests p.Cols 0 p.Agg p.Attrs) ty3 Sr Sr zS (by exact ⟨rfl, ⟨rfl, ⟨rfl, ⟨rfl, ⟨rfl, ⟨fun _ _ q => q, rfl, by intro g hg; simp only [List.mem_cons, List.not_mem_nil, or_false] at hg; rcases hg with rfl | rfl <;> rfl⟩⟩⟩⟩⟩⟩)) fun _ => ?_
 refine JL_nil (Jr ?_)
 refine Js rfl (step_load_box (R := rPlan (n + 1)) ty46 Sr zS) ?_
 refine Ju (step_store_box (R := rPlan (n + 1)) ty46 Sr Sr zS) fun _ => ?_
 refine JL_nil (J_ret ?_)
 refine K_ret1' (rv := .cell 2 46) rfl () (Sel.all _) (.cell (R := rPlan (n + 1)) ty46 Sr zS Sr) (Frz.sub Sr)
theorem restGrp_spec (n : Nat) (p : GPlan) : Fun1 prog 188 [(rPlan (n + 1)).ty p] ((rPlan (n + 1)).ty (GPl.mk p.Kind p.Table p.Kids p.Tests [] 0 0 p.Attrs)) := by
 refine Spec.enter func188 rfl rfl fun h0 w0 fr0 => ?_
 refine Jr ?_
 refine Jx rfl (step_box_own (R := rPlan (n + 1)) Sr) fun b1 => ?_
 refine Jx rfl (step_alloc (fun w => zeroValue46 w) (zr46 (n := n))) fun b2 => ?_
 refine JL_nil (Jr (Js rfl (step_fieldAddr_own (so46 (n := n)) Sr rfl) ?_))
 refine Ju (step_store_fld (R := (rSl rInt)) (y' := GPl.mk p.Kind p.Table p.Kids p.Tests [] p.Col p.Agg p.Attrs) ty36 Sr Sub.nilsl zS (by exact ⟨rfl, ⟨rfl, ⟨rfl, ⟨rfl, ⟨fun _ _ q => q, rfl, by intro g hg; simp only [List.mem_cons, List.not_mem_nil, or_false] at hg; rcases hg with rfl | rfl | rfl <;> rfl⟩⟩⟩⟩⟩)) fun _ => ?_
 refine Js rfl (step_fieldAddr_own (so46 (n := n)) Sr rfl) ?_
 refine Ju (step_store_fld (R := rInt) (y' := GPl.mk p.Kind p.Table p.Kids p.Tests [] 0 p.Agg p.Attrs) ty3 Sr Sr zS (by exact ⟨rfl, ⟨rfl, ⟨rfl, ⟨rfl, ⟨rfl, ⟨fun _ _ q => q, rfl, by intro g hg; simp only [List.mem_cons, List.not_mem_nil, or_false] at hg; rcases hg with rfl | rfl <;> rfl⟩⟩⟩⟩⟩⟩)) fun _ => ?_
 refine Js rfl (step_fieldAddr_own (so46 (n := n)) Sr rfl) ?_
 refine Ju (step_store_fld (R := rInt) (y' := GPl.mk p.Kind p.Table p.Kids p.Tests [] 0 0 p.Attrs) ty3 Sr Sr zS (by exact ⟨rfl, ⟨rfl, ⟨rfl, ⟨rfl, ⟨rfl, ⟨rfl, ⟨fun _ _ q => q, rfl, by intro g hg; simp only [List.mem_cons, List.not_mem_nil, or_false] at hg; subst hg; rfl⟩⟩⟩⟩⟩⟩⟩)) fun _ => ?_
 refine JL_nil (Jr ?_)
 refine Js rfl (step_load_box (R := rPlan (n + 1)) ty46 Sr zS) ?_
 refine Ju (step_store_box (R := rPlan (n + 1)) ty46 Sr Sr zS) fun _ => ?_
 refine JL_nil (J_ret ?_)
 refine K_ret1' (rv := .cell 2 46) rfl () (Sel.all _) (.cell (R := rPlan (n + 1)) ty46 Sr zS Sr) (Frz.sub Sr)
set_option maxHeartbeats 2000000 in
theorem kinds_spec  : Fun1 prog 106 [] (tMapI kvI rkind kindsM) := by
 refine Spec.enter func106 rfl rfl fun h0 w0 fr0 => ?_
 refine Jr (Ja rfl (JL_nil (Jr (Ja rfl (JL_nil ?_)))))
 refine Jr (Ja rfl (JL_nil (Jr ?_)))
 refine Jx rfl (step_makeMap (kv := kvI) (R := rkind)) fun v3 => ?_
 refine Js rfl (step_build (x := (⟨0, .func (.func 170) #[] #[], .func (.func 171) #[] #[], .func (.func 172) #[] #[]⟩ : Gkind)) (zs := [[Value.int .i64 0], [Value.nilFunc], [Value.nilFunc], [Value.nilFunc]]) so213 (fun w => zeroValue213 w) ⟨Sr, (by first | exact Sr | exact Sub.rV rfl), (by first | exact Sr | exact Sub.rV rfl), (by first | exact Sr | exact Sub.rV rfl), trivial⟩ ⟨⟨Sr, rfl⟩, ⟨(by first | exact Sr | exact Sub.rV rfl), rfl⟩, ⟨(by first | exact Sr | exact Sub.rV rfl), rfl⟩, ⟨(by first | exact Sr | exact Sub.rV rfl), rfl⟩, trivial⟩) ?_
 refine Ju (step_insert (kv := kvI) (R := rkind) (KeyT.int underlying3) underlying164 Sr Sr Sr zS) fun _ => ?_
 refine Js rfl (step_build (x := (⟨1, .func (.func 173) #[] #[], .func (.func 174) #[] #[], .func (.func 175) #[] #[]⟩ : Gkind)) (zs := [[Value.int .i64 0], [Value.nilFunc], [Value.nilFunc], [Value.nilFunc]]) so213 (fun w => zeroValue213 w) ⟨Sr, (by first | exact Sr | exact Sub.rV rfl), (by first | exact Sr | exact Sub.rV rfl), (by first | exact Sr | exact Sub.rV rfl), trivial⟩ ⟨⟨Sr, rfl⟩, ⟨(by first | exact Sr | exact Sub.rV rfl), rfl⟩, ⟨(by first | exact Sr | exact Sub.rV rfl), rfl⟩, ⟨(by first | exact Sr | exact Sub.rV rfl), rfl⟩, trivial⟩) ?_
 refine Ju (step_insert (kv := kvI) (R := rkind) (KeyT.int underlying3) underlying164 Sr Sr Sr zS) fun _ => ?_
 refine Jm rfl ?_
 refine Js rfl (step_build (x := (⟨1, .func (.func 176) #[] #[], .func (.func 177) #[] #[], .func (.func 168) #[] #[]⟩ : Gkind)) (zs := [[Value.int .i64 0], [Value.nilFunc], [Value.nilFunc], [Value.nilFunc]]) so213 (fun w => zeroValue213 w) ⟨Sr, (by first | exact Sr | exact Sub.rV rfl), (by first | exact Sr | exact Sub.rV rfl), (by first | exact Sr | exact Sub.rV rfl), trivial⟩ ⟨⟨Sr, rfl⟩, ⟨(by first | exact Sr | exact Sub.rV rfl), rfl⟩, ⟨(by first | exact Sr | exact Sub.rV rfl), rfl⟩, ⟨(by first | exact Sr | exact Sub.rV rfl), rfl⟩, trivial⟩) ?_
 refine Ju (step_insert (kv := kvI) (R := rkind) (KeyT.int underlying3) underlying164 Sr Sr Sr zS) fun _ => ?_
 refine Jm rfl ?_
 refine Js rfl (step_build (x := (⟨2, .func (.func 178) #[] #[], .func (.func 179) #[] #[], .func (.func 169) #[] #[]⟩ : Gkind)) (zs := [[Value.int .i64 0], [Value.nilFunc], [Value.nilFunc], [Value.nilFunc]]) so213 (fun w => zeroValue213 w) ⟨Sr, (by first | exact Sr | exact Sub.rV rfl), (by first | exact Sr | exact Sub.rV rfl), (by first | exact Sr | exact Sub.rV rfl), trivial⟩ ⟨⟨Sr, rfl⟩, ⟨(by first | exact Sr | exact Sub.rV rfl), rfl⟩, ⟨(by first | exact Sr | exact Sub.rV rfl), rfl⟩, ⟨(by first | exact Sr | exact Sub.rV rfl), rfl⟩, trivial⟩) ?_
 refine Ju (step_insert (kv := kvI) (R := rkind) (KeyT.int underlying3) underlying164 Sr Sr Sr zS) fun _ => ?_
 refine Jm rfl ?_
 refine Js rfl (step_build (x := (⟨2, .func (.func 180) #[] #[], .func (.func 181) #[] #[], .func (.func 169) #[] #[]⟩ : Gkind)) (zs := [[Value.int .i64 0], [Value.nilFunc], [Value.nilFunc], [Value.nilFunc]]) so213 (fun w => zeroValue213 w) ⟨Sr, (by first | exact Sr | exact Sub.rV rfl), (by first | exact Sr | exact Sub.rV rfl), (by first | exact Sr | exact Sub.rV rfl), trivial⟩ ⟨⟨Sr, rfl⟩, ⟨(by first | exact Sr | exact Sub.rV rfl), rfl⟩, ⟨(by first | exact Sr | exact Sub.rV rfl), rfl⟩, ⟨(by first | exact Sr | exact Sub.rV rfl), rfl⟩, trivial⟩) ?_
 refine Ju (step_insert (kv := kvI) (R := rkind) (KeyT.int underlying3) underlying164 Sr Sr Sr zS) fun _ => ?_
 refine Jm rfl ?_
 refine Js rfl (step_build (x := (⟨2, .func (.func 180) #[] #[], .func (.func 182) #[] #[], .func (.func 169) #[] #[]⟩ : Gkind)) (zs := [[Value.int .i64 0], [Value.nilFunc], [Value.nilFunc], [Value.nilFunc]]) so213 (fun w => zeroValue213 w) ⟨Sr, (by first | exact Sr | exact Sub.rV rfl), (by first | exact Sr | exact Sub.rV rfl), (by first | exact Sr | exact Sub.rV rfl), trivial⟩ ⟨⟨Sr, rfl⟩, ⟨(by first | exact Sr | exact Sub.rV rfl), rfl⟩, ⟨(by first | exact Sr | exact Sub.rV rfl), rfl⟩, ⟨(by first | exact Sr | exact Sub.rV rfl), rfl⟩, trivial⟩) ?_
 refine Ju (step_insert (kv := kvI) (R := rkind) (KeyT.int underlying3) underlying164 Sr Sr Sr zS) fun _ => ?_
 refine Js rfl (step_build (x := (⟨1, .func (.func 183) #[] #[], .func (.func 184) #[] #[], .func (.func 185) #[] #[]⟩ : Gkind)) (zs := [[Value.int .i64 0], [Value.nilFunc], [Value.nilFunc], [Value.nilFunc]]) so213 (fun w => zeroValue213 w) ⟨Sr, (by first | exact Sr | exact Sub.rV rfl), (by first | exact Sr | exact Sub.rV rfl), (by first | exact Sr | exact Sub.rV rfl), trivial⟩ ⟨⟨Sr, rfl⟩, ⟨(by first | exact Sr | exact Sub.rV rfl), rfl⟩, ⟨(by first | exact Sr | exact Sub.rV rfl), rfl⟩, ⟨(by first | exact Sr | exact Sub.rV rfl), rfl⟩, trivial⟩) ?_
 refine Ju (step_insert (kv := kvI) (R := rkind) (KeyT.int underlying3) underlying164 Sr Sr Sr zS) fun _ => ?_
 refine Js rfl (step_build (x := (⟨1, .func (.func 186) #[] #[], .func (.func 187) #[] #[], .func (.func 188) #[] #[]⟩ : Gkind)) (zs := [[Value.int .i64 0], [Value.nilFunc], [Value.nilFunc], [Value.nilFunc]]) so213 (fun w => zeroValue213 w) ⟨Sr, (by first | exact Sr | exact Sub.rV rfl), (by first | exact Sr | exact Sub.rV rfl), (by first | exact Sr | exact Sub.rV rfl), trivial⟩ ⟨⟨Sr, rfl⟩, ⟨(by first | exact Sr | exact Sub.rV rfl), rfl⟩, ⟨(by first | exact Sr | exact Sub.rV rfl), rfl⟩, ⟨(by first | exact Sr | exact Sub.rV rfl), rfl⟩, trivial⟩) ?_
 refine Ju (step_insert (kv := kvI) (R := rkind) (KeyT.int underlying3) underlying164 Sr Sr Sr zS) fun _ => ?_
 refine Jm rfl (Ja rfl (JL_nil (J_ret ?_)))
 refine K_ret1' (rv := .tmp 0) rfl () (Sel.all _) (.tmp Sr) (Frz.mapI (m := kindsM))
section
variable {ro : Option Nat} {N : Nat} {ds : List Deferred} {h0 : PH} {w0 : World} {r : PH} {E : Env} {L : List SP} {d : Option Nat} {ty : Nat} {pos : String} {af : Array Edge} {g : Option (Nat × Bool)} {x y : Operand} {ts : Array Nat}
theorem step_kfun {f : Nat} {A : Ty} {R : Ty} (v : Value) (hv : v = .func (.func f) #[] #[]) (hf : Fun1 prog f [A] R) (he : ∀ args w, (callFunc f args).run prog w = .ok (.enter f args) w) (hx : Sub (opTy E x) (rV.ty v)) (hy : Sub (opTy E y) A) :
    Step (X := Unit) ⟨prog, ro, N, ds, h0, w0, r⟩ ⟨d, .call { callee := .value x, args := #[y], argTypes := ts }, ty, pos, af, g⟩ E L (fun _ => R) (fun _ => L) :=
  step_callv0 (f := f) (aT := [A]) (As := []) (fun h u e => by
    obtain ⟨e1, _⟩ := hx h u e
    rw [hv] at e1
    exact ⟨[], e1, trivial⟩) hf ⟨hy, trivial⟩ he
theorem step_rest {n : Nat} {p : GPlan} (hk : kindOk p.Kind = true) (hx : Sub (opTy E x) (rV.ty (kindV p.Kind).rest)) (hy : Sub (opTy E y) ((rPlan (n + 1)).ty p)) :
    Step (X := Unit) ⟨prog, ro, N, ds, h0, w0, r⟩ ⟨d, .call { callee := .value x, args := #[y], argTypes := ts }, ty, pos, af, g⟩ E L (fun _ => (rPlan (n + 1)).ty (restM p)) (fun _ => L) := by
  rcases kind_cases hk with h | h | h | h | h | h | h | h <;> rw [h] at hx
  · rw [show restM p = GPl.mk p.Kind 0 p.Kids p.Tests p.Cols p.Col p.Agg p.Attrs by simp [restM, h]]; exact step_kfun _ rfl (restTable_spec n p) call172 hx hy
  · rw [show restM p = GPl.mk p.Kind p.Table p.Kids [] p.Cols p.Col p.Agg p.Attrs by simp [restM, h]]; exact step_kfun _ rfl (restTests_spec n p) call175 hx hy
  · rw [show restM p = GPl.mk p.Kind p.Table p.Kids p.Tests [] p.Col p.Agg p.Attrs by simp [restM, h]]; exact step_kfun _ rfl (restCols_spec n p) call168 hx hy
  · rw [show restM p = p by simp [restM, h]]; exact step_kfun _ rfl (restSame_spec n p) call169 hx hy
  · rw [show restM p = p by simp [restM, h]]; exact step_kfun _ rfl (restSame_spec n p) call169 hx hy
  · rw [show restM p = p by simp [restM, h]]; exact step_kfun _ rfl (restSame_spec n p) call169 hx hy
  · rw [show restM p = GPl.mk p.Kind p.Table p.Kids p.Tests p.Cols 0 p.Agg p.Attrs by simp [restM, h]]; exact step_kfun _ rfl (restCol_spec n p) call185 hx hy
  · rw [show restM p = GPl.mk p.Kind p.Table p.Kids p.Tests [] 0 0 p.Attrs by simp [restM, h]]; exact step_kfun _ rfl (restGrp_spec n p) call188 hx hy
theorem step_cols {n : Nat} {p : Gplan} (hk : kindOk p.Plan.Kind = true) (hn : (p.Plan.Kids.length : Int) = kidsN p.Plan.Kind) (hz : SchSz p.schema) (hp : PlSz (n + 1) p.Plan) (hx : Sub (opTy E x) (rV.ty (kindV p.Plan.Kind).columns)) (hy : Sub (opTy E y) ((rplan n).ty p)) :
    Step (X := Unit) ⟨prog, ro, N, ds, h0, w0, r⟩ ⟨d, .call { callee := .value x, args := #[y], argTypes := ts }, ty, pos, af, g⟩ E L (fun _ => tTup [tSl rAttr (colsM p.schema p.Plan).1, tV (.bool (colsM p.schema p.Plan).2)]) (fun _ => L) := by
  obtain ⟨z1, z2, z3, z4, z5⟩ := hp
  have hA : ∀ i, i < p.Plan.Kids.length → (nth p.Plan.Kids i).Attrs.length ≤ 100000000 := fun i hi => Nat.le_trans (z5 _ (nth_mem hi)).2 (by omega)
  rcases kind_cases hk with h | h | h | h | h | h | h | h <;> rw [h] at hx hn
  · have e : colsM p.schema p.Plan = (if 0 ≤ p.Plan.Table ∧ p.Plan.Table < p.schema.Tables.length then tableL (nth p.schema.Tables p.Plan.Table.toNat) p.Plan.Attrs else [], decide (0 ≤ p.Plan.Table ∧ p.Plan.Table < p.schema.Tables.length)) := by
      unfold colsM; rw [if_pos h]; split
      · rename_i q; simp [q]
      · rename_i q; simp [q]
    rw [e]; exact step_kfun _ rfl (plTable_spec n p hz (by omega)) call170 hx hy
  · have e : colsM p.schema p.Plan = ((nth p.Plan.Kids 0).Attrs, decide (0 < (p.Plan.Tests.length : Int)) && !(p.Plan.Tests.any fun t => !testOk t (nth p.Plan.Kids 0).Attrs.length)) := by simp [colsM, h]
    rw [e]; exact step_kfun _ rfl (plSel_spec n p (by simp [kidsN] at hn; omega) (by omega)) call173 hx hy
  · have e : colsM p.schema p.Plan = (pickM (nth p.Plan.Kids 0).Attrs p.Plan.Cols, pickOk (nth p.Plan.Kids 0).Attrs.length p.Plan.Cols) := by simp [colsM, h]
    rw [e]; exact step_kfun _ rfl (plProj_spec n p (by simp [kidsN] at hn; omega) (by omega)) call176 hx hy
  · have hn2 : p.Plan.Kids.length = 2 := by simp [kidsN] at hn; omega
    have e : colsM p.schema p.Plan = (if joinOk (nth p.Plan.Kids 0).Attrs (nth p.Plan.Kids 1).Attrs = true then joinL (nth p.Plan.Kids 0).Attrs (nth p.Plan.Kids 1).Attrs else [], joinOk (nth p.Plan.Kids 0).Attrs (nth p.Plan.Kids 1).Attrs) := by
      have e1 : colsM p.schema p.Plan = if joinOk (nth p.Plan.Kids 0).Attrs (nth p.Plan.Kids 1).Attrs = true then (joinL (nth p.Plan.Kids 0).Attrs (nth p.Plan.Kids 1).Attrs, true) else ([], false) := by simp [colsM, h]
      rw [e1]; split
      · rename_i q; rw [q]
      · rename_i q; rw [Bool.eq_false_iff.2 q]
    rw [e]; exact step_kfun _ rfl (plJoin_spec n p (by omega) (hA 0 (by omega)) (hA 1 (by omega))) call178 hx hy
  · have hn2 : p.Plan.Kids.length = 2 := by simp [kidsN] at hn; omega
    have e : colsM p.schema p.Plan = ((nth p.Plan.Kids 0).Attrs, alikeM (nth p.Plan.Kids 0).Attrs (nth p.Plan.Kids 1).Attrs) := by simp [colsM, h]
    rw [e]; exact step_kfun _ rfl (plBoth_spec n p (by omega) (hA 0 (by omega))) call180 hx hy
  · have hn2 : p.Plan.Kids.length = 2 := by simp [kidsN] at hn; omega
    have e : colsM p.schema p.Plan = ((nth p.Plan.Kids 0).Attrs, alikeM (nth p.Plan.Kids 0).Attrs (nth p.Plan.Kids 1).Attrs) := by simp [colsM, h]
    rw [e]; exact step_kfun _ rfl (plBoth_spec n p (by omega) (hA 0 (by omega))) call180 hx hy
  · have hn1 : p.Plan.Kids.length = 1 := by simp [kidsN] at hn; omega
    have e : colsM p.schema p.Plan = (if renOk p.Plan = true then renL p.Plan else [], renOk p.Plan) := by
      have e1 : colsM p.schema p.Plan = if renOk p.Plan = true then (renL p.Plan, true) else ([], false) := by simp [colsM, h]
      rw [e1]; split
      · rename_i q; rw [q]
      · rename_i q; rw [Bool.eq_false_iff.2 q]
    rw [e]; exact step_kfun _ rfl (plRen_spec n p (by omega) (hA 0 (by omega))) call183 hx hy
  · have hn1 : p.Plan.Kids.length = 1 := by simp [kidsN] at hn; omega
    have e : colsM p.schema p.Plan = (if grpOk p.Plan = true then grpL p.Plan else [], grpOk p.Plan && grpB p.Plan) := by
      have e1 : colsM p.schema p.Plan = if grpOk p.Plan = true then (grpL p.Plan, grpB p.Plan) else ([], false) := by simp [colsM, h]
      rw [e1]; split
      · rename_i q; rw [q, Bool.true_and]
      · rename_i q; rw [Bool.eq_false_iff.2 q, Bool.false_and]
    rw [e]; exact step_kfun _ rfl (plGrp_spec n p (by omega) (hA 0 (by omega)) (by omega)) call186 hx hy
end
open Go Go.Proofs Go.Proofs.Tryz
theorem cols_len {s : GSchema} {n : Nat} {p : GPlan} (hz : SchSz s) (hp : PlSz (n + 1) p) (hk : kindOk p.Kind = true) (hn : (p.Kids.length : Int) = kidsN p.Kind) : (colsM s p).1.length ≤ 1000000000000 := by
  obtain ⟨z1, z2, z3, z4, z5⟩ := hp
  have hA : ∀ i, i < p.Kids.length → (nth p.Kids i).Attrs.length ≤ 100000000 := fun i hi => Nat.le_trans (z5 _ (nth_mem hi)).2 (by omega)
  rcases kind_cases hk with h | h | h | h | h | h | h | h <;> rw [h] at hn <;> simp only [kidsN] at hn <;> simp at hn
  · have e : colsM s p = if 0 ≤ p.Table ∧ p.Table < s.Tables.length then (tableL (nth s.Tables p.Table.toNat) p.Attrs, true) else ([], false) := by simp [colsM, h]
    rw [e]; split
    · rename_i q
      have := (hz.tab _ (nth_mem (l := s.Tables) (i := p.Table.toNat) (by omega))).at'
      simp only [tableL, List.length_map, List.length_range]; omega
    · simp
  · have e : (colsM s p).1 = (nth p.Kids 0).Attrs := by simp [colsM, h]
    rw [e]; have := hA 0 (by omega); omega
  · have e : (colsM s p).1 = pickM (nth p.Kids 0).Attrs p.Cols := by simp [colsM, h]
    rw [e]; have := pickM_len (nth p.Kids 0).Attrs p.Cols; omega
  · have e : colsM s p = if joinOk (nth p.Kids 0).Attrs (nth p.Kids 1).Attrs = true then (joinL (nth p.Kids 0).Attrs (nth p.Kids 1).Attrs, true) else ([], false) := by simp [colsM, h]
    rw [e]; split
    · have := joinL_len (nth p.Kids 0).Attrs (nth p.Kids 1).Attrs
      have := hA 0 (by omega); have := hA 1 (by omega); simp only []; omega
    · simp
  · have e : (colsM s p).1 = (nth p.Kids 0).Attrs := by simp [colsM, h]
    rw [e]; have := hA 0 (by omega); omega
  · have e : (colsM s p).1 = (nth p.Kids 0).Attrs := by simp [colsM, h]
    rw [e]; have := hA 0 (by omega); omega
  · have e : colsM s p = if renOk p = true then (renL p, true) else ([], false) := by simp [colsM, h]
    rw [e]; split
    · simp only [renL, List.length_set]; have := hA 0 (by omega); omega
    · simp
  · have e : colsM s p = if grpOk p = true then (grpL p, grpB p) else ([], false) := by simp [colsM, h]
    rw [e]; split
    · simp only [grpL, pickL, List.length_append, List.length_map, List.length_singleton]; omega
    · simp
/-- What valid does at queries of a depth. -/
def ValidS (s : GSchema) (n : Nat) : Prop := ∀ (lv : Nat) (p : GPlan), lv ≤ 1000 → PlSz n p → Fun1 prog 105 [rSchema.ty s, tMapI kvI rkind kindsM, (rPlan n).ty p, tV (.int .i64 lv)] (tV (.bool (validM s lv p)))
set_option maxHeartbeats 4000000 in
theorem valid1_spec (s : GSchema) (hz : SchSz s) (n lv : Nat) (p : GPlan) (hlv : lv ≤ 1000) (hp : PlSz (n + 1) p) (ih : ValidS s n) : Fun1 prog 105 [rSchema.ty s, tMapI kvI rkind kindsM, (rPlan (n + 1)).ty p, tV (.int .i64 lv)] (tV (.bool (validM s lv p))) := by
 refine Spec.enter func105 rfl rfl fun h0 w0 fr0 => ?_
 obtain ⟨z1, z2, z3, z4, z5⟩ := id hp
 refine Jr (Js rfl (step_box (R := rSchema) Sr) (Js rfl (step_box (R := (rPlan (n + 1))) Sr) (Ja rfl (JL_nil (Jr ?_)))))
 refine Jm rfl (Js rfl (step_fieldAddr so46 Sr rfl) (Jl rfl ty3 Sr (Js rfl (step_lookupI_ok (kv := kvI) (R := rkind) (z := zkind) (KeyT.int underlying3) underlying164 (fun w => zeroValue213 w) zr213 Sr Sr) (Jm rfl (Js rfl (step_extract Sr rfl) ?_)))))
 refine Js rfl (step_extract Sr rfl) ?_
 refine Jx rfl (step_alloc (fun w => zeroValue213 w) zr213) fun v9 => ?_
 refine Ju (step_store_box ty213 Sr Sr zS) fun _ => ?_
 refine JL_freeze (t := 9) (Sel.take (Sel.none _)) Frz.box ?_
 refine Ja rfl (JL_nil (J_seq (Jr (Jm rfl (Js rfl (step_not Sr) ?_)))))
 refine Jm rfl ?_
 refine Jk rfl Sr rfl (step_move Sr) ?_
 refine Jg rfl Sr rfl (fun hw => step_eql (Sub.w hw) Sr) (Js rfl (step_pick_or Sr Sr) (Jm rfl ?_))
 refine Jk rfl Sr rfl (step_fieldAddr so46 Sr rfl) ?_
 refine Jg rfl Sr rfl (fun hw => step_load_ptr ty42 (Sub.w hw)) (Jg rfl Sr rfl (fun hw => step_len_sl underlying42 (Sub.w hw)) ?_)
 refine Jk rfl Sr rfl (step_fieldAddr so213 Sr rfl) ?_
 refine Jg rfl Sr rfl (fun hw => step_load_ptr ty3 (Sub.w hw)) (Jg rfl Sr rfl (fun hw => step_neq (Sub.w hw) (Sub.w hw)) (Js rfl (step_pick_or Sr Sr) (JL_nil ?_)))
 refine J_cond Sr (fun h37 => ?_) (fun h37 => ?_)
 ·
  try simp only [NF] at h37
  refine Jr (Ja rfl (JL_nil (J_ret ?_)))
  refine K_ret1 (t := 8) rfl () ?_
  refine Sub.bool ?_
  cases lv with
  | zero => rfl
  | succ l =>
   have : (kindOk p.Kind && decide ((p.Kids.length : Int) = kidsN p.Kind)) = false := by
    rw [kinds_some] at h37
    by_cases hkd : kindOk p.Kind = true
    ·
     rw [hkd, Bool.true_and, decide_eq_false_iff_not, ← kinds_kids hkd]
     rcases h37 with (h | h) | h
     ·
      rw [hkd] at h; cases h
     ·
      omega
     exact h
    rw [Bool.eq_false_iff.2 hkd, Bool.false_and]
   simp only [validM, this, Bool.false_and]
 try simp only [NF] at h37
 rw [kinds_some] at h37
 have hkd : kindOk p.Kind = true := by simp_all
 have hkn : (p.Kids.length : Int) = kidsN p.Kind := by rw [← kinds_kids hkd]; simp_all
 obtain ⟨l, rfl⟩ : ∃ l, lv = l + 1 := ⟨lv - 1, by omega⟩
 refine J_skip (J_seq (Jr (Js rfl (step_fieldAddr so46 Sr rfl) (Jl rfl ty42 Sr (Js rfl (step_len_sl underlying42 Sr) ?_)))))
 refine Jm rfl (JL_nil (J_block ?_))
 refine J_loopL (σ := Nat) (fun i => i ≤ p.Kids.length ∧ ∀ k, k < i → validM s l (nth p.Kids k) = true) (fun i => upd (upd (upd (upd (upd (upd (upd (upd (upd env0 1 (tMapI kvI rkind kindsM)) 3 (tV (.int .i64 ((l + 1 : Nat) : Int)))) 4 (tPtr rSchema s)) 6 (tPtr (rPlan (n + 1)) p)) 9 (tPtr rkind (kindV p.Kind))) 10 (tV (.bool (mget kindsM p.Kind).isSome))) 39 (tSl (rPlan n) p.Kids)) 40 (tV (.int .i64 p.Kids.length))) 41 (tV (.int .i64 i))) (fun i => []) (fun i => p.Kids.length - i) 0 ⟨by omega, fun k hk => by omega⟩ (zU) (LSub.rfl) ?_
 rintro i ⟨hi, hv⟩
 refine Jr (Js rfl (step_lss Sr Sr) (JL_nil (J_seq ?_)))
 refine J_cond Sr (fun h42 => ?_) (fun h42 => ?_)
 ·
  try simp only [NF] at h42
  have hlt : i < p.Kids.length := by omega
  refine K_fact 39 (fun _ _ r => kids_pos zG r) fun ⟨m, hm⟩ => ?_
  subst hm
  refine J_skip (J_seq (J_block (Jr ?_)))
  refine Js rfl (step_indexAddr_sl  underlying42 ty46 Sr Sr rfl (gb (by exact hlt))) ?_
  refine Jl rfl ty46 Sr ?_
  refine Jx rfl (step_alloc (fun w => zeroValue46 w) (zr46 (n := m))) fun v12 => ?_
  refine Ju (step_store_box ty46 Sr Sr zS) fun _ => ?_
  refine JL_freeze (t := 12) (Sel.take (Sel.none _)) Frz.box ?_
  refine JL_nil (Jr (Jl rfl ty41 Sr (Jm rfl (Jl rfl ty46 Sr (Jm rfl ?_)))))
  refine Js rfl (step_sub Sr Sr z6) (Js rfl (step_call0 (ih l _ zG (z5 _ (nth_mem hlt)).1) ⟨Sr, Sr, Sr, Sub.int zG, trivial⟩ call105) (Js rfl (step_not Sr) (JL_nil ?_)))
  refine J_cond Sr (fun h51 => ?_) (fun h51 => ?_)
  ·
   try simp only [NF] at h51
   refine Jr (Ja rfl (JL_nil (J_ret ?_)))
   refine K_ret1 (t := 8) rfl () ?_
   refine Sub.bool ?_
   have : p.Kids.all (validM s l) = false := all_f hlt (by simpa using h51)
   simp only [validM, this]; simp
  try simp only [NF] at h51
  refine J_skip (J_region (Js rfl (step_add Sr Sr z6) (Jm rfl (JL_nil ?_))))
  refine K_againL (σ := Nat) (s := i) (i + 1) zO ?_ (zU) (LSub.rfl)
  exact pred_again (p := fun q => validM s l q = true) hlt hv (by simpa using h51)
 try simp only [NF] at h42
 have hkids : p.Kids.all (validM s l) = true := all_t (fun k hk => hv k zG)
 refine J_exit (J_seq (Jr (Js rfl (step_fieldAddr so213 Sr rfl) (Jl rfl ty79 Sr (Jl rfl ty46 Sr ?_)))))
 refine Js rfl (step_rest hkd Sr Sr) ?_
 refine Jx rfl (step_alloc (fun w => zeroValue46 w) (zr46 (n := n))) fun v13 => ?_
 refine Ju (step_store_box ty46 Sr Sr zS) fun _ => ?_
 refine JL_freeze (t := 13) (Sel.take (Sel.none _)) Frz.box ?_
 refine JL_nil (Jr (Js rfl (step_fieldAddr so46 Sr rfl) (Jl rfl ty3 Sr (Js rfl (step_neq Sr Sr) (Jm rfl ?_)))))
 refine Jk rfl Sr rfl (step_fieldAddr so46 Sr rfl) ?_
 refine Jg rfl Sr rfl (fun hw => step_load_ptr ty43 (Sub.w hw)) (Jg rfl Sr rfl (fun hw => step_len_sl underlying43 (Sub.w hw)) (Jg rfl Sr rfl (fun hw => step_gtr (Sub.w hw) Sr) (Js rfl (step_pick_or Sr Sr) (Jm rfl ?_))))
 refine Jk rfl Sr rfl (step_fieldAddr so46 Sr rfl) ?_
 refine Jg rfl Sr rfl (fun hw => step_load_ptr ty36 (Sub.w hw)) (Jg rfl Sr rfl (fun hw => step_len_sl underlying36 (Sub.w hw)) (Jg rfl Sr rfl (fun hw => step_gtr (Sub.w hw) Sr) (Js rfl (step_pick_or Sr Sr) (Jm rfl ?_))))
 refine Jk rfl Sr rfl (step_fieldAddr so46 Sr rfl) ?_
 refine Jg rfl Sr rfl (fun hw => step_load_ptr ty3 (Sub.w hw)) (Jg rfl Sr rfl (fun hw => step_neq (Sub.w hw) Sr) (Js rfl (step_pick_or Sr Sr) (Jm rfl ?_)))
 refine Jk rfl Sr rfl (step_fieldAddr so46 Sr rfl) ?_
 refine Jg rfl Sr rfl (fun hw => step_load_ptr ty3 (Sub.w hw)) (Jg rfl Sr rfl (fun hw => step_neq (Sub.w hw) Sr) (Js rfl (step_pick_or Sr Sr) (JL_nil ?_)))
 refine J_cond Sr (fun h81 => ?_) (fun h81 => ?_)
 ·
  try simp only [NF] at h81
  refine Jr (Ja rfl (JL_nil (J_ret ?_)))
  refine K_ret1 (t := 8) rfl () ?_
  refine Sub.bool ?_
  have : bareM p = false := by
   unfold bareM
   simp only [NF]
   exact h81
  simp only [validM, this]; simp
 try simp only [NF] at h81
 have hb : bareM p = true := by
  unfold bareM
  simp only [NF]
  exact h81
 refine J_skip (J_seq (Jr (Js rfl (step_fieldAddr so46 Sr rfl) (Jl rfl ty44 Sr (Js rfl (step_len_sl underlying44 Sr) ?_)))))
 refine Jm rfl (JL_nil (J_block ?_))
 refine J_loopL (σ := Nat) (fun i => i ≤ p.Attrs.length ∧ ∀ k, k < i → namesOk p.Attrs k = true) (fun i => upd (upd (upd (upd (upd (upd (upd env0 4 (tPtr rSchema s)) 6 (tPtr (rPlan (n + 1)) p)) 9 (tPtr rkind (kindV p.Kind))) 10 (tV (.bool (mget kindsM p.Kind).isSome))) 83 (tSl rAttr p.Attrs)) 84 (tV (.int .i64 p.Attrs.length))) 85 (tV (.int .i64 i))) (fun i => []) (fun i => p.Attrs.length - i) 0 ⟨by omega, fun k hk => by omega⟩ (zU) (LSub.rfl) ?_
 rintro i ⟨hi2, hv2⟩
 refine Jr (Js rfl (step_lss Sr Sr) (JL_nil (J_seq ?_)))
 refine J_cond Sr (fun h86 => ?_) (fun h86 => ?_)
 ·
  try simp only [NF] at h86
  have hlt : i < p.Attrs.length := by omega
  refine J_skip (J_seq (J_block (Jr (Jm rfl ?_))))
  refine Js rfl (step_indexAddr_sl  underlying44 ty89 Sr Sr rfl (gb (by exact hlt))) ?_
  refine Jl rfl ty89 Sr ?_
  refine Jx rfl (step_alloc (fun w => zeroValue89 w) zr89) fun v15 => ?_
  refine Ja rfl ?_
  refine Ju (step_store_box ty89 Sr Sr zS) fun _ => ?_
  refine JL_freeze (t := 15) (Sel.take (Sel.none _)) Frz.box ?_
  refine JL_nil (Jr (Js rfl (step_fieldAddr so46 Sr rfl) (Jl rfl ty44 Sr (Js rfl (step_fieldAddr so89 Sr rfl) (Jl rfl ty9 Sr ?_)))))
  refine Js rfl (step_call0 (acolumn_spec _ _ (by show p.Attrs.length ≤ _; omega)) ⟨Sr, Sr, trivial⟩ call166) ?_
  refine Jm rfl (Js rfl (step_neq Sr Sr) (JL_nil ?_))
  refine J_cond Sr (fun h96 => ?_) (fun h96 => ?_)
  ·
   try simp only [NF] at h96
   refine Jr (Ja rfl (JL_nil (J_ret ?_)))
   refine K_ret1 (t := 8) rfl () ?_
   refine Sub.bool ?_
   have : namesOk p.Attrs i = false := by simpa [namesOk] using h96
   simp only [validM, rall_f hlt this]; simp
  try simp only [NF] at h96
  refine J_skip (J_region (Js rfl (step_add Sr Sr z6) (Jm rfl (JL_nil ?_))))
  refine K_againL (σ := Nat) (s := i) (i + 1) zO ?_ (zU) (LSub.rfl)
  refine ⟨by omega, fun k hk => ?_⟩
  by_cases e : k = i
  ·
   subst e; simpa [namesOk] using h96
  exact hv2 k zG
 try simp only [NF] at h86
 have hns : (List.range p.Attrs.length).all (namesOk p.Attrs) = true := rall_t (fun k hk => hv2 k zG)
 refine J_exit (Jr (Js rfl (step_fieldAddr so213 Sr rfl) (Jl rfl ty210 Sr (Jl rfl ty46 Sr (Jl rfl ty41 Sr ?_)))))
 refine Js rfl (step_build (x := (⟨p, s⟩ : Gplan)) (zs := [[Value.int .i64 0, Value.int .i64 0, Value.slice none 0 0, Value.slice none 0 0, Value.slice none 0 0, Value.int .i64 0, Value.int .i64 0, Value.slice none 0 0], [Value.slice none 0 0]]) so217 (fun w => zeroValue217 w) ⟨Sr, Sr, trivial⟩ ⟨⟨Sr, rfl⟩, ⟨Sr, rfl⟩, trivial⟩) (Js rfl (step_cols hkd hkn hz hp Sr Sr) (Jm rfl (Js rfl (step_extract Sr rfl) (Js rfl (step_extract Sr rfl) (Ja rfl ?_)))))
 refine Ja rfl (JL_nil (Jr (Jm rfl (Jm rfl ?_))))
 refine Jk rfl Sr rfl (step_move Sr) ?_
 refine Jk rfl Sr rfl (step_fieldAddr so46 Sr rfl) ?_
 refine Jg rfl Sr rfl (fun hw => step_load_ptr ty44 (Sub.w hw)) (Jg rfl Sr rfl (fun hw => step_call0 (alike_spec _ _ (cols_len hz hp hkd hkn)) ⟨(Sub.w hw), (Sub.w hw), trivial⟩ call167) (Js rfl (step_pick_and Sr Sr) (Ja rfl (JL_nil (J_ret ?_)))))
 refine K_ret1 (t := 8) rfl () ?_
 refine Sub.bool ?_
 have hkn2 : decide ((p.Kids.length : Int) = kidsN p.Kind) = true := by rw [decide_eq_true_eq]; exact hkn
 simp only [validM, hkd, hkn2, hkids, hb, hns, Bool.true_and]
theorem valid_spec (s : GSchema) (hz : SchSz s) : ∀ n, ValidS s n
 | 0 => fun lv p hlv hp => by
  refine Spec.enter func105 rfl rfl fun h0 w0 fr0 => ?_
  exact K_fact 2 (fun _ _ r => (show False from r)) fun q => q.elim
 | n + 1 => fun lv p hlv hp => valid1_spec s hz n lv p hlv hp (valid_spec s hz n)
def vldM (s : GSchema) (p : GPlan) : Bool := schM s && validM s 12 p
theorem algValid_spec (s : GSchema) (hz : SchSz s) (n : Nat) (p : GPlan) (hp : PlSz n p) : Fun1 prog 60 [rSchema.ty s, (rPlan n).ty p] (tV (.bool (vldM s p))) := by
 refine Spec.enter func60 rfl rfl fun h0 w0 fr0 => ?_
 refine Jr (Js rfl (step_box (R := rSchema) Sr) (Js rfl (step_box (R := (rPlan n)) Sr) (Ja rfl (JL_nil (J_seq ?_)))))
 refine J_draw [⟨0, [2], true⟩, ⟨1, [5], true⟩, ⟨2, [6], true⟩, ⟨3, [2, 7], true⟩, ⟨4, [7], true⟩, ⟨5, [3, 7], true⟩, ⟨6, [7, 8, 9, 10], true⟩, ⟨7, [7, 11], true⟩, ⟨8, [12], true⟩] rfl (by kernel_rfl) ?_
 refine Mf rfl rfl (step_load_ptr ty41 Sr) (Mf rfl rfl (step_call0 (schValid_spec _ hz) ⟨Sr, trivial⟩ call104) (Mv rfl rfl ?_))
 refine Mk rfl rfl Sr rfl (step_load_ptr ty41 Sr) ?_
 refine Mk rfl rfl Sr rfl (step_call0 (kinds_spec) trivial call106) ?_
 refine Mk rfl rfl Sr rfl (step_load_ptr ty46 Sr) ?_
 refine Mg rfl rfl Sr rfl (fun hw => step_call0 (valid_spec s hz n 12 p zG hp) ⟨Sub.w hw, Sub.w hw, Sub.w hw, Sr, trivial⟩ call105) (Mf rfl rfl (step_pick_and Sr Sr) (Mf rfl rfl (step_assign Sr) (JM_nil (J_ret ?_))))
 exact K_ret1 (t := 4) rfl () Sr
end Lg
