/- Walks of the comparisons, of head, and from a contract on representations to the rows. -/
import Derived.Test.YtfojldlbhhigbaaGreatDoorG
import Derived.Test.YtfojldlbhhigbaaGreatDoorCards
import Derived.Test.YtfojldlbhhigbaaGreatDoorTie
import Derived.Lib.LaidTab
import Derived.Stop.LaidErr
import Derived.ProofKit
import Derived.OpenShut
import Derived.Deep.DeepHandedRow
import Derived.Lay
set_option linter.unusedVariables false
set_option linter.unusedSimpArgs false
set_option linter.unusedSectionVars false
namespace Lg
open Go Go.Proofs


theorem list_eq_nth {α : Type} [Inhabited α] {a b : List α} (hl : a.length = b.length) (h : ∀ k, k < a.length → nth a k = nth b k) : a = b := by
  apply List.ext_getElem hl
  intro k h1 h2
  have := h k h1
  rwa [nth_get h1, nth_get h2] at this
abbrev kvA (p : Int × Int) : Value := .agg #[.int .i64 p.1, .int .i64 p.2]
theorem Sub.pair {p : Int × Int} : Sub (rA2.ty p) (tV (kvA p)) := fun h v r => by
  obtain ⟨cs, r, rfl⟩ := r
  obtain ⟨c0, _, rfl, r0, c1, _, rfl, r1, rz⟩ := r
  have r0 : c0 = [.int .i64 p.1] := r0
  have r1 : c1 = [.int .i64 p.2] := r1
  subst r0 r1; rw [show _ = [] from rz]; rfl
theorem eq_pair (a b : Int × Int) (w : World) : (Op.equalIn 10000 52 (kvA a) (kvA b)).run Tryz.prog w = .ok (decide (a = b)) w := by
  have u3 := Tryz.underlying3
  have a3 := Tryz.isAgg3
  have z3 := Tryz.sizeOf3
  have h3 : ∀ (n : Nat) (x y : Int) (w : World), (Op.equalIn (n + 1) 3 (.int .i64 x) (.int .i64 y)).run Tryz.prog w = .ok (x == y) w := fun n x y w => run_equalIn_int w n 3 .i64 .i64 x y u3
  have key : ∀ n, (Op.equalIn (n + 1 + 1) 52 (kvA a) (kvA b)).run Tryz.prog w = .ok (decide (a = b)) w := fun n => by
    rw [Op.equalIn]
    simp only [Sem.run_bind, run_underlying Tryz.underlying52, Result.andThen_ok]
    have e : decide (a = b) = (decide (a.1 = b.1) && decide (a.2 = b.2)) := by
      rw [Bool.eq_iff_iff]; simp [Prod.ext_iff]
    rw [e]
    by_cases h1 : a.1 = b.1 <;> by_cases h2 : a.2 = b.2 <;> simp [z3, part, Sem.run_bind, a3, h3, h1, h2, Std.Legacy.Range.forIn_eq_forIn_range', Std.Legacy.Range.size, List.range']
  exact key 9998
theorem ge_pair : Tryz.prog.eqGuardType Tryz.prog.depth 52 = false := by kernel_rfl
theorem step_neq_pair {ro : Option Nat} {N : Nat} {ds : List Deferred} {h0 : PH} {w0 : World} {r : PH} {E : Env} {L : List SP} {d : Option Nat} {ty : Nat} {pos : String} {af : Array Edge} {g : Option (Nat × Bool)} {x y : Operand} {U : Nat} {a b : Int × Int} (hx : Sub (opTy E x) (rA2.ty a)) (hy : Sub (opTy E y) (rA2.ty b)) :
    Step1 ⟨Tryz.prog, ro, N, ds, h0, w0, r⟩ ⟨d, .binOp .neq 52 x y U, ty, pos, af, g⟩ E L (tV (.bool (!decide (a = b)))) :=
  Step.of_same (by intro c h; cases h) fun ac w h hw f => by
    have h1 : ac.eval x = kvA a := f.get (Sub.trans hx Sub.pair)
    have h2 : ac.eval y = kvA b := f.get (Sub.trans hy Sub.pair)
    have he := run_eqGuard_agg (P := Tryz.prog) w .neq 52 x y #[.int .i64 a.1, .int .i64 a.2] #[.int .i64 b.1, .int .i64 b.2] ge_pair
    refine ⟨.bool (!decide (a = b)), ?_, rfl⟩
    simp [execOp, h1, h2, Sem.run_bind, he, run_neq_struct, eq_pair]
def cellFew (c : GCell) : Prop := c.Value.Text.size ≤ 300
def recFew (r : GRecord) : Prop := r.Cells.length ≤ 20 ∧ ∀ c ∈ r.Cells, cellFew c
def FewP (blocks : List GBlock) (records : List GRecord) (n : Int) : Prop := blocks.length ≤ 10 ∧ (records.length : Int) ≤ n ∧ ∀ r ∈ records, recFew r
instance (c : GCell) : Decidable (cellFew c) := inferInstanceAs (Decidable (_ ≤ _))
instance (r : GRecord) : Decidable (recFew r) := inferInstanceAs (Decidable (_ ∧ ∀ c ∈ r.Cells, cellFew c))
instance (blocks : List GBlock) (records : List GRecord) (n : Int) : Decidable (FewP blocks records n) := inferInstanceAs (Decidable (_ ∧ _ ∧ ∀ r ∈ records, recFew r))
theorem recFew.ok {r : GRecord} (h : recFew r) : recOk r := fun c hc => by have := h.2 c hc; unfold cellFew at this; omega
theorem all_nth {α : Type} [Inhabited α] {p : α → Prop} {l : List α} (h : ∀ k, k < l.length → p (nth l k)) : ∀ x ∈ l, p x := fun x hx => by
  obtain ⟨k, hk, rfl⟩ := List.getElem_of_mem hx
  have := h k hk
  rwa [nth_get hk] at this
def txtV (s : ByteArray) : GValue := ⟨1, 0, s⟩
def ofR (v : GValue) : GRecord := ⟨zKey, 0, 0, [⟨v, 0, 0⟩]⟩

theorem same_again {α : Type} [Inhabited α] {a b : List α} {i : Nat} (hlt : i < a.length) (hv : ∀ k, k < i → nth a k = nth b k) (h : nth a i = nth b i) : i + 1 ≤ a.length ∧ ∀ k, k < i + 1 → nth a k = nth b k :=
  ⟨hlt, fun k hk => by
    by_cases e : k = i
    · subst e; exact h
    · exact hv k (by omega)⟩
theorem pred_again {α : Type} [Inhabited α] {p : α → Prop} {a : List α} {i : Nat} (hlt : i < a.length) (hv : ∀ k, k < i → p (nth a k)) (h : p (nth a i)) : i + 1 ≤ a.length ∧ ∀ k, k < i + 1 → p (nth a k) :=
  ⟨hlt, fun k hk => by
    by_cases e : k = i
    · subst e; exact h
    · exact hv k (by omega)⟩

theorem SameS_spec (a b : List (ByteArray)) (hl : a.length ≤ 1000000000) : Fun1 Tryz.prog 12 [tSl rStr a, tSl rStr b] (tV (.bool (decide (a = b)))) := by
  refine Spec.enter Tryz.func12 rfl rfl fun h0 w0 fr0 => ?_
  refine J_seq ?_
  refine J_region ?_
  refine JL_step rfl rfl rfl (step_assign Sub.rfl) ?_
  refine JL_nil ?_
  refine J_seq ?_
  refine J_seq ?_
  refine J_region ?_
  refine JL_step rfl rfl rfl (step_move Sub.rfl) ?_
  refine JL_step rfl rfl rfl (step_len_sl Tryz.underlying32 Sub.rfl) ?_
  refine JL_step rfl rfl rfl (step_move Sub.rfl) ?_
  refine JL_step rfl rfl rfl (step_len_sl Tryz.underlying32 Sub.rfl) ?_
  refine JL_step rfl rfl rfl (step_neq Sub.rfl Sub.rfl) ?_
  refine JL_nil ?_
  refine J_cond Sub.rfl (fun h10 => ?_) (fun h10 => ?_)
  · try simp only [decide_eq_true_eq, decide_eq_false_iff_not, Bool.and_eq_true, Bool.or_eq_true, Bool.and_eq_false_iff, Bool.or_eq_false_iff, Bool.not_eq_true', Bool.not_eq_false', Int.not_lt, Int.not_le, Bool.not_true, Bool.not_false] at h10
    refine J_seq ?_
    refine J_region ?_
    refine JL_step rfl rfl rfl (step_assign Sub.rfl) ?_
    refine JL_nil ?_
    refine J_ret ?_
    refine K_retv (rv := .tmp 4) rfl () (.tmp Sub.rfl) (Sub.bool ?_)
    symm; rw [decide_eq_false_iff_not]; intro e; subst e; omega
  · try simp only [decide_eq_true_eq, decide_eq_false_iff_not, Bool.and_eq_true, Bool.or_eq_true, Bool.and_eq_false_iff, Bool.or_eq_false_iff, Bool.not_eq_true', Bool.not_eq_false', Int.not_lt, Int.not_le, Bool.not_true, Bool.not_false] at h10
    have hle : a.length = b.length := by omega
    refine J_skip ?_
    refine J_seq ?_
    refine J_seq ?_
    refine J_region ?_
    refine JL_step rfl rfl rfl (step_assign Sub.rfl) ?_
    refine JL_nil ?_
    refine J_block ?_
    refine J_loopL (σ := Nat) (fun i => i ≤ a.length ∧ ∀ k, k < i → nth a k = nth b k) (fun i => upd (upd (upd env0 0 (tSl rStr a)) 1 (tSl rStr b)) 5 (tV (.int .i64 i))) (fun i => []) (fun i => a.length - i) 0 ⟨by omega, fun k hk => absurd hk (by omega)⟩ (SubE.upd Sub.rfl (SubE.upd Sub.rfl (SubE.upd Sub.rfl SubE.any))) (LSub.rfl) ?_
    rintro i ⟨hi, hv⟩
    refine J_seq ?_
    refine J_seq ?_
    refine J_region ?_
    refine JL_step rfl rfl rfl (step_move Sub.rfl) ?_
    refine JL_step rfl rfl rfl (step_move Sub.rfl) ?_
    refine JL_step rfl rfl rfl (step_len_sl Tryz.underlying32 Sub.rfl) ?_
    refine JL_step rfl rfl rfl (step_lss Sub.rfl Sub.rfl) ?_
    refine JL_nil ?_
    refine J_cond Sub.rfl (fun h14 => ?_) (fun h14 => ?_)
    · try simp only [decide_eq_true_eq, decide_eq_false_iff_not, Bool.and_eq_true, Bool.or_eq_true, Bool.and_eq_false_iff, Bool.or_eq_false_iff, Bool.not_eq_true', Bool.not_eq_false', Int.not_lt, Int.not_le, Bool.not_true, Bool.not_false] at h14
      have hlt : i < a.length := by omega
      have hlt2 : i < b.length := by omega
      refine J_skip ?_
      refine J_seq ?_
      refine J_block ?_
      refine J_seq ?_
      refine J_draw [⟨0, [0], true⟩, ⟨1, [5], true⟩, ⟨2, [17, 18], true⟩, ⟨3, [19], true⟩, ⟨4, [1], true⟩, ⟨5, [5], true⟩, ⟨6, [21, 22], true⟩, ⟨7, [23], true⟩, ⟨8, [20, 24], true⟩] rfl (by kernel_rfl) ?_
      refine JM_step rfl rfl rfl rfl (fun _ => step_move Sub.rfl) ?_
      refine JM_step rfl rfl rfl rfl (fun _ => step_move Sub.rfl) ?_
      refine JM_step rfl rfl rfl rfl (fun _ => step_indexAddr_sl  Tryz.underlying32 ty9 Sub.rfl Sub.rfl rfl (gb ?sg1)) ?_
      case sg1 => exact hlt
      refine JM_step rfl rfl rfl rfl (fun _ => step_load_ptr ty9 Sub.rfl) ?_
      refine JM_step rfl rfl rfl rfl (fun _ => step_move Sub.rfl) ?_
      refine JM_step rfl rfl rfl rfl (fun _ => step_move Sub.rfl) ?_
      refine JM_step rfl rfl rfl rfl (fun _ => step_indexAddr_sl  Tryz.underlying32 ty9 Sub.rfl Sub.rfl rfl (gb ?sg1)) ?_
      case sg1 => exact hlt2
      refine JM_step rfl rfl rfl rfl (fun _ => step_load_ptr ty9 Sub.rfl) ?_
      refine JM_step rfl rfl rfl rfl (fun _ => step_neq_str Sub.rfl Sub.rfl) ?_
      refine JM_nil ?_
      refine J_cond Sub.rfl (fun h25 => ?_) (fun h25 => ?_)
      · try simp only [decide_eq_true_eq, decide_eq_false_iff_not, Bool.and_eq_true, Bool.or_eq_true, Bool.and_eq_false_iff, Bool.or_eq_false_iff, Bool.not_eq_true', Bool.not_eq_false', Int.not_lt, Int.not_le, Bool.not_true, Bool.not_false] at h25
        refine J_seq ?_
        refine J_region ?_
        refine JL_step rfl rfl rfl (step_assign Sub.rfl) ?_
        refine JL_nil ?_
        refine J_ret ?_
        refine K_retv (rv := .tmp 4) rfl () (.tmp Sub.rfl) (Sub.bool ?_)
        symm; rw [decide_eq_false_iff_not]; intro e; subst e; simp at h25
      · try simp only [decide_eq_true_eq, decide_eq_false_iff_not, Bool.and_eq_true, Bool.or_eq_true, Bool.and_eq_false_iff, Bool.or_eq_false_iff, Bool.not_eq_true', Bool.not_eq_false', Int.not_lt, Int.not_le, Bool.not_true, Bool.not_false] at h25
        refine J_skip ?_
        refine J_region ?_
        refine JL_step rfl rfl rfl (step_move Sub.rfl) ?_
        refine JL_step rfl rfl rfl (step_add Sub.rfl Sub.rfl ?sg1) ?_
        case sg1 => unfold in64; omega
        refine JL_step rfl rfl rfl (step_assign Sub.rfl) ?_
        refine JL_nil ?_
        refine K_againL (σ := Nat) (s := i) (i + 1) (by first | omega | (dsimp only; omega) | (simp_all; omega)) (same_again hlt hv (by simpa using h25)) (SubE.upd Sub.rfl (SubE.upd Sub.rfl (SubE.upd Sub.rfl SubE.any))) (LSub.rfl)
    · try simp only [decide_eq_true_eq, decide_eq_false_iff_not, Bool.and_eq_true, Bool.or_eq_true, Bool.and_eq_false_iff, Bool.or_eq_false_iff, Bool.not_eq_true', Bool.not_eq_false', Int.not_lt, Int.not_le, Bool.not_true, Bool.not_false] at h14
      refine J_exit ?_
      refine J_seq ?_
      refine J_region ?_
      refine JL_step rfl rfl rfl (step_assign Sub.rfl) ?_
      refine JL_nil ?_
      refine J_ret ?_
      refine K_retv (rv := .tmp 4) rfl () (.tmp Sub.rfl) (Sub.bool ?_)
      symm; rw [decide_eq_true_eq]; exact list_eq_nth hle (fun k hk => hv k (by omega))
theorem SameP_spec (a b : List (Int × Int)) (hl : a.length ≤ 1000000000) : Fun1 Tryz.prog 19 [tSl rA2 a, tSl rA2 b] (tV (.bool (decide (a = b)))) := by
  refine Spec.enter Tryz.func19 rfl rfl fun h0 w0 fr0 => ?_
  refine J_seq ?_
  refine J_region ?_
  refine JL_step rfl rfl rfl (step_assign Sub.rfl) ?_
  refine JL_nil ?_
  refine J_seq ?_
  refine J_seq ?_
  refine J_region ?_
  refine JL_step rfl rfl rfl (step_move Sub.rfl) ?_
  refine JL_step rfl rfl rfl (step_len_sl Tryz.underlying36 Sub.rfl) ?_
  refine JL_step rfl rfl rfl (step_move Sub.rfl) ?_
  refine JL_step rfl rfl rfl (step_len_sl Tryz.underlying36 Sub.rfl) ?_
  refine JL_step rfl rfl rfl (step_neq Sub.rfl Sub.rfl) ?_
  refine JL_nil ?_
  refine J_cond Sub.rfl (fun h10 => ?_) (fun h10 => ?_)
  · try simp only [decide_eq_true_eq, decide_eq_false_iff_not, Bool.and_eq_true, Bool.or_eq_true, Bool.and_eq_false_iff, Bool.or_eq_false_iff, Bool.not_eq_true', Bool.not_eq_false', Int.not_lt, Int.not_le, Bool.not_true, Bool.not_false] at h10
    refine J_seq ?_
    refine J_region ?_
    refine JL_step rfl rfl rfl (step_assign Sub.rfl) ?_
    refine JL_nil ?_
    refine J_ret ?_
    refine K_retv (rv := .tmp 4) rfl () (.tmp Sub.rfl) (Sub.bool ?_)
    symm; rw [decide_eq_false_iff_not]; intro e; subst e; omega
  · try simp only [decide_eq_true_eq, decide_eq_false_iff_not, Bool.and_eq_true, Bool.or_eq_true, Bool.and_eq_false_iff, Bool.or_eq_false_iff, Bool.not_eq_true', Bool.not_eq_false', Int.not_lt, Int.not_le, Bool.not_true, Bool.not_false] at h10
    have hle : a.length = b.length := by omega
    refine J_skip ?_
    refine J_seq ?_
    refine J_seq ?_
    refine J_region ?_
    refine JL_step rfl rfl rfl (step_assign Sub.rfl) ?_
    refine JL_nil ?_
    refine J_block ?_
    refine J_loopL (σ := Nat) (fun i => i ≤ a.length ∧ ∀ k, k < i → nth a k = nth b k) (fun i => upd (upd (upd env0 0 (tSl rA2 a)) 1 (tSl rA2 b)) 5 (tV (.int .i64 i))) (fun i => []) (fun i => a.length - i) 0 ⟨by omega, fun k hk => absurd hk (by omega)⟩ (SubE.upd Sub.rfl (SubE.upd Sub.rfl (SubE.upd Sub.rfl SubE.any))) (LSub.rfl) ?_
    rintro i ⟨hi, hv⟩
    refine J_seq ?_
    refine J_seq ?_
    refine J_region ?_
    refine JL_step rfl rfl rfl (step_move Sub.rfl) ?_
    refine JL_step rfl rfl rfl (step_move Sub.rfl) ?_
    refine JL_step rfl rfl rfl (step_len_sl Tryz.underlying36 Sub.rfl) ?_
    refine JL_step rfl rfl rfl (step_lss Sub.rfl Sub.rfl) ?_
    refine JL_nil ?_
    refine J_cond Sub.rfl (fun h14 => ?_) (fun h14 => ?_)
    · try simp only [decide_eq_true_eq, decide_eq_false_iff_not, Bool.and_eq_true, Bool.or_eq_true, Bool.and_eq_false_iff, Bool.or_eq_false_iff, Bool.not_eq_true', Bool.not_eq_false', Int.not_lt, Int.not_le, Bool.not_true, Bool.not_false] at h14
      have hlt : i < a.length := by omega
      have hlt2 : i < b.length := by omega
      refine J_skip ?_
      refine J_seq ?_
      refine J_block ?_
      refine J_seq ?_
      refine J_draw [⟨0, [0], true⟩, ⟨1, [5], true⟩, ⟨2, [17, 18], true⟩, ⟨3, [19], true⟩, ⟨4, [1], true⟩, ⟨5, [5], true⟩, ⟨6, [21, 22], true⟩, ⟨7, [23], true⟩, ⟨8, [20, 24], true⟩] rfl (by kernel_rfl) ?_
      refine JM_step rfl rfl rfl rfl (fun _ => step_move Sub.rfl) ?_
      refine JM_step rfl rfl rfl rfl (fun _ => step_move Sub.rfl) ?_
      refine JM_step rfl rfl rfl rfl (fun _ => step_indexAddr_sl  Tryz.underlying36 ty52 Sub.rfl Sub.rfl rfl (gb ?sg1)) ?_
      case sg1 => exact hlt
      refine JM_step rfl rfl rfl rfl (fun _ => step_load_ptr ty52 Sub.rfl) ?_
      refine JM_step rfl rfl rfl rfl (fun _ => step_move Sub.rfl) ?_
      refine JM_step rfl rfl rfl rfl (fun _ => step_move Sub.rfl) ?_
      refine JM_step rfl rfl rfl rfl (fun _ => step_indexAddr_sl  Tryz.underlying36 ty52 Sub.rfl Sub.rfl rfl (gb ?sg1)) ?_
      case sg1 => exact hlt2
      refine JM_step rfl rfl rfl rfl (fun _ => step_load_ptr ty52 Sub.rfl) ?_
      refine JM_step rfl rfl rfl rfl (fun _ => step_neq_pair Sub.rfl Sub.rfl) ?_
      refine JM_nil ?_
      refine J_cond Sub.rfl (fun h25 => ?_) (fun h25 => ?_)
      · try simp only [decide_eq_true_eq, decide_eq_false_iff_not, Bool.and_eq_true, Bool.or_eq_true, Bool.and_eq_false_iff, Bool.or_eq_false_iff, Bool.not_eq_true', Bool.not_eq_false', Int.not_lt, Int.not_le, Bool.not_true, Bool.not_false] at h25
        refine J_seq ?_
        refine J_region ?_
        refine JL_step rfl rfl rfl (step_assign Sub.rfl) ?_
        refine JL_nil ?_
        refine J_ret ?_
        refine K_retv (rv := .tmp 4) rfl () (.tmp Sub.rfl) (Sub.bool ?_)
        symm; rw [decide_eq_false_iff_not]; intro e; subst e; simp at h25
      · try simp only [decide_eq_true_eq, decide_eq_false_iff_not, Bool.and_eq_true, Bool.or_eq_true, Bool.and_eq_false_iff, Bool.or_eq_false_iff, Bool.not_eq_true', Bool.not_eq_false', Int.not_lt, Int.not_le, Bool.not_true, Bool.not_false] at h25
        refine J_skip ?_
        refine J_region ?_
        refine JL_step rfl rfl rfl (step_move Sub.rfl) ?_
        refine JL_step rfl rfl rfl (step_add Sub.rfl Sub.rfl ?sg1) ?_
        case sg1 => unfold in64; omega
        refine JL_step rfl rfl rfl (step_assign Sub.rfl) ?_
        refine JL_nil ?_
        refine K_againL (σ := Nat) (s := i) (i + 1) (by first | omega | (dsimp only; omega) | (simp_all; omega)) (same_again hlt hv (by simpa using h25)) (SubE.upd Sub.rfl (SubE.upd Sub.rfl (SubE.upd Sub.rfl SubE.any))) (LSub.rfl)
    · try simp only [decide_eq_true_eq, decide_eq_false_iff_not, Bool.and_eq_true, Bool.or_eq_true, Bool.and_eq_false_iff, Bool.or_eq_false_iff, Bool.not_eq_true', Bool.not_eq_false', Int.not_lt, Int.not_le, Bool.not_true, Bool.not_false] at h14
      refine J_exit ?_
      refine J_seq ?_
      refine J_region ?_
      refine JL_step rfl rfl rfl (step_assign Sub.rfl) ?_
      refine JL_nil ?_
      refine J_ret ?_
      refine K_retv (rv := .tmp 4) rfl () (.tmp Sub.rfl) (Sub.bool ?_)
      symm; rw [decide_eq_true_eq]; exact list_eq_nth hle (fun k hk => hv k (by omega))
theorem Ints_spec (a b : List (Int)) (hl : a.length ≤ 1000000000) : Fun1 Tryz.prog 20 [tSl rInt a, tSl rInt b] (tV (.bool (decide (a = b)))) := by
  refine Spec.enter Tryz.func20 rfl rfl fun h0 w0 fr0 => ?_
  refine J_seq ?_
  refine J_region ?_
  refine JL_step rfl rfl rfl (step_assign Sub.rfl) ?_
  refine JL_nil ?_
  refine J_seq ?_
  refine J_seq ?_
  refine J_region ?_
  refine JL_step rfl rfl rfl (step_move Sub.rfl) ?_
  refine JL_step rfl rfl rfl (step_len_sl Tryz.underlying40 Sub.rfl) ?_
  refine JL_step rfl rfl rfl (step_move Sub.rfl) ?_
  refine JL_step rfl rfl rfl (step_len_sl Tryz.underlying40 Sub.rfl) ?_
  refine JL_step rfl rfl rfl (step_neq Sub.rfl Sub.rfl) ?_
  refine JL_nil ?_
  refine J_cond Sub.rfl (fun h10 => ?_) (fun h10 => ?_)
  · try simp only [decide_eq_true_eq, decide_eq_false_iff_not, Bool.and_eq_true, Bool.or_eq_true, Bool.and_eq_false_iff, Bool.or_eq_false_iff, Bool.not_eq_true', Bool.not_eq_false', Int.not_lt, Int.not_le, Bool.not_true, Bool.not_false] at h10
    refine J_seq ?_
    refine J_region ?_
    refine JL_step rfl rfl rfl (step_assign Sub.rfl) ?_
    refine JL_nil ?_
    refine J_ret ?_
    refine K_retv (rv := .tmp 4) rfl () (.tmp Sub.rfl) (Sub.bool ?_)
    symm; rw [decide_eq_false_iff_not]; intro e; subst e; omega
  · try simp only [decide_eq_true_eq, decide_eq_false_iff_not, Bool.and_eq_true, Bool.or_eq_true, Bool.and_eq_false_iff, Bool.or_eq_false_iff, Bool.not_eq_true', Bool.not_eq_false', Int.not_lt, Int.not_le, Bool.not_true, Bool.not_false] at h10
    have hle : a.length = b.length := by omega
    refine J_skip ?_
    refine J_seq ?_
    refine J_seq ?_
    refine J_region ?_
    refine JL_step rfl rfl rfl (step_assign Sub.rfl) ?_
    refine JL_nil ?_
    refine J_block ?_
    refine J_loopL (σ := Nat) (fun i => i ≤ a.length ∧ ∀ k, k < i → nth a k = nth b k) (fun i => upd (upd (upd env0 0 (tSl rInt a)) 1 (tSl rInt b)) 5 (tV (.int .i64 i))) (fun i => []) (fun i => a.length - i) 0 ⟨by omega, fun k hk => absurd hk (by omega)⟩ (SubE.upd Sub.rfl (SubE.upd Sub.rfl (SubE.upd Sub.rfl SubE.any))) (LSub.rfl) ?_
    rintro i ⟨hi, hv⟩
    refine J_seq ?_
    refine J_seq ?_
    refine J_region ?_
    refine JL_step rfl rfl rfl (step_move Sub.rfl) ?_
    refine JL_step rfl rfl rfl (step_move Sub.rfl) ?_
    refine JL_step rfl rfl rfl (step_len_sl Tryz.underlying40 Sub.rfl) ?_
    refine JL_step rfl rfl rfl (step_lss Sub.rfl Sub.rfl) ?_
    refine JL_nil ?_
    refine J_cond Sub.rfl (fun h14 => ?_) (fun h14 => ?_)
    · try simp only [decide_eq_true_eq, decide_eq_false_iff_not, Bool.and_eq_true, Bool.or_eq_true, Bool.and_eq_false_iff, Bool.or_eq_false_iff, Bool.not_eq_true', Bool.not_eq_false', Int.not_lt, Int.not_le, Bool.not_true, Bool.not_false] at h14
      have hlt : i < a.length := by omega
      have hlt2 : i < b.length := by omega
      refine J_skip ?_
      refine J_seq ?_
      refine J_block ?_
      refine J_seq ?_
      refine J_draw [⟨0, [0], true⟩, ⟨1, [5], true⟩, ⟨2, [17, 18], true⟩, ⟨3, [19], true⟩, ⟨4, [1], true⟩, ⟨5, [5], true⟩, ⟨6, [21, 22], true⟩, ⟨7, [23], true⟩, ⟨8, [20, 24], true⟩] rfl (by kernel_rfl) ?_
      refine JM_step rfl rfl rfl rfl (fun _ => step_move Sub.rfl) ?_
      refine JM_step rfl rfl rfl rfl (fun _ => step_move Sub.rfl) ?_
      refine JM_step rfl rfl rfl rfl (fun _ => step_indexAddr_sl  Tryz.underlying40 ty3 Sub.rfl Sub.rfl rfl (gb ?sg1)) ?_
      case sg1 => exact hlt
      refine JM_step rfl rfl rfl rfl (fun _ => step_load_ptr ty3 Sub.rfl) ?_
      refine JM_step rfl rfl rfl rfl (fun _ => step_move Sub.rfl) ?_
      refine JM_step rfl rfl rfl rfl (fun _ => step_move Sub.rfl) ?_
      refine JM_step rfl rfl rfl rfl (fun _ => step_indexAddr_sl  Tryz.underlying40 ty3 Sub.rfl Sub.rfl rfl (gb ?sg1)) ?_
      case sg1 => exact hlt2
      refine JM_step rfl rfl rfl rfl (fun _ => step_load_ptr ty3 Sub.rfl) ?_
      refine JM_step rfl rfl rfl rfl (fun _ => step_neq Sub.rfl Sub.rfl) ?_
      refine JM_nil ?_
      refine J_cond Sub.rfl (fun h25 => ?_) (fun h25 => ?_)
      · try simp only [decide_eq_true_eq, decide_eq_false_iff_not, Bool.and_eq_true, Bool.or_eq_true, Bool.and_eq_false_iff, Bool.or_eq_false_iff, Bool.not_eq_true', Bool.not_eq_false', Int.not_lt, Int.not_le, Bool.not_true, Bool.not_false] at h25
        refine J_seq ?_
        refine J_region ?_
        refine JL_step rfl rfl rfl (step_assign Sub.rfl) ?_
        refine JL_nil ?_
        refine J_ret ?_
        refine K_retv (rv := .tmp 4) rfl () (.tmp Sub.rfl) (Sub.bool ?_)
        symm; rw [decide_eq_false_iff_not]; intro e; subst e; simp at h25
      · try simp only [decide_eq_true_eq, decide_eq_false_iff_not, Bool.and_eq_true, Bool.or_eq_true, Bool.and_eq_false_iff, Bool.or_eq_false_iff, Bool.not_eq_true', Bool.not_eq_false', Int.not_lt, Int.not_le, Bool.not_true, Bool.not_false] at h25
        refine J_skip ?_
        refine J_region ?_
        refine JL_step rfl rfl rfl (step_move Sub.rfl) ?_
        refine JL_step rfl rfl rfl (step_add Sub.rfl Sub.rfl ?sg1) ?_
        case sg1 => unfold in64; omega
        refine JL_step rfl rfl rfl (step_assign Sub.rfl) ?_
        refine JL_nil ?_
        refine K_againL (σ := Nat) (s := i) (i + 1) (by first | omega | (dsimp only; omega) | (simp_all; omega)) (same_again hlt hv (by simpa using h25)) (SubE.upd Sub.rfl (SubE.upd Sub.rfl (SubE.upd Sub.rfl SubE.any))) (LSub.rfl)
    · try simp only [decide_eq_true_eq, decide_eq_false_iff_not, Bool.and_eq_true, Bool.or_eq_true, Bool.and_eq_false_iff, Bool.or_eq_false_iff, Bool.not_eq_true', Bool.not_eq_false', Int.not_lt, Int.not_le, Bool.not_true, Bool.not_false] at h14
      refine J_exit ?_
      refine J_seq ?_
      refine J_region ?_
      refine JL_step rfl rfl rfl (step_assign Sub.rfl) ?_
      refine JL_nil ?_
      refine J_ret ?_
      refine K_retv (rv := .tmp 4) rfl () (.tmp Sub.rfl) (Sub.bool ?_)
      symm; rw [decide_eq_true_eq]; exact list_eq_nth hle (fun k hk => hv k (by omega))
theorem Few_spec (blocks : List GBlock) (records : List GRecord) (n : Int) (hn : n ≤ 1000) : Fun1 Tryz.prog 11 [tSl rBlock blocks, tSl rRecord records, tV (.int .i64 n)] (tV (.bool (decide (FewP blocks records n)))) := by
  refine Spec.enter Tryz.func11 rfl rfl fun h0 w0 fr0 => ?_
  refine J_seq ?_
  refine J_region ?_
  refine JL_step rfl rfl rfl (step_assign Sub.rfl) ?_
  refine JL_nil ?_
  refine J_seq ?_
  refine J_seq ?_
  refine J_region ?_
  refine JL_step rfl rfl rfl (step_move Sub.rfl) ?_
  refine JL_step rfl rfl rfl (step_len_sl Tryz.underlying22 Sub.rfl) ?_
  refine JL_step rfl rfl rfl (step_gtr Sub.rfl Sub.rfl) ?_
  refine JL_step rfl rfl rfl (step_move Sub.rfl) ?_
  refine JL_stepG rfl rfl rfl (Gd.plain Sub.rfl) rfl rfl (fun hw => step_move Sub.rfl) ?_
  refine JL_stepG rfl rfl rfl (Gd.plain Sub.rfl) rfl rfl (fun hw => step_len_sl Tryz.underlying23 (Sub.w hw)) ?_
  refine JL_stepG rfl rfl rfl (Gd.plain Sub.rfl) rfl rfl (fun hw => step_move Sub.rfl) ?_
  refine JL_stepG rfl rfl rfl (Gd.plain Sub.rfl) rfl rfl (fun hw => step_gtr (Sub.w hw) (Sub.w hw)) ?_
  refine JL_step rfl rfl rfl (step_pick_or Sub.rfl Sub.rfl) ?_
  refine JL_nil ?_
  refine J_cond Sub.rfl (fun h17 => ?_) (fun h17 => ?_)
  · try simp only [decide_eq_true_eq, decide_eq_false_iff_not, Bool.and_eq_true, Bool.or_eq_true, Bool.and_eq_false_iff, Bool.or_eq_false_iff, Bool.not_eq_true', Bool.not_eq_false', Int.not_lt, Int.not_le, Bool.not_true, Bool.not_false] at h17
    refine J_seq ?_
    refine J_region ?_
    refine JL_step rfl rfl rfl (step_assign Sub.rfl) ?_
    refine JL_nil ?_
    refine J_ret ?_
    refine K_retv (rv := .tmp 6) rfl () (.tmp Sub.rfl) (Sub.bool ?_)
    symm; rw [decide_eq_false_iff_not]; rintro ⟨h1, h2, h3⟩; omega
  · try simp only [decide_eq_true_eq, decide_eq_false_iff_not, Bool.and_eq_true, Bool.or_eq_true, Bool.and_eq_false_iff, Bool.or_eq_false_iff, Bool.not_eq_true', Bool.not_eq_false', Int.not_lt, Int.not_le, Bool.not_true, Bool.not_false] at h17
    have hbl : blocks.length ≤ 10 := by omega
    have hrl : (records.length : Int) ≤ n := by omega
    refine J_skip ?_
    refine J_seq ?_
    refine J_seq ?_
    refine J_region ?_
    refine JL_step rfl rfl rfl (step_assign Sub.rfl) ?_
    refine JL_nil ?_
    refine J_block ?_
    refine J_loopL (σ := Nat) (fun i => i ≤ records.length ∧ ∀ k, k < i → recFew (nth records k)) (fun i => upd (upd env0 1 (tSl rRecord records)) 7 (tV (.int .i64 i))) (fun i => []) (fun i => records.length - i) 0 ⟨by omega, fun k hk => absurd hk (by omega)⟩ (SubE.upd Sub.rfl (SubE.upd Sub.rfl SubE.any)) (LSub.rfl) ?_
    rintro i ⟨hi, hv⟩
    refine J_seq ?_
    refine J_seq ?_
    refine J_region ?_
    refine JL_step rfl rfl rfl (step_move Sub.rfl) ?_
    refine JL_step rfl rfl rfl (step_move Sub.rfl) ?_
    refine JL_step rfl rfl rfl (step_len_sl Tryz.underlying23 Sub.rfl) ?_
    refine JL_step rfl rfl rfl (step_lss Sub.rfl Sub.rfl) ?_
    refine JL_nil ?_
    refine J_cond Sub.rfl (fun h21 => ?_) (fun h21 => ?_)
    · try simp only [decide_eq_true_eq, decide_eq_false_iff_not, Bool.and_eq_true, Bool.or_eq_true, Bool.and_eq_false_iff, Bool.or_eq_false_iff, Bool.not_eq_true', Bool.not_eq_false', Int.not_lt, Int.not_le, Bool.not_true, Bool.not_false] at h21
      have hlt : i < records.length := by omega
      refine J_skip ?_
      refine J_seq ?_
      refine J_block ?_
      refine J_seq ?_
      refine J_seq ?_
      refine J_region ?_
      refine JL_step rfl rfl rfl (step_move Sub.rfl) ?_
      refine JL_step rfl rfl rfl (step_move Sub.rfl) ?_
      refine JL_step rfl rfl rfl (step_indexAddr_sl  Tryz.underlying23 ty28 Sub.rfl Sub.rfl rfl (gb ?sg1)) ?_
      case sg1 => exact hlt
      refine JL_step rfl rfl rfl (step_fieldAddr so28 Sub.rfl rfl) ?_
      refine JL_step rfl rfl rfl (step_load_ptr ty26 Sub.rfl) ?_
      refine JL_step rfl rfl rfl (step_len_sl Tryz.underlying26 Sub.rfl) ?_
      refine JL_step rfl rfl rfl (step_gtr Sub.rfl Sub.rfl) ?_
      refine JL_nil ?_
      refine J_cond Sub.rfl (fun h30 => ?_) (fun h30 => ?_)
      · try simp only [decide_eq_true_eq, decide_eq_false_iff_not, Bool.and_eq_true, Bool.or_eq_true, Bool.and_eq_false_iff, Bool.or_eq_false_iff, Bool.not_eq_true', Bool.not_eq_false', Int.not_lt, Int.not_le, Bool.not_true, Bool.not_false] at h30
        refine J_seq ?_
        refine J_region ?_
        refine JL_step rfl rfl rfl (step_assign Sub.rfl) ?_
        refine JL_nil ?_
        refine J_ret ?_
        refine K_retv (rv := .tmp 6) rfl () (.tmp Sub.rfl) (Sub.bool ?_)
        symm; rw [decide_eq_false_iff_not]; rintro ⟨h1, h2, h3⟩
        have h30 : (20 : Int) < (nth records i).Cells.length := h30
        have := (h3 _ (nth_mem hlt)).1; omega
      · try simp only [decide_eq_true_eq, decide_eq_false_iff_not, Bool.and_eq_true, Bool.or_eq_true, Bool.and_eq_false_iff, Bool.or_eq_false_iff, Bool.not_eq_true', Bool.not_eq_false', Int.not_lt, Int.not_le, Bool.not_true, Bool.not_false] at h30
        have h30 : ((nth records i).Cells.length : Int) ≤ 20 := h30
        have hcl : (nth records i).Cells.length ≤ 20 := by omega
        refine J_skip ?_
        refine J_seq ?_
        refine J_region ?_
        refine JL_step rfl rfl rfl (step_assign Sub.rfl) ?_
        refine JL_nil ?_
        refine J_block ?_
        refine J_loopL (σ := Nat) (fun k => k ≤ (nth records i).Cells.length ∧ ∀ m, m < k → cellFew (nth (nth records i).Cells m)) (fun k => upd (upd (upd (upd (upd (upd (upd env0 1 (tSl rRecord records)) 7 (tV (.int .i64 i))) 8 (tV (.int .i64 k))) 18 (tV (.int .i64 i))) 19 (tSl rRecord records)) 24 (tSl rRecord records)) 25 (tV (.int .i64 i))) (fun k => []) (fun k => (nth records i).Cells.length - k) 0 ⟨by omega, fun k hk => absurd hk (by omega)⟩ (SubE.upd Sub.rfl (SubE.upd Sub.rfl (SubE.upd Sub.rfl (SubE.upd Sub.rfl (SubE.upd Sub.rfl (SubE.upd Sub.rfl (SubE.upd Sub.rfl SubE.any))))))) (LSub.rfl) ?_
        rintro k ⟨hk, hw⟩
        refine J_seq ?_
        refine J_seq ?_
        refine J_region ?_
        refine JL_step rfl rfl rfl (step_move Sub.rfl) ?_
        refine JL_step rfl rfl rfl (step_move Sub.rfl) ?_
        refine JL_step rfl rfl rfl (step_move Sub.rfl) ?_
        refine JL_step rfl rfl rfl (step_indexAddr_sl  Tryz.underlying23 ty28 Sub.rfl Sub.rfl rfl (gb ?sg1)) ?_
        case sg1 => exact hlt
        refine JL_step rfl rfl rfl (step_fieldAddr so28 Sub.rfl rfl) ?_
        refine JL_step rfl rfl rfl (step_load_ptr ty26 Sub.rfl) ?_
        refine JL_step rfl rfl rfl (step_len_sl Tryz.underlying26 Sub.rfl) ?_
        refine JL_step rfl rfl rfl (step_lss Sub.rfl Sub.rfl) ?_
        refine JL_nil ?_
        refine J_cond Sub.rfl (fun h38 => ?_) (fun h38 => ?_)
        · try simp only [decide_eq_true_eq, decide_eq_false_iff_not, Bool.and_eq_true, Bool.or_eq_true, Bool.and_eq_false_iff, Bool.or_eq_false_iff, Bool.not_eq_true', Bool.not_eq_false', Int.not_lt, Int.not_le, Bool.not_true, Bool.not_false] at h38
          have h38 : (k : Int) < (nth records i).Cells.length := h38
          have hlk : k < (nth records i).Cells.length := by omega
          refine J_skip ?_
          refine J_seq ?_
          refine J_block ?_
          refine J_seq ?_
          refine J_region ?_
          refine JL_step rfl rfl rfl (step_move Sub.rfl) ?_
          refine JL_step rfl rfl rfl (step_move Sub.rfl) ?_
          refine JL_step rfl rfl rfl (step_indexAddr_sl  Tryz.underlying23 ty28 Sub.rfl Sub.rfl rfl (gb ?sg1)) ?_
          case sg1 => exact hlt
          refine JL_step rfl rfl rfl (step_fieldAddr so28 Sub.rfl rfl) ?_
          refine JL_step rfl rfl rfl (step_load_ptr ty26 Sub.rfl) ?_
          refine JL_step rfl rfl rfl (step_move Sub.rfl) ?_
          refine JL_step rfl rfl rfl (step_indexAddr_sl  Tryz.underlying26 ty49 Sub.rfl Sub.rfl rfl (gb ?sg1)) ?_
          case sg1 => exact hlk
          refine JL_step rfl rfl rfl (step_fieldAddr so49 Sub.rfl rfl) ?_
          refine JL_step rfl rfl rfl (step_fieldAddr so47 Sub.rfl rfl) ?_
          refine JL_step rfl rfl rfl (step_load_ptr ty9 Sub.rfl) ?_
          refine JL_step rfl rfl rfl (step_len_str Tryz.underlying9 Sub.rfl) ?_
          refine JL_step rfl rfl rfl (step_gtr Sub.rfl Sub.rfl) ?_
          refine JL_nil ?_
          refine J_cond Sub.rfl (fun h52 => ?_) (fun h52 => ?_)
          · try simp only [decide_eq_true_eq, decide_eq_false_iff_not, Bool.and_eq_true, Bool.or_eq_true, Bool.and_eq_false_iff, Bool.or_eq_false_iff, Bool.not_eq_true', Bool.not_eq_false', Int.not_lt, Int.not_le, Bool.not_true, Bool.not_false] at h52
            refine J_seq ?_
            refine J_region ?_
            refine JL_step rfl rfl rfl (step_assign Sub.rfl) ?_
            refine JL_nil ?_
            refine J_ret ?_
            refine K_retv (rv := .tmp 6) rfl () (.tmp Sub.rfl) (Sub.bool ?_)
            symm; rw [decide_eq_false_iff_not]; rintro ⟨h1, h2, h3⟩
            have h52 : (300 : Int) < (nth (nth records i).Cells k).Value.Text.size := h52
            have := (h3 _ (nth_mem hlt)).2 _ (nth_mem hlk); unfold cellFew at this; omega
          · try simp only [decide_eq_true_eq, decide_eq_false_iff_not, Bool.and_eq_true, Bool.or_eq_true, Bool.and_eq_false_iff, Bool.or_eq_false_iff, Bool.not_eq_true', Bool.not_eq_false', Int.not_lt, Int.not_le, Bool.not_true, Bool.not_false] at h52
            refine J_skip ?_
            refine J_region ?_
            refine JL_step rfl rfl rfl (step_move Sub.rfl) ?_
            refine JL_step rfl rfl rfl (step_add Sub.rfl Sub.rfl ?sg1) ?_
            case sg1 => unfold in64; omega
            refine JL_step rfl rfl rfl (step_assign Sub.rfl) ?_
            refine JL_nil ?_
            refine K_againL (σ := Nat) (s := k) (k + 1) (by first | omega | (dsimp only; omega) | (simp_all; omega)) (pred_again hlk hw (by have h52 : ((nth (nth records i).Cells k).Value.Text.size : Int) ≤ 300 := h52; unfold cellFew; omega)) (SubE.upd Sub.rfl (SubE.upd Sub.rfl (SubE.upd Sub.rfl (SubE.upd Sub.rfl (SubE.upd Sub.rfl (SubE.upd Sub.rfl (SubE.upd Sub.rfl SubE.any))))))) (LSub.rfl)
        · try simp only [decide_eq_true_eq, decide_eq_false_iff_not, Bool.and_eq_true, Bool.or_eq_true, Bool.and_eq_false_iff, Bool.or_eq_false_iff, Bool.not_eq_true', Bool.not_eq_false', Int.not_lt, Int.not_le, Bool.not_true, Bool.not_false] at h38
          have h38 : ((nth records i).Cells.length : Int) ≤ k := h38
          refine J_exit ?_
          refine J_region ?_
          refine JL_step rfl rfl rfl (step_move Sub.rfl) ?_
          refine JL_step rfl rfl rfl (step_add Sub.rfl Sub.rfl ?sg1) ?_
          case sg1 => unfold in64; omega
          refine JL_step rfl rfl rfl (step_assign Sub.rfl) ?_
          refine JL_nil ?_
          refine K_againL (σ := Nat) (s := i) (i + 1) (by first | omega | (dsimp only; omega) | (simp_all; omega)) (pred_again hlt hv ⟨hcl, all_nth (fun m hm => hw m (by omega))⟩) (SubE.upd Sub.rfl (SubE.upd Sub.rfl SubE.any)) (LSub.rfl)
    · try simp only [decide_eq_true_eq, decide_eq_false_iff_not, Bool.and_eq_true, Bool.or_eq_true, Bool.and_eq_false_iff, Bool.or_eq_false_iff, Bool.not_eq_true', Bool.not_eq_false', Int.not_lt, Int.not_le, Bool.not_true, Bool.not_false] at h21
      refine J_exit ?_
      refine J_seq ?_
      refine J_region ?_
      refine JL_step rfl rfl rfl (step_assign Sub.rfl) ?_
      refine JL_nil ?_
      refine J_ret ?_
      refine K_retv (rv := .tmp 6) rfl () (.tmp Sub.rfl) (Sub.bool ?_)
      symm; rw [decide_eq_true_eq]; exact ⟨hbl, hrl, all_nth (fun k hk => hv k (by omega))⟩
theorem text_spec (s : ByteArray) : Fun1 Tryz.prog 25 [tV (.string s)] (rValue.ty (txtV s)) := by
  refine Spec.enter Tryz.func25 rfl rfl fun h0 w0 fr0 => ?_
  refine J_seq ?_
  refine J_region ?_
  refine JL_stepX rfl rfl rfl (step_alloc (fun w => Tryz.zeroValue47 w) zr47) fun a2 => ?_
  refine JL_nil ?_
  refine J_seq ?_
  refine J_region ?_
  refine JL_step rfl rfl rfl (step_move Sub.rfl) ?_
  refine JL_step rfl rfl rfl (step_build (x := (⟨1, 0, s⟩ : GValue)) (zs := [[Value.int .i64 0], [Value.int .i64 0], [Value.string ⟨#[]⟩]]) so47 (fun w => Tryz.zeroValue47 w) ⟨Sub.rfl, Sub.rfl, trivial⟩ ⟨⟨Sub.rfl, rfl⟩, fun _ => rfl, ⟨Sub.rfl, rfl⟩, trivial⟩) ?_
  refine JL_stepU rfl rfl (step_store_box ty47 Sub.rfl Sub.rfl (by first | exact Sel.take (Sel.none _) | exact Sel.skip (Sel.take (Sel.none _)) | exact Sel.skip (Sel.skip (Sel.take (Sel.none _))) | exact Sel.skip (Sel.skip (Sel.skip (Sel.take (Sel.none _)))) | exact Sel.skip (Sel.skip (Sel.skip (Sel.skip (Sel.take (Sel.none _))))))) fun _ => ?_
  refine JL_nil ?_
  refine J_ret ?_
  refine K_ret1' (rv := .cell 2 47) rfl () (Sel.all _) (.cell ty47 Sub.rfl (by first | exact Sel.take (Sel.none _) | exact Sel.skip (Sel.take (Sel.none _)) | exact Sel.skip (Sel.skip (Sel.take (Sel.none _))) | exact Sel.skip (Sel.skip (Sel.skip (Sel.take (Sel.none _)))) | exact Sel.skip (Sel.skip (Sel.skip (Sel.skip (Sel.take (Sel.none _)))))) Sub.rfl) (Frz.sub Sub.rfl)
theorem of_spec (v : GValue) : Fun1 Tryz.prog 24 [rValue.ty v] (rRecord.ty (ofR v)) := by
  refine Spec.enter Tryz.func24 rfl rfl fun h0 w0 fr0 => ?_
  refine J_seq ?_
  refine J_region ?_
  refine JL_step rfl rfl rfl (step_box (R := rValue) Sub.rfl) ?_
  refine JL_stepX rfl rfl rfl (step_alloc (fun w => Tryz.zeroValue28 w) zr28) fun a2 => ?_
  refine JL_nil ?_
  refine J_seq ?_
  refine J_region ?_
  refine JL_step rfl rfl rfl (step_load_ptr ty47 Sub.rfl) ?_
  refine JL_step rfl rfl rfl (step_build (x := (⟨v, 0, 0⟩ : GCell)) (zs := [[Value.int .i64 0, Value.int .i64 0, Value.string ⟨#[]⟩], [Value.int .i64 0], [Value.int .i64 0]]) so49 (fun w => Tryz.zeroValue49 w) ⟨Sub.rfl, trivial⟩ ⟨⟨Sub.rfl, rfl⟩, fun _ => rfl, fun _ => rfl, trivial⟩) ?_
  refine JL_step rfl rfl rfl (step_literal (ys := [_]) Tryz.underlying26 el49 ⟨rfl, Sub.rfl, trivial⟩ rfl (by decide)) ?_
  refine JL_step rfl rfl rfl (step_build (x := (⟨zKey, 0, 0, [⟨v, 0, 0⟩]⟩ : GRecord)) (zs := [[Value.int .i64 0, Value.string ⟨#[]⟩, Value.string ⟨#[]⟩], [Value.int .i64 0], [Value.int .i64 0], [Value.slice none 0 0]]) so28 (fun w => Tryz.zeroValue28 w) ⟨Sub.rfl, trivial⟩ ⟨fun _ => ⟨[Value.int .i64 0], _, rfl, rfl, ⟨[Value.string ⟨#[]⟩], _, rfl, rfl, ⟨[Value.string ⟨#[]⟩], _, rfl, rfl, rfl⟩⟩⟩, fun _ => rfl, fun _ => rfl, ⟨Sub.rfl, rfl⟩, trivial⟩) ?_
  refine JL_stepU rfl rfl (step_store_box ty28 Sub.rfl Sub.rfl (by first | exact Sel.take (Sel.none _) | exact Sel.skip (Sel.take (Sel.none _)) | exact Sel.skip (Sel.skip (Sel.take (Sel.none _))) | exact Sel.skip (Sel.skip (Sel.skip (Sel.take (Sel.none _)))) | exact Sel.skip (Sel.skip (Sel.skip (Sel.skip (Sel.take (Sel.none _))))))) fun _ => ?_
  refine JL_nil ?_
  refine J_ret ?_
  refine K_ret1' (rv := .cell 2 28) rfl () (Sel.all _) (.cell ty28 Sub.rfl (by first | exact Sel.take (Sel.none _) | exact Sel.skip (Sel.take (Sel.none _)) | exact Sel.skip (Sel.skip (Sel.take (Sel.none _))) | exact Sel.skip (Sel.skip (Sel.skip (Sel.take (Sel.none _)))) | exact Sel.skip (Sel.skip (Sel.skip (Sel.skip (Sel.take (Sel.none _)))))) Sub.rfl) (Frz.sub Sub.rfl)
end Lg

/- The example of head, reckoned. -/
namespace Lg
open Go Go.Proofs
def bK (k n : Int) : GBlock := ⟨⟨#[]⟩, 0, 0, k, n, 0⟩
abbrev x1 : ByteArray := ⟨#[65, 110, 110, 32, 32, 76, 101, 101]⟩
abbrev x2 : ByteArray := ⟨#[76, 101, 101, 44, 32, 65, 110, 110, 32, 76, 101, 101]⟩
abbrev x3 : ByteArray := ⟨#[65, 110, 110, 32, 76, 101, 101]⟩
abbrev x4 : ByteArray := ⟨#[97, 110, 110, 32, 108, 101, 101]⟩
abbrev x5 : ByteArray := ⟨#[98, 111, 98]⟩
abbrev x6 : ByteArray := ⟨#[76, 101, 101]⟩
abbrev x7 : ByteArray := ⟨#[108, 101, 101, 32, 98, 111, 98]⟩
abbrev x8 : ByteArray := ⟨#[97, 110, 110]⟩
abbrev x9 : ByteArray := ⟨#[108, 101, 101]⟩
abbrev x10 : ByteArray := ⟨#[49, 50]⟩
abbrev x11 : ByteArray := ⟨#[45, 45]⟩
abbrev recT (s : ByteArray) : GRecord := ofR (txtV s)
theorem tok_iff {s t : ByteArray} : t ∈ tokM s ↔ t ∈ wordsM s := by
  refine ⟨tok_mem, fun h => ?_⟩
  unfold tokM
  rw [mem_sortS]
  have key : ∀ (ys : List ByteArray) (m : List (ByteArray × Bool)), t ∈ m.map (·.1) ∨ t ∈ ys → t ∈ (ys.foldl (fun m s => mput m s true) m).map (·.1) := by
    intro ys
    induction ys with
    | nil => intro m h; simpa using h
    | cons y ys ih =>
      intro m h
      refine ih _ ?_
      rcases h with h | h
      · exact .inl (mput_keyQ.2 (.inr h))
      · rcases List.mem_cons.1 h with h | h
        · exact .inl (mput_keyQ.2 (.inl h))
        · exact .inr h
  exact key _ _ (.inr h)
theorem keys_txt (k n : Int) (hk : byOk k = true) (s : ByteArray) : keysM (bK k n) (recT s) = finM (rawM (bK k n) s) := by
  have h1 : fitsB (bK k n) (recT s) = true := by
    unfold fitsB
    rw [show (bK k n).By = k from rfl, hk]; rfl
  unfold keysM
  rw [h1]
  rfl
theorem fin_of {l l' : List ByteArray} (hi : incB l') (h : ∀ x, x ∈ l ∧ x ≠ ⟨#[]⟩ ↔ x ∈ l') : finM l = l' := incB_ext (finM_inc _) hi fun x => by rw [mem_finM, h]
theorem keys_exact {s f : ByteArray} (h : foldB s = f) (hf : f ≠ ⟨#[]⟩) (n : Int) : keysM (bK 1 n) (recT s) = [f] := by
  rw [keys_txt 1 n rfl, show rawM (bK 1 n) s = [foldB s] from rfl, h]
  exact fin_of (by simp [incB]) fun x => by simp; intro e; subst e; exact hf
theorem keys_token {s : ByteArray} {w l : List ByteArray} (h : wordsM s = w) (hi : incB l) (hw : (w.all (fun x => l.any fun y => decide (y = x)) && l.all (fun x => (w.any fun y => decide (y = x)) && !decide (x = ⟨#[]⟩))) = true) (n : Int) : keysM (bK 2 n) (recT s) = l := by
  rw [keys_txt 2 n rfl, show rawM (bK 2 n) s = tokM s from rfl]
  exact fin_of hi fun x => by
    rw [tok_iff, h]
    simp only [Bool.and_eq_true, List.all_eq_true, List.any_eq_true, decide_eq_true_eq, Bool.not_eq_true', decide_eq_false_iff_not, exists_eq_right] at hw
    exact ⟨fun q => hw.1 x q.1, fun q => hw.2 x q⟩
theorem w1 : wordsM x1 = [x8, x9] := by kernel_rfl
theorem w2 : wordsM x2 = [x9, x8, x9] := by kernel_rfl
theorem w3 : wordsM x3 = [x8, x9] := by kernel_rfl
theorem w4 : wordsM x4 = [x8, x9] := by kernel_rfl
theorem w5 : wordsM x5 = [x5] := by kernel_rfl
theorem w6 : wordsM x6 = [x9] := by kernel_rfl
theorem w7 : wordsM x7 = [x9, x5] := by kernel_rfl
theorem w11 : wordsM x11 = [] := by kernel_rfl
theorem f1 : foldB x1 = x4 := by unfold foldB; rw [w1]; kernel_rfl
theorem f3 : foldB x3 = x4 := by unfold foldB; rw [w3]; kernel_rfl
theorem f4 : foldB x4 = x4 := by unfold foldB; rw [w4]; kernel_rfl
theorem f5 : foldB x5 = x5 := by unfold foldB; rw [w5]; kernel_rfl
theorem f6 : foldB x6 = x9 := by unfold foldB; rw [w6]; kernel_rfl
theorem f7 : foldB x7 = (⟨#[108, 101, 101, 32, 98, 111, 98]⟩ : ByteArray) := by unfold foldB; rw [w7]; kernel_rfl
theorem f11 : foldB x11 = ⟨#[]⟩ := by unfold foldB; rw [w11]; kernel_rfl
theorem inc89 : incB [x8, x9] := by simp only [incB, List.pairwise_cons]; refine ⟨fun a ha => ?_, by simp⟩; simp at ha; subst ha; decide
theorem inc59 : incB [x5, x9] := by simp only [incB, List.pairwise_cons]; refine ⟨fun a ha => ?_, by simp⟩; simp at ha; subst ha; decide
theorem inc1 (x : ByteArray) : incB [x] := by simp [incB]
theorem exA : keysM (bK 1 0) (recT x1) = [x4] := keys_exact f1 (by decide) 0
theorem exB : keysM (bK 2 0) (recT x2) = [x8, x9] := keys_token w2 inc89 (by decide) 0
theorem exC : keysM (bK 3 3) (recT x3) = [x8] := by
  rw [keys_txt 3 3 rfl, show rawM (bK 3 3) x3 = [prefM (foldB x3) 3] from rfl, f3, show prefM x4 3 = x8 by kernel_rfl]
  exact fin_of (inc1 _) fun x => by simp; intro e; subst e; decide
abbrev vN : GValue := ⟨2, -12, ⟨#[]⟩⟩
theorem exV : textV vN = (⟨#[45, 49, 50]⟩ : ByteArray) := by kernel_rfl
theorem exD : keysM (bK 3 9) (ofR vN) = [x10] := by
  have h : keysM (bK 3 9) (ofR vN) = finM (rawM (bK 3 9) (textV vN)) := rfl
  rw [h, exV, show rawM (bK 3 9) (⟨#[45, 49, 50]⟩ : ByteArray) = [prefM (foldB ⟨#[45, 49, 50]⟩) 9] from rfl, show foldB (⟨#[45, 49, 50]⟩ : ByteArray) = x10 by kernel_rfl, show prefM x10 9 = x10 by kernel_rfl]
  exact fin_of (inc1 _) fun x => by simp; intro e; subst e; decide
theorem exE : keysM (bK 1 0) (recT x11) = [] := by
  rw [keys_txt 1 0 rfl, show rawM (bK 1 0) x11 = [foldB x11] from rfl, f11]
  exact fin_of (by simp [incB]) fun x => by simp
theorem exF : keysM (bK 1 0) (ofR ⟨0, 0, ⟨#[]⟩⟩) = [] := rfl
abbrev recs3 : List GRecord := [recT x4, recT x5, recT x6]
theorem kE4 : keysM (bK 1 0) (recT x4) = [x4] := keys_exact f4 (by decide) 0
theorem kE5 : keysM (bK 1 0) (recT x5) = [x5] := keys_exact f5 (by decide) 0
theorem kE6 : keysM (bK 1 0) (recT x6) = [x9] := keys_exact f6 (by decide) 0
theorem kT4 : keysM (bK 2 0) (recT x4) = [x8, x9] := keys_token w4 inc89 (by decide) 0
theorem kT5 : keysM (bK 2 0) (recT x5) = [x5] := keys_token w5 (inc1 _) (by decide) 0
theorem kT6 : keysM (bK 2 0) (recT x6) = [x9] := keys_token w6 (inc1 _) (by decide) 0
theorem kT7 : keysM (bK 2 0) (recT x7) = [x5, x9] := keys_token w7 inc59 (by decide) 0
theorem plc2 (r : GRecord) : placesM [bK 1 0, bK 2 0] r = (keysM (bK 1 0) r).map (fun k => ⟨0, r.Table, k⟩) ++ (keysM (bK 2 0) r).map (fun k => ⟨1, r.Table, k⟩) := by
  show plcN _ _ 2 = _
  rw [plcN_succ, plcN_succ]; rfl
theorem plc1' (r : GRecord) : placesM [bK 2 0] r = (keysM (bK 2 0) r).map (fun k => ⟨0, r.Table, k⟩) := by
  show plcN _ _ 1 = _
  rw [plcN_succ]; rfl
theorem s01 : sharesB [bK 1 0, bK 2 0] (recT x4) (recT x5) = false := by unfold sharesB; rw [plc2, plc2, kE4, kE5, kT4, kT5]; decide
theorem s02 : sharesB [bK 1 0, bK 2 0] (recT x4) (recT x6) = true := by unfold sharesB; rw [plc2, plc2, kE4, kE6, kT4, kT6]; decide
theorem s12 : sharesB [bK 1 0, bK 2 0] (recT x5) (recT x6) = false := by unfold sharesB; rw [plc2, plc2, kE5, kE6, kT5, kT6]; decide
theorem n0 : sharesB [bK 2 0] (recT x4) (recT x7) = true := by unfold sharesB; rw [plc1', plc1', kT4, kT7]; decide
theorem n1 : sharesB [bK 2 0] (recT x5) (recT x7) = true := by unfold sharesB; rw [plc1', plc1', kT5, kT7]; decide
theorem n2 : sharesB [bK 2 0] (recT x6) (recT x7) = true := by unfold sharesB; rw [plc1', plc1', kT6, kT7]; decide
theorem exP : pairsM [bK 1 0, bK 2 0] recs3 = [(0, 2)] := by
  have e0 : nth recs3 0 = recT x4 := rfl
  have e1 : nth recs3 1 = recT x5 := rfl
  have e2 : nth recs3 2 = recT x6 := rfl
  simp [pairsM, rowP, List.range_succ, e0, e1, e2, s01, s02, s12]
theorem exN : nearM [bK 2 0] recs3 (recT x7) = [0, 1, 2] := by
  have e0 : nth recs3 0 = recT x4 := rfl
  have e1 : nth recs3 1 = recT x5 := rfl
  have e2 : nth recs3 2 = recT x6 := rfl
  simp [nearM, nearN, List.range_succ, e0, e1, e2, n0, n1, n2]
theorem rk (s : ByteArray) (h : s.size ≤ 100000) : recOk (recT s) := fun c hc => by
  have : c = ⟨txtV s, 0, 0⟩ := by simpa [recT, ofR] using hc
  subst this; exact h
theorem rk3 : ∀ x ∈ recs3, recOk x := fun x hx => by
  simp only [recs3, List.mem_cons, List.not_mem_nil, or_false] at hx
  rcases hx with rfl | rfl | rfl <;> exact rk _ (by decide)
theorem rkN (v : GValue) (h : v.Text.size ≤ 100000) : recOk (ofR v) := fun c hc => by
  have : c = ⟨v, 0, 0⟩ := by simpa [ofR] using hc
  subst this; exact h
end Lg

namespace Lg
open Go Go.Proofs

theorem head_spec  : Fun1 Tryz.prog 10 [] (tV (.bool true)) := by
  refine Spec.enter Tryz.func10 rfl rfl fun h0 w0 fr0 => ?_
  refine J_seq ?_
  refine J_region ?_
  refine JL_step rfl rfl rfl (step_assign Sub.rfl) ?_
  refine JL_nil ?_
  refine J_seq ?_
  refine J_region ?_
  refine JL_step rfl rfl rfl (step_build (x := (bK 1 0 : GBlock)) (zs := [[Value.string ⟨#[]⟩], [Value.int .i64 0], [Value.int .i64 0], [Value.int .i64 0], [Value.int .i64 0], [Value.int .i64 0]]) so35 (fun w => Tryz.zeroValue35 w) ⟨Sub.rfl, trivial⟩ ⟨fun _ => rfl, fun _ => rfl, fun _ => rfl, ⟨Sub.rfl, rfl⟩, fun _ => rfl, fun _ => rfl, trivial⟩) ?_
  refine JL_stepX rfl rfl rfl (step_alloc (fun w => Tryz.zeroValue35 w) zr35) fun a1 => ?_
  refine JL_stepU rfl rfl (step_store_box ty35 Sub.rfl Sub.rfl (by first | exact Sel.take (Sel.none _) | exact Sel.skip (Sel.take (Sel.none _)) | exact Sel.skip (Sel.skip (Sel.take (Sel.none _))) | exact Sel.skip (Sel.skip (Sel.skip (Sel.take (Sel.none _)))) | exact Sel.skip (Sel.skip (Sel.skip (Sel.skip (Sel.take (Sel.none _))))))) fun _ => ?_
  refine JL_freeze (t := 1) (Sel.take (Sel.none _)) Frz.box ?_
  refine JL_nil ?_
  refine J_seq ?_
  refine J_region ?_
  refine JL_step rfl rfl rfl (step_build (x := (bK 2 0 : GBlock)) (zs := [[Value.string ⟨#[]⟩], [Value.int .i64 0], [Value.int .i64 0], [Value.int .i64 0], [Value.int .i64 0], [Value.int .i64 0]]) so35 (fun w => Tryz.zeroValue35 w) ⟨Sub.rfl, trivial⟩ ⟨fun _ => rfl, fun _ => rfl, fun _ => rfl, ⟨Sub.rfl, rfl⟩, fun _ => rfl, fun _ => rfl, trivial⟩) ?_
  refine JL_stepX rfl rfl rfl (step_alloc (fun w => Tryz.zeroValue35 w) zr35) fun a2 => ?_
  refine JL_stepU rfl rfl (step_store_box ty35 Sub.rfl Sub.rfl (by first | exact Sel.take (Sel.none _) | exact Sel.skip (Sel.take (Sel.none _)) | exact Sel.skip (Sel.skip (Sel.take (Sel.none _))) | exact Sel.skip (Sel.skip (Sel.skip (Sel.take (Sel.none _)))) | exact Sel.skip (Sel.skip (Sel.skip (Sel.skip (Sel.take (Sel.none _))))))) fun _ => ?_
  refine JL_freeze (t := 2) (Sel.take (Sel.none _)) Frz.box ?_
  refine JL_nil ?_
  refine J_seq ?_
  refine J_draw [⟨0, [1], true⟩, ⟨1, [], true⟩, ⟨2, [16], true⟩, ⟨3, [15, 17], true⟩, ⟨4, [18], true⟩] rfl (by kernel_rfl) ?_
  refine JM_step rfl rfl rfl rfl (fun _ => step_load_ptr ty35 Sub.rfl) ?_
  refine JM_step rfl rfl rfl rfl (fun _ => step_call0 (text_spec x1) ⟨Sub.rfl, trivial⟩ Tryz.call25) ?_
  refine JM_step rfl rfl rfl rfl (fun _ => step_call0 (of_spec (txtV x1)) ⟨Sub.rfl, trivial⟩ Tryz.call24) ?_
  refine JM_step rfl rfl rfl rfl (fun _ => step_call0 (Keys_spec (bK 1 0) (recT x1) (rk x1 (by decide))) ⟨Sub.rfl, Sub.rfl, trivial⟩ Tryz.call13) ?_
  refine JM_step rfl rfl rfl rfl (fun _ => step_assign Sub.rfl) ?_
  refine JM_nil ?_
  refine J_seq ?_
  refine J_draw [⟨0, [2], true⟩, ⟨1, [], true⟩, ⟨2, [20], true⟩, ⟨3, [19, 21], true⟩, ⟨4, [22], true⟩] rfl (by kernel_rfl) ?_
  refine JM_step rfl rfl rfl rfl (fun _ => step_load_ptr ty35 Sub.rfl) ?_
  refine JM_step rfl rfl rfl rfl (fun _ => step_call0 (text_spec x2) ⟨Sub.rfl, trivial⟩ Tryz.call25) ?_
  refine JM_step rfl rfl rfl rfl (fun _ => step_call0 (of_spec (txtV x2)) ⟨Sub.rfl, trivial⟩ Tryz.call24) ?_
  refine JM_step rfl rfl rfl rfl (fun _ => step_call0 (Keys_spec (bK 2 0) (recT x2) (rk x2 (by decide))) ⟨Sub.rfl, Sub.rfl, trivial⟩ Tryz.call13) ?_
  refine JM_step rfl rfl rfl rfl (fun _ => step_assign Sub.rfl) ?_
  refine JM_nil ?_
  refine J_seq ?_
  refine J_region ?_
  refine JL_step rfl rfl rfl (step_build (x := (bK 3 3 : GBlock)) (zs := [[Value.string ⟨#[]⟩], [Value.int .i64 0], [Value.int .i64 0], [Value.int .i64 0], [Value.int .i64 0], [Value.int .i64 0]]) so35 (fun w => Tryz.zeroValue35 w) ⟨Sub.rfl, Sub.rfl, trivial⟩ ⟨fun _ => rfl, fun _ => rfl, fun _ => rfl, ⟨Sub.rfl, rfl⟩, ⟨Sub.rfl, rfl⟩, fun _ => rfl, trivial⟩) ?_
  refine JL_step rfl rfl rfl (step_call0 (text_spec x3) ⟨Sub.rfl, trivial⟩ Tryz.call25) ?_
  refine JL_step rfl rfl rfl (step_call0 (of_spec (txtV x3)) ⟨Sub.rfl, trivial⟩ Tryz.call24) ?_
  refine JL_step rfl rfl rfl (step_call0 (Keys_spec (bK 3 3) (recT x3) (rk x3 (by decide))) ⟨Sub.rfl, Sub.rfl, trivial⟩ Tryz.call13) ?_
  refine JL_step rfl rfl rfl (step_assign Sub.rfl) ?_
  refine JL_nil ?_
  refine J_seq ?_
  refine J_region ?_
  refine JL_step rfl rfl rfl (step_build (x := (bK 3 9 : GBlock)) (zs := [[Value.string ⟨#[]⟩], [Value.int .i64 0], [Value.int .i64 0], [Value.int .i64 0], [Value.int .i64 0], [Value.int .i64 0]]) so35 (fun w => Tryz.zeroValue35 w) ⟨Sub.rfl, Sub.rfl, trivial⟩ ⟨fun _ => rfl, fun _ => rfl, fun _ => rfl, ⟨Sub.rfl, rfl⟩, ⟨Sub.rfl, rfl⟩, fun _ => rfl, trivial⟩) ?_
  refine JL_step rfl rfl rfl (step_build (x := (⟨2, -12, ⟨#[]⟩⟩ : GValue)) (zs := [[Value.int .i64 0], [Value.int .i64 0], [Value.string ⟨#[]⟩]]) so47 (fun w => Tryz.zeroValue47 w) ⟨Sub.rfl, Sub.rfl, trivial⟩ ⟨⟨Sub.rfl, rfl⟩, ⟨Sub.rfl, rfl⟩, fun _ => rfl, trivial⟩) ?_
  refine JL_step rfl rfl rfl (step_call0 (of_spec vN) ⟨Sub.rfl, trivial⟩ Tryz.call24) ?_
  refine JL_step rfl rfl rfl (step_call0 (Keys_spec (bK 3 9) (ofR vN) (rkN _ (by decide))) ⟨Sub.rfl, Sub.rfl, trivial⟩ Tryz.call13) ?_
  refine JL_step rfl rfl rfl (step_assign Sub.rfl) ?_
  refine JL_nil ?_
  refine J_seq ?_
  refine J_region ?_
  refine JL_step rfl rfl rfl (step_call0 (text_spec x4) ⟨Sub.rfl, trivial⟩ Tryz.call25) ?_
  refine JL_step rfl rfl rfl (step_call0 (of_spec (txtV x4)) ⟨Sub.rfl, trivial⟩ Tryz.call24) ?_
  refine JL_step rfl rfl rfl (step_call0 (text_spec x5) ⟨Sub.rfl, trivial⟩ Tryz.call25) ?_
  refine JL_step rfl rfl rfl (step_call0 (of_spec (txtV x5)) ⟨Sub.rfl, trivial⟩ Tryz.call24) ?_
  refine JL_step rfl rfl rfl (step_call0 (text_spec x6) ⟨Sub.rfl, trivial⟩ Tryz.call25) ?_
  refine JL_step rfl rfl rfl (step_call0 (of_spec (txtV x6)) ⟨Sub.rfl, trivial⟩ Tryz.call24) ?_
  refine JL_step rfl rfl rfl (step_literal (ys := [_, _, _]) Tryz.underlying23 el28 ⟨rfl, Sub.rfl, rfl, Sub.rfl, rfl, Sub.rfl, trivial⟩ rfl (by decide)) ?_
  refine JL_step rfl rfl rfl (step_assign Sub.rfl) ?_
  refine JL_nil ?_
  refine J_seq ?_
  refine J_region ?_
  refine JL_step rfl rfl rfl (step_load_ptr ty35 Sub.rfl) ?_
  refine JL_step rfl rfl rfl (step_load_ptr ty35 Sub.rfl) ?_
  refine JL_step rfl rfl rfl (step_literal (ys := [_, _]) Tryz.underlying22 el35 ⟨rfl, Sub.rfl, rfl, Sub.rfl, trivial⟩ rfl (by decide)) ?_
  refine JL_step rfl rfl rfl (step_move Sub.rfl) ?_
  refine JL_step rfl rfl rfl (step_call0 (Pairs_spec [bK 1 0, bK 2 0] recs3 (by decide) rk3 (by decide)) ⟨Sub.rfl, Sub.rfl, trivial⟩ Tryz.call15) ?_
  refine JL_step rfl rfl rfl (step_move Sub.rfl) ?_
  refine JL_step rfl rfl rfl (step_extract Sub.rfl rfl) ?_
  refine JL_step rfl rfl rfl (step_extract Sub.rfl rfl) ?_
  refine JL_step rfl rfl rfl (step_assign Sub.rfl) ?_
  refine JL_step rfl rfl rfl (step_assign Sub.rfl) ?_
  refine JL_nil ?_
  refine J_seq ?_
  refine J_draw [⟨0, [2], true⟩, ⟨1, [47], true⟩, ⟨2, [7], true⟩, ⟨3, [], true⟩, ⟨4, [50], true⟩, ⟨5, [48, 49, 51], true⟩, ⟨6, [52], true⟩, ⟨7, [46], true⟩, ⟨8, [46], true⟩, ⟨9, [53], true⟩, ⟨10, [54], true⟩] rfl (by kernel_rfl) ?_
  refine JM_step rfl rfl rfl rfl (fun _ => step_load_ptr ty35 Sub.rfl) ?_
  refine JM_step rfl rfl rfl rfl (fun _ => step_literal (ys := [_]) Tryz.underlying22 el35 ⟨rfl, Sub.rfl, trivial⟩ rfl (by decide)) ?_
  refine JM_step rfl rfl rfl rfl (fun _ => step_move Sub.rfl) ?_
  refine JM_step rfl rfl rfl rfl (fun _ => step_call0 (text_spec x7) ⟨Sub.rfl, trivial⟩ Tryz.call25) ?_
  refine JM_step rfl rfl rfl rfl (fun _ => step_call0 (of_spec (txtV x7)) ⟨Sub.rfl, trivial⟩ Tryz.call24) ?_
  refine JM_step rfl rfl rfl rfl (fun _ => step_call0 (Near_spec [bK 2 0] recs3 (recT x7) (by decide) (rk x7 (by decide)) rk3 (by decide)) ⟨Sub.rfl, Sub.rfl, Sub.rfl, trivial⟩ Tryz.call17) ?_
  refine JM_step rfl rfl rfl rfl (fun _ => step_move Sub.rfl) ?_
  refine JM_step rfl rfl rfl rfl (fun _ => step_extract Sub.rfl rfl) ?_
  refine JM_step rfl rfl rfl rfl (fun _ => step_extract Sub.rfl rfl) ?_
  refine JM_step rfl rfl rfl rfl (fun _ => step_assign Sub.rfl) ?_
  refine JM_step rfl rfl rfl rfl (fun _ => step_assign Sub.rfl) ?_
  refine JM_nil ?_
  refine J_seq ?_
  refine J_region ?_
  refine JL_step rfl rfl rfl (step_move Sub.rfl) ?_
  refine JL_step rfl rfl rfl (step_literal (ys := [_]) Tryz.underlying32 el9 ⟨rfl, Sub.rfl, trivial⟩ rfl (by decide)) ?_
  refine JL_step rfl rfl rfl (step_call0 (SameS_spec (keysM (bK 1 0) (recT x1)) [x4] (by rw [exA]; decide)) ⟨Sub.rfl, Sub.rfl, trivial⟩ Tryz.call12) ?_
  refine JL_step rfl rfl rfl (step_move Sub.rfl) ?_
  refine JL_stepG rfl rfl rfl (Gd.plain Sub.rfl) rfl rfl (fun hw => step_move Sub.rfl) ?_
  refine JL_stepG rfl rfl rfl (Gd.plain Sub.rfl) rfl rfl (fun hw => step_literal (ys := [_, _]) Tryz.underlying32 el9 ⟨rfl, Sub.rfl, rfl, Sub.rfl, trivial⟩ rfl (by decide)) ?_
  refine JL_stepG rfl rfl rfl (Gd.plain Sub.rfl) rfl rfl (fun hw => step_call0 (SameS_spec (keysM (bK 2 0) (recT x2)) [x8, x9] (by rw [exB]; decide)) ⟨(Sub.w hw), (Sub.w hw), trivial⟩ Tryz.call12) ?_
  refine JL_step rfl rfl rfl (step_pick_and Sub.rfl Sub.rfl) ?_
  refine JL_step rfl rfl rfl (step_move Sub.rfl) ?_
  refine JL_stepG rfl rfl rfl (Gd.plain Sub.rfl) rfl rfl (fun hw => step_move Sub.rfl) ?_
  refine JL_stepG rfl rfl rfl (Gd.plain Sub.rfl) rfl rfl (fun hw => step_literal (ys := [_]) Tryz.underlying32 el9 ⟨rfl, Sub.rfl, trivial⟩ rfl (by decide)) ?_
  refine JL_stepG rfl rfl rfl (Gd.plain Sub.rfl) rfl rfl (fun hw => step_call0 (SameS_spec (keysM (bK 3 3) (recT x3)) [x8] (by rw [exC]; decide)) ⟨(Sub.w hw), (Sub.w hw), trivial⟩ Tryz.call12) ?_
  refine JL_step rfl rfl rfl (step_pick_and Sub.rfl Sub.rfl) ?_
  refine JL_step rfl rfl rfl (step_move Sub.rfl) ?_
  refine JL_stepG rfl rfl rfl (Gd.plain Sub.rfl) rfl rfl (fun hw => step_move Sub.rfl) ?_
  refine JL_stepG rfl rfl rfl (Gd.plain Sub.rfl) rfl rfl (fun hw => step_literal (ys := [_]) Tryz.underlying32 el9 ⟨rfl, Sub.rfl, trivial⟩ rfl (by decide)) ?_
  refine JL_stepG rfl rfl rfl (Gd.plain Sub.rfl) rfl rfl (fun hw => step_call0 (SameS_spec (keysM (bK 3 9) (ofR vN)) [x10] (by rw [exD]; decide)) ⟨(Sub.w hw), (Sub.w hw), trivial⟩ Tryz.call12) ?_
  refine JL_step rfl rfl rfl (step_pick_and Sub.rfl Sub.rfl) ?_
  refine JL_step rfl rfl rfl (step_assign Sub.rfl) ?_
  refine JL_nil ?_
  refine J_seq ?_
  refine J_draw [⟨0, [12], true⟩, ⟨1, [73], true⟩, ⟨2, [1, 74], true⟩, ⟨3, [74], true⟩, ⟨4, [74, 76], true⟩, ⟨5, [74, 75, 77], true⟩, ⟨6, [74, 78], true⟩, ⟨7, [74, 79], true⟩, ⟨8, [74, 80], true⟩, ⟨9, [81], true⟩, ⟨10, [1, 82], true⟩, ⟨11, [82], true⟩, ⟨12, [82, 84], true⟩, ⟨13, [82, 83, 85], true⟩, ⟨14, [82, 86], true⟩, ⟨15, [82, 87], true⟩, ⟨16, [82, 88], true⟩, ⟨17, [89], true⟩, ⟨18, [9, 90], true⟩, ⟨19, [90, 91], true⟩, ⟨20, [90, 92], true⟩, ⟨21, [93], true⟩, ⟨22, [8, 94], true⟩, ⟨23, [94], true⟩, ⟨24, [94, 96], true⟩, ⟨25, [94, 95, 97], true⟩, ⟨26, [94, 98], true⟩, ⟨27, [99], true⟩, ⟨28, [11, 100], true⟩, ⟨29, [100, 101], true⟩, ⟨30, [100, 102], true⟩, ⟨31, [103], true⟩, ⟨32, [10, 104], true⟩, ⟨33, [104], true⟩, ⟨34, [104, 105, 106], true⟩, ⟨35, [104, 107], true⟩, ⟨36, [108], true⟩] rfl (by kernel_rfl) ?_
  refine JM_step rfl rfl rfl rfl (fun _ => step_move Sub.rfl) ?_
  refine JM_step rfl rfl rfl rfl (fun _ => step_move Sub.rfl) ?_
  refine JM_stepG rfl rfl rfl rfl (Gd.plain Sub.rfl) rfl rfl (fun hw _ => step_load_ptr ty35 Sub.rfl) ?_
  refine JM_stepG rfl rfl rfl rfl (Gd.plain Sub.rfl) rfl rfl (fun hw _ => step_call0 (text_spec x11) ⟨Sub.rfl, trivial⟩ Tryz.call25) ?_
  refine JM_stepG rfl rfl rfl rfl (Gd.plain Sub.rfl) rfl rfl (fun hw _ => step_call0 (of_spec (txtV x11)) ⟨(Sub.w hw), trivial⟩ Tryz.call24) ?_
  refine JM_stepG rfl rfl rfl rfl (Gd.plain Sub.rfl) rfl rfl (fun hw _ => step_call0 (Keys_spec (bK 1 0) (recT x11) (rk x11 (by decide))) ⟨(Sub.w hw), (Sub.w hw), trivial⟩ Tryz.call13) ?_
  refine JM_stepG rfl rfl rfl rfl (Gd.plain Sub.rfl) rfl rfl (fun hw _ => step_len_sl Tryz.underlying32 (Sub.w hw)) ?_
  refine JM_stepG rfl rfl rfl rfl (Gd.plain Sub.rfl) rfl rfl (fun hw _ => step_eql (Sub.w hw) Sub.rfl) ?_
  refine JM_step rfl rfl rfl rfl (fun _ => step_pick_and Sub.rfl Sub.rfl) ?_
  refine JM_step rfl rfl rfl rfl (fun _ => step_move Sub.rfl) ?_
  refine JM_stepG rfl rfl rfl rfl (Gd.plain Sub.rfl) rfl rfl (fun hw _ => step_load_ptr ty35 Sub.rfl) ?_
  refine JM_stepG rfl rfl rfl rfl (Gd.plain Sub.rfl) rfl rfl (fun hw _ => step_build (x := (⟨0, 0, ⟨#[]⟩⟩ : GValue)) (zs := [[Value.int .i64 0], [Value.int .i64 0], [Value.string ⟨#[]⟩]]) so47 (fun w => Tryz.zeroValue47 w) trivial ⟨fun _ => rfl, fun _ => rfl, fun _ => rfl, trivial⟩) ?_
  refine JM_stepG rfl rfl rfl rfl (Gd.plain Sub.rfl) rfl rfl (fun hw _ => step_call0 (of_spec ⟨0, 0, ⟨#[]⟩⟩) ⟨(Sub.w hw), trivial⟩ Tryz.call24) ?_
  refine JM_stepG rfl rfl rfl rfl (Gd.plain Sub.rfl) rfl rfl (fun hw _ => step_call0 (Keys_spec (bK 1 0) (ofR ⟨0, 0, ⟨#[]⟩⟩) (rkN _ (by decide))) ⟨(Sub.w hw), (Sub.w hw), trivial⟩ Tryz.call13) ?_
  refine JM_stepG rfl rfl rfl rfl (Gd.plain Sub.rfl) rfl rfl (fun hw _ => step_len_sl Tryz.underlying32 (Sub.w hw)) ?_
  refine JM_stepG rfl rfl rfl rfl (Gd.plain Sub.rfl) rfl rfl (fun hw _ => step_eql (Sub.w hw) Sub.rfl) ?_
  refine JM_step rfl rfl rfl rfl (fun _ => step_pick_and Sub.rfl Sub.rfl) ?_
  refine JM_step rfl rfl rfl rfl (fun _ => step_move Sub.rfl) ?_
  refine JM_stepG rfl rfl rfl rfl (Gd.plain Sub.rfl) rfl rfl (fun hw _ => step_move Sub.rfl) ?_
  refine JM_stepG rfl rfl rfl rfl (Gd.plain Sub.rfl) rfl rfl (fun hw _ => step_eql (Sub.w hw) Sub.rfl) ?_
  refine JM_step rfl rfl rfl rfl (fun _ => step_pick_and Sub.rfl Sub.rfl) ?_
  refine JM_step rfl rfl rfl rfl (fun _ => step_move Sub.rfl) ?_
  refine JM_stepG rfl rfl rfl rfl (Gd.plain Sub.rfl) rfl rfl (fun hw _ => step_move Sub.rfl) ?_
  refine JM_stepG rfl rfl rfl rfl (Gd.plain Sub.rfl) rfl rfl (fun hw _ => step_build_pair Sub.rfl Sub.rfl) ?_
  refine JM_stepG rfl rfl rfl rfl (Gd.plain Sub.rfl) rfl rfl (fun hw _ => step_literal (ys := [_]) Tryz.underlying36 el52 ⟨rfl, (Sub.w hw), trivial⟩ rfl (by decide)) ?_
  refine JM_stepG rfl rfl rfl rfl (Gd.plain Sub.rfl) rfl rfl (fun hw _ => step_call0 (SameP_spec (pairsM [bK 1 0, bK 2 0] recs3) [(0, 2)] (by rw [exP]; decide)) ⟨(Sub.w hw), (Sub.w hw), trivial⟩ Tryz.call19) ?_
  refine JM_step rfl rfl rfl rfl (fun _ => step_pick_and Sub.rfl Sub.rfl) ?_
  refine JM_step rfl rfl rfl rfl (fun _ => step_move Sub.rfl) ?_
  refine JM_stepG rfl rfl rfl rfl (Gd.plain Sub.rfl) rfl rfl (fun hw _ => step_move Sub.rfl) ?_
  refine JM_stepG rfl rfl rfl rfl (Gd.plain Sub.rfl) rfl rfl (fun hw _ => step_eql (Sub.w hw) Sub.rfl) ?_
  refine JM_step rfl rfl rfl rfl (fun _ => step_pick_and Sub.rfl Sub.rfl) ?_
  refine JM_step rfl rfl rfl rfl (fun _ => step_move Sub.rfl) ?_
  refine JM_stepG rfl rfl rfl rfl (Gd.plain Sub.rfl) rfl rfl (fun hw _ => step_move Sub.rfl) ?_
  refine JM_stepG rfl rfl rfl rfl (Gd.plain Sub.rfl) rfl rfl (fun hw _ => step_literal (ys := [_, _, _]) Tryz.underlying40 el3 ⟨rfl, Sub.rfl, rfl, Sub.rfl, rfl, Sub.rfl, trivial⟩ rfl (by decide)) ?_
  refine JM_stepG rfl rfl rfl rfl (Gd.plain Sub.rfl) rfl rfl (fun hw _ => step_call0 (Ints_spec (nearM [bK 2 0] recs3 (recT x7)) [0, 1, 2] (by rw [exN]; decide)) ⟨(Sub.w hw), (Sub.w hw), trivial⟩ Tryz.call20) ?_
  refine JM_step rfl rfl rfl rfl (fun _ => step_pick_and Sub.rfl Sub.rfl) ?_
  refine JM_step rfl rfl rfl rfl (fun _ => step_assign Sub.rfl) ?_
  refine JM_nil ?_
  refine J_ret ?_
  refine K_ret1 (t := 0) rfl () ?_
  refine Sub.bool ?_
  simp [exA, exB, exC, exD, exE, exF, exP, exN]
end Lg

/- From a contract on representations to the row. -/
namespace Lg
open Go Go.Proofs
theorem run_true {P : Program} {f : Nat} {As : List Ty} {vs : List Value} {W : World} (sp : Fun1 P f As (tV (.bool true))) (hi : Inv (wholeH W)) (ha : Args (wholeH W) As vs) :
    Calls P f vs.toArray W fun e W' => e = .returned (.bool true) ∧ Go.RowKit.Below W.heap.size W W' := by
  have hc := sp vs (wholeH W) PH.emp PH.emp W ha ⟨hi, PH.disj_emp _, PH.disj_emp _, PH.disj_emp _, wholeH_inw W, (fun b o e => (by cases e)), fun b o e => (by cases e)⟩ rfl
  refine hc.mono ?_
  rintro e W' ⟨x, v, h', m', rfl, l, s, _, hv⟩
  have hv : v = .bool true := hv
  subst hv
  exact ⟨rfl, below_of l.1 s.hw l.2⟩
section
variable {H : Type} {enc : TypeId × Value → H} {P : Program} {W : World} {base : Nat}
theorem arg_sl {α : Type} {t e : Nat} {R : Rp α} {v : Value} {d : DataW H} {p : List MemPlace} (hu : P.underlying t = some (.slice e)) (hR : Rd enc P W t (rSl R)) (hok : Value.okWide P W .any base t v) (h : DataW.Trod enc P W 0 (fun _ => true) true t v d p) :
    ∃ xs, (tSl R xs).p (wholeH W) v := by
  obtain ⟨a, len, cap, rfl⟩ := Go.WideShapes.okWide_slice hu hok
  obtain ⟨fuel, h⟩ := h
  obtain ⟨xs, u, e1, e2⟩ := hR.rd _ _ _ h
  have : Value.slice a len cap = u := by
    have := (List.cons.inj e1).1
    exact this
  exact ⟨xs, this ▸ e2⟩
/-- A struct that is handed in. -/
theorem arg_st {α : Type} {t : Nat} {R : Rp α} {v : Value} {d : DataW H} {p : List MemPlace} (hR : Rd enc P W t R) (hg : R.agg = true) (hk : R.k ≠ 1) (h : DataW.Trod enc P W 0 (fun _ => true) true t v d p) :
    ∃ x, (R.ty x).p (wholeH W) v := by
  obtain ⟨fuel, h⟩ := h
  obtain ⟨x, r⟩ := hR.rd _ _ _ h
  refine ⟨x, R.iff.2 ⟨_, r, ?_⟩⟩
  have hl := R.len r
  unfold packV
  rw [hg]
  cases v with
  | agg cs => simp [Value.cells]
  | _ => simp [Value.cells] at hl; exact absurd hl.symm hk
theorem arg_str {t : Nat} {v : Value} {d : DataW H} {p : List MemPlace} (hu : P.underlying t = some .string) (hok : Value.okWide P W .any base t v) (h : DataW.Trod enc P W 0 (fun _ => true) true t v d p) :
    ∃ x : ByteArray, (tV (.string x)).p (wholeH W) v := by
  obtain ⟨x, rfl⟩ := Go.WideShapes.okWide_string hu hok
  exact ⟨x, rfl⟩
end
theorem inv_of {W : World} (h : Lib.TabIs Tryz.prog W "internal/strconv.uint64pow10" .u64 Lib.pow10Tab) : Inv (wholeH W) := by
  have hg : Tryz.prog.globalNamed "internal/strconv.uint64pow10" = some tabG := by kernel_rfl
  unfold Lib.TabIs World.var? at h
  rw [hg] at h
  simp only [Option.bind_some] at h
  unfold Inv wholeH
  cases hb : W.heap[tabG]? with
  | none => rw [hb] at h; cases h
  | some o =>
    rw [hb] at h
    cases o with
    | cells cs e fz => exact ⟨e, fz, by injection h with h; rw [h]; rfl⟩
    | _ => cases h
end Lg
namespace Go.Proofs.YtfojldlbhhigbaaGreatDoor
open Go.ChangeShapes Go.WideShapes Go.ChangeAt Go.RowKit
theorem own : ownKnob Tryz.prog.godebug = none := by kernel_rfl
theorem laidOut : laidOutB Tryz.prog = true := by kernel_rfl
theorem size22 : (22 : Nat) < Tryz.prog.types.size := of_decide_eq_true (by kernel_rfl)
theorem rec22 : Tryz.prog.readableRec 22 = true := by kernel_rfl
theorem want22 : Tryz.prog.wantsStandIn 22 = false := by kernel_rfl
theorem size23 : (23 : Nat) < Tryz.prog.types.size := of_decide_eq_true (by kernel_rfl)
theorem rec23 : Tryz.prog.readableRec 23 = true := by kernel_rfl
theorem want23 : Tryz.prog.wantsStandIn 23 = false := by kernel_rfl
theorem size28 : (28 : Nat) < Tryz.prog.types.size := of_decide_eq_true (by kernel_rfl)
theorem rec28 : Tryz.prog.readableRec 28 = true := by kernel_rfl
theorem want28 : Tryz.prog.wantsStandIn 28 = false := by kernel_rfl
theorem size35 : (35 : Nat) < Tryz.prog.types.size := of_decide_eq_true (by kernel_rfl)
theorem rec35 : Tryz.prog.readableRec 35 = true := by kernel_rfl
theorem want35 : Tryz.prog.wantsStandIn 35 = false := by kernel_rfl
/-- What the rows list. -/
abbrev laidL : List (String × DataW Unit) := [("math/bits.deBruijn32tab", Rows.laid_math_bits_deBruijn32tab), ("math/bits.deBruijn64tab", Rows.laid_math_bits_deBruijn64tab), ("internal/strconv.uint64pow10", Rows.laid_internal_strconv_uint64pow10)]
noncomputable def laidWorld (os : Os) : World := World.laidAll Tryz.prog os laidL
theorem tab_of {W : World} (h : laidMet Tryz.prog laidL W) : Lib.TabIs Tryz.prog W "internal/strconv.uint64pow10" .u64 Lib.pow10Tab :=
  Lib.tabIs_of_head (g := Lg.tabG) (t := 231) (e := 158) (n := 20) (rest := []) (by kernel_rfl) (by kernel_rfl) Tryz.underlying231 Tryz.underlying158 (by kernel_rfl) (by kernel_rfl) h.tail.tail
theorem noLooks : true = Tryz.pinned.checked.prog.looks [] := by kernel_rfl
end Go.Proofs.YtfojldlbhhigbaaGreatDoor
