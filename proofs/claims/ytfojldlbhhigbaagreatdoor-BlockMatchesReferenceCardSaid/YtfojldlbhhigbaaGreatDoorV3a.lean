/- Walks and pure theory for this law, the first part. -/
import Derived.Test.YtfojldlbhhigbaaGreatDoorH
import Derived.Laws.Runes
set_option linter.unusedVariables false
set_option linter.unusedSimpArgs false
set_option linter.unusedSectionVars false
namespace Lg
open Go Go.Proofs


theorem bytesLess_iff : ∀ (a b : List UInt8), Op.bytesLess a b = true ↔ a < b
  | [], [] => by simp [Op.bytesLess]
  | [], _ :: _ => by simp [Op.bytesLess]
  | _ :: _, [] => by simp [Op.bytesLess]
  | a :: ra, b :: rb => by
    have ih := bytesLess_iff ra rb
    simp only [Op.bytesLess, List.cons_lt_cons_iff]
    by_cases h1 : a < b
    · simp [h1]
    · by_cases h2 : b < a
      · have : a ≠ b := fun e => by subst e; exact h1 h2
        simp [h1, h2, this]
      · have : a = b := UInt8.le_antisymm (UInt8.not_lt.1 h2) (UInt8.not_lt.1 h1)
        subst this
        simp [h1, ih]
theorem less_ofB (a b : ByteArray) : Op.bytesLess a.toList b.toList = decide (ofB a < ofB b) := by
  rw [Bool.eq_iff_iff, bytesLess_iff, ByteArray.toList_eq, ByteArray.toList_eq, decide_eq_true_eq]
theorem step_geq_str {C : Cx} {E : Env} {L : List SP} {d : Option Nat} {ty : Nat} {pos : String} {af : Array Edge} {g : Option (Nat × Bool)} {T U : Nat} {x y : Operand} {a b : ByteArray} (hx : Sub (opTy E x) (tV (.string a))) (hy : Sub (opTy E y) (tV (.string b))) :
    Step1 C ⟨d, .binOp .geq T x y U, ty, pos, af, g⟩ E L (tV (.bool (!decide (ofB a < ofB b)))) := step_str hx hy (fun P w => by rw [← less_ofB]; simp [binOp, Op.stringOp])
theorem keysM_inc (b : GBlock) (r : GRecord) : incB (keysM b r) := by
  unfold keysM
  split
  · simp [incB]
  · split
    · simp [incB]
    · exact finM_inc _
theorem keysM_ne {b : GBlock} {r : GRecord} {x : ByteArray} (h : x ∈ keysM b r) : x ≠ ⟨#[]⟩ := by
  unfold keysM at h
  split at h
  · cases h
  · split at h
    · cases h
    · exact (mem_finM.1 h).2
theorem keysM_lt {b : GBlock} {r : GRecord} {i j : Nat} (hij : i < j) (hj : j < (keysM b r).length) : ofB (nth (keysM b r) i) < ofB (nth (keysM b r) j) := by
  have := keysM_inc b r
  unfold incB at this
  rw [List.pairwise_iff_getElem] at this
  rw [nth_get hj, nth_get (by omega)]
  exact this i j (by omega) hj hij
theorem keysM_out {b : GBlock} {r : GRecord} (h : ¬ (0 ≤ b.Col ∧ b.Col < (r.Cells.length : Int))) : keysM b r = [] := by
  unfold keysM
  rw [if_pos]
  unfold fitsB
  rw [Bool.eq_false_iff]
  intro q
  simp only [Bool.and_eq_true, decide_eq_true_eq] at q
  exact h ⟨q.2.2.1, q.2.2.2⟩
theorem keysM_null {b : GBlock} {r : GRecord} (h : (cellV b r).Kind = 0) : keysM b r = [] := by
  unfold keysM
  split
  · rfl
  · first | rfl | rw [if_pos h]
theorem keysM_same {b : GBlock} {r s : GRecord} (h0 : 0 ≤ b.Col) (h1 : b.Col < (r.Cells.length : Int)) (h2 : b.Col < (s.Cells.length : Int)) (ht : r.Table = s.Table) (hv : cellV b r = cellV b s) : keysM b r = keysM b s := by
  have hf : fitsB b r = fitsB b s := by
    unfold fitsB
    rw [ht]
    simp [h1, h2]
  unfold keysM
  rw [hf, hv]
theorem noBad {b : GBlock} {r : GRecord} {i : Nat} (hlt : i < (keysM b r).length) : ¬ (nth (keysM b r) i = ⟨#[]⟩ ∨ 0 < (i : Int) ∧ ¬ ofB (nth (keysM b r) (i - 1)) < ofB (nth (keysM b r) i)) := by
  rintro (h | ⟨h1, h2⟩)
  · exact keysM_ne (nth_mem hlt) h
  · exact h2 (keysM_lt (by omega) hlt)

theorem lawKeys_spec (b : GBlock) (r s : GRecord) : Fun1 Tryz.prog 4 [rBlock.ty b, rRecord.ty r, rRecord.ty s] (tV (.bool true)) := by
  refine Spec.enter Tryz.func4 rfl rfl fun h0 w0 fr0 => ?_
  refine J_seq ?_
  refine J_region ?_
  refine JL_step rfl rfl rfl (step_box (R := rBlock) Sub.rfl) ?_
  refine JL_step rfl rfl rfl (step_box (R := rRecord) Sub.rfl) ?_
  refine JL_step rfl rfl rfl (step_box (R := rRecord) Sub.rfl) ?_
  refine JL_step rfl rfl rfl (step_assign Sub.rfl) ?_
  refine JL_nil ?_
  refine J_seq ?_
  refine J_region ?_
  refine JL_step rfl rfl rfl (step_call0 (head_spec ) trivial Tryz.call10) ?_
  refine JL_step rfl rfl rfl (step_assign Sub.rfl) ?_
  refine JL_nil ?_
  refine J_seq ?_
  refine J_seq ?_
  refine J_region ?_
  refine JL_step rfl rfl rfl (step_load_ptr ty28 Sub.rfl) ?_
  refine JL_step rfl rfl rfl (step_load_ptr ty28 Sub.rfl) ?_
  refine JL_step rfl rfl rfl (step_literal (ys := [_, _]) Tryz.underlying23 el28 ⟨rfl, Sub.rfl, rfl, Sub.rfl, trivial⟩ rfl (by decide)) ?_
  refine JL_step rfl rfl rfl (step_call0 (Few_spec [] [r, s] 2 (by decide)) ⟨Sub.nilsl, Sub.rfl, Sub.rfl, trivial⟩ Tryz.call11) ?_
  refine JL_step rfl rfl rfl (step_not Sub.rfl) ?_
  refine JL_nil ?_
  refine J_cond Sub.rfl (fun h15 => ?_) (fun h15 => ?_)
  · try simp only [decide_eq_true_eq, decide_eq_false_iff_not, Bool.and_eq_true, Bool.or_eq_true, Bool.and_eq_false_iff, Bool.or_eq_false_iff, Bool.not_eq_true', Bool.not_eq_false', Int.not_lt, Int.not_le, Bool.not_true, Bool.not_false] at h15
    refine J_seq ?_
    refine J_region ?_
    refine JL_step rfl rfl rfl (step_move Sub.rfl) ?_
    refine JL_step rfl rfl rfl (step_assign Sub.rfl) ?_
    refine JL_nil ?_
    refine J_ret ?_
    exact K_ret1 (t := 6) rfl () Sub.rfl
  · try simp only [decide_eq_true_eq, decide_eq_false_iff_not, Bool.and_eq_true, Bool.or_eq_true, Bool.and_eq_false_iff, Bool.or_eq_false_iff, Bool.not_eq_true', Bool.not_eq_false', Int.not_lt, Int.not_le, Bool.not_true, Bool.not_false] at h15
    have hF : FewP [] [r, s] 2 := by simpa using h15
    have hr : recFew r := hF.2.2 r (by simp)
    have hs : recFew s := hF.2.2 s (by simp)
    have hkl := keys_len (b := b) hr.ok
    refine J_skip ?_
    refine J_seq ?_
    refine J_region ?_
    refine JL_step rfl rfl rfl (step_load_ptr ty35 Sub.rfl) ?_
    refine JL_step rfl rfl rfl (step_load_ptr ty28 Sub.rfl) ?_
    refine JL_step rfl rfl rfl (step_call0 (Keys_spec _ _ hr.ok) ⟨Sub.rfl, Sub.rfl, trivial⟩ Tryz.call13) ?_
    refine JL_step rfl rfl rfl (step_assign Sub.rfl) ?_
    refine JL_nil ?_
    refine J_seq ?_
    refine J_seq ?_
    refine J_region ?_
    refine JL_step rfl rfl rfl (step_assign Sub.rfl) ?_
    refine JL_nil ?_
    refine J_block ?_
    refine J_loopL (σ := Nat) (fun i => i ≤ (keysM b r).length) (fun i => upd (upd (upd (upd (upd (upd env0 3 (tPtr rBlock b)) 4 (tPtr rRecord r)) 5 (tPtr rRecord s)) 7 (tV (.bool true))) 8 (tSl rStr (keysM b r))) 9 (tV (.int .i64 i))) (fun i => []) (fun i => (keysM b r).length - i) 0 (by omega) (SubE.upd Sub.rfl (SubE.upd Sub.rfl (SubE.upd Sub.rfl (SubE.upd Sub.rfl (SubE.upd Sub.rfl (SubE.upd Sub.rfl SubE.any)))))) (LSub.rfl) ?_
    rintro i hi
    refine J_seq ?_
    refine J_seq ?_
    refine J_region ?_
    refine JL_step rfl rfl rfl (step_move Sub.rfl) ?_
    refine JL_step rfl rfl rfl (step_move Sub.rfl) ?_
    refine JL_step rfl rfl rfl (step_len_sl Tryz.underlying32 Sub.rfl) ?_
    refine JL_step rfl rfl rfl (step_lss Sub.rfl Sub.rfl) ?_
    refine JL_nil ?_
    refine J_cond Sub.rfl (fun h23 => ?_) (fun h23 => ?_)
    · try simp only [decide_eq_true_eq, decide_eq_false_iff_not, Bool.and_eq_true, Bool.or_eq_true, Bool.and_eq_false_iff, Bool.or_eq_false_iff, Bool.not_eq_true', Bool.not_eq_false', Int.not_lt, Int.not_le, Bool.not_true, Bool.not_false] at h23
      have hlt : i < (keysM b r).length := by omega
      refine J_skip ?_
      refine J_seq ?_
      refine J_block ?_
      refine J_seq ?_
      refine J_draw [⟨0, [8], true⟩, ⟨1, [9], true⟩, ⟨2, [26, 27], true⟩, ⟨3, [28], true⟩, ⟨4, [29], true⟩, ⟨5, [30], true⟩, ⟨6, [9, 31], true⟩, ⟨7, [31, 32], true⟩, ⟨8, [31, 33], true⟩, ⟨9, [8, 34], true⟩, ⟨10, [9, 34], true⟩, ⟨11, [34, 36], true⟩, ⟨12, [34, 37], true⟩, ⟨13, [34, 35, 38], true⟩, ⟨14, [34, 39], true⟩, ⟨15, [8, 34], true⟩, ⟨16, [9, 34], true⟩, ⟨17, [34, 41, 42], true⟩, ⟨18, [34, 43], true⟩, ⟨19, [34, 40, 44], true⟩, ⟨20, [31, 34, 45], true⟩, ⟨21, [31, 46], true⟩] rfl (by kernel_rfl) ?_
      refine JM_step rfl rfl rfl rfl (fun _ => step_move Sub.rfl) ?_
      refine JM_step rfl rfl rfl rfl (fun _ => step_move Sub.rfl) ?_
      refine JM_step rfl rfl rfl rfl (fun _ => step_indexAddr_sl  Tryz.underlying32 ty9 Sub.rfl Sub.rfl rfl (gb ?sg1)) ?_
      case sg1 => exact hlt
      refine JM_step rfl rfl rfl rfl (fun _ => step_load_ptr ty9 Sub.rfl) ?_
      refine JM_step rfl rfl rfl rfl (fun _ => step_eql_str Sub.rfl Sub.rfl) ?_
      refine JM_step rfl rfl rfl rfl (fun _ => step_move Sub.rfl) ?_
      refine JM_stepG rfl rfl rfl rfl (Gd.plain Sub.rfl) rfl rfl (fun hw _ => step_move Sub.rfl) ?_
      refine JM_stepG rfl rfl rfl rfl (Gd.plain Sub.rfl) rfl rfl (fun hw _ => step_gtr (Sub.w hw) Sub.rfl) ?_
      refine JM_stepG rfl rfl rfl rfl (Gd.plain Sub.rfl) rfl rfl (fun hw _ => step_move (Sub.w hw)) ?_
      refine JM_stepG rfl rfl rfl rfl (Gd.nest Sub.rfl) rfl rfl (fun hw _ => step_move Sub.rfl) ?_
      refine JM_stepG rfl rfl rfl rfl (Gd.nest Sub.rfl) rfl rfl (fun hw _ => step_move Sub.rfl) ?_
      refine JM_stepG rfl rfl rfl rfl (Gd.nest Sub.rfl) rfl rfl (fun hw _ => step_sub (Sub.w hw) Sub.rfl ?sg1) ?_
      case sg1 => have hwq := hw; (try simp only [beqB_t, beqB_f, decide_eq_true_eq, decide_eq_false_iff_not, Bool.and_eq_true, Bool.or_eq_true, Bool.and_eq_false_iff, Bool.or_eq_false_iff, Bool.not_eq_true', Bool.not_eq_false', Int.not_lt, Int.not_le, Bool.not_true, Bool.not_false] at hwq); unfold in64; omega
      refine JM_stepG rfl rfl rfl rfl (Gd.nest Sub.rfl) rfl rfl (fun hw _ => step_max (Sub.w hw) Sub.rfl) ?_
      refine JM_stepG rfl rfl rfl rfl (Gd.nest Sub.rfl) rfl rfl (fun hw _ => step_indexAddr_sl (i := (i - 1)) Tryz.underlying32 ty9 (Sub.w hw) (Sub.w hw) ?sg1 (gb ?sg2)) ?_
      case sg1 => have hwq := hw; (try simp only [beqB_t, beqB_f, decide_eq_true_eq, decide_eq_false_iff_not, Bool.and_eq_true, Bool.or_eq_true, Bool.and_eq_false_iff, Bool.or_eq_false_iff, Bool.not_eq_true', Bool.not_eq_false', Int.not_lt, Int.not_le, Bool.not_true, Bool.not_false] at hwq); split <;> omega
      case sg2 => have hwq := hw; (try simp only [beqB_t, beqB_f, decide_eq_true_eq, decide_eq_false_iff_not, Bool.and_eq_true, Bool.or_eq_true, Bool.and_eq_false_iff, Bool.or_eq_false_iff, Bool.not_eq_true', Bool.not_eq_false', Int.not_lt, Int.not_le, Bool.not_true, Bool.not_false] at hwq); omega
      refine JM_stepG rfl rfl rfl rfl (Gd.nest Sub.rfl) rfl rfl (fun hw _ => step_load_ptr ty9 (Sub.w hw)) ?_
      refine JM_stepG rfl rfl rfl rfl (Gd.nest Sub.rfl) rfl rfl (fun hw _ => step_move Sub.rfl) ?_
      refine JM_stepG rfl rfl rfl rfl (Gd.nest Sub.rfl) rfl rfl (fun hw _ => step_move Sub.rfl) ?_
      refine JM_stepG rfl rfl rfl rfl (Gd.nest Sub.rfl) rfl rfl (fun hw _ => step_indexAddr_sl  Tryz.underlying32 ty9 (Sub.w hw) (Sub.w hw) rfl (gb ?sg1)) ?_
      case sg1 => have hwq := hw; (try simp only [beqB_t, beqB_f, decide_eq_true_eq, decide_eq_false_iff_not, Bool.and_eq_true, Bool.or_eq_true, Bool.and_eq_false_iff, Bool.or_eq_false_iff, Bool.not_eq_true', Bool.not_eq_false', Int.not_lt, Int.not_le, Bool.not_true, Bool.not_false] at hwq); exact hlt
      refine JM_stepG rfl rfl rfl rfl (Gd.nest Sub.rfl) rfl rfl (fun hw _ => step_load_ptr ty9 (Sub.w hw)) ?_
      refine JM_stepG rfl rfl rfl rfl (Gd.nest Sub.rfl) rfl rfl (fun hw _ => step_geq_str (Sub.w hw) (Sub.w hw)) ?_
      refine JM_stepG rfl rfl rfl rfl (Gd.plain Sub.rfl) rfl rfl (fun hw _ => step_pick_and (Sub.w hw) (Sub.ww hw)) ?_
      refine JM_step rfl rfl rfl rfl (fun _ => step_pick_or Sub.rfl Sub.rfl) ?_
      refine JM_nil ?_
      refine J_cond Sub.rfl (fun h47 => ?_) (fun h47 => ?_)
      · try simp only [decide_eq_true_eq, decide_eq_false_iff_not, Bool.and_eq_true, Bool.or_eq_true, Bool.and_eq_false_iff, Bool.or_eq_false_iff, Bool.not_eq_true', Bool.not_eq_false', Int.not_lt, Int.not_le, Bool.not_true, Bool.not_false] at h47
        exact absurd h47 (noBad hlt)
      · try simp only [decide_eq_true_eq, decide_eq_false_iff_not, Bool.and_eq_true, Bool.or_eq_true, Bool.and_eq_false_iff, Bool.or_eq_false_iff, Bool.not_eq_true', Bool.not_eq_false', Int.not_lt, Int.not_le, Bool.not_true, Bool.not_false] at h47
        refine J_skip ?_
        refine J_region ?_
        refine JL_step rfl rfl rfl (step_move Sub.rfl) ?_
        refine JL_step rfl rfl rfl (step_add Sub.rfl Sub.rfl ?sg1) ?_
        case sg1 => unfold in64; omega
        refine JL_step rfl rfl rfl (step_assign Sub.rfl) ?_
        refine JL_nil ?_
        refine K_againL (σ := Nat) (s := i) (i + 1) (by first | omega | (dsimp only; omega) | (simp_all; omega)) (by omega) (SubE.upd Sub.rfl (SubE.upd Sub.rfl (SubE.upd Sub.rfl (SubE.upd Sub.rfl (SubE.upd Sub.rfl (SubE.upd Sub.rfl SubE.any)))))) (LSub.rfl)
    · try simp only [decide_eq_true_eq, decide_eq_false_iff_not, Bool.and_eq_true, Bool.or_eq_true, Bool.and_eq_false_iff, Bool.or_eq_false_iff, Bool.not_eq_true', Bool.not_eq_false', Int.not_lt, Int.not_le, Bool.not_true, Bool.not_false] at h23
      refine J_exit ?_
      refine J_seq ?_
      refine J_seq ?_
      refine J_region ?_
      refine JL_step rfl rfl rfl (step_fieldAddr so35 Sub.rfl rfl) ?_
      refine JL_step rfl rfl rfl (step_load_ptr ty3 Sub.rfl) ?_
      refine JL_step rfl rfl rfl (step_lss Sub.rfl Sub.rfl) ?_
      refine JL_step rfl rfl rfl (step_move Sub.rfl) ?_
      refine JL_stepG rfl rfl rfl (Gd.plain Sub.rfl) rfl rfl (fun hw => step_fieldAddr so35 Sub.rfl rfl) ?_
      refine JL_stepG rfl rfl rfl (Gd.plain Sub.rfl) rfl rfl (fun hw => step_load_ptr ty3 (Sub.w hw)) ?_
      refine JL_stepG rfl rfl rfl (Gd.plain Sub.rfl) rfl rfl (fun hw => step_fieldAddr so28 Sub.rfl rfl) ?_
      refine JL_stepG rfl rfl rfl (Gd.plain Sub.rfl) rfl rfl (fun hw => step_load_ptr ty26 (Sub.w hw)) ?_
      refine JL_stepG rfl rfl rfl (Gd.plain Sub.rfl) rfl rfl (fun hw => step_len_sl Tryz.underlying26 (Sub.w hw)) ?_
      refine JL_stepG rfl rfl rfl (Gd.plain Sub.rfl) rfl rfl (fun hw => step_geq (Sub.w hw) (Sub.w hw)) ?_
      refine JL_step rfl rfl rfl (step_pick_or Sub.rfl Sub.rfl) ?_
      refine JL_step rfl rfl rfl (step_move Sub.rfl) ?_
      refine JL_stepG rfl rfl rfl (Gd.plain Sub.rfl) rfl rfl (fun hw => step_fieldAddr so35 Sub.rfl rfl) ?_
      refine JL_stepG rfl rfl rfl (Gd.plain Sub.rfl) rfl rfl (fun hw => step_load_ptr ty3 (Sub.w hw)) ?_
      refine JL_stepG rfl rfl rfl (Gd.plain Sub.rfl) rfl rfl (fun hw => step_fieldAddr so28 Sub.rfl rfl) ?_
      refine JL_stepG rfl rfl rfl (Gd.plain Sub.rfl) rfl rfl (fun hw => step_load_ptr ty26 (Sub.w hw)) ?_
      refine JL_stepG rfl rfl rfl (Gd.plain Sub.rfl) rfl rfl (fun hw => step_len_sl Tryz.underlying26 (Sub.w hw)) ?_
      refine JL_stepG rfl rfl rfl (Gd.plain Sub.rfl) rfl rfl (fun hw => step_geq (Sub.w hw) (Sub.w hw)) ?_
      refine JL_step rfl rfl rfl (step_pick_or Sub.rfl Sub.rfl) ?_
      refine JL_step rfl rfl rfl (step_move Sub.rfl) ?_
      refine JL_stepG rfl rfl rfl (Gd.plain Sub.rfl) rfl rfl (fun hw => step_fieldAddr so28 Sub.rfl rfl) ?_
      refine JL_stepG rfl rfl rfl (Gd.plain Sub.rfl) rfl rfl (fun hw => step_load_ptr ty3 (Sub.w hw)) ?_
      refine JL_stepG rfl rfl rfl (Gd.plain Sub.rfl) rfl rfl (fun hw => step_fieldAddr so28 Sub.rfl rfl) ?_
      refine JL_stepG rfl rfl rfl (Gd.plain Sub.rfl) rfl rfl (fun hw => step_load_ptr ty3 (Sub.w hw)) ?_
      refine JL_stepG rfl rfl rfl (Gd.plain Sub.rfl) rfl rfl (fun hw => step_neq (Sub.w hw) (Sub.w hw)) ?_
      refine JL_step rfl rfl rfl (step_pick_or Sub.rfl Sub.rfl) ?_
      refine JL_nil ?_
      refine J_cond Sub.rfl (fun h73 => ?_) (fun h73 => ?_)
      · try simp only [decide_eq_true_eq, decide_eq_false_iff_not, Bool.and_eq_true, Bool.or_eq_true, Bool.and_eq_false_iff, Bool.or_eq_false_iff, Bool.not_eq_true', Bool.not_eq_false', Int.not_lt, Int.not_le, Bool.not_true, Bool.not_false] at h73
        refine J_seq ?_
        refine J_region ?_
        refine JL_step rfl rfl rfl (step_move Sub.rfl) ?_
        refine JL_step rfl rfl rfl (step_move Sub.rfl) ?_
        refine JL_stepG rfl rfl rfl (Gd.plain Sub.rfl) rfl rfl (fun hw => step_fieldAddr so35 Sub.rfl rfl) ?_
        refine JL_stepG rfl rfl rfl (Gd.plain Sub.rfl) rfl rfl (fun hw => step_load_ptr ty3 (Sub.w hw)) ?_
        refine JL_stepG rfl rfl rfl (Gd.plain Sub.rfl) rfl rfl (fun hw => step_geq (Sub.w hw) Sub.rfl) ?_
        refine JL_stepG rfl rfl rfl (Gd.plain Sub.rfl) rfl rfl (fun hw => step_move (Sub.w hw)) ?_
        refine JL_stepG rfl rfl rfl (Gd.nest Sub.rfl) rfl rfl (fun hw => step_fieldAddr so35 Sub.rfl rfl) ?_
        refine JL_stepG rfl rfl rfl (Gd.nest Sub.rfl) rfl rfl (fun hw => step_load_ptr ty3 (Sub.w hw)) ?_
        refine JL_stepG rfl rfl rfl (Gd.nest Sub.rfl) rfl rfl (fun hw => step_fieldAddr so28 Sub.rfl rfl) ?_
        refine JL_stepG rfl rfl rfl (Gd.nest Sub.rfl) rfl rfl (fun hw => step_load_ptr ty26 (Sub.w hw)) ?_
        refine JL_stepG rfl rfl rfl (Gd.nest Sub.rfl) rfl rfl (fun hw => step_len_sl Tryz.underlying26 (Sub.w hw)) ?_
        refine JL_stepG rfl rfl rfl (Gd.nest Sub.rfl) rfl rfl (fun hw => step_lss (Sub.w hw) (Sub.w hw)) ?_
        refine JL_stepG rfl rfl rfl (Gd.plain Sub.rfl) rfl rfl (fun hw => step_pick_and (Sub.w hw) (Sub.ww hw)) ?_
        refine JL_stepG rfl rfl rfl (Gd.plain Sub.rfl) rfl rfl (fun hw => step_move (Sub.w hw)) ?_
        refine JL_stepG rfl rfl rfl (Gd.nest Sub.rfl) rfl rfl (fun hw => step_move Sub.rfl) ?_
        refine JL_stepG rfl rfl rfl (Gd.nest Sub.rfl) rfl rfl (fun hw => step_len_sl Tryz.underlying32 (Sub.w hw)) ?_
        refine JL_stepG rfl rfl rfl (Gd.nest Sub.rfl) rfl rfl (fun hw => step_eql (Sub.w hw) Sub.rfl) ?_
        refine JL_stepG rfl rfl rfl (Gd.plain Sub.rfl) rfl rfl (fun hw => step_pick_or (Sub.w hw) (Sub.ww hw)) ?_
        refine JL_step rfl rfl rfl (step_pick_and Sub.rfl Sub.rfl) ?_
        refine JL_step rfl rfl rfl (step_assign Sub.rfl) ?_
        refine JL_nil ?_
        refine J_ret ?_
        refine K_ret1 (t := 6) rfl () ?_
        refine Sub.bool ?_
        have hk : ¬ (0 ≤ b.Col ∧ b.Col < (r.Cells.length : Int)) → (keysM b r).length = 0 := fun q => by rw [keysM_out q]; rfl
        show (true && ((decide (0 ≤ b.Col) && decide (b.Col < (r.Cells.length : Int))) || decide (((keysM b r).length : Int) = 0))) = true
        by_cases q : 0 ≤ b.Col ∧ b.Col < (r.Cells.length : Int)
        · simp [q.1, q.2]
        · simp [hk q]
      · try simp only [decide_eq_true_eq, decide_eq_false_iff_not, Bool.and_eq_true, Bool.or_eq_true, Bool.and_eq_false_iff, Bool.or_eq_false_iff, Bool.not_eq_true', Bool.not_eq_false', Int.not_lt, Int.not_le, Bool.not_true, Bool.not_false] at h73
        skip
        have hc0 : 0 ≤ b.Col := by have := h73.1.1.1; omega
        have hc1 : b.Col < (r.Cells.length : Int) := by have := h73.1.1.2; omega
        have hc2 : b.Col < (s.Cells.length : Int) := by have := h73.1.2; omega
        have htb : r.Table = s.Table := by have := h73.2; simpa using this
        have hlr : b.Col.toNat < r.Cells.length := by omega
        have hls : b.Col.toNat < s.Cells.length := by omega
        refine J_skip ?_
        refine J_seq ?_
        refine J_seq ?_
        refine J_region ?_
        refine JL_step rfl rfl rfl (step_fieldAddr so28 Sub.rfl rfl) ?_
        refine JL_step rfl rfl rfl (step_load_ptr ty26 Sub.rfl) ?_
        refine JL_step rfl rfl rfl (step_fieldAddr so35 Sub.rfl rfl) ?_
        refine JL_step rfl rfl rfl (step_load_ptr ty3 Sub.rfl) ?_
        refine JL_step rfl rfl rfl (step_indexAddr_sl (i := b.Col.toNat) Tryz.underlying26 ty49 Sub.rfl Sub.rfl ?sg1 (gb ?sg2)) ?_
        case sg1 => show b.Col = ((b.Col.toNat : Nat) : Int); omega
        case sg2 => exact hlr
        refine JL_step rfl rfl rfl (step_fieldAddr so49 Sub.rfl rfl) ?_
        refine JL_step rfl rfl rfl (step_fieldAddr so47 Sub.rfl rfl) ?_
        refine JL_step rfl rfl rfl (step_load_ptr ty3 Sub.rfl) ?_
        refine JL_step rfl rfl rfl (step_eql Sub.rfl Sub.rfl) ?_
        refine JL_step rfl rfl rfl (step_move Sub.rfl) ?_
        refine JL_stepG rfl rfl rfl (Gd.plain Sub.rfl) rfl rfl (fun hw => step_move Sub.rfl) ?_
        refine JL_stepG rfl rfl rfl (Gd.plain Sub.rfl) rfl rfl (fun hw => step_len_sl Tryz.underlying32 (Sub.w hw)) ?_
        refine JL_stepG rfl rfl rfl (Gd.plain Sub.rfl) rfl rfl (fun hw => step_gtr (Sub.w hw) Sub.rfl) ?_
        refine JL_step rfl rfl rfl (step_pick_and Sub.rfl Sub.rfl) ?_
        refine JL_nil ?_
        refine J_cond Sub.rfl (fun h106 => ?_) (fun h106 => ?_)
        · try simp only [decide_eq_true_eq, decide_eq_false_iff_not, Bool.and_eq_true, Bool.or_eq_true, Bool.and_eq_false_iff, Bool.or_eq_false_iff, Bool.not_eq_true', Bool.not_eq_false', Int.not_lt, Int.not_le, Bool.not_true, Bool.not_false] at h106
          exact absurd h106 (fun q => by have q2 := q.2; rw [keysM_null (show (cellV b r).Kind = 0 from q.1)] at q2; simp at q2)
        · try simp only [decide_eq_true_eq, decide_eq_false_iff_not, Bool.and_eq_true, Bool.or_eq_true, Bool.and_eq_false_iff, Bool.or_eq_false_iff, Bool.not_eq_true', Bool.not_eq_false', Int.not_lt, Int.not_le, Bool.not_true, Bool.not_false] at h106
          refine J_skip ?_
          refine J_seq ?_
          refine J_draw [⟨0, [7], true⟩, ⟨1, [107], true⟩, ⟨2, [4, 108], true⟩, ⟨3, [108, 109], true⟩, ⟨4, [3, 108], true⟩, ⟨5, [108, 111], true⟩, ⟨6, [108, 110, 112], true⟩, ⟨7, [108, 113], true⟩, ⟨8, [108, 114], true⟩, ⟨9, [5, 108], true⟩, ⟨10, [108, 116], true⟩, ⟨11, [3, 108], true⟩, ⟨12, [108, 118], true⟩, ⟨13, [108, 117, 119], true⟩, ⟨14, [108, 120], true⟩, ⟨15, [108, 121], true⟩, ⟨16, [108, 115, 122], true⟩, ⟨17, [108, 123], true⟩, ⟨18, [8, 124], true⟩, ⟨19, [3, 124], true⟩, ⟨20, [5, 124], true⟩, ⟨21, [124, 126, 127], true⟩, ⟨22, [124, 125, 128], true⟩, ⟨23, [108, 124, 129], true⟩, ⟨24, [108, 130], true⟩, ⟨25, [131], true⟩] rfl (by kernel_rfl) ?_
          refine JM_step rfl rfl rfl rfl (fun _ => step_move Sub.rfl) ?_
          refine JM_step rfl rfl rfl rfl (fun _ => step_move Sub.rfl) ?_
          refine JM_stepG rfl rfl rfl rfl (Gd.plain Sub.rfl) rfl rfl (fun hw _ => step_fieldAddr so28 Sub.rfl rfl) ?_
          refine JM_stepG rfl rfl rfl rfl (Gd.plain Sub.rfl) rfl rfl (fun hw _ => step_load_ptr ty26 (Sub.w hw)) ?_
          refine JM_stepG rfl rfl rfl rfl (Gd.plain Sub.rfl) rfl rfl (fun hw _ => step_fieldAddr so35 Sub.rfl rfl) ?_
          refine JM_stepG rfl rfl rfl rfl (Gd.plain Sub.rfl) rfl rfl (fun hw _ => step_load_ptr ty3 (Sub.w hw)) ?_
          refine JM_stepG rfl rfl rfl rfl (Gd.plain Sub.rfl) rfl rfl (fun hw _ => step_indexAddr_sl (i := b.Col.toNat) Tryz.underlying26 ty49 (Sub.w hw) (Sub.w hw) ?sg1 (gb ?sg2)) ?_
          case sg1 => have hwq := hw; (try simp only [beqB_t, beqB_f, decide_eq_true_eq, decide_eq_false_iff_not, Bool.and_eq_true, Bool.or_eq_true, Bool.and_eq_false_iff, Bool.or_eq_false_iff, Bool.not_eq_true', Bool.not_eq_false', Int.not_lt, Int.not_le, Bool.not_true, Bool.not_false] at hwq); show b.Col = ((b.Col.toNat : Nat) : Int); omega
          case sg2 => have hwq := hw; (try simp only [beqB_t, beqB_f, decide_eq_true_eq, decide_eq_false_iff_not, Bool.and_eq_true, Bool.or_eq_true, Bool.and_eq_false_iff, Bool.or_eq_false_iff, Bool.not_eq_true', Bool.not_eq_false', Int.not_lt, Int.not_le, Bool.not_true, Bool.not_false] at hwq); exact hlr
          refine JM_stepG rfl rfl rfl rfl (Gd.plain Sub.rfl) rfl rfl (fun hw _ => step_fieldAddr so49 (Sub.w hw) rfl) ?_
          refine JM_stepG rfl rfl rfl rfl (Gd.plain Sub.rfl) rfl rfl (fun hw _ => step_load_ptr ty47 (Sub.w hw)) ?_
          refine JM_stepG rfl rfl rfl rfl (Gd.plain Sub.rfl) rfl rfl (fun hw _ => step_fieldAddr so28 Sub.rfl rfl) ?_
          refine JM_stepG rfl rfl rfl rfl (Gd.plain Sub.rfl) rfl rfl (fun hw _ => step_load_ptr ty26 (Sub.w hw)) ?_
          refine JM_stepG rfl rfl rfl rfl (Gd.plain Sub.rfl) rfl rfl (fun hw _ => step_fieldAddr so35 Sub.rfl rfl) ?_
          refine JM_stepG rfl rfl rfl rfl (Gd.plain Sub.rfl) rfl rfl (fun hw _ => step_load_ptr ty3 (Sub.w hw)) ?_
          refine JM_stepG rfl rfl rfl rfl (Gd.plain Sub.rfl) rfl rfl (fun hw _ => step_indexAddr_sl (i := b.Col.toNat) Tryz.underlying26 ty49 (Sub.w hw) (Sub.w hw) ?sg1 (gb ?sg2)) ?_
          case sg1 => have hwq := hw; (try simp only [beqB_t, beqB_f, decide_eq_true_eq, decide_eq_false_iff_not, Bool.and_eq_true, Bool.or_eq_true, Bool.and_eq_false_iff, Bool.or_eq_false_iff, Bool.not_eq_true', Bool.not_eq_false', Int.not_lt, Int.not_le, Bool.not_true, Bool.not_false] at hwq); show b.Col = ((b.Col.toNat : Nat) : Int); omega
          case sg2 => have hwq := hw; (try simp only [beqB_t, beqB_f, decide_eq_true_eq, decide_eq_false_iff_not, Bool.and_eq_true, Bool.or_eq_true, Bool.and_eq_false_iff, Bool.or_eq_false_iff, Bool.not_eq_true', Bool.not_eq_false', Int.not_lt, Int.not_le, Bool.not_true, Bool.not_false] at hwq); exact hls
          refine JM_stepG rfl rfl rfl rfl (Gd.plain Sub.rfl) rfl rfl (fun hw _ => step_fieldAddr so49 (Sub.w hw) rfl) ?_
          refine JM_stepG rfl rfl rfl rfl (Gd.plain Sub.rfl) rfl rfl (fun hw _ => step_load_ptr ty47 (Sub.w hw)) ?_
          refine JM_stepG rfl rfl rfl rfl (Gd.plain Sub.rfl) rfl rfl (fun hw _ => step_neq_val (Sub.w hw) (Sub.w hw)) ?_
          refine JM_stepG rfl rfl rfl rfl (Gd.plain Sub.rfl) rfl rfl (fun hw _ => step_move (Sub.w hw)) ?_
          refine JM_stepG rfl rfl rfl rfl (Gd.nest Sub.rfl) rfl rfl (fun hw _ => step_move Sub.rfl) ?_
          refine JM_stepG rfl rfl rfl rfl (Gd.nest Sub.rfl) rfl rfl (fun hw _ => step_load_ptr ty35 Sub.rfl) ?_
          refine JM_stepG rfl rfl rfl rfl (Gd.nest Sub.rfl) rfl rfl (fun hw _ => step_load_ptr ty28 Sub.rfl) ?_
          refine JM_stepG rfl rfl rfl rfl (Gd.nest Sub.rfl) rfl rfl (fun hw _ => step_call0 (Keys_spec _ _ hs.ok) ⟨(Sub.w hw), (Sub.w hw), trivial⟩ Tryz.call13) ?_
          refine JM_stepG rfl rfl rfl rfl (Gd.nest Sub.rfl) rfl rfl (fun hw _ => step_call0 (SameS_spec (keysM b r) (keysM b s) (keys_len hr.ok)) ⟨(Sub.w hw), (Sub.w hw), trivial⟩ Tryz.call12) ?_
          refine JM_stepG rfl rfl rfl rfl (Gd.plain Sub.rfl) rfl rfl (fun hw _ => step_pick_or (Sub.w hw) (Sub.ww hw)) ?_
          refine JM_step rfl rfl rfl rfl (fun _ => step_pick_and Sub.rfl Sub.rfl) ?_
          refine JM_step rfl rfl rfl rfl (fun _ => step_assign Sub.rfl) ?_
          refine JM_nil ?_
          refine J_ret ?_
          refine K_ret1 (t := 6) rfl () ?_
          refine Sub.bool ?_
          have hsm : cellV b r = cellV b s → keysM b r = keysM b s := keysM_same hc0 hc1 hc2 htb
          show (true && (!decide (cellV b r = cellV b s) || decide (keysM b r = keysM b s))) = true
          by_cases q : cellV b r = cellV b s
          · simp [hsm q]
          · simp [q]
end Lg

namespace Lg
open Go Go.Proofs


theorem step_arrAddr {ro : Option Nat} {N : Nat} {ds : List Deferred} {h0 : PH} {w0 : World} {r : PH} {E : Env} {L : List SP} {d : Option Nat} {ty : Nat} {pos : String} {af : Array Edge} {g : Option (Nat × Bool)} {x y : Operand} {p : Int × Int} (n : Nat) {f : SF (Int × Int)} (hx : Sub (opTy E x) (tPtr rA2 p)) (hy : Sub (opTy E y) (tV (.int .i64 (n : Int)))) (hf : fsA2[n]? = some f) :
    Step1 ⟨Tryz.prog, ro, N, ds, h0, w0, r⟩ ⟨d, .indexAddr 52 x y, ty, pos, af, g⟩ E L (tPtr f.R (f.get p)) :=
  Step.of_same (by intro c h; cases h) fun a w h hw fr => by
    obtain ⟨b, off, cs, hv, ⟨c, e, fz, hb, hc⟩, r⟩ := fr.get hx
    have h2 : a.eval y = .int .i64 (n : Int) := fr.get hy
    obtain ⟨c', r', hc'⟩ := SF.rel_field r hf
    have hn : n = 0 ∨ n = 1 := by
      have := (List.getElem?_eq_some_iff.1 hf).1
      simp only [fsA2, List.length_cons, List.length_nil] at this
      omega
    have ho : SF.off fsA2 n = n := by rcases hn with rfl | rfl <;> rfl
    have hlt : n < 2 := by omega
    refine ⟨.pointer (some ⟨b, off + SF.off fsA2 n, none⟩), ?_, b, off + SF.off fsA2 n, c', rfl, ⟨c, e, fz, hb, fun i v hv' => ?_⟩, r'⟩
    · simp [execOp, Instr.indexAt, Instr.sureAddr, hv, h2, asIntOf, run_underlying Tryz.underlying52, Tryz.sizeOf3, hlt, addr_add, ho]
    · rw [Nat.add_assoc]; exact hc _ _ (hc' i v hv')
def keyC (a b : GRecord) (x y : ByteArray) : Bool := decide (x = y) && decide (a.Table = b.Table)
def rowC (bl : GBlock) (a b : GRecord) (x : ByteArray) : Bool := (keysM bl b).any (keyC a b x)
def blkC (a b : GRecord) (bl : GBlock) : Bool := (keysM bl a).any (rowC bl a b)
def commB (blocks : List GBlock) (a b : GRecord) : Bool := blocks.any (blkC a b)
theorem any_f {α : Type} [Inhabited α] {p : α → Bool} {l : List α} (h : ∀ k, k < l.length → p (nth l k) = false) : l.any p = false := by
  rw [List.any_eq_false]
  intro x hx
  obtain ⟨k, hk, rfl⟩ := List.getElem_of_mem hx
  have := h k hk
  rw [nth_get hk] at this
  simp [this]
theorem any_t {α : Type} [Inhabited α] {p : α → Bool} {l : List α} {k : Nat} (hk : k < l.length) (h : p (nth l k) = true) : l.any p = true := by
  rw [List.any_eq_true]
  exact ⟨_, nth_mem hk, h⟩
theorem shares_keys {blocks : List GBlock} {a b : GRecord} : sharesB blocks a b = true ↔ a.Table = b.Table ∧ ∃ bl ∈ blocks, ∃ k, k ∈ keysM bl a ∧ k ∈ keysM bl b := by
  rw [shares_iff]
  constructor
  · rintro ⟨p, h1, h2⟩
    obtain ⟨i, hi, e1, e2, e3⟩ := places_mem.1 h1
    obtain ⟨j, hj, f1, f2, f3⟩ := places_mem.1 h2
    obtain rfl : i = j := by omega
    exact ⟨by omega, _, nth_mem hi, p.key, e3, f3⟩
  · rintro ⟨ht, bl, hb, k, h1, h2⟩
    obtain ⟨i, hi, rfl⟩ := List.getElem_of_mem hb
    rw [← nth_get hi] at h1 h2
    exact ⟨⟨i, a.Table, k⟩, places_mem.2 ⟨i, hi, rfl, rfl, h1⟩, places_mem.2 ⟨i, hi, rfl, ht, h2⟩⟩
theorem comm_eq (blocks : List GBlock) (a b : GRecord) : commB blocks a b = sharesB blocks a b := by
  rw [Bool.eq_iff_iff, shares_keys]
  unfold commB blkC rowC keyC
  simp only [List.any_eq_true, Bool.and_eq_true, decide_eq_true_eq]
  constructor
  · rintro ⟨bl, hb, x, hx, y, hy, rfl, ht⟩; exact ⟨ht, bl, hb, x, hx, hy⟩
  · rintro ⟨ht, bl, hb, k, h1, h2⟩; exact ⟨bl, hb, k, h1, k, h2, rfl, ht⟩
theorem shares_comm (blocks : List GBlock) (a b : GRecord) : sharesB blocks a b = sharesB blocks b a := by
  rw [Bool.eq_iff_iff, shares_keys, shares_keys]
  constructor
  · rintro ⟨h, bl, hb, k, h1, h2⟩; exact ⟨h.symm, bl, hb, k, h2, h1⟩
  · rintro ⟨h, bl, hb, k, h1, h2⟩; exact ⟨h.symm, bl, hb, k, h2, h1⟩

theorem keyC_f {a b : GRecord} {x y : ByteArray} (h : ¬ x = y ∨ ¬ a.Table = b.Table) : keyC a b x y = false := by
  unfold keyC
  rcases h with h | h <;> simp [h]
theorem keyC_t {a b : GRecord} {x y : ByteArray} (h : x = y ∧ a.Table = b.Table) : keyC a b x y = true := by
  unfold keyC
  simp [h.1, h.2]

theorem has_ne {p : Int × Int} {a b : Int} (h : ¬ p.1 = a ∨ ¬ p.2 = b) : p ≠ (a, b) := by
  rintro rfl
  rcases h with h | h <;> exact h rfl

theorem Has_spec (l : List (Int × Int)) (a b : Int) (hl : l.length ≤ 1000000000) : Fun1 Tryz.prog 22 [tSl rA2 l, tV (.int .i64 a), tV (.int .i64 b)] (tV (.bool (decide ((a, b) ∈ l)))) := by
  refine Spec.enter Tryz.func22 rfl rfl fun h0 w0 fr0 => ?_
  refine J_seq ?_
  refine J_region ?_
  refine JL_step rfl rfl rfl (step_assign Sub.rfl) ?_
  refine JL_nil ?_
  refine J_seq ?_
  refine J_seq ?_
  refine J_region ?_
  refine JL_step rfl rfl rfl (step_assign Sub.rfl) ?_
  refine JL_nil ?_
  refine J_block ?_
  refine J_loopL (σ := Nat) (fun i => i ≤ l.length ∧ ∀ k, k < i → nth l k ≠ (a, b)) (fun i => upd (upd (upd (upd env0 0 (tSl rA2 l)) 1 (tV (.int .i64 a))) 2 (tV (.int .i64 b))) 7 (tV (.int .i64 i))) (fun i => []) (fun i => l.length - i) 0 ⟨by omega, fun k hk => absurd hk (by omega)⟩ (SubE.upd Sub.rfl (SubE.upd Sub.rfl (SubE.upd Sub.rfl (SubE.upd Sub.rfl SubE.any)))) (LSub.rfl) ?_
  rintro i ⟨hi, hv⟩
  refine J_seq ?_
  refine J_seq ?_
  refine J_region ?_
  refine JL_step rfl rfl rfl (step_move Sub.rfl) ?_
  refine JL_step rfl rfl rfl (step_move Sub.rfl) ?_
  refine JL_step rfl rfl rfl (step_len_sl Tryz.underlying36 Sub.rfl) ?_
  refine JL_step rfl rfl rfl (step_lss Sub.rfl Sub.rfl) ?_
  refine JL_nil ?_
  refine J_cond Sub.rfl (fun h11 => ?_) (fun h11 => ?_)
  · try simp only [decide_eq_true_eq, decide_eq_false_iff_not, Bool.and_eq_true, Bool.or_eq_true, Bool.and_eq_false_iff, Bool.or_eq_false_iff, Bool.not_eq_true', Bool.not_eq_false', Int.not_lt, Int.not_le, Bool.not_true, Bool.not_false] at h11
    have hlt : i < l.length := by omega
    refine J_skip ?_
    refine J_seq ?_
    refine J_block ?_
    refine J_seq ?_
    refine J_region ?_
    refine JL_step rfl rfl rfl (step_move Sub.rfl) ?_
    refine JL_step rfl rfl rfl (step_move Sub.rfl) ?_
    refine JL_step rfl rfl rfl (step_indexAddr_sl  Tryz.underlying36 ty52 Sub.rfl Sub.rfl rfl (gb ?sg1)) ?_
    case sg1 => exact hlt
    refine JL_step rfl rfl rfl (step_arrAddr 0 Sub.rfl Sub.rfl rfl) ?_
    refine JL_step rfl rfl rfl (step_load_ptr ty3 Sub.rfl) ?_
    refine JL_step rfl rfl rfl (step_move Sub.rfl) ?_
    refine JL_step rfl rfl rfl (step_eql Sub.rfl Sub.rfl) ?_
    refine JL_step rfl rfl rfl (step_move Sub.rfl) ?_
    refine JL_stepG rfl rfl rfl (Gd.plain Sub.rfl) rfl rfl (fun hw => step_move Sub.rfl) ?_
    refine JL_stepG rfl rfl rfl (Gd.plain Sub.rfl) rfl rfl (fun hw => step_move Sub.rfl) ?_
    refine JL_stepG rfl rfl rfl (Gd.plain Sub.rfl) rfl rfl (fun hw => step_indexAddr_sl  Tryz.underlying36 ty52 (Sub.w hw) (Sub.w hw) rfl (gb ?sg1)) ?_
    case sg1 => have hwq := hw; (try simp only [beqB_t, beqB_f, decide_eq_true_eq, decide_eq_false_iff_not, Bool.and_eq_true, Bool.or_eq_true, Bool.and_eq_false_iff, Bool.or_eq_false_iff, Bool.not_eq_true', Bool.not_eq_false', Int.not_lt, Int.not_le, Bool.not_true, Bool.not_false] at hwq); exact hlt
    refine JL_stepG rfl rfl rfl (Gd.plain Sub.rfl) rfl rfl (fun hw => step_arrAddr 1 (Sub.w hw) Sub.rfl rfl) ?_
    refine JL_stepG rfl rfl rfl (Gd.plain Sub.rfl) rfl rfl (fun hw => step_load_ptr ty3 (Sub.w hw)) ?_
    refine JL_stepG rfl rfl rfl (Gd.plain Sub.rfl) rfl rfl (fun hw => step_move Sub.rfl) ?_
    refine JL_stepG rfl rfl rfl (Gd.plain Sub.rfl) rfl rfl (fun hw => step_eql (Sub.w hw) (Sub.w hw)) ?_
    refine JL_step rfl rfl rfl (step_pick_and Sub.rfl Sub.rfl) ?_
    refine JL_nil ?_
    refine J_cond Sub.rfl (fun h29 => ?_) (fun h29 => ?_)
    · try simp only [decide_eq_true_eq, decide_eq_false_iff_not, Bool.and_eq_true, Bool.or_eq_true, Bool.and_eq_false_iff, Bool.or_eq_false_iff, Bool.not_eq_true', Bool.not_eq_false', Int.not_lt, Int.not_le, Bool.not_true, Bool.not_false] at h29
      refine J_seq ?_
      refine J_region ?_
      refine JL_step rfl rfl rfl (step_assign Sub.rfl) ?_
      refine JL_nil ?_
      refine J_ret ?_
      refine K_retv (rv := .tmp 6) rfl () (.tmp Sub.rfl) (Sub.bool ?_)
      symm; rw [decide_eq_true_eq]
      have e : nth l i = (a, b) := Prod.ext h29.1 h29.2
      rw [← e]; exact nth_mem hlt
    · try simp only [decide_eq_true_eq, decide_eq_false_iff_not, Bool.and_eq_true, Bool.or_eq_true, Bool.and_eq_false_iff, Bool.or_eq_false_iff, Bool.not_eq_true', Bool.not_eq_false', Int.not_lt, Int.not_le, Bool.not_true, Bool.not_false] at h29
      refine J_skip ?_
      refine J_region ?_
      refine JL_step rfl rfl rfl (step_move Sub.rfl) ?_
      refine JL_step rfl rfl rfl (step_add Sub.rfl Sub.rfl ?sg1) ?_
      case sg1 => unfold in64; omega
      refine JL_step rfl rfl rfl (step_assign Sub.rfl) ?_
      refine JL_nil ?_
      refine K_againL (σ := Nat) (s := i) (i + 1) (by first | omega | (dsimp only; omega) | (simp_all; omega)) (pred_again (p := fun z => z ≠ (a, b)) hlt hv (has_ne h29)) (SubE.upd Sub.rfl (SubE.upd Sub.rfl (SubE.upd Sub.rfl (SubE.upd Sub.rfl SubE.any)))) (LSub.rfl)
  · try simp only [decide_eq_true_eq, decide_eq_false_iff_not, Bool.and_eq_true, Bool.or_eq_true, Bool.and_eq_false_iff, Bool.or_eq_false_iff, Bool.not_eq_true', Bool.not_eq_false', Int.not_lt, Int.not_le, Bool.not_true, Bool.not_false] at h11
    refine J_exit ?_
    refine J_seq ?_
    refine J_region ?_
    refine JL_step rfl rfl rfl (step_assign Sub.rfl) ?_
    refine JL_nil ?_
    refine J_ret ?_
    refine K_retv (rv := .tmp 6) rfl () (.tmp Sub.rfl) (Sub.bool ?_)
    symm; rw [decide_eq_false_iff_not]; intro hm
    obtain ⟨k, hk, e⟩ := List.getElem_of_mem hm
    exact hv k (by omega) (by rw [nth_get hk]; exact e)
theorem common_spec (blocks : List GBlock) (a b : GRecord) (hbn : blocks.length ≤ 1000000) (ha : recOk a) (hb : recOk b) : Fun1 Tryz.prog 21 [tSl rBlock blocks, rRecord.ty a, rRecord.ty b] (tV (.bool (commB blocks a b))) := by
  refine Spec.enter Tryz.func21 rfl rfl fun h0 w0 fr0 => ?_
  refine J_seq ?_
  refine J_region ?_
  refine JL_step rfl rfl rfl (step_box (R := rRecord) Sub.rfl) ?_
  refine JL_step rfl rfl rfl (step_box (R := rRecord) Sub.rfl) ?_
  refine JL_step rfl rfl rfl (step_assign Sub.rfl) ?_
  refine JL_nil ?_
  refine J_seq ?_
  refine J_seq ?_
  refine J_region ?_
  refine JL_step rfl rfl rfl (step_assign Sub.rfl) ?_
  refine JL_nil ?_
  refine J_block ?_
  refine J_loopL (σ := Nat) (fun i => i ≤ blocks.length ∧ ∀ k, k < i → blkC a b (nth blocks k) = false) (fun i => upd (upd (upd (upd env0 0 (tSl rBlock blocks)) 4 (tPtr rRecord a)) 5 (tPtr rRecord b)) 7 (tV (.int .i64 i))) (fun i => []) (fun i => blocks.length - i) 0 ⟨by omega, fun k hk => absurd hk (by omega)⟩ (SubE.upd Sub.rfl (SubE.upd Sub.rfl (SubE.upd Sub.rfl (SubE.upd Sub.rfl SubE.any)))) (LSub.rfl) ?_
  rintro i ⟨hi, hv⟩
  refine J_seq ?_
  refine J_seq ?_
  refine J_region ?_
  refine JL_step rfl rfl rfl (step_move Sub.rfl) ?_
  refine JL_step rfl rfl rfl (step_move Sub.rfl) ?_
  refine JL_step rfl rfl rfl (step_len_sl Tryz.underlying22 Sub.rfl) ?_
  refine JL_step rfl rfl rfl (step_lss Sub.rfl Sub.rfl) ?_
  refine JL_nil ?_
  refine J_cond Sub.rfl (fun h15 => ?_) (fun h15 => ?_)
  · try simp only [decide_eq_true_eq, decide_eq_false_iff_not, Bool.and_eq_true, Bool.or_eq_true, Bool.and_eq_false_iff, Bool.or_eq_false_iff, Bool.not_eq_true', Bool.not_eq_false', Int.not_lt, Int.not_le, Bool.not_true, Bool.not_false] at h15
    have hlt : i < blocks.length := by omega
    have hka := keys_len (b := (nth blocks i)) ha
    have hkb := keys_len (b := (nth blocks i)) hb
    refine J_skip ?_
    refine J_seq ?_
    refine J_block ?_
    refine J_seq ?_
    refine J_draw [⟨0, [0], true⟩, ⟨1, [7], true⟩, ⟨2, [18, 19], true⟩, ⟨3, [20], true⟩, ⟨4, [4], true⟩, ⟨5, [21, 22], true⟩, ⟨6, [23], true⟩] rfl (by kernel_rfl) ?_
    refine JM_step rfl rfl rfl rfl (fun _ => step_move Sub.rfl) ?_
    refine JM_step rfl rfl rfl rfl (fun _ => step_move Sub.rfl) ?_
    refine JM_step rfl rfl rfl rfl (fun _ => step_indexAddr_sl  Tryz.underlying22 ty35 Sub.rfl Sub.rfl rfl (gb ?sg1)) ?_
    case sg1 => exact hlt
    refine JM_step rfl rfl rfl rfl (fun _ => step_load_ptr ty35 Sub.rfl) ?_
    refine JM_step rfl rfl rfl rfl (fun _ => step_load_ptr ty28 Sub.rfl) ?_
    refine JM_step rfl rfl rfl rfl (fun _ => step_call0 (Keys_spec _ _ ha) ⟨Sub.rfl, Sub.rfl, trivial⟩ Tryz.call13) ?_
    refine JM_step rfl rfl rfl rfl (fun _ => step_assign Sub.rfl) ?_
    refine JM_nil ?_
    refine J_seq ?_
    refine J_draw [⟨0, [0], true⟩, ⟨1, [7], true⟩, ⟨2, [24, 25], true⟩, ⟨3, [26], true⟩, ⟨4, [5], true⟩, ⟨5, [27, 28], true⟩, ⟨6, [29], true⟩] rfl (by kernel_rfl) ?_
    refine JM_step rfl rfl rfl rfl (fun _ => step_move Sub.rfl) ?_
    refine JM_step rfl rfl rfl rfl (fun _ => step_move Sub.rfl) ?_
    refine JM_step rfl rfl rfl rfl (fun _ => step_indexAddr_sl  Tryz.underlying22 ty35 Sub.rfl Sub.rfl rfl (gb ?sg1)) ?_
    case sg1 => exact hlt
    refine JM_step rfl rfl rfl rfl (fun _ => step_load_ptr ty35 Sub.rfl) ?_
    refine JM_step rfl rfl rfl rfl (fun _ => step_load_ptr ty28 Sub.rfl) ?_
    refine JM_step rfl rfl rfl rfl (fun _ => step_call0 (Keys_spec _ _ hb) ⟨Sub.rfl, Sub.rfl, trivial⟩ Tryz.call13) ?_
    refine JM_step rfl rfl rfl rfl (fun _ => step_assign Sub.rfl) ?_
    refine JM_nil ?_
    refine J_seq ?_
    refine J_region ?_
    refine JL_step rfl rfl rfl (step_assign Sub.rfl) ?_
    refine JL_nil ?_
    refine J_block ?_
    refine J_loopL (σ := Nat) (fun x => x ≤ (keysM (nth blocks i) a).length ∧ ∀ k, k < x → rowC (nth blocks i) a b (nth (keysM (nth blocks i) a) k) = false) (fun x => upd (upd (upd (upd (upd (upd (upd (upd (upd (upd (upd (upd (upd (upd (upd env0 0 (tSl rBlock blocks)) 4 (tPtr rRecord a)) 5 (tPtr rRecord b)) 7 (tV (.int .i64 i))) 8 (tSl rStr (keysM (nth blocks i) a))) 9 (tSl rStr (keysM (nth blocks i) b))) 10 (tV (.int .i64 x))) 12 (tV (.int .i64 i))) 13 (tSl rBlock blocks)) 18 (tSl rBlock blocks)) 19 (tV (.int .i64 i))) 23 (tSl rStr (keysM (nth blocks i) a))) 24 (tSl rBlock blocks)) 25 (tV (.int .i64 i))) 29 (tSl rStr (keysM (nth blocks i) b))) (fun x => []) (fun x => (keysM (nth blocks i) a).length - x) 0 ⟨by omega, fun k hk => absurd hk (by omega)⟩ (SubE.upd Sub.rfl (SubE.upd Sub.rfl (SubE.upd Sub.rfl (SubE.upd Sub.rfl (SubE.upd Sub.rfl (SubE.upd Sub.rfl (SubE.upd Sub.rfl (SubE.upd Sub.rfl (SubE.upd Sub.rfl (SubE.upd Sub.rfl (SubE.upd Sub.rfl (SubE.upd Sub.rfl (SubE.upd Sub.rfl (SubE.upd Sub.rfl (SubE.upd Sub.rfl SubE.any))))))))))))))) (LSub.rfl) ?_
    rintro x ⟨hx, hw⟩
    refine J_seq ?_
    refine J_seq ?_
    refine J_region ?_
    refine JL_step rfl rfl rfl (step_move Sub.rfl) ?_
    refine JL_step rfl rfl rfl (step_move Sub.rfl) ?_
    refine JL_step rfl rfl rfl (step_len_sl Tryz.underlying32 Sub.rfl) ?_
    refine JL_step rfl rfl rfl (step_lss Sub.rfl Sub.rfl) ?_
    refine JL_nil ?_
    refine J_cond Sub.rfl (fun h33 => ?_) (fun h33 => ?_)
    · try simp only [decide_eq_true_eq, decide_eq_false_iff_not, Bool.and_eq_true, Bool.or_eq_true, Bool.and_eq_false_iff, Bool.or_eq_false_iff, Bool.not_eq_true', Bool.not_eq_false', Int.not_lt, Int.not_le, Bool.not_true, Bool.not_false] at h33
      have hlx : x < (keysM (nth blocks i) a).length := by omega
      refine J_skip ?_
      refine J_seq ?_
      refine J_block ?_
      refine J_seq ?_
      refine J_region ?_
      refine JL_step rfl rfl rfl (step_assign Sub.rfl) ?_
      refine JL_nil ?_
      refine J_block ?_
      refine J_loopL (σ := Nat) (fun y => y ≤ (keysM (nth blocks i) b).length ∧ ∀ k, k < y → keyC a b (nth (keysM (nth blocks i) a) x) (nth (keysM (nth blocks i) b) k) = false) (fun y => upd (upd (upd (upd (upd (upd (upd (upd (upd (upd (upd (upd (upd (upd (upd (upd (upd (upd env0 0 (tSl rBlock blocks)) 4 (tPtr rRecord a)) 5 (tPtr rRecord b)) 7 (tV (.int .i64 i))) 8 (tSl rStr (keysM (nth blocks i) a))) 9 (tSl rStr (keysM (nth blocks i) b))) 10 (tV (.int .i64 x))) 11 (tV (.int .i64 y))) 12 (tV (.int .i64 i))) 13 (tSl rBlock blocks)) 18 (tSl rBlock blocks)) 19 (tV (.int .i64 i))) 23 (tSl rStr (keysM (nth blocks i) a))) 24 (tSl rBlock blocks)) 25 (tV (.int .i64 i))) 29 (tSl rStr (keysM (nth blocks i) b))) 30 (tV (.int .i64 x))) 31 (tSl rStr (keysM (nth blocks i) a))) (fun y => []) (fun y => (keysM (nth blocks i) b).length - y) 0 ⟨by omega, fun k hk => absurd hk (by omega)⟩ (SubE.upd Sub.rfl (SubE.upd Sub.rfl (SubE.upd Sub.rfl (SubE.upd Sub.rfl (SubE.upd Sub.rfl (SubE.upd Sub.rfl (SubE.upd Sub.rfl (SubE.upd Sub.rfl (SubE.upd Sub.rfl (SubE.upd Sub.rfl (SubE.upd Sub.rfl (SubE.upd Sub.rfl (SubE.upd Sub.rfl (SubE.upd Sub.rfl (SubE.upd Sub.rfl (SubE.upd Sub.rfl (SubE.upd Sub.rfl (SubE.upd Sub.rfl SubE.any)))))))))))))))))) (LSub.rfl) ?_
      rintro y ⟨hy, hz⟩
      refine J_seq ?_
      refine J_seq ?_
      refine J_region ?_
      refine JL_step rfl rfl rfl (step_move Sub.rfl) ?_
      refine JL_step rfl rfl rfl (step_move Sub.rfl) ?_
      refine JL_step rfl rfl rfl (step_len_sl Tryz.underlying32 Sub.rfl) ?_
      refine JL_step rfl rfl rfl (step_lss Sub.rfl Sub.rfl) ?_
      refine JL_nil ?_
      refine J_cond Sub.rfl (fun h39 => ?_) (fun h39 => ?_)
      · try simp only [decide_eq_true_eq, decide_eq_false_iff_not, Bool.and_eq_true, Bool.or_eq_true, Bool.and_eq_false_iff, Bool.or_eq_false_iff, Bool.not_eq_true', Bool.not_eq_false', Int.not_lt, Int.not_le, Bool.not_true, Bool.not_false] at h39
        have hly : y < (keysM (nth blocks i) b).length := by omega
        refine J_skip ?_
        refine J_seq ?_
        refine J_block ?_
        refine J_seq ?_
        refine J_draw [⟨0, [8], true⟩, ⟨1, [10], true⟩, ⟨2, [42, 43], true⟩, ⟨3, [44], true⟩, ⟨4, [9], true⟩, ⟨5, [11], true⟩, ⟨6, [46, 47], true⟩, ⟨7, [48], true⟩, ⟨8, [45, 49], true⟩, ⟨9, [50], true⟩, ⟨10, [4, 51], true⟩, ⟨11, [51, 52], true⟩, ⟨12, [5, 51], true⟩, ⟨13, [51, 54], true⟩, ⟨14, [51, 53, 55], true⟩, ⟨15, [51, 56], true⟩] rfl (by kernel_rfl) ?_
        refine JM_step rfl rfl rfl rfl (fun _ => step_move Sub.rfl) ?_
        refine JM_step rfl rfl rfl rfl (fun _ => step_move Sub.rfl) ?_
        refine JM_step rfl rfl rfl rfl (fun _ => step_indexAddr_sl  Tryz.underlying32 ty9 Sub.rfl Sub.rfl rfl (gb ?sg1)) ?_
        case sg1 => exact hlx
        refine JM_step rfl rfl rfl rfl (fun _ => step_load_ptr ty9 Sub.rfl) ?_
        refine JM_step rfl rfl rfl rfl (fun _ => step_move Sub.rfl) ?_
        refine JM_step rfl rfl rfl rfl (fun _ => step_move Sub.rfl) ?_
        refine JM_step rfl rfl rfl rfl (fun _ => step_indexAddr_sl  Tryz.underlying32 ty9 Sub.rfl Sub.rfl rfl (gb ?sg1)) ?_
        case sg1 => exact hly
        refine JM_step rfl rfl rfl rfl (fun _ => step_load_ptr ty9 Sub.rfl) ?_
        refine JM_step rfl rfl rfl rfl (fun _ => step_eql_str Sub.rfl Sub.rfl) ?_
        refine JM_step rfl rfl rfl rfl (fun _ => step_move Sub.rfl) ?_
        refine JM_stepG rfl rfl rfl rfl (Gd.plain Sub.rfl) rfl rfl (fun hw _ => step_fieldAddr so28 Sub.rfl rfl) ?_
        refine JM_stepG rfl rfl rfl rfl (Gd.plain Sub.rfl) rfl rfl (fun hw _ => step_load_ptr ty3 (Sub.w hw)) ?_
        refine JM_stepG rfl rfl rfl rfl (Gd.plain Sub.rfl) rfl rfl (fun hw _ => step_fieldAddr so28 Sub.rfl rfl) ?_
        refine JM_stepG rfl rfl rfl rfl (Gd.plain Sub.rfl) rfl rfl (fun hw _ => step_load_ptr ty3 (Sub.w hw)) ?_
        refine JM_stepG rfl rfl rfl rfl (Gd.plain Sub.rfl) rfl rfl (fun hw _ => step_eql (Sub.w hw) (Sub.w hw)) ?_
        refine JM_step rfl rfl rfl rfl (fun _ => step_pick_and Sub.rfl Sub.rfl) ?_
        refine JM_nil ?_
        refine J_cond Sub.rfl (fun h57 => ?_) (fun h57 => ?_)
        · try simp only [decide_eq_true_eq, decide_eq_false_iff_not, Bool.and_eq_true, Bool.or_eq_true, Bool.and_eq_false_iff, Bool.or_eq_false_iff, Bool.not_eq_true', Bool.not_eq_false', Int.not_lt, Int.not_le, Bool.not_true, Bool.not_false] at h57
          refine J_seq ?_
          refine J_region ?_
          refine JL_step rfl rfl rfl (step_assign Sub.rfl) ?_
          refine JL_nil ?_
          refine J_ret ?_
          refine K_retv (rv := .tmp 6) rfl () (.tmp Sub.rfl) (Sub.bool ?_)
          symm; exact any_t hlt (any_t hlx (any_t hly (keyC_t h57)))
        · try simp only [decide_eq_true_eq, decide_eq_false_iff_not, Bool.and_eq_true, Bool.or_eq_true, Bool.and_eq_false_iff, Bool.or_eq_false_iff, Bool.not_eq_true', Bool.not_eq_false', Int.not_lt, Int.not_le, Bool.not_true, Bool.not_false] at h57
          refine J_skip ?_
          refine J_region ?_
          refine JL_step rfl rfl rfl (step_move Sub.rfl) ?_
          refine JL_step rfl rfl rfl (step_add Sub.rfl Sub.rfl ?sg1) ?_
          case sg1 => unfold in64; omega
          refine JL_step rfl rfl rfl (step_assign Sub.rfl) ?_
          refine JL_nil ?_
          refine K_againL (σ := Nat) (s := y) (y + 1) (by first | omega | (dsimp only; omega) | (simp_all; omega)) (pred_again (p := fun z => keyC a b (nth (keysM (nth blocks i) a) x) z = false) hly hz (keyC_f h57)) (SubE.upd Sub.rfl (SubE.upd Sub.rfl (SubE.upd Sub.rfl (SubE.upd Sub.rfl (SubE.upd Sub.rfl (SubE.upd Sub.rfl (SubE.upd Sub.rfl (SubE.upd Sub.rfl (SubE.upd Sub.rfl (SubE.upd Sub.rfl (SubE.upd Sub.rfl (SubE.upd Sub.rfl (SubE.upd Sub.rfl (SubE.upd Sub.rfl (SubE.upd Sub.rfl (SubE.upd Sub.rfl (SubE.upd Sub.rfl (SubE.upd Sub.rfl SubE.any)))))))))))))))))) (LSub.rfl)
      · try simp only [decide_eq_true_eq, decide_eq_false_iff_not, Bool.and_eq_true, Bool.or_eq_true, Bool.and_eq_false_iff, Bool.or_eq_false_iff, Bool.not_eq_true', Bool.not_eq_false', Int.not_lt, Int.not_le, Bool.not_true, Bool.not_false] at h39
        refine J_exit ?_
        refine J_region ?_
        refine JL_step rfl rfl rfl (step_move Sub.rfl) ?_
        refine JL_step rfl rfl rfl (step_add Sub.rfl Sub.rfl ?sg1) ?_
        case sg1 => unfold in64; omega
        refine JL_step rfl rfl rfl (step_assign Sub.rfl) ?_
        refine JL_nil ?_
        refine K_againL (σ := Nat) (s := x) (x + 1) (by first | omega | (dsimp only; omega) | (simp_all; omega)) (pred_again (p := fun z => rowC (nth blocks i) a b z = false) hlx hw (any_f (fun k hk => hz k (by omega)))) (SubE.upd Sub.rfl (SubE.upd Sub.rfl (SubE.upd Sub.rfl (SubE.upd Sub.rfl (SubE.upd Sub.rfl (SubE.upd Sub.rfl (SubE.upd Sub.rfl (SubE.upd Sub.rfl (SubE.upd Sub.rfl (SubE.upd Sub.rfl (SubE.upd Sub.rfl (SubE.upd Sub.rfl (SubE.upd Sub.rfl (SubE.upd Sub.rfl (SubE.upd Sub.rfl SubE.any))))))))))))))) (LSub.rfl)
    · try simp only [decide_eq_true_eq, decide_eq_false_iff_not, Bool.and_eq_true, Bool.or_eq_true, Bool.and_eq_false_iff, Bool.or_eq_false_iff, Bool.not_eq_true', Bool.not_eq_false', Int.not_lt, Int.not_le, Bool.not_true, Bool.not_false] at h33
      refine J_exit ?_
      refine J_region ?_
      refine JL_step rfl rfl rfl (step_move Sub.rfl) ?_
      refine JL_step rfl rfl rfl (step_add Sub.rfl Sub.rfl ?sg1) ?_
      case sg1 => unfold in64; omega
      refine JL_step rfl rfl rfl (step_assign Sub.rfl) ?_
      refine JL_nil ?_
      refine K_againL (σ := Nat) (s := i) (i + 1) (by first | omega | (dsimp only; omega) | (simp_all; omega)) (pred_again (p := fun z => blkC a b z = false) hlt hv (any_f (fun k hk => hw k (by omega)))) (SubE.upd Sub.rfl (SubE.upd Sub.rfl (SubE.upd Sub.rfl (SubE.upd Sub.rfl SubE.any)))) (LSub.rfl)
  · try simp only [decide_eq_true_eq, decide_eq_false_iff_not, Bool.and_eq_true, Bool.or_eq_true, Bool.and_eq_false_iff, Bool.or_eq_false_iff, Bool.not_eq_true', Bool.not_eq_false', Int.not_lt, Int.not_le, Bool.not_true, Bool.not_false] at h15
    refine J_exit ?_
    refine J_seq ?_
    refine J_region ?_
    refine JL_step rfl rfl rfl (step_assign Sub.rfl) ?_
    refine JL_nil ?_
    refine J_ret ?_
    refine K_retv (rv := .tmp 6) rfl () (.tmp Sub.rfl) (Sub.bool ?_)
    symm; exact any_f (fun k hk => hv k (by omega))
end Lg

/- How the pairs are counted off, row by row. -/
namespace Lg
open Go Go.Proofs
section
variable (blocks : List GBlock) (recs : List GRecord)
def rowN (i k : Nat) : List (Int × Int) := ((List.range k).filter fun j => decide (i < j) && sharesB blocks (nth recs i) (nth recs j)).map fun j : Nat => ((i : Int), (j : Int))
def prefN (i : Nat) : List (Int × Int) := (List.range i).flatMap (rowP blocks recs)
def prefP (i k : Nat) : List (Int × Int) := prefN blocks recs i ++ rowN blocks recs i k
end
variable {blocks : List GBlock} {recs : List GRecord}
theorem rowN_t {i k : Nat} (h : i < k) (hs : sharesB blocks (nth recs i) (nth recs k) = true) : rowN blocks recs i (k + 1) = rowN blocks recs i k ++ [((i : Int), (k : Int))] := by
  simp [rowN, List.range_succ, h, hs]
theorem rowN_f {i k : Nat} (hs : sharesB blocks (nth recs i) (nth recs k) = false) : rowN blocks recs i (k + 1) = rowN blocks recs i k := by
  simp [rowN, List.range_succ, hs]
theorem rowN_le {i k : Nat} (h : k ≤ i + 1) : rowN blocks recs i k = [] := by
  unfold rowN
  rw [List.filter_eq_nil_iff.2]
  · rfl
  · intro j hj
    have := List.mem_range.1 hj
    have : ¬ i < j := by omega
    simp [this]
theorem rowN_pre {i k m : Nat} (h : k ≤ m) : rowN blocks recs i k <+: rowN blocks recs i m := by
  obtain ⟨d, rfl⟩ : ∃ d, m = k + d := ⟨m - k, by omega⟩
  clear h
  induction d with
  | zero => exact List.prefix_refl _
  | succ d ih =>
    refine ih.trans ?_
    rw [← Nat.add_assoc]
    unfold rowN
    rw [List.range_succ, List.filter_append, List.map_append]
    exact List.prefix_append _ _
theorem prefN_succ (i : Nat) : prefN blocks recs (i + 1) = prefN blocks recs i ++ rowN blocks recs i recs.length := by
  simp [prefN, List.range_succ]; rfl
theorem prefN_pre {i m : Nat} (h : i ≤ m) : prefN blocks recs i <+: prefN blocks recs m := by
  obtain ⟨d, rfl⟩ : ∃ d, m = i + d := ⟨m - i, by omega⟩
  clear h
  induction d with
  | zero => exact List.prefix_refl _
  | succ d ih => refine ih.trans ?_; rw [← Nat.add_assoc, prefN_succ]; exact List.prefix_append _ _
theorem prefN_all : prefN blocks recs recs.length = pairsM blocks recs := rfl
theorem pairs_at {i k : Nat} (hk : k < recs.length) (h : i < k) (hs : sharesB blocks (nth recs i) (nth recs k) = true) : (prefP blocks recs i k).length < (pairsM blocks recs).length ∧ ((i : Int), (k : Int)) = nth (pairsM blocks recs) (prefP blocks recs i k).length := by
  have : okP (pairsM blocks recs) (prefP blocks recs i k ++ [((i : Int), (k : Int))]) := by
    show _ <+: _
    unfold prefP
    rw [List.append_assoc, ← rowN_t h hs, ← prefN_all]
    refine List.IsPrefix.trans ?_ (prefN_pre (show i + 1 ≤ recs.length by omega))
    rw [prefN_succ]
    exact (List.prefix_append_right_inj _).2 (rowN_pre (by omega))
  exact pre_nth this
theorem rowP_len (i : Nat) : (rowP blocks recs i).length ≤ recs.length := by
  unfold rowP
  rw [List.length_map]
  exact Nat.le_trans (List.length_filter_le _ _) (by simp)
theorem pairs_len : (pairsM blocks recs).length ≤ recs.length * recs.length := by
  have : ∀ n, (prefN blocks recs n).length ≤ n * recs.length := by
    intro n
    induction n with
    | zero => simp [prefN]
    | succ n ih =>
      rw [prefN_succ, List.length_append, Nat.add_mul, Nat.one_mul]
      have := rowP_len (blocks := blocks) (recs := recs) n
      unfold rowP at this
      unfold rowN
      omega
  exact this _
/-- How many pairs lie ahead of (i, k). -/
def nP (blocks : List GBlock) (recs : List GRecord) (i k : Nat) : Int := ((prefP blocks recs i k).length : Int)
def nO (blocks : List GBlock) (recs : List GRecord) (i : Nat) : Int := ((prefN blocks recs i).length : Int)
theorem nP_f {i k : Nat} (hs : sharesB blocks (nth recs i) (nth recs k) = false) : nP blocks recs i k = nP blocks recs i (k + 1) := by
  unfold nP prefP; rw [rowN_f hs]
theorem nP_t {i k : Nat} (h : i < k) (hs : sharesB blocks (nth recs i) (nth recs k) = true) : nP blocks recs i k + 1 = nP blocks recs i (k + 1) := by
  unfold nP prefP; rw [rowN_t h hs]; simp; omega
theorem nP_0 (i : Nat) : nO blocks recs i = nP blocks recs i (i + 1) := by
  unfold nO nP prefP; rw [rowN_le (Nat.le_refl _), List.append_nil]
theorem nP_n (i : Nat) : nP blocks recs i recs.length = nO blocks recs (i + 1) := by
  unfold nO nP prefP; rw [prefN_succ]
/-- How many of the records ahead of i are near; the last one of the list is the further record. -/
def mO (blocks : List GBlock) (records : List GRecord) (r : GRecord) (i : Nat) : Int := ((nearN blocks records r (min i records.length)).length : Int)
def mP (blocks : List GBlock) (records : List GRecord) (r : GRecord) (i k : Nat) : Int := mO blocks records r (if k = records.length + 1 then i + 1 else i)
variable {records : List GRecord} {r : GRecord}
theorem mP_ne {i k : Nat} (h : k < records.length) : mP blocks records r i k = mP blocks records r i (k + 1) := by
  unfold mP; rw [if_neg (by omega), if_neg (by omega)]
theorem mP_f {i k : Nat} (hk : k = records.length) (hi : i < k) (hs : sharesB blocks (nth records i) r = false) : mP blocks records r i k = mP blocks records r i (k + 1) := by
  subst hk
  unfold mP mO
  rw [if_neg (by omega), if_pos rfl, Nat.min_eq_left (by omega), Nat.min_eq_left (by omega), nearN_f hs]
theorem mP_t {i k : Nat} (hk : k = records.length) (hi : i < k) (hs : sharesB blocks (nth records i) r = true) : mP blocks records r i k + 1 = mP blocks records r i (k + 1) := by
  subst hk
  unfold mP mO
  rw [if_neg (by omega), if_pos rfl, Nat.min_eq_left (by omega), Nat.min_eq_left (by omega), nearN_t hs]; simp
theorem mP_0 {i : Nat} (h : i ≤ records.length) : mO blocks records r i = mP blocks records r i (i + 1) := by
  unfold mP
  split
  · unfold mO
    obtain rfl : i = records.length := by omega
    rw [Nat.min_self, Nat.min_eq_right (by omega)]
  · rfl
theorem mP_n (i : Nat) : mP blocks records r i (records.length + 1) = mO blocks records r (i + 1) := by
  unfold mP; rw [if_pos rfl]
theorem mP_at {i k : Nat} (hk : k ≤ records.length) (hi : i < k) : mP blocks records r i k = ((nearN blocks records r i).length : Int) := by
  unfold mP mO
  rw [if_neg (by omega), Nat.min_eq_left (by omega)]
theorem nearN_pre {i m : Nat} (h : i ≤ m) : nearN blocks records r i <+: nearN blocks records r m := by
  obtain ⟨d, rfl⟩ : ∃ d, m = i + d := ⟨m - i, by omega⟩
  clear h
  induction d with
  | zero => exact List.prefix_refl _
  | succ d ih =>
    refine ih.trans ?_
    rw [← Nat.add_assoc]
    by_cases hs : sharesB blocks (nth records (i + d)) r = true
    · rw [nearN_t hs]; exact List.prefix_append _ _
    · rw [nearN_f (by simpa using hs)]; exact List.prefix_refl _
theorem near_at {i : Nat} (hi : i < records.length) (hs : sharesB blocks (nth records i) r = true) : (nearN blocks records r i).length < (nearM blocks records r).length ∧ (i : Int) = nth (nearM blocks records r) (nearN blocks records r i).length := by
  have : okP (nearM blocks records r) (nearN blocks records r i ++ [(i : Int)]) := by
    show _ <+: _
    rw [← nearN_t hs]
    exact nearN_pre (by omega)
  exact pre_nth this
theorem nth_app {i : Nat} (h : i < records.length) : nth (records ++ [r]) i = nth records i := by
  rw [nth_get (by simp; omega), nth_get h]
  simp [List.getElem_append, h]
theorem nth_last : nth (records ++ [r]) records.length = r := by
  rw [nth_get (by simp)]
  simp
end Lg

namespace Lg
open Go Go.Proofs


/-- Two lists have something in common. -/
def com (a b : List ByteArray) : Prop := ∃ k, k ∈ a ∧ k ∈ b
def inLB (y : List ByteArray) (k : ByteArray) : Bool := y.any fun z => decide (z = k)
theorem inLB_iff {y : List ByteArray} {k : ByteArray} : inLB y k = true ↔ k ∈ y := by
  unfold inLB
  rw [List.any_eq_true]
  exact ⟨fun ⟨z, h1, h2⟩ => by simp only [decide_eq_true_eq] at h2; subst h2; exact h1, fun h => ⟨k, h, by simp⟩⟩
theorem inLB_f {y : List ByteArray} {k : ByteArray} (h : k ∉ y) : inLB y k = false := by
  rw [Bool.eq_false_iff]; intro q; exact h (inLB_iff.1 q)
/-- How many two lists have in common. -/
def comN (x y : List ByteArray) : Int := ((x.filter (inLB y)).length : Int)
theorem comN_pos {x y : List ByteArray} : 0 < comN x y ↔ com x y := by
  unfold comN com
  constructor
  · intro h
    have hp : 0 < (x.filter (inLB y)).length := by omega
    have hm := List.getElem_mem hp
    rw [List.mem_filter] at hm
    exact ⟨_, hm.1, inLB_iff.1 hm.2⟩
  · rintro ⟨k, h1, h2⟩
    have := List.length_pos_of_mem (List.mem_filter.2 ⟨h1, inLB_iff.2 h2⟩)
    omega
theorem com_lt {x y : List ByteArray} (hx : 0 < x.length) (hy : 0 < y.length) (iy : incB y) (h : ofB (nth x 0) < ofB (nth y 0)) : comN x y = comN (x.drop 1) y := by
  obtain ⟨x0, xs, rfl⟩ : ∃ x0 xs, x = x0 :: xs := by cases x with | nil => simp at hx | cons a b => exact ⟨a, b, rfl⟩
  obtain ⟨y0, ys, rfl⟩ : ∃ y0 ys, y = y0 :: ys := by cases y with | nil => simp at hy | cons a b => exact ⟨a, b, rfl⟩
  have h : ofB x0 < ofB y0 := h
  have hn : x0 ∉ y0 :: ys := fun hm => by
    rcases List.mem_cons.1 hm with e | hm
    · subst e; exact List.lt_irrefl _ h
    · exact List.lt_irrefl _ (List.lt_trans h ((List.pairwise_cons.1 iy).1 _ hm))
  unfold comN
  rw [List.filter_cons_of_neg (by rw [inLB_f hn]; decide)]
  rfl
theorem com_gt {x y : List ByteArray} (hx : 0 < x.length) (hy : 0 < y.length) (ix : incB x) (h : ofB (nth y 0) < ofB (nth x 0)) : comN x y = comN x (y.drop 1) := by
  obtain ⟨x0, xs, rfl⟩ : ∃ x0 xs, x = x0 :: xs := by cases x with | nil => simp at hx | cons a b => exact ⟨a, b, rfl⟩
  obtain ⟨y0, ys, rfl⟩ : ∃ y0 ys, y = y0 :: ys := by cases y with | nil => simp at hy | cons a b => exact ⟨a, b, rfl⟩
  have h : ofB y0 < ofB x0 := h
  have hn : ∀ k ∈ x0 :: xs, y0 ≠ k := fun k hm e => by
    subst e
    rcases List.mem_cons.1 hm with e | hm
    · subst e; exact List.lt_irrefl _ h
    · exact List.lt_irrefl _ (List.lt_trans h ((List.pairwise_cons.1 ix).1 _ hm))
  unfold comN
  rw [List.filter_congr (q := inLB ys) (fun k hk => by
    unfold inLB
    rw [List.any_cons, decide_eq_false (hn k hk), Bool.false_or])]
  rfl
theorem com_eq {x y : List ByteArray} (hx : 0 < x.length) (hy : 0 < y.length) (ix : incB x) (h : nth x 0 = nth y 0) : comN x y = 1 + comN (x.drop 1) (y.drop 1) := by
  obtain ⟨x0, xs, rfl⟩ : ∃ x0 xs, x = x0 :: xs := by cases x with | nil => simp at hx | cons a b => exact ⟨a, b, rfl⟩
  obtain ⟨y0, ys, rfl⟩ : ∃ y0 ys, y = y0 :: ys := by cases y with | nil => simp at hy | cons a b => exact ⟨a, b, rfl⟩
  have h : x0 = y0 := h
  subst h
  have hn : ∀ k ∈ xs, x0 ≠ k := fun k hm e => by
    subst e
    exact List.lt_irrefl _ ((List.pairwise_cons.1 ix).1 _ hm)
  unfold comN
  rw [List.filter_cons_of_pos (inLB_iff.2 (by simp)), List.filter_congr (q := inLB ys) (fun k hk => by
    unfold inLB
    rw [List.any_cons, decide_eq_false (hn k hk), Bool.false_or])]
  simp; omega
theorem comN_0 {x y : List ByteArray} (h : x = [] ∨ y = []) : comN x y = 0 := by
  unfold comN
  rcases h with rfl | rfl
  · rfl
  · rw [List.filter_eq_nil_iff.2 (fun k _ => by simp [inLB])]; rfl
theorem incB_drop {x : List ByteArray} (h : incB x) : incB (x.drop 1) := List.Pairwise.sublist (List.drop_sublist _ _) h
theorem incB_nth {l : List ByteArray} (h : incB l) {i j : Nat} (hij : i < j) (hj : j < l.length) : ofB (nth l i) < ofB (nth l j) := by
  unfold incB at h
  rw [List.pairwise_iff_getElem] at h
  rw [nth_get hj, nth_get (by omega)]
  exact h i j (by omega) hj hij
theorem step_gtr_strB {C : Cx} {E : Env} {L : List SP} {d : Option Nat} {ty : Nat} {pos : String} {af : Array Edge} {g : Option (Nat × Bool)} {T U : Nat} {x y : Operand} {a b : ByteArray} (hx : Sub (opTy E x) (tV (.string a))) (hy : Sub (opTy E y) (tV (.string b))) :
    Step1 C ⟨d, .binOp .gtr T x y U, ty, pos, af, g⟩ E L (tV (.bool (decide (ofB b < ofB a)))) := by
  have h := step_gtr_str (C := C) (L := L) (d := d) (ty := ty) (pos := pos) (af := af) (g := g) (T := T) (U := U) hx hy
  have e : (!(Op.bytesLess a.toList b.toList || a.toList == b.toList)) = decide (ofB b < ofB a) := by
    rw [less_ofB, toL_eq, Bool.eq_iff_iff]
    simp only [Bool.not_eq_true', Bool.or_eq_false_iff, decide_eq_false_iff_not, decide_eq_true_eq]
    constructor
    · rintro ⟨h1, h2⟩
      exact List.not_le.1 fun h3 => h2 (ofB_inj (List.le_antisymm h3 (List.not_lt.1 h1)))
    · intro h1
      exact ⟨fun h2 => List.lt_irrefl _ (List.lt_trans h1 h2), fun h2 => by subst h2; exact List.lt_irrefl _ h1⟩
  rw [e] at h; exact h
theorem step_lss_strB {C : Cx} {E : Env} {L : List SP} {d : Option Nat} {ty : Nat} {pos : String} {af : Array Edge} {g : Option (Nat × Bool)} {T U : Nat} {x y : Operand} {a b : ByteArray} (hx : Sub (opTy E x) (tV (.string a))) (hy : Sub (opTy E y) (tV (.string b))) :
    Step1 C ⟨d, .binOp .lss T x y U, ty, pos, af, g⟩ E L (tV (.bool (decide (ofB a < ofB b)))) := by
  have h := step_lss_str (C := C) (L := L) (d := d) (ty := ty) (pos := pos) (af := af) (g := g) (T := T) (U := U) hx hy
  rw [less_ofB] at h; exact h
theorem eq_of_nlt {a b : ByteArray} (h1 : ¬ ofB a < ofB b) (h2 : ¬ ofB b < ofB a) : a = b := ofB_inj (List.le_antisymm (List.not_lt.1 h2) (List.not_lt.1 h1))

theorem increasing_spec (l : List ByteArray) (hi0 : incB l) (hl : l.length ≤ 1000000000) : Fun1 Tryz.prog 51 [tSlC rStr l] (tV (.bool true)) := by
  refine Spec.enter Tryz.func51 rfl rfl fun h0 w0 fr0 => ?_
  refine J_seq ?_
  refine J_region ?_
  refine JL_step rfl rfl rfl (step_assign Sub.rfl) ?_
  refine JL_nil ?_
  refine J_seq ?_
  refine J_seq ?_
  refine J_region ?_
  refine JL_step rfl rfl rfl (step_assign Sub.rfl) ?_
  refine JL_nil ?_
  refine J_block ?_
  refine J_loopL (σ := Nat) (fun i => 1 ≤ i ∧ (i ≤ l.length ∨ i = 1)) (fun i => upd (upd env0 0 (tSlC rStr l)) 3 (tV (.int .i64 i))) (fun i => []) (fun i => l.length - i) 1 ⟨by omega, .inr rfl⟩ (SubE.upd Sub.rfl (SubE.upd Sub.rfl SubE.any)) (LSub.rfl) ?_
  rintro i ⟨hi1, hi2⟩
  refine J_seq ?_
  refine J_seq ?_
  refine J_region ?_
  refine JL_step rfl rfl rfl (step_move Sub.rfl) ?_
  refine JL_step rfl rfl rfl (step_move Sub.rfl) ?_
  refine JL_step rfl rfl rfl (step_len_sl Tryz.underlying32 Sub.ofC) ?_
  refine JL_step rfl rfl rfl (step_lss Sub.rfl Sub.rfl) ?_
  refine JL_nil ?_
  refine J_cond Sub.rfl (fun h7 => ?_) (fun h7 => ?_)
  · try simp only [decide_eq_true_eq, decide_eq_false_iff_not, Bool.and_eq_true, Bool.or_eq_true, Bool.and_eq_false_iff, Bool.or_eq_false_iff, Bool.not_eq_true', Bool.not_eq_false', Int.not_lt, Int.not_le, Bool.not_true, Bool.not_false] at h7
    have hlt : i < l.length := by omega
    refine J_skip ?_
    refine J_seq ?_
    refine J_block ?_
    refine J_seq ?_
    refine J_draw [⟨0, [0], true⟩, ⟨1, [3], true⟩, ⟨2, [11], true⟩, ⟨3, [10, 12], true⟩, ⟨4, [13], true⟩, ⟨5, [0], true⟩, ⟨6, [3], true⟩, ⟨7, [15, 16], true⟩, ⟨8, [17], true⟩, ⟨9, [14, 18], true⟩] rfl (by kernel_rfl) ?_
    refine JM_step rfl rfl rfl rfl (fun _ => step_move Sub.rfl) ?_
    refine JM_step rfl rfl rfl rfl (fun _ => step_move Sub.rfl) ?_
    refine JM_step rfl rfl rfl rfl (fun _ => step_sub Sub.rfl Sub.rfl ?sg1) ?_
    case sg1 => unfold in64; omega
    refine JM_step rfl rfl rfl rfl (fun _ => step_indexAddr_sl (i := (i - 1)) Tryz.underlying32 ty9 Sub.ofC Sub.rfl ?sg1 (gb ?sg2)) ?_
    case sg1 => omega
    case sg2 => omega
    refine JM_step rfl rfl rfl rfl (fun _ => step_load_ptr ty9 Sub.rfl) ?_
    refine JM_step rfl rfl rfl rfl (fun _ => step_move Sub.rfl) ?_
    refine JM_step rfl rfl rfl rfl (fun _ => step_move Sub.rfl) ?_
    refine JM_step rfl rfl rfl rfl (fun _ => step_indexAddr_sl  Tryz.underlying32 ty9 Sub.ofC Sub.rfl rfl (gb ?sg1)) ?_
    case sg1 => exact hlt
    refine JM_step rfl rfl rfl rfl (fun _ => step_load_ptr ty9 Sub.rfl) ?_
    refine JM_step rfl rfl rfl rfl (fun _ => step_geq_str Sub.rfl Sub.rfl) ?_
    refine JM_nil ?_
    refine J_cond Sub.rfl (fun h19 => ?_) (fun h19 => ?_)
    · try simp only [decide_eq_true_eq, decide_eq_false_iff_not, Bool.and_eq_true, Bool.or_eq_true, Bool.and_eq_false_iff, Bool.or_eq_false_iff, Bool.not_eq_true', Bool.not_eq_false', Int.not_lt, Int.not_le, Bool.not_true, Bool.not_false] at h19
      exact absurd (incB_nth hi0 (show i - 1 < i by omega) hlt) h19
    · try simp only [decide_eq_true_eq, decide_eq_false_iff_not, Bool.and_eq_true, Bool.or_eq_true, Bool.and_eq_false_iff, Bool.or_eq_false_iff, Bool.not_eq_true', Bool.not_eq_false', Int.not_lt, Int.not_le, Bool.not_true, Bool.not_false] at h19
      refine J_skip ?_
      refine J_region ?_
      refine JL_step rfl rfl rfl (step_move Sub.rfl) ?_
      refine JL_step rfl rfl rfl (step_add Sub.rfl Sub.rfl ?sg1) ?_
      case sg1 => unfold in64; omega
      refine JL_step rfl rfl rfl (step_assign Sub.rfl) ?_
      refine JL_nil ?_
      refine K_againL (σ := Nat) (s := i) (i + 1) (by first | omega | (dsimp only; omega) | (simp_all; omega)) ⟨by omega, .inl (by omega)⟩ (SubE.upd Sub.rfl (SubE.upd Sub.rfl SubE.any)) (LSub.rfl)
  · try simp only [decide_eq_true_eq, decide_eq_false_iff_not, Bool.and_eq_true, Bool.or_eq_true, Bool.and_eq_false_iff, Bool.or_eq_false_iff, Bool.not_eq_true', Bool.not_eq_false', Int.not_lt, Int.not_le, Bool.not_true, Bool.not_false] at h7
    refine J_exit ?_
    refine J_seq ?_
    refine J_region ?_
    refine JL_step rfl rfl rfl (step_assign Sub.rfl) ?_
    refine JL_nil ?_
    refine J_ret ?_
    exact K_ret1 (t := 2) rfl () Sub.rfl
set_option maxHeartbeats 2000000 in
theorem Common_spec (a b : List ByteArray) (ha : incB a) (hb : incB b) (hla : a.length ≤ 1000000000) (hlb : b.length ≤ 1000000000) : Fun1 Tryz.prog 26 [tSlC rStr a, tSlC rStr b] (tV (.int .i64 (comN a b))) := by
  refine Spec.enter Tryz.func26 rfl rfl fun h0 w0 fr0 => ?_
  refine J_seq ?_
  refine J_region ?_
  refine JL_step rfl rfl rfl (step_assign Sub.rfl) ?_
  refine JL_nil ?_
  refine J_seq ?_
  refine J_seq ?_
  refine J_region ?_
  refine JL_step rfl rfl rfl (step_move Sub.rfl) ?_
  refine JL_step rfl rfl rfl (step_call0 (increasing_spec _ ha hla) ⟨Sub.rfl, trivial⟩ Tryz.call51) ?_
  refine JL_step rfl rfl rfl (step_not Sub.rfl) ?_
  refine JL_step rfl rfl rfl (step_move Sub.rfl) ?_
  refine JL_stepG rfl rfl rfl (Gd.plain Sub.rfl) rfl rfl (fun hw => step_move Sub.rfl) ?_
  refine JL_stepG rfl rfl rfl (Gd.plain Sub.rfl) rfl rfl (fun hw => step_call0 (increasing_spec _ hb hlb) ⟨(Sub.w hw), trivial⟩ Tryz.call51) ?_
  refine JL_stepG rfl rfl rfl (Gd.plain Sub.rfl) rfl rfl (fun hw => step_not (Sub.w hw)) ?_
  refine JL_step rfl rfl rfl (step_pick_or Sub.rfl Sub.rfl) ?_
  refine JL_nil ?_
  refine J_cond Sub.rfl (fun h13 => ?_) (fun h13 => ?_)
  · try simp only [decide_eq_true_eq, decide_eq_false_iff_not, Bool.and_eq_true, Bool.or_eq_true, Bool.and_eq_false_iff, Bool.or_eq_false_iff, Bool.not_eq_true', Bool.not_eq_false', Int.not_lt, Int.not_le, Bool.not_true, Bool.not_false] at h13
    exfalso; simp at h13
  · try simp only [decide_eq_true_eq, decide_eq_false_iff_not, Bool.and_eq_true, Bool.or_eq_true, Bool.and_eq_false_iff, Bool.or_eq_false_iff, Bool.not_eq_true', Bool.not_eq_false', Int.not_lt, Int.not_le, Bool.not_true, Bool.not_false] at h13
    refine J_skip ?_
    refine J_seq ?_
    refine J_region ?_
    refine JL_step rfl rfl rfl (step_assign Sub.rfl) ?_
    refine JL_nil ?_
    refine J_seq ?_
    refine J_block ?_
    refine J_loopL (σ := List ByteArray × List ByteArray × Int) (fun ⟨x, y, n⟩ => incB x ∧ incB y ∧ 0 ≤ n ∧ n + (x.length : Int) ≤ (a.length : Int) ∧ y.length ≤ b.length ∧ n + comN x y = comN a b) (fun ⟨x, y, n⟩ => upd (upd (upd (upd env0 0 (tSlC rStr x)) 1 (tSlC rStr y)) 4 (tV (.int .i64 0))) 5 (tV (.int .i64 n))) (fun ⟨x, y, n⟩ => []) (fun ⟨x, y, n⟩ => x.length + y.length) (a, b, 0) ⟨ha, hb, by omega, by omega, by omega, by omega⟩ (SubE.upd Sub.rfl (SubE.upd Sub.rfl (SubE.upd Sub.rfl (SubE.upd Sub.rfl SubE.any)))) (LSub.rfl) ?_
    rintro ⟨x, y, n⟩ ⟨ix, iy, hn0, hnl, hyl, hc⟩
    refine J_seq ?_
    refine J_seq ?_
    refine J_region ?_
    refine JL_step rfl rfl rfl (step_move Sub.rfl) ?_
    refine JL_step rfl rfl rfl (step_len_sl Tryz.underlying32 Sub.ofC) ?_
    refine JL_step rfl rfl rfl (step_gtr Sub.rfl Sub.rfl) ?_
    refine JL_step rfl rfl rfl (step_move Sub.rfl) ?_
    refine JL_stepG rfl rfl rfl (Gd.plain Sub.rfl) rfl rfl (fun hw => step_move Sub.rfl) ?_
    refine JL_stepG rfl rfl rfl (Gd.plain Sub.rfl) rfl rfl (fun hw => step_len_sl Tryz.underlying32 (Sub.trans (Sub.w hw) Sub.ofC)) ?_
    refine JL_stepG rfl rfl rfl (Gd.plain Sub.rfl) rfl rfl (fun hw => step_gtr (Sub.w hw) Sub.rfl) ?_
    refine JL_step rfl rfl rfl (step_pick_and Sub.rfl Sub.rfl) ?_
    refine JL_nil ?_
    refine J_cond Sub.rfl (fun h21 => ?_) (fun h21 => ?_)
    · try simp only [decide_eq_true_eq, decide_eq_false_iff_not, Bool.and_eq_true, Bool.or_eq_true, Bool.and_eq_false_iff, Bool.or_eq_false_iff, Bool.not_eq_true', Bool.not_eq_false', Int.not_lt, Int.not_le, Bool.not_true, Bool.not_false] at h21
      obtain ⟨hx0, hy0⟩ := h21
      have hx0 : 0 < x.length := by omega
      have hy0 : 0 < y.length := by omega
      refine J_skip ?_
      refine J_block ?_
      refine J_block ?_
      refine J_seq ?_
      refine J_draw [⟨0, [0], true⟩, ⟨1, [29], true⟩, ⟨2, [30], true⟩, ⟨3, [1], true⟩, ⟨4, [32], true⟩, ⟨5, [33], true⟩, ⟨6, [31, 34], true⟩, ⟨7, [35], true⟩] rfl (by kernel_rfl) ?_
      refine JM_step rfl rfl rfl rfl (fun _ => step_move Sub.rfl) ?_
      refine JM_step rfl rfl rfl rfl (fun _ => step_indexAddr_sl (i := 0) Tryz.underlying32 ty9 Sub.ofC Sub.rfl ?sg1 (gb ?sg2)) ?_
      case sg1 => rfl
      case sg2 => exact hx0
      refine JM_step rfl rfl rfl rfl (fun _ => step_load_ptr ty9 Sub.rfl) ?_
      refine JM_step rfl rfl rfl rfl (fun _ => step_move Sub.rfl) ?_
      refine JM_step rfl rfl rfl rfl (fun _ => step_indexAddr_sl (i := 0) Tryz.underlying32 ty9 Sub.ofC Sub.rfl ?sg1 (gb ?sg2)) ?_
      case sg1 => rfl
      case sg2 => exact hy0
      refine JM_step rfl rfl rfl rfl (fun _ => step_load_ptr ty9 Sub.rfl) ?_
      refine JM_step rfl rfl rfl rfl (fun _ => step_lss_strB Sub.rfl Sub.rfl) ?_
      refine JM_step rfl rfl rfl rfl (fun _ => step_assign Sub.rfl) ?_
      refine JM_nil ?_
      refine J_cond Sub.rfl (fun h28 => ?_) (fun h28 => ?_)
      · try simp only [decide_eq_true_eq, decide_eq_false_iff_not, Bool.and_eq_true, Bool.or_eq_true, Bool.and_eq_false_iff, Bool.or_eq_false_iff, Bool.not_eq_true', Bool.not_eq_false', Int.not_lt, Int.not_le, Bool.not_true, Bool.not_false] at h28
        refine J_region ?_
        refine JL_step rfl rfl rfl (step_move Sub.rfl) ?_
        refine JL_step rfl rfl rfl (step_slice_fromC (n := 1) Tryz.underlying32 ty9 rfl Sub.rfl Sub.rfl rfl hx0) ?_
        refine JL_step rfl rfl rfl (step_assign Sub.rfl) ?_
        refine JL_nil ?_
        refine K_againL (σ := List ByteArray × List ByteArray × Int) (s := (x, y, n)) (x.drop 1, y, n) (by simp; omega) ⟨incB_drop ix, iy, hn0, by simp; omega, hyl, by rw [← com_lt hx0 hy0 iy h28]; exact hc⟩ (SubE.upd Sub.rfl (SubE.upd Sub.rfl (SubE.upd Sub.rfl (SubE.upd Sub.rfl SubE.any)))) (LSub.rfl)
      · try simp only [decide_eq_true_eq, decide_eq_false_iff_not, Bool.and_eq_true, Bool.or_eq_true, Bool.and_eq_false_iff, Bool.or_eq_false_iff, Bool.not_eq_true', Bool.not_eq_false', Int.not_lt, Int.not_le, Bool.not_true, Bool.not_false] at h28
        refine J_seq ?_
        refine J_draw [⟨0, [0], true⟩, ⟨1, [39], true⟩, ⟨2, [40], true⟩, ⟨3, [1], true⟩, ⟨4, [42], true⟩, ⟨5, [43], true⟩, ⟨6, [41, 44], true⟩, ⟨7, [45], true⟩] rfl (by kernel_rfl) ?_
        refine JM_step rfl rfl rfl rfl (fun _ => step_move Sub.rfl) ?_
        refine JM_step rfl rfl rfl rfl (fun _ => step_indexAddr_sl (i := 0) Tryz.underlying32 ty9 Sub.ofC Sub.rfl ?sg1 (gb ?sg2)) ?_
        case sg1 => rfl
        case sg2 => exact hx0
        refine JM_step rfl rfl rfl rfl (fun _ => step_load_ptr ty9 Sub.rfl) ?_
        refine JM_step rfl rfl rfl rfl (fun _ => step_move Sub.rfl) ?_
        refine JM_step rfl rfl rfl rfl (fun _ => step_indexAddr_sl (i := 0) Tryz.underlying32 ty9 Sub.ofC Sub.rfl ?sg1 (gb ?sg2)) ?_
        case sg1 => rfl
        case sg2 => exact hy0
        refine JM_step rfl rfl rfl rfl (fun _ => step_load_ptr ty9 Sub.rfl) ?_
        refine JM_step rfl rfl rfl rfl (fun _ => step_gtr_strB Sub.rfl Sub.rfl) ?_
        refine JM_step rfl rfl rfl rfl (fun _ => step_assign Sub.rfl) ?_
        refine JM_nil ?_
        refine J_cond Sub.rfl (fun h38 => ?_) (fun h38 => ?_)
        · try simp only [decide_eq_true_eq, decide_eq_false_iff_not, Bool.and_eq_true, Bool.or_eq_true, Bool.and_eq_false_iff, Bool.or_eq_false_iff, Bool.not_eq_true', Bool.not_eq_false', Int.not_lt, Int.not_le, Bool.not_true, Bool.not_false] at h38
          refine J_region ?_
          refine JL_step rfl rfl rfl (step_move Sub.rfl) ?_
          refine JL_step rfl rfl rfl (step_slice_fromC (n := 1) Tryz.underlying32 ty9 rfl Sub.rfl Sub.rfl rfl hy0) ?_
          refine JL_step rfl rfl rfl (step_assign Sub.rfl) ?_
          refine JL_nil ?_
          refine K_againL (σ := List ByteArray × List ByteArray × Int) (s := (x, y, n)) (x, y.drop 1, n) (by simp; omega) ⟨ix, incB_drop iy, hn0, hnl, by simp; omega, by rw [← com_gt hx0 hy0 ix h38]; exact hc⟩ (SubE.upd Sub.rfl (SubE.upd Sub.rfl (SubE.upd Sub.rfl (SubE.upd Sub.rfl SubE.any)))) (LSub.rfl)
        · try simp only [decide_eq_true_eq, decide_eq_false_iff_not, Bool.and_eq_true, Bool.or_eq_true, Bool.and_eq_false_iff, Bool.or_eq_false_iff, Bool.not_eq_true', Bool.not_eq_false', Int.not_lt, Int.not_le, Bool.not_true, Bool.not_false] at h38
          have hxy := eq_of_nlt h28 h38
          refine J_draw [⟨0, [5], true⟩, ⟨1, [22], true⟩, ⟨2, [0], true⟩, ⟨3, [24], true⟩, ⟨4, [1], true⟩, ⟨5, [26], true⟩, ⟨6, [23], true⟩, ⟨7, [25], true⟩, ⟨8, [27], true⟩] rfl (by kernel_rfl) ?_
          refine JM_step rfl rfl rfl rfl (fun _ => step_move Sub.rfl) ?_
          refine JM_step rfl rfl rfl rfl (fun _ => step_add Sub.rfl Sub.rfl ?sg1) ?_
          case sg1 => unfold in64; omega
          refine JM_step rfl rfl rfl rfl (fun _ => step_move Sub.rfl) ?_
          refine JM_step rfl rfl rfl rfl (fun _ => step_slice_fromC (n := 1) Tryz.underlying32 ty9 rfl Sub.rfl Sub.rfl rfl hx0) ?_
          refine JM_step rfl rfl rfl rfl (fun _ => step_move Sub.rfl) ?_
          refine JM_step rfl rfl rfl rfl (fun _ => step_slice_fromC (n := 1) Tryz.underlying32 ty9 rfl Sub.rfl Sub.rfl rfl hy0) ?_
          refine JM_step rfl rfl rfl rfl (fun _ => step_assign Sub.rfl) ?_
          refine JM_step rfl rfl rfl rfl (fun _ => step_assign Sub.rfl) ?_
          refine JM_step rfl rfl rfl rfl (fun _ => step_assign Sub.rfl) ?_
          refine JM_nil ?_
          refine K_againL (σ := List ByteArray × List ByteArray × Int) (s := (x, y, n)) (x.drop 1, y.drop 1, n + 1) (by simp; omega) ⟨incB_drop ix, incB_drop iy, by omega, by simp; omega, by simp; omega, by have := com_eq hx0 hy0 ix hxy; omega⟩ (SubE.upd Sub.rfl (SubE.upd Sub.rfl (SubE.upd Sub.rfl (SubE.upd Sub.rfl SubE.any)))) (LSub.rfl)
    · try simp only [decide_eq_true_eq, decide_eq_false_iff_not, Bool.and_eq_true, Bool.or_eq_true, Bool.and_eq_false_iff, Bool.or_eq_false_iff, Bool.not_eq_true', Bool.not_eq_false', Int.not_lt, Int.not_le, Bool.not_true, Bool.not_false] at h21
      refine J_exit ?_
      refine J_seq ?_
      refine J_region ?_
      refine JL_step rfl rfl rfl (step_move Sub.rfl) ?_
      refine JL_step rfl rfl rfl (step_assign Sub.rfl) ?_
      refine JL_nil ?_
      refine J_ret ?_
      have h0 : comN x y = 0 := comN_0 (h21.elim (fun h => .inl (List.length_eq_zero_iff.1 (by omega))) (fun h => .inr (List.length_eq_zero_iff.1 (by omega))))
      refine K_retv (rv := .tmp 4) rfl () (.tmp Sub.rfl) (Sub.int (by omega))
end Lg

/- Tokens: in order, each once, none empty; keys by tokens and by sketches. -/
namespace Lg
open Go Go.Proofs
theorem wst_ne : ∀ (n : Nat) (l : List Int), l.length = n → ∀ x ∈ (wst l).1, x ≠ (⟨#[]⟩ : ByteArray)
  | 0, l, h => by rw [List.length_eq_zero_iff.1 h]; simp [wst]
  | n + 1, l, h => by
    obtain ⟨l', c, rfl⟩ : ∃ l' c, l = l' ++ [c] := ⟨l.dropLast, l.getLast (by intro q; rw [q] at h; simp at h), (List.dropLast_concat_getLast _).symm⟩
    have ih := wst_ne n l' (by simpa using h)
    have : wst (l' ++ [c]) = wStep (wst l') c := by rw [wst, List.foldl_append]; rfl
    rw [this]
    unfold wStep
    split
    · intro x hx
      rcases List.mem_append.1 hx with hx | hx
      · exact ih x hx
      · unfold wOf at hx
        split at hx
        · cases hx
        · rename_i hc
          simp only [List.mem_singleton] at hx
          subst hx
          exact fun e => hc (ofBytes_ne.1 e)
    · exact ih
theorem words_ne {s x : ByteArray} (h : x ∈ wordsM s) : x ≠ ⟨#[]⟩ := by
  unfold wordsM wordsL at h
  rcases List.mem_append.1 h with h | h
  · exact wst_ne _ _ rfl x h
  · unfold wOf at h
    split at h
    · cases h
    · rename_i hc
      simp only [List.mem_singleton] at h
      subst h
      exact fun e => hc (ofBytes_ne.1 e)
theorem tok_ne {s x : ByteArray} (h : x ∈ tokM s) : x ≠ ⟨#[]⟩ := words_ne (tok_mem h)
theorem setM_nodup (xs : List ByteArray) : ((setM xs).map (·.1)).Nodup := by
  have key : ∀ (ys : List ByteArray) (m : List (ByteArray × Bool)), (m.map (·.1)).Nodup → ((ys.foldl (fun m s => mput m s true) m).map (·.1)).Nodup := by
    intro ys
    induction ys with
    | nil => intro m h; exact h
    | cons y ys ih => intro m h; exact ih _ (mput_nodupQ h)
  exact key _ _ (by simp)
theorem tok_inc (s : ByteArray) : incB (tokM s) := by
  unfold tokM
  generalize hl : (setM (wordsM s)).map (·.1) = l
  have hd : l.Nodup := by rw [← hl]; exact setM_nodup _
  have hp : (sortS l).Perm l := by
    unfold sortS
    have := ((List.mergeSort_perm (l.map ofB) fun x y => decide (x ≤ y)).map toB)
    rwa [map_toB] at this
  have hs : (sortS l).Pairwise fun a b => ofB a ≤ ofB b := by
    unfold sortS
    rw [List.pairwise_map]
    refine (List.pairwise_mergeSort leL_trans leL_tot (l.map ofB)).imp fun {a b} h => ?_
    rw [ofB_toB, ofB_toB]; simpa using h
  have hn : (sortS l).Nodup := hp.nodup_iff.2 hd
  unfold incB
  refine List.Pairwise.imp₂ (fun a b h1 h2 => ?_) hs hn
  exact List.not_le.1 fun h3 => h2 (ofB_inj (List.le_antisymm h1 h3))
theorem fin_self {l : List ByteArray} (hi : incB l) (hne : ∀ x ∈ l, x ≠ (⟨#[]⟩ : ByteArray)) : finM l = l := fin_of hi fun x => ⟨fun h => h.1, fun h => ⟨h, hne x h⟩⟩
theorem keys_txt' {b : GBlock} (hk : byOk b.By = true) (ht : b.Table = 0) (hc : b.Col = 0) (s : ByteArray) : keysM b (recT s) = finM (rawM b s) := by
  have h1 : fitsB b (recT s) = true := by
    unfold fitsB
    rw [hk, ht, hc]; rfl
  have h2 : cellV b (recT s) = txtV s := by unfold cellV; rw [hc]; rfl
  unfold keysM
  rw [h1, h2]
  rfl
theorem keys_tok (s : ByteArray) : keysM (bK 2 0) (recT s) = tokM s := by
  rw [keys_txt 2 0 rfl, show rawM (bK 2 0) s = tokM s from rfl]
  exact fin_self (tok_inc s) fun x h => tok_ne h
theorem pair2_len (blocks : List GBlock) (a b : GRecord) : (pairsM blocks [a, b]).length = if sharesB blocks a b = true then 1 else 0 := by
  have e0 : nth [a, b] 0 = a := rfl
  have e1 : nth [a, b] 1 = b := rfl
  by_cases h : sharesB blocks a b = true
  · simp [pairsM, rowP, List.range_succ, e0, e1, h]
  · simp only [Bool.not_eq_true] at h
    simp [pairsM, rowP, List.range_succ, e0, e1, h]
theorem tok_pair (s t : ByteArray) : (pairsM [bK 2 0] [recT s, recT t]).length = 1 ↔ 0 < comN (tokM s) (tokM t) := by
  rw [pair2_len, comN_pos]
  have : sharesB [bK 2 0] (recT s) (recT t) = true ↔ com (tokM s) (tokM t) := by
    rw [shares_keys]
    constructor
    · rintro ⟨_, bl, hb, k, h1, h2⟩
      simp only [List.mem_singleton] at hb
      subst hb
      rw [keys_tok] at h1 h2
      exact ⟨k, h1, h2⟩
    · rintro ⟨k, h1, h2⟩
      exact ⟨rfl, bK 2 0, by simp, k, by rw [keys_tok]; exact h1, by rw [keys_tok]; exact h2⟩
  rw [← this]
  by_cases h : sharesB [bK 2 0] (recT s) (recT t) = true <;> simp [h]
def bS (n m : Int) : GBlock := ⟨⟨#[]⟩, 0, 0, 4, n, m⟩
theorem keys_sk {s t : ByteArray} (n m : Int) (h : tokM s = tokM t) : keysM (bS n m) (recT s) = keysM (bS n m) (recT t) := by
  rw [keys_txt' rfl rfl rfl, keys_txt' rfl rfl rfl]
  show finM (sketchM _ s) = finM (sketchM _ t)
  unfold sketchM
  rw [h]
end Lg

/- Folded texts tell the words; which blocks have keys for a text. -/
namespace Lg
open Go Go.Proofs
/-- Nothing, or something behind a blank. -/
def blankFirst (l : List UInt8) : Prop := l = [] ∨ ∃ t, l = 32 :: t
theorem cut_inj : ∀ {x y T1 T2 : List UInt8}, (32 : UInt8) ∉ x → (32 : UInt8) ∉ y → blankFirst T1 → blankFirst T2 → x ++ T1 = y ++ T2 → x = y ∧ T1 = T2
  | [], [], T1, T2, _, _, _, _, h => ⟨rfl, h⟩
  | [], b :: y, T1, T2, _, hy, h1, _, h => by
    rcases h1 with rfl | ⟨t, rfl⟩
    · cases h
    · simp only [List.nil_append, List.cons_append, List.cons.injEq] at h
      exact absurd (by simp [h.1]) hy
  | a :: x, [], T1, T2, hx, _, _, h2, h => by
    rcases h2 with rfl | ⟨t, rfl⟩
    · cases h
    · simp only [List.nil_append, List.cons_append, List.cons.injEq] at h
      exact absurd (by simp [h.1]) hx
  | a :: x, b :: y, T1, T2, hx, hy, h1, h2, h => by
    simp only [List.cons_append, List.cons.injEq] at h
    simp only [List.mem_cons, not_or] at hx hy
    obtain ⟨e1, e2⟩ := cut_inj hx.2 hy.2 h1 h2 h.2
    exact ⟨by rw [h.1, e1], e2⟩
theorem tail_blank (r : List (List UInt8)) : blankFirst (Lib.joinTail [32] r) := by
  cases r with
  | nil => exact .inl rfl
  | cons x r => exact .inr ⟨_, rfl⟩
theorem tail_inj : ∀ {r1 r2 : List (List UInt8)}, (∀ w ∈ r1, (32 : UInt8) ∉ w) → (∀ w ∈ r2, (32 : UInt8) ∉ w) → Lib.joinTail [32] r1 = Lib.joinTail [32] r2 → r1 = r2
  | [], [], _, _, _ => rfl
  | [], y :: r2, _, _, h => by cases h
  | x :: r1, [], _, _, h => by cases h
  | x :: r1, y :: r2, h1, h2, h => by
    have h' : x ++ Lib.joinTail [32] r1 = y ++ Lib.joinTail [32] r2 := by
      have : (32 : UInt8) :: (x ++ Lib.joinTail [32] r1) = 32 :: (y ++ Lib.joinTail [32] r2) := h
      exact (List.cons.inj this).2
    obtain ⟨e1, e2⟩ := cut_inj (h1 x (by simp)) (h2 y (by simp)) (tail_blank r1) (tail_blank r2) h'
    rw [e1, tail_inj (fun w hw => h1 w (by simp [hw])) (fun w hw => h2 w (by simp [hw])) e2]
theorem join_inj {l1 l2 : List (List UInt8)} (h1 : ∀ w ∈ l1, (32 : UInt8) ∉ w ∧ w ≠ []) (h2 : ∀ w ∈ l2, (32 : UInt8) ∉ w ∧ w ≠ []) (h : Lib.join l1 [32] = Lib.join l2 [32]) : l1 = l2 := by
  match l1, l2 with
  | [], [] => rfl
  | [], y :: r2 =>
    rw [Lib.join_nil, Lib.join_cons] at h
    have := (h2 y (by simp)).2
    cases y with
    | nil => exact absurd rfl this
    | cons a y => cases h
  | x :: r1, [] =>
    rw [Lib.join_nil, Lib.join_cons] at h
    have := (h1 x (by simp)).2
    cases x with
    | nil => exact absurd rfl this
    | cons a x => cases h
  | x :: r1, y :: r2 =>
    rw [Lib.join_cons, Lib.join_cons] at h
    obtain ⟨e1, e2⟩ := cut_inj (h1 x (by simp)).1 (h2 y (by simp)).1 (tail_blank r1) (tail_blank r2) h
    rw [e1, tail_inj (fun w hw => (h1 w (by simp [hw])).1) (fun w hw => (h2 w (by simp [hw])).1) e2]
def ltrI (v : Int) : Prop := 48 ≤ v ∧ v ≤ 122
theorem lowI_ltr {c : Int} (h : lowI c ≠ 0) : ltrI (lowI c) := by
  unfold lowI at *
  unfold ltrI
  (repeat' split at h) <;> (repeat' split) <;> first | omega | (exfalso; omega) | contradiction
theorem ofBytes_32 {cur : List Int} (h : ∀ v ∈ cur, ltrI v) : (32 : UInt8) ∉ ofB (ofBytes cur) := by
  show (32 : UInt8) ∉ ((cur.map fun n => UInt8.ofNat n.toNat).toArray).toList
  simp only [List.mem_map, not_exists, not_and]
  intro v hv e
  have := h v hv
  unfold ltrI at this
  have e2 : (UInt8.ofNat v.toNat).toNat = (32 : UInt8).toNat := by rw [e]
  rw [UInt8.toNat_ofNat'] at e2
  have e3 : (32 : UInt8).toNat = 32 := rfl
  rw [e3, Nat.mod_eq_of_lt (by omega)] at e2
  omega
theorem wst_32 : ∀ (n : Nat) (l : List Int), l.length = n → (∀ x ∈ (wst l).1, (32 : UInt8) ∉ ofB x) ∧ ∀ v ∈ (wst l).2, ltrI v
  | 0, l, h => by rw [List.length_eq_zero_iff.1 h]; simp [wst]
  | n + 1, l, h => by
    obtain ⟨l', c, rfl⟩ : ∃ l' c, l = l' ++ [c] := ⟨l.dropLast, l.getLast (by intro q; rw [q] at h; simp at h), (List.dropLast_concat_getLast _).symm⟩
    have ih := wst_32 n l' (by simpa using h)
    have : wst (l' ++ [c]) = wStep (wst l') c := by rw [wst, List.foldl_append]; rfl
    rw [this]
    unfold wStep
    split
    · refine ⟨fun x hx => ?_, by simp⟩
      rcases List.mem_append.1 hx with hx | hx
      · exact ih.1 x hx
      · unfold wOf at hx
        split at hx
        · cases hx
        · simp only [List.mem_singleton] at hx
          subst hx
          exact ofBytes_32 ih.2
    · rename_i hz
      refine ⟨ih.1, fun v hv => ?_⟩
      rcases List.mem_append.1 hv with hv | hv
      · exact ih.2 v hv
      · simp only [List.mem_singleton] at hv
        subst hv
        exact lowI_ltr hz
theorem words_32 {s x : ByteArray} (h : x ∈ wordsM s) : (32 : UInt8) ∉ ofB x := by
  have h0 := wst_32 _ (bytesOf s) rfl
  unfold wordsM wordsL at h
  rcases List.mem_append.1 h with h | h
  · exact h0.1 x h
  · unfold wOf at h
    split at h
    · cases h
    · simp only [List.mem_singleton] at h
      subst h
      exact ofBytes_32 h0.2
theorem fold_inj {s t : ByteArray} (h : foldB s = foldB t) : wordsM s = wordsM t := by
  unfold foldB joinB at h
  have h' : Lib.join ((wordsM s).map ofB) [32] = Lib.join ((wordsM t).map ofB) [32] := by
    have := congrArg ofB h
    rwa [ofB_toB, ofB_toB] at this
  have key : ∀ u : ByteArray, ∀ w ∈ (wordsM u).map ofB, (32 : UInt8) ∉ w ∧ w ≠ [] := fun u w hw => by
    obtain ⟨x, hx, rfl⟩ := List.mem_map.1 hw
    exact ⟨words_32 hx, fun e => words_ne hx (ofB_inj (y := ⟨#[]⟩) e)⟩
  have e := join_inj (key s) (key t) h'
  rw [← map_toB (wordsM s), e, map_toB]
theorem fold_empty {s : ByteArray} : foldB s = ⟨#[]⟩ ↔ wordsM s = [] := by
  constructor
  · intro h
    cases hw : wordsM s with
    | nil => rfl
    | cons x r =>
      exfalso
      unfold foldB joinB at h
      rw [hw, List.map_cons, Lib.join_cons] at h
      have h2 := congrArg ofB h
      rw [ofB_toB] at h2
      have hx : ofB x ≠ [] := fun e => words_ne (s := s) (x := x) (by rw [hw]; simp) (ofB_inj (y := ⟨#[]⟩) e)
      cases hx' : ofB x with
      | nil => exact hx hx'
      | cons a y => rw [hx'] at h2; cases h2
  · intro h
    unfold foldB joinB
    rw [h]; rfl
theorem tok_same {s t : ByteArray} (h : foldB s = foldB t) : tokM s = tokM t := by
  unfold tokM; rw [fold_inj h]
theorem raw_same {s t : ByteArray} (b : GBlock) (h : foldB s = foldB t) : rawM b s = rawM b t := by
  unfold rawM sketchM
  rw [h, tok_same h]
theorem keys_fold {s t : ByteArray} {b : GBlock} (ht : b.Table = 0) (hc : b.Col = 0) (h : foldB s = foldB t) : keysM b (recT s) = keysM b (recT t) := by
  by_cases hk : byOk b.By = true
  · rw [keys_txt' hk ht hc, keys_txt' hk ht hc, raw_same b h]
  · have hf : ∀ r, fitsB b r = false := fun r => by unfold fitsB; simp only [Bool.not_eq_true] at hk; rw [hk]; rfl
    unfold keysM
    rw [hf, hf, if_pos rfl, if_pos rfl]
theorem near1_len (b : GBlock) (x y : GRecord) : (nearM [b] [x] y).length = if sharesB [b] x y = true then 1 else 0 := by
  have e0 : nth [x] 0 = x := rfl
  by_cases h : sharesB [b] x y = true
  · simp [nearM, nearN, List.range_succ, e0, h]
  · simp only [Bool.not_eq_true] at h
    simp [nearM, nearN, List.range_succ, e0, h]
theorem fin_ne {l : List ByteArray} : finM l ≠ [] ↔ ∃ x, x ∈ l ∧ x ≠ (⟨#[]⟩ : ByteArray) := by
  constructor
  · intro h
    obtain ⟨x, hx⟩ := List.exists_mem_of_ne_nil _ h
    exact ⟨x, mem_finM.1 hx⟩
  · rintro ⟨x, hx⟩ e
    have := mem_finM.2 hx
    rw [e] at this; cases this
end Lg

/- Which blocks have keys for a text. -/
namespace Lg
open Go Go.Proofs
def goodA (b : GBlock) : Bool := (decide (b.By = 1) || decide (b.By = 2)) || (decide (b.By = 3) && decide (0 < b.N))
def maxM (m : Int) : Int := if 1 > m then 1 else m
def goodB (b : GBlock) : Bool := ((decide (0 < b.N) && decide (b.N ≤ 64)) && decide (0 < b.M)) && decide (b.N % maxM b.M = 0)
def goodM (b : GBlock) : Bool := if b.By = 4 then goodB b else goodA b
theorem tok_words {s : ByteArray} : tokM s ≠ [] ↔ foldB s ≠ ⟨#[]⟩ := by
  rw [Ne, Ne, fold_empty]
  refine not_congr ⟨fun h => ?_, fun h => ?_⟩
  · cases hw : wordsM s with
    | nil => rfl
    | cons x r =>
      have : x ∈ tokM s := tok_iff.2 (by rw [hw]; simp)
      rw [h] at this; cases this
  · unfold tokM; rw [h]; simp [setM, sortS]
theorem least_nil (seed : Int) : leastM seed [] = -1 := rfl
theorem least_pos (seed : Int) {l : List ByteArray} (h : l ≠ []) : 0 ≤ leastM seed l ∧ leastM seed l ≤ 2147483646 := by
  cases l with
  | nil => exact absurd rfl h
  | cons t ts =>
    have key : ∀ (ts : List ByteArray) (h : Int), 0 ≤ h ∧ h < 2147483647 → 0 ≤ ts.foldl (fun b x => if hashM x seed < b then hashM x seed else b) h ∧ ts.foldl (fun b x => if hashM x seed < b then hashM x seed else b) h < 2147483647 := by
      intro ts
      induction ts with
      | nil => intro h hh; exact hh
      | cons x ts ih =>
        intro h hh
        refine ih _ ?_
        dsimp only
        split
        · exact hashM_rng x seed
        · exact hh
    have := key ts _ (hashM_rng t seed)
    simp only [leastM]; omega
section
variable {l : List ByteArray} {n : Int}
theorem mk_eq (h : 1 ≤ n ∧ n ≤ 64) : mkM l n = (List.range n.toNat).map fun i : Nat => leastM i l := by
  unfold mkM
  rw [if_neg (by unfold badN; omega)]
theorem mk_len (h : 1 ≤ n ∧ n ≤ 64) : ((mkM l n).length : Int) = n := by
  rw [mk_eq h]; simp; omega
theorem mk_0 (h : 1 ≤ n ∧ n ≤ 64) : nth (mkM l n) 0 = leastM 0 l := by
  have hp : 0 < (mkM l n).length := by have := mk_len (l := l) h; omega
  rw [nth_get hp]
  have : ∀ (m : List Int) (hm : 0 < m.length), m = (List.range n.toNat).map (fun i : Nat => leastM i l) → m[0] = leastM 0 l := by
    rintro m hm rfl
    simp
  exact this _ hp (mk_eq h)
theorem mk_right (h : 1 ≤ n ∧ n ≤ 64) : rightB (mkM l n) = true := by
  have hl := mk_len (l := l) h
  unfold rightB
  rw [if_neg (by omega), mk_0 h]
  by_cases he : l = []
  · subst he
    rw [if_pos (least_nil 0), mk_eq h]
    simp [offR2, least_nil]
  · have hp := least_pos 0 he
    rw [if_neg (by omega), mk_eq h]
    simp only [Bool.not_eq_true', List.any_eq_false, offR2, Bool.or_eq_true, decide_eq_true_eq]
    intro x hx
    obtain ⟨i, _, rfl⟩ := List.mem_map.1 hx
    have := least_pos (i : Int) he
    omega
end
theorem dvd_le {n m : Int} (hn : 0 < n) (hm : 0 < m) (h : n % m = 0) : m ≤ n := by
  rcases Int.lt_or_le n m with q | q
  · rw [Int.emod_eq_of_lt (by omega) q] at h; omega
  · exact q
theorem band_ne (sk : List Int) (rows b : Nat) : bandM sk rows b ≠ ⟨#[]⟩ := by
  intro e
  have := congrArg ByteArray.size e
  unfold bandM at this
  rw [ByteArray.size_append, ByteArray.size_append] at this
  have h1 : colon.size = 1 := rfl
  have h2 : (⟨#[]⟩ : ByteArray).size = 0 := rfl
  omega
theorem bad_iff {l : List ByteArray} {n m : Int} (h : 1 ≤ n ∧ n ≤ 64) : bandBad (mkM l n) m = false ↔ 0 < m ∧ n % maxM m = 0 := by
  unfold bandBad
  rw [mk_right h, mk_len h]
  simp only [Bool.or_eq_false_iff, Bool.not_true, Bool.not_eq_false', decide_eq_false_iff_not, decide_eq_true_eq, true_and]
  constructor
  · rintro ⟨⟨h1, h2⟩, h3⟩
    refine ⟨by omega, ?_⟩
    unfold maxM
    rw [if_neg (by omega)]; exact h3
  · rintro ⟨h1, h2⟩
    unfold maxM at h2
    rw [if_neg (by omega)] at h2
    exact ⟨⟨by omega, by have := dvd_le (by omega) h1 h2; omega⟩, h2⟩
theorem sketch_ne (b : GBlock) (s : ByteArray) : (∃ x, x ∈ sketchM b s ∧ x ≠ (⟨#[]⟩ : ByteArray)) ↔ goodB b = true ∧ tokM s ≠ [] := by
  unfold goodB
  simp only [Bool.and_eq_true, decide_eq_true_eq]
  by_cases hN : 1 ≤ b.N ∧ b.N ≤ 64
  · have hE : mkE b.N = 0 := by unfold mkE; rw [if_neg (by unfold badN; omega)]
    have hb := bad_iff (l := tokM s) (m := b.M) hN
    have h0 := mk_0 (l := tokM s) hN
    have hl := mk_len (l := tokM s) hN
    unfold sketchM bandsE
    rw [if_neg (by rw [hE]; simp)]
    by_cases hbad : bandBad (mkM (tokM s) b.N) b.M = true
    · rw [if_pos hbad]
      have : ¬ (0 < b.M ∧ b.N % maxM b.M = 0) := fun q => by rw [hb.2 q] at hbad; cases hbad
      constructor
      · rintro ⟨x, hx, _⟩; simp at hx
      · rintro ⟨⟨⟨_, h1⟩, h2⟩, _⟩; exact absurd ⟨h1, h2⟩ this
    · rw [if_neg hbad, if_neg (show ¬ ((0 : Int) ≠ 0) from fun q => q rfl)]
      have hg := hb.1 (by simpa using hbad)
      unfold bandsM
      rw [if_neg hbad, h0]
      by_cases ht : tokM s = []
      · rw [ht, if_pos (least_nil 0)]
        constructor
        · rintro ⟨x, hx, _⟩; simp at hx
        · rintro ⟨_, h⟩; exact absurd rfl h
      · have hp := least_pos 0 ht
        rw [if_neg (by omega)]
        refine ⟨fun _ => ⟨⟨⟨⟨by omega, hN.2⟩, hg.1⟩, hg.2⟩, ht⟩, fun _ => ?_⟩
        have hm : maxM b.M = b.M := by unfold maxM; rw [if_neg (by omega)]
        have hle := dvd_le (n := b.N) (m := b.M) (by omega) hg.1 (by rw [← hm]; exact hg.2)
        have hd : 0 < (mkM (tokM s) b.N).length / b.M.toNat := Nat.div_pos (by omega) (by omega)
        exact ⟨bandM (mkM (tokM s) b.N) b.M.toNat 0, List.mem_map.2 ⟨0, List.mem_range.2 hd, rfl⟩, band_ne _ _ _⟩
  · have hE : mkE b.N ≠ 0 := by unfold mkE; rw [if_pos (by unfold badN; omega)]; decide
    unfold sketchM
    rw [if_pos hE]
    constructor
    · rintro ⟨x, hx, _⟩; cases hx
    · rintro ⟨⟨⟨⟨h1, h2⟩, _⟩, _⟩, _⟩; exact absurd ⟨by omega, h2⟩ hN
theorem pref_ne (f : ByteArray) (n : Int) : prefM f n ≠ ⟨#[]⟩ ↔ 0 < n ∧ f ≠ ⟨#[]⟩ := by
  have hz : ∀ x : ByteArray, x = ⟨#[]⟩ ↔ x.size = 0 := fun x => by
    constructor
    · intro h; rw [h]; rfl
    · intro h
      cases x with
      | mk d => have : d.size = 0 := h; rw [Array.eq_empty_of_size_eq_zero this]
  have hc := cut_rng (n := n) (k := (f.size : Int)) (by omega)
  have hs : (prefM f n).size = (cutN n f.size).toNat := by
    unfold prefM
    rw [ByteArray.size_extract]; omega
  rw [Ne, hz, hs, Ne, hz]
  unfold cutN at *
  (repeat' split) <;> (repeat' split at hc) <;> omega
theorem keys_ne {b : GBlock} (ht : b.Table = 0) (hc : b.Col = 0) (s : ByteArray) : keysM b (recT s) ≠ [] ↔ goodM b = true ∧ foldB s ≠ ⟨#[]⟩ := by
  by_cases hk : byOk b.By = true
  · rw [keys_txt' hk ht hc, fin_ne]
    have h4 : b.By = 1 ∨ b.By = 2 ∨ b.By = 3 ∨ b.By = 4 := by unfold byOk at hk; simp at hk; omega
    unfold rawM goodM goodA
    rcases h4 with h | h | h | h
    · simp [h]
    · simp only [h]
      simp only [show ¬ ((2 : Int) = 1) by decide, show ¬ ((2 : Int) = 4) by decide, if_false, if_true]
      rw [← tok_words]
      simp
      constructor
      · rintro ⟨x, hx, _⟩ e; rw [e] at hx; cases hx
      · intro hn
        obtain ⟨x, hx⟩ := List.exists_mem_of_ne_nil _ hn
        exact ⟨x, hx, tok_ne hx⟩
    · simp [h, pref_ne]
    · simp only [h]
      simp only [show ¬ ((4 : Int) = 1) by decide, show ¬ ((4 : Int) = 2) by decide, show ¬ ((4 : Int) = 3) by decide, if_false, if_true]
      rw [sketch_ne, tok_words]
  · have hf : keysM b (recT s) = [] := by unfold keysM; rw [if_pos (by unfold fitsB; simp only [Bool.not_eq_true] at hk; rw [hk]; rfl)]
    rw [hf]
    constructor
    · intro h; exact absurd rfl h
    · rintro ⟨h, _⟩
      exfalso
      unfold byOk at hk
      unfold goodM goodA at h
      simp at hk
      split at h
      · omega
      · simp at h; omega
/-- Two texts that fold alike are near by a block if it has keys for them. -/
theorem near_fold {b : GBlock} {s t : ByteArray} (ht : b.Table = 0) (hc : b.Col = 0) (h : foldB s = foldB t) : decide (((nearM [b] [recT s] (recT t)).length : Int) = 1) = (goodM b && !decide (foldB s = ⟨#[]⟩)) := by
  have hs : sharesB [b] (recT s) (recT t) = true ↔ keysM b (recT s) ≠ [] := by
    rw [shares_keys]
    constructor
    · rintro ⟨_, bl, hb, k, h1, h2⟩ e
      simp only [List.mem_singleton] at hb
      subst hb
      rw [e] at h1; cases h1
    · intro hn
      obtain ⟨k, hk⟩ := List.exists_mem_of_ne_nil _ hn
      exact ⟨rfl, b, by simp, k, hk, by rw [← keys_fold ht hc h]; exact hk⟩
  rw [near1_len, Bool.eq_iff_iff, decide_eq_true_eq, Bool.and_eq_true, Bool.not_eq_true', decide_eq_false_iff_not, ← Ne, ← keys_ne ht hc, ← hs]
  by_cases q : sharesB [b] (recT s) (recT t) = true <;> simp [q]
end Lg

namespace Lg
open Go Go.Proofs


def validR (v : GValue) : Bool :=
  if v.Kind = 0 then decide (v.N = 0) && decide (v.Text = ⟨#[]⟩)
  else if v.Kind = 1 then decide (v.N = 0) && decide ((v.Text.size : Int) ≤ 200)
  else if v.Kind = 2 then (decide (v.N ≥ -1000000000) && decide (v.N ≤ 1000000000)) && decide (v.Text = ⟨#[]⟩)
  else if v.Kind = 3 then (decide (v.N ≥ 0) && decide (v.N ≤ 73048)) && decide (v.Text = ⟨#[]⟩)
  else if v.Kind = 4 then (decide (v.N = 0) || decide (v.N = 1)) && decide (v.Text = ⟨#[]⟩)
  else false
theorem validR_eq (v : GValue) : validR v = validV v := by
  unfold validR validV
  by_cases ht : v.Text = ⟨#[]⟩
  · have hs : v.Text.size = 0 := by rw [ht]; rfl
    have h1 : ¬ (v.Kind ≠ 1 ∧ v.Text ≠ ⟨#[]⟩) := fun q => q.2 ht
    have h2 : ¬ ((200 : Int) < (v.Text.size : Int)) := by omega
    rw [if_neg h1, if_neg h2]
    simp only [show decide (v.Text = ⟨#[]⟩) = true from decide_eq_true ht, Bool.and_true]
    rw [Bool.eq_iff_iff]
    (repeat' split) <;> simp <;> omega
  · by_cases hk : v.Kind = 1
    · have h1 : ¬ (v.Kind ≠ 1 ∧ v.Text ≠ ⟨#[]⟩) := fun q => q.1 hk
      rw [if_neg h1]
      simp only [hk]
      by_cases h2 : (200 : Int) < (v.Text.size : Int)
      · simp [h2] <;> omega
      · rw [Bool.eq_iff_iff]; simp [h2] <;> omega
    · rw [if_pos (⟨hk, ht⟩ : v.Kind ≠ 1 ∧ v.Text ≠ ⟨#[]⟩)]
      simp [ht, hk]
def digB (n : Nat) : ByteArray := toB (Lib.decDigits n)
abbrev tens : ByteArray := ⟨#[48, 49, 50, 51, 52, 53, 54, 55, 56, 57]⟩
theorem dig_one {n : Nat} (h : n < 10) : tens.extract n (n + 1) = toB [UInt8.ofNat (48 + n)] := by
  rcases n with _ | _ | _ | _ | _ | _ | _ | _ | _ | _ | n <;> first | rfl | (exfalso; omega)
theorem digB_small {n : Nat} (h : n < 10) : digB n = tens.extract n (n + 1) := by
  unfold digB; rw [Lib.decDigits, dif_pos h, dig_one h]
theorem toB_append (a b : List UInt8) : toB a ++ toB b = toB (a ++ b) := by
  apply ByteArray.ext
  rw [ByteArray.data_append]
  simp
theorem digB_big {n : Nat} (h : ¬ n < 10) : digB n = digB (n / 10) ++ tens.extract (n % 10) (n % 10 + 1) := by
  unfold digB; rw [Lib.decDigits, dif_neg h, dig_one (by omega), toB_append]
theorem digB_size {n : Nat} (h : n < 18446744073709551616) : (digB n).size ≤ 30 := by
  have e : (digB n).size = (Lib.decDigits n).length := by show (List.toArray _).size = _; simp
  rw [e, Lib.decDigits_length]
  have hd : ∀ (k u : Nat), u < 10 ^ (k + 1) → Lib.nDigits u ≤ k + 1 := by
    intro k
    induction k with
    | zero => intro u hu; rw [Lib.nDigits_small (by simpa using hu)]; exact Nat.le_refl _
    | succ k ih =>
      intro u hu
      by_cases h10 : u < 10
      · rw [Lib.nDigits_small h10]; omega
      · rw [Lib.nDigits_big h10]
        have := ih (u / 10) (by rw [Nat.pow_succ] at hu; exact Nat.div_lt_of_lt_mul (by rw [Nat.mul_comm]; exact hu))
        omega
  have := hd 19 n (by have : (10 : Nat) ^ (19 + 1) = 100000000000000000000 := by decide
                      omega)
  omega
abbrev dash : ByteArray := ⟨#[45]⟩
theorem itoa_dig {n : Int} (h : 0 ≤ n) : itoaB n = digB n.toNat := by
  unfold itoaB digB Lib.itoa; rw [if_neg (by omega)]
theorem itoa_neg {n : Int} (h : n < 0) : itoaB n = dash ++ digB n.natAbs := by
  unfold itoaB digB Lib.itoa; rw [if_pos h]
  rw [show dash = toB [45] from rfl, toB_append]; rfl
section
variable {C : Cx} {E : Env} {L : List SP} {d : Option Nat} {ty : Nat} {pos : String} {af : Array Edge} {g : Option (Nat × Bool)}
theorem wrapU {x : Int} (h : 0 ≤ x ∧ x < 18446744073709551616) : IntKind.u64.wrap x = x := by simp [IntKind.wrap, IntKind.bits, IntKind.signed]; omega
theorem step_addU {T U : Nat} {x y : Operand} {a b : Int} (hx : Sub (opTy E x) (tV (.int .u64 a))) (hy : Sub (opTy E y) (tV (.int .u64 b))) (h : 0 ≤ a + b ∧ a + b < 18446744073709551616) :
    Step1 C ⟨d, .binOp .add T x y U, ty, pos, af, g⟩ E L (tV (.int .u64 (a + b))) := step_int hx hy (fun P w => by simp [binOp, Op.intArith, wrapU h])
theorem step_quoU {T U : Nat} {x y : Operand} {a b : Int} (hx : Sub (opTy E x) (tV (.int .u64 a))) (hy : Sub (opTy E y) (tV (.int .u64 b))) (ha : 0 ≤ a) (hb : 0 < b) (hr : 0 ≤ a / b ∧ a / b < 18446744073709551616) :
    Step1 C ⟨d, .binOp .quo T x y U, ty, pos, af, g⟩ E L (tV (.int .u64 (a / b))) := step_int hx hy (fun P w => by
  have h1 : a.tdiv b = a / b := Int.tdiv_eq_ediv_of_nonneg ha
  have h2 : ¬ b = 0 := by omega
  simp [binOp, Op.intDiv, h1, h2, wrapU hr])
theorem step_remU {T U : Nat} {x y : Operand} {a b : Int} (hx : Sub (opTy E x) (tV (.int .u64 a))) (hy : Sub (opTy E y) (tV (.int .u64 b))) (ha : 0 ≤ a) (hb : 0 < b) (hr : 0 ≤ a % b ∧ a % b < 18446744073709551616) :
    Step1 C ⟨d, .binOp .rem T x y U, ty, pos, af, g⟩ E L (tV (.int .u64 (a % b))) := step_int hx hy (fun P w => by
  have h1 : a.tmod b = a % b := Int.tmod_eq_emod_of_nonneg ha
  have h2 : ¬ b = 0 := by omega
  simp [binOp, Op.intDiv, h1, h2, wrapU hr])
theorem step_negU {T : Nat} {x : Operand} {a m : Int} (hx : Sub (opTy E x) (tV (.int .u64 a))) (hm : IntKind.u64.wrap (-a) = m) :
    Step1 C ⟨d, .unOp .neg T x, ty, pos, af, g⟩ E L (tV (.int .u64 m)) :=
  Step.of_same (by intro c h; cases h) fun ac w h hw f => ⟨.int .u64 m, by
    have h1 : ac.eval x = .int .u64 a := f.get hx
    simp [execOp, h1, Op.unary, Op.intArith, hm], rfl⟩
end

theorem ValidR_spec (v : GValue) : Fun1 Tryz.prog 104 [rValue.ty v] (tV (.bool (validV v))) := by
  refine Spec.enter Tryz.func104 rfl rfl fun h0 w0 fr0 => ?_
  refine J_seq ?_
  refine J_region ?_
  refine JL_step rfl rfl rfl (step_box (R := rValue) Sub.rfl) ?_
  refine JL_step rfl rfl rfl (step_assign Sub.rfl) ?_
  refine JL_nil ?_
  refine J_seq ?_
  refine J_seq ?_
  refine J_region ?_
  refine JL_step rfl rfl rfl (step_fieldAddr so47 Sub.rfl rfl) ?_
  refine JL_step rfl rfl rfl (step_load_ptr ty3 Sub.rfl) ?_
  refine JL_nil ?_
  refine J_block ?_
  refine J_seq ?_
  refine J_region ?_
  refine JL_step rfl rfl rfl (step_eql Sub.rfl Sub.rfl) ?_
  refine JL_step rfl rfl rfl (step_assign Sub.rfl) ?_
  refine JL_nil ?_
  refine J_cond Sub.rfl (fun hc1 => ?_) (fun hc1 => ?_)
  · try simp only [decide_eq_true_eq, decide_eq_false_iff_not, Bool.and_eq_true, Bool.or_eq_true, Bool.and_eq_false_iff, Bool.or_eq_false_iff, Bool.not_eq_true', Bool.not_eq_false', Int.not_lt, Int.not_le, Bool.not_true, Bool.not_false] at hc1
    refine J_seq ?_
    refine J_region ?_
    refine JL_step rfl rfl rfl (step_fieldAddr so47 Sub.rfl rfl) ?_
    refine JL_step rfl rfl rfl (step_load_ptr ty3 Sub.rfl) ?_
    refine JL_step rfl rfl rfl (step_eql Sub.rfl Sub.rfl) ?_
    refine JL_step rfl rfl rfl (step_move Sub.rfl) ?_
    refine JL_stepG rfl rfl rfl (Gd.plain Sub.rfl) rfl rfl (fun hw => step_fieldAddr so47 Sub.rfl rfl) ?_
    refine JL_stepG rfl rfl rfl (Gd.plain Sub.rfl) rfl rfl (fun hw => step_load_ptr ty9 (Sub.w hw)) ?_
    refine JL_stepG rfl rfl rfl (Gd.plain Sub.rfl) rfl rfl (fun hw => step_eql_str (Sub.w hw) Sub.rfl) ?_
    refine JL_step rfl rfl rfl (step_pick_and Sub.rfl Sub.rfl) ?_
    refine JL_step rfl rfl rfl (step_assign Sub.rfl) ?_
    refine JL_nil ?_
    refine J_ret ?_
    refine K_retv (rv := .tmp 2) rfl () (.tmp Sub.rfl) (Sub.bool ?_)
    rw [← validR_eq]; simp only [validR, *]; simp
  · try simp only [decide_eq_true_eq, decide_eq_false_iff_not, Bool.and_eq_true, Bool.or_eq_true, Bool.and_eq_false_iff, Bool.or_eq_false_iff, Bool.not_eq_true', Bool.not_eq_false', Int.not_lt, Int.not_le, Bool.not_true, Bool.not_false] at hc1
    refine J_seq ?_
    refine J_region ?_
    refine JL_step rfl rfl rfl (step_eql Sub.rfl Sub.rfl) ?_
    refine JL_step rfl rfl rfl (step_assign Sub.rfl) ?_
    refine JL_nil ?_
    refine J_cond Sub.rfl (fun hc2 => ?_) (fun hc2 => ?_)
    · try simp only [decide_eq_true_eq, decide_eq_false_iff_not, Bool.and_eq_true, Bool.or_eq_true, Bool.and_eq_false_iff, Bool.or_eq_false_iff, Bool.not_eq_true', Bool.not_eq_false', Int.not_lt, Int.not_le, Bool.not_true, Bool.not_false] at hc2
      refine J_seq ?_
      refine J_region ?_
      refine JL_step rfl rfl rfl (step_fieldAddr so47 Sub.rfl rfl) ?_
      refine JL_step rfl rfl rfl (step_load_ptr ty3 Sub.rfl) ?_
      refine JL_step rfl rfl rfl (step_eql Sub.rfl Sub.rfl) ?_
      refine JL_step rfl rfl rfl (step_move Sub.rfl) ?_
      refine JL_stepG rfl rfl rfl (Gd.plain Sub.rfl) rfl rfl (fun hw => step_fieldAddr so47 Sub.rfl rfl) ?_
      refine JL_stepG rfl rfl rfl (Gd.plain Sub.rfl) rfl rfl (fun hw => step_load_ptr ty9 (Sub.w hw)) ?_
      refine JL_stepG rfl rfl rfl (Gd.plain Sub.rfl) rfl rfl (fun hw => step_len_str Tryz.underlying9 (Sub.w hw)) ?_
      refine JL_stepG rfl rfl rfl (Gd.plain Sub.rfl) rfl rfl (fun hw => step_leq (Sub.w hw) Sub.rfl) ?_
      refine JL_step rfl rfl rfl (step_pick_and Sub.rfl Sub.rfl) ?_
      refine JL_step rfl rfl rfl (step_assign Sub.rfl) ?_
      refine JL_nil ?_
      refine J_ret ?_
      refine K_retv (rv := .tmp 2) rfl () (.tmp Sub.rfl) (Sub.bool ?_)
      rw [← validR_eq]; simp only [validR, *]; simp
    · try simp only [decide_eq_true_eq, decide_eq_false_iff_not, Bool.and_eq_true, Bool.or_eq_true, Bool.and_eq_false_iff, Bool.or_eq_false_iff, Bool.not_eq_true', Bool.not_eq_false', Int.not_lt, Int.not_le, Bool.not_true, Bool.not_false] at hc2
      refine J_seq ?_
      refine J_region ?_
      refine JL_step rfl rfl rfl (step_eql Sub.rfl Sub.rfl) ?_
      refine JL_step rfl rfl rfl (step_assign Sub.rfl) ?_
      refine JL_nil ?_
      refine J_cond Sub.rfl (fun hc3 => ?_) (fun hc3 => ?_)
      · try simp only [decide_eq_true_eq, decide_eq_false_iff_not, Bool.and_eq_true, Bool.or_eq_true, Bool.and_eq_false_iff, Bool.or_eq_false_iff, Bool.not_eq_true', Bool.not_eq_false', Int.not_lt, Int.not_le, Bool.not_true, Bool.not_false] at hc3
        refine J_seq ?_
        refine J_region ?_
        refine JL_step rfl rfl rfl (step_fieldAddr so47 Sub.rfl rfl) ?_
        refine JL_step rfl rfl rfl (step_load_ptr ty3 Sub.rfl) ?_
        refine JL_step rfl rfl rfl (step_geq Sub.rfl Sub.rfl) ?_
        refine JL_step rfl rfl rfl (step_move Sub.rfl) ?_
        refine JL_stepG rfl rfl rfl (Gd.plain Sub.rfl) rfl rfl (fun hw => step_fieldAddr so47 Sub.rfl rfl) ?_
        refine JL_stepG rfl rfl rfl (Gd.plain Sub.rfl) rfl rfl (fun hw => step_load_ptr ty3 (Sub.w hw)) ?_
        refine JL_stepG rfl rfl rfl (Gd.plain Sub.rfl) rfl rfl (fun hw => step_leq (Sub.w hw) Sub.rfl) ?_
        refine JL_step rfl rfl rfl (step_pick_and Sub.rfl Sub.rfl) ?_
        refine JL_step rfl rfl rfl (step_move Sub.rfl) ?_
        refine JL_stepG rfl rfl rfl (Gd.plain Sub.rfl) rfl rfl (fun hw => step_fieldAddr so47 Sub.rfl rfl) ?_
        refine JL_stepG rfl rfl rfl (Gd.plain Sub.rfl) rfl rfl (fun hw => step_load_ptr ty9 (Sub.w hw)) ?_
        refine JL_stepG rfl rfl rfl (Gd.plain Sub.rfl) rfl rfl (fun hw => step_eql_str (Sub.w hw) Sub.rfl) ?_
        refine JL_step rfl rfl rfl (step_pick_and Sub.rfl Sub.rfl) ?_
        refine JL_step rfl rfl rfl (step_assign Sub.rfl) ?_
        refine JL_nil ?_
        refine J_ret ?_
        refine K_retv (rv := .tmp 2) rfl () (.tmp Sub.rfl) (Sub.bool ?_)
        rw [← validR_eq]; simp only [validR, *]; simp
      · try simp only [decide_eq_true_eq, decide_eq_false_iff_not, Bool.and_eq_true, Bool.or_eq_true, Bool.and_eq_false_iff, Bool.or_eq_false_iff, Bool.not_eq_true', Bool.not_eq_false', Int.not_lt, Int.not_le, Bool.not_true, Bool.not_false] at hc3
        refine J_seq ?_
        refine J_region ?_
        refine JL_step rfl rfl rfl (step_eql Sub.rfl Sub.rfl) ?_
        refine JL_step rfl rfl rfl (step_assign Sub.rfl) ?_
        refine JL_nil ?_
        refine J_cond Sub.rfl (fun hc4 => ?_) (fun hc4 => ?_)
        · try simp only [decide_eq_true_eq, decide_eq_false_iff_not, Bool.and_eq_true, Bool.or_eq_true, Bool.and_eq_false_iff, Bool.or_eq_false_iff, Bool.not_eq_true', Bool.not_eq_false', Int.not_lt, Int.not_le, Bool.not_true, Bool.not_false] at hc4
          refine J_seq ?_
          refine J_region ?_
          refine JL_step rfl rfl rfl (step_fieldAddr so47 Sub.rfl rfl) ?_
          refine JL_step rfl rfl rfl (step_load_ptr ty3 Sub.rfl) ?_
          refine JL_step rfl rfl rfl (step_geq Sub.rfl Sub.rfl) ?_
          refine JL_step rfl rfl rfl (step_move Sub.rfl) ?_
          refine JL_stepG rfl rfl rfl (Gd.plain Sub.rfl) rfl rfl (fun hw => step_fieldAddr so47 Sub.rfl rfl) ?_
          refine JL_stepG rfl rfl rfl (Gd.plain Sub.rfl) rfl rfl (fun hw => step_load_ptr ty3 (Sub.w hw)) ?_
          refine JL_stepG rfl rfl rfl (Gd.plain Sub.rfl) rfl rfl (fun hw => step_leq (Sub.w hw) Sub.rfl) ?_
          refine JL_step rfl rfl rfl (step_pick_and Sub.rfl Sub.rfl) ?_
          refine JL_step rfl rfl rfl (step_move Sub.rfl) ?_
          refine JL_stepG rfl rfl rfl (Gd.plain Sub.rfl) rfl rfl (fun hw => step_fieldAddr so47 Sub.rfl rfl) ?_
          refine JL_stepG rfl rfl rfl (Gd.plain Sub.rfl) rfl rfl (fun hw => step_load_ptr ty9 (Sub.w hw)) ?_
          refine JL_stepG rfl rfl rfl (Gd.plain Sub.rfl) rfl rfl (fun hw => step_eql_str (Sub.w hw) Sub.rfl) ?_
          refine JL_step rfl rfl rfl (step_pick_and Sub.rfl Sub.rfl) ?_
          refine JL_step rfl rfl rfl (step_assign Sub.rfl) ?_
          refine JL_nil ?_
          refine J_ret ?_
          refine K_retv (rv := .tmp 2) rfl () (.tmp Sub.rfl) (Sub.bool ?_)
          rw [← validR_eq]; simp only [validR, *]; simp
        · try simp only [decide_eq_true_eq, decide_eq_false_iff_not, Bool.and_eq_true, Bool.or_eq_true, Bool.and_eq_false_iff, Bool.or_eq_false_iff, Bool.not_eq_true', Bool.not_eq_false', Int.not_lt, Int.not_le, Bool.not_true, Bool.not_false] at hc4
          refine J_seq ?_
          refine J_region ?_
          refine JL_step rfl rfl rfl (step_eql Sub.rfl Sub.rfl) ?_
          refine JL_step rfl rfl rfl (step_assign Sub.rfl) ?_
          refine JL_nil ?_
          refine J_cond Sub.rfl (fun hc5 => ?_) (fun hc5 => ?_)
          · try simp only [decide_eq_true_eq, decide_eq_false_iff_not, Bool.and_eq_true, Bool.or_eq_true, Bool.and_eq_false_iff, Bool.or_eq_false_iff, Bool.not_eq_true', Bool.not_eq_false', Int.not_lt, Int.not_le, Bool.not_true, Bool.not_false] at hc5
            refine J_seq ?_
            refine J_region ?_
            refine JL_step rfl rfl rfl (step_fieldAddr so47 Sub.rfl rfl) ?_
            refine JL_step rfl rfl rfl (step_load_ptr ty3 Sub.rfl) ?_
            refine JL_step rfl rfl rfl (step_eql Sub.rfl Sub.rfl) ?_
            refine JL_step rfl rfl rfl (step_move Sub.rfl) ?_
            refine JL_stepG rfl rfl rfl (Gd.plain Sub.rfl) rfl rfl (fun hw => step_fieldAddr so47 Sub.rfl rfl) ?_
            refine JL_stepG rfl rfl rfl (Gd.plain Sub.rfl) rfl rfl (fun hw => step_load_ptr ty3 (Sub.w hw)) ?_
            refine JL_stepG rfl rfl rfl (Gd.plain Sub.rfl) rfl rfl (fun hw => step_eql (Sub.w hw) Sub.rfl) ?_
            refine JL_step rfl rfl rfl (step_pick_or Sub.rfl Sub.rfl) ?_
            refine JL_step rfl rfl rfl (step_move Sub.rfl) ?_
            refine JL_stepG rfl rfl rfl (Gd.plain Sub.rfl) rfl rfl (fun hw => step_fieldAddr so47 Sub.rfl rfl) ?_
            refine JL_stepG rfl rfl rfl (Gd.plain Sub.rfl) rfl rfl (fun hw => step_load_ptr ty9 (Sub.w hw)) ?_
            refine JL_stepG rfl rfl rfl (Gd.plain Sub.rfl) rfl rfl (fun hw => step_eql_str (Sub.w hw) Sub.rfl) ?_
            refine JL_step rfl rfl rfl (step_pick_and Sub.rfl Sub.rfl) ?_
            refine JL_step rfl rfl rfl (step_assign Sub.rfl) ?_
            refine JL_nil ?_
            refine J_ret ?_
            refine K_retv (rv := .tmp 2) rfl () (.tmp Sub.rfl) (Sub.bool ?_)
            rw [← validR_eq]; simp only [validR, *]; simp
          · try simp only [decide_eq_true_eq, decide_eq_false_iff_not, Bool.and_eq_true, Bool.or_eq_true, Bool.and_eq_false_iff, Bool.or_eq_false_iff, Bool.not_eq_true', Bool.not_eq_false', Int.not_lt, Int.not_le, Bool.not_true, Bool.not_false] at hc5
            refine J_skip ?_
            refine J_seq ?_
            refine J_region ?_
            refine JL_step rfl rfl rfl (step_assign Sub.rfl) ?_
            refine JL_nil ?_
            refine J_ret ?_
            refine K_retv (rv := .tmp 2) rfl () (.tmp Sub.rfl) (Sub.bool ?_)
            rw [← validR_eq]; simp only [validR, *]; simp
theorem digits0_spec (n : Nat) (hn : n ≤ 9223372036854775808) (ih : ∀ m, m < n → Fun1 Tryz.prog 107 [tV (.int .u64 (m : Int))] (tV (.string (digB m)))) : Fun1 Tryz.prog 107 [tV (.int .u64 (n : Int))] (tV (.string (digB n))) := by
  refine Spec.enter Tryz.func107 rfl rfl fun h0 w0 fr0 => ?_
  refine J_seq ?_
  refine J_region ?_
  refine JL_step rfl rfl rfl (step_assign Sub.rfl) ?_
  refine JL_nil ?_
  refine J_seq ?_
  refine J_seq ?_
  refine J_region ?_
  refine JL_step rfl rfl rfl (step_move Sub.rfl) ?_
  refine JL_step rfl rfl rfl (step_lss Sub.rfl Sub.rfl) ?_
  refine JL_nil ?_
  refine J_cond Sub.rfl (fun h4 => ?_) (fun h4 => ?_)
  · try simp only [decide_eq_true_eq, decide_eq_false_iff_not, Bool.and_eq_true, Bool.or_eq_true, Bool.and_eq_false_iff, Bool.or_eq_false_iff, Bool.not_eq_true', Bool.not_eq_false', Int.not_lt, Int.not_le, Bool.not_true, Bool.not_false] at h4
    refine J_seq ?_
    refine J_region ?_
    refine JL_step rfl rfl rfl (step_move Sub.rfl) ?_
    refine JL_step rfl rfl rfl (step_move Sub.rfl) ?_
    refine JL_step rfl rfl rfl (step_addU Sub.rfl Sub.rfl (by omega)) ?_
    refine JL_step rfl rfl rfl (step_slice_str (s := tens) (i := n) (j := n + 1) Tryz.underlying9 Sub.rfl Sub.rfl Sub.rfl rfl (by omega) (by omega) (by show n + 1 ≤ 10; omega)) ?_
    refine JL_step rfl rfl rfl (step_assign Sub.rfl) ?_
    refine JL_nil ?_
    refine J_ret ?_
    refine K_retv (rv := .tmp 2) rfl () (.tmp Sub.rfl) (Sub.v (congrArg Value.string ?_))
    exact (digB_small (by omega)).symm
  · try simp only [decide_eq_true_eq, decide_eq_false_iff_not, Bool.and_eq_true, Bool.or_eq_true, Bool.and_eq_false_iff, Bool.or_eq_false_iff, Bool.not_eq_true', Bool.not_eq_false', Int.not_lt, Int.not_le, Bool.not_true, Bool.not_false] at h4
    have hds := digB_size (n := n / 10) (by omega)
    have hes : (tens.extract (n % 10) (n % 10 + 1)).size ≤ 10 := by rw [ByteArray.size_extract]; have : tens.size = 10 := rfl; omega
    refine J_skip ?_
    refine J_seq ?_
    refine J_draw [⟨0, [0], true⟩, ⟨1, [9], true⟩, ⟨2, [10], true⟩, ⟨3, [0], true⟩, ⟨4, [12], true⟩, ⟨5, [0], true⟩, ⟨6, [14], true⟩, ⟨7, [15], true⟩, ⟨8, [13, 16], true⟩, ⟨9, [11, 17], true⟩, ⟨10, [18], true⟩] rfl (by kernel_rfl) ?_
    refine JM_step rfl rfl rfl rfl (fun _ => step_move Sub.rfl) ?_
    refine JM_step rfl rfl rfl rfl (fun _ => step_quoU Sub.rfl Sub.rfl (by omega) (by decide) (by omega)) ?_
    refine JM_step rfl rfl rfl rfl (fun _ => step_call0 (ih (n / 10) (by omega)) ⟨Sub.int (by omega), trivial⟩ Tryz.call107) ?_
    refine JM_step rfl rfl rfl rfl (fun _ => step_move Sub.rfl) ?_
    refine JM_step rfl rfl rfl rfl (fun _ => step_remU Sub.rfl Sub.rfl (by omega) (by decide) (by omega)) ?_
    refine JM_step rfl rfl rfl rfl (fun _ => step_move Sub.rfl) ?_
    refine JM_step rfl rfl rfl rfl (fun _ => step_remU Sub.rfl Sub.rfl (by omega) (by decide) (by omega)) ?_
    refine JM_step rfl rfl rfl rfl (fun _ => step_addU Sub.rfl Sub.rfl (by omega)) ?_
    refine JM_step rfl rfl rfl rfl (fun _ => step_slice_str (s := tens) (i := n % 10) (j := n % 10 + 1) Tryz.underlying9 Sub.rfl Sub.rfl Sub.rfl (by omega) (by omega) (by omega) (by show n % 10 + 1 ≤ 10; omega)) ?_
    refine JM_step rfl rfl rfl rfl (fun _ => step_add_str Sub.rfl Sub.rfl ?sg1) ?_
    case sg1 => omega
    refine JM_step rfl rfl rfl rfl (fun _ => step_assign Sub.rfl) ?_
    refine JM_nil ?_
    refine J_ret ?_
    refine K_retv (rv := .tmp 2) rfl () (.tmp Sub.rfl) (Sub.v (congrArg Value.string ?_))
    exact (digB_big (by omega)).symm
theorem digits_spec (n : Nat) (hn : n ≤ 9223372036854775808) : Fun1 Tryz.prog 107 [tV (.int .u64 (n : Int))] (tV (.string (digB n))) := by
  induction n using Nat.strongRecOn with
  | _ n ih => exact digits0_spec n hn (fun m hm => ih m hm (by omega))

theorem Decimal_spec (n : Int) (hn : -9223372036854775808 ≤ n ∧ n ≤ 9223372036854775807) : Fun1 Tryz.prog 72 [tV (.int .i64 n)] (tV (.string (itoaB n))) := by
  refine Spec.enter Tryz.func72 rfl rfl fun h0 w0 fr0 => ?_
  refine J_seq ?_
  refine J_region ?_
  refine JL_step rfl rfl rfl (step_assign Sub.rfl) ?_
  refine JL_nil ?_
  refine J_seq ?_
  refine J_seq ?_
  refine J_region ?_
  refine JL_step rfl rfl rfl (step_move Sub.rfl) ?_
  refine JL_step rfl rfl rfl (step_lss Sub.rfl Sub.rfl) ?_
  refine JL_nil ?_
  refine J_cond Sub.rfl (fun h4 => ?_) (fun h4 => ?_)
  · try simp only [decide_eq_true_eq, decide_eq_false_iff_not, Bool.and_eq_true, Bool.or_eq_true, Bool.and_eq_false_iff, Bool.or_eq_false_iff, Bool.not_eq_true', Bool.not_eq_false', Int.not_lt, Int.not_le, Bool.not_true, Bool.not_false] at h4
    have hds := digB_size (n := n.natAbs) (by omega)
    refine J_seq ?_
    refine J_region ?_
    refine JL_step rfl rfl rfl (step_move Sub.rfl) ?_
    refine JL_step rfl rfl rfl (step_convert_int (m := n + 18446744073709551616) Tryz.underlying3 Tryz.underlying158 Sub.rfl ?sg1) ?_
    case sg1 => simp [IntKind.wrap, IntKind.bits, IntKind.signed]; omega
    refine JL_step rfl rfl rfl (step_negU (m := -n) Sub.rfl (by simp [IntKind.wrap, IntKind.bits, IntKind.signed]; omega)) ?_
    refine JL_step rfl rfl rfl (step_call0 (digits_spec n.natAbs (by omega)) ⟨Sub.int (by omega), trivial⟩ Tryz.call107) ?_
    refine JL_step rfl rfl rfl (step_add_str Sub.rfl Sub.rfl ?sg1) ?_
    case sg1 => have : (⟨#[45]⟩ : ByteArray).size = 1 := rfl; omega
    refine JL_step rfl rfl rfl (step_assign Sub.rfl) ?_
    refine JL_nil ?_
    refine J_ret ?_
    refine K_retv (rv := .tmp 2) rfl () (.tmp Sub.rfl) (Sub.v (congrArg Value.string ?_))
    exact (itoa_neg h4).symm
  · try simp only [decide_eq_true_eq, decide_eq_false_iff_not, Bool.and_eq_true, Bool.or_eq_true, Bool.and_eq_false_iff, Bool.or_eq_false_iff, Bool.not_eq_true', Bool.not_eq_false', Int.not_lt, Int.not_le, Bool.not_true, Bool.not_false] at h4
    refine J_skip ?_
    refine J_seq ?_
    refine J_region ?_
    refine JL_step rfl rfl rfl (step_move Sub.rfl) ?_
    refine JL_step rfl rfl rfl (step_convert_int (m := n) Tryz.underlying3 Tryz.underlying158 Sub.rfl ?sg1) ?_
    case sg1 => simp [IntKind.wrap, IntKind.bits, IntKind.signed]; omega
    refine JL_step rfl rfl rfl (step_call0 (digits_spec n.toNat (by omega)) ⟨Sub.int (by omega), trivial⟩ Tryz.call107) ?_
    refine JL_step rfl rfl rfl (step_assign Sub.rfl) ?_
    refine JL_nil ?_
    refine J_ret ?_
    refine K_retv (rv := .tmp 2) rfl () (.tmp Sub.rfl) (Sub.v (congrArg Value.string ?_))
    exact (itoa_dig h4).symm
theorem TextR_spec (v : GValue) (hk : v.Kind ≠ 1) : Fun1 Tryz.prog 68 [rValue.ty v] (tV (.string (textV v))) := by
  refine Spec.enter Tryz.func68 rfl rfl fun h0 w0 fr0 => ?_
  refine J_seq ?_
  refine J_region ?_
  refine JL_step rfl rfl rfl (step_box (R := rValue) Sub.rfl) ?_
  refine JL_step rfl rfl rfl (step_assign Sub.rfl) ?_
  refine JL_nil ?_
  refine J_seq ?_
  refine J_seq ?_
  refine J_region ?_
  refine JL_step rfl rfl rfl (step_load_ptr ty47 Sub.rfl) ?_
  refine JL_step rfl rfl rfl (step_call0 (ValidR_spec _) ⟨Sub.rfl, trivial⟩ Tryz.call104) ?_
  refine JL_step rfl rfl rfl (step_not Sub.rfl) ?_
  refine JL_nil ?_
  refine J_cond Sub.rfl (fun h5 => ?_) (fun h5 => ?_)
  · try simp only [decide_eq_true_eq, decide_eq_false_iff_not, Bool.and_eq_true, Bool.or_eq_true, Bool.and_eq_false_iff, Bool.or_eq_false_iff, Bool.not_eq_true', Bool.not_eq_false', Int.not_lt, Int.not_le, Bool.not_true, Bool.not_false] at h5
    refine J_seq ?_
    refine J_region ?_
    refine JL_step rfl rfl rfl (step_assign Sub.rfl) ?_
    refine JL_nil ?_
    refine J_ret ?_
    refine K_retv (rv := .tmp 2) rfl () (.tmp Sub.rfl) (Sub.v (congrArg Value.string ?_))
    have : validV v = false := by simpa using h5
    rw [textV, if_pos this]
  · try simp only [decide_eq_true_eq, decide_eq_false_iff_not, Bool.and_eq_true, Bool.or_eq_true, Bool.and_eq_false_iff, Bool.or_eq_false_iff, Bool.not_eq_true', Bool.not_eq_false', Int.not_lt, Int.not_le, Bool.not_true, Bool.not_false] at h5
    have hvv : validV v = true := by simpa using h5
    have hn := valid_N hvv
    have hNr : -9223372036854775808 ≤ v.N ∧ v.N ≤ 9223372036854775807 := by omega
    have his := itoaB_size hNr
    refine J_skip ?_
    refine J_seq ?_
    refine J_seq ?_
    refine J_region ?_
    refine JL_step rfl rfl rfl (step_fieldAddr so47 Sub.rfl rfl) ?_
    refine JL_step rfl rfl rfl (step_load_ptr ty3 Sub.rfl) ?_
    refine JL_nil ?_
    refine J_block ?_
    refine J_seq ?_
    refine J_region ?_
    refine JL_step rfl rfl rfl (step_eql Sub.rfl Sub.rfl) ?_
    refine JL_step rfl rfl rfl (step_assign Sub.rfl) ?_
    refine JL_nil ?_
    refine J_cond Sub.rfl (fun h8 => ?_) (fun h8 => ?_)
    · try simp only [decide_eq_true_eq, decide_eq_false_iff_not, Bool.and_eq_true, Bool.or_eq_true, Bool.and_eq_false_iff, Bool.or_eq_false_iff, Bool.not_eq_true', Bool.not_eq_false', Int.not_lt, Int.not_le, Bool.not_true, Bool.not_false] at h8
      exact absurd h8 hk
    · try simp only [decide_eq_true_eq, decide_eq_false_iff_not, Bool.and_eq_true, Bool.or_eq_true, Bool.and_eq_false_iff, Bool.or_eq_false_iff, Bool.not_eq_true', Bool.not_eq_false', Int.not_lt, Int.not_le, Bool.not_true, Bool.not_false] at h8
      refine J_seq ?_
      refine J_region ?_
      refine JL_step rfl rfl rfl (step_eql Sub.rfl Sub.rfl) ?_
      refine JL_step rfl rfl rfl (step_assign Sub.rfl) ?_
      refine JL_nil ?_
      refine J_cond Sub.rfl (fun h13 => ?_) (fun h13 => ?_)
      · try simp only [decide_eq_true_eq, decide_eq_false_iff_not, Bool.and_eq_true, Bool.or_eq_true, Bool.and_eq_false_iff, Bool.or_eq_false_iff, Bool.not_eq_true', Bool.not_eq_false', Int.not_lt, Int.not_le, Bool.not_true, Bool.not_false] at h13
        refine J_seq ?_
        refine J_region ?_
        refine JL_step rfl rfl rfl (step_fieldAddr so47 Sub.rfl rfl) ?_
        refine JL_step rfl rfl rfl (step_load_ptr ty3 Sub.rfl) ?_
        refine JL_step rfl rfl rfl (step_call0 (Decimal_spec v.N hNr) ⟨Sub.rfl, trivial⟩ Tryz.call72) ?_
        refine JL_step rfl rfl rfl (step_assign Sub.rfl) ?_
        refine JL_nil ?_
        refine J_ret ?_
        refine K_retv (rv := .tmp 2) rfl () (.tmp Sub.rfl) (Sub.v (congrArg Value.string ?_))
        first | (simp [textV, *]; done) | (simp [textV, *]; rfl) | (simp [textV, boolB, *]; done) | (simp [textV, boolB, *]; rfl)
      · try simp only [decide_eq_true_eq, decide_eq_false_iff_not, Bool.and_eq_true, Bool.or_eq_true, Bool.and_eq_false_iff, Bool.or_eq_false_iff, Bool.not_eq_true', Bool.not_eq_false', Int.not_lt, Int.not_le, Bool.not_true, Bool.not_false] at h13
        refine J_seq ?_
        refine J_region ?_
        refine JL_step rfl rfl rfl (step_eql Sub.rfl Sub.rfl) ?_
        refine JL_step rfl rfl rfl (step_assign Sub.rfl) ?_
        refine JL_nil ?_
        refine J_cond Sub.rfl (fun h18 => ?_) (fun h18 => ?_)
        · try simp only [decide_eq_true_eq, decide_eq_false_iff_not, Bool.and_eq_true, Bool.or_eq_true, Bool.and_eq_false_iff, Bool.or_eq_false_iff, Bool.not_eq_true', Bool.not_eq_false', Int.not_lt, Int.not_le, Bool.not_true, Bool.not_false] at h18
          refine J_seq ?_
          refine J_region ?_
          refine JL_step rfl rfl rfl (step_fieldAddr so47 Sub.rfl rfl) ?_
          refine JL_step rfl rfl rfl (step_load_ptr ty3 Sub.rfl) ?_
          refine JL_step rfl rfl rfl (step_call0 (Decimal_spec v.N hNr) ⟨Sub.rfl, trivial⟩ Tryz.call72) ?_
          refine JL_step rfl rfl rfl (step_add_str Sub.rfl Sub.rfl ?sg1) ?_
          case sg1 => have : (⟨#[64]⟩ : ByteArray).size = 1 := rfl; omega
          refine JL_step rfl rfl rfl (step_assign Sub.rfl) ?_
          refine JL_nil ?_
          refine J_ret ?_
          refine K_retv (rv := .tmp 2) rfl () (.tmp Sub.rfl) (Sub.v (congrArg Value.string ?_))
          first | (simp [textV, *]; done) | (simp [textV, *]; rfl) | (simp [textV, boolB, *]; done) | (simp [textV, boolB, *]; rfl)
        · try simp only [decide_eq_true_eq, decide_eq_false_iff_not, Bool.and_eq_true, Bool.or_eq_true, Bool.and_eq_false_iff, Bool.or_eq_false_iff, Bool.not_eq_true', Bool.not_eq_false', Int.not_lt, Int.not_le, Bool.not_true, Bool.not_false] at h18
          refine J_seq ?_
          refine J_region ?_
          refine JL_step rfl rfl rfl (step_eql Sub.rfl Sub.rfl) ?_
          refine JL_step rfl rfl rfl (step_assign Sub.rfl) ?_
          refine JL_nil ?_
          refine J_cond Sub.rfl (fun h24 => ?_) (fun h24 => ?_)
          · try simp only [decide_eq_true_eq, decide_eq_false_iff_not, Bool.and_eq_true, Bool.or_eq_true, Bool.and_eq_false_iff, Bool.or_eq_false_iff, Bool.not_eq_true', Bool.not_eq_false', Int.not_lt, Int.not_le, Bool.not_true, Bool.not_false] at h24
            refine J_seq ?_
            refine J_seq ?_
            refine J_region ?_
            refine JL_step rfl rfl rfl (step_fieldAddr so47 Sub.rfl rfl) ?_
            refine JL_step rfl rfl rfl (step_load_ptr ty3 Sub.rfl) ?_
            refine JL_step rfl rfl rfl (step_eql Sub.rfl Sub.rfl) ?_
            refine JL_nil ?_
            refine J_cond Sub.rfl (fun h28 => ?_) (fun h28 => ?_)
            · try simp only [decide_eq_true_eq, decide_eq_false_iff_not, Bool.and_eq_true, Bool.or_eq_true, Bool.and_eq_false_iff, Bool.or_eq_false_iff, Bool.not_eq_true', Bool.not_eq_false', Int.not_lt, Int.not_le, Bool.not_true, Bool.not_false] at h28
              refine J_seq ?_
              refine J_region ?_
              refine JL_step rfl rfl rfl (step_assign Sub.rfl) ?_
              refine JL_nil ?_
              refine J_ret ?_
              refine K_retv (rv := .tmp 2) rfl () (.tmp Sub.rfl) (Sub.v (congrArg Value.string ?_))
              first | (simp [textV, *]; done) | (simp [textV, *]; rfl) | (simp [textV, boolB, *]; done) | (simp [textV, boolB, *]; rfl)
            · try simp only [decide_eq_true_eq, decide_eq_false_iff_not, Bool.and_eq_true, Bool.or_eq_true, Bool.and_eq_false_iff, Bool.or_eq_false_iff, Bool.not_eq_true', Bool.not_eq_false', Int.not_lt, Int.not_le, Bool.not_true, Bool.not_false] at h28
              refine J_skip ?_
              refine J_seq ?_
              refine J_region ?_
              refine JL_step rfl rfl rfl (step_assign Sub.rfl) ?_
              refine JL_nil ?_
              refine J_ret ?_
              refine K_retv (rv := .tmp 2) rfl () (.tmp Sub.rfl) (Sub.v (congrArg Value.string ?_))
              first | (simp [textV, *]; done) | (simp [textV, *]; rfl) | (simp [textV, boolB, *]; done) | (simp [textV, boolB, *]; rfl)
          · try simp only [decide_eq_true_eq, decide_eq_false_iff_not, Bool.and_eq_true, Bool.or_eq_true, Bool.and_eq_false_iff, Bool.or_eq_false_iff, Bool.not_eq_true', Bool.not_eq_false', Int.not_lt, Int.not_le, Bool.not_true, Bool.not_false] at h24
            refine J_skip ?_
            refine J_seq ?_
            refine J_region ?_
            refine JL_step rfl rfl rfl (step_assign Sub.rfl) ?_
            refine JL_nil ?_
            refine J_ret ?_
            refine K_retv (rv := .tmp 2) rfl () (.tmp Sub.rfl) (Sub.v (congrArg Value.string ?_))
            first | (simp [textV, *]; done) | (simp [textV, *]; rfl) | (simp [textV, boolB, *]; done) | (simp [textV, boolB, *]; rfl)
theorem text19_spec (v : GValue) : Fun1 Tryz.prog 36 [rValue.ty v] (tTup [tV (.string (txtM v)), tV (.bool (!decide (v.Kind = 0)))]) := by
  refine Spec.enter Tryz.func36 rfl rfl fun h0 w0 fr0 => ?_
  refine J_seq ?_
  refine J_region ?_
  refine JL_step rfl rfl rfl (step_box (R := rValue) Sub.rfl) ?_
  refine JL_step rfl rfl rfl (step_assign Sub.rfl) ?_
  refine JL_step rfl rfl rfl (step_assign Sub.rfl) ?_
  refine JL_nil ?_
  refine J_seq ?_
  refine J_seq ?_
  refine J_region ?_
  refine JL_step rfl rfl rfl (step_fieldAddr so47 Sub.rfl rfl) ?_
  refine JL_step rfl rfl rfl (step_load_ptr ty3 Sub.rfl) ?_
  refine JL_step rfl rfl rfl (step_eql Sub.rfl Sub.rfl) ?_
  refine JL_nil ?_
  refine J_cond Sub.rfl (fun h6 => ?_) (fun h6 => ?_)
  · try simp only [decide_eq_true_eq, decide_eq_false_iff_not, Bool.and_eq_true, Bool.or_eq_true, Bool.and_eq_false_iff, Bool.or_eq_false_iff, Bool.not_eq_true', Bool.not_eq_false', Int.not_lt, Int.not_le, Bool.not_true, Bool.not_false] at h6
    refine J_seq ?_
    refine J_region ?_
    refine JL_step rfl rfl rfl (step_fieldAddr so47 Sub.rfl rfl) ?_
    refine JL_step rfl rfl rfl (step_load_ptr ty9 Sub.rfl) ?_
    refine JL_step rfl rfl rfl (step_assign Sub.rfl) ?_
    refine JL_step rfl rfl rfl (step_assign Sub.rfl) ?_
    refine JL_nil ?_
    refine J_ret ?_
    refine K_ret2' (rv := .tmp 2) (rv' := .tmp 3) rfl () (Sel.all _) (.tmp Sub.rfl) (.tmp Sub.rfl) (Frz.sub (Sub.v (congrArg Value.string ?_))) (Frz.sub (Sub.bool ?_)) Sub.rfl
    · rw [txtM, if_pos h6]
    · symm; simp; omega
  · try simp only [decide_eq_true_eq, decide_eq_false_iff_not, Bool.and_eq_true, Bool.or_eq_true, Bool.and_eq_false_iff, Bool.or_eq_false_iff, Bool.not_eq_true', Bool.not_eq_false', Int.not_lt, Int.not_le, Bool.not_true, Bool.not_false] at h6
    refine J_skip ?_
    refine J_seq ?_
    refine J_draw [⟨0, [1], true⟩, ⟨1, [9], true⟩, ⟨2, [1], true⟩, ⟨3, [11], true⟩, ⟨4, [12], true⟩, ⟨5, [10], true⟩, ⟨6, [13], true⟩] rfl (by kernel_rfl) ?_
    refine JM_step rfl rfl rfl rfl (fun _ => step_load_ptr ty47 Sub.rfl) ?_
    refine JM_step rfl rfl rfl rfl (fun _ => step_call0 (TextR_spec v h6) ⟨Sub.rfl, trivial⟩ Tryz.call68) ?_
    refine JM_step rfl rfl rfl rfl (fun _ => step_fieldAddr so47 Sub.rfl rfl) ?_
    refine JM_step rfl rfl rfl rfl (fun _ => step_load_ptr ty3 Sub.rfl) ?_
    refine JM_step rfl rfl rfl rfl (fun _ => step_neq Sub.rfl Sub.rfl) ?_
    refine JM_step rfl rfl rfl rfl (fun _ => step_assign Sub.rfl) ?_
    refine JM_step rfl rfl rfl rfl (fun _ => step_assign Sub.rfl) ?_
    refine JM_nil ?_
    refine J_ret ?_
    refine K_ret2' (rv := .tmp 2) (rv' := .tmp 3) rfl () (Sel.all _) (.tmp Sub.rfl) (.tmp Sub.rfl) (Frz.sub (Sub.v (congrArg Value.string ?_))) (Frz.sub Sub.rfl) Sub.rfl
    rw [txtM, if_neg h6]
end Lg

namespace Lg
open Go Go.Proofs


theorem enc_small {n : Int} (h : 0 ≤ n ∧ n < 128) : Utf8.encode n = ofBytes [n] := by
  have hv : Utf8.valid n = true := by unfold Utf8.valid; simp; omega
  unfold Utf8.encode
  simp only [hv, if_true]
  rw [if_pos (by omega)]
  rfl
theorem ofBytes_snoc (a : List Int) (c : Int) : ofBytes a ++ ofBytes [c] = ofBytes (a ++ [c]) := by
  apply ByteArray.ext
  rw [ByteArray.data_append]
  simp [ofBytes]
section
variable {C : Cx} {E : Env} {L : List SP} {d : Option Nat} {ty : Nat} {pos : String} {af : Array Edge} {g : Option (Nat × Bool)}
theorem step_convert_rune {T U : Nat} {x : Operand} {k : IntKind} {n : Int} {td : TypeDesc} (ht : C.P.underlying T = some td) (hu : C.P.underlying U = some .string) (hx : Sub (opTy E x) (tV (.int k n))) (hn : 0 ≤ n ∧ n < 128) :
    Step1 C ⟨d, .convert T U x, ty, pos, af, g⟩ E L (tV (.string (ofBytes [n]))) :=
  Step.of_same (by intro c h; cases h) fun a w h hh f => by
    have hv : a.eval x = .int k n := f.get hx
    refine ⟨.string (ofBytes [n]), ?_, rfl⟩
    have := run_convert_int_string (P := C.P) w T U k n (by rw [ht]; rfl) hu
    simp [execOp, hv, this, enc_small hn]
end
theorem join_succ {ws : List ByteArray} {i : Nat} (h : i < ws.length) : joinB (ws.take (i + 1)) blank = if i = 0 then nth ws i else joinB (ws.take i) blank ++ blank ++ nth ws i := by
  have htail : ∀ (r : List (List UInt8)) (x : List UInt8) (sep : List UInt8), Lib.joinTail sep (r ++ [x]) = Lib.joinTail sep r ++ (sep ++ x) := fun r x sep => by simp [Lib.joinTail]
  split
  · rename_i h0
    subst h0
    obtain ⟨x, r, rfl⟩ : ∃ x r, ws = x :: r := by cases ws with | nil => simp at h | cons a b => exact ⟨a, b, rfl⟩
    unfold joinB
    simp only [List.take_succ_cons, List.take_zero, List.map_cons, List.map_nil, Lib.join_one, toB_ofB]
    rfl
  · rename_i h0
    obtain ⟨x, r, rfl⟩ : ∃ x r, ws = x :: r := by cases ws with | nil => simp at h | cons a b => exact ⟨a, b, rfl⟩
    obtain ⟨j, rfl⟩ : ∃ j, i = j + 1 := ⟨i - 1, by omega⟩
    have hj : j < r.length := by simpa using h
    have hn : nth (x :: r) (j + 1) = nth r j := by rw [nth_get h, nth_get hj]; rfl
    rw [hn]
    unfold joinB
    rw [List.take_succ_cons, List.take_succ_cons, takeB hj, List.map_cons, List.map_cons, List.map_append, Lib.join_cons, Lib.join_cons, List.map_cons, List.map_nil, htail]
    apply ByteArray.ext
    rw [ByteArray.data_append, ByteArray.data_append]
    simp
theorem sizes_take (ws : List ByteArray) (i : Nat) : sizes (ws.take i) ≤ sizes ws := by
  have := sizes_append (ws.take i) (ws.drop i)
  rw [List.take_append_drop] at this
  omega
theorem join_take_size (ws : List ByteArray) (i : Nat) : (joinB (ws.take i) blank).size ≤ sizes ws + ws.length := by
  have h1 := (joinB_size (ws.take i) blank).2
  have h2 := sizes_take ws i
  have h3 : blank.size = 1 := rfl
  have h4 : (ws.take i).length ≤ ws.length := by rw [List.length_take]; omega
  rw [h3, Nat.one_mul] at h1
  omega
/-- A new element put in its place. -/
def insK (o : List ByteArray) (k : Nat) (x : ByteArray) : List ByteArray := o.take k ++ [x] ++ o.drop k
theorem insK_mem {o : List ByteArray} {k : Nat} {x y : ByteArray} : y ∈ insK o k x ↔ y = x ∨ y ∈ o := by
  unfold insK
  rw [List.mem_append, List.mem_append, List.mem_singleton]
  conv => rhs; rw [← List.take_append_drop k o, List.mem_append]
  constructor
  · rintro ((h | h) | h)
    · exact .inr (.inl h)
    · exact .inl h
    · exact .inr (.inr h)
  · rintro (h | h | h)
    · exact .inl (.inr h)
    · exact .inl (.inl h)
    · exact .inr h
theorem insK_len (o : List ByteArray) (k : Nat) (x : ByteArray) : (insK o k x).length = o.length + 1 := by
  unfold insK; simp; omega
theorem insK_inc {o : List ByteArray} {k : Nat} {x : ByteArray} (ho : incB o) (hk : k ≤ o.length) (h1 : ∀ j, j < k → ofB (nth o j) < ofB x) (h2 : k < o.length → ofB x < ofB (nth o k)) : incB (insK o k x) := by
  have htake : ∀ a ∈ o.take k, ofB a < ofB x := fun a ha => by
    obtain ⟨j, hj, rfl⟩ := List.getElem_of_mem ha
    rw [List.length_take] at hj
    have := h1 j (by omega)
    rw [nth_get (by omega)] at this
    simpa using this
  have hdrop : ∀ b ∈ o.drop k, ofB x < ofB b := fun b hb => by
    obtain ⟨j, hj, rfl⟩ := List.getElem_of_mem hb
    rw [List.length_drop] at hj
    have h3 := h2 (by omega)
    rw [List.getElem_drop]
    by_cases e : j = 0
    · subst e; rw [nth_get (by omega)] at h3; exact h3
    · have := incB_nth ho (show k < k + j by omega) (by omega)
      rw [nth_get (show k + j < o.length by omega)] at this
      exact List.lt_trans h3 this
  unfold incB insK
  rw [List.append_assoc, List.pairwise_append]
  refine ⟨List.Pairwise.sublist (List.take_sublist _ _) ho, ?_, fun a ha b hb => ?_⟩
  · rw [List.singleton_append, List.pairwise_cons]
    exact ⟨hdrop, List.Pairwise.sublist (List.drop_sublist _ _) ho⟩
  · rw [List.singleton_append, List.mem_cons] at hb
    rcases hb with rfl | hb
    · exact htake a ha
    · exact List.lt_trans (htake a ha) (hdrop b hb)
theorem take_mem {l : List ByteArray} {i : Nat} (h : i < l.length) {y : ByteArray} : y ∈ l.take (i + 1) ↔ y ∈ l.take i ∨ y = nth l i := by
  rw [takeB h, List.mem_append, List.mem_singleton]
theorem sortedU {o l : List ByteArray} (ho : incB o) (hm : ∀ x, x ∈ o ↔ x ∈ l) : o = compS (sortS l) := incB_ext ho (compS_sortS l).1 fun x => by rw [hm, (compS_sortS l).2]
theorem comp_tok (s : ByteArray) : compS (sortS (wordsM s)) = tokM s := (sortedU (tok_inc s) fun x => tok_iff).symm

theorem nilC {α : Type} {R : Rp α} : Sub (tV (.slice none 0 0)) (tSlC R ([] : List α)) := fun h v e => ⟨Sub.nilsl h v e, fun ao len cap q => by
  have e : v = .slice none 0 0 := e
  rw [e] at q; injection q with _ q1 q2; omega⟩

theorem empty_app (x : ByteArray) (ws : List ByteArray := []) : joinB (ws.take 0) blank ++ x = x := by
  rw [List.take_zero, show joinB [] blank = ⟨#[]⟩ from rfl]
  apply ByteArray.ext
  rw [ByteArray.data_append]; simp

theorem LowerR_spec (c : Int) (hc : 0 ≤ c ∧ c < 256) : Fun1 Tryz.prog 106 [tV (.int .u8 c)] (tV (.int .u8 (lowI c))) := by
  refine Spec.enter Tryz.func106 rfl rfl fun h0 w0 fr0 => ?_
  refine J_seq ?_
  refine J_region ?_
  refine JL_step rfl rfl rfl (step_assign Sub.rfl) ?_
  refine JL_nil ?_
  refine J_seq ?_
  refine J_seq ?_
  refine J_region ?_
  refine JL_step rfl rfl rfl (step_move Sub.rfl) ?_
  refine JL_step rfl rfl rfl (step_geq Sub.rfl Sub.rfl) ?_
  refine JL_step rfl rfl rfl (step_move Sub.rfl) ?_
  refine JL_stepG rfl rfl rfl (Gd.plain Sub.rfl) rfl rfl (fun hw => step_move Sub.rfl) ?_
  refine JL_stepG rfl rfl rfl (Gd.plain Sub.rfl) rfl rfl (fun hw => step_leq (Sub.w hw) Sub.rfl) ?_
  refine JL_step rfl rfl rfl (step_pick_and Sub.rfl Sub.rfl) ?_
  refine JL_nil ?_
  refine J_cond Sub.rfl (fun h8 => ?_) (fun h8 => ?_)
  · try simp only [decide_eq_true_eq, decide_eq_false_iff_not, Bool.and_eq_true, Bool.or_eq_true, Bool.and_eq_false_iff, Bool.or_eq_false_iff, Bool.not_eq_true', Bool.not_eq_false', Int.not_lt, Int.not_le, Bool.not_true, Bool.not_false] at h8
    refine J_seq ?_
    refine J_region ?_
    refine JL_step rfl rfl rfl (step_move Sub.rfl) ?_
    refine JL_step rfl rfl rfl (step_add8 (m := c + 32) Sub.rfl Sub.rfl ?sg1) ?_
    case sg1 => simp [IntKind.wrap, IntKind.bits, IntKind.signed]; omega
    refine JL_step rfl rfl rfl (step_assign Sub.rfl) ?_
    refine JL_nil ?_
    refine J_ret ?_
    refine K_ret1 (t := 2) rfl () ?_
    refine Sub.v ?_
    simp [lowI, h8]
  · try simp only [decide_eq_true_eq, decide_eq_false_iff_not, Bool.and_eq_true, Bool.or_eq_true, Bool.and_eq_false_iff, Bool.or_eq_false_iff, Bool.not_eq_true', Bool.not_eq_false', Int.not_lt, Int.not_le, Bool.not_true, Bool.not_false] at h8
    refine J_skip ?_
    refine J_seq ?_
    refine J_seq ?_
    refine J_region ?_
    refine JL_step rfl rfl rfl (step_move Sub.rfl) ?_
    refine JL_step rfl rfl rfl (step_geq Sub.rfl Sub.rfl) ?_
    refine JL_step rfl rfl rfl (step_move Sub.rfl) ?_
    refine JL_stepG rfl rfl rfl (Gd.plain Sub.rfl) rfl rfl (fun hw => step_move Sub.rfl) ?_
    refine JL_stepG rfl rfl rfl (Gd.plain Sub.rfl) rfl rfl (fun hw => step_leq (Sub.w hw) Sub.rfl) ?_
    refine JL_step rfl rfl rfl (step_pick_and Sub.rfl Sub.rfl) ?_
    refine JL_step rfl rfl rfl (step_move Sub.rfl) ?_
    refine JL_stepG rfl rfl rfl (Gd.plain Sub.rfl) rfl rfl (fun hw => step_move Sub.rfl) ?_
    refine JL_stepG rfl rfl rfl (Gd.plain Sub.rfl) rfl rfl (fun hw => step_geq (Sub.w hw) Sub.rfl) ?_
    refine JL_stepG rfl rfl rfl (Gd.plain Sub.rfl) rfl rfl (fun hw => step_move (Sub.w hw)) ?_
    refine JL_stepG rfl rfl rfl (Gd.nest Sub.rfl) rfl rfl (fun hw => step_move Sub.rfl) ?_
    refine JL_stepG rfl rfl rfl (Gd.nest Sub.rfl) rfl rfl (fun hw => step_leq (Sub.w hw) Sub.rfl) ?_
    refine JL_stepG rfl rfl rfl (Gd.plain Sub.rfl) rfl rfl (fun hw => step_pick_and (Sub.w hw) (Sub.ww hw)) ?_
    refine JL_step rfl rfl rfl (step_pick_or Sub.rfl Sub.rfl) ?_
    refine JL_nil ?_
    refine J_cond Sub.rfl (fun h24 => ?_) (fun h24 => ?_)
    · try simp only [decide_eq_true_eq, decide_eq_false_iff_not, Bool.and_eq_true, Bool.or_eq_true, Bool.and_eq_false_iff, Bool.or_eq_false_iff, Bool.not_eq_true', Bool.not_eq_false', Int.not_lt, Int.not_le, Bool.not_true, Bool.not_false] at h24
      refine J_seq ?_
      refine J_region ?_
      refine JL_step rfl rfl rfl (step_move Sub.rfl) ?_
      refine JL_step rfl rfl rfl (step_assign Sub.rfl) ?_
      refine JL_nil ?_
      refine J_ret ?_
      refine K_ret1 (t := 2) rfl () ?_
      refine Sub.v ?_
      have h1 : ¬ (65 ≤ c ∧ c ≤ 90) := by omega
      simp only [lowI, if_neg h1]; rw [if_pos (by omega)]
    · try simp only [decide_eq_true_eq, decide_eq_false_iff_not, Bool.and_eq_true, Bool.or_eq_true, Bool.and_eq_false_iff, Bool.or_eq_false_iff, Bool.not_eq_true', Bool.not_eq_false', Int.not_lt, Int.not_le, Bool.not_true, Bool.not_false] at h24
      refine J_skip ?_
      refine J_seq ?_
      refine J_region ?_
      refine JL_step rfl rfl rfl (step_assign Sub.rfl) ?_
      refine JL_nil ?_
      refine J_ret ?_
      refine K_ret1 (t := 2) rfl () ?_
      refine Sub.v ?_
      have h1 : ¬ (65 ≤ c ∧ c ≤ 90) := by omega
      simp only [lowI, if_neg h1]; rw [if_neg (by omega)]
theorem WordsR_spec (text : ByteArray) (hsz : text.size ≤ 100000000) : Fun1 Tryz.prog 69 [tV (.string text)] (tSlC rStr (wordsM text)) := by
  refine Spec.enter Tryz.func69 rfl rfl fun h0 w0 fr0 => ?_
  have hbl := bytesOf_len text
  refine J_seq ?_
  refine J_region ?_
  refine JL_step rfl rfl rfl (step_assign Sub.rfl) ?_
  refine JL_nil ?_
  refine J_seq ?_
  refine J_region ?_
  refine JL_step rfl rfl rfl (step_assign Sub.rfl) ?_
  refine JL_nil ?_
  refine J_seq ?_
  refine J_region ?_
  refine JL_step rfl rfl rfl (step_assign Sub.rfl) ?_
  refine JL_nil ?_
  refine J_seq ?_
  refine J_seq ?_
  refine J_region ?_
  refine JL_step rfl rfl rfl (step_assign Sub.rfl) ?_
  refine JL_nil ?_
  refine J_block ?_
  refine J_loopL (σ := Nat × Value) (fun ⟨i, v⟩ => i ≤ (bytesOf text).length) (fun ⟨i, v⟩ => upd (upd (upd (upd (upd env0 0 (tV (.string text))) 2 (tV (.slice none 0 0))) 3 (rV.ty v)) 4 (tV (.string (ofBytes (wst ((bytesOf text).take i)).2)))) 5 (tV (.int .i64 i))) (fun ⟨i, v⟩ => [own 9 rStr v (wst ((bytesOf text).take i)).1]) (fun ⟨i, v⟩ => (bytesOf text).length - i) (0, .slice none 0 0) (by omega) (SubE.upd Sub.rfl (SubE.upd Sub.rfl (SubE.upd (Sub.rV rfl) (SubE.upd Sub.rfl (SubE.upd Sub.rfl SubE.any))))) (LSub.nilown) ?_
  rintro ⟨i, v⟩ hi
  try dsimp only at hi
  refine J_seq ?_
  refine J_seq ?_
  refine J_region ?_
  refine JL_step rfl rfl rfl (step_move Sub.rfl) ?_
  refine JL_step rfl rfl rfl (step_move Sub.rfl) ?_
  refine JL_step rfl rfl rfl (step_len_str Tryz.underlying9 Sub.rfl) ?_
  refine JL_step rfl rfl rfl (step_lss Sub.rfl Sub.rfl) ?_
  refine JL_nil ?_
  refine J_cond Sub.rfl (fun h10 => ?_) (fun h10 => ?_)
  · try simp only [decide_eq_true_eq, decide_eq_false_iff_not, Bool.and_eq_true, Bool.or_eq_true, Bool.and_eq_false_iff, Bool.or_eq_false_iff, Bool.not_eq_true', Bool.not_eq_false', Int.not_lt, Int.not_le, Bool.not_true, Bool.not_false] at h10
    have hlt : i < (bytesOf text).length := by omega
    have hrg := bytesOf_rng text _ (nth_mem hlt)
    have hwl := wst_len (l := (bytesOf text)) (i := i)
    refine J_skip ?_
    refine J_seq ?_
    refine J_block ?_
    refine J_seq ?_
    refine J_region ?_
    refine JL_step rfl rfl rfl (step_move Sub.rfl) ?_
    refine JL_step rfl rfl rfl (step_move Sub.rfl) ?_
    refine JL_step rfl rfl rfl (step_index_str (i := i) Tryz.underlying9 Sub.rfl Sub.rfl ?sg1 ?sg2) ?_
    case sg1 => rfl
    case sg2 => omega
    refine JL_step rfl rfl rfl (step_call0 (LowerR_spec _ hrg) ⟨Sub.rfl, trivial⟩ Tryz.call106) ?_
    refine JL_step rfl rfl rfl (step_assign Sub.rfl) ?_
    refine JL_nil ?_
    refine J_seq ?_
    refine J_region ?_
    refine JL_step rfl rfl rfl (step_move Sub.rfl) ?_
    refine JL_step rfl rfl rfl (step_neq Sub.rfl Sub.rfl) ?_
    refine JL_nil ?_
    refine J_cond Sub.rfl (fun h18 => ?_) (fun h18 => ?_)
    · try simp only [decide_eq_true_eq, decide_eq_false_iff_not, Bool.and_eq_true, Bool.or_eq_true, Bool.and_eq_false_iff, Bool.or_eq_false_iff, Bool.not_eq_true', Bool.not_eq_false', Int.not_lt, Int.not_le, Bool.not_true, Bool.not_false] at h18
      have hlt2 := lowI_ltr h18
      refine J_region ?_
      refine JL_step rfl rfl rfl (step_move Sub.rfl) ?_
      refine JL_step rfl rfl rfl (step_move Sub.rfl) ?_
      refine JL_step rfl rfl rfl (step_convert_int (m := (lowI (nth (bytesOf text) i))) Tryz.underlying5 Tryz.underlying21 Sub.rfl ?sg1) ?_
      case sg1 => simp [IntKind.wrap, IntKind.bits, IntKind.signed]; unfold ltrI at hlt2; omega
      refine JL_step rfl rfl rfl (step_convert_rune Tryz.underlying21 Tryz.underlying9 Sub.rfl (by unfold ltrI at hlt2; omega)) ?_
      refine JL_step rfl rfl rfl (step_add_str Sub.rfl Sub.rfl ?sg1) ?_
      case sg1 => rw [ofBytes_size, ofBytes_size]; simp; omega
      refine JL_step rfl rfl rfl (step_assign Sub.rfl) ?_
      refine JL_nil ?_
      refine J_region ?_
      refine JL_step rfl rfl rfl (step_move Sub.rfl) ?_
      refine JL_step rfl rfl rfl (step_add Sub.rfl Sub.rfl ?sg1) ?_
      case sg1 => unfold in64; omega
      refine JL_step rfl rfl rfl (step_assign Sub.rfl) ?_
      refine JL_nil ?_
      refine K_againL (σ := Nat × Value) (s := (i, v)) (i + 1, v) (by first | omega | (dsimp only; omega) | (simp_all; omega)) (by omega) (SubE.upd Sub.rfl (SubE.upd (Sub.v (congrArg Value.string (by rw [wst_at' hlt h18]; exact ofBytes_snoc _ _))) (SubE.upd Sub.rfl (SubE.upd Sub.rfl (SubE.upd Sub.rfl SubE.any))))) (LSub.cons (by first | exact Sel.take (Sel.none _) | exact Sel.skip (Sel.take (Sel.none _)) | exact Sel.skip (Sel.skip (Sel.take (Sel.none _))) | exact Sel.skip (Sel.skip (Sel.skip (Sel.take (Sel.none _)))) | exact Sel.skip (Sel.skip (Sel.skip (Sel.skip (Sel.take (Sel.none _)))))) (own_eq (by rw [wst_at' hlt h18])) (LSub.nil))
    · try simp only [decide_eq_true_eq, decide_eq_false_iff_not, Bool.and_eq_true, Bool.or_eq_true, Bool.and_eq_false_iff, Bool.or_eq_false_iff, Bool.not_eq_true', Bool.not_eq_false', Int.not_lt, Int.not_le, Bool.not_true, Bool.not_false] at h18
      refine J_seq ?_
      refine J_region ?_
      refine JL_step rfl rfl rfl (step_move Sub.rfl) ?_
      refine JL_step rfl rfl rfl (step_neq_str Sub.rfl Sub.rfl) ?_
      refine JL_nil ?_
      refine J_cond Sub.rfl (fun h25 => ?_) (fun h25 => ?_)
      · try simp only [decide_eq_true_eq, decide_eq_false_iff_not, Bool.and_eq_true, Bool.or_eq_true, Bool.and_eq_false_iff, Bool.or_eq_false_iff, Bool.not_eq_true', Bool.not_eq_false', Int.not_lt, Int.not_le, Bool.not_true, Bool.not_false] at h25
        have hcn : (wst ((bytesOf text).take i)).2 ≠ [] := fun e => h25 (ofBytes_ne.2 e)
        refine J_seq ?_
        refine J_region ?_
        refine JL_step rfl rfl rfl (step_move Sub.rfl) ?_
        refine JL_step rfl rfl rfl (step_move Sub.rfl) ?_
        refine JL_step rfl rfl rfl (step_literal (ys := [_]) Tryz.underlying32 el9 ⟨rfl, Sub.rfl, trivial⟩ rfl (by decide)) ?_
        refine JL_stepX rfl rfl rfl (step_append Tryz.underlying32 el9 Sub.rfl Sub.rfl (by first | exact Sel.take (Sel.none _) | exact Sel.skip (Sel.take (Sel.none _)) | exact Sel.skip (Sel.skip (Sel.take (Sel.none _))) | exact Sel.skip (Sel.skip (Sel.skip (Sel.take (Sel.none _)))) | exact Sel.skip (Sel.skip (Sel.skip (Sel.skip (Sel.take (Sel.none _)))))) (by simp; omega) (by simp; omega)) fun v29 => ?_
        refine JL_step rfl rfl rfl (step_assign Sub.rfl) ?_
        refine JL_nil ?_
        refine J_region ?_
        refine JL_step rfl rfl rfl (step_assign Sub.rfl) ?_
        refine JL_nil ?_
        refine J_region ?_
        refine JL_step rfl rfl rfl (step_move Sub.rfl) ?_
        refine JL_step rfl rfl rfl (step_add Sub.rfl Sub.rfl ?sg1) ?_
        case sg1 => unfold in64; omega
        refine JL_step rfl rfl rfl (step_assign Sub.rfl) ?_
        refine JL_nil ?_
        refine K_againL (σ := Nat × Value) (s := (i, v)) (i + 1, v29) (by first | omega | (dsimp only; omega) | (simp_all; omega)) (by omega) (SubE.upd Sub.rfl (SubE.upd (Sub.v (congrArg Value.string (by rw [wst_at hlt h18]; rfl))) (SubE.upd Sub.rfl (SubE.upd Sub.rfl (SubE.upd Sub.rfl SubE.any))))) (LSub.cons (by first | exact Sel.take (Sel.none _) | exact Sel.skip (Sel.take (Sel.none _)) | exact Sel.skip (Sel.skip (Sel.take (Sel.none _))) | exact Sel.skip (Sel.skip (Sel.skip (Sel.take (Sel.none _)))) | exact Sel.skip (Sel.skip (Sel.skip (Sel.skip (Sel.take (Sel.none _)))))) (own_eq (by rw [wst_at hlt h18]; simp [wOf, hcn])) (LSub.nil))
      · try simp only [decide_eq_true_eq, decide_eq_false_iff_not, Bool.and_eq_true, Bool.or_eq_true, Bool.and_eq_false_iff, Bool.or_eq_false_iff, Bool.not_eq_true', Bool.not_eq_false', Int.not_lt, Int.not_le, Bool.not_true, Bool.not_false] at h25
        have hcn : (wst ((bytesOf text).take i)).2 = [] := ofBytes_ne.1 h25
        refine J_skip ?_
        refine J_region ?_
        refine JL_step rfl rfl rfl (step_move Sub.rfl) ?_
        refine JL_step rfl rfl rfl (step_add Sub.rfl Sub.rfl ?sg1) ?_
        case sg1 => unfold in64; omega
        refine JL_step rfl rfl rfl (step_assign Sub.rfl) ?_
        refine JL_nil ?_
        refine K_againL (σ := Nat × Value) (s := (i, v)) (i + 1, v) (by first | omega | (dsimp only; omega) | (simp_all; omega)) (by omega) (SubE.upd Sub.rfl (SubE.upd (Sub.v (congrArg Value.string (by rw [wst_at hlt h18, hcn]))) (SubE.upd Sub.rfl (SubE.upd Sub.rfl (SubE.upd Sub.rfl SubE.any))))) (LSub.cons (by first | exact Sel.take (Sel.none _) | exact Sel.skip (Sel.take (Sel.none _)) | exact Sel.skip (Sel.skip (Sel.take (Sel.none _))) | exact Sel.skip (Sel.skip (Sel.skip (Sel.take (Sel.none _)))) | exact Sel.skip (Sel.skip (Sel.skip (Sel.skip (Sel.take (Sel.none _)))))) (own_eq (by rw [wst_at hlt h18]; simp [wOf, hcn])) (LSub.nil))
  · try simp only [decide_eq_true_eq, decide_eq_false_iff_not, Bool.and_eq_true, Bool.or_eq_true, Bool.and_eq_false_iff, Bool.or_eq_false_iff, Bool.not_eq_true', Bool.not_eq_false', Int.not_lt, Int.not_le, Bool.not_true, Bool.not_false] at h10
    have hie : ((bytesOf text).take i) = (bytesOf text) := List.take_of_length_le (by omega)
    have hwl := wst_len (l := (bytesOf text)) (i := i)
    refine J_exit ?_
    refine J_seq ?_
    refine J_seq ?_
    refine J_region ?_
    refine JL_step rfl rfl rfl (step_move Sub.rfl) ?_
    refine JL_step rfl rfl rfl (step_neq_str Sub.rfl Sub.rfl) ?_
    refine JL_nil ?_
    refine J_cond Sub.rfl (fun h31 => ?_) (fun h31 => ?_)
    · try simp only [decide_eq_true_eq, decide_eq_false_iff_not, Bool.and_eq_true, Bool.or_eq_true, Bool.and_eq_false_iff, Bool.or_eq_false_iff, Bool.not_eq_true', Bool.not_eq_false', Int.not_lt, Int.not_le, Bool.not_true, Bool.not_false] at h31
      have hcn : (wst ((bytesOf text).take i)).2 ≠ [] := fun e => h31 (ofBytes_ne.2 e)
      refine J_region ?_
      refine JL_step rfl rfl rfl (step_move Sub.rfl) ?_
      refine JL_step rfl rfl rfl (step_move Sub.rfl) ?_
      refine JL_step rfl rfl rfl (step_literal (ys := [_]) Tryz.underlying32 el9 ⟨rfl, Sub.rfl, trivial⟩ rfl (by decide)) ?_
      refine JL_stepX rfl rfl rfl (step_append Tryz.underlying32 el9 Sub.rfl Sub.rfl (by first | exact Sel.take (Sel.none _) | exact Sel.skip (Sel.take (Sel.none _)) | exact Sel.skip (Sel.skip (Sel.take (Sel.none _))) | exact Sel.skip (Sel.skip (Sel.skip (Sel.take (Sel.none _)))) | exact Sel.skip (Sel.skip (Sel.skip (Sel.skip (Sel.take (Sel.none _)))))) (by simp; omega) (by simp; omega)) fun v35 => ?_
      refine JL_step rfl rfl rfl (step_assign Sub.rfl) ?_
      refine JL_nil ?_
      refine J_seq ?_
      refine J_region ?_
      refine JL_step rfl rfl rfl (step_move Sub.rfl) ?_
      refine JL_step rfl rfl rfl (step_assign Sub.rfl) ?_
      refine JL_nil ?_
      refine J_ret ?_
      refine K_lsub (L' := [own 9 rStr v35 (wordsM text)]) (LSub.cons (by first | exact Sel.take (Sel.none _) | exact Sel.skip (Sel.take (Sel.none _)) | exact Sel.skip (Sel.skip (Sel.take (Sel.none _))) | exact Sel.skip (Sel.skip (Sel.skip (Sel.take (Sel.none _)))) | exact Sel.skip (Sel.skip (Sel.skip (Sel.skip (Sel.take (Sel.none _)))))) (own_eq (by unfold wordsM wordsL; rw [hie] at hcn ⊢; simp [wOf, hcn])) (LSub.nil)) ?_
      refine K_ret1' (rv := .tmp 2) rfl () (Sel.all _) (.tmp Sub.rfl) Frz.ownC
    · try simp only [decide_eq_true_eq, decide_eq_false_iff_not, Bool.and_eq_true, Bool.or_eq_true, Bool.and_eq_false_iff, Bool.or_eq_false_iff, Bool.not_eq_true', Bool.not_eq_false', Int.not_lt, Int.not_le, Bool.not_true, Bool.not_false] at h31
      have hcn : (wst ((bytesOf text).take i)).2 = [] := ofBytes_ne.1 h31
      refine J_skip ?_
      refine J_seq ?_
      refine J_region ?_
      refine JL_step rfl rfl rfl (step_move Sub.rfl) ?_
      refine JL_step rfl rfl rfl (step_assign Sub.rfl) ?_
      refine JL_nil ?_
      refine J_ret ?_
      refine K_lsub (L' := [own 9 rStr v (wordsM text)]) (LSub.cons (by first | exact Sel.take (Sel.none _) | exact Sel.skip (Sel.take (Sel.none _)) | exact Sel.skip (Sel.skip (Sel.take (Sel.none _))) | exact Sel.skip (Sel.skip (Sel.skip (Sel.take (Sel.none _)))) | exact Sel.skip (Sel.skip (Sel.skip (Sel.skip (Sel.take (Sel.none _)))))) (own_eq (by unfold wordsM wordsL; rw [hie] at hcn ⊢; simp [wOf, hcn])) (LSub.nil)) ?_
      refine K_ret1' (rv := .tmp 2) rfl () (Sel.all _) (.tmp Sub.rfl) Frz.ownC
theorem FoldR_spec (text : ByteArray) (hsz : text.size ≤ 100000000) : Fun1 Tryz.prog 37 [tV (.string text)] (tV (.string (foldB text))) := by
  refine Spec.enter Tryz.func37 rfl rfl fun h0 w0 fr0 => ?_
  have hws := words_sizes text
  refine J_seq ?_
  refine J_region ?_
  refine JL_step rfl rfl rfl (step_assign Sub.rfl) ?_
  refine JL_nil ?_
  refine J_seq ?_
  refine J_region ?_
  refine JL_step rfl rfl rfl (step_move Sub.rfl) ?_
  refine JL_step rfl rfl rfl (step_call0 (WordsR_spec text hsz) ⟨Sub.rfl, trivial⟩ Tryz.call69) ?_
  refine JL_step rfl rfl rfl (step_assign Sub.rfl) ?_
  refine JL_nil ?_
  refine J_seq ?_
  refine J_region ?_
  refine JL_step rfl rfl rfl (step_assign Sub.rfl) ?_
  refine JL_nil ?_
  refine J_seq ?_
  refine J_seq ?_
  refine J_region ?_
  refine JL_step rfl rfl rfl (step_assign Sub.rfl) ?_
  refine JL_nil ?_
  refine J_block ?_
  refine J_loopL (σ := Nat) (fun i => i ≤ (wordsM text).length) (fun i => upd (upd (upd env0 3 (tSlC rStr (wordsM text))) 4 (tV (.string (joinB ((wordsM text).take i) blank)))) 5 (tV (.int .i64 i))) (fun i => []) (fun i => (wordsM text).length - i) 0 (by omega) (SubE.upd Sub.rfl (SubE.upd (Sub.v (congrArg Value.string (by rw [List.take_zero]; rfl))) (SubE.upd Sub.rfl SubE.any))) (LSub.rfl) ?_
  rintro i hi
  refine J_seq ?_
  refine J_seq ?_
  refine J_region ?_
  refine JL_step rfl rfl rfl (step_move Sub.rfl) ?_
  refine JL_step rfl rfl rfl (step_move Sub.rfl) ?_
  refine JL_step rfl rfl rfl (step_len_sl Tryz.underlying32 Sub.ofC) ?_
  refine JL_step rfl rfl rfl (step_lss Sub.rfl Sub.rfl) ?_
  refine JL_nil ?_
  refine J_cond Sub.rfl (fun h11 => ?_) (fun h11 => ?_)
  · try simp only [decide_eq_true_eq, decide_eq_false_iff_not, Bool.and_eq_true, Bool.or_eq_true, Bool.and_eq_false_iff, Bool.or_eq_false_iff, Bool.not_eq_true', Bool.not_eq_false', Int.not_lt, Int.not_le, Bool.not_true, Bool.not_false] at h11
    have hlt : i < (wordsM text).length := by omega
    have hjs := join_take_size (wordsM text) i
    have hms := mem_sizes (nth_mem hlt)
    refine J_skip ?_
    refine J_seq ?_
    refine J_block ?_
    refine J_seq ?_
    refine J_seq ?_
    refine J_region ?_
    refine JL_step rfl rfl rfl (step_move Sub.rfl) ?_
    refine JL_step rfl rfl rfl (step_gtr Sub.rfl Sub.rfl) ?_
    refine JL_nil ?_
    refine J_cond Sub.rfl (fun h15 => ?_) (fun h15 => ?_)
    · try simp only [decide_eq_true_eq, decide_eq_false_iff_not, Bool.and_eq_true, Bool.or_eq_true, Bool.and_eq_false_iff, Bool.or_eq_false_iff, Bool.not_eq_true', Bool.not_eq_false', Int.not_lt, Int.not_le, Bool.not_true, Bool.not_false] at h15
      refine J_region ?_
      refine JL_step rfl rfl rfl (step_move Sub.rfl) ?_
      refine JL_step rfl rfl rfl (step_add_str Sub.rfl Sub.rfl ?sg1) ?_
      case sg1 => have : (⟨#[32]⟩ : ByteArray).size = 1 := rfl; omega
      refine JL_step rfl rfl rfl (step_assign Sub.rfl) ?_
      refine JL_nil ?_
      refine J_region ?_
      refine JL_step rfl rfl rfl (step_move Sub.rfl) ?_
      refine JL_step rfl rfl rfl (step_move Sub.rfl) ?_
      refine JL_step rfl rfl rfl (step_move Sub.rfl) ?_
      refine JL_step rfl rfl rfl (step_indexAddr_sl  Tryz.underlying32 ty9 Sub.ofC Sub.rfl rfl (gb ?sg1)) ?_
      case sg1 => exact hlt
      refine JL_step rfl rfl rfl (step_load_ptr ty9 Sub.rfl) ?_
      refine JL_step rfl rfl rfl (step_add_str Sub.rfl Sub.rfl ?sg1) ?_
      case sg1 => first | omega | (rw [ByteArray.size_append]; have : (⟨#[32]⟩ : ByteArray).size = 1 := rfl; omega)
      refine JL_step rfl rfl rfl (step_assign Sub.rfl) ?_
      refine JL_nil ?_
      refine J_region ?_
      refine JL_step rfl rfl rfl (step_move Sub.rfl) ?_
      refine JL_step rfl rfl rfl (step_add Sub.rfl Sub.rfl ?sg1) ?_
      case sg1 => unfold in64; omega
      refine JL_step rfl rfl rfl (step_assign Sub.rfl) ?_
      refine JL_nil ?_
      refine K_againL (σ := Nat) (s := i) (i + 1) (by first | omega | (dsimp only; omega) | (simp_all; omega)) (by omega) (SubE.upd Sub.rfl (SubE.upd (Sub.v (congrArg Value.string (by rw [join_succ hlt, if_neg (by omega)]; rfl))) (SubE.upd Sub.rfl SubE.any))) (LSub.rfl)
    · try simp only [decide_eq_true_eq, decide_eq_false_iff_not, Bool.and_eq_true, Bool.or_eq_true, Bool.and_eq_false_iff, Bool.or_eq_false_iff, Bool.not_eq_true', Bool.not_eq_false', Int.not_lt, Int.not_le, Bool.not_true, Bool.not_false] at h15
      refine J_skip ?_
      refine J_region ?_
      refine JL_step rfl rfl rfl (step_move Sub.rfl) ?_
      refine JL_step rfl rfl rfl (step_move Sub.rfl) ?_
      refine JL_step rfl rfl rfl (step_move Sub.rfl) ?_
      refine JL_step rfl rfl rfl (step_indexAddr_sl  Tryz.underlying32 ty9 Sub.ofC Sub.rfl rfl (gb ?sg1)) ?_
      case sg1 => exact hlt
      refine JL_step rfl rfl rfl (step_load_ptr ty9 Sub.rfl) ?_
      refine JL_step rfl rfl rfl (step_add_str Sub.rfl Sub.rfl ?sg1) ?_
      case sg1 => first | omega | (rw [ByteArray.size_append]; have : (⟨#[32]⟩ : ByteArray).size = 1 := rfl; omega)
      refine JL_step rfl rfl rfl (step_assign Sub.rfl) ?_
      refine JL_nil ?_
      refine J_region ?_
      refine JL_step rfl rfl rfl (step_move Sub.rfl) ?_
      refine JL_step rfl rfl rfl (step_add Sub.rfl Sub.rfl ?sg1) ?_
      case sg1 => unfold in64; omega
      refine JL_step rfl rfl rfl (step_assign Sub.rfl) ?_
      refine JL_nil ?_
      refine K_againL (σ := Nat) (s := i) (i + 1) (by first | omega | (dsimp only; omega) | (simp_all; omega)) (by omega) (SubE.upd Sub.rfl (SubE.upd (Sub.v (congrArg Value.string (by rw [join_succ hlt, if_pos (by omega), show i = 0 by omega]; exact empty_app _))) (SubE.upd Sub.rfl SubE.any))) (LSub.rfl)
  · try simp only [decide_eq_true_eq, decide_eq_false_iff_not, Bool.and_eq_true, Bool.or_eq_true, Bool.and_eq_false_iff, Bool.or_eq_false_iff, Bool.not_eq_true', Bool.not_eq_false', Int.not_lt, Int.not_le, Bool.not_true, Bool.not_false] at h11
    refine J_exit ?_
    refine J_seq ?_
    refine J_region ?_
    refine JL_step rfl rfl rfl (step_move Sub.rfl) ?_
    refine JL_step rfl rfl rfl (step_assign Sub.rfl) ?_
    refine JL_nil ?_
    refine J_ret ?_
    refine K_retv (rv := .tmp 2) rfl () (.tmp Sub.rfl) (Sub.v (congrArg Value.string ?_))
    rw [List.take_of_length_le (by omega)]; rfl
set_option maxHeartbeats 2000000 in
theorem SortedR_spec (l : List ByteArray) (hl : l.length ≤ 1000000000) : Fun1 Tryz.prog 41 [tSlC rStr l] (tSlC rStr (compS (sortS l))) := by
  refine Spec.enter Tryz.func41 rfl rfl fun h0 w0 fr0 => ?_
  refine J_seq ?_
  refine J_region ?_
  refine JL_step rfl rfl rfl (step_assign Sub.rfl) ?_
  refine JL_nil ?_
  refine J_seq ?_
  refine J_region ?_
  refine JL_step rfl rfl rfl (step_assign Sub.rfl) ?_
  refine JL_nil ?_
  refine J_seq ?_
  refine J_seq ?_
  refine J_region ?_
  refine JL_step rfl rfl rfl (step_assign Sub.rfl) ?_
  refine JL_nil ?_
  refine J_block ?_
  refine J_loopL (σ := Nat × List ByteArray) (fun ⟨i, o⟩ => i ≤ l.length ∧ incB o ∧ (∀ x, x ∈ o ↔ x ∈ l.take i) ∧ o.length ≤ i) (fun ⟨i, o⟩ => upd (upd (upd (upd env0 0 (tSlC rStr l)) 2 (tV (.slice none 0 0))) 3 (tSlC rStr o)) 4 (tV (.int .i64 i))) (fun ⟨i, o⟩ => []) (fun ⟨i, o⟩ => l.length - i) (0, []) ⟨by omega, by simp [incB], by simp, by simp⟩ (SubE.upd Sub.rfl (SubE.upd (nilC) (SubE.upd Sub.rfl (SubE.upd Sub.rfl SubE.any)))) (LSub.rfl) ?_
  rintro ⟨i, o⟩ ⟨hi, ho, hm, hol⟩
  refine J_seq ?_
  refine J_seq ?_
  refine J_region ?_
  refine JL_step rfl rfl rfl (step_move Sub.rfl) ?_
  refine JL_step rfl rfl rfl (step_move Sub.rfl) ?_
  refine JL_step rfl rfl rfl (step_len_sl Tryz.underlying32 Sub.ofC) ?_
  refine JL_step rfl rfl rfl (step_lss Sub.rfl Sub.rfl) ?_
  refine JL_nil ?_
  refine J_cond Sub.rfl (fun h10 => ?_) (fun h10 => ?_)
  · try simp only [decide_eq_true_eq, decide_eq_false_iff_not, Bool.and_eq_true, Bool.or_eq_true, Bool.and_eq_false_iff, Bool.or_eq_false_iff, Bool.not_eq_true', Bool.not_eq_false', Int.not_lt, Int.not_le, Bool.not_true, Bool.not_false] at h10
    have hlt : i < l.length := by omega
    refine J_skip ?_
    refine J_seq ?_
    refine J_block ?_
    refine J_seq ?_
    refine J_region ?_
    refine JL_step rfl rfl rfl (step_assign Sub.rfl) ?_
    refine JL_nil ?_
    refine J_seq ?_
    refine J_block ?_
    refine J_loopL (σ := Nat) (fun k => k ≤ o.length ∧ ∀ j, j < k → ofB (nth o j) < ofB (nth l i)) (fun k => upd (upd (upd (upd (upd (upd (upd env0 0 (tSlC rStr l)) 2 (tV (.slice none 0 0))) 3 (tSlC rStr o)) 4 (tV (.int .i64 i))) 5 (tV (.int .i64 k))) 7 (tV (.int .i64 i))) 8 (tSlC rStr l)) (fun k => []) (fun k => o.length - k) 0 ⟨by omega, fun j hj => absurd hj (by omega)⟩ (SubE.upd Sub.rfl (SubE.upd Sub.rfl (SubE.upd Sub.rfl (SubE.upd Sub.rfl (SubE.upd Sub.rfl (SubE.upd Sub.rfl (SubE.upd Sub.rfl SubE.any))))))) (LSub.rfl) ?_
    rintro k ⟨hk1, hk2⟩
    refine J_seq ?_
    refine J_seq ?_
    refine J_draw [⟨0, [5], true⟩, ⟨1, [3], true⟩, ⟨2, [14], true⟩, ⟨3, [13, 15], true⟩, ⟨4, [16], true⟩, ⟨5, [3, 17], true⟩, ⟨6, [5, 17], true⟩, ⟨7, [17, 18, 19], true⟩, ⟨8, [17, 20], true⟩, ⟨9, [0, 17], true⟩, ⟨10, [4, 17], true⟩, ⟨11, [17, 22, 23], true⟩, ⟨12, [17, 24], true⟩, ⟨13, [17, 21, 25], true⟩, ⟨14, [17, 26], true⟩] rfl (by kernel_rfl) ?_
    refine JM_step rfl rfl rfl rfl (fun _ => step_move Sub.rfl) ?_
    refine JM_step rfl rfl rfl rfl (fun _ => step_move Sub.rfl) ?_
    refine JM_step rfl rfl rfl rfl (fun _ => step_len_sl Tryz.underlying32 Sub.ofC) ?_
    refine JM_step rfl rfl rfl rfl (fun _ => step_lss Sub.rfl Sub.rfl) ?_
    refine JM_step rfl rfl rfl rfl (fun _ => step_move Sub.rfl) ?_
    refine JM_stepG rfl rfl rfl rfl (Gd.plain Sub.rfl) rfl rfl (fun hw _ => step_move Sub.rfl) ?_
    refine JM_stepG rfl rfl rfl rfl (Gd.plain Sub.rfl) rfl rfl (fun hw _ => step_move Sub.rfl) ?_
    refine JM_stepG rfl rfl rfl rfl (Gd.plain Sub.rfl) rfl rfl (fun hw _ => step_indexAddr_sl  Tryz.underlying32 ty9 (Sub.trans (Sub.w hw) Sub.ofC) (Sub.w hw) rfl (gb ?sg1)) ?_
    case sg1 => have hwq := hw; (try simp only [beqB_t, beqB_f, decide_eq_true_eq, decide_eq_false_iff_not, Bool.and_eq_true, Bool.or_eq_true, Bool.and_eq_false_iff, Bool.or_eq_false_iff, Bool.not_eq_true', Bool.not_eq_false', Int.not_lt, Int.not_le, Bool.not_true, Bool.not_false] at hwq); omega
    refine JM_stepG rfl rfl rfl rfl (Gd.plain Sub.rfl) rfl rfl (fun hw _ => step_load_ptr ty9 (Sub.w hw)) ?_
    refine JM_stepG rfl rfl rfl rfl (Gd.plain Sub.rfl) rfl rfl (fun hw _ => step_move Sub.rfl) ?_
    refine JM_stepG rfl rfl rfl rfl (Gd.plain Sub.rfl) rfl rfl (fun hw _ => step_move Sub.rfl) ?_
    refine JM_stepG rfl rfl rfl rfl (Gd.plain Sub.rfl) rfl rfl (fun hw _ => step_indexAddr_sl  Tryz.underlying32 ty9 (Sub.trans (Sub.w hw) Sub.ofC) (Sub.w hw) rfl (gb ?sg1)) ?_
    case sg1 => have hwq := hw; (try simp only [beqB_t, beqB_f, decide_eq_true_eq, decide_eq_false_iff_not, Bool.and_eq_true, Bool.or_eq_true, Bool.and_eq_false_iff, Bool.or_eq_false_iff, Bool.not_eq_true', Bool.not_eq_false', Int.not_lt, Int.not_le, Bool.not_true, Bool.not_false] at hwq); exact hlt
    refine JM_stepG rfl rfl rfl rfl (Gd.plain Sub.rfl) rfl rfl (fun hw _ => step_load_ptr ty9 (Sub.w hw)) ?_
    refine JM_stepG rfl rfl rfl rfl (Gd.plain Sub.rfl) rfl rfl (fun hw _ => step_lss_strB (Sub.w hw) (Sub.w hw)) ?_
    refine JM_step rfl rfl rfl rfl (fun _ => step_pick_and Sub.rfl Sub.rfl) ?_
    refine JM_nil ?_
    refine J_cond Sub.rfl (fun h27 => ?_) (fun h27 => ?_)
    · try simp only [decide_eq_true_eq, decide_eq_false_iff_not, Bool.and_eq_true, Bool.or_eq_true, Bool.and_eq_false_iff, Bool.or_eq_false_iff, Bool.not_eq_true', Bool.not_eq_false', Int.not_lt, Int.not_le, Bool.not_true, Bool.not_false] at h27
      have hlk : k < o.length := by omega
      refine J_skip ?_
      refine J_block ?_
      refine J_region ?_
      refine JL_step rfl rfl rfl (step_move Sub.rfl) ?_
      refine JL_step rfl rfl rfl (step_add Sub.rfl Sub.rfl ?sg1) ?_
      case sg1 => unfold in64; omega
      refine JL_step rfl rfl rfl (step_assign Sub.rfl) ?_
      refine JL_nil ?_
      refine K_againL (σ := Nat) (s := k) (k + 1) (by first | omega | (dsimp only; omega) | (simp_all; omega)) (pred_again (p := fun z => ofB z < ofB (nth l i)) hlk hk2 h27.2) (SubE.upd Sub.rfl (SubE.upd Sub.rfl (SubE.upd Sub.rfl (SubE.upd Sub.rfl (SubE.upd Sub.rfl (SubE.upd Sub.rfl (SubE.upd Sub.rfl SubE.any))))))) (LSub.rfl)
    · try simp only [decide_eq_true_eq, decide_eq_false_iff_not, Bool.and_eq_true, Bool.or_eq_true, Bool.and_eq_false_iff, Bool.or_eq_false_iff, Bool.not_eq_true', Bool.not_eq_false', Int.not_lt, Int.not_le, Bool.not_true, Bool.not_false] at h27
      have hge : k < o.length → ¬ ofB (nth o k) < ofB (nth l i) := fun hq => by rcases h27 with h | h; omega; exact h
      refine J_exit ?_
      refine J_seq ?_
      refine J_seq ?_
      refine J_draw [⟨0, [5], true⟩, ⟨1, [3], true⟩, ⟨2, [31], true⟩, ⟨3, [30, 32], true⟩, ⟨4, [33], true⟩, ⟨5, [3, 34], true⟩, ⟨6, [5, 34], true⟩, ⟨7, [34, 35, 36], true⟩, ⟨8, [34, 37], true⟩, ⟨9, [0, 34], true⟩, ⟨10, [4, 34], true⟩, ⟨11, [34, 39, 40], true⟩, ⟨12, [34, 41], true⟩, ⟨13, [34, 38, 42], true⟩, ⟨14, [34, 43], true⟩] rfl (by kernel_rfl) ?_
      refine JM_step rfl rfl rfl rfl (fun _ => step_move Sub.rfl) ?_
      refine JM_step rfl rfl rfl rfl (fun _ => step_move Sub.rfl) ?_
      refine JM_step rfl rfl rfl rfl (fun _ => step_len_sl Tryz.underlying32 Sub.ofC) ?_
      refine JM_step rfl rfl rfl rfl (fun _ => step_lss Sub.rfl Sub.rfl) ?_
      refine JM_step rfl rfl rfl rfl (fun _ => step_move Sub.rfl) ?_
      refine JM_stepG rfl rfl rfl rfl (Gd.plain Sub.rfl) rfl rfl (fun hw _ => step_move Sub.rfl) ?_
      refine JM_stepG rfl rfl rfl rfl (Gd.plain Sub.rfl) rfl rfl (fun hw _ => step_move Sub.rfl) ?_
      refine JM_stepG rfl rfl rfl rfl (Gd.plain Sub.rfl) rfl rfl (fun hw _ => step_indexAddr_sl  Tryz.underlying32 ty9 (Sub.trans (Sub.w hw) Sub.ofC) (Sub.w hw) rfl (gb ?sg1)) ?_
      case sg1 => have hwq := hw; (try simp only [beqB_t, beqB_f, decide_eq_true_eq, decide_eq_false_iff_not, Bool.and_eq_true, Bool.or_eq_true, Bool.and_eq_false_iff, Bool.or_eq_false_iff, Bool.not_eq_true', Bool.not_eq_false', Int.not_lt, Int.not_le, Bool.not_true, Bool.not_false] at hwq); omega
      refine JM_stepG rfl rfl rfl rfl (Gd.plain Sub.rfl) rfl rfl (fun hw _ => step_load_ptr ty9 (Sub.w hw)) ?_
      refine JM_stepG rfl rfl rfl rfl (Gd.plain Sub.rfl) rfl rfl (fun hw _ => step_move Sub.rfl) ?_
      refine JM_stepG rfl rfl rfl rfl (Gd.plain Sub.rfl) rfl rfl (fun hw _ => step_move Sub.rfl) ?_
      refine JM_stepG rfl rfl rfl rfl (Gd.plain Sub.rfl) rfl rfl (fun hw _ => step_indexAddr_sl  Tryz.underlying32 ty9 (Sub.trans (Sub.w hw) Sub.ofC) (Sub.w hw) rfl (gb ?sg1)) ?_
      case sg1 => have hwq := hw; (try simp only [beqB_t, beqB_f, decide_eq_true_eq, decide_eq_false_iff_not, Bool.and_eq_true, Bool.or_eq_true, Bool.and_eq_false_iff, Bool.or_eq_false_iff, Bool.not_eq_true', Bool.not_eq_false', Int.not_lt, Int.not_le, Bool.not_true, Bool.not_false] at hwq); exact hlt
      refine JM_stepG rfl rfl rfl rfl (Gd.plain Sub.rfl) rfl rfl (fun hw _ => step_load_ptr ty9 (Sub.w hw)) ?_
      refine JM_stepG rfl rfl rfl rfl (Gd.plain Sub.rfl) rfl rfl (fun hw _ => step_eql_str (Sub.w hw) (Sub.w hw)) ?_
      refine JM_step rfl rfl rfl rfl (fun _ => step_pick_and Sub.rfl Sub.rfl) ?_
      refine JM_nil ?_
      refine J_cond Sub.rfl (fun h44 => ?_) (fun h44 => ?_)
      · try simp only [decide_eq_true_eq, decide_eq_false_iff_not, Bool.and_eq_true, Bool.or_eq_true, Bool.and_eq_false_iff, Bool.or_eq_false_iff, Bool.not_eq_true', Bool.not_eq_false', Int.not_lt, Int.not_le, Bool.not_true, Bool.not_false] at h44
        have hin : (nth l i) ∈ o := by rw [← h44.2]; exact nth_mem (by omega)
        refine J_exit ?_
        refine J_region ?_
        refine JL_step rfl rfl rfl (step_move Sub.rfl) ?_
        refine JL_step rfl rfl rfl (step_add Sub.rfl Sub.rfl ?sg1) ?_
        case sg1 => unfold in64; omega
        refine JL_step rfl rfl rfl (step_assign Sub.rfl) ?_
        refine JL_nil ?_
        refine K_againL (σ := Nat × List ByteArray) (s := (i, o)) (i + 1, o) (by first | omega | (dsimp only; omega) | (simp_all; omega)) ⟨by omega, ho, fun x => by rw [take_mem hlt, hm]; exact ⟨.inl, fun h => h.elim id (fun e => by rw [e]; exact (hm _).1 hin)⟩, by omega⟩ (SubE.upd Sub.rfl (SubE.upd Sub.rfl (SubE.upd Sub.rfl (SubE.upd Sub.rfl SubE.any)))) (LSub.rfl)
      · try simp only [decide_eq_true_eq, decide_eq_false_iff_not, Bool.and_eq_true, Bool.or_eq_true, Bool.and_eq_false_iff, Bool.or_eq_false_iff, Bool.not_eq_true', Bool.not_eq_false', Int.not_lt, Int.not_le, Bool.not_true, Bool.not_false] at h44
        have hgt : k < o.length → ofB (nth l i) < ofB (nth o k) := fun hq => by have h1 := hge hq; rcases h44 with h | h; omega; exact List.not_le.1 (fun h3 => h (ofB_inj (List.le_antisymm h3 (List.not_lt.1 h1))))
        refine J_skip ?_
        refine J_seq ?_
        refine J_region ?_
        refine JL_stepX rfl rfl rfl (step_literal_own (ys := ([] : List ByteArray)) Tryz.underlying32 el9 trivial rfl (by decide)) fun v45 => ?_
        refine JL_step rfl rfl rfl (step_move Sub.rfl) ?_
        refine JL_step rfl rfl rfl (step_move Sub.rfl) ?_
        refine JL_step rfl rfl rfl (step_slice_toC (n := k) Tryz.underlying32 ty9 Sub.rfl Sub.rfl rfl hk1) ?_
        refine JL_stepX rfl rfl rfl (step_append Tryz.underlying32 el9 Sub.rfl Sub.rfl (by first | exact Sel.take (Sel.none _) | exact Sel.skip (Sel.take (Sel.none _)) | exact Sel.skip (Sel.skip (Sel.take (Sel.none _))) | exact Sel.skip (Sel.skip (Sel.skip (Sel.take (Sel.none _)))) | exact Sel.skip (Sel.skip (Sel.skip (Sel.skip (Sel.take (Sel.none _)))))) (by simp; omega) (by simp; omega)) fun v49 => ?_
        refine JL_step rfl rfl rfl (step_assign Sub.rfl) ?_
        refine JL_nil ?_
        refine J_seq ?_
        refine J_region ?_
        refine JL_step rfl rfl rfl (step_move Sub.rfl) ?_
        refine JL_step rfl rfl rfl (step_move Sub.rfl) ?_
        refine JL_step rfl rfl rfl (step_move Sub.rfl) ?_
        refine JL_step rfl rfl rfl (step_indexAddr_sl  Tryz.underlying32 ty9 Sub.ofC Sub.rfl rfl (gb ?sg1)) ?_
        case sg1 => exact hlt
        refine JL_step rfl rfl rfl (step_load_ptr ty9 Sub.rfl) ?_
        refine JL_step rfl rfl rfl (step_literal (ys := [_]) Tryz.underlying32 el9 ⟨rfl, Sub.rfl, trivial⟩ rfl (by decide)) ?_
        refine JL_stepX rfl rfl rfl (step_append Tryz.underlying32 el9 Sub.rfl Sub.rfl (by first | exact Sel.take (Sel.none _) | exact Sel.skip (Sel.take (Sel.none _)) | exact Sel.skip (Sel.skip (Sel.take (Sel.none _))) | exact Sel.skip (Sel.skip (Sel.skip (Sel.take (Sel.none _)))) | exact Sel.skip (Sel.skip (Sel.skip (Sel.skip (Sel.take (Sel.none _)))))) (by simp; omega) (by simp; omega)) fun v56 => ?_
        refine JL_step rfl rfl rfl (step_assign Sub.rfl) ?_
        refine JL_nil ?_
        refine J_region ?_
        refine JL_step rfl rfl rfl (step_move Sub.rfl) ?_
        refine JL_step rfl rfl rfl (step_move Sub.rfl) ?_
        refine JL_step rfl rfl rfl (step_move Sub.rfl) ?_
        refine JL_step rfl rfl rfl (step_slice_fromC (n := k) Tryz.underlying32 ty9 rfl Sub.rfl Sub.rfl rfl hk1) ?_
        refine JL_stepX rfl rfl rfl (step_append Tryz.underlying32 el9 Sub.rfl Sub.ofC (by first | exact Sel.take (Sel.none _) | exact Sel.skip (Sel.take (Sel.none _)) | exact Sel.skip (Sel.skip (Sel.take (Sel.none _))) | exact Sel.skip (Sel.skip (Sel.skip (Sel.take (Sel.none _)))) | exact Sel.skip (Sel.skip (Sel.skip (Sel.skip (Sel.take (Sel.none _)))))) (by simp; omega) (by simp; omega)) fun v61 => ?_
        refine JL_step rfl rfl rfl (step_assign Sub.rfl) ?_
        refine JL_nil ?_
        refine J_region ?_
        refine JL_step rfl rfl rfl (step_move Sub.rfl) ?_
        refine JL_step rfl rfl rfl (step_add Sub.rfl Sub.rfl ?sg1) ?_
        case sg1 => unfold in64; omega
        refine JL_step rfl rfl rfl (step_assign Sub.rfl) ?_
        refine JL_nil ?_
        refine K_freeze (t := 3) (A' := tSlC rStr (insK o k (nth l i))) (Sel.take (Sel.none _)) Frz.ownC ?_
        refine K_againL (σ := Nat × List ByteArray) (s := (i, o)) (i + 1, insK o k (nth l i)) (by first | omega | (dsimp only; omega) | (simp_all; omega)) ⟨by omega, insK_inc ho hk1 hk2 hgt, fun x => by rw [insK_mem, take_mem hlt, hm]; exact ⟨fun h => h.elim .inr .inl, fun h => h.elim .inr .inl⟩, by rw [insK_len]; omega⟩ (SubE.upd Sub.rfl (SubE.upd Sub.rfl (SubE.upd Sub.rfl (SubE.upd Sub.rfl SubE.any)))) (LSub.rfl)
  · try simp only [decide_eq_true_eq, decide_eq_false_iff_not, Bool.and_eq_true, Bool.or_eq_true, Bool.and_eq_false_iff, Bool.or_eq_false_iff, Bool.not_eq_true', Bool.not_eq_false', Int.not_lt, Int.not_le, Bool.not_true, Bool.not_false] at h10
    refine J_exit ?_
    refine J_seq ?_
    refine J_region ?_
    refine JL_step rfl rfl rfl (step_move Sub.rfl) ?_
    refine JL_step rfl rfl rfl (step_assign Sub.rfl) ?_
    refine JL_nil ?_
    refine J_ret ?_
    refine K_ret1 (t := 2) rfl () ?_
    rw [← sortedU (l := l) ho (fun x => by rw [hm, List.take_of_length_le (by omega)])]; exact Sub.rfl
theorem TokensR_spec (text : ByteArray) (hsz : text.size ≤ 100000000) : Fun1 Tryz.prog 38 [tV (.string text)] (tSlC rStr (tokM text)) := by
  refine Spec.enter Tryz.func38 rfl rfl fun h0 w0 fr0 => ?_
  have hws := words_sizes text
  refine J_seq ?_
  refine J_region ?_
  refine JL_step rfl rfl rfl (step_assign Sub.rfl) ?_
  refine JL_nil ?_
  refine J_seq ?_
  refine J_region ?_
  refine JL_step rfl rfl rfl (step_move Sub.rfl) ?_
  refine JL_step rfl rfl rfl (step_call0 (WordsR_spec text hsz) ⟨Sub.rfl, trivial⟩ Tryz.call69) ?_
  refine JL_step rfl rfl rfl (step_call0 (SortedR_spec (wordsM text) (by omega)) ⟨Sub.rfl, trivial⟩ Tryz.call41) ?_
  refine JL_step rfl rfl rfl (step_assign Sub.rfl) ?_
  refine JL_nil ?_
  refine J_ret ?_
  refine K_ret1 (t := 2) rfl () ?_
  rw [← comp_tok]; exact Sub.rfl
end Lg
