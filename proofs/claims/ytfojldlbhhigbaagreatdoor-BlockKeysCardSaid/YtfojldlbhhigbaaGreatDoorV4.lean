/- For all inputs the law BlockKeys answers true: the card. -/
import Derived.Test.YtfojldlbhhigbaaGreatDoorH
set_option linter.unusedVariables false
set_option linter.unusedSimpArgs false
set_option linter.unusedSectionVars false
namespace Lg
open Go Go.Proofs


theorem bytesLess_iff : ∀ (a b : List UInt8), Op.bytesLess a b = true ↔ a < b
  | [], [] => by simp [Op.bytesLess]
  | [], _ :: _ => by simp [Op.bytesLess]
  | _ :: _, [] => by simp [Op.bytesLess]
  | a :: ra, b :: rb => by
    have ih := bytesLess_iff ra rb
    simp only [Op.bytesLess, List.cons_lt_cons_iff]
    by_cases h1 : a < b
    · simp [h1]
    · by_cases h2 : b < a
      · have : a ≠ b := fun e => by subst e; exact h1 h2
        simp [h1, h2, this]
      · have : a = b := UInt8.le_antisymm (UInt8.not_lt.1 h2) (UInt8.not_lt.1 h1)
        subst this
        simp [h1, ih]
theorem less_ofB (a b : ByteArray) : Op.bytesLess a.toList b.toList = decide (ofB a < ofB b) := by
  rw [Bool.eq_iff_iff, bytesLess_iff, ByteArray.toList_eq, ByteArray.toList_eq, decide_eq_true_eq]
theorem step_geq_str {C : Cx} {E : Env} {L : List SP} {d : Option Nat} {ty : Nat} {pos : String} {af : Array Edge} {g : Option (Nat × Bool)} {T U : Nat} {x y : Operand} {a b : ByteArray} (hx : Sub (opTy E x) (tV (.string a))) (hy : Sub (opTy E y) (tV (.string b))) :
    Step1 C ⟨d, .binOp .geq T x y U, ty, pos, af, g⟩ E L (tV (.bool (!decide (ofB a < ofB b)))) := step_str hx hy (fun P w => by rw [← less_ofB]; simp [binOp, Op.stringOp])
theorem keysM_inc (b : GBlock) (r : GRecord) : incB (keysM b r) := by
  unfold keysM
  split
  · simp [incB]
  · split
    · simp [incB]
    · exact finM_inc _
theorem keysM_ne {b : GBlock} {r : GRecord} {x : ByteArray} (h : x ∈ keysM b r) : x ≠ ⟨#[]⟩ := by
  unfold keysM at h
  split at h
  · cases h
  · split at h
    · cases h
    · exact (mem_finM.1 h).2
theorem keysM_lt {b : GBlock} {r : GRecord} {i j : Nat} (hij : i < j) (hj : j < (keysM b r).length) : ofB (nth (keysM b r) i) < ofB (nth (keysM b r) j) := by
  have := keysM_inc b r
  unfold incB at this
  rw [List.pairwise_iff_getElem] at this
  rw [nth_get hj, nth_get (by omega)]
  exact this i j (by omega) hj hij
theorem keysM_out {b : GBlock} {r : GRecord} (h : ¬ (0 ≤ b.Col ∧ b.Col < (r.Cells.length : Int))) : keysM b r = [] := by
  unfold keysM
  rw [if_pos]
  unfold fitsB
  rw [Bool.eq_false_iff]
  intro q
  simp only [Bool.and_eq_true, decide_eq_true_eq] at q
  exact h ⟨q.2.2.1, q.2.2.2⟩
theorem keysM_null {b : GBlock} {r : GRecord} (h : (cellV b r).Kind = 0) : keysM b r = [] := by
  unfold keysM
  split
  · rfl
  · first | rfl | rw [if_pos h]
theorem keysM_same {b : GBlock} {r s : GRecord} (h0 : 0 ≤ b.Col) (h1 : b.Col < (r.Cells.length : Int)) (h2 : b.Col < (s.Cells.length : Int)) (ht : r.Table = s.Table) (hv : cellV b r = cellV b s) : keysM b r = keysM b s := by
  have hf : fitsB b r = fitsB b s := by
    unfold fitsB
    rw [ht]
    simp [h1, h2]
  unfold keysM
  rw [hf, hv]
theorem noBad {b : GBlock} {r : GRecord} {i : Nat} (hlt : i < (keysM b r).length) : ¬ (nth (keysM b r) i = ⟨#[]⟩ ∨ 0 < (i : Int) ∧ ¬ ofB (nth (keysM b r) (i - 1)) < ofB (nth (keysM b r) i)) := by
  rintro (h | ⟨h1, h2⟩)
  · exact keysM_ne (nth_mem hlt) h
  · exact h2 (keysM_lt (by omega) hlt)

theorem lawKeys_spec (b : GBlock) (r s : GRecord) : Fun1 Tryz.prog 4 [rBlock.ty b, rRecord.ty r, rRecord.ty s] (tV (.bool true)) := by
  refine Spec.enter Tryz.func4 rfl rfl fun h0 w0 fr0 => ?_
  refine J_seq ?_
  refine J_region ?_
  refine JL_step rfl rfl rfl (step_box (R := rBlock) Sub.rfl) ?_
  refine JL_step rfl rfl rfl (step_box (R := rRecord) Sub.rfl) ?_
  refine JL_step rfl rfl rfl (step_box (R := rRecord) Sub.rfl) ?_
  refine JL_step rfl rfl rfl (step_assign Sub.rfl) ?_
  refine JL_nil ?_
  refine J_seq ?_
  refine J_region ?_
  refine JL_step rfl rfl rfl (step_call0 (head_spec ) trivial Tryz.call10) ?_
  refine JL_step rfl rfl rfl (step_assign Sub.rfl) ?_
  refine JL_nil ?_
  refine J_seq ?_
  refine J_seq ?_
  refine J_region ?_
  refine JL_step rfl rfl rfl (step_load_ptr ty28 Sub.rfl) ?_
  refine JL_step rfl rfl rfl (step_load_ptr ty28 Sub.rfl) ?_
  refine JL_step rfl rfl rfl (step_literal (ys := [_, _]) Tryz.underlying23 el28 ⟨rfl, Sub.rfl, rfl, Sub.rfl, trivial⟩ rfl (by decide)) ?_
  refine JL_step rfl rfl rfl (step_call0 (Few_spec [] [r, s] 2 (by decide)) ⟨Sub.nilsl, Sub.rfl, Sub.rfl, trivial⟩ Tryz.call11) ?_
  refine JL_step rfl rfl rfl (step_not Sub.rfl) ?_
  refine JL_nil ?_
  refine J_cond Sub.rfl (fun h15 => ?_) (fun h15 => ?_)
  · try simp only [decide_eq_true_eq, decide_eq_false_iff_not, Bool.and_eq_true, Bool.or_eq_true, Bool.and_eq_false_iff, Bool.or_eq_false_iff, Bool.not_eq_true', Bool.not_eq_false', Int.not_lt, Int.not_le, Bool.not_true, Bool.not_false] at h15
    refine J_seq ?_
    refine J_region ?_
    refine JL_step rfl rfl rfl (step_move Sub.rfl) ?_
    refine JL_step rfl rfl rfl (step_assign Sub.rfl) ?_
    refine JL_nil ?_
    refine J_ret ?_
    exact K_ret1 (t := 6) rfl () Sub.rfl
  · try simp only [decide_eq_true_eq, decide_eq_false_iff_not, Bool.and_eq_true, Bool.or_eq_true, Bool.and_eq_false_iff, Bool.or_eq_false_iff, Bool.not_eq_true', Bool.not_eq_false', Int.not_lt, Int.not_le, Bool.not_true, Bool.not_false] at h15
    have hF : FewP [] [r, s] 2 := by simpa using h15
    have hr : recFew r := hF.2.2 r (by simp)
    have hs : recFew s := hF.2.2 s (by simp)
    have hkl := keys_len (b := b) hr.ok
    refine J_skip ?_
    refine J_seq ?_
    refine J_region ?_
    refine JL_step rfl rfl rfl (step_load_ptr ty35 Sub.rfl) ?_
    refine JL_step rfl rfl rfl (step_load_ptr ty28 Sub.rfl) ?_
    refine JL_step rfl rfl rfl (step_call0 (Keys_spec _ _ hr.ok) ⟨Sub.rfl, Sub.rfl, trivial⟩ Tryz.call13) ?_
    refine JL_step rfl rfl rfl (step_assign Sub.rfl) ?_
    refine JL_nil ?_
    refine J_seq ?_
    refine J_seq ?_
    refine J_region ?_
    refine JL_step rfl rfl rfl (step_assign Sub.rfl) ?_
    refine JL_nil ?_
    refine J_block ?_
    refine J_loopL (σ := Nat) (fun i => i ≤ (keysM b r).length) (fun i => upd (upd (upd (upd (upd (upd env0 3 (tPtr rBlock b)) 4 (tPtr rRecord r)) 5 (tPtr rRecord s)) 7 (tV (.bool true))) 8 (tSl rStr (keysM b r))) 9 (tV (.int .i64 i))) (fun i => []) (fun i => (keysM b r).length - i) 0 (by omega) (SubE.upd Sub.rfl (SubE.upd Sub.rfl (SubE.upd Sub.rfl (SubE.upd Sub.rfl (SubE.upd Sub.rfl (SubE.upd Sub.rfl SubE.any)))))) (LSub.rfl) ?_
    rintro i hi
    refine J_seq ?_
    refine J_seq ?_
    refine J_region ?_
    refine JL_step rfl rfl rfl (step_move Sub.rfl) ?_
    refine JL_step rfl rfl rfl (step_move Sub.rfl) ?_
    refine JL_step rfl rfl rfl (step_len_sl Tryz.underlying32 Sub.rfl) ?_
    refine JL_step rfl rfl rfl (step_lss Sub.rfl Sub.rfl) ?_
    refine JL_nil ?_
    refine J_cond Sub.rfl (fun h23 => ?_) (fun h23 => ?_)
    · try simp only [decide_eq_true_eq, decide_eq_false_iff_not, Bool.and_eq_true, Bool.or_eq_true, Bool.and_eq_false_iff, Bool.or_eq_false_iff, Bool.not_eq_true', Bool.not_eq_false', Int.not_lt, Int.not_le, Bool.not_true, Bool.not_false] at h23
      have hlt : i < (keysM b r).length := by omega
      refine J_skip ?_
      refine J_seq ?_
      refine J_block ?_
      refine J_seq ?_
      refine J_draw [⟨0, [8], true⟩, ⟨1, [9], true⟩, ⟨2, [26, 27], true⟩, ⟨3, [28], true⟩, ⟨4, [29], true⟩, ⟨5, [30], true⟩, ⟨6, [9, 31], true⟩, ⟨7, [31, 32], true⟩, ⟨8, [31, 33], true⟩, ⟨9, [8, 34], true⟩, ⟨10, [9, 34], true⟩, ⟨11, [34, 36], true⟩, ⟨12, [34, 37], true⟩, ⟨13, [34, 35, 38], true⟩, ⟨14, [34, 39], true⟩, ⟨15, [8, 34], true⟩, ⟨16, [9, 34], true⟩, ⟨17, [34, 41, 42], true⟩, ⟨18, [34, 43], true⟩, ⟨19, [34, 40, 44], true⟩, ⟨20, [31, 34, 45], true⟩, ⟨21, [31, 46], true⟩] rfl (by kernel_rfl) ?_
      refine JM_step rfl rfl rfl rfl (fun _ => step_move Sub.rfl) ?_
      refine JM_step rfl rfl rfl rfl (fun _ => step_move Sub.rfl) ?_
      refine JM_step rfl rfl rfl rfl (fun _ => step_indexAddr_sl  Tryz.underlying32 ty9 Sub.rfl Sub.rfl rfl (gb ?sg1)) ?_
      case sg1 => exact hlt
      refine JM_step rfl rfl rfl rfl (fun _ => step_load_ptr ty9 Sub.rfl) ?_
      refine JM_step rfl rfl rfl rfl (fun _ => step_eql_str Sub.rfl Sub.rfl) ?_
      refine JM_step rfl rfl rfl rfl (fun _ => step_move Sub.rfl) ?_
      refine JM_stepG rfl rfl rfl rfl (Gd.plain Sub.rfl) rfl rfl (fun hw _ => step_move Sub.rfl) ?_
      refine JM_stepG rfl rfl rfl rfl (Gd.plain Sub.rfl) rfl rfl (fun hw _ => step_gtr (Sub.w hw) Sub.rfl) ?_
      refine JM_stepG rfl rfl rfl rfl (Gd.plain Sub.rfl) rfl rfl (fun hw _ => step_move (Sub.w hw)) ?_
      refine JM_stepG rfl rfl rfl rfl (Gd.nest Sub.rfl) rfl rfl (fun hw _ => step_move Sub.rfl) ?_
      refine JM_stepG rfl rfl rfl rfl (Gd.nest Sub.rfl) rfl rfl (fun hw _ => step_move Sub.rfl) ?_
      refine JM_stepG rfl rfl rfl rfl (Gd.nest Sub.rfl) rfl rfl (fun hw _ => step_sub (Sub.w hw) Sub.rfl ?sg1) ?_
      case sg1 => have hwq := hw; (try simp only [beqB_t, beqB_f, decide_eq_true_eq, decide_eq_false_iff_not, Bool.and_eq_true, Bool.or_eq_true, Bool.and_eq_false_iff, Bool.or_eq_false_iff, Bool.not_eq_true', Bool.not_eq_false', Int.not_lt, Int.not_le, Bool.not_true, Bool.not_false] at hwq); unfold in64; omega
      refine JM_stepG rfl rfl rfl rfl (Gd.nest Sub.rfl) rfl rfl (fun hw _ => step_max (Sub.w hw) Sub.rfl) ?_
      refine JM_stepG rfl rfl rfl rfl (Gd.nest Sub.rfl) rfl rfl (fun hw _ => step_indexAddr_sl (i := (i - 1)) Tryz.underlying32 ty9 (Sub.w hw) (Sub.w hw) ?sg1 (gb ?sg2)) ?_
      case sg1 => have hwq := hw; (try simp only [beqB_t, beqB_f, decide_eq_true_eq, decide_eq_false_iff_not, Bool.and_eq_true, Bool.or_eq_true, Bool.and_eq_false_iff, Bool.or_eq_false_iff, Bool.not_eq_true', Bool.not_eq_false', Int.not_lt, Int.not_le, Bool.not_true, Bool.not_false] at hwq); split <;> omega
      case sg2 => have hwq := hw; (try simp only [beqB_t, beqB_f, decide_eq_true_eq, decide_eq_false_iff_not, Bool.and_eq_true, Bool.or_eq_true, Bool.and_eq_false_iff, Bool.or_eq_false_iff, Bool.not_eq_true', Bool.not_eq_false', Int.not_lt, Int.not_le, Bool.not_true, Bool.not_false] at hwq); omega
      refine JM_stepG rfl rfl rfl rfl (Gd.nest Sub.rfl) rfl rfl (fun hw _ => step_load_ptr ty9 (Sub.w hw)) ?_
      refine JM_stepG rfl rfl rfl rfl (Gd.nest Sub.rfl) rfl rfl (fun hw _ => step_move Sub.rfl) ?_
      refine JM_stepG rfl rfl rfl rfl (Gd.nest Sub.rfl) rfl rfl (fun hw _ => step_move Sub.rfl) ?_
      refine JM_stepG rfl rfl rfl rfl (Gd.nest Sub.rfl) rfl rfl (fun hw _ => step_indexAddr_sl  Tryz.underlying32 ty9 (Sub.w hw) (Sub.w hw) rfl (gb ?sg1)) ?_
      case sg1 => have hwq := hw; (try simp only [beqB_t, beqB_f, decide_eq_true_eq, decide_eq_false_iff_not, Bool.and_eq_true, Bool.or_eq_true, Bool.and_eq_false_iff, Bool.or_eq_false_iff, Bool.not_eq_true', Bool.not_eq_false', Int.not_lt, Int.not_le, Bool.not_true, Bool.not_false] at hwq); exact hlt
      refine JM_stepG rfl rfl rfl rfl (Gd.nest Sub.rfl) rfl rfl (fun hw _ => step_load_ptr ty9 (Sub.w hw)) ?_
      refine JM_stepG rfl rfl rfl rfl (Gd.nest Sub.rfl) rfl rfl (fun hw _ => step_geq_str (Sub.w hw) (Sub.w hw)) ?_
      refine JM_stepG rfl rfl rfl rfl (Gd.plain Sub.rfl) rfl rfl (fun hw _ => step_pick_and (Sub.w hw) (Sub.ww hw)) ?_
      refine JM_step rfl rfl rfl rfl (fun _ => step_pick_or Sub.rfl Sub.rfl) ?_
      refine JM_nil ?_
      refine J_cond Sub.rfl (fun h47 => ?_) (fun h47 => ?_)
      · try simp only [decide_eq_true_eq, decide_eq_false_iff_not, Bool.and_eq_true, Bool.or_eq_true, Bool.and_eq_false_iff, Bool.or_eq_false_iff, Bool.not_eq_true', Bool.not_eq_false', Int.not_lt, Int.not_le, Bool.not_true, Bool.not_false] at h47
        exact absurd h47 (noBad hlt)
      · try simp only [decide_eq_true_eq, decide_eq_false_iff_not, Bool.and_eq_true, Bool.or_eq_true, Bool.and_eq_false_iff, Bool.or_eq_false_iff, Bool.not_eq_true', Bool.not_eq_false', Int.not_lt, Int.not_le, Bool.not_true, Bool.not_false] at h47
        refine J_skip ?_
        refine J_region ?_
        refine JL_step rfl rfl rfl (step_move Sub.rfl) ?_
        refine JL_step rfl rfl rfl (step_add Sub.rfl Sub.rfl ?sg1) ?_
        case sg1 => unfold in64; omega
        refine JL_step rfl rfl rfl (step_assign Sub.rfl) ?_
        refine JL_nil ?_
        refine K_againL (σ := Nat) (s := i) (i + 1) (by first | omega | (dsimp only; omega) | (simp_all; omega)) (by omega) (SubE.upd Sub.rfl (SubE.upd Sub.rfl (SubE.upd Sub.rfl (SubE.upd Sub.rfl (SubE.upd Sub.rfl (SubE.upd Sub.rfl SubE.any)))))) (LSub.rfl)
    · try simp only [decide_eq_true_eq, decide_eq_false_iff_not, Bool.and_eq_true, Bool.or_eq_true, Bool.and_eq_false_iff, Bool.or_eq_false_iff, Bool.not_eq_true', Bool.not_eq_false', Int.not_lt, Int.not_le, Bool.not_true, Bool.not_false] at h23
      refine J_exit ?_
      refine J_seq ?_
      refine J_seq ?_
      refine J_region ?_
      refine JL_step rfl rfl rfl (step_fieldAddr so35 Sub.rfl rfl) ?_
      refine JL_step rfl rfl rfl (step_load_ptr ty3 Sub.rfl) ?_
      refine JL_step rfl rfl rfl (step_lss Sub.rfl Sub.rfl) ?_
      refine JL_step rfl rfl rfl (step_move Sub.rfl) ?_
      refine JL_stepG rfl rfl rfl (Gd.plain Sub.rfl) rfl rfl (fun hw => step_fieldAddr so35 Sub.rfl rfl) ?_
      refine JL_stepG rfl rfl rfl (Gd.plain Sub.rfl) rfl rfl (fun hw => step_load_ptr ty3 (Sub.w hw)) ?_
      refine JL_stepG rfl rfl rfl (Gd.plain Sub.rfl) rfl rfl (fun hw => step_fieldAddr so28 Sub.rfl rfl) ?_
      refine JL_stepG rfl rfl rfl (Gd.plain Sub.rfl) rfl rfl (fun hw => step_load_ptr ty26 (Sub.w hw)) ?_
      refine JL_stepG rfl rfl rfl (Gd.plain Sub.rfl) rfl rfl (fun hw => step_len_sl Tryz.underlying26 (Sub.w hw)) ?_
      refine JL_stepG rfl rfl rfl (Gd.plain Sub.rfl) rfl rfl (fun hw => step_geq (Sub.w hw) (Sub.w hw)) ?_
      refine JL_step rfl rfl rfl (step_pick_or Sub.rfl Sub.rfl) ?_
      refine JL_step rfl rfl rfl (step_move Sub.rfl) ?_
      refine JL_stepG rfl rfl rfl (Gd.plain Sub.rfl) rfl rfl (fun hw => step_fieldAddr so35 Sub.rfl rfl) ?_
      refine JL_stepG rfl rfl rfl (Gd.plain Sub.rfl) rfl rfl (fun hw => step_load_ptr ty3 (Sub.w hw)) ?_
      refine JL_stepG rfl rfl rfl (Gd.plain Sub.rfl) rfl rfl (fun hw => step_fieldAddr so28 Sub.rfl rfl) ?_
      refine JL_stepG rfl rfl rfl (Gd.plain Sub.rfl) rfl rfl (fun hw => step_load_ptr ty26 (Sub.w hw)) ?_
      refine JL_stepG rfl rfl rfl (Gd.plain Sub.rfl) rfl rfl (fun hw => step_len_sl Tryz.underlying26 (Sub.w hw)) ?_
      refine JL_stepG rfl rfl rfl (Gd.plain Sub.rfl) rfl rfl (fun hw => step_geq (Sub.w hw) (Sub.w hw)) ?_
      refine JL_step rfl rfl rfl (step_pick_or Sub.rfl Sub.rfl) ?_
      refine JL_step rfl rfl rfl (step_move Sub.rfl) ?_
      refine JL_stepG rfl rfl rfl (Gd.plain Sub.rfl) rfl rfl (fun hw => step_fieldAddr so28 Sub.rfl rfl) ?_
      refine JL_stepG rfl rfl rfl (Gd.plain Sub.rfl) rfl rfl (fun hw => step_load_ptr ty3 (Sub.w hw)) ?_
      refine JL_stepG rfl rfl rfl (Gd.plain Sub.rfl) rfl rfl (fun hw => step_fieldAddr so28 Sub.rfl rfl) ?_
      refine JL_stepG rfl rfl rfl (Gd.plain Sub.rfl) rfl rfl (fun hw => step_load_ptr ty3 (Sub.w hw)) ?_
      refine JL_stepG rfl rfl rfl (Gd.plain Sub.rfl) rfl rfl (fun hw => step_neq (Sub.w hw) (Sub.w hw)) ?_
      refine JL_step rfl rfl rfl (step_pick_or Sub.rfl Sub.rfl) ?_
      refine JL_nil ?_
      refine J_cond Sub.rfl (fun h73 => ?_) (fun h73 => ?_)
      · try simp only [decide_eq_true_eq, decide_eq_false_iff_not, Bool.and_eq_true, Bool.or_eq_true, Bool.and_eq_false_iff, Bool.or_eq_false_iff, Bool.not_eq_true', Bool.not_eq_false', Int.not_lt, Int.not_le, Bool.not_true, Bool.not_false] at h73
        refine J_seq ?_
        refine J_region ?_
        refine JL_step rfl rfl rfl (step_move Sub.rfl) ?_
        refine JL_step rfl rfl rfl (step_move Sub.rfl) ?_
        refine JL_stepG rfl rfl rfl (Gd.plain Sub.rfl) rfl rfl (fun hw => step_fieldAddr so35 Sub.rfl rfl) ?_
        refine JL_stepG rfl rfl rfl (Gd.plain Sub.rfl) rfl rfl (fun hw => step_load_ptr ty3 (Sub.w hw)) ?_
        refine JL_stepG rfl rfl rfl (Gd.plain Sub.rfl) rfl rfl (fun hw => step_geq (Sub.w hw) Sub.rfl) ?_
        refine JL_stepG rfl rfl rfl (Gd.plain Sub.rfl) rfl rfl (fun hw => step_move (Sub.w hw)) ?_
        refine JL_stepG rfl rfl rfl (Gd.nest Sub.rfl) rfl rfl (fun hw => step_fieldAddr so35 Sub.rfl rfl) ?_
        refine JL_stepG rfl rfl rfl (Gd.nest Sub.rfl) rfl rfl (fun hw => step_load_ptr ty3 (Sub.w hw)) ?_
        refine JL_stepG rfl rfl rfl (Gd.nest Sub.rfl) rfl rfl (fun hw => step_fieldAddr so28 Sub.rfl rfl) ?_
        refine JL_stepG rfl rfl rfl (Gd.nest Sub.rfl) rfl rfl (fun hw => step_load_ptr ty26 (Sub.w hw)) ?_
        refine JL_stepG rfl rfl rfl (Gd.nest Sub.rfl) rfl rfl (fun hw => step_len_sl Tryz.underlying26 (Sub.w hw)) ?_
        refine JL_stepG rfl rfl rfl (Gd.nest Sub.rfl) rfl rfl (fun hw => step_lss (Sub.w hw) (Sub.w hw)) ?_
        refine JL_stepG rfl rfl rfl (Gd.plain Sub.rfl) rfl rfl (fun hw => step_pick_and (Sub.w hw) (Sub.ww hw)) ?_
        refine JL_stepG rfl rfl rfl (Gd.plain Sub.rfl) rfl rfl (fun hw => step_move (Sub.w hw)) ?_
        refine JL_stepG rfl rfl rfl (Gd.nest Sub.rfl) rfl rfl (fun hw => step_move Sub.rfl) ?_
        refine JL_stepG rfl rfl rfl (Gd.nest Sub.rfl) rfl rfl (fun hw => step_len_sl Tryz.underlying32 (Sub.w hw)) ?_
        refine JL_stepG rfl rfl rfl (Gd.nest Sub.rfl) rfl rfl (fun hw => step_eql (Sub.w hw) Sub.rfl) ?_
        refine JL_stepG rfl rfl rfl (Gd.plain Sub.rfl) rfl rfl (fun hw => step_pick_or (Sub.w hw) (Sub.ww hw)) ?_
        refine JL_step rfl rfl rfl (step_pick_and Sub.rfl Sub.rfl) ?_
        refine JL_step rfl rfl rfl (step_assign Sub.rfl) ?_
        refine JL_nil ?_
        refine J_ret ?_
        refine K_ret1 (t := 6) rfl () ?_
        refine Sub.bool ?_
        have hk : ¬ (0 ≤ b.Col ∧ b.Col < (r.Cells.length : Int)) → (keysM b r).length = 0 := fun q => by rw [keysM_out q]; rfl
        show (true && ((decide (0 ≤ b.Col) && decide (b.Col < (r.Cells.length : Int))) || decide (((keysM b r).length : Int) = 0))) = true
        by_cases q : 0 ≤ b.Col ∧ b.Col < (r.Cells.length : Int)
        · simp [q.1, q.2]
        · simp [hk q]
      · try simp only [decide_eq_true_eq, decide_eq_false_iff_not, Bool.and_eq_true, Bool.or_eq_true, Bool.and_eq_false_iff, Bool.or_eq_false_iff, Bool.not_eq_true', Bool.not_eq_false', Int.not_lt, Int.not_le, Bool.not_true, Bool.not_false] at h73
        skip
        have hc0 : 0 ≤ b.Col := by have := h73.1.1.1; omega
        have hc1 : b.Col < (r.Cells.length : Int) := by have := h73.1.1.2; omega
        have hc2 : b.Col < (s.Cells.length : Int) := by have := h73.1.2; omega
        have htb : r.Table = s.Table := by have := h73.2; simpa using this
        have hlr : b.Col.toNat < r.Cells.length := by omega
        have hls : b.Col.toNat < s.Cells.length := by omega
        refine J_skip ?_
        refine J_seq ?_
        refine J_seq ?_
        refine J_region ?_
        refine JL_step rfl rfl rfl (step_fieldAddr so28 Sub.rfl rfl) ?_
        refine JL_step rfl rfl rfl (step_load_ptr ty26 Sub.rfl) ?_
        refine JL_step rfl rfl rfl (step_fieldAddr so35 Sub.rfl rfl) ?_
        refine JL_step rfl rfl rfl (step_load_ptr ty3 Sub.rfl) ?_
        refine JL_step rfl rfl rfl (step_indexAddr_sl (i := b.Col.toNat) Tryz.underlying26 ty49 Sub.rfl Sub.rfl ?sg1 (gb ?sg2)) ?_
        case sg1 => show b.Col = ((b.Col.toNat : Nat) : Int); omega
        case sg2 => exact hlr
        refine JL_step rfl rfl rfl (step_fieldAddr so49 Sub.rfl rfl) ?_
        refine JL_step rfl rfl rfl (step_fieldAddr so47 Sub.rfl rfl) ?_
        refine JL_step rfl rfl rfl (step_load_ptr ty3 Sub.rfl) ?_
        refine JL_step rfl rfl rfl (step_eql Sub.rfl Sub.rfl) ?_
        refine JL_step rfl rfl rfl (step_move Sub.rfl) ?_
        refine JL_stepG rfl rfl rfl (Gd.plain Sub.rfl) rfl rfl (fun hw => step_move Sub.rfl) ?_
        refine JL_stepG rfl rfl rfl (Gd.plain Sub.rfl) rfl rfl (fun hw => step_len_sl Tryz.underlying32 (Sub.w hw)) ?_
        refine JL_stepG rfl rfl rfl (Gd.plain Sub.rfl) rfl rfl (fun hw => step_gtr (Sub.w hw) Sub.rfl) ?_
        refine JL_step rfl rfl rfl (step_pick_and Sub.rfl Sub.rfl) ?_
        refine JL_nil ?_
        refine J_cond Sub.rfl (fun h106 => ?_) (fun h106 => ?_)
        · try simp only [decide_eq_true_eq, decide_eq_false_iff_not, Bool.and_eq_true, Bool.or_eq_true, Bool.and_eq_false_iff, Bool.or_eq_false_iff, Bool.not_eq_true', Bool.not_eq_false', Int.not_lt, Int.not_le, Bool.not_true, Bool.not_false] at h106
          exact absurd h106 (fun q => by have q2 := q.2; rw [keysM_null (show (cellV b r).Kind = 0 from q.1)] at q2; simp at q2)
        · try simp only [decide_eq_true_eq, decide_eq_false_iff_not, Bool.and_eq_true, Bool.or_eq_true, Bool.and_eq_false_iff, Bool.or_eq_false_iff, Bool.not_eq_true', Bool.not_eq_false', Int.not_lt, Int.not_le, Bool.not_true, Bool.not_false] at h106
          refine J_skip ?_
          refine J_seq ?_
          refine J_draw [⟨0, [7], true⟩, ⟨1, [107], true⟩, ⟨2, [4, 108], true⟩, ⟨3, [108, 109], true⟩, ⟨4, [3, 108], true⟩, ⟨5, [108, 111], true⟩, ⟨6, [108, 110, 112], true⟩, ⟨7, [108, 113], true⟩, ⟨8, [108, 114], true⟩, ⟨9, [5, 108], true⟩, ⟨10, [108, 116], true⟩, ⟨11, [3, 108], true⟩, ⟨12, [108, 118], true⟩, ⟨13, [108, 117, 119], true⟩, ⟨14, [108, 120], true⟩, ⟨15, [108, 121], true⟩, ⟨16, [108, 115, 122], true⟩, ⟨17, [108, 123], true⟩, ⟨18, [8, 124], true⟩, ⟨19, [3, 124], true⟩, ⟨20, [5, 124], true⟩, ⟨21, [124, 126, 127], true⟩, ⟨22, [124, 125, 128], true⟩, ⟨23, [108, 124, 129], true⟩, ⟨24, [108, 130], true⟩, ⟨25, [131], true⟩] rfl (by kernel_rfl) ?_
          refine JM_step rfl rfl rfl rfl (fun _ => step_move Sub.rfl) ?_
          refine JM_step rfl rfl rfl rfl (fun _ => step_move Sub.rfl) ?_
          refine JM_stepG rfl rfl rfl rfl (Gd.plain Sub.rfl) rfl rfl (fun hw _ => step_fieldAddr so28 Sub.rfl rfl) ?_
          refine JM_stepG rfl rfl rfl rfl (Gd.plain Sub.rfl) rfl rfl (fun hw _ => step_load_ptr ty26 (Sub.w hw)) ?_
          refine JM_stepG rfl rfl rfl rfl (Gd.plain Sub.rfl) rfl rfl (fun hw _ => step_fieldAddr so35 Sub.rfl rfl) ?_
          refine JM_stepG rfl rfl rfl rfl (Gd.plain Sub.rfl) rfl rfl (fun hw _ => step_load_ptr ty3 (Sub.w hw)) ?_
          refine JM_stepG rfl rfl rfl rfl (Gd.plain Sub.rfl) rfl rfl (fun hw _ => step_indexAddr_sl (i := b.Col.toNat) Tryz.underlying26 ty49 (Sub.w hw) (Sub.w hw) ?sg1 (gb ?sg2)) ?_
          case sg1 => have hwq := hw; (try simp only [beqB_t, beqB_f, decide_eq_true_eq, decide_eq_false_iff_not, Bool.and_eq_true, Bool.or_eq_true, Bool.and_eq_false_iff, Bool.or_eq_false_iff, Bool.not_eq_true', Bool.not_eq_false', Int.not_lt, Int.not_le, Bool.not_true, Bool.not_false] at hwq); show b.Col = ((b.Col.toNat : Nat) : Int); omega
          case sg2 => have hwq := hw; (try simp only [beqB_t, beqB_f, decide_eq_true_eq, decide_eq_false_iff_not, Bool.and_eq_true, Bool.or_eq_true, Bool.and_eq_false_iff, Bool.or_eq_false_iff, Bool.not_eq_true', Bool.not_eq_false', Int.not_lt, Int.not_le, Bool.not_true, Bool.not_false] at hwq); exact hlr
          refine JM_stepG rfl rfl rfl rfl (Gd.plain Sub.rfl) rfl rfl (fun hw _ => step_fieldAddr so49 (Sub.w hw) rfl) ?_
          refine JM_stepG rfl rfl rfl rfl (Gd.plain Sub.rfl) rfl rfl (fun hw _ => step_load_ptr ty47 (Sub.w hw)) ?_
          refine JM_stepG rfl rfl rfl rfl (Gd.plain Sub.rfl) rfl rfl (fun hw _ => step_fieldAddr so28 Sub.rfl rfl) ?_
          refine JM_stepG rfl rfl rfl rfl (Gd.plain Sub.rfl) rfl rfl (fun hw _ => step_load_ptr ty26 (Sub.w hw)) ?_
          refine JM_stepG rfl rfl rfl rfl (Gd.plain Sub.rfl) rfl rfl (fun hw _ => step_fieldAddr so35 Sub.rfl rfl) ?_
          refine JM_stepG rfl rfl rfl rfl (Gd.plain Sub.rfl) rfl rfl (fun hw _ => step_load_ptr ty3 (Sub.w hw)) ?_
          refine JM_stepG rfl rfl rfl rfl (Gd.plain Sub.rfl) rfl rfl (fun hw _ => step_indexAddr_sl (i := b.Col.toNat) Tryz.underlying26 ty49 (Sub.w hw) (Sub.w hw) ?sg1 (gb ?sg2)) ?_
          case sg1 => have hwq := hw; (try simp only [beqB_t, beqB_f, decide_eq_true_eq, decide_eq_false_iff_not, Bool.and_eq_true, Bool.or_eq_true, Bool.and_eq_false_iff, Bool.or_eq_false_iff, Bool.not_eq_true', Bool.not_eq_false', Int.not_lt, Int.not_le, Bool.not_true, Bool.not_false] at hwq); show b.Col = ((b.Col.toNat : Nat) : Int); omega
          case sg2 => have hwq := hw; (try simp only [beqB_t, beqB_f, decide_eq_true_eq, decide_eq_false_iff_not, Bool.and_eq_true, Bool.or_eq_true, Bool.and_eq_false_iff, Bool.or_eq_false_iff, Bool.not_eq_true', Bool.not_eq_false', Int.not_lt, Int.not_le, Bool.not_true, Bool.not_false] at hwq); exact hls
          refine JM_stepG rfl rfl rfl rfl (Gd.plain Sub.rfl) rfl rfl (fun hw _ => step_fieldAddr so49 (Sub.w hw) rfl) ?_
          refine JM_stepG rfl rfl rfl rfl (Gd.plain Sub.rfl) rfl rfl (fun hw _ => step_load_ptr ty47 (Sub.w hw)) ?_
          refine JM_stepG rfl rfl rfl rfl (Gd.plain Sub.rfl) rfl rfl (fun hw _ => step_neq_val (Sub.w hw) (Sub.w hw)) ?_
          refine JM_stepG rfl rfl rfl rfl (Gd.plain Sub.rfl) rfl rfl (fun hw _ => step_move (Sub.w hw)) ?_
          refine JM_stepG rfl rfl rfl rfl (Gd.nest Sub.rfl) rfl rfl (fun hw _ => step_move Sub.rfl) ?_
          refine JM_stepG rfl rfl rfl rfl (Gd.nest Sub.rfl) rfl rfl (fun hw _ => step_load_ptr ty35 Sub.rfl) ?_
          refine JM_stepG rfl rfl rfl rfl (Gd.nest Sub.rfl) rfl rfl (fun hw _ => step_load_ptr ty28 Sub.rfl) ?_
          refine JM_stepG rfl rfl rfl rfl (Gd.nest Sub.rfl) rfl rfl (fun hw _ => step_call0 (Keys_spec _ _ hs.ok) ⟨(Sub.w hw), (Sub.w hw), trivial⟩ Tryz.call13) ?_
          refine JM_stepG rfl rfl rfl rfl (Gd.nest Sub.rfl) rfl rfl (fun hw _ => step_call0 (SameS_spec (keysM b r) (keysM b s) (keys_len hr.ok)) ⟨(Sub.w hw), (Sub.w hw), trivial⟩ Tryz.call12) ?_
          refine JM_stepG rfl rfl rfl rfl (Gd.plain Sub.rfl) rfl rfl (fun hw _ => step_pick_or (Sub.w hw) (Sub.ww hw)) ?_
          refine JM_step rfl rfl rfl rfl (fun _ => step_pick_and Sub.rfl Sub.rfl) ?_
          refine JM_step rfl rfl rfl rfl (fun _ => step_assign Sub.rfl) ?_
          refine JM_nil ?_
          refine J_ret ?_
          refine K_ret1 (t := 6) rfl () ?_
          refine Sub.bool ?_
          have hsm : cellV b r = cellV b s → keysM b r = keysM b s := keysM_same hc0 hc1 hc2 htb
          show (true && (!decide (cellV b r = cellV b s) || decide (keysM b r = keysM b s))) = true
          by_cases q : cellV b r = cellV b s
          · simp [hsm q]
          · simp [q]
end Lg

/- BlockKeys: the card. -/
namespace Go.Proofs.YtfojldlbhhigbaaGreatDoor.blockKeys
open Go.ChangeShapes Go.WideShapes Go.ChangeAt Go.RowKit
set_option maxRecDepth 100000 in
theorem contract (H : Type) (enc : TypeId × Value → H) (W : World) (base : Nat) (args : Array Value) (ds gs : List (DataW H)) (before : List MemPlace)
    (hval : ∀ (j : Nat) t v, Tryz.f4.params[j]? = some t → args[j]? = some v → Value.okWide Tryz.prog W .any base t v)
    (hL : laidMet Tryz.prog Rows.blockKeysRow.laid W) (hW : DataW.Whole enc Tryz.prog Tryz.f4.params.toList Rows.blockKeysSpec.vars false W args.toList ds gs before) :
    Calls Tryz.prog 4 args W fun e W' => ∃ v, e = .returned v ∧ Rows.blockKeysSpec.post enc Tryz.prog Tryz.f4 false true false false W args v W' := by
  have hW' := hW
  obtain ⟨p, q, hA0, hV, rfl, hfz, hnd⟩ := hW
  have hA : DataW.TrodAll enc Tryz.prog W 0 (fun _ => true) true Tryz.f4.params.toList args.toList ds p := hA0
  rw [Tryz.params4] at hA hval
  obtain ⟨v0, v1, v2, d0, d1, d2, p0, p1, p2, rfl, rfl, rfl, h0, h1, h2⟩ := trodAll_three hA
  obtain ⟨rfl, rfl⟩ := trodVars_none hV
  obtain ⟨x0, a0⟩ := Lg.arg_st Lg.rd35 rfl (by decide) h0
  obtain ⟨x1, a1⟩ := Lg.arg_st Lg.rd28 rfl (by decide) h1
  obtain ⟨x2, a2⟩ := Lg.arg_st Lg.rd28 rfl (by decide) h2
  refine (Lg.run_true (Lg.lawKeys_spec x0 x1 x2) (Lg.inv_of (tab_of hL)) (vs := [v0, v1, v2]) ⟨a0, a1, a2, trivial⟩).mono fun e W' ⟨he, hb⟩ => ?_
  subst he
  have e1 : Rows.blockKeysSpec.fn H ([d0, d1, d2] ++ []) = { results := [.lit (.bool true)], args := [d0, d1, d2] } := by simp [Rows.blockKeysSpec]
  refine ⟨_, rfl, _, _, _, [], p0 ++ (p1 ++ p2), [], hW', ?_, ?_, ?_, hb.frame _, fun h => by cases h⟩
  · rw [e1]; exact trodAll_mk1 (shut_bool Tryz.underlying4 true)
  · rw [e1, Tryz.params4]
    exact trodAll_mk3 (hb.trod laidOut rec35 size35 h0 fun x hx => hW'.lt x (by simp [hx])) (hb.trod laidOut rec28 size28 h1 fun x hx => hW'.lt x (by simp [hx])) (hb.trod laidOut rec28 size28 h2 fun x hx => hW'.lt x (by simp [hx]))
  · rw [e1]; rfl
noncomputable abbrev args0 : Array Value := #[.agg #[.string ⟨#[]⟩, .int .i64 0, .int .i64 0, .int .i64 0, .int .i64 0, .int .i64 0], .agg #[.int .i64 0, .string ⟨#[]⟩, .string ⟨#[]⟩, .int .i64 0, .int .i64 0, .slice none 0 0], .agg #[.int .i64 0, .string ⟨#[]⟩, .string ⟨#[]⟩, .int .i64 0, .int .i64 0, .slice none 0 0]]
theorem reads (os : Os) {H : Type} (enc : TypeId × Value → H) : ∃ places, DataW.whole enc Tryz.prog ((laidWorld os).forCall (fun _ _ => 0) ⟨#[], args0, []⟩).memory Tryz.f4.params.toList Rows.blockKeysSpec.vars false args0.toList 8 = some ([.agg [.lit (.string []), .lit (.int .i64 0), .lit (.int .i64 0), .lit (.int .i64 0), .lit (.int .i64 0), .lit (.int .i64 0)], .agg [.agg [.lit (.int .i64 0), .lit (.string []), .lit (.string [])], .lit (.int .i64 0), .lit (.int .i64 0), .nil], .agg [.agg [.lit (.int .i64 0), .lit (.string []), .lit (.string [])], .lit (.int .i64 0), .lit (.int .i64 0), .nil]], [], places) :=
  ⟨[], by kernel_rfl⟩
theorem laid_met (os : Os) : laidMet Tryz.prog Rows.blockKeysRow.laid ((laidWorld os).forCall (fun _ _ => 0) ⟨#[], args0, []⟩).memory :=
  laidMet_laidAll (laid := laidL) args0 (by kernel_rfl) (by kernel_rfl)
set_option maxRecDepth 100000 in
theorem lifted (os : Os) (started : os.Started) (H : Type) (enc : TypeId × Value → H) (F : Stop.Interp) :
    ReturnsInHanded {} Tryz.checked os 4 .any ((OpenSpec.ofChange Rows.blockKeysSpec).preRow enc Tryz.prog Tryz.f4 Rows.blockKeysRow.domain false Rows.blockKeysRow.laid) (((OpenSpec.ofChange Rows.blockKeysSpec).at F).post enc Tryz.prog Tryz.f4 false true false false) := by
  obtain ⟨places, hx⟩ := reads os enc
  refine returnsInHanded_of_row (C := Tryz.checked) (s := OpenSpec.ofChange Rows.blockKeysSpec) own started (by kernel_rfl) Tryz.func4
    (witness_row_at (enc := enc) (C := Tryz.checked) false (laidWorld os) args0 (World.laidAll_os _ _ _) (by kernel_rfl) (by kernel_rfl) (by kernel_rfl)
      (OpenSpec.preRow_of_cond 8 hx (by kernel_rfl) (fun k hk => by cases hk) (by kernel_rfl) (laid_met os))) ?_
  intro W base args ds gs before hval hW _ _ _ hL _ _
  exact contract H enc W base args ds gs before hval hL hW
theorem said : Rows.BlockKeysSaid :=
  OpenClaim.holds_of_cond 4 Tryz.f4 rfl rfl rfl rfl rfl rfl rfl ⟨rfl, rfl, rfl, rfl, rfl⟩ rfl rfl rfl rfl rfl (by kernel_rfl) Tryz.func4 (by kernel_rfl)
    (of_decide_eq_true (by kernel_rfl)) (by unfold Func.isWrapper; first | (rw [if_pos (by decide +kernel)]; kernel_rfl) | (rw [if_neg (by decide +kernel)]; exact ⟨rfl, rfl⟩))
    (fun os started H enc _ F => by rw [OpenClaim.pre_eq_preRow]; exact lifted os started H enc F)
theorem plain (f : FuncId) (fn : Func) (hf : Tryz.pinned.checked.prog.funcNamed "cleanse/cleanselaw19.BlockKeys" = some f) (hfn : Tryz.pinned.checked.prog.funcs[f]? = some fn) :
    true = Tryz.pinned.checked.prog.looks [] ∧ ∀ (j : Nat) t, fn.params[j]? = some t → Tryz.pinned.checked.prog.wantsStandIn t = false := by
  obtain rfl : f = 4 := Option.some.inj ((show Tryz.prog.funcNamed "cleanse/cleanselaw19.BlockKeys" = some 4 by kernel_rfl).symm.trans hf) |>.symm
  obtain rfl : fn = Tryz.f4 := (Option.some.inj (Tryz.func4.symm.trans hfn)).symm
  refine ⟨noLooks, fun j t ht => ?_⟩
  rw [Tryz.params4] at ht
  have hm : t ∈ #[35, 28, 28] := Array.mem_of_getElem? ht
  simp only [List.mem_toArray, List.mem_cons, List.not_mem_nil, or_false] at hm
  rcases hm with rfl | rfl | rfl
  · exact want35
  · exact want28
  · exact want28
theorem card : Rows.BlockKeysCardSaid :=
  Claim7.holds_tied_plain_at .later [] _ _ _ _ said (fun _ h => by cases h) (by kernel_rfl) (fun _ h => by cases h) blockKeys_row_tie rfl ⟨rfl, rfl⟩ (by kernel_rfl) rfl plain (by kernel_rfl)
end Go.Proofs.YtfojldlbhhigbaaGreatDoor.blockKeys
