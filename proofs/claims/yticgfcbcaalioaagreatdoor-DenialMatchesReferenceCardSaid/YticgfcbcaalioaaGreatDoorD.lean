/- Walks of the iterators of denial and of the sorting and naming functions that they lean on. -/
import Derived.Test.YticgfcbcaalioaaGreatDoorC
import Derived.Test.YticgfcbcaalioaaGreatDoorProg
import Derived.Ground.SlsfProg
import Derived.Ground.NamesProg
import Derived.Shelf.SlSortCmp.NoneTotal
set_option linter.unusedVariables false
set_option linter.unusedSimpArgs false
set_option linter.unusedSectionVars false
namespace Lg
open Go Go.Proofs


def iota (n : Nat) : List Int := (List.range n).map fun k : Nat => (k : Int)
theorem iota_len (n : Nat) : (iota n).length = n := by simp [iota]
theorem iota_succ (n : Nat) : iota (n + 1) = iota n ++ [(n : Int)] := by simp [iota, List.range_succ]
/-- The index of the first, or -1. -/
def idxI : List Int → Int → Nat → Int
  | [], _, _ => -1
  | a :: l, v, i => if v = a then i else idxI l v (i + 1)
theorem idxI_ge (l : List Int) (v : Int) : ∀ i, (0 ≤ idxI l v i ↔ l.contains v = true) := by
  induction l with
  | nil => intro i; simp [idxI]
  | cons a l ih =>
    intro i
    by_cases h : v = a
    · subst h; simp [idxI]
    · simp only [idxI, if_neg h, ih]; simp [h]
theorem set_fill {n i : Nat} (h : i < n) : (iota i ++ List.replicate (n - i) (0 : Int)).set i (i : Int) = iota (i + 1) ++ List.replicate (n - (i + 1)) 0 := by
  rw [List.set_append_right i (i : Int) (by rw [iota_len]; omega), iota_len, Nat.sub_self, iota_succ, show n - i = (n - (i + 1)) + 1 from by omega, List.replicate_succ]
  simp

theorem Index_spec (l : List Int) (v : Int) (hl : l.length ≤ 1000000000000) : Fun1 Tryz.prog 103 [tSl rInt l, tV (.int .i64 v)] (tV (.int .i64 (idxI l v 0))) := by
  refine Spec.enter Tryz.func103 rfl rfl fun h0 w0 fr0 => ?_
  refine J_seq ?_
  refine J_region ?_
  refine JL_step rfl rfl rfl (step_assign Sub.rfl) ?_
  refine JL_nil ?_
  refine J_seq ?_
  refine J_seq ?_
  refine J_region ?_
  refine JL_step rfl rfl rfl (step_move Sub.rfl) ?_
  refine JL_step rfl rfl rfl (step_len_sl Tryz.underlying24 Sub.rfl) ?_
  refine JL_step rfl rfl rfl (step_move Sub.rfl) ?_
  refine JL_nil ?_
  refine J_block ?_
  refine J_loopL (σ := Nat) (fun i => i ≤ l.length ∧ idxI l v 0 = idxI (l.drop i) v i) (fun i => upd (upd (upd (upd env0 0 (tSl rInt l)) 1 (tV (.int .i64 v))) 7 (tV (.int .i64 l.length))) 8 (tV (.int .i64 i))) (fun i => []) (fun i => l.length - i) 0 ⟨by omega, by simp⟩ (SubE.upd Sub.rfl (SubE.upd Sub.rfl (SubE.upd Sub.rfl (SubE.upd Sub.rfl SubE.any)))) (LSub.rfl) ?_
  rintro i ⟨hi, hv⟩
  refine J_seq ?_
  refine J_region ?_
  refine JL_step rfl rfl rfl (step_lss Sub.rfl Sub.rfl) ?_
  refine JL_nil ?_
  refine J_seq ?_
  refine J_cond Sub.rfl (fun hc1 => ?_) (fun hc1 => ?_)
  · try simp only [decide_eq_true_eq, decide_eq_false_iff_not, Bool.and_eq_true, Bool.or_eq_true, Bool.and_eq_false_iff, Bool.or_eq_false_iff, Bool.not_eq_true', Bool.not_eq_false', Int.not_lt, Int.not_le, Bool.not_true, Bool.not_false] at hc1
    have hlt : i < l.length := by omega
    have hd := dropB hlt
    refine J_skip ?_
    refine J_seq ?_
    refine J_block ?_
    refine J_seq ?_
    refine J_region ?_
    refine JL_step rfl rfl rfl (step_move Sub.rfl) ?_
    refine JL_step rfl rfl rfl (step_assign Sub.rfl) ?_
    refine JL_nil ?_
    refine J_seq ?_
    refine J_region ?_
    refine JL_step rfl rfl rfl (step_move Sub.rfl) ?_
    refine JL_step rfl rfl rfl (step_move Sub.rfl) ?_
    refine JL_step rfl rfl rfl (step_move Sub.rfl) ?_
    refine JL_step rfl rfl rfl (step_indexAddr_sl  Tryz.underlying24 ty3 Sub.rfl Sub.rfl rfl (gb ?sg1)) ?_
    case sg1 => first | assumption | omega
    refine JL_step rfl rfl rfl (step_load_ptr ty3 Sub.rfl) ?_
    refine JL_step rfl rfl rfl (step_eql Sub.rfl Sub.rfl) ?_
    refine JL_nil ?_
    refine J_cond Sub.rfl (fun hc2 => ?_) (fun hc2 => ?_)
    · try simp only [decide_eq_true_eq, decide_eq_false_iff_not, Bool.and_eq_true, Bool.or_eq_true, Bool.and_eq_false_iff, Bool.or_eq_false_iff, Bool.not_eq_true', Bool.not_eq_false', Int.not_lt, Int.not_le, Bool.not_true, Bool.not_false] at hc2
      have he : v = nth l i := by assumption
      refine J_seq ?_
      refine J_region ?_
      refine JL_step rfl rfl rfl (step_move Sub.rfl) ?_
      refine JL_step rfl rfl rfl (step_assign Sub.rfl) ?_
      refine JL_nil ?_
      refine J_ret ?_
      refine K_ret1 (t := 4) rfl () ?_
      refine Sub.int ?_
      rw [hv, hd]; simp [idxI, he]
    · try simp only [decide_eq_true_eq, decide_eq_false_iff_not, Bool.and_eq_true, Bool.or_eq_true, Bool.and_eq_false_iff, Bool.or_eq_false_iff, Bool.not_eq_true', Bool.not_eq_false', Int.not_lt, Int.not_le, Bool.not_true, Bool.not_false] at hc2
      have hne : ¬ v = nth l i := by assumption
      refine J_skip ?_
      refine J_region ?_
      refine JL_step rfl rfl rfl (step_add Sub.rfl Sub.rfl ?sg1) ?_
      case sg1 => unfold in64; omega
      refine JL_step rfl rfl rfl (step_move Sub.rfl) ?_
      refine JL_nil ?_
      refine K_againL (σ := Nat) (s := i) (i + 1) (by first | omega | (dsimp only; omega) | (simp_all; omega)) ?_ (SubE.upd Sub.rfl (SubE.upd Sub.rfl (SubE.upd Sub.rfl (SubE.upd Sub.rfl SubE.any)))) (LSub.rfl)
      refine ⟨by omega, ?_⟩
      rw [hv, hd]; simp [idxI, hne]
  · try simp only [decide_eq_true_eq, decide_eq_false_iff_not, Bool.and_eq_true, Bool.or_eq_true, Bool.and_eq_false_iff, Bool.or_eq_false_iff, Bool.not_eq_true', Bool.not_eq_false', Int.not_lt, Int.not_le, Bool.not_true, Bool.not_false] at hc1
    refine J_exit ?_
    refine J_seq ?_
    refine J_region ?_
    refine JL_step rfl rfl rfl (step_assign Sub.rfl) ?_
    refine JL_nil ?_
    refine J_ret ?_
    refine K_ret1 (t := 4) rfl () ?_
    refine Sub.int ?_
    rw [hv, List.drop_of_length_le (by omega)]; rfl
theorem Contains__spec (l : List Int) (v : Int) (hl : l.length ≤ 1000000000000) : Fun1 Tryz.prog 80 [tSl rInt l, tV (.int .i64 v)] (tV (.bool (l.contains v))) := by
  refine Spec.enter Tryz.func80 rfl rfl fun h0 w0 fr0 => ?_
  refine J_seq ?_
  refine J_region ?_
  refine JL_step rfl rfl rfl (step_assign Sub.rfl) ?_
  refine JL_nil ?_
  refine J_seq ?_
  refine J_region ?_
  refine JL_step rfl rfl rfl (step_move Sub.rfl) ?_
  refine JL_step rfl rfl rfl (step_move Sub.rfl) ?_
  refine JL_step rfl rfl rfl (step_call0 (Index_spec _ _ hl) ⟨Sub.rfl, Sub.rfl, trivial⟩ Tryz.call103) ?_
  refine JL_step rfl rfl rfl (step_geq Sub.rfl Sub.rfl) ?_
  refine JL_step rfl rfl rfl (step_assign Sub.rfl) ?_
  refine JL_nil ?_
  refine J_ret ?_
  refine K_ret1 (t := 4) rfl () ?_
  refine Sub.bool ?_
  rw [Bool.eq_iff_iff, decide_eq_true_eq]; exact idxI_ge l v 0
theorem all_spec (facts : List GFact) (hn : facts.length ≤ 1000000) : Fun1 Tryz.prog 38 [tSl rFact facts] (tSl rInt (iota facts.length)) := by
  refine Spec.enter Tryz.func38 rfl rfl fun h0 w0 fr0 => ?_
  refine J_seq ?_
  refine J_region ?_
  refine JL_step rfl rfl rfl (step_assign Sub.rfl) ?_
  refine JL_nil ?_
  refine J_seq ?_
  refine J_region ?_
  refine JL_step rfl rfl rfl (step_move Sub.rfl) ?_
  refine JL_step rfl rfl rfl (step_len_sl Tryz.underlying23 Sub.rfl) ?_
  refine JL_stepX rfl rfl rfl (step_make Tryz.underlying24 el3 Sub.rfl Sub.rfl rfl (by omega) (by omega)) fun v => ?_
  refine JL_step rfl rfl rfl (step_assign Sub.rfl) ?_
  refine JL_nil ?_
  refine J_seq ?_
  refine J_seq ?_
  refine J_region ?_
  refine JL_step rfl rfl rfl (step_move Sub.rfl) ?_
  refine JL_step rfl rfl rfl (step_len_own Tryz.underlying24 Sub.rfl (by first | exact Sel.take (Sel.none _) | exact Sel.skip (Sel.take (Sel.none _)) | exact Sel.skip (Sel.skip (Sel.take (Sel.none _))) | exact Sel.skip (Sel.skip (Sel.skip (Sel.take (Sel.none _)))) | exact Sel.skip (Sel.skip (Sel.skip (Sel.skip (Sel.take (Sel.none _))))))) ?_
  refine JL_step rfl rfl rfl (step_move Sub.rfl) ?_
  refine JL_nil ?_
  refine J_block ?_
  refine J_loopL (σ := Nat) (fun i => i ≤ facts.length) (fun i => upd (upd (upd (upd env0 2 (tV (.slice none 0 0))) 3 (rV.ty v)) 9 (tV (.int .i64 facts.length))) 10 (tV (.int .i64 i))) (fun i => [own 3 rInt v (iota i ++ List.replicate (facts.length - i) 0)]) (fun i => facts.length - i) 0 (by omega) (SubE.upd Sub.rfl (SubE.upd (Sub.int (by simp)) (SubE.upd Sub.rfl (SubE.upd Sub.rfl SubE.any)))) (LSub.cons (by first | exact Sel.take (Sel.none _) | exact Sel.skip (Sel.take (Sel.none _)) | exact Sel.skip (Sel.skip (Sel.take (Sel.none _))) | exact Sel.skip (Sel.skip (Sel.skip (Sel.take (Sel.none _)))) | exact Sel.skip (Sel.skip (Sel.skip (Sel.skip (Sel.take (Sel.none _)))))) (own_eq (by simp [iota])) LSub.nil) ?_
  rintro i hi
  refine J_seq ?_
  refine J_region ?_
  refine JL_step rfl rfl rfl (step_lss Sub.rfl Sub.rfl) ?_
  refine JL_nil ?_
  refine J_seq ?_
  refine J_cond Sub.rfl (fun hc1 => ?_) (fun hc1 => ?_)
  · try simp only [decide_eq_true_eq, decide_eq_false_iff_not, Bool.and_eq_true, Bool.or_eq_true, Bool.and_eq_false_iff, Bool.or_eq_false_iff, Bool.not_eq_true', Bool.not_eq_false', Int.not_lt, Int.not_le, Bool.not_true, Bool.not_false] at hc1
    have hlt : i < facts.length := by omega
    refine J_skip ?_
    refine J_seq ?_
    refine J_block ?_
    refine J_seq ?_
    refine J_region ?_
    refine JL_step rfl rfl rfl (step_move Sub.rfl) ?_
    refine JL_step rfl rfl rfl (step_assign Sub.rfl) ?_
    refine JL_nil ?_
    refine J_region ?_
    refine JL_step rfl rfl rfl (step_move Sub.rfl) ?_
    refine JL_step rfl rfl rfl (step_move Sub.rfl) ?_
    refine JL_step rfl rfl rfl (step_move Sub.rfl) ?_
    refine JL_step rfl rfl rfl (step_indexAddr_own  Tryz.underlying24 ty3 Sub.rfl (by first | exact Sel.take (Sel.none _) | exact Sel.skip (Sel.take (Sel.none _)) | exact Sel.skip (Sel.skip (Sel.take (Sel.none _))) | exact Sel.skip (Sel.skip (Sel.skip (Sel.take (Sel.none _)))) | exact Sel.skip (Sel.skip (Sel.skip (Sel.skip (Sel.take (Sel.none _)))))) Sub.rfl rfl ?sg1) ?_
    case sg1 => simp [iota_len]; omega
    refine JL_stepU rfl rfl (step_store_own ty3 Sub.rfl Sub.rfl (by first | exact Sel.take (Sel.none _) | exact Sel.skip (Sel.take (Sel.none _)) | exact Sel.skip (Sel.skip (Sel.take (Sel.none _))) | exact Sel.skip (Sel.skip (Sel.skip (Sel.take (Sel.none _)))) | exact Sel.skip (Sel.skip (Sel.skip (Sel.skip (Sel.take (Sel.none _)))))) ?sg1) fun _ => ?_
    case sg1 => simp [iota_len]; omega
    refine JL_nil ?_
    refine J_region ?_
    refine JL_step rfl rfl rfl (step_add Sub.rfl Sub.rfl ?sg1) ?_
    case sg1 => unfold in64; omega
    refine JL_step rfl rfl rfl (step_move Sub.rfl) ?_
    refine JL_nil ?_
    refine K_againL (σ := Nat) (s := i) (i + 1) (by first | omega | (dsimp only; omega) | (simp_all; omega)) (by omega) (SubE.upd Sub.rfl (SubE.upd Sub.rfl (SubE.upd Sub.rfl (SubE.upd Sub.rfl SubE.any)))) (LSub.cons (by first | exact Sel.take (Sel.none _) | exact Sel.skip (Sel.take (Sel.none _)) | exact Sel.skip (Sel.skip (Sel.take (Sel.none _))) | exact Sel.skip (Sel.skip (Sel.skip (Sel.take (Sel.none _)))) | exact Sel.skip (Sel.skip (Sel.skip (Sel.skip (Sel.take (Sel.none _)))))) (own_eq (set_fill hlt)) LSub.nil)
  · try simp only [decide_eq_true_eq, decide_eq_false_iff_not, Bool.and_eq_true, Bool.or_eq_true, Bool.and_eq_false_iff, Bool.or_eq_false_iff, Bool.not_eq_true', Bool.not_eq_false', Int.not_lt, Int.not_le, Bool.not_true, Bool.not_false] at hc1
    refine J_exit ?_
    refine J_seq ?_
    refine J_region ?_
    refine JL_step rfl rfl rfl (step_move Sub.rfl) ?_
    refine JL_step rfl rfl rfl (step_assign Sub.rfl) ?_
    refine JL_nil ?_
    refine J_ret ?_
    refine K_ret1' (rv := .tmp 2) rfl () (Sel.all _) (.tmp Sub.rfl) ?_
    exact Frz.own' (by obtain rfl : i = facts.length := (by omega); simp)
theorem Values1_spec (l : List Int) (hl : l.length ≤ 1000000000000) : ItSpec Tryz.prog 102 [tPtr (rSl rInt) l] [] (fun x : Int => [tV (.int .i64 x)]) (fun p => p <+: l) (fun p => p = l) := by
  intro M Mx
  refine Spec.enter Tryz.func102 rfl rfl fun h0 w0 fr0 => ?_
  refine J_seq ?_
  refine J_region ?_
  refine JL_step rfl rfl rfl (step_load_ptr ty24 Sub.rfl) ?_
  refine JL_step rfl rfl rfl (step_len_sl Tryz.underlying24 Sub.rfl) ?_
  refine JL_step rfl rfl rfl (step_move Sub.rfl) ?_
  refine JL_nil ?_
  refine J_block ?_
  refine J_loopL (σ := Nat) (fun i => i ≤ l.length) (fun i => upd (upd (upd (upd env0 0 (tYield Tryz.prog (fun x : Int => [tV (.int .i64 x)]) (fun p => p <+: l) M Mx)) 5 (tSl rInt l)) 6 (tV (.int .i64 l.length))) 7 (tV (.int .i64 i))) (fun i => [M (l.take i)]) (fun i => l.length - i) 0 (by omega) (SubE.upd Sub.rfl (SubE.upd Sub.rfl (SubE.upd Sub.rfl (SubE.upd Sub.rfl SubE.any)))) (LSub.rfl) ?_
  rintro i hi
  refine J_seq ?_
  refine J_region ?_
  refine JL_step rfl rfl rfl (step_lss Sub.rfl Sub.rfl) ?_
  refine JL_nil ?_
  refine J_seq ?_
  refine J_cond Sub.rfl (fun hc1 => ?_) (fun hc1 => ?_)
  · try simp only [decide_eq_true_eq, decide_eq_false_iff_not, Bool.and_eq_true, Bool.or_eq_true, Bool.and_eq_false_iff, Bool.or_eq_false_iff, Bool.not_eq_true', Bool.not_eq_false', Int.not_lt, Int.not_le, Bool.not_true, Bool.not_false] at hc1
    have hlt : i < l.length := by omega
    refine J_skip ?_
    refine J_seq ?_
    refine J_block ?_
    refine J_seq ?_
    refine J_region ?_
    refine JL_step rfl rfl rfl (step_indexAddr_sl  Tryz.underlying24 ty3 Sub.rfl Sub.rfl rfl (gb ?sg1)) ?_
    case sg1 => first | assumption | omega
    refine JL_step rfl rfl rfl (step_load_ptr ty3 Sub.rfl) ?_
    refine JL_step rfl rfl rfl (step_assign Sub.rfl) ?_
    refine JL_nil ?_
    refine J_seq ?_
    refine J_region ?_
    refine JL_step rfl rfl rfl (step_move Sub.rfl) ?_
    refine JL_step rfl rfl rfl (step_move Sub.rfl) ?_
    refine JL_stepX rfl rfl rfl (step_yield (T := fun x : Int => [tV (.int .i64 x)]) (Ok := fun p => p <+: l) (M := M) (Mx := Mx) (pre := l.take i) (y := nth l i) Sub.rfl ?sg1 ?sg2 (by first | exact Sel.take (Sel.none _) | exact Sel.skip (Sel.take (Sel.none _)) | exact Sel.skip (Sel.skip (Sel.take (Sel.none _))) | exact Sel.skip (Sel.skip (Sel.skip (Sel.take (Sel.none _)))) | exact Sel.skip (Sel.skip (Sel.skip (Sel.skip (Sel.take (Sel.none _))))))) fun v13 => ?_
    case sg1 => exact takeB hlt ▸ List.take_prefix _ _
    case sg2 => exact ⟨Sub.rfl, trivial⟩
    refine JL_step rfl rfl rfl (step_not Sub.rfl) ?_
    refine JL_nil ?_
    refine J_cond Sub.rfl (fun hb => ?_) (fun hb => ?_)
    · try simp only [decide_eq_true_eq, decide_eq_false_iff_not, Bool.and_eq_true, Bool.or_eq_true, Bool.and_eq_false_iff, Bool.or_eq_false_iff, Bool.not_eq_true', Bool.not_eq_false', Int.not_lt, Int.not_le, Bool.not_true, Bool.not_false] at hb
      subst hb
      refine J_ret ?_
      refine K_itStop (Fin := fun p => p = l) (M := M) (Mx := Mx) ?_ (l.take i ++ [nth l i]) ?_
      · rfl
      · exact LSub.of rfl
    · try simp only [decide_eq_true_eq, decide_eq_false_iff_not, Bool.and_eq_true, Bool.or_eq_true, Bool.and_eq_false_iff, Bool.or_eq_false_iff, Bool.not_eq_true', Bool.not_eq_false', Int.not_lt, Int.not_le, Bool.not_true, Bool.not_false] at hb
      subst hb
      refine J_skip ?_
      refine J_region ?_
      refine JL_step rfl rfl rfl (step_add Sub.rfl Sub.rfl ?sg1) ?_
      case sg1 => unfold in64; omega
      refine JL_step rfl rfl rfl (step_move Sub.rfl) ?_
      refine JL_nil ?_
      refine K_againL (σ := Nat) (s := i) (i + 1) (by first | omega | (dsimp only; omega) | (simp_all; omega)) (by omega) (SubE.upd Sub.rfl (SubE.upd Sub.rfl (SubE.upd Sub.rfl (SubE.upd Sub.rfl SubE.any)))) (LSub.of (by rw [takeB hlt]; rfl))
  · try simp only [decide_eq_true_eq, decide_eq_false_iff_not, Bool.and_eq_true, Bool.or_eq_true, Bool.and_eq_false_iff, Bool.or_eq_false_iff, Bool.not_eq_true', Bool.not_eq_false', Int.not_lt, Int.not_le, Bool.not_true, Bool.not_false] at hc1
    refine J_exit ?_
    refine K_endRet (K_itDone (Fin := fun p => p = l) (M := M) (Mx := Mx) ?_ l rfl ?_)
    · rfl
    · exact LSub.of (by obtain rfl : i = l.length := (by omega); rw [List.take_length])
theorem Values_spec (l : List Int) : Fun1 Tryz.prog 79 [tSl rInt l] (tClo 102 [tPtr (rSl rInt) l]) := by
  refine Spec.enter Tryz.func79 rfl rfl fun h0 w0 fr0 => ?_
  refine J_seq ?_
  refine J_region ?_
  refine JL_step rfl rfl rfl (step_box (R := (rSl rInt)) Sub.rfl) ?_
  refine JL_step rfl rfl rfl (step_assign Sub.rfl) ?_
  refine JL_nil ?_
  refine J_seq ?_
  refine J_region ?_
  refine JL_step rfl rfl rfl (step_makeFunc (As := [_]) ⟨Sub.rfl, trivial⟩) ?_
  refine JL_step rfl rfl rfl (step_assign Sub.rfl) ?_
  refine JL_nil ?_
  refine J_ret ?_
  exact K_ret1 (t := 2) rfl () Sub.rfl
theorem AppendSeq_spec {gf : Nat} {As : List Ty} {A : List SP} {Ok Fin : List Int → Prop} (it : ItSpec Tryz.prog gf As A (fun x : Int => [tV (.int .i64 x)]) Ok Fin) (he : ∀ args w, (callFunc gf args).run Tryz.prog w = .ok (.enter gf args) w) (hb : ∀ p, Ok p → p.length ≤ 1000000) : Spec (X := Value × { xs : List Int // Fin xs }) Tryz.prog 112 [tV (.slice none 0 0), tClo gf As] (A) (fun z => rV.ty z.1) (fun z => own 3 rInt z.1 z.2.1 :: A) := by
  refine Spec.enter Tryz.func112 rfl rfl fun h0 w0 fr0 => ?_
  refine J_seq ?_
  refine J_region ?_
  refine JL_stepX rfl rfl rfl (step_box_own (R := rV) (Sub.rV rfl)) fun v2 => ?_
  refine JL_step rfl rfl rfl (step_assign Sub.rfl) ?_
  refine JL_nil ?_
  refine J_seq ?_
  refine J_seq ?_
  refine J_region ?_
  refine JL_step rfl rfl rfl (step_move Sub.rfl) ?_
  refine JL_nil ?_
  refine J_block ?_
  refine J_range (A := A) (T := fun x : Int => [tV (.int .i64 x)]) (Ok := Ok) (Fin := Fin) (R := []) (fun xs => SP.ex fun v => stars [box v2 24 rV v, own 3 rInt v xs]) (fun _ _ => SP.pure False) rfl (fun _ => rfl) rfl it Sub.rfl he (LSub.ex (.slice none 0 0) (LSub.stars (LSub.cons (by first | exact Sel.take (Sel.none _) | exact Sel.skip (Sel.take (Sel.none _)) | exact Sel.skip (Sel.skip (Sel.take (Sel.none _))) | exact Sel.skip (Sel.skip (Sel.skip (Sel.take (Sel.none _)))) | exact Sel.skip (Sel.skip (Sel.skip (Sel.skip (Sel.take (Sel.none _)))))) SPs.rfl (LSub.trans (LSub.nilown (e := 3) (R := rInt)) (LSub.of (by simp)))))) ?round1 ?done1 ?stop1
  case round1 =>
    intro l1 rec1 h2 w2 fr2 pre y hle1 hst1 hpd1 hdj1 hok
    refine K_ex fun v => K_stars ?_
    refine J_region ?_
    refine JL_step rfl rfl rfl (step_assign Sub.rfl) ?_
    refine JL_nil ?_
    refine K_begin hst1 hdj1 ?_
    refine J_block ?_
    refine J_region ?_
    refine JL_step rfl rfl rfl (step_load_box ty24V Sub.rfl (by first | exact Sel.take (Sel.none _) | exact Sel.skip (Sel.take (Sel.none _)) | exact Sel.skip (Sel.skip (Sel.take (Sel.none _))) | exact Sel.skip (Sel.skip (Sel.skip (Sel.take (Sel.none _)))) | exact Sel.skip (Sel.skip (Sel.skip (Sel.skip (Sel.take (Sel.none _))))))) ?_
    refine JL_step rfl rfl rfl (step_move Sub.rfl) ?_
    refine JL_step rfl rfl rfl (step_literal (ys := [_]) Tryz.underlying24 el3 ⟨rfl, Sub.rfl, trivial⟩ rfl (by decide)) ?_
    refine JL_stepX rfl rfl rfl (step_append Tryz.underlying24 el3 Sub.rfl Sub.rfl (by first | exact Sel.take (Sel.none _) | exact Sel.skip (Sel.take (Sel.none _)) | exact Sel.skip (Sel.skip (Sel.take (Sel.none _))) | exact Sel.skip (Sel.skip (Sel.skip (Sel.take (Sel.none _)))) | exact Sel.skip (Sel.skip (Sel.skip (Sel.skip (Sel.take (Sel.none _)))))) (by have := hb _ hok; simp at this ⊢; omega) (by have := hb _ hok; simp at this ⊢; omega)) fun v11 => ?_
    refine JL_stepU rfl rfl (step_store_box (R := rV) ty24V Sub.rfl Sub.rfl (by first | exact Sel.take (Sel.none _) | exact Sel.skip (Sel.take (Sel.none _)) | exact Sel.skip (Sel.skip (Sel.take (Sel.none _))) | exact Sel.skip (Sel.skip (Sel.skip (Sel.take (Sel.none _)))) | exact Sel.skip (Sel.skip (Sel.skip (Sel.skip (Sel.take (Sel.none _))))))) fun _ => ?_
    refine JL_nil ?_
    refine K_roundN hst1 hpd1 ?_
    refine LSub.cons (by first | exact Sel.take (Sel.none _) | exact Sel.skip (Sel.take (Sel.none _)) | exact Sel.skip (Sel.skip (Sel.take (Sel.none _))) | exact Sel.skip (Sel.skip (Sel.skip (Sel.take (Sel.none _)))) | exact Sel.skip (Sel.skip (Sel.skip (Sel.skip (Sel.take (Sel.none _)))))) SPs.rfl (LSub.ex _ (LSub.stars (LSub.cons (by first | exact Sel.take (Sel.none _) | exact Sel.skip (Sel.take (Sel.none _)) | exact Sel.skip (Sel.skip (Sel.take (Sel.none _))) | exact Sel.skip (Sel.skip (Sel.skip (Sel.take (Sel.none _)))) | exact Sel.skip (Sel.skip (Sel.skip (Sel.skip (Sel.take (Sel.none _)))))) SPs.rfl (LSub.cons (by first | exact Sel.take (Sel.none _) | exact Sel.skip (Sel.take (Sel.none _)) | exact Sel.skip (Sel.skip (Sel.take (Sel.none _))) | exact Sel.skip (Sel.skip (Sel.skip (Sel.take (Sel.none _)))) | exact Sel.skip (Sel.skip (Sel.skip (Sel.skip (Sel.take (Sel.none _)))))) SPs.rfl LSub.nil))))
  case done1 =>
    intro D1 xs hfin
    refine K_ex fun v => K_stars ?_
    refine J_seq ?_
    refine J_region ?_
    refine JL_step rfl rfl rfl (step_load_box ty24V Sub.rfl (by first | exact Sel.take (Sel.none _) | exact Sel.skip (Sel.take (Sel.none _)) | exact Sel.skip (Sel.skip (Sel.take (Sel.none _))) | exact Sel.skip (Sel.skip (Sel.skip (Sel.take (Sel.none _)))) | exact Sel.skip (Sel.skip (Sel.skip (Sel.skip (Sel.take (Sel.none _))))))) ?_
    refine JL_step rfl rfl rfl (step_assign Sub.rfl) ?_
    refine JL_nil ?_
    refine J_ret ?_
    refine K_unmark (LSub.cons (by first | exact Sel.take (Sel.none _) | exact Sel.skip (Sel.take (Sel.none _)) | exact Sel.skip (Sel.skip (Sel.take (Sel.none _))) | exact Sel.skip (Sel.skip (Sel.skip (Sel.take (Sel.none _)))) | exact Sel.skip (Sel.skip (Sel.skip (Sel.skip (Sel.take (Sel.none _)))))) SPs.rfl LSub.rfl) ?_
    refine K_lsub (LSub.of (L' := box v2 24 rV v :: own 3 rInt v xs :: A) (by simp)) ?_
    refine K_ret1' (rv := .tmp 4) rfl (v, ⟨xs, hfin⟩) (S := [box v2 24 rV v]) (Sel.take (Sel.none _)) (.tmp Sub.rfl) (Frz.sub Sub.rfl)
  case stop1 =>
    intro D1 c1 xs
    refine K_pure fun h => h.elim
end Lg

namespace Go.Proofs
open Go.Shelf
def Tryz.sortK_ren : Go.Shelf.Ren := ⟨fun | 6 => 55 | 15 => 73 | 14 => 72 | 28 => 97 | 29 => 98 | 20 => 89 | 21 => 90 | 22 => 91 | 23 => 92 | 24 => 93 | 25 => 94 | 26 => 95 | 27 => 96 | 46 => 107 | 47 => 108 | 48 => 109 | 49 => 110 | 50 => 111 | 57 => 118 | n => n, fun | 22 => 33 | 24 => 24 | 25 => 86 | 3 => 3 | 39 => 104 | 0 => 0 | 53 => 122 | 55 => 124 | 4 => 4 | 46 => 115 | 45 => 114 | 50 => 119 | 5 => 5 | 9 => 9 | 66 => 131 | 70 => 135 | 76 => 144 | 77 => 145 | n => n, fun | n => n⟩
theorem Tryz.sortK : Go.Proofs.SlLaysF.n6 Tryz.prog Tryz.sortK_ren := {
  mixed := by kernel_rfl
  f6 := ⟨Tryz.f55.name, by decide, Tryz.func55.trans (congrArg some (by kernel_rfl))⟩
  f14 := ⟨Tryz.f72.name, by decide, Tryz.func72.trans (congrArg some (by kernel_rfl))⟩
  f15 := Tryz.func73.trans (congrArg some (by kernel_rfl))
  f20 := ⟨Tryz.f89.name, by decide, Tryz.func89.trans (congrArg some (by kernel_rfl))⟩
  f21 := ⟨Tryz.f90.name, by decide, Tryz.func90.trans (congrArg some (by kernel_rfl))⟩
  f22 := ⟨Tryz.f91.name, by decide, Tryz.func91.trans (congrArg some (by kernel_rfl))⟩
  f23 := ⟨Tryz.f92.name, by decide, Tryz.func92.trans (congrArg some (by kernel_rfl))⟩
  f24 := ⟨Tryz.f93.name, by decide, Tryz.func93.trans (congrArg some (by kernel_rfl))⟩
  f25 := ⟨Tryz.f94.name, by decide, Tryz.func94.trans (congrArg some (by kernel_rfl))⟩
  f26 := ⟨Tryz.f95.name, by decide, Tryz.func95.trans (congrArg some (by kernel_rfl))⟩
  f27 := ⟨Tryz.f96.name, by decide, Tryz.func96.trans (congrArg some (by kernel_rfl))⟩
  f28 := Tryz.func97.trans (congrArg some (by kernel_rfl))
  f29 := Tryz.func98.trans (congrArg some (by kernel_rfl))
  f46 := ⟨Tryz.f107.name, by decide, Tryz.func107.trans (congrArg some (by kernel_rfl))⟩
  f47 := Tryz.func108.trans (congrArg some (by kernel_rfl))
  f48 := Tryz.func109.trans (congrArg some (by kernel_rfl))
  f49 := ⟨Tryz.f110.name, by decide, Tryz.func110.trans (congrArg some (by kernel_rfl))⟩
  f50 := ⟨Tryz.f111.name, by decide, Tryz.func111.trans (congrArg some (by kernel_rfl))⟩
  f57 := ⟨Tryz.f118.name, by decide, Tryz.func118.trans (congrArg some (by kernel_rfl))⟩
  t0 := Tryz.underlying0
  a0 := Tryz.isAgg0
  z0 := Tryz.sizeOf0
  v0 := Tryz.zeroValue0
  t3 := Tryz.underlying3
  a3 := Tryz.isAgg3
  z3 := Tryz.sizeOf3
  v3 := Tryz.zeroValue3
  t4 := Tryz.underlying4
  a4 := Tryz.isAgg4
  z4 := Tryz.sizeOf4
  v4 := Tryz.zeroValue4
  t5 := Tryz.underlying5
  a5 := Tryz.isAgg5
  z5 := Tryz.sizeOf5
  v5 := Tryz.zeroValue5
  t9 := Tryz.underlying9
  a9 := Tryz.isAgg9
  z9 := Tryz.sizeOf9
  v9 := Tryz.zeroValue9
  t22 := Tryz.underlying33
  a22 := Tryz.isAgg33
  z22 := Tryz.sizeOf33
  v22 := Tryz.zeroValue33
  a24 := Tryz.isAgg24
  z24 := Tryz.sizeOf24
  t25 := Tryz.underlying86
  a25 := Tryz.isAgg86
  z25 := Tryz.sizeOf86
  v25 := Tryz.zeroValue86
  t39 := Tryz.underlying104
  a39 := Tryz.isAgg104
  z39 := Tryz.sizeOf104
  v39 := Tryz.zeroValue104
  t45 := Tryz.underlying114
  a45 := Tryz.isAgg114
  z45 := Tryz.sizeOf114
  v45 := Tryz.zeroValue114
  t46 := Tryz.underlying115
  a46 := Tryz.isAgg115
  z46 := Tryz.sizeOf115
  v46 := Tryz.zeroValue115
  t50 := Tryz.underlying119
  a50 := Tryz.isAgg119
  z50 := Tryz.sizeOf119
  v50 := Tryz.zeroValue119
  t53 := Tryz.underlying122
  a53 := Tryz.isAgg122
  z53 := Tryz.sizeOf122
  v53 := Tryz.zeroValue122
  t55 := Tryz.underlying124
  a55 := Tryz.isAgg124
  z55 := Tryz.sizeOf124
  v55 := Tryz.zeroValue124
  t66 := Tryz.underlying131
  a66 := Tryz.isAgg131
  z66 := Tryz.sizeOf131
  v66 := Tryz.zeroValue131
  t70 := Tryz.underlying135
  a70 := Tryz.isAgg135
  z70 := Tryz.sizeOf135
  v70 := Tryz.zeroValue135
  t76 := Tryz.underlying144
  a76 := Tryz.isAgg144
  z76 := Tryz.sizeOf144
  v76 := Tryz.zeroValue144
  t77 := Tryz.underlying145
  a77 := Tryz.isAgg145
  z77 := Tryz.sizeOf145
  v77 := Tryz.zeroValue145 }
def Tryz.sortJ_ren : Go.Shelf.Ren := ⟨fun | 189 => 101 | 125 => 73 | 257 => 113 | 128 => 97 | 129 => 98 | 294 => 119 | 295 => 120 | 296 => 121 | 297 => 122 | 298 => 123 | 299 => 124 | 216 => 125 | 300 => 126 | 301 => 127 | 328 => 132 | 329 => 108 | 330 => 109 | 331 => 133 | 332 => 134 | 215 => 99 | 343 => 137 | n => n, fun | 28 => 24 | 3 => 3 | 46 => 104 | 0 => 0 | 51 => 122 | 53 => 124 | 4 => 4 | 183 => 115 | 182 => 114 | 131 => 119 | 5 => 5 | 9 => 9 | 218 => 131 | 222 => 135 | 228 => 144 | 229 => 145 | n => n, fun | n => n⟩
theorem Tryz.sortJ : Go.Proofs.Lays.n189 Tryz.prog Tryz.sortJ_ren := {
  mixed := by kernel_rfl
  f125 := Tryz.func73.trans (congrArg some (by kernel_rfl))
  f128 := Tryz.func97.trans (congrArg some (by kernel_rfl))
  f129 := Tryz.func98.trans (congrArg some (by kernel_rfl))
  f189 := Tryz.func101.trans (congrArg some (by kernel_rfl))
  f215 := Tryz.func99.trans (congrArg some (by kernel_rfl))
  f216 := Tryz.func125.trans (congrArg some (by kernel_rfl))
  f257 := Tryz.func113.trans (congrArg some (by kernel_rfl))
  f294 := Tryz.func119.trans (congrArg some (by kernel_rfl))
  f295 := Tryz.func120.trans (congrArg some (by kernel_rfl))
  f296 := Tryz.func121.trans (congrArg some (by kernel_rfl))
  f297 := Tryz.func122.trans (congrArg some (by kernel_rfl))
  f298 := Tryz.func123.trans (congrArg some (by kernel_rfl))
  f299 := Tryz.func124.trans (congrArg some (by kernel_rfl))
  f300 := Tryz.func126.trans (congrArg some (by kernel_rfl))
  f301 := Tryz.func127.trans (congrArg some (by kernel_rfl))
  f328 := Tryz.func132.trans (congrArg some (by kernel_rfl))
  f329 := Tryz.func108.trans (congrArg some (by kernel_rfl))
  f330 := Tryz.func109.trans (congrArg some (by kernel_rfl))
  f331 := Tryz.func133.trans (congrArg some (by kernel_rfl))
  f332 := Tryz.func134.trans (congrArg some (by kernel_rfl))
  f343 := Tryz.func137.trans (congrArg some (by kernel_rfl))
  t0 := Tryz.underlying0
  a0 := Tryz.isAgg0
  z0 := Tryz.sizeOf0
  v0 := Tryz.zeroValue0
  t3 := Tryz.underlying3
  a3 := Tryz.isAgg3
  z3 := Tryz.sizeOf3
  v3 := Tryz.zeroValue3
  t4 := Tryz.underlying4
  a4 := Tryz.isAgg4
  z4 := Tryz.sizeOf4
  v4 := Tryz.zeroValue4
  t5 := Tryz.underlying5
  a5 := Tryz.isAgg5
  z5 := Tryz.sizeOf5
  v5 := Tryz.zeroValue5
  t9 := Tryz.underlying9
  a9 := Tryz.isAgg9
  z9 := Tryz.sizeOf9
  v9 := Tryz.zeroValue9
  t28 := Tryz.underlying24
  a28 := Tryz.isAgg24
  z28 := Tryz.sizeOf24
  v28 := Tryz.zeroValue24
  t46 := Tryz.underlying104
  a46 := Tryz.isAgg104
  z46 := Tryz.sizeOf104
  v46 := Tryz.zeroValue104
  t51 := Tryz.underlying122
  a51 := Tryz.isAgg122
  z51 := Tryz.sizeOf122
  v51 := Tryz.zeroValue122
  t53 := Tryz.underlying124
  a53 := Tryz.isAgg124
  z53 := Tryz.sizeOf124
  v53 := Tryz.zeroValue124
  t131 := Tryz.underlying119
  a131 := Tryz.isAgg119
  z131 := Tryz.sizeOf119
  v131 := Tryz.zeroValue119
  t182 := Tryz.underlying114
  a182 := Tryz.isAgg114
  z182 := Tryz.sizeOf114
  v182 := Tryz.zeroValue114
  t183 := Tryz.underlying115
  a183 := Tryz.isAgg115
  z183 := Tryz.sizeOf115
  v183 := Tryz.zeroValue115
  t218 := Tryz.underlying131
  a218 := Tryz.isAgg131
  z218 := Tryz.sizeOf131
  v218 := Tryz.zeroValue131
  t222 := Tryz.underlying135
  a222 := Tryz.isAgg135
  z222 := Tryz.sizeOf135
  v222 := Tryz.zeroValue135
  t228 := Tryz.underlying144
  a228 := Tryz.isAgg144
  z228 := Tryz.sizeOf144
  v228 := Tryz.zeroValue144
  t229 := Tryz.underlying145
  a229 := Tryz.isAgg145
  z229 := Tryz.sizeOf145
  v229 := Tryz.zeroValue145 }
end Go.Proofs

namespace Lg
open Go Go.Proofs
theorem Sort_spec (v : Value) (xs : List Int) (hn : xs.length < 4611686018427387904) : Spec (X := Unit) Tryz.prog 101 [rV.ty v] [own 3 rInt v xs] (fun _ => tTup []) (fun _ => [own 3 rInt v (sortI xs)]) := sortInts_spec Tryz.sortJ v xs hn
end Lg

namespace Lg
open Go Go.Proofs

theorem Collect_spec {gf : Nat} {As : List Ty} {A : List SP} {Ok Fin : List Int → Prop} (it : ItSpec Tryz.prog gf As A (fun x : Int => [tV (.int .i64 x)]) Ok Fin) (he : ∀ args w, (callFunc gf args).run Tryz.prog w = .ok (.enter gf args) w) (hb : ∀ p, Ok p → p.length ≤ 1000000) : Spec (X := Value × { xs : List Int // Fin xs }) Tryz.prog 100 [tClo gf As] (A) (fun z => rV.ty z.1) (fun z => own 3 rInt z.1 z.2.1 :: A) := by
  refine Spec.enter Tryz.func100 rfl rfl fun h0 w0 fr0 => ?_
  refine J_seq ?_
  refine J_region ?_
  refine JL_step rfl rfl rfl (step_assign Sub.rfl) ?_
  refine JL_nil ?_
  refine J_seq ?_
  refine J_region ?_
  refine JL_step rfl rfl rfl (step_move Sub.rfl) ?_
  refine JL_stepX rfl rfl rfl (step_call (Sel.all _) (AppendSeq_spec it he hb) ⟨Sub.rfl, Sub.rfl, trivial⟩ Tryz.call112) fun z => ?_
  refine JL_step rfl rfl rfl (step_assign Sub.rfl) ?_
  refine JL_nil ?_
  refine J_ret ?_
  refine K_lsub (LSub.of (L' := own 3 rInt z.1 z.2.1 :: A) (by simp)) ?_
  refine K_retv (rv := .tmp 2) rfl z (.tmp Sub.rfl) Sub.rfl
theorem Sorted_spec {gf : Nat} {As : List Ty} {A : List SP} {Ok Fin : List Int → Prop} (it : ItSpec Tryz.prog gf As A (fun x : Int => [tV (.int .i64 x)]) Ok Fin) (he : ∀ args w, (callFunc gf args).run Tryz.prog w = .ok (.enter gf args) w) (hb : ∀ p, Ok p → p.length ≤ 1000000) (hf : ∀ p, Fin p → p.length ≤ 1000000) : Spec (X := { xs : List Int // Fin xs }) Tryz.prog 78 [tClo gf As] (A) (fun z => tSlE 3 rInt (sortI z.1)) (fun z => A) := by
  refine Spec.enter Tryz.func78 rfl rfl fun h0 w0 fr0 => ?_
  refine J_seq ?_
  refine J_region ?_
  refine JL_step rfl rfl rfl (step_assign Sub.rfl) ?_
  refine JL_nil ?_
  refine J_seq ?_
  refine J_region ?_
  refine JL_step rfl rfl rfl (step_move Sub.rfl) ?_
  refine JL_stepX rfl rfl rfl (step_call (Sel.all _) (Collect_spec it he hb) ⟨Sub.rfl, trivial⟩ Tryz.call100) fun z => ?_
  refine JL_step rfl rfl rfl (step_assign Sub.rfl) ?_
  refine JL_nil ?_
  refine J_seq ?_
  refine J_region ?_
  refine JL_step rfl rfl rfl (step_move Sub.rfl) ?_
  refine JL_stepX rfl rfl rfl (step_call (by first | exact Sel.take (Sel.none _) | exact Sel.skip (Sel.take (Sel.none _)) | exact Sel.skip (Sel.skip (Sel.take (Sel.none _))) | exact Sel.skip (Sel.skip (Sel.skip (Sel.take (Sel.none _)))) | exact Sel.skip (Sel.skip (Sel.skip (Sel.skip (Sel.take (Sel.none _)))))) (Sort_spec _ _ (by have := hf _ z.2.2; omega)) ⟨Sub.rfl, trivial⟩ Tryz.call101) fun v7 => ?_
  refine JL_nil ?_
  refine J_seq ?_
  refine J_region ?_
  refine JL_step rfl rfl rfl (step_move Sub.rfl) ?_
  refine JL_step rfl rfl rfl (step_assign Sub.rfl) ?_
  refine JL_nil ?_
  refine J_ret ?_
  refine K_lsub (LSub.of (L' := own 3 rInt z.1 (sortI z.2.1) :: A) (by simp)) ?_
  refine K_ret1' (rv := .tmp 2) rfl z.2 (S := [own 3 rInt z.1 (sortI z.2.1)]) (Sel.take (Sel.none _)) (.tmp Sub.rfl) ?_
  exact Frz.ownE
end Lg

namespace Lg
open Go Go.Proofs

theorem Values1o_spec (v : Value) (l : List Int) (hl : l.length ≤ 1000000000000) : ItSpec Tryz.prog 102 [tPtr rV v] [own 3 rInt v l] (fun x : Int => [tV (.int .i64 x)]) (fun p => p <+: l) (fun p => p = l) := by
  intro M Mx
  refine Spec.enter Tryz.func102 rfl rfl fun h0 w0 fr0 => ?_
  refine J_seq ?_
  refine J_region ?_
  refine JL_step rfl rfl rfl (step_load_ptr ty24V Sub.rfl) ?_
  refine JL_step rfl rfl rfl (step_len_own Tryz.underlying24 Sub.rfl (by first | exact Sel.take (Sel.none _) | exact Sel.skip (Sel.take (Sel.none _)) | exact Sel.skip (Sel.skip (Sel.take (Sel.none _))) | exact Sel.skip (Sel.skip (Sel.skip (Sel.take (Sel.none _)))) | exact Sel.skip (Sel.skip (Sel.skip (Sel.skip (Sel.take (Sel.none _))))))) ?_
  refine JL_step rfl rfl rfl (step_move Sub.rfl) ?_
  refine JL_nil ?_
  refine J_block ?_
  refine J_loopL (σ := Nat) (fun i => i ≤ l.length) (fun i => upd (upd (upd (upd env0 0 (tYield Tryz.prog (fun x : Int => [tV (.int .i64 x)]) (fun p => p <+: l) M Mx)) 5 (rV.ty v)) 6 (tV (.int .i64 l.length))) 7 (tV (.int .i64 i))) (fun i => [M (l.take i), own 3 rInt v l]) (fun i => l.length - i) 0 (by omega) (SubE.upd Sub.rfl (SubE.upd Sub.rfl (SubE.upd Sub.rfl (SubE.upd Sub.rfl SubE.any)))) (LSub.rfl) ?_
  rintro i hi
  refine J_seq ?_
  refine J_region ?_
  refine JL_step rfl rfl rfl (step_lss Sub.rfl Sub.rfl) ?_
  refine JL_nil ?_
  refine J_seq ?_
  refine J_cond Sub.rfl (fun hc1 => ?_) (fun hc1 => ?_)
  · try simp only [decide_eq_true_eq, decide_eq_false_iff_not, Bool.and_eq_true, Bool.or_eq_true, Bool.and_eq_false_iff, Bool.or_eq_false_iff, Bool.not_eq_true', Bool.not_eq_false', Int.not_lt, Int.not_le, Bool.not_true, Bool.not_false] at hc1
    have hlt : i < l.length := by omega
    refine J_skip ?_
    refine J_seq ?_
    refine J_block ?_
    refine J_seq ?_
    refine J_region ?_
    refine JL_step rfl rfl rfl (step_indexAddr_own  Tryz.underlying24 ty3 Sub.rfl (by first | exact Sel.take (Sel.none _) | exact Sel.skip (Sel.take (Sel.none _)) | exact Sel.skip (Sel.skip (Sel.take (Sel.none _))) | exact Sel.skip (Sel.skip (Sel.skip (Sel.take (Sel.none _)))) | exact Sel.skip (Sel.skip (Sel.skip (Sel.skip (Sel.take (Sel.none _)))))) Sub.rfl rfl ?sg1) ?_
    case sg1 => first | assumption | omega
    refine JL_step rfl rfl rfl (step_load_own ty3 Sub.rfl (by first | exact Sel.take (Sel.none _) | exact Sel.skip (Sel.take (Sel.none _)) | exact Sel.skip (Sel.skip (Sel.take (Sel.none _))) | exact Sel.skip (Sel.skip (Sel.skip (Sel.take (Sel.none _)))) | exact Sel.skip (Sel.skip (Sel.skip (Sel.skip (Sel.take (Sel.none _)))))) (gb ?sg1)) ?_
    case sg1 => first | assumption | omega
    refine JL_step rfl rfl rfl (step_assign Sub.rfl) ?_
    refine JL_nil ?_
    refine J_seq ?_
    refine J_region ?_
    refine JL_step rfl rfl rfl (step_move Sub.rfl) ?_
    refine JL_step rfl rfl rfl (step_move Sub.rfl) ?_
    refine JL_stepX rfl rfl rfl (step_yield (T := fun x : Int => [tV (.int .i64 x)]) (Ok := fun p => p <+: l) (M := M) (Mx := Mx) (pre := l.take i) (y := nth l i) Sub.rfl ?sg1 ?sg2 (by first | exact Sel.take (Sel.none _) | exact Sel.skip (Sel.take (Sel.none _)) | exact Sel.skip (Sel.skip (Sel.take (Sel.none _))) | exact Sel.skip (Sel.skip (Sel.skip (Sel.take (Sel.none _)))) | exact Sel.skip (Sel.skip (Sel.skip (Sel.skip (Sel.take (Sel.none _))))))) fun v13 => ?_
    case sg1 => exact takeB hlt ▸ List.take_prefix _ _
    case sg2 => exact ⟨Sub.rfl, trivial⟩
    refine JL_step rfl rfl rfl (step_not Sub.rfl) ?_
    refine JL_nil ?_
    refine J_cond Sub.rfl (fun hb => ?_) (fun hb => ?_)
    · try simp only [decide_eq_true_eq, decide_eq_false_iff_not, Bool.and_eq_true, Bool.or_eq_true, Bool.and_eq_false_iff, Bool.or_eq_false_iff, Bool.not_eq_true', Bool.not_eq_false', Int.not_lt, Int.not_le, Bool.not_true, Bool.not_false] at hb
      subst hb
      refine J_ret ?_
      refine K_itStop (Fin := fun p => p = l) (M := M) (Mx := Mx) (A := [own 3 rInt v l]) ?_ (l.take i ++ [nth l i]) ?_
      · rfl
      · exact LSub.of rfl
    · try simp only [decide_eq_true_eq, decide_eq_false_iff_not, Bool.and_eq_true, Bool.or_eq_true, Bool.and_eq_false_iff, Bool.or_eq_false_iff, Bool.not_eq_true', Bool.not_eq_false', Int.not_lt, Int.not_le, Bool.not_true, Bool.not_false] at hb
      subst hb
      refine J_skip ?_
      refine J_region ?_
      refine JL_step rfl rfl rfl (step_add Sub.rfl Sub.rfl ?sg1) ?_
      case sg1 => unfold in64; omega
      refine JL_step rfl rfl rfl (step_move Sub.rfl) ?_
      refine JL_nil ?_
      refine K_againL (σ := Nat) (s := i) (i + 1) (by first | omega | (dsimp only; omega) | (simp_all; omega)) (by omega) (SubE.upd Sub.rfl (SubE.upd Sub.rfl (SubE.upd Sub.rfl (SubE.upd Sub.rfl SubE.any)))) (LSub.of (by rw [takeB hlt]; rfl))
  · try simp only [decide_eq_true_eq, decide_eq_false_iff_not, Bool.and_eq_true, Bool.or_eq_true, Bool.and_eq_false_iff, Bool.or_eq_false_iff, Bool.not_eq_true', Bool.not_eq_false', Int.not_lt, Int.not_le, Bool.not_true, Bool.not_false] at hc1
    refine J_exit ?_
    refine K_endRet (K_itDone (Fin := fun p => p = l) (M := M) (Mx := Mx) (A := [own 3 rInt v l]) ?_ l rfl ?_)
    · rfl
    · exact LSub.of (by obtain rfl : i = l.length := (by omega); rw [List.take_length])
theorem Valueso_spec (v : Value) : Fun1 Tryz.prog 79 [rV.ty v] (tClo 102 [tPtr rV v]) := by
  refine Spec.enter Tryz.func79 rfl rfl fun h0 w0 fr0 => ?_
  refine J_seq ?_
  refine J_region ?_
  refine JL_step rfl rfl rfl (step_box (R := rV) Sub.rfl) ?_
  refine JL_step rfl rfl rfl (step_assign Sub.rfl) ?_
  refine JL_nil ?_
  refine J_seq ?_
  refine J_region ?_
  refine JL_step rfl rfl rfl (step_makeFunc (As := [_]) ⟨Sub.rfl, trivial⟩) ?_
  refine JL_step rfl rfl rfl (step_assign Sub.rfl) ?_
  refine JL_nil ?_
  refine J_ret ?_
  exact K_ret1 (t := 2) rfl () Sub.rfl

theorem ty74Y {α : Type} {T : α → List Ty} {Ok : List α → Prop} {M Mx : List α → SP} : TyOf Tryz.prog 74 (rY Tryz.prog T Ok M Mx) := ⟨fun w => Tryz.isAgg74 w, fun w => Tryz.sizeOf74 w⟩
theorem ty25C {g : Nat} {As : List Ty} : TyOf Tryz.prog 25 (rC g As) := ⟨fun w => Tryz.isAgg25 w, fun w => Tryz.sizeOf25 w⟩
def okT (d : GRule) (facts : List GFact) (at_ : List Int) : Bool := d.Tests.all fun t => holdsV t d.Tables.length facts at_
def cand (d : GRule) (facts : List GFact) (at_ : List Int) (c : Int) : Bool := decide ((nth facts c.toNat).Table = nth d.Tables at_.length) && !at_.contains c && okT d facts (at_ ++ [c])
/-- The sets that n more variables make, in order. -/
def asg (d : GRule) (facts : List GFact) (cands : List Int) : Nat → List Int → List (List Int)
  | 0, at_ => [sortI at_]
  | n + 1, at_ => cands.flatMap fun c => if cand d facts at_ c then asg d facts cands n (at_ ++ [c]) else []
def asgN (d : GRule) (facts : List GFact) (cands : List Int) (n : Nat) (at_ l : List Int) : List (List Int) := l.flatMap fun c => if cand d facts at_ c then asg d facts cands n (at_ ++ [c]) else []
theorem asgN_succ {d : GRule} {facts : List GFact} {cands : List Int} {n : Nat} {at_ : List Int} {i : Nat} (h : i < cands.length) :
    asgN d facts cands n at_ (cands.take (i + 1)) = asgN d facts cands n at_ (cands.take i) ++ (if cand d facts at_ (nth cands i) then asg d facts cands n (at_ ++ [nth cands i]) else []) := by rw [takeB h]; simp [asgN]
theorem asgN_pre {d : GRule} {facts : List GFact} {cands : List Int} {n : Nat} {at_ : List Int} (i : Nat) : asgN d facts cands n at_ (cands.take i) <+: asg d facts cands (n + 1) at_ := by
  have : asg d facts cands (n + 1) at_ = asgN d facts cands n at_ (cands.take i) ++ asgN d facts cands n at_ (cands.drop i) := by
    show asgN d facts cands n at_ cands = _
    simp only [asgN]
    rw [← List.flatMap_append, List.take_append_drop]
  rw [this]; exact List.prefix_append _ _
theorem take_all {α : Type} [Inhabited α] (p : α → Bool) {l : List α} {j : Nat} (h : j < l.length) : (l.take (j + 1)).all p = ((l.take j).all p && p (nth l j)) := by rw [takeB h, List.all_append]; simp
structure PutX where
  b : Bool
  v : Value
  a : List Int
  ys : List (List Int)
def putL (bat : Nat) (M Mx : List (List Int) → SP) (at_ : List Int) (done : List (List Int)) (z : PutX) : List SP :=
  match z.b with
  | true => [box bat 24 rV z.v, own 3 rInt z.v at_, M done]
  | false => [box bat 24 rV z.v, own 3 rInt z.v z.a, Mx z.ys]
abbrev rI2 : Rp (List Int) := rSlE 3 rInt
abbrev tI2 : List Int → List Ty := fun x => [tSlE 3 rInt x]
theorem ty24E : TyOf Tryz.prog 24 rI2 := ⟨fun w => Tryz.isAgg24 w, fun w => Tryz.sizeOf24 w⟩
theorem zr24E : ∀ h, (rI2.ty []).p h (Value.slice none 0 0) := fun h => Sub.nilslE h _ rfl
theorem el24E : ElT Tryz.prog 24 rI2 24 [] := ⟨ty24E, by decide, Tryz.t24, (Value.slice none 0 0), by kernel_rfl, by kernel_rfl, by kernel_rfl, by kernel_rfl, zr24E⟩
theorem ty33E : TyOf Tryz.prog 33 (rSlE 24 rI2) := ⟨fun w => Tryz.isAgg33 w, fun w => Tryz.sizeOf33 w⟩
theorem zr33E : ∀ h, ((rSlE 24 rI2).ty []).p h (Value.slice none 0 0) := fun h => Sub.nilslE h _ rfl
abbrev okP (tot : List (List Int)) : List (List Int) → Prop := fun p => p <+: tot
abbrev putAs (bat : Nat) (d : GRule) (facts : List GFact) (cands : List Int) (tot : List (List Int)) (M Mx : List (List Int) → SP) : List Ty :=
  [tAt bat 0, tPtr rRule d, tPtr (rY Tryz.prog tI2 (okP tot) M Mx) (), tPtr (rSl rInt) cands, tPtr (rSl rFact) facts]
def PutSpec (bat : Nat) (d : GRule) (facts : List GFact) (cands : List Int) (tot : List (List Int)) (M Mx : List (List Int) → SP) (n : Nat) (at_ : List Int) (v : Value) (pre : List (List Int)) : Prop :=
  Spec (X := PutX) Tryz.prog 77 (putAs bat d facts cands tot M Mx ++ [tPut 77 (putAs bat d facts cands tot M Mx)]) [box bat 24 rV v, own 3 rInt v at_, M pre] (fun z => tV (.bool z.b)) (fun z => putL bat M Mx at_ (pre ++ asg d facts cands n at_) z)
theorem InB_snoc {l : List Int} {n : Nat} {c : Int} (h : InB l n) (h0 : 0 ≤ c) (h1 : c < (n : Int)) : InB (l ++ [c]) n := fun a ha => by
  rcases List.mem_append.1 ha with ha | ha
  · exact h a ha
  · simp at ha; subst ha; exact ⟨h0, h1⟩

theorem put0_spec (bat : Nat) (d : GRule) (facts : List GFact) (cands : List Int) (tot : List (List Int)) (M Mx : List (List Int) → SP) (hc : InB cands facts.length) (hcl : cands.length ≤ 1000000) (hfl : facts.length ≤ 1000000) (htl : d.Tables.length ≤ 1000) (hte : d.Tests.length ≤ 4000000) (n : Nat) (at_ : List Int) (v : Value) (pre : List (List Int)) (hn : at_.length + 0 = d.Tables.length) (hat : InB at_ facts.length) (hok : pre ++ asg d facts cands 0 at_ <+: tot) : PutSpec bat d facts cands tot M Mx 0 at_ v pre := by
  unfold PutSpec
  refine Spec.enter Tryz.func77 rfl rfl fun h0 w0 fr0 => ?_
  refine J_seq ?_
  refine J_region ?_
  refine JL_step rfl rfl rfl (step_assign Sub.rfl) ?_
  refine JL_nil ?_
  refine J_seq ?_
  refine J_seq ?_
  refine J_region ?_
  refine JL_step rfl rfl rfl (step_load_box ty24V Sub.rfl (by first | exact Sel.take (Sel.none _) | exact Sel.skip (Sel.take (Sel.none _)) | exact Sel.skip (Sel.skip (Sel.take (Sel.none _))) | exact Sel.skip (Sel.skip (Sel.skip (Sel.take (Sel.none _)))) | exact Sel.skip (Sel.skip (Sel.skip (Sel.skip (Sel.take (Sel.none _))))))) ?_
  refine JL_step rfl rfl rfl (step_len_own Tryz.underlying24 Sub.rfl (by first | exact Sel.take (Sel.none _) | exact Sel.skip (Sel.take (Sel.none _)) | exact Sel.skip (Sel.skip (Sel.take (Sel.none _))) | exact Sel.skip (Sel.skip (Sel.skip (Sel.take (Sel.none _)))) | exact Sel.skip (Sel.skip (Sel.skip (Sel.skip (Sel.take (Sel.none _))))))) ?_
  refine JL_step rfl rfl rfl (step_fieldAddr so32 Sub.rfl rfl) ?_
  refine JL_step rfl rfl rfl (step_load_ptr ty24 Sub.rfl) ?_
  refine JL_step rfl rfl rfl (step_len_sl Tryz.underlying24 Sub.rfl) ?_
  refine JL_step rfl rfl rfl (step_eql Sub.rfl Sub.rfl) ?_
  refine JL_nil ?_
  refine J_cond Sub.rfl (fun hc1 => ?_) (fun hc1 => ?_)
  · try simp only [decide_eq_true_eq, decide_eq_false_iff_not, Bool.and_eq_true, Bool.or_eq_true, Bool.and_eq_false_iff, Bool.or_eq_false_iff, Bool.not_eq_true', Bool.not_eq_false', Int.not_lt, Int.not_le, Bool.not_true, Bool.not_false] at hc1
    refine J_seq ?_
    refine J_draw [⟨0, [2], true⟩, ⟨1, [0], false⟩, ⟨2, [19], true⟩, ⟨3, [20], false⟩, ⟨4, [18, 21], false⟩, ⟨5, [22], true⟩] rfl (by kernel_rfl) ?_
    refine JM_step rfl rfl rfl rfl (fun _ => step_load_ptr ty74Y Sub.rfl) ?_
    refine JM_look rfl rfl rfl rfl (step_load_box ty24V Sub.rfl (by first | exact Sel.take (Sel.none _) | exact Sel.skip (Sel.take (Sel.none _)) | exact Sel.skip (Sel.skip (Sel.take (Sel.none _))) | exact Sel.skip (Sel.skip (Sel.skip (Sel.take (Sel.none _)))) | exact Sel.skip (Sel.skip (Sel.skip (Sel.skip (Sel.take (Sel.none _))))))) ?_
    refine JM_step rfl rfl rfl rfl (fun _ => step_call0 (Valueso_spec _) ⟨Sub.rfl, trivial⟩ Tryz.call79) ?_
    refine JM_stepX rfl rfl rfl rfl (step_call (by first | exact Sel.take (Sel.none _) | exact Sel.skip (Sel.take (Sel.none _)) | exact Sel.skip (Sel.skip (Sel.take (Sel.none _))) | exact Sel.skip (Sel.skip (Sel.skip (Sel.take (Sel.none _)))) | exact Sel.skip (Sel.skip (Sel.skip (Sel.skip (Sel.take (Sel.none _)))))) (Sorted_spec (Values1o_spec v at_ (by omega)) Tryz.call102 (fun p hp => by have := hp.length_le; omega) (fun p hp => by rw [hp]; omega)) ⟨Sub.rfl, trivial⟩ Tryz.call78) fun z => ?_
    refine JM_stepX rfl rfl rfl rfl (step_yield (T := tI2) (Ok := okP tot) (M := M) (Mx := Mx) (pre := pre) (y := sortI at_) Sub.rfl ?sg1 ?sg2 (by first | exact Sel.take (Sel.none _) | exact Sel.skip (Sel.take (Sel.none _)) | exact Sel.skip (Sel.skip (Sel.take (Sel.none _))) | exact Sel.skip (Sel.skip (Sel.skip (Sel.take (Sel.none _)))) | exact Sel.skip (Sel.skip (Sel.skip (Sel.skip (Sel.take (Sel.none _))))))) fun b => ?_
    case sg1 => exact hok
    case sg2 => exact ⟨Sub.slE (by rw [z.2]), trivial⟩
    refine JM_step rfl rfl rfl rfl (fun _ => step_assign Sub.rfl) ?_
    refine JM_nil ?_
    refine J_ret ?_
    refine K_lsub (L' := putL bat M Mx at_ (pre ++ asg d facts cands 0 at_) ⟨b, v, at_, pre ++ [sortI at_]⟩) ?_ ?_
    · cases b
      · exact LSub.cons (by first | exact Sel.take (Sel.none _) | exact Sel.skip (Sel.take (Sel.none _)) | exact Sel.skip (Sel.skip (Sel.take (Sel.none _))) | exact Sel.skip (Sel.skip (Sel.skip (Sel.take (Sel.none _)))) | exact Sel.skip (Sel.skip (Sel.skip (Sel.skip (Sel.take (Sel.none _)))))) (SPs.rfl) (LSub.cons (by first | exact Sel.take (Sel.none _) | exact Sel.skip (Sel.take (Sel.none _)) | exact Sel.skip (Sel.skip (Sel.take (Sel.none _))) | exact Sel.skip (Sel.skip (Sel.skip (Sel.take (Sel.none _)))) | exact Sel.skip (Sel.skip (Sel.skip (Sel.skip (Sel.take (Sel.none _)))))) (SPs.rfl) (LSub.cons (by first | exact Sel.take (Sel.none _) | exact Sel.skip (Sel.take (Sel.none _)) | exact Sel.skip (Sel.skip (Sel.take (Sel.none _))) | exact Sel.skip (Sel.skip (Sel.skip (Sel.take (Sel.none _)))) | exact Sel.skip (Sel.skip (Sel.skip (Sel.skip (Sel.take (Sel.none _)))))) (SPs.rfl) LSub.nil))
      · exact LSub.cons (by first | exact Sel.take (Sel.none _) | exact Sel.skip (Sel.take (Sel.none _)) | exact Sel.skip (Sel.skip (Sel.take (Sel.none _))) | exact Sel.skip (Sel.skip (Sel.skip (Sel.take (Sel.none _)))) | exact Sel.skip (Sel.skip (Sel.skip (Sel.skip (Sel.take (Sel.none _)))))) (SPs.rfl) (LSub.cons (by first | exact Sel.take (Sel.none _) | exact Sel.skip (Sel.take (Sel.none _)) | exact Sel.skip (Sel.skip (Sel.take (Sel.none _))) | exact Sel.skip (Sel.skip (Sel.skip (Sel.take (Sel.none _)))) | exact Sel.skip (Sel.skip (Sel.skip (Sel.skip (Sel.take (Sel.none _)))))) (SPs.rfl) (LSub.cons (by first | exact Sel.take (Sel.none _) | exact Sel.skip (Sel.take (Sel.none _)) | exact Sel.skip (Sel.skip (Sel.take (Sel.none _))) | exact Sel.skip (Sel.skip (Sel.skip (Sel.take (Sel.none _)))) | exact Sel.skip (Sel.skip (Sel.skip (Sel.skip (Sel.take (Sel.none _)))))) (SPs.rfl) LSub.nil))
    exact K_ret1 (t := 6) rfl (⟨b, v, at_, pre ++ [sortI at_]⟩ : PutX) Sub.rfl
  · try simp only [decide_eq_true_eq, decide_eq_false_iff_not, Bool.and_eq_true, Bool.or_eq_true, Bool.and_eq_false_iff, Bool.or_eq_false_iff, Bool.not_eq_true', Bool.not_eq_false', Int.not_lt, Int.not_le, Bool.not_true, Bool.not_false] at hc1
    exfalso; omega
theorem putS_spec (bat : Nat) (d : GRule) (facts : List GFact) (cands : List Int) (tot : List (List Int)) (M Mx : List (List Int) → SP) (hc : InB cands facts.length) (hcl : cands.length ≤ 1000000) (hfl : facts.length ≤ 1000000) (htl : d.Tables.length ≤ 1000) (hte : d.Tests.length ≤ 4000000) (n : Nat) (IH : ∀ (at_ : List Int) (v : Value) (pre : List (List Int)), at_.length + n = d.Tables.length → InB at_ facts.length → pre ++ asg d facts cands n at_ <+: tot → PutSpec bat d facts cands tot M Mx n at_ v pre) (at_ : List Int) (v : Value) (pre : List (List Int)) (hn : at_.length + (n + 1) = d.Tables.length) (hat : InB at_ facts.length) (hok : pre ++ asg d facts cands (n + 1) at_ <+: tot) : PutSpec bat d facts cands tot M Mx (n + 1) at_ v pre := by
  unfold PutSpec
  refine Spec.enter Tryz.func77 rfl rfl fun h0 w0 fr0 => ?_
  refine J_seq ?_
  refine J_region ?_
  refine JL_step rfl rfl rfl (step_assign Sub.rfl) ?_
  refine JL_nil ?_
  refine J_seq ?_
  refine J_seq ?_
  refine J_region ?_
  refine JL_step rfl rfl rfl (step_load_box ty24V Sub.rfl (by first | exact Sel.take (Sel.none _) | exact Sel.skip (Sel.take (Sel.none _)) | exact Sel.skip (Sel.skip (Sel.take (Sel.none _))) | exact Sel.skip (Sel.skip (Sel.skip (Sel.take (Sel.none _)))) | exact Sel.skip (Sel.skip (Sel.skip (Sel.skip (Sel.take (Sel.none _))))))) ?_
  refine JL_step rfl rfl rfl (step_len_own Tryz.underlying24 Sub.rfl (by first | exact Sel.take (Sel.none _) | exact Sel.skip (Sel.take (Sel.none _)) | exact Sel.skip (Sel.skip (Sel.take (Sel.none _))) | exact Sel.skip (Sel.skip (Sel.skip (Sel.take (Sel.none _)))) | exact Sel.skip (Sel.skip (Sel.skip (Sel.skip (Sel.take (Sel.none _))))))) ?_
  refine JL_step rfl rfl rfl (step_fieldAddr so32 Sub.rfl rfl) ?_
  refine JL_step rfl rfl rfl (step_load_ptr ty24 Sub.rfl) ?_
  refine JL_step rfl rfl rfl (step_len_sl Tryz.underlying24 Sub.rfl) ?_
  refine JL_step rfl rfl rfl (step_eql Sub.rfl Sub.rfl) ?_
  refine JL_nil ?_
  refine J_cond Sub.rfl (fun hc1 => ?_) (fun hc1 => ?_)
  · try simp only [decide_eq_true_eq, decide_eq_false_iff_not, Bool.and_eq_true, Bool.or_eq_true, Bool.and_eq_false_iff, Bool.or_eq_false_iff, Bool.not_eq_true', Bool.not_eq_false', Int.not_lt, Int.not_le, Bool.not_true, Bool.not_false] at hc1
    exfalso; omega
  · try simp only [decide_eq_true_eq, decide_eq_false_iff_not, Bool.and_eq_true, Bool.or_eq_true, Bool.and_eq_false_iff, Bool.or_eq_false_iff, Bool.not_eq_true', Bool.not_eq_false', Int.not_lt, Int.not_le, Bool.not_true, Bool.not_false] at hc1
    refine J_skip ?_
    refine J_seq ?_
    refine J_seq ?_
    refine J_region ?_
    refine JL_step rfl rfl rfl (step_load_ptr ty24 Sub.rfl) ?_
    refine JL_step rfl rfl rfl (step_len_sl Tryz.underlying24 Sub.rfl) ?_
    refine JL_step rfl rfl rfl (step_move Sub.rfl) ?_
    refine JL_nil ?_
    refine J_block ?_
    refine J_loopL (σ := Nat × Value) (fun ⟨i, u⟩ => i ≤ cands.length) (fun ⟨i, u⟩ => upd (upd (upd (upd (upd (upd (upd env0 0 (tAt bat 0)) 1 (tPtr rRule d)) 4 (tPtr (rSl rFact) facts)) 5 (tPut 77 (putAs bat d facts cands tot M Mx))) 23 (tSl rInt cands)) 24 (tV (.int .i64 cands.length))) 25 (tV (.int .i64 i))) (fun ⟨i, u⟩ => [box bat 24 rV u, own 3 rInt u at_, M (pre ++ asgN d facts cands n at_ (cands.take i))]) (fun ⟨i, u⟩ => cands.length - i) (0, v) (by simp) (SubE.upd Sub.rfl (SubE.upd Sub.rfl (SubE.upd Sub.rfl (SubE.upd Sub.rfl (SubE.upd Sub.rfl (SubE.upd Sub.rfl (SubE.upd Sub.rfl SubE.any))))))) (LSub.cons (by first | exact Sel.take (Sel.none _) | exact Sel.skip (Sel.take (Sel.none _)) | exact Sel.skip (Sel.skip (Sel.take (Sel.none _))) | exact Sel.skip (Sel.skip (Sel.skip (Sel.take (Sel.none _)))) | exact Sel.skip (Sel.skip (Sel.skip (Sel.skip (Sel.take (Sel.none _)))))) (SPs.rfl) (LSub.cons (by first | exact Sel.take (Sel.none _) | exact Sel.skip (Sel.take (Sel.none _)) | exact Sel.skip (Sel.skip (Sel.take (Sel.none _))) | exact Sel.skip (Sel.skip (Sel.skip (Sel.take (Sel.none _)))) | exact Sel.skip (Sel.skip (Sel.skip (Sel.skip (Sel.take (Sel.none _)))))) (SPs.rfl) (LSub.cons (by first | exact Sel.take (Sel.none _) | exact Sel.skip (Sel.take (Sel.none _)) | exact Sel.skip (Sel.skip (Sel.take (Sel.none _))) | exact Sel.skip (Sel.skip (Sel.skip (Sel.take (Sel.none _)))) | exact Sel.skip (Sel.skip (Sel.skip (Sel.skip (Sel.take (Sel.none _)))))) (SPs.of (by simp [asgN])) LSub.nil))) ?_
    rintro ⟨i, u⟩ hi
    try dsimp only at hi
    refine J_seq ?_
    refine J_region ?_
    refine JL_step rfl rfl rfl (step_lss Sub.rfl Sub.rfl) ?_
    refine JL_nil ?_
    refine J_seq ?_
    refine J_cond Sub.rfl (fun hc2 => ?_) (fun hc2 => ?_)
    · try simp only [decide_eq_true_eq, decide_eq_false_iff_not, Bool.and_eq_true, Bool.or_eq_true, Bool.and_eq_false_iff, Bool.or_eq_false_iff, Bool.not_eq_true', Bool.not_eq_false', Int.not_lt, Int.not_le, Bool.not_true, Bool.not_false] at hc2
      have hlt : i < cands.length := by omega
      obtain ⟨hc0, hc1⟩ := hc _ (nth_mem hlt)
      refine J_skip ?_
      refine J_seq ?_
      refine J_block ?_
      refine J_seq ?_
      refine J_region ?_
      refine JL_step rfl rfl rfl (step_indexAddr_sl  Tryz.underlying24 ty3 Sub.rfl Sub.rfl rfl (gb ?sg1)) ?_
      case sg1 => first | assumption | omega
      refine JL_step rfl rfl rfl (step_load_ptr ty3 Sub.rfl) ?_
      refine JL_step rfl rfl rfl (step_assign Sub.rfl) ?_
      refine JL_nil ?_
      refine J_seq ?_
      refine J_seq ?_
      refine J_draw [⟨0, [4], true⟩, ⟨1, [8], true⟩, ⟨2, [29, 30], true⟩, ⟨3, [31], true⟩, ⟨4, [32], true⟩, ⟨5, [1], true⟩, ⟨6, [34], true⟩, ⟨7, [0], false⟩, ⟨8, [36], false⟩, ⟨9, [35, 37], true⟩, ⟨10, [38], true⟩, ⟨11, [33, 39], true⟩, ⟨12, [40], true⟩, ⟨14, [8, 41], true⟩, ⟨13, [0, 41], false⟩, ⟨15, [41, 42, 43], false⟩, ⟨16, [41, 44], true⟩] rfl (by kernel_rfl) ?_
      refine JM_step rfl rfl rfl rfl (fun _ => step_load_ptr ty23 Sub.rfl) ?_
      refine JM_step rfl rfl rfl rfl (fun _ => step_move Sub.rfl) ?_
      refine JM_step rfl rfl rfl rfl (fun _ => step_indexAddr_sl (i := (nth cands i).toNat) Tryz.underlying23 ty54 Sub.rfl Sub.rfl ?sg1 (gb ?sg2)) ?_
      case sg1 => show nth cands i = _; omega
      case sg2 => omega
      refine JM_step rfl rfl rfl rfl (fun _ => step_fieldAddr so54 Sub.rfl rfl) ?_
      refine JM_step rfl rfl rfl rfl (fun _ => step_load_ptr ty3 Sub.rfl) ?_
      refine JM_step rfl rfl rfl rfl (fun _ => step_fieldAddr so32 Sub.rfl rfl) ?_
      refine JM_step rfl rfl rfl rfl (fun _ => step_load_ptr ty24 Sub.rfl) ?_
      refine JM_look rfl rfl rfl rfl (step_load_box ty24V Sub.rfl (by first | exact Sel.take (Sel.none _) | exact Sel.skip (Sel.take (Sel.none _)) | exact Sel.skip (Sel.skip (Sel.take (Sel.none _))) | exact Sel.skip (Sel.skip (Sel.skip (Sel.take (Sel.none _)))) | exact Sel.skip (Sel.skip (Sel.skip (Sel.skip (Sel.take (Sel.none _))))))) ?_
      refine JM_look rfl rfl rfl rfl (step_len_own Tryz.underlying24 Sub.rfl (by first | exact Sel.take (Sel.none _) | exact Sel.skip (Sel.take (Sel.none _)) | exact Sel.skip (Sel.skip (Sel.take (Sel.none _))) | exact Sel.skip (Sel.skip (Sel.skip (Sel.take (Sel.none _)))) | exact Sel.skip (Sel.skip (Sel.skip (Sel.skip (Sel.take (Sel.none _))))))) ?_
      refine JM_step rfl rfl rfl rfl (fun _ => step_indexAddr_sl  Tryz.underlying24 ty3 Sub.rfl Sub.rfl rfl (gb ?sg1)) ?_
      case sg1 => show at_.length < d.Tables.length; omega
      refine JM_step rfl rfl rfl rfl (fun _ => step_load_ptr ty3 Sub.rfl) ?_
      refine JM_step rfl rfl rfl rfl (fun _ => step_neq Sub.rfl Sub.rfl) ?_
      refine JM_step rfl rfl rfl rfl (fun _ => step_move Sub.rfl) ?_
      refine JM_stepG rfl rfl rfl rfl (Gd.plain Sub.rfl) rfl rfl (fun hw _ => step_move Sub.rfl) ?_
      refine JM_lookG rfl rfl rfl rfl (Gd.plain Sub.rfl) rfl rfl (fun hw => step_load_box ty24V Sub.rfl (by first | exact Sel.take (Sel.none _) | exact Sel.skip (Sel.take (Sel.none _)) | exact Sel.skip (Sel.skip (Sel.take (Sel.none _))) | exact Sel.skip (Sel.skip (Sel.skip (Sel.take (Sel.none _)))) | exact Sel.skip (Sel.skip (Sel.skip (Sel.skip (Sel.take (Sel.none _))))))) ?_
      refine JM_lookG rfl rfl rfl rfl (Gd.plain Sub.rfl) rfl rfl (fun hw => step_call_look (by first | exact Sel.take (Sel.none _) | exact Sel.skip (Sel.take (Sel.none _)) | exact Sel.skip (Sel.skip (Sel.take (Sel.none _))) | exact Sel.skip (Sel.skip (Sel.skip (Sel.take (Sel.none _)))) | exact Sel.skip (Sel.skip (Sel.skip (Sel.skip (Sel.take (Sel.none _)))))) (Contains__spec _ _ (by omega)) (fun _ => Flat.v _) ⟨(Frz.w hw Frz.own), (Frz.sub (Sub.w hw)), trivial⟩ Tryz.call80) ?_
      refine JM_step rfl rfl rfl rfl (fun _ => step_pick_or Sub.rfl Sub.rfl) ?_
      refine JM_nil ?_
      refine J_cond Sub.rfl (fun h45 => ?_) (fun h45 => ?_)
      · try simp only [decide_eq_true_eq, decide_eq_false_iff_not, Bool.and_eq_true, Bool.or_eq_true, Bool.and_eq_false_iff, Bool.or_eq_false_iff, Bool.not_eq_true', Bool.not_eq_false', Int.not_lt, Int.not_le, Bool.not_true, Bool.not_false] at h45
        have hcd : cand d facts at_ (nth cands i) = false := by simp only [cand]; rcases h45 with h | h <;> simp_all
        refine J_exit ?_
        refine J_region ?_
        refine JL_step rfl rfl rfl (step_add Sub.rfl Sub.rfl ?sg1) ?_
        case sg1 => unfold in64; omega
        refine JL_step rfl rfl rfl (step_move Sub.rfl) ?_
        refine JL_nil ?_
        refine K_againL (σ := Nat × Value) (s := (i, u)) (i + 1, u) (by first | omega | (dsimp only; omega) | (simp_all; omega)) (by simp; omega) (SubE.upd Sub.rfl (SubE.upd Sub.rfl (SubE.upd Sub.rfl (SubE.upd Sub.rfl (SubE.upd Sub.rfl (SubE.upd Sub.rfl (SubE.upd Sub.rfl SubE.any))))))) (LSub.cons (by first | exact Sel.take (Sel.none _) | exact Sel.skip (Sel.take (Sel.none _)) | exact Sel.skip (Sel.skip (Sel.take (Sel.none _))) | exact Sel.skip (Sel.skip (Sel.skip (Sel.take (Sel.none _)))) | exact Sel.skip (Sel.skip (Sel.skip (Sel.skip (Sel.take (Sel.none _)))))) (SPs.rfl) (LSub.cons (by first | exact Sel.take (Sel.none _) | exact Sel.skip (Sel.take (Sel.none _)) | exact Sel.skip (Sel.skip (Sel.take (Sel.none _))) | exact Sel.skip (Sel.skip (Sel.skip (Sel.take (Sel.none _)))) | exact Sel.skip (Sel.skip (Sel.skip (Sel.skip (Sel.take (Sel.none _)))))) (SPs.rfl) (LSub.cons (by first | exact Sel.take (Sel.none _) | exact Sel.skip (Sel.take (Sel.none _)) | exact Sel.skip (Sel.skip (Sel.take (Sel.none _))) | exact Sel.skip (Sel.skip (Sel.skip (Sel.take (Sel.none _)))) | exact Sel.skip (Sel.skip (Sel.skip (Sel.skip (Sel.take (Sel.none _)))))) (SPs.of (by rw [asgN_succ hlt, hcd]; simp)) LSub.nil)))
      · try simp only [decide_eq_true_eq, decide_eq_false_iff_not, Bool.and_eq_true, Bool.or_eq_true, Bool.and_eq_false_iff, Bool.or_eq_false_iff, Bool.not_eq_true', Bool.not_eq_false', Int.not_lt, Int.not_le, Bool.not_true, Bool.not_false] at h45
        have hat2 : InB (at_ ++ [nth cands i]) facts.length := InB_snoc hat hc0 hc1
        refine J_skip ?_
        refine J_seq ?_
        refine J_region ?_
        refine JL_step rfl rfl rfl (step_load_box ty24V Sub.rfl (by first | exact Sel.take (Sel.none _) | exact Sel.skip (Sel.take (Sel.none _)) | exact Sel.skip (Sel.skip (Sel.take (Sel.none _))) | exact Sel.skip (Sel.skip (Sel.skip (Sel.take (Sel.none _)))) | exact Sel.skip (Sel.skip (Sel.skip (Sel.skip (Sel.take (Sel.none _))))))) ?_
        refine JL_step rfl rfl rfl (step_move Sub.rfl) ?_
        refine JL_step rfl rfl rfl (step_literal (ys := [_]) Tryz.underlying24 el3 ⟨rfl, Sub.rfl, trivial⟩ rfl (by decide)) ?_
        refine JL_stepX rfl rfl rfl (step_append Tryz.underlying24 el3 Sub.rfl Sub.rfl (by first | exact Sel.take (Sel.none _) | exact Sel.skip (Sel.take (Sel.none _)) | exact Sel.skip (Sel.skip (Sel.take (Sel.none _))) | exact Sel.skip (Sel.skip (Sel.skip (Sel.take (Sel.none _)))) | exact Sel.skip (Sel.skip (Sel.skip (Sel.skip (Sel.take (Sel.none _)))))) (by simp; omega) (by simp; omega)) fun u2 => ?_
        refine JL_stepU rfl rfl (step_store_box (R := rV) ty24V Sub.rfl Sub.rfl (by first | exact Sel.take (Sel.none _) | exact Sel.skip (Sel.take (Sel.none _)) | exact Sel.skip (Sel.skip (Sel.take (Sel.none _))) | exact Sel.skip (Sel.skip (Sel.skip (Sel.take (Sel.none _)))) | exact Sel.skip (Sel.skip (Sel.skip (Sel.skip (Sel.take (Sel.none _))))))) fun _ => ?_
        refine JL_nil ?_
        refine J_seq ?_
        refine J_region ?_
        refine JL_step rfl rfl rfl (step_assign Sub.rfl) ?_
        refine JL_nil ?_
        refine J_seq ?_
        refine J_seq ?_
        refine J_region ?_
        refine JL_step rfl rfl rfl (step_fieldAddr so32 Sub.rfl rfl) ?_
        refine JL_step rfl rfl rfl (step_load_ptr ty30 Sub.rfl) ?_
        refine JL_step rfl rfl rfl (step_len_sl Tryz.underlying30 Sub.rfl) ?_
        refine JL_step rfl rfl rfl (step_move Sub.rfl) ?_
        refine JL_nil ?_
        refine J_block ?_
        refine J_loopL (σ := Nat) (fun j => j ≤ d.Tests.length) (fun j => upd (upd (upd (upd (upd (upd (upd (upd (upd (upd (upd (upd (upd (upd (upd (upd env0 0 (tAt bat 0)) 1 (tPtr rRule d)) 4 (tPtr (rSl rFact) facts)) 5 (tPut 77 (putAs bat d facts cands tot M Mx))) 8 (tV (.int .i64 (nth cands i)))) 9 (tV (.bool ((d.Tests.take j).all fun t => holdsV t d.Tables.length facts (at_ ++ [nth cands i]))))) 23 (tSl rInt cands)) 24 (tV (.int .i64 cands.length))) 25 (tV (.int .i64 i))) 28 (tV (.int .i64 (nth cands i)))) 30 (tV (.int .i64 (nth cands i)))) 47 (tV (.int .i64 (nth cands i)))) 49 (rV.ty u2)) 51 (tSl rTest d.Tests)) 52 (tV (.int .i64 d.Tests.length))) 53 (tV (.int .i64 j))) (fun j => [box bat 24 rV u2, own 3 rInt u2 (at_ ++ [nth cands i]), M (pre ++ asgN d facts cands n at_ (cands.take i))]) (fun j => d.Tests.length - j) 0 (by omega) (SubE.upd Sub.rfl (SubE.upd Sub.rfl (SubE.upd Sub.rfl (SubE.upd Sub.rfl (SubE.upd Sub.rfl (SubE.upd Sub.rfl (SubE.upd Sub.rfl (SubE.upd Sub.rfl (SubE.upd Sub.rfl (SubE.upd Sub.rfl (SubE.upd (Sub.bool (by simp)) (SubE.upd Sub.rfl (SubE.upd Sub.rfl (SubE.upd Sub.rfl (SubE.upd Sub.rfl (SubE.upd Sub.rfl SubE.any)))))))))))))))) (LSub.rfl) ?_
        rintro j hj
        refine J_seq ?_
        refine J_region ?_
        refine JL_step rfl rfl rfl (step_lss Sub.rfl Sub.rfl) ?_
        refine JL_nil ?_
        refine J_seq ?_
        refine J_cond Sub.rfl (fun hc4 => ?_) (fun hc4 => ?_)
        · try simp only [decide_eq_true_eq, decide_eq_false_iff_not, Bool.and_eq_true, Bool.or_eq_true, Bool.and_eq_false_iff, Bool.or_eq_false_iff, Bool.not_eq_true', Bool.not_eq_false', Int.not_lt, Int.not_le, Bool.not_true, Bool.not_false] at hc4
          have hltj : j < d.Tests.length := by omega
          refine J_skip ?_
          refine J_seq ?_
          refine J_block ?_
          refine J_seq ?_
          refine J_region ?_
          refine JL_step rfl rfl rfl (step_indexAddr_sl  Tryz.underlying30 ty66 Sub.rfl Sub.rfl rfl (gb ?sg1)) ?_
          case sg1 => first | assumption | omega
          refine JL_step rfl rfl rfl (step_load_ptr ty66 Sub.rfl) ?_
          refine JL_stepX rfl rfl rfl (step_alloc (fun w => Tryz.zeroValue66 w) zr66) fun v11 => ?_
          refine JL_stepU rfl rfl (step_store_box ty66 Sub.rfl Sub.rfl (by first | exact Sel.take (Sel.none _) | exact Sel.skip (Sel.take (Sel.none _)) | exact Sel.skip (Sel.skip (Sel.take (Sel.none _))) | exact Sel.skip (Sel.skip (Sel.skip (Sel.take (Sel.none _)))) | exact Sel.skip (Sel.skip (Sel.skip (Sel.skip (Sel.take (Sel.none _))))))) fun _ => ?_
          refine JL_freeze (t := 11) (Sel.take (Sel.none _)) Frz.box ?_
          refine JL_nil ?_
          refine J_region ?_
          refine JL_step rfl rfl rfl (step_move Sub.rfl) ?_
          refine JL_step rfl rfl rfl (step_move Sub.rfl) ?_
          refine JL_stepG rfl rfl rfl (Gd.plain Sub.rfl) rfl rfl (fun hw => step_load_ptr ty66 Sub.rfl) ?_
          refine JL_stepG rfl rfl rfl (Gd.plain Sub.rfl) rfl rfl (fun hw => step_fieldAddr so32 Sub.rfl rfl) ?_
          refine JL_stepG rfl rfl rfl (Gd.plain Sub.rfl) rfl rfl (fun hw => step_load_ptr ty24 (Sub.w hw)) ?_
          refine JL_stepG rfl rfl rfl (Gd.plain Sub.rfl) rfl rfl (fun hw => step_len_sl Tryz.underlying24 (Sub.w hw)) ?_
          refine JL_stepG rfl rfl rfl (Gd.plain Sub.rfl) rfl rfl (fun hw => step_load_ptr ty23 Sub.rfl) ?_
          refine JL_stepG rfl rfl rfl (Gd.plain Sub.rfl) rfl rfl (fun hw => step_load_box ty24V Sub.rfl (by first | exact Sel.take (Sel.none _) | exact Sel.skip (Sel.take (Sel.none _)) | exact Sel.skip (Sel.skip (Sel.take (Sel.none _))) | exact Sel.skip (Sel.skip (Sel.skip (Sel.take (Sel.none _)))) | exact Sel.skip (Sel.skip (Sel.skip (Sel.skip (Sel.take (Sel.none _))))))) ?_
          refine JL_stepG rfl rfl rfl (Gd.plain Sub.rfl) rfl rfl (fun hw => step_call_look (by first | exact Sel.take (Sel.none _) | exact Sel.skip (Sel.take (Sel.none _)) | exact Sel.skip (Sel.skip (Sel.take (Sel.none _))) | exact Sel.skip (Sel.skip (Sel.skip (Sel.take (Sel.none _)))) | exact Sel.skip (Sel.skip (Sel.skip (Sel.skip (Sel.take (Sel.none _)))))) (holds_spec _ _ _ _ hat2) (fun _ => Flat.v _) ⟨(Frz.sub (Sub.w hw)), (Frz.sub (Sub.w hw)), (Frz.sub (Sub.w hw)), (Frz.w hw Frz.own), trivial⟩ Tryz.call81) ?_
          refine JL_step rfl rfl rfl (step_pick_and Sub.rfl Sub.rfl) ?_
          refine JL_step rfl rfl rfl (step_assign Sub.rfl) ?_
          refine JL_nil ?_
          refine J_region ?_
          refine JL_step rfl rfl rfl (step_add Sub.rfl Sub.rfl ?sg1) ?_
          case sg1 => unfold in64; omega
          refine JL_step rfl rfl rfl (step_move Sub.rfl) ?_
          refine JL_nil ?_
          refine K_againL (σ := Nat) (s := j) (j + 1) (by first | omega | (dsimp only; omega) | (simp_all; omega)) (by omega) (SubE.upd Sub.rfl (SubE.upd Sub.rfl (SubE.upd Sub.rfl (SubE.upd Sub.rfl (SubE.upd Sub.rfl (SubE.upd Sub.rfl (SubE.upd Sub.rfl (SubE.upd Sub.rfl (SubE.upd Sub.rfl (SubE.upd Sub.rfl (SubE.upd (Sub.bool (take_all _ hltj).symm) (SubE.upd Sub.rfl (SubE.upd Sub.rfl (SubE.upd Sub.rfl (SubE.upd Sub.rfl (SubE.upd Sub.rfl SubE.any)))))))))))))))) (LSub.rfl)
        · try simp only [decide_eq_true_eq, decide_eq_false_iff_not, Bool.and_eq_true, Bool.or_eq_true, Bool.and_eq_false_iff, Bool.or_eq_false_iff, Bool.not_eq_true', Bool.not_eq_false', Int.not_lt, Int.not_le, Bool.not_true, Bool.not_false] at hc4
          obtain rfl : j = d.Tests.length := by omega
          have hok2 : ((d.Tests.take d.Tests.length).all fun t => holdsV t d.Tables.length facts (at_ ++ [nth cands i])) = true → (pre ++ asgN d facts cands n at_ (cands.take i)) ++ asg d facts cands n (at_ ++ [nth cands i]) <+: tot := by
            intro hq
            rw [List.take_length] at hq
            have hcd : cand d facts at_ (nth cands i) = true := by simp only [cand, okT, Bool.and_eq_true, decide_eq_true_eq, Bool.not_eq_true']; exact ⟨⟨h45.1, h45.2⟩, hq⟩
            have h1 := asgN_pre (d := d) (facts := facts) (n := n) (at_ := at_) (cands := cands) (i + 1)
            rw [asgN_succ hlt, hcd] at h1
            rw [List.append_assoc]
            exact List.IsPrefix.trans (List.prefix_append_right_inj pre |>.2 (by simpa using h1)) hok
          refine J_exit ?_
          refine J_seq ?_
          refine J_seq ?_
          refine J_region ?_
          refine JL_step rfl rfl rfl (step_move Sub.rfl) ?_
          refine JL_step rfl rfl rfl (step_move Sub.rfl) ?_
          refine JL_stepG rfl rfl rfl (Gd.plain Sub.rfl) rfl rfl (fun hw => step_load_put ty25 Sub.rfl) ?_
          refine JL_stepGX (tV (.bool false)) rfl rfl rfl (Gd.plain Sub.rfl) rfl rfl (fun hw => step_callv (aT := []) (Sub.w hw) (Sel.all _) (IH (at_ ++ [nth cands i]) u2 (pre ++ asgN d facts cands n at_ (cands.take i)) (by simp; omega) hat2 (hok2 (bq_true hw))) trivial Tryz.call77) (fun hw z => ?_) (fun hw => ?_)
          · skip
            obtain ⟨zb, zv, za, zy⟩ := z
            cases zb
            · skip
              refine JL_stepG rfl rfl rfl (Gd.plain Sub.rfl) rfl rfl (fun hw => step_not (Sub.w hw)) ?_
              refine JL_step rfl rfl rfl (step_pick_and Sub.rfl Sub.rfl) ?_
              refine JL_nil ?_
              refine J_cond Sub.rfl (fun h73 => ?_) (fun h73 => ?_)
              · try simp only [decide_eq_true_eq, decide_eq_false_iff_not, Bool.and_eq_true, Bool.or_eq_true, Bool.and_eq_false_iff, Bool.or_eq_false_iff, Bool.not_eq_true', Bool.not_eq_false', Int.not_lt, Int.not_le, Bool.not_true, Bool.not_false] at h73
                refine J_seq ?_
                refine J_region ?_
                refine JL_step rfl rfl rfl (step_assign Sub.rfl) ?_
                refine JL_nil ?_
                refine J_ret ?_
                refine K_lsub (L' := putL bat M Mx at_ (pre ++ asg d facts cands (n + 1) at_) ⟨false, zv, za, zy⟩) ?_ ?_
                · exact LSub.cons (by first | exact Sel.take (Sel.none _) | exact Sel.skip (Sel.take (Sel.none _)) | exact Sel.skip (Sel.skip (Sel.take (Sel.none _))) | exact Sel.skip (Sel.skip (Sel.skip (Sel.take (Sel.none _)))) | exact Sel.skip (Sel.skip (Sel.skip (Sel.skip (Sel.take (Sel.none _)))))) (SPs.rfl) (LSub.cons (by first | exact Sel.take (Sel.none _) | exact Sel.skip (Sel.take (Sel.none _)) | exact Sel.skip (Sel.skip (Sel.take (Sel.none _))) | exact Sel.skip (Sel.skip (Sel.skip (Sel.take (Sel.none _)))) | exact Sel.skip (Sel.skip (Sel.skip (Sel.skip (Sel.take (Sel.none _)))))) (SPs.rfl) (LSub.cons (by first | exact Sel.take (Sel.none _) | exact Sel.skip (Sel.take (Sel.none _)) | exact Sel.skip (Sel.skip (Sel.take (Sel.none _))) | exact Sel.skip (Sel.skip (Sel.skip (Sel.take (Sel.none _)))) | exact Sel.skip (Sel.skip (Sel.skip (Sel.skip (Sel.take (Sel.none _)))))) (SPs.rfl) LSub.nil))
                exact K_ret1 (t := 6) rfl (⟨false, zv, za, zy⟩ : PutX) Sub.rfl
              · try simp only [decide_eq_true_eq, decide_eq_false_iff_not, Bool.and_eq_true, Bool.or_eq_true, Bool.and_eq_false_iff, Bool.or_eq_false_iff, Bool.not_eq_true', Bool.not_eq_false', Int.not_lt, Int.not_le, Bool.not_true, Bool.not_false] at h73
                rw [bq_true hw] at h73; simp at h73
            · skip
              have hcd : cand d facts at_ (nth cands i) = true := by simp only [cand, okT, Bool.and_eq_true, decide_eq_true_eq, Bool.not_eq_true']; exact ⟨⟨h45.1, h45.2⟩, by have := bq_true hw; rwa [List.take_length] at this⟩
              refine JL_stepG rfl rfl rfl (Gd.plain Sub.rfl) rfl rfl (fun hw => step_not (Sub.w hw)) ?_
              refine JL_step rfl rfl rfl (step_pick_and Sub.rfl Sub.rfl) ?_
              refine JL_nil ?_
              refine J_cond Sub.rfl (fun h73 => ?_) (fun h73 => ?_)
              · try simp only [decide_eq_true_eq, decide_eq_false_iff_not, Bool.and_eq_true, Bool.or_eq_true, Bool.and_eq_false_iff, Bool.or_eq_false_iff, Bool.not_eq_true', Bool.not_eq_false', Int.not_lt, Int.not_le, Bool.not_true, Bool.not_false] at h73
                first | exact absurd h73.1 (beqB_no.1 hw) | (exfalso; simp at h73)
              · try simp only [decide_eq_true_eq, decide_eq_false_iff_not, Bool.and_eq_true, Bool.or_eq_true, Bool.and_eq_false_iff, Bool.or_eq_false_iff, Bool.not_eq_true', Bool.not_eq_false', Int.not_lt, Int.not_le, Bool.not_true, Bool.not_false] at h73
                refine J_skip ?_
                refine J_region ?_
                refine JL_step rfl rfl rfl (step_load_box ty24V Sub.rfl (by first | exact Sel.take (Sel.none _) | exact Sel.skip (Sel.take (Sel.none _)) | exact Sel.skip (Sel.skip (Sel.take (Sel.none _))) | exact Sel.skip (Sel.skip (Sel.skip (Sel.take (Sel.none _)))) | exact Sel.skip (Sel.skip (Sel.skip (Sel.skip (Sel.take (Sel.none _))))))) ?_
                refine JL_step rfl rfl rfl (step_load_box ty24V Sub.rfl (by first | exact Sel.take (Sel.none _) | exact Sel.skip (Sel.take (Sel.none _)) | exact Sel.skip (Sel.skip (Sel.take (Sel.none _))) | exact Sel.skip (Sel.skip (Sel.skip (Sel.take (Sel.none _)))) | exact Sel.skip (Sel.skip (Sel.skip (Sel.skip (Sel.take (Sel.none _))))))) ?_
                refine JL_step rfl rfl rfl (step_len_own Tryz.underlying24 Sub.rfl (by first | exact Sel.take (Sel.none _) | exact Sel.skip (Sel.take (Sel.none _)) | exact Sel.skip (Sel.skip (Sel.take (Sel.none _))) | exact Sel.skip (Sel.skip (Sel.skip (Sel.take (Sel.none _)))) | exact Sel.skip (Sel.skip (Sel.skip (Sel.skip (Sel.take (Sel.none _))))))) ?_
                refine JL_step rfl rfl rfl (step_sub Sub.rfl Sub.rfl (by unfold in64; simp; omega)) ?_
                refine JL_stepX rfl rfl rfl (step_slice_own (n := at_.length) Tryz.underlying24 ty3 Sub.rfl Sub.rfl ?sg1 (by first | exact Sel.take (Sel.none _) | exact Sel.skip (Sel.take (Sel.none _)) | exact Sel.skip (Sel.skip (Sel.take (Sel.none _))) | exact Sel.skip (Sel.skip (Sel.skip (Sel.take (Sel.none _)))) | exact Sel.skip (Sel.skip (Sel.skip (Sel.skip (Sel.take (Sel.none _)))))) ?sg2) fun u3 => ?_
                case sg1 => simp
                case sg2 => simp
                refine JL_stepU rfl rfl (step_store_box (R := rV) ty24V Sub.rfl Sub.rfl (by first | exact Sel.take (Sel.none _) | exact Sel.skip (Sel.take (Sel.none _)) | exact Sel.skip (Sel.skip (Sel.take (Sel.none _))) | exact Sel.skip (Sel.skip (Sel.skip (Sel.take (Sel.none _)))) | exact Sel.skip (Sel.skip (Sel.skip (Sel.skip (Sel.take (Sel.none _))))))) fun _ => ?_
                refine JL_nil ?_
                refine J_region ?_
                refine JL_step rfl rfl rfl (step_add Sub.rfl Sub.rfl ?sg1) ?_
                case sg1 => unfold in64; omega
                refine JL_step rfl rfl rfl (step_move Sub.rfl) ?_
                refine JL_nil ?_
                refine K_againL (σ := Nat × Value) (s := (i, u)) (i + 1, u3) (by first | omega | (dsimp only; omega) | (simp_all; omega)) (by simp; omega) (SubE.upd Sub.rfl (SubE.upd Sub.rfl (SubE.upd Sub.rfl (SubE.upd Sub.rfl (SubE.upd Sub.rfl (SubE.upd Sub.rfl (SubE.upd Sub.rfl SubE.any))))))) (LSub.cons (by first | exact Sel.take (Sel.none _) | exact Sel.skip (Sel.take (Sel.none _)) | exact Sel.skip (Sel.skip (Sel.take (Sel.none _))) | exact Sel.skip (Sel.skip (Sel.skip (Sel.take (Sel.none _)))) | exact Sel.skip (Sel.skip (Sel.skip (Sel.skip (Sel.take (Sel.none _)))))) (SPs.rfl) (LSub.cons (by first | exact Sel.take (Sel.none _) | exact Sel.skip (Sel.take (Sel.none _)) | exact Sel.skip (Sel.skip (Sel.take (Sel.none _))) | exact Sel.skip (Sel.skip (Sel.skip (Sel.take (Sel.none _)))) | exact Sel.skip (Sel.skip (Sel.skip (Sel.skip (Sel.take (Sel.none _)))))) (own_eq (by simp)) (LSub.cons (by first | exact Sel.take (Sel.none _) | exact Sel.skip (Sel.take (Sel.none _)) | exact Sel.skip (Sel.skip (Sel.take (Sel.none _))) | exact Sel.skip (Sel.skip (Sel.skip (Sel.take (Sel.none _)))) | exact Sel.skip (Sel.skip (Sel.skip (Sel.skip (Sel.take (Sel.none _)))))) (SPs.of (by rw [asgN_succ hlt, hcd]; simp)) LSub.nil)))
          · skip
            have hcd : cand d facts at_ (nth cands i) = false := by have hq := beqB_no.1 hw; rw [List.take_length] at hq; simp only [cand, okT]; simp_all
            refine JL_stepG rfl rfl rfl (Gd.plain Sub.rfl) rfl rfl (fun hw => step_not (Sub.w hw)) ?_
            refine JL_step rfl rfl rfl (step_pick_and Sub.rfl Sub.rfl) ?_
            refine JL_nil ?_
            refine J_cond Sub.rfl (fun h73 => ?_) (fun h73 => ?_)
            · try simp only [decide_eq_true_eq, decide_eq_false_iff_not, Bool.and_eq_true, Bool.or_eq_true, Bool.and_eq_false_iff, Bool.or_eq_false_iff, Bool.not_eq_true', Bool.not_eq_false', Int.not_lt, Int.not_le, Bool.not_true, Bool.not_false] at h73
              first | exact absurd h73.1 (beqB_no.1 hw) | (exfalso; simp at h73)
            · try simp only [decide_eq_true_eq, decide_eq_false_iff_not, Bool.and_eq_true, Bool.or_eq_true, Bool.and_eq_false_iff, Bool.or_eq_false_iff, Bool.not_eq_true', Bool.not_eq_false', Int.not_lt, Int.not_le, Bool.not_true, Bool.not_false] at h73
              refine J_skip ?_
              refine J_region ?_
              refine JL_step rfl rfl rfl (step_load_box ty24V Sub.rfl (by first | exact Sel.take (Sel.none _) | exact Sel.skip (Sel.take (Sel.none _)) | exact Sel.skip (Sel.skip (Sel.take (Sel.none _))) | exact Sel.skip (Sel.skip (Sel.skip (Sel.take (Sel.none _)))) | exact Sel.skip (Sel.skip (Sel.skip (Sel.skip (Sel.take (Sel.none _))))))) ?_
              refine JL_step rfl rfl rfl (step_load_box ty24V Sub.rfl (by first | exact Sel.take (Sel.none _) | exact Sel.skip (Sel.take (Sel.none _)) | exact Sel.skip (Sel.skip (Sel.take (Sel.none _))) | exact Sel.skip (Sel.skip (Sel.skip (Sel.take (Sel.none _)))) | exact Sel.skip (Sel.skip (Sel.skip (Sel.skip (Sel.take (Sel.none _))))))) ?_
              refine JL_step rfl rfl rfl (step_len_own Tryz.underlying24 Sub.rfl (by first | exact Sel.take (Sel.none _) | exact Sel.skip (Sel.take (Sel.none _)) | exact Sel.skip (Sel.skip (Sel.take (Sel.none _))) | exact Sel.skip (Sel.skip (Sel.skip (Sel.take (Sel.none _)))) | exact Sel.skip (Sel.skip (Sel.skip (Sel.skip (Sel.take (Sel.none _))))))) ?_
              refine JL_step rfl rfl rfl (step_sub Sub.rfl Sub.rfl (by unfold in64; simp; omega)) ?_
              refine JL_stepX rfl rfl rfl (step_slice_own (n := at_.length) Tryz.underlying24 ty3 Sub.rfl Sub.rfl ?sg1 (by first | exact Sel.take (Sel.none _) | exact Sel.skip (Sel.take (Sel.none _)) | exact Sel.skip (Sel.skip (Sel.take (Sel.none _))) | exact Sel.skip (Sel.skip (Sel.skip (Sel.take (Sel.none _)))) | exact Sel.skip (Sel.skip (Sel.skip (Sel.skip (Sel.take (Sel.none _)))))) ?sg2) fun u3 => ?_
              case sg1 => simp
              case sg2 => simp
              refine JL_stepU rfl rfl (step_store_box (R := rV) ty24V Sub.rfl Sub.rfl (by first | exact Sel.take (Sel.none _) | exact Sel.skip (Sel.take (Sel.none _)) | exact Sel.skip (Sel.skip (Sel.take (Sel.none _))) | exact Sel.skip (Sel.skip (Sel.skip (Sel.take (Sel.none _)))) | exact Sel.skip (Sel.skip (Sel.skip (Sel.skip (Sel.take (Sel.none _))))))) fun _ => ?_
              refine JL_nil ?_
              refine J_region ?_
              refine JL_step rfl rfl rfl (step_add Sub.rfl Sub.rfl ?sg1) ?_
              case sg1 => unfold in64; omega
              refine JL_step rfl rfl rfl (step_move Sub.rfl) ?_
              refine JL_nil ?_
              refine K_againL (σ := Nat × Value) (s := (i, u)) (i + 1, u3) (by first | omega | (dsimp only; omega) | (simp_all; omega)) (by simp; omega) (SubE.upd Sub.rfl (SubE.upd Sub.rfl (SubE.upd Sub.rfl (SubE.upd Sub.rfl (SubE.upd Sub.rfl (SubE.upd Sub.rfl (SubE.upd Sub.rfl SubE.any))))))) (LSub.cons (by first | exact Sel.take (Sel.none _) | exact Sel.skip (Sel.take (Sel.none _)) | exact Sel.skip (Sel.skip (Sel.take (Sel.none _))) | exact Sel.skip (Sel.skip (Sel.skip (Sel.take (Sel.none _)))) | exact Sel.skip (Sel.skip (Sel.skip (Sel.skip (Sel.take (Sel.none _)))))) (SPs.rfl) (LSub.cons (by first | exact Sel.take (Sel.none _) | exact Sel.skip (Sel.take (Sel.none _)) | exact Sel.skip (Sel.skip (Sel.take (Sel.none _))) | exact Sel.skip (Sel.skip (Sel.skip (Sel.take (Sel.none _)))) | exact Sel.skip (Sel.skip (Sel.skip (Sel.skip (Sel.take (Sel.none _)))))) (own_eq (by simp)) (LSub.cons (by first | exact Sel.take (Sel.none _) | exact Sel.skip (Sel.take (Sel.none _)) | exact Sel.skip (Sel.skip (Sel.take (Sel.none _))) | exact Sel.skip (Sel.skip (Sel.skip (Sel.take (Sel.none _)))) | exact Sel.skip (Sel.skip (Sel.skip (Sel.skip (Sel.take (Sel.none _)))))) (SPs.of (by rw [asgN_succ hlt, hcd]; simp)) LSub.nil)))
    · try simp only [decide_eq_true_eq, decide_eq_false_iff_not, Bool.and_eq_true, Bool.or_eq_true, Bool.and_eq_false_iff, Bool.or_eq_false_iff, Bool.not_eq_true', Bool.not_eq_false', Int.not_lt, Int.not_le, Bool.not_true, Bool.not_false] at hc2
      refine J_exit ?_
      refine J_seq ?_
      refine J_region ?_
      refine JL_step rfl rfl rfl (step_assign Sub.rfl) ?_
      refine JL_nil ?_
      refine J_ret ?_
      refine K_lsub (L' := putL bat M Mx at_ (pre ++ asg d facts cands (n + 1) at_) ⟨true, u, at_, []⟩) ?_ ?_
      · exact LSub.cons (by first | exact Sel.take (Sel.none _) | exact Sel.skip (Sel.take (Sel.none _)) | exact Sel.skip (Sel.skip (Sel.take (Sel.none _))) | exact Sel.skip (Sel.skip (Sel.skip (Sel.take (Sel.none _)))) | exact Sel.skip (Sel.skip (Sel.skip (Sel.skip (Sel.take (Sel.none _)))))) (SPs.rfl) (LSub.cons (by first | exact Sel.take (Sel.none _) | exact Sel.skip (Sel.take (Sel.none _)) | exact Sel.skip (Sel.skip (Sel.take (Sel.none _))) | exact Sel.skip (Sel.skip (Sel.skip (Sel.take (Sel.none _)))) | exact Sel.skip (Sel.skip (Sel.skip (Sel.skip (Sel.take (Sel.none _)))))) (SPs.rfl) (LSub.cons (by first | exact Sel.take (Sel.none _) | exact Sel.skip (Sel.take (Sel.none _)) | exact Sel.skip (Sel.skip (Sel.take (Sel.none _))) | exact Sel.skip (Sel.skip (Sel.skip (Sel.take (Sel.none _)))) | exact Sel.skip (Sel.skip (Sel.skip (Sel.skip (Sel.take (Sel.none _)))))) (SPs.of (by obtain rfl : i = cands.length := (by omega); rw [List.take_length]; rfl)) LSub.nil))
      exact K_ret1 (t := 6) rfl (⟨true, u, at_, []⟩ : PutX) Sub.rfl
end Lg

namespace Lg
open Go Go.Proofs


theorem put_spec (bat : Nat) (d : GRule) (facts : List GFact) (cands : List Int) (tot : List (List Int)) (M Mx : List (List Int) → SP) (hc : InB cands facts.length) (hcl : cands.length ≤ 1000000) (hfl : facts.length ≤ 1000000) (htl : d.Tables.length ≤ 1000) (hte : d.Tests.length ≤ 4000000) (n : Nat) :
    ∀ (at_ : List Int) (v : Value) (pre : List (List Int)), at_.length + n = d.Tables.length → InB at_ facts.length → pre ++ asg d facts cands n at_ <+: tot → PutSpec bat d facts cands tot M Mx n at_ v pre := by
  induction n with
  | zero => exact fun at_ v pre h1 h2 h3 => put0_spec bat d facts cands tot M Mx hc hcl hfl htl hte 0 at_ v pre h1 h2 h3
  | succ n ih => exact fun at_ v pre h1 h2 h3 => putS_spec bat d facts cands tot M Mx hc hcl hfl htl hte n ih at_ v pre h1 h2 h3
abbrev asgs (d : GRule) (facts : List GFact) (cands : List Int) : List (List Int) := asg d facts cands d.Tables.length []

theorem assignments1_spec (d : GRule) (facts : List GFact) (cands : List Int) (hc : InB cands facts.length) (hcl : cands.length ≤ 1000000) (hfl : facts.length ≤ 1000000) (htl : d.Tables.length ≤ 1000) (hte : d.Tests.length ≤ 4000000) : ItSpec Tryz.prog 76 [tPtr rRule d, tPtr (rSl rInt) cands, tPtr (rSl rFact) facts] [] (tI2) (okP (asgs d facts cands)) (fun p => p = (asgs d facts cands)) := by
  intro M Mx
  refine Spec.enter Tryz.func76 rfl rfl fun h0 w0 fr0 => ?_
  refine J_seq ?_
  refine J_region ?_
  refine JL_step rfl rfl rfl (step_box (R := rY Tryz.prog tI2 (okP (asgs d facts cands)) M Mx) (y := ()) Sub.rfl) ?_
  refine JL_nil ?_
  refine J_seq ?_
  refine J_region ?_
  refine JL_stepX rfl rfl rfl (step_alloc (R := rV) (z := Value.slice none 0 0) (fun w => Tryz.zeroValue24 w) (fun _ => ⟨rfl, rfl⟩)) fun bat => ?_
  refine JL_nil ?_
  refine K_lsub (LSub.nilown (e := 3) (R := rInt)) ?_
  refine J_seq ?_
  refine J_region ?_
  refine JL_stepX rfl rfl rfl (step_alloc (R := rV) (z := .nilFunc) (fun w => Tryz.zeroValue25 w) (fun _ => ⟨rfl, rfl⟩)) fun bp => ?_
  refine JL_nil ?_
  refine J_seq ?_
  refine J_region ?_
  refine JL_step rfl rfl rfl (step_makeFunc (As := [_, _, _, _, _, _]) ⟨Sub.rfl, Sub.rfl, Sub.rfl, Sub.rfl, Sub.rfl, Sub.rfl, trivial⟩) ?_
  refine JL_stepU rfl rfl (step_store_boxR (R := rV) (R' := rC 77 (putAs bat d facts cands (asgs d facts cands) M Mx ++ [tAt bp 0])) (z := ()) ty25C rfl Sub.rfl Sub.rfl (by first | exact Sel.take (Sel.none _) | exact Sel.skip (Sel.take (Sel.none _)) | exact Sel.skip (Sel.skip (Sel.take (Sel.none _))) | exact Sel.skip (Sel.skip (Sel.skip (Sel.take (Sel.none _)))) | exact Sel.skip (Sel.skip (Sel.skip (Sel.skip (Sel.take (Sel.none _))))))) fun _ => ?_
  refine JL_nil ?_
  refine K_freeze (t := 6) (Sel.take (Sel.none _)) Frz.put ?_
  refine K_lsub (L' := [box bat 24 rV (.slice none 0 0), own 3 rInt (.slice none 0 0) [], M []]) (LSub.cons (by first | exact Sel.take (Sel.none _) | exact Sel.skip (Sel.take (Sel.none _)) | exact Sel.skip (Sel.skip (Sel.take (Sel.none _))) | exact Sel.skip (Sel.skip (Sel.skip (Sel.take (Sel.none _)))) | exact Sel.skip (Sel.skip (Sel.skip (Sel.skip (Sel.take (Sel.none _)))))) SPs.rfl (LSub.cons (by first | exact Sel.take (Sel.none _) | exact Sel.skip (Sel.take (Sel.none _)) | exact Sel.skip (Sel.skip (Sel.take (Sel.none _))) | exact Sel.skip (Sel.skip (Sel.skip (Sel.take (Sel.none _)))) | exact Sel.skip (Sel.skip (Sel.skip (Sel.skip (Sel.take (Sel.none _)))))) SPs.rfl (LSub.cons (by first | exact Sel.take (Sel.none _) | exact Sel.skip (Sel.take (Sel.none _)) | exact Sel.skip (Sel.skip (Sel.take (Sel.none _))) | exact Sel.skip (Sel.skip (Sel.skip (Sel.take (Sel.none _)))) | exact Sel.skip (Sel.skip (Sel.skip (Sel.skip (Sel.take (Sel.none _)))))) SPs.rfl LSub.nil))) ?_
  refine J_region ?_
  refine JL_step rfl rfl rfl (step_load_put ty25 Sub.rfl) ?_
  refine JL_stepX rfl rfl rfl (step_callv (aT := []) Sub.rfl (Sel.all _) (put_spec bat d facts cands (asgs d facts cands) M Mx hc hcl hfl htl hte d.Tables.length [] (.slice none 0 0) [] (by simp) (fun a h => (by cases h)) (by exact List.prefix_refl _)) trivial Tryz.call77) fun z => ?_
  refine JL_nil ?_
  obtain ⟨zb, zv, za, zy⟩ := z
  cases zb
  · refine K_drop (Sel.take (Sel.take (Sel.none _))) ?_
    refine K_endRet (K_itStop (Fin := fun p => p = (asgs d facts cands)) (M := M) (Mx := Mx) (A := []) ?_ zy ?_)
    · rfl
    · exact LSub.of rfl
  · refine K_drop (Sel.take (Sel.take (Sel.none _))) ?_
    refine K_endRet (K_itDone (Fin := fun p => p = (asgs d facts cands)) (M := M) (Mx := Mx) (A := []) ?_ (asgs d facts cands) rfl ?_)
    · rfl
    · exact LSub.of rfl
theorem assignments_spec (d : GRule) (facts : List GFact) (cands : List Int) : Fun1 Tryz.prog 60 [rRule.ty d, tSl rFact facts, tSl rInt cands] (tClo 76 [tPtr rRule d, tPtr (rSl rInt) cands, tPtr (rSl rFact) facts]) := by
  refine Spec.enter Tryz.func60 rfl rfl fun h0 w0 fr0 => ?_
  refine J_seq ?_
  refine J_region ?_
  refine JL_step rfl rfl rfl (step_box (R := rRule) Sub.rfl) ?_
  refine JL_step rfl rfl rfl (step_box (R := (rSl rFact)) Sub.rfl) ?_
  refine JL_step rfl rfl rfl (step_box (R := (rSl rInt)) Sub.rfl) ?_
  refine JL_step rfl rfl rfl (step_assign Sub.rfl) ?_
  refine JL_nil ?_
  refine J_seq ?_
  refine J_region ?_
  refine JL_step rfl rfl rfl (step_makeFunc (As := [_, _, _]) ⟨Sub.rfl, Sub.rfl, Sub.rfl, trivial⟩) ?_
  refine JL_step rfl rfl rfl (step_assign Sub.rfl) ?_
  refine JL_nil ?_
  refine J_ret ?_
  exact K_ret1 (t := 6) rfl () Sub.rfl
end Lg

namespace Lg
open Go Go.Proofs


def exP (facts : List GFact) (b c : Int) : Bool := !decide ((nth facts c.toNat).Variant = -1) || !decide ((nth facts b.toNat).Variant = -1)
def ent (facts : List GFact) (c : Int) : Int := (nth facts c.toNat).Entity
/-- The pairs that c makes with earlier ones l of its entity. -/
def exRow (facts : List GFact) (c : Int) (l : List Int) : List (List Int) := (l.filter fun b => exP facts b c).map fun b => [b, c]
def exOf (facts : List GFact) (done : List Int) (c : Int) : List Int := done.filter fun b => decide (ent facts b = ent facts c)
def excl (facts : List GFact) : List Int → List Int → List (List Int)
  | _, [] => []
  | done, c :: cs => exRow facts c (exOf facts done c) ++ excl facts (done ++ [c]) cs
theorem excl_snoc (facts : List GFact) (l : List Int) (c : Int) : ∀ done, excl facts done (l ++ [c]) = excl facts done l ++ exRow facts c (exOf facts (done ++ l) c) := by
  induction l with
  | nil => intro done; simp [excl]
  | cons a l ih => intro done; simp only [List.cons_append, excl, ih, List.append_assoc]; simp
theorem excl_succ {facts : List GFact} {cands : List Int} {i : Nat} (h : i < cands.length) : excl facts [] (cands.take (i + 1)) = excl facts [] (cands.take i) ++ exRow facts (nth cands i) (exOf facts (cands.take i) (nth cands i)) := by
  rw [takeB h, excl_snoc]; simp
theorem excl_app (facts : List GFact) (l l2 : List Int) : ∀ done, excl facts done (l ++ l2) = excl facts done l ++ excl facts (done ++ l) l2 := by
  induction l with
  | nil => intro done; simp [excl]
  | cons a l ih => intro done; simp only [List.cons_append, excl, ih, List.append_assoc]; simp
theorem excl_pre (facts : List GFact) (cands : List Int) (i : Nat) : excl facts [] (cands.take i) <+: excl facts [] cands := by
  have := excl_app facts (cands.take i) (cands.drop i) []
  rw [List.take_append_drop] at this
  rw [this]; exact List.prefix_append _ _
theorem exRow_succ {facts : List GFact} {c : Int} {l : List Int} {j : Nat} (h : j < l.length) : exRow facts c (l.take (j + 1)) = exRow facts c (l.take j) ++ (if exP facts (nth l j) c then [[nth l j, c]] else []) := by
  rw [takeB h]
  simp only [exRow, List.filter_append, List.map_append]
  congr 1
  by_cases hp : exP facts (nth l j) c = true
  · simp [hp]
  · simp [hp]
theorem exRow_pre (facts : List GFact) (c : Int) (l : List Int) (j : Nat) : exRow facts c (l.take j) <+: exRow facts c l := by
  have : exRow facts c l = exRow facts c (l.take j) ++ exRow facts c (l.drop j) := by
    simp only [exRow]; rw [← List.map_append, ← List.filter_append, List.take_append_drop]
  rw [this]; exact List.prefix_append _ _
def entOk (facts : List GFact) (m : Ent) (done : List Int) : Prop := ∀ e, (entAt m e).2 = done.filter fun b => decide (ent facts b = e)
theorem entOk_put {facts : List GFact} {m : Ent} {done : List Int} (h : entOk facts m done) (c : Int) (u : Value) : entOk facts (mput m (ent facts c) (u, (entAt m (ent facts c)).2 ++ [c])) (done ++ [c]) := fun e => by
  unfold entAt
  rw [mget_mput, List.filter_append]
  by_cases he : e = ent facts c
  · subst he
    have h1 := h (ent facts c)
    unfold entAt at h1
    simp [h1]
  · have := h e
    unfold entAt at this
    rw [if_neg he, this]
    simp [Ne.symm he]

theorem exclusions1_spec (facts : List GFact) (cands : List Int) (hc : InB cands facts.length) (hcl : cands.length ≤ 1000000) (hfl : facts.length ≤ 1000000) : ItSpec Tryz.prog 75 [tPtr (rSl rInt) cands, tPtr (rSl rFact) facts] [] (tI2) (okP (excl facts [] cands)) (fun p => p = (excl facts [] cands)) := by
  intro M Mx
  refine Spec.enter Tryz.func75 rfl rfl fun h0 w0 fr0 => ?_
  refine J_seq ?_
  refine J_region ?_
  refine JL_stepX rfl rfl rfl (step_makeMap (kv := kvI) (R := rV)) fun v10 => ?_
  refine JL_step rfl rfl rfl (step_assign Sub.rfl) ?_
  refine JL_nil ?_
  refine J_seq ?_
  refine J_region ?_
  refine JL_step rfl rfl rfl (step_load_ptr ty24 Sub.rfl) ?_
  refine JL_step rfl rfl rfl (step_len_sl Tryz.underlying24 Sub.rfl) ?_
  refine JL_step rfl rfl rfl (step_move Sub.rfl) ?_
  refine JL_nil ?_
  refine J_block ?_
  refine J_loopL (σ := Nat × Ent) (fun ⟨i, m⟩ => i ≤ cands.length ∧ entOk facts m (cands.take i)) (fun ⟨i, m⟩ => upd (upd (upd (upd (upd (upd env0 0 (tYield Tryz.prog tI2 (okP (excl facts [] cands)) M Mx)) 2 (tPtr (rSl rFact) facts)) 4 (tV v10)) 11 (tSl rInt cands)) 12 (tV (.int .i64 cands.length))) 13 (tV (.int .i64 i))) (fun ⟨i, m⟩ => [mapOwn kvI rV v10 (hdr m), stars (rows m), M (excl facts [] (cands.take i))]) (fun ⟨i, m⟩ => cands.length - i) (0, []) ⟨by simp, fun e => by simp [entAt, mget]⟩ (SubE.upd Sub.rfl (SubE.upd Sub.rfl (SubE.upd Sub.rfl (SubE.upd Sub.rfl (SubE.upd Sub.rfl (SubE.upd Sub.rfl SubE.any)))))) (LSub.cons (by first | exact Sel.take (Sel.none _) | exact Sel.skip (Sel.take (Sel.none _)) | exact Sel.skip (Sel.skip (Sel.take (Sel.none _))) | exact Sel.skip (Sel.skip (Sel.skip (Sel.take (Sel.none _)))) | exact Sel.skip (Sel.skip (Sel.skip (Sel.skip (Sel.take (Sel.none _)))))) SPs.rfl (LSub.stars (LSub.cons (by first | exact Sel.take (Sel.none _) | exact Sel.skip (Sel.take (Sel.none _)) | exact Sel.skip (Sel.skip (Sel.take (Sel.none _))) | exact Sel.skip (Sel.skip (Sel.skip (Sel.take (Sel.none _)))) | exact Sel.skip (Sel.skip (Sel.skip (Sel.skip (Sel.take (Sel.none _)))))) SPs.rfl LSub.nil))) ?_
  rintro ⟨i, m⟩ ⟨hi, hm⟩
  refine J_seq ?_
  refine J_region ?_
  refine JL_step rfl rfl rfl (step_lss Sub.rfl Sub.rfl) ?_
  refine JL_nil ?_
  refine J_seq ?_
  refine J_cond Sub.rfl (fun hc1 => ?_) (fun hc1 => ?_)
  · try simp only [decide_eq_true_eq, decide_eq_false_iff_not, Bool.and_eq_true, Bool.or_eq_true, Bool.and_eq_false_iff, Bool.or_eq_false_iff, Bool.not_eq_true', Bool.not_eq_false', Int.not_lt, Int.not_le, Bool.not_true, Bool.not_false] at hc1
    have hlt : i < cands.length := by omega
    obtain ⟨hc0, hc1⟩ := hc _ (nth_mem hlt)
    refine J_skip ?_
    refine J_seq ?_
    refine J_block ?_
    refine J_seq ?_
    refine J_region ?_
    refine JL_step rfl rfl rfl (step_indexAddr_sl  Tryz.underlying24 ty3 Sub.rfl Sub.rfl rfl (gb ?sg1)) ?_
    case sg1 => first | assumption | omega
    refine JL_step rfl rfl rfl (step_load_ptr ty3 Sub.rfl) ?_
    refine JL_step rfl rfl rfl (step_assign Sub.rfl) ?_
    refine JL_nil ?_
    refine J_seq ?_
    refine J_region ?_
    refine JL_step rfl rfl rfl (step_load_ptr ty23 Sub.rfl) ?_
    refine JL_step rfl rfl rfl (step_move Sub.rfl) ?_
    refine JL_step rfl rfl rfl (step_indexAddr_sl (i := (nth cands i).toNat) Tryz.underlying23 ty54 Sub.rfl Sub.rfl ?sg1 (gb ?sg2)) ?_
    case sg1 => show nth cands i = _; omega
    case sg2 => omega
    refine JL_step rfl rfl rfl (step_load_ptr ty54 Sub.rfl) ?_
    refine JL_stepX rfl rfl rfl (step_alloc (fun w => Tryz.zeroValue54 w) zr54) fun v7 => ?_
    refine JL_stepU rfl rfl (step_store_box ty54 Sub.rfl Sub.rfl (by first | exact Sel.take (Sel.none _) | exact Sel.skip (Sel.take (Sel.none _)) | exact Sel.skip (Sel.skip (Sel.take (Sel.none _))) | exact Sel.skip (Sel.skip (Sel.skip (Sel.take (Sel.none _)))) | exact Sel.skip (Sel.skip (Sel.skip (Sel.skip (Sel.take (Sel.none _))))))) fun _ => ?_
    refine JL_freeze (t := 7) (Sel.take (Sel.none _)) Frz.box ?_
    refine JL_nil ?_
    refine J_seq ?_
    refine J_seq ?_
    refine K_lsub (L' := [own 3 rInt (entAt m (ent facts (nth cands i))).1 (entAt m (ent facts (nth cands i))).2, stars (rows (mdel m (ent facts (nth cands i)))), mapOwn kvI rV v10 (hdr m), M (excl facts [] (cands.take i))]) (LSub.trans (LSub.cons (by first | exact Sel.take (Sel.none _) | exact Sel.skip (Sel.take (Sel.none _)) | exact Sel.skip (Sel.skip (Sel.take (Sel.none _))) | exact Sel.skip (Sel.skip (Sel.skip (Sel.take (Sel.none _)))) | exact Sel.skip (Sel.skip (Sel.skip (Sel.skip (Sel.take (Sel.none _)))))) (SPs.rfl) (LSub.cons (by first | exact Sel.take (Sel.none _) | exact Sel.skip (Sel.take (Sel.none _)) | exact Sel.skip (Sel.skip (Sel.take (Sel.none _))) | exact Sel.skip (Sel.skip (Sel.skip (Sel.take (Sel.none _)))) | exact Sel.skip (Sel.skip (Sel.skip (Sel.skip (Sel.take (Sel.none _)))))) (SPs.rfl) (LSub.cons (by first | exact Sel.take (Sel.none _) | exact Sel.skip (Sel.take (Sel.none _)) | exact Sel.skip (Sel.skip (Sel.take (Sel.none _))) | exact Sel.skip (Sel.skip (Sel.skip (Sel.take (Sel.none _)))) | exact Sel.skip (Sel.skip (Sel.skip (Sel.skip (Sel.take (Sel.none _)))))) (SPs.rfl) (LSub.nil)))) (rows_take (q := ent facts (nth cands i)))) ?_
    have hes : (entAt m (ent facts (nth cands i))).2 = exOf facts (cands.take i) (nth cands i) := hm _
    have hsub : ∀ x ∈ (entAt m (ent facts (nth cands i))).2, x ∈ cands.take i := by rw [hes]; intro x hx; exact (List.mem_filter.1 hx).1
    have hxl : (entAt m (ent facts (nth cands i))).2.length ≤ 1000000 := by rw [hes]; have := List.length_filter_le (fun b => decide (ent facts b = ent facts (nth cands i))) (cands.take i); simp only [exOf]; simp at this; omega
    refine J_region ?_
    refine JL_step rfl rfl rfl (step_move Sub.rfl) ?_
    refine JL_step rfl rfl rfl (step_fieldAddr so54 Sub.rfl rfl) ?_
    refine JL_step rfl rfl rfl (step_load_ptr ty3 Sub.rfl) ?_
    refine JL_step rfl rfl rfl (step_eqT (congrArg rV.ty (mget_hdr m (ent facts (nth cands i)))) (step_lookup (R := rV) (kv := kvI) (z := nilSl) (KeyT.int Tryz.underlying3) Tryz.underlying105 (fun w => Tryz.zeroValue24 w) (fun _ => ⟨rfl, rfl⟩) Sub.rfl Sub.rfl (by first | exact Sel.take (Sel.none _) | exact Sel.skip (Sel.take (Sel.none _)) | exact Sel.skip (Sel.skip (Sel.take (Sel.none _))) | exact Sel.skip (Sel.skip (Sel.skip (Sel.take (Sel.none _)))) | exact Sel.skip (Sel.skip (Sel.skip (Sel.skip (Sel.take (Sel.none _)))))))) ?_
    refine JL_step rfl rfl rfl (step_len_own Tryz.underlying24 Sub.rfl (by first | exact Sel.take (Sel.none _) | exact Sel.skip (Sel.take (Sel.none _)) | exact Sel.skip (Sel.skip (Sel.take (Sel.none _))) | exact Sel.skip (Sel.skip (Sel.skip (Sel.take (Sel.none _)))) | exact Sel.skip (Sel.skip (Sel.skip (Sel.skip (Sel.take (Sel.none _))))))) ?_
    refine JL_step rfl rfl rfl (step_move Sub.rfl) ?_
    refine JL_nil ?_
    refine J_block ?_
    refine J_loopL (σ := Nat) (fun j => j ≤ (entAt m (ent facts (nth cands i))).2.length) (fun j => upd (upd (upd (upd (upd (upd (upd (upd (upd (upd (upd (upd (upd (upd (upd env0 0 (tYield Tryz.prog tI2 (okP (excl facts [] cands)) M Mx)) 2 (tPtr (rSl rFact) facts)) 4 (tV v10)) 6 (tV (.int .i64 (nth cands i)))) 7 (tPtr rFact (nth facts (nth cands i).toNat))) 11 (tSl rInt cands)) 12 (tV (.int .i64 cands.length))) 13 (tV (.int .i64 i))) 16 (tV (.int .i64 (nth cands i)))) 18 (tV (.int .i64 (nth cands i)))) 20 (rFact.ty (nth facts (nth cands i).toNat))) 21 (tV v10)) 24 (rV.ty (entAt m (ent facts (nth cands i))).1)) 25 (tV (.int .i64 (entAt m (ent facts (nth cands i))).2.length))) 26 (tV (.int .i64 j))) (fun j => [own 3 rInt (entAt m (ent facts (nth cands i))).1 (entAt m (ent facts (nth cands i))).2, stars (rows (mdel m (ent facts (nth cands i)))), mapOwn kvI rV v10 (hdr m), M ((excl facts [] (cands.take i)) ++ exRow facts (nth cands i) ((entAt m (ent facts (nth cands i))).2.take j))]) (fun j => (entAt m (ent facts (nth cands i))).2.length - j) 0 (by omega) (SubE.upd Sub.rfl (SubE.upd Sub.rfl (SubE.upd Sub.rfl (SubE.upd Sub.rfl (SubE.upd Sub.rfl (SubE.upd Sub.rfl (SubE.upd Sub.rfl (SubE.upd Sub.rfl (SubE.upd Sub.rfl (SubE.upd Sub.rfl (SubE.upd Sub.rfl (SubE.upd Sub.rfl (SubE.upd Sub.rfl (SubE.upd Sub.rfl (SubE.upd Sub.rfl SubE.any))))))))))))))) (LSub.cons (by first | exact Sel.take (Sel.none _) | exact Sel.skip (Sel.take (Sel.none _)) | exact Sel.skip (Sel.skip (Sel.take (Sel.none _))) | exact Sel.skip (Sel.skip (Sel.skip (Sel.take (Sel.none _)))) | exact Sel.skip (Sel.skip (Sel.skip (Sel.skip (Sel.take (Sel.none _)))))) (SPs.rfl) (LSub.cons (by first | exact Sel.take (Sel.none _) | exact Sel.skip (Sel.take (Sel.none _)) | exact Sel.skip (Sel.skip (Sel.take (Sel.none _))) | exact Sel.skip (Sel.skip (Sel.skip (Sel.take (Sel.none _)))) | exact Sel.skip (Sel.skip (Sel.skip (Sel.skip (Sel.take (Sel.none _)))))) (SPs.rfl) (LSub.cons (by first | exact Sel.take (Sel.none _) | exact Sel.skip (Sel.take (Sel.none _)) | exact Sel.skip (Sel.skip (Sel.take (Sel.none _))) | exact Sel.skip (Sel.skip (Sel.skip (Sel.take (Sel.none _)))) | exact Sel.skip (Sel.skip (Sel.skip (Sel.skip (Sel.take (Sel.none _)))))) (SPs.rfl) (LSub.cons (by first | exact Sel.take (Sel.none _) | exact Sel.skip (Sel.take (Sel.none _)) | exact Sel.skip (Sel.skip (Sel.take (Sel.none _))) | exact Sel.skip (Sel.skip (Sel.skip (Sel.take (Sel.none _)))) | exact Sel.skip (Sel.skip (Sel.skip (Sel.skip (Sel.take (Sel.none _)))))) (SPs.of (by simp [exRow])) (LSub.nil))))) ?_
    rintro j hj
    refine J_seq ?_
    refine J_region ?_
    refine JL_step rfl rfl rfl (step_lss Sub.rfl Sub.rfl) ?_
    refine JL_nil ?_
    refine J_seq ?_
    refine J_cond Sub.rfl (fun h27 => ?_) (fun h27 => ?_)
    · try simp only [decide_eq_true_eq, decide_eq_false_iff_not, Bool.and_eq_true, Bool.or_eq_true, Bool.and_eq_false_iff, Bool.or_eq_false_iff, Bool.not_eq_true', Bool.not_eq_false', Int.not_lt, Int.not_le, Bool.not_true, Bool.not_false] at h27
      have hltj : j < (entAt m (ent facts (nth cands i))).2.length := by omega
      have hb1 := hsub _ (nth_mem hltj)
      obtain ⟨hb0, hb2⟩ := hc _ (List.mem_of_mem_take hb1)
      have hok2 : exP facts (nth (entAt m (ent facts (nth cands i))).2 j) (nth cands i) = true → (excl facts [] (cands.take i)) ++ exRow facts (nth cands i) ((entAt m (ent facts (nth cands i))).2.take j) ++ [[nth (entAt m (ent facts (nth cands i))).2 j, (nth cands i)]] <+: (excl facts [] cands) := by
        intro hq
        have h1 := exRow_pre facts (nth cands i) (entAt m (ent facts (nth cands i))).2 (j + 1)
        rw [exRow_succ hltj, if_pos hq] at h1
        have h2 := excl_pre facts cands (i + 1)
        rw [excl_succ hlt, ← hes] at h2
        rw [List.append_assoc]
        exact List.IsPrefix.trans ((List.prefix_append_right_inj _).2 h1) h2
      refine J_skip ?_
      refine J_seq ?_
      refine J_block ?_
      refine J_seq ?_
      refine J_region ?_
      refine JL_step rfl rfl rfl (step_indexAddr_own  Tryz.underlying24 ty3 Sub.rfl (by first | exact Sel.take (Sel.none _) | exact Sel.skip (Sel.take (Sel.none _)) | exact Sel.skip (Sel.skip (Sel.take (Sel.none _))) | exact Sel.skip (Sel.skip (Sel.skip (Sel.take (Sel.none _)))) | exact Sel.skip (Sel.skip (Sel.skip (Sel.skip (Sel.take (Sel.none _)))))) Sub.rfl rfl ?sg1) ?_
      case sg1 => first | assumption | omega
      refine JL_step rfl rfl rfl (step_load_own ty3 Sub.rfl (by first | exact Sel.take (Sel.none _) | exact Sel.skip (Sel.take (Sel.none _)) | exact Sel.skip (Sel.skip (Sel.take (Sel.none _))) | exact Sel.skip (Sel.skip (Sel.skip (Sel.take (Sel.none _)))) | exact Sel.skip (Sel.skip (Sel.skip (Sel.skip (Sel.take (Sel.none _)))))) (gb ?sg1)) ?_
      case sg1 => first | assumption | omega
      refine JL_step rfl rfl rfl (step_assign Sub.rfl) ?_
      refine JL_nil ?_
      refine J_seq ?_
      refine J_region ?_
      refine JL_step rfl rfl rfl (step_fieldAddr so54 Sub.rfl rfl) ?_
      refine JL_step rfl rfl rfl (step_load_ptr ty3 Sub.rfl) ?_
      refine JL_step rfl rfl rfl (step_neq Sub.rfl Sub.rfl) ?_
      refine JL_step rfl rfl rfl (step_move Sub.rfl) ?_
      refine JL_stepG rfl rfl rfl (Gd.plain Sub.rfl) rfl rfl (fun hw => step_load_ptr ty23 Sub.rfl) ?_
      refine JL_stepG rfl rfl rfl (Gd.plain Sub.rfl) rfl rfl (fun hw => step_move Sub.rfl) ?_
      refine JL_stepG rfl rfl rfl (Gd.plain Sub.rfl) rfl rfl (fun hw => step_indexAddr_sl (i := (nth (entAt m (ent facts (nth cands i))).2 j).toNat) Tryz.underlying23 ty54 (Sub.w hw) (Sub.w hw) ?sg1 (gb ?sg2)) ?_
      case sg1 => have hwq := hw; (try simp only [beqB_t, beqB_f, decide_eq_true_eq, decide_eq_false_iff_not, Bool.and_eq_true, Bool.or_eq_true, Bool.and_eq_false_iff, Bool.or_eq_false_iff, Bool.not_eq_true', Bool.not_eq_false', Int.not_lt, Int.not_le, Bool.not_true, Bool.not_false] at hwq); show nth (entAt m (ent facts (nth cands i))).2 j = _; omega
      case sg2 => have hwq := hw; (try simp only [beqB_t, beqB_f, decide_eq_true_eq, decide_eq_false_iff_not, Bool.and_eq_true, Bool.or_eq_true, Bool.and_eq_false_iff, Bool.or_eq_false_iff, Bool.not_eq_true', Bool.not_eq_false', Int.not_lt, Int.not_le, Bool.not_true, Bool.not_false] at hwq); omega
      refine JL_stepG rfl rfl rfl (Gd.plain Sub.rfl) rfl rfl (fun hw => step_fieldAddr so54 (Sub.w hw) rfl) ?_
      refine JL_stepG rfl rfl rfl (Gd.plain Sub.rfl) rfl rfl (fun hw => step_load_ptr ty3 (Sub.w hw)) ?_
      refine JL_stepG rfl rfl rfl (Gd.plain Sub.rfl) rfl rfl (fun hw => step_neq (Sub.w hw) Sub.rfl) ?_
      refine JL_step rfl rfl rfl (step_pick_or Sub.rfl Sub.rfl) ?_
      refine JL_step rfl rfl rfl (step_move Sub.rfl) ?_
      refine JL_stepG rfl rfl rfl (Gd.plain Sub.rfl) rfl rfl (fun hw => step_move Sub.rfl) ?_
      refine JL_stepG rfl rfl rfl (Gd.plain Sub.rfl) rfl rfl (fun hw => step_move Sub.rfl) ?_
      refine JL_stepG rfl rfl rfl (Gd.plain Sub.rfl) rfl rfl (fun hw => step_move Sub.rfl) ?_
      refine JL_stepG rfl rfl rfl (Gd.plain Sub.rfl) rfl rfl (fun hw => step_literalE (ys := [_, _]) Tryz.underlying24 el3 ⟨rfl, (Sub.w hw), rfl, (Sub.w hw), trivial⟩ rfl (by decide)) ?_
      refine JL_stepGX (tV (.bool false)) rfl rfl rfl (Gd.plain Sub.rfl) rfl rfl (fun hw => step_yield (T := tI2) (Ok := okP (excl facts [] cands)) (M := M) (Mx := Mx) (pre := (excl facts [] (cands.take i)) ++ exRow facts (nth cands i) ((entAt m (ent facts (nth cands i))).2.take j)) (y := [nth (entAt m (ent facts (nth cands i))).2 j, (nth cands i)]) (Sub.w hw) ?sg1 ?sg2 (by first | exact Sel.take (Sel.none _) | exact Sel.skip (Sel.take (Sel.none _)) | exact Sel.skip (Sel.skip (Sel.take (Sel.none _))) | exact Sel.skip (Sel.skip (Sel.skip (Sel.take (Sel.none _)))) | exact Sel.skip (Sel.skip (Sel.skip (Sel.skip (Sel.take (Sel.none _))))))) (fun hw b46 => ?_) (fun hw => ?_)
      case sg1 => have hwq := hw; (try simp only [beqB_t, beqB_f, decide_eq_true_eq, decide_eq_false_iff_not, Bool.and_eq_true, Bool.or_eq_true, Bool.and_eq_false_iff, Bool.or_eq_false_iff, Bool.not_eq_true', Bool.not_eq_false', Int.not_lt, Int.not_le, Bool.not_true, Bool.not_false] at hwq); exact hok2 (bq_true hw)
      case sg2 => have hwq := hw; (try simp only [beqB_t, beqB_f, decide_eq_true_eq, decide_eq_false_iff_not, Bool.and_eq_true, Bool.or_eq_true, Bool.and_eq_false_iff, Bool.or_eq_false_iff, Bool.not_eq_true', Bool.not_eq_false', Int.not_lt, Int.not_le, Bool.not_true, Bool.not_false] at hwq); exact ⟨(Sub.w hw), trivial⟩
      · skip
        cases b46
        · skip
          refine JL_stepG rfl rfl rfl (Gd.plain Sub.rfl) rfl rfl (fun hw => step_not (Sub.w hw)) ?_
          refine JL_step rfl rfl rfl (step_pick_and Sub.rfl Sub.rfl) ?_
          refine JL_nil ?_
          refine J_cond Sub.rfl (fun h48 => ?_) (fun h48 => ?_)
          · try simp only [decide_eq_true_eq, decide_eq_false_iff_not, Bool.and_eq_true, Bool.or_eq_true, Bool.and_eq_false_iff, Bool.or_eq_false_iff, Bool.not_eq_true', Bool.not_eq_false', Int.not_lt, Int.not_le, Bool.not_true, Bool.not_false] at h48
            refine J_ret ?_
            refine K_drop (Sel.skip (Sel.all _)) ?_
            refine K_itStop (Fin := fun p => p = (excl facts [] cands)) (M := M) (Mx := Mx) (A := []) ?_ ((excl facts [] (cands.take i)) ++ exRow facts (nth cands i) ((entAt m (ent facts (nth cands i))).2.take j) ++ [[nth (entAt m (ent facts (nth cands i))).2 j, (nth cands i)]]) ?_
            · rfl
            · exact LSub.of rfl
          · try simp only [decide_eq_true_eq, decide_eq_false_iff_not, Bool.and_eq_true, Bool.or_eq_true, Bool.and_eq_false_iff, Bool.or_eq_false_iff, Bool.not_eq_true', Bool.not_eq_false', Int.not_lt, Int.not_le, Bool.not_true, Bool.not_false] at h48
            exfalso; have := bq_true hw; simp_all
        · skip
          have hx : exP facts (nth (entAt m (ent facts (nth cands i))).2 j) (nth cands i) = true := bq_true hw
          refine JL_stepG rfl rfl rfl (Gd.plain Sub.rfl) rfl rfl (fun hw => step_not (Sub.w hw)) ?_
          refine JL_step rfl rfl rfl (step_pick_and Sub.rfl Sub.rfl) ?_
          refine JL_nil ?_
          refine J_cond Sub.rfl (fun h48 => ?_) (fun h48 => ?_)
          · try simp only [decide_eq_true_eq, decide_eq_false_iff_not, Bool.and_eq_true, Bool.or_eq_true, Bool.and_eq_false_iff, Bool.or_eq_false_iff, Bool.not_eq_true', Bool.not_eq_false', Int.not_lt, Int.not_le, Bool.not_true, Bool.not_false] at h48
            first | (exfalso; simp at h48; done) | (exfalso; have hq := beqB_no.1 hw; simp at hq; omega)
          · try simp only [decide_eq_true_eq, decide_eq_false_iff_not, Bool.and_eq_true, Bool.or_eq_true, Bool.and_eq_false_iff, Bool.or_eq_false_iff, Bool.not_eq_true', Bool.not_eq_false', Int.not_lt, Int.not_le, Bool.not_true, Bool.not_false] at h48
            refine J_skip ?_
            refine J_region ?_
            refine JL_step rfl rfl rfl (step_add Sub.rfl Sub.rfl ?sg1) ?_
            case sg1 => unfold in64; omega
            refine JL_step rfl rfl rfl (step_move Sub.rfl) ?_
            refine JL_nil ?_
            refine K_againL (σ := Nat) (s := j) (j + 1) (by first | omega | (dsimp only; omega) | (simp_all; omega)) (by omega) (SubE.upd Sub.rfl (SubE.upd Sub.rfl (SubE.upd Sub.rfl (SubE.upd Sub.rfl (SubE.upd Sub.rfl (SubE.upd Sub.rfl (SubE.upd Sub.rfl (SubE.upd Sub.rfl (SubE.upd Sub.rfl (SubE.upd Sub.rfl (SubE.upd Sub.rfl (SubE.upd Sub.rfl (SubE.upd Sub.rfl (SubE.upd Sub.rfl (SubE.upd Sub.rfl SubE.any))))))))))))))) (LSub.cons (by first | exact Sel.take (Sel.none _) | exact Sel.skip (Sel.take (Sel.none _)) | exact Sel.skip (Sel.skip (Sel.take (Sel.none _))) | exact Sel.skip (Sel.skip (Sel.skip (Sel.take (Sel.none _)))) | exact Sel.skip (Sel.skip (Sel.skip (Sel.skip (Sel.take (Sel.none _)))))) (SPs.rfl) (LSub.cons (by first | exact Sel.take (Sel.none _) | exact Sel.skip (Sel.take (Sel.none _)) | exact Sel.skip (Sel.skip (Sel.take (Sel.none _))) | exact Sel.skip (Sel.skip (Sel.skip (Sel.take (Sel.none _)))) | exact Sel.skip (Sel.skip (Sel.skip (Sel.skip (Sel.take (Sel.none _)))))) (SPs.rfl) (LSub.cons (by first | exact Sel.take (Sel.none _) | exact Sel.skip (Sel.take (Sel.none _)) | exact Sel.skip (Sel.skip (Sel.take (Sel.none _))) | exact Sel.skip (Sel.skip (Sel.skip (Sel.take (Sel.none _)))) | exact Sel.skip (Sel.skip (Sel.skip (Sel.skip (Sel.take (Sel.none _)))))) (SPs.rfl) (LSub.cons (by first | exact Sel.take (Sel.none _) | exact Sel.skip (Sel.take (Sel.none _)) | exact Sel.skip (Sel.skip (Sel.take (Sel.none _))) | exact Sel.skip (Sel.skip (Sel.skip (Sel.take (Sel.none _)))) | exact Sel.skip (Sel.skip (Sel.skip (Sel.skip (Sel.take (Sel.none _)))))) (SPs.of (by rw [exRow_succ hltj, hx]; simp)) (LSub.nil)))))
      · skip
        have hx : exP facts (nth (entAt m (ent facts (nth cands i))).2 j) (nth cands i) = false := by have hq := beqB_no.1 hw; simpa [exP] using hq
        refine JL_stepG rfl rfl rfl (Gd.plain Sub.rfl) rfl rfl (fun hw => step_not (Sub.w hw)) ?_
        refine JL_step rfl rfl rfl (step_pick_and Sub.rfl Sub.rfl) ?_
        refine JL_nil ?_
        refine J_cond Sub.rfl (fun h48 => ?_) (fun h48 => ?_)
        · try simp only [decide_eq_true_eq, decide_eq_false_iff_not, Bool.and_eq_true, Bool.or_eq_true, Bool.and_eq_false_iff, Bool.or_eq_false_iff, Bool.not_eq_true', Bool.not_eq_false', Int.not_lt, Int.not_le, Bool.not_true, Bool.not_false] at h48
          first | (exfalso; simp at h48; done) | (exfalso; have hq := beqB_no.1 hw; simp at hq; omega)
        · try simp only [decide_eq_true_eq, decide_eq_false_iff_not, Bool.and_eq_true, Bool.or_eq_true, Bool.and_eq_false_iff, Bool.or_eq_false_iff, Bool.not_eq_true', Bool.not_eq_false', Int.not_lt, Int.not_le, Bool.not_true, Bool.not_false] at h48
          refine J_skip ?_
          refine J_region ?_
          refine JL_step rfl rfl rfl (step_add Sub.rfl Sub.rfl ?sg1) ?_
          case sg1 => unfold in64; omega
          refine JL_step rfl rfl rfl (step_move Sub.rfl) ?_
          refine JL_nil ?_
          refine K_againL (σ := Nat) (s := j) (j + 1) (by first | omega | (dsimp only; omega) | (simp_all; omega)) (by omega) (SubE.upd Sub.rfl (SubE.upd Sub.rfl (SubE.upd Sub.rfl (SubE.upd Sub.rfl (SubE.upd Sub.rfl (SubE.upd Sub.rfl (SubE.upd Sub.rfl (SubE.upd Sub.rfl (SubE.upd Sub.rfl (SubE.upd Sub.rfl (SubE.upd Sub.rfl (SubE.upd Sub.rfl (SubE.upd Sub.rfl (SubE.upd Sub.rfl (SubE.upd Sub.rfl SubE.any))))))))))))))) (LSub.cons (by first | exact Sel.take (Sel.none _) | exact Sel.skip (Sel.take (Sel.none _)) | exact Sel.skip (Sel.skip (Sel.take (Sel.none _))) | exact Sel.skip (Sel.skip (Sel.skip (Sel.take (Sel.none _)))) | exact Sel.skip (Sel.skip (Sel.skip (Sel.skip (Sel.take (Sel.none _)))))) (SPs.rfl) (LSub.cons (by first | exact Sel.take (Sel.none _) | exact Sel.skip (Sel.take (Sel.none _)) | exact Sel.skip (Sel.skip (Sel.take (Sel.none _))) | exact Sel.skip (Sel.skip (Sel.skip (Sel.take (Sel.none _)))) | exact Sel.skip (Sel.skip (Sel.skip (Sel.skip (Sel.take (Sel.none _)))))) (SPs.rfl) (LSub.cons (by first | exact Sel.take (Sel.none _) | exact Sel.skip (Sel.take (Sel.none _)) | exact Sel.skip (Sel.skip (Sel.take (Sel.none _))) | exact Sel.skip (Sel.skip (Sel.skip (Sel.take (Sel.none _)))) | exact Sel.skip (Sel.skip (Sel.skip (Sel.skip (Sel.take (Sel.none _)))))) (SPs.rfl) (LSub.cons (by first | exact Sel.take (Sel.none _) | exact Sel.skip (Sel.take (Sel.none _)) | exact Sel.skip (Sel.skip (Sel.take (Sel.none _))) | exact Sel.skip (Sel.skip (Sel.skip (Sel.take (Sel.none _)))) | exact Sel.skip (Sel.skip (Sel.skip (Sel.skip (Sel.take (Sel.none _)))))) (SPs.of (by rw [exRow_succ hltj, hx]; simp)) (LSub.nil)))))
    · try simp only [decide_eq_true_eq, decide_eq_false_iff_not, Bool.and_eq_true, Bool.or_eq_true, Bool.and_eq_false_iff, Bool.or_eq_false_iff, Bool.not_eq_true', Bool.not_eq_false', Int.not_lt, Int.not_le, Bool.not_true, Bool.not_false] at h27
      obtain hj2 : j = (entAt m (ent facts (nth cands i))).2.length := by omega
      refine J_exit ?_
      refine J_draw [⟨0, [4], true⟩, ⟨1, [7], true⟩, ⟨2, [51], true⟩, ⟨3, [4], true⟩, ⟨4, [7], true⟩, ⟨5, [54], true⟩, ⟨7, [6], true⟩, ⟨8, [57], true⟩, ⟨6, [53, 55], false⟩, ⟨9, [56, 58], false⟩, ⟨10, [50, 52, 59], false⟩] rfl (by kernel_rfl) ?_
      refine JM_step rfl rfl rfl rfl (fun _ => step_move Sub.rfl) ?_
      refine JM_step rfl rfl rfl rfl (fun _ => step_fieldAddr so54 Sub.rfl rfl) ?_
      refine JM_step rfl rfl rfl rfl (fun _ => step_load_ptr ty3 Sub.rfl) ?_
      refine JM_step rfl rfl rfl rfl (fun _ => step_move Sub.rfl) ?_
      refine JM_step rfl rfl rfl rfl (fun _ => step_fieldAddr so54 Sub.rfl rfl) ?_
      refine JM_step rfl rfl rfl rfl (fun _ => step_load_ptr ty3 Sub.rfl) ?_
      refine JM_step rfl rfl rfl rfl (fun _ => step_move Sub.rfl) ?_
      refine JM_step rfl rfl rfl rfl (fun _ => step_literal (ys := [_]) Tryz.underlying24 el3 ⟨rfl, Sub.rfl, trivial⟩ rfl (by decide)) ?_
      refine JM_look rfl rfl rfl rfl (step_eqT (congrArg rV.ty (mget_hdr m (ent facts (nth cands i)))) (step_lookup (R := rV) (kv := kvI) (z := nilSl) (KeyT.int Tryz.underlying3) Tryz.underlying105 (fun w => Tryz.zeroValue24 w) (fun _ => ⟨rfl, rfl⟩) Sub.rfl Sub.rfl (by first | exact Sel.take (Sel.none _) | exact Sel.skip (Sel.take (Sel.none _)) | exact Sel.skip (Sel.skip (Sel.take (Sel.none _))) | exact Sel.skip (Sel.skip (Sel.skip (Sel.take (Sel.none _)))) | exact Sel.skip (Sel.skip (Sel.skip (Sel.skip (Sel.take (Sel.none _)))))))) ?_
      refine JM_stepX rfl rfl rfl rfl (step_append Tryz.underlying24 el3 Sub.rfl Sub.rfl (by first | exact Sel.take (Sel.none _) | exact Sel.skip (Sel.take (Sel.none _)) | exact Sel.skip (Sel.skip (Sel.take (Sel.none _))) | exact Sel.skip (Sel.skip (Sel.skip (Sel.take (Sel.none _)))) | exact Sel.skip (Sel.skip (Sel.skip (Sel.skip (Sel.take (Sel.none _)))))) (by have h1 := List.length_filter_le (fun b => decide (ent facts b = ent facts (nth cands i))) (cands.take i); have h2 := hm (ent facts (nth cands i)); simp [h2] at *; omega) (by have h1 := List.length_filter_le (fun b => decide (ent facts b = ent facts (nth cands i))) (cands.take i); have h2 := hm (ent facts (nth cands i)); simp [h2] at *; omega)) fun u59 => ?_
      refine JM_stepU rfl rfl rfl (step_mapUpdate (kv := kvI) (R := rV) (KeyT.int Tryz.underlying3) Tryz.underlying105 Sub.rfl Sub.rfl Sub.rfl (by first | exact Sel.take (Sel.none _) | exact Sel.skip (Sel.take (Sel.none _)) | exact Sel.skip (Sel.skip (Sel.take (Sel.none _))) | exact Sel.skip (Sel.skip (Sel.skip (Sel.take (Sel.none _)))) | exact Sel.skip (Sel.skip (Sel.skip (Sel.skip (Sel.take (Sel.none _))))))) fun _ => ?_
      refine JM_nil ?_
      refine J_region ?_
      refine JL_step rfl rfl rfl (step_add Sub.rfl Sub.rfl ?sg1) ?_
      case sg1 => unfold in64; omega
      refine JL_step rfl rfl rfl (step_move Sub.rfl) ?_
      refine JL_nil ?_
      refine K_againL (σ := Nat × Ent) (s := (i, m)) (i + 1, mput m (ent facts (nth cands i)) (u59, (entAt m (ent facts (nth cands i))).2 ++ [(nth cands i)])) (by first | omega | (dsimp only; omega) | (simp_all; omega)) ⟨by omega, by rw [takeB hlt]; exact entOk_put hm _ _⟩ (SubE.upd Sub.rfl (SubE.upd Sub.rfl (SubE.upd Sub.rfl (SubE.upd Sub.rfl (SubE.upd Sub.rfl (SubE.upd Sub.rfl SubE.any)))))) (LSub.trans (B := [own 3 rInt u59 ((entAt m (ent facts (nth cands i))).2 ++ [(nth cands i)]), stars (rows (mdel m (ent facts (nth cands i)))), mapOwn kvI rV v10 (mput (hdr m) (ent facts (nth cands i)) u59), M ((excl facts [] (cands.take i)) ++ exRow facts (nth cands i) (entAt m (ent facts (nth cands i))).2)]) (LSub.cons (by first | exact Sel.take (Sel.none _) | exact Sel.skip (Sel.take (Sel.none _)) | exact Sel.skip (Sel.skip (Sel.take (Sel.none _))) | exact Sel.skip (Sel.skip (Sel.skip (Sel.take (Sel.none _)))) | exact Sel.skip (Sel.skip (Sel.skip (Sel.skip (Sel.take (Sel.none _)))))) (SPs.rfl) (LSub.cons (by first | exact Sel.take (Sel.none _) | exact Sel.skip (Sel.take (Sel.none _)) | exact Sel.skip (Sel.skip (Sel.take (Sel.none _))) | exact Sel.skip (Sel.skip (Sel.skip (Sel.take (Sel.none _)))) | exact Sel.skip (Sel.skip (Sel.skip (Sel.skip (Sel.take (Sel.none _)))))) (SPs.rfl) (LSub.cons (by first | exact Sel.take (Sel.none _) | exact Sel.skip (Sel.take (Sel.none _)) | exact Sel.skip (Sel.skip (Sel.take (Sel.none _))) | exact Sel.skip (Sel.skip (Sel.skip (Sel.take (Sel.none _)))) | exact Sel.skip (Sel.skip (Sel.skip (Sel.skip (Sel.take (Sel.none _)))))) (SPs.rfl) (LSub.cons (by first | exact Sel.take (Sel.none _) | exact Sel.skip (Sel.take (Sel.none _)) | exact Sel.skip (Sel.skip (Sel.take (Sel.none _))) | exact Sel.skip (Sel.skip (Sel.skip (Sel.take (Sel.none _)))) | exact Sel.skip (Sel.skip (Sel.skip (Sel.skip (Sel.take (Sel.none _)))))) (SPs.of (by rw [hj2, List.take_length])) (LSub.nil))))) (LSub.trans rows_put (LSub.cons (by first | exact Sel.take (Sel.none _) | exact Sel.skip (Sel.take (Sel.none _)) | exact Sel.skip (Sel.skip (Sel.take (Sel.none _))) | exact Sel.skip (Sel.skip (Sel.skip (Sel.take (Sel.none _)))) | exact Sel.skip (Sel.skip (Sel.skip (Sel.skip (Sel.take (Sel.none _)))))) (SPs.of (A := mapOwn kvI rV v10 (mput (hdr m) (ent facts (nth cands i)) u59)) (by rw [mput_hdr])) (LSub.cons (by first | exact Sel.take (Sel.none _) | exact Sel.skip (Sel.take (Sel.none _)) | exact Sel.skip (Sel.skip (Sel.take (Sel.none _))) | exact Sel.skip (Sel.skip (Sel.skip (Sel.take (Sel.none _)))) | exact Sel.skip (Sel.skip (Sel.skip (Sel.skip (Sel.take (Sel.none _)))))) (SPs.rfl) (LSub.cons (by first | exact Sel.take (Sel.none _) | exact Sel.skip (Sel.take (Sel.none _)) | exact Sel.skip (Sel.skip (Sel.take (Sel.none _))) | exact Sel.skip (Sel.skip (Sel.skip (Sel.take (Sel.none _)))) | exact Sel.skip (Sel.skip (Sel.skip (Sel.skip (Sel.take (Sel.none _)))))) (SPs.of (by rw [excl_succ hlt, ← hes])) (LSub.nil))))))
  · try simp only [decide_eq_true_eq, decide_eq_false_iff_not, Bool.and_eq_true, Bool.or_eq_true, Bool.and_eq_false_iff, Bool.or_eq_false_iff, Bool.not_eq_true', Bool.not_eq_false', Int.not_lt, Int.not_le, Bool.not_true, Bool.not_false] at hc1
    refine J_exit ?_
    refine K_lsub (L' := [M (excl facts [] (cands.take i)), mapOwn kvI rV v10 (hdr m), stars (rows m)]) (LSub.cons (by first | exact Sel.take (Sel.none _) | exact Sel.skip (Sel.take (Sel.none _)) | exact Sel.skip (Sel.skip (Sel.take (Sel.none _))) | exact Sel.skip (Sel.skip (Sel.skip (Sel.take (Sel.none _)))) | exact Sel.skip (Sel.skip (Sel.skip (Sel.skip (Sel.take (Sel.none _)))))) (SPs.rfl) (LSub.cons (by first | exact Sel.take (Sel.none _) | exact Sel.skip (Sel.take (Sel.none _)) | exact Sel.skip (Sel.skip (Sel.take (Sel.none _))) | exact Sel.skip (Sel.skip (Sel.skip (Sel.take (Sel.none _)))) | exact Sel.skip (Sel.skip (Sel.skip (Sel.skip (Sel.take (Sel.none _)))))) (SPs.rfl) (LSub.cons (by first | exact Sel.take (Sel.none _) | exact Sel.skip (Sel.take (Sel.none _)) | exact Sel.skip (Sel.skip (Sel.take (Sel.none _))) | exact Sel.skip (Sel.skip (Sel.skip (Sel.take (Sel.none _)))) | exact Sel.skip (Sel.skip (Sel.skip (Sel.skip (Sel.take (Sel.none _)))))) (SPs.rfl) (LSub.nil)))) ?_
    refine K_drop (Sel.skip (Sel.all _)) ?_
    refine K_endRet (K_itDone (Fin := fun p => p = (excl facts [] cands)) (M := M) (Mx := Mx) (A := []) ?_ (excl facts [] cands) rfl ?_)
    · rfl
    · exact LSub.of (by obtain rfl : i = cands.length := (by omega); rw [List.take_length])
theorem exclusions_spec (facts : List GFact) (cands : List Int) : Fun1 Tryz.prog 58 [tSl rFact facts, tSl rInt cands] (tClo 75 [tPtr (rSl rInt) cands, tPtr (rSl rFact) facts]) := by
  refine Spec.enter Tryz.func58 rfl rfl fun h0 w0 fr0 => ?_
  refine J_seq ?_
  refine J_region ?_
  refine JL_step rfl rfl rfl (step_box (R := (rSl rFact)) Sub.rfl) ?_
  refine JL_step rfl rfl rfl (step_box (R := (rSl rInt)) Sub.rfl) ?_
  refine JL_step rfl rfl rfl (step_assign Sub.rfl) ?_
  refine JL_nil ?_
  refine J_seq ?_
  refine J_region ?_
  refine JL_step rfl rfl rfl (step_makeFunc (As := [_, _]) ⟨Sub.rfl, Sub.rfl, trivial⟩) ?_
  refine JL_step rfl rfl rfl (step_assign Sub.rfl) ?_
  refine JL_nil ?_
  refine J_ret ?_
  exact K_ret1 (t := 4) rfl () Sub.rfl
end Lg

namespace Lg
open Go Go.Proofs


def wits (rules : List GRule) (facts : List GFact) (cands : List Int) : List (List Int) := excl facts [] cands ++ (loweredR rules).flatMap fun d => asgs d facts cands
theorem wits_pre {rules : List GRule} {facts : List GFact} {cands : List Int} {i : Nat} (h : i < (loweredR rules).length) :
    (excl facts [] cands ++ ((loweredR rules).take i).flatMap fun d => asgs d facts cands) ++ asgs (nth (loweredR rules) i) facts cands <+: wits rules facts cands := by
  unfold wits
  rw [List.append_assoc]
  refine (List.prefix_append_right_inj _).2 ?_
  have e : (loweredR rules) = (loweredR rules).take i ++ (nth (loweredR rules) i :: (loweredR rules).drop (i + 1)) := by rw [← dropB h, List.take_append_drop]
  have : (loweredR rules).flatMap (fun d => asgs d facts cands) = (((loweredR rules).take i).flatMap fun d => asgs d facts cands) ++ (asgs (nth (loweredR rules) i) facts cands ++ ((loweredR rules).drop (i + 1)).flatMap fun d => asgs d facts cands) := by
    conv => lhs; rw [e]
    simp only [List.flatMap_append, List.flatMap_cons]
  rw [this, ← List.append_assoc]
  exact List.prefix_append _ _
theorem wits_succ {rules : List GRule} {facts : List GFact} {cands : List Int} {i : Nat} (h : i < (loweredR rules).length) :
    ((loweredR rules).take (i + 1)).flatMap (fun d => asgs d facts cands) = ((loweredR rules).take i).flatMap (fun d => asgs d facts cands) ++ asgs (nth (loweredR rules) i) facts cands := by rw [takeB h]; simp
theorem lowered_ok {rules : List GRule} (hr : ∀ r ∈ rules, r.Fixed.length ≤ 1000000 ∧ r.Cols.length ≤ 1000000) (ht : ∀ r ∈ rules, r.Tests.length ≤ 4000000) : ∀ d ∈ loweredR rules, d.Tables.length ≤ 1000 ∧ d.Tests.length ≤ 4000000 := by
  intro d hd
  obtain ⟨r, hr1, hr2⟩ := List.mem_flatMap.1 hd
  obtain ⟨hl, ho⟩ := List.mem_filter.1 hr2
  simp only [okD3, Bool.and_eq_true, decide_eq_true_eq] at ho
  refine ⟨by omega, ?_⟩
  obtain ⟨b1, b2⟩ := hr _ hr1
  have b3 := ht _ hr1
  unfold lowerR at hl
  split at hl
  · simp at hl; subst hl; omega
  · split at hl
    · simp at hl; subst hl
      have := preT_len r
      simp only [lowT, List.length_append, List.length_map]
      split <;> simp <;> omega
    · simp at hl
abbrev InRules (rules : List GRule) : Prop := rules.length ≤ 1000000 ∧ (∀ r ∈ rules, r.Fixed.length ≤ 1000000 ∧ r.Cols.length ≤ 1000000) ∧ ∀ r ∈ rules, r.Tests.length ≤ 4000000

theorem witnesses1_spec (rules : List GRule) (facts : List GFact) (cands : List Int) (hc : InB cands facts.length) (hcl : cands.length ≤ 1000000) (hfl : facts.length ≤ 1000000) (hru : InRules rules) : ItSpec Tryz.prog 57 [tPtr (rSl rFact) facts, tPtr (rSl rInt) cands, tPtr (rSl rRule) rules] [] (tI2) (okP (wits rules facts cands)) (fun p => p = (wits rules facts cands)) := by
  intro M Mx
  refine Spec.enter Tryz.func57 rfl rfl fun h0 w0 fr0 => ?_
  refine J_seq ?_
  refine J_region ?_
  refine JL_step rfl rfl rfl (step_box (R := rY Tryz.prog tI2 (okP (wits rules facts cands)) M Mx) (y := ()) Sub.rfl) ?_
  refine JL_nil ?_
  refine J_seq ?_
  refine J_seq ?_
  refine J_region ?_
  refine JL_step rfl rfl rfl (step_load_ptr ty23 Sub.rfl) ?_
  refine JL_step rfl rfl rfl (step_load_ptr ty24 Sub.rfl) ?_
  refine JL_step rfl rfl rfl (step_call0 (exclusions_spec _ _) ⟨Sub.rfl, Sub.rfl, trivial⟩ Tryz.call58) ?_
  refine JL_nil ?_
  refine J_block ?_
  refine J_range (A := []) (T := tI2) (Ok := okP (excl facts [] cands)) (Fin := fun p => p = (excl facts [] cands)) (R := []) (fun xs => M xs) (fun c xs => stars [SP.pure (c = .ret), Mx (xs)]) rfl (fun _ => rfl) rfl (exclusions1_spec facts cands hc hcl hfl) Sub.rfl Tryz.call75 (LSub.of rfl) ?round1 ?done1 ?stop1
  case round1 =>
    intro l1 rec1 h2 w2 fr2 pre y hle1 hst1 hpd1 hdj1 hok
    refine J_region ?_
    refine JL_step rfl rfl rfl (step_assign Sub.rfl) ?_
    refine JL_nil ?_
    refine K_begin hst1 hdj1 ?_
    refine J_block ?_
    refine J_seq ?_
    refine J_region ?_
    refine JL_step rfl rfl rfl (step_load_ptr ty74Y Sub.rfl) ?_
    refine JL_step rfl rfl rfl (step_move Sub.rfl) ?_
    refine JL_stepX rfl rfl rfl (step_yield (T := tI2) (Ok := okP (wits rules facts cands)) (M := M) (Mx := Mx) (pre := pre) (y := y) Sub.rfl ?sg1 ?sg2 (by first | exact Sel.take (Sel.none _) | exact Sel.skip (Sel.take (Sel.none _)) | exact Sel.skip (Sel.skip (Sel.take (Sel.none _))) | exact Sel.skip (Sel.skip (Sel.skip (Sel.take (Sel.none _)))) | exact Sel.skip (Sel.skip (Sel.skip (Sel.skip (Sel.take (Sel.none _))))))) fun v15 => ?_
    case sg1 => exact List.IsPrefix.trans hok (List.prefix_append _ _)
    case sg2 => exact ⟨Sub.rfl, trivial⟩
    cases v15
    · skip
      refine JL_step rfl rfl rfl (step_not Sub.rfl) ?_
      refine JL_nil ?_
      refine J_cond Sub.rfl (fun hc1 => ?_) (fun hc1 => ?_)
      · try simp only [decide_eq_true_eq, decide_eq_false_iff_not, Bool.and_eq_true, Bool.or_eq_true, Bool.and_eq_false_iff, Bool.or_eq_false_iff, Bool.not_eq_true', Bool.not_eq_false', Int.not_lt, Int.not_le, Bool.not_true, Bool.not_false] at hc1
        refine J_ret ?_
        refine K_roundR ?_
        exact LSub.cons (by first | exact Sel.take (Sel.none _) | exact Sel.skip (Sel.take (Sel.none _)) | exact Sel.skip (Sel.skip (Sel.take (Sel.none _))) | exact Sel.skip (Sel.skip (Sel.skip (Sel.take (Sel.none _)))) | exact Sel.skip (Sel.skip (Sel.skip (Sel.skip (Sel.take (Sel.none _)))))) SPs.rfl (LSub.stars (LSub.pure rfl (LSub.cons (by first | exact Sel.take (Sel.none _) | exact Sel.skip (Sel.take (Sel.none _)) | exact Sel.skip (Sel.skip (Sel.take (Sel.none _))) | exact Sel.skip (Sel.skip (Sel.skip (Sel.take (Sel.none _)))) | exact Sel.skip (Sel.skip (Sel.skip (Sel.skip (Sel.take (Sel.none _)))))) (SPs.rfl) LSub.nil)))
      · try simp only [decide_eq_true_eq, decide_eq_false_iff_not, Bool.and_eq_true, Bool.or_eq_true, Bool.and_eq_false_iff, Bool.or_eq_false_iff, Bool.not_eq_true', Bool.not_eq_false', Int.not_lt, Int.not_le, Bool.not_true, Bool.not_false] at hc1
        exfalso; simp_all
    · skip
      refine JL_step rfl rfl rfl (step_not Sub.rfl) ?_
      refine JL_nil ?_
      refine J_cond Sub.rfl (fun hc2 => ?_) (fun hc2 => ?_)
      · try simp only [decide_eq_true_eq, decide_eq_false_iff_not, Bool.and_eq_true, Bool.or_eq_true, Bool.and_eq_false_iff, Bool.or_eq_false_iff, Bool.not_eq_true', Bool.not_eq_false', Int.not_lt, Int.not_le, Bool.not_true, Bool.not_false] at hc2
        exfalso; simp_all
      · try simp only [decide_eq_true_eq, decide_eq_false_iff_not, Bool.and_eq_true, Bool.or_eq_true, Bool.and_eq_false_iff, Bool.or_eq_false_iff, Bool.not_eq_true', Bool.not_eq_false', Int.not_lt, Int.not_le, Bool.not_true, Bool.not_false] at hc2
        refine J_skip ?_
        refine K_roundN hst1 hpd1 ?_
        exact LSub.cons (by first | exact Sel.take (Sel.none _) | exact Sel.skip (Sel.take (Sel.none _)) | exact Sel.skip (Sel.skip (Sel.take (Sel.none _))) | exact Sel.skip (Sel.skip (Sel.skip (Sel.take (Sel.none _)))) | exact Sel.skip (Sel.skip (Sel.skip (Sel.skip (Sel.take (Sel.none _)))))) (SPs.rfl) (LSub.cons (by first | exact Sel.take (Sel.none _) | exact Sel.skip (Sel.take (Sel.none _)) | exact Sel.skip (Sel.skip (Sel.take (Sel.none _))) | exact Sel.skip (Sel.skip (Sel.skip (Sel.take (Sel.none _)))) | exact Sel.skip (Sel.skip (Sel.skip (Sel.skip (Sel.take (Sel.none _)))))) (SPs.rfl) (LSub.nil))
  case done1 =>
    intro D1 xs hfin
    subst hfin
    refine J_seq ?_
    have hlo := lowered_ok hru.2.1 hru.2.2
    have hll := loweredR_len rules
    have hrl := hru.1
    refine J_region ?_
    refine JL_step rfl rfl rfl (step_load_ptr ty22 Sub.rfl) ?_
    refine JL_step rfl rfl rfl (step_call0 (lowered_spec rules hru.1 hru.2.1) ⟨Sub.rfl, trivial⟩ Tryz.call59) ?_
    refine JL_step rfl rfl rfl (step_len_sl Tryz.underlying22 Sub.rfl) ?_
    refine JL_step rfl rfl rfl (step_move Sub.rfl) ?_
    refine JL_nil ?_
    refine J_block ?_
    refine J_loopD (σ := Nat × List Nat) (fun ⟨i, Ds⟩ => i ≤ (loweredR rules).length) (fun ⟨i, Ds⟩ => upd (upd (upd (upd (upd (upd env0 1 (tPtr (rSl rFact) facts)) 2 (tPtr (rSl rInt) cands)) 4 (tPtr (rY Tryz.prog tI2 (okP (wits rules facts cands)) M Mx) ())) 18 (tSl rRule (loweredR rules))) 19 (tV (.int .i64 (loweredR rules).length))) 20 (tV (.int .i64 i))) (fun ⟨i, Ds⟩ => [M ((excl facts [] cands) ++ ((loweredR rules).take i).flatMap fun d => asgs d facts cands), stars (Ds.map dfB)]) (fun ⟨i, Ds⟩ => (loweredR rules).length - i) (fun ⟨i, Ds⟩ => Ds.map markD) (0, [D1]) (by simp) (SubE.upd Sub.rfl (SubE.upd Sub.rfl (SubE.upd Sub.rfl (SubE.upd Sub.rfl (SubE.upd Sub.rfl (SubE.upd Sub.rfl SubE.any)))))) (LSub.cons (by first | exact Sel.take (Sel.none _) | exact Sel.skip (Sel.take (Sel.none _)) | exact Sel.skip (Sel.skip (Sel.take (Sel.none _))) | exact Sel.skip (Sel.skip (Sel.skip (Sel.take (Sel.none _)))) | exact Sel.skip (Sel.skip (Sel.skip (Sel.skip (Sel.take (Sel.none _)))))) (SPs.of (by simp)) (fun h m p => ⟨m, PH.emp, PH.disj_emp _, (PH.join_emp _).symm, p, rfl⟩)) rfl ?_
    rintro ⟨i, Ds⟩ hi
    try dsimp only at hi
    refine J_seq ?_
    refine J_region ?_
    refine JL_step rfl rfl rfl (step_lss Sub.rfl Sub.rfl) ?_
    refine JL_nil ?_
    refine J_seq ?_
    refine J_cond Sub.rfl (fun hc3 => ?_) (fun hc3 => ?_)
    · try simp only [decide_eq_true_eq, decide_eq_false_iff_not, Bool.and_eq_true, Bool.or_eq_true, Bool.and_eq_false_iff, Bool.or_eq_false_iff, Bool.not_eq_true', Bool.not_eq_false', Int.not_lt, Int.not_le, Bool.not_true, Bool.not_false] at hc3
      have hlt : i < (loweredR rules).length := by omega
      refine J_skip ?_
      refine J_seq ?_
      refine J_block ?_
      refine J_seq ?_
      refine J_region ?_
      refine JL_step rfl rfl rfl (step_indexAddr_sl  Tryz.underlying22 ty32 Sub.rfl Sub.rfl rfl (gb ?sg1)) ?_
      case sg1 => first | assumption | omega
      refine JL_step rfl rfl rfl (step_load_ptr ty32 Sub.rfl) ?_
      refine JL_stepX rfl rfl rfl (step_alloc (fun w => Tryz.zeroValue32 w) zr32) fun v7 => ?_
      refine JL_stepU rfl rfl (step_store_box ty32 Sub.rfl Sub.rfl (by first | exact Sel.take (Sel.none _) | exact Sel.skip (Sel.take (Sel.none _)) | exact Sel.skip (Sel.skip (Sel.take (Sel.none _))) | exact Sel.skip (Sel.skip (Sel.skip (Sel.take (Sel.none _)))) | exact Sel.skip (Sel.skip (Sel.skip (Sel.skip (Sel.take (Sel.none _))))))) fun _ => ?_
      refine JL_freeze (t := 7) (Sel.take (Sel.none _)) Frz.box ?_
      refine JL_nil ?_
      refine J_seq ?_
      refine J_region ?_
      refine JL_step rfl rfl rfl (step_load_ptr ty32 Sub.rfl) ?_
      refine JL_step rfl rfl rfl (step_load_ptr ty23 Sub.rfl) ?_
      refine JL_step rfl rfl rfl (step_load_ptr ty24 Sub.rfl) ?_
      refine JL_step rfl rfl rfl (step_call0 (assignments_spec _ _ _) ⟨Sub.rfl, Sub.rfl, Sub.rfl, trivial⟩ Tryz.call60) ?_
      refine JL_nil ?_
      refine J_block ?_
      refine J_range (A := []) (T := tI2) (Ok := okP (asgs (nth (loweredR rules) i) facts cands)) (Fin := fun p => p = (asgs (nth (loweredR rules) i) facts cands)) (R := [stars (Ds.map dfB)]) (fun xs => M (((excl facts [] cands) ++ ((loweredR rules).take i).flatMap fun d => asgs d facts cands) ++ xs)) (fun c xs => stars [SP.pure (c = .ret), Mx (((excl facts [] cands) ++ ((loweredR rules).take i).flatMap fun d => asgs d facts cands) ++ xs)]) rfl (fun _ => rfl) rfl (assignments1_spec (nth (loweredR rules) i) facts cands hc hcl hfl (hlo _ (nth_mem hlt)).1 (hlo _ (nth_mem hlt)).2) Sub.rfl Tryz.call76 (LSub.cons (by first | exact Sel.take (Sel.none _) | exact Sel.skip (Sel.take (Sel.none _)) | exact Sel.skip (Sel.skip (Sel.take (Sel.none _))) | exact Sel.skip (Sel.skip (Sel.skip (Sel.take (Sel.none _)))) | exact Sel.skip (Sel.skip (Sel.skip (Sel.skip (Sel.take (Sel.none _)))))) (SPs.of (by simp)) (LSub.cons (by first | exact Sel.take (Sel.none _) | exact Sel.skip (Sel.take (Sel.none _)) | exact Sel.skip (Sel.skip (Sel.take (Sel.none _))) | exact Sel.skip (Sel.skip (Sel.skip (Sel.take (Sel.none _)))) | exact Sel.skip (Sel.skip (Sel.skip (Sel.skip (Sel.take (Sel.none _)))))) (SPs.rfl) (LSub.nil))) ?round2 ?done2 ?stop2
      case round2 =>
        intro l2 rec2 h3 w3 fr3 pre y hle2 hst2 hpd2 hdj2 hok
        refine J_region ?_
        refine JL_step rfl rfl rfl (step_assign Sub.rfl) ?_
        refine JL_nil ?_
        refine K_begin hst2 hdj2 ?_
        refine J_block ?_
        refine J_seq ?_
        refine J_region ?_
        refine JL_step rfl rfl rfl (step_load_ptr ty74Y Sub.rfl) ?_
        refine JL_step rfl rfl rfl (step_move Sub.rfl) ?_
        refine JL_stepX rfl rfl rfl (step_yield (T := tI2) (Ok := okP (wits rules facts cands)) (M := M) (Mx := Mx) (pre := ((excl facts [] cands) ++ ((loweredR rules).take i).flatMap fun d => asgs d facts cands) ++ pre) (y := y) Sub.rfl ?sg1 ?sg2 (by first | exact Sel.take (Sel.none _) | exact Sel.skip (Sel.take (Sel.none _)) | exact Sel.skip (Sel.skip (Sel.take (Sel.none _))) | exact Sel.skip (Sel.skip (Sel.skip (Sel.take (Sel.none _)))) | exact Sel.skip (Sel.skip (Sel.skip (Sel.skip (Sel.take (Sel.none _))))))) fun v31 => ?_
        case sg1 => rw [List.append_assoc]; exact List.IsPrefix.trans ((List.prefix_append_right_inj _).2 hok) (wits_pre hlt)
        case sg2 => exact ⟨Sub.rfl, trivial⟩
        cases v31
        · skip
          refine JL_step rfl rfl rfl (step_not Sub.rfl) ?_
          refine JL_nil ?_
          refine J_cond Sub.rfl (fun hc4 => ?_) (fun hc4 => ?_)
          · try simp only [decide_eq_true_eq, decide_eq_false_iff_not, Bool.and_eq_true, Bool.or_eq_true, Bool.and_eq_false_iff, Bool.or_eq_false_iff, Bool.not_eq_true', Bool.not_eq_false', Int.not_lt, Int.not_le, Bool.not_true, Bool.not_false] at hc4
            refine J_ret ?_
            refine K_roundR ?_
            exact LSub.cons (by first | exact Sel.take (Sel.none _) | exact Sel.skip (Sel.take (Sel.none _)) | exact Sel.skip (Sel.skip (Sel.take (Sel.none _))) | exact Sel.skip (Sel.skip (Sel.skip (Sel.take (Sel.none _)))) | exact Sel.skip (Sel.skip (Sel.skip (Sel.skip (Sel.take (Sel.none _)))))) SPs.rfl (LSub.stars (LSub.pure rfl (LSub.cons (by first | exact Sel.take (Sel.none _) | exact Sel.skip (Sel.take (Sel.none _)) | exact Sel.skip (Sel.skip (Sel.take (Sel.none _))) | exact Sel.skip (Sel.skip (Sel.skip (Sel.take (Sel.none _)))) | exact Sel.skip (Sel.skip (Sel.skip (Sel.skip (Sel.take (Sel.none _)))))) (SPs.of (by simp)) LSub.nil)))
          · try simp only [decide_eq_true_eq, decide_eq_false_iff_not, Bool.and_eq_true, Bool.or_eq_true, Bool.and_eq_false_iff, Bool.or_eq_false_iff, Bool.not_eq_true', Bool.not_eq_false', Int.not_lt, Int.not_le, Bool.not_true, Bool.not_false] at hc4
            exfalso; simp_all
        · skip
          refine JL_step rfl rfl rfl (step_not Sub.rfl) ?_
          refine JL_nil ?_
          refine J_cond Sub.rfl (fun hc5 => ?_) (fun hc5 => ?_)
          · try simp only [decide_eq_true_eq, decide_eq_false_iff_not, Bool.and_eq_true, Bool.or_eq_true, Bool.and_eq_false_iff, Bool.or_eq_false_iff, Bool.not_eq_true', Bool.not_eq_false', Int.not_lt, Int.not_le, Bool.not_true, Bool.not_false] at hc5
            exfalso; simp_all
          · try simp only [decide_eq_true_eq, decide_eq_false_iff_not, Bool.and_eq_true, Bool.or_eq_true, Bool.and_eq_false_iff, Bool.or_eq_false_iff, Bool.not_eq_true', Bool.not_eq_false', Int.not_lt, Int.not_le, Bool.not_true, Bool.not_false] at hc5
            refine J_skip ?_
            refine K_roundN hst2 hpd2 ?_
            exact LSub.cons (by first | exact Sel.take (Sel.none _) | exact Sel.skip (Sel.take (Sel.none _)) | exact Sel.skip (Sel.skip (Sel.take (Sel.none _))) | exact Sel.skip (Sel.skip (Sel.skip (Sel.take (Sel.none _)))) | exact Sel.skip (Sel.skip (Sel.skip (Sel.skip (Sel.take (Sel.none _)))))) (SPs.rfl) (LSub.cons (by first | exact Sel.take (Sel.none _) | exact Sel.skip (Sel.take (Sel.none _)) | exact Sel.skip (Sel.skip (Sel.take (Sel.none _))) | exact Sel.skip (Sel.skip (Sel.skip (Sel.take (Sel.none _)))) | exact Sel.skip (Sel.skip (Sel.skip (Sel.skip (Sel.take (Sel.none _)))))) (SPs.of (by simp)) (LSub.nil))
      case done2 =>
        intro D2 xs hfin
        subst hfin
        refine J_region ?_
        refine JL_step rfl rfl rfl (step_add Sub.rfl Sub.rfl ?sg1) ?_
        case sg1 => unfold in64; omega
        refine JL_step rfl rfl rfl (step_move Sub.rfl) ?_
        refine JL_nil ?_
        refine K_againD (σ := Nat × List Nat) (s := (i, Ds)) (i + 1, D2 :: Ds) (by first | omega | (dsimp only; omega) | (simp_all; omega)) (by omega) (SubE.upd Sub.rfl (SubE.upd Sub.rfl (SubE.upd Sub.rfl (SubE.upd Sub.rfl (SubE.upd Sub.rfl (SubE.upd Sub.rfl SubE.any)))))) (LSub.trans (B := [dfB D2, stars (Ds.map dfB), M (((excl facts [] cands) ++ ((loweredR rules).take i).flatMap fun d => asgs d facts cands) ++ asgs (nth (loweredR rules) i) facts cands)]) (LSub.cons (by first | exact Sel.take (Sel.none _) | exact Sel.skip (Sel.take (Sel.none _)) | exact Sel.skip (Sel.skip (Sel.take (Sel.none _))) | exact Sel.skip (Sel.skip (Sel.skip (Sel.take (Sel.none _)))) | exact Sel.skip (Sel.skip (Sel.skip (Sel.skip (Sel.take (Sel.none _)))))) (SPs.rfl) (LSub.cons (by first | exact Sel.take (Sel.none _) | exact Sel.skip (Sel.take (Sel.none _)) | exact Sel.skip (Sel.skip (Sel.take (Sel.none _))) | exact Sel.skip (Sel.skip (Sel.skip (Sel.take (Sel.none _)))) | exact Sel.skip (Sel.skip (Sel.skip (Sel.skip (Sel.take (Sel.none _)))))) (SPs.rfl) (LSub.cons (by first | exact Sel.take (Sel.none _) | exact Sel.skip (Sel.take (Sel.none _)) | exact Sel.skip (Sel.skip (Sel.take (Sel.none _))) | exact Sel.skip (Sel.skip (Sel.skip (Sel.take (Sel.none _)))) | exact Sel.skip (Sel.skip (Sel.skip (Sel.skip (Sel.take (Sel.none _)))))) (SPs.rfl) (LSub.nil)))) (LSub.trans LSub.push (LSub.cons (by first | exact Sel.take (Sel.none _) | exact Sel.skip (Sel.take (Sel.none _)) | exact Sel.skip (Sel.skip (Sel.take (Sel.none _))) | exact Sel.skip (Sel.skip (Sel.skip (Sel.take (Sel.none _)))) | exact Sel.skip (Sel.skip (Sel.skip (Sel.skip (Sel.take (Sel.none _)))))) (SPs.of (A := M (((excl facts [] cands) ++ ((loweredR rules).take i).flatMap fun d => asgs d facts cands) ++ asgs (nth (loweredR rules) i) facts cands)) (by rw [wits_succ hlt, List.append_assoc])) (LSub.cons (by first | exact Sel.take (Sel.none _) | exact Sel.skip (Sel.take (Sel.none _)) | exact Sel.skip (Sel.skip (Sel.take (Sel.none _))) | exact Sel.skip (Sel.skip (Sel.skip (Sel.take (Sel.none _)))) | exact Sel.skip (Sel.skip (Sel.skip (Sel.skip (Sel.take (Sel.none _)))))) (SPs.rfl) (LSub.nil))))) rfl
      case stop2 =>
        intro D2 c2 xs
        refine K_stars (K_pure fun hcc => ?_)
        subst hcc
        refine J_ret ?_
        refine K_unmarks (Ds := D2 :: Ds) (L' := [Mx (((excl facts [] cands) ++ ((loweredR rules).take i).flatMap fun d => asgs d facts cands) ++ xs)]) ?_ ?_
        · exact LSub.trans (B := [dfB D2, stars (Ds.map dfB), Mx (((excl facts [] cands) ++ ((loweredR rules).take i).flatMap fun d => asgs d facts cands) ++ xs)]) (LSub.cons (by first | exact Sel.take (Sel.none _) | exact Sel.skip (Sel.take (Sel.none _)) | exact Sel.skip (Sel.skip (Sel.take (Sel.none _))) | exact Sel.skip (Sel.skip (Sel.skip (Sel.take (Sel.none _)))) | exact Sel.skip (Sel.skip (Sel.skip (Sel.skip (Sel.take (Sel.none _)))))) (SPs.rfl) (LSub.cons (by first | exact Sel.take (Sel.none _) | exact Sel.skip (Sel.take (Sel.none _)) | exact Sel.skip (Sel.skip (Sel.take (Sel.none _))) | exact Sel.skip (Sel.skip (Sel.skip (Sel.take (Sel.none _)))) | exact Sel.skip (Sel.skip (Sel.skip (Sel.skip (Sel.take (Sel.none _)))))) (SPs.rfl) (LSub.cons (by first | exact Sel.take (Sel.none _) | exact Sel.skip (Sel.take (Sel.none _)) | exact Sel.skip (Sel.skip (Sel.take (Sel.none _))) | exact Sel.skip (Sel.skip (Sel.skip (Sel.take (Sel.none _)))) | exact Sel.skip (Sel.skip (Sel.skip (Sel.skip (Sel.take (Sel.none _)))))) (SPs.rfl) (LSub.nil)))) LSub.push
        · refine K_itStop (Fin := fun p => p = (wits rules facts cands)) (M := M) (Mx := Mx) (A := []) ?_ (((excl facts [] cands) ++ ((loweredR rules).take i).flatMap fun d => asgs d facts cands) ++ xs) ?_
          · rfl
          · exact LSub.of rfl
    · try simp only [decide_eq_true_eq, decide_eq_false_iff_not, Bool.and_eq_true, Bool.or_eq_true, Bool.and_eq_false_iff, Bool.or_eq_false_iff, Bool.not_eq_true', Bool.not_eq_false', Int.not_lt, Int.not_le, Bool.not_true, Bool.not_false] at hc3
      refine J_exit ?_
      refine K_endRet (K_unmarks (L' := [M ((excl facts [] cands) ++ ((loweredR rules).take i).flatMap fun d => asgs d facts cands)]) (LSub.cons (by first | exact Sel.take (Sel.none _) | exact Sel.skip (Sel.take (Sel.none _)) | exact Sel.skip (Sel.skip (Sel.take (Sel.none _))) | exact Sel.skip (Sel.skip (Sel.skip (Sel.take (Sel.none _)))) | exact Sel.skip (Sel.skip (Sel.skip (Sel.skip (Sel.take (Sel.none _)))))) (SPs.rfl) (LSub.cons (by first | exact Sel.take (Sel.none _) | exact Sel.skip (Sel.take (Sel.none _)) | exact Sel.skip (Sel.skip (Sel.take (Sel.none _))) | exact Sel.skip (Sel.skip (Sel.skip (Sel.take (Sel.none _)))) | exact Sel.skip (Sel.skip (Sel.skip (Sel.skip (Sel.take (Sel.none _)))))) (SPs.rfl) (LSub.nil))) (K_itDone (Fin := fun p => p = (wits rules facts cands)) (M := M) (Mx := Mx) (A := []) ?_ (wits rules facts cands) rfl ?_))
      · rfl
      · exact LSub.of (by obtain rfl : i = (loweredR rules).length := (by omega); rw [List.take_length]; rfl)
  case stop1 =>
    intro D1 c1 xs
    refine K_stars (K_pure fun hcc => ?_)
    subst hcc
    refine J_ret ?_
    refine K_unmark (LSub.cons (by first | exact Sel.take (Sel.none _) | exact Sel.skip (Sel.take (Sel.none _)) | exact Sel.skip (Sel.skip (Sel.take (Sel.none _))) | exact Sel.skip (Sel.skip (Sel.skip (Sel.take (Sel.none _)))) | exact Sel.skip (Sel.skip (Sel.skip (Sel.skip (Sel.take (Sel.none _)))))) SPs.rfl LSub.rfl) ?_
    refine K_itStop (Fin := fun p => p = (wits rules facts cands)) (M := M) (Mx := Mx) (A := []) ?_ xs ?_
    · rfl
    · exact LSub.of rfl
theorem witnesses_spec (rules : List GRule) (facts : List GFact) (cands : List Int) : Fun1 Tryz.prog 37 [tSl rRule rules, tSl rFact facts, tSl rInt cands] (tClo 57 [tPtr (rSl rFact) facts, tPtr (rSl rInt) cands, tPtr (rSl rRule) rules]) := by
  refine Spec.enter Tryz.func37 rfl rfl fun h0 w0 fr0 => ?_
  refine J_seq ?_
  refine J_region ?_
  refine JL_step rfl rfl rfl (step_box (R := (rSl rRule)) Sub.rfl) ?_
  refine JL_step rfl rfl rfl (step_box (R := (rSl rFact)) Sub.rfl) ?_
  refine JL_step rfl rfl rfl (step_box (R := (rSl rInt)) Sub.rfl) ?_
  refine JL_step rfl rfl rfl (step_assign Sub.rfl) ?_
  refine JL_nil ?_
  refine J_seq ?_
  refine J_region ?_
  refine JL_step rfl rfl rfl (step_makeFunc (As := [_, _, _]) ⟨Sub.rfl, Sub.rfl, Sub.rfl, trivial⟩) ?_
  refine JL_step rfl rfl rfl (step_assign Sub.rfl) ?_
  refine JL_nil ?_
  refine J_ret ?_
  exact K_ret1 (t := 6) rfl () Sub.rfl
end Lg

namespace Lg
open Go Go.Proofs


def cmpL : List Int → List Int → Int
  | [], [] => 0
  | [], _ :: _ => -1
  | _ :: _, [] => 1
  | a :: x, b :: y => if ordI a b = 0 then cmpL x y else ordI a b
theorem ordI_zero {a b : Int} : ordI a b = 0 ↔ a = b := by unfold ordI; (repeat' split) <;> simp <;> omega
def smallB (n : Nat) : ByteArray := if n < 10 then (⟨#[48, 49, 50, 51, 52, 53, 54, 55, 56, 57, 97, 98, 99, 100, 101, 102, 103, 104, 105, 106, 107, 108, 109, 110, 111, 112, 113, 114, 115, 116, 117, 118, 119, 120, 121, 122]⟩ : ByteArray).extract n (n + 1) else (⟨#[48, 48, 48, 49, 48, 50, 48, 51, 48, 52, 48, 53, 48, 54, 48, 55, 48, 56, 48, 57, 49, 48, 49, 49, 49, 50, 49, 51, 49, 52, 49, 53, 49, 54, 49, 55, 49, 56, 49, 57, 50, 48, 50, 49, 50, 50, 50, 51, 50, 52, 50, 53, 50, 54, 50, 55, 50, 56, 50, 57, 51, 48, 51, 49, 51, 50, 51, 51, 51, 52, 51, 53, 51, 54, 51, 55, 51, 56, 51, 57, 52, 48, 52, 49, 52, 50, 52, 51, 52, 52, 52, 53, 52, 54, 52, 55, 52, 56, 52, 57, 53, 48, 53, 49, 53, 50, 53, 51, 53, 52, 53, 53, 53, 54, 53, 55, 53, 56, 53, 57, 54, 48, 54, 49, 54, 50, 54, 51, 54, 52, 54, 53, 54, 54, 54, 55, 54, 56, 54, 57, 55, 48, 55, 49, 55, 50, 55, 51, 55, 52, 55, 53, 55, 54, 55, 55, 55, 56, 55, 57, 56, 48, 56, 49, 56, 50, 56, 51, 56, 52, 56, 53, 56, 54, 56, 55, 56, 56, 56, 57, 57, 48, 57, 49, 57, 50, 57, 51, 57, 52, 57, 53, 57, 54, 57, 55, 57, 56, 57, 57]⟩ : ByteArray).extract (n * 2) (n * 2 + 2)
set_option maxRecDepth 100000 in
theorem smallB_digits : ∀ n : Nat, n < 100 → bytesOf (smallB n) = if n < 10 then [48 + (n : Int)] else [48 + ((n / 10 : Nat) : Int), 48 + ((n % 10 : Nat) : Int)] := by decide
theorem smallB_pos {n : Nat} (h : n < 100) : 0 < (smallB n).size ∧ (smallB n).size ≤ 2 := by
  have := smallB_digits n h
  have hl := bytesOf_len (smallB n)
  rw [this] at hl
  split at hl <;> simp at hl <;> omega
/-- The bytes of a set's name. -/
def nameL (l : List Int) : List Int := l.flatMap fun x => bytesOf (smallB x.toNat) ++ [32]
def nameB (l : List Int) : ByteArray := ofBytes (nameL l)
theorem nameL_len {l : List Int} (h : ∀ x ∈ l, 0 ≤ x ∧ x < 100) : (nameL l).length ≤ 3 * l.length := by
  induction l with
  | nil => simp [nameL]
  | cons a l ih =>
    have h1 := ih fun x hx => h x (by simp [hx])
    have h2 := smallB_pos (n := a.toNat) (by have := h a (by simp); omega)
    have h3 := bytesOf_len (smallB a.toNat)
    simp only [nameL, List.flatMap_cons, List.length_append, List.length_cons, List.length_nil] at h1 ⊢
    omega

theorem isNaN_spec (a : Int) : Fun1 Tryz.prog 99 [tV (.int .i64 a)] (tV (.bool false)) := by
  refine Spec.enter Tryz.func99 rfl rfl fun h0 w0 fr0 => ?_
  refine J_seq ?_
  refine J_region ?_
  refine JL_step rfl rfl rfl (step_assign Sub.rfl) ?_
  refine JL_nil ?_
  refine J_seq ?_
  refine J_region ?_
  refine JL_step rfl rfl rfl (step_move Sub.rfl) ?_
  refine JL_step rfl rfl rfl (step_move Sub.rfl) ?_
  refine JL_step rfl rfl rfl (step_neq Sub.rfl Sub.rfl) ?_
  refine JL_step rfl rfl rfl (step_assign Sub.rfl) ?_
  refine JL_nil ?_
  refine J_ret ?_
  refine K_ret1 (t := 2) rfl () ?_
  refine Sub.bool ?_
  simp
theorem cmpCompare_spec (a b : Int) : Fun1 Tryz.prog 74 [tV (.int .i64 a), tV (.int .i64 b)] (tV (.int .i64 (ordI a b))) := by
  refine Spec.enter Tryz.func74 rfl rfl fun h0 w0 fr0 => ?_
  refine J_seq ?_
  refine J_region ?_
  refine JL_step rfl rfl rfl (step_assign Sub.rfl) ?_
  refine JL_nil ?_
  refine J_seq ?_
  refine J_region ?_
  refine JL_step rfl rfl rfl (step_move Sub.rfl) ?_
  refine JL_step rfl rfl rfl (step_call0 (isNaN_spec _) ⟨Sub.rfl, trivial⟩ Tryz.call99) ?_
  refine JL_step rfl rfl rfl (step_assign Sub.rfl) ?_
  refine JL_nil ?_
  refine J_seq ?_
  refine J_region ?_
  refine JL_step rfl rfl rfl (step_move Sub.rfl) ?_
  refine JL_step rfl rfl rfl (step_call0 (isNaN_spec _) ⟨Sub.rfl, trivial⟩ Tryz.call99) ?_
  refine JL_step rfl rfl rfl (step_assign Sub.rfl) ?_
  refine JL_nil ?_
  refine J_seq ?_
  refine J_seq ?_
  refine J_region ?_
  refine JL_step rfl rfl rfl (step_move Sub.rfl) ?_
  refine JL_nil ?_
  refine J_cond Sub.rfl (fun hc1 => ?_) (fun hc1 => ?_)
  · try simp only [decide_eq_true_eq, decide_eq_false_iff_not, Bool.and_eq_true, Bool.or_eq_true, Bool.and_eq_false_iff, Bool.or_eq_false_iff, Bool.not_eq_true', Bool.not_eq_false', Int.not_lt, Int.not_le, Bool.not_true, Bool.not_false] at hc1
    cases hc1
  · try simp only [decide_eq_true_eq, decide_eq_false_iff_not, Bool.and_eq_true, Bool.or_eq_true, Bool.and_eq_false_iff, Bool.or_eq_false_iff, Bool.not_eq_true', Bool.not_eq_false', Int.not_lt, Int.not_le, Bool.not_true, Bool.not_false] at hc1
    refine J_skip ?_
    refine J_seq ?_
    refine J_seq ?_
    refine J_region ?_
    refine JL_step rfl rfl rfl (step_move Sub.rfl) ?_
    refine JL_nil ?_
    refine J_cond Sub.rfl (fun hc2 => ?_) (fun hc2 => ?_)
    · try simp only [decide_eq_true_eq, decide_eq_false_iff_not, Bool.and_eq_true, Bool.or_eq_true, Bool.and_eq_false_iff, Bool.or_eq_false_iff, Bool.not_eq_true', Bool.not_eq_false', Int.not_lt, Int.not_le, Bool.not_true, Bool.not_false] at hc2
      cases hc2
    · try simp only [decide_eq_true_eq, decide_eq_false_iff_not, Bool.and_eq_true, Bool.or_eq_true, Bool.and_eq_false_iff, Bool.or_eq_false_iff, Bool.not_eq_true', Bool.not_eq_false', Int.not_lt, Int.not_le, Bool.not_true, Bool.not_false] at hc2
      refine J_skip ?_
      refine J_seq ?_
      refine J_seq ?_
      refine J_region ?_
      refine JL_step rfl rfl rfl (step_move Sub.rfl) ?_
      refine JL_step rfl rfl rfl (step_move Sub.rfl) ?_
      refine JL_step rfl rfl rfl (step_lss Sub.rfl Sub.rfl) ?_
      refine JL_nil ?_
      refine J_cond Sub.rfl (fun hc3 => ?_) (fun hc3 => ?_)
      · try simp only [decide_eq_true_eq, decide_eq_false_iff_not, Bool.and_eq_true, Bool.or_eq_true, Bool.and_eq_false_iff, Bool.or_eq_false_iff, Bool.not_eq_true', Bool.not_eq_false', Int.not_lt, Int.not_le, Bool.not_true, Bool.not_false] at hc3
        refine J_seq ?_
        refine J_region ?_
        refine JL_step rfl rfl rfl (step_assign Sub.rfl) ?_
        refine JL_nil ?_
        refine J_ret ?_
        refine K_ret1 (t := 4) rfl () ?_
        refine Sub.int ?_
        simp [ordI, *]
      · try simp only [decide_eq_true_eq, decide_eq_false_iff_not, Bool.and_eq_true, Bool.or_eq_true, Bool.and_eq_false_iff, Bool.or_eq_false_iff, Bool.not_eq_true', Bool.not_eq_false', Int.not_lt, Int.not_le, Bool.not_true, Bool.not_false] at hc3
        refine J_skip ?_
        refine J_seq ?_
        refine J_seq ?_
        refine J_region ?_
        refine JL_step rfl rfl rfl (step_move Sub.rfl) ?_
        refine JL_step rfl rfl rfl (step_move Sub.rfl) ?_
        refine JL_step rfl rfl rfl (step_gtr Sub.rfl Sub.rfl) ?_
        refine JL_nil ?_
        refine J_cond Sub.rfl (fun hc4 => ?_) (fun hc4 => ?_)
        · try simp only [decide_eq_true_eq, decide_eq_false_iff_not, Bool.and_eq_true, Bool.or_eq_true, Bool.and_eq_false_iff, Bool.or_eq_false_iff, Bool.not_eq_true', Bool.not_eq_false', Int.not_lt, Int.not_le, Bool.not_true, Bool.not_false] at hc4
          refine J_seq ?_
          refine J_region ?_
          refine JL_step rfl rfl rfl (step_assign Sub.rfl) ?_
          refine JL_nil ?_
          refine J_ret ?_
          refine K_ret1 (t := 4) rfl () ?_
          refine Sub.int ?_
          have : ¬ a < b := by omega
          simp [ordI, *]
        · try simp only [decide_eq_true_eq, decide_eq_false_iff_not, Bool.and_eq_true, Bool.or_eq_true, Bool.and_eq_false_iff, Bool.or_eq_false_iff, Bool.not_eq_true', Bool.not_eq_false', Int.not_lt, Int.not_le, Bool.not_true, Bool.not_false] at hc4
          refine J_skip ?_
          refine J_seq ?_
          refine J_region ?_
          refine JL_step rfl rfl rfl (step_assign Sub.rfl) ?_
          refine JL_nil ?_
          refine J_ret ?_
          refine K_ret1 (t := 4) rfl () ?_
          refine Sub.int ?_
          have h1 : ¬ a < b := by omega
          have h2 : ¬ b < a := by omega
          simp [ordI, h1, h2]
theorem CompareL_spec (a b : List Int) (ha : a.length ≤ 1000000000000) (hb : b.length ≤ 1000000000000) : Fun1 Tryz.prog 56 [tSl rInt a, tSl rInt b] (tV (.int .i64 (cmpL a b))) := by
  refine Spec.enter Tryz.func56 rfl rfl fun h0 w0 fr0 => ?_
  refine J_seq ?_
  refine J_region ?_
  refine JL_step rfl rfl rfl (step_assign Sub.rfl) ?_
  refine JL_nil ?_
  refine J_seq ?_
  refine J_seq ?_
  refine J_region ?_
  refine JL_step rfl rfl rfl (step_move Sub.rfl) ?_
  refine JL_step rfl rfl rfl (step_len_sl Tryz.underlying24 Sub.rfl) ?_
  refine JL_step rfl rfl rfl (step_move Sub.rfl) ?_
  refine JL_nil ?_
  refine J_block ?_
  refine J_loopL (σ := Nat) (fun i => i ≤ a.length ∧ i ≤ b.length ∧ cmpL a b = cmpL (a.drop i) (b.drop i)) (fun i => upd (upd (upd (upd (upd env0 0 (tSl rInt a)) 1 (tSl rInt b)) 9 (tSl rInt a)) 10 (tV (.int .i64 a.length))) 11 (tV (.int .i64 i))) (fun i => []) (fun i => a.length - i) 0 ⟨by omega, by omega, by simp⟩ (SubE.upd Sub.rfl (SubE.upd Sub.rfl (SubE.upd Sub.rfl (SubE.upd Sub.rfl (SubE.upd Sub.rfl SubE.any))))) (LSub.rfl) ?_
  rintro i ⟨hi, hj, hv⟩
  refine J_seq ?_
  refine J_region ?_
  refine JL_step rfl rfl rfl (step_lss Sub.rfl Sub.rfl) ?_
  refine JL_nil ?_
  refine J_seq ?_
  refine J_cond Sub.rfl (fun h12 => ?_) (fun h12 => ?_)
  · try simp only [decide_eq_true_eq, decide_eq_false_iff_not, Bool.and_eq_true, Bool.or_eq_true, Bool.and_eq_false_iff, Bool.or_eq_false_iff, Bool.not_eq_true', Bool.not_eq_false', Int.not_lt, Int.not_le, Bool.not_true, Bool.not_false] at h12
    have hlt : i < a.length := by omega
    have hd := dropB hlt
    refine J_skip ?_
    refine J_seq ?_
    refine J_block ?_
    refine J_seq ?_
    refine J_region ?_
    refine JL_step rfl rfl rfl (step_move Sub.rfl) ?_
    refine JL_step rfl rfl rfl (step_indexAddr_sl  Tryz.underlying24 ty3 Sub.rfl Sub.rfl rfl (gb ?sg1)) ?_
    case sg1 => first | assumption | omega
    refine JL_step rfl rfl rfl (step_load_ptr ty3 Sub.rfl) ?_
    refine JL_step rfl rfl rfl (step_assign Sub.rfl) ?_
    refine JL_step rfl rfl rfl (step_assign Sub.rfl) ?_
    refine JL_nil ?_
    refine J_seq ?_
    refine J_seq ?_
    refine J_region ?_
    refine JL_step rfl rfl rfl (step_move Sub.rfl) ?_
    refine JL_step rfl rfl rfl (step_move Sub.rfl) ?_
    refine JL_step rfl rfl rfl (step_len_sl Tryz.underlying24 Sub.rfl) ?_
    refine JL_step rfl rfl rfl (step_geq Sub.rfl Sub.rfl) ?_
    refine JL_nil ?_
    refine J_cond Sub.rfl (fun h19 => ?_) (fun h19 => ?_)
    · try simp only [decide_eq_true_eq, decide_eq_false_iff_not, Bool.and_eq_true, Bool.or_eq_true, Bool.and_eq_false_iff, Bool.or_eq_false_iff, Bool.not_eq_true', Bool.not_eq_false', Int.not_lt, Int.not_le, Bool.not_true, Bool.not_false] at h19
      refine J_seq ?_
      refine J_region ?_
      refine JL_step rfl rfl rfl (step_assign Sub.rfl) ?_
      refine JL_nil ?_
      refine J_ret ?_
      refine K_ret1 (t := 4) rfl () ?_
      refine Sub.int ?_
      obtain rfl : i = b.length := by omega
      rw [hv, hd, List.drop_length]; rfl
    · try simp only [decide_eq_true_eq, decide_eq_false_iff_not, Bool.and_eq_true, Bool.or_eq_true, Bool.and_eq_false_iff, Bool.or_eq_false_iff, Bool.not_eq_true', Bool.not_eq_false', Int.not_lt, Int.not_le, Bool.not_true, Bool.not_false] at h19
      have hlu : i < b.length := by omega
      have he := dropB hlu
      refine J_skip ?_
      refine J_seq ?_
      refine J_region ?_
      refine JL_step rfl rfl rfl (step_move Sub.rfl) ?_
      refine JL_step rfl rfl rfl (step_move Sub.rfl) ?_
      refine JL_step rfl rfl rfl (step_indexAddr_sl  Tryz.underlying24 ty3 Sub.rfl Sub.rfl rfl (gb ?sg1)) ?_
      case sg1 => first | assumption | omega
      refine JL_step rfl rfl rfl (step_load_ptr ty3 Sub.rfl) ?_
      refine JL_step rfl rfl rfl (step_assign Sub.rfl) ?_
      refine JL_nil ?_
      refine J_seq ?_
      refine J_region ?_
      refine JL_step rfl rfl rfl (step_move Sub.rfl) ?_
      refine JL_step rfl rfl rfl (step_move Sub.rfl) ?_
      refine JL_step rfl rfl rfl (step_call0 (cmpCompare_spec _ _) ⟨Sub.rfl, Sub.rfl, trivial⟩ Tryz.call74) ?_
      refine JL_step rfl rfl rfl (step_assign Sub.rfl) ?_
      refine JL_nil ?_
      refine J_seq ?_
      refine J_region ?_
      refine JL_step rfl rfl rfl (step_move Sub.rfl) ?_
      refine JL_step rfl rfl rfl (step_neq Sub.rfl Sub.rfl) ?_
      refine JL_nil ?_
      refine J_cond Sub.rfl (fun h28 => ?_) (fun h28 => ?_)
      · try simp only [decide_eq_true_eq, decide_eq_false_iff_not, Bool.and_eq_true, Bool.or_eq_true, Bool.and_eq_false_iff, Bool.or_eq_false_iff, Bool.not_eq_true', Bool.not_eq_false', Int.not_lt, Int.not_le, Bool.not_true, Bool.not_false] at h28
        refine J_seq ?_
        refine J_region ?_
        refine JL_step rfl rfl rfl (step_move Sub.rfl) ?_
        refine JL_step rfl rfl rfl (step_assign Sub.rfl) ?_
        refine JL_nil ?_
        refine J_ret ?_
        refine K_ret1 (t := 4) rfl () ?_
        refine Sub.int ?_
        rw [hv, hd, he]; simp only [cmpL]; rw [if_neg h28]
      · try simp only [decide_eq_true_eq, decide_eq_false_iff_not, Bool.and_eq_true, Bool.or_eq_true, Bool.and_eq_false_iff, Bool.or_eq_false_iff, Bool.not_eq_true', Bool.not_eq_false', Int.not_lt, Int.not_le, Bool.not_true, Bool.not_false] at h28
        refine J_skip ?_
        refine J_region ?_
        refine JL_step rfl rfl rfl (step_add Sub.rfl Sub.rfl ?sg1) ?_
        case sg1 => unfold in64; omega
        refine JL_step rfl rfl rfl (step_move Sub.rfl) ?_
        refine JL_nil ?_
        refine K_againL (σ := Nat) (s := i) (i + 1) (by first | omega | (dsimp only; omega) | (simp_all; omega)) ?_ (SubE.upd Sub.rfl (SubE.upd Sub.rfl (SubE.upd Sub.rfl (SubE.upd Sub.rfl (SubE.upd Sub.rfl SubE.any))))) (LSub.rfl)
        refine ⟨by omega, by omega, ?_⟩
        rw [hv, hd, he]; simp only [cmpL]; rw [if_pos (by assumption)]
  · try simp only [decide_eq_true_eq, decide_eq_false_iff_not, Bool.and_eq_true, Bool.or_eq_true, Bool.and_eq_false_iff, Bool.or_eq_false_iff, Bool.not_eq_true', Bool.not_eq_false', Int.not_lt, Int.not_le, Bool.not_true, Bool.not_false] at h12
    refine J_exit ?_
    refine J_seq ?_
    refine J_seq ?_
    refine J_region ?_
    refine JL_step rfl rfl rfl (step_move Sub.rfl) ?_
    refine JL_step rfl rfl rfl (step_len_sl Tryz.underlying24 Sub.rfl) ?_
    refine JL_step rfl rfl rfl (step_move Sub.rfl) ?_
    refine JL_step rfl rfl rfl (step_len_sl Tryz.underlying24 Sub.rfl) ?_
    refine JL_step rfl rfl rfl (step_lss Sub.rfl Sub.rfl) ?_
    refine JL_nil ?_
    refine J_cond Sub.rfl (fun h35 => ?_) (fun h35 => ?_)
    · try simp only [decide_eq_true_eq, decide_eq_false_iff_not, Bool.and_eq_true, Bool.or_eq_true, Bool.and_eq_false_iff, Bool.or_eq_false_iff, Bool.not_eq_true', Bool.not_eq_false', Int.not_lt, Int.not_le, Bool.not_true, Bool.not_false] at h35
      refine J_seq ?_
      refine J_region ?_
      refine JL_step rfl rfl rfl (step_assign Sub.rfl) ?_
      refine JL_nil ?_
      refine J_ret ?_
      refine K_ret1 (t := 4) rfl () ?_
      refine Sub.int ?_
      obtain rfl : i = a.length := by omega
      have hlu : a.length < b.length := by omega
      rw [hv, List.drop_length, dropB hlu]; rfl
    · try simp only [decide_eq_true_eq, decide_eq_false_iff_not, Bool.and_eq_true, Bool.or_eq_true, Bool.and_eq_false_iff, Bool.or_eq_false_iff, Bool.not_eq_true', Bool.not_eq_false', Int.not_lt, Int.not_le, Bool.not_true, Bool.not_false] at h35
      refine J_skip ?_
      refine J_seq ?_
      refine J_region ?_
      refine JL_step rfl rfl rfl (step_assign Sub.rfl) ?_
      refine JL_nil ?_
      refine J_ret ?_
      refine K_ret1 (t := 4) rfl () ?_
      refine Sub.int ?_
      obtain rfl : i = a.length := by omega
      rw [hv, List.drop_length, List.drop_of_length_le (by omega)]; rfl
theorem small_spec (n : Nat) (hn : n < 100) : Fun1 Tryz.prog 114 [tV (.int .i64 n)] (tV (.string (smallB n))) := by
  refine Spec.enter Tryz.func114 rfl rfl fun h0 w0 fr0 => ?_
  refine J_seq ?_
  refine J_region ?_
  refine JL_step rfl rfl rfl (step_assign Sub.rfl) ?_
  refine JL_nil ?_
  refine J_seq ?_
  refine J_seq ?_
  refine J_region ?_
  refine JL_step rfl rfl rfl (step_move Sub.rfl) ?_
  refine JL_step rfl rfl rfl (step_lss Sub.rfl Sub.rfl) ?_
  refine JL_nil ?_
  refine J_cond Sub.rfl (fun h4 => ?_) (fun h4 => ?_)
  · try simp only [decide_eq_true_eq, decide_eq_false_iff_not, Bool.and_eq_true, Bool.or_eq_true, Bool.and_eq_false_iff, Bool.or_eq_false_iff, Bool.not_eq_true', Bool.not_eq_false', Int.not_lt, Int.not_le, Bool.not_true, Bool.not_false] at h4
    refine J_seq ?_
    refine J_region ?_
    refine JL_step rfl rfl rfl (step_move Sub.rfl) ?_
    refine JL_step rfl rfl rfl (step_move Sub.rfl) ?_
    refine JL_step rfl rfl rfl (step_add Sub.rfl Sub.rfl ?sg1) ?_
    case sg1 => unfold in64; omega
    refine JL_step rfl rfl rfl (step_slice_str (i := n) (j := n + 1) Tryz.underlying9 Sub.rfl Sub.rfl Sub.rfl ?sg1 ?sg2 ?sg3 ?sg4) ?_
    case sg1 => rfl
    case sg2 => rfl
    case sg3 => omega
    case sg4 => show n + 1 ≤ 36; omega
    refine JL_step rfl rfl rfl (step_assign Sub.rfl) ?_
    refine JL_nil ?_
    refine J_ret ?_
    refine K_ret1 (t := 2) rfl () ?_
    refine Sub.v ?_
    unfold smallB; rw [if_pos (by omega)]
  · try simp only [decide_eq_true_eq, decide_eq_false_iff_not, Bool.and_eq_true, Bool.or_eq_true, Bool.and_eq_false_iff, Bool.or_eq_false_iff, Bool.not_eq_true', Bool.not_eq_false', Int.not_lt, Int.not_le, Bool.not_true, Bool.not_false] at h4
    refine J_skip ?_
    refine J_seq ?_
    refine J_region ?_
    refine JL_step rfl rfl rfl (step_move Sub.rfl) ?_
    refine JL_step rfl rfl rfl (step_mul Sub.rfl Sub.rfl ?sg1) ?_
    case sg1 => unfold in64; omega
    refine JL_step rfl rfl rfl (step_move Sub.rfl) ?_
    refine JL_step rfl rfl rfl (step_mul Sub.rfl Sub.rfl ?sg1) ?_
    case sg1 => unfold in64; omega
    refine JL_step rfl rfl rfl (step_add Sub.rfl Sub.rfl ?sg1) ?_
    case sg1 => unfold in64; omega
    refine JL_step rfl rfl rfl (step_slice_str (i := n * 2) (j := n * 2 + 2) Tryz.underlying9 Sub.rfl Sub.rfl Sub.rfl ?sg1 ?sg2 ?sg3 ?sg4) ?_
    case sg1 => omega
    case sg2 => omega
    case sg3 => omega
    case sg4 => show n * 2 + 2 ≤ 200; omega
    refine JL_step rfl rfl rfl (step_assign Sub.rfl) ?_
    refine JL_nil ?_
    refine J_ret ?_
    refine K_ret1 (t := 2) rfl () ?_
    refine Sub.v ?_
    unfold smallB; rw [if_neg (by omega)]
    rfl
theorem AppendUint_spec (v : Value) (xs : List Int) (n : Nat) (hn : n < 100) (hx : xs.length ≤ 100000000000) : Spec (X := Value) Tryz.prog 106 [rV.ty v, tV (.int .u64 n), tV (.int .i64 10)] ([own 5 rU8 v xs]) (fun z => rV.ty z) (fun z => [own 5 rU8 z (xs ++ bytesOf (smallB n))]) := by
  refine Spec.enter Tryz.func106 rfl rfl fun h0 w0 fr0 => ?_
  refine J_seq ?_
  refine J_region ?_
  refine JL_step rfl rfl rfl (step_assign Sub.rfl) ?_
  refine JL_nil ?_
  refine J_seq ?_
  refine J_seq ?_
  refine J_region ?_
  refine JL_step rfl rfl rfl (step_move Sub.rfl) ?_
  refine JL_step rfl rfl rfl (step_eql Sub.rfl Sub.rfl) ?_
  refine JL_nil ?_
  refine J_cond Sub.rfl (fun hc1 => ?_) (fun hc1 => ?_)
  · try simp only [decide_eq_true_eq, decide_eq_false_iff_not, Bool.and_eq_true, Bool.or_eq_true, Bool.and_eq_false_iff, Bool.or_eq_false_iff, Bool.not_eq_true', Bool.not_eq_false', Int.not_lt, Int.not_le, Bool.not_true, Bool.not_false] at hc1
    refine J_seq ?_
    refine J_seq ?_
    refine J_region ?_
    refine JL_step rfl rfl rfl (step_move Sub.rfl) ?_
    refine JL_step rfl rfl rfl (step_lss Sub.rfl Sub.rfl) ?_
    refine JL_nil ?_
    refine J_cond Sub.rfl (fun hc2 => ?_) (fun hc2 => ?_)
    · try simp only [decide_eq_true_eq, decide_eq_false_iff_not, Bool.and_eq_true, Bool.or_eq_true, Bool.and_eq_false_iff, Bool.or_eq_false_iff, Bool.not_eq_true', Bool.not_eq_false', Int.not_lt, Int.not_le, Bool.not_true, Bool.not_false] at hc2
      refine J_seq ?_
      refine J_region ?_
      refine JL_step rfl rfl rfl (step_move Sub.rfl) ?_
      refine JL_step rfl rfl rfl (step_move Sub.rfl) ?_
      refine JL_step rfl rfl rfl (step_convert_int (m := (n : Int)) Tryz.underlying124 Tryz.underlying3 Sub.rfl ?sg1) ?_
      case sg1 => simp [IntKind.wrap, IntKind.bits, IntKind.signed]; omega
      refine JL_step rfl rfl rfl (step_call0 (small_spec n hn) ⟨Sub.rfl, trivial⟩ Tryz.call114) ?_
      refine JL_stepX rfl rfl rfl (step_append_str Tryz.underlying100 Tryz.underlying9 el5 Sub.rfl Sub.rfl (by first | exact Sel.take (Sel.none _) | exact Sel.skip (Sel.take (Sel.none _)) | exact Sel.skip (Sel.skip (Sel.take (Sel.none _))) | exact Sel.skip (Sel.skip (Sel.skip (Sel.take (Sel.none _)))) | exact Sel.skip (Sel.skip (Sel.skip (Sel.skip (Sel.take (Sel.none _)))))) ?sg1 ?sg2) fun u => ?_
      case sg1 => exact (smallB_pos hn).1
      case sg2 => have := (smallB_pos hn).2; omega
      refine JL_step rfl rfl rfl (step_assign Sub.rfl) ?_
      refine JL_nil ?_
      refine J_ret ?_
      refine K_retv (rv := .tmp 6) rfl u (.tmp Sub.rfl) Sub.rfl
    · try simp only [decide_eq_true_eq, decide_eq_false_iff_not, Bool.and_eq_true, Bool.or_eq_true, Bool.and_eq_false_iff, Bool.or_eq_false_iff, Bool.not_eq_true', Bool.not_eq_false', Int.not_lt, Int.not_le, Bool.not_true, Bool.not_false] at hc2
      exfalso; omega
  · try simp only [decide_eq_true_eq, decide_eq_false_iff_not, Bool.and_eq_true, Bool.or_eq_true, Bool.and_eq_false_iff, Bool.or_eq_false_iff, Bool.not_eq_true', Bool.not_eq_false', Int.not_lt, Int.not_le, Bool.not_true, Bool.not_false] at hc1
    simp at hc1
theorem AppendInt_spec (v : Value) (xs : List Int) (n : Nat) (hn : n < 100) (hx : xs.length ≤ 100000000000) : Spec (X := Value) Tryz.prog 88 [rV.ty v, tV (.int .i64 n), tV (.int .i64 10)] ([own 5 rU8 v xs]) (fun z => rV.ty z) (fun z => [own 5 rU8 z (xs ++ bytesOf (smallB n))]) := by
  refine Spec.enter Tryz.func88 rfl rfl fun h0 w0 fr0 => ?_
  refine J_seq ?_
  refine J_region ?_
  refine JL_step rfl rfl rfl (step_assign Sub.rfl) ?_
  refine JL_nil ?_
  refine J_seq ?_
  refine J_region ?_
  refine JL_step rfl rfl rfl (step_move Sub.rfl) ?_
  refine JL_step rfl rfl rfl (step_convert_int (m := (n : Int)) Tryz.underlying2 Tryz.underlying124 Sub.rfl ?sg1) ?_
  case sg1 => simp [IntKind.wrap, IntKind.bits, IntKind.signed]; omega
  refine JL_step rfl rfl rfl (step_assign Sub.rfl) ?_
  refine JL_nil ?_
  refine J_seq ?_
  refine J_seq ?_
  refine J_region ?_
  refine JL_step rfl rfl rfl (step_move Sub.rfl) ?_
  refine JL_step rfl rfl rfl (step_lss Sub.rfl Sub.rfl) ?_
  refine JL_nil ?_
  refine J_cond Sub.rfl (fun hc1 => ?_) (fun hc1 => ?_)
  · try simp only [decide_eq_true_eq, decide_eq_false_iff_not, Bool.and_eq_true, Bool.or_eq_true, Bool.and_eq_false_iff, Bool.or_eq_false_iff, Bool.not_eq_true', Bool.not_eq_false', Int.not_lt, Int.not_le, Bool.not_true, Bool.not_false] at hc1
    exfalso; omega
  · try simp only [decide_eq_true_eq, decide_eq_false_iff_not, Bool.and_eq_true, Bool.or_eq_true, Bool.and_eq_false_iff, Bool.or_eq_false_iff, Bool.not_eq_true', Bool.not_eq_false', Int.not_lt, Int.not_le, Bool.not_true, Bool.not_false] at hc1
    refine J_skip ?_
    refine J_seq ?_
    refine J_region ?_
    refine JL_step rfl rfl rfl (step_move Sub.rfl) ?_
    refine JL_step rfl rfl rfl (step_move Sub.rfl) ?_
    refine JL_step rfl rfl rfl (step_move Sub.rfl) ?_
    refine JL_stepX rfl rfl rfl (step_call (by first | exact Sel.take (Sel.none _) | exact Sel.skip (Sel.take (Sel.none _)) | exact Sel.skip (Sel.skip (Sel.take (Sel.none _))) | exact Sel.skip (Sel.skip (Sel.skip (Sel.take (Sel.none _)))) | exact Sel.skip (Sel.skip (Sel.skip (Sel.skip (Sel.take (Sel.none _)))))) (AppendUint_spec _ _ n hn hx) ⟨Sub.rfl, Sub.rfl, Sub.rfl, trivial⟩ Tryz.call106) fun u => ?_
    refine JL_step rfl rfl rfl (step_assign Sub.rfl) ?_
    refine JL_nil ?_
    refine J_ret ?_
    refine K_retv (rv := .tmp 6) rfl u (.tmp Sub.rfl) Sub.rfl
theorem AppendInt__spec (v : Value) (xs : List Int) (n : Nat) (hn : n < 100) (hx : xs.length ≤ 100000000000) : Spec (X := Value) Tryz.prog 71 [rV.ty v, tV (.int .i64 n), tV (.int .i64 10)] ([own 5 rU8 v xs]) (fun z => rV.ty z) (fun z => [own 5 rU8 z (xs ++ bytesOf (smallB n))]) := by
  refine Spec.enter Tryz.func71 rfl rfl fun h0 w0 fr0 => ?_
  refine J_seq ?_
  refine J_region ?_
  refine JL_step rfl rfl rfl (step_assign Sub.rfl) ?_
  refine JL_nil ?_
  refine J_seq ?_
  refine J_region ?_
  refine JL_step rfl rfl rfl (step_move Sub.rfl) ?_
  refine JL_step rfl rfl rfl (step_move Sub.rfl) ?_
  refine JL_step rfl rfl rfl (step_move Sub.rfl) ?_
  refine JL_stepX rfl rfl rfl (step_call (by first | exact Sel.take (Sel.none _) | exact Sel.skip (Sel.take (Sel.none _)) | exact Sel.skip (Sel.skip (Sel.take (Sel.none _))) | exact Sel.skip (Sel.skip (Sel.skip (Sel.take (Sel.none _)))) | exact Sel.skip (Sel.skip (Sel.skip (Sel.skip (Sel.take (Sel.none _)))))) (AppendInt_spec _ _ n hn hx) ⟨Sub.rfl, Sub.rfl, Sub.rfl, trivial⟩ Tryz.call88) fun u => ?_
  refine JL_step rfl rfl rfl (step_assign Sub.rfl) ?_
  refine JL_nil ?_
  refine J_ret ?_
  refine K_retv (rv := .tmp 6) rfl u (.tmp Sub.rfl) Sub.rfl
theorem name_spec (l : List Int) (hl : l.length ≤ 1000000) (hb : ∀ x ∈ l, 0 ≤ x ∧ x < 100) : Fun1 Tryz.prog 54 [tSl rInt l] (tV (.string (nameB l))) := by
  refine Spec.enter Tryz.func54 rfl rfl fun h0 w0 fr0 => ?_
  refine J_seq ?_
  refine J_region ?_
  refine JL_step rfl rfl rfl (step_assign Sub.rfl) ?_
  refine JL_nil ?_
  refine J_seq ?_
  refine J_region ?_
  refine JL_step rfl rfl rfl (step_assign Sub.rfl) ?_
  refine JL_nil ?_
  refine J_seq ?_
  refine J_seq ?_
  refine J_region ?_
  refine JL_step rfl rfl rfl (step_move Sub.rfl) ?_
  refine JL_step rfl rfl rfl (step_len_sl Tryz.underlying24 Sub.rfl) ?_
  refine JL_step rfl rfl rfl (step_move Sub.rfl) ?_
  refine JL_nil ?_
  refine J_block ?_
  refine J_loopL (σ := Nat × Value) (fun ⟨i, v⟩ => i ≤ l.length) (fun ⟨i, v⟩ => upd (upd (upd (upd env0 3 (rV.ty v)) 6 (tSl rInt l)) 7 (tV (.int .i64 l.length))) 8 (tV (.int .i64 i))) (fun ⟨i, v⟩ => [own 5 rU8 v (nameL (l.take i))]) (fun ⟨i, v⟩ => l.length - i) (0, .slice none 0 0) (by simp) (SubE.upd Sub.rfl (SubE.upd Sub.rfl (SubE.upd Sub.rfl (SubE.upd (Sub.rV rfl) SubE.any)))) (LSub.nilown) ?_
  rintro ⟨i, v⟩ hi
  try dsimp only at hi
  refine J_seq ?_
  refine J_region ?_
  refine JL_step rfl rfl rfl (step_lss Sub.rfl Sub.rfl) ?_
  refine JL_nil ?_
  refine J_seq ?_
  refine J_cond Sub.rfl (fun hc1 => ?_) (fun hc1 => ?_)
  · try simp only [decide_eq_true_eq, decide_eq_false_iff_not, Bool.and_eq_true, Bool.or_eq_true, Bool.and_eq_false_iff, Bool.or_eq_false_iff, Bool.not_eq_true', Bool.not_eq_false', Int.not_lt, Int.not_le, Bool.not_true, Bool.not_false] at hc1
    have hlt : i < l.length := by omega
    obtain ⟨hb0, hb1⟩ := hb _ (nth_mem hlt)
    have hnl := nameL_len (l := l.take i) fun x hx => hb x (List.mem_of_mem_take hx)
    have hsp := smallB_pos (n := (nth l i).toNat) (by omega)
    have hsl := bytesOf_len (smallB (nth l i).toNat)
    have htl : (l.take i).length ≤ i := List.length_take_le _ _
    have hni : nth l i = ((nth l i).toNat : Int) := by omega
    refine J_skip ?_
    refine J_seq ?_
    refine J_block ?_
    refine J_seq ?_
    refine J_region ?_
    refine JL_step rfl rfl rfl (step_indexAddr_sl  Tryz.underlying24 ty3 Sub.rfl Sub.rfl rfl (gb ?sg1)) ?_
    case sg1 => first | assumption | omega
    refine JL_step rfl rfl rfl (step_load_ptr ty3 Sub.rfl) ?_
    refine JL_step rfl rfl rfl (step_assign Sub.rfl) ?_
    refine JL_nil ?_
    refine J_region ?_
    refine JL_step rfl rfl rfl (step_move Sub.rfl) ?_
    refine JL_step rfl rfl rfl (step_move Sub.rfl) ?_
    refine JL_stepX rfl rfl rfl (step_call (by first | exact Sel.take (Sel.none _) | exact Sel.skip (Sel.take (Sel.none _)) | exact Sel.skip (Sel.skip (Sel.take (Sel.none _))) | exact Sel.skip (Sel.skip (Sel.skip (Sel.take (Sel.none _)))) | exact Sel.skip (Sel.skip (Sel.skip (Sel.skip (Sel.take (Sel.none _)))))) (AppendInt__spec _ _ (nth l i).toNat (by omega) (by omega)) ⟨Sub.rfl, Sub.int hni, Sub.rfl, trivial⟩ Tryz.call71) fun u14 => ?_
    refine JL_step rfl rfl rfl (step_literal (ys := [_]) Tryz.underlying100 el5 ⟨rfl, Sub.rfl, trivial⟩ rfl (by decide)) ?_
    refine JL_stepX rfl rfl rfl (step_append Tryz.underlying100 el5 Sub.rfl Sub.rfl (by first | exact Sel.take (Sel.none _) | exact Sel.skip (Sel.take (Sel.none _)) | exact Sel.skip (Sel.skip (Sel.take (Sel.none _))) | exact Sel.skip (Sel.skip (Sel.skip (Sel.take (Sel.none _)))) | exact Sel.skip (Sel.skip (Sel.skip (Sel.skip (Sel.take (Sel.none _)))))) (by simp; omega) (by simp; omega)) fun u16 => ?_
    refine JL_step rfl rfl rfl (step_assign Sub.rfl) ?_
    refine JL_nil ?_
    refine J_region ?_
    refine JL_step rfl rfl rfl (step_add Sub.rfl Sub.rfl ?sg1) ?_
    case sg1 => unfold in64; omega
    refine JL_step rfl rfl rfl (step_move Sub.rfl) ?_
    refine JL_nil ?_
    refine K_againL (σ := Nat × Value) (s := (i, v)) (i + 1, u16) (by first | omega | (dsimp only; omega) | (simp_all; omega)) (by simp; omega) (SubE.upd Sub.rfl (SubE.upd Sub.rfl (SubE.upd Sub.rfl (SubE.upd Sub.rfl SubE.any)))) (LSub.cons (by first | exact Sel.take (Sel.none _) | exact Sel.skip (Sel.take (Sel.none _)) | exact Sel.skip (Sel.skip (Sel.take (Sel.none _))) | exact Sel.skip (Sel.skip (Sel.skip (Sel.take (Sel.none _)))) | exact Sel.skip (Sel.skip (Sel.skip (Sel.skip (Sel.take (Sel.none _)))))) (own_eq (by rw [takeB hlt]; simp [nameL])) LSub.nil)
  · try simp only [decide_eq_true_eq, decide_eq_false_iff_not, Bool.and_eq_true, Bool.or_eq_true, Bool.and_eq_false_iff, Bool.or_eq_false_iff, Bool.not_eq_true', Bool.not_eq_false', Int.not_lt, Int.not_le, Bool.not_true, Bool.not_false] at hc1
    refine J_exit ?_
    refine J_seq ?_
    refine J_region ?_
    refine JL_step rfl rfl rfl (step_move Sub.rfl) ?_
    refine JL_step rfl rfl rfl (step_convert_str Tryz.underlying100 Tryz.underlying5 Tryz.underlying9 Sub.rfl (by first | exact Sel.take (Sel.none _) | exact Sel.skip (Sel.take (Sel.none _)) | exact Sel.skip (Sel.skip (Sel.take (Sel.none _))) | exact Sel.skip (Sel.skip (Sel.skip (Sel.take (Sel.none _)))) | exact Sel.skip (Sel.skip (Sel.skip (Sel.skip (Sel.take (Sel.none _))))))) ?_
    refine JL_step rfl rfl rfl (step_assign Sub.rfl) ?_
    refine JL_nil ?_
    refine J_ret ?_
    refine K_drop (Sel.all _) ?_
    refine K_ret1 (t := 2) rfl () ?_
    refine Sub.v ?_
    obtain rfl : i = l.length := by omega
    rw [List.take_length]; rfl
end Lg

namespace Lg
open Go Go.Proofs


def consM (rules : List GRule) (facts : List GFact) (set : List Int) : Bool := isSet set facts.length && (wits rules facts set).isEmpty
theorem isSetFrom_InB {n : Int} : ∀ {l : List Int} {p : Int}, isSetFrom n p l = true → ∀ a ∈ l, 0 ≤ a ∧ a < n
  | [], _, _, a, h => by cases h
  | b :: l, p, h, a, ha => by
    simp only [isSetFrom, Bool.and_eq_true, decide_eq_true_eq] at h
    rcases List.mem_cons.1 ha with rfl | ha
    · exact ⟨h.1.1.1, h.1.1.2⟩
    · exact isSetFrom_InB h.2 a ha

theorem Consistent_spec (rules : List GRule) (facts : List GFact) (set : List Int) (hcl : set.length ≤ 1000000) (hfl : facts.length ≤ 1000000) (hru : InRules rules) : Fun1 Tryz.prog 24 [tSl rRule rules, tSl rFact facts, tSl rInt set] (tV (.bool (consM rules facts set))) := by
  refine Spec.enter Tryz.func24 rfl rfl fun h0 w0 fr0 => ?_
  refine J_seq ?_
  refine J_region ?_
  refine JL_stepX rfl rfl rfl (step_alloc (fun w => Tryz.zeroValue4 w) zr4) fun v6 => ?_
  refine JL_nil ?_
  refine J_seq ?_
  refine J_seq ?_
  refine J_region ?_
  refine JL_step rfl rfl rfl (step_move Sub.rfl) ?_
  refine JL_step rfl rfl rfl (step_len_sl Tryz.underlying24 Sub.rfl) ?_
  refine JL_step rfl rfl rfl (step_move Sub.rfl) ?_
  refine JL_nil ?_
  refine J_block ?_
  refine J_loopL (σ := Nat) (fun i => i ≤ set.length ∧ isSet set facts.length = isSetFrom facts.length (if i = 0 then -1 else nth set (i - 1)) (set.drop i)) (fun i => upd (upd (upd (upd (upd (upd (upd env0 0 (tSl rRule rules)) 1 (tSl rFact facts)) 2 (tSl rInt set)) 6 (tAt v6 0)) 9 (tSl rInt set)) 10 (tV (.int .i64 set.length))) 11 (tV (.int .i64 i))) (fun i => [box v6 4 rBool false]) (fun i => set.length - i) 0 ⟨by omega, by simp⟩ (SubE.upd Sub.rfl (SubE.upd Sub.rfl (SubE.upd Sub.rfl (SubE.upd Sub.rfl (SubE.upd Sub.rfl (SubE.upd Sub.rfl (SubE.upd Sub.rfl SubE.any))))))) (LSub.rfl) ?_
  rintro i ⟨hi, hv⟩
  refine J_seq ?_
  refine J_region ?_
  refine JL_step rfl rfl rfl (step_lss Sub.rfl Sub.rfl) ?_
  refine JL_nil ?_
  refine J_seq ?_
  refine J_cond Sub.rfl (fun h12 => ?_) (fun h12 => ?_)
  · try simp only [decide_eq_true_eq, decide_eq_false_iff_not, Bool.and_eq_true, Bool.or_eq_true, Bool.and_eq_false_iff, Bool.or_eq_false_iff, Bool.not_eq_true', Bool.not_eq_false', Int.not_lt, Int.not_le, Bool.not_true, Bool.not_false] at h12
    have hlt : i < set.length := by omega
    have hd := dropB hlt
    refine J_skip ?_
    refine J_seq ?_
    refine J_block ?_
    refine J_seq ?_
    refine J_region ?_
    refine JL_step rfl rfl rfl (step_move Sub.rfl) ?_
    refine JL_step rfl rfl rfl (step_indexAddr_sl  Tryz.underlying24 ty3 Sub.rfl Sub.rfl rfl (gb ?sg1)) ?_
    case sg1 => first | assumption | omega
    refine JL_step rfl rfl rfl (step_load_ptr ty3 Sub.rfl) ?_
    refine JL_step rfl rfl rfl (step_assign Sub.rfl) ?_
    refine JL_step rfl rfl rfl (step_assign Sub.rfl) ?_
    refine JL_nil ?_
    refine J_seq ?_
    refine J_region ?_
    refine JL_step rfl rfl rfl (step_move Sub.rfl) ?_
    refine JL_step rfl rfl rfl (step_lss Sub.rfl Sub.rfl) ?_
    refine JL_step rfl rfl rfl (step_move Sub.rfl) ?_
    refine JL_stepG rfl rfl rfl (Gd.plain Sub.rfl) rfl rfl (fun hw => step_move Sub.rfl) ?_
    refine JL_stepG rfl rfl rfl (Gd.plain Sub.rfl) rfl rfl (fun hw => step_move Sub.rfl) ?_
    refine JL_stepG rfl rfl rfl (Gd.plain Sub.rfl) rfl rfl (fun hw => step_len_sl Tryz.underlying23 (Sub.w hw)) ?_
    refine JL_stepG rfl rfl rfl (Gd.plain Sub.rfl) rfl rfl (fun hw => step_geq (Sub.w hw) (Sub.w hw)) ?_
    refine JL_step rfl rfl rfl (step_pick_or Sub.rfl Sub.rfl) ?_
    refine JL_step rfl rfl rfl (step_move Sub.rfl) ?_
    refine JL_stepG rfl rfl rfl (Gd.plain Sub.rfl) rfl rfl (fun hw => step_move Sub.rfl) ?_
    refine JL_stepG rfl rfl rfl (Gd.plain Sub.rfl) rfl rfl (fun hw => step_gtr (Sub.w hw) Sub.rfl) ?_
    refine JL_stepG rfl rfl rfl (Gd.plain Sub.rfl) rfl rfl (fun hw => step_move (Sub.w hw)) ?_
    refine JL_stepG rfl rfl rfl (Gd.nest Sub.rfl) rfl rfl (fun hw => step_move Sub.rfl) ?_
    refine JL_stepG rfl rfl rfl (Gd.nest Sub.rfl) rfl rfl (fun hw => step_move Sub.rfl) ?_
    refine JL_stepG rfl rfl rfl (Gd.nest Sub.rfl) rfl rfl (fun hw => step_sub (Sub.w hw) Sub.rfl ?sg1) ?_
    case sg1 => have hwq := hw; (try simp only [beqB_t, beqB_f, decide_eq_true_eq, decide_eq_false_iff_not, Bool.and_eq_true, Bool.or_eq_true, Bool.and_eq_false_iff, Bool.or_eq_false_iff, Bool.not_eq_true', Bool.not_eq_false', Int.not_lt, Int.not_le, Bool.not_true, Bool.not_false] at hwq); unfold in64; omega
    refine JL_stepG rfl rfl rfl (Gd.nest Sub.rfl) rfl rfl (fun hw => step_indexAddr_sl (i := i - 1) Tryz.underlying24 ty3 (Sub.w hw) (Sub.w hw) ?sg1 (gb ?sg2)) ?_
    case sg1 => have hwq := hw; (try simp only [beqB_t, beqB_f, decide_eq_true_eq, decide_eq_false_iff_not, Bool.and_eq_true, Bool.or_eq_true, Bool.and_eq_false_iff, Bool.or_eq_false_iff, Bool.not_eq_true', Bool.not_eq_false', Int.not_lt, Int.not_le, Bool.not_true, Bool.not_false] at hwq); omega
    case sg2 => have hwq := hw; (try simp only [beqB_t, beqB_f, decide_eq_true_eq, decide_eq_false_iff_not, Bool.and_eq_true, Bool.or_eq_true, Bool.and_eq_false_iff, Bool.or_eq_false_iff, Bool.not_eq_true', Bool.not_eq_false', Int.not_lt, Int.not_le, Bool.not_true, Bool.not_false] at hwq); omega
    refine JL_stepG rfl rfl rfl (Gd.nest Sub.rfl) rfl rfl (fun hw => step_load_ptr ty3 (Sub.w hw)) ?_
    refine JL_stepG rfl rfl rfl (Gd.nest Sub.rfl) rfl rfl (fun hw => step_move Sub.rfl) ?_
    refine JL_stepG rfl rfl rfl (Gd.nest Sub.rfl) rfl rfl (fun hw => step_geq (Sub.w hw) (Sub.w hw)) ?_
    refine JL_stepG rfl rfl rfl (Gd.plain Sub.rfl) rfl rfl (fun hw => step_pick_and (Sub.w hw) (Sub.ww hw)) ?_
    refine JL_step rfl rfl rfl (step_pick_or Sub.rfl Sub.rfl) ?_
    refine JL_nil ?_
    refine J_cond Sub.rfl (fun h36 => ?_) (fun h36 => ?_)
    · try simp only [decide_eq_true_eq, decide_eq_false_iff_not, Bool.and_eq_true, Bool.or_eq_true, Bool.and_eq_false_iff, Bool.or_eq_false_iff, Bool.not_eq_true', Bool.not_eq_false', Int.not_lt, Int.not_le, Bool.not_true, Bool.not_false] at h36
      refine J_seq ?_
      refine J_region ?_
      refine JL_stepU rfl rfl (step_store_box ty4 Sub.rfl Sub.rfl (by first | exact Sel.take (Sel.none _) | exact Sel.skip (Sel.take (Sel.none _)) | exact Sel.skip (Sel.skip (Sel.take (Sel.none _))) | exact Sel.skip (Sel.skip (Sel.skip (Sel.take (Sel.none _)))) | exact Sel.skip (Sel.skip (Sel.skip (Sel.skip (Sel.take (Sel.none _))))))) fun _ => ?_
      refine JL_nil ?_
      refine J_ret ?_
      refine K_ret1' (rv := .cell 6 4) rfl () (Sel.all _) (.cell ty4 Sub.rfl (by first | exact Sel.take (Sel.none _) | exact Sel.skip (Sel.take (Sel.none _)) | exact Sel.skip (Sel.skip (Sel.take (Sel.none _))) | exact Sel.skip (Sel.skip (Sel.skip (Sel.take (Sel.none _)))) | exact Sel.skip (Sel.skip (Sel.skip (Sel.skip (Sel.take (Sel.none _)))))) Sub.rfl) (Frz.sub (Sub.bool ?_))
      have : isSet set facts.length = false := by
        rw [hv, hd]
        simp only [isSetFrom]
        by_cases h0 : i = 0
        · subst h0; simp at h36 ⊢; omega
        · simp only [h0, if_false]; simp; omega
      simp [consM, this]
    · try simp only [decide_eq_true_eq, decide_eq_false_iff_not, Bool.and_eq_true, Bool.or_eq_true, Bool.and_eq_false_iff, Bool.or_eq_false_iff, Bool.not_eq_true', Bool.not_eq_false', Int.not_lt, Int.not_le, Bool.not_true, Bool.not_false] at h36
      refine J_skip ?_
      refine J_region ?_
      refine JL_step rfl rfl rfl (step_add Sub.rfl Sub.rfl ?sg1) ?_
      case sg1 => unfold in64; omega
      refine JL_step rfl rfl rfl (step_move Sub.rfl) ?_
      refine JL_nil ?_
      refine K_againL (σ := Nat) (s := i) (i + 1) (by first | omega | (dsimp only; omega) | (simp_all; omega)) ?_ (SubE.upd Sub.rfl (SubE.upd Sub.rfl (SubE.upd Sub.rfl (SubE.upd Sub.rfl (SubE.upd Sub.rfl (SubE.upd Sub.rfl (SubE.upd Sub.rfl SubE.any))))))) (LSub.rfl)
      refine ⟨by omega, ?_⟩
      rw [hv, hd]
      simp only [isSetFrom, Nat.add_sub_cancel, Nat.add_eq_zero_iff, Nat.one_ne_zero, and_false, if_false]
      by_cases h0 : i = 0
      · subst h0; simp at h36 ⊢; omega
      · simp only [h0, if_false]; simp; omega
  · try simp only [decide_eq_true_eq, decide_eq_false_iff_not, Bool.and_eq_true, Bool.or_eq_true, Bool.and_eq_false_iff, Bool.or_eq_false_iff, Bool.not_eq_true', Bool.not_eq_false', Int.not_lt, Int.not_le, Bool.not_true, Bool.not_false] at h12
    obtain rfl : i = set.length := by omega
    rw [List.drop_length] at hv
    have hset : isSet set facts.length = true := by rw [hv]; rfl
    have hc : InB set facts.length := isSetFrom_InB hset
    refine J_exit ?_
    refine J_seq ?_
    refine J_seq ?_
    refine J_region ?_
    refine JL_step rfl rfl rfl (step_move Sub.rfl) ?_
    refine JL_step rfl rfl rfl (step_move Sub.rfl) ?_
    refine JL_step rfl rfl rfl (step_move Sub.rfl) ?_
    refine JL_step rfl rfl rfl (step_call0 (witnesses_spec _ _ _) ⟨Sub.rfl, Sub.rfl, Sub.rfl, trivial⟩ Tryz.call37) ?_
    refine JL_nil ?_
    refine J_block ?_
    refine J_range (A := []) (T := tI2) (Ok := okP (wits rules facts set)) (Fin := fun p => p = (wits rules facts set)) (R := []) (fun xs => stars [SP.pure (xs = []), box v6 4 rBool false]) (fun c xs => stars [SP.pure (c = .ret ∧ (wits rules facts set) ≠ []), box v6 4 rBool false]) rfl (fun _ => rfl) rfl (witnesses1_spec rules facts set hc hcl hfl hru) Sub.rfl Tryz.call57 (LSub.stars (LSub.pure rfl (LSub.cons (by first | exact Sel.take (Sel.none _) | exact Sel.skip (Sel.take (Sel.none _)) | exact Sel.skip (Sel.skip (Sel.take (Sel.none _))) | exact Sel.skip (Sel.skip (Sel.skip (Sel.take (Sel.none _)))) | exact Sel.skip (Sel.skip (Sel.skip (Sel.skip (Sel.take (Sel.none _)))))) SPs.rfl LSub.nil))) ?round1 ?done1 ?stop1
    case round1 =>
      intro l1 rec1 h2 w2 fr2 pre y hle1 hst1 hpd1 hdj1 hok
      refine K_stars (K_pure fun hpe => ?_)
      have hne : (wits rules facts set) ≠ [] := fun e => by rw [e] at hok; have := hok.length_le; simp at this
      refine J_skip ?_
      refine K_begin hst1 hdj1 ?_
      refine J_block ?_
      refine J_seq ?_
      refine J_region ?_
      refine JL_stepU rfl rfl (step_store_box ty4 Sub.rfl Sub.rfl (by first | exact Sel.take (Sel.none _) | exact Sel.skip (Sel.take (Sel.none _)) | exact Sel.skip (Sel.skip (Sel.take (Sel.none _))) | exact Sel.skip (Sel.skip (Sel.skip (Sel.take (Sel.none _)))) | exact Sel.skip (Sel.skip (Sel.skip (Sel.skip (Sel.take (Sel.none _))))))) fun _ => ?_
      refine JL_nil ?_
      refine J_ret ?_
      refine K_roundR ?_
      exact LSub.cons (by first | exact Sel.take (Sel.none _) | exact Sel.skip (Sel.take (Sel.none _)) | exact Sel.skip (Sel.skip (Sel.take (Sel.none _))) | exact Sel.skip (Sel.skip (Sel.skip (Sel.take (Sel.none _)))) | exact Sel.skip (Sel.skip (Sel.skip (Sel.skip (Sel.take (Sel.none _)))))) SPs.rfl (LSub.stars (LSub.pure ⟨rfl, hne⟩ (LSub.cons (by first | exact Sel.take (Sel.none _) | exact Sel.skip (Sel.take (Sel.none _)) | exact Sel.skip (Sel.skip (Sel.take (Sel.none _))) | exact Sel.skip (Sel.skip (Sel.skip (Sel.take (Sel.none _)))) | exact Sel.skip (Sel.skip (Sel.skip (Sel.skip (Sel.take (Sel.none _)))))) SPs.rfl LSub.nil)))
    case done1 =>
      intro D1 xs hfin
      refine K_stars (K_pure fun hpe => ?_)
      rw [hpe] at hfin
      refine J_seq ?_
      refine J_region ?_
      refine JL_stepU rfl rfl (step_store_box ty4 Sub.rfl Sub.rfl (by first | exact Sel.take (Sel.none _) | exact Sel.skip (Sel.take (Sel.none _)) | exact Sel.skip (Sel.skip (Sel.take (Sel.none _))) | exact Sel.skip (Sel.skip (Sel.skip (Sel.take (Sel.none _)))) | exact Sel.skip (Sel.skip (Sel.skip (Sel.skip (Sel.take (Sel.none _))))))) fun _ => ?_
      refine JL_nil ?_
      refine J_ret ?_
      refine K_unmark (LSub.cons (by first | exact Sel.take (Sel.none _) | exact Sel.skip (Sel.take (Sel.none _)) | exact Sel.skip (Sel.skip (Sel.take (Sel.none _))) | exact Sel.skip (Sel.skip (Sel.skip (Sel.take (Sel.none _)))) | exact Sel.skip (Sel.skip (Sel.skip (Sel.skip (Sel.take (Sel.none _)))))) SPs.rfl LSub.rfl) ?_
      refine K_ret1' (rv := .cell 6 4) rfl () (Sel.all _) (.cell ty4 Sub.rfl (by first | exact Sel.take (Sel.none _) | exact Sel.skip (Sel.take (Sel.none _)) | exact Sel.skip (Sel.skip (Sel.take (Sel.none _))) | exact Sel.skip (Sel.skip (Sel.skip (Sel.take (Sel.none _)))) | exact Sel.skip (Sel.skip (Sel.skip (Sel.skip (Sel.take (Sel.none _)))))) Sub.rfl) (Frz.sub (Sub.bool ?_))
      simp [consM, hset, ← hfin]
    case stop1 =>
      intro D1 c1 xs
      refine K_stars (K_pure fun hcc => ?_)
      obtain ⟨rfl, hne⟩ := hcc
      refine J_ret ?_
      refine K_unmark (LSub.cons (by first | exact Sel.take (Sel.none _) | exact Sel.skip (Sel.take (Sel.none _)) | exact Sel.skip (Sel.skip (Sel.take (Sel.none _))) | exact Sel.skip (Sel.skip (Sel.skip (Sel.take (Sel.none _)))) | exact Sel.skip (Sel.skip (Sel.skip (Sel.skip (Sel.take (Sel.none _)))))) SPs.rfl LSub.rfl) ?_
      refine K_ret1' (rv := .cell 6 4) rfl () (Sel.all _) (.cell ty4 Sub.rfl (by first | exact Sel.take (Sel.none _) | exact Sel.skip (Sel.take (Sel.none _)) | exact Sel.skip (Sel.skip (Sel.take (Sel.none _))) | exact Sel.skip (Sel.skip (Sel.skip (Sel.take (Sel.none _)))) | exact Sel.skip (Sel.skip (Sel.skip (Sel.skip (Sel.take (Sel.none _)))))) Sub.rfl) (Frz.sub (Sub.bool ?_))
      simp [consM, hne]
end Lg
