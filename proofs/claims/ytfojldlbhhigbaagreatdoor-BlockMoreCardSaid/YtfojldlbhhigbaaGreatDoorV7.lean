/- For all inputs the law BlockMore answers true: the card. -/
import Derived.Test.YtfojldlbhhigbaaGreatDoorH
set_option linter.unusedVariables false
set_option linter.unusedSimpArgs false
set_option linter.unusedSectionVars false
namespace Lg
open Go Go.Proofs


theorem step_arrAddr {ro : Option Nat} {N : Nat} {ds : List Deferred} {h0 : PH} {w0 : World} {r : PH} {E : Env} {L : List SP} {d : Option Nat} {ty : Nat} {pos : String} {af : Array Edge} {g : Option (Nat × Bool)} {x y : Operand} {p : Int × Int} (n : Nat) {f : SF (Int × Int)} (hx : Sub (opTy E x) (tPtr rA2 p)) (hy : Sub (opTy E y) (tV (.int .i64 (n : Int)))) (hf : fsA2[n]? = some f) :
    Step1 ⟨Tryz.prog, ro, N, ds, h0, w0, r⟩ ⟨d, .indexAddr 52 x y, ty, pos, af, g⟩ E L (tPtr f.R (f.get p)) :=
  Step.of_same (by intro c h; cases h) fun a w h hw fr => by
    obtain ⟨b, off, cs, hv, ⟨c, e, fz, hb, hc⟩, r⟩ := fr.get hx
    have h2 : a.eval y = .int .i64 (n : Int) := fr.get hy
    obtain ⟨c', r', hc'⟩ := SF.rel_field r hf
    have hn : n = 0 ∨ n = 1 := by
      have := (List.getElem?_eq_some_iff.1 hf).1
      simp only [fsA2, List.length_cons, List.length_nil] at this
      omega
    have ho : SF.off fsA2 n = n := by rcases hn with rfl | rfl <;> rfl
    have hlt : n < 2 := by omega
    refine ⟨.pointer (some ⟨b, off + SF.off fsA2 n, none⟩), ?_, b, off + SF.off fsA2 n, c', rfl, ⟨c, e, fz, hb, fun i v hv' => ?_⟩, r'⟩
    · simp [execOp, Instr.indexAt, Instr.sureAddr, hv, h2, asIntOf, run_underlying Tryz.underlying52, Tryz.sizeOf3, hlt, addr_add, ho]
    · rw [Nat.add_assoc]; exact hc _ _ (hc' i v hv')
def keyC (a b : GRecord) (x y : ByteArray) : Bool := decide (x = y) && decide (a.Table = b.Table)
def rowC (bl : GBlock) (a b : GRecord) (x : ByteArray) : Bool := (keysM bl b).any (keyC a b x)
def blkC (a b : GRecord) (bl : GBlock) : Bool := (keysM bl a).any (rowC bl a b)
def commB (blocks : List GBlock) (a b : GRecord) : Bool := blocks.any (blkC a b)
theorem any_f {α : Type} [Inhabited α] {p : α → Bool} {l : List α} (h : ∀ k, k < l.length → p (nth l k) = false) : l.any p = false := by
  rw [List.any_eq_false]
  intro x hx
  obtain ⟨k, hk, rfl⟩ := List.getElem_of_mem hx
  have := h k hk
  rw [nth_get hk] at this
  simp [this]
theorem any_t {α : Type} [Inhabited α] {p : α → Bool} {l : List α} {k : Nat} (hk : k < l.length) (h : p (nth l k) = true) : l.any p = true := by
  rw [List.any_eq_true]
  exact ⟨_, nth_mem hk, h⟩
theorem shares_keys {blocks : List GBlock} {a b : GRecord} : sharesB blocks a b = true ↔ a.Table = b.Table ∧ ∃ bl ∈ blocks, ∃ k, k ∈ keysM bl a ∧ k ∈ keysM bl b := by
  rw [shares_iff]
  constructor
  · rintro ⟨p, h1, h2⟩
    obtain ⟨i, hi, e1, e2, e3⟩ := places_mem.1 h1
    obtain ⟨j, hj, f1, f2, f3⟩ := places_mem.1 h2
    obtain rfl : i = j := by omega
    exact ⟨by omega, _, nth_mem hi, p.key, e3, f3⟩
  · rintro ⟨ht, bl, hb, k, h1, h2⟩
    obtain ⟨i, hi, rfl⟩ := List.getElem_of_mem hb
    rw [← nth_get hi] at h1 h2
    exact ⟨⟨i, a.Table, k⟩, places_mem.2 ⟨i, hi, rfl, rfl, h1⟩, places_mem.2 ⟨i, hi, rfl, ht, h2⟩⟩
theorem comm_eq (blocks : List GBlock) (a b : GRecord) : commB blocks a b = sharesB blocks a b := by
  rw [Bool.eq_iff_iff, shares_keys]
  unfold commB blkC rowC keyC
  simp only [List.any_eq_true, Bool.and_eq_true, decide_eq_true_eq]
  constructor
  · rintro ⟨bl, hb, x, hx, y, hy, rfl, ht⟩; exact ⟨ht, bl, hb, x, hx, hy⟩
  · rintro ⟨ht, bl, hb, k, h1, h2⟩; exact ⟨bl, hb, k, h1, k, h2, rfl, ht⟩
theorem shares_comm (blocks : List GBlock) (a b : GRecord) : sharesB blocks a b = sharesB blocks b a := by
  rw [Bool.eq_iff_iff, shares_keys, shares_keys]
  constructor
  · rintro ⟨h, bl, hb, k, h1, h2⟩; exact ⟨h.symm, bl, hb, k, h2, h1⟩
  · rintro ⟨h, bl, hb, k, h1, h2⟩; exact ⟨h.symm, bl, hb, k, h2, h1⟩

theorem keyC_f {a b : GRecord} {x y : ByteArray} (h : ¬ x = y ∨ ¬ a.Table = b.Table) : keyC a b x y = false := by
  unfold keyC
  rcases h with h | h <;> simp [h]
theorem keyC_t {a b : GRecord} {x y : ByteArray} (h : x = y ∧ a.Table = b.Table) : keyC a b x y = true := by
  unfold keyC
  simp [h.1, h.2]

theorem has_ne {p : Int × Int} {a b : Int} (h : ¬ p.1 = a ∨ ¬ p.2 = b) : p ≠ (a, b) := by
  rintro rfl
  rcases h with h | h <;> exact h rfl

theorem Has_spec (l : List (Int × Int)) (a b : Int) (hl : l.length ≤ 1000000000) : Fun1 Tryz.prog 22 [tSl rA2 l, tV (.int .i64 a), tV (.int .i64 b)] (tV (.bool (decide ((a, b) ∈ l)))) := by
  refine Spec.enter Tryz.func22 rfl rfl fun h0 w0 fr0 => ?_
  refine J_seq ?_
  refine J_region ?_
  refine JL_step rfl rfl rfl (step_assign Sub.rfl) ?_
  refine JL_nil ?_
  refine J_seq ?_
  refine J_seq ?_
  refine J_region ?_
  refine JL_step rfl rfl rfl (step_assign Sub.rfl) ?_
  refine JL_nil ?_
  refine J_block ?_
  refine J_loopL (σ := Nat) (fun i => i ≤ l.length ∧ ∀ k, k < i → nth l k ≠ (a, b)) (fun i => upd (upd (upd (upd env0 0 (tSl rA2 l)) 1 (tV (.int .i64 a))) 2 (tV (.int .i64 b))) 7 (tV (.int .i64 i))) (fun i => []) (fun i => l.length - i) 0 ⟨by omega, fun k hk => absurd hk (by omega)⟩ (SubE.upd Sub.rfl (SubE.upd Sub.rfl (SubE.upd Sub.rfl (SubE.upd Sub.rfl SubE.any)))) (LSub.rfl) ?_
  rintro i ⟨hi, hv⟩
  refine J_seq ?_
  refine J_seq ?_
  refine J_region ?_
  refine JL_step rfl rfl rfl (step_move Sub.rfl) ?_
  refine JL_step rfl rfl rfl (step_move Sub.rfl) ?_
  refine JL_step rfl rfl rfl (step_len_sl Tryz.underlying36 Sub.rfl) ?_
  refine JL_step rfl rfl rfl (step_lss Sub.rfl Sub.rfl) ?_
  refine JL_nil ?_
  refine J_cond Sub.rfl (fun h11 => ?_) (fun h11 => ?_)
  · try simp only [decide_eq_true_eq, decide_eq_false_iff_not, Bool.and_eq_true, Bool.or_eq_true, Bool.and_eq_false_iff, Bool.or_eq_false_iff, Bool.not_eq_true', Bool.not_eq_false', Int.not_lt, Int.not_le, Bool.not_true, Bool.not_false] at h11
    have hlt : i < l.length := by omega
    refine J_skip ?_
    refine J_seq ?_
    refine J_block ?_
    refine J_seq ?_
    refine J_region ?_
    refine JL_step rfl rfl rfl (step_move Sub.rfl) ?_
    refine JL_step rfl rfl rfl (step_move Sub.rfl) ?_
    refine JL_step rfl rfl rfl (step_indexAddr_sl  Tryz.underlying36 ty52 Sub.rfl Sub.rfl rfl (gb ?sg1)) ?_
    case sg1 => exact hlt
    refine JL_step rfl rfl rfl (step_arrAddr 0 Sub.rfl Sub.rfl rfl) ?_
    refine JL_step rfl rfl rfl (step_load_ptr ty3 Sub.rfl) ?_
    refine JL_step rfl rfl rfl (step_move Sub.rfl) ?_
    refine JL_step rfl rfl rfl (step_eql Sub.rfl Sub.rfl) ?_
    refine JL_step rfl rfl rfl (step_move Sub.rfl) ?_
    refine JL_stepG rfl rfl rfl (Gd.plain Sub.rfl) rfl rfl (fun hw => step_move Sub.rfl) ?_
    refine JL_stepG rfl rfl rfl (Gd.plain Sub.rfl) rfl rfl (fun hw => step_move Sub.rfl) ?_
    refine JL_stepG rfl rfl rfl (Gd.plain Sub.rfl) rfl rfl (fun hw => step_indexAddr_sl  Tryz.underlying36 ty52 (Sub.w hw) (Sub.w hw) rfl (gb ?sg1)) ?_
    case sg1 => have hwq := hw; (try simp only [beqB_t, beqB_f, decide_eq_true_eq, decide_eq_false_iff_not, Bool.and_eq_true, Bool.or_eq_true, Bool.and_eq_false_iff, Bool.or_eq_false_iff, Bool.not_eq_true', Bool.not_eq_false', Int.not_lt, Int.not_le, Bool.not_true, Bool.not_false] at hwq); exact hlt
    refine JL_stepG rfl rfl rfl (Gd.plain Sub.rfl) rfl rfl (fun hw => step_arrAddr 1 (Sub.w hw) Sub.rfl rfl) ?_
    refine JL_stepG rfl rfl rfl (Gd.plain Sub.rfl) rfl rfl (fun hw => step_load_ptr ty3 (Sub.w hw)) ?_
    refine JL_stepG rfl rfl rfl (Gd.plain Sub.rfl) rfl rfl (fun hw => step_move Sub.rfl) ?_
    refine JL_stepG rfl rfl rfl (Gd.plain Sub.rfl) rfl rfl (fun hw => step_eql (Sub.w hw) (Sub.w hw)) ?_
    refine JL_step rfl rfl rfl (step_pick_and Sub.rfl Sub.rfl) ?_
    refine JL_nil ?_
    refine J_cond Sub.rfl (fun h29 => ?_) (fun h29 => ?_)
    · try simp only [decide_eq_true_eq, decide_eq_false_iff_not, Bool.and_eq_true, Bool.or_eq_true, Bool.and_eq_false_iff, Bool.or_eq_false_iff, Bool.not_eq_true', Bool.not_eq_false', Int.not_lt, Int.not_le, Bool.not_true, Bool.not_false] at h29
      refine J_seq ?_
      refine J_region ?_
      refine JL_step rfl rfl rfl (step_assign Sub.rfl) ?_
      refine JL_nil ?_
      refine J_ret ?_
      refine K_retv (rv := .tmp 6) rfl () (.tmp Sub.rfl) (Sub.bool ?_)
      symm; rw [decide_eq_true_eq]
      have e : nth l i = (a, b) := Prod.ext h29.1 h29.2
      rw [← e]; exact nth_mem hlt
    · try simp only [decide_eq_true_eq, decide_eq_false_iff_not, Bool.and_eq_true, Bool.or_eq_true, Bool.and_eq_false_iff, Bool.or_eq_false_iff, Bool.not_eq_true', Bool.not_eq_false', Int.not_lt, Int.not_le, Bool.not_true, Bool.not_false] at h29
      refine J_skip ?_
      refine J_region ?_
      refine JL_step rfl rfl rfl (step_move Sub.rfl) ?_
      refine JL_step rfl rfl rfl (step_add Sub.rfl Sub.rfl ?sg1) ?_
      case sg1 => unfold in64; omega
      refine JL_step rfl rfl rfl (step_assign Sub.rfl) ?_
      refine JL_nil ?_
      refine K_againL (σ := Nat) (s := i) (i + 1) (by first | omega | (dsimp only; omega) | (simp_all; omega)) (pred_again (p := fun z => z ≠ (a, b)) hlt hv (has_ne h29)) (SubE.upd Sub.rfl (SubE.upd Sub.rfl (SubE.upd Sub.rfl (SubE.upd Sub.rfl SubE.any)))) (LSub.rfl)
  · try simp only [decide_eq_true_eq, decide_eq_false_iff_not, Bool.and_eq_true, Bool.or_eq_true, Bool.and_eq_false_iff, Bool.or_eq_false_iff, Bool.not_eq_true', Bool.not_eq_false', Int.not_lt, Int.not_le, Bool.not_true, Bool.not_false] at h11
    refine J_exit ?_
    refine J_seq ?_
    refine J_region ?_
    refine JL_step rfl rfl rfl (step_assign Sub.rfl) ?_
    refine JL_nil ?_
    refine J_ret ?_
    refine K_retv (rv := .tmp 6) rfl () (.tmp Sub.rfl) (Sub.bool ?_)
    symm; rw [decide_eq_false_iff_not]; intro hm
    obtain ⟨k, hk, e⟩ := List.getElem_of_mem hm
    exact hv k (by omega) (by rw [nth_get hk]; exact e)
theorem common_spec (blocks : List GBlock) (a b : GRecord) (hbn : blocks.length ≤ 1000000) (ha : recOk a) (hb : recOk b) : Fun1 Tryz.prog 21 [tSl rBlock blocks, rRecord.ty a, rRecord.ty b] (tV (.bool (commB blocks a b))) := by
  refine Spec.enter Tryz.func21 rfl rfl fun h0 w0 fr0 => ?_
  refine J_seq ?_
  refine J_region ?_
  refine JL_step rfl rfl rfl (step_box (R := rRecord) Sub.rfl) ?_
  refine JL_step rfl rfl rfl (step_box (R := rRecord) Sub.rfl) ?_
  refine JL_step rfl rfl rfl (step_assign Sub.rfl) ?_
  refine JL_nil ?_
  refine J_seq ?_
  refine J_seq ?_
  refine J_region ?_
  refine JL_step rfl rfl rfl (step_assign Sub.rfl) ?_
  refine JL_nil ?_
  refine J_block ?_
  refine J_loopL (σ := Nat) (fun i => i ≤ blocks.length ∧ ∀ k, k < i → blkC a b (nth blocks k) = false) (fun i => upd (upd (upd (upd env0 0 (tSl rBlock blocks)) 4 (tPtr rRecord a)) 5 (tPtr rRecord b)) 7 (tV (.int .i64 i))) (fun i => []) (fun i => blocks.length - i) 0 ⟨by omega, fun k hk => absurd hk (by omega)⟩ (SubE.upd Sub.rfl (SubE.upd Sub.rfl (SubE.upd Sub.rfl (SubE.upd Sub.rfl SubE.any)))) (LSub.rfl) ?_
  rintro i ⟨hi, hv⟩
  refine J_seq ?_
  refine J_seq ?_
  refine J_region ?_
  refine JL_step rfl rfl rfl (step_move Sub.rfl) ?_
  refine JL_step rfl rfl rfl (step_move Sub.rfl) ?_
  refine JL_step rfl rfl rfl (step_len_sl Tryz.underlying22 Sub.rfl) ?_
  refine JL_step rfl rfl rfl (step_lss Sub.rfl Sub.rfl) ?_
  refine JL_nil ?_
  refine J_cond Sub.rfl (fun h15 => ?_) (fun h15 => ?_)
  · try simp only [decide_eq_true_eq, decide_eq_false_iff_not, Bool.and_eq_true, Bool.or_eq_true, Bool.and_eq_false_iff, Bool.or_eq_false_iff, Bool.not_eq_true', Bool.not_eq_false', Int.not_lt, Int.not_le, Bool.not_true, Bool.not_false] at h15
    have hlt : i < blocks.length := by omega
    have hka := keys_len (b := (nth blocks i)) ha
    have hkb := keys_len (b := (nth blocks i)) hb
    refine J_skip ?_
    refine J_seq ?_
    refine J_block ?_
    refine J_seq ?_
    refine J_draw [⟨0, [0], true⟩, ⟨1, [7], true⟩, ⟨2, [18, 19], true⟩, ⟨3, [20], true⟩, ⟨4, [4], true⟩, ⟨5, [21, 22], true⟩, ⟨6, [23], true⟩] rfl (by kernel_rfl) ?_
    refine JM_step rfl rfl rfl rfl (fun _ => step_move Sub.rfl) ?_
    refine JM_step rfl rfl rfl rfl (fun _ => step_move Sub.rfl) ?_
    refine JM_step rfl rfl rfl rfl (fun _ => step_indexAddr_sl  Tryz.underlying22 ty35 Sub.rfl Sub.rfl rfl (gb ?sg1)) ?_
    case sg1 => exact hlt
    refine JM_step rfl rfl rfl rfl (fun _ => step_load_ptr ty35 Sub.rfl) ?_
    refine JM_step rfl rfl rfl rfl (fun _ => step_load_ptr ty28 Sub.rfl) ?_
    refine JM_step rfl rfl rfl rfl (fun _ => step_call0 (Keys_spec _ _ ha) ⟨Sub.rfl, Sub.rfl, trivial⟩ Tryz.call13) ?_
    refine JM_step rfl rfl rfl rfl (fun _ => step_assign Sub.rfl) ?_
    refine JM_nil ?_
    refine J_seq ?_
    refine J_draw [⟨0, [0], true⟩, ⟨1, [7], true⟩, ⟨2, [24, 25], true⟩, ⟨3, [26], true⟩, ⟨4, [5], true⟩, ⟨5, [27, 28], true⟩, ⟨6, [29], true⟩] rfl (by kernel_rfl) ?_
    refine JM_step rfl rfl rfl rfl (fun _ => step_move Sub.rfl) ?_
    refine JM_step rfl rfl rfl rfl (fun _ => step_move Sub.rfl) ?_
    refine JM_step rfl rfl rfl rfl (fun _ => step_indexAddr_sl  Tryz.underlying22 ty35 Sub.rfl Sub.rfl rfl (gb ?sg1)) ?_
    case sg1 => exact hlt
    refine JM_step rfl rfl rfl rfl (fun _ => step_load_ptr ty35 Sub.rfl) ?_
    refine JM_step rfl rfl rfl rfl (fun _ => step_load_ptr ty28 Sub.rfl) ?_
    refine JM_step rfl rfl rfl rfl (fun _ => step_call0 (Keys_spec _ _ hb) ⟨Sub.rfl, Sub.rfl, trivial⟩ Tryz.call13) ?_
    refine JM_step rfl rfl rfl rfl (fun _ => step_assign Sub.rfl) ?_
    refine JM_nil ?_
    refine J_seq ?_
    refine J_region ?_
    refine JL_step rfl rfl rfl (step_assign Sub.rfl) ?_
    refine JL_nil ?_
    refine J_block ?_
    refine J_loopL (σ := Nat) (fun x => x ≤ (keysM (nth blocks i) a).length ∧ ∀ k, k < x → rowC (nth blocks i) a b (nth (keysM (nth blocks i) a) k) = false) (fun x => upd (upd (upd (upd (upd (upd (upd (upd (upd (upd (upd (upd (upd (upd (upd env0 0 (tSl rBlock blocks)) 4 (tPtr rRecord a)) 5 (tPtr rRecord b)) 7 (tV (.int .i64 i))) 8 (tSl rStr (keysM (nth blocks i) a))) 9 (tSl rStr (keysM (nth blocks i) b))) 10 (tV (.int .i64 x))) 12 (tV (.int .i64 i))) 13 (tSl rBlock blocks)) 18 (tSl rBlock blocks)) 19 (tV (.int .i64 i))) 23 (tSl rStr (keysM (nth blocks i) a))) 24 (tSl rBlock blocks)) 25 (tV (.int .i64 i))) 29 (tSl rStr (keysM (nth blocks i) b))) (fun x => []) (fun x => (keysM (nth blocks i) a).length - x) 0 ⟨by omega, fun k hk => absurd hk (by omega)⟩ (SubE.upd Sub.rfl (SubE.upd Sub.rfl (SubE.upd Sub.rfl (SubE.upd Sub.rfl (SubE.upd Sub.rfl (SubE.upd Sub.rfl (SubE.upd Sub.rfl (SubE.upd Sub.rfl (SubE.upd Sub.rfl (SubE.upd Sub.rfl (SubE.upd Sub.rfl (SubE.upd Sub.rfl (SubE.upd Sub.rfl (SubE.upd Sub.rfl (SubE.upd Sub.rfl SubE.any))))))))))))))) (LSub.rfl) ?_
    rintro x ⟨hx, hw⟩
    refine J_seq ?_
    refine J_seq ?_
    refine J_region ?_
    refine JL_step rfl rfl rfl (step_move Sub.rfl) ?_
    refine JL_step rfl rfl rfl (step_move Sub.rfl) ?_
    refine JL_step rfl rfl rfl (step_len_sl Tryz.underlying32 Sub.rfl) ?_
    refine JL_step rfl rfl rfl (step_lss Sub.rfl Sub.rfl) ?_
    refine JL_nil ?_
    refine J_cond Sub.rfl (fun h33 => ?_) (fun h33 => ?_)
    · try simp only [decide_eq_true_eq, decide_eq_false_iff_not, Bool.and_eq_true, Bool.or_eq_true, Bool.and_eq_false_iff, Bool.or_eq_false_iff, Bool.not_eq_true', Bool.not_eq_false', Int.not_lt, Int.not_le, Bool.not_true, Bool.not_false] at h33
      have hlx : x < (keysM (nth blocks i) a).length := by omega
      refine J_skip ?_
      refine J_seq ?_
      refine J_block ?_
      refine J_seq ?_
      refine J_region ?_
      refine JL_step rfl rfl rfl (step_assign Sub.rfl) ?_
      refine JL_nil ?_
      refine J_block ?_
      refine J_loopL (σ := Nat) (fun y => y ≤ (keysM (nth blocks i) b).length ∧ ∀ k, k < y → keyC a b (nth (keysM (nth blocks i) a) x) (nth (keysM (nth blocks i) b) k) = false) (fun y => upd (upd (upd (upd (upd (upd (upd (upd (upd (upd (upd (upd (upd (upd (upd (upd (upd (upd env0 0 (tSl rBlock blocks)) 4 (tPtr rRecord a)) 5 (tPtr rRecord b)) 7 (tV (.int .i64 i))) 8 (tSl rStr (keysM (nth blocks i) a))) 9 (tSl rStr (keysM (nth blocks i) b))) 10 (tV (.int .i64 x))) 11 (tV (.int .i64 y))) 12 (tV (.int .i64 i))) 13 (tSl rBlock blocks)) 18 (tSl rBlock blocks)) 19 (tV (.int .i64 i))) 23 (tSl rStr (keysM (nth blocks i) a))) 24 (tSl rBlock blocks)) 25 (tV (.int .i64 i))) 29 (tSl rStr (keysM (nth blocks i) b))) 30 (tV (.int .i64 x))) 31 (tSl rStr (keysM (nth blocks i) a))) (fun y => []) (fun y => (keysM (nth blocks i) b).length - y) 0 ⟨by omega, fun k hk => absurd hk (by omega)⟩ (SubE.upd Sub.rfl (SubE.upd Sub.rfl (SubE.upd Sub.rfl (SubE.upd Sub.rfl (SubE.upd Sub.rfl (SubE.upd Sub.rfl (SubE.upd Sub.rfl (SubE.upd Sub.rfl (SubE.upd Sub.rfl (SubE.upd Sub.rfl (SubE.upd Sub.rfl (SubE.upd Sub.rfl (SubE.upd Sub.rfl (SubE.upd Sub.rfl (SubE.upd Sub.rfl (SubE.upd Sub.rfl (SubE.upd Sub.rfl (SubE.upd Sub.rfl SubE.any)))))))))))))))))) (LSub.rfl) ?_
      rintro y ⟨hy, hz⟩
      refine J_seq ?_
      refine J_seq ?_
      refine J_region ?_
      refine JL_step rfl rfl rfl (step_move Sub.rfl) ?_
      refine JL_step rfl rfl rfl (step_move Sub.rfl) ?_
      refine JL_step rfl rfl rfl (step_len_sl Tryz.underlying32 Sub.rfl) ?_
      refine JL_step rfl rfl rfl (step_lss Sub.rfl Sub.rfl) ?_
      refine JL_nil ?_
      refine J_cond Sub.rfl (fun h39 => ?_) (fun h39 => ?_)
      · try simp only [decide_eq_true_eq, decide_eq_false_iff_not, Bool.and_eq_true, Bool.or_eq_true, Bool.and_eq_false_iff, Bool.or_eq_false_iff, Bool.not_eq_true', Bool.not_eq_false', Int.not_lt, Int.not_le, Bool.not_true, Bool.not_false] at h39
        have hly : y < (keysM (nth blocks i) b).length := by omega
        refine J_skip ?_
        refine J_seq ?_
        refine J_block ?_
        refine J_seq ?_
        refine J_draw [⟨0, [8], true⟩, ⟨1, [10], true⟩, ⟨2, [42, 43], true⟩, ⟨3, [44], true⟩, ⟨4, [9], true⟩, ⟨5, [11], true⟩, ⟨6, [46, 47], true⟩, ⟨7, [48], true⟩, ⟨8, [45, 49], true⟩, ⟨9, [50], true⟩, ⟨10, [4, 51], true⟩, ⟨11, [51, 52], true⟩, ⟨12, [5, 51], true⟩, ⟨13, [51, 54], true⟩, ⟨14, [51, 53, 55], true⟩, ⟨15, [51, 56], true⟩] rfl (by kernel_rfl) ?_
        refine JM_step rfl rfl rfl rfl (fun _ => step_move Sub.rfl) ?_
        refine JM_step rfl rfl rfl rfl (fun _ => step_move Sub.rfl) ?_
        refine JM_step rfl rfl rfl rfl (fun _ => step_indexAddr_sl  Tryz.underlying32 ty9 Sub.rfl Sub.rfl rfl (gb ?sg1)) ?_
        case sg1 => exact hlx
        refine JM_step rfl rfl rfl rfl (fun _ => step_load_ptr ty9 Sub.rfl) ?_
        refine JM_step rfl rfl rfl rfl (fun _ => step_move Sub.rfl) ?_
        refine JM_step rfl rfl rfl rfl (fun _ => step_move Sub.rfl) ?_
        refine JM_step rfl rfl rfl rfl (fun _ => step_indexAddr_sl  Tryz.underlying32 ty9 Sub.rfl Sub.rfl rfl (gb ?sg1)) ?_
        case sg1 => exact hly
        refine JM_step rfl rfl rfl rfl (fun _ => step_load_ptr ty9 Sub.rfl) ?_
        refine JM_step rfl rfl rfl rfl (fun _ => step_eql_str Sub.rfl Sub.rfl) ?_
        refine JM_step rfl rfl rfl rfl (fun _ => step_move Sub.rfl) ?_
        refine JM_stepG rfl rfl rfl rfl (Gd.plain Sub.rfl) rfl rfl (fun hw _ => step_fieldAddr so28 Sub.rfl rfl) ?_
        refine JM_stepG rfl rfl rfl rfl (Gd.plain Sub.rfl) rfl rfl (fun hw _ => step_load_ptr ty3 (Sub.w hw)) ?_
        refine JM_stepG rfl rfl rfl rfl (Gd.plain Sub.rfl) rfl rfl (fun hw _ => step_fieldAddr so28 Sub.rfl rfl) ?_
        refine JM_stepG rfl rfl rfl rfl (Gd.plain Sub.rfl) rfl rfl (fun hw _ => step_load_ptr ty3 (Sub.w hw)) ?_
        refine JM_stepG rfl rfl rfl rfl (Gd.plain Sub.rfl) rfl rfl (fun hw _ => step_eql (Sub.w hw) (Sub.w hw)) ?_
        refine JM_step rfl rfl rfl rfl (fun _ => step_pick_and Sub.rfl Sub.rfl) ?_
        refine JM_nil ?_
        refine J_cond Sub.rfl (fun h57 => ?_) (fun h57 => ?_)
        · try simp only [decide_eq_true_eq, decide_eq_false_iff_not, Bool.and_eq_true, Bool.or_eq_true, Bool.and_eq_false_iff, Bool.or_eq_false_iff, Bool.not_eq_true', Bool.not_eq_false', Int.not_lt, Int.not_le, Bool.not_true, Bool.not_false] at h57
          refine J_seq ?_
          refine J_region ?_
          refine JL_step rfl rfl rfl (step_assign Sub.rfl) ?_
          refine JL_nil ?_
          refine J_ret ?_
          refine K_retv (rv := .tmp 6) rfl () (.tmp Sub.rfl) (Sub.bool ?_)
          symm; exact any_t hlt (any_t hlx (any_t hly (keyC_t h57)))
        · try simp only [decide_eq_true_eq, decide_eq_false_iff_not, Bool.and_eq_true, Bool.or_eq_true, Bool.and_eq_false_iff, Bool.or_eq_false_iff, Bool.not_eq_true', Bool.not_eq_false', Int.not_lt, Int.not_le, Bool.not_true, Bool.not_false] at h57
          refine J_skip ?_
          refine J_region ?_
          refine JL_step rfl rfl rfl (step_move Sub.rfl) ?_
          refine JL_step rfl rfl rfl (step_add Sub.rfl Sub.rfl ?sg1) ?_
          case sg1 => unfold in64; omega
          refine JL_step rfl rfl rfl (step_assign Sub.rfl) ?_
          refine JL_nil ?_
          refine K_againL (σ := Nat) (s := y) (y + 1) (by first | omega | (dsimp only; omega) | (simp_all; omega)) (pred_again (p := fun z => keyC a b (nth (keysM (nth blocks i) a) x) z = false) hly hz (keyC_f h57)) (SubE.upd Sub.rfl (SubE.upd Sub.rfl (SubE.upd Sub.rfl (SubE.upd Sub.rfl (SubE.upd Sub.rfl (SubE.upd Sub.rfl (SubE.upd Sub.rfl (SubE.upd Sub.rfl (SubE.upd Sub.rfl (SubE.upd Sub.rfl (SubE.upd Sub.rfl (SubE.upd Sub.rfl (SubE.upd Sub.rfl (SubE.upd Sub.rfl (SubE.upd Sub.rfl (SubE.upd Sub.rfl (SubE.upd Sub.rfl (SubE.upd Sub.rfl SubE.any)))))))))))))))))) (LSub.rfl)
      · try simp only [decide_eq_true_eq, decide_eq_false_iff_not, Bool.and_eq_true, Bool.or_eq_true, Bool.and_eq_false_iff, Bool.or_eq_false_iff, Bool.not_eq_true', Bool.not_eq_false', Int.not_lt, Int.not_le, Bool.not_true, Bool.not_false] at h39
        refine J_exit ?_
        refine J_region ?_
        refine JL_step rfl rfl rfl (step_move Sub.rfl) ?_
        refine JL_step rfl rfl rfl (step_add Sub.rfl Sub.rfl ?sg1) ?_
        case sg1 => unfold in64; omega
        refine JL_step rfl rfl rfl (step_assign Sub.rfl) ?_
        refine JL_nil ?_
        refine K_againL (σ := Nat) (s := x) (x + 1) (by first | omega | (dsimp only; omega) | (simp_all; omega)) (pred_again (p := fun z => rowC (nth blocks i) a b z = false) hlx hw (any_f (fun k hk => hz k (by omega)))) (SubE.upd Sub.rfl (SubE.upd Sub.rfl (SubE.upd Sub.rfl (SubE.upd Sub.rfl (SubE.upd Sub.rfl (SubE.upd Sub.rfl (SubE.upd Sub.rfl (SubE.upd Sub.rfl (SubE.upd Sub.rfl (SubE.upd Sub.rfl (SubE.upd Sub.rfl (SubE.upd Sub.rfl (SubE.upd Sub.rfl (SubE.upd Sub.rfl (SubE.upd Sub.rfl SubE.any))))))))))))))) (LSub.rfl)
    · try simp only [decide_eq_true_eq, decide_eq_false_iff_not, Bool.and_eq_true, Bool.or_eq_true, Bool.and_eq_false_iff, Bool.or_eq_false_iff, Bool.not_eq_true', Bool.not_eq_false', Int.not_lt, Int.not_le, Bool.not_true, Bool.not_false] at h33
      refine J_exit ?_
      refine J_region ?_
      refine JL_step rfl rfl rfl (step_move Sub.rfl) ?_
      refine JL_step rfl rfl rfl (step_add Sub.rfl Sub.rfl ?sg1) ?_
      case sg1 => unfold in64; omega
      refine JL_step rfl rfl rfl (step_assign Sub.rfl) ?_
      refine JL_nil ?_
      refine K_againL (σ := Nat) (s := i) (i + 1) (by first | omega | (dsimp only; omega) | (simp_all; omega)) (pred_again (p := fun z => blkC a b z = false) hlt hv (any_f (fun k hk => hw k (by omega)))) (SubE.upd Sub.rfl (SubE.upd Sub.rfl (SubE.upd Sub.rfl (SubE.upd Sub.rfl SubE.any)))) (LSub.rfl)
  · try simp only [decide_eq_true_eq, decide_eq_false_iff_not, Bool.and_eq_true, Bool.or_eq_true, Bool.and_eq_false_iff, Bool.or_eq_false_iff, Bool.not_eq_true', Bool.not_eq_false', Int.not_lt, Int.not_le, Bool.not_true, Bool.not_false] at h15
    refine J_exit ?_
    refine J_seq ?_
    refine J_region ?_
    refine JL_step rfl rfl rfl (step_assign Sub.rfl) ?_
    refine JL_nil ?_
    refine J_ret ?_
    refine K_retv (rv := .tmp 6) rfl () (.tmp Sub.rfl) (Sub.bool ?_)
    symm; exact any_f (fun k hk => hv k (by omega))
end Lg

/- Pairs of lists that are turned round, and of two lists of blocks together. -/
namespace Lg
open Go Go.Proofs
theorem shares_rev (blocks : List GBlock) (a b : GRecord) : sharesB blocks.reverse a b = sharesB blocks a b := by
  rw [Bool.eq_iff_iff, shares_keys, shares_keys]
  simp only [List.mem_reverse]
theorem shares_app (one two : List GBlock) (a b : GRecord) : sharesB (one ++ two) a b = (sharesB one a b || sharesB two a b) := by
  rw [Bool.eq_iff_iff, Bool.or_eq_true, shares_keys, shares_keys, shares_keys]
  constructor
  · rintro ⟨h, bl, hb, k⟩
    rcases List.mem_append.1 hb with hb | hb
    · exact .inl ⟨h, bl, hb, k⟩
    · exact .inr ⟨h, bl, hb, k⟩
  · rintro (⟨h, bl, hb, k⟩ | ⟨h, bl, hb, k⟩)
    · exact ⟨h, bl, List.mem_append.2 (.inl hb), k⟩
    · exact ⟨h, bl, List.mem_append.2 (.inr hb), k⟩
theorem nth_rev {α : Type} [Inhabited α] {l : List α} {i : Nat} (h : i < l.length) : nth l.reverse i = nth l (l.length - 1 - i) := by
  rw [nth_get (by simpa using h), nth_get (by omega), List.getElem_reverse]
theorem rev_take {α : Type} [Inhabited α] {l : List α} {k : Nat} (h : k < l.length) : l.reverse.take (k + 1) = l.reverse.take k ++ [nth l (l.length - 1 - k)] := by
  rw [takeB (by simpa using h), nth_rev h]
def flipP (n : Nat) (p : Int × Int) : Int × Int := ((n : Int) - 1 - p.2, (n : Int) - 1 - p.1)
theorem pairs_rev {blocks : List GBlock} {recs : List GRecord} {p : Int × Int} (h : p ∈ pairsM blocks recs) : flipP recs.length p ∈ pairsM blocks.reverse recs.reverse := by
  obtain ⟨a, b⟩ := p
  obtain ⟨i, j, rfl, rfl, h1, h2, h3⟩ := pairs_mem.1 h
  refine pairs_mem.2 ⟨recs.length - 1 - j, recs.length - 1 - i, by show _ = _; omega, by show _ = _; omega, by omega, by rw [List.length_reverse]; omega, ?_⟩
  rw [nth_rev (by omega), nth_rev (by omega), shares_rev, shares_comm, show recs.length - 1 - (recs.length - 1 - i) = i by omega, show recs.length - 1 - (recs.length - 1 - j) = j by omega]
  exact h3
theorem flip_nodup {n : Nat} {l : List (Int × Int)} (h : l.Nodup) : (l.map (flipP n)).Nodup :=
  List.Pairwise.map _ (fun a b q e => q (by
    injection e with e1 e2
    exact Prod.ext (by omega) (by omega))) h
theorem pairs_rev_le (blocks : List GBlock) (recs : List GRecord) : (pairsM blocks recs).length ≤ (pairsM blocks.reverse recs.reverse).length := by
  have key : ∀ {l : List (Int × Int)}, l.Nodup → ∀ {r : List (Int × Int)}, (∀ a ∈ l, a ∈ r) → l.length ≤ r.length := by
    intro l
    induction l with
    | nil => intro _ r _; exact Nat.zero_le _
    | cons a l ih =>
      intro hd r hs
      have hd' := List.nodup_cons.1 hd
      have ha := hs a (by simp)
      have := ih hd'.2 (r := r.erase a) (fun b hb => (List.mem_erase_of_ne (by intro e; subst e; exact hd'.1 hb)).2 (hs b (by simp [hb])))
      rw [List.length_erase_of_mem ha] at this
      have hp : 0 < r.length := List.length_pos_of_mem ha
      simp only [List.length_cons]
      omega
  have := key (flip_nodup (n := recs.length) (pairs_nodup blocks recs)) (r := pairsM blocks.reverse recs.reverse) (fun a ha => by
    obtain ⟨p, hp, rfl⟩ := List.mem_map.1 ha
    exact pairs_rev hp)
  rwa [List.length_map] at this
theorem pairs_rev_len (blocks : List GBlock) (recs : List GRecord) : (pairsM blocks.reverse recs.reverse).length = (pairsM blocks recs).length := by
  have h1 := pairs_rev_le blocks recs
  have h2 := pairs_rev_le blocks.reverse recs.reverse
  rw [List.reverse_reverse, List.reverse_reverse] at h2
  omega
theorem pairs_rng {blocks : List GBlock} {recs : List GRecord} {p : Int × Int} (h : p ∈ pairsM blocks recs) : 0 ≤ p.1 ∧ p.1 < recs.length ∧ 0 ≤ p.2 ∧ p.2 < recs.length := by
  obtain ⟨a, b⟩ := p
  obtain ⟨i, j, rfl, rfl, h1, h2, _⟩ := pairs_mem.1 h
  refine ⟨?_, ?_, ?_, ?_⟩ <;> dsimp only <;> omega
theorem pairs_app {one two : List GBlock} {recs : List GRecord} {p : Int × Int} : p ∈ pairsM (one ++ two) recs ↔ p ∈ pairsM one recs ∨ p ∈ pairsM two recs := by
  obtain ⟨a, b⟩ := p
  rw [pairs_mem, pairs_mem, pairs_mem]
  constructor
  · rintro ⟨i, j, h1, h2, h3, h4, h5⟩
    rw [shares_app, Bool.or_eq_true] at h5
    rcases h5 with h5 | h5
    · exact .inl ⟨i, j, h1, h2, h3, h4, h5⟩
    · exact .inr ⟨i, j, h1, h2, h3, h4, h5⟩
  · rintro (⟨i, j, h1, h2, h3, h4, h5⟩ | ⟨i, j, h1, h2, h3, h4, h5⟩)
    · exact ⟨i, j, h1, h2, h3, h4, by rw [shares_app, h5]; rfl⟩
    · exact ⟨i, j, h1, h2, h3, h4, by rw [shares_app, h5, Bool.or_true]⟩
/-- How many of the first i pairs of q are no pairs of p. -/
def newN (p q : List (Int × Int)) (i : Nat) : Nat := ((q.take i).filter fun x => !decide (x ∈ p)).length
theorem newN_t {p q : List (Int × Int)} {i : Nat} (hi : i < q.length) (h : nth q i ∉ p) : newN p q (i + 1) = newN p q i + 1 := by
  unfold newN; rw [takeB hi, List.filter_append]; simp [h]
theorem newN_f {p q : List (Int × Int)} {i : Nat} (hi : i < q.length) (h : nth q i ∈ p) : newN p q (i + 1) = newN p q i := by
  unfold newN; rw [takeB hi, List.filter_append]; simp [h]
theorem newN_le (p q : List (Int × Int)) (i : Nat) : newN p q i ≤ q.length := by
  unfold newN
  refine Nat.le_trans (List.length_filter_le _ _) ?_
  rw [List.length_take]; omega
theorem more_len (one two : List GBlock) (recs : List GRecord) : (pairsM one recs).length + newN (pairsM one recs) (pairsM two recs) (pairsM two recs).length = (pairsM (one ++ two) recs).length := by
  have : ((pairsM one recs) ++ (pairsM two recs).filter fun x => !decide (x ∈ pairsM one recs)).Perm (pairsM (one ++ two) recs) := by
    refine (List.perm_ext_iff_of_nodup ?_ (pairs_nodup _ _)).2 fun p => ?_
    · rw [List.nodup_append]
      refine ⟨pairs_nodup _ _, (pairs_nodup _ _).filter _, fun a ha b hb e => ?_⟩
      subst e
      rw [List.mem_filter] at hb
      simp [ha] at hb
    · rw [pairs_app, List.mem_append, List.mem_filter]
      by_cases h : p ∈ pairsM one recs <;> simp [h]
  rw [← this.length_eq, List.length_append]
  unfold newN
  rw [List.take_of_length_le (Nat.le_refl _)]
theorem pairs_len2 (blocks : List GBlock) {recs : List GRecord} (h : recs.length ≤ 60) : (pairsM blocks recs).length ≤ 3600 := by
  have hr : ∀ i, (rowP blocks recs i).length ≤ recs.length := fun i => by
    unfold rowP
    rw [List.length_map]
    exact Nat.le_trans (List.length_filter_le _ _) (by simp)
  have : ∀ n, ((List.range n).flatMap (rowP blocks recs)).length ≤ n * recs.length := by
    intro n
    induction n with
    | zero => simp
    | succ n ih =>
      rw [List.range_succ, List.flatMap_append, List.length_append, Nat.add_mul, Nat.one_mul]
      have := hr n
      simp only [List.flatMap_cons, List.flatMap_nil, List.append_nil]
      omega
  have h1 := this recs.length
  have h2 : recs.length * recs.length ≤ 60 * 60 := Nat.mul_le_mul h h
  unfold pairsM
  omega
end Lg

namespace Lg
open Go Go.Proofs

set_option maxHeartbeats 4000000 in
theorem lawMore_spec (one two : List GBlock) (records : List GRecord) : Fun1 Tryz.prog 7 [tSl rBlock one, tSl rBlock two, tSl rRecord records] (tV (.bool true)) := by
  refine Spec.enter Tryz.func7 rfl rfl fun h0 w0 fr0 => ?_
  refine J_seq ?_
  refine J_region ?_
  refine JL_step rfl rfl rfl (step_assign Sub.rfl) ?_
  refine JL_nil ?_
  refine J_seq ?_
  refine J_region ?_
  refine JL_step rfl rfl rfl (step_call0 (head_spec ) trivial Tryz.call10) ?_
  refine JL_step rfl rfl rfl (step_assign Sub.rfl) ?_
  refine JL_nil ?_
  refine J_seq ?_
  refine J_seq ?_
  refine J_region ?_
  refine JL_step rfl rfl rfl (step_move Sub.rfl) ?_
  refine JL_step rfl rfl rfl (step_len_sl Tryz.underlying22 Sub.rfl) ?_
  refine JL_step rfl rfl rfl (step_gtr Sub.rfl Sub.rfl) ?_
  refine JL_step rfl rfl rfl (step_move Sub.rfl) ?_
  refine JL_stepG rfl rfl rfl (Gd.plain Sub.rfl) rfl rfl (fun hw => step_move Sub.rfl) ?_
  refine JL_stepG rfl rfl rfl (Gd.plain Sub.rfl) rfl rfl (fun hw => step_len_sl Tryz.underlying22 (Sub.w hw)) ?_
  refine JL_stepG rfl rfl rfl (Gd.plain Sub.rfl) rfl rfl (fun hw => step_gtr (Sub.w hw) Sub.rfl) ?_
  refine JL_step rfl rfl rfl (step_pick_or Sub.rfl Sub.rfl) ?_
  refine JL_step rfl rfl rfl (step_move Sub.rfl) ?_
  refine JL_stepG rfl rfl rfl (Gd.plain Sub.rfl) rfl rfl (fun hw => step_move Sub.rfl) ?_
  refine JL_stepG rfl rfl rfl (Gd.plain Sub.rfl) rfl rfl (fun hw => step_move Sub.rfl) ?_
  refine JL_stepG rfl rfl rfl (Gd.plain Sub.rfl) rfl rfl (fun hw => step_call0 (Few_spec _ _ 40 (by decide)) ⟨(Sub.w hw), (Sub.w hw), Sub.rfl, trivial⟩ Tryz.call11) ?_
  refine JL_stepG rfl rfl rfl (Gd.plain Sub.rfl) rfl rfl (fun hw => step_not (Sub.w hw)) ?_
  refine JL_step rfl rfl rfl (step_pick_or Sub.rfl Sub.rfl) ?_
  refine JL_nil ?_
  refine J_cond Sub.rfl (fun h31 => ?_) (fun h31 => ?_)
  · try simp only [decide_eq_true_eq, decide_eq_false_iff_not, Bool.and_eq_true, Bool.or_eq_true, Bool.and_eq_false_iff, Bool.or_eq_false_iff, Bool.not_eq_true', Bool.not_eq_false', Int.not_lt, Int.not_le, Bool.not_true, Bool.not_false] at h31
    refine J_seq ?_
    refine J_region ?_
    refine JL_step rfl rfl rfl (step_move Sub.rfl) ?_
    refine JL_step rfl rfl rfl (step_assign Sub.rfl) ?_
    refine JL_nil ?_
    refine J_ret ?_
    exact K_ret1 (t := 6) rfl () Sub.rfl
  · try simp only [decide_eq_true_eq, decide_eq_false_iff_not, Bool.and_eq_true, Bool.or_eq_true, Bool.and_eq_false_iff, Bool.or_eq_false_iff, Bool.not_eq_true', Bool.not_eq_false', Int.not_lt, Int.not_le, Bool.not_true, Bool.not_false] at h31
    obtain ⟨⟨h1, h2⟩, h3⟩ := h31
    have hF : FewP one records 40 := by simpa using h3
    obtain ⟨hb1, hb2, hb3⟩ := hF
    have hrs : ∀ x ∈ records, recOk x := fun x hx => (hb3 x hx).ok
    have hpl := pairs_len2 one (recs := records) (by omega)
    have hql := pairs_len2 two (recs := records) (by omega)
    have hbl := pairs_len2 (one ++ two) (recs := records) (by omega)
    refine J_skip ?_
    refine J_seq ?_
    refine J_region ?_
    refine JL_step rfl rfl rfl (step_move Sub.rfl) ?_
    refine JL_step rfl rfl rfl (step_move Sub.rfl) ?_
    refine JL_step rfl rfl rfl (step_call0 (Pairs_spec one records (by omega) hrs (by omega)) ⟨Sub.rfl, Sub.rfl, trivial⟩ Tryz.call15) ?_
    refine JL_step rfl rfl rfl (step_move Sub.rfl) ?_
    refine JL_step rfl rfl rfl (step_extract Sub.rfl rfl) ?_
    refine JL_step rfl rfl rfl (step_extract Sub.rfl rfl) ?_
    refine JL_step rfl rfl rfl (step_assign Sub.rfl) ?_
    refine JL_step rfl rfl rfl (step_assign Sub.rfl) ?_
    refine JL_nil ?_
    refine J_seq ?_
    refine J_region ?_
    refine JL_step rfl rfl rfl (step_move Sub.rfl) ?_
    refine JL_step rfl rfl rfl (step_move Sub.rfl) ?_
    refine JL_step rfl rfl rfl (step_call0 (Pairs_spec two records (by omega) hrs (by omega)) ⟨Sub.rfl, Sub.rfl, trivial⟩ Tryz.call15) ?_
    refine JL_step rfl rfl rfl (step_move Sub.rfl) ?_
    refine JL_step rfl rfl rfl (step_extract Sub.rfl rfl) ?_
    refine JL_step rfl rfl rfl (step_extract Sub.rfl rfl) ?_
    refine JL_step rfl rfl rfl (step_assign Sub.rfl) ?_
    refine JL_step rfl rfl rfl (step_assign Sub.rfl) ?_
    refine JL_nil ?_
    refine J_seq ?_
    refine J_region ?_
    refine JL_stepX rfl rfl rfl (step_literal_own (ys := ([] : List GBlock)) Tryz.underlying22 el35 trivial rfl (by decide)) fun v46 => ?_
    refine JL_step rfl rfl rfl (step_move Sub.rfl) ?_
    refine JL_stepX rfl rfl rfl (step_append Tryz.underlying22 el35 Sub.rfl Sub.rfl (by first | exact Sel.take (Sel.none _) | exact Sel.skip (Sel.take (Sel.none _)) | exact Sel.skip (Sel.skip (Sel.take (Sel.none _))) | exact Sel.skip (Sel.skip (Sel.skip (Sel.take (Sel.none _)))) | exact Sel.skip (Sel.skip (Sel.skip (Sel.skip (Sel.take (Sel.none _)))))) (by simp; omega) (by simp; omega)) fun v48 => ?_
    refine JL_step rfl rfl rfl (step_move Sub.rfl) ?_
    refine JL_stepX rfl rfl rfl (step_append Tryz.underlying22 el35 Sub.rfl Sub.rfl (by first | exact Sel.take (Sel.none _) | exact Sel.skip (Sel.take (Sel.none _)) | exact Sel.skip (Sel.skip (Sel.take (Sel.none _))) | exact Sel.skip (Sel.skip (Sel.skip (Sel.take (Sel.none _)))) | exact Sel.skip (Sel.skip (Sel.skip (Sel.skip (Sel.take (Sel.none _)))))) (by simp; omega) (by simp; omega)) fun v50 => ?_
    refine JL_freeze (t := 50) (A' := tSl rBlock (one ++ two)) (Sel.take (Sel.none _)) (Frz.own' (by simp)) ?_
    refine JL_step rfl rfl rfl (step_move Sub.rfl) ?_
    refine JL_step rfl rfl rfl (step_call0 (Pairs_spec (one ++ two) records (by simp; omega) hrs (by omega)) ⟨Sub.rfl, Sub.rfl, trivial⟩ Tryz.call15) ?_
    refine JL_step rfl rfl rfl (step_move Sub.rfl) ?_
    refine JL_step rfl rfl rfl (step_extract Sub.rfl rfl) ?_
    refine JL_step rfl rfl rfl (step_extract Sub.rfl rfl) ?_
    refine JL_step rfl rfl rfl (step_assign Sub.rfl) ?_
    refine JL_step rfl rfl rfl (step_assign Sub.rfl) ?_
    refine JL_nil ?_
    refine J_seq ?_
    refine J_seq ?_
    refine J_region ?_
    refine JL_step rfl rfl rfl (step_move Sub.rfl) ?_
    refine JL_step rfl rfl rfl (step_neq Sub.rfl Sub.rfl) ?_
    refine JL_step rfl rfl rfl (step_move Sub.rfl) ?_
    refine JL_stepG rfl rfl rfl (Gd.plain Sub.rfl) rfl rfl (fun hw => step_move Sub.rfl) ?_
    refine JL_stepG rfl rfl rfl (Gd.plain Sub.rfl) rfl rfl (fun hw => step_neq (Sub.w hw) Sub.rfl) ?_
    refine JL_step rfl rfl rfl (step_pick_or Sub.rfl Sub.rfl) ?_
    refine JL_step rfl rfl rfl (step_move Sub.rfl) ?_
    refine JL_stepG rfl rfl rfl (Gd.plain Sub.rfl) rfl rfl (fun hw => step_move Sub.rfl) ?_
    refine JL_stepG rfl rfl rfl (Gd.plain Sub.rfl) rfl rfl (fun hw => step_neq (Sub.w hw) Sub.rfl) ?_
    refine JL_step rfl rfl rfl (step_pick_or Sub.rfl Sub.rfl) ?_
    refine JL_nil ?_
    refine J_cond Sub.rfl (fun h64 => ?_) (fun h64 => ?_)
    · try simp only [decide_eq_true_eq, decide_eq_false_iff_not, Bool.and_eq_true, Bool.or_eq_true, Bool.and_eq_false_iff, Bool.or_eq_false_iff, Bool.not_eq_true', Bool.not_eq_false', Int.not_lt, Int.not_le, Bool.not_true, Bool.not_false] at h64
      exfalso; simp at h64
    · try simp only [decide_eq_true_eq, decide_eq_false_iff_not, Bool.and_eq_true, Bool.or_eq_true, Bool.and_eq_false_iff, Bool.or_eq_false_iff, Bool.not_eq_true', Bool.not_eq_false', Int.not_lt, Int.not_le, Bool.not_true, Bool.not_false] at h64
      refine J_skip ?_
      refine J_seq ?_
      refine J_region ?_
      refine JL_step rfl rfl rfl (step_move Sub.rfl) ?_
      refine JL_step rfl rfl rfl (step_len_sl Tryz.underlying36 Sub.rfl) ?_
      refine JL_step rfl rfl rfl (step_assign Sub.rfl) ?_
      refine JL_nil ?_
      refine J_seq ?_
      refine J_seq ?_
      refine J_region ?_
      refine JL_step rfl rfl rfl (step_assign Sub.rfl) ?_
      refine JL_nil ?_
      refine J_block ?_
      refine J_loopL (σ := Nat) (fun i => i ≤ (pairsM one records).length) (fun i => upd (upd (upd (upd (upd (upd env0 7 (tV (.bool true))) 8 (tSl rA2 (pairsM one records))) 10 (tSl rA2 (pairsM two records))) 12 (tSl rA2 (pairsM (one ++ two) records))) 14 (tV (.int .i64 (pairsM one records).length))) 15 (tV (.int .i64 i))) (fun i => []) (fun i => (pairsM one records).length - i) 0 (by omega) (SubE.upd Sub.rfl (SubE.upd Sub.rfl (SubE.upd Sub.rfl (SubE.upd Sub.rfl (SubE.upd Sub.rfl (SubE.upd Sub.rfl SubE.any)))))) (LSub.rfl) ?_
      rintro i hi
      refine J_seq ?_
      refine J_seq ?_
      refine J_region ?_
      refine JL_step rfl rfl rfl (step_move Sub.rfl) ?_
      refine JL_step rfl rfl rfl (step_move Sub.rfl) ?_
      refine JL_step rfl rfl rfl (step_len_sl Tryz.underlying36 Sub.rfl) ?_
      refine JL_step rfl rfl rfl (step_lss Sub.rfl Sub.rfl) ?_
      refine JL_nil ?_
      refine J_cond Sub.rfl (fun h70 => ?_) (fun h70 => ?_)
      · try simp only [decide_eq_true_eq, decide_eq_false_iff_not, Bool.and_eq_true, Bool.or_eq_true, Bool.and_eq_false_iff, Bool.or_eq_false_iff, Bool.not_eq_true', Bool.not_eq_false', Int.not_lt, Int.not_le, Bool.not_true, Bool.not_false] at h70
        have hli : i < (pairsM one records).length := by omega
        have hin : ((nth (pairsM one records) i).1, (nth (pairsM one records) i).2) ∈ (pairsM (one ++ two) records) := pairs_app.2 (.inl (nth_mem hli))
        refine J_skip ?_
        refine J_seq ?_
        refine J_block ?_
        refine J_seq ?_
        refine J_draw [⟨0, [12], true⟩, ⟨1, [8], true⟩, ⟨2, [15], true⟩, ⟨3, [74, 75], true⟩, ⟨4, [76], true⟩, ⟨5, [77], true⟩, ⟨6, [8], true⟩, ⟨7, [15], true⟩, ⟨8, [79, 80], true⟩, ⟨9, [81], true⟩, ⟨10, [82], true⟩, ⟨11, [73, 78, 83], true⟩, ⟨12, [84], true⟩] rfl (by kernel_rfl) ?_
        refine JM_step rfl rfl rfl rfl (fun _ => step_move Sub.rfl) ?_
        refine JM_step rfl rfl rfl rfl (fun _ => step_move Sub.rfl) ?_
        refine JM_step rfl rfl rfl rfl (fun _ => step_move Sub.rfl) ?_
        refine JM_step rfl rfl rfl rfl (fun _ => step_indexAddr_sl  Tryz.underlying36 ty52 Sub.rfl Sub.rfl rfl (gb ?sg1)) ?_
        case sg1 => exact hli
        refine JM_step rfl rfl rfl rfl (fun _ => step_arrAddr 0 Sub.rfl Sub.rfl rfl) ?_
        refine JM_step rfl rfl rfl rfl (fun _ => step_load_ptr ty3 Sub.rfl) ?_
        refine JM_step rfl rfl rfl rfl (fun _ => step_move Sub.rfl) ?_
        refine JM_step rfl rfl rfl rfl (fun _ => step_move Sub.rfl) ?_
        refine JM_step rfl rfl rfl rfl (fun _ => step_indexAddr_sl  Tryz.underlying36 ty52 Sub.rfl Sub.rfl rfl (gb ?sg1)) ?_
        case sg1 => exact hli
        refine JM_step rfl rfl rfl rfl (fun _ => step_arrAddr 1 Sub.rfl Sub.rfl rfl) ?_
        refine JM_step rfl rfl rfl rfl (fun _ => step_load_ptr ty3 Sub.rfl) ?_
        refine JM_step rfl rfl rfl rfl (fun _ => step_call0 (Has_spec (pairsM (one ++ two) records) (nth (pairsM one records) i).1 (nth (pairsM one records) i).2 (by omega)) ⟨Sub.rfl, Sub.rfl, Sub.rfl, trivial⟩ Tryz.call22) ?_
        refine JM_step rfl rfl rfl rfl (fun _ => step_not Sub.rfl) ?_
        refine JM_nil ?_
        refine J_cond Sub.rfl (fun h85 => ?_) (fun h85 => ?_)
        · try simp only [decide_eq_true_eq, decide_eq_false_iff_not, Bool.and_eq_true, Bool.or_eq_true, Bool.and_eq_false_iff, Bool.or_eq_false_iff, Bool.not_eq_true', Bool.not_eq_false', Int.not_lt, Int.not_le, Bool.not_true, Bool.not_false] at h85
          exact absurd hin h85
        · try simp only [decide_eq_true_eq, decide_eq_false_iff_not, Bool.and_eq_true, Bool.or_eq_true, Bool.and_eq_false_iff, Bool.or_eq_false_iff, Bool.not_eq_true', Bool.not_eq_false', Int.not_lt, Int.not_le, Bool.not_true, Bool.not_false] at h85
          refine J_skip ?_
          refine J_region ?_
          refine JL_step rfl rfl rfl (step_move Sub.rfl) ?_
          refine JL_step rfl rfl rfl (step_add Sub.rfl Sub.rfl ?sg1) ?_
          case sg1 => unfold in64; omega
          refine JL_step rfl rfl rfl (step_assign Sub.rfl) ?_
          refine JL_nil ?_
          refine K_againL (σ := Nat) (s := i) (i + 1) (by first | omega | (dsimp only; omega) | (simp_all; omega)) (by omega) (SubE.upd Sub.rfl (SubE.upd Sub.rfl (SubE.upd Sub.rfl (SubE.upd Sub.rfl (SubE.upd Sub.rfl (SubE.upd Sub.rfl SubE.any)))))) (LSub.rfl)
      · try simp only [decide_eq_true_eq, decide_eq_false_iff_not, Bool.and_eq_true, Bool.or_eq_true, Bool.and_eq_false_iff, Bool.or_eq_false_iff, Bool.not_eq_true', Bool.not_eq_false', Int.not_lt, Int.not_le, Bool.not_true, Bool.not_false] at h70
        refine J_exit ?_
        refine J_seq ?_
        refine J_seq ?_
        refine J_region ?_
        refine JL_step rfl rfl rfl (step_assign Sub.rfl) ?_
        refine JL_nil ?_
        refine J_block ?_
        refine J_loopL (σ := Nat) (fun i => i ≤ (pairsM two records).length) (fun i => upd (upd (upd (upd (upd (upd env0 7 (tV (.bool true))) 8 (tSl rA2 (pairsM one records))) 10 (tSl rA2 (pairsM two records))) 12 (tSl rA2 (pairsM (one ++ two) records))) 14 (tV (.int .i64 (((pairsM one records).length : Int) + (newN (pairsM one records) (pairsM two records) i : Int))))) 16 (tV (.int .i64 i))) (fun i => []) (fun i => (pairsM two records).length - i) 0 (by omega) (SubE.upd Sub.rfl (SubE.upd (Sub.int (by simp [newN])) (SubE.upd Sub.rfl (SubE.upd Sub.rfl (SubE.upd Sub.rfl (SubE.upd Sub.rfl SubE.any)))))) (LSub.rfl) ?_
        rintro i hi
        refine J_seq ?_
        refine J_seq ?_
        refine J_region ?_
        refine JL_step rfl rfl rfl (step_move Sub.rfl) ?_
        refine JL_step rfl rfl rfl (step_move Sub.rfl) ?_
        refine JL_step rfl rfl rfl (step_len_sl Tryz.underlying36 Sub.rfl) ?_
        refine JL_step rfl rfl rfl (step_lss Sub.rfl Sub.rfl) ?_
        refine JL_nil ?_
        refine J_cond Sub.rfl (fun h89 => ?_) (fun h89 => ?_)
        · try simp only [decide_eq_true_eq, decide_eq_false_iff_not, Bool.and_eq_true, Bool.or_eq_true, Bool.and_eq_false_iff, Bool.or_eq_false_iff, Bool.not_eq_true', Bool.not_eq_false', Int.not_lt, Int.not_le, Bool.not_true, Bool.not_false] at h89
          have hlj : i < (pairsM two records).length := by omega
          have hin : ((nth (pairsM two records) i).1, (nth (pairsM two records) i).2) ∈ (pairsM (one ++ two) records) := pairs_app.2 (.inr (nth_mem hlj))
          have hnl := newN_le (pairsM one records) (pairsM two records) i
          refine J_skip ?_
          refine J_seq ?_
          refine J_block ?_
          refine J_seq ?_
          refine J_seq ?_
          refine J_draw [⟨0, [12], true⟩, ⟨1, [10], true⟩, ⟨2, [16], true⟩, ⟨3, [93, 94], true⟩, ⟨4, [95], true⟩, ⟨5, [96], true⟩, ⟨6, [10], true⟩, ⟨7, [16], true⟩, ⟨8, [98, 99], true⟩, ⟨9, [100], true⟩, ⟨10, [101], true⟩, ⟨11, [92, 97, 102], true⟩, ⟨12, [103], true⟩] rfl (by kernel_rfl) ?_
          refine JM_step rfl rfl rfl rfl (fun _ => step_move Sub.rfl) ?_
          refine JM_step rfl rfl rfl rfl (fun _ => step_move Sub.rfl) ?_
          refine JM_step rfl rfl rfl rfl (fun _ => step_move Sub.rfl) ?_
          refine JM_step rfl rfl rfl rfl (fun _ => step_indexAddr_sl  Tryz.underlying36 ty52 Sub.rfl Sub.rfl rfl (gb ?sg1)) ?_
          case sg1 => exact hlj
          refine JM_step rfl rfl rfl rfl (fun _ => step_arrAddr 0 Sub.rfl Sub.rfl rfl) ?_
          refine JM_step rfl rfl rfl rfl (fun _ => step_load_ptr ty3 Sub.rfl) ?_
          refine JM_step rfl rfl rfl rfl (fun _ => step_move Sub.rfl) ?_
          refine JM_step rfl rfl rfl rfl (fun _ => step_move Sub.rfl) ?_
          refine JM_step rfl rfl rfl rfl (fun _ => step_indexAddr_sl  Tryz.underlying36 ty52 Sub.rfl Sub.rfl rfl (gb ?sg1)) ?_
          case sg1 => exact hlj
          refine JM_step rfl rfl rfl rfl (fun _ => step_arrAddr 1 Sub.rfl Sub.rfl rfl) ?_
          refine JM_step rfl rfl rfl rfl (fun _ => step_load_ptr ty3 Sub.rfl) ?_
          refine JM_step rfl rfl rfl rfl (fun _ => step_call0 (Has_spec (pairsM (one ++ two) records) (nth (pairsM two records) i).1 (nth (pairsM two records) i).2 (by omega)) ⟨Sub.rfl, Sub.rfl, Sub.rfl, trivial⟩ Tryz.call22) ?_
          refine JM_step rfl rfl rfl rfl (fun _ => step_not Sub.rfl) ?_
          refine JM_nil ?_
          refine J_cond Sub.rfl (fun h104 => ?_) (fun h104 => ?_)
          · try simp only [decide_eq_true_eq, decide_eq_false_iff_not, Bool.and_eq_true, Bool.or_eq_true, Bool.and_eq_false_iff, Bool.or_eq_false_iff, Bool.not_eq_true', Bool.not_eq_false', Int.not_lt, Int.not_le, Bool.not_true, Bool.not_false] at h104
            exact absurd hin h104
          · try simp only [decide_eq_true_eq, decide_eq_false_iff_not, Bool.and_eq_true, Bool.or_eq_true, Bool.and_eq_false_iff, Bool.or_eq_false_iff, Bool.not_eq_true', Bool.not_eq_false', Int.not_lt, Int.not_le, Bool.not_true, Bool.not_false] at h104
            refine J_skip ?_
            refine J_seq ?_
            refine J_draw [⟨0, [8], true⟩, ⟨1, [10], true⟩, ⟨2, [16], true⟩, ⟨3, [106, 107], true⟩, ⟨4, [108], true⟩, ⟨5, [109], true⟩, ⟨6, [10], true⟩, ⟨7, [16], true⟩, ⟨8, [111, 112], true⟩, ⟨9, [113], true⟩, ⟨10, [114], true⟩, ⟨11, [105, 110, 115], true⟩, ⟨12, [116], true⟩] rfl (by kernel_rfl) ?_
            refine JM_step rfl rfl rfl rfl (fun _ => step_move Sub.rfl) ?_
            refine JM_step rfl rfl rfl rfl (fun _ => step_move Sub.rfl) ?_
            refine JM_step rfl rfl rfl rfl (fun _ => step_move Sub.rfl) ?_
            refine JM_step rfl rfl rfl rfl (fun _ => step_indexAddr_sl  Tryz.underlying36 ty52 Sub.rfl Sub.rfl rfl (gb ?sg1)) ?_
            case sg1 => exact hlj
            refine JM_step rfl rfl rfl rfl (fun _ => step_arrAddr 0 Sub.rfl Sub.rfl rfl) ?_
            refine JM_step rfl rfl rfl rfl (fun _ => step_load_ptr ty3 Sub.rfl) ?_
            refine JM_step rfl rfl rfl rfl (fun _ => step_move Sub.rfl) ?_
            refine JM_step rfl rfl rfl rfl (fun _ => step_move Sub.rfl) ?_
            refine JM_step rfl rfl rfl rfl (fun _ => step_indexAddr_sl  Tryz.underlying36 ty52 Sub.rfl Sub.rfl rfl (gb ?sg1)) ?_
            case sg1 => exact hlj
            refine JM_step rfl rfl rfl rfl (fun _ => step_arrAddr 1 Sub.rfl Sub.rfl rfl) ?_
            refine JM_step rfl rfl rfl rfl (fun _ => step_load_ptr ty3 Sub.rfl) ?_
            refine JM_step rfl rfl rfl rfl (fun _ => step_call0 (Has_spec (pairsM one records) (nth (pairsM two records) i).1 (nth (pairsM two records) i).2 (by omega)) ⟨Sub.rfl, Sub.rfl, Sub.rfl, trivial⟩ Tryz.call22) ?_
            refine JM_step rfl rfl rfl rfl (fun _ => step_not Sub.rfl) ?_
            refine JM_nil ?_
            refine J_cond Sub.rfl (fun h117 => ?_) (fun h117 => ?_)
            · try simp only [decide_eq_true_eq, decide_eq_false_iff_not, Bool.and_eq_true, Bool.or_eq_true, Bool.and_eq_false_iff, Bool.or_eq_false_iff, Bool.not_eq_true', Bool.not_eq_false', Int.not_lt, Int.not_le, Bool.not_true, Bool.not_false] at h117
              refine J_region ?_
              refine JL_step rfl rfl rfl (step_move Sub.rfl) ?_
              refine JL_step rfl rfl rfl (step_add Sub.rfl Sub.rfl ?sg1) ?_
              case sg1 => unfold in64; omega
              refine JL_step rfl rfl rfl (step_assign Sub.rfl) ?_
              refine JL_nil ?_
              refine J_region ?_
              refine JL_step rfl rfl rfl (step_move Sub.rfl) ?_
              refine JL_step rfl rfl rfl (step_add Sub.rfl Sub.rfl ?sg1) ?_
              case sg1 => unfold in64; omega
              refine JL_step rfl rfl rfl (step_assign Sub.rfl) ?_
              refine JL_nil ?_
              refine K_againL (σ := Nat) (s := i) (i + 1) (by first | omega | (dsimp only; omega) | (simp_all; omega)) (by omega) (SubE.upd Sub.rfl (SubE.upd (Sub.int (by rw [newN_t hlj h117]; omega)) (SubE.upd Sub.rfl (SubE.upd Sub.rfl (SubE.upd Sub.rfl (SubE.upd Sub.rfl SubE.any)))))) (LSub.rfl)
            · try simp only [decide_eq_true_eq, decide_eq_false_iff_not, Bool.and_eq_true, Bool.or_eq_true, Bool.and_eq_false_iff, Bool.or_eq_false_iff, Bool.not_eq_true', Bool.not_eq_false', Int.not_lt, Int.not_le, Bool.not_true, Bool.not_false] at h117
              refine J_skip ?_
              refine J_region ?_
              refine JL_step rfl rfl rfl (step_move Sub.rfl) ?_
              refine JL_step rfl rfl rfl (step_add Sub.rfl Sub.rfl ?sg1) ?_
              case sg1 => unfold in64; omega
              refine JL_step rfl rfl rfl (step_assign Sub.rfl) ?_
              refine JL_nil ?_
              refine K_againL (σ := Nat) (s := i) (i + 1) (by first | omega | (dsimp only; omega) | (simp_all; omega)) (by omega) (SubE.upd Sub.rfl (SubE.upd (Sub.int (by rw [newN_f hlj h117])) (SubE.upd Sub.rfl (SubE.upd Sub.rfl (SubE.upd Sub.rfl (SubE.upd Sub.rfl SubE.any)))))) (LSub.rfl)
        · try simp only [decide_eq_true_eq, decide_eq_false_iff_not, Bool.and_eq_true, Bool.or_eq_true, Bool.and_eq_false_iff, Bool.or_eq_false_iff, Bool.not_eq_true', Bool.not_eq_false', Int.not_lt, Int.not_le, Bool.not_true, Bool.not_false] at h89
          obtain rfl : i = (pairsM two records).length := by omega
          refine J_exit ?_
          refine J_seq ?_
          refine J_region ?_
          refine JL_step rfl rfl rfl (step_move Sub.rfl) ?_
          refine JL_step rfl rfl rfl (step_move Sub.rfl) ?_
          refine JL_stepG rfl rfl rfl (Gd.plain Sub.rfl) rfl rfl (fun hw => step_move Sub.rfl) ?_
          refine JL_stepG rfl rfl rfl (Gd.plain Sub.rfl) rfl rfl (fun hw => step_move Sub.rfl) ?_
          refine JL_stepG rfl rfl rfl (Gd.plain Sub.rfl) rfl rfl (fun hw => step_len_sl Tryz.underlying36 (Sub.w hw)) ?_
          refine JL_stepG rfl rfl rfl (Gd.plain Sub.rfl) rfl rfl (fun hw => step_eql (Sub.w hw) (Sub.w hw)) ?_
          refine JL_step rfl rfl rfl (step_pick_and Sub.rfl Sub.rfl) ?_
          refine JL_step rfl rfl rfl (step_assign Sub.rfl) ?_
          refine JL_nil ?_
          refine J_ret ?_
          refine K_ret1 (t := 6) rfl () ?_
          refine Sub.bool ?_
          have hml := more_len one two records
          have e : ((pairsM one records).length : Int) + (newN (pairsM one records) (pairsM two records) (pairsM two records).length : Int) = ((pairsM (one ++ two) records).length : Int) := by omega
          simp only [e]
          simp
end Lg

/- BlockMore: the card. -/
namespace Go.Proofs.YtfojldlbhhigbaaGreatDoor.blockMore
open Go.ChangeShapes Go.WideShapes Go.ChangeAt Go.RowKit
set_option maxRecDepth 100000 in
theorem contract (H : Type) (enc : TypeId × Value → H) (W : World) (base : Nat) (args : Array Value) (ds gs : List (DataW H)) (before : List MemPlace)
    (hval : ∀ (j : Nat) t v, Tryz.f7.params[j]? = some t → args[j]? = some v → Value.okWide Tryz.prog W .any base t v)
    (hL : laidMet Tryz.prog Rows.blockMoreRow.laid W) (hW : DataW.Whole enc Tryz.prog Tryz.f7.params.toList Rows.blockMoreSpec.vars false W args.toList ds gs before) :
    Calls Tryz.prog 7 args W fun e W' => ∃ v, e = .returned v ∧ Rows.blockMoreSpec.post enc Tryz.prog Tryz.f7 false true false false W args v W' := by
  have hW' := hW
  obtain ⟨p, q, hA0, hV, rfl, hfz, hnd⟩ := hW
  have hA : DataW.TrodAll enc Tryz.prog W 0 (fun _ => true) true Tryz.f7.params.toList args.toList ds p := hA0
  rw [Tryz.params7] at hA hval
  obtain ⟨v0, v1, v2, d0, d1, d2, p0, p1, p2, rfl, rfl, rfl, h0, h1, h2⟩ := trodAll_three hA
  obtain ⟨rfl, rfl⟩ := trodVars_none hV
  obtain ⟨x0, a0⟩ := Lg.arg_sl Tryz.underlying22 Lg.rd22 (hval 0 22 v0 rfl rfl) h0
  obtain ⟨x1, a1⟩ := Lg.arg_sl Tryz.underlying22 Lg.rd22 (hval 1 22 v1 rfl rfl) h1
  obtain ⟨x2, a2⟩ := Lg.arg_sl Tryz.underlying23 Lg.rd23 (hval 2 23 v2 rfl rfl) h2
  refine (Lg.run_true (Lg.lawMore_spec x0 x1 x2) (Lg.inv_of (tab_of hL)) (vs := [v0, v1, v2]) ⟨a0, a1, a2, trivial⟩).mono fun e W' ⟨he, hb⟩ => ?_
  subst he
  have e1 : Rows.blockMoreSpec.fn H ([d0, d1, d2] ++ []) = { results := [.lit (.bool true)], args := [d0, d1, d2] } := by simp [Rows.blockMoreSpec]
  refine ⟨_, rfl, _, _, _, [], p0 ++ (p1 ++ p2), [], hW', ?_, ?_, ?_, hb.frame _, fun h => by cases h⟩
  · rw [e1]; exact trodAll_mk1 (shut_bool Tryz.underlying4 true)
  · rw [e1, Tryz.params7]
    exact trodAll_mk3 (hb.trod laidOut rec22 size22 h0 fun x hx => hW'.lt x (by simp [hx])) (hb.trod laidOut rec22 size22 h1 fun x hx => hW'.lt x (by simp [hx])) (hb.trod laidOut rec23 size23 h2 fun x hx => hW'.lt x (by simp [hx]))
  · rw [e1]; rfl
noncomputable abbrev args0 : Array Value := #[.slice none 0 0, .slice none 0 0, .slice none 0 0]
theorem reads (os : Os) {H : Type} (enc : TypeId × Value → H) : ∃ places, DataW.whole enc Tryz.prog ((laidWorld os).forCall (fun _ _ => 0) ⟨#[], args0, []⟩).memory Tryz.f7.params.toList Rows.blockMoreSpec.vars false args0.toList 8 = some ([.nil, .nil, .nil], [], places) :=
  ⟨[], by kernel_rfl⟩
theorem laid_met (os : Os) : laidMet Tryz.prog Rows.blockMoreRow.laid ((laidWorld os).forCall (fun _ _ => 0) ⟨#[], args0, []⟩).memory :=
  laidMet_laidAll (laid := laidL) args0 (by kernel_rfl) (by kernel_rfl)
set_option maxRecDepth 100000 in
theorem lifted (os : Os) (started : os.Started) (H : Type) (enc : TypeId × Value → H) (F : Stop.Interp) :
    ReturnsInHanded {} Tryz.checked os 7 .any ((OpenSpec.ofChange Rows.blockMoreSpec).preRow enc Tryz.prog Tryz.f7 Rows.blockMoreRow.domain false Rows.blockMoreRow.laid) (((OpenSpec.ofChange Rows.blockMoreSpec).at F).post enc Tryz.prog Tryz.f7 false true false false) := by
  obtain ⟨places, hx⟩ := reads os enc
  refine returnsInHanded_of_row (C := Tryz.checked) (s := OpenSpec.ofChange Rows.blockMoreSpec) own started (by kernel_rfl) Tryz.func7
    (witness_row_at (enc := enc) (C := Tryz.checked) false (laidWorld os) args0 (World.laidAll_os _ _ _) (by kernel_rfl) (by kernel_rfl) (by kernel_rfl)
      (OpenSpec.preRow_of_cond 8 hx (by kernel_rfl) (fun k hk => by cases hk) (by kernel_rfl) (laid_met os))) ?_
  intro W base args ds gs before hval hW _ _ _ hL _ _
  exact contract H enc W base args ds gs before hval hL hW
theorem said : Rows.BlockMoreSaid :=
  OpenClaim.holds_of_cond 7 Tryz.f7 rfl rfl rfl rfl rfl rfl rfl ⟨rfl, rfl, rfl, rfl, rfl⟩ rfl rfl rfl rfl rfl (by kernel_rfl) Tryz.func7 (by kernel_rfl)
    (of_decide_eq_true (by kernel_rfl)) (by unfold Func.isWrapper; first | (rw [if_pos (by decide +kernel)]; kernel_rfl) | (rw [if_neg (by decide +kernel)]; exact ⟨rfl, rfl⟩))
    (fun os started H enc _ F => by rw [OpenClaim.pre_eq_preRow]; exact lifted os started H enc F)
theorem plain (f : FuncId) (fn : Func) (hf : Tryz.pinned.checked.prog.funcNamed "cleanse/cleanselaw19.BlockMore" = some f) (hfn : Tryz.pinned.checked.prog.funcs[f]? = some fn) :
    true = Tryz.pinned.checked.prog.looks [] ∧ ∀ (j : Nat) t, fn.params[j]? = some t → Tryz.pinned.checked.prog.wantsStandIn t = false := by
  obtain rfl : f = 7 := Option.some.inj ((show Tryz.prog.funcNamed "cleanse/cleanselaw19.BlockMore" = some 7 by kernel_rfl).symm.trans hf) |>.symm
  obtain rfl : fn = Tryz.f7 := (Option.some.inj (Tryz.func7.symm.trans hfn)).symm
  refine ⟨noLooks, fun j t ht => ?_⟩
  rw [Tryz.params7] at ht
  have hm : t ∈ #[22, 22, 23] := Array.mem_of_getElem? ht
  simp only [List.mem_toArray, List.mem_cons, List.not_mem_nil, or_false] at hm
  rcases hm with rfl | rfl | rfl
  · exact want22
  · exact want22
  · exact want23
theorem card : Rows.BlockMoreCardSaid :=
  Claim7.holds_tied_plain_at .later [] _ _ _ _ said (fun _ h => by cases h) (by kernel_rfl) (fun _ h => by cases h) blockMore_row_tie rfl ⟨rfl, rfl⟩ (by kernel_rfl) rfl plain (by kernel_rfl)
end Go.Proofs.YtfojldlbhhigbaaGreatDoor.blockMore
