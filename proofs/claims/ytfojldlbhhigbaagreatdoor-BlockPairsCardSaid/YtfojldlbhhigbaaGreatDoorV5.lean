/- For all inputs the law BlockPairs answers true: the card. -/
import Derived.Test.YtfojldlbhhigbaaGreatDoorH
set_option linter.unusedVariables false
set_option linter.unusedSimpArgs false
set_option linter.unusedSectionVars false
namespace Lg
open Go Go.Proofs


theorem step_arrAddr {ro : Option Nat} {N : Nat} {ds : List Deferred} {h0 : PH} {w0 : World} {r : PH} {E : Env} {L : List SP} {d : Option Nat} {ty : Nat} {pos : String} {af : Array Edge} {g : Option (Nat × Bool)} {x y : Operand} {p : Int × Int} (n : Nat) {f : SF (Int × Int)} (hx : Sub (opTy E x) (tPtr rA2 p)) (hy : Sub (opTy E y) (tV (.int .i64 (n : Int)))) (hf : fsA2[n]? = some f) :
    Step1 ⟨Tryz.prog, ro, N, ds, h0, w0, r⟩ ⟨d, .indexAddr 52 x y, ty, pos, af, g⟩ E L (tPtr f.R (f.get p)) :=
  Step.of_same (by intro c h; cases h) fun a w h hw fr => by
    obtain ⟨b, off, cs, hv, ⟨c, e, fz, hb, hc⟩, r⟩ := fr.get hx
    have h2 : a.eval y = .int .i64 (n : Int) := fr.get hy
    obtain ⟨c', r', hc'⟩ := SF.rel_field r hf
    have hn : n = 0 ∨ n = 1 := by
      have := (List.getElem?_eq_some_iff.1 hf).1
      simp only [fsA2, List.length_cons, List.length_nil] at this
      omega
    have ho : SF.off fsA2 n = n := by rcases hn with rfl | rfl <;> rfl
    have hlt : n < 2 := by omega
    refine ⟨.pointer (some ⟨b, off + SF.off fsA2 n, none⟩), ?_, b, off + SF.off fsA2 n, c', rfl, ⟨c, e, fz, hb, fun i v hv' => ?_⟩, r'⟩
    · simp [execOp, Instr.indexAt, Instr.sureAddr, hv, h2, asIntOf, run_underlying Tryz.underlying52, Tryz.sizeOf3, hlt, addr_add, ho]
    · rw [Nat.add_assoc]; exact hc _ _ (hc' i v hv')
def keyC (a b : GRecord) (x y : ByteArray) : Bool := decide (x = y) && decide (a.Table = b.Table)
def rowC (bl : GBlock) (a b : GRecord) (x : ByteArray) : Bool := (keysM bl b).any (keyC a b x)
def blkC (a b : GRecord) (bl : GBlock) : Bool := (keysM bl a).any (rowC bl a b)
def commB (blocks : List GBlock) (a b : GRecord) : Bool := blocks.any (blkC a b)
theorem any_f {α : Type} [Inhabited α] {p : α → Bool} {l : List α} (h : ∀ k, k < l.length → p (nth l k) = false) : l.any p = false := by
  rw [List.any_eq_false]
  intro x hx
  obtain ⟨k, hk, rfl⟩ := List.getElem_of_mem hx
  have := h k hk
  rw [nth_get hk] at this
  simp [this]
theorem any_t {α : Type} [Inhabited α] {p : α → Bool} {l : List α} {k : Nat} (hk : k < l.length) (h : p (nth l k) = true) : l.any p = true := by
  rw [List.any_eq_true]
  exact ⟨_, nth_mem hk, h⟩
theorem shares_keys {blocks : List GBlock} {a b : GRecord} : sharesB blocks a b = true ↔ a.Table = b.Table ∧ ∃ bl ∈ blocks, ∃ k, k ∈ keysM bl a ∧ k ∈ keysM bl b := by
  rw [shares_iff]
  constructor
  · rintro ⟨p, h1, h2⟩
    obtain ⟨i, hi, e1, e2, e3⟩ := places_mem.1 h1
    obtain ⟨j, hj, f1, f2, f3⟩ := places_mem.1 h2
    obtain rfl : i = j := by omega
    exact ⟨by omega, _, nth_mem hi, p.key, e3, f3⟩
  · rintro ⟨ht, bl, hb, k, h1, h2⟩
    obtain ⟨i, hi, rfl⟩ := List.getElem_of_mem hb
    rw [← nth_get hi] at h1 h2
    exact ⟨⟨i, a.Table, k⟩, places_mem.2 ⟨i, hi, rfl, rfl, h1⟩, places_mem.2 ⟨i, hi, rfl, ht, h2⟩⟩
theorem comm_eq (blocks : List GBlock) (a b : GRecord) : commB blocks a b = sharesB blocks a b := by
  rw [Bool.eq_iff_iff, shares_keys]
  unfold commB blkC rowC keyC
  simp only [List.any_eq_true, Bool.and_eq_true, decide_eq_true_eq]
  constructor
  · rintro ⟨bl, hb, x, hx, y, hy, rfl, ht⟩; exact ⟨ht, bl, hb, x, hx, hy⟩
  · rintro ⟨ht, bl, hb, k, h1, h2⟩; exact ⟨bl, hb, k, h1, k, h2, rfl, ht⟩
theorem shares_comm (blocks : List GBlock) (a b : GRecord) : sharesB blocks a b = sharesB blocks b a := by
  rw [Bool.eq_iff_iff, shares_keys, shares_keys]
  constructor
  · rintro ⟨h, bl, hb, k, h1, h2⟩; exact ⟨h.symm, bl, hb, k, h2, h1⟩
  · rintro ⟨h, bl, hb, k, h1, h2⟩; exact ⟨h.symm, bl, hb, k, h2, h1⟩

theorem keyC_f {a b : GRecord} {x y : ByteArray} (h : ¬ x = y ∨ ¬ a.Table = b.Table) : keyC a b x y = false := by
  unfold keyC
  rcases h with h | h <;> simp [h]
theorem keyC_t {a b : GRecord} {x y : ByteArray} (h : x = y ∧ a.Table = b.Table) : keyC a b x y = true := by
  unfold keyC
  simp [h.1, h.2]

theorem has_ne {p : Int × Int} {a b : Int} (h : ¬ p.1 = a ∨ ¬ p.2 = b) : p ≠ (a, b) := by
  rintro rfl
  rcases h with h | h <;> exact h rfl

theorem Has_spec (l : List (Int × Int)) (a b : Int) (hl : l.length ≤ 1000000000) : Fun1 Tryz.prog 22 [tSl rA2 l, tV (.int .i64 a), tV (.int .i64 b)] (tV (.bool (decide ((a, b) ∈ l)))) := by
  refine Spec.enter Tryz.func22 rfl rfl fun h0 w0 fr0 => ?_
  refine J_seq ?_
  refine J_region ?_
  refine JL_step rfl rfl rfl (step_assign Sub.rfl) ?_
  refine JL_nil ?_
  refine J_seq ?_
  refine J_seq ?_
  refine J_region ?_
  refine JL_step rfl rfl rfl (step_assign Sub.rfl) ?_
  refine JL_nil ?_
  refine J_block ?_
  refine J_loopL (σ := Nat) (fun i => i ≤ l.length ∧ ∀ k, k < i → nth l k ≠ (a, b)) (fun i => upd (upd (upd (upd env0 0 (tSl rA2 l)) 1 (tV (.int .i64 a))) 2 (tV (.int .i64 b))) 7 (tV (.int .i64 i))) (fun i => []) (fun i => l.length - i) 0 ⟨by omega, fun k hk => absurd hk (by omega)⟩ (SubE.upd Sub.rfl (SubE.upd Sub.rfl (SubE.upd Sub.rfl (SubE.upd Sub.rfl SubE.any)))) (LSub.rfl) ?_
  rintro i ⟨hi, hv⟩
  refine J_seq ?_
  refine J_seq ?_
  refine J_region ?_
  refine JL_step rfl rfl rfl (step_move Sub.rfl) ?_
  refine JL_step rfl rfl rfl (step_move Sub.rfl) ?_
  refine JL_step rfl rfl rfl (step_len_sl Tryz.underlying36 Sub.rfl) ?_
  refine JL_step rfl rfl rfl (step_lss Sub.rfl Sub.rfl) ?_
  refine JL_nil ?_
  refine J_cond Sub.rfl (fun h11 => ?_) (fun h11 => ?_)
  · try simp only [decide_eq_true_eq, decide_eq_false_iff_not, Bool.and_eq_true, Bool.or_eq_true, Bool.and_eq_false_iff, Bool.or_eq_false_iff, Bool.not_eq_true', Bool.not_eq_false', Int.not_lt, Int.not_le, Bool.not_true, Bool.not_false] at h11
    have hlt : i < l.length := by omega
    refine J_skip ?_
    refine J_seq ?_
    refine J_block ?_
    refine J_seq ?_
    refine J_region ?_
    refine JL_step rfl rfl rfl (step_move Sub.rfl) ?_
    refine JL_step rfl rfl rfl (step_move Sub.rfl) ?_
    refine JL_step rfl rfl rfl (step_indexAddr_sl  Tryz.underlying36 ty52 Sub.rfl Sub.rfl rfl (gb ?sg1)) ?_
    case sg1 => exact hlt
    refine JL_step rfl rfl rfl (step_arrAddr 0 Sub.rfl Sub.rfl rfl) ?_
    refine JL_step rfl rfl rfl (step_load_ptr ty3 Sub.rfl) ?_
    refine JL_step rfl rfl rfl (step_move Sub.rfl) ?_
    refine JL_step rfl rfl rfl (step_eql Sub.rfl Sub.rfl) ?_
    refine JL_step rfl rfl rfl (step_move Sub.rfl) ?_
    refine JL_stepG rfl rfl rfl (Gd.plain Sub.rfl) rfl rfl (fun hw => step_move Sub.rfl) ?_
    refine JL_stepG rfl rfl rfl (Gd.plain Sub.rfl) rfl rfl (fun hw => step_move Sub.rfl) ?_
    refine JL_stepG rfl rfl rfl (Gd.plain Sub.rfl) rfl rfl (fun hw => step_indexAddr_sl  Tryz.underlying36 ty52 (Sub.w hw) (Sub.w hw) rfl (gb ?sg1)) ?_
    case sg1 => have hwq := hw; (try simp only [beqB_t, beqB_f, decide_eq_true_eq, decide_eq_false_iff_not, Bool.and_eq_true, Bool.or_eq_true, Bool.and_eq_false_iff, Bool.or_eq_false_iff, Bool.not_eq_true', Bool.not_eq_false', Int.not_lt, Int.not_le, Bool.not_true, Bool.not_false] at hwq); exact hlt
    refine JL_stepG rfl rfl rfl (Gd.plain Sub.rfl) rfl rfl (fun hw => step_arrAddr 1 (Sub.w hw) Sub.rfl rfl) ?_
    refine JL_stepG rfl rfl rfl (Gd.plain Sub.rfl) rfl rfl (fun hw => step_load_ptr ty3 (Sub.w hw)) ?_
    refine JL_stepG rfl rfl rfl (Gd.plain Sub.rfl) rfl rfl (fun hw => step_move Sub.rfl) ?_
    refine JL_stepG rfl rfl rfl (Gd.plain Sub.rfl) rfl rfl (fun hw => step_eql (Sub.w hw) (Sub.w hw)) ?_
    refine JL_step rfl rfl rfl (step_pick_and Sub.rfl Sub.rfl) ?_
    refine JL_nil ?_
    refine J_cond Sub.rfl (fun h29 => ?_) (fun h29 => ?_)
    · try simp only [decide_eq_true_eq, decide_eq_false_iff_not, Bool.and_eq_true, Bool.or_eq_true, Bool.and_eq_false_iff, Bool.or_eq_false_iff, Bool.not_eq_true', Bool.not_eq_false', Int.not_lt, Int.not_le, Bool.not_true, Bool.not_false] at h29
      refine J_seq ?_
      refine J_region ?_
      refine JL_step rfl rfl rfl (step_assign Sub.rfl) ?_
      refine JL_nil ?_
      refine J_ret ?_
      refine K_retv (rv := .tmp 6) rfl () (.tmp Sub.rfl) (Sub.bool ?_)
      symm; rw [decide_eq_true_eq]
      have e : nth l i = (a, b) := Prod.ext h29.1 h29.2
      rw [← e]; exact nth_mem hlt
    · try simp only [decide_eq_true_eq, decide_eq_false_iff_not, Bool.and_eq_true, Bool.or_eq_true, Bool.and_eq_false_iff, Bool.or_eq_false_iff, Bool.not_eq_true', Bool.not_eq_false', Int.not_lt, Int.not_le, Bool.not_true, Bool.not_false] at h29
      refine J_skip ?_
      refine J_region ?_
      refine JL_step rfl rfl rfl (step_move Sub.rfl) ?_
      refine JL_step rfl rfl rfl (step_add Sub.rfl Sub.rfl ?sg1) ?_
      case sg1 => unfold in64; omega
      refine JL_step rfl rfl rfl (step_assign Sub.rfl) ?_
      refine JL_nil ?_
      refine K_againL (σ := Nat) (s := i) (i + 1) (by first | omega | (dsimp only; omega) | (simp_all; omega)) (pred_again (p := fun z => z ≠ (a, b)) hlt hv (has_ne h29)) (SubE.upd Sub.rfl (SubE.upd Sub.rfl (SubE.upd Sub.rfl (SubE.upd Sub.rfl SubE.any)))) (LSub.rfl)
  · try simp only [decide_eq_true_eq, decide_eq_false_iff_not, Bool.and_eq_true, Bool.or_eq_true, Bool.and_eq_false_iff, Bool.or_eq_false_iff, Bool.not_eq_true', Bool.not_eq_false', Int.not_lt, Int.not_le, Bool.not_true, Bool.not_false] at h11
    refine J_exit ?_
    refine J_seq ?_
    refine J_region ?_
    refine JL_step rfl rfl rfl (step_assign Sub.rfl) ?_
    refine JL_nil ?_
    refine J_ret ?_
    refine K_retv (rv := .tmp 6) rfl () (.tmp Sub.rfl) (Sub.bool ?_)
    symm; rw [decide_eq_false_iff_not]; intro hm
    obtain ⟨k, hk, e⟩ := List.getElem_of_mem hm
    exact hv k (by omega) (by rw [nth_get hk]; exact e)
theorem common_spec (blocks : List GBlock) (a b : GRecord) (hbn : blocks.length ≤ 1000000) (ha : recOk a) (hb : recOk b) : Fun1 Tryz.prog 21 [tSl rBlock blocks, rRecord.ty a, rRecord.ty b] (tV (.bool (commB blocks a b))) := by
  refine Spec.enter Tryz.func21 rfl rfl fun h0 w0 fr0 => ?_
  refine J_seq ?_
  refine J_region ?_
  refine JL_step rfl rfl rfl (step_box (R := rRecord) Sub.rfl) ?_
  refine JL_step rfl rfl rfl (step_box (R := rRecord) Sub.rfl) ?_
  refine JL_step rfl rfl rfl (step_assign Sub.rfl) ?_
  refine JL_nil ?_
  refine J_seq ?_
  refine J_seq ?_
  refine J_region ?_
  refine JL_step rfl rfl rfl (step_assign Sub.rfl) ?_
  refine JL_nil ?_
  refine J_block ?_
  refine J_loopL (σ := Nat) (fun i => i ≤ blocks.length ∧ ∀ k, k < i → blkC a b (nth blocks k) = false) (fun i => upd (upd (upd (upd env0 0 (tSl rBlock blocks)) 4 (tPtr rRecord a)) 5 (tPtr rRecord b)) 7 (tV (.int .i64 i))) (fun i => []) (fun i => blocks.length - i) 0 ⟨by omega, fun k hk => absurd hk (by omega)⟩ (SubE.upd Sub.rfl (SubE.upd Sub.rfl (SubE.upd Sub.rfl (SubE.upd Sub.rfl SubE.any)))) (LSub.rfl) ?_
  rintro i ⟨hi, hv⟩
  refine J_seq ?_
  refine J_seq ?_
  refine J_region ?_
  refine JL_step rfl rfl rfl (step_move Sub.rfl) ?_
  refine JL_step rfl rfl rfl (step_move Sub.rfl) ?_
  refine JL_step rfl rfl rfl (step_len_sl Tryz.underlying22 Sub.rfl) ?_
  refine JL_step rfl rfl rfl (step_lss Sub.rfl Sub.rfl) ?_
  refine JL_nil ?_
  refine J_cond Sub.rfl (fun h15 => ?_) (fun h15 => ?_)
  · try simp only [decide_eq_true_eq, decide_eq_false_iff_not, Bool.and_eq_true, Bool.or_eq_true, Bool.and_eq_false_iff, Bool.or_eq_false_iff, Bool.not_eq_true', Bool.not_eq_false', Int.not_lt, Int.not_le, Bool.not_true, Bool.not_false] at h15
    have hlt : i < blocks.length := by omega
    have hka := keys_len (b := (nth blocks i)) ha
    have hkb := keys_len (b := (nth blocks i)) hb
    refine J_skip ?_
    refine J_seq ?_
    refine J_block ?_
    refine J_seq ?_
    refine J_draw [⟨0, [0], true⟩, ⟨1, [7], true⟩, ⟨2, [18, 19], true⟩, ⟨3, [20], true⟩, ⟨4, [4], true⟩, ⟨5, [21, 22], true⟩, ⟨6, [23], true⟩] rfl (by kernel_rfl) ?_
    refine JM_step rfl rfl rfl rfl (fun _ => step_move Sub.rfl) ?_
    refine JM_step rfl rfl rfl rfl (fun _ => step_move Sub.rfl) ?_
    refine JM_step rfl rfl rfl rfl (fun _ => step_indexAddr_sl  Tryz.underlying22 ty35 Sub.rfl Sub.rfl rfl (gb ?sg1)) ?_
    case sg1 => exact hlt
    refine JM_step rfl rfl rfl rfl (fun _ => step_load_ptr ty35 Sub.rfl) ?_
    refine JM_step rfl rfl rfl rfl (fun _ => step_load_ptr ty28 Sub.rfl) ?_
    refine JM_step rfl rfl rfl rfl (fun _ => step_call0 (Keys_spec _ _ ha) ⟨Sub.rfl, Sub.rfl, trivial⟩ Tryz.call13) ?_
    refine JM_step rfl rfl rfl rfl (fun _ => step_assign Sub.rfl) ?_
    refine JM_nil ?_
    refine J_seq ?_
    refine J_draw [⟨0, [0], true⟩, ⟨1, [7], true⟩, ⟨2, [24, 25], true⟩, ⟨3, [26], true⟩, ⟨4, [5], true⟩, ⟨5, [27, 28], true⟩, ⟨6, [29], true⟩] rfl (by kernel_rfl) ?_
    refine JM_step rfl rfl rfl rfl (fun _ => step_move Sub.rfl) ?_
    refine JM_step rfl rfl rfl rfl (fun _ => step_move Sub.rfl) ?_
    refine JM_step rfl rfl rfl rfl (fun _ => step_indexAddr_sl  Tryz.underlying22 ty35 Sub.rfl Sub.rfl rfl (gb ?sg1)) ?_
    case sg1 => exact hlt
    refine JM_step rfl rfl rfl rfl (fun _ => step_load_ptr ty35 Sub.rfl) ?_
    refine JM_step rfl rfl rfl rfl (fun _ => step_load_ptr ty28 Sub.rfl) ?_
    refine JM_step rfl rfl rfl rfl (fun _ => step_call0 (Keys_spec _ _ hb) ⟨Sub.rfl, Sub.rfl, trivial⟩ Tryz.call13) ?_
    refine JM_step rfl rfl rfl rfl (fun _ => step_assign Sub.rfl) ?_
    refine JM_nil ?_
    refine J_seq ?_
    refine J_region ?_
    refine JL_step rfl rfl rfl (step_assign Sub.rfl) ?_
    refine JL_nil ?_
    refine J_block ?_
    refine J_loopL (σ := Nat) (fun x => x ≤ (keysM (nth blocks i) a).length ∧ ∀ k, k < x → rowC (nth blocks i) a b (nth (keysM (nth blocks i) a) k) = false) (fun x => upd (upd (upd (upd (upd (upd (upd (upd (upd (upd (upd (upd (upd (upd (upd env0 0 (tSl rBlock blocks)) 4 (tPtr rRecord a)) 5 (tPtr rRecord b)) 7 (tV (.int .i64 i))) 8 (tSl rStr (keysM (nth blocks i) a))) 9 (tSl rStr (keysM (nth blocks i) b))) 10 (tV (.int .i64 x))) 12 (tV (.int .i64 i))) 13 (tSl rBlock blocks)) 18 (tSl rBlock blocks)) 19 (tV (.int .i64 i))) 23 (tSl rStr (keysM (nth blocks i) a))) 24 (tSl rBlock blocks)) 25 (tV (.int .i64 i))) 29 (tSl rStr (keysM (nth blocks i) b))) (fun x => []) (fun x => (keysM (nth blocks i) a).length - x) 0 ⟨by omega, fun k hk => absurd hk (by omega)⟩ (SubE.upd Sub.rfl (SubE.upd Sub.rfl (SubE.upd Sub.rfl (SubE.upd Sub.rfl (SubE.upd Sub.rfl (SubE.upd Sub.rfl (SubE.upd Sub.rfl (SubE.upd Sub.rfl (SubE.upd Sub.rfl (SubE.upd Sub.rfl (SubE.upd Sub.rfl (SubE.upd Sub.rfl (SubE.upd Sub.rfl (SubE.upd Sub.rfl (SubE.upd Sub.rfl SubE.any))))))))))))))) (LSub.rfl) ?_
    rintro x ⟨hx, hw⟩
    refine J_seq ?_
    refine J_seq ?_
    refine J_region ?_
    refine JL_step rfl rfl rfl (step_move Sub.rfl) ?_
    refine JL_step rfl rfl rfl (step_move Sub.rfl) ?_
    refine JL_step rfl rfl rfl (step_len_sl Tryz.underlying32 Sub.rfl) ?_
    refine JL_step rfl rfl rfl (step_lss Sub.rfl Sub.rfl) ?_
    refine JL_nil ?_
    refine J_cond Sub.rfl (fun h33 => ?_) (fun h33 => ?_)
    · try simp only [decide_eq_true_eq, decide_eq_false_iff_not, Bool.and_eq_true, Bool.or_eq_true, Bool.and_eq_false_iff, Bool.or_eq_false_iff, Bool.not_eq_true', Bool.not_eq_false', Int.not_lt, Int.not_le, Bool.not_true, Bool.not_false] at h33
      have hlx : x < (keysM (nth blocks i) a).length := by omega
      refine J_skip ?_
      refine J_seq ?_
      refine J_block ?_
      refine J_seq ?_
      refine J_region ?_
      refine JL_step rfl rfl rfl (step_assign Sub.rfl) ?_
      refine JL_nil ?_
      refine J_block ?_
      refine J_loopL (σ := Nat) (fun y => y ≤ (keysM (nth blocks i) b).length ∧ ∀ k, k < y → keyC a b (nth (keysM (nth blocks i) a) x) (nth (keysM (nth blocks i) b) k) = false) (fun y => upd (upd (upd (upd (upd (upd (upd (upd (upd (upd (upd (upd (upd (upd (upd (upd (upd (upd env0 0 (tSl rBlock blocks)) 4 (tPtr rRecord a)) 5 (tPtr rRecord b)) 7 (tV (.int .i64 i))) 8 (tSl rStr (keysM (nth blocks i) a))) 9 (tSl rStr (keysM (nth blocks i) b))) 10 (tV (.int .i64 x))) 11 (tV (.int .i64 y))) 12 (tV (.int .i64 i))) 13 (tSl rBlock blocks)) 18 (tSl rBlock blocks)) 19 (tV (.int .i64 i))) 23 (tSl rStr (keysM (nth blocks i) a))) 24 (tSl rBlock blocks)) 25 (tV (.int .i64 i))) 29 (tSl rStr (keysM (nth blocks i) b))) 30 (tV (.int .i64 x))) 31 (tSl rStr (keysM (nth blocks i) a))) (fun y => []) (fun y => (keysM (nth blocks i) b).length - y) 0 ⟨by omega, fun k hk => absurd hk (by omega)⟩ (SubE.upd Sub.rfl (SubE.upd Sub.rfl (SubE.upd Sub.rfl (SubE.upd Sub.rfl (SubE.upd Sub.rfl (SubE.upd Sub.rfl (SubE.upd Sub.rfl (SubE.upd Sub.rfl (SubE.upd Sub.rfl (SubE.upd Sub.rfl (SubE.upd Sub.rfl (SubE.upd Sub.rfl (SubE.upd Sub.rfl (SubE.upd Sub.rfl (SubE.upd Sub.rfl (SubE.upd Sub.rfl (SubE.upd Sub.rfl (SubE.upd Sub.rfl SubE.any)))))))))))))))))) (LSub.rfl) ?_
      rintro y ⟨hy, hz⟩
      refine J_seq ?_
      refine J_seq ?_
      refine J_region ?_
      refine JL_step rfl rfl rfl (step_move Sub.rfl) ?_
      refine JL_step rfl rfl rfl (step_move Sub.rfl) ?_
      refine JL_step rfl rfl rfl (step_len_sl Tryz.underlying32 Sub.rfl) ?_
      refine JL_step rfl rfl rfl (step_lss Sub.rfl Sub.rfl) ?_
      refine JL_nil ?_
      refine J_cond Sub.rfl (fun h39 => ?_) (fun h39 => ?_)
      · try simp only [decide_eq_true_eq, decide_eq_false_iff_not, Bool.and_eq_true, Bool.or_eq_true, Bool.and_eq_false_iff, Bool.or_eq_false_iff, Bool.not_eq_true', Bool.not_eq_false', Int.not_lt, Int.not_le, Bool.not_true, Bool.not_false] at h39
        have hly : y < (keysM (nth blocks i) b).length := by omega
        refine J_skip ?_
        refine J_seq ?_
        refine J_block ?_
        refine J_seq ?_
        refine J_draw [⟨0, [8], true⟩, ⟨1, [10], true⟩, ⟨2, [42, 43], true⟩, ⟨3, [44], true⟩, ⟨4, [9], true⟩, ⟨5, [11], true⟩, ⟨6, [46, 47], true⟩, ⟨7, [48], true⟩, ⟨8, [45, 49], true⟩, ⟨9, [50], true⟩, ⟨10, [4, 51], true⟩, ⟨11, [51, 52], true⟩, ⟨12, [5, 51], true⟩, ⟨13, [51, 54], true⟩, ⟨14, [51, 53, 55], true⟩, ⟨15, [51, 56], true⟩] rfl (by kernel_rfl) ?_
        refine JM_step rfl rfl rfl rfl (fun _ => step_move Sub.rfl) ?_
        refine JM_step rfl rfl rfl rfl (fun _ => step_move Sub.rfl) ?_
        refine JM_step rfl rfl rfl rfl (fun _ => step_indexAddr_sl  Tryz.underlying32 ty9 Sub.rfl Sub.rfl rfl (gb ?sg1)) ?_
        case sg1 => exact hlx
        refine JM_step rfl rfl rfl rfl (fun _ => step_load_ptr ty9 Sub.rfl) ?_
        refine JM_step rfl rfl rfl rfl (fun _ => step_move Sub.rfl) ?_
        refine JM_step rfl rfl rfl rfl (fun _ => step_move Sub.rfl) ?_
        refine JM_step rfl rfl rfl rfl (fun _ => step_indexAddr_sl  Tryz.underlying32 ty9 Sub.rfl Sub.rfl rfl (gb ?sg1)) ?_
        case sg1 => exact hly
        refine JM_step rfl rfl rfl rfl (fun _ => step_load_ptr ty9 Sub.rfl) ?_
        refine JM_step rfl rfl rfl rfl (fun _ => step_eql_str Sub.rfl Sub.rfl) ?_
        refine JM_step rfl rfl rfl rfl (fun _ => step_move Sub.rfl) ?_
        refine JM_stepG rfl rfl rfl rfl (Gd.plain Sub.rfl) rfl rfl (fun hw _ => step_fieldAddr so28 Sub.rfl rfl) ?_
        refine JM_stepG rfl rfl rfl rfl (Gd.plain Sub.rfl) rfl rfl (fun hw _ => step_load_ptr ty3 (Sub.w hw)) ?_
        refine JM_stepG rfl rfl rfl rfl (Gd.plain Sub.rfl) rfl rfl (fun hw _ => step_fieldAddr so28 Sub.rfl rfl) ?_
        refine JM_stepG rfl rfl rfl rfl (Gd.plain Sub.rfl) rfl rfl (fun hw _ => step_load_ptr ty3 (Sub.w hw)) ?_
        refine JM_stepG rfl rfl rfl rfl (Gd.plain Sub.rfl) rfl rfl (fun hw _ => step_eql (Sub.w hw) (Sub.w hw)) ?_
        refine JM_step rfl rfl rfl rfl (fun _ => step_pick_and Sub.rfl Sub.rfl) ?_
        refine JM_nil ?_
        refine J_cond Sub.rfl (fun h57 => ?_) (fun h57 => ?_)
        · try simp only [decide_eq_true_eq, decide_eq_false_iff_not, Bool.and_eq_true, Bool.or_eq_true, Bool.and_eq_false_iff, Bool.or_eq_false_iff, Bool.not_eq_true', Bool.not_eq_false', Int.not_lt, Int.not_le, Bool.not_true, Bool.not_false] at h57
          refine J_seq ?_
          refine J_region ?_
          refine JL_step rfl rfl rfl (step_assign Sub.rfl) ?_
          refine JL_nil ?_
          refine J_ret ?_
          refine K_retv (rv := .tmp 6) rfl () (.tmp Sub.rfl) (Sub.bool ?_)
          symm; exact any_t hlt (any_t hlx (any_t hly (keyC_t h57)))
        · try simp only [decide_eq_true_eq, decide_eq_false_iff_not, Bool.and_eq_true, Bool.or_eq_true, Bool.and_eq_false_iff, Bool.or_eq_false_iff, Bool.not_eq_true', Bool.not_eq_false', Int.not_lt, Int.not_le, Bool.not_true, Bool.not_false] at h57
          refine J_skip ?_
          refine J_region ?_
          refine JL_step rfl rfl rfl (step_move Sub.rfl) ?_
          refine JL_step rfl rfl rfl (step_add Sub.rfl Sub.rfl ?sg1) ?_
          case sg1 => unfold in64; omega
          refine JL_step rfl rfl rfl (step_assign Sub.rfl) ?_
          refine JL_nil ?_
          refine K_againL (σ := Nat) (s := y) (y + 1) (by first | omega | (dsimp only; omega) | (simp_all; omega)) (pred_again (p := fun z => keyC a b (nth (keysM (nth blocks i) a) x) z = false) hly hz (keyC_f h57)) (SubE.upd Sub.rfl (SubE.upd Sub.rfl (SubE.upd Sub.rfl (SubE.upd Sub.rfl (SubE.upd Sub.rfl (SubE.upd Sub.rfl (SubE.upd Sub.rfl (SubE.upd Sub.rfl (SubE.upd Sub.rfl (SubE.upd Sub.rfl (SubE.upd Sub.rfl (SubE.upd Sub.rfl (SubE.upd Sub.rfl (SubE.upd Sub.rfl (SubE.upd Sub.rfl (SubE.upd Sub.rfl (SubE.upd Sub.rfl (SubE.upd Sub.rfl SubE.any)))))))))))))))))) (LSub.rfl)
      · try simp only [decide_eq_true_eq, decide_eq_false_iff_not, Bool.and_eq_true, Bool.or_eq_true, Bool.and_eq_false_iff, Bool.or_eq_false_iff, Bool.not_eq_true', Bool.not_eq_false', Int.not_lt, Int.not_le, Bool.not_true, Bool.not_false] at h39
        refine J_exit ?_
        refine J_region ?_
        refine JL_step rfl rfl rfl (step_move Sub.rfl) ?_
        refine JL_step rfl rfl rfl (step_add Sub.rfl Sub.rfl ?sg1) ?_
        case sg1 => unfold in64; omega
        refine JL_step rfl rfl rfl (step_assign Sub.rfl) ?_
        refine JL_nil ?_
        refine K_againL (σ := Nat) (s := x) (x + 1) (by first | omega | (dsimp only; omega) | (simp_all; omega)) (pred_again (p := fun z => rowC (nth blocks i) a b z = false) hlx hw (any_f (fun k hk => hz k (by omega)))) (SubE.upd Sub.rfl (SubE.upd Sub.rfl (SubE.upd Sub.rfl (SubE.upd Sub.rfl (SubE.upd Sub.rfl (SubE.upd Sub.rfl (SubE.upd Sub.rfl (SubE.upd Sub.rfl (SubE.upd Sub.rfl (SubE.upd Sub.rfl (SubE.upd Sub.rfl (SubE.upd Sub.rfl (SubE.upd Sub.rfl (SubE.upd Sub.rfl (SubE.upd Sub.rfl SubE.any))))))))))))))) (LSub.rfl)
    · try simp only [decide_eq_true_eq, decide_eq_false_iff_not, Bool.and_eq_true, Bool.or_eq_true, Bool.and_eq_false_iff, Bool.or_eq_false_iff, Bool.not_eq_true', Bool.not_eq_false', Int.not_lt, Int.not_le, Bool.not_true, Bool.not_false] at h33
      refine J_exit ?_
      refine J_region ?_
      refine JL_step rfl rfl rfl (step_move Sub.rfl) ?_
      refine JL_step rfl rfl rfl (step_add Sub.rfl Sub.rfl ?sg1) ?_
      case sg1 => unfold in64; omega
      refine JL_step rfl rfl rfl (step_assign Sub.rfl) ?_
      refine JL_nil ?_
      refine K_againL (σ := Nat) (s := i) (i + 1) (by first | omega | (dsimp only; omega) | (simp_all; omega)) (pred_again (p := fun z => blkC a b z = false) hlt hv (any_f (fun k hk => hw k (by omega)))) (SubE.upd Sub.rfl (SubE.upd Sub.rfl (SubE.upd Sub.rfl (SubE.upd Sub.rfl SubE.any)))) (LSub.rfl)
  · try simp only [decide_eq_true_eq, decide_eq_false_iff_not, Bool.and_eq_true, Bool.or_eq_true, Bool.and_eq_false_iff, Bool.or_eq_false_iff, Bool.not_eq_true', Bool.not_eq_false', Int.not_lt, Int.not_le, Bool.not_true, Bool.not_false] at h15
    refine J_exit ?_
    refine J_seq ?_
    refine J_region ?_
    refine JL_step rfl rfl rfl (step_assign Sub.rfl) ?_
    refine JL_nil ?_
    refine J_ret ?_
    refine K_retv (rv := .tmp 6) rfl () (.tmp Sub.rfl) (Sub.bool ?_)
    symm; exact any_f (fun k hk => hv k (by omega))
end Lg

/- How the pairs are counted off, row by row. -/
namespace Lg
open Go Go.Proofs
section
variable (blocks : List GBlock) (recs : List GRecord)
def rowN (i k : Nat) : List (Int × Int) := ((List.range k).filter fun j => decide (i < j) && sharesB blocks (nth recs i) (nth recs j)).map fun j : Nat => ((i : Int), (j : Int))
def prefN (i : Nat) : List (Int × Int) := (List.range i).flatMap (rowP blocks recs)
def prefP (i k : Nat) : List (Int × Int) := prefN blocks recs i ++ rowN blocks recs i k
end
variable {blocks : List GBlock} {recs : List GRecord}
theorem rowN_t {i k : Nat} (h : i < k) (hs : sharesB blocks (nth recs i) (nth recs k) = true) : rowN blocks recs i (k + 1) = rowN blocks recs i k ++ [((i : Int), (k : Int))] := by
  simp [rowN, List.range_succ, h, hs]
theorem rowN_f {i k : Nat} (hs : sharesB blocks (nth recs i) (nth recs k) = false) : rowN blocks recs i (k + 1) = rowN blocks recs i k := by
  simp [rowN, List.range_succ, hs]
theorem rowN_le {i k : Nat} (h : k ≤ i + 1) : rowN blocks recs i k = [] := by
  unfold rowN
  rw [List.filter_eq_nil_iff.2]
  · rfl
  · intro j hj
    have := List.mem_range.1 hj
    have : ¬ i < j := by omega
    simp [this]
theorem rowN_pre {i k m : Nat} (h : k ≤ m) : rowN blocks recs i k <+: rowN blocks recs i m := by
  obtain ⟨d, rfl⟩ : ∃ d, m = k + d := ⟨m - k, by omega⟩
  clear h
  induction d with
  | zero => exact List.prefix_refl _
  | succ d ih =>
    refine ih.trans ?_
    rw [← Nat.add_assoc]
    unfold rowN
    rw [List.range_succ, List.filter_append, List.map_append]
    exact List.prefix_append _ _
theorem prefN_succ (i : Nat) : prefN blocks recs (i + 1) = prefN blocks recs i ++ rowN blocks recs i recs.length := by
  simp [prefN, List.range_succ]; rfl
theorem prefN_pre {i m : Nat} (h : i ≤ m) : prefN blocks recs i <+: prefN blocks recs m := by
  obtain ⟨d, rfl⟩ : ∃ d, m = i + d := ⟨m - i, by omega⟩
  clear h
  induction d with
  | zero => exact List.prefix_refl _
  | succ d ih => refine ih.trans ?_; rw [← Nat.add_assoc, prefN_succ]; exact List.prefix_append _ _
theorem prefN_all : prefN blocks recs recs.length = pairsM blocks recs := rfl
theorem pairs_at {i k : Nat} (hk : k < recs.length) (h : i < k) (hs : sharesB blocks (nth recs i) (nth recs k) = true) : (prefP blocks recs i k).length < (pairsM blocks recs).length ∧ ((i : Int), (k : Int)) = nth (pairsM blocks recs) (prefP blocks recs i k).length := by
  have : okP (pairsM blocks recs) (prefP blocks recs i k ++ [((i : Int), (k : Int))]) := by
    show _ <+: _
    unfold prefP
    rw [List.append_assoc, ← rowN_t h hs, ← prefN_all]
    refine List.IsPrefix.trans ?_ (prefN_pre (show i + 1 ≤ recs.length by omega))
    rw [prefN_succ]
    exact (List.prefix_append_right_inj _).2 (rowN_pre (by omega))
  exact pre_nth this
theorem rowP_len (i : Nat) : (rowP blocks recs i).length ≤ recs.length := by
  unfold rowP
  rw [List.length_map]
  exact Nat.le_trans (List.length_filter_le _ _) (by simp)
theorem pairs_len : (pairsM blocks recs).length ≤ recs.length * recs.length := by
  have : ∀ n, (prefN blocks recs n).length ≤ n * recs.length := by
    intro n
    induction n with
    | zero => simp [prefN]
    | succ n ih =>
      rw [prefN_succ, List.length_append, Nat.add_mul, Nat.one_mul]
      have := rowP_len (blocks := blocks) (recs := recs) n
      unfold rowP at this
      unfold rowN
      omega
  exact this _
/-- How many pairs lie ahead of (i, k). -/
def nP (blocks : List GBlock) (recs : List GRecord) (i k : Nat) : Int := ((prefP blocks recs i k).length : Int)
def nO (blocks : List GBlock) (recs : List GRecord) (i : Nat) : Int := ((prefN blocks recs i).length : Int)
theorem nP_f {i k : Nat} (hs : sharesB blocks (nth recs i) (nth recs k) = false) : nP blocks recs i k = nP blocks recs i (k + 1) := by
  unfold nP prefP; rw [rowN_f hs]
theorem nP_t {i k : Nat} (h : i < k) (hs : sharesB blocks (nth recs i) (nth recs k) = true) : nP blocks recs i k + 1 = nP blocks recs i (k + 1) := by
  unfold nP prefP; rw [rowN_t h hs]; simp; omega
theorem nP_0 (i : Nat) : nO blocks recs i = nP blocks recs i (i + 1) := by
  unfold nO nP prefP; rw [rowN_le (Nat.le_refl _), List.append_nil]
theorem nP_n (i : Nat) : nP blocks recs i recs.length = nO blocks recs (i + 1) := by
  unfold nO nP prefP; rw [prefN_succ]
/-- How many of the records ahead of i are near; the last one of the list is the further record. -/
def mO (blocks : List GBlock) (records : List GRecord) (r : GRecord) (i : Nat) : Int := ((nearN blocks records r (min i records.length)).length : Int)
def mP (blocks : List GBlock) (records : List GRecord) (r : GRecord) (i k : Nat) : Int := mO blocks records r (if k = records.length + 1 then i + 1 else i)
variable {records : List GRecord} {r : GRecord}
theorem mP_ne {i k : Nat} (h : k < records.length) : mP blocks records r i k = mP blocks records r i (k + 1) := by
  unfold mP; rw [if_neg (by omega), if_neg (by omega)]
theorem mP_f {i k : Nat} (hk : k = records.length) (hi : i < k) (hs : sharesB blocks (nth records i) r = false) : mP blocks records r i k = mP blocks records r i (k + 1) := by
  subst hk
  unfold mP mO
  rw [if_neg (by omega), if_pos rfl, Nat.min_eq_left (by omega), Nat.min_eq_left (by omega), nearN_f hs]
theorem mP_t {i k : Nat} (hk : k = records.length) (hi : i < k) (hs : sharesB blocks (nth records i) r = true) : mP blocks records r i k + 1 = mP blocks records r i (k + 1) := by
  subst hk
  unfold mP mO
  rw [if_neg (by omega), if_pos rfl, Nat.min_eq_left (by omega), Nat.min_eq_left (by omega), nearN_t hs]; simp
theorem mP_0 {i : Nat} (h : i ≤ records.length) : mO blocks records r i = mP blocks records r i (i + 1) := by
  unfold mP
  split
  · unfold mO
    obtain rfl : i = records.length := by omega
    rw [Nat.min_self, Nat.min_eq_right (by omega)]
  · rfl
theorem mP_n (i : Nat) : mP blocks records r i (records.length + 1) = mO blocks records r (i + 1) := by
  unfold mP; rw [if_pos rfl]
theorem mP_at {i k : Nat} (hk : k ≤ records.length) (hi : i < k) : mP blocks records r i k = ((nearN blocks records r i).length : Int) := by
  unfold mP mO
  rw [if_neg (by omega), Nat.min_eq_left (by omega)]
theorem nearN_pre {i m : Nat} (h : i ≤ m) : nearN blocks records r i <+: nearN blocks records r m := by
  obtain ⟨d, rfl⟩ : ∃ d, m = i + d := ⟨m - i, by omega⟩
  clear h
  induction d with
  | zero => exact List.prefix_refl _
  | succ d ih =>
    refine ih.trans ?_
    rw [← Nat.add_assoc]
    by_cases hs : sharesB blocks (nth records (i + d)) r = true
    · rw [nearN_t hs]; exact List.prefix_append _ _
    · rw [nearN_f (by simpa using hs)]; exact List.prefix_refl _
theorem near_at {i : Nat} (hi : i < records.length) (hs : sharesB blocks (nth records i) r = true) : (nearN blocks records r i).length < (nearM blocks records r).length ∧ (i : Int) = nth (nearM blocks records r) (nearN blocks records r i).length := by
  have : okP (nearM blocks records r) (nearN blocks records r i ++ [(i : Int)]) := by
    show _ <+: _
    rw [← nearN_t hs]
    exact nearN_pre (by omega)
  exact pre_nth this
theorem nth_app {i : Nat} (h : i < records.length) : nth (records ++ [r]) i = nth records i := by
  rw [nth_get (by simp; omega), nth_get h]
  simp [List.getElem_append, h]
theorem nth_last : nth (records ++ [r]) records.length = r := by
  rw [nth_get (by simp)]
  simp
end Lg

namespace Lg
open Go Go.Proofs


theorem few_app {blocks : List GBlock} {records : List GRecord} {r : GRecord} (h : ∀ x ∈ records, recFew x) (hr : recFew r) : ∀ x ∈ records ++ [r], recOk x := fun x hx => by
  rcases List.mem_append.1 hx with hx | hx
  · exact (h x hx).ok
  · simp only [List.mem_singleton] at hx; subst hx; exact hr.ok

theorem mP_fs {blocks : List GBlock} {records : List GRecord} {r : GRecord} {i k : Nat} (hi : i < records.length) (hk : i < k) (hl : k < (records ++ [r]).length) (hs : sharesB blocks (nth (records ++ [r]) i) (nth (records ++ [r]) k) = false) : mP blocks records r i k = mP blocks records r i (k + 1) := by
  by_cases e : k = records.length
  · subst e
    rw [nth_app hi, nth_last] at hs
    exact mP_f rfl hk hs
  · exact mP_ne (by simp at hl; omega)

set_option maxHeartbeats 4000000 in
theorem lawPairs_spec (blocks : List GBlock) (records : List GRecord) (r : GRecord) : Fun1 Tryz.prog 5 [tSl rBlock blocks, tSl rRecord records, rRecord.ty r] (tV (.bool true)) := by
  refine Spec.enter Tryz.func5 rfl rfl fun h0 w0 fr0 => ?_
  refine J_seq ?_
  refine J_region ?_
  refine JL_step rfl rfl rfl (step_box (R := rRecord) Sub.rfl) ?_
  refine JL_step rfl rfl rfl (step_assign Sub.rfl) ?_
  refine JL_nil ?_
  refine J_seq ?_
  refine J_region ?_
  refine JL_step rfl rfl rfl (step_call0 (head_spec) trivial Tryz.call10) ?_
  refine JL_step rfl rfl rfl (step_assign Sub.rfl) ?_
  refine JL_nil ?_
  refine J_seq ?_
  refine J_seq ?_
  refine J_region ?_
  refine JL_step rfl rfl rfl (step_move Sub.rfl) ?_
  refine JL_step rfl rfl rfl (step_move Sub.rfl) ?_
  refine JL_step rfl rfl rfl (step_call0 (Few_spec _ _ 40 (by decide)) ⟨Sub.rfl, Sub.rfl, Sub.rfl, trivial⟩ Tryz.call11) ?_
  refine JL_step rfl rfl rfl (step_not Sub.rfl) ?_
  refine JL_step rfl rfl rfl (step_move Sub.rfl) ?_
  refine JL_stepG rfl rfl rfl (Gd.plain Sub.rfl) rfl rfl (fun hw => step_load_ptr ty28 Sub.rfl) ?_
  refine JL_stepG rfl rfl rfl (Gd.plain Sub.rfl) rfl rfl (fun hw => step_literal (ys := [_]) Tryz.underlying23 el28 ⟨rfl, (Sub.w hw), trivial⟩ rfl (by decide)) ?_
  refine JL_stepG rfl rfl rfl (Gd.plain Sub.rfl) rfl rfl (fun hw => step_call0 (Few_spec [] [r] 1 (by decide)) ⟨Sub.nilsl, (Sub.w hw), Sub.rfl, trivial⟩ Tryz.call11) ?_
  refine JL_stepG rfl rfl rfl (Gd.plain Sub.rfl) rfl rfl (fun hw => step_not (Sub.w hw)) ?_
  refine JL_step rfl rfl rfl (step_pick_or Sub.rfl Sub.rfl) ?_
  refine JL_nil ?_
  refine J_cond Sub.rfl (fun h27 => ?_) (fun h27 => ?_)
  · try simp only [decide_eq_true_eq, decide_eq_false_iff_not, Bool.and_eq_true, Bool.or_eq_true, Bool.and_eq_false_iff, Bool.or_eq_false_iff, Bool.not_eq_true', Bool.not_eq_false', Int.not_lt, Int.not_le, Bool.not_true, Bool.not_false] at h27
    refine J_seq ?_
    refine J_region ?_
    refine JL_step rfl rfl rfl (step_move Sub.rfl) ?_
    refine JL_step rfl rfl rfl (step_assign Sub.rfl) ?_
    refine JL_nil ?_
    refine J_ret ?_
    exact K_ret1 (t := 6) rfl () Sub.rfl
  · try simp only [decide_eq_true_eq, decide_eq_false_iff_not, Bool.and_eq_true, Bool.or_eq_true, Bool.and_eq_false_iff, Bool.or_eq_false_iff, Bool.not_eq_true', Bool.not_eq_false', Int.not_lt, Int.not_le, Bool.not_true, Bool.not_false] at h27
    obtain ⟨hF, hG⟩ := h27
    have hF : FewP blocks records 40 := by simpa using hF
    have hG : FewP [] [r] 1 := by simpa using hG
    obtain ⟨hb1, hb2, hb3⟩ := hF
    have hr : recFew r := hG.2.2 r (by simp)
    have hbn : blocks.length ≤ 1000000 := by omega
    have hrs0 : ∀ x ∈ records, recOk x := fun x hx => (hb3 x hx).ok
    have hrs : ∀ x ∈ (records ++ [r]), recOk x := few_app (blocks := blocks) hb3 hr
    refine J_skip ?_
    refine J_seq ?_
    refine J_draw [⟨1, [1], true⟩, ⟨3, [5], true⟩, ⟨4, [32], true⟩, ⟨0, [], false⟩, ⟨2, [29, 30], false⟩, ⟨5, [31, 33], false⟩, ⟨6, [34], true⟩] rfl (by kernel_rfl) ?_
    refine JM_step rfl rfl rfl rfl (fun _ => step_move Sub.rfl) ?_
    refine JM_step rfl rfl rfl rfl (fun _ => step_load_ptr ty28 Sub.rfl) ?_
    refine JM_step rfl rfl rfl rfl (fun _ => step_literal (ys := [_]) Tryz.underlying23 el28 ⟨rfl, Sub.rfl, trivial⟩ rfl (by decide)) ?_
    refine JM_stepX rfl rfl rfl rfl (step_literal_own (ys := ([] : List GRecord)) Tryz.underlying23 el28 trivial rfl (by decide)) fun v29 => ?_
    refine JM_stepX rfl rfl rfl rfl (step_append Tryz.underlying23 el28 Sub.rfl Sub.rfl (by first | exact Sel.take (Sel.none _) | exact Sel.skip (Sel.take (Sel.none _)) | exact Sel.skip (Sel.skip (Sel.take (Sel.none _))) | exact Sel.skip (Sel.skip (Sel.skip (Sel.take (Sel.none _)))) | exact Sel.skip (Sel.skip (Sel.skip (Sel.skip (Sel.take (Sel.none _)))))) (by simp; omega) (by simp; omega)) fun v31 => ?_
    refine JM_stepX rfl rfl rfl rfl (step_append Tryz.underlying23 el28 Sub.rfl Sub.rfl (by first | exact Sel.take (Sel.none _) | exact Sel.skip (Sel.take (Sel.none _)) | exact Sel.skip (Sel.skip (Sel.take (Sel.none _))) | exact Sel.skip (Sel.skip (Sel.skip (Sel.take (Sel.none _)))) | exact Sel.skip (Sel.skip (Sel.skip (Sel.skip (Sel.take (Sel.none _)))))) (by simp; omega) (by simp; omega)) fun v34 => ?_
    refine JM_step rfl rfl rfl rfl (fun _ => step_assign Sub.rfl) ?_
    refine JM_nil ?_
    refine K_freeze (t := 8) (A' := tSl rRecord (records ++ [r])) (Sel.take (Sel.none _)) (Frz.own' (by simp)) ?_
    refine J_seq ?_
    refine J_region ?_
    refine JL_step rfl rfl rfl (step_move Sub.rfl) ?_
    refine JL_step rfl rfl rfl (step_move Sub.rfl) ?_
    refine JL_step rfl rfl rfl (step_call0 (Pairs_spec blocks (records ++ [r]) hbn hrs (by simp; omega)) ⟨Sub.rfl, Sub.rfl, trivial⟩ Tryz.call15) ?_
    refine JL_step rfl rfl rfl (step_move Sub.rfl) ?_
    refine JL_step rfl rfl rfl (step_extract Sub.rfl rfl) ?_
    refine JL_step rfl rfl rfl (step_extract Sub.rfl rfl) ?_
    refine JL_step rfl rfl rfl (step_assign Sub.rfl) ?_
    refine JL_step rfl rfl rfl (step_assign Sub.rfl) ?_
    refine JL_nil ?_
    refine J_seq ?_
    refine J_region ?_
    refine JL_step rfl rfl rfl (step_move Sub.rfl) ?_
    refine JL_step rfl rfl rfl (step_move Sub.rfl) ?_
    refine JL_step rfl rfl rfl (step_load_ptr ty28 Sub.rfl) ?_
    refine JL_step rfl rfl rfl (step_call0 (Near_spec blocks records r hbn hr.ok hrs0 (by omega)) ⟨Sub.rfl, Sub.rfl, Sub.rfl, trivial⟩ Tryz.call17) ?_
    refine JL_step rfl rfl rfl (step_move Sub.rfl) ?_
    refine JL_step rfl rfl rfl (step_extract Sub.rfl rfl) ?_
    refine JL_step rfl rfl rfl (step_extract Sub.rfl rfl) ?_
    refine JL_step rfl rfl rfl (step_assign Sub.rfl) ?_
    refine JL_step rfl rfl rfl (step_assign Sub.rfl) ?_
    refine JL_nil ?_
    refine J_seq ?_
    refine J_seq ?_
    refine J_region ?_
    refine JL_step rfl rfl rfl (step_move Sub.rfl) ?_
    refine JL_step rfl rfl rfl (step_neq Sub.rfl Sub.rfl) ?_
    refine JL_step rfl rfl rfl (step_move Sub.rfl) ?_
    refine JL_stepG rfl rfl rfl (Gd.plain Sub.rfl) rfl rfl (fun hw => step_move Sub.rfl) ?_
    refine JL_stepG rfl rfl rfl (Gd.plain Sub.rfl) rfl rfl (fun hw => step_neq (Sub.w hw) Sub.rfl) ?_
    refine JL_step rfl rfl rfl (step_pick_or Sub.rfl Sub.rfl) ?_
    refine JL_nil ?_
    refine J_cond Sub.rfl (fun h53 => ?_) (fun h53 => ?_)
    · try simp only [decide_eq_true_eq, decide_eq_false_iff_not, Bool.and_eq_true, Bool.or_eq_true, Bool.and_eq_false_iff, Bool.or_eq_false_iff, Bool.not_eq_true', Bool.not_eq_false', Int.not_lt, Int.not_le, Bool.not_true, Bool.not_false] at h53
      exfalso; simp at h53
    · try simp only [decide_eq_true_eq, decide_eq_false_iff_not, Bool.and_eq_true, Bool.or_eq_true, Bool.and_eq_false_iff, Bool.or_eq_false_iff, Bool.not_eq_true', Bool.not_eq_false', Int.not_lt, Int.not_le, Bool.not_true, Bool.not_false] at h53
      have hN : (records ++ [r]).length = records.length + 1 := by simp
      have hpl : (pairsM blocks (records ++ [r])).length ≤ 10000 := by have h1 := pairs_len (blocks := blocks) (recs := (records ++ [r])); have h2 : (records ++ [r]).length * (records ++ [r]).length ≤ 100 * 100 := Nat.mul_le_mul (by omega) (by omega); omega
      have hml : (nearM blocks records r).length ≤ 1000 := by have := nearN_len blocks records r records.length; unfold nearM; omega
      refine J_skip ?_
      refine J_seq ?_
      refine J_region ?_
      refine JL_step rfl rfl rfl (step_assign Sub.rfl) ?_
      refine JL_nil ?_
      refine J_seq ?_
      refine J_region ?_
      refine JL_step rfl rfl rfl (step_assign Sub.rfl) ?_
      refine JL_nil ?_
      refine J_seq ?_
      refine J_seq ?_
      refine J_region ?_
      refine JL_step rfl rfl rfl (step_assign Sub.rfl) ?_
      refine JL_nil ?_
      refine J_block ?_
      refine J_loopL (σ := Nat) (fun i => i ≤ (records ++ [r]).length) (fun i => upd (upd (upd (upd (upd (upd (upd (upd (upd env0 0 (tSl rBlock blocks)) 1 (tSl rRecord records)) 7 (tV (.bool true))) 8 (tSl rRecord (records ++ [r]))) 9 (tSl rA2 (pairsM blocks (records ++ [r])))) 11 (tSl rInt (nearM blocks records r))) 13 (tV (.int .i64 (nO blocks (records ++ [r]) i)))) 14 (tV (.int .i64 (mO blocks records r i)))) 15 (tV (.int .i64 i))) (fun i => []) (fun i => (records ++ [r]).length - i) 0 (by simp) (SubE.upd Sub.rfl (SubE.upd (Sub.int (by simp [mO, nearN])) (SubE.upd (Sub.int rfl) (SubE.upd Sub.rfl (SubE.upd Sub.rfl (SubE.upd Sub.rfl (SubE.upd Sub.rfl (SubE.upd Sub.rfl (SubE.upd Sub.rfl SubE.any))))))))) (LSub.rfl) ?_
      rintro i hi
      refine J_seq ?_
      refine J_seq ?_
      refine J_region ?_
      refine JL_step rfl rfl rfl (step_move Sub.rfl) ?_
      refine JL_step rfl rfl rfl (step_move Sub.rfl) ?_
      refine JL_step rfl rfl rfl (step_len_sl Tryz.underlying23 Sub.rfl) ?_
      refine JL_step rfl rfl rfl (step_lss Sub.rfl Sub.rfl) ?_
      refine JL_nil ?_
      refine J_cond Sub.rfl (fun h57 => ?_) (fun h57 => ?_)
      · try simp only [decide_eq_true_eq, decide_eq_false_iff_not, Bool.and_eq_true, Bool.or_eq_true, Bool.and_eq_false_iff, Bool.or_eq_false_iff, Bool.not_eq_true', Bool.not_eq_false', Int.not_lt, Int.not_le, Bool.not_true, Bool.not_false] at h57
        have hlt : i < (records ++ [r]).length := by omega
        have hri := hrs _ (nth_mem hlt)
        refine J_skip ?_
        refine J_seq ?_
        refine J_block ?_
        refine J_seq ?_
        refine J_region ?_
        refine JL_step rfl rfl rfl (step_move Sub.rfl) ?_
        refine JL_step rfl rfl rfl (step_add Sub.rfl Sub.rfl ?sg1) ?_
        case sg1 => unfold in64; omega
        refine JL_step rfl rfl rfl (step_assign Sub.rfl) ?_
        refine JL_nil ?_
        refine J_block ?_
        refine J_loopL (σ := Nat) (fun k => i < k ∧ k ≤ (records ++ [r]).length) (fun k => upd (upd (upd (upd (upd (upd (upd (upd (upd (upd (upd (upd (upd env0 0 (tSl rBlock blocks)) 1 (tSl rRecord records)) 7 (tV (.bool true))) 8 (tSl rRecord (records ++ [r]))) 9 (tSl rA2 (pairsM blocks (records ++ [r])))) 11 (tSl rInt (nearM blocks records r))) 13 (tV (.int .i64 (nP blocks (records ++ [r]) i k)))) 14 (tV (.int .i64 (mP blocks records r i k)))) 15 (tV (.int .i64 i))) 16 (tV (.int .i64 k))) 54 (tV (.int .i64 i))) 55 (tSl rRecord (records ++ [r]))) 60 (tV (.int .i64 i))) (fun k => []) (fun k => (records ++ [r]).length - k) (i + 1) ⟨by omega, by omega⟩ (SubE.upd Sub.rfl (SubE.upd Sub.rfl (SubE.upd Sub.rfl (SubE.upd Sub.rfl (SubE.upd Sub.rfl (SubE.upd (Sub.int (mP_0 (by omega))) (SubE.upd (Sub.int (nP_0 i)) (SubE.upd Sub.rfl (SubE.upd Sub.rfl (SubE.upd Sub.rfl (SubE.upd Sub.rfl (SubE.upd Sub.rfl (SubE.upd Sub.rfl SubE.any))))))))))))) (LSub.rfl) ?_
        rintro k ⟨hk1, hk2⟩
        refine J_seq ?_
        refine J_seq ?_
        refine J_region ?_
        refine JL_step rfl rfl rfl (step_move Sub.rfl) ?_
        refine JL_step rfl rfl rfl (step_move Sub.rfl) ?_
        refine JL_step rfl rfl rfl (step_len_sl Tryz.underlying23 Sub.rfl) ?_
        refine JL_step rfl rfl rfl (step_lss Sub.rfl Sub.rfl) ?_
        refine JL_nil ?_
        refine J_cond Sub.rfl (fun h65 => ?_) (fun h65 => ?_)
        · try simp only [decide_eq_true_eq, decide_eq_false_iff_not, Bool.and_eq_true, Bool.or_eq_true, Bool.and_eq_false_iff, Bool.or_eq_false_iff, Bool.not_eq_true', Bool.not_eq_false', Int.not_lt, Int.not_le, Bool.not_true, Bool.not_false] at h65
          have hlk : k < (records ++ [r]).length := by omega
          have hrk := hrs _ (nth_mem hlk)
          have hik : i < records.length := by omega
          refine J_skip ?_
          refine J_seq ?_
          refine J_block ?_
          refine J_seq ?_
          refine J_seq ?_
          refine J_draw [⟨0, [0], true⟩, ⟨1, [8], true⟩, ⟨2, [15], true⟩, ⟨3, [69, 70], true⟩, ⟨4, [71], true⟩, ⟨5, [8], true⟩, ⟨6, [16], true⟩, ⟨7, [73, 74], true⟩, ⟨8, [75], true⟩, ⟨9, [68, 72, 76], true⟩, ⟨10, [77], true⟩] rfl (by kernel_rfl) ?_
          refine JM_step rfl rfl rfl rfl (fun _ => step_move Sub.rfl) ?_
          refine JM_step rfl rfl rfl rfl (fun _ => step_move Sub.rfl) ?_
          refine JM_step rfl rfl rfl rfl (fun _ => step_move Sub.rfl) ?_
          refine JM_step rfl rfl rfl rfl (fun _ => step_indexAddr_sl  Tryz.underlying23 ty28 Sub.rfl Sub.rfl rfl (gb ?sg1)) ?_
          case sg1 => exact hlt
          refine JM_step rfl rfl rfl rfl (fun _ => step_load_ptr ty28 Sub.rfl) ?_
          refine JM_step rfl rfl rfl rfl (fun _ => step_move Sub.rfl) ?_
          refine JM_step rfl rfl rfl rfl (fun _ => step_move Sub.rfl) ?_
          refine JM_step rfl rfl rfl rfl (fun _ => step_indexAddr_sl  Tryz.underlying23 ty28 Sub.rfl Sub.rfl rfl (gb ?sg1)) ?_
          case sg1 => exact hlk
          refine JM_step rfl rfl rfl rfl (fun _ => step_load_ptr ty28 Sub.rfl) ?_
          refine JM_step rfl rfl rfl rfl (fun _ => step_call0 (common_spec _ _ _ hbn hri hrk) ⟨Sub.rfl, Sub.rfl, Sub.rfl, trivial⟩ Tryz.call21) ?_
          refine JM_step rfl rfl rfl rfl (fun _ => step_not Sub.rfl) ?_
          refine JM_nil ?_
          refine J_cond Sub.rfl (fun h78 => ?_) (fun h78 => ?_)
          · try simp only [decide_eq_true_eq, decide_eq_false_iff_not, Bool.and_eq_true, Bool.or_eq_true, Bool.and_eq_false_iff, Bool.or_eq_false_iff, Bool.not_eq_true', Bool.not_eq_false', Int.not_lt, Int.not_le, Bool.not_true, Bool.not_false] at h78
            have hs : sharesB blocks (nth (records ++ [r]) i) (nth (records ++ [r]) k) = false := by rw [← comm_eq]; simpa using h78
            refine J_exit ?_
            refine J_region ?_
            refine JL_step rfl rfl rfl (step_move Sub.rfl) ?_
            refine JL_step rfl rfl rfl (step_add Sub.rfl Sub.rfl ?sg1) ?_
            case sg1 => unfold in64; omega
            refine JL_step rfl rfl rfl (step_assign Sub.rfl) ?_
            refine JL_nil ?_
            refine K_againL (σ := Nat) (s := k) (k + 1) (by first | omega | (dsimp only; omega) | (simp_all; omega)) ⟨by omega, by omega⟩ (SubE.upd Sub.rfl (SubE.upd Sub.rfl (SubE.upd Sub.rfl (SubE.upd Sub.rfl (SubE.upd Sub.rfl (SubE.upd (Sub.int (mP_fs hik hk1 hlk hs)) (SubE.upd (Sub.int (nP_f hs)) (SubE.upd Sub.rfl (SubE.upd Sub.rfl (SubE.upd Sub.rfl (SubE.upd Sub.rfl (SubE.upd Sub.rfl (SubE.upd Sub.rfl SubE.any))))))))))))) (LSub.rfl)
          · try simp only [decide_eq_true_eq, decide_eq_false_iff_not, Bool.and_eq_true, Bool.or_eq_true, Bool.and_eq_false_iff, Bool.or_eq_false_iff, Bool.not_eq_true', Bool.not_eq_false', Int.not_lt, Int.not_le, Bool.not_true, Bool.not_false] at h78
            have hs : sharesB blocks (nth (records ++ [r]) i) (nth (records ++ [r]) k) = true := by rw [← comm_eq]; simpa using h78
            obtain ⟨pa1, pa2⟩ := pairs_at hlk hk1 hs
            have hnP : (nP blocks (records ++ [r]) i k) = ((prefP blocks (records ++ [r]) i k).length : Int) := rfl
            refine J_skip ?_
            refine J_seq ?_
            refine J_seq ?_
            refine J_region ?_
            refine JL_step rfl rfl rfl (step_move Sub.rfl) ?_
            refine JL_step rfl rfl rfl (step_move Sub.rfl) ?_
            refine JL_step rfl rfl rfl (step_len_sl Tryz.underlying36 Sub.rfl) ?_
            refine JL_step rfl rfl rfl (step_geq Sub.rfl Sub.rfl) ?_
            refine JL_step rfl rfl rfl (step_move Sub.rfl) ?_
            refine JL_stepG rfl rfl rfl (Gd.plain Sub.rfl) rfl rfl (fun hw => step_move Sub.rfl) ?_
            refine JL_stepG rfl rfl rfl (Gd.plain Sub.rfl) rfl rfl (fun hw => step_move Sub.rfl) ?_
            refine JL_stepG rfl rfl rfl (Gd.plain Sub.rfl) rfl rfl (fun hw => step_indexAddr_sl (i := (prefP blocks (records ++ [r]) i k).length) Tryz.underlying36 ty52 (Sub.w hw) (Sub.w hw) ?sg1 (gb ?sg2)) ?_
            case sg1 => have hwq := hw; (try simp only [beqB_t, beqB_f, decide_eq_true_eq, decide_eq_false_iff_not, Bool.and_eq_true, Bool.or_eq_true, Bool.and_eq_false_iff, Bool.or_eq_false_iff, Bool.not_eq_true', Bool.not_eq_false', Int.not_lt, Int.not_le, Bool.not_true, Bool.not_false] at hwq); rfl
            case sg2 => have hwq := hw; (try simp only [beqB_t, beqB_f, decide_eq_true_eq, decide_eq_false_iff_not, Bool.and_eq_true, Bool.or_eq_true, Bool.and_eq_false_iff, Bool.or_eq_false_iff, Bool.not_eq_true', Bool.not_eq_false', Int.not_lt, Int.not_le, Bool.not_true, Bool.not_false] at hwq); exact pa1
            refine JL_stepG rfl rfl rfl (Gd.plain Sub.rfl) rfl rfl (fun hw => step_load_ptr ty52 (Sub.w hw)) ?_
            refine JL_stepG rfl rfl rfl (Gd.plain Sub.rfl) rfl rfl (fun hw => step_move Sub.rfl) ?_
            refine JL_stepG rfl rfl rfl (Gd.plain Sub.rfl) rfl rfl (fun hw => step_move Sub.rfl) ?_
            refine JL_stepG rfl rfl rfl (Gd.plain Sub.rfl) rfl rfl (fun hw => step_build_pair (Sub.w hw) (Sub.w hw)) ?_
            refine JL_stepG rfl rfl rfl (Gd.plain Sub.rfl) rfl rfl (fun hw => step_neq_pair (Sub.w hw) (Sub.w hw)) ?_
            refine JL_step rfl rfl rfl (step_pick_or Sub.rfl Sub.rfl) ?_
            refine JL_nil ?_
            refine J_cond Sub.rfl (fun h92 => ?_) (fun h92 => ?_)
            · try simp only [decide_eq_true_eq, decide_eq_false_iff_not, Bool.and_eq_true, Bool.or_eq_true, Bool.and_eq_false_iff, Bool.or_eq_false_iff, Bool.not_eq_true', Bool.not_eq_false', Int.not_lt, Int.not_le, Bool.not_true, Bool.not_false] at h92
              exact absurd h92 (fun q => q.elim (fun h => by rw [hnP] at h; omega) (fun h => h pa2.symm))
            · try simp only [decide_eq_true_eq, decide_eq_false_iff_not, Bool.and_eq_true, Bool.or_eq_true, Bool.and_eq_false_iff, Bool.or_eq_false_iff, Bool.not_eq_true', Bool.not_eq_false', Int.not_lt, Int.not_le, Bool.not_true, Bool.not_false] at h92
              refine J_skip ?_
              refine J_seq ?_
              refine J_region ?_
              refine JL_step rfl rfl rfl (step_move Sub.rfl) ?_
              refine JL_step rfl rfl rfl (step_add Sub.rfl Sub.rfl (by unfold in64; omega)) ?_
              refine JL_step rfl rfl rfl (step_assign Sub.rfl) ?_
              refine JL_nil ?_
              refine J_seq ?_
              refine J_region ?_
              refine JL_step rfl rfl rfl (step_move Sub.rfl) ?_
              refine JL_step rfl rfl rfl (step_move Sub.rfl) ?_
              refine JL_step rfl rfl rfl (step_len_sl Tryz.underlying23 Sub.rfl) ?_
              refine JL_step rfl rfl rfl (step_eql Sub.rfl Sub.rfl) ?_
              refine JL_nil ?_
              refine J_cond Sub.rfl (fun h98 => ?_) (fun h98 => ?_)
              · try simp only [decide_eq_true_eq, decide_eq_false_iff_not, Bool.and_eq_true, Bool.or_eq_true, Bool.and_eq_false_iff, Bool.or_eq_false_iff, Bool.not_eq_true', Bool.not_eq_false', Int.not_lt, Int.not_le, Bool.not_true, Bool.not_false] at h98
                have hkr : k = records.length := by omega
                have hsr : sharesB blocks (nth records i) r = true := by rw [nth_app hik, hkr, nth_last] at hs; exact hs
                obtain ⟨na1, na2⟩ := near_at hik hsr
                have hmP : (mP blocks records r i k) = ((nearN blocks records r i).length : Int) := mP_at (by omega) hk1
                refine J_seq ?_
                refine J_seq ?_
                refine J_region ?_
                refine JL_step rfl rfl rfl (step_move Sub.rfl) ?_
                refine JL_step rfl rfl rfl (step_move Sub.rfl) ?_
                refine JL_step rfl rfl rfl (step_len_sl Tryz.underlying40 Sub.rfl) ?_
                refine JL_step rfl rfl rfl (step_geq Sub.rfl Sub.rfl) ?_
                refine JL_step rfl rfl rfl (step_move Sub.rfl) ?_
                refine JL_stepG rfl rfl rfl (Gd.plain Sub.rfl) rfl rfl (fun hw => step_move Sub.rfl) ?_
                refine JL_stepG rfl rfl rfl (Gd.plain Sub.rfl) rfl rfl (fun hw => step_move Sub.rfl) ?_
                refine JL_stepG rfl rfl rfl (Gd.plain Sub.rfl) rfl rfl (fun hw => step_indexAddr_sl (i := (nearN blocks records r i).length) Tryz.underlying40 ty3 (Sub.w hw) (Sub.w hw) ?sg1 (gb ?sg2)) ?_
                case sg1 => have hwq := hw; (try simp only [beqB_t, beqB_f, decide_eq_true_eq, decide_eq_false_iff_not, Bool.and_eq_true, Bool.or_eq_true, Bool.and_eq_false_iff, Bool.or_eq_false_iff, Bool.not_eq_true', Bool.not_eq_false', Int.not_lt, Int.not_le, Bool.not_true, Bool.not_false] at hwq); exact hmP
                case sg2 => have hwq := hw; (try simp only [beqB_t, beqB_f, decide_eq_true_eq, decide_eq_false_iff_not, Bool.and_eq_true, Bool.or_eq_true, Bool.and_eq_false_iff, Bool.or_eq_false_iff, Bool.not_eq_true', Bool.not_eq_false', Int.not_lt, Int.not_le, Bool.not_true, Bool.not_false] at hwq); exact na1
                refine JL_stepG rfl rfl rfl (Gd.plain Sub.rfl) rfl rfl (fun hw => step_load_ptr ty3 (Sub.w hw)) ?_
                refine JL_stepG rfl rfl rfl (Gd.plain Sub.rfl) rfl rfl (fun hw => step_move Sub.rfl) ?_
                refine JL_stepG rfl rfl rfl (Gd.plain Sub.rfl) rfl rfl (fun hw => step_neq (Sub.w hw) (Sub.w hw)) ?_
                refine JL_step rfl rfl rfl (step_pick_or Sub.rfl Sub.rfl) ?_
                refine JL_nil ?_
                refine J_cond Sub.rfl (fun h110 => ?_) (fun h110 => ?_)
                · try simp only [decide_eq_true_eq, decide_eq_false_iff_not, Bool.and_eq_true, Bool.or_eq_true, Bool.and_eq_false_iff, Bool.or_eq_false_iff, Bool.not_eq_true', Bool.not_eq_false', Int.not_lt, Int.not_le, Bool.not_true, Bool.not_false] at h110
                  exact absurd h110 (fun q => q.elim (fun h => by rw [hmP] at h; omega) (fun h => h na2.symm))
                · try simp only [decide_eq_true_eq, decide_eq_false_iff_not, Bool.and_eq_true, Bool.or_eq_true, Bool.and_eq_false_iff, Bool.or_eq_false_iff, Bool.not_eq_true', Bool.not_eq_false', Int.not_lt, Int.not_le, Bool.not_true, Bool.not_false] at h110
                  refine J_skip ?_
                  refine J_region ?_
                  refine JL_step rfl rfl rfl (step_move Sub.rfl) ?_
                  refine JL_step rfl rfl rfl (step_add Sub.rfl Sub.rfl (by unfold in64; omega)) ?_
                  refine JL_step rfl rfl rfl (step_assign Sub.rfl) ?_
                  refine JL_nil ?_
                  refine J_region ?_
                  refine JL_step rfl rfl rfl (step_move Sub.rfl) ?_
                  refine JL_step rfl rfl rfl (step_add Sub.rfl Sub.rfl ?sg1) ?_
                  case sg1 => unfold in64; omega
                  refine JL_step rfl rfl rfl (step_assign Sub.rfl) ?_
                  refine JL_nil ?_
                  refine K_againL (σ := Nat) (s := k) (k + 1) (by first | omega | (dsimp only; omega) | (simp_all; omega)) ⟨by omega, by omega⟩ (SubE.upd Sub.rfl (SubE.upd Sub.rfl (SubE.upd Sub.rfl (SubE.upd Sub.rfl (SubE.upd Sub.rfl (SubE.upd (Sub.int (mP_t hkr hk1 hsr)) (SubE.upd (Sub.int (nP_t hk1 hs)) (SubE.upd Sub.rfl (SubE.upd Sub.rfl (SubE.upd Sub.rfl (SubE.upd Sub.rfl (SubE.upd Sub.rfl (SubE.upd Sub.rfl SubE.any))))))))))))) (LSub.rfl)
              · try simp only [decide_eq_true_eq, decide_eq_false_iff_not, Bool.and_eq_true, Bool.or_eq_true, Bool.and_eq_false_iff, Bool.or_eq_false_iff, Bool.not_eq_true', Bool.not_eq_false', Int.not_lt, Int.not_le, Bool.not_true, Bool.not_false] at h98
                have hkr : k < records.length := by omega
                refine J_skip ?_
                refine J_region ?_
                refine JL_step rfl rfl rfl (step_move Sub.rfl) ?_
                refine JL_step rfl rfl rfl (step_add Sub.rfl Sub.rfl ?sg1) ?_
                case sg1 => unfold in64; omega
                refine JL_step rfl rfl rfl (step_assign Sub.rfl) ?_
                refine JL_nil ?_
                refine K_againL (σ := Nat) (s := k) (k + 1) (by first | omega | (dsimp only; omega) | (simp_all; omega)) ⟨by omega, by omega⟩ (SubE.upd Sub.rfl (SubE.upd Sub.rfl (SubE.upd Sub.rfl (SubE.upd Sub.rfl (SubE.upd Sub.rfl (SubE.upd (Sub.int (mP_ne hkr)) (SubE.upd (Sub.int (nP_t hk1 hs)) (SubE.upd Sub.rfl (SubE.upd Sub.rfl (SubE.upd Sub.rfl (SubE.upd Sub.rfl (SubE.upd Sub.rfl (SubE.upd Sub.rfl SubE.any))))))))))))) (LSub.rfl)
        · try simp only [decide_eq_true_eq, decide_eq_false_iff_not, Bool.and_eq_true, Bool.or_eq_true, Bool.and_eq_false_iff, Bool.or_eq_false_iff, Bool.not_eq_true', Bool.not_eq_false', Int.not_lt, Int.not_le, Bool.not_true, Bool.not_false] at h65
          obtain rfl : k = (records ++ [r]).length := by omega
          refine J_exit ?_
          refine J_region ?_
          refine JL_step rfl rfl rfl (step_move Sub.rfl) ?_
          refine JL_step rfl rfl rfl (step_add Sub.rfl Sub.rfl ?sg1) ?_
          case sg1 => unfold in64; omega
          refine JL_step rfl rfl rfl (step_assign Sub.rfl) ?_
          refine JL_nil ?_
          refine K_againL (σ := Nat) (s := i) (i + 1) (by first | omega | (dsimp only; omega) | (simp_all; omega)) (by omega) (SubE.upd Sub.rfl (SubE.upd (Sub.int (by rw [hN]; exact mP_n i)) (SubE.upd (Sub.int (nP_n i)) (SubE.upd Sub.rfl (SubE.upd Sub.rfl (SubE.upd Sub.rfl (SubE.upd Sub.rfl (SubE.upd Sub.rfl (SubE.upd Sub.rfl SubE.any))))))))) (LSub.rfl)
      · try simp only [decide_eq_true_eq, decide_eq_false_iff_not, Bool.and_eq_true, Bool.or_eq_true, Bool.and_eq_false_iff, Bool.or_eq_false_iff, Bool.not_eq_true', Bool.not_eq_false', Int.not_lt, Int.not_le, Bool.not_true, Bool.not_false] at h57
        obtain rfl : i = (records ++ [r]).length := by omega
        refine J_exit ?_
        refine J_seq ?_
        refine J_region ?_
        refine JL_step rfl rfl rfl (step_move Sub.rfl) ?_
        refine JL_step rfl rfl rfl (step_move Sub.rfl) ?_
        refine JL_stepG rfl rfl rfl (Gd.plain Sub.rfl) rfl rfl (fun hw => step_move Sub.rfl) ?_
        refine JL_stepG rfl rfl rfl (Gd.plain Sub.rfl) rfl rfl (fun hw => step_move Sub.rfl) ?_
        refine JL_stepG rfl rfl rfl (Gd.plain Sub.rfl) rfl rfl (fun hw => step_len_sl Tryz.underlying36 (Sub.w hw)) ?_
        refine JL_stepG rfl rfl rfl (Gd.plain Sub.rfl) rfl rfl (fun hw => step_eql (Sub.w hw) (Sub.w hw)) ?_
        refine JL_step rfl rfl rfl (step_pick_and Sub.rfl Sub.rfl) ?_
        refine JL_step rfl rfl rfl (step_move Sub.rfl) ?_
        refine JL_stepG rfl rfl rfl (Gd.plain Sub.rfl) rfl rfl (fun hw => step_move Sub.rfl) ?_
        refine JL_stepG rfl rfl rfl (Gd.plain Sub.rfl) rfl rfl (fun hw => step_move Sub.rfl) ?_
        refine JL_stepG rfl rfl rfl (Gd.plain Sub.rfl) rfl rfl (fun hw => step_len_sl Tryz.underlying40 (Sub.w hw)) ?_
        refine JL_stepG rfl rfl rfl (Gd.plain Sub.rfl) rfl rfl (fun hw => step_eql (Sub.w hw) (Sub.w hw)) ?_
        refine JL_step rfl rfl rfl (step_pick_and Sub.rfl Sub.rfl) ?_
        refine JL_step rfl rfl rfl (step_assign Sub.rfl) ?_
        refine JL_nil ?_
        refine J_ret ?_
        refine K_ret1 (t := 6) rfl () ?_
        refine Sub.bool ?_
        have e1 : (nO blocks (records ++ [r]) (records ++ [r]).length) = ((pairsM blocks (records ++ [r])).length : Int) := by unfold nO; rw [prefN_all]
        have e2 : (mO blocks records r (records ++ [r]).length) = ((nearM blocks records r).length : Int) := by unfold mO; rw [Nat.min_eq_right (by omega)]; rfl
        simp only [e1, e2]
        simp
end Lg

/- BlockPairs: the card. -/
namespace Go.Proofs.YtfojldlbhhigbaaGreatDoor.blockPairs
open Go.ChangeShapes Go.WideShapes Go.ChangeAt Go.RowKit
set_option maxRecDepth 100000 in
theorem contract (H : Type) (enc : TypeId × Value → H) (W : World) (base : Nat) (args : Array Value) (ds gs : List (DataW H)) (before : List MemPlace)
    (hval : ∀ (j : Nat) t v, Tryz.f5.params[j]? = some t → args[j]? = some v → Value.okWide Tryz.prog W .any base t v)
    (hL : laidMet Tryz.prog Rows.blockPairsRow.laid W) (hW : DataW.Whole enc Tryz.prog Tryz.f5.params.toList Rows.blockPairsSpec.vars false W args.toList ds gs before) :
    Calls Tryz.prog 5 args W fun e W' => ∃ v, e = .returned v ∧ Rows.blockPairsSpec.post enc Tryz.prog Tryz.f5 false true false false W args v W' := by
  have hW' := hW
  obtain ⟨p, q, hA0, hV, rfl, hfz, hnd⟩ := hW
  have hA : DataW.TrodAll enc Tryz.prog W 0 (fun _ => true) true Tryz.f5.params.toList args.toList ds p := hA0
  rw [Tryz.params5] at hA hval
  obtain ⟨v0, v1, v2, d0, d1, d2, p0, p1, p2, rfl, rfl, rfl, h0, h1, h2⟩ := trodAll_three hA
  obtain ⟨rfl, rfl⟩ := trodVars_none hV
  obtain ⟨x0, a0⟩ := Lg.arg_sl Tryz.underlying22 Lg.rd22 (hval 0 22 v0 rfl rfl) h0
  obtain ⟨x1, a1⟩ := Lg.arg_sl Tryz.underlying23 Lg.rd23 (hval 1 23 v1 rfl rfl) h1
  obtain ⟨x2, a2⟩ := Lg.arg_st Lg.rd28 rfl (by decide) h2
  refine (Lg.run_true (Lg.lawPairs_spec x0 x1 x2) (Lg.inv_of (tab_of hL)) (vs := [v0, v1, v2]) ⟨a0, a1, a2, trivial⟩).mono fun e W' ⟨he, hb⟩ => ?_
  subst he
  have e1 : Rows.blockPairsSpec.fn H ([d0, d1, d2] ++ []) = { results := [.lit (.bool true)], args := [d0, d1, d2] } := by simp [Rows.blockPairsSpec]
  refine ⟨_, rfl, _, _, _, [], p0 ++ (p1 ++ p2), [], hW', ?_, ?_, ?_, hb.frame _, fun h => by cases h⟩
  · rw [e1]; exact trodAll_mk1 (shut_bool Tryz.underlying4 true)
  · rw [e1, Tryz.params5]
    exact trodAll_mk3 (hb.trod laidOut rec22 size22 h0 fun x hx => hW'.lt x (by simp [hx])) (hb.trod laidOut rec23 size23 h1 fun x hx => hW'.lt x (by simp [hx])) (hb.trod laidOut rec28 size28 h2 fun x hx => hW'.lt x (by simp [hx]))
  · rw [e1]; rfl
noncomputable abbrev args0 : Array Value := #[.slice none 0 0, .slice none 0 0, .agg #[.int .i64 0, .string ⟨#[]⟩, .string ⟨#[]⟩, .int .i64 0, .int .i64 0, .slice none 0 0]]
theorem reads (os : Os) {H : Type} (enc : TypeId × Value → H) : ∃ places, DataW.whole enc Tryz.prog ((laidWorld os).forCall (fun _ _ => 0) ⟨#[], args0, []⟩).memory Tryz.f5.params.toList Rows.blockPairsSpec.vars false args0.toList 8 = some ([.nil, .nil, .agg [.agg [.lit (.int .i64 0), .lit (.string []), .lit (.string [])], .lit (.int .i64 0), .lit (.int .i64 0), .nil]], [], places) :=
  ⟨[], by kernel_rfl⟩
theorem laid_met (os : Os) : laidMet Tryz.prog Rows.blockPairsRow.laid ((laidWorld os).forCall (fun _ _ => 0) ⟨#[], args0, []⟩).memory :=
  laidMet_laidAll (laid := laidL) args0 (by kernel_rfl) (by kernel_rfl)
set_option maxRecDepth 100000 in
theorem lifted (os : Os) (started : os.Started) (H : Type) (enc : TypeId × Value → H) (F : Stop.Interp) :
    ReturnsInHanded {} Tryz.checked os 5 .any ((OpenSpec.ofChange Rows.blockPairsSpec).preRow enc Tryz.prog Tryz.f5 Rows.blockPairsRow.domain false Rows.blockPairsRow.laid) (((OpenSpec.ofChange Rows.blockPairsSpec).at F).post enc Tryz.prog Tryz.f5 false true false false) := by
  obtain ⟨places, hx⟩ := reads os enc
  refine returnsInHanded_of_row (C := Tryz.checked) (s := OpenSpec.ofChange Rows.blockPairsSpec) own started (by kernel_rfl) Tryz.func5
    (witness_row_at (enc := enc) (C := Tryz.checked) false (laidWorld os) args0 (World.laidAll_os _ _ _) (by kernel_rfl) (by kernel_rfl) (by kernel_rfl)
      (OpenSpec.preRow_of_cond 8 hx (by kernel_rfl) (fun k hk => by cases hk) (by kernel_rfl) (laid_met os))) ?_
  intro W base args ds gs before hval hW _ _ _ hL _ _
  exact contract H enc W base args ds gs before hval hL hW
theorem said : Rows.BlockPairsSaid :=
  OpenClaim.holds_of_cond 5 Tryz.f5 rfl rfl rfl rfl rfl rfl rfl ⟨rfl, rfl, rfl, rfl, rfl⟩ rfl rfl rfl rfl rfl (by kernel_rfl) Tryz.func5 (by kernel_rfl)
    (of_decide_eq_true (by kernel_rfl)) (by unfold Func.isWrapper; first | (rw [if_pos (by decide +kernel)]; kernel_rfl) | (rw [if_neg (by decide +kernel)]; exact ⟨rfl, rfl⟩))
    (fun os started H enc _ F => by rw [OpenClaim.pre_eq_preRow]; exact lifted os started H enc F)
theorem plain (f : FuncId) (fn : Func) (hf : Tryz.pinned.checked.prog.funcNamed "cleanse/cleanselaw19.BlockPairs" = some f) (hfn : Tryz.pinned.checked.prog.funcs[f]? = some fn) :
    true = Tryz.pinned.checked.prog.looks [] ∧ ∀ (j : Nat) t, fn.params[j]? = some t → Tryz.pinned.checked.prog.wantsStandIn t = false := by
  obtain rfl : f = 5 := Option.some.inj ((show Tryz.prog.funcNamed "cleanse/cleanselaw19.BlockPairs" = some 5 by kernel_rfl).symm.trans hf) |>.symm
  obtain rfl : fn = Tryz.f5 := (Option.some.inj (Tryz.func5.symm.trans hfn)).symm
  refine ⟨noLooks, fun j t ht => ?_⟩
  rw [Tryz.params5] at ht
  have hm : t ∈ #[22, 23, 28] := Array.mem_of_getElem? ht
  simp only [List.mem_toArray, List.mem_cons, List.not_mem_nil, or_false] at hm
  rcases hm with rfl | rfl | rfl
  · exact want22
  · exact want23
  · exact want28
theorem card : Rows.BlockPairsCardSaid :=
  Claim7.holds_tied_plain_at .later [] _ _ _ _ said (fun _ h => by cases h) (by kernel_rfl) (fun _ h => by cases h) blockPairs_row_tie rfl ⟨rfl, rfl⟩ (by kernel_rfl) rfl plain (by kernel_rfl)
end Go.Proofs.YtfojldlbhhigbaaGreatDoor.blockPairs
