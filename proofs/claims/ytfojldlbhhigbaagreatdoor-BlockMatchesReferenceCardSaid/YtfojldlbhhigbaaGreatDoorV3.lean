/- For all inputs the law BlockMatchesReference answers true: the card. -/
import Derived.Test.YtfojldlbhhigbaaGreatDoorV3a
set_option linter.unusedVariables false
set_option linter.unusedSimpArgs false
set_option linter.unusedSectionVars false
namespace Lg
open Go Go.Proofs


theorem least_snoc (seed : Int) (l : List ByteArray) (x : ByteArray) : leastM seed (l ++ [x]) = if leastM seed l < 0 ∨ hashM x seed < leastM seed l then hashM x seed else leastM seed l := by
  cases l with
  | nil => simp [leastM]
  | cons t ts =>
    have h := (least_pos seed (l := t :: ts) (by simp)).1
    have e : leastM seed ((t :: ts) ++ [x]) = if hashM x seed < leastM seed (t :: ts) then hashM x seed else leastM seed (t :: ts) := by
      simp only [List.cons_append, leastM, List.foldl_append, List.foldl_cons, List.foldl_nil]
      rfl
    rw [e]
    by_cases q : hashM x seed < leastM seed (t :: ts)
    · rw [if_pos q, if_pos (.inr q)]
    · rw [if_neg q, if_neg (by omega)]
def okS (l : List Int) (x : Int) : Prop := -1 ≤ x ∧ x < 2147483647 ∧ (x < 0 ↔ nth l 0 < 0)
theorem right_iff {l : List Int} : rightB l = true ↔ 0 < l.length ∧ l.length ≤ 64 ∧ ∀ x ∈ l, okS l x := by
  unfold rightB okS
  by_cases hb : (l.length : Int) = 0 ∨ (l.length : Int) > 64
  · rw [if_pos hb]
    constructor
    · intro h; cases h
    · rintro ⟨h1, h2, _⟩; omega
  · rw [if_neg hb]
    have hp : 0 < l.length := by omega
    have h0 : nth l 0 ∈ l := nth_mem hp
    by_cases hm : nth l 0 = -1
    · rw [if_pos hm]
      simp only [Bool.not_eq_true', List.any_eq_false, offR2, Bool.or_eq_true, decide_eq_true_eq]
      constructor
      · intro h
        exact ⟨hp, by omega, fun x hx => by have := h x hx; omega⟩
      · rintro ⟨_, _, h⟩ x hx
        have := h x hx; omega
    · rw [if_neg hm]
      simp only [Bool.not_eq_true', List.any_eq_false, offR2, Bool.or_eq_true, decide_eq_true_eq]
      constructor
      · intro h
        have h0' := h _ h0
        exact ⟨hp, by omega, fun x hx => by have := h x hx; omega⟩
      · rintro ⟨_, _, h⟩ x hx
        have h0' := h _ h0
        have := h x hx; omega
theorem join_succG {ws : List ByteArray} {sep : ByteArray} {i : Nat} (h : i < ws.length) : joinB (ws.take (i + 1)) sep = if i = 0 then nth ws i else joinB (ws.take i) sep ++ sep ++ nth ws i := by
  have htail : ∀ (r : List (List UInt8)) (x : List UInt8) (sep : List UInt8), Lib.joinTail sep (r ++ [x]) = Lib.joinTail sep r ++ (sep ++ x) := fun r x sep => by simp [Lib.joinTail]
  split
  · rename_i h0
    subst h0
    obtain ⟨x, r, rfl⟩ : ∃ x r, ws = x :: r := by cases ws with | nil => simp at h | cons a b => exact ⟨a, b, rfl⟩
    unfold joinB
    simp only [List.take_succ_cons, List.take_zero, List.map_cons, List.map_nil, Lib.join_one, toB_ofB]
    rfl
  · rename_i h0
    obtain ⟨x, r, rfl⟩ : ∃ x r, ws = x :: r := by cases ws with | nil => simp at h | cons a b => exact ⟨a, b, rfl⟩
    obtain ⟨j, rfl⟩ : ∃ j, i = j + 1 := ⟨i - 1, by omega⟩
    have hj : j < r.length := by simpa using h
    have hn : nth (x :: r) (j + 1) = nth r j := by rw [nth_get h, nth_get hj]; rfl
    rw [hn]
    unfold joinB
    rw [List.take_succ_cons, List.take_succ_cons, takeB hj, List.map_cons, List.map_cons, List.map_append, Lib.join_cons, Lib.join_cons, List.map_cons, List.map_nil, htail]
    apply ByteArray.ext
    rw [ByteArray.data_append, ByteArray.data_append]
    simp
theorem join_takeG_size (ws : List ByteArray) (i : Nat) : (joinB (ws.take i) dot).size ≤ sizes ws + ws.length := by
  have h1 := (joinB_size (ws.take i) dot).2
  have h2 := sizes_take ws i
  have h3 : dot.size = 1 := rfl
  have h4 : (ws.take i).length ≤ ws.length := by rw [List.length_take]; omega
  rw [h3, Nat.one_mul] at h1
  omega
theorem parts_nth {sk : List Int} {rows b j : Nat} (h : j < rows) : nth (partsM sk rows b) j = itoaB (nth sk (b * rows + j)) := by
  rw [nth_get (by simp [partsM]; exact h)]
  simp [partsM]
theorem parts_len (sk : List Int) (rows b : Nat) : (partsM sk rows b).length = rows := by simp [partsM]
def keyJ (sk : List Int) (rows b j : Nat) : ByteArray := itoaB b ++ colon ++ joinB ((partsM sk rows b).take j) dot
theorem keyJ_0 (sk : List Int) (rows b : Nat) : itoaB b ++ colon = keyJ sk rows b 0 := by
  unfold keyJ
  rw [List.take_zero, show joinB [] dot = ⟨#[]⟩ from rfl]
  apply ByteArray.ext
  rw [ByteArray.data_append, ByteArray.data_append, ByteArray.data_append]; simp
theorem keyJ_succ {sk : List Int} {rows b j : Nat} (h : j < rows) : keyJ sk rows b (j + 1) = (if j = 0 then keyJ sk rows b j else keyJ sk rows b j ++ dot) ++ itoaB (nth sk (b * rows + j)) := by
  unfold keyJ
  rw [join_succG (by rw [parts_len]; exact h), parts_nth h]
  split
  · rename_i h0
    subst h0
    rw [List.take_zero, show joinB [] dot = ⟨#[]⟩ from rfl]
    apply ByteArray.ext
    simp only [ByteArray.data_append]; simp
  · apply ByteArray.ext
    simp only [ByteArray.data_append]; simp
theorem keyJ_all (sk : List Int) (rows b : Nat) : keyJ sk rows b rows = bandM sk rows b := by
  unfold keyJ bandM
  rw [List.take_of_length_le (by rw [parts_len]; exact Nat.le_refl _)]

theorem okS_of {l : List Int} {x : Int} (h : (-1 ≤ x ∧ x < 2147483647) ∧ (decide (x < 0) == decide (nth l 0 < 0)) = true) : okS l x := by
  obtain ⟨⟨h1, h2⟩, h3⟩ := h
  exact ⟨h1, h2, by have := beq_iff_eq.1 h3; rwa [decide_eq_decide] at this⟩
theorem okS_not {l : List Int} {x : Int} (h : (x < -1 ∨ 2147483647 ≤ x) ∨ (decide (x < 0) == decide (nth l 0 < 0)) = false) : ¬ okS l x := by
  rintro ⟨h1, h2, h3⟩
  rcases h with (h | h) | h
  · omega
  · omega
  · rw [beq_eq_false_iff_ne] at h; exact h (decide_eq_decide.2 h3)

theorem HashR_spec (text : ByteArray) (hsz : text.size ≤ 1000000000) (seed : Int) (hs : 0 ≤ seed ∧ seed ≤ 1000000) : Fun1 Tryz.prog 70 [tV (.string text), tV (.int .i64 seed)] (tV (.int .i64 (hashM text seed))) := by
  refine Spec.enter Tryz.func70 rfl rfl fun h0 w0 fr0 => ?_
  have hbl := bytesOf_len text
  have hst : 0 ≤ (seed % (2147483647 : Int)) ∧ (seed % (2147483647 : Int)) < (2147483647 : Int) := ⟨Int.emod_nonneg _ (by decide), Int.emod_lt_of_pos _ (by decide)⟩
  have hf : 0 ≤ (seed % (2147483647 : Int)) % 1000003 ∧ (seed % (2147483647 : Int)) % 1000003 < 1000003 := ⟨Int.emod_nonneg _ (by decide), Int.emod_lt_of_pos _ (by decide)⟩
  have hfc : hFac (seed % (2147483647 : Int)) = 16807 + (seed % (2147483647 : Int)) % 1000003 := rfl
  refine J_seq ?_
  refine J_region ?_
  refine JL_step rfl rfl rfl (step_assign Sub.rfl) ?_
  refine JL_nil ?_
  refine J_seq ?_
  refine J_region ?_
  refine JL_step rfl rfl rfl (step_move Sub.rfl) ?_
  refine JL_step rfl rfl rfl (step_rem Sub.rfl Sub.rfl ?sg1 ?sg2) ?_
  case sg1 => omega
  case sg2 => decide
  refine JL_step rfl rfl rfl (step_assign Sub.rfl) ?_
  refine JL_nil ?_
  refine J_seq ?_
  refine J_seq ?_
  refine J_region ?_
  refine JL_step rfl rfl rfl (step_move Sub.rfl) ?_
  refine JL_step rfl rfl rfl (step_lss Sub.rfl Sub.rfl) ?_
  refine JL_nil ?_
  refine J_cond Sub.rfl (fun h12 => ?_) (fun h12 => ?_)
  · try simp only [decide_eq_true_eq, decide_eq_false_iff_not, Bool.and_eq_true, Bool.or_eq_true, Bool.and_eq_false_iff, Bool.or_eq_false_iff, Bool.not_eq_true', Bool.not_eq_false', Int.not_lt, Int.not_le, Bool.not_true, Bool.not_false] at h12
    exact absurd h12 (by omega)
  · try simp only [decide_eq_true_eq, decide_eq_false_iff_not, Bool.and_eq_true, Bool.or_eq_true, Bool.and_eq_false_iff, Bool.or_eq_false_iff, Bool.not_eq_true', Bool.not_eq_false', Int.not_lt, Int.not_le, Bool.not_true, Bool.not_false] at h12
    refine J_skip ?_
    refine J_seq ?_
    refine J_region ?_
    refine JL_step rfl rfl rfl (step_move Sub.rfl) ?_
    refine JL_step rfl rfl rfl (step_rem Sub.rfl Sub.rfl ?sg1 ?sg2) ?_
    case sg1 => omega
    case sg2 => decide
    refine JL_step rfl rfl rfl (step_add Sub.rfl Sub.rfl ?sg1) ?_
    case sg1 => unfold in64; omega
    refine JL_step rfl rfl rfl (step_assign Sub.rfl) ?_
    refine JL_nil ?_
    refine J_seq ?_
    refine J_region ?_
    refine JL_step rfl rfl rfl (step_move Sub.rfl) ?_
    refine JL_step rfl rfl rfl (step_assign Sub.rfl) ?_
    refine JL_nil ?_
    refine J_seq ?_
    refine J_seq ?_
    refine J_region ?_
    refine JL_step rfl rfl rfl (step_assign Sub.rfl) ?_
    refine JL_nil ?_
    refine J_block ?_
    refine J_loopL (σ := Nat) (fun i => i ≤ (bytesOf text).length) (fun i => upd (upd (upd (upd (upd env0 0 (tV (.string text))) 4 (tV (.int .i64 0))) 6 (tV (.int .i64 (hFac (seed % (2147483647 : Int)))))) 7 (tV (.int .i64 (((bytesOf text).take i).foldl (hStep (hFac (seed % (2147483647 : Int)))) (seed % (2147483647 : Int)))))) 8 (tV (.int .i64 i))) (fun i => []) (fun i => (bytesOf text).length - i) 0 (by omega) (SubE.upd Sub.rfl (SubE.upd Sub.rfl (SubE.upd Sub.rfl (SubE.upd Sub.rfl (SubE.upd Sub.rfl SubE.any))))) (LSub.rfl) ?_
    rintro i hi
    refine J_seq ?_
    refine J_seq ?_
    refine J_region ?_
    refine JL_step rfl rfl rfl (step_move Sub.rfl) ?_
    refine JL_step rfl rfl rfl (step_move Sub.rfl) ?_
    refine JL_step rfl rfl rfl (step_len_str Tryz.underlying9 Sub.rfl) ?_
    refine JL_step rfl rfl rfl (step_lss Sub.rfl Sub.rfl) ?_
    refine JL_nil ?_
    refine J_cond Sub.rfl (fun h22 => ?_) (fun h22 => ?_)
    · try simp only [decide_eq_true_eq, decide_eq_false_iff_not, Bool.and_eq_true, Bool.or_eq_true, Bool.and_eq_false_iff, Bool.or_eq_false_iff, Bool.not_eq_true', Bool.not_eq_false', Int.not_lt, Int.not_le, Bool.not_true, Bool.not_false] at h22
      have hlt : i < (bytesOf text).length := by omega
      have hrg := bytesOf_rng text _ (nth_mem hlt)
      have hh := hFold_rng (f := hFac (seed % (2147483647 : Int))) ((bytesOf text).take i) (seed % (2147483647 : Int)) hst
      have hm := mul_rng hh (f := hFac (seed % (2147483647 : Int))) ⟨by omega, by omega⟩
      refine J_skip ?_
      refine J_seq ?_
      refine J_block ?_
      refine J_region ?_
      refine JL_step rfl rfl rfl (step_move Sub.rfl) ?_
      refine JL_step rfl rfl rfl (step_move Sub.rfl) ?_
      refine JL_step rfl rfl rfl (step_mul Sub.rfl Sub.rfl ?sg1) ?_
      case sg1 => unfold in64; omega
      refine JL_step rfl rfl rfl (step_move Sub.rfl) ?_
      refine JL_step rfl rfl rfl (step_move Sub.rfl) ?_
      refine JL_step rfl rfl rfl (step_index_str (i := i) Tryz.underlying9 Sub.rfl Sub.rfl ?sg1 ?sg2) ?_
      case sg1 => rfl
      case sg2 => omega
      refine JL_step rfl rfl rfl (step_convert_int (m := nth (bytesOf text) i) Tryz.underlying5 Tryz.underlying3 Sub.rfl ?sg1) ?_
      case sg1 => simp [IntKind.wrap, IntKind.bits, IntKind.signed]; omega
      refine JL_step rfl rfl rfl (step_add Sub.rfl Sub.rfl ?sg1) ?_
      case sg1 => unfold in64; omega
      refine JL_step rfl rfl rfl (step_add Sub.rfl Sub.rfl ?sg1) ?_
      case sg1 => unfold in64; omega
      refine JL_step rfl rfl rfl (step_rem Sub.rfl Sub.rfl ?sg1 ?sg2) ?_
      case sg1 => omega
      case sg2 => decide
      refine JL_step rfl rfl rfl (step_assign Sub.rfl) ?_
      refine JL_nil ?_
      refine J_region ?_
      refine JL_step rfl rfl rfl (step_move Sub.rfl) ?_
      refine JL_step rfl rfl rfl (step_add Sub.rfl Sub.rfl ?sg1) ?_
      case sg1 => unfold in64; omega
      refine JL_step rfl rfl rfl (step_assign Sub.rfl) ?_
      refine JL_nil ?_
      refine K_againL (σ := Nat) (s := i) (i + 1) (by first | omega | (dsimp only; omega) | (simp_all; omega)) (by omega) (SubE.upd Sub.rfl (SubE.upd (Sub.int (by rw [takeB hlt, List.foldl_append]; rfl)) (SubE.upd Sub.rfl (SubE.upd Sub.rfl (SubE.upd Sub.rfl SubE.any))))) (LSub.rfl)
    · try simp only [decide_eq_true_eq, decide_eq_false_iff_not, Bool.and_eq_true, Bool.or_eq_true, Bool.and_eq_false_iff, Bool.or_eq_false_iff, Bool.not_eq_true', Bool.not_eq_false', Int.not_lt, Int.not_le, Bool.not_true, Bool.not_false] at h22
      have hh := hFold_rng (f := hFac (seed % (2147483647 : Int))) ((bytesOf text).take i) (seed % (2147483647 : Int)) hst
      have hie : (bytesOf text).take i = bytesOf text := List.take_of_length_le (by omega)
      refine J_exit ?_
      refine J_seq ?_
      refine J_region ?_
      refine JL_step rfl rfl rfl (step_move Sub.rfl) ?_
      refine JL_step rfl rfl rfl (step_mul Sub.rfl Sub.rfl ?sg1) ?_
      case sg1 => unfold in64; omega
      refine JL_step rfl rfl rfl (step_add Sub.rfl Sub.rfl ?sg1) ?_
      case sg1 => unfold in64; omega
      refine JL_step rfl rfl rfl (step_rem Sub.rfl Sub.rfl ?sg1 ?sg2) ?_
      case sg1 => omega
      case sg2 => decide
      refine JL_step rfl rfl rfl (step_assign Sub.rfl) ?_
      refine JL_nil ?_
      refine J_ret ?_
      refine K_ret1 (t := 4) rfl () ?_
      refine Sub.int ?_
      rw [hie]; rfl
set_option maxHeartbeats 1000000 in
theorem MakeR_spec (tokens : List ByteArray) (n : Int) (ht : ∀ t ∈ tokens, t.size ≤ 1000000000) (hl : tokens.length ≤ 1000000000) : Fun1 Tryz.prog 39 [tSlC rStr tokens, tV (.int .i64 n)] (tTup [tSl rInt (mkM tokens n), tV (.int .i64 (mkE n))]) := by
  refine Spec.enter Tryz.func39 rfl rfl fun h0 w0 fr0 => ?_
  refine J_seq ?_
  refine J_region ?_
  refine JL_step rfl rfl rfl (step_assign Sub.rfl) ?_
  refine JL_step rfl rfl rfl (step_assign Sub.rfl) ?_
  refine JL_nil ?_
  refine J_seq ?_
  refine J_seq ?_
  refine J_region ?_
  refine JL_step rfl rfl rfl (step_move Sub.rfl) ?_
  refine JL_step rfl rfl rfl (step_lss Sub.rfl Sub.rfl) ?_
  refine JL_step rfl rfl rfl (step_move Sub.rfl) ?_
  refine JL_stepG rfl rfl rfl (Gd.plain Sub.rfl) rfl rfl (fun hw => step_move Sub.rfl) ?_
  refine JL_stepG rfl rfl rfl (Gd.plain Sub.rfl) rfl rfl (fun hw => step_gtr (Sub.w hw) Sub.rfl) ?_
  refine JL_step rfl rfl rfl (step_pick_or Sub.rfl Sub.rfl) ?_
  refine JL_nil ?_
  refine J_cond Sub.rfl (fun h16 => ?_) (fun h16 => ?_)
  · try simp only [decide_eq_true_eq, decide_eq_false_iff_not, Bool.and_eq_true, Bool.or_eq_true, Bool.and_eq_false_iff, Bool.or_eq_false_iff, Bool.not_eq_true', Bool.not_eq_false', Int.not_lt, Int.not_le, Bool.not_true, Bool.not_false] at h16
    refine J_seq ?_
    refine J_region ?_
    refine JL_step rfl rfl rfl (step_assign Sub.rfl) ?_
    refine JL_step rfl rfl rfl (step_assign Sub.rfl) ?_
    refine JL_nil ?_
    refine J_ret ?_
    refine K_ret2' (rv := .tmp 4) (rv' := .tmp 5) rfl () (Sel.all _) (.tmp Sub.rfl) (.tmp Sub.rfl) (Frz.sub ?_) (Frz.sub ?_) Sub.rfl
    · rw [mkM, if_pos (show badN n from h16)]; exact Sub.nilsl
    · rw [mkE, if_pos (show badN n from h16)]; exact Sub.rfl
  · try simp only [decide_eq_true_eq, decide_eq_false_iff_not, Bool.and_eq_true, Bool.or_eq_true, Bool.and_eq_false_iff, Bool.or_eq_false_iff, Bool.not_eq_true', Bool.not_eq_false', Int.not_lt, Int.not_le, Bool.not_true, Bool.not_false] at h16
    have hnb : ¬ badN n := by unfold badN; omega
    obtain ⟨K, rfl⟩ : ∃ K : Nat, n = K := ⟨n.toNat, by omega⟩
    refine J_skip ?_
    refine J_seq ?_
    refine J_region ?_
    refine JL_step rfl rfl rfl (step_assign Sub.rfl) ?_
    refine JL_nil ?_
    refine J_seq ?_
    refine J_seq ?_
    refine J_region ?_
    refine JL_step rfl rfl rfl (step_assign Sub.rfl) ?_
    refine JL_nil ?_
    refine J_block ?_
    refine J_loopL (σ := Nat × Value) (fun ⟨i, v⟩ => i ≤ K) (fun ⟨i, v⟩ => upd (upd (upd (upd (upd (upd env0 0 (tSlC rStr tokens)) 1 (tV (.int .i64 (K : Int)))) 4 (tV (.slice none 0 0))) 5 (tV (.int .i64 0))) 6 (rV.ty v)) 7 (tV (.int .i64 i))) (fun ⟨i, v⟩ => [own 3 rInt v ((List.range i).map (fun j : Nat => leastM j tokens))]) (fun ⟨i, v⟩ => K - i) (0, .slice none 0 0) (by omega) (SubE.upd Sub.rfl (SubE.upd (Sub.rV rfl) (SubE.upd Sub.rfl (SubE.upd Sub.rfl (SubE.upd Sub.rfl (SubE.upd Sub.rfl SubE.any)))))) (LSub.nilown) ?_
    rintro ⟨i, v⟩ hi
    try dsimp only at hi
    refine J_seq ?_
    refine J_seq ?_
    refine J_region ?_
    refine JL_step rfl rfl rfl (step_move Sub.rfl) ?_
    refine JL_step rfl rfl rfl (step_move Sub.rfl) ?_
    refine JL_step rfl rfl rfl (step_lss Sub.rfl Sub.rfl) ?_
    refine JL_nil ?_
    refine J_cond Sub.rfl (fun h19 => ?_) (fun h19 => ?_)
    · try simp only [decide_eq_true_eq, decide_eq_false_iff_not, Bool.and_eq_true, Bool.or_eq_true, Bool.and_eq_false_iff, Bool.or_eq_false_iff, Bool.not_eq_true', Bool.not_eq_false', Int.not_lt, Int.not_le, Bool.not_true, Bool.not_false] at h19
      have hlt : i < K := by omega
      refine J_skip ?_
      refine J_seq ?_
      refine J_block ?_
      refine J_seq ?_
      refine J_region ?_
      refine JL_step rfl rfl rfl (step_assign Sub.rfl) ?_
      refine JL_nil ?_
      refine J_seq ?_
      refine J_seq ?_
      refine J_region ?_
      refine JL_step rfl rfl rfl (step_assign Sub.rfl) ?_
      refine JL_nil ?_
      refine J_block ?_
      refine J_loopL (σ := Nat) (fun k => k ≤ tokens.length) (fun k => upd (upd (upd (upd (upd (upd (upd (upd (upd (upd env0 0 (tSlC rStr tokens)) 1 (tV (.int .i64 (K : Int)))) 4 (tV (.slice none 0 0))) 5 (tV (.int .i64 0))) 6 (rV.ty v)) 7 (tV (.int .i64 i))) 8 (tV (.int .i64 (leastM i (tokens.take k))))) 9 (tV (.int .i64 k))) 17 (tV (.int .i64 i))) 18 (tV (.int .i64 (K : Int)))) (fun k => [own 3 rInt v ((List.range i).map (fun j : Nat => leastM j tokens))]) (fun k => tokens.length - k) 0 (by omega) (SubE.upd Sub.rfl (SubE.upd Sub.rfl (SubE.upd Sub.rfl (SubE.upd (Sub.int rfl) (SubE.upd Sub.rfl (SubE.upd Sub.rfl (SubE.upd Sub.rfl (SubE.upd Sub.rfl (SubE.upd Sub.rfl (SubE.upd Sub.rfl SubE.any)))))))))) (LSub.rfl) ?_
      rintro k hk
      refine J_seq ?_
      refine J_seq ?_
      refine J_region ?_
      refine JL_step rfl rfl rfl (step_move Sub.rfl) ?_
      refine JL_step rfl rfl rfl (step_move Sub.rfl) ?_
      refine JL_step rfl rfl rfl (step_len_sl Tryz.underlying32 Sub.ofC) ?_
      refine JL_step rfl rfl rfl (step_lss Sub.rfl Sub.rfl) ?_
      refine JL_nil ?_
      refine J_cond Sub.rfl (fun h25 => ?_) (fun h25 => ?_)
      · try simp only [decide_eq_true_eq, decide_eq_false_iff_not, Bool.and_eq_true, Bool.or_eq_true, Bool.and_eq_false_iff, Bool.or_eq_false_iff, Bool.not_eq_true', Bool.not_eq_false', Int.not_lt, Int.not_le, Bool.not_true, Bool.not_false] at h25
        have hlk : k < tokens.length := by omega
        have hti := ht _ (nth_mem hlk)
        refine J_skip ?_
        refine J_seq ?_
        refine J_block ?_
        refine J_seq ?_
        refine J_region ?_
        refine JL_step rfl rfl rfl (step_move Sub.rfl) ?_
        refine JL_step rfl rfl rfl (step_move Sub.rfl) ?_
        refine JL_step rfl rfl rfl (step_indexAddr_sl  Tryz.underlying32 ty9 Sub.ofC Sub.rfl rfl (gb ?sg1)) ?_
        case sg1 => exact hlk
        refine JL_step rfl rfl rfl (step_load_ptr ty9 Sub.rfl) ?_
        refine JL_step rfl rfl rfl (step_move Sub.rfl) ?_
        refine JL_step rfl rfl rfl (step_call0 (HashR_spec (nth tokens k) hti i ⟨by omega, by omega⟩) ⟨Sub.rfl, Sub.rfl, trivial⟩ Tryz.call70) ?_
        refine JL_step rfl rfl rfl (step_assign Sub.rfl) ?_
        refine JL_nil ?_
        refine J_seq ?_
        refine J_region ?_
        refine JL_step rfl rfl rfl (step_move Sub.rfl) ?_
        refine JL_step rfl rfl rfl (step_lss Sub.rfl Sub.rfl) ?_
        refine JL_step rfl rfl rfl (step_move Sub.rfl) ?_
        refine JL_stepG rfl rfl rfl (Gd.plain Sub.rfl) rfl rfl (fun hw => step_move Sub.rfl) ?_
        refine JL_stepG rfl rfl rfl (Gd.plain Sub.rfl) rfl rfl (fun hw => step_move Sub.rfl) ?_
        refine JL_stepG rfl rfl rfl (Gd.plain Sub.rfl) rfl rfl (fun hw => step_lss (Sub.w hw) (Sub.w hw)) ?_
        refine JL_step rfl rfl rfl (step_pick_or Sub.rfl Sub.rfl) ?_
        refine JL_nil ?_
        refine J_cond Sub.rfl (fun h40 => ?_) (fun h40 => ?_)
        · try simp only [decide_eq_true_eq, decide_eq_false_iff_not, Bool.and_eq_true, Bool.or_eq_true, Bool.and_eq_false_iff, Bool.or_eq_false_iff, Bool.not_eq_true', Bool.not_eq_false', Int.not_lt, Int.not_le, Bool.not_true, Bool.not_false] at h40
          refine J_region ?_
          refine JL_step rfl rfl rfl (step_move Sub.rfl) ?_
          refine JL_step rfl rfl rfl (step_assign Sub.rfl) ?_
          refine JL_nil ?_
          refine J_region ?_
          refine JL_step rfl rfl rfl (step_move Sub.rfl) ?_
          refine JL_step rfl rfl rfl (step_add Sub.rfl Sub.rfl ?sg1) ?_
          case sg1 => unfold in64; omega
          refine JL_step rfl rfl rfl (step_assign Sub.rfl) ?_
          refine JL_nil ?_
          refine K_againL (σ := Nat) (s := k) (k + 1) (by first | omega | (dsimp only; omega) | (simp_all; omega)) (by omega) (SubE.upd Sub.rfl (SubE.upd Sub.rfl (SubE.upd Sub.rfl (SubE.upd (Sub.int (by rw [takeB hlk, least_snoc, if_pos h40])) (SubE.upd Sub.rfl (SubE.upd Sub.rfl (SubE.upd Sub.rfl (SubE.upd Sub.rfl (SubE.upd Sub.rfl (SubE.upd Sub.rfl SubE.any)))))))))) (LSub.rfl)
        · try simp only [decide_eq_true_eq, decide_eq_false_iff_not, Bool.and_eq_true, Bool.or_eq_true, Bool.and_eq_false_iff, Bool.or_eq_false_iff, Bool.not_eq_true', Bool.not_eq_false', Int.not_lt, Int.not_le, Bool.not_true, Bool.not_false] at h40
          refine J_skip ?_
          refine J_region ?_
          refine JL_step rfl rfl rfl (step_move Sub.rfl) ?_
          refine JL_step rfl rfl rfl (step_add Sub.rfl Sub.rfl ?sg1) ?_
          case sg1 => unfold in64; omega
          refine JL_step rfl rfl rfl (step_assign Sub.rfl) ?_
          refine JL_nil ?_
          refine K_againL (σ := Nat) (s := k) (k + 1) (by first | omega | (dsimp only; omega) | (simp_all; omega)) (by omega) (SubE.upd Sub.rfl (SubE.upd Sub.rfl (SubE.upd Sub.rfl (SubE.upd (Sub.int (by rw [takeB hlk, least_snoc, if_neg (by omega)])) (SubE.upd Sub.rfl (SubE.upd Sub.rfl (SubE.upd Sub.rfl (SubE.upd Sub.rfl (SubE.upd Sub.rfl (SubE.upd Sub.rfl SubE.any)))))))))) (LSub.rfl)
      · try simp only [decide_eq_true_eq, decide_eq_false_iff_not, Bool.and_eq_true, Bool.or_eq_true, Bool.and_eq_false_iff, Bool.or_eq_false_iff, Bool.not_eq_true', Bool.not_eq_false', Int.not_lt, Int.not_le, Bool.not_true, Bool.not_false] at h25
        refine J_exit ?_
        refine J_region ?_
        refine JL_step rfl rfl rfl (step_move Sub.rfl) ?_
        refine JL_step rfl rfl rfl (step_move Sub.rfl) ?_
        refine JL_step rfl rfl rfl (step_literal (ys := [_]) Tryz.underlying40 el3 ⟨rfl, Sub.rfl, trivial⟩ rfl (by decide)) ?_
        refine JL_stepX rfl rfl rfl (step_append Tryz.underlying40 el3 Sub.rfl Sub.rfl (by first | exact Sel.take (Sel.none _) | exact Sel.skip (Sel.take (Sel.none _)) | exact Sel.skip (Sel.skip (Sel.take (Sel.none _))) | exact Sel.skip (Sel.skip (Sel.skip (Sel.take (Sel.none _)))) | exact Sel.skip (Sel.skip (Sel.skip (Sel.skip (Sel.take (Sel.none _)))))) (by simp; omega) (by simp; omega)) fun v45 => ?_
        refine JL_step rfl rfl rfl (step_assign Sub.rfl) ?_
        refine JL_nil ?_
        refine J_region ?_
        refine JL_step rfl rfl rfl (step_move Sub.rfl) ?_
        refine JL_step rfl rfl rfl (step_add Sub.rfl Sub.rfl ?sg1) ?_
        case sg1 => unfold in64; omega
        refine JL_step rfl rfl rfl (step_assign Sub.rfl) ?_
        refine JL_nil ?_
        refine K_againL (σ := Nat × Value) (s := (i, v)) (i + 1, v45) (by first | omega | (dsimp only; omega) | (simp_all; omega)) (by omega) (SubE.upd Sub.rfl (SubE.upd Sub.rfl (SubE.upd Sub.rfl (SubE.upd Sub.rfl (SubE.upd Sub.rfl (SubE.upd Sub.rfl SubE.any)))))) (LSub.cons (by first | exact Sel.take (Sel.none _) | exact Sel.skip (Sel.take (Sel.none _)) | exact Sel.skip (Sel.skip (Sel.take (Sel.none _))) | exact Sel.skip (Sel.skip (Sel.skip (Sel.take (Sel.none _)))) | exact Sel.skip (Sel.skip (Sel.skip (Sel.skip (Sel.take (Sel.none _)))))) (own_eq (by rw [List.range_succ, List.map_append, List.take_of_length_le (by omega)]; rfl)) (LSub.nil))
    · try simp only [decide_eq_true_eq, decide_eq_false_iff_not, Bool.and_eq_true, Bool.or_eq_true, Bool.and_eq_false_iff, Bool.or_eq_false_iff, Bool.not_eq_true', Bool.not_eq_false', Int.not_lt, Int.not_le, Bool.not_true, Bool.not_false] at h19
      refine J_exit ?_
      refine J_seq ?_
      refine J_region ?_
      refine JL_step rfl rfl rfl (step_move Sub.rfl) ?_
      refine JL_step rfl rfl rfl (step_assign Sub.rfl) ?_
      refine JL_step rfl rfl rfl (step_assign Sub.rfl) ?_
      refine JL_nil ?_
      refine J_ret ?_
      refine K_ret2' (rv := .tmp 4) (rv' := .tmp 5) rfl () (Sel.all _) (.tmp Sub.rfl) (.tmp Sub.rfl) (Frz.own' ?_) (Frz.sub ?_) Sub.rfl
      · rw [mkM, if_neg hnb, show i = K by omega]; simp
      · rw [mkE, if_neg hnb]; exact Sub.rfl
theorem ValidSk_spec (l : List Int) (hl : l.length ≤ 1000000000000) : Fun1 Tryz.prog 71 [tSl rInt l] (tV (.bool (rightB l))) := by
  refine Spec.enter Tryz.func71 rfl rfl fun h0 w0 fr0 => ?_
  refine J_seq ?_
  refine J_region ?_
  refine JL_step rfl rfl rfl (step_assign Sub.rfl) ?_
  refine JL_nil ?_
  refine J_seq ?_
  refine J_seq ?_
  refine J_region ?_
  refine JL_step rfl rfl rfl (step_move Sub.rfl) ?_
  refine JL_step rfl rfl rfl (step_len_sl Tryz.underlying40 Sub.rfl) ?_
  refine JL_step rfl rfl rfl (step_lss Sub.rfl Sub.rfl) ?_
  refine JL_step rfl rfl rfl (step_move Sub.rfl) ?_
  refine JL_stepG rfl rfl rfl (Gd.plain Sub.rfl) rfl rfl (fun hw => step_move Sub.rfl) ?_
  refine JL_stepG rfl rfl rfl (Gd.plain Sub.rfl) rfl rfl (fun hw => step_len_sl Tryz.underlying40 (Sub.w hw)) ?_
  refine JL_stepG rfl rfl rfl (Gd.plain Sub.rfl) rfl rfl (fun hw => step_gtr (Sub.w hw) Sub.rfl) ?_
  refine JL_step rfl rfl rfl (step_pick_or Sub.rfl Sub.rfl) ?_
  refine JL_nil ?_
  refine J_cond Sub.rfl (fun h11 => ?_) (fun h11 => ?_)
  · try simp only [decide_eq_true_eq, decide_eq_false_iff_not, Bool.and_eq_true, Bool.or_eq_true, Bool.and_eq_false_iff, Bool.or_eq_false_iff, Bool.not_eq_true', Bool.not_eq_false', Int.not_lt, Int.not_le, Bool.not_true, Bool.not_false] at h11
    refine J_seq ?_
    refine J_region ?_
    refine JL_step rfl rfl rfl (step_assign Sub.rfl) ?_
    refine JL_nil ?_
    refine J_ret ?_
    refine K_retv (rv := .tmp 2) rfl () (.tmp Sub.rfl) (Sub.bool ?_)
    symm; rw [Bool.eq_false_iff]; intro q; have := right_iff.1 q; omega
  · try simp only [decide_eq_true_eq, decide_eq_false_iff_not, Bool.and_eq_true, Bool.or_eq_true, Bool.and_eq_false_iff, Bool.or_eq_false_iff, Bool.not_eq_true', Bool.not_eq_false', Int.not_lt, Int.not_le, Bool.not_true, Bool.not_false] at h11
    have hp : 0 < l.length := by omega
    refine J_skip ?_
    refine J_seq ?_
    refine J_seq ?_
    refine J_region ?_
    refine JL_step rfl rfl rfl (step_assign Sub.rfl) ?_
    refine JL_nil ?_
    refine J_block ?_
    refine J_loopL (σ := Nat) (fun i => i ≤ l.length ∧ ∀ k, k < i → okS l (nth l k)) (fun i => upd (upd env0 0 (tSl rInt l)) 3 (tV (.int .i64 i))) (fun i => []) (fun i => l.length - i) 0 ⟨by omega, fun k hk => absurd hk (by omega)⟩ (SubE.upd Sub.rfl (SubE.upd Sub.rfl SubE.any)) (LSub.rfl) ?_
    rintro i ⟨hi, hv⟩
    refine J_seq ?_
    refine J_seq ?_
    refine J_region ?_
    refine JL_step rfl rfl rfl (step_move Sub.rfl) ?_
    refine JL_step rfl rfl rfl (step_move Sub.rfl) ?_
    refine JL_step rfl rfl rfl (step_len_sl Tryz.underlying40 Sub.rfl) ?_
    refine JL_step rfl rfl rfl (step_lss Sub.rfl Sub.rfl) ?_
    refine JL_nil ?_
    refine J_cond Sub.rfl (fun h15 => ?_) (fun h15 => ?_)
    · try simp only [decide_eq_true_eq, decide_eq_false_iff_not, Bool.and_eq_true, Bool.or_eq_true, Bool.and_eq_false_iff, Bool.or_eq_false_iff, Bool.not_eq_true', Bool.not_eq_false', Int.not_lt, Int.not_le, Bool.not_true, Bool.not_false] at h15
      have hlt : i < l.length := by omega
      refine J_skip ?_
      refine J_seq ?_
      refine J_block ?_
      refine J_seq ?_
      refine J_draw [⟨0, [0], true⟩, ⟨1, [3], true⟩, ⟨2, [18, 19], true⟩, ⟨3, [20], true⟩, ⟨4, [21], true⟩, ⟨5, [22], true⟩, ⟨6, [0, 23], true⟩, ⟨7, [3, 23], true⟩, ⟨8, [23, 24, 25], true⟩, ⟨9, [23, 26], true⟩, ⟨10, [23, 27], true⟩, ⟨11, [23, 28], true⟩, ⟨12, [29], true⟩, ⟨13, [0, 30], true⟩, ⟨14, [3, 30], true⟩, ⟨15, [30, 31, 32], true⟩, ⟨16, [30, 33], true⟩, ⟨17, [30, 34], true⟩, ⟨18, [0, 30], true⟩, ⟨19, [30, 36], true⟩, ⟨20, [30, 37], true⟩, ⟨21, [30, 38], true⟩, ⟨22, [30, 35, 39], true⟩, ⟨23, [30, 40], true⟩] rfl (by kernel_rfl) ?_
      refine JM_step rfl rfl rfl rfl (fun _ => step_move Sub.rfl) ?_
      refine JM_step rfl rfl rfl rfl (fun _ => step_move Sub.rfl) ?_
      refine JM_step rfl rfl rfl rfl (fun _ => step_indexAddr_sl  Tryz.underlying40 ty3 Sub.rfl Sub.rfl rfl (gb ?sg1)) ?_
      case sg1 => exact hlt
      refine JM_step rfl rfl rfl rfl (fun _ => step_load_ptr ty3 Sub.rfl) ?_
      refine JM_step rfl rfl rfl rfl (fun _ => step_lss Sub.rfl Sub.rfl) ?_
      refine JM_step rfl rfl rfl rfl (fun _ => step_move Sub.rfl) ?_
      refine JM_stepG rfl rfl rfl rfl (Gd.plain Sub.rfl) rfl rfl (fun hw _ => step_move Sub.rfl) ?_
      refine JM_stepG rfl rfl rfl rfl (Gd.plain Sub.rfl) rfl rfl (fun hw _ => step_move Sub.rfl) ?_
      refine JM_stepG rfl rfl rfl rfl (Gd.plain Sub.rfl) rfl rfl (fun hw _ => step_indexAddr_sl  Tryz.underlying40 ty3 (Sub.w hw) (Sub.w hw) rfl (gb ?sg1)) ?_
      case sg1 => have hwq := hw; (try simp only [beqB_t, beqB_f, decide_eq_true_eq, decide_eq_false_iff_not, Bool.and_eq_true, Bool.or_eq_true, Bool.and_eq_false_iff, Bool.or_eq_false_iff, Bool.not_eq_true', Bool.not_eq_false', Int.not_lt, Int.not_le, Bool.not_true, Bool.not_false] at hwq); exact hlt
      refine JM_stepG rfl rfl rfl rfl (Gd.plain Sub.rfl) rfl rfl (fun hw _ => step_load_ptr ty3 (Sub.w hw)) ?_
      refine JM_stepG rfl rfl rfl rfl (Gd.plain Sub.rfl) rfl rfl (fun hw _ => step_geq (Sub.w hw) Sub.rfl) ?_
      refine JM_step rfl rfl rfl rfl (fun _ => step_pick_or Sub.rfl Sub.rfl) ?_
      refine JM_step rfl rfl rfl rfl (fun _ => step_move Sub.rfl) ?_
      refine JM_stepG rfl rfl rfl rfl (Gd.plain Sub.rfl) rfl rfl (fun hw _ => step_move Sub.rfl) ?_
      refine JM_stepG rfl rfl rfl rfl (Gd.plain Sub.rfl) rfl rfl (fun hw _ => step_move Sub.rfl) ?_
      refine JM_stepG rfl rfl rfl rfl (Gd.plain Sub.rfl) rfl rfl (fun hw _ => step_indexAddr_sl  Tryz.underlying40 ty3 (Sub.w hw) (Sub.w hw) rfl (gb ?sg1)) ?_
      case sg1 => have hwq := hw; (try simp only [beqB_t, beqB_f, decide_eq_true_eq, decide_eq_false_iff_not, Bool.and_eq_true, Bool.or_eq_true, Bool.and_eq_false_iff, Bool.or_eq_false_iff, Bool.not_eq_true', Bool.not_eq_false', Int.not_lt, Int.not_le, Bool.not_true, Bool.not_false] at hwq); exact hlt
      refine JM_stepG rfl rfl rfl rfl (Gd.plain Sub.rfl) rfl rfl (fun hw _ => step_load_ptr ty3 (Sub.w hw)) ?_
      refine JM_stepG rfl rfl rfl rfl (Gd.plain Sub.rfl) rfl rfl (fun hw _ => step_lss (Sub.w hw) Sub.rfl) ?_
      refine JM_stepG rfl rfl rfl rfl (Gd.plain Sub.rfl) rfl rfl (fun hw _ => step_move Sub.rfl) ?_
      refine JM_stepG rfl rfl rfl rfl (Gd.plain Sub.rfl) rfl rfl (fun hw _ => step_indexAddr_sl (i := 0) Tryz.underlying40 ty3 (Sub.w hw) Sub.rfl ?sg1 (gb ?sg2)) ?_
      case sg1 => have hwq := hw; (try simp only [beqB_t, beqB_f, decide_eq_true_eq, decide_eq_false_iff_not, Bool.and_eq_true, Bool.or_eq_true, Bool.and_eq_false_iff, Bool.or_eq_false_iff, Bool.not_eq_true', Bool.not_eq_false', Int.not_lt, Int.not_le, Bool.not_true, Bool.not_false] at hwq); rfl
      case sg2 => have hwq := hw; (try simp only [beqB_t, beqB_f, decide_eq_true_eq, decide_eq_false_iff_not, Bool.and_eq_true, Bool.or_eq_true, Bool.and_eq_false_iff, Bool.or_eq_false_iff, Bool.not_eq_true', Bool.not_eq_false', Int.not_lt, Int.not_le, Bool.not_true, Bool.not_false] at hwq); exact hp
      refine JM_stepG rfl rfl rfl rfl (Gd.plain Sub.rfl) rfl rfl (fun hw _ => step_load_ptr ty3 (Sub.w hw)) ?_
      refine JM_stepG rfl rfl rfl rfl (Gd.plain Sub.rfl) rfl rfl (fun hw _ => step_lss (Sub.w hw) Sub.rfl) ?_
      refine JM_stepG rfl rfl rfl rfl (Gd.plain Sub.rfl) rfl rfl (fun hw _ => step_neq_bool Tryz.underlying4 (Sub.w hw) (Sub.w hw)) ?_
      refine JM_step rfl rfl rfl rfl (fun _ => step_pick_or Sub.rfl Sub.rfl) ?_
      refine JM_nil ?_
      refine J_cond Sub.rfl (fun h41 => ?_) (fun h41 => ?_)
      · try simp only [decide_eq_true_eq, decide_eq_false_iff_not, Bool.and_eq_true, Bool.or_eq_true, Bool.and_eq_false_iff, Bool.or_eq_false_iff, Bool.not_eq_true', Bool.not_eq_false', Int.not_lt, Int.not_le, Bool.not_true, Bool.not_false] at h41
        refine J_seq ?_
        refine J_region ?_
        refine JL_step rfl rfl rfl (step_assign Sub.rfl) ?_
        refine JL_nil ?_
        refine J_ret ?_
        refine K_retv (rv := .tmp 2) rfl () (.tmp Sub.rfl) (Sub.bool ?_)
        symm; rw [Bool.eq_false_iff]; intro q; exact okS_not h41 ((right_iff.1 q).2.2 _ (nth_mem hlt))
      · try simp only [decide_eq_true_eq, decide_eq_false_iff_not, Bool.and_eq_true, Bool.or_eq_true, Bool.and_eq_false_iff, Bool.or_eq_false_iff, Bool.not_eq_true', Bool.not_eq_false', Int.not_lt, Int.not_le, Bool.not_true, Bool.not_false] at h41
        refine J_skip ?_
        refine J_region ?_
        refine JL_step rfl rfl rfl (step_move Sub.rfl) ?_
        refine JL_step rfl rfl rfl (step_add Sub.rfl Sub.rfl ?sg1) ?_
        case sg1 => unfold in64; omega
        refine JL_step rfl rfl rfl (step_assign Sub.rfl) ?_
        refine JL_nil ?_
        refine K_againL (σ := Nat) (s := i) (i + 1) (by first | omega | (dsimp only; omega) | (simp_all; omega)) (pred_again (p := okS l) hlt hv (okS_of h41)) (SubE.upd Sub.rfl (SubE.upd Sub.rfl SubE.any)) (LSub.rfl)
    · try simp only [decide_eq_true_eq, decide_eq_false_iff_not, Bool.and_eq_true, Bool.or_eq_true, Bool.and_eq_false_iff, Bool.or_eq_false_iff, Bool.not_eq_true', Bool.not_eq_false', Int.not_lt, Int.not_le, Bool.not_true, Bool.not_false] at h15
      refine J_exit ?_
      refine J_seq ?_
      refine J_region ?_
      refine JL_step rfl rfl rfl (step_assign Sub.rfl) ?_
      refine JL_nil ?_
      refine J_ret ?_
      refine K_retv (rv := .tmp 2) rfl () (.tmp Sub.rfl) (Sub.bool ?_)
      symm; exact right_iff.2 ⟨hp, by omega, all_nth (fun k hk => hv k (by omega))⟩
end Lg

namespace Lg
open Go Go.Proofs


theorem Sub.strE {a b : ByteArray} (e : a = b) : Sub (tV (.string a)) (tV (.string b)) := e ▸ Sub.rfl
theorem keyJ_all_1 (sk : List Int) (rows b : Nat) : [keyJ sk rows b rows] = List.map (bandM sk rows) [b] := by rw [keyJ_all]; rfl
theorem keyJ_size {sk : List Int} {rows b : Nat} (j : Nat) (h : ∀ x ∈ sk, -9223372036854775808 ≤ x ∧ x ≤ 9223372036854775807) (hb : ∀ i, i < rows → b * rows + i < sk.length) (hr : rows ≤ 1000) (hbb : -9223372036854775808 ≤ (b : Int) ∧ (b : Int) ≤ 9223372036854775807) : (keyJ sk rows b j).size ≤ 40000 := by
  unfold keyJ
  have h1 := itoaB_size hbb
  have h2 := parts_size sk rows b h hb
  have h3 := join_takeG_size (partsM sk rows b) j
  rw [parts_len] at h3
  have h4 : colon.size = 1 := rfl
  rw [ByteArray.size_append, ByteArray.size_append, h4]
  omega

set_option maxHeartbeats 1000000 in
theorem BandsR_spec (sk : List Int) (rows : Int) (hl : sk.length ≤ 1000000000000) : Fun1 Tryz.prog 40 [tSl rInt sk, tV (.int .i64 rows)] (tTup [tSlC rStr (bandsM sk rows), tV (.int .i64 (bandsE sk rows))]) := by
  refine Spec.enter Tryz.func40 rfl rfl fun h0 w0 fr0 => ?_
  refine J_seq ?_
  refine J_region ?_
  refine JL_step rfl rfl rfl (step_assign Sub.rfl) ?_
  refine JL_step rfl rfl rfl (step_assign Sub.rfl) ?_
  refine JL_nil ?_
  refine J_seq ?_
  refine J_seq ?_
  refine J_region ?_
  refine JL_step rfl rfl rfl (step_move Sub.rfl) ?_
  refine JL_step rfl rfl rfl (step_call0 (ValidSk_spec _ hl) ⟨Sub.rfl, trivial⟩ Tryz.call71) ?_
  refine JL_step rfl rfl rfl (step_not Sub.rfl) ?_
  refine JL_step rfl rfl rfl (step_move Sub.rfl) ?_
  refine JL_stepG rfl rfl rfl (Gd.plain Sub.rfl) rfl rfl (fun hw => step_move Sub.rfl) ?_
  refine JL_stepG rfl rfl rfl (Gd.plain Sub.rfl) rfl rfl (fun hw => step_lss (Sub.w hw) Sub.rfl) ?_
  refine JL_step rfl rfl rfl (step_pick_or Sub.rfl Sub.rfl) ?_
  refine JL_step rfl rfl rfl (step_move Sub.rfl) ?_
  refine JL_stepG rfl rfl rfl (Gd.plain Sub.rfl) rfl rfl (fun hw => step_move Sub.rfl) ?_
  refine JL_stepG rfl rfl rfl (Gd.plain Sub.rfl) rfl rfl (fun hw => step_move Sub.rfl) ?_
  refine JL_stepG rfl rfl rfl (Gd.plain Sub.rfl) rfl rfl (fun hw => step_len_sl Tryz.underlying40 (Sub.w hw)) ?_
  refine JL_stepG rfl rfl rfl (Gd.plain Sub.rfl) rfl rfl (fun hw => step_gtr (Sub.w hw) (Sub.w hw)) ?_
  refine JL_step rfl rfl rfl (step_pick_or Sub.rfl Sub.rfl) ?_
  refine JL_step rfl rfl rfl (step_move Sub.rfl) ?_
  refine JL_stepG rfl rfl rfl (Gd.plain Sub.rfl) rfl rfl (fun hw => step_move Sub.rfl) ?_
  refine JL_stepG rfl rfl rfl (Gd.plain Sub.rfl) rfl rfl (fun hw => step_len_sl Tryz.underlying40 (Sub.w hw)) ?_
  refine JL_stepG rfl rfl rfl (Gd.plain Sub.rfl) rfl rfl (fun hw => step_move Sub.rfl) ?_
  refine JL_stepG rfl rfl rfl (Gd.plain Sub.rfl) rfl rfl (fun hw => step_rem (Sub.w hw) (Sub.w hw) ?sg1 ?sg2) ?_
  case sg1 => have hwq := hw; (try simp only [beqB_t, beqB_f, decide_eq_true_eq, decide_eq_false_iff_not, Bool.and_eq_true, Bool.or_eq_true, Bool.and_eq_false_iff, Bool.or_eq_false_iff, Bool.not_eq_true', Bool.not_eq_false', Int.not_lt, Int.not_le, Bool.not_true, Bool.not_false] at hwq); skip; omega
  case sg2 => have hwq := hw; (try simp only [beqB_t, beqB_f, decide_eq_true_eq, decide_eq_false_iff_not, Bool.and_eq_true, Bool.or_eq_true, Bool.and_eq_false_iff, Bool.or_eq_false_iff, Bool.not_eq_true', Bool.not_eq_false', Int.not_lt, Int.not_le, Bool.not_true, Bool.not_false] at hwq); skip; omega
  refine JL_stepG rfl rfl rfl (Gd.plain Sub.rfl) rfl rfl (fun hw => step_neq (Sub.w hw) Sub.rfl) ?_
  refine JL_step rfl rfl rfl (step_pick_or Sub.rfl Sub.rfl) ?_
  refine JL_nil ?_
  refine J_cond Sub.rfl (fun h29 => ?_) (fun h29 => ?_)
  · try simp only [decide_eq_true_eq, decide_eq_false_iff_not, Bool.and_eq_true, Bool.or_eq_true, Bool.and_eq_false_iff, Bool.or_eq_false_iff, Bool.not_eq_true', Bool.not_eq_false', Int.not_lt, Int.not_le, Bool.not_true, Bool.not_false] at h29
    have hbad : bandBad sk rows = true := by simp only [bandBad]; simp_all
    refine J_seq ?_
    refine J_region ?_
    refine JL_step rfl rfl rfl (step_assign Sub.rfl) ?_
    refine JL_step rfl rfl rfl (step_assign Sub.rfl) ?_
    refine JL_nil ?_
    refine J_ret ?_
    refine K_ret2' (rv := .tmp 4) (rv' := .tmp 5) rfl () (Sel.all _) (.tmp Sub.rfl) (.tmp Sub.rfl) (Frz.sub ?_) (Frz.sub ?_) Sub.rfl
    · rw [bandsM, if_pos hbad]; exact nilC
    · rw [bandsE, if_pos hbad]; exact Sub.rfl
  · try simp only [decide_eq_true_eq, decide_eq_false_iff_not, Bool.and_eq_true, Bool.or_eq_true, Bool.and_eq_false_iff, Bool.or_eq_false_iff, Bool.not_eq_true', Bool.not_eq_false', Int.not_lt, Int.not_le, Bool.not_true, Bool.not_false] at h29
    have hrB : rightB sk = true := by simp_all
    obtain ⟨hr1, hr2, hr3⟩ := right_rng hrB
    have hbad : bandBad sk rows = false := by simp only [bandBad]; simp_all
    obtain ⟨k, rfl⟩ : ∃ k : Nat, rows = k := ⟨rows.toNat, by omega⟩
    have hk : 0 < k ∧ k ≤ sk.length := by omega
    have hdl := Nat.div_le_self sk.length k
    have hqd : 0 ≤ (sk.length : Int) / (k : Int) ∧ (sk.length : Int) / (k : Int) ≤ sk.length := ⟨Int.ediv_nonneg (Int.natCast_nonneg _) (Int.natCast_nonneg _), Int.ediv_le_self _ (Int.natCast_nonneg _)⟩
    have hsk0 := hr3 _ (nth_mem hr1)
    refine J_skip ?_
    refine J_seq ?_
    refine J_region ?_
    refine JL_step rfl rfl rfl (step_assign Sub.rfl) ?_
    refine JL_nil ?_
    refine J_seq ?_
    refine J_seq ?_
    refine J_region ?_
    refine JL_step rfl rfl rfl (step_assign Sub.rfl) ?_
    refine JL_nil ?_
    refine J_block ?_
    refine J_loopL (σ := Nat × Value) (fun ⟨b, v⟩ => b ≤ (sk.length / k) ∧ (nth sk 0 < 0 → b = 0)) (fun ⟨b, v⟩ => upd (upd (upd (upd (upd (upd env0 0 (tSl rInt sk)) 1 (tV (.int .i64 (k : Int)))) 4 (tV (.slice none 0 0))) 5 (tV (.int .i64 0))) 6 (rV.ty v)) 7 (tV (.int .i64 b))) (fun ⟨b, v⟩ => [own 9 rStr v ((List.range b).map (bandM sk k))]) (fun ⟨b, v⟩ => (sk.length / k) - b) (0, .slice none 0 0) ⟨by omega, fun _ => rfl⟩ (SubE.upd Sub.rfl (SubE.upd (Sub.rV rfl) (SubE.upd Sub.rfl (SubE.upd Sub.rfl (SubE.upd Sub.rfl (SubE.upd Sub.rfl SubE.any)))))) (LSub.nilown) ?_
    rintro ⟨b, v⟩ ⟨hb0, hbn⟩
    refine J_seq ?_
    refine J_seq ?_
    refine J_region ?_
    refine JL_step rfl rfl rfl (step_move Sub.rfl) ?_
    refine JL_step rfl rfl rfl (step_move Sub.rfl) ?_
    refine JL_step rfl rfl rfl (step_len_sl Tryz.underlying40 Sub.rfl) ?_
    refine JL_step rfl rfl rfl (step_move Sub.rfl) ?_
    refine JL_step rfl rfl rfl (step_quo Sub.rfl Sub.rfl ?sg1 ?sg2 ?sg3) ?_
    case sg1 => omega
    case sg2 => omega
    case sg3 => unfold in64; omega
    refine JL_step rfl rfl rfl (step_lss Sub.rfl Sub.rfl) ?_
    refine JL_step rfl rfl rfl (step_move Sub.rfl) ?_
    refine JL_stepG rfl rfl rfl (Gd.plain Sub.rfl) rfl rfl (fun hw => step_move Sub.rfl) ?_
    refine JL_stepG rfl rfl rfl (Gd.plain Sub.rfl) rfl rfl (fun hw => step_indexAddr_sl (i := 0) Tryz.underlying40 ty3 (Sub.w hw) Sub.rfl ?sg1 (gb ?sg2)) ?_
    case sg1 => have hwq := hw; (try simp only [beqB_t, beqB_f, decide_eq_true_eq, decide_eq_false_iff_not, Bool.and_eq_true, Bool.or_eq_true, Bool.and_eq_false_iff, Bool.or_eq_false_iff, Bool.not_eq_true', Bool.not_eq_false', Int.not_lt, Int.not_le, Bool.not_true, Bool.not_false] at hwq); rfl
    case sg2 => have hwq := hw; (try simp only [beqB_t, beqB_f, decide_eq_true_eq, decide_eq_false_iff_not, Bool.and_eq_true, Bool.or_eq_true, Bool.and_eq_false_iff, Bool.or_eq_false_iff, Bool.not_eq_true', Bool.not_eq_false', Int.not_lt, Int.not_le, Bool.not_true, Bool.not_false] at hwq); omega
    refine JL_stepG rfl rfl rfl (Gd.plain Sub.rfl) rfl rfl (fun hw => step_load_ptr ty3 (Sub.w hw)) ?_
    refine JL_stepG rfl rfl rfl (Gd.plain Sub.rfl) rfl rfl (fun hw => step_geq (Sub.w hw) Sub.rfl) ?_
    refine JL_step rfl rfl rfl (step_pick_and Sub.rfl Sub.rfl) ?_
    refine JL_nil ?_
    refine J_cond Sub.rfl (fun h41 => ?_) (fun h41 => ?_)
    · try simp only [decide_eq_true_eq, decide_eq_false_iff_not, Bool.and_eq_true, Bool.or_eq_true, Bool.and_eq_false_iff, Bool.or_eq_false_iff, Bool.not_eq_true', Bool.not_eq_false', Int.not_lt, Int.not_le, Bool.not_true, Bool.not_false] at h41
      have hbl : b < (sk.length / k) := by have h37 : (b : Int) < (sk.length : Int) / k := h41.1; rw [← Int.natCast_ediv] at h37; omega
      have hs0 : 0 ≤ nth sk 0 := h41.2
      have hbr : -9223372036854775808 ≤ (b : Int) ∧ (b : Int) ≤ 9223372036854775807 := by omega
      refine J_skip ?_
      refine J_seq ?_
      refine J_block ?_
      refine J_seq ?_
      refine J_region ?_
      refine JL_step rfl rfl rfl (step_move Sub.rfl) ?_
      refine JL_step rfl rfl rfl (step_call0 (Decimal_spec _ hbr) ⟨Sub.rfl, trivial⟩ Tryz.call72) ?_
      refine JL_step rfl rfl rfl (step_add_str Sub.rfl Sub.rfl ?sg1) ?_
      case sg1 => have := itoaB_size hbr; have : (⟨#[58]⟩ : ByteArray).size = 1 := rfl; omega
      refine JL_step rfl rfl rfl (step_assign Sub.rfl) ?_
      refine JL_nil ?_
      refine J_seq ?_
      refine J_seq ?_
      refine J_region ?_
      refine JL_step rfl rfl rfl (step_assign Sub.rfl) ?_
      refine JL_nil ?_
      refine J_block ?_
      refine J_loopL (σ := Nat) (fun i => i ≤ k) (fun i => upd (upd (upd (upd (upd (upd (upd (upd (upd (upd (upd (upd env0 0 (tSl rInt sk)) 1 (tV (.int .i64 (k : Int)))) 4 (tV (.slice none 0 0))) 5 (tV (.int .i64 0))) 6 (rV.ty v)) 7 (tV (.int .i64 b))) 8 (tV (.string (keyJ sk k b i)))) 9 (tV (.int .i64 i))) 30 (tV (.int .i64 b))) 31 (tSl rInt sk)) 33 (tV (.int .i64 (k : Int)))) 44 (tV (.int .i64 b))) (fun i => [own 9 rStr v ((List.range b).map (bandM sk k))]) (fun i => k - i) 0 (by omega) (SubE.upd Sub.rfl (SubE.upd Sub.rfl (SubE.upd Sub.rfl (SubE.upd Sub.rfl (SubE.upd Sub.rfl (SubE.upd (Sub.strE (keyJ_0 sk k b)) (SubE.upd Sub.rfl (SubE.upd Sub.rfl (SubE.upd Sub.rfl (SubE.upd Sub.rfl (SubE.upd Sub.rfl (SubE.upd Sub.rfl SubE.any)))))))))))) (LSub.rfl) ?_
      rintro i hi
      refine J_seq ?_
      refine J_seq ?_
      refine J_region ?_
      refine JL_step rfl rfl rfl (step_move Sub.rfl) ?_
      refine JL_step rfl rfl rfl (step_move Sub.rfl) ?_
      refine JL_step rfl rfl rfl (step_lss Sub.rfl Sub.rfl) ?_
      refine JL_nil ?_
      refine J_cond Sub.rfl (fun h49 => ?_) (fun h49 => ?_)
      · try simp only [decide_eq_true_eq, decide_eq_false_iff_not, Bool.and_eq_true, Bool.or_eq_true, Bool.and_eq_false_iff, Bool.or_eq_false_iff, Bool.not_eq_true', Bool.not_eq_false', Int.not_lt, Int.not_le, Bool.not_true, Bool.not_false] at h49
        have hil : i < k := by omega
        have hkz := keyJ_size (sk := sk) (rows := k) (b := b) i (fun x hx => by have := hr3 x hx; omega) (fun i hi => band_lt hbl hi) (by omega) hbr
        have hnr : -9223372036854775808 ≤ nth sk (b * k + i) ∧ nth sk (b * k + i) ≤ 9223372036854775807 := by have := hr3 _ (nth_mem (band_lt hbl hil)); omega
        refine J_skip ?_
        refine J_seq ?_
        refine J_block ?_
        refine J_seq ?_
        refine J_seq ?_
        refine J_region ?_
        refine JL_step rfl rfl rfl (step_move Sub.rfl) ?_
        refine JL_step rfl rfl rfl (step_gtr Sub.rfl Sub.rfl) ?_
        refine JL_nil ?_
        refine J_cond Sub.rfl (fun h53 => ?_) (fun h53 => ?_)
        · try simp only [decide_eq_true_eq, decide_eq_false_iff_not, Bool.and_eq_true, Bool.or_eq_true, Bool.and_eq_false_iff, Bool.or_eq_false_iff, Bool.not_eq_true', Bool.not_eq_false', Int.not_lt, Int.not_le, Bool.not_true, Bool.not_false] at h53
          refine J_region ?_
          refine JL_step rfl rfl rfl (step_move Sub.rfl) ?_
          refine JL_step rfl rfl rfl (step_add_str Sub.rfl Sub.rfl ?sg1) ?_
          case sg1 => have : (⟨#[46]⟩ : ByteArray).size = 1 := rfl; omega
          refine JL_step rfl rfl rfl (step_assign Sub.rfl) ?_
          refine JL_nil ?_
          refine J_region ?_
          refine JL_step rfl rfl rfl (step_move Sub.rfl) ?_
          refine JL_step rfl rfl rfl (step_move Sub.rfl) ?_
          refine JL_step rfl rfl rfl (step_move Sub.rfl) ?_
          refine JL_step rfl rfl rfl (step_move Sub.rfl) ?_
          refine JL_step rfl rfl rfl (step_mul Sub.rfl Sub.rfl (by unfold in64; have := band_lt (i := 0) hbl (by omega); have e : ((b : Int) * (k : Int)) = ((b * k : Nat) : Int) := (Int.natCast_mul b k).symm; omega)) ?_
          refine JL_step rfl rfl rfl (step_move Sub.rfl) ?_
          refine JL_step rfl rfl rfl (step_add Sub.rfl Sub.rfl (by unfold in64; have := band_lt (i := i) hbl hil; have e : ((b : Int) * (k : Int)) = ((b * k : Nat) : Int) := (Int.natCast_mul b k).symm; omega)) ?_
          refine JL_step rfl rfl rfl (step_indexAddr_sl (i := b * k + i) Tryz.underlying40 ty3 Sub.rfl Sub.rfl ?sg1 (gb ?sg2)) ?_
          case sg1 => show ((b : Int) * (k : Int)) + i = _; rw [Int.natCast_add, Int.natCast_mul]
          case sg2 => exact band_lt hbl hil
          refine JL_step rfl rfl rfl (step_load_ptr ty3 Sub.rfl) ?_
          refine JL_step rfl rfl rfl (step_call0 (Decimal_spec _ hnr) ⟨Sub.rfl, trivial⟩ Tryz.call72) ?_
          refine JL_step rfl rfl rfl (step_add_str Sub.rfl Sub.rfl ?sg1) ?_
          case sg1 => have h1 := itoaB_size hnr; have h2 : (⟨#[46]⟩ : ByteArray).size = 1 := rfl; (try rw [ByteArray.size_append]); omega
          refine JL_step rfl rfl rfl (step_assign Sub.rfl) ?_
          refine JL_nil ?_
          refine J_region ?_
          refine JL_step rfl rfl rfl (step_move Sub.rfl) ?_
          refine JL_step rfl rfl rfl (step_add Sub.rfl Sub.rfl ?sg1) ?_
          case sg1 => unfold in64; omega
          refine JL_step rfl rfl rfl (step_assign Sub.rfl) ?_
          refine JL_nil ?_
          refine K_againL (σ := Nat) (s := i) (i + 1) (by first | omega | (dsimp only; omega) | (simp_all; omega)) (by omega) (SubE.upd Sub.rfl (SubE.upd Sub.rfl (SubE.upd Sub.rfl (SubE.upd Sub.rfl (SubE.upd Sub.rfl (SubE.upd (Sub.strE (by rw [keyJ_succ hil, if_neg (by omega)]; rfl)) (SubE.upd Sub.rfl (SubE.upd Sub.rfl (SubE.upd Sub.rfl (SubE.upd Sub.rfl (SubE.upd Sub.rfl (SubE.upd Sub.rfl SubE.any)))))))))))) (LSub.rfl)
        · try simp only [decide_eq_true_eq, decide_eq_false_iff_not, Bool.and_eq_true, Bool.or_eq_true, Bool.and_eq_false_iff, Bool.or_eq_false_iff, Bool.not_eq_true', Bool.not_eq_false', Int.not_lt, Int.not_le, Bool.not_true, Bool.not_false] at h53
          refine J_skip ?_
          refine J_region ?_
          refine JL_step rfl rfl rfl (step_move Sub.rfl) ?_
          refine JL_step rfl rfl rfl (step_move Sub.rfl) ?_
          refine JL_step rfl rfl rfl (step_move Sub.rfl) ?_
          refine JL_step rfl rfl rfl (step_move Sub.rfl) ?_
          refine JL_step rfl rfl rfl (step_mul Sub.rfl Sub.rfl (by unfold in64; have := band_lt (i := 0) hbl (by omega); have e : ((b : Int) * (k : Int)) = ((b * k : Nat) : Int) := (Int.natCast_mul b k).symm; omega)) ?_
          refine JL_step rfl rfl rfl (step_move Sub.rfl) ?_
          refine JL_step rfl rfl rfl (step_add Sub.rfl Sub.rfl (by unfold in64; have := band_lt (i := i) hbl hil; have e : ((b : Int) * (k : Int)) = ((b * k : Nat) : Int) := (Int.natCast_mul b k).symm; omega)) ?_
          refine JL_step rfl rfl rfl (step_indexAddr_sl (i := b * k + i) Tryz.underlying40 ty3 Sub.rfl Sub.rfl ?sg1 (gb ?sg2)) ?_
          case sg1 => show ((b : Int) * (k : Int)) + i = _; rw [Int.natCast_add, Int.natCast_mul]
          case sg2 => exact band_lt hbl hil
          refine JL_step rfl rfl rfl (step_load_ptr ty3 Sub.rfl) ?_
          refine JL_step rfl rfl rfl (step_call0 (Decimal_spec _ hnr) ⟨Sub.rfl, trivial⟩ Tryz.call72) ?_
          refine JL_step rfl rfl rfl (step_add_str Sub.rfl Sub.rfl ?sg1) ?_
          case sg1 => have h1 := itoaB_size hnr; have h2 : (⟨#[46]⟩ : ByteArray).size = 1 := rfl; (try rw [ByteArray.size_append]); omega
          refine JL_step rfl rfl rfl (step_assign Sub.rfl) ?_
          refine JL_nil ?_
          refine J_region ?_
          refine JL_step rfl rfl rfl (step_move Sub.rfl) ?_
          refine JL_step rfl rfl rfl (step_add Sub.rfl Sub.rfl ?sg1) ?_
          case sg1 => unfold in64; omega
          refine JL_step rfl rfl rfl (step_assign Sub.rfl) ?_
          refine JL_nil ?_
          refine K_againL (σ := Nat) (s := i) (i + 1) (by first | omega | (dsimp only; omega) | (simp_all; omega)) (by omega) (SubE.upd Sub.rfl (SubE.upd Sub.rfl (SubE.upd Sub.rfl (SubE.upd Sub.rfl (SubE.upd Sub.rfl (SubE.upd (Sub.strE (by rw [keyJ_succ hil, if_pos (by omega)])) (SubE.upd Sub.rfl (SubE.upd Sub.rfl (SubE.upd Sub.rfl (SubE.upd Sub.rfl (SubE.upd Sub.rfl (SubE.upd Sub.rfl SubE.any)))))))))))) (LSub.rfl)
      · try simp only [decide_eq_true_eq, decide_eq_false_iff_not, Bool.and_eq_true, Bool.or_eq_true, Bool.and_eq_false_iff, Bool.or_eq_false_iff, Bool.not_eq_true', Bool.not_eq_false', Int.not_lt, Int.not_le, Bool.not_true, Bool.not_false] at h49
        refine J_exit ?_
        refine J_region ?_
        refine JL_step rfl rfl rfl (step_move Sub.rfl) ?_
        refine JL_step rfl rfl rfl (step_move Sub.rfl) ?_
        refine JL_step rfl rfl rfl (step_literal (ys := [_]) Tryz.underlying32 el9 ⟨rfl, Sub.rfl, trivial⟩ rfl (by decide)) ?_
        refine JL_stepX rfl rfl rfl (step_append Tryz.underlying32 el9 Sub.rfl Sub.rfl (by first | exact Sel.take (Sel.none _) | exact Sel.skip (Sel.take (Sel.none _)) | exact Sel.skip (Sel.skip (Sel.take (Sel.none _))) | exact Sel.skip (Sel.skip (Sel.skip (Sel.take (Sel.none _)))) | exact Sel.skip (Sel.skip (Sel.skip (Sel.skip (Sel.take (Sel.none _)))))) (by simp; omega) (by simp; omega)) fun v70 => ?_
        refine JL_step rfl rfl rfl (step_assign Sub.rfl) ?_
        refine JL_nil ?_
        refine J_region ?_
        refine JL_step rfl rfl rfl (step_move Sub.rfl) ?_
        refine JL_step rfl rfl rfl (step_add Sub.rfl Sub.rfl ?sg1) ?_
        case sg1 => unfold in64; omega
        refine JL_step rfl rfl rfl (step_assign Sub.rfl) ?_
        refine JL_nil ?_
        refine K_againL (σ := Nat × Value) (s := (b, v)) (b + 1, v70) (by first | omega | (dsimp only; omega) | (simp_all; omega)) ⟨by omega, fun q => absurd q (by omega)⟩ (SubE.upd Sub.rfl (SubE.upd Sub.rfl (SubE.upd Sub.rfl (SubE.upd Sub.rfl (SubE.upd Sub.rfl (SubE.upd Sub.rfl SubE.any)))))) (LSub.cons (by first | exact Sel.take (Sel.none _) | exact Sel.skip (Sel.take (Sel.none _)) | exact Sel.skip (Sel.skip (Sel.take (Sel.none _))) | exact Sel.skip (Sel.skip (Sel.skip (Sel.take (Sel.none _)))) | exact Sel.skip (Sel.skip (Sel.skip (Sel.skip (Sel.take (Sel.none _)))))) (own_eq (by rw [List.range_succ, List.map_append, show [keyJ sk k b i] = List.map (bandM sk k) [b] by rw [← keyJ_all_1 sk k b, show i = k by omega]])) (LSub.nil))
    · try simp only [decide_eq_true_eq, decide_eq_false_iff_not, Bool.and_eq_true, Bool.or_eq_true, Bool.and_eq_false_iff, Bool.or_eq_false_iff, Bool.not_eq_true', Bool.not_eq_false', Int.not_lt, Int.not_le, Bool.not_true, Bool.not_false] at h41
      have hbe : b = (sk.length / k) ∨ nth sk 0 < 0 := by rcases h41 with h | h; left; have h37 : (sk.length : Int) / k ≤ b := (by omega); rw [← Int.natCast_ediv] at h37; omega; right; omega
      refine J_exit ?_
      refine J_seq ?_
      refine J_region ?_
      refine JL_step rfl rfl rfl (step_move Sub.rfl) ?_
      refine JL_step rfl rfl rfl (step_assign Sub.rfl) ?_
      refine JL_step rfl rfl rfl (step_assign Sub.rfl) ?_
      refine JL_nil ?_
      refine J_ret ?_
      refine K_ret2' (rv := .tmp 4) (rv' := .tmp 5) rfl () (Sel.all _) (.tmp Sub.rfl) (.tmp Sub.rfl) (show _ from ?_) (Frz.sub ?_) Sub.rfl
      · have e : bandsM sk (k : Int) = (List.range b).map (bandM sk k) := by
          rw [bandsM, if_neg (by rw [hbad]; decide)]
          by_cases hn : nth sk 0 = -1
          · rw [if_pos hn, hbn (by omega)]; rfl
          · rw [if_neg hn, show b = sk.length / k by omega]; rfl
        rw [e]; exact Frz.ownC
      · rw [bandsE, if_neg (by rw [hbad]; decide)]; exact Sub.rfl
end Lg

namespace Lg
open Go Go.Proofs


theorem subSl {α : Type} {R : Rp α} {A : Ty} {xs ys : List α} (e : xs = ys) (h : Sub A (tSl R ys)) : Sub A (tSl R xs) := e ▸ h
theorem txt_size {b : GBlock} {r : GRecord} (hr : recOk r) (h : b.Col.toNat < r.Cells.length) : (txtM (cellV b r)).size ≤ 100000000 := by
  have h1 := hr _ (nth_mem h)
  unfold txtM
  split
  · unfold cellV; omega
  · have := textV_size (cellV b r); omega
theorem fits_by {b : GBlock} {r : GRecord} (ht : r.Table = b.Table) (h0 : 0 ≤ b.Col) (h1 : b.Col < (r.Cells.length : Int)) : fitsB b r = byOk b.By := by
  unfold fitsB
  rw [decide_eq_true ht, decide_eq_true h0, decide_eq_true h1]; simp
section
variable {b : GBlock} {r : GRecord}
theorem kr_not (h : (r.Table ≠ b.Table ∨ b.Col < 0) ∨ (r.Cells.length : Int) ≤ b.Col) : keysM b r = [] := by
  have hf : fitsB b r = false := by
    rw [Bool.eq_false_iff]; intro hq; unfold fitsB at hq
    simp only [Bool.and_eq_true, decide_eq_true_eq] at hq
    obtain ⟨q1, q2, q3, q4⟩ := hq
    rcases h with (h | h) | h
    · exact h q2
    · omega
    · omega
  rw [keysM, if_pos hf]
theorem kr_by (hf : fitsB b r = byOk b.By) (h : byOk b.By = false) : keysM b r = [] := by rw [keysM, if_pos (hf.trans h)]
theorem kr_fin (hf : fitsB b r = byOk b.By) (h : byOk b.By = true) (hk : (cellV b r).Kind ≠ 0) : keysM b r = finM (rawM b (txtM (cellV b r))) := by
  rw [keysM, if_neg (by rw [hf, h]; decide), if_neg hk]
theorem fin_empty {l : List ByteArray} (h : ∀ x ∈ l, x = (⟨#[]⟩ : ByteArray)) : finM l = [] := by
  by_cases q : finM l = []
  · exact q
  · obtain ⟨x, h1, h2⟩ := fin_ne.1 q
    exact absurd (h x h1) h2
theorem kr_empty (hf : fitsB b r = byOk b.By) (h : (cellV b r).Kind = 0 ∨ foldB (txtM (cellV b r)) = ⟨#[]⟩) : keysM b r = [] := by
  by_cases hb : byOk b.By = true
  · by_cases hk : (cellV b r).Kind = 0
    · rw [keysM, if_neg (by rw [hf, hb]; decide), if_pos hk]
    · have he := h.resolve_left hk
      rw [kr_fin hf hb hk]
      refine fin_empty fun x hx => ?_
      have ht : tokM (txtM (cellV b r)) = [] := Decidable.byContradiction fun q => tok_words.1 q he
      unfold rawM at hx
      split at hx
      · rw [List.mem_singleton] at hx; rw [hx]; exact he
      · split at hx
        · rw [ht] at hx; cases hx
        · split at hx
          · rw [List.mem_singleton] at hx
            exact Decidable.byContradiction fun q => (((pref_ne _ _).1 (hx ▸ q)).2 he)
          · exact Decidable.byContradiction fun q => (((sketch_ne b _).1 ⟨x, hx, q⟩).2 ht)
  · exact kr_by hf (by simpa using hb)
theorem kr_1 (hf : fitsB b r = byOk b.By) (hk : (cellV b r).Kind ≠ 0) (he : foldB (txtM (cellV b r)) ≠ ⟨#[]⟩) (h : b.By = 1) : keysM b r = [foldB (txtM (cellV b r))] := by
  rw [kr_fin hf (by rw [h]; rfl) hk, rawM, if_pos h]
  exact fin_self (inc1 _) fun x hx => by rw [List.mem_singleton] at hx; rw [hx]; exact he
theorem kr_2 (hf : fitsB b r = byOk b.By) (hk : (cellV b r).Kind ≠ 0) (h : b.By = 2) : keysM b r = tokM (txtM (cellV b r)) := by
  rw [kr_fin hf (by rw [h]; rfl) hk, rawM, if_neg (by omega), if_pos h]
  exact fin_self (tok_inc _) fun x hx => tok_ne hx
theorem kr_3 (hf : fitsB b r = byOk b.By) (hk : (cellV b r).Kind ≠ 0) (he : foldB (txtM (cellV b r)) ≠ ⟨#[]⟩) (h : b.By = 3) (hn : 0 < b.N) {m : Int} (hm : m = if ((foldB (txtM (cellV b r))).size : Int) < b.N then ((foldB (txtM (cellV b r))).size : Int) else b.N) : keysM b r = [(foldB (txtM (cellV b r))).extract 0 m.toNat] := by
  have e : (foldB (txtM (cellV b r))).extract 0 m.toNat = prefM (foldB (txtM (cellV b r))) b.N := by
    unfold prefM cutN
    rw [hm]
    congr 2
    (repeat' split) <;> omega
  rw [kr_fin hf (by rw [h]; rfl) hk, rawM, if_neg (by omega), if_neg (by omega), if_pos h, e]
  exact fin_self (inc1 _) fun x hx => by rw [List.mem_singleton] at hx; rw [hx]; exact (pref_ne _ _).2 ⟨hn, he⟩
theorem kr_30 (hf : fitsB b r = byOk b.By) (hk : (cellV b r).Kind ≠ 0) (h : b.By = 3) (hn : ¬ 0 < b.N) : keysM b r = [] := by
  rw [kr_fin hf (by rw [h]; rfl) hk, rawM, if_neg (by omega), if_neg (by omega), if_pos h]
  exact fin_empty fun x hx => by rw [List.mem_singleton] at hx; exact Decidable.byContradiction fun q => hn ((pref_ne _ _).1 (hx ▸ q)).1
theorem kr_4 (hf : fitsB b r = byOk b.By) (hk : (cellV b r).Kind ≠ 0) (h : b.By = 4) : keysM b r = compS (sortS (sketchM b (txtM (cellV b r)))) := by
  rw [kr_fin hf (by rw [h]; rfl) hk, rawM, if_neg (by omega), if_neg (by omega), if_neg (by omega)]
  refine fin_of (compS_sortS _).1 fun x => ?_
  rw [(compS_sortS _).2]
  refine ⟨fun q => q.1, fun q => ⟨q, ?_⟩⟩
  unfold sketchM bandsM at q
  (repeat' split at q) <;> first | cases q | (obtain ⟨i, _, rfl⟩ := List.mem_map.1 q; exact band_ne _ _ _)
theorem kr_4b (hf : fitsB b r = byOk b.By) (hk : (cellV b r).Kind ≠ 0) (h : b.By = 4) (h1 : mkE b.N = 0) (h2 : bandsE (mkM (tokM (txtM (cellV b r))) b.N) b.M = 0) : keysM b r = compS (sortS (bandsM (mkM (tokM (txtM (cellV b r))) b.N) b.M)) := by
  rw [kr_4 hf hk h, sketchM, if_neg (fun q => q h1), if_neg (fun q => q h2)]
theorem kr_4n (hf : fitsB b r = byOk b.By) (hk : (cellV b r).Kind ≠ 0) (h : b.By = 4) (h1 : mkE b.N ≠ 0 ∨ bandsE (mkM (tokM (txtM (cellV b r))) b.N) b.M ≠ 0) : keysM b r = [] := by
  have : sketchM b (txtM (cellV b r)) = [] := by
    unfold sketchM
    split
    · rfl
    · rename_i q; rw [if_pos (h1.resolve_left (fun h => q h))]
  rw [kr_4 hf hk h, this]
  unfold sortS compS Lib.compact; simp [Lib.compactUpTo]
end
theorem bandsM_len (sk : List Int) (rows : Int) : (bandsM sk rows).length ≤ sk.length := by
  unfold bandsM
  (repeat' split)
  · simp
  · simp
  · rw [List.length_map, List.length_range]; exact Nat.div_le_self _ _

set_option maxHeartbeats 1000000 in
theorem KeysR_spec (b : GBlock) (r : GRecord) (hr : recOk r) : Fun1 Tryz.prog 14 [rBlock.ty b, rRecord.ty r] (tSl rStr (keysM b r)) := by
  refine Spec.enter Tryz.func14 rfl rfl fun h0 w0 fr0 => ?_
  refine J_seq ?_
  refine J_region ?_
  refine JL_step rfl rfl rfl (step_box (R := rBlock) Sub.rfl) ?_
  refine JL_step rfl rfl rfl (step_box (R := rRecord) Sub.rfl) ?_
  refine JL_step rfl rfl rfl (step_assign Sub.rfl) ?_
  refine JL_nil ?_
  refine J_seq ?_
  refine J_seq ?_
  refine J_region ?_
  refine JL_step rfl rfl rfl (step_fieldAddr so28 Sub.rfl rfl) ?_
  refine JL_step rfl rfl rfl (step_load_ptr ty3 Sub.rfl) ?_
  refine JL_step rfl rfl rfl (step_fieldAddr so35 Sub.rfl rfl) ?_
  refine JL_step rfl rfl rfl (step_load_ptr ty3 Sub.rfl) ?_
  refine JL_step rfl rfl rfl (step_neq Sub.rfl Sub.rfl) ?_
  refine JL_step rfl rfl rfl (step_move Sub.rfl) ?_
  refine JL_stepG rfl rfl rfl (Gd.plain Sub.rfl) rfl rfl (fun hw => step_fieldAddr so35 Sub.rfl rfl) ?_
  refine JL_stepG rfl rfl rfl (Gd.plain Sub.rfl) rfl rfl (fun hw => step_load_ptr ty3 (Sub.w hw)) ?_
  refine JL_stepG rfl rfl rfl (Gd.plain Sub.rfl) rfl rfl (fun hw => step_lss (Sub.w hw) Sub.rfl) ?_
  refine JL_step rfl rfl rfl (step_pick_or Sub.rfl Sub.rfl) ?_
  refine JL_step rfl rfl rfl (step_move Sub.rfl) ?_
  refine JL_stepG rfl rfl rfl (Gd.plain Sub.rfl) rfl rfl (fun hw => step_fieldAddr so35 Sub.rfl rfl) ?_
  refine JL_stepG rfl rfl rfl (Gd.plain Sub.rfl) rfl rfl (fun hw => step_load_ptr ty3 (Sub.w hw)) ?_
  refine JL_stepG rfl rfl rfl (Gd.plain Sub.rfl) rfl rfl (fun hw => step_fieldAddr so28 Sub.rfl rfl) ?_
  refine JL_stepG rfl rfl rfl (Gd.plain Sub.rfl) rfl rfl (fun hw => step_load_ptr ty26 (Sub.w hw)) ?_
  refine JL_stepG rfl rfl rfl (Gd.plain Sub.rfl) rfl rfl (fun hw => step_len_sl Tryz.underlying26 (Sub.w hw)) ?_
  refine JL_stepG rfl rfl rfl (Gd.plain Sub.rfl) rfl rfl (fun hw => step_geq (Sub.w hw) (Sub.w hw)) ?_
  refine JL_step rfl rfl rfl (step_pick_or Sub.rfl Sub.rfl) ?_
  refine JL_nil ?_
  refine J_cond Sub.rfl (fun h29 => ?_) (fun h29 => ?_)
  · try simp only [decide_eq_true_eq, decide_eq_false_iff_not, Bool.and_eq_true, Bool.or_eq_true, Bool.and_eq_false_iff, Bool.or_eq_false_iff, Bool.not_eq_true', Bool.not_eq_false', Int.not_lt, Int.not_le, Bool.not_true, Bool.not_false] at h29
    refine J_seq ?_
    refine J_region ?_
    refine JL_step rfl rfl rfl (step_assign Sub.rfl) ?_
    refine JL_nil ?_
    refine J_ret ?_
    refine K_ret1' (rv := .tmp 4) rfl () (Sel.all _) (.tmp Sub.rfl) (Frz.sub ?_)
    exact subSl (kr_not (by omega)) Sub.nilsl
  · try simp only [decide_eq_true_eq, decide_eq_false_iff_not, Bool.and_eq_true, Bool.or_eq_true, Bool.and_eq_false_iff, Bool.or_eq_false_iff, Bool.not_eq_true', Bool.not_eq_false', Int.not_lt, Int.not_le, Bool.not_true, Bool.not_false] at h29
    have hf := fits_by (b := b) (r := r) (by omega) (by omega) (by omega)
    have hlt : b.Col.toNat < r.Cells.length := by omega
    have hsz := txt_size hr hlt
    have htk := tok_ok hsz
    have hml := mkM_len (tokM (txtM (cellV b r))) b.N
    refine J_skip ?_
    refine J_seq ?_
    refine J_region ?_
    refine JL_step rfl rfl rfl (step_fieldAddr so28 Sub.rfl rfl) ?_
    refine JL_step rfl rfl rfl (step_load_ptr ty26 Sub.rfl) ?_
    refine JL_step rfl rfl rfl (step_fieldAddr so35 Sub.rfl rfl) ?_
    refine JL_step rfl rfl rfl (step_load_ptr ty3 Sub.rfl) ?_
    refine JL_step rfl rfl rfl (step_indexAddr_sl (i := b.Col.toNat) Tryz.underlying26 ty49 Sub.rfl Sub.rfl ?sg1 (gb ?sg2)) ?_
    case sg1 => show b.Col = ((b.Col.toNat : Nat) : Int); omega
    case sg2 => exact hlt
    refine JL_step rfl rfl rfl (step_fieldAddr so49 Sub.rfl rfl) ?_
    refine JL_step rfl rfl rfl (step_load_ptr ty47 Sub.rfl) ?_
    refine JL_step rfl rfl rfl (step_call0 (text19_spec (cellV b r)) ⟨Sub.rfl, trivial⟩ Tryz.call36) ?_
    refine JL_step rfl rfl rfl (step_move Sub.rfl) ?_
    refine JL_step rfl rfl rfl (step_extract Sub.rfl rfl) ?_
    refine JL_step rfl rfl rfl (step_extract Sub.rfl rfl) ?_
    refine JL_step rfl rfl rfl (step_assign Sub.rfl) ?_
    refine JL_step rfl rfl rfl (step_assign Sub.rfl) ?_
    refine JL_nil ?_
    refine J_seq ?_
    refine J_region ?_
    refine JL_step rfl rfl rfl (step_move Sub.rfl) ?_
    refine JL_step rfl rfl rfl (step_call0 (FoldR_spec _ hsz) ⟨Sub.rfl, trivial⟩ Tryz.call37) ?_
    refine JL_step rfl rfl rfl (step_assign Sub.rfl) ?_
    refine JL_nil ?_
    refine J_seq ?_
    refine J_seq ?_
    refine J_region ?_
    refine JL_step rfl rfl rfl (step_move Sub.rfl) ?_
    refine JL_step rfl rfl rfl (step_not Sub.rfl) ?_
    refine JL_step rfl rfl rfl (step_move Sub.rfl) ?_
    refine JL_stepG rfl rfl rfl (Gd.plain Sub.rfl) rfl rfl (fun hw => step_move Sub.rfl) ?_
    refine JL_stepG rfl rfl rfl (Gd.plain Sub.rfl) rfl rfl (fun hw => step_eql_str (Sub.w hw) Sub.rfl) ?_
    refine JL_step rfl rfl rfl (step_pick_or Sub.rfl Sub.rfl) ?_
    refine JL_nil ?_
    refine J_cond Sub.rfl (fun h48 => ?_) (fun h48 => ?_)
    · try simp only [decide_eq_true_eq, decide_eq_false_iff_not, Bool.and_eq_true, Bool.or_eq_true, Bool.and_eq_false_iff, Bool.or_eq_false_iff, Bool.not_eq_true', Bool.not_eq_false', Int.not_lt, Int.not_le, Bool.not_true, Bool.not_false] at h48
      refine J_seq ?_
      refine J_region ?_
      refine JL_step rfl rfl rfl (step_assign Sub.rfl) ?_
      refine JL_nil ?_
      refine J_ret ?_
      refine K_ret1' (rv := .tmp 4) rfl () (Sel.all _) (.tmp Sub.rfl) (Frz.sub ?_)
      exact subSl (kr_empty hf (by simpa using h48)) Sub.nilsl
    · try simp only [decide_eq_true_eq, decide_eq_false_iff_not, Bool.and_eq_true, Bool.or_eq_true, Bool.and_eq_false_iff, Bool.or_eq_false_iff, Bool.not_eq_true', Bool.not_eq_false', Int.not_lt, Int.not_le, Bool.not_true, Bool.not_false] at h48
      have hk : (cellV b r).Kind ≠ 0 := by simpa using h48.1
      have he : foldB (txtM (cellV b r)) ≠ ⟨#[]⟩ := h48.2
      refine J_skip ?_
      refine J_seq ?_
      refine J_seq ?_
      refine J_region ?_
      refine JL_step rfl rfl rfl (step_fieldAddr so35 Sub.rfl rfl) ?_
      refine JL_step rfl rfl rfl (step_load_ptr ty3 Sub.rfl) ?_
      refine JL_nil ?_
      refine J_block ?_
      refine J_seq ?_
      refine J_region ?_
      refine JL_step rfl rfl rfl (step_eql Sub.rfl Sub.rfl) ?_
      refine JL_step rfl rfl rfl (step_assign Sub.rfl) ?_
      refine JL_nil ?_
      refine J_cond Sub.rfl (fun h51 => ?_) (fun h51 => ?_)
      · try simp only [decide_eq_true_eq, decide_eq_false_iff_not, Bool.and_eq_true, Bool.or_eq_true, Bool.and_eq_false_iff, Bool.or_eq_false_iff, Bool.not_eq_true', Bool.not_eq_false', Int.not_lt, Int.not_le, Bool.not_true, Bool.not_false] at h51
        refine J_seq ?_
        refine J_region ?_
        refine JL_step rfl rfl rfl (step_move Sub.rfl) ?_
        refine JL_step rfl rfl rfl (step_literal (ys := [_]) Tryz.underlying32 el9 ⟨rfl, Sub.rfl, trivial⟩ rfl (by decide)) ?_
        refine JL_step rfl rfl rfl (step_assign Sub.rfl) ?_
        refine JL_nil ?_
        refine J_ret ?_
        refine K_ret1' (rv := .tmp 4) rfl () (Sel.all _) (.tmp Sub.rfl) (Frz.sub ?_)
        exact subSl (kr_1 hf hk he h51) Sub.rfl
      · try simp only [decide_eq_true_eq, decide_eq_false_iff_not, Bool.and_eq_true, Bool.or_eq_true, Bool.and_eq_false_iff, Bool.or_eq_false_iff, Bool.not_eq_true', Bool.not_eq_false', Int.not_lt, Int.not_le, Bool.not_true, Bool.not_false] at h51
        refine J_seq ?_
        refine J_region ?_
        refine JL_step rfl rfl rfl (step_eql Sub.rfl Sub.rfl) ?_
        refine JL_step rfl rfl rfl (step_assign Sub.rfl) ?_
        refine JL_nil ?_
        refine J_cond Sub.rfl (fun h55 => ?_) (fun h55 => ?_)
        · try simp only [decide_eq_true_eq, decide_eq_false_iff_not, Bool.and_eq_true, Bool.or_eq_true, Bool.and_eq_false_iff, Bool.or_eq_false_iff, Bool.not_eq_true', Bool.not_eq_false', Int.not_lt, Int.not_le, Bool.not_true, Bool.not_false] at h55
          refine J_seq ?_
          refine J_region ?_
          refine JL_step rfl rfl rfl (step_move Sub.rfl) ?_
          refine JL_step rfl rfl rfl (step_call0 (TokensR_spec _ hsz) ⟨Sub.rfl, trivial⟩ Tryz.call38) ?_
          refine JL_step rfl rfl rfl (step_assign Sub.rfl) ?_
          refine JL_nil ?_
          refine J_ret ?_
          refine K_ret1' (rv := .tmp 4) rfl () (Sel.all _) (.tmp Sub.rfl) (Frz.sub ?_)
          exact subSl (kr_2 hf hk h55) Sub.ofC
        · try simp only [decide_eq_true_eq, decide_eq_false_iff_not, Bool.and_eq_true, Bool.or_eq_true, Bool.and_eq_false_iff, Bool.or_eq_false_iff, Bool.not_eq_true', Bool.not_eq_false', Int.not_lt, Int.not_le, Bool.not_true, Bool.not_false] at h55
          refine J_seq ?_
          refine J_region ?_
          refine JL_step rfl rfl rfl (step_eql Sub.rfl Sub.rfl) ?_
          refine JL_step rfl rfl rfl (step_assign Sub.rfl) ?_
          refine JL_nil ?_
          refine J_cond Sub.rfl (fun h59 => ?_) (fun h59 => ?_)
          · try simp only [decide_eq_true_eq, decide_eq_false_iff_not, Bool.and_eq_true, Bool.or_eq_true, Bool.and_eq_false_iff, Bool.or_eq_false_iff, Bool.not_eq_true', Bool.not_eq_false', Int.not_lt, Int.not_le, Bool.not_true, Bool.not_false] at h59
            refine J_seq ?_
            refine J_region ?_
            refine JL_step rfl rfl rfl (step_fieldAddr so35 Sub.rfl rfl) ?_
            refine JL_step rfl rfl rfl (step_load_ptr ty3 Sub.rfl) ?_
            refine JL_step rfl rfl rfl (step_gtr Sub.rfl Sub.rfl) ?_
            refine JL_nil ?_
            refine J_cond Sub.rfl (fun h63 => ?_) (fun h63 => ?_)
            · try simp only [decide_eq_true_eq, decide_eq_false_iff_not, Bool.and_eq_true, Bool.or_eq_true, Bool.and_eq_false_iff, Bool.or_eq_false_iff, Bool.not_eq_true', Bool.not_eq_false', Int.not_lt, Int.not_le, Bool.not_true, Bool.not_false] at h63
              refine J_seq ?_
              refine J_region ?_
              refine JL_step rfl rfl rfl (step_move Sub.rfl) ?_
              refine JL_step rfl rfl rfl (step_fieldAddr so35 Sub.rfl rfl) ?_
              refine JL_step rfl rfl rfl (step_load_ptr ty3 Sub.rfl) ?_
              refine JL_step rfl rfl rfl (step_move Sub.rfl) ?_
              refine JL_step rfl rfl rfl (step_len_str Tryz.underlying9 Sub.rfl) ?_
              refine JL_step rfl rfl rfl (step_min Sub.rfl Sub.rfl) ?_
              refine JL_step rfl rfl rfl (step_slice_strTo (b := (if ((foldB (txtM (cellV b r))).size : Int) < b.N then ((foldB (txtM (cellV b r))).size : Int) else b.N)) Tryz.underlying9 Sub.rfl Sub.rfl (by split <;> omega) (by split <;> omega)) ?_
              refine JL_step rfl rfl rfl (step_literal (ys := [_]) Tryz.underlying32 el9 ⟨rfl, Sub.rfl, trivial⟩ rfl (by decide)) ?_
              refine JL_step rfl rfl rfl (step_assign Sub.rfl) ?_
              refine JL_nil ?_
              refine J_ret ?_
              refine K_ret1' (rv := .tmp 4) rfl () (Sel.all _) (.tmp Sub.rfl) (Frz.sub ?_)
              exact subSl (kr_3 hf hk he h59 h63 rfl) Sub.rfl
            · try simp only [decide_eq_true_eq, decide_eq_false_iff_not, Bool.and_eq_true, Bool.or_eq_true, Bool.and_eq_false_iff, Bool.or_eq_false_iff, Bool.not_eq_true', Bool.not_eq_false', Int.not_lt, Int.not_le, Bool.not_true, Bool.not_false] at h63
              refine J_skip ?_
              refine J_seq ?_
              refine J_region ?_
              refine JL_step rfl rfl rfl (step_assign Sub.rfl) ?_
              refine JL_nil ?_
              refine J_ret ?_
              refine K_ret1' (rv := .tmp 4) rfl () (Sel.all _) (.tmp Sub.rfl) (Frz.sub ?_)
              exact subSl (kr_30 hf hk h59 (by omega)) Sub.nilsl
          · try simp only [decide_eq_true_eq, decide_eq_false_iff_not, Bool.and_eq_true, Bool.or_eq_true, Bool.and_eq_false_iff, Bool.or_eq_false_iff, Bool.not_eq_true', Bool.not_eq_false', Int.not_lt, Int.not_le, Bool.not_true, Bool.not_false] at h59
            refine J_seq ?_
            refine J_region ?_
            refine JL_step rfl rfl rfl (step_eql Sub.rfl Sub.rfl) ?_
            refine JL_step rfl rfl rfl (step_assign Sub.rfl) ?_
            refine JL_nil ?_
            refine J_cond Sub.rfl (fun h72 => ?_) (fun h72 => ?_)
            · try simp only [decide_eq_true_eq, decide_eq_false_iff_not, Bool.and_eq_true, Bool.or_eq_true, Bool.and_eq_false_iff, Bool.or_eq_false_iff, Bool.not_eq_true', Bool.not_eq_false', Int.not_lt, Int.not_le, Bool.not_true, Bool.not_false] at h72
              refine J_seq ?_
              refine J_draw [⟨0, [5], true⟩, ⟨1, [75], true⟩, ⟨2, [2], true⟩, ⟨3, [77], true⟩, ⟨4, [76, 78], true⟩, ⟨5, [79], true⟩, ⟨6, [74], true⟩, ⟨7, [74], true⟩, ⟨8, [80], true⟩, ⟨9, [81], true⟩] rfl (by kernel_rfl) ?_
              refine JM_step rfl rfl rfl rfl (fun _ => step_move Sub.rfl) ?_
              refine JM_step rfl rfl rfl rfl (fun _ => step_call0 (TokensR_spec _ hsz) ⟨Sub.rfl, trivial⟩ Tryz.call38) ?_
              refine JM_step rfl rfl rfl rfl (fun _ => step_fieldAddr so35 Sub.rfl rfl) ?_
              refine JM_step rfl rfl rfl rfl (fun _ => step_load_ptr ty3 Sub.rfl) ?_
              refine JM_step rfl rfl rfl rfl (fun _ => step_call0 (MakeR_spec _ _ htk.1 htk.2) ⟨Sub.rfl, Sub.rfl, trivial⟩ Tryz.call39) ?_
              refine JM_step rfl rfl rfl rfl (fun _ => step_move Sub.rfl) ?_
              refine JM_step rfl rfl rfl rfl (fun _ => step_extract Sub.rfl rfl) ?_
              refine JM_step rfl rfl rfl rfl (fun _ => step_extract Sub.rfl rfl) ?_
              refine JM_step rfl rfl rfl rfl (fun _ => step_assign Sub.rfl) ?_
              refine JM_step rfl rfl rfl rfl (fun _ => step_assign Sub.rfl) ?_
              refine JM_nil ?_
              refine J_seq ?_
              refine J_seq ?_
              refine J_region ?_
              refine JL_step rfl rfl rfl (step_move Sub.rfl) ?_
              refine JL_step rfl rfl rfl (step_neq Sub.rfl Sub.rfl) ?_
              refine JL_nil ?_
              refine J_cond Sub.rfl (fun h83 => ?_) (fun h83 => ?_)
              · try simp only [decide_eq_true_eq, decide_eq_false_iff_not, Bool.and_eq_true, Bool.or_eq_true, Bool.and_eq_false_iff, Bool.or_eq_false_iff, Bool.not_eq_true', Bool.not_eq_false', Int.not_lt, Int.not_le, Bool.not_true, Bool.not_false] at h83
                refine J_seq ?_
                refine J_region ?_
                refine JL_step rfl rfl rfl (step_assign Sub.rfl) ?_
                refine JL_nil ?_
                refine J_ret ?_
                refine K_ret1' (rv := .tmp 4) rfl () (Sel.all _) (.tmp Sub.rfl) (Frz.sub ?_)
                exact subSl (kr_4n hf hk h72 (.inl h83)) Sub.nilsl
              · try simp only [decide_eq_true_eq, decide_eq_false_iff_not, Bool.and_eq_true, Bool.or_eq_true, Bool.and_eq_false_iff, Bool.or_eq_false_iff, Bool.not_eq_true', Bool.not_eq_false', Int.not_lt, Int.not_le, Bool.not_true, Bool.not_false] at h83
                refine J_skip ?_
                refine J_seq ?_
                refine J_region ?_
                refine JL_step rfl rfl rfl (step_move Sub.rfl) ?_
                refine JL_step rfl rfl rfl (step_fieldAddr so35 Sub.rfl rfl) ?_
                refine JL_step rfl rfl rfl (step_load_ptr ty3 Sub.rfl) ?_
                refine JL_step rfl rfl rfl (step_call0 (BandsR_spec (mkM (tokM (txtM (cellV b r))) b.N) b.M (by omega)) ⟨Sub.rfl, Sub.rfl, trivial⟩ Tryz.call40) ?_
                refine JL_step rfl rfl rfl (step_move Sub.rfl) ?_
                refine JL_step rfl rfl rfl (step_extract Sub.rfl rfl) ?_
                refine JL_step rfl rfl rfl (step_extract Sub.rfl rfl) ?_
                refine JL_step rfl rfl rfl (step_assign Sub.rfl) ?_
                refine JL_step rfl rfl rfl (step_assign Sub.rfl) ?_
                refine JL_nil ?_
                refine J_seq ?_
                refine J_region ?_
                refine JL_step rfl rfl rfl (step_move Sub.rfl) ?_
                refine JL_step rfl rfl rfl (step_eql Sub.rfl Sub.rfl) ?_
                refine JL_nil ?_
                refine J_cond Sub.rfl (fun h92 => ?_) (fun h92 => ?_)
                · try simp only [decide_eq_true_eq, decide_eq_false_iff_not, Bool.and_eq_true, Bool.or_eq_true, Bool.and_eq_false_iff, Bool.or_eq_false_iff, Bool.not_eq_true', Bool.not_eq_false', Int.not_lt, Int.not_le, Bool.not_true, Bool.not_false] at h92
                  refine J_seq ?_
                  refine J_region ?_
                  refine JL_step rfl rfl rfl (step_move Sub.rfl) ?_
                  refine JL_step rfl rfl rfl (step_call0 (SortedR_spec _ (by have := bandsM_len (mkM (tokM (txtM (cellV b r))) b.N) b.M; omega)) ⟨Sub.rfl, trivial⟩ Tryz.call41) ?_
                  refine JL_step rfl rfl rfl (step_assign Sub.rfl) ?_
                  refine JL_nil ?_
                  refine J_ret ?_
                  refine K_ret1' (rv := .tmp 4) rfl () (Sel.all _) (.tmp Sub.rfl) (Frz.sub ?_)
                  exact subSl (kr_4b hf hk h72 (by simpa using h83) (by simpa using h92)) Sub.ofC
                · try simp only [decide_eq_true_eq, decide_eq_false_iff_not, Bool.and_eq_true, Bool.or_eq_true, Bool.and_eq_false_iff, Bool.or_eq_false_iff, Bool.not_eq_true', Bool.not_eq_false', Int.not_lt, Int.not_le, Bool.not_true, Bool.not_false] at h92
                  refine J_skip ?_
                  refine J_seq ?_
                  refine J_region ?_
                  refine JL_step rfl rfl rfl (step_assign Sub.rfl) ?_
                  refine JL_nil ?_
                  refine J_ret ?_
                  refine K_ret1' (rv := .tmp 4) rfl () (Sel.all _) (.tmp Sub.rfl) (Frz.sub ?_)
                  exact subSl (kr_4n hf hk h72 (.inr (by simpa using h92))) Sub.nilsl
            · try simp only [decide_eq_true_eq, decide_eq_false_iff_not, Bool.and_eq_true, Bool.or_eq_true, Bool.and_eq_false_iff, Bool.or_eq_false_iff, Bool.not_eq_true', Bool.not_eq_false', Int.not_lt, Int.not_le, Bool.not_true, Bool.not_false] at h72
              refine J_skip ?_
              refine J_seq ?_
              refine J_region ?_
              refine JL_step rfl rfl rfl (step_assign Sub.rfl) ?_
              refine JL_nil ?_
              refine J_ret ?_
              refine K_ret1' (rv := .tmp 4) rfl () (Sel.all _) (.tmp Sub.rfl) (Frz.sub ?_)
              exact subSl (kr_by hf (by unfold byOk; simp; omega)) Sub.nilsl
end Lg

namespace Lg
open Go Go.Proofs


theorem comN_rng (x y : List ByteArray) : 0 ≤ comN x y ∧ comN x y ≤ x.length := by
  unfold comN
  have := List.length_filter_le (inLB y) x
  omega
theorem drop_cons {l : List ByteArray} {i : Nat} (h : i < l.length) : l.drop i = nth l i :: l.drop (i + 1) := by
  rw [nth_get h]; exact List.drop_eq_getElem_cons h
section
variable {a b : List ByteArray} {i k : Nat}
theorem com_L1 (hi : i < a.length) (hk : k < b.length) (ia : incB a) (h : ofB (nth b k) < ofB (nth a i)) : comN (a.drop i) (b.drop k) = comN (a.drop i) (b.drop (k + 1)) := by
  have ha := drop_cons hi
  have hb := drop_cons hk
  have ix : incB (a.drop i) := List.Pairwise.sublist (List.drop_sublist _ _) ia
  rw [com_gt (x := a.drop i) (y := b.drop k) (by rw [ha]; simp) (by rw [hb]; simp) ix (by rw [ha, hb]; exact h), List.drop_drop]
theorem com_L2 (hi : i < a.length) (ib : incB b) (h1 : b.length ≤ k ∨ ¬ ofB (nth b k) < ofB (nth a i)) (h2 : b.length ≤ k ∨ ¬ nth b k = nth a i) : comN (a.drop i) (b.drop k) = comN (a.drop (i + 1)) (b.drop k) := by
  by_cases hk : k < b.length
  · have ha := drop_cons hi
    have hb := drop_cons hk
    have iy : incB (b.drop k) := List.Pairwise.sublist (List.drop_sublist _ _) ib
    have n1 := h1.resolve_left (by omega)
    have n2 := h2.resolve_left (by omega)
    have hlt : ofB (nth a i) < ofB (nth b k) := List.not_le.1 fun q => n2 (ofB_inj (List.le_antisymm q (List.not_lt.1 n1)))
    rw [com_lt (x := a.drop i) (y := b.drop k) (by rw [ha]; simp) (by rw [hb]; simp) iy (by rw [ha, hb]; exact hlt), List.drop_drop]
  · have he : b.drop k = [] := List.drop_of_length_le (by omega)
    rw [he, comN_0 (.inr rfl), comN_0 (.inr rfl)]
theorem com_L3 (hi : i < a.length) (hk : k < b.length) (h : nth b k = nth a i) : comN (a.drop i) (b.drop k) = 1 + comN (a.drop (i + 1)) (b.drop k) := by
  have hin : inLB (b.drop k) (nth a i) = true := inLB_iff.2 (by rw [drop_cons hk, h]; simp)
  rw [drop_cons hi]
  unfold comN
  rw [List.filter_cons_of_pos hin]
  simp; omega
end

theorem keys_inc (b : GBlock) (r : GRecord) : incB (keysM b r) := by
  unfold keysM
  (repeat' split)
  · simp [incB]
  · simp [incB]
  · exact finM_inc _
theorem cand_tab {blocks : List GBlock} {a b : GRecord} (h : ¬ a.Table = b.Table) : sharesB blocks a b = false := by
  rw [Bool.eq_false_iff]; intro q; exact h (shares_keys.1 q).1
theorem cand_t {blocks : List GBlock} {a b : GRecord} {i : Nat} (h : a.Table = b.Table) (hi : i < blocks.length) (hc : com (keysM (nth blocks i) a) (keysM (nth blocks i) b)) : sharesB blocks a b = true := by
  obtain ⟨k, h1, h2⟩ := hc
  exact shares_keys.2 ⟨h, _, nth_mem hi, k, h1, h2⟩
theorem cand_f {blocks : List GBlock} {a b : GRecord} (h : ∀ k, k < blocks.length → ¬ com (keysM (nth blocks k) a) (keysM (nth blocks k) b)) : sharesB blocks a b = false := by
  rw [Bool.eq_false_iff]; intro q
  obtain ⟨_, bl, hb, k, h1, h2⟩ := shares_keys.1 q
  obtain ⟨j, hj, rfl⟩ := List.getElem_of_mem hb
  rw [← nth_get hj] at h1 h2
  exact h j hj ⟨k, h1, h2⟩

theorem IncR_spec (l : List ByteArray) (hi0 : incB l) (hl : l.length ≤ 1000000000) : Fun1 Tryz.prog 117 [tSl rStr l] (tV (.bool true)) := by
  refine Spec.enter Tryz.func117 rfl rfl fun h0 w0 fr0 => ?_
  refine J_seq ?_
  refine J_region ?_
  refine JL_step rfl rfl rfl (step_assign Sub.rfl) ?_
  refine JL_nil ?_
  refine J_seq ?_
  refine J_seq ?_
  refine J_region ?_
  refine JL_step rfl rfl rfl (step_assign Sub.rfl) ?_
  refine JL_nil ?_
  refine J_block ?_
  refine J_loopL (σ := Nat) (fun i => 1 ≤ i ∧ (i ≤ l.length ∨ i = 1)) (fun i => upd (upd env0 0 (tSl rStr l)) 3 (tV (.int .i64 i))) (fun i => []) (fun i => l.length - i) 1 ⟨by omega, .inr rfl⟩ (SubE.upd Sub.rfl (SubE.upd Sub.rfl SubE.any)) (LSub.rfl) ?_
  rintro i ⟨hi1, hi2⟩
  refine J_seq ?_
  refine J_seq ?_
  refine J_region ?_
  refine JL_step rfl rfl rfl (step_move Sub.rfl) ?_
  refine JL_step rfl rfl rfl (step_move Sub.rfl) ?_
  refine JL_step rfl rfl rfl (step_len_sl Tryz.underlying32 Sub.rfl) ?_
  refine JL_step rfl rfl rfl (step_lss Sub.rfl Sub.rfl) ?_
  refine JL_nil ?_
  refine J_cond Sub.rfl (fun h7 => ?_) (fun h7 => ?_)
  · try simp only [decide_eq_true_eq, decide_eq_false_iff_not, Bool.and_eq_true, Bool.or_eq_true, Bool.and_eq_false_iff, Bool.or_eq_false_iff, Bool.not_eq_true', Bool.not_eq_false', Int.not_lt, Int.not_le, Bool.not_true, Bool.not_false] at h7
    have hlt : i < l.length := by omega
    refine J_skip ?_
    refine J_seq ?_
    refine J_block ?_
    refine J_seq ?_
    refine J_draw [⟨0, [0], true⟩, ⟨1, [3], true⟩, ⟨2, [11], true⟩, ⟨3, [10, 12], true⟩, ⟨4, [13], true⟩, ⟨5, [0], true⟩, ⟨6, [3], true⟩, ⟨7, [15, 16], true⟩, ⟨8, [17], true⟩, ⟨9, [14, 18], true⟩] rfl (by kernel_rfl) ?_
    refine JM_step rfl rfl rfl rfl (fun _ => step_move Sub.rfl) ?_
    refine JM_step rfl rfl rfl rfl (fun _ => step_move Sub.rfl) ?_
    refine JM_step rfl rfl rfl rfl (fun _ => step_sub Sub.rfl Sub.rfl ?sg1) ?_
    case sg1 => unfold in64; omega
    refine JM_step rfl rfl rfl rfl (fun _ => step_indexAddr_sl (i := (i - 1)) Tryz.underlying32 ty9 Sub.rfl Sub.rfl ?sg1 (gb ?sg2)) ?_
    case sg1 => omega
    case sg2 => omega
    refine JM_step rfl rfl rfl rfl (fun _ => step_load_ptr ty9 Sub.rfl) ?_
    refine JM_step rfl rfl rfl rfl (fun _ => step_move Sub.rfl) ?_
    refine JM_step rfl rfl rfl rfl (fun _ => step_move Sub.rfl) ?_
    refine JM_step rfl rfl rfl rfl (fun _ => step_indexAddr_sl  Tryz.underlying32 ty9 Sub.rfl Sub.rfl rfl (gb ?sg1)) ?_
    case sg1 => exact hlt
    refine JM_step rfl rfl rfl rfl (fun _ => step_load_ptr ty9 Sub.rfl) ?_
    refine JM_step rfl rfl rfl rfl (fun _ => step_geq_str Sub.rfl Sub.rfl) ?_
    refine JM_nil ?_
    refine J_cond Sub.rfl (fun h19 => ?_) (fun h19 => ?_)
    · try simp only [decide_eq_true_eq, decide_eq_false_iff_not, Bool.and_eq_true, Bool.or_eq_true, Bool.and_eq_false_iff, Bool.or_eq_false_iff, Bool.not_eq_true', Bool.not_eq_false', Int.not_lt, Int.not_le, Bool.not_true, Bool.not_false] at h19
      exact absurd (incB_nth hi0 (show i - 1 < i by omega) hlt) h19
    · try simp only [decide_eq_true_eq, decide_eq_false_iff_not, Bool.and_eq_true, Bool.or_eq_true, Bool.and_eq_false_iff, Bool.or_eq_false_iff, Bool.not_eq_true', Bool.not_eq_false', Int.not_lt, Int.not_le, Bool.not_true, Bool.not_false] at h19
      refine J_skip ?_
      refine J_region ?_
      refine JL_step rfl rfl rfl (step_move Sub.rfl) ?_
      refine JL_step rfl rfl rfl (step_add Sub.rfl Sub.rfl ?sg1) ?_
      case sg1 => unfold in64; omega
      refine JL_step rfl rfl rfl (step_assign Sub.rfl) ?_
      refine JL_nil ?_
      refine K_againL (σ := Nat) (s := i) (i + 1) (by first | omega | (dsimp only; omega) | (simp_all; omega)) ⟨by omega, .inl (by omega)⟩ (SubE.upd Sub.rfl (SubE.upd Sub.rfl SubE.any)) (LSub.rfl)
  · try simp only [decide_eq_true_eq, decide_eq_false_iff_not, Bool.and_eq_true, Bool.or_eq_true, Bool.and_eq_false_iff, Bool.or_eq_false_iff, Bool.not_eq_true', Bool.not_eq_false', Int.not_lt, Int.not_le, Bool.not_true, Bool.not_false] at h7
    refine J_exit ?_
    refine J_seq ?_
    refine J_region ?_
    refine JL_step rfl rfl rfl (step_assign Sub.rfl) ?_
    refine JL_nil ?_
    refine J_ret ?_
    exact K_ret1 (t := 2) rfl () Sub.rfl
set_option maxHeartbeats 2000000 in
theorem CommonR_spec (a b : List ByteArray) (ha : incB a) (hb : incB b) (hla : a.length ≤ 1000000000) (hlb : b.length ≤ 1000000000) : Fun1 Tryz.prog 77 [tSl rStr a, tSl rStr b] (tV (.int .i64 (comN a b))) := by
  refine Spec.enter Tryz.func77 rfl rfl fun h0 w0 fr0 => ?_
  have hcab := comN_rng a b
  refine J_seq ?_
  refine J_region ?_
  refine JL_step rfl rfl rfl (step_assign Sub.rfl) ?_
  refine JL_nil ?_
  refine J_seq ?_
  refine J_seq ?_
  refine J_region ?_
  refine JL_step rfl rfl rfl (step_move Sub.rfl) ?_
  refine JL_step rfl rfl rfl (step_call0 (IncR_spec _ ha hla) ⟨Sub.rfl, trivial⟩ Tryz.call117) ?_
  refine JL_step rfl rfl rfl (step_not Sub.rfl) ?_
  refine JL_step rfl rfl rfl (step_move Sub.rfl) ?_
  refine JL_stepG rfl rfl rfl (Gd.plain Sub.rfl) rfl rfl (fun hw => step_move Sub.rfl) ?_
  refine JL_stepG rfl rfl rfl (Gd.plain Sub.rfl) rfl rfl (fun hw => step_call0 (IncR_spec _ hb hlb) ⟨(Sub.w hw), trivial⟩ Tryz.call117) ?_
  refine JL_stepG rfl rfl rfl (Gd.plain Sub.rfl) rfl rfl (fun hw => step_not (Sub.w hw)) ?_
  refine JL_step rfl rfl rfl (step_pick_or Sub.rfl Sub.rfl) ?_
  refine JL_nil ?_
  refine J_cond Sub.rfl (fun h15 => ?_) (fun h15 => ?_)
  · try simp only [decide_eq_true_eq, decide_eq_false_iff_not, Bool.and_eq_true, Bool.or_eq_true, Bool.and_eq_false_iff, Bool.or_eq_false_iff, Bool.not_eq_true', Bool.not_eq_false', Int.not_lt, Int.not_le, Bool.not_true, Bool.not_false] at h15
    exfalso; simp at h15
  · try simp only [decide_eq_true_eq, decide_eq_false_iff_not, Bool.and_eq_true, Bool.or_eq_true, Bool.and_eq_false_iff, Bool.or_eq_false_iff, Bool.not_eq_true', Bool.not_eq_false', Int.not_lt, Int.not_le, Bool.not_true, Bool.not_false] at h15
    refine J_skip ?_
    refine J_seq ?_
    refine J_region ?_
    refine JL_step rfl rfl rfl (step_assign Sub.rfl) ?_
    refine JL_nil ?_
    refine J_seq ?_
    refine J_region ?_
    refine JL_step rfl rfl rfl (step_assign Sub.rfl) ?_
    refine JL_nil ?_
    refine J_seq ?_
    refine J_seq ?_
    refine J_region ?_
    refine JL_step rfl rfl rfl (step_assign Sub.rfl) ?_
    refine JL_nil ?_
    refine J_block ?_
    refine J_loopL (σ := Nat × Nat × Int) (fun ⟨i, k0, n⟩ => i ≤ a.length ∧ k0 ≤ b.length ∧ 0 ≤ n ∧ n + comN (a.drop i) (b.drop k0) = comN a b) (fun ⟨i, k0, n⟩ => upd (upd (upd (upd (upd (upd env0 0 (tSl rStr a)) 1 (tSl rStr b)) 4 (tV (.int .i64 0))) 5 (tV (.int .i64 n))) 6 (tV (.int .i64 k0))) 7 (tV (.int .i64 i))) (fun ⟨i, k0, n⟩ => []) (fun ⟨i, k0, n⟩ => a.length - i) (0, 0, 0) ⟨by omega, by omega, by omega, by simp⟩ (SubE.upd Sub.rfl (SubE.upd Sub.rfl (SubE.upd Sub.rfl (SubE.upd Sub.rfl (SubE.upd Sub.rfl (SubE.upd Sub.rfl SubE.any)))))) (LSub.rfl) ?_
    rintro ⟨i, k0, n⟩ ⟨hi, hk0, hn0, hc⟩
    refine J_seq ?_
    refine J_seq ?_
    refine J_region ?_
    refine JL_step rfl rfl rfl (step_move Sub.rfl) ?_
    refine JL_step rfl rfl rfl (step_move Sub.rfl) ?_
    refine JL_step rfl rfl rfl (step_len_sl Tryz.underlying32 Sub.rfl) ?_
    refine JL_step rfl rfl rfl (step_lss Sub.rfl Sub.rfl) ?_
    refine JL_nil ?_
    refine J_cond Sub.rfl (fun h19 => ?_) (fun h19 => ?_)
    · try simp only [decide_eq_true_eq, decide_eq_false_iff_not, Bool.and_eq_true, Bool.or_eq_true, Bool.and_eq_false_iff, Bool.or_eq_false_iff, Bool.not_eq_true', Bool.not_eq_false', Int.not_lt, Int.not_le, Bool.not_true, Bool.not_false] at h19
      have hlt : i < a.length := by omega
      refine J_skip ?_
      refine J_seq ?_
      refine J_block ?_
      refine J_seq ?_
      refine J_block ?_
      refine J_loopL (σ := Nat) (fun k => k ≤ b.length ∧ n + comN (a.drop i) (b.drop k) = comN a b) (fun k => upd (upd (upd (upd (upd (upd (upd (upd env0 0 (tSl rStr a)) 1 (tSl rStr b)) 4 (tV (.int .i64 0))) 5 (tV (.int .i64 n))) 6 (tV (.int .i64 k))) 7 (tV (.int .i64 i))) 16 (tV (.int .i64 i))) 17 (tSl rStr a)) (fun k => []) (fun k => b.length - k) k0 ⟨by omega, hc⟩ (SubE.upd Sub.rfl (SubE.upd Sub.rfl (SubE.upd Sub.rfl (SubE.upd Sub.rfl (SubE.upd Sub.rfl (SubE.upd Sub.rfl (SubE.upd Sub.rfl (SubE.upd Sub.rfl SubE.any)))))))) (LSub.rfl) ?_
      rintro k ⟨hk, hcc⟩
      refine J_seq ?_
      refine J_seq ?_
      refine J_draw [⟨0, [6], true⟩, ⟨1, [1], true⟩, ⟨2, [23], true⟩, ⟨3, [22, 24], true⟩, ⟨4, [25], true⟩, ⟨5, [1, 26], true⟩, ⟨6, [6, 26], true⟩, ⟨7, [26, 27, 28], true⟩, ⟨8, [26, 29], true⟩, ⟨9, [0, 26], true⟩, ⟨10, [7, 26], true⟩, ⟨11, [26, 31, 32], true⟩, ⟨12, [26, 33], true⟩, ⟨13, [26, 30, 34], true⟩, ⟨14, [26, 35], true⟩] rfl (by kernel_rfl) ?_
      refine JM_step rfl rfl rfl rfl (fun _ => step_move Sub.rfl) ?_
      refine JM_step rfl rfl rfl rfl (fun _ => step_move Sub.rfl) ?_
      refine JM_step rfl rfl rfl rfl (fun _ => step_len_sl Tryz.underlying32 Sub.rfl) ?_
      refine JM_step rfl rfl rfl rfl (fun _ => step_lss Sub.rfl Sub.rfl) ?_
      refine JM_step rfl rfl rfl rfl (fun _ => step_move Sub.rfl) ?_
      refine JM_stepG rfl rfl rfl rfl (Gd.plain Sub.rfl) rfl rfl (fun hw _ => step_move Sub.rfl) ?_
      refine JM_stepG rfl rfl rfl rfl (Gd.plain Sub.rfl) rfl rfl (fun hw _ => step_move Sub.rfl) ?_
      refine JM_stepG rfl rfl rfl rfl (Gd.plain Sub.rfl) rfl rfl (fun hw _ => step_indexAddr_sl  Tryz.underlying32 ty9 (Sub.w hw) (Sub.w hw) rfl (gb ?sg1)) ?_
      case sg1 => have hwq := hw; (try simp only [beqB_t, beqB_f, decide_eq_true_eq, decide_eq_false_iff_not, Bool.and_eq_true, Bool.or_eq_true, Bool.and_eq_false_iff, Bool.or_eq_false_iff, Bool.not_eq_true', Bool.not_eq_false', Int.not_lt, Int.not_le, Bool.not_true, Bool.not_false] at hwq); omega
      refine JM_stepG rfl rfl rfl rfl (Gd.plain Sub.rfl) rfl rfl (fun hw _ => step_load_ptr ty9 (Sub.w hw)) ?_
      refine JM_stepG rfl rfl rfl rfl (Gd.plain Sub.rfl) rfl rfl (fun hw _ => step_move Sub.rfl) ?_
      refine JM_stepG rfl rfl rfl rfl (Gd.plain Sub.rfl) rfl rfl (fun hw _ => step_move Sub.rfl) ?_
      refine JM_stepG rfl rfl rfl rfl (Gd.plain Sub.rfl) rfl rfl (fun hw _ => step_indexAddr_sl  Tryz.underlying32 ty9 (Sub.w hw) (Sub.w hw) rfl (gb ?sg1)) ?_
      case sg1 => have hwq := hw; (try simp only [beqB_t, beqB_f, decide_eq_true_eq, decide_eq_false_iff_not, Bool.and_eq_true, Bool.or_eq_true, Bool.and_eq_false_iff, Bool.or_eq_false_iff, Bool.not_eq_true', Bool.not_eq_false', Int.not_lt, Int.not_le, Bool.not_true, Bool.not_false] at hwq); exact hlt
      refine JM_stepG rfl rfl rfl rfl (Gd.plain Sub.rfl) rfl rfl (fun hw _ => step_load_ptr ty9 (Sub.w hw)) ?_
      refine JM_stepG rfl rfl rfl rfl (Gd.plain Sub.rfl) rfl rfl (fun hw _ => step_lss_strB (Sub.w hw) (Sub.w hw)) ?_
      refine JM_step rfl rfl rfl rfl (fun _ => step_pick_and Sub.rfl Sub.rfl) ?_
      refine JM_nil ?_
      refine J_cond Sub.rfl (fun h36 => ?_) (fun h36 => ?_)
      · try simp only [decide_eq_true_eq, decide_eq_false_iff_not, Bool.and_eq_true, Bool.or_eq_true, Bool.and_eq_false_iff, Bool.or_eq_false_iff, Bool.not_eq_true', Bool.not_eq_false', Int.not_lt, Int.not_le, Bool.not_true, Bool.not_false] at h36
        have hkb : k < b.length := by omega
        refine J_skip ?_
        refine J_block ?_
        refine J_region ?_
        refine JL_step rfl rfl rfl (step_move Sub.rfl) ?_
        refine JL_step rfl rfl rfl (step_add Sub.rfl Sub.rfl ?sg1) ?_
        case sg1 => unfold in64; omega
        refine JL_step rfl rfl rfl (step_assign Sub.rfl) ?_
        refine JL_nil ?_
        refine K_againL (σ := Nat) (s := k) (k + 1) (by first | omega | (dsimp only; omega) | (simp_all; omega)) ⟨by omega, by rw [← com_L1 hlt hkb ha h36.2]; exact hcc⟩ (SubE.upd Sub.rfl (SubE.upd Sub.rfl (SubE.upd Sub.rfl (SubE.upd Sub.rfl (SubE.upd Sub.rfl (SubE.upd Sub.rfl (SubE.upd Sub.rfl (SubE.upd Sub.rfl SubE.any)))))))) (LSub.rfl)
      · try simp only [decide_eq_true_eq, decide_eq_false_iff_not, Bool.and_eq_true, Bool.or_eq_true, Bool.and_eq_false_iff, Bool.or_eq_false_iff, Bool.not_eq_true', Bool.not_eq_false', Int.not_lt, Int.not_le, Bool.not_true, Bool.not_false] at h36
        refine J_exit ?_
        refine J_seq ?_
        refine J_draw [⟨0, [6], true⟩, ⟨1, [1], true⟩, ⟨2, [40], true⟩, ⟨3, [39, 41], true⟩, ⟨4, [42], true⟩, ⟨5, [1, 43], true⟩, ⟨6, [6, 43], true⟩, ⟨7, [43, 44, 45], true⟩, ⟨8, [43, 46], true⟩, ⟨9, [0, 43], true⟩, ⟨10, [7, 43], true⟩, ⟨11, [43, 48, 49], true⟩, ⟨12, [43, 50], true⟩, ⟨13, [43, 47, 51], true⟩, ⟨14, [43, 52], true⟩] rfl (by kernel_rfl) ?_
        refine JM_step rfl rfl rfl rfl (fun _ => step_move Sub.rfl) ?_
        refine JM_step rfl rfl rfl rfl (fun _ => step_move Sub.rfl) ?_
        refine JM_step rfl rfl rfl rfl (fun _ => step_len_sl Tryz.underlying32 Sub.rfl) ?_
        refine JM_step rfl rfl rfl rfl (fun _ => step_lss Sub.rfl Sub.rfl) ?_
        refine JM_step rfl rfl rfl rfl (fun _ => step_move Sub.rfl) ?_
        refine JM_stepG rfl rfl rfl rfl (Gd.plain Sub.rfl) rfl rfl (fun hw _ => step_move Sub.rfl) ?_
        refine JM_stepG rfl rfl rfl rfl (Gd.plain Sub.rfl) rfl rfl (fun hw _ => step_move Sub.rfl) ?_
        refine JM_stepG rfl rfl rfl rfl (Gd.plain Sub.rfl) rfl rfl (fun hw _ => step_indexAddr_sl  Tryz.underlying32 ty9 (Sub.w hw) (Sub.w hw) rfl (gb ?sg1)) ?_
        case sg1 => have hwq := hw; (try simp only [beqB_t, beqB_f, decide_eq_true_eq, decide_eq_false_iff_not, Bool.and_eq_true, Bool.or_eq_true, Bool.and_eq_false_iff, Bool.or_eq_false_iff, Bool.not_eq_true', Bool.not_eq_false', Int.not_lt, Int.not_le, Bool.not_true, Bool.not_false] at hwq); omega
        refine JM_stepG rfl rfl rfl rfl (Gd.plain Sub.rfl) rfl rfl (fun hw _ => step_load_ptr ty9 (Sub.w hw)) ?_
        refine JM_stepG rfl rfl rfl rfl (Gd.plain Sub.rfl) rfl rfl (fun hw _ => step_move Sub.rfl) ?_
        refine JM_stepG rfl rfl rfl rfl (Gd.plain Sub.rfl) rfl rfl (fun hw _ => step_move Sub.rfl) ?_
        refine JM_stepG rfl rfl rfl rfl (Gd.plain Sub.rfl) rfl rfl (fun hw _ => step_indexAddr_sl  Tryz.underlying32 ty9 (Sub.w hw) (Sub.w hw) rfl (gb ?sg1)) ?_
        case sg1 => have hwq := hw; (try simp only [beqB_t, beqB_f, decide_eq_true_eq, decide_eq_false_iff_not, Bool.and_eq_true, Bool.or_eq_true, Bool.and_eq_false_iff, Bool.or_eq_false_iff, Bool.not_eq_true', Bool.not_eq_false', Int.not_lt, Int.not_le, Bool.not_true, Bool.not_false] at hwq); exact hlt
        refine JM_stepG rfl rfl rfl rfl (Gd.plain Sub.rfl) rfl rfl (fun hw _ => step_load_ptr ty9 (Sub.w hw)) ?_
        refine JM_stepG rfl rfl rfl rfl (Gd.plain Sub.rfl) rfl rfl (fun hw _ => step_eql_str (Sub.w hw) (Sub.w hw)) ?_
        refine JM_step rfl rfl rfl rfl (fun _ => step_pick_and Sub.rfl Sub.rfl) ?_
        refine JM_nil ?_
        refine J_cond Sub.rfl (fun h53 => ?_) (fun h53 => ?_)
        · try simp only [decide_eq_true_eq, decide_eq_false_iff_not, Bool.and_eq_true, Bool.or_eq_true, Bool.and_eq_false_iff, Bool.or_eq_false_iff, Bool.not_eq_true', Bool.not_eq_false', Int.not_lt, Int.not_le, Bool.not_true, Bool.not_false] at h53
          have hkb : k < b.length := by omega
          have hc3 := com_L3 hlt hkb h53.2
          have hcr := comN_rng (a.drop (i + 1)) (b.drop k)
          refine J_region ?_
          refine JL_step rfl rfl rfl (step_move Sub.rfl) ?_
          refine JL_step rfl rfl rfl (step_add Sub.rfl Sub.rfl ?sg1) ?_
          case sg1 => unfold in64; omega
          refine JL_step rfl rfl rfl (step_assign Sub.rfl) ?_
          refine JL_nil ?_
          refine J_region ?_
          refine JL_step rfl rfl rfl (step_move Sub.rfl) ?_
          refine JL_step rfl rfl rfl (step_add Sub.rfl Sub.rfl ?sg1) ?_
          case sg1 => unfold in64; omega
          refine JL_step rfl rfl rfl (step_assign Sub.rfl) ?_
          refine JL_nil ?_
          refine K_againL (σ := Nat × Nat × Int) (s := (i, k0, n)) (i + 1, k, n + 1) (by first | omega | (dsimp only; omega) | (simp_all; omega)) ⟨by omega, by omega, by omega, by omega⟩ (SubE.upd Sub.rfl (SubE.upd Sub.rfl (SubE.upd Sub.rfl (SubE.upd Sub.rfl (SubE.upd Sub.rfl (SubE.upd Sub.rfl SubE.any)))))) (LSub.rfl)
        · try simp only [decide_eq_true_eq, decide_eq_false_iff_not, Bool.and_eq_true, Bool.or_eq_true, Bool.and_eq_false_iff, Bool.or_eq_false_iff, Bool.not_eq_true', Bool.not_eq_false', Int.not_lt, Int.not_le, Bool.not_true, Bool.not_false] at h53
          have hc2 := com_L2 (k := k) hlt hb (by rcases h36 with h | h; exact .inl (by omega); exact .inr h) (by rcases h53 with h | h; exact .inl (by omega); exact .inr h)
          refine J_skip ?_
          refine J_region ?_
          refine JL_step rfl rfl rfl (step_move Sub.rfl) ?_
          refine JL_step rfl rfl rfl (step_add Sub.rfl Sub.rfl ?sg1) ?_
          case sg1 => unfold in64; omega
          refine JL_step rfl rfl rfl (step_assign Sub.rfl) ?_
          refine JL_nil ?_
          refine K_againL (σ := Nat × Nat × Int) (s := (i, k0, n)) (i + 1, k, n) (by first | omega | (dsimp only; omega) | (simp_all; omega)) ⟨by omega, by omega, by omega, by omega⟩ (SubE.upd Sub.rfl (SubE.upd Sub.rfl (SubE.upd Sub.rfl (SubE.upd Sub.rfl (SubE.upd Sub.rfl (SubE.upd Sub.rfl SubE.any)))))) (LSub.rfl)
    · try simp only [decide_eq_true_eq, decide_eq_false_iff_not, Bool.and_eq_true, Bool.or_eq_true, Bool.and_eq_false_iff, Bool.or_eq_false_iff, Bool.not_eq_true', Bool.not_eq_false', Int.not_lt, Int.not_le, Bool.not_true, Bool.not_false] at h19
      refine J_exit ?_
      refine J_seq ?_
      refine J_region ?_
      refine JL_step rfl rfl rfl (step_move Sub.rfl) ?_
      refine JL_step rfl rfl rfl (step_assign Sub.rfl) ?_
      refine JL_nil ?_
      refine J_ret ?_
      have h0 : comN (a.drop i) (b.drop k0) = 0 := comN_0 (.inl (List.drop_of_length_le (by omega)))
      refine K_retv (rv := .tmp 4) rfl () (.tmp Sub.rfl) (Sub.int (by omega))
theorem CandR_spec (blocks : List GBlock) (a b : GRecord) (hbn : blocks.length ≤ 1000000) (ha : recOk a) (hb : recOk b) : Fun1 Tryz.prog 47 [tSl rBlock blocks, rRecord.ty a, rRecord.ty b] (tV (.bool (sharesB blocks a b))) := by
  refine Spec.enter Tryz.func47 rfl rfl fun h0 w0 fr0 => ?_
  refine J_seq ?_
  refine J_region ?_
  refine JL_step rfl rfl rfl (step_box (R := rRecord) Sub.rfl) ?_
  refine JL_step rfl rfl rfl (step_box (R := rRecord) Sub.rfl) ?_
  refine JL_step rfl rfl rfl (step_assign Sub.rfl) ?_
  refine JL_nil ?_
  refine J_seq ?_
  refine J_seq ?_
  refine J_region ?_
  refine JL_step rfl rfl rfl (step_fieldAddr so28 Sub.rfl rfl) ?_
  refine JL_step rfl rfl rfl (step_load_ptr ty3 Sub.rfl) ?_
  refine JL_step rfl rfl rfl (step_fieldAddr so28 Sub.rfl rfl) ?_
  refine JL_step rfl rfl rfl (step_load_ptr ty3 Sub.rfl) ?_
  refine JL_step rfl rfl rfl (step_neq Sub.rfl Sub.rfl) ?_
  refine JL_nil ?_
  refine J_cond Sub.rfl (fun h12 => ?_) (fun h12 => ?_)
  · try simp only [decide_eq_true_eq, decide_eq_false_iff_not, Bool.and_eq_true, Bool.or_eq_true, Bool.and_eq_false_iff, Bool.or_eq_false_iff, Bool.not_eq_true', Bool.not_eq_false', Int.not_lt, Int.not_le, Bool.not_true, Bool.not_false] at h12
    refine J_seq ?_
    refine J_region ?_
    refine JL_step rfl rfl rfl (step_assign Sub.rfl) ?_
    refine JL_nil ?_
    refine J_ret ?_
    refine K_retv (rv := .tmp 6) rfl () (.tmp Sub.rfl) (Sub.bool ?_)
    exact (cand_tab h12).symm
  · try simp only [decide_eq_true_eq, decide_eq_false_iff_not, Bool.and_eq_true, Bool.or_eq_true, Bool.and_eq_false_iff, Bool.or_eq_false_iff, Bool.not_eq_true', Bool.not_eq_false', Int.not_lt, Int.not_le, Bool.not_true, Bool.not_false] at h12
    refine J_skip ?_
    refine J_seq ?_
    refine J_seq ?_
    refine J_region ?_
    refine JL_step rfl rfl rfl (step_assign Sub.rfl) ?_
    refine JL_nil ?_
    refine J_block ?_
    refine J_loopL (σ := Nat) (fun i => i ≤ blocks.length ∧ ∀ k, k < i → ¬ com (keysM (nth blocks k) a) (keysM (nth blocks k) b)) (fun i => upd (upd (upd (upd env0 0 (tSl rBlock blocks)) 4 (tPtr rRecord a)) 5 (tPtr rRecord b)) 7 (tV (.int .i64 i))) (fun i => []) (fun i => blocks.length - i) 0 ⟨by omega, fun k hk => absurd hk (by omega)⟩ (SubE.upd Sub.rfl (SubE.upd Sub.rfl (SubE.upd Sub.rfl (SubE.upd Sub.rfl SubE.any)))) (LSub.rfl) ?_
    rintro i ⟨hi, hv⟩
    refine J_seq ?_
    refine J_seq ?_
    refine J_region ?_
    refine JL_step rfl rfl rfl (step_move Sub.rfl) ?_
    refine JL_step rfl rfl rfl (step_move Sub.rfl) ?_
    refine JL_step rfl rfl rfl (step_len_sl Tryz.underlying22 Sub.rfl) ?_
    refine JL_step rfl rfl rfl (step_lss Sub.rfl Sub.rfl) ?_
    refine JL_nil ?_
    refine J_cond Sub.rfl (fun h16 => ?_) (fun h16 => ?_)
    · try simp only [decide_eq_true_eq, decide_eq_false_iff_not, Bool.and_eq_true, Bool.or_eq_true, Bool.and_eq_false_iff, Bool.or_eq_false_iff, Bool.not_eq_true', Bool.not_eq_false', Int.not_lt, Int.not_le, Bool.not_true, Bool.not_false] at h16
      have hlt : i < blocks.length := by omega
      have hka := keys_len (b := (nth blocks i)) ha
      have hkb := keys_len (b := (nth blocks i)) hb
      refine J_skip ?_
      refine J_seq ?_
      refine J_block ?_
      refine J_seq ?_
      refine J_draw [⟨0, [0], true⟩, ⟨1, [7], true⟩, ⟨2, [19, 20], true⟩, ⟨3, [21], true⟩, ⟨4, [4], true⟩, ⟨5, [22, 23], true⟩, ⟨6, [0], true⟩, ⟨7, [7], true⟩, ⟨8, [25, 26], true⟩, ⟨9, [27], true⟩, ⟨10, [5], true⟩, ⟨11, [28, 29], true⟩, ⟨12, [24, 30], true⟩, ⟨13, [31], true⟩] rfl (by kernel_rfl) ?_
      refine JM_step rfl rfl rfl rfl (fun _ => step_move Sub.rfl) ?_
      refine JM_step rfl rfl rfl rfl (fun _ => step_move Sub.rfl) ?_
      refine JM_step rfl rfl rfl rfl (fun _ => step_indexAddr_sl  Tryz.underlying22 ty35 Sub.rfl Sub.rfl rfl (gb ?sg1)) ?_
      case sg1 => exact hlt
      refine JM_step rfl rfl rfl rfl (fun _ => step_load_ptr ty35 Sub.rfl) ?_
      refine JM_step rfl rfl rfl rfl (fun _ => step_load_ptr ty28 Sub.rfl) ?_
      refine JM_step rfl rfl rfl rfl (fun _ => step_call0 (KeysR_spec _ _ ha) ⟨Sub.rfl, Sub.rfl, trivial⟩ Tryz.call14) ?_
      refine JM_step rfl rfl rfl rfl (fun _ => step_move Sub.rfl) ?_
      refine JM_step rfl rfl rfl rfl (fun _ => step_move Sub.rfl) ?_
      refine JM_step rfl rfl rfl rfl (fun _ => step_indexAddr_sl  Tryz.underlying22 ty35 Sub.rfl Sub.rfl rfl (gb ?sg1)) ?_
      case sg1 => exact hlt
      refine JM_step rfl rfl rfl rfl (fun _ => step_load_ptr ty35 Sub.rfl) ?_
      refine JM_step rfl rfl rfl rfl (fun _ => step_load_ptr ty28 Sub.rfl) ?_
      refine JM_step rfl rfl rfl rfl (fun _ => step_call0 (KeysR_spec _ _ hb) ⟨Sub.rfl, Sub.rfl, trivial⟩ Tryz.call14) ?_
      refine JM_step rfl rfl rfl rfl (fun _ => step_call0 (CommonR_spec (keysM (nth blocks i) a) (keysM (nth blocks i) b) (keys_inc _ _) (keys_inc _ _) (by omega) (by omega)) ⟨Sub.rfl, Sub.rfl, trivial⟩ Tryz.call77) ?_
      refine JM_step rfl rfl rfl rfl (fun _ => step_gtr Sub.rfl Sub.rfl) ?_
      refine JM_nil ?_
      refine J_cond Sub.rfl (fun h32 => ?_) (fun h32 => ?_)
      · try simp only [decide_eq_true_eq, decide_eq_false_iff_not, Bool.and_eq_true, Bool.or_eq_true, Bool.and_eq_false_iff, Bool.or_eq_false_iff, Bool.not_eq_true', Bool.not_eq_false', Int.not_lt, Int.not_le, Bool.not_true, Bool.not_false] at h32
        refine J_seq ?_
        refine J_region ?_
        refine JL_step rfl rfl rfl (step_assign Sub.rfl) ?_
        refine JL_nil ?_
        refine J_ret ?_
        refine K_retv (rv := .tmp 6) rfl () (.tmp Sub.rfl) (Sub.bool ?_)
        exact (cand_t (show a.Table = b.Table by omega) hlt (comN_pos.1 h32)).symm
      · try simp only [decide_eq_true_eq, decide_eq_false_iff_not, Bool.and_eq_true, Bool.or_eq_true, Bool.and_eq_false_iff, Bool.or_eq_false_iff, Bool.not_eq_true', Bool.not_eq_false', Int.not_lt, Int.not_le, Bool.not_true, Bool.not_false] at h32
        refine J_skip ?_
        refine J_region ?_
        refine JL_step rfl rfl rfl (step_move Sub.rfl) ?_
        refine JL_step rfl rfl rfl (step_add Sub.rfl Sub.rfl ?sg1) ?_
        case sg1 => unfold in64; omega
        refine JL_step rfl rfl rfl (step_assign Sub.rfl) ?_
        refine JL_nil ?_
        refine K_againL (σ := Nat) (s := i) (i + 1) (by first | omega | (dsimp only; omega) | (simp_all; omega)) (pred_again (p := fun z => ¬ com (keysM z a) (keysM z b)) hlt hv (fun q => by have := comN_pos.2 q; omega)) (SubE.upd Sub.rfl (SubE.upd Sub.rfl (SubE.upd Sub.rfl (SubE.upd Sub.rfl SubE.any)))) (LSub.rfl)
    · try simp only [decide_eq_true_eq, decide_eq_false_iff_not, Bool.and_eq_true, Bool.or_eq_true, Bool.and_eq_false_iff, Bool.or_eq_false_iff, Bool.not_eq_true', Bool.not_eq_false', Int.not_lt, Int.not_le, Bool.not_true, Bool.not_false] at h16
      refine J_exit ?_
      refine J_seq ?_
      refine J_region ?_
      refine JL_step rfl rfl rfl (step_assign Sub.rfl) ?_
      refine JL_nil ?_
      refine J_ret ?_
      refine K_retv (rv := .tmp 6) rfl () (.tmp Sub.rfl) (Sub.bool ?_)
      exact (cand_f (fun k hk => hv k (by omega))).symm
end Lg

namespace Lg
open Go Go.Proofs


theorem prefP_0 {blocks : List GBlock} {recs : List GRecord} (i : Nat) : prefP blocks recs i (i + 1) = prefN blocks recs i := by
  unfold prefP; rw [rowN_le (by omega), List.append_nil]
theorem prefP_t {blocks : List GBlock} {recs : List GRecord} {i k : Nat} (h : i < k) (hs : sharesB blocks (nth recs i) (nth recs k) = true) : prefP blocks recs i (k + 1) = prefP blocks recs i k ++ [((i : Int), (k : Int))] := by
  unfold prefP; rw [rowN_t h hs, List.append_assoc]
theorem prefP_f {blocks : List GBlock} {recs : List GRecord} {i k : Nat} (hs : sharesB blocks (nth recs i) (nth recs k) = false) : prefP blocks recs i (k + 1) = prefP blocks recs i k := by
  unfold prefP; rw [rowN_f hs]
theorem prefP_all {blocks : List GBlock} {recs : List GRecord} (i : Nat) : prefP blocks recs i recs.length = prefN blocks recs (i + 1) := (prefN_succ i).symm

set_option maxHeartbeats 1000000 in
theorem PairsR_spec (blocks : List GBlock) (records : List GRecord) (hbn : blocks.length ≤ 1000000) (hrs : ∀ x ∈ records, recOk x) (hl : records.length ≤ 100) : Fun1 Tryz.prog 16 [tSl rBlock blocks, tSl rRecord records] (tTup [tSl rA2 (pairsM blocks records), tV (.int .i64 0)]) := by
  refine Spec.enter Tryz.func16 rfl rfl fun h0 w0 fr0 => ?_
  have hpl : (pairsM blocks records).length ≤ 10000 := by have h1 := pairs_len (blocks := blocks) (recs := records); have h2 : records.length * records.length ≤ 100 * 100 := Nat.mul_le_mul hl hl; omega
  refine J_seq ?_
  refine J_region ?_
  refine JL_step rfl rfl rfl (step_assign Sub.rfl) ?_
  refine JL_step rfl rfl rfl (step_assign Sub.rfl) ?_
  refine JL_nil ?_
  refine J_seq ?_
  refine J_seq ?_
  refine J_region ?_
  refine JL_step rfl rfl rfl (step_move Sub.rfl) ?_
  refine JL_step rfl rfl rfl (step_len_sl Tryz.underlying23 Sub.rfl) ?_
  refine JL_step rfl rfl rfl (step_gtr Sub.rfl Sub.rfl) ?_
  refine JL_nil ?_
  refine J_cond Sub.rfl (fun h11 => ?_) (fun h11 => ?_)
  · try simp only [decide_eq_true_eq, decide_eq_false_iff_not, Bool.and_eq_true, Bool.or_eq_true, Bool.and_eq_false_iff, Bool.or_eq_false_iff, Bool.not_eq_true', Bool.not_eq_false', Int.not_lt, Int.not_le, Bool.not_true, Bool.not_false] at h11
    exact absurd h11 (by omega)
  · try simp only [decide_eq_true_eq, decide_eq_false_iff_not, Bool.and_eq_true, Bool.or_eq_true, Bool.and_eq_false_iff, Bool.or_eq_false_iff, Bool.not_eq_true', Bool.not_eq_false', Int.not_lt, Int.not_le, Bool.not_true, Bool.not_false] at h11
    refine J_skip ?_
    refine J_seq ?_
    refine J_region ?_
    refine JL_step rfl rfl rfl (step_assign Sub.rfl) ?_
    refine JL_nil ?_
    refine J_seq ?_
    refine J_seq ?_
    refine J_region ?_
    refine JL_step rfl rfl rfl (step_assign Sub.rfl) ?_
    refine JL_nil ?_
    refine J_block ?_
    refine J_loopL (σ := Nat × Value) (fun ⟨i, v⟩ => i ≤ records.length) (fun ⟨i, v⟩ => upd (upd (upd (upd env0 0 (tSl rBlock blocks)) 1 (tSl rRecord records)) 6 (rV.ty v)) 7 (tV (.int .i64 i))) (fun ⟨i, v⟩ => [own 52 rA2 v (prefN blocks records i)]) (fun ⟨i, v⟩ => records.length - i) (0, .slice none 0 0) (by omega) (SubE.upd Sub.rfl (SubE.upd (Sub.rV rfl) (SubE.upd Sub.rfl (SubE.upd Sub.rfl SubE.any)))) (LSub.nilown) ?_
    rintro ⟨i, v⟩ hi
    try dsimp only at hi
    refine J_seq ?_
    refine J_seq ?_
    refine J_region ?_
    refine JL_step rfl rfl rfl (step_move Sub.rfl) ?_
    refine JL_step rfl rfl rfl (step_move Sub.rfl) ?_
    refine JL_step rfl rfl rfl (step_len_sl Tryz.underlying23 Sub.rfl) ?_
    refine JL_step rfl rfl rfl (step_lss Sub.rfl Sub.rfl) ?_
    refine JL_nil ?_
    refine J_cond Sub.rfl (fun h15 => ?_) (fun h15 => ?_)
    · try simp only [decide_eq_true_eq, decide_eq_false_iff_not, Bool.and_eq_true, Bool.or_eq_true, Bool.and_eq_false_iff, Bool.or_eq_false_iff, Bool.not_eq_true', Bool.not_eq_false', Int.not_lt, Int.not_le, Bool.not_true, Bool.not_false] at h15
      have hlt : i < records.length := by omega
      have hri := hrs _ (nth_mem hlt)
      refine J_skip ?_
      refine J_seq ?_
      refine J_block ?_
      refine J_seq ?_
      refine J_region ?_
      refine JL_step rfl rfl rfl (step_move Sub.rfl) ?_
      refine JL_step rfl rfl rfl (step_add Sub.rfl Sub.rfl ?sg1) ?_
      case sg1 => unfold in64; omega
      refine JL_step rfl rfl rfl (step_assign Sub.rfl) ?_
      refine JL_nil ?_
      refine J_block ?_
      refine J_loopL (σ := Nat × Value) (fun ⟨k, u⟩ => i < k ∧ k ≤ records.length) (fun ⟨k, u⟩ => upd (upd (upd (upd (upd (upd (upd (upd env0 0 (tSl rBlock blocks)) 1 (tSl rRecord records)) 6 (rV.ty u)) 7 (tV (.int .i64 i))) 8 (tV (.int .i64 k))) 12 (tV (.int .i64 i))) 13 (tSl rRecord records)) 18 (tV (.int .i64 i))) (fun ⟨k, u⟩ => [own 52 rA2 u (prefP blocks records i k)]) (fun ⟨k, u⟩ => records.length - k) (i + 1, v) ⟨by omega, by omega⟩ (SubE.upd Sub.rfl (SubE.upd Sub.rfl (SubE.upd Sub.rfl (SubE.upd Sub.rfl (SubE.upd Sub.rfl (SubE.upd Sub.rfl (SubE.upd Sub.rfl (SubE.upd Sub.rfl SubE.any)))))))) (LSub.cons (by first | exact Sel.take (Sel.none _) | exact Sel.skip (Sel.take (Sel.none _)) | exact Sel.skip (Sel.skip (Sel.take (Sel.none _))) | exact Sel.skip (Sel.skip (Sel.skip (Sel.take (Sel.none _)))) | exact Sel.skip (Sel.skip (Sel.skip (Sel.skip (Sel.take (Sel.none _)))))) (own_eq (prefP_0 i).symm) (LSub.nil)) ?_
      rintro ⟨k, u⟩ ⟨hk1, hk2⟩
      refine J_seq ?_
      refine J_seq ?_
      refine J_region ?_
      refine JL_step rfl rfl rfl (step_move Sub.rfl) ?_
      refine JL_step rfl rfl rfl (step_move Sub.rfl) ?_
      refine JL_step rfl rfl rfl (step_len_sl Tryz.underlying23 Sub.rfl) ?_
      refine JL_step rfl rfl rfl (step_lss Sub.rfl Sub.rfl) ?_
      refine JL_nil ?_
      refine J_cond Sub.rfl (fun h23 => ?_) (fun h23 => ?_)
      · try simp only [decide_eq_true_eq, decide_eq_false_iff_not, Bool.and_eq_true, Bool.or_eq_true, Bool.and_eq_false_iff, Bool.or_eq_false_iff, Bool.not_eq_true', Bool.not_eq_false', Int.not_lt, Int.not_le, Bool.not_true, Bool.not_false] at h23
        have hlk : k < records.length := by omega
        have hrk := hrs _ (nth_mem hlk)
        refine J_skip ?_
        refine J_seq ?_
        refine J_block ?_
        refine J_seq ?_
        refine J_draw [⟨0, [0], true⟩, ⟨1, [1], true⟩, ⟨2, [7], true⟩, ⟨3, [27, 28], true⟩, ⟨4, [29], true⟩, ⟨5, [1], true⟩, ⟨6, [8], true⟩, ⟨7, [31, 32], true⟩, ⟨8, [33], true⟩, ⟨9, [26, 30, 34], true⟩] rfl (by kernel_rfl) ?_
        refine JM_step rfl rfl rfl rfl (fun _ => step_move Sub.rfl) ?_
        refine JM_step rfl rfl rfl rfl (fun _ => step_move Sub.rfl) ?_
        refine JM_step rfl rfl rfl rfl (fun _ => step_move Sub.rfl) ?_
        refine JM_step rfl rfl rfl rfl (fun _ => step_indexAddr_sl  Tryz.underlying23 ty28 Sub.rfl Sub.rfl rfl (gb ?sg1)) ?_
        case sg1 => exact hlt
        refine JM_step rfl rfl rfl rfl (fun _ => step_load_ptr ty28 Sub.rfl) ?_
        refine JM_step rfl rfl rfl rfl (fun _ => step_move Sub.rfl) ?_
        refine JM_step rfl rfl rfl rfl (fun _ => step_move Sub.rfl) ?_
        refine JM_step rfl rfl rfl rfl (fun _ => step_indexAddr_sl  Tryz.underlying23 ty28 Sub.rfl Sub.rfl rfl (gb ?sg1)) ?_
        case sg1 => exact hlk
        refine JM_step rfl rfl rfl rfl (fun _ => step_load_ptr ty28 Sub.rfl) ?_
        refine JM_step rfl rfl rfl rfl (fun _ => step_call0 (CandR_spec _ _ _ hbn hri hrk) ⟨Sub.rfl, Sub.rfl, Sub.rfl, trivial⟩ Tryz.call47) ?_
        refine JM_nil ?_
        refine J_cond Sub.rfl (fun h35 => ?_) (fun h35 => ?_)
        · try simp only [decide_eq_true_eq, decide_eq_false_iff_not, Bool.and_eq_true, Bool.or_eq_true, Bool.and_eq_false_iff, Bool.or_eq_false_iff, Bool.not_eq_true', Bool.not_eq_false', Int.not_lt, Int.not_le, Bool.not_true, Bool.not_false] at h35
          have hpa := (pairs_at hlk hk1 h35).1
          refine J_seq ?_
          refine J_seq ?_
          refine J_region ?_
          refine JL_step rfl rfl rfl (step_move Sub.rfl) ?_
          refine JL_step rfl rfl rfl (step_len_own Tryz.underlying36 Sub.rfl (by first | exact Sel.take (Sel.none _) | exact Sel.skip (Sel.take (Sel.none _)) | exact Sel.skip (Sel.skip (Sel.take (Sel.none _))) | exact Sel.skip (Sel.skip (Sel.skip (Sel.take (Sel.none _)))) | exact Sel.skip (Sel.skip (Sel.skip (Sel.skip (Sel.take (Sel.none _))))))) ?_
          refine JL_step rfl rfl rfl (step_eql Sub.rfl Sub.rfl) ?_
          refine JL_nil ?_
          refine J_cond Sub.rfl (fun h38 => ?_) (fun h38 => ?_)
          · try simp only [decide_eq_true_eq, decide_eq_false_iff_not, Bool.and_eq_true, Bool.or_eq_true, Bool.and_eq_false_iff, Bool.or_eq_false_iff, Bool.not_eq_true', Bool.not_eq_false', Int.not_lt, Int.not_le, Bool.not_true, Bool.not_false] at h38
            exact absurd h38 (by omega)
          · try simp only [decide_eq_true_eq, decide_eq_false_iff_not, Bool.and_eq_true, Bool.or_eq_true, Bool.and_eq_false_iff, Bool.or_eq_false_iff, Bool.not_eq_true', Bool.not_eq_false', Int.not_lt, Int.not_le, Bool.not_true, Bool.not_false] at h38
            refine J_skip ?_
            refine J_region ?_
            refine JL_step rfl rfl rfl (step_move Sub.rfl) ?_
            refine JL_step rfl rfl rfl (step_move Sub.rfl) ?_
            refine JL_step rfl rfl rfl (step_move Sub.rfl) ?_
            refine JL_step rfl rfl rfl (step_build_pair Sub.rfl Sub.rfl) ?_
            refine JL_step rfl rfl rfl (step_literal (ys := [_]) Tryz.underlying36 el52 ⟨rfl, Sub.rfl, trivial⟩ rfl (by decide)) ?_
            refine JL_stepX rfl rfl rfl (step_append Tryz.underlying36 el52 Sub.rfl Sub.rfl (by first | exact Sel.take (Sel.none _) | exact Sel.skip (Sel.take (Sel.none _)) | exact Sel.skip (Sel.skip (Sel.take (Sel.none _))) | exact Sel.skip (Sel.skip (Sel.skip (Sel.take (Sel.none _)))) | exact Sel.skip (Sel.skip (Sel.skip (Sel.skip (Sel.take (Sel.none _)))))) (by simp; omega) (by simp; omega)) fun v44 => ?_
            refine JL_step rfl rfl rfl (step_assign Sub.rfl) ?_
            refine JL_nil ?_
            refine J_region ?_
            refine JL_step rfl rfl rfl (step_move Sub.rfl) ?_
            refine JL_step rfl rfl rfl (step_add Sub.rfl Sub.rfl ?sg1) ?_
            case sg1 => unfold in64; omega
            refine JL_step rfl rfl rfl (step_assign Sub.rfl) ?_
            refine JL_nil ?_
            refine K_againL (σ := Nat × Value) (s := (k, u)) (k + 1, v44) (by first | omega | (dsimp only; omega) | (simp_all; omega)) ⟨by omega, by omega⟩ (SubE.upd Sub.rfl (SubE.upd Sub.rfl (SubE.upd Sub.rfl (SubE.upd Sub.rfl (SubE.upd Sub.rfl (SubE.upd Sub.rfl (SubE.upd Sub.rfl (SubE.upd Sub.rfl SubE.any)))))))) (LSub.cons (by first | exact Sel.take (Sel.none _) | exact Sel.skip (Sel.take (Sel.none _)) | exact Sel.skip (Sel.skip (Sel.take (Sel.none _))) | exact Sel.skip (Sel.skip (Sel.skip (Sel.take (Sel.none _)))) | exact Sel.skip (Sel.skip (Sel.skip (Sel.skip (Sel.take (Sel.none _)))))) (own_eq (by rw [prefP_t hk1 h35])) (LSub.nil))
        · try simp only [decide_eq_true_eq, decide_eq_false_iff_not, Bool.and_eq_true, Bool.or_eq_true, Bool.and_eq_false_iff, Bool.or_eq_false_iff, Bool.not_eq_true', Bool.not_eq_false', Int.not_lt, Int.not_le, Bool.not_true, Bool.not_false] at h35
          refine J_skip ?_
          refine J_region ?_
          refine JL_step rfl rfl rfl (step_move Sub.rfl) ?_
          refine JL_step rfl rfl rfl (step_add Sub.rfl Sub.rfl ?sg1) ?_
          case sg1 => unfold in64; omega
          refine JL_step rfl rfl rfl (step_assign Sub.rfl) ?_
          refine JL_nil ?_
          refine K_againL (σ := Nat × Value) (s := (k, u)) (k + 1, u) (by first | omega | (dsimp only; omega) | (simp_all; omega)) ⟨by omega, by omega⟩ (SubE.upd Sub.rfl (SubE.upd Sub.rfl (SubE.upd Sub.rfl (SubE.upd Sub.rfl (SubE.upd Sub.rfl (SubE.upd Sub.rfl (SubE.upd Sub.rfl (SubE.upd Sub.rfl SubE.any)))))))) (LSub.cons (by first | exact Sel.take (Sel.none _) | exact Sel.skip (Sel.take (Sel.none _)) | exact Sel.skip (Sel.skip (Sel.take (Sel.none _))) | exact Sel.skip (Sel.skip (Sel.skip (Sel.take (Sel.none _)))) | exact Sel.skip (Sel.skip (Sel.skip (Sel.skip (Sel.take (Sel.none _)))))) (own_eq (prefP_f (by simpa using h35)).symm) (LSub.nil))
      · try simp only [decide_eq_true_eq, decide_eq_false_iff_not, Bool.and_eq_true, Bool.or_eq_true, Bool.and_eq_false_iff, Bool.or_eq_false_iff, Bool.not_eq_true', Bool.not_eq_false', Int.not_lt, Int.not_le, Bool.not_true, Bool.not_false] at h23
        obtain rfl : k = records.length := by omega
        refine J_exit ?_
        refine J_region ?_
        refine JL_step rfl rfl rfl (step_move Sub.rfl) ?_
        refine JL_step rfl rfl rfl (step_add Sub.rfl Sub.rfl ?sg1) ?_
        case sg1 => unfold in64; omega
        refine JL_step rfl rfl rfl (step_assign Sub.rfl) ?_
        refine JL_nil ?_
        refine K_againL (σ := Nat × Value) (s := (i, v)) (i + 1, u) (by first | omega | (dsimp only; omega) | (simp_all; omega)) (by omega) (SubE.upd Sub.rfl (SubE.upd Sub.rfl (SubE.upd Sub.rfl (SubE.upd Sub.rfl SubE.any)))) (LSub.cons (by first | exact Sel.take (Sel.none _) | exact Sel.skip (Sel.take (Sel.none _)) | exact Sel.skip (Sel.skip (Sel.take (Sel.none _))) | exact Sel.skip (Sel.skip (Sel.skip (Sel.take (Sel.none _)))) | exact Sel.skip (Sel.skip (Sel.skip (Sel.skip (Sel.take (Sel.none _)))))) (own_eq (prefP_all i)) (LSub.nil))
    · try simp only [decide_eq_true_eq, decide_eq_false_iff_not, Bool.and_eq_true, Bool.or_eq_true, Bool.and_eq_false_iff, Bool.or_eq_false_iff, Bool.not_eq_true', Bool.not_eq_false', Int.not_lt, Int.not_le, Bool.not_true, Bool.not_false] at h15
      obtain rfl : i = records.length := by omega
      refine J_exit ?_
      refine J_seq ?_
      refine J_region ?_
      refine JL_step rfl rfl rfl (step_move Sub.rfl) ?_
      refine JL_step rfl rfl rfl (step_assign Sub.rfl) ?_
      refine JL_step rfl rfl rfl (step_assign Sub.rfl) ?_
      refine JL_nil ?_
      refine J_ret ?_
      refine K_ret2' (rv := .tmp 4) (rv' := .tmp 5) rfl () (Sel.all _) (.tmp Sub.rfl) (.tmp Sub.rfl) (Frz.own' (prefN_all)) (Frz.sub Sub.rfl) Sub.rfl
set_option maxHeartbeats 1000000 in
theorem NearR_spec (blocks : List GBlock) (records : List GRecord) (r : GRecord) (hbn : blocks.length ≤ 1000000) (hr : recOk r) (hrs : ∀ x ∈ records, recOk x) (hl : records.length ≤ 2000) : Fun1 Tryz.prog 18 [tSl rBlock blocks, tSl rRecord records, rRecord.ty r] (tTup [tSl rInt (nearM blocks records r), tV (.int .i64 0)]) := by
  refine Spec.enter Tryz.func18 rfl rfl fun h0 w0 fr0 => ?_
  refine J_seq ?_
  refine J_region ?_
  refine JL_step rfl rfl rfl (step_box (R := rRecord) Sub.rfl) ?_
  refine JL_step rfl rfl rfl (step_assign Sub.rfl) ?_
  refine JL_step rfl rfl rfl (step_assign Sub.rfl) ?_
  refine JL_nil ?_
  refine J_seq ?_
  refine J_seq ?_
  refine J_region ?_
  refine JL_step rfl rfl rfl (step_move Sub.rfl) ?_
  refine JL_step rfl rfl rfl (step_len_sl Tryz.underlying23 Sub.rfl) ?_
  refine JL_step rfl rfl rfl (step_gtr Sub.rfl Sub.rfl) ?_
  refine JL_nil ?_
  refine J_cond Sub.rfl (fun h12 => ?_) (fun h12 => ?_)
  · try simp only [decide_eq_true_eq, decide_eq_false_iff_not, Bool.and_eq_true, Bool.or_eq_true, Bool.and_eq_false_iff, Bool.or_eq_false_iff, Bool.not_eq_true', Bool.not_eq_false', Int.not_lt, Int.not_le, Bool.not_true, Bool.not_false] at h12
    exact absurd h12 (by omega)
  · try simp only [decide_eq_true_eq, decide_eq_false_iff_not, Bool.and_eq_true, Bool.or_eq_true, Bool.and_eq_false_iff, Bool.or_eq_false_iff, Bool.not_eq_true', Bool.not_eq_false', Int.not_lt, Int.not_le, Bool.not_true, Bool.not_false] at h12
    refine J_skip ?_
    refine J_seq ?_
    refine J_region ?_
    refine JL_step rfl rfl rfl (step_assign Sub.rfl) ?_
    refine JL_nil ?_
    refine J_seq ?_
    refine J_seq ?_
    refine J_region ?_
    refine JL_step rfl rfl rfl (step_assign Sub.rfl) ?_
    refine JL_nil ?_
    refine J_block ?_
    refine J_loopL (σ := Nat × Value) (fun ⟨i, v⟩ => i ≤ records.length) (fun ⟨i, v⟩ => upd (upd (upd (upd (upd (upd (upd env0 0 (tSl rBlock blocks)) 1 (tSl rRecord records)) 5 (tPtr rRecord r)) 6 (tV (.slice none 0 0))) 7 (tV (.int .i64 0))) 8 (rV.ty v)) 9 (tV (.int .i64 i))) (fun ⟨i, v⟩ => [own 3 rInt v (nearN blocks records r i)]) (fun ⟨i, v⟩ => records.length - i) (0, .slice none 0 0) (by omega) (SubE.upd Sub.rfl (SubE.upd (Sub.rV rfl) (SubE.upd Sub.rfl (SubE.upd Sub.rfl (SubE.upd Sub.rfl (SubE.upd Sub.rfl (SubE.upd Sub.rfl SubE.any))))))) (LSub.nilown) ?_
    rintro ⟨i, v⟩ hi
    try dsimp only at hi
    refine J_seq ?_
    refine J_seq ?_
    refine J_region ?_
    refine JL_step rfl rfl rfl (step_move Sub.rfl) ?_
    refine JL_step rfl rfl rfl (step_move Sub.rfl) ?_
    refine JL_step rfl rfl rfl (step_len_sl Tryz.underlying23 Sub.rfl) ?_
    refine JL_step rfl rfl rfl (step_lss Sub.rfl Sub.rfl) ?_
    refine JL_nil ?_
    refine J_cond Sub.rfl (fun h16 => ?_) (fun h16 => ?_)
    · try simp only [decide_eq_true_eq, decide_eq_false_iff_not, Bool.and_eq_true, Bool.or_eq_true, Bool.and_eq_false_iff, Bool.or_eq_false_iff, Bool.not_eq_true', Bool.not_eq_false', Int.not_lt, Int.not_le, Bool.not_true, Bool.not_false] at h16
      have hlt : i < records.length := by omega
      have hri := hrs _ (nth_mem hlt)
      have hnl := nearN_len blocks records r i
      refine J_skip ?_
      refine J_seq ?_
      refine J_block ?_
      refine J_seq ?_
      refine J_draw [⟨0, [0], true⟩, ⟨1, [1], true⟩, ⟨2, [9], true⟩, ⟨3, [20, 21], true⟩, ⟨4, [22], true⟩, ⟨5, [5], true⟩, ⟨6, [19, 23, 24], true⟩] rfl (by kernel_rfl) ?_
      refine JM_step rfl rfl rfl rfl (fun _ => step_move Sub.rfl) ?_
      refine JM_step rfl rfl rfl rfl (fun _ => step_move Sub.rfl) ?_
      refine JM_step rfl rfl rfl rfl (fun _ => step_move Sub.rfl) ?_
      refine JM_step rfl rfl rfl rfl (fun _ => step_indexAddr_sl  Tryz.underlying23 ty28 Sub.rfl Sub.rfl rfl (gb ?sg1)) ?_
      case sg1 => exact hlt
      refine JM_step rfl rfl rfl rfl (fun _ => step_load_ptr ty28 Sub.rfl) ?_
      refine JM_step rfl rfl rfl rfl (fun _ => step_load_ptr ty28 Sub.rfl) ?_
      refine JM_step rfl rfl rfl rfl (fun _ => step_call0 (CandR_spec _ _ _ hbn hri hr) ⟨Sub.rfl, Sub.rfl, Sub.rfl, trivial⟩ Tryz.call47) ?_
      refine JM_nil ?_
      refine J_cond Sub.rfl (fun h25 => ?_) (fun h25 => ?_)
      · try simp only [decide_eq_true_eq, decide_eq_false_iff_not, Bool.and_eq_true, Bool.or_eq_true, Bool.and_eq_false_iff, Bool.or_eq_false_iff, Bool.not_eq_true', Bool.not_eq_false', Int.not_lt, Int.not_le, Bool.not_true, Bool.not_false] at h25
        refine J_region ?_
        refine JL_step rfl rfl rfl (step_move Sub.rfl) ?_
        refine JL_step rfl rfl rfl (step_move Sub.rfl) ?_
        refine JL_step rfl rfl rfl (step_literal (ys := [_]) Tryz.underlying40 el3 ⟨rfl, Sub.rfl, trivial⟩ rfl (by decide)) ?_
        refine JL_stepX rfl rfl rfl (step_append Tryz.underlying40 el3 Sub.rfl Sub.rfl (by first | exact Sel.take (Sel.none _) | exact Sel.skip (Sel.take (Sel.none _)) | exact Sel.skip (Sel.skip (Sel.take (Sel.none _))) | exact Sel.skip (Sel.skip (Sel.skip (Sel.take (Sel.none _)))) | exact Sel.skip (Sel.skip (Sel.skip (Sel.skip (Sel.take (Sel.none _)))))) (by simp; omega) (by simp; omega)) fun v29 => ?_
        refine JL_step rfl rfl rfl (step_assign Sub.rfl) ?_
        refine JL_nil ?_
        refine J_region ?_
        refine JL_step rfl rfl rfl (step_move Sub.rfl) ?_
        refine JL_step rfl rfl rfl (step_add Sub.rfl Sub.rfl ?sg1) ?_
        case sg1 => unfold in64; omega
        refine JL_step rfl rfl rfl (step_assign Sub.rfl) ?_
        refine JL_nil ?_
        refine K_againL (σ := Nat × Value) (s := (i, v)) (i + 1, v29) (by first | omega | (dsimp only; omega) | (simp_all; omega)) (by omega) (SubE.upd Sub.rfl (SubE.upd Sub.rfl (SubE.upd Sub.rfl (SubE.upd Sub.rfl (SubE.upd Sub.rfl (SubE.upd Sub.rfl (SubE.upd Sub.rfl SubE.any))))))) (LSub.cons (by first | exact Sel.take (Sel.none _) | exact Sel.skip (Sel.take (Sel.none _)) | exact Sel.skip (Sel.skip (Sel.take (Sel.none _))) | exact Sel.skip (Sel.skip (Sel.skip (Sel.take (Sel.none _)))) | exact Sel.skip (Sel.skip (Sel.skip (Sel.skip (Sel.take (Sel.none _)))))) (own_eq (by rw [nearN_t h25])) (LSub.nil))
      · try simp only [decide_eq_true_eq, decide_eq_false_iff_not, Bool.and_eq_true, Bool.or_eq_true, Bool.and_eq_false_iff, Bool.or_eq_false_iff, Bool.not_eq_true', Bool.not_eq_false', Int.not_lt, Int.not_le, Bool.not_true, Bool.not_false] at h25
        refine J_skip ?_
        refine J_region ?_
        refine JL_step rfl rfl rfl (step_move Sub.rfl) ?_
        refine JL_step rfl rfl rfl (step_add Sub.rfl Sub.rfl ?sg1) ?_
        case sg1 => unfold in64; omega
        refine JL_step rfl rfl rfl (step_assign Sub.rfl) ?_
        refine JL_nil ?_
        refine K_againL (σ := Nat × Value) (s := (i, v)) (i + 1, v) (by first | omega | (dsimp only; omega) | (simp_all; omega)) (by omega) (SubE.upd Sub.rfl (SubE.upd Sub.rfl (SubE.upd Sub.rfl (SubE.upd Sub.rfl (SubE.upd Sub.rfl (SubE.upd Sub.rfl (SubE.upd Sub.rfl SubE.any))))))) (LSub.cons (by first | exact Sel.take (Sel.none _) | exact Sel.skip (Sel.take (Sel.none _)) | exact Sel.skip (Sel.skip (Sel.take (Sel.none _))) | exact Sel.skip (Sel.skip (Sel.skip (Sel.take (Sel.none _)))) | exact Sel.skip (Sel.skip (Sel.skip (Sel.skip (Sel.take (Sel.none _)))))) (own_eq (nearN_f (by simpa using h25)).symm) (LSub.nil))
    · try simp only [decide_eq_true_eq, decide_eq_false_iff_not, Bool.and_eq_true, Bool.or_eq_true, Bool.and_eq_false_iff, Bool.or_eq_false_iff, Bool.not_eq_true', Bool.not_eq_false', Int.not_lt, Int.not_le, Bool.not_true, Bool.not_false] at h16
      obtain rfl : i = records.length := by omega
      refine J_exit ?_
      refine J_seq ?_
      refine J_region ?_
      refine JL_step rfl rfl rfl (step_move Sub.rfl) ?_
      refine JL_step rfl rfl rfl (step_assign Sub.rfl) ?_
      refine JL_step rfl rfl rfl (step_assign Sub.rfl) ?_
      refine JL_nil ?_
      refine J_ret ?_
      refine K_ret2' (rv := .tmp 6) (rv' := .tmp 7) rfl () (Sel.all _) (.tmp Sub.rfl) (.tmp Sub.rfl) (Frz.own' rfl) (Frz.sub Sub.rfl) Sub.rfl
set_option maxHeartbeats 4000000 in
theorem lawMatches_spec (blocks : List GBlock) (records : List GRecord) (r : GRecord) : Fun1 Tryz.prog 3 [tSl rBlock blocks, tSl rRecord records, rRecord.ty r] (tV (.bool true)) := by
  refine Spec.enter Tryz.func3 rfl rfl fun h0 w0 fr0 => ?_
  refine J_seq ?_
  refine J_region ?_
  refine JL_step rfl rfl rfl (step_box (R := rRecord) Sub.rfl) ?_
  refine JL_step rfl rfl rfl (step_assign Sub.rfl) ?_
  refine JL_nil ?_
  refine J_seq ?_
  refine J_region ?_
  refine JL_step rfl rfl rfl (step_call0 (head_spec ) trivial Tryz.call10) ?_
  refine JL_step rfl rfl rfl (step_assign Sub.rfl) ?_
  refine JL_nil ?_
  refine J_seq ?_
  refine J_seq ?_
  refine J_region ?_
  refine JL_step rfl rfl rfl (step_move Sub.rfl) ?_
  refine JL_step rfl rfl rfl (step_move Sub.rfl) ?_
  refine JL_step rfl rfl rfl (step_call0 (Few_spec _ _ 60 (by decide)) ⟨Sub.rfl, Sub.rfl, Sub.rfl, trivial⟩ Tryz.call11) ?_
  refine JL_step rfl rfl rfl (step_not Sub.rfl) ?_
  refine JL_step rfl rfl rfl (step_move Sub.rfl) ?_
  refine JL_stepG rfl rfl rfl (Gd.plain Sub.rfl) rfl rfl (fun hw => step_load_ptr ty28 Sub.rfl) ?_
  refine JL_stepG rfl rfl rfl (Gd.plain Sub.rfl) rfl rfl (fun hw => step_literal (ys := [_]) Tryz.underlying23 el28 ⟨rfl, (Sub.w hw), trivial⟩ rfl (by decide)) ?_
  refine JL_stepG rfl rfl rfl (Gd.plain Sub.rfl) rfl rfl (fun hw => step_call0 (Few_spec [] [r] 1 (by decide)) ⟨Sub.nilsl, (Sub.w hw), Sub.rfl, trivial⟩ Tryz.call11) ?_
  refine JL_stepG rfl rfl rfl (Gd.plain Sub.rfl) rfl rfl (fun hw => step_not (Sub.w hw)) ?_
  refine JL_step rfl rfl rfl (step_pick_or Sub.rfl Sub.rfl) ?_
  refine JL_nil ?_
  refine J_cond Sub.rfl (fun h27 => ?_) (fun h27 => ?_)
  · try simp only [decide_eq_true_eq, decide_eq_false_iff_not, Bool.and_eq_true, Bool.or_eq_true, Bool.and_eq_false_iff, Bool.or_eq_false_iff, Bool.not_eq_true', Bool.not_eq_false', Int.not_lt, Int.not_le, Bool.not_true, Bool.not_false] at h27
    refine J_seq ?_
    refine J_region ?_
    refine JL_step rfl rfl rfl (step_move Sub.rfl) ?_
    refine JL_step rfl rfl rfl (step_assign Sub.rfl) ?_
    refine JL_nil ?_
    refine J_ret ?_
    exact K_ret1 (t := 6) rfl () Sub.rfl
  · try simp only [decide_eq_true_eq, decide_eq_false_iff_not, Bool.and_eq_true, Bool.or_eq_true, Bool.and_eq_false_iff, Bool.or_eq_false_iff, Bool.not_eq_true', Bool.not_eq_false', Int.not_lt, Int.not_le, Bool.not_true, Bool.not_false] at h27
    obtain ⟨hF, hG⟩ := h27
    have hF : FewP blocks records 60 := by simpa using hF
    have hG : FewP [] [r] 1 := by simpa using hG
    obtain ⟨hb1, hb2, hb3⟩ := hF
    have hr : recFew r := hG.2.2 r (by simp)
    have hbn : blocks.length ≤ 1000000 := by omega
    have hrs : ∀ x ∈ records, recOk x := fun x hx => (hb3 x hx).ok
    refine J_skip ?_
    refine J_seq ?_
    refine J_seq ?_
    refine J_region ?_
    refine JL_step rfl rfl rfl (step_assign Sub.rfl) ?_
    refine JL_nil ?_
    refine J_block ?_
    refine J_loopL (σ := Nat) (fun i => i ≤ blocks.length) (fun i => upd (upd (upd (upd (upd env0 0 (tSl rBlock blocks)) 1 (tSl rRecord records)) 5 (tPtr rRecord r)) 7 (tV (.bool true))) 8 (tV (.int .i64 i))) (fun i => []) (fun i => blocks.length - i) 0 (by omega) (SubE.upd Sub.rfl (SubE.upd Sub.rfl (SubE.upd Sub.rfl (SubE.upd Sub.rfl (SubE.upd Sub.rfl SubE.any))))) (LSub.rfl) ?_
    rintro i hi
    refine J_seq ?_
    refine J_seq ?_
    refine J_region ?_
    refine JL_step rfl rfl rfl (step_move Sub.rfl) ?_
    refine JL_step rfl rfl rfl (step_move Sub.rfl) ?_
    refine JL_step rfl rfl rfl (step_len_sl Tryz.underlying22 Sub.rfl) ?_
    refine JL_step rfl rfl rfl (step_lss Sub.rfl Sub.rfl) ?_
    refine JL_nil ?_
    refine J_cond Sub.rfl (fun h32 => ?_) (fun h32 => ?_)
    · try simp only [decide_eq_true_eq, decide_eq_false_iff_not, Bool.and_eq_true, Bool.or_eq_true, Bool.and_eq_false_iff, Bool.or_eq_false_iff, Bool.not_eq_true', Bool.not_eq_false', Int.not_lt, Int.not_le, Bool.not_true, Bool.not_false] at h32
      have hlt : i < blocks.length := by omega
      have hkl := keys_len (b := (nth blocks i)) hr.ok
      refine J_skip ?_
      refine J_seq ?_
      refine J_block ?_
      refine J_seq ?_
      refine J_draw [⟨0, [0], true⟩, ⟨1, [8], true⟩, ⟨2, [35, 36], true⟩, ⟨3, [37], true⟩, ⟨4, [5], true⟩, ⟨5, [38, 39], true⟩, ⟨6, [0], true⟩, ⟨7, [8], true⟩, ⟨8, [41, 42], true⟩, ⟨9, [43], true⟩, ⟨10, [5], true⟩, ⟨11, [44, 45], true⟩, ⟨12, [40, 46], true⟩, ⟨13, [47], true⟩] rfl (by kernel_rfl) ?_
      refine JM_step rfl rfl rfl rfl (fun _ => step_move Sub.rfl) ?_
      refine JM_step rfl rfl rfl rfl (fun _ => step_move Sub.rfl) ?_
      refine JM_step rfl rfl rfl rfl (fun _ => step_indexAddr_sl  Tryz.underlying22 ty35 Sub.rfl Sub.rfl rfl (gb ?sg1)) ?_
      case sg1 => exact hlt
      refine JM_step rfl rfl rfl rfl (fun _ => step_load_ptr ty35 Sub.rfl) ?_
      refine JM_step rfl rfl rfl rfl (fun _ => step_load_ptr ty28 Sub.rfl) ?_
      refine JM_step rfl rfl rfl rfl (fun _ => step_call0 (Keys_spec _ _ hr.ok) ⟨Sub.rfl, Sub.rfl, trivial⟩ Tryz.call13) ?_
      refine JM_step rfl rfl rfl rfl (fun _ => step_move Sub.rfl) ?_
      refine JM_step rfl rfl rfl rfl (fun _ => step_move Sub.rfl) ?_
      refine JM_step rfl rfl rfl rfl (fun _ => step_indexAddr_sl  Tryz.underlying22 ty35 Sub.rfl Sub.rfl rfl (gb ?sg1)) ?_
      case sg1 => exact hlt
      refine JM_step rfl rfl rfl rfl (fun _ => step_load_ptr ty35 Sub.rfl) ?_
      refine JM_step rfl rfl rfl rfl (fun _ => step_load_ptr ty28 Sub.rfl) ?_
      refine JM_step rfl rfl rfl rfl (fun _ => step_call0 (KeysR_spec _ _ hr.ok) ⟨Sub.rfl, Sub.rfl, trivial⟩ Tryz.call14) ?_
      refine JM_step rfl rfl rfl rfl (fun _ => step_call0 (SameS_spec (keysM (nth blocks i) r) (keysM (nth blocks i) r) (by omega)) ⟨Sub.rfl, Sub.rfl, trivial⟩ Tryz.call12) ?_
      refine JM_step rfl rfl rfl rfl (fun _ => step_not Sub.rfl) ?_
      refine JM_nil ?_
      refine J_cond Sub.rfl (fun h48 => ?_) (fun h48 => ?_)
      · try simp only [decide_eq_true_eq, decide_eq_false_iff_not, Bool.and_eq_true, Bool.or_eq_true, Bool.and_eq_false_iff, Bool.or_eq_false_iff, Bool.not_eq_true', Bool.not_eq_false', Int.not_lt, Int.not_le, Bool.not_true, Bool.not_false] at h48
        exfalso; simp at h48
      · try simp only [decide_eq_true_eq, decide_eq_false_iff_not, Bool.and_eq_true, Bool.or_eq_true, Bool.and_eq_false_iff, Bool.or_eq_false_iff, Bool.not_eq_true', Bool.not_eq_false', Int.not_lt, Int.not_le, Bool.not_true, Bool.not_false] at h48
        refine J_skip ?_
        refine J_region ?_
        refine JL_step rfl rfl rfl (step_move Sub.rfl) ?_
        refine JL_step rfl rfl rfl (step_add Sub.rfl Sub.rfl ?sg1) ?_
        case sg1 => unfold in64; omega
        refine JL_step rfl rfl rfl (step_assign Sub.rfl) ?_
        refine JL_nil ?_
        refine K_againL (σ := Nat) (s := i) (i + 1) (by first | omega | (dsimp only; omega) | (simp_all; omega)) (by omega) (SubE.upd Sub.rfl (SubE.upd Sub.rfl (SubE.upd Sub.rfl (SubE.upd Sub.rfl (SubE.upd Sub.rfl SubE.any))))) (LSub.rfl)
    · try simp only [decide_eq_true_eq, decide_eq_false_iff_not, Bool.and_eq_true, Bool.or_eq_true, Bool.and_eq_false_iff, Bool.or_eq_false_iff, Bool.not_eq_true', Bool.not_eq_false', Int.not_lt, Int.not_le, Bool.not_true, Bool.not_false] at h32
      have hpl : (pairsM blocks records).length ≤ 1000000000 := by have h1 := pairs_len (blocks := blocks) (recs := records); have h2 : records.length * records.length ≤ 100 * 100 := Nat.mul_le_mul (by omega) (by omega); omega
      have hml : (nearM blocks records r).length ≤ 1000000000 := by have := nearN_len blocks records r records.length; unfold nearM; omega
      refine J_exit ?_
      refine J_seq ?_
      refine J_region ?_
      refine JL_step rfl rfl rfl (step_move Sub.rfl) ?_
      refine JL_step rfl rfl rfl (step_move Sub.rfl) ?_
      refine JL_step rfl rfl rfl (step_call0 (Pairs_spec blocks records hbn hrs (by omega)) ⟨Sub.rfl, Sub.rfl, trivial⟩ Tryz.call15) ?_
      refine JL_step rfl rfl rfl (step_move Sub.rfl) ?_
      refine JL_step rfl rfl rfl (step_extract Sub.rfl rfl) ?_
      refine JL_step rfl rfl rfl (step_extract Sub.rfl rfl) ?_
      refine JL_step rfl rfl rfl (step_assign Sub.rfl) ?_
      refine JL_step rfl rfl rfl (step_assign Sub.rfl) ?_
      refine JL_nil ?_
      refine J_seq ?_
      refine J_region ?_
      refine JL_step rfl rfl rfl (step_move Sub.rfl) ?_
      refine JL_step rfl rfl rfl (step_move Sub.rfl) ?_
      refine JL_step rfl rfl rfl (step_call0 (PairsR_spec blocks records hbn hrs (by omega)) ⟨Sub.rfl, Sub.rfl, trivial⟩ Tryz.call16) ?_
      refine JL_step rfl rfl rfl (step_move Sub.rfl) ?_
      refine JL_step rfl rfl rfl (step_extract Sub.rfl rfl) ?_
      refine JL_step rfl rfl rfl (step_extract Sub.rfl rfl) ?_
      refine JL_step rfl rfl rfl (step_assign Sub.rfl) ?_
      refine JL_step rfl rfl rfl (step_assign Sub.rfl) ?_
      refine JL_nil ?_
      refine J_seq ?_
      refine J_region ?_
      refine JL_step rfl rfl rfl (step_move Sub.rfl) ?_
      refine JL_step rfl rfl rfl (step_move Sub.rfl) ?_
      refine JL_step rfl rfl rfl (step_load_ptr ty28 Sub.rfl) ?_
      refine JL_step rfl rfl rfl (step_call0 (Near_spec blocks records r hbn hr.ok hrs (by omega)) ⟨Sub.rfl, Sub.rfl, Sub.rfl, trivial⟩ Tryz.call17) ?_
      refine JL_step rfl rfl rfl (step_move Sub.rfl) ?_
      refine JL_step rfl rfl rfl (step_extract Sub.rfl rfl) ?_
      refine JL_step rfl rfl rfl (step_extract Sub.rfl rfl) ?_
      refine JL_step rfl rfl rfl (step_assign Sub.rfl) ?_
      refine JL_step rfl rfl rfl (step_assign Sub.rfl) ?_
      refine JL_nil ?_
      refine J_seq ?_
      refine J_region ?_
      refine JL_step rfl rfl rfl (step_move Sub.rfl) ?_
      refine JL_step rfl rfl rfl (step_move Sub.rfl) ?_
      refine JL_step rfl rfl rfl (step_load_ptr ty28 Sub.rfl) ?_
      refine JL_step rfl rfl rfl (step_call0 (NearR_spec blocks records r hbn hr.ok hrs (by omega)) ⟨Sub.rfl, Sub.rfl, Sub.rfl, trivial⟩ Tryz.call18) ?_
      refine JL_step rfl rfl rfl (step_move Sub.rfl) ?_
      refine JL_step rfl rfl rfl (step_extract Sub.rfl rfl) ?_
      refine JL_step rfl rfl rfl (step_extract Sub.rfl rfl) ?_
      refine JL_step rfl rfl rfl (step_assign Sub.rfl) ?_
      refine JL_step rfl rfl rfl (step_assign Sub.rfl) ?_
      refine JL_nil ?_
      refine J_seq ?_
      refine J_region ?_
      refine JL_step rfl rfl rfl (step_move Sub.rfl) ?_
      refine JL_step rfl rfl rfl (step_move Sub.rfl) ?_
      refine JL_stepG rfl rfl rfl (Gd.plain Sub.rfl) rfl rfl (fun hw => step_move Sub.rfl) ?_
      refine JL_stepG rfl rfl rfl (Gd.plain Sub.rfl) rfl rfl (fun hw => step_move Sub.rfl) ?_
      refine JL_stepG rfl rfl rfl (Gd.plain Sub.rfl) rfl rfl (fun hw => step_eql (Sub.w hw) (Sub.w hw)) ?_
      refine JL_step rfl rfl rfl (step_pick_and Sub.rfl Sub.rfl) ?_
      refine JL_step rfl rfl rfl (step_move Sub.rfl) ?_
      refine JL_stepG rfl rfl rfl (Gd.plain Sub.rfl) rfl rfl (fun hw => step_move Sub.rfl) ?_
      refine JL_stepG rfl rfl rfl (Gd.plain Sub.rfl) rfl rfl (fun hw => step_move Sub.rfl) ?_
      refine JL_stepG rfl rfl rfl (Gd.plain Sub.rfl) rfl rfl (fun hw => step_call0 (SameP_spec (pairsM blocks records) (pairsM blocks records) hpl) ⟨Sub.w hw, Sub.w hw, trivial⟩ Tryz.call19) ?_
      refine JL_step rfl rfl rfl (step_pick_and Sub.rfl Sub.rfl) ?_
      refine JL_step rfl rfl rfl (step_move Sub.rfl) ?_
      refine JL_stepG rfl rfl rfl (Gd.plain Sub.rfl) rfl rfl (fun hw => step_move Sub.rfl) ?_
      refine JL_stepG rfl rfl rfl (Gd.plain Sub.rfl) rfl rfl (fun hw => step_move Sub.rfl) ?_
      refine JL_stepG rfl rfl rfl (Gd.plain Sub.rfl) rfl rfl (fun hw => step_eql (Sub.w hw) (Sub.w hw)) ?_
      refine JL_step rfl rfl rfl (step_pick_and Sub.rfl Sub.rfl) ?_
      refine JL_step rfl rfl rfl (step_move Sub.rfl) ?_
      refine JL_stepG rfl rfl rfl (Gd.plain Sub.rfl) rfl rfl (fun hw => step_move Sub.rfl) ?_
      refine JL_stepG rfl rfl rfl (Gd.plain Sub.rfl) rfl rfl (fun hw => step_move Sub.rfl) ?_
      refine JL_stepG rfl rfl rfl (Gd.plain Sub.rfl) rfl rfl (fun hw => step_call0 (Ints_spec (nearM blocks records r) (nearM blocks records r) hml) ⟨Sub.w hw, Sub.w hw, trivial⟩ Tryz.call20) ?_
      refine JL_step rfl rfl rfl (step_pick_and Sub.rfl Sub.rfl) ?_
      refine JL_step rfl rfl rfl (step_assign Sub.rfl) ?_
      refine JL_nil ?_
      refine J_ret ?_
      refine K_ret1 (t := 6) rfl () ?_
      refine Sub.bool ?_
      simp
end Lg

/- BlockMatchesReference: the card. -/
namespace Go.Proofs.YtfojldlbhhigbaaGreatDoor.blockMatchesReference
open Go.ChangeShapes Go.WideShapes Go.ChangeAt Go.RowKit
set_option maxRecDepth 100000 in
theorem contract (H : Type) (enc : TypeId × Value → H) (W : World) (base : Nat) (args : Array Value) (ds gs : List (DataW H)) (before : List MemPlace)
    (hval : ∀ (j : Nat) t v, Tryz.f3.params[j]? = some t → args[j]? = some v → Value.okWide Tryz.prog W .any base t v)
    (hL : laidMet Tryz.prog Rows.blockMatchesReferenceRow.laid W) (hW : DataW.Whole enc Tryz.prog Tryz.f3.params.toList Rows.blockMatchesReferenceSpec.vars false W args.toList ds gs before) :
    Calls Tryz.prog 3 args W fun e W' => ∃ v, e = .returned v ∧ Rows.blockMatchesReferenceSpec.post enc Tryz.prog Tryz.f3 false true false false W args v W' := by
  have hW' := hW
  obtain ⟨p, q, hA0, hV, rfl, hfz, hnd⟩ := hW
  have hA : DataW.TrodAll enc Tryz.prog W 0 (fun _ => true) true Tryz.f3.params.toList args.toList ds p := hA0
  rw [Tryz.params3] at hA hval
  obtain ⟨v0, v1, v2, d0, d1, d2, p0, p1, p2, rfl, rfl, rfl, h0, h1, h2⟩ := trodAll_three hA
  obtain ⟨rfl, rfl⟩ := trodVars_none hV
  obtain ⟨x0, a0⟩ := Lg.arg_sl Tryz.underlying22 Lg.rd22 (hval 0 22 v0 rfl rfl) h0
  obtain ⟨x1, a1⟩ := Lg.arg_sl Tryz.underlying23 Lg.rd23 (hval 1 23 v1 rfl rfl) h1
  obtain ⟨x2, a2⟩ := Lg.arg_st Lg.rd28 rfl (by decide) h2
  refine (Lg.run_true (Lg.lawMatches_spec x0 x1 x2) (Lg.inv_of (tab_of hL)) (vs := [v0, v1, v2]) ⟨a0, a1, a2, trivial⟩).mono fun e W' ⟨he, hb⟩ => ?_
  subst he
  have e1 : Rows.blockMatchesReferenceSpec.fn H ([d0, d1, d2] ++ []) = { results := [.lit (.bool true)], args := [d0, d1, d2] } := by simp [Rows.blockMatchesReferenceSpec]
  refine ⟨_, rfl, _, _, _, [], p0 ++ (p1 ++ p2), [], hW', ?_, ?_, ?_, hb.frame _, fun h => by cases h⟩
  · rw [e1]; exact trodAll_mk1 (shut_bool Tryz.underlying4 true)
  · rw [e1, Tryz.params3]
    exact trodAll_mk3 (hb.trod laidOut rec22 size22 h0 fun x hx => hW'.lt x (by simp [hx])) (hb.trod laidOut rec23 size23 h1 fun x hx => hW'.lt x (by simp [hx])) (hb.trod laidOut rec28 size28 h2 fun x hx => hW'.lt x (by simp [hx]))
  · rw [e1]; rfl
noncomputable abbrev args0 : Array Value := #[.slice none 0 0, .slice none 0 0, .agg #[.int .i64 0, .string ⟨#[]⟩, .string ⟨#[]⟩, .int .i64 0, .int .i64 0, .slice none 0 0]]
theorem reads (os : Os) {H : Type} (enc : TypeId × Value → H) : ∃ places, DataW.whole enc Tryz.prog ((laidWorld os).forCall (fun _ _ => 0) ⟨#[], args0, []⟩).memory Tryz.f3.params.toList Rows.blockMatchesReferenceSpec.vars false args0.toList 8 = some ([.nil, .nil, .agg [.agg [.lit (.int .i64 0), .lit (.string []), .lit (.string [])], .lit (.int .i64 0), .lit (.int .i64 0), .nil]], [], places) :=
  ⟨[], by kernel_rfl⟩
theorem laid_met (os : Os) : laidMet Tryz.prog Rows.blockMatchesReferenceRow.laid ((laidWorld os).forCall (fun _ _ => 0) ⟨#[], args0, []⟩).memory :=
  laidMet_laidAll (laid := laidL) args0 (by kernel_rfl) (by kernel_rfl)
set_option maxRecDepth 100000 in
theorem lifted (os : Os) (started : os.Started) (H : Type) (enc : TypeId × Value → H) (F : Stop.Interp) :
    ReturnsInHanded {} Tryz.checked os 3 .any ((OpenSpec.ofChange Rows.blockMatchesReferenceSpec).preRow enc Tryz.prog Tryz.f3 Rows.blockMatchesReferenceRow.domain false Rows.blockMatchesReferenceRow.laid) (((OpenSpec.ofChange Rows.blockMatchesReferenceSpec).at F).post enc Tryz.prog Tryz.f3 false true false false) := by
  obtain ⟨places, hx⟩ := reads os enc
  refine returnsInHanded_of_row (C := Tryz.checked) (s := OpenSpec.ofChange Rows.blockMatchesReferenceSpec) own started (by kernel_rfl) Tryz.func3
    (witness_row_at (enc := enc) (C := Tryz.checked) false (laidWorld os) args0 (World.laidAll_os _ _ _) (by kernel_rfl) (by kernel_rfl) (by kernel_rfl)
      (OpenSpec.preRow_of_cond 8 hx (by kernel_rfl) (fun k hk => by cases hk) (by kernel_rfl) (laid_met os))) ?_
  intro W base args ds gs before hval hW _ _ _ hL _ _
  exact contract H enc W base args ds gs before hval hL hW
theorem said : Rows.BlockMatchesReferenceSaid :=
  OpenClaim.holds_of_cond 3 Tryz.f3 rfl rfl rfl rfl rfl rfl rfl ⟨rfl, rfl, rfl, rfl, rfl⟩ rfl rfl rfl rfl rfl (by kernel_rfl) Tryz.func3 (by kernel_rfl)
    (of_decide_eq_true (by kernel_rfl)) (by unfold Func.isWrapper; first | (rw [if_pos (by decide +kernel)]; kernel_rfl) | (rw [if_neg (by decide +kernel)]; exact ⟨rfl, rfl⟩))
    (fun os started H enc _ F => by rw [OpenClaim.pre_eq_preRow]; exact lifted os started H enc F)
theorem plain (f : FuncId) (fn : Func) (hf : Tryz.pinned.checked.prog.funcNamed "cleanse/cleanselaw19.BlockMatchesReference" = some f) (hfn : Tryz.pinned.checked.prog.funcs[f]? = some fn) :
    true = Tryz.pinned.checked.prog.looks [] ∧ ∀ (j : Nat) t, fn.params[j]? = some t → Tryz.pinned.checked.prog.wantsStandIn t = false := by
  obtain rfl : f = 3 := Option.some.inj ((show Tryz.prog.funcNamed "cleanse/cleanselaw19.BlockMatchesReference" = some 3 by kernel_rfl).symm.trans hf) |>.symm
  obtain rfl : fn = Tryz.f3 := (Option.some.inj (Tryz.func3.symm.trans hfn)).symm
  refine ⟨noLooks, fun j t ht => ?_⟩
  rw [Tryz.params3] at ht
  have hm : t ∈ #[22, 23, 28] := Array.mem_of_getElem? ht
  simp only [List.mem_toArray, List.mem_cons, List.not_mem_nil, or_false] at hm
  rcases hm with rfl | rfl | rfl
  · exact want22
  · exact want23
  · exact want28
theorem card : Rows.BlockMatchesReferenceCardSaid :=
  Claim7.holds_tied_plain_at .later [] _ _ _ _ said (fun _ h => by cases h) (by kernel_rfl) (fun _ h => by cases h) blockMatchesReference_row_tie rfl ⟨rfl, rfl⟩ (by kernel_rfl) rfl plain (by kernel_rfl)
end Go.Proofs.YtfojldlbhhigbaaGreatDoor.blockMatchesReference
