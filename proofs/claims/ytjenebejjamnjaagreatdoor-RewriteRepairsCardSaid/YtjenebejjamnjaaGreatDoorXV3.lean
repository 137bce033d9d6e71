/- Walks and the plain law of RewriteRepairs. -/
import Derived.Test.YtjenebejjamnjaaGreatDoorWV3
import Derived.Test.YtjenebejjamnjaaGreatDoorProg
import Derived.Lib.Small
import Derived.Shelf.Abstract
import Derived.Lib.Walk
import Derived.WalkKit
import Derived.Deep.LoopGhost
import Derived.Deep.Draws
import Derived.Sort.Grow
import Derived.Deep.QuietTactic
set_option linter.unusedVariables false
set_option linter.unusedSimpArgs false
set_option linter.unusedSectionVars false
namespace Lg
open Go Go.Proofs Go.Proofs.Tryz
structure StS (xs : LL) (n : Nat) (ys : LL) : Prop where
  mrg : Mrg xs 0 n ys
  s1 : Srt ys 0 (min 20 n)
  s2 : Srt ys 20 n
def StA (xs : LL) (n a b : Nat) (ys : LL) : Prop := Mrg xs 0 n ys ∧ ((a = 0 ∧ b = 20) ∨ (a = 20 ∧ b = 40 ∧ 20 ≤ n ∧ Srt ys 0 20) ∨ (a = 40 ∧ b = 60 ∧ n = 40 ∧ Srt ys 0 20 ∧ Srt ys 20 40))
theorem Srt.keep {xs ys : LL} {a b c d : Nat} (h : Srt xs c d) (g : Mrg xs a b ys) (hd : d ≤ a ∨ b ≤ c) : Srt ys c d := h.congr fun k k1 k2 => g.out k (by omega)
theorem StA.step {xs ys zs : LL} {n a b : Nat} (h : StA xs n a b ys) (hn : n ≤ 40) (hb : b ≤ n) (g : Mrg ys a b zs) (gs : Srt zs a b) : StA xs n b (b + 20) zs := by
  obtain ⟨h1, h⟩ := h
  rcases h with ⟨rfl, rfl⟩ | ⟨rfl, rfl, h3, h4⟩ | ⟨rfl, rfl, h3, h4, h5⟩
  · exact ⟨h1.trans (g.wide (Nat.zero_le _) hb), .inr (.inl ⟨rfl, rfl, hb, gs⟩)⟩
  · exact ⟨h1.trans (g.wide (Nat.zero_le _) hb), .inr (.inr ⟨rfl, rfl, by omega, h4.keep g (.inl (Nat.le_refl _)), gs⟩)⟩
  · omega
theorem StA.last {xs ys zs : LL} {n a b : Nat} (h : StA xs n a b ys) (hn : n ≤ 40) (hb : n < b) (ha : a ≤ n) (g : Mrg ys a n zs) (gs : Srt zs a n) : StS xs n zs := by
  obtain ⟨h1, h⟩ := h
  have hm := h1.trans (g.wide (Nat.zero_le _) (Nat.le_refl _))
  rcases h with ⟨rfl, rfl⟩ | ⟨rfl, rfl, h3, h4⟩ | ⟨rfl, rfl, h3, h4, h5⟩
  · exact ⟨hm, fun p q c1 c2 c3 => gs p q c1 c2 (by omega), fun p q c1 c2 c3 => by exfalso; omega⟩
  · exact ⟨hm, by rw [show min 20 n = 20 by omega]; exact h4.keep g (.inl (Nat.le_refl _)), gs⟩
  · exact ⟨hm, by rw [show min 20 n = 20 by omega]; exact h4.keep g (.inl (by omega)), by rw [h3]; exact h5.keep g (.inl (by omega))⟩
theorem StA.le {xs ys : LL} {n a b : Nat} (h : StA xs n a b ys) : a ≤ n ∧ a ≤ b ∧ b ≤ 60 := by
  obtain ⟨_, h⟩ := h
  rcases h with ⟨rfl, rfl⟩ | ⟨rfl, rfl, h3, h4⟩ | ⟨rfl, rfl, h3, h4, h5⟩ <;> omega
def StB (xs : LL) (n bs : Nat) (ys : LL) : Prop := Mrg xs 0 n ys ∧ ((bs = 20 ∧ Srt ys 0 (min 20 n) ∧ Srt ys 20 n) ∨ (bs = 40 ∧ Srt ys 0 n))
def StC (xs : LL) (n a b : Nat) (ys : LL) : Prop := Mrg xs 0 n ys ∧ ((a = 0 ∧ b = 40 ∧ Srt ys 0 20 ∧ Srt ys 20 n) ∨ (a = 40 ∧ b = 80 ∧ n = 40 ∧ Srt ys 0 n))
theorem StB.small {xs ys : LL} {n bs : Nat} (h : StB xs n bs ys) (hn : n ≤ 40) (hb : n ≤ bs) : Mrg xs 0 n ys ∧ Srt ys 0 n := by
  obtain ⟨h1, h⟩ := h
  refine ⟨h1, ?_⟩
  rcases h with ⟨rfl, h2, h3⟩ | ⟨rfl, h2⟩
  · exact fun p q c1 c2 c3 => h2 p q c1 c2 (by omega)
  · exact h2
theorem StB.go {xs ys : LL} {n bs : Nat} (h : StB xs n bs ys) (hn : n ≤ 40) (hb : bs < n) : bs = 20 ∧ StC xs n 0 40 ys := by
  obtain ⟨h1, h⟩ := h
  rcases h with ⟨rfl, h2, h3⟩ | ⟨rfl, h2⟩
  · exact ⟨rfl, h1, .inl ⟨rfl, rfl, by rw [show min 20 n = 20 by omega] at h2; exact h2, h3⟩⟩
  · omega
theorem StC.step {xs ys zs : LL} {n a b : Nat} (h : StC xs n a b ys) (hn : n ≤ 40) (hb : b ≤ n) (g : Mrg ys a b zs) (gs : Srt zs a b) : StC xs n b (b + 40) zs := by
  obtain ⟨h1, h⟩ := h
  rcases h with ⟨rfl, rfl, h3, h4⟩ | ⟨rfl, rfl, h3, h4⟩
  · obtain rfl : n = 40 := by omega
    exact ⟨h1.trans g, .inr ⟨rfl, rfl, rfl, gs⟩⟩
  · omega
theorem StC.runs {xs ys : LL} {n a b : Nat} (h : StC xs n a b ys) (hn : n ≤ 40) (hb : b ≤ n) : a = 0 ∧ b = 40 ∧ Srt ys 0 20 ∧ Srt ys 20 40 := by
  obtain ⟨h1, h⟩ := h
  rcases h with ⟨rfl, rfl, h3, h4⟩ | ⟨rfl, rfl, h3, h4⟩
  · obtain rfl : n = 40 := by omega
    exact ⟨rfl, rfl, h3, h4⟩
  · omega
theorem StC.rest {xs ys : LL} {n a b : Nat} (h : StC xs n a b ys) (hn : n ≤ 40) (hb : n < b) (h20 : 20 < n) : (a = 0 ∧ Srt ys 0 20 ∧ Srt ys 20 n) ∨ (a = 40 ∧ n = 40 ∧ Srt ys 0 n) := by
  obtain ⟨h1, h⟩ := h
  rcases h with ⟨rfl, rfl, h3, h4⟩ | ⟨rfl, rfl, h3, h4⟩
  · exact .inl ⟨rfl, h3, h4⟩
  · exact .inr ⟨rfl, h3, h4⟩
theorem StC.le {xs ys : LL} {n a b : Nat} (h : StC xs n a b ys) : a ≤ 40 ∧ b ≤ 80 := by
  obtain ⟨_, h⟩ := h
  rcases h with ⟨rfl, rfl, h3⟩ | ⟨rfl, rfl, h3⟩ <;> omega
set_option maxHeartbeats 4000000 in
theorem stable40_spec (v : Value) (xs : LL) (h40 : xs.length ≤ 40) (hl : xs.length ≤ 1000000) (hx : ∀ k, (nth xs k).length ≤ 1000000) : Spec (X := { ys : LL // Mrg xs 0 xs.length ys ∧ Srt ys 0 xs.length }) prog 127 [rV.ty v, tV (.int .i64 xs.length), cmpT] ([own 27 (rSl rInt) v (xs)]) (fun ys => tTup []) (fun ys => [own 27 (rSl rInt) v (ys.1)]) := by
 refine Spec.enter func127 rfl rfl fun h0 w0 fr0 => ?_
 refine Jr ?_
 refine Ja rfl ?_
 refine JL_nil ?_
 refine Jr ?_
 refine Jm rfl ?_
 refine Ja rfl ?_
 refine Ja rfl ?_
 refine JL_nil ?_
 refine J_seq ?_
 refine J_block ?_
 refine J_loopL (σ := Nat × Nat × LL) (fun ⟨a, b, ys⟩ => StA xs xs.length a b ys) (fun ⟨a, b, ys⟩ => upd (upd (upd (upd (upd (upd env0 0 (rV.ty v)) 1 (tV (.int .i64 xs.length))) 2 (cmpT)) 6 (tV (.int .i64 20))) 7 (tV (.int .i64 a))) 8 (tV (.int .i64 b))) (fun ⟨a, b, ys⟩ => [own 27 (rSl rInt) v (ys)]) (fun ⟨a, b, ys⟩ => 60 - b) (0, 20, xs) ⟨Mrg.refl _ _ _, .inl ⟨rfl, rfl⟩⟩ (SubE.upd Sr (SubE.upd Sr (SubE.upd Sr (SubE.upd Sr (SubE.upd Sr (SubE.upd Sr SubE.any)))))) (LSub.cons (by repeat first | exact .h | apply Sel.skip) (SPs.rfl) (LSub.nil)) ?_
 rintro ⟨a, b, ys⟩ hst
 try dsimp only at hst
 have hle := hst.le
 refine J_seq ?_
 refine Jr ?_
 refine Jm rfl ?_
 refine Jm rfl ?_
 refine Js rfl (step_leq Sr Sr) ?_
 refine JL_nil ?_
 refine J_cond Sr (fun h13 => ?_) (fun h13 => ?_)
 ·
  try simp only [NF] at h13
  have hbn : b ≤ xs.length := by omega
  refine J_skip ?_
  refine J_block ?_
  refine Jr ?_
  refine Jm rfl ?_
  refine Jm rfl ?_
  refine Jm rfl ?_
  refine Jm rfl ?_
  refine JL_stepX rfl rfl rfl (step_call (by repeat first | exact .h | apply Sel.skip) (insertionSort_spec v ys a b hle.2.1 (by have := hst.1.len; omega) (by rw [hst.1.len]; exact hl) (hst.1.bd hx)) ⟨Sr, Sr, Sr, Sr, trivial⟩ call150) fun u18 => ?_
  refine JL_nil ?_
  refine Jr ?_
  refine Jm rfl ?_
  refine Ja rfl ?_
  refine JL_nil ?_
  refine J_region ?_
  refine Jm rfl ?_
  refine Jm rfl ?_
  refine Js rfl (step_add Sr Sr ?sg1) ?_
  case sg1 => unfold in64; omega
  refine Ja rfl ?_
  refine JL_nil ?_
  refine K_againL (σ := Nat × Nat × LL) (s := (a, b, ys)) (b, b + 20, u18.1) (by first | omega | (dsimp only; omega) | (simp_all; omega)) (hst.step h40 hbn u18.2.1 u18.2.2) (SubE.upd Sr (SubE.upd Sr (SubE.upd Sr (SubE.upd Sr (SubE.upd Sr (SubE.upd Sr SubE.any)))))) (LSub.cons (by repeat first | exact .h | apply Sel.skip) (SPs.rfl) (LSub.nil))
 ·
  try simp only [NF] at h13
  refine J_exit ?_
  refine Jr ?_
  refine Jm rfl ?_
  refine Jm rfl ?_
  refine Jm rfl ?_
  refine Jm rfl ?_
  refine JL_stepX rfl rfl rfl (step_call (by repeat first | exact .h | apply Sel.skip) (insertionSort_spec v ys a xs.length hle.1 (by rw [hst.1.len]; exact Nat.le_refl _) (by rw [hst.1.len]; exact hl) (hst.1.bd hx)) ⟨Sr, Sr, Sr, Sr, trivial⟩ call150) fun u27 => ?_
  refine JL_nil ?_
  refine J_block ?_
  refine J_loopL (σ := Nat × LL) (fun ⟨bs, ws⟩ => StB xs xs.length bs ws) (fun ⟨bs, ws⟩ => upd (upd (upd (upd env0 0 (rV.ty v)) 1 (tV (.int .i64 xs.length))) 2 (cmpT)) 6 (tV (.int .i64 bs))) (fun ⟨bs, ws⟩ => [own 27 (rSl rInt) v (ws)]) (fun ⟨bs, ws⟩ => 40 - bs) (20, u27.1) (by have h := hst.last h40 (by omega) hle.1 u27.2.1 u27.2.2; exact ⟨h.mrg, .inl ⟨rfl, h.s1, h.s2⟩⟩) (SubE.upd Sr (SubE.upd Sr (SubE.upd Sr (SubE.upd Sr SubE.any)))) (LSub.cons (by repeat first | exact .h | apply Sel.skip) (SPs.rfl) (LSub.nil)) ?_
  rintro ⟨bs, ws⟩ hsb
  try dsimp only at hsb
  refine J_seq ?_
  refine Jr ?_
  refine Jm rfl ?_
  refine Jm rfl ?_
  refine Js rfl (step_lss Sr Sr) ?_
  refine JL_nil ?_
  refine J_cond Sr (fun h30 => ?_) (fun h30 => ?_)
  ·
   try simp only [NF] at h30
   obtain ⟨hbs, hsc0⟩ := hsb.go h40 (by omega)
   refine J_skip ?_
   refine J_block ?_
   refine Jr ?_
   refine Jm rfl ?_
   refine Js rfl (step_mul Sr Sr ?sg1) ?_
   case sg1 => unfold in64; omega
   refine Ja rfl ?_
   refine Ja rfl ?_
   refine JL_nil ?_
   refine J_seq ?_
   refine J_block ?_
   refine J_loopL (σ := Nat × Nat × LL) (fun ⟨a, b, zs⟩ => StC xs xs.length a b zs) (fun ⟨a, b, zs⟩ => upd (upd (upd (upd (upd (upd (upd (upd (upd env0 0 (rV.ty v)) 1 (tV (.int .i64 xs.length))) 2 (cmpT)) 6 (tV (.int .i64 20))) 7 (tV (.int .i64 a))) 8 (tV (.int .i64 b))) 28 (tV (.int .i64 bs))) 29 (tV (.int .i64 xs.length))) 31 (tV (.int .i64 bs))) (fun ⟨a, b, zs⟩ => [own 27 (rSl rInt) v (zs)]) (fun ⟨a, b, zs⟩ => 80 - b) (0, 40, ws) hsc0 (SubE.upd Sr (SubE.upd Sr (SubE.upd Sr (SubE.upd (Sub.int (by omega)) (SubE.upd Sr (SubE.upd (Sub.int (by omega)) (SubE.upd Sr (SubE.upd Sr (SubE.upd Sr SubE.any))))))))) (LSub.cons (by repeat first | exact .h | apply Sel.skip) (SPs.rfl) (LSub.nil)) ?_
   rintro ⟨a, b, zs⟩ hsc
   try dsimp only at hsc
   have hlc := hsc.le
   refine J_seq ?_
   refine Jr ?_
   refine Jm rfl ?_
   refine Jm rfl ?_
   refine Js rfl (step_leq Sr Sr) ?_
   refine JL_nil ?_
   refine J_cond Sr (fun h35 => ?_) (fun h35 => ?_)
   ·
    try simp only [NF] at h35
    have hbn : b ≤ xs.length := by omega
    obtain ⟨hr1, hr2, hr3, hr4⟩ := hsc.runs h40 hbn
    refine J_skip ?_
    refine J_block ?_
    refine Jr ?_
    refine Jm rfl ?_
    refine Jm rfl ?_
    refine Jm rfl ?_
    refine Jm rfl ?_
    refine Js rfl (step_add Sr Sr ?sg1) ?_
    case sg1 => unfold in64; omega
    refine Jm rfl ?_
    refine Jm rfl ?_
    refine JL_stepX rfl rfl rfl (step_call (by repeat first | exact .h | apply Sel.skip) (symMerge_spec v zs a (a + 20) b (by omega) (by omega) (by have := hsc.1.len; omega) (by rw [hsc.1.len]; exact hl) (hsc.1.bd hx) (by rw [hr1]; exact hr3) (by rw [hr1, hr2]; exact hr4)) ⟨Sr, Sr, Sub.int (by omega), Sr, Sr, trivial⟩ call151) fun u43 => ?_
    refine JL_nil ?_
    refine Jr ?_
    refine Jm rfl ?_
    refine Ja rfl ?_
    refine JL_nil ?_
    refine J_region ?_
    refine Jm rfl ?_
    refine Jm rfl ?_
    refine Js rfl (step_mul Sr Sr ?sg1) ?_
    case sg1 => unfold in64; omega
    refine Js rfl (step_add Sr Sr ?sg1) ?_
    case sg1 => unfold in64; omega
    refine Ja rfl ?_
    refine JL_nil ?_
    refine K_againL (σ := Nat × Nat × LL) (s := (a, b, zs)) (b, b + 40, u43.1) (by first | omega | (dsimp only; omega) | (simp_all; omega)) (hsc.step h40 hbn u43.2.1 u43.2.2) (SubE.upd Sr (SubE.upd Sr (SubE.upd Sr (SubE.upd Sr (SubE.upd Sr (SubE.upd Sr (SubE.upd Sr (SubE.upd Sr (SubE.upd Sr SubE.any))))))))) (LSub.cons (by repeat first | exact .h | apply Sel.skip) (SPs.rfl) (LSub.nil))
   ·
    try simp only [NF] at h35
    refine J_exit ?_
    refine J_seq ?_
    refine Jr ?_
    refine Jm rfl ?_
    refine Jm rfl ?_
    refine Js rfl (step_add Sr Sr ?sg1) ?_
    case sg1 => unfold in64; omega
    refine Ja rfl ?_
    refine JL_nil ?_
    refine Jr ?_
    refine Jm rfl ?_
    refine Jm rfl ?_
    refine Js rfl (step_lss Sr Sr) ?_
    refine JL_nil ?_
    refine J_cond Sr (fun h54 => ?_) (fun h54 => ?_)
    ·
     try simp only [NF] at h54
     obtain ⟨hq1, hq2, hq3⟩ : a = 0 ∧ Srt zs 0 20 ∧ Srt zs 20 xs.length := (by rcases hsc.rest h40 (by omega) (by omega) with h | h; exact h; (exfalso; omega))
     refine J_region ?_
     refine Jm rfl ?_
     refine Jm rfl ?_
     refine Jm rfl ?_
     refine Jm rfl ?_
     refine Jm rfl ?_
     refine JL_stepX rfl rfl rfl (step_call (by repeat first | exact .h | apply Sel.skip) (symMerge_spec v zs a (a + 20) xs.length (by omega) (by omega) (by rw [hsc.1.len]; exact Nat.le_refl _) (by rw [hsc.1.len]; exact hl) (hsc.1.bd hx) (by rw [hq1]; exact hq2) (by rw [hq1]; exact hq3)) ⟨Sr, Sr, Sub.int (by omega), Sr, Sr, trivial⟩ call151) fun u60 => ?_
     refine JL_nil ?_
     refine J_region ?_
     refine Jm rfl ?_
     refine Js rfl (step_mul Sr Sr ?sg1) ?_
     case sg1 => unfold in64; omega
     refine Ja rfl ?_
     refine JL_nil ?_
     refine K_againL (σ := Nat × LL) (s := (bs, ws)) (40, u60.1) (by first | omega | (dsimp only; omega) | (simp_all; omega)) ⟨hsc.1.trans (u60.2.1.wide (Nat.zero_le _) (Nat.le_refl _)), .inr ⟨rfl, fun p q c1 c2 c3 => u60.2.2 p q (by omega) c2 c3⟩⟩ (SubE.upd (Sub.int (by omega)) (SubE.upd Sr (SubE.upd Sr (SubE.upd Sr SubE.any)))) (LSub.cons (by repeat first | exact .h | apply Sel.skip) (SPs.rfl) (LSub.nil))
    ·
     try simp only [NF] at h54
     have hq4 : Srt zs 0 xs.length := (by rcases hsc.rest h40 (by omega) (by omega) with h | h; (exfalso; omega); exact h.2.2)
     refine J_skip ?_
     refine J_region ?_
     refine Jm rfl ?_
     refine Js rfl (step_mul Sr Sr ?sg1) ?_
     case sg1 => unfold in64; omega
     refine Ja rfl ?_
     refine JL_nil ?_
     refine K_againL (σ := Nat × LL) (s := (bs, ws)) (40, zs) (by first | omega | (dsimp only; omega) | (simp_all; omega)) ⟨hsc.1, .inr ⟨rfl, hq4⟩⟩ (SubE.upd (Sub.int (by omega)) (SubE.upd Sr (SubE.upd Sr (SubE.upd Sr SubE.any)))) (LSub.cons (by repeat first | exact .h | apply Sel.skip) (SPs.rfl) (LSub.nil))
  ·
   try simp only [NF] at h30
   refine J_exit ?_
   refine K_end0 rfl (⟨ws, hsb.small h40 (by omega)⟩ : { ys : LL // Mrg xs 0 xs.length ys ∧ Srt ys 0 xs.length }) Sr
open Go Go.Proofs Go.Proofs.Tryz
def cmpN (x y : Int) : Int := if x < y then -1 else if y < x then 1 else 0
def cmpL : List Int → List Int → Int
  | [], [] => 0
  | [], _ :: _ => -1
  | _ :: _, [] => 1
  | x :: l, y :: m => if cmpN x y ≠ 0 then cmpN x y else cmpL l m
theorem cmpL_drop {l m : List Int} {i : Nat} (hi : i < l.length) (hj : i < m.length) : cmpL (l.drop i) (m.drop i) = if cmpN (nth l i) (nth m i) ≠ 0 then cmpN (nth l i) (nth m i) else cmpL (l.drop (i + 1)) (m.drop (i + 1)) := by
  rw [dropB hi, dropB hj]; rfl
theorem cmpL_long {l m : List Int} {i : Nat} (hi : i < l.length) (hj : m.length ≤ i) : cmpL (l.drop i) (m.drop i) = 1 := by
  rw [dropB hi, List.drop_of_length_le hj]; rfl
theorem cmpL_end {l m : List Int} {i : Nat} (hi : l.length ≤ i) : cmpL (l.drop i) (m.drop i) = if i < m.length then -1 else 0 := by
  rw [List.drop_of_length_le hi]
  by_cases h : i < m.length
  · rw [if_pos h, dropB h]; rfl
  · rw [if_neg h, List.drop_of_length_le (by omega)]; rfl
theorem SortStable40_spec (v : Value) (xs : LL) (h40 : xs.length ≤ 40) (hx : ∀ k, (nth xs k).length ≤ 1000000) : Spec (X := { ys : LL // Mrg xs 0 xs.length ys ∧ Srt ys 0 xs.length }) prog 102 [rV.ty v, cmpT] ([own 27 (rSl rInt) v (xs)]) (fun ys => tTup []) (fun ys => [own 27 (rSl rInt) v (ys.1)]) := by
 refine Spec.enter func102 rfl rfl fun h0 w0 fr0 => ?_
 refine J_region ?_
 refine Jm rfl ?_
 refine Jm rfl ?_
 refine Js rfl (step_len_own underlying28 Sr (by repeat first | exact .h | apply Sel.skip)) ?_
 refine Jm rfl ?_
 refine JL_stepX rfl rfl rfl (step_call (by repeat first | exact .h | apply Sel.skip) (stable40_spec v xs h40 (by omega) hx) ⟨Sr, Sr, Sr, trivial⟩ call127) fun u8 => ?_
 refine JL_nil ?_
 refine K_end0 rfl u8 Sr
open Go Go.Proofs Go.Proofs.Tryz
theorem cmpN_vals (x y : Int) : (x < y ∧ cmpN x y = -1) ∨ (x = y ∧ cmpN x y = 0) ∨ (y < x ∧ cmpN x y = 1) := by
  unfold cmpN
  by_cases h : x < y
  · rw [if_pos h]; exact .inl ⟨h, rfl⟩
  · rw [if_neg h]
    by_cases h2 : y < x
    · rw [if_pos h2]; exact .inr (.inr ⟨h2, rfl⟩)
    · rw [if_neg h2]; exact .inr (.inl ⟨by omega, rfl⟩)
theorem cmpL_refl : ∀ l, cmpL l l = 0
  | [] => rfl
  | x :: l => by
    unfold cmpL
    rcases cmpN_vals x x with ⟨h, _⟩ | ⟨_, e⟩ | ⟨h, _⟩
    · omega
    · rw [e, if_neg (by simp)]; exact cmpL_refl l
    · omega
theorem cmpL_eq : ∀ {l m : List Int}, cmpL l m = 0 → l = m
  | [], [], _ => rfl
  | [], _ :: _, h => by simp [cmpL] at h
  | _ :: _, [], h => by simp [cmpL] at h
  | x :: l, y :: m, h => by
    unfold cmpL at h
    rcases cmpN_vals x y with ⟨_, e⟩ | ⟨rfl, e⟩ | ⟨_, e⟩
    · rw [e] at h; simp at h
    · rw [e, if_neg (by simp)] at h; rw [cmpL_eq h]
    · rw [e] at h; simp at h
theorem cmpL_anti : ∀ (l m : List Int), cmpL m l = - cmpL l m
  | [], [] => rfl
  | [], _ :: _ => rfl
  | _ :: _, [] => rfl
  | x :: l, y :: m => by
    unfold cmpL
    rcases cmpN_vals x y with ⟨h, e⟩ | ⟨rfl, e⟩ | ⟨h, e⟩
    · have e2 : cmpN y x = 1 := by rcases cmpN_vals y x with ⟨h2, _⟩ | ⟨h2, _⟩ | ⟨_, e2⟩ <;> first | exact e2 | omega
      rw [e, e2]; simp
    · rw [e, if_neg (by simp), if_neg (by simp)]; exact cmpL_anti l m
    · have e2 : cmpN y x = -1 := by rcases cmpN_vals y x with ⟨_, e2⟩ | ⟨h2, _⟩ | ⟨h2, _⟩ <;> first | exact e2 | omega
      rw [e, e2]; simp
theorem cmpL_trans : ∀ {l m k : List Int}, cmpL l m < 0 → cmpL m k < 0 → cmpL l k < 0
  | [], [], _, h, _ => by simp [cmpL] at h
  | [], _ :: _, [], _, h => by simp [cmpL] at h
  | [], _ :: _, _ :: _, _, _ => by simp [cmpL]
  | _ :: _, [], _, h, _ => by simp [cmpL] at h
  | _ :: _, _ :: _, [], _, h => by simp [cmpL] at h
  | x :: l, y :: m, z :: k, h1, h2 => by
    unfold cmpL at h1 h2 ⊢
    rcases cmpN_vals x y with ⟨a1, e1⟩ | ⟨a1, e1⟩ | ⟨a1, e1⟩ <;> rcases cmpN_vals y z with ⟨a2, e2⟩ | ⟨a2, e2⟩ | ⟨a2, e2⟩ <;> rcases cmpN_vals x z with ⟨a3, e3⟩ | ⟨a3, e3⟩ | ⟨a3, e3⟩ <;> rw [e1] at h1 <;> rw [e2] at h2 <;> rw [e3] <;> simp at h1 h2 ⊢ <;> first | omega | exact cmpL_trans h1 h2
/-! Texts of sets -/
theorem small_no {n : Nat} (h : n < 100) : (32 : Int) ∉ bytesOf (smallB n) := by
  rw [smallB_digits n h]
  split
  · simp; omega
  · simp; omega
theorem small_inj {n m : Nat} (hn : n < 100) (hm : m < 100) (h : bytesOf (smallB n) = bytesOf (smallB m)) : n = m := by
  rw [smallB_digits n hn, smallB_digits m hm] at h
  split at h <;> split at h <;> simp at h <;> omega
theorem nameL_inj : ∀ {l m : List Int}, (∀ x ∈ l, 0 ≤ x ∧ x < 100) → (∀ x ∈ m, 0 ≤ x ∧ x < 100) → nameL l = nameL m → l = m
  | [], [], _, _, _ => rfl
  | [], y :: m, _, _, h => by
    exfalso
    have := congrArg List.length h
    simp [nameL] at this
  | x :: l, [], _, _, h => by
    exfalso
    have := congrArg List.length h
    simp [nameL] at this
  | x :: l, y :: m, hl, hm, h => by
    have hx := hl x (by simp)
    have hy := hm y (by simp)
    simp only [nameL, List.flatMap_cons, List.append_assoc, List.cons_append, List.nil_append] at h
    obtain ⟨e1, e2⟩ := cut_at (small_no (by omega)) (small_no (by omega)) h
    have e3 := small_inj (by omega) (by omega) e1
    have e4 : x = y := by omega
    rw [e4, nameL_inj (fun z hz => hl z (by simp [hz])) (fun z hz => hm z (by simp [hz])) e2]
theorem nameL_rng {l : List Int} (h : ∀ x ∈ l, 0 ≤ x ∧ x < 100) : ∀ c ∈ nameL l, 0 ≤ c ∧ c < 256 := by
  intro c hc
  unfold nameL at hc
  obtain ⟨x, hx, hc⟩ := List.mem_flatMap.1 hc
  rcases List.mem_append.1 hc with hc | hc
  · exact bytesOf_rng _ c hc
  · simp at hc; omega
theorem nameB_inj {l m : List Int} (hl : ∀ x ∈ l, 0 ≤ x ∧ x < 100) (hm : ∀ x ∈ m, 0 ≤ x ∧ x < 100) (h : nameB l = nameB m) : l = m := by
  refine nameL_inj hl hm ?_
  have := congrArg bytesOf h
  unfold nameB at this
  rwa [bytes_of (nameL_rng hl), bytes_of (nameL_rng hm)] at this
open Go Go.Proofs Go.Proofs.Tryz
end Lg
namespace Lg
open Go Go.Proofs Go.Sort
theorem sorted_again {l m : List (List Int)} (hp : m.Perm l) (hl : l.Pairwise fun x y => cmpL x y < 0) (hm : m.Pairwise fun a b => ¬ cmpL b a < 0) : m = l := by
  have hl' : l.Pairwise fun a b => ¬ cmpL b a < 0 := hl.imp fun {a b} h => by rw [cmpL_anti a b]; omega
  refine List.Perm.eq_of_pairwise (le := fun a b => ¬ cmpL b a < 0) (fun a b _ _ h1 h2 => ?_) hm hl' hp
  rw [cmpL_anti a b] at h1
  exact cmpL_eq (by omega)
theorem swo_cmpL : SWO (Go.Proofs.ltOf cmpL) := by
  refine ⟨fun x => by simp [Go.Proofs.ltOf, cmpL_refl], fun x y z h1 h2 => ?_, fun x y z h1 h2 => ?_⟩
  · simp only [Go.Proofs.ltOf, decide_eq_true_eq] at h1 h2 ⊢
    exact cmpL_trans h1 h2
  · simp only [Go.Proofs.ltOf, decide_eq_false_iff_not] at h1 h2 ⊢
    intro h3
    by_cases e1 : cmpL x y = 0
    · rw [cmpL_eq e1] at h3; exact h2 h3
    · by_cases e2 : cmpL y z = 0
      · rw [← cmpL_eq e2] at h3; exact h1 h3
      · have a1 : cmpL y x < 0 := by rw [cmpL_anti x y]; omega
        have a2 : cmpL z y < 0 := by rw [cmpL_anti y z]; omega
        have a3 := cmpL_trans a2 a1
        rw [cmpL_anti x z] at a3; omega
end Lg
namespace Go.Proofs
open Go.Lib
theorem kNaN (x : Int) (w : World) : Calls Tryz.prog 165 #[.int .i64 x] w fun e w' => e = .returned (.bool false) ∧ w' = w := by
  go_enter Tryz.func165, Tryz.ntmps165
  go_wp2
  go_ret
  exact ⟨by simp, rfl⟩
theorem kCmp (x y : Int) (w : World) : Calls Tryz.prog 135 #[.int .i64 x, .int .i64 y] w fun e w' => e = .returned (.int .i64 (Lg.cmpN x y)) ∧ w' = w := by
  go_enter Tryz.func135, Tryz.ntmps135
  go_wp2_with (go_at_call 165; refine (kNaN _ _).mono ?_; rintro e w' ⟨rfl, hw⟩; rw [hw])
  all_goals (go_ret; refine ⟨?_, rfl⟩; unfold Lg.cmpN; (repeat' split) <;> first | rfl | (exfalso; omega))
theorem kRow (xs ys : List Int) (a a' : Option Addr) (c c' : Nat) (w : World) (hbx : xs.length ≤ 1000000) (hby : ys.length ≤ 1000000) (hx : ∀ i, i < xs.length → ∃ b o, a = some ⟨b, o, none⟩ ∧ w.cell? ⟨b, o + i, none⟩ = some (.int .i64 (Lg.nth xs i))) (hy : ∀ i, i < ys.length → ∃ b o, a' = some ⟨b, o, none⟩ ∧ w.cell? ⟨b, o + i, none⟩ = some (.int .i64 (Lg.nth ys i))) :
    Calls Tryz.prog 107 #[.slice a xs.length c, .slice a' ys.length c'] w fun e w' => e = .returned (.int .i64 (Lg.cmpL xs ys)) ∧ ∃ q, w' = w.drewN q := by
  generalize hn : xs.length = n
  generalize hm : ys.length = m
  rw [hn] at hx hbx
  rw [hm] at hy hby
  go_enter Tryz.func107, Tryz.ntmps107
  go_wp2
  go_loopg [5, 6, 7, 8, 11] n (fun gg _ _ _ _ s8 wr => ∃ kk q : Nat, kk ≤ n ∧ n - kk ≤ gg ∧ s8 = .int .i64 kk ∧ wr = w.drewN q ∧ Aside (kk ≤ m ∧ Lg.cmpL xs ys = Lg.cmpL (xs.drop kk) (ys.drop kk)))
  case atStart => exact ⟨0, 0, Nat.zero_le _, by omega, rfl, rfl, Nat.zero_le _, rfl⟩
  case round =>
    obtain ⟨kk, q, hkk, hg, rfl, rfl, A⟩ := hrel
    have hcall := kCmp
    by_cases h1 : kk < n
    · obtain ⟨b, o, ea, gx⟩ := hx kk h1
      by_cases h2 : kk < m
      · obtain ⟨b', o', ea', gy⟩ := hy kk h2
        have hd : Lg.cmpL (xs.drop kk) (ys.drop kk) = _ := Lg.cmpL_drop (l := xs) (m := ys) (i := kk) (by omega) (by omega)
        clear hx hy
        subst ea; subst ea'
        generalize Lg.nth xs kk = x at gx hd
        generalize Lg.nth ys kk = y at gy hd
        have hc := hcall x y
        by_cases h0 : Lg.cmpN x y = 0
        · rw [h0] at hc
          rw [if_neg (by simpa using h0)] at hd
          go_wp2_with (go_at_call 135; refine (hc _).mono ?_; rintro e w' ⟨rfl, hw⟩; rw [hw])
          go_roundg (n - (kk + 1))
          case measure => omega
          case rel => exact ⟨kk + 1, _, by omega, by omega, by go_num, rfl, (show Aside _ from ⟨by omega, A.out.2.trans hd⟩)⟩
        · rw [if_pos h0] at hd
          generalize hz : Lg.cmpN x y = z at hc h0 hd
          go_wp2_with (go_at_call 135; refine (hc _).mono ?_; rintro e w' ⟨rfl, hw⟩; rw [hw])
          go_ret
          refine ⟨?_, _, rfl⟩
          rw [A.out.2, hd]
          rfl
      · clear hx hy
        subst ea
        go_wp2
        go_ret
        refine ⟨?_, _, rfl⟩
        rw [A.out.2, Lg.cmpL_long (by omega) (by omega)]
        rfl
    · clear hx hy
      by_cases h3 : n < m
      · go_wp2
        go_ret
        refine ⟨?_, _, rfl⟩
        rw [A.out.2, Lg.cmpL_end (by omega), if_pos (by omega)]
        rfl
      · go_wp2
        go_ret
        refine ⟨?_, _, rfl⟩
        rw [A.out.2, Lg.cmpL_end (by omega), if_neg (by omega)]
        rfl
theorem cmpL_calls (x y : List Int) (hbx : x.length ≤ 1000000) (hby : y.length ≤ 1000000) (u u' : Value) (h : Lg.PH) (W : World) (hw : h.inw W) (hu : ((Lg.rSl Lg.rInt).ty x).p h u) (hu' : ((Lg.rSl Lg.rInt).ty y).p h u') :
    Calls Tryz.prog 107 #[u, u'] W fun e' w' => e' = .returned (.int .i64 (Lg.cmpL x y)) ∧ ∃ q os, w' = Sort.grow (W.drewN q) os := by
  have key : ∀ (l : List Int) (ao : Option Addr), (l ≠ [] → ∃ b off, ao = some ⟨b, off, none⟩ ∧ ∀ (i : Nat) x, l[i]? = some x → ∃ cs, Lg.Holds h b (off + i * Lg.rInt.k) cs ∧ Lg.rInt.rel h x cs) → ∀ i, i < l.length → ∃ b o, ao = some ⟨b, o, none⟩ ∧ W.cell? ⟨b, o + i, none⟩ = some (.int .i64 (Lg.nth l i)) := by
    intro l ao H i hi
    obtain ⟨b, off, rfl, H'⟩ := H (fun e => by rw [e] at hi; exact absurd hi (Nat.not_lt_zero _))
    obtain ⟨cs, Hc, r⟩ := H' i _ (Lg.gb hi)
    have r : cs = [.int .i64 (Lg.nth l i)] := r
    subst r
    refine ⟨b, off, rfl, ?_⟩
    have := Hc.cell hw (i := 0) (v := .int .i64 (Lg.nth l i)) rfl
    rw [show off + i * Lg.rInt.k + 0 = off + i from by show off + i * 1 + 0 = _; omega] at this
    exact this
  obtain ⟨ao, cap, rfl, H⟩ := hu
  obtain ⟨ao', cap', rfl, H'⟩ := hu'
  refine (kRow x y ao ao' cap cap' W hbx hby (key x ao H) (key y ao' H')).mono ?_
  rintro e w' ⟨he, q, hq⟩
  exact ⟨he, q, #[], by rw [Sort.grow_empty]; exact hq⟩
end Go.Proofs
namespace Lg
open Go Go.Proofs Go.Proofs.Tryz
theorem nth_over {α : Type} [Inhabited α] : ∀ {l : List α} {i : Nat}, l.length ≤ i → nth l i = default
  | [], _, _ => rfl
  | _ :: _, 0, h => absurd h (Nat.not_succ_le_zero _)
  | _ :: l, i + 1, h => nth_over (l := l) (i := i) (by simpa using h)
theorem subB_low (l : List Int) (b i : Nat) (hb : b < 2 ^ i) : subB l (b + 2 ^ i) i = subB l b i := by
  unfold subB
  congr 1
  apply List.filter_congr
  intro j hj
  have hj : j < i := by simpa using hj
  have e : (b + 2 ^ i) / 2 ^ j = b / 2 ^ j + 2 ^ (i - j) := by
    have : 2 ^ i = 2 ^ j * 2 ^ (i - j) := by rw [← Nat.pow_add]; congr 1; omega
    rw [this, Nat.add_mul_div_left _ _ (Nat.two_pow_pos j)]
  rw [e]
  have e2 : 2 ^ (i - j) = 2 * 2 ^ (i - j - 1) := by rw [← Nat.pow_succ']; congr 1; omega
  rw [e2, Nat.add_mul_mod_self_left]
theorem sub_some {l : List Int} : ∀ {i : Nat} {s : List Int}, i ≤ l.length → s.Sublist (l.take i) → ∃ b, b < 2 ^ i ∧ subB l b i = s
  | 0, s, _, h => ⟨0, by simp, by
      have : s = [] := by simpa using h
      rw [this]; rfl⟩
  | i + 1, s, hi, h => by
    rw [takeB (show i < l.length by omega)] at h
    obtain ⟨a, c, rfl, ha, hc⟩ := List.sublist_append_iff.1 h
    obtain ⟨b, hb, e⟩ := sub_some (by omega) ha
    have hc2 : c = [] ∨ c = [nth l i] := by
      rcases c with _ | ⟨x, c⟩
      · exact .inl rfl
      · have hl := hc.length_le
        have hcn : c = [] := by simpa using hl
        subst hcn
        rw [List.singleton_sublist, List.mem_singleton] at hc
        rw [hc]; exact .inr rfl
    rcases hc2 with rfl | rfl
    · refine ⟨b, by rw [Nat.pow_succ]; omega, ?_⟩
      rw [subB_succ, if_neg, e, List.append_nil]
      rw [Nat.div_eq_of_lt hb]; simp
    · refine ⟨b + 2 ^ i, by rw [Nat.pow_succ]; omega, ?_⟩
      have e1 : (b + 2 ^ i) / 2 ^ i = 1 := by rw [Nat.add_div_right _ (Nat.two_pow_pos i), Nat.div_eq_of_lt hb]
      rw [subB_succ, if_pos (by rw [e1]), subB_low l b i hb, e]
theorem mem_subs {l s : List Int} : s.Sublist l → s ∈ subs l := fun h => by
  obtain ⟨b, hb, e⟩ := sub_some (l := l) (i := l.length) (Nat.le_refl _) (by rw [List.take_length]; exact h)
  unfold subs
  exact List.mem_map.2 ⟨b, by simpa using hb, e⟩
theorem subs_sub {l s : List Int} (h : s ∈ subs l) : ∀ x ∈ s, x ∈ l := by
  unfold subs at h
  obtain ⟨b, _, rfl⟩ := List.mem_map.1 h
  exact fun x hx => subB_mem (Nat.le_refl _) hx
/-- f is contained in e. -/
def subL (f e : List Int) : Bool := f.all fun x => decide (x ∈ e)
theorem subL_iff {f e : List Int} : subL f e = true ↔ ∀ x ∈ f, x ∈ e := by simp [subL]
theorem inc_nodup {l : List Int} (h : Inc l) : l.Nodup := h.imp fun {a b} q => by omega
theorem inc_filter {l : List Int} (h : Inc l) (p : Int → Bool) : Inc (l.filter p) := List.Pairwise.sublist (List.filter_sublist) h
theorem inc_ext {f e : List Int} (hf : Inc f) (he : Inc e) (h : ∀ x, x ∈ f ↔ x ∈ e) : f = e :=
  List.Perm.eq_of_pairwise (le := fun a b => a < b) (fun a b _ _ h1 h2 => by omega) hf he ((List.perm_ext_iff_of_nodup (inc_nodup hf) (inc_nodup he)).2 h)
theorem inc_sub {f e : List Int} (hf : Inc f) (he : Inc e) (h : subL f e = true) : f.Sublist e := by
  have h := subL_iff.1 h
  have : f = e.filter (fun x => decide (x ∈ f)) := inc_ext hf (inc_filter he _) fun x => by
    rw [List.mem_filter, decide_eq_true_eq]
    exact ⟨fun q => ⟨h x q, q⟩, fun q => q.2⟩
  rw [this]; exact List.filter_sublist
theorem inc_same {f e : List Int} (hf : Inc f) (he : Inc e) (h : subL f e = true) (hl : e.length ≤ f.length) : f = e :=
  (inc_sub hf he h).eq_of_length_le hl
def abvM (out : LL) (e : List Int) : Bool := out.any fun f => subL f e
def keepM : LL → LL → LL
  | acc, [] => acc
  | acc, e :: l => keepM (if abvM acc e then acc else acc ++ [e]) l
theorem keepM_append : ∀ (l1 l2 acc : LL), keepM acc (l1 ++ l2) = keepM (keepM acc l1) l2
  | [], _, _ => rfl
  | e :: l1, l2, acc => keepM_append l1 l2 _
theorem keepM_take {ys : LL} {i : Nat} (hi : i < ys.length) : keepM [] (ys.take (i + 1)) = if abvM (keepM [] (ys.take i)) (nth ys i) then keepM [] (ys.take i) else keepM [] (ys.take i) ++ [nth ys i] := by
  rw [takeB hi, keepM_append]; rfl
theorem keepM_sub : ∀ (l acc : LL), (keepM acc l).Sublist (acc ++ l)
  | [], acc => by simp [keepM]
  | e :: l, acc => by
    unfold keepM
    split
    · exact (keepM_sub l acc).trans (List.Sublist.append_left (List.sublist_cons_self _ _) _)
    · have := keepM_sub l (acc ++ [e])
      rwa [List.append_assoc] at this
theorem keepM_mem {l : LL} {e : List Int} (h : e ∈ keepM [] l) : e ∈ l := by
  have := (keepM_sub l []).subset h
  simpa using this
theorem keepM_len (l : LL) : (keepM [] l).length ≤ l.length := by
  have := (keepM_sub l []).length_le
  simpa using this
/-- Everything is kept exactly if nothing contains what stands before it. -/
theorem keepM_all : ∀ (l acc : LL), keepM acc l = acc ++ l ↔ (∀ f ∈ acc, ∀ e ∈ l, subL f e = false) ∧ l.Pairwise fun f e => subL f e = false
  | [], acc => by simp [keepM]
  | e :: l, acc => by
    unfold keepM
    by_cases h : abvM acc e = true
    · rw [if_pos h]
      constructor
      · intro q
        have := (keepM_sub l acc).length_le
        rw [q] at this
        simp at this
        omega
      · rintro ⟨h1, _⟩
        exfalso
        unfold abvM at h
        obtain ⟨f, hf, hs⟩ := List.any_eq_true.1 h
        rw [h1 f hf e (by simp)] at hs; cases hs
    · rw [if_neg h]
      have h0 : ∀ f ∈ acc, subL f e = false := fun f hf => by
        cases hs : subL f e with
        | false => rfl
        | true => exact absurd (List.any_eq_true.2 ⟨f, hf, hs⟩) h
      have ih := keepM_all l (acc ++ [e])
      rw [List.append_assoc] at ih
      rw [show acc ++ e :: l = acc ++ ([e] ++ l) by simp, ih]
      constructor
      · rintro ⟨h1, h2⟩
        refine ⟨fun f hf g hg => ?_, List.pairwise_cons.2 ⟨fun g hg => h1 e (by simp) g hg, h2⟩⟩
        rcases List.mem_cons.1 hg with rfl | hg
        · exact h0 f hf
        · exact h1 f (by simp [hf]) g hg
      · rintro ⟨h1, h2⟩
        obtain ⟨h3, h4⟩ := List.pairwise_cons.1 h2
        refine ⟨fun f hf g hg => ?_, h4⟩
        rcases List.mem_append.1 hf with hf | hf
        · exact h1 f hf g (by simp [hg])
        · rw [List.mem_singleton.1 hf]; exact h3 g hg
/-- Edges in order, none of which contains another one. -/
def okE (es : LL) : Prop := (es.Pairwise fun x y => cmpL x y < 0) ∧ es.Pairwise fun f e => subL f e = false ∧ subL e f = false
theorem min_iff {es ys m : LL} (hinc : ∀ e ∈ es, Inc e) (hp : ys.Perm es) (hs : Srt ys 0 ys.length) (hm : m.Perm (keepM [] ys)) (ho : m.Pairwise fun a b => ¬ cmpL b a < 0) : m = es ↔ okE es := by
  have hsym : ∀ {x y : List Int}, (subL x y = false ∧ subL y x = false) → (subL y x = false ∧ subL x y = false) := fun h => ⟨h.2, h.1⟩
  constructor
  · intro he
    subst he
    have hl : (keepM [] ys).length = ys.length := by rw [← hm.length_eq, hp.length_eq]
    have hall : keepM [] ys = ys := by
      have := keepM_sub ys []
      exact this.eq_of_length (by rw [hl]; rfl)
    have h2 := ((keepM_all ys []).1 (by simpa using hall)).2
    have h3 : ys.Pairwise fun f e => subL f e = false ∧ subL e f = false := by
      rw [List.pairwise_iff_getElem] at h2 ⊢
      intro i j hi hj hij
      have h4 := h2 i j hi hj hij
      refine ⟨h4, ?_⟩
      cases h5 : subL ys[j] ys[i] with
      | false => rfl
      | true =>
        exfalso
        have hle := hs i j (Nat.zero_le _) (by omega) hj
        rw [nth_get hi, nth_get hj] at hle
        have e := inc_same (hinc _ (hp.subset (List.getElem_mem hj))) (hinc _ (hp.subset (List.getElem_mem hi))) h5 hle
        rw [e] at h4
        have : subL ys[i] ys[i] = true := subL_iff.2 fun x hx => hx
        rw [h4] at this; cases this
    have h4 := (hp.pairwise_iff (R := fun f e => subL f e = false ∧ subL e f = false) hsym).1 h3
    refine ⟨?_, h4⟩
    have h5 := h4.and ho
    refine h5.imp fun {a b} h => ?_
    obtain ⟨⟨h6, _⟩, h7⟩ := h
    rw [cmpL_anti a b] at h7
    by_cases e : cmpL a b = 0
    · rw [cmpL_eq e] at h6
      have : subL b b = true := subL_iff.2 fun x hx => hx
      rw [h6] at this; cases this
    · omega
  · rintro ⟨h1, h2⟩
    have h3 := (hp.pairwise_iff (R := fun f e => subL f e = false ∧ subL e f = false) hsym).2 h2
    have hall : keepM [] ys = ys := by
      have := (keepM_all ys []).2 ⟨fun f hf => by simp at hf, h3.imp fun {a b} h => h.1⟩
      simpa using this
    rw [hall] at hm
    exact sorted_again (hm.trans hp) h1 ho
/-! The known texts -/
def KnM (m : List (ByteArray × Bool)) (out : LL) : Prop := ∀ s : List Int, (∀ x ∈ s, 0 ≤ x ∧ x < 100) → (mget m (nameB s)).getD false = decide (s ∈ out)
theorem KnM.nil : KnM [] [] := fun s _ => by simp [mget]
theorem KnM.put {m : List (ByteArray × Bool)} {out : LL} (h : KnM m out) {e : List Int} (he : ∀ x ∈ e, 0 ≤ x ∧ x < 100) : KnM (mput m (nameB e) true) (out ++ [e]) := fun s hs => by
  rw [mget_mput]
  by_cases q : nameB s = nameB e
  · rw [if_pos q, nameB_inj hs he q]; simp
  · rw [if_neg q, h s hs]
    have : s ≠ e := fun r => q (by rw [r])
    simp [this]
theorem abv_subs {m : List (ByteArray × Bool)} {out : LL} {e : List Int} (h : KnM m out) (he : Inc e) (hb : ∀ x ∈ e, 0 ≤ x ∧ x < 100) (ho : ∀ f ∈ out, Inc f) : abvM out e = (subs e).any fun s => (mget m (nameB s)).getD false := by
  rw [Bool.eq_iff_iff]
  unfold abvM
  rw [List.any_eq_true, List.any_eq_true]
  constructor
  · rintro ⟨f, hf, hs⟩
    refine ⟨f, mem_subs (inc_sub (ho f hf) he hs), ?_⟩
    rw [h f (fun x hx => hb x (subL_iff.1 hs x hx))]
    simpa using hf
  · rintro ⟨s, hs, hk⟩
    have hsub := subs_sub hs
    rw [h s (fun x hx => hb x (hsub x hx))] at hk
    exact ⟨s, by simpa using hk, subL_iff.2 hsub⟩
open Go Go.Proofs Go.Proofs.Tryz
/-- What is asked of hyper.above at an edge. -/
def AbvOk (e : List Int) : Prop := ∀ (vo vk : Value) (out : LL) (m : List (ByteArray × Bool)), (∀ f ∈ out, Inc f ∧ f.length ≤ 1000000) → KnM m out → out.length ≤ 1000000 →
  Spec (X := Unit) prog 104 [tSl rInt e, rV.ty vo, rV.ty vk] [mapOwn kvS rBool vk m, own 27 (rSl rInt) vo out] (fun _ => tV (.bool (abvM out e))) (fun _ => [mapOwn kvS rBool vk m, own 27 (rSl rInt) vo out])
theorem AbvOk.use {e : List Int} (h : AbvOk e) (vo vk : Value) (out : LL) (m : List (ByteArray × Bool)) (ho : ∀ f ∈ out, Inc f ∧ f.length ≤ 1000000) (hk : KnM m out) (hl : out.length ≤ 1000000) :
    Spec (X := Unit) prog 104 [tSl rInt e, rV.ty vo, rV.ty vk] [mapOwn kvS rBool vk m, own 27 (rSl rInt) vo out] (fun _ => tV (.bool (abvM out e))) (fun _ => [mapOwn kvS rBool vk m, own 27 (rSl rInt) vo out]) := h vo vk out m ho hk hl
theorem snoc_all {α : Type} {xs : List α} {y : α} {p : α → Bool} (h : ∀ x ∈ xs, p x = false) (hy : p y = false) : ∀ x ∈ xs ++ [y], p x = false := fun x hx => by
  rcases List.mem_append.1 hx with hx | hx
  · exact h x hx
  · rw [List.mem_singleton.1 hx]; exact hy
theorem okPre_all {α : Type} {tot xs : List α} (h : xs = tot) {p : α → Bool} (hp : ∀ x ∈ xs, p x = false) : tot.any p = false := by
  subst h; rw [Bool.eq_false_iff]; intro h2
  obtain ⟨x, hx, h3⟩ := List.any_eq_true.1 h2
  rw [hp x hx] at h3; cases h3
set_option maxHeartbeats 1000000 in
theorem aboveK_spec (e : List Int) (hinc : Inc e) (vo vk : Value) (out : LL) (m : List (ByteArray × Bool)) (hl : e.length ≤ 6) (hb : ∀ x ∈ e, 0 ≤ x ∧ x < 100) (hk : KnM m out) (ho : ∀ f ∈ out, Inc f) : Spec (X := Unit) prog 104 [tSl rInt e, rV.ty vo, rV.ty vk] ([mapOwn kvS rBool vk m, own 27 (rSl rInt) vo out]) (fun _ => tV (.bool (abvM out e))) (fun _ => [mapOwn kvS rBool vk m, own 27 (rSl rInt) vo out]) := by
 refine Spec.enter func104 rfl rfl fun h0 w0 fr0 => ?_
 refine Jr ?_
 refine Js rfl (step_box (R := (rSl rInt)) Sr) ?_
 refine JL_stepX rfl rfl rfl (step_box_own (R := rV) Sr) fun v5 => ?_
 refine JL_stepX rfl rfl rfl (step_alloc (fun w => zeroValue4 w) zr4) fun b6 => ?_
 refine JL_nil ?_
 refine J_seq ?_
 refine Jr ?_
 refine Jl rfl ty27 Sr ?_
 refine Js rfl (step_len_sl underlying27 Sr) ?_
 refine Js rfl (step_gtr Sr Sr) ?_
 refine JL_nil ?_
 refine J_cond Sr (fun h10 => ?_) (fun h10 => ?_)
 ·
  try simp only [NF] at h10
  exfalso; omega
 ·
  try simp only [NF] at h10
  refine J_skip ?_
  refine J_seq ?_
  refine J_seq ?_
  refine K_freeze (t := 5) (by repeat first | exact .h | apply Sel.skip) Frz.box ?_
  refine J_region ?_
  refine Jl rfl ty27 Sr ?_
  refine Js rfl (step_call0 (subsets_spec e) ⟨Sr, trivial⟩ call131) ?_
  refine JL_nil ?_
  refine J_block ?_
  refine J_range (A := []) (T := tLi) (Ok := okPre (subs e)) (Fin := fun p => p = subs e) (R := [own 27 (rSl rInt) vo out]) (fun xs => stars [SP.pure (∀ x ∈ xs, (fun s => (mget m (nameB s)).getD false) x = false), mapOwn kvS rBool vk m, box b6 4 rBool false]) (fun c _ => stars [SP.pure (c = .ret ∧ (subs e).any (fun s => (mget m (nameB s)).getD false) = true), mapOwn kvS rBool vk m, box b6 4 rBool true]) rfl (fun _ => rfl) rfl (subs1_spec e hl) Sr call154 (LSub.stars (LSub.pure (fun x hx => by cases hx) (LSub.cons (by repeat first | exact .h | apply Sel.skip) (SPs.rfl) (LSub.cons (by repeat first | exact .h | apply Sel.skip) (SPs.rfl) (LSub.cons (by repeat first | exact .h | apply Sel.skip) (SPs.rfl) (LSub.nil)))))) ?round1 ?done1 ?stop1
  case round1 =>
   intro l1 rec1 h2 w2 fr2 pre y hle1 hst1 hpd1 hdj1 hok
   refine K_stars (K_pure fun hpe => ?_)
   refine J_region ?_
   refine Ja rfl ?_
   refine JL_nil ?_
   refine K_begin hst1 hdj1 ?_
   have hys := okPre_mem hok
   obtain ⟨hyl, hyb⟩ := subs_ok hb hys
   refine J_block ?_
   refine J_seq ?_
   refine J_draw [⟨0, [5], true⟩, ⟨1, [7], true⟩, ⟨2, [18], true⟩, ⟨3, [17, 19], false⟩] rfl (by kernel_rfl) ?_
   refine JM_step rfl rfl rfl rfl (fun _ => step_load_ptr ty135V Sr) ?_
   refine JM_step rfl rfl rfl rfl (fun _ => step_move Sr) ?_
   refine JM_step rfl rfl rfl rfl (fun _ => step_call0 (textS_spec y (by have := hyl; omega) hyb) ⟨Sr, trivial⟩ call105) ?_
   refine JM_look rfl rfl rfl rfl (step_lookup (kv := kvS) (R := rBool) (z := false) (KeyT.str underlying9) underlying135 (fun w => zeroValue4 w) zr4 (Sub.trans Sr Sub.ofRV) Sr (by repeat first | exact .h | apply Sel.skip)) ?_
   refine JM_nil ?_
   refine J_cond Sr (fun h20 => ?_) (fun h20 => ?_)
   ·
    try simp only [NF] at h20
    refine Jr ?_
    refine JL_stepU rfl rfl (step_store_box ty4 Sr Sr (by repeat first | exact .h | apply Sel.skip)) fun _ => ?_
    refine JL_nil ?_
    refine J_ret ?_
    refine K_roundR ?_
    exact LSub.cons (by repeat first | exact .h | apply Sel.skip) SPs.rfl (LSub.stars (LSub.pure ⟨rfl, List.any_eq_true.2 ⟨y, hys, h20⟩⟩ (LSub.cons (by repeat first | exact .h | apply Sel.skip) (SPs.rfl) (LSub.cons (by repeat first | exact .h | apply Sel.skip) (SPs.rfl) (LSub.nil)))))
   ·
    try simp only [NF] at h20
    refine J_skip ?_
    refine K_roundN hst1 hpd1 ?_
    exact LSub.cons (by repeat first | exact .h | apply Sel.skip) SPs.rfl (LSub.stars (LSub.pure (snoc_all hpe h20) (LSub.cons (by repeat first | exact .h | apply Sel.skip) (SPs.rfl) (LSub.cons (by repeat first | exact .h | apply Sel.skip) (SPs.rfl) (LSub.nil)))))
  case done1 =>
   intro D1 xs hfin
   refine K_stars (K_pure fun hpe => ?_)
   have hany := okPre_all hfin hpe
   refine Jr ?_
   refine JL_stepU rfl rfl (step_store_box ty4 Sr Sr (by repeat first | exact .h | apply Sel.skip)) fun _ => ?_
   refine JL_nil ?_
   refine J_ret ?_
   refine K_unmark (LSub.cons (by repeat first | exact .h | apply Sel.skip) SPs.rfl LSub.rfl) ?_
   refine K_ret1' (rv := .cell 6 4) rfl () (by repeat first | exact .h | apply Sel.skip) (.cell ty4 Sr (by repeat first | exact .h | apply Sel.skip) Sr) (Frz.sub (Sub.bool ?_))
   rw [abv_subs hk hinc hb ho, hany]
  case stop1 =>
   intro D1 c1 xs
   refine K_stars (K_pure fun hcc => ?_)
   obtain ⟨rfl, hany⟩ := hcc
   refine J_ret ?_
   refine K_unmark (LSub.cons (by repeat first | exact .h | apply Sel.skip) SPs.rfl LSub.rfl) ?_
   refine K_ret1' (rv := .cell 6 4) rfl () (by repeat first | exact .h | apply Sel.skip) (.cell ty4 Sr (by repeat first | exact .h | apply Sel.skip) Sr) (Frz.sub (Sub.bool ?_))
   rw [abv_subs hk hinc hb ho, hany]
theorem SortCmp_spec (v : Value) (xs : LL) (hx : ∀ e ∈ xs, e.length ≤ 1000000) (hn : xs.length ≤ 1000000) : Spec (X := { ys : LL // ys.Perm xs ∧ ys.Pairwise fun a b => ¬ cmpL b a < 0 }) prog 106 [rV.ty v, tV (.func (.func 107) #[] #[])] [own 27 (rSl rInt) v xs] (fun _ => tTup []) (fun ys => [own 27 (rSl rInt) v ys.1]) := by
  have h := sortFunc_spec (ρ := Tryz.sortK_ren) Tryz.sortK (R := rSl rInt) rfl cmpL swo_cmpL (gf := 107) (e := 27) call107 (fun x => x.length ≤ 1000000) cmpL_calls v xs hx (by omega)
  intro vs h0 m r w ha sp st
  refine (h vs h0 m r w ha sp st).mono ?_
  rintro e w' ⟨⟨ys, hp, hs⟩, u, h', m', rfl, l, s, st', hu⟩
  exact ⟨⟨ys, hp, hs.imp fun {a b} q => by simpa [Go.Proofs.ltOf] using q⟩, u, h', m', rfl, l, s, st', hu⟩
set_option maxHeartbeats 1000000 in
theorem Minimal_spec (es : LL) (h40 : es.length ≤ 40) (he : ∀ e ∈ es, Inc e ∧ e ≠ [] ∧ e.length ≤ 1000000 ∧ (∀ x ∈ e, 0 ≤ x ∧ x < 100) ∧ e.length ≤ 1000000) (hab : ∀ e ∈ es, AbvOk e) : Spec (X := { m : LL // (m = es ↔ okE es) ∧ (∀ e ∈ m, e ∈ es) ∧ m.length ≤ es.length }) prog 67 [tSl (rSl rInt) es] ([]) (fun mm => tSl (rSl rInt) mm.1) (fun mm => []) := by
 refine Spec.enter func67 rfl rfl fun h0 w0 fr0 => ?_
 have hx : ∀ k, (nth es k).length ≤ 1000000 := fun k => by
  by_cases hk : k < es.length
  ·
   exact (he _ (nth_mem hk)).2.2.1
  ·
   rw [nth_over (by omega)]; exact Nat.zero_le _
 refine Jr ?_
 refine Ja rfl ?_
 refine JL_nil ?_
 refine Jr ?_
 refine Ja rfl ?_
 refine JL_nil ?_
 refine J_seq ?_
 refine Jr ?_
 refine Jm rfl ?_
 refine Js rfl (step_len_sl underlying28 Sr) ?_
 refine Jm rfl ?_
 refine JL_nil ?_
 refine J_block ?_
 refine J_loopL (σ := Nat × Value) (fun ⟨i, v⟩ => i ≤ es.length) (fun ⟨i, v⟩ => upd (upd (upd (upd (upd env0 2 (tV (.slice none 0 0))) 3 (rV.ty v)) 10 (tSl (rSl rInt) es)) 11 (tV (.int .i64 es.length))) 12 (tV (.int .i64 i))) (fun ⟨i, v⟩ => [own 27 (rSl rInt) v (es.take i)]) (fun ⟨i, v⟩ => es.length - i) (0, .slice none 0 0) (Nat.zero_le _) (SubE.upd Sr (SubE.upd Sr (SubE.upd Sr (SubE.upd (Sub.rV rfl) (SubE.upd Sr SubE.any))))) (LSub.nilown) ?_
 rintro ⟨i, v⟩ hi
 try dsimp only at hi
 refine Jr ?_
 refine Js rfl (step_lss Sr Sr) ?_
 refine JL_nil ?_
 refine J_seq ?_
 refine J_cond Sr (fun h13 => ?_) (fun h13 => ?_)
 ·
  try simp only [NF] at h13
  have hlt : i < es.length := by omega
  obtain ⟨hinc, hne, hl6, hb, _⟩ := he _ (nth_mem hlt)
  have hnl := ne_len hne
  refine J_skip ?_
  refine J_seq ?_
  refine J_block ?_
  refine Jr ?_
  refine Js rfl (step_indexAddr_sl  underlying28 ty27 Sr Sr rfl (gb ?sg1)) ?_
  case sg1 => exact hlt
  refine Jl rfl ty27 Sr ?_
  refine Ja rfl ?_
  refine JL_nil ?_
  refine Jr ?_
  refine Jm rfl ?_
  refine Js rfl (step_len_sl underlying27 Sr) ?_
  refine Js rfl (step_gtr Sr Sr) ?_
  refine JL_nil ?_
  refine J_cond Sr (fun h18 => ?_) (fun h18 => ?_)
  ·
   try simp only [NF] at h18
   refine J_region ?_
   refine Jm rfl ?_
   refine Jm rfl ?_
   refine Js rfl (step_call0 (setL_spec _ hinc (by omega)) ⟨Sr, trivial⟩ call101) ?_
   refine Js rfl (step_literal (ys := [_]) underlying28 el27 ⟨rfl, Sr, trivial⟩ rfl (by decide)) ?_
   refine JL_stepX rfl rfl rfl (step_append underlying28 el27 Sr Sr (by repeat first | exact .h | apply Sel.skip) (by simp; omega) (by simp; omega)) fun u23 => ?_
   refine Ja rfl ?_
   refine JL_nil ?_
   refine J_region ?_
   refine Js rfl (step_add Sr Sr ?sg1) ?_
   case sg1 => unfold in64; omega
   refine Jm rfl ?_
   refine JL_nil ?_
   refine K_againL (σ := Nat × Value) (s := (i, v)) (i + 1, u23) (by first | omega | (dsimp only; omega) | (simp_all; omega)) (by simp; omega) (SubE.upd Sr (SubE.upd Sr (SubE.upd Sr (SubE.upd Sr (SubE.upd Sr SubE.any))))) (LSub.cons (by repeat first | exact .h | apply Sel.skip) (SPs.of (by rw [takeB hlt])) (LSub.nil))
  ·
   try simp only [NF] at h18
   exfalso; omega
 ·
  try simp only [NF] at h13
  refine J_exit ?_
  refine J_seq ?_
  refine K_lsub (L' := [own 27 (rSl rInt) v es]) (LSub.cons (by repeat first | exact .h | apply Sel.skip) (SPs.of (by rw [List.take_of_length_le (by omega)])) (LSub.nil)) ?_
  refine J_region ?_
  refine Jm rfl ?_
  refine JL_stepX rfl rfl rfl (step_call (by repeat first | exact .h | apply Sel.skip) (SortStable40_spec v es h40 hx) ⟨Sr, Sr, trivial⟩ call102) fun ys => ?_
  refine JL_nil ?_
  have hyp := ys.2.1.perm
  have hyl := hyp.length_eq
  have hys : Srt ys.1 0 ys.1.length := by rw [hyl]; exact ys.2.2
  refine Jr ?_
  refine JL_stepX rfl rfl rfl (step_makeMapV (kv := kvS) (R := rBool)) fun v6 => ?_
  refine Ja rfl ?_
  refine JL_nil ?_
  refine Jr ?_
  refine Ja rfl ?_
  refine JL_nil ?_
  refine J_seq ?_
  refine Jr ?_
  refine Jm rfl ?_
  refine Js rfl (step_len_own underlying28 Sr (by repeat first | exact .h | apply Sel.skip)) ?_
  refine Jm rfl ?_
  refine JL_nil ?_
  refine J_block ?_
  refine J_loopL (σ := Nat × Value × List (ByteArray × Bool)) (fun ⟨i, vo, m⟩ => i ≤ ys.1.length ∧ KnM m (keepM [] (ys.1.take i))) (fun ⟨i, vo, m⟩ => upd (upd (upd (upd (upd (upd env0 2 (tV (.slice none 0 0))) 6 (rV.ty v6)) 7 (rV.ty vo)) 28 (rV.ty v)) 29 (tV (.int .i64 ys.1.length))) 30 (tV (.int .i64 i))) (fun ⟨i, vo, m⟩ => [own 27 (rSl rInt) v ys.1, mapOwn kvS rBool v6 m, own 27 (rSl rInt) vo (keepM [] (ys.1.take i))]) (fun ⟨i, vo, m⟩ => ys.1.length - i) (0, .slice none 0 0, []) ⟨Nat.zero_le _, KnM.nil⟩ (SubE.upd Sr (SubE.upd Sr (SubE.upd Sr (SubE.upd (Sub.rV rfl) (SubE.upd Sr (SubE.upd Sr SubE.any)))))) (LSub.trans LSub.nilown (LSub.cons (by repeat first | exact .h | apply Sel.skip) (SPs.rfl) (LSub.cons (by repeat first | exact .h | apply Sel.skip) (SPs.of rfl) (LSub.cons (by repeat first | exact .h | apply Sel.skip) (SPs.rfl) (LSub.nil))))) ?_
  rintro ⟨i, vo, m⟩ ⟨hi, hm⟩
  refine Jr ?_
  refine Js rfl (step_lss Sr Sr) ?_
  refine JL_nil ?_
  refine J_seq ?_
  refine J_cond Sr (fun h31 => ?_) (fun h31 => ?_)
  ·
   try simp only [NF] at h31
   have hlt : i < ys.1.length := by omega
   have hym := hyp.subset (nth_mem hlt)
   obtain ⟨hinc, hne, hl6, hb, _⟩ := he _ hym
   have hkl := keepM_len (ys.1.take i)
   have htl : (ys.1.take i).length ≤ i := List.length_take_le _ _
   refine J_skip ?_
   refine J_seq ?_
   refine J_block ?_
   refine Jr ?_
   refine Js rfl (step_indexAddr_own  underlying28 ty27 Sr (by repeat first | exact .h | apply Sel.skip) Sr rfl ?sg1) ?_
   case sg1 => exact hlt
   refine Js rfl (step_load_own ty27 Sr (by repeat first | exact .h | apply Sel.skip) (gb ?sg1)) ?_
   case sg1 => first | assumption | omega
   refine Ja rfl ?_
   refine JL_nil ?_
   refine Jr ?_
   refine Jm rfl ?_
   refine Jm rfl ?_
   refine Jm rfl ?_
   refine JL_stepX rfl rfl rfl (step_call (Sel.skip (Sel.take (Sel.take (Sel.none _)))) (AbvOk.use (hab _ hym) vo v6 (keepM [] (ys.1.take i)) m (fun f hf => ⟨(he _ (hyp.subset (List.mem_of_mem_take (keepM_mem hf)))).1, (he _ (hyp.subset (List.mem_of_mem_take (keepM_mem hf)))).2.2.1⟩) hm (by omega)) ⟨Sr, Sr, Sr, trivial⟩ call104) fun v37 => ?_
   refine Js rfl (step_not Sr) ?_
   refine JL_nil ?_
   refine J_cond Sr (fun h38 => ?_) (fun h38 => ?_)
   ·
    try simp only [NF] at h38
    refine Jr ?_
    refine Jm rfl ?_
    refine Jm rfl ?_
    refine Js rfl (step_call0 (textS_spec _ (by omega) hb) ⟨Sr, trivial⟩ call105) ?_
    refine JL_stepU rfl rfl (step_mapUpdate (kv := kvS) (R := rBool) (KeyT.str underlying9) underlying135 Sub.ofRV Sr Sr (by repeat first | exact .h | apply Sel.skip)) fun _ => ?_
    refine JL_nil ?_
    refine J_region ?_
    refine Jm rfl ?_
    refine Jm rfl ?_
    refine Js rfl (step_literal (ys := [_]) underlying28 el27 ⟨rfl, Sr, trivial⟩ rfl (by decide)) ?_
    refine JL_stepX rfl rfl rfl (step_append underlying28 el27 Sr Sr (by repeat first | exact .h | apply Sel.skip) (by simp; omega) (by simp; omega)) fun u45 => ?_
    refine Ja rfl ?_
    refine JL_nil ?_
    refine J_region ?_
    refine Js rfl (step_add Sr Sr ?sg1) ?_
    case sg1 => unfold in64; omega
    refine Jm rfl ?_
    refine JL_nil ?_
    refine K_againL (σ := Nat × Value × List (ByteArray × Bool)) (s := (i, vo, m)) (i + 1, u45, _) (by first | omega | (dsimp only; omega) | (simp_all; omega)) ?_ (SubE.upd Sr (SubE.upd Sr (SubE.upd Sr (SubE.upd Sr (SubE.upd Sr (SubE.upd Sr SubE.any)))))) (LSub.cons (by repeat first | exact .h | apply Sel.skip) (SPs.rfl) (LSub.cons (by repeat first | exact .h | apply Sel.skip) (SPs.rfl) (LSub.cons (by repeat first | exact .h | apply Sel.skip) (SPs.of (by rw [keepM_take hlt, if_neg (by rw [h38]; simp)])) (LSub.nil))))
    have hk2 := keepM_take hlt
    rw [if_neg (by rw [h38]; simp)] at hk2
    exact ⟨hlt, by rw [hk2]; exact hm.put hb⟩
   ·
    try simp only [NF] at h38
    refine J_skip ?_
    refine J_region ?_
    refine Js rfl (step_add Sr Sr ?sg1) ?_
    case sg1 => unfold in64; omega
    refine Jm rfl ?_
    refine JL_nil ?_
    refine K_againL (σ := Nat × Value × List (ByteArray × Bool)) (s := (i, vo, m)) (i + 1, vo, m) (by first | omega | (dsimp only; omega) | (simp_all; omega)) ?_ (SubE.upd Sr (SubE.upd Sr (SubE.upd Sr (SubE.upd Sr (SubE.upd Sr (SubE.upd Sr SubE.any)))))) (LSub.cons (by repeat first | exact .h | apply Sel.skip) (SPs.rfl) (LSub.cons (by repeat first | exact .h | apply Sel.skip) (SPs.rfl) (LSub.cons (by repeat first | exact .h | apply Sel.skip) (SPs.of (by rw [keepM_take hlt, if_pos h38])) (LSub.nil))))
    have hk2 := keepM_take hlt
    rw [if_pos h38] at hk2
    exact ⟨hlt, by rw [hk2]; exact hm⟩
  ·
   try simp only [NF] at h31
   refine J_exit ?_
   refine J_seq ?_
   refine K_lsub (L' := [own 27 (rSl rInt) v ys.1, mapOwn kvS rBool v6 m, own 27 (rSl rInt) vo (keepM [] ys.1)]) (LSub.cons (by repeat first | exact .h | apply Sel.skip) (SPs.rfl) (LSub.cons (by repeat first | exact .h | apply Sel.skip) (SPs.rfl) (LSub.cons (by repeat first | exact .h | apply Sel.skip) (SPs.of (by rw [List.take_of_length_le (by omega)])) (LSub.nil)))) ?_
   refine J_region ?_
   refine Jm rfl ?_
   refine JL_stepX rfl rfl rfl (step_call (by repeat first | exact .h | apply Sel.skip) (SortCmp_spec vo (keepM [] ys.1) (fun e h => (he _ (hyp.subset (keepM_mem h))).2.2.1) (by have := keepM_len ys.1; omega)) ⟨Sr, Sr, trivial⟩ call106) fun zs => ?_
   refine JL_nil ?_
   refine Jr ?_
   refine Jm rfl ?_
   refine Ja rfl ?_
   refine JL_nil ?_
   refine J_ret ?_
   refine K_ret1' (rv := .tmp 2) rfl ⟨zs.1, min_iff (fun e h => (he e h).1) hyp hys zs.2.1 zs.2.2, fun e h => hyp.subset (keepM_mem (zs.2.1.subset h)), by have h1 := zs.2.1.length_eq; have h2 := keepM_len ys.1; omega⟩ (Sel.all _) (.tmp Sr) Frz.own
theorem isSet_ok {l : List Int} {n : Int} (h : isSetM l n = true) : Inc l ∧ ∀ x ∈ l, 0 ≤ x ∧ x < n := by
  unfold isSetM at h
  rw [List.all_eq_true] at h
  have h1 : ∀ i, i < l.length → (0 ≤ nth l i ∧ nth l i < n) ∧ (i = 0 ∨ nth l (i - 1) < nth l i) := fun i hi => by
    have := h i (List.mem_range.2 hi)
    simpa using this
  constructor
  · refine List.pairwise_iff_getElem.2 fun i j hi hj hij => ?_
    rw [← nth_get hi, ← nth_get hj]
    induction j with
    | zero => omega
    | succ j ih =>
      have h2 := (h1 (j + 1) hj).2
      rcases h2 with h2 | h2
      · omega
      · simp at h2
        by_cases e : i = j
        · subst e; exact h2
        · have := ih (by omega) (by omega); omega
  · intro x hx
    obtain ⟨i, hi, rfl⟩ := List.getElem_of_mem hx
    rw [← nth_get hi]; exact (h1 i hi).1
open Classical in
/-- A graph as hyper.Valid has it. -/
noncomputable def validG (g : GGraph) : Bool := validG1 g && decide (okE g.Edges)
theorem edges_all {g : GGraph} (hN : g.N ≤ 100) (hl : ∀ e ∈ g.Edges, e.length ≤ 1000) (hv : ∀ k, k < g.Edges.length → (!decide ((nth g.Edges k).length = 0) && isSetM (nth g.Edges k) g.N) = true) :
    ∀ e ∈ g.Edges, Inc e ∧ e ≠ [] ∧ e.length ≤ 1000000 ∧ (∀ x ∈ e, 0 ≤ x ∧ x < 100) ∧ e.length ≤ 1000000 := fun e he => by
  obtain ⟨i, hi, rfl⟩ := List.getElem_of_mem he
  have h := hv i hi
  rw [nth_get hi] at h
  simp only [Bool.and_eq_true, Bool.not_eq_true', decide_eq_false_iff_not] at h
  obtain ⟨h1, h2⟩ := isSet_ok h.2
  have h3 := hl _ he
  exact ⟨h1, fun q => h.1 (by rw [q]; rfl), by omega, fun x hx => by have := h2 x hx; omega, by omega⟩
theorem AbvOk.small {e : List Int} (hl : e.length ≤ 6) (hinc : Inc e) (hb : ∀ x ∈ e, 0 ≤ x ∧ x < 100) : AbvOk e := fun vo vk out m ho hk _ => aboveK_spec e hinc vo vk out m hl hb hk (fun f hf => (ho f hf).1)
set_option maxHeartbeats 1000000 in
theorem hValid_spec (g : GGraph) (h40 : g.Edges.length ≤ 40) (hl : ∀ e ∈ g.Edges, e.length ≤ 1000) (hN : g.N ≤ 100) (hc : g.Cost.length ≤ 1000000000) (hab : ∀ e ∈ g.Edges, Inc e → (∀ x ∈ e, 0 ≤ x ∧ x < 100) → AbvOk e) : Fun1 prog 39 [rGraph.ty g] (tV (.bool (validG g))) := by
 refine Spec.enter func39 rfl rfl fun h0 w0 fr0 => ?_
 refine Jr ?_
 refine Js rfl (step_box (R := rGraph) Sr) ?_
 refine Ja rfl ?_
 refine JL_nil ?_
 refine J_seq ?_
 refine Jr ?_
 refine Js rfl (step_fieldAddr so30 Sr rfl) ?_
 refine Jl rfl ty3 Sr ?_
 refine Js rfl (step_fieldAddr so30 Sr rfl) ?_
 refine Jl rfl ty27 Sr ?_
 refine Js rfl (step_call0 (weighed_spec g.N g.Cost (by omega)) ⟨Sr, Sr, trivial⟩ call64) ?_
 refine Js rfl (step_not Sr) ?_
 refine Jm rfl ?_
 refine JL_stepG rfl rfl rfl (Gd.plain Sr) rfl rfl (fun hw => step_fieldAddr so30 Sr rfl) ?_
 refine JL_stepG rfl rfl rfl (Gd.plain Sr) rfl rfl (fun hw => step_load_ptr ty28 (Sub.w hw)) ?_
 refine JL_stepG rfl rfl rfl (Gd.plain Sr) rfl rfl (fun hw => step_len_sl underlying28 (Sub.w hw)) ?_
 refine JL_stepG rfl rfl rfl (Gd.plain Sr) rfl rfl (fun hw => step_gtr (Sub.w hw) Sr) ?_
 refine Js rfl (step_pick_or Sr Sr) ?_
 refine JL_nil ?_
 refine J_cond Sr (fun h16 => ?_) (fun h16 => ?_)
 ·
  try simp only [NF] at h16
  refine Jr ?_
  refine Ja rfl ?_
  refine JL_nil ?_
  refine J_ret ?_
  refine K_ret1 (t := 2) rfl () ?_
  refine Sub.bool ?_
  unfold validG; rcases h16 with h16 | h16
  ·
   simp [validG1, h16]
  ·
   exfalso; omega
 ·
  try simp only [NF] at h16
  refine J_skip ?_
  refine J_seq ?_
  refine Jr ?_
  refine Js rfl (step_fieldAddr so30 Sr rfl) ?_
  refine Jl rfl ty28 Sr ?_
  refine Js rfl (step_len_sl underlying28 Sr) ?_
  refine Jm rfl ?_
  refine JL_nil ?_
  refine J_block ?_
  refine J_loopL (σ := Nat) (fun i => i ≤ g.Edges.length ∧ ∀ k, k < i → (!decide ((nth g.Edges k).length = 0) && isSetM (nth g.Edges k) g.N) = true) (fun i => upd (upd (upd (upd env0 1 (tPtr rGraph g)) 18 (tSl (rSl rInt) g.Edges)) 19 (tV (.int .i64 g.Edges.length))) 20 (tV (.int .i64 i))) (fun i => []) (fun i => g.Edges.length - i) 0 ⟨Nat.zero_le _, fun k hk => by omega⟩ (SubE.upd Sr (SubE.upd Sr (SubE.upd Sr (SubE.upd Sr SubE.any)))) (LSub.rfl) ?_
  rintro i ⟨hi, hv⟩
  refine Jr ?_
  refine Js rfl (step_lss Sr Sr) ?_
  refine JL_nil ?_
  refine J_seq ?_
  refine J_cond Sr (fun h21 => ?_) (fun h21 => ?_)
  ·
   try simp only [NF] at h21
   have hlt : i < g.Edges.length := by omega
   have hle := hl _ (nth_mem hlt)
   refine J_skip ?_
   refine J_seq ?_
   refine J_block ?_
   refine Jr ?_
   refine Js rfl (step_indexAddr_sl  underlying28 ty27 Sr Sr rfl (gb ?sg1)) ?_
   case sg1 => exact hlt
   refine Jl rfl ty27 Sr ?_
   refine Ja rfl ?_
   refine JL_nil ?_
   refine Jr ?_
   refine Jm rfl ?_
   refine Js rfl (step_len_sl underlying27 Sr) ?_
   refine Js rfl (step_eql Sr Sr) ?_
   refine Jm rfl ?_
   refine JL_stepG rfl rfl rfl (Gd.plain Sr) rfl rfl (fun hw => step_move Sr) ?_
   refine JL_stepG rfl rfl rfl (Gd.plain Sr) rfl rfl (fun hw => step_fieldAddr so30 Sr rfl) ?_
   refine JL_stepG rfl rfl rfl (Gd.plain Sr) rfl rfl (fun hw => step_load_ptr ty3 (Sub.w hw)) ?_
   refine JL_stepG rfl rfl rfl (Gd.plain Sr) rfl rfl (fun hw => step_call0 (isSet_spec _ _ (by omega)) ⟨(Sub.w hw), (Sub.w hw), trivial⟩ call65) ?_
   refine JL_stepG rfl rfl rfl (Gd.plain Sr) rfl rfl (fun hw => step_not (Sub.w hw)) ?_
   refine Js rfl (step_pick_or Sr Sr) ?_
   refine JL_nil ?_
   refine J_cond Sr (fun h33 => ?_) (fun h33 => ?_)
   ·
    try simp only [NF] at h33
    refine Jr ?_
    refine Ja rfl ?_
    refine JL_nil ?_
    refine J_ret ?_
    refine K_ret1 (t := 2) rfl () ?_
    refine Sub.bool ?_
    have h2 := rall_f (f := fun i => (!decide ((nth g.Edges i).length = 0) && isSetM (nth g.Edges i) g.N)) hlt (by rcases h33 with h33 | h33 <;> (first | (rw [h33, Bool.and_false]) | simp [show (nth g.Edges i).length = 0 by omega]))
    unfold validG validG1; rw [h2, Bool.and_false]; rfl
   ·
    try simp only [NF] at h33
    refine J_skip ?_
    refine J_region ?_
    refine Js rfl (step_add Sr Sr ?sg1) ?_
    case sg1 => unfold in64; omega
    refine Jm rfl ?_
    refine JL_nil ?_
    refine K_againL (σ := Nat) (s := i) (i + 1) (by first | omega | (dsimp only; omega) | (simp_all; omega)) ?_ (SubE.upd Sr (SubE.upd Sr (SubE.upd Sr (SubE.upd Sr SubE.any)))) (LSub.rfl)
    refine ⟨by omega, fun k hk => ?_⟩
    by_cases e : k = i
    ·
     subst e; simp_all
    ·
     exact hv k (by omega)
  ·
   try simp only [NF] at h21
   have hall := edges_all (g := g) hN hl (fun k hk => hv k (by omega))
   refine J_exit ?_
   refine J_seq ?_
   refine J_draw [⟨0, [1], true⟩, ⟨1, [35], true⟩, ⟨3, [1], true⟩, ⟨4, [38], true⟩, ⟨2, [36], false⟩, ⟨5, [37, 39], true⟩, ⟨6, [40], true⟩] rfl (by kernel_rfl) ?_
   refine JM_step rfl rfl rfl rfl (fun _ => step_fieldAddr so30 Sr rfl) ?_
   refine JM_step rfl rfl rfl rfl (fun _ => step_load_ptr ty28 Sr) ?_
   refine JM_step rfl rfl rfl rfl (fun _ => step_fieldAddr so30 Sr rfl) ?_
   refine JM_step rfl rfl rfl rfl (fun _ => step_load_ptr ty28 Sr) ?_
   refine JM_stepX rfl rfl rfl rfl (step_call (Sel.none _) (Minimal_spec g.Edges h40 hall (fun e he => hab e he (hall e he).1 (hall e he).2.2.2.1)) ⟨Sr, trivial⟩ call67) fun mm => ?_
   refine JM_step rfl rfl rfl rfl (fun _ => step_call0 (EqualFuncL_spec mm.1 g.Edges (by have := mm.2.2.2; omega) (by omega) (fun e he => by have := hl e (mm.2.2.1 e he); omega) (fun e he => by have := hl e he; omega)) ⟨Sr, Sr, Sr, trivial⟩ call66) ?_
   refine JM_step rfl rfl rfl rfl (fun _ => step_assign Sr) ?_
   refine JM_nil ?_
   refine J_ret ?_
   refine K_ret1 (t := 2) rfl () ?_
   refine Sub.bool ?_
   have h2 := rall_t (n := g.Edges.length) (f := fun i => (!decide ((nth g.Edges i).length = 0) && isSetM (nth g.Edges i) g.N)) (fun k hk => hv k (by omega))
   unfold validG validG1; rw [h2, h16.1]
   simp [mm.2.1]
open Go Go.Proofs Go.Proofs.Tryz
def edgesAt (es : LL) (v : Nat) : List Int := ((List.range es.length).filter fun i => decide ((v : Int) ∈ nth es i)).map fun (i : Nat) => (i : Int)
def cntE (p : Nat → Bool) (e : List Int) : Int := ((e.countP fun v => p v.toNat : Nat) : Int)
def cntL (es : LL) (p : Nat → Bool) : List Int := es.map (cntE p)
def blkdM (es : LL) (inn : List Bool) (v : Nat) : Bool := (edgesAt es v).any fun e => decide (nth (cntL es (nth inn)) e.toNat = ((nth es e.toNat).length : Int) - 1)
def outP (inn : List Bool) (v u : Nat) : Bool := decide (u < v) && !nth inn u
def possM (es : LL) (out : List Int) (w : Nat) : Bool := (edgesAt es w).any fun e => decide (nth out e.toNat = 1)
def keepO (es : LL) (inn : List Bool) (v : Nat) : Bool := (List.range (v + 1)).all fun w => nth inn w || possM es (cntL es (outP inn (v + 1))) w
def setM (inn : List Bool) : List Int := ((List.range inn.length).filter (nth inn)).map fun (i : Nat) => (i : Int)
def visM (es : LL) : Nat → Nat → List Bool → LL
  | 0, _, inn => [setM inn]
  | n + 1, v, inn => (if blkdM es inn v then [] else visM es n (v + 1) (inn.set v true)) ++ if keepO es inn v then visM es n (v + 1) inn else []
def allM (n : Nat) (es : LL) : LL := visM es n 0 (List.replicate n false)
theorem vis_len (es : LL) : ∀ n v inn, (visM es n v inn).length ≤ 2 ^ n
  | 0, _, _ => by simp [visM]
  | n + 1, v, inn => by
    unfold visM
    have h1 := vis_len es n (v + 1) (inn.set v true)
    have h2 := vis_len es n (v + 1) inn
    rw [List.length_append, Nat.pow_succ]
    split <;> split <;> simp <;> omega
/-! Which sets are found -/
def cutB (S : List Bool) (v : Nat) : List Bool := (List.range S.length).map fun i => decide (i < v) && nth S i
theorem nth_range_map {β : Type} [Inhabited β] {n : Nat} {f : Nat → β} {i : Nat} (h : i < n) : nth ((List.range n).map f) i = f i := by
  rw [nth_get (by simpa using h)]; simp
theorem cut_nth (S : List Bool) (v i : Nat) : nth (cutB S v) i = (decide (i < v) && nth S i) := by
  by_cases h : i < S.length
  · unfold cutB; rw [nth_range_map h]
  · rw [nth_over (by simpa [cutB] using h), nth_over (by omega)]
    show false = _
    exact (Bool.and_false _).symm
theorem cut_len (S : List Bool) (v : Nat) : (cutB S v).length = S.length := by simp [cutB]
theorem list_ext {α : Type} [Inhabited α] {l m : List α} (h : l.length = m.length) (hn : ∀ i, i < l.length → nth l i = nth m i) : l = m := by
  apply List.ext_getElem h
  intro i h1 h2
  have := hn i h1
  rwa [nth_get h1, nth_get h2] at this
theorem cut_all {S : List Bool} {v : Nat} (h : S.length ≤ v) : cutB S v = S := list_ext (cut_len S v) fun i hi => by
  rw [cut_nth]
  have : i < v := by rw [cut_len] at hi; omega
  simp [this]
theorem cut_succ_t {S : List Bool} {v : Nat} (hv : v < S.length) (h : nth S v = true) : cutB S (v + 1) = (cutB S v).set v true := list_ext (by simp [cut_len]) fun i hi => by
  rw [nth_setB (by rw [cut_len] at hi ⊢; exact hi), cut_nth, cut_nth]
  by_cases e : v = i
  · subst e; simp [h]
  · rw [if_neg e]
    have : (i < v + 1) ↔ (i < v) := by omega
    simp [this]
theorem cut_succ_f {S : List Bool} {v : Nat} (h : nth S v = false) : cutB S (v + 1) = cutB S v := list_ext (by simp [cut_len]) fun i hi => by
  rw [cut_nth, cut_nth]
  by_cases e : i = v
  · subst e; simp [h]
  · have : (i < v + 1) ↔ (i < v) := by omega
    simp [this]
def StpO (es : LL) (S : List Bool) (u : Nat) : Prop := if nth S u = true then blkdM es (cutB S u) u = false else keepO es (cutB S u) u = true
theorem vis_mem {es : LL} {N : Nat} : ∀ (n v : Nat) (inn : List Bool) (r : List Int), inn.length = N → v + n = N → (∀ u, v ≤ u → nth inn u = false) → r ∈ visM es n v inn →
    ∃ S : List Bool, S.length = N ∧ r = setM S ∧ cutB S v = inn ∧ ∀ u, v ≤ u → u < N → StpO es S u
  | 0, v, inn, r, hl, hv, h0, hr => by
    rw [visM, List.mem_singleton] at hr
    exact ⟨inn, hl, hr, cut_all (by omega), fun u h1 h2 => by omega⟩
  | n + 1, v, inn, r, hl, hv, h0, hr => by
    unfold visM at hr
    rcases List.mem_append.1 hr with h | h
    · by_cases hb : blkdM es inn v = true
      · rw [if_pos hb] at h; cases h
      · rw [if_neg hb] at h
        obtain ⟨S, h1, h2, h3, h4⟩ := vis_mem n (v + 1) (inn.set v true) r (by simpa using hl) (by omega) (fun u hu => by
          by_cases hul : u < N
          · rw [nth_setB (by omega), if_neg (by omega)]; exact h0 u (by omega)
          · rw [nth_over (by rw [List.length_set]; omega)]; rfl) h
        have hS : nth S v = true := by
          have := cut_nth S (v + 1) v
          rw [h3, nth_setB (by omega)] at this
          simpa using this.symm
        have h5 : cutB S v = inn := list_ext (by rw [cut_len]; omega) fun i hi => by
          rw [cut_len] at hi
          have h6 := cut_nth S (v + 1) i
          rw [h3, nth_setB (by omega)] at h6
          rw [cut_nth]
          by_cases e : v = i
          · subst e; rw [h0 v (Nat.le_refl _)]; simp
          · rw [if_neg e] at h6
            rw [h6]
            have : (i < v + 1) ↔ (i < v) := by omega
            simp [this]
        refine ⟨S, h1, h2, h5, fun u hu hun => ?_⟩
        by_cases e : u = v
        · subst e
          unfold StpO
          rw [if_pos hS, h5]; exact Bool.eq_false_iff.2 hb
        · exact h4 u (by omega) hun
    · by_cases hb : keepO es inn v = true
      · rw [if_pos hb] at h
        obtain ⟨S, h1, h2, h3, h4⟩ := vis_mem n (v + 1) inn r hl (by omega) (fun u hu => h0 u (by omega)) h
        have hS : nth S v = false := by
          have := cut_nth S (v + 1) v
          rw [h3, h0 v (Nat.le_refl _)] at this
          simpa using this.symm
        have h5 : cutB S v = inn := by rw [← cut_succ_f hS]; exact h3
        refine ⟨S, h1, h2, h5, fun u hu hun => ?_⟩
        by_cases e : u = v
        · subst e
          unfold StpO
          rw [if_neg (by rw [hS]; simp), h5]; exact hb
        · exact h4 u (by omega) hun
      · rw [if_neg hb] at h; cases h
theorem vis_of {es : LL} {S : List Bool} : ∀ (n v : Nat), v + n = S.length → (∀ u, v ≤ u → u < S.length → StpO es S u) → setM S ∈ visM es n v (cutB S v)
  | 0, v, hv, _ => by rw [visM, cut_all (by omega)]; simp
  | n + 1, v, hv, h => by
    have h0 := h v (Nat.le_refl _) (by omega)
    have ih := vis_of n (v + 1) (by omega) (fun u h1 h2 => h u (by omega) h2)
    unfold visM
    unfold StpO at h0
    by_cases hS : nth S v = true
    · rw [if_pos hS] at h0
      rw [h0, ← cut_succ_t (by omega) hS]
      exact List.mem_append_left _ ih
    · rw [if_neg hS] at h0
      rw [h0]
      rw [cut_succ_f (Bool.eq_false_iff.2 hS)] at ih
      exact List.mem_append_right _ ih
theorem cut_zero (S : List Bool) : cutB S 0 = List.replicate S.length false := list_ext (by simp [cut_len]) fun i hi => by
  rw [cut_len] at hi
  rw [cut_nth, nth_get (l := List.replicate S.length false) (by simpa using hi)]; simp
theorem all_mem {es : LL} {n : Nat} {r : List Int} : r ∈ allM n es ↔ ∃ S : List Bool, S.length = n ∧ r = setM S ∧ ∀ u, u < n → StpO es S u := by
  unfold allM
  constructor
  · intro h
    obtain ⟨S, h1, h2, _, h4⟩ := vis_mem (N := n) n 0 _ r (by simp) (by omega) (fun u _ => by
      by_cases hu : u < n
      · rw [nth_get (by simpa using hu)]; simp
      · rw [nth_over (by simpa using hu)]; rfl) h
    exact ⟨S, h1, h2, fun u hu => h4 u (Nat.zero_le _) hu⟩
  · rintro ⟨S, rfl, rfl, h⟩
    have := vis_of (es := es) (S := S) S.length 0 (by omega) fun u _ hu => h u hu
    rwa [cut_zero] at this
theorem mem_set {S : List Bool} {x : Int} : x ∈ setM S ↔ ∃ i : Nat, x = i ∧ i < S.length ∧ nth S i = true := by
  unfold setM
  rw [List.mem_map]
  constructor
  · rintro ⟨i, hi, rfl⟩
    obtain ⟨h1, h2⟩ := List.mem_filter.1 hi
    exact ⟨i, rfl, List.mem_range.1 h1, h2⟩
  · rintro ⟨i, rfl, h1, h2⟩
    exact ⟨i, List.mem_filter.2 ⟨List.mem_range.2 h1, h2⟩, rfl⟩
/-! Graphs of pairs -/
theorem at_any {es : LL} {v : Nat} {f : Int → Bool} : (edgesAt es v).any f = true ↔ ∃ i : Nat, i < es.length ∧ (v : Int) ∈ nth es i ∧ f (i : Int) = true := by
  rw [List.any_eq_true]
  unfold edgesAt
  constructor
  · rintro ⟨x, hx, hf⟩
    obtain ⟨i, hi, rfl⟩ := List.mem_map.1 hx
    obtain ⟨h1, h2⟩ := List.mem_filter.1 hi
    exact ⟨i, List.mem_range.1 h1, by simpa using h2, hf⟩
  · rintro ⟨i, h1, h2, hf⟩
    exact ⟨(i : Int), List.mem_map.2 ⟨i, List.mem_filter.2 ⟨List.mem_range.2 h1, by simpa using h2⟩, rfl⟩, hf⟩
theorem cnt_nth {es : LL} {p : Nat → Bool} {i : Nat} (h : i < es.length) : nth (cntL es p) i = cntE p (nth es i) := by
  unfold cntL
  rw [nth_get (by simpa using h), List.getElem_map, nth_get h]
theorem any_edge {es : LL} {v : Nat} {p : Nat → Bool} {g : Int → List Int → Bool} : ((edgesAt es v).any fun e => g (nth (cntL es p) e.toNat) (nth es e.toNat)) = true ↔ ∃ e ∈ es, (v : Int) ∈ e ∧ g (cntE p e) e = true := by
  rw [at_any]
  constructor
  · rintro ⟨i, h1, h2, h3⟩
    rw [Int.toNat_natCast, cnt_nth h1] at h3
    exact ⟨nth es i, nth_mem h1, h2, h3⟩
  · rintro ⟨e, he, h2, h3⟩
    obtain ⟨i, hi, rfl⟩ := List.getElem_of_mem he
    rw [← nth_get hi] at h2 h3
    exact ⟨i, hi, h2, by rw [Int.toNat_natCast, cnt_nth hi]; exact h3⟩
def PrsG (R : Nat → Nat → Prop) (N : Nat) (es : LL) : Prop := ∀ e, e ∈ es ↔ ∃ i j : Nat, i < j ∧ j < N ∧ R i j ∧ e = [(i : Int), (j : Int)]
theorem cnt_pair (p : Nat → Bool) (i j : Nat) : cntE p [(i : Int), (j : Int)] = (if p i then 1 else 0) + (if p j then 1 else 0) := by
  unfold cntE
  rw [List.countP_cons, List.countP_cons, List.countP_nil, Int.toNat_natCast, Int.toNat_natCast]
  cases p i <;> cases p j <;> rfl
theorem blkd_pairs {R : Nat → Nat → Prop} {N : Nat} {es : LL} (hp : PrsG R N es) {S : List Bool} {u : Nat} (hu : u < N) : blkdM es (cutB S u) u = true ↔ ∃ w, w < u ∧ R w u ∧ nth S w = true := by
  unfold blkdM
  rw [any_edge (g := fun c e => decide (c = (e.length : Int) - 1))]
  constructor
  · rintro ⟨e, he, hv, hc⟩
    obtain ⟨i, j, hij, hj, hR, rfl⟩ := (hp e).1 he
    rw [decide_eq_true_eq, cnt_pair, cut_nth, cut_nth] at hc
    simp only [List.mem_cons, List.not_mem_nil, or_false] at hv
    simp only [List.length_cons, List.length_nil] at hc
    rcases hv with hv | hv
    · have : u = i := by omega
      subst this
      simp [show ¬ j < u by omega] at hc
    · have : u = j := by omega
      subst this
      simp [hij] at hc
      exact ⟨i, hij, hR, hc⟩
  · rintro ⟨w, hw, hR, hS⟩
    refine ⟨[(w : Int), (u : Int)], (hp _).2 ⟨w, u, hw, hu, hR, rfl⟩, by simp, ?_⟩
    rw [decide_eq_true_eq, cnt_pair, cut_nth, cut_nth]
    simp [hw, hS]
theorem out_iff {S : List Bool} {u x : Nat} : outP (cutB S u) (u + 1) x = true ↔ x ≤ u ∧ ¬ (x < u ∧ nth S x = true) := by
  unfold outP
  rw [cut_nth, Bool.and_eq_true, decide_eq_true_eq, Bool.not_eq_true', Bool.and_eq_false_iff, decide_eq_false_iff_not]
  constructor
  · rintro ⟨h1, h2⟩
    exact ⟨by omega, fun ⟨h3, h4⟩ => by
      rcases h2 with h2 | h2
      · exact h2 h3
      · rw [h4] at h2; cases h2⟩
  · rintro ⟨h1, h2⟩
    refine ⟨by omega, ?_⟩
    by_cases h3 : x < u
    · exact .inr (Bool.eq_false_iff.2 fun h4 => h2 ⟨h3, h4⟩)
    · exact .inl h3
theorem poss_pairs {R : Nat → Nat → Prop} {N : Nat} {es : LL} (hp : PrsG R N es) (hs : ∀ i j, R i j → R j i) {S : List Bool} {u w : Nat} (hw : outP (cutB S u) (u + 1) w = true) (hwN : w < N) :
    possM es (cntL es (outP (cutB S u) (u + 1))) w = true ↔ ∃ x, x < N ∧ x ≠ w ∧ R w x ∧ ¬ (x ≤ u ∧ ¬ (x < u ∧ nth S x = true)) := by
  unfold possM
  rw [any_edge (g := fun c _ => decide (c = 1))]
  constructor
  · rintro ⟨e, he, hv, hc⟩
    obtain ⟨i, j, hij, hj, hR, rfl⟩ := (hp e).1 he
    rw [decide_eq_true_eq, cnt_pair] at hc
    simp only [List.mem_cons, List.not_mem_nil, or_false] at hv
    rcases hv with hv | hv
    · have : w = i := by omega
      subst this
      rw [hw] at hc
      refine ⟨j, hj, by omega, hR, fun h => ?_⟩
      rw [out_iff.2 h] at hc; simp at hc
    · have : w = j := by omega
      subst this
      rw [hw] at hc
      refine ⟨i, by omega, by omega, hs _ _ hR, fun h => ?_⟩
      rw [out_iff.2 h] at hc; simp at hc
  · rintro ⟨x, hx, hne, hR, hno⟩
    have hx0 : outP (cutB S u) (u + 1) x = false := Bool.eq_false_iff.2 fun h => hno (out_iff.1 h)
    rcases Nat.lt_or_gt_of_ne hne with h | h
    · exact ⟨[(x : Int), (w : Int)], (hp _).2 ⟨x, w, h, hwN, hs _ _ hR, rfl⟩, by simp, by rw [decide_eq_true_eq, cnt_pair, hw, hx0]; rfl⟩
    · exact ⟨[(w : Int), (x : Int)], (hp _).2 ⟨w, x, h, hx, hR, rfl⟩, by simp, by rw [decide_eq_true_eq, cnt_pair, hw, hx0]; rfl⟩
theorem keep_pairs {R : Nat → Nat → Prop} {N : Nat} {es : LL} (hp : PrsG R N es) (hs : ∀ i j, R i j → R j i) {S : List Bool} {u : Nat} (hu : u < N) :
    keepO es (cutB S u) u = true ↔ ∀ w, w ≤ u → (w < u ∧ nth S w = true) ∨ ∃ x, x < N ∧ x ≠ w ∧ R w x ∧ ¬ (x ≤ u ∧ ¬ (x < u ∧ nth S x = true)) := by
  unfold keepO
  rw [List.all_eq_true]
  constructor
  · intro h w hw
    have h1 := h w (List.mem_range.2 (by omega))
    by_cases h2 : w < u ∧ nth S w = true
    · exact .inl h2
    · refine .inr ((poss_pairs hp hs (out_iff.2 ⟨hw, h2⟩) (by omega)).1 ?_)
      rw [cut_nth] at h1
      rcases Bool.or_eq_true_iff.1 h1 with h1 | h1
      · simp at h1; exact absurd h1 h2
      · exact h1
  · intro h w hw
    have hw : w ≤ u := by have := List.mem_range.1 hw; omega
    rw [Bool.or_eq_true, cut_nth]
    by_cases h2 : w < u ∧ nth S w = true
    · left; simp [h2]
    · right
      rcases h w hw with h3 | h3
      · exact absurd h3 h2
      · exact (poss_pairs hp hs (out_iff.2 ⟨hw, h2⟩) (by omega)).2 h3
open Go Go.Proofs Go.Proofs.Tryz
abbrev GStR := GGraph × Value × Value × Value
abbrev fsStR : List (SF GStR) := [⟨GGraph, 30, rGraph, fun x => x.1⟩, ⟨Value, 95, rV, fun x => x.2.1⟩, ⟨Value, 27, rV, fun x => x.2.2.1⟩, ⟨Value, 28, rV, fun x => x.2.2.2⟩]
theorem ty122R : TyOf prog 122 (rStruct fsStR) := ⟨fun w => isAgg122 w, fun w => sizeOf122 w⟩
theorem so122R : StructOf prog 122 fsStR := ⟨⟨_, underlying122, ⟨rfl, rfl, ty30, by decide, ⟨rfl, rfl, ty95V, by decide, ⟨rfl, rfl, ty27V, by decide, ⟨rfl, rfl, ty28V, by decide, trivial⟩⟩⟩⟩⟩, ty122R⟩
abbrev GSt := GGraph × Value × Value × LL
abbrev fsSt : List (SF GSt) := [⟨GGraph, 30, rGraph, fun x => x.1⟩, ⟨Value, 95, rV, fun x => x.2.1⟩, ⟨Value, 27, rV, fun x => x.2.2.1⟩, ⟨LL, 28, rSl (rSl rInt), fun x => x.2.2.2⟩]
theorem ty122S : TyOf prog 122 (rStruct fsSt) := ⟨fun w => isAgg122 w, fun w => sizeOf122 w⟩
theorem so122S : StructOf prog 122 fsSt := ⟨⟨_, underlying122, ⟨rfl, rfl, ty30, by decide, ⟨rfl, rfl, ty95V, by decide, ⟨rfl, rfl, ty27V, by decide, ⟨rfl, rfl, ty28, by decide, trivial⟩⟩⟩⟩⟩, ty122S⟩
abbrev rSt : Rp GSt := rStruct fsSt
theorem el27V : ElT prog 27 rV 24 (Value.slice none 0 0) := ⟨ty27V, by decide, t27, (Value.slice none 0 0), by kernel_rfl, by kernel_rfl, by kernel_rfl, by kernel_rfl, fun _ => ⟨rfl, rfl⟩⟩
theorem ty119T {A : Ty} {ho : ∀ h v, A.p h v → v.oneCell' = true} : TyOf prog 119 (rTyp A ho) := ⟨fun w => isAgg119 w, fun w => sizeOf119 w⟩
theorem frz_st {g : GGraph} {v1 v2 v3 : Value} {q : RowsA Int} : Frz [own 27 rV v3 (valsS q), rowsS 3 rInt q] (tPtr (rStruct fsStR) (g, v1, v2, v3)) (tPtr rSt (g, v1, v2, listsS q)) := fun h m u d hs ⟨b, off, cs, e, H, r⟩ => by
  have hv : (tSl (rSl rInt) (listsS q)).p (h.join m) v3 := Frz.rowsS h m v3 d hs ⟨rfl, own_one hs⟩
  obtain ⟨c0, _, rfl, r0, c1, _, rfl, r1, c2, _, rfl, r2, c3, _, rfl, r3, rz⟩ := r
  exact ⟨b, off, _, e, H.mono (PH.le_join_left _ _), c0, _, rfl, rGraph.mono (PH.le_join_left _ _) r0, c1, _, rfl, r1, c2, _, rfl, r2, c3, _, rfl, ⟨_, r3.1, hv⟩, rz⟩
structure GOk (g : GGraph) : Prop where
  n0 : 0 ≤ g.N
  nb : g.N ≤ 1000
  el : g.Edges.length ≤ 1000
  ed : ∀ e ∈ g.Edges, Inc e ∧ ∀ x ∈ e, 0 ≤ x ∧ x < g.N
theorem inc_len {l : List Int} {n : Int} (h : Inc l) (hb : ∀ x ∈ l, 0 ≤ x ∧ x < n) : (l.length : Int) ≤ n ∨ l = [] := by
  by_cases hl : l = []
  · exact .inr hl
  · left
    have key : ∀ (l : List Int) (a : Int), Inc l → (∀ x ∈ l, a ≤ x ∧ x < n) → a ≤ n → (l.length : Int) ≤ n - a := by
      intro l
      induction l with
      | nil => intro a _ _ h; simp; omega
      | cons x l ih =>
        intro a h hb ha
        obtain ⟨h1, h2⟩ := List.pairwise_cons.1 h
        have hx := hb x (by simp)
        have := ih (x + 1) h2 (fun y hy => ⟨by have := h1 y hy; omega, (hb y (by simp [hy])).2⟩) (by omega)
        simp; omega
    have hx := hb _ (List.head_mem hl)
    have := key l 0 h hb (by omega)
    omega
theorem GOk.len {g : GGraph} (h : GOk g) {i : Nat} (hi : i < g.Edges.length) : (nth g.Edges i).length ≤ 1000 := by
  obtain ⟨h1, h2⟩ := h.ed _ (nth_mem hi)
  have := h.nb
  rcases inc_len h1 h2 with h3 | h3
  · omega
  · rw [h3]; simp
abbrev EG (g : GGraph) : LL := (List.range g.N.toNat).map (edgesAt g.Edges)
structure RowE (g : GGraph) (q : RowsA Int) (i k : Nat) : Prop where
  len : q.length = g.N.toNat
  row : ∀ v, v < g.N.toNat → (nth q v).2 = edgesAt (g.Edges.take i) v ++ if (v : Int) ∈ (nth g.Edges i).take k then [(i : Int)] else []
theorem nth_takeE {α : Type} [Inhabited α] {l : List α} {i j : Nat} (h : j < i) (hj : j < l.length) : nth (l.take i) j = nth l j := by
  rw [nth_get (by simp; omega), nth_get hj]; simp
theorem edges_succ {es : LL} {i : Nat} (hi : i < es.length) (v : Nat) : edgesAt (es.take (i + 1)) v = edgesAt (es.take i) v ++ if (v : Int) ∈ nth es i then [(i : Int)] else [] := by
  unfold edgesAt
  have h1 : (es.take (i + 1)).length = i + 1 := by simp; omega
  have h2 : (es.take i).length = i := by simp; omega
  rw [h1, h2, List.range_succ, List.filter_append, List.map_append]
  congr 1
  · congr 1
    apply List.filter_congr
    intro j hj
    have hj := List.mem_range.1 hj
    rw [nth_takeE (by omega) (by omega), nth_takeE hj (by omega)]
  · rw [List.filter_cons, List.filter_nil, nth_takeE (by omega) hi]
    by_cases h : (v : Int) ∈ nth es i <;> simp [h]
theorem edges_len (es : LL) (v : Nat) : (edgesAt es v).length ≤ es.length := by
  unfold edgesAt
  rw [List.length_map]
  have := List.length_filter_le (fun i => decide ((v : Int) ∈ nth es i)) (List.range es.length)
  simpa using this
theorem RowE.le {g : GGraph} {q : RowsA Int} {i k : Nat} (h : RowE g q i k) (hg : GOk g) {v : Nat} (hv : v < g.N.toNat) : (nth q v).2.length ≤ 1001 := by
  rw [h.row v hv, List.length_append]
  have h1 := edges_len (g.Edges.take i) v
  have h2 : (g.Edges.take i).length ≤ g.Edges.length := List.length_take_le' _ _
  have h3 := hg.el
  split <;> simp <;> omega
theorem rowE_new (g : GGraph) : RowE g (List.replicate g.N.toNat (Value.slice none 0 0, [])) 0 0 where
  len := by simp
  row := fun v hv => by rw [nth_get (by simpa using hv)]; simp [edgesAt]
theorem RowE.next {g : GGraph} {q : RowsA Int} {i : Nat} (h : RowE g q i (nth g.Edges i).length) (hi : i < g.Edges.length) : RowE g q (i + 1) 0 where
  len := h.len
  row := fun v hv => by rw [h.row v hv, edges_succ hi, List.take_length]; simp
theorem RowE.step {g : GGraph} {q : RowsA Int} {i k : Nat} (h : RowE g q i k) (hg : GOk g) (hi : i < g.Edges.length) (hk : k < (nth g.Edges i).length) (u : Value) :
    RowE g (q.set (nth (nth g.Edges i) k).toNat (u, (nth q (nth (nth g.Edges i) k).toNat).2 ++ [(i : Int)])) i (k + 1) where
  len := by rw [List.length_set]; exact h.len
  row := fun v hv => by
    obtain ⟨h1, h2⟩ := hg.ed _ (nth_mem hi)
    have hx := h2 _ (nth_mem hk)
    rw [Lg.nth_set (by rw [h.len]; omega), takeB hk]
    by_cases e : (nth (nth g.Edges i) k).toNat = v
    · have e2 : (v : Int) = nth (nth g.Edges i) k := by omega
      have hno : (v : Int) ∉ (nth g.Edges i).take k := fun hm => by
        obtain ⟨j, hj, ej⟩ := List.getElem_of_mem hm
        have hjk : j < k := by simp at hj; omega
        rw [List.getElem_take] at ej
        have := List.pairwise_iff_getElem.1 h1 j k (by omega) hk hjk
        rw [nth_get hk] at e2
        omega
      rw [if_pos e, e, h.row v hv, if_neg hno, if_pos (by rw [e2]; simp)]; simp
    · have e2 : (v : Int) ≠ nth (nth g.Edges i) k := by omega
      rw [if_neg e, h.row v hv]
      simp [e2]
theorem RowE.done {g : GGraph} {q : RowsA Int} (h : RowE g q g.Edges.length 0) : listsS q = EG g := list_ext (by simp [h.len]) fun i hi => by
  have hi : i < g.N.toNat := by simpa [h.len] using hi
  rw [nth_range_map hi]
  have := h.row i hi
  rw [List.take_zero, List.take_length] at this
  rw [nth_get (by simpa [h.len] using hi), List.getElem_map, ← nth_get (by rw [h.len]; exact hi), this]; simp
theorem vals_gb {q : RowsA Int} {j : Nat} (h : j < q.length) : (valsS q)[j]? = some (nth q j).1 := by
  rw [List.getElem?_eq_getElem (by simpa using h), List.getElem_map, ← nth_get h]
theorem nth_EG {g : GGraph} {v : Nat} (h : v < g.N.toNat) : nth (EG g) v = edgesAt g.Edges v := nth_range_map h
/-! Counters -/
theorem nth_set_ne {α : Type} [Inhabited α] {x : α} : ∀ {l : List α} {i j : Nat}, i ≠ j → nth (l.set i x) j = nth l j
  | [], _, _, _ => rfl
  | _ :: _, 0, 0, h => absurd rfl h
  | _ :: _, 0, _ + 1, _ => rfl
  | _ :: _, _ + 1, 0, _ => rfl
  | _ :: l, i + 1, j + 1, h => nth_set_ne (l := l) (i := i) (j := j) (by omega)
def updL (d : Int) (l : List Int) (full : List Int) : List Int := l.foldl (fun f e => f.set e.toNat (nth f e.toNat + d)) full
theorem updL_snoc (d : Int) (l : List Int) (x : Int) (full : List Int) : updL d (l ++ [x]) full = (updL d l full).set x.toNat (nth (updL d l full) x.toNat + d) := by
  unfold updL; rw [List.foldl_append]; rfl
theorem updL_len (d : Int) : ∀ (l full : List Int), (updL d l full).length = full.length
  | [], _ => rfl
  | x :: l, full => by
    show (updL d l _).length = _
    rw [updL_len d l, List.length_set]
theorem updL_nth (d : Int) : ∀ {l full : List Int} {j : Nat}, (∀ x ∈ l, 0 ≤ x ∧ x < full.length) → l.Nodup → nth (updL d l full) j = nth full j + if (j : Int) ∈ l then d else 0
  | [], full, j, _, _ => by simp [updL]
  | x :: l, full, j, hb, hn => by
    obtain ⟨h1, h2⟩ := List.nodup_cons.1 hn
    have hx := hb x (by simp)
    show nth (updL d l _) j = _
    rw [updL_nth d (fun y hy => by rw [List.length_set]; exact hb y (by simp [hy])) h2]
    by_cases e : x.toNat = j
    · have e2 : (j : Int) = x := by omega
      rw [Lg.nth_set (by omega), if_pos e, e, if_neg (by rw [e2]; exact h1), if_pos (by rw [e2]; simp)]; omega
    · have e2 : (j : Int) ≠ x := by omega
      rw [nth_set_ne e]; simp [e2]
theorem edges_ok (es : LL) (v : Nat) : (edgesAt es v).Nodup ∧ (∀ x ∈ edgesAt es v, 0 ≤ x ∧ x < es.length) ∧ ∀ j : Nat, j < es.length → ((j : Int) ∈ edgesAt es v ↔ (v : Int) ∈ nth es j) := by
  unfold edgesAt
  refine ⟨?_, fun x hx => ?_, fun j hj => ?_⟩
  · refine List.Pairwise.map _ (R := fun a b => a ≠ b) (fun a b h => by omega) (List.Pairwise.sublist List.filter_sublist List.nodup_range)
  · obtain ⟨i, hi, rfl⟩ := List.mem_map.1 hx
    have := List.mem_range.1 (List.mem_filter.1 hi).1
    omega
  · constructor
    · intro h
      obtain ⟨i, hi, e⟩ := List.mem_map.1 h
      have : i = j := by omega
      subst this
      simpa using (List.mem_filter.1 hi).2
    · intro h
      exact List.mem_map.2 ⟨j, List.mem_filter.2 ⟨List.mem_range.2 hj, by simpa using h⟩, rfl⟩
theorem cntL_len (es : LL) (p : Nat → Bool) : (cntL es p).length = es.length := by simp [cntL]
/-- A vertex more, a vertex less. -/
theorem cnt_one {e : List Int} (h : Inc e) (h0 : ∀ x ∈ e, 0 ≤ x) {p p' : Nat → Bool} {v : Nat} (hv : p v = false) (hv' : p' v = true) (hp : ∀ u, u ≠ v → p' u = p u) : cntE p' e = cntE p e + if (v : Int) ∈ e then 1 else 0 := by
  unfold cntE
  induction e with
  | nil => simp
  | cons x e ih =>
    obtain ⟨h1, h2⟩ := List.pairwise_cons.1 h
    have ih := ih h2 fun y hy => h0 y (by simp [hy])
    have hx := h0 x (by simp)
    rw [List.countP_cons, List.countP_cons]
    by_cases q : x.toNat = v
    · have hxv : x = v := by omega
      have hno : (v : Int) ∉ e := fun hm => by have := h1 _ hm; omega
      rw [if_neg hno] at ih
      simp only [hxv, Int.toNat_natCast, hv, hv', List.mem_cons, true_or, if_true, Bool.false_eq_true, if_false]
      omega
    · have hxv : (v : Int) ≠ x := by omega
      rw [hp _ q]
      simp only [List.mem_cons, hxv, false_or]
      omega
theorem upd_add {es : LL} (h : ∀ e ∈ es, Inc e ∧ ∀ x ∈ e, 0 ≤ x) {p p' : Nat → Bool} {v : Nat} (hv : p v = false) (hv' : p' v = true) (hp : ∀ u, u ≠ v → p' u = p u) : updL 1 (edgesAt es v) (cntL es p) = cntL es p' := by
  obtain ⟨h1, h2, h3⟩ := edges_ok es v
  refine list_ext (by rw [updL_len, cntL_len, cntL_len]) fun j hj => ?_
  rw [updL_len, cntL_len] at hj
  rw [updL_nth 1 (by rw [cntL_len]; exact h2) h1, cnt_nth hj, cnt_nth hj, cnt_one (h _ (nth_mem hj)).1 (h _ (nth_mem hj)).2 hv hv' hp]
  simp only [h3 j hj]
theorem upd_sub {es : LL} (h : ∀ e ∈ es, Inc e ∧ ∀ x ∈ e, 0 ≤ x) {p p' : Nat → Bool} {v : Nat} (hv : p v = false) (hv' : p' v = true) (hp : ∀ u, u ≠ v → p' u = p u) : updL (-1) (edgesAt es v) (cntL es p') = cntL es p := by
  obtain ⟨h1, h2, h3⟩ := edges_ok es v
  refine list_ext (by rw [updL_len, cntL_len, cntL_len]) fun j hj => ?_
  rw [updL_len, cntL_len] at hj
  rw [updL_nth (-1) (by rw [cntL_len]; exact h2) h1, cnt_nth hj, cnt_nth hj, cnt_one (h _ (nth_mem hj)).1 (h _ (nth_mem hj)).2 hv hv' hp]
  simp only [h3 j hj]
  split <;> omega
theorem cnt_le (e : List Int) (p : Nat → Bool) : 0 ≤ cntE p e ∧ cntE p e ≤ e.length := by
  unfold cntE
  have := List.countP_le_length (p := fun v : Int => p v.toNat) (l := e)
  omega
theorem nth_default_int {l : List Int} {j : Nat} (h : l.length ≤ j) : nth l j = 0 := nth_over h
theorem BdL_cnt {es : LL} (h : ∀ i, i < es.length → (nth es i).length ≤ 1000) (p : Nat → Bool) : ∀ j, 0 ≤ nth (cntL es p) j ∧ nth (cntL es p) j ≤ 1000 := fun j => by
  by_cases hj : j < es.length
  · rw [cnt_nth hj]
    have := cnt_le (nth es j) p
    have := h j hj
    omega
  · rw [nth_default_int (by rw [cntL_len]; omega)]; omega
theorem updL_bd {d : Int} (hd : d = 1 ∨ d = -1) {es : LL} {v : Nat} {full : List Int} (hl : full.length = es.length) (hf : ∀ j, 0 ≤ nth full j ∧ nth full j ≤ 1000) (k : Nat) (j : Nat) : -1 ≤ nth (updL d ((edgesAt es v).take k) full) j ∧ nth (updL d ((edgesAt es v).take k) full) j ≤ 1001 := by
  obtain ⟨h1, h2, h3⟩ := edges_ok es v
  rw [updL_nth d (fun x hx => by rw [hl]; exact h2 x (List.mem_of_mem_take hx)) (h1.sublist (List.take_sublist _ _))]
  have := hf j
  split <;> omega
set_option maxHeartbeats 2000000 in
theorem begin_spec (g : GGraph) (hg : GOk g) : Spec (X := Value × Value) prog 85 [rGraph.ty g] ([]) (fun x => tPtr rSt (g, x.1, x.2, EG g)) (fun x => [own 4 rBool x.1 (List.replicate g.N.toNat false), own 3 rInt x.2 (List.replicate g.Edges.length 0)]) := by
 refine Spec.enter func85 rfl rfl fun h0 w0 fr0 => ?_
 have hn0 := hg.n0
 have hnb := hg.nb
 have hel := hg.el
 refine Jr ?_
 refine Js rfl (step_box (R := rGraph) Sr) ?_
 refine Ja rfl ?_
 refine JL_nil ?_
 refine J_seq ?_
 refine J_drawY [⟨0, [1], true⟩, ⟨1, [1], true⟩, ⟨2, [9], true⟩, ⟨4, [1], true⟩, ⟨5, [12], true⟩, ⟨6, [13], true⟩, ⟨8, [1], true⟩, ⟨9, [16], true⟩] [⟨3, [10], 11, fun v => rV.ty v, fun v => own 4 rBool v (List.replicate g.N.toNat false)⟩, ⟨7, [14], 15, fun v => rV.ty v, fun v => own 3 rInt v (List.replicate g.Edges.length 0)⟩, ⟨10, [17], 18, fun v => rV.ty v, fun v => own 27 rV v (List.replicate g.N.toNat (Value.slice none 0 0))⟩] [⟨11, [8, 11, 15, 18], true⟩, ⟨12, [19], true⟩, ⟨13, [20], true⟩] rfl (by kernel_rfl) (Nat.le_of_ble_eq_true rfl) ?_
 refine JM_step rfl rfl rfl rfl (fun _ => step_load_ptr ty30 Sr) ?_
 refine JM_step rfl rfl rfl rfl (fun _ => step_fieldAddr so30 Sr rfl) ?_
 refine JM_step rfl rfl rfl rfl (fun _ => step_load_ptr ty3 Sr) ?_
 refine JM_step rfl rfl rfl rfl (fun _ => step_fieldAddr so30 Sr rfl) ?_
 refine JM_step rfl rfl rfl rfl (fun _ => step_load_ptr ty28 Sr) ?_
 refine JM_step rfl rfl rfl rfl (fun _ => step_len_sl underlying28 Sr) ?_
 refine JM_step rfl rfl rfl rfl (fun _ => step_fieldAddr so30 Sr rfl) ?_
 refine JM_step rfl rfl rfl rfl (fun _ => step_load_ptr ty3 Sr) ?_
 refine JM_nil ?_
 refine ⟨⟨_, rfl, rfl, rfl, rfl, fun _ => step_make (n := g.N.toNat) underlying95 el4 Sr Sr (by show g.N = _; omega) (by omega) (by omega)⟩, fun v11 => ?_⟩
 refine ⟨⟨_, rfl, rfl, rfl, rfl, fun _ => step_make (n := g.Edges.length) underlying27 el3 Sr Sr rfl (by omega) (by omega)⟩, fun v15 => ?_⟩
 refine ⟨⟨_, rfl, rfl, rfl, rfl, fun _ => step_make (n := g.N.toNat) underlying28 el27V Sr Sr (by show g.N = _; omega) (by omega) (by omega)⟩, fun v18 => ?_⟩
 refine JM_step rfl rfl rfl rfl (fun _ => step_build (x := ((g, v11, v15, v18) : GStR)) (zs := [[Value.int .i64 0, Value.slice none 0 0, Value.slice none 0 0], [Value.slice none 0 0], [Value.slice none 0 0], [Value.slice none 0 0]]) so122R (fun w => zeroValue122 w) ⟨Sr, Sr, Sr, Sr, trivial⟩ ⟨⟨Sr, rfl⟩, ⟨Sr, rfl⟩, ⟨Sr, rfl⟩, ⟨Sr, rfl⟩, trivial⟩) ?_
 refine JM_step rfl rfl rfl rfl (fun _ => step_box (R := rStruct fsStR) (y := (g, v11, v15, v18)) Sr) ?_
 refine JM_step rfl rfl rfl rfl (fun _ => step_assign Sr) ?_
 refine JM_nil ?_
 refine J_seq ?_
 refine Jr ?_
 refine Js rfl (step_fieldAddr so30 Sr rfl) ?_
 refine Jl rfl ty28 Sr ?_
 refine Js rfl (step_len_sl underlying28 Sr) ?_
 refine Jm rfl ?_
 refine JL_nil ?_
 refine J_block ?_
 refine J_loopL (σ := Nat × RowsA Int) (fun ⟨i, q⟩ => i ≤ g.Edges.length ∧ RowE g q i 0) (fun ⟨i, q⟩ => upd (upd (upd (upd env0 3 (tPtr (rStruct fsStR) (g, v11, v15, v18))) 22 (tSl (rSl rInt) g.Edges)) 23 (tV (.int .i64 g.Edges.length))) 24 (tV (.int .i64 i))) (fun ⟨i, q⟩ => [own 27 rV v18 (valsS q), rowsS 3 rInt q, own 3 rInt v15 (List.replicate g.Edges.length 0), own 4 rBool v11 (List.replicate g.N.toNat false)]) (fun ⟨i, q⟩ => g.Edges.length - i) (0, (List.replicate g.N.toNat (Value.slice none 0 0, []))) ⟨Nat.zero_le _, rowE_new g⟩ (SubE.upd Sr (SubE.upd Sr (SubE.upd Sr (SubE.upd Sr SubE.any)))) (LSub.trans (B := [rowsS 3 rInt (List.replicate g.N.toNat (Value.slice none 0 0, [])), own 27 rV v18 (List.replicate g.N.toNat (Value.slice none 0 0)), own 3 rInt v15 (List.replicate g.Edges.length 0), own 4 rBool v11 (List.replicate g.N.toNat false)]) (rowsS_new g.N.toNat) (LSub.cons (by repeat first | exact .h | apply Sel.skip) (SPs.of (A := own 27 rV v18 (List.replicate g.N.toNat (Value.slice none 0 0))) (by show _ = own 27 rV v18 (valsS _); unfold valsS; rw [List.map_replicate])) (LSub.cons (by repeat first | exact .h | apply Sel.skip) (SPs.rfl) (LSub.cons (by repeat first | exact .h | apply Sel.skip) (SPs.rfl) (LSub.cons (by repeat first | exact .h | apply Sel.skip) (SPs.rfl) (LSub.nil)))))) ?_
 rintro ⟨i, q⟩ ⟨hi, hr0⟩
 refine Jr ?_
 refine Js rfl (step_lss Sr Sr) ?_
 refine JL_nil ?_
 refine J_seq ?_
 refine J_cond Sr (fun h25 => ?_) (fun h25 => ?_)
 ·
  try simp only [NF] at h25
  have hlt : i < g.Edges.length := by omega
  have hle := hg.len hlt
  refine J_skip ?_
  refine J_seq ?_
  refine J_block ?_
  refine Jr ?_
  refine Jm rfl ?_
  refine Js rfl (step_indexAddr_sl  underlying28 ty27 Sr Sr rfl (gb ?sg1)) ?_
  case sg1 => exact hlt
  refine Jl rfl ty27 Sr ?_
  refine Ja rfl ?_
  refine Ja rfl ?_
  refine JL_nil ?_
  refine Jr ?_
  refine Jm rfl ?_
  refine Js rfl (step_len_sl underlying27 Sr) ?_
  refine Jm rfl ?_
  refine JL_nil ?_
  refine J_block ?_
  refine J_loopL (σ := Nat × RowsA Int) (fun ⟨k, q⟩ => k ≤ (nth g.Edges i).length ∧ RowE g q i k) (fun ⟨k, q⟩ => upd (upd (upd (upd (upd (upd (upd (upd (upd env0 3 (tPtr (rStruct fsStR) (g, v11, v15, v18))) 4 (tV (.int .i64 i))) 22 (tSl (rSl rInt) g.Edges)) 23 (tV (.int .i64 g.Edges.length))) 24 (tV (.int .i64 i))) 26 (tV (.int .i64 i))) 29 (tSl rInt (nth g.Edges i))) 30 (tV (.int .i64 (nth g.Edges i).length))) 31 (tV (.int .i64 k))) (fun ⟨k, q⟩ => [own 27 rV v18 (valsS q), rowsS 3 rInt q, own 3 rInt v15 (List.replicate g.Edges.length 0), own 4 rBool v11 (List.replicate g.N.toNat false)]) (fun ⟨k, q⟩ => (nth g.Edges i).length - k) (0, q) ⟨Nat.zero_le _, hr0⟩ (SubE.upd Sr (SubE.upd Sr (SubE.upd Sr (SubE.upd Sr (SubE.upd Sr (SubE.upd Sr (SubE.upd Sr (SubE.upd Sr (SubE.upd Sr SubE.any))))))))) (LSub.cons (by repeat first | exact .h | apply Sel.skip) (SPs.rfl) (LSub.cons (by repeat first | exact .h | apply Sel.skip) (SPs.rfl) (LSub.cons (by repeat first | exact .h | apply Sel.skip) (SPs.rfl) (LSub.cons (by repeat first | exact .h | apply Sel.skip) (SPs.rfl) (LSub.nil))))) ?_
  rintro ⟨k, q⟩ ⟨hk, hr⟩
  refine Jr ?_
  refine Js rfl (step_lss Sr Sr) ?_
  refine JL_nil ?_
  refine J_seq ?_
  refine J_cond Sr (fun h32 => ?_) (fun h32 => ?_)
  ·
   try simp only [NF] at h32
   have hkt : k < (nth g.Edges i).length := by omega
   obtain ⟨hj0, hjn⟩ := (hg.ed _ (nth_mem hlt)).2 _ (nth_mem hkt)
   have hrl := hr.le hg (v := (nth (nth g.Edges i) k).toNat) (by omega)
   refine J_skip ?_
   refine J_seq ?_
   refine J_block ?_
   refine Jr ?_
   refine Js rfl (step_indexAddr_sl  underlying27 ty3 Sr Sr rfl (gb ?sg1)) ?_
   case sg1 => exact hkt
   refine Jl rfl ty3 Sr ?_
   refine Ja rfl ?_
   refine JL_nil ?_
   refine K_lsub (LSub.trans (B := [rowsS 3 rInt q, own 27 rV v18 (valsS q), own 3 rInt v15 (List.replicate g.Edges.length 0), own 4 rBool v11 (List.replicate g.N.toNat false)]) (LSub.cons (by repeat first | exact .h | apply Sel.skip) (SPs.rfl) (LSub.cons (by repeat first | exact .h | apply Sel.skip) (SPs.rfl) (LSub.cons (by repeat first | exact .h | apply Sel.skip) (SPs.rfl) (LSub.cons (by repeat first | exact .h | apply Sel.skip) (SPs.rfl) (LSub.nil))))) (rowsS_split (i := (nth (nth g.Edges i) k).toNat) (by rw [hr.len]; omega))) ?_
   refine J_draw [⟨0, [3], true⟩, ⟨1, [35], true⟩, ⟨2, [36], true⟩, ⟨3, [37], true⟩, ⟨4, [7], true⟩, ⟨5, [3], true⟩, ⟨6, [40], true⟩, ⟨7, [41], true⟩, ⟨8, [42], true⟩, ⟨9, [7], true⟩, ⟨12, [4], true⟩, ⟨13, [47], true⟩, ⟨10, [43, 44], false⟩, ⟨11, [45], false⟩, ⟨14, [46, 48], false⟩, ⟨15, [38, 39], false⟩, ⟨16, [49, 50], false⟩] rfl (by kernel_rfl) ?_
   refine JM_step rfl rfl rfl rfl (fun _ => step_move Sr) ?_
   refine JM_step rfl rfl rfl rfl (fun _ => step_nilCheckP Sr) ?_
   refine JM_step rfl rfl rfl rfl (fun _ => step_fieldAddr so122R Sr rfl) ?_
   refine JM_step rfl rfl rfl rfl (fun _ => step_load_ptr ty28V Sr) ?_
   refine JM_step rfl rfl rfl rfl (fun _ => step_move Sr) ?_
   refine JM_step rfl rfl rfl rfl (fun _ => step_move Sr) ?_
   refine JM_step rfl rfl rfl rfl (fun _ => step_nilCheckP Sr) ?_
   refine JM_step rfl rfl rfl rfl (fun _ => step_fieldAddr so122R Sr rfl) ?_
   refine JM_step rfl rfl rfl rfl (fun _ => step_load_ptr ty28V Sr) ?_
   refine JM_step rfl rfl rfl rfl (fun _ => step_move Sr) ?_
   refine JM_step rfl rfl rfl rfl (fun _ => step_move Sr) ?_
   refine JM_step rfl rfl rfl rfl (fun _ => step_literal (ys := [_]) underlying27 el3 ⟨rfl, Sr, trivial⟩ rfl (by decide)) ?_
   refine JM_look rfl rfl rfl rfl (step_indexAddr_own (i := (nth (nth g.Edges i) k).toNat) underlying28 ty27V Sr (by repeat first | exact .h | apply Sel.skip) Sr (by omega) (by simp [hr.len]; omega)) ?_
   refine JM_look rfl rfl rfl rfl (step_load_own (y := (nth q (nth (nth g.Edges i) k).toNat).1) ty27V Sr (by repeat first | exact .h | apply Sel.skip) (vals_gb (by rw [hr.len]; omega))) ?_
   refine JM_stepX rfl rfl rfl rfl (step_append underlying27 el3 Sr Sr (by repeat first | exact .h | apply Sel.skip) (by simp; omega) (by simp; omega)) fun u49 => ?_
   refine JM_look rfl rfl rfl rfl (step_indexAddr_own (i := (nth (nth g.Edges i) k).toNat) underlying28 ty27V Sr (by repeat first | exact .h | apply Sel.skip) Sr (by omega) (by simp [hr.len]; omega)) ?_
   refine JM_stepU rfl rfl rfl (step_store_own ty27V Sr Sr (by repeat first | exact .h | apply Sel.skip) (by simp [hr.len]; omega)) fun _ => ?_
   refine JM_nil ?_
   refine J_region ?_
   refine Js rfl (step_add Sr Sr ?sg1) ?_
   case sg1 => unfold in64; omega
   refine Jm rfl ?_
   refine JL_nil ?_
   refine K_againL (σ := Nat × RowsA Int) (s := (k, q)) (k + 1, q.set (nth (nth g.Edges i) k).toNat (u49, (nth q (nth (nth g.Edges i) k).toNat).2 ++ [(i : Int)])) (by first | omega | (dsimp only; omega) | (simp_all; omega)) ⟨hkt, hr.step hg hlt hkt u49⟩ (SubE.upd Sr (SubE.upd Sr (SubE.upd Sr (SubE.upd Sr (SubE.upd Sr (SubE.upd Sr (SubE.upd Sr (SubE.upd Sr (SubE.upd Sr SubE.any))))))))) (LSub.trans (B := own 3 rInt u49 ((nth q (nth (nth g.Edges i) k).toNat).2 ++ [(i : Int)]) :: rowsS 3 rInt (q.eraseIdx (nth (nth g.Edges i) k).toNat) :: [own 27 rV v18 ((valsS q).set (nth (nth g.Edges i) k).toNat u49), own 3 rInt v15 (List.replicate g.Edges.length 0), own 4 rBool v11 (List.replicate g.N.toNat false)]) (LSub.cons (by repeat first | exact .h | apply Sel.skip) (SPs.rfl) (LSub.cons (by repeat first | exact .h | apply Sel.skip) (SPs.rfl) (LSub.cons (by repeat first | exact .h | apply Sel.skip) (SPs.rfl) (LSub.cons (by repeat first | exact .h | apply Sel.skip) (SPs.rfl) (LSub.cons (by repeat first | exact .h | apply Sel.skip) (SPs.rfl) (LSub.nil)))))) (LSub.trans (rowsS_join (by rw [hr.len]; omega)) (LSub.cons (by repeat first | exact .h | apply Sel.skip) (SPs.of (A := own 27 rV v18 ((valsS q).set (nth (nth g.Edges i) k).toNat u49)) (by show _ = own 27 rV v18 (valsS _); unfold valsS; rw [List.map_set])) (LSub.cons (by repeat first | exact .h | apply Sel.skip) (SPs.rfl) (LSub.cons (by repeat first | exact .h | apply Sel.skip) (SPs.rfl) (LSub.cons (by repeat first | exact .h | apply Sel.skip) (SPs.rfl) (LSub.nil)))))))
  ·
   try simp only [NF] at h32
   refine J_exit ?_
   refine J_region ?_
   refine Js rfl (step_add Sr Sr ?sg1) ?_
   case sg1 => unfold in64; omega
   refine Jm rfl ?_
   refine JL_nil ?_
   refine K_againL (σ := Nat × RowsA Int) (s := (i, q)) (i + 1, q) (by first | omega | (dsimp only; omega) | (simp_all; omega)) ⟨hlt, (by obtain rfl : k = (nth g.Edges i).length := (by omega); exact hr.next hlt)⟩ (SubE.upd Sr (SubE.upd Sr (SubE.upd Sr (SubE.upd Sr SubE.any)))) (LSub.cons (by repeat first | exact .h | apply Sel.skip) (SPs.rfl) (LSub.cons (by repeat first | exact .h | apply Sel.skip) (SPs.rfl) (LSub.cons (by repeat first | exact .h | apply Sel.skip) (SPs.rfl) (LSub.cons (by repeat first | exact .h | apply Sel.skip) (SPs.rfl) (LSub.nil)))))
 ·
  try simp only [NF] at h25
  refine J_exit ?_
  refine J_seq ?_
  have hi2 : i = g.Edges.length := by omega
  refine J_region ?_
  refine Jm rfl ?_
  refine Ja rfl ?_
  refine JL_nil ?_
  refine J_ret ?_
  refine K_lsub (L' := [own 27 rV v18 (valsS q), rowsS 3 rInt q, own 4 rBool v11 (List.replicate g.N.toNat false), own 3 rInt v15 (List.replicate g.Edges.length 0)]) (LSub.cons (by repeat first | exact .h | apply Sel.skip) (SPs.rfl) (LSub.cons (by repeat first | exact .h | apply Sel.skip) (SPs.rfl) (LSub.cons (by repeat first | exact .h | apply Sel.skip) (SPs.rfl) (LSub.cons (by repeat first | exact .h | apply Sel.skip) (SPs.rfl) (LSub.nil))))) ?_
  refine K_ret1' (rv := .tmp 2) rfl (v11, v15) (Sel.take (Sel.take (Sel.none _))) (.tmp Sr) (Frz.to (by subst hi2; rw [hr0.done]; exact Sr) frz_st)
open Go Go.Proofs Go.Proofs.Tryz
/-- A slice value of which only the length is known. -/
def tLen (n : Nat) : Ty := ⟨fun _ v => ∃ ao cap, v = .slice ao n cap, fun _ e => e⟩
section
variable {C : Cx} {E : Env} {L : List SP} {d : Option Nat} {ty : Nat} {pos : String} {af : Array Edge} {g : Option (Nat × Bool)}
theorem step_len_any {T e n : Nat} {x : Operand} (hu : C.P.underlying T = some (.slice e)) (hx : Sub (opTy E x) (tLen n)) :
    Step1 C ⟨d, .call { callee := .builtin .len, args := #[x], argTypes := #[T] }, ty, pos, af, g⟩ E L (tV (.int .i64 n)) :=
  Step.of_same (by intro c h; cases h) fun a w h hw fr => by
    obtain ⟨ao, cap, hv⟩ := fr.get hx
    exact ⟨.int .i64 n, by simp [execOp, resolve, invoke, builtin, Builtin.len_, hv, run_underlying hu, goInt], rfl⟩
theorem step_slice_preL {α : Type} {T e n : Nat} {R : Rp α} {x y : Operand} {v : Value} {xs : List α} {S : List SP} {k : IntKind} {i : Int} (hu : C.P.underlying T = some (.slice e)) (hR : TyOf C.P e R)
    (hx : Sub (opTy E x) (rV.ty v)) (hy : Sub (opTy E y) (tV (.int k i))) (hi : i = n) (sel : Sel L [own e R v xs] S) (hn : n ≤ xs.length) :
    Step1 C ⟨d, .slice T x none (some y) none, ty, pos, af, g⟩ E L (tLen n) :=
  Step.of_run (by intro c h; cases h) fun a w h m l sp st fr => by
    have hv : a.eval x = v := (fr.get hx).1
    have h2 : a.eval y = .int k i := fr.get hy
    subst hi
    have st0 := st
    obtain ⟨m1, m2, d12, rfl, ho, s2⟩ := sel.one.1 st
    rcases ho with ⟨rfl, rfl, rfl⟩ | ⟨b, cap, cur, rfl, rfl, hl, hm, hs, r⟩
    · have hn0 : n = 0 := by simpa using hn
      subst hn0
      refine ⟨(), .slice none 0 0, w, h, _, ?_, HL.refl, sp, st0, ⟨_, _, rfl⟩⟩
      simp [execOp, Instr.sliceAt, run_underlying hu, hv, h2, Instr.slice, Instr.sliceBounds, Instr.sliceBound, asIntOf, hR.size]
    · have hnc : (n : Int) ≤ cap := by omega
      refine ⟨(), .slice (some ⟨b, 0, none⟩) n cap, w, h, _, ?_, HL.refl, sp, st0, ⟨_, _, rfl⟩⟩
      simp [execOp, Instr.sliceAt, run_underlying hu, hv, h2, Instr.slice, Instr.sliceBounds, Instr.sliceBound, asIntOf, hR.size, show n ≤ cap by omega]
      intro _; rw [addr_add]
end
def blkdF (es : LL) (full : List Int) (v : Nat) : Bool := (edgesAt es v).any fun e => decide (nth full e.toNat = ((nth es e.toNat).length : Int) - 1)
abbrev tSt (st : GSt) : Ty := tPtr (rTyp (tPtr rSt st) ptr_one) ()
def setP (inn : List Bool) (n : Nat) : List Int := ((List.range n).filter (nth inn)).map fun (i : Nat) => (i : Int)
theorem setP_succ (inn : List Bool) (i : Nat) : setP inn (i + 1) = setP inn i ++ if nth inn i = true then [(i : Int)] else [] := by
  unfold setP
  rw [List.range_succ, List.filter_append, List.map_append]
  cases h : nth inn i <;> simp [h]
theorem setP_len (inn : List Bool) (i : Nat) : (setP inn i).length ≤ i := by
  unfold setP
  rw [List.length_map]
  have := List.length_filter_le (nth inn) (List.range i)
  simpa using this
theorem all_succ (p : Nat → Bool) (i : Nat) : (List.range (i + 1)).all p = ((List.range i).all p && p i) := by
  rw [List.range_succ, List.all_append]; simp
theorem all_stop {p : Nat → Bool} {i n : Nat} (hi : i < n) (h : p i = false) : (List.range n).all p = false := by
  rw [Bool.eq_false_iff]
  intro h2
  have := List.all_eq_true.1 h2 i (List.mem_range.2 hi)
  rw [h] at this; cases this
theorem edge_mem {es : LL} {v : Nat} {e : Int} (h : e ∈ edgesAt es v) : 0 ≤ e ∧ e < es.length := (edges_ok es v).2.1 e h
set_option maxHeartbeats 1000000 in
theorem stPut_spec (g : GGraph) (hg : GOk g) (vin vfull : Value) (inn : List Bool) (full : List Int) (v : Nat) (b : Bool) (hv : v < g.N.toNat) (hl : inn.length = g.N.toNat) (hf : full.length = g.Edges.length) (hbd : ∀ j, 0 ≤ nth full j ∧ nth full j ≤ 1000) : Spec (X := Unit) prog 91 [tPtr rSt (g, vin, vfull, EG g), tV (.int .i64 v), tV (.bool b)] ([own 4 rBool vin inn, own 3 rInt vfull full]) (fun _ => tTup []) (fun _ => [own 4 rBool vin (inn.set v b), own 3 rInt vfull (updL (if b then 1 else -1) (edgesAt g.Edges v) full)]) := by
 refine Spec.enter func91 rfl rfl fun h0 w0 fr0 => ?_
 have hel := hg.el
 have hEl := edges_len g.Edges v
 refine Jr ?_
 refine Ja rfl ?_
 refine JL_nil ?_
 refine J_seq ?_
 refine Jr ?_
 refine Jm rfl ?_
 refine Js rfl (step_not Sr) ?_
 refine JL_nil ?_
 refine J_cond Sr (fun h10 => ?_) (fun h10 => ?_)
 ·
  try simp only [NF] at h10
  refine J_region ?_
  refine Ja rfl ?_
  refine JL_nil ?_
  refine Jr ?_
  refine Jm rfl ?_
  refine Js rfl (step_nilCheckP Sr) ?_
  refine Js rfl (step_fieldAddr so122S Sr rfl) ?_
  refine Jl rfl ty95V Sr ?_
  refine Jm rfl ?_
  refine Jm rfl ?_
  refine Js rfl (step_indexAddr_own (i := v) underlying95 ty4 Sr (by repeat first | exact .h | apply Sel.skip) Sr ?sg1 ?sg2) ?_
  case sg1 => rfl
  case sg2 => show v < inn.length; omega
  refine JL_stepU rfl rfl (step_store_own ty4 Sr Sr (by repeat first | exact .h | apply Sel.skip) ?sg1) fun _ => ?_
  case sg1 => show v < inn.length; omega
  refine JL_nil ?_
  refine Jr ?_
  refine Jm rfl ?_
  refine Js rfl (step_nilCheckP Sr) ?_
  refine Js rfl (step_fieldAddr so122S Sr rfl) ?_
  refine Jl rfl ty28 Sr ?_
  refine Jm rfl ?_
  refine Js rfl (step_indexAddr_sl (i := v) underlying28 ty27 Sr Sr ?sg1 (gb ?sg2)) ?_
  case sg1 => rfl
  case sg2 => show v < (EG g).length; simp; omega
  refine Jl rfl ty27 Sr ?_
  refine Js rfl (step_len_sl underlying27 Sr) ?_
  refine Jm rfl ?_
  refine JL_nil ?_
  refine J_block ?_
  refine J_loopL (σ := Nat) (fun i => i ≤ (edgesAt g.Edges v).length) (fun i => upd (upd (upd (upd (upd env0 0 (tPtr rSt (g, vin, vfull, EG g))) 6 (tV (.int .i64 (if b then 1 else -1)))) 24 (tSl rInt (edgesAt g.Edges v))) 25 (tV (.int .i64 (edgesAt g.Edges v).length))) 26 (tV (.int .i64 i))) (fun i => [own 4 rBool vin (inn.set v b), own 3 rInt vfull (updL (if b then 1 else -1) ((edgesAt g.Edges v).take i) full)]) (fun i => (edgesAt g.Edges v).length - i) 0 (Nat.zero_le _) (SubE.upd Sr (SubE.upd (Sub.int (by rw [nth_EG hv])) (SubE.upd (Sub.sl (nth_EG hv)) (SubE.upd (Sub.int (by cases b <;> simp_all)) (SubE.upd Sr SubE.any))))) (LSub.cons (by repeat first | exact .h | apply Sel.skip) (SPs.rfl) (LSub.cons (by repeat first | exact .h | apply Sel.skip) (SPs.of (by rw [List.take_zero]; rfl)) (LSub.nil))) ?_
  rintro i hi
  refine Jr ?_
  refine Js rfl (step_lss Sr Sr) ?_
  refine JL_nil ?_
  refine J_seq ?_
  refine J_cond Sr (fun h27 => ?_) (fun h27 => ?_)
  ·
   try simp only [NF] at h27
   have hlt : i < (edgesAt g.Edges v).length := by omega
   obtain ⟨he0, hel2⟩ := edge_mem (nth_mem hlt)
   have hub := updL_bd (d := if b then 1 else -1) (by cases b <;> simp) (v := v) (es := g.Edges) hf hbd i (nth (edgesAt g.Edges v) i).toNat
   refine J_skip ?_
   refine J_seq ?_
   refine J_block ?_
   refine Jr ?_
   refine Js rfl (step_indexAddr_sl  underlying27 ty3 Sr Sr rfl (gb ?sg1)) ?_
   case sg1 => exact hlt
   refine Jl rfl ty3 Sr ?_
   refine Ja rfl ?_
   refine JL_nil ?_
   refine J_region ?_
   refine Jm rfl ?_
   refine Js rfl (step_nilCheckP Sr) ?_
   refine Js rfl (step_fieldAddr so122S Sr rfl) ?_
   refine Jl rfl ty27V Sr ?_
   refine Jm rfl ?_
   refine Js rfl (step_indexAddr_own (i := (nth (edgesAt g.Edges v) i).toNat) underlying27 ty3 Sr (by repeat first | exact .h | apply Sel.skip) Sr ?sg1 ?sg2) ?_
   case sg1 => omega
   case sg2 => show _ < (updL _ _ _).length; rw [updL_len]; omega
   refine Js rfl (step_load_own ty3 Sr (by repeat first | exact .h | apply Sel.skip) (gb ?sg1)) ?_
   case sg1 => show _ < (updL _ _ _).length; rw [updL_len]; omega
   refine Jm rfl ?_
   refine Js rfl (step_add Sr Sr (by have hq : (if b = true then (1 : Int) else -1) = 1 ∨ (if b = true then (1 : Int) else -1) = -1 := (by cases b <;> simp); unfold in64; omega)) ?_
   refine Js rfl (step_indexAddr_own (i := (nth (edgesAt g.Edges v) i).toNat) underlying27 ty3 Sr (by repeat first | exact .h | apply Sel.skip) Sr ?sg1 ?sg2) ?_
   case sg1 => omega
   case sg2 => show _ < (updL _ _ _).length; rw [updL_len]; omega
   refine JL_stepU rfl rfl (step_store_own ty3 Sr Sr (by repeat first | exact .h | apply Sel.skip) ?sg1) fun _ => ?_
   case sg1 => show _ < (updL _ _ _).length; rw [updL_len]; omega
   refine JL_nil ?_
   refine J_region ?_
   refine Js rfl (step_add Sr Sr ?sg1) ?_
   case sg1 => unfold in64; omega
   refine Jm rfl ?_
   refine JL_nil ?_
   refine K_againL (σ := Nat) (s := i) (i + 1) (by first | omega | (dsimp only; omega) | (simp_all; omega)) (by omega) (SubE.upd Sr (SubE.upd Sr (SubE.upd Sr (SubE.upd Sr (SubE.upd Sr SubE.any))))) (LSub.cons (by repeat first | exact .h | apply Sel.skip) (SPs.rfl) (LSub.cons (by repeat first | exact .h | apply Sel.skip) (SPs.of (by rw [takeB hlt, updL_snoc])) (LSub.nil)))
  ·
   try simp only [NF] at h27
   refine J_exit ?_
   refine K_lsub (L' := [own 4 rBool vin (inn.set v b), own 3 rInt vfull (updL (if b then 1 else -1) (edgesAt g.Edges v) full)]) (LSub.cons (by repeat first | exact .h | apply Sel.skip) (SPs.rfl) (LSub.cons (by repeat first | exact .h | apply Sel.skip) (SPs.of (by rw [List.take_of_length_le (by omega)])) (LSub.nil))) ?_
   refine K_end0 rfl () Sr
 ·
  try simp only [NF] at h10
  refine J_skip ?_
  refine Jr ?_
  refine Jm rfl ?_
  refine Js rfl (step_nilCheckP Sr) ?_
  refine Js rfl (step_fieldAddr so122S Sr rfl) ?_
  refine Jl rfl ty95V Sr ?_
  refine Jm rfl ?_
  refine Jm rfl ?_
  refine Js rfl (step_indexAddr_own (i := v) underlying95 ty4 Sr (by repeat first | exact .h | apply Sel.skip) Sr ?sg1 ?sg2) ?_
  case sg1 => rfl
  case sg2 => show v < inn.length; omega
  refine JL_stepU rfl rfl (step_store_own ty4 Sr Sr (by repeat first | exact .h | apply Sel.skip) ?sg1) fun _ => ?_
  case sg1 => show v < inn.length; omega
  refine JL_nil ?_
  refine Jr ?_
  refine Jm rfl ?_
  refine Js rfl (step_nilCheckP Sr) ?_
  refine Js rfl (step_fieldAddr so122S Sr rfl) ?_
  refine Jl rfl ty28 Sr ?_
  refine Jm rfl ?_
  refine Js rfl (step_indexAddr_sl (i := v) underlying28 ty27 Sr Sr ?sg1 (gb ?sg2)) ?_
  case sg1 => rfl
  case sg2 => show v < (EG g).length; simp; omega
  refine Jl rfl ty27 Sr ?_
  refine Js rfl (step_len_sl underlying27 Sr) ?_
  refine Jm rfl ?_
  refine JL_nil ?_
  refine J_block ?_
  refine J_loopL (σ := Nat) (fun i => i ≤ (edgesAt g.Edges v).length) (fun i => upd (upd (upd (upd (upd env0 0 (tPtr rSt (g, vin, vfull, EG g))) 6 (tV (.int .i64 (if b then 1 else -1)))) 24 (tSl rInt (edgesAt g.Edges v))) 25 (tV (.int .i64 (edgesAt g.Edges v).length))) 26 (tV (.int .i64 i))) (fun i => [own 4 rBool vin (inn.set v b), own 3 rInt vfull (updL (if b then 1 else -1) ((edgesAt g.Edges v).take i) full)]) (fun i => (edgesAt g.Edges v).length - i) 0 (Nat.zero_le _) (SubE.upd Sr (SubE.upd (Sub.int (by rw [nth_EG hv])) (SubE.upd (Sub.sl (nth_EG hv)) (SubE.upd (Sub.int (by cases b <;> simp_all)) (SubE.upd Sr SubE.any))))) (LSub.cons (by repeat first | exact .h | apply Sel.skip) (SPs.rfl) (LSub.cons (by repeat first | exact .h | apply Sel.skip) (SPs.of (by rw [List.take_zero]; rfl)) (LSub.nil))) ?_
  rintro i hi
  refine Jr ?_
  refine Js rfl (step_lss Sr Sr) ?_
  refine JL_nil ?_
  refine J_seq ?_
  refine J_cond Sr (fun h27 => ?_) (fun h27 => ?_)
  ·
   try simp only [NF] at h27
   have hlt : i < (edgesAt g.Edges v).length := by omega
   obtain ⟨he0, hel2⟩ := edge_mem (nth_mem hlt)
   have hub := updL_bd (d := if b then 1 else -1) (by cases b <;> simp) (v := v) (es := g.Edges) hf hbd i (nth (edgesAt g.Edges v) i).toNat
   refine J_skip ?_
   refine J_seq ?_
   refine J_block ?_
   refine Jr ?_
   refine Js rfl (step_indexAddr_sl  underlying27 ty3 Sr Sr rfl (gb ?sg1)) ?_
   case sg1 => exact hlt
   refine Jl rfl ty3 Sr ?_
   refine Ja rfl ?_
   refine JL_nil ?_
   refine J_region ?_
   refine Jm rfl ?_
   refine Js rfl (step_nilCheckP Sr) ?_
   refine Js rfl (step_fieldAddr so122S Sr rfl) ?_
   refine Jl rfl ty27V Sr ?_
   refine Jm rfl ?_
   refine Js rfl (step_indexAddr_own (i := (nth (edgesAt g.Edges v) i).toNat) underlying27 ty3 Sr (by repeat first | exact .h | apply Sel.skip) Sr ?sg1 ?sg2) ?_
   case sg1 => omega
   case sg2 => show _ < (updL _ _ _).length; rw [updL_len]; omega
   refine Js rfl (step_load_own ty3 Sr (by repeat first | exact .h | apply Sel.skip) (gb ?sg1)) ?_
   case sg1 => show _ < (updL _ _ _).length; rw [updL_len]; omega
   refine Jm rfl ?_
   refine Js rfl (step_add Sr Sr (by have hq : (if b = true then (1 : Int) else -1) = 1 ∨ (if b = true then (1 : Int) else -1) = -1 := (by cases b <;> simp); unfold in64; omega)) ?_
   refine Js rfl (step_indexAddr_own (i := (nth (edgesAt g.Edges v) i).toNat) underlying27 ty3 Sr (by repeat first | exact .h | apply Sel.skip) Sr ?sg1 ?sg2) ?_
   case sg1 => omega
   case sg2 => show _ < (updL _ _ _).length; rw [updL_len]; omega
   refine JL_stepU rfl rfl (step_store_own ty3 Sr Sr (by repeat first | exact .h | apply Sel.skip) ?sg1) fun _ => ?_
   case sg1 => show _ < (updL _ _ _).length; rw [updL_len]; omega
   refine JL_nil ?_
   refine J_region ?_
   refine Js rfl (step_add Sr Sr ?sg1) ?_
   case sg1 => unfold in64; omega
   refine Jm rfl ?_
   refine JL_nil ?_
   refine K_againL (σ := Nat) (s := i) (i + 1) (by first | omega | (dsimp only; omega) | (simp_all; omega)) (by omega) (SubE.upd Sr (SubE.upd Sr (SubE.upd Sr (SubE.upd Sr (SubE.upd Sr SubE.any))))) (LSub.cons (by repeat first | exact .h | apply Sel.skip) (SPs.rfl) (LSub.cons (by repeat first | exact .h | apply Sel.skip) (SPs.of (by rw [takeB hlt, updL_snoc])) (LSub.nil)))
  ·
   try simp only [NF] at h27
   refine J_exit ?_
   refine K_lsub (L' := [own 4 rBool vin (inn.set v b), own 3 rInt vfull (updL (if b then 1 else -1) (edgesAt g.Edges v) full)]) (LSub.cons (by repeat first | exact .h | apply Sel.skip) (SPs.rfl) (LSub.cons (by repeat first | exact .h | apply Sel.skip) (SPs.of (by rw [List.take_of_length_le (by omega)])) (LSub.nil))) ?_
   refine K_end0 rfl () Sr
theorem blkE_spec (g : GGraph) (hg : GOk g) (vin vfull : Value) (full : List Int) (e : Int) (he : 0 ≤ e ∧ e < g.Edges.length) (hf : full.length = g.Edges.length) : Spec (X := Unit) prog 119 [tV (.int .i64 e), tSt (g, vin, vfull, EG g)] ([own 3 rInt vfull full]) (fun _ => tV (.bool (decide (nth full e.toNat = ((nth g.Edges e.toNat).length : Int) - 1)))) (fun _ => [own 3 rInt vfull full]) := by
 refine Spec.enter func119 rfl rfl fun h0 w0 fr0 => ?_
 have hle := hg.len (i := e.toNat) (by omega)
 refine Jr ?_
 refine Ja rfl ?_
 refine JL_nil ?_
 refine J_seq ?_
 refine J_draw [⟨0, [1], true⟩, ⟨1, [4], true⟩, ⟨2, [5], true⟩, ⟨3, [6], true⟩, ⟨4, [0], true⟩, ⟨7, [1], true⟩, ⟨8, [11], true⟩, ⟨9, [12], true⟩, ⟨10, [13], true⟩, ⟨11, [14], true⟩, ⟨12, [0], true⟩, ⟨13, [15, 16], true⟩, ⟨14, [17], true⟩, ⟨15, [18], true⟩, ⟨16, [19], true⟩, ⟨5, [7, 8], false⟩, ⟨6, [9], false⟩, ⟨17, [10, 20], true⟩, ⟨18, [21], true⟩] rfl (by kernel_rfl) ?_
 refine JM_step rfl rfl rfl rfl (fun _ => step_load_ptr ty119T Sr) ?_
 refine JM_step rfl rfl rfl rfl (fun _ => step_nilCheckP Sr) ?_
 refine JM_step rfl rfl rfl rfl (fun _ => step_fieldAddr so122S Sr rfl) ?_
 refine JM_step rfl rfl rfl rfl (fun _ => step_load_ptr ty27V Sr) ?_
 refine JM_step rfl rfl rfl rfl (fun _ => step_move Sr) ?_
 refine JM_step rfl rfl rfl rfl (fun _ => step_load_ptr ty119T Sr) ?_
 refine JM_step rfl rfl rfl rfl (fun _ => step_nilCheckP Sr) ?_
 refine JM_step rfl rfl rfl rfl (fun _ => step_fieldAddr so122S Sr rfl) ?_
 refine JM_step rfl rfl rfl rfl (fun _ => step_fieldAddr so30 Sr rfl) ?_
 refine JM_step rfl rfl rfl rfl (fun _ => step_load_ptr ty28 Sr) ?_
 refine JM_step rfl rfl rfl rfl (fun _ => step_move Sr) ?_
 refine JM_step rfl rfl rfl rfl (fun _ => step_indexAddr_sl (i := e.toNat) underlying28 ty27 Sr Sr ?sg1 (gb ?sg2)) ?_
 case sg1 => omega
 case sg2 => show e.toNat < g.Edges.length; omega
 refine JM_step rfl rfl rfl rfl (fun _ => step_load_ptr ty27 Sr) ?_
 refine JM_step rfl rfl rfl rfl (fun _ => step_len_sl underlying27 Sr) ?_
 refine JM_step rfl rfl rfl rfl (fun _ => step_sub Sr Sr (by show in64 (((nth g.Edges e.toNat).length : Int) - 1); unfold in64; omega)) ?_
 refine JM_look rfl rfl rfl rfl (step_indexAddr_own (i := e.toNat) underlying27 ty3 Sr (by repeat first | exact .h | apply Sel.skip) Sr ?sg1 ?sg2) ?_
 case sg1 => omega
 case sg2 => show e.toNat < full.length; omega
 refine JM_look rfl rfl rfl rfl (step_load_own ty3 Sr (by repeat first | exact .h | apply Sel.skip) (gb ?sg1)) ?_
 case sg1 => show e.toNat < full.length; omega
 refine JM_step rfl rfl rfl rfl (fun _ => step_eql Sr Sr) ?_
 refine JM_step rfl rfl rfl rfl (fun _ => step_assign Sr) ?_
 refine JM_nil ?_
 refine J_ret ?_
 refine K_retv (rv := .tmp 3) rfl () (.tmp Sr) Sr
theorem blocked_spec (g : GGraph) (hg : GOk g) (vin vfull : Value) (full : List Int) (v : Nat) (hv : v < g.N.toNat) (hf : full.length = g.Edges.length) : Spec (X := Unit) prog 90 [tPtr rSt (g, vin, vfull, EG g), tV (.int .i64 v)] ([own 3 rInt vfull full]) (fun _ => tV (.bool (blkdF g.Edges full v))) (fun _ => [own 3 rInt vfull full]) := by
 refine Spec.enter func90 rfl rfl fun h0 w0 fr0 => ?_
 have hel := hg.el
 have hEl := edges_len g.Edges v
 have hE := nth_EG hv
 refine Jr ?_
 refine Js rfl (step_box (R := rTyp (tPtr rSt (g, vin, vfull, EG g)) ptr_one) (y := ()) Sr) ?_
 refine Ja rfl ?_
 refine JL_nil ?_
 refine Jr ?_
 refine Jl rfl ty119T Sr ?_
 refine Js rfl (step_nilCheckP Sr) ?_
 refine Js rfl (step_fieldAddr so122S Sr rfl) ?_
 refine Jl rfl ty28 Sr ?_
 refine Jm rfl ?_
 refine Js rfl (step_indexAddr_sl (i := v) underlying28 ty27 Sr Sr ?sg1 (gb ?sg2)) ?_
 case sg1 => rfl
 case sg2 => show v < (EG g).length; simp; omega
 refine Jl rfl ty27 Sr ?_
 refine Js rfl (step_makeFunc (As := [_]) ⟨Sr, trivial⟩) ?_
 refine JL_stepX rfl rfl rfl (step_call (Sel.all _) (ContainsFuncM_spec (nth (EG g) v) (by rw [hE]; omega) 119 [tSt (g, vin, vfull, EG g)] (own 3 rInt vfull full) (fun e => decide (nth full e.toNat = ((nth g.Edges e.toNat).length : Int) - 1)) (fun e he => blkE_spec g hg vin vfull full e (edge_mem (hE ▸ he)) hf) call119) ⟨Sr, Sr, trivial⟩ call42) fun v13 => ?_
 refine Ja rfl ?_
 refine JL_nil ?_
 refine J_ret ?_
 refine K_retv (rv := .tmp 4) rfl () (.tmp Sr) (Sub.bool ?_)
 rw [hE]; rfl
theorem setS_spec (g : GGraph) (hg : GOk g) (vin vfull : Value) (inn : List Bool) (hl : inn.length ≤ 1000) : Spec (X := Unit) prog 89 [tPtr rSt (g, vin, vfull, EG g)] ([own 4 rBool vin inn]) (fun _ => tSl rInt (setM inn)) (fun _ => [own 4 rBool vin inn]) := by
 refine Spec.enter func89 rfl rfl fun h0 w0 fr0 => ?_
 refine Jr ?_
 refine Ja rfl ?_
 refine JL_nil ?_
 refine Jr ?_
 refine JL_stepX rfl rfl rfl (step_literal_own (ys := []) underlying27 el3 trivial rfl (by decide)) fun v6 => ?_
 refine Ja rfl ?_
 refine JL_nil ?_
 refine J_seq ?_
 refine Jr ?_
 refine Jm rfl ?_
 refine Js rfl (step_nilCheckP Sr) ?_
 refine Js rfl (step_fieldAddr so122S Sr rfl) ?_
 refine Jl rfl ty95V Sr ?_
 refine Js rfl (step_len_own underlying95 Sr (by repeat first | exact .h | apply Sel.skip)) ?_
 refine Jm rfl ?_
 refine JL_nil ?_
 refine J_block ?_
 refine J_loopL (σ := Nat × Value) (fun ⟨i, vo⟩ => i ≤ inn.length) (fun ⟨i, vo⟩ => upd (upd (upd (upd (upd env0 2 (tV (.slice none 0 0))) 3 (rV.ty vo)) 10 (rV.ty vin)) 11 (tV (.int .i64 inn.length))) 12 (tV (.int .i64 i))) (fun ⟨i, vo⟩ => [own 4 rBool vin inn, own 3 rInt vo (setP inn i)]) (fun ⟨i, vo⟩ => inn.length - i) (0, v6) (Nat.zero_le _) (SubE.upd Sr (SubE.upd Sr (SubE.upd Sr (SubE.upd Sr (SubE.upd Sr SubE.any))))) (LSub.cons (by repeat first | exact .h | apply Sel.skip) (SPs.rfl) (LSub.cons (by repeat first | exact .h | apply Sel.skip) (SPs.rfl) (LSub.nil))) ?_
 rintro ⟨i, vo⟩ hi
 try dsimp only at hi
 refine Jr ?_
 refine Js rfl (step_lss Sr Sr) ?_
 refine JL_nil ?_
 refine J_seq ?_
 refine J_cond Sr (fun h13 => ?_) (fun h13 => ?_)
 ·
  try simp only [NF] at h13
  have hlt : i < inn.length := by omega
  have hsl := setP_len inn i
  refine J_skip ?_
  refine J_seq ?_
  refine J_block ?_
  refine Jr ?_
  refine Jm rfl ?_
  refine Js rfl (step_indexAddr_own  underlying95 ty4 Sr (by repeat first | exact .h | apply Sel.skip) Sr rfl ?sg1) ?_
  case sg1 => exact hlt
  refine Js rfl (step_load_own ty4 Sr (by repeat first | exact .h | apply Sel.skip) (gb ?sg1)) ?_
  case sg1 => exact hlt
  refine Ja rfl ?_
  refine Ja rfl ?_
  refine JL_nil ?_
  refine Jr ?_
  refine Jm rfl ?_
  refine JL_nil ?_
  refine J_cond Sr (fun h17 => ?_) (fun h17 => ?_)
  ·
   try simp only [NF] at h17
   refine J_region ?_
   refine Jm rfl ?_
   refine Jm rfl ?_
   refine Js rfl (step_literal (ys := [_]) underlying27 el3 ⟨rfl, Sr, trivial⟩ rfl (by decide)) ?_
   refine JL_stepX rfl rfl rfl (step_append underlying27 el3 Sr Sr (by repeat first | exact .h | apply Sel.skip) (by simp; omega) (by simp; omega)) fun u21 => ?_
   refine Ja rfl ?_
   refine JL_nil ?_
   refine J_region ?_
   refine Js rfl (step_add Sr Sr ?sg1) ?_
   case sg1 => unfold in64; omega
   refine Jm rfl ?_
   refine JL_nil ?_
   refine K_againL (σ := Nat × Value) (s := (i, vo)) (i + 1, u21) (by first | omega | (dsimp only; omega) | (simp_all; omega)) hlt (SubE.upd Sr (SubE.upd Sr (SubE.upd Sr (SubE.upd Sr (SubE.upd Sr SubE.any))))) (LSub.cons (by repeat first | exact .h | apply Sel.skip) (SPs.rfl) (LSub.cons (by repeat first | exact .h | apply Sel.skip) (SPs.of (by rw [setP_succ, if_pos h17])) (LSub.nil)))
  ·
   try simp only [NF] at h17
   refine J_skip ?_
   refine J_region ?_
   refine Js rfl (step_add Sr Sr ?sg1) ?_
   case sg1 => unfold in64; omega
   refine Jm rfl ?_
   refine JL_nil ?_
   refine K_againL (σ := Nat × Value) (s := (i, vo)) (i + 1, vo) (by first | omega | (dsimp only; omega) | (simp_all; omega)) hlt (SubE.upd Sr (SubE.upd Sr (SubE.upd Sr (SubE.upd Sr (SubE.upd Sr SubE.any))))) (LSub.cons (by repeat first | exact .h | apply Sel.skip) (SPs.rfl) (LSub.cons (by repeat first | exact .h | apply Sel.skip) (SPs.of (by rw [setP_succ, if_neg (by rw [h17]; simp), List.append_nil])) (LSub.nil)))
 ·
  try simp only [NF] at h13
  obtain rfl : i = inn.length := by omega
  refine J_exit ?_
  refine Jr ?_
  refine Jm rfl ?_
  refine Ja rfl ?_
  refine JL_nil ?_
  refine J_ret ?_
  refine K_ret1' (rv := .tmp 2) rfl () (Sel.skip (Sel.take (Sel.none _))) (.tmp Sr) Frz.own
theorem every_spec (n : Nat) (hn : n ≤ 1000000) (gi : Nat) (As : List Ty) (B : SP) (p : Nat → Bool) (hp : ∀ i : Nat, i < n → Spec (X := Unit) prog gi ([tV (.int .i64 i)] ++ As) [B] (fun _ => tV (.bool (p i))) (fun _ => [B])) (he : ∀ args w, (callFunc gi args).run prog w = .ok (.enter gi args) w) : Spec (X := Unit) prog 92 [tLen n, tClo gi As] ([B]) (fun _ => tV (.bool ((List.range n).all p))) (fun _ => [B]) := by
 refine Spec.enter func92 rfl rfl fun h0 w0 fr0 => ?_
 refine Jr ?_
 refine Ja rfl ?_
 refine JL_nil ?_
 refine J_seq ?_
 refine Jr ?_
 refine Jm rfl ?_
 refine Js rfl (step_len_any underlying95 Sr) ?_
 refine Jm rfl ?_
 refine JL_nil ?_
 refine J_block ?_
 refine J_loopL (σ := Nat) (fun i => i ≤ n ∧ (List.range i).all p = true) (fun i => upd (upd (upd env0 1 (tClo gi As)) 7 (tV (.int .i64 n))) 8 (tV (.int .i64 i))) (fun i => [B]) (fun i => n - i) 0 ⟨Nat.zero_le _, rfl⟩ (SubE.upd Sr (SubE.upd Sr (SubE.upd Sr SubE.any))) (LSub.rfl) ?_
 rintro i ⟨hi, hv⟩
 refine Jr ?_
 refine Js rfl (step_lss Sr Sr) ?_
 refine JL_nil ?_
 refine J_seq ?_
 refine J_cond Sr (fun h9 => ?_) (fun h9 => ?_)
 ·
  try simp only [NF] at h9
  refine J_skip ?_
  refine J_seq ?_
  refine J_block ?_
  refine Jr ?_
  refine Jm rfl ?_
  refine Ja rfl ?_
  refine JL_nil ?_
  refine Jr ?_
  refine Jm rfl ?_
  refine Jm rfl ?_
  refine JL_stepX rfl rfl rfl (step_callv (aT := [_]) Sr (Sel.all _) (hp i (by omega)) ⟨Sr, trivial⟩ he) fun v13 => ?_
  refine Js rfl (step_not Sr) ?_
  refine JL_nil ?_
  refine J_cond Sr (fun h14 => ?_) (fun h14 => ?_)
  ·
   try simp only [NF] at h14
   refine Jr ?_
   refine Ja rfl ?_
   refine JL_nil ?_
   refine J_ret ?_
   refine K_retv (rv := .tmp 4) rfl () (.tmp Sr) (Sub.bool ?_)
   rw [all_stop (i := i) (by omega) h14]
  ·
   try simp only [NF] at h14
   refine J_skip ?_
   refine J_region ?_
   refine Js rfl (step_add Sr Sr ?sg1) ?_
   case sg1 => unfold in64; omega
   refine Jm rfl ?_
   refine JL_nil ?_
   refine K_againL (σ := Nat) (s := i) (i + 1) (by first | omega | (dsimp only; omega) | (simp_all; omega)) ⟨by omega, by rw [all_succ, hv, h14]; rfl⟩ (SubE.upd Sr (SubE.upd Sr (SubE.upd Sr SubE.any))) (LSub.rfl)
 ·
  try simp only [NF] at h9
  refine J_exit ?_
  refine Jr ?_
  refine Ja rfl ?_
  refine JL_nil ?_
  refine J_ret ?_
  refine K_retv (rv := .tmp 4) rfl () (.tmp Sr) (Sub.bool ?_)
  obtain rfl : i = n := by omega
  rw [hv]
theorem posE_spec (vout : Value) (out : List Int) (e : Int) (he : 0 ≤ e ∧ e < out.length) : Spec (X := Unit) prog 87 [tV (.int .i64 e), tPtr rV vout] ([own 3 rInt vout out]) (fun _ => tV (.bool (decide (nth out e.toNat = 1)))) (fun _ => [own 3 rInt vout out]) := by
 refine Spec.enter func87 rfl rfl fun h0 w0 fr0 => ?_
 refine Jr ?_
 refine Ja rfl ?_
 refine JL_nil ?_
 refine Jr ?_
 refine Jl rfl ty27V Sr ?_
 refine Jm rfl ?_
 refine Js rfl (step_indexAddr_own (i := e.toNat) underlying27 ty3 Sr (by repeat first | exact .h | apply Sel.skip) Sr ?sg1 ?sg2) ?_
 case sg1 => omega
 case sg2 => show e.toNat < out.length; omega
 refine Js rfl (step_load_own ty3 Sr (by repeat first | exact .h | apply Sel.skip) (gb ?sg1)) ?_
 case sg1 => show e.toNat < out.length; omega
 refine Js rfl (step_eql Sr Sr) ?_
 refine Ja rfl ?_
 refine JL_nil ?_
 refine J_ret ?_
 refine K_retv (rv := .tmp 3) rfl () (.tmp Sr) Sr
theorem possible_spec (g : GGraph) (hg : GOk g) (vin vfull vout : Value) (out : List Int) (w : Nat) (hw : w < g.N.toNat) (ho : out.length = g.Edges.length) : Spec (X := Unit) prog 86 [tV (.int .i64 w), tSt (g, vin, vfull, EG g), tPtr rV vout] ([own 3 rInt vout out]) (fun _ => tV (.bool (possM g.Edges out w))) (fun _ => [own 3 rInt vout out]) := by
 refine Spec.enter func86 rfl rfl fun h0 w0 fr0 => ?_
 have hel := hg.el
 have hEl := edges_len g.Edges w
 have hE := nth_EG hw
 refine Jr ?_
 refine Ja rfl ?_
 refine JL_nil ?_
 refine Jr ?_
 refine Jl rfl ty119T Sr ?_
 refine Js rfl (step_nilCheckP Sr) ?_
 refine Js rfl (step_fieldAddr so122S Sr rfl) ?_
 refine Jl rfl ty28 Sr ?_
 refine Jm rfl ?_
 refine Js rfl (step_indexAddr_sl (i := w) underlying28 ty27 Sr Sr ?sg1 (gb ?sg2)) ?_
 case sg1 => rfl
 case sg2 => show w < (EG g).length; simp; omega
 refine Jl rfl ty27 Sr ?_
 refine Js rfl (step_makeFunc (As := [_]) ⟨Sr, trivial⟩) ?_
 refine JL_stepX rfl rfl rfl (step_call (Sel.all _) (ContainsFuncM_spec (nth (EG g) w) (by rw [hE]; omega) 87 [tPtr rV vout] (own 3 rInt vout out) (fun e => decide (nth out e.toNat = 1)) (fun e he => posE_spec vout out e (by have := edge_mem (hE ▸ he); omega)) call87) ⟨Sr, Sr, trivial⟩ call42) fun v13 => ?_
 refine Ja rfl ?_
 refine JL_nil ?_
 refine J_ret ?_
 refine K_retv (rv := .tmp 4) rfl () (.tmp Sr) (Sub.bool ?_)
 rw [hE]; rfl
theorem keepF_spec (g : GGraph) (hg : GOk g) (vin vfull vout : Value) (inn : List Bool) (out : List Int) (w : Nat) (hwN : w < g.N.toNat) (hl : inn.length = g.N.toNat) (ho : out.length = g.Edges.length) : Spec (X := Unit) prog 93 [tV (.int .i64 w), tSt (g, vin, vfull, EG g), tPtr (rTyp (tClo 86 [tSt (g, vin, vfull, EG g), tPtr rV vout]) clo_one) ()] ([stars [own 4 rBool vin inn, own 3 rInt vout out]]) (fun _ => tV (.bool (nth inn w || possM g.Edges out w))) (fun _ => [stars [own 4 rBool vin inn, own 3 rInt vout out]]) := by
 refine Spec.enter func93 rfl rfl fun h0 w0 fr0 => ?_
 refine J_seq ?_
 refine K_lsub LSub.unstars ?_
 refine J_region ?_
 refine Ja rfl ?_
 refine JL_nil ?_
 refine Jr ?_
 refine Jl rfl ty119T Sr ?_
 refine Js rfl (step_nilCheckP Sr) ?_
 refine Js rfl (step_fieldAddr so122S Sr rfl) ?_
 refine Jl rfl ty95V Sr ?_
 refine Jm rfl ?_
 refine Js rfl (step_indexAddr_own (i := w) underlying95 ty4 Sr (by repeat first | exact .h | apply Sel.skip) Sr ?sg1 ?sg2) ?_
 case sg1 => rfl
 case sg2 => show w < inn.length; omega
 refine Js rfl (step_load_own ty4 Sr (by repeat first | exact .h | apply Sel.skip) (gb ?sg1)) ?_
 case sg1 => show w < inn.length; omega
 refine Jm rfl ?_
 refine JL_stepG rfl rfl rfl (Gd.plain Sr) rfl rfl (fun hw => step_load_ptr ty78T Sr) ?_
 refine JL_stepG rfl rfl rfl (Gd.plain Sr) rfl rfl (fun hw => step_move Sr) ?_
 refine JL_stepGX (tV (.bool false)) rfl rfl rfl (Gd.plain Sr) rfl rfl (fun hw => step_callv (aT := [_]) (Sub.w hw) (Sel.skip (Sel.take (Sel.none _))) (possible_spec g hg vin vfull vout out w hwN ho) ⟨Sub.w hw, trivial⟩ call86) (fun hw v15 => ?_) (fun hw => ?_)
 ·
  skip
  refine Js rfl (step_pick_or Sr Sr) ?_
  refine Ja rfl ?_
  refine JL_nil ?_
  refine J_ret ?_
  refine K_lsub (L' := [stars [own 4 rBool vin inn, own 3 rInt vout out]]) (LSub.stars (LSub.cons (by repeat first | exact .h | apply Sel.skip) (SPs.rfl) (LSub.cons (by repeat first | exact .h | apply Sel.skip) (SPs.rfl) (LSub.nil)))) ?_
  refine K_retv (rv := .tmp 4) rfl () (.tmp Sr) (Sub.bool ?_)
  simp_all
 ·
  skip
  refine Js rfl (step_pick_or Sr Sr) ?_
  refine Ja rfl ?_
  refine JL_nil ?_
  refine J_ret ?_
  refine K_lsub (L' := [stars [own 4 rBool vin inn, own 3 rInt vout out]]) (LSub.stars (LSub.cons (by repeat first | exact .h | apply Sel.skip) (SPs.rfl) (LSub.cons (by repeat first | exact .h | apply Sel.skip) (SPs.rfl) (LSub.nil)))) ?_
  refine K_retv (rv := .tmp 4) rfl () (.tmp Sr) (Sub.bool ?_)
  simp_all
open Go Go.Proofs Go.Proofs.Tryz
theorem ty118T {A : Ty} {ho : ∀ h v, A.p h v → v.oneCell' = true} : TyOf prog 118 (rTyp A ho) := ⟨fun w => isAgg118 w, fun w => sizeOf118 w⟩
theorem yld_one {α : Type} {P : Program} {T : α → List Ty} {Ok : List α → Prop} {M Mx : List α → SP} : ∀ h v, (tYield P T Ok M Mx).p h v → v.oneCell' = true := by rintro h v ⟨l, rfl, _⟩; rfl
theorem out_self (inn : List Bool) (v : Nat) : outP inn v v = false := by simp [outP]
theorem out_next {inn : List Bool} {v : Nat} (h : nth inn v = false) : outP inn (v + 1) v = true ∧ ∀ u, u ≠ v → outP inn (v + 1) u = outP inn v u := by
  constructor
  · simp [outP, h]
  · intro u hu
    unfold outP
    have : (u < v + 1) ↔ (u < v) := by omega
    simp [this]
theorem out_set {inn : List Bool} {v : Nat} (hv : v < inn.length) : outP (inn.set v true) (v + 1) = outP inn v := by
  funext u
  unfold outP
  by_cases e : v = u
  · subst e
    rw [nth_setB hv, if_pos rfl]; simp
  · rw [nth_set_ne e]
    have : (u < v + 1) ↔ (u < v) := by omega
    simp [this]
theorem set_back {inn : List Bool} {v : Nat} (h : nth inn v = false) : (inn.set v true).set v false = inn := by
  rw [List.set_set]
  refine list_ext (by simp) fun i hi => ?_
  by_cases e : v = i
  · subst e
    rw [Lg.nth_set (by simpa using hi), if_pos rfl, h]
  · rw [nth_set_ne e]
theorem cnt_zero (es : LL) {p : Nat → Bool} (h : ∀ u, p u = false) : cntL es p = List.replicate es.length 0 := by
  refine list_ext (by simp [cntL]) fun i hi => ?_
  rw [cntL_len] at hi
  rw [cnt_nth hi, nth_get (l := List.replicate es.length (0 : Int)) (by simpa using hi), List.getElem_replicate]
  unfold cntE
  have : (nth es i).countP (fun v => p v.toNat) = 0 := List.countP_eq_zero.2 fun x _ => by rw [h]; simp
  rw [this]; rfl
theorem rep_nth (n u : Nat) : nth (List.replicate n false) u = false := by
  by_cases h : u < n
  · rw [nth_get (l := List.replicate n false) (by simpa using h)]; simp
  · rw [nth_over (by simpa using h)]; rfl
theorem GOk.inc {g : GGraph} (h : GOk g) : ∀ e ∈ g.Edges, Inc e ∧ ∀ x ∈ e, 0 ≤ x := fun e he => ⟨(h.ed e he).1, fun x hx => ((h.ed e he).2 x hx).1⟩
theorem ok_left {tot pre A B : LL} (h : okPre tot (pre ++ (A ++ B))) : okPre tot (pre ++ A) := by
  obtain ⟨t, ht⟩ := h
  exact ⟨B ++ t, by rw [← ht]; simp⟩
section
variable (g : GGraph) (vin vfull vout : Value) (bv : Nat) (M Mx : LL → SP) (tot : LL)
abbrev VisA : List Ty := [tPtr rGraph g, tPtr (rTyp (tYield prog tLi (okPre tot) M Mx) yld_one) (), tSt (g, vin, vfull, EG g), tAt bv 0, tPtr rV vout, tPtr (rTyp (tClo 86 [tSt (g, vin, vfull, EG g), tPtr rV vout]) clo_one) ()]
abbrev VisP : SP := box bv 78 (rTyp (tClo 88 (VisA g vin vfull vout bv M Mx tot)) clo_one) ()
abbrev ifM (b : Bool) (p : LL) : SP := if b = true then M p else Mx p
/-- What the recursive closure does, n vertices ahead of the end. -/
def VisS (n : Nat) : Prop := ∀ (v : Nat) (inn : List Bool) (pre : LL), v + n = g.N.toNat → inn.length = g.N.toNat → (∀ u, v ≤ u → nth inn u = false) → okPre tot (pre ++ visM g.Edges n v inn) →
  Spec (X := { z : Bool × LL // z.1 = true → z.2 = pre ++ visM g.Edges n v inn }) prog 88 (tV (.int .i64 v) :: VisA g vin vfull vout bv M Mx tot) [VisP g vin vfull vout bv M Mx tot, M pre, own 4 rBool vin inn, own 3 rInt vfull (cntL g.Edges (nth inn)), own 3 rInt vout (cntL g.Edges (outP inn v))] (fun z => tV (.bool z.1.1))
    (fun z => [VisP g vin vfull vout bv M Mx tot, ifM M Mx z.1.1 z.1.2, own 4 rBool vin inn, own 3 rInt vfull (cntL g.Edges (nth inn)), own 3 rInt vout (cntL g.Edges (outP inn v))])
end
set_option maxHeartbeats 4000000 in
theorem visit_spec (g : GGraph) (hg : GOk g) (vin vfull vout : Value) (bv : Nat) (M Mx : LL → SP) (tot : LL) (n v : Nat) (inn : List Bool) (pre : LL) (hvn : v + n = g.N.toNat) (hl : inn.length = g.N.toNat) (hz0 : ∀ u, v ≤ u → nth inn u = false) (hok : okPre tot (pre ++ visM g.Edges n v inn)) (ih : ∀ k, n = k + 1 → VisS g vin vfull vout bv M Mx tot k) : Spec (X := { z : Bool × LL // z.1 = true → z.2 = pre ++ visM g.Edges n v inn }) prog 88 [tV (.int .i64 v), tPtr rGraph g, tPtr (rTyp (tYield prog tLi (okPre tot) M Mx) yld_one) (), tSt (g, vin, vfull, EG g), tAt bv 0, tPtr rV vout, tPtr (rTyp (tClo 86 [tSt (g, vin, vfull, EG g), tPtr rV vout]) clo_one) ()] ([VisP g vin vfull vout bv M Mx tot, M pre, own 4 rBool vin inn, own 3 rInt vfull (cntL g.Edges (nth inn)), own 3 rInt vout (cntL g.Edges (outP inn v))]) (fun z => tV (.bool z.1.1)) (fun z => [VisP g vin vfull vout bv M Mx tot, ifM M Mx z.1.1 z.1.2, own 4 rBool vin inn, own 3 rInt vfull (cntL g.Edges (nth inn)), own 3 rInt vout (cntL g.Edges (outP inn v))]) := by
 refine Spec.enter func88 rfl rfl fun h0 w0 fr0 => ?_
 have hn0 := hg.n0
 have hnb := hg.nb
 have hel := hg.el
 have hEl := edges_len g.Edges v
 have hed : ∀ i, i < g.Edges.length → (nth g.Edges i).length ≤ 1000 := fun i hi => hg.len hi
 have h0v := hz0 v (Nat.le_refl _)
 refine Jr ?_
 refine Ja rfl ?_
 refine JL_nil ?_
 refine J_seq ?_
 refine Jr ?_
 refine Jm rfl ?_
 refine Js rfl (step_fieldAddr so30 Sr rfl) ?_
 refine Jl rfl ty3 Sr ?_
 refine Js rfl (step_eql Sr Sr) ?_
 refine JL_nil ?_
 refine J_cond Sr (fun h18 => ?_) (fun h18 => ?_)
 ·
  try simp only [NF] at h18
  obtain rfl : n = 0 := by omega
  refine J_seq ?_
  refine J_draw [⟨0, [2], true⟩, ⟨1, [3], true⟩, ⟨2, [20], false⟩, ⟨3, [19, 21], false⟩, ⟨4, [22], true⟩] rfl (by kernel_rfl) ?_
  refine JM_step rfl rfl rfl rfl (fun _ => step_load_ptr ty118T Sr) ?_
  refine JM_step rfl rfl rfl rfl (fun _ => step_load_ptr ty119T Sr) ?_
  refine JM_stepX rfl rfl rfl rfl (step_call (by repeat first | exact .h | apply Sel.skip) (setS_spec g hg vin vfull inn (by omega)) ⟨Sr, trivial⟩ call89) fun v21 => ?_
  refine JM_stepX rfl rfl rfl rfl (step_yield (T := tLi) (Ok := okPre tot) (M := M) (Mx := Mx) (pre := pre) (y := (setM inn)) Sr ?sg1 ?sg2 (by repeat first | exact .h | apply Sel.skip)) fun v22 => ?_
  case sg1 => exact hok
  case sg2 => exact ⟨Sr, trivial⟩
  refine JM_step rfl rfl rfl rfl (fun _ => step_assign Sr) ?_
  refine JM_nil ?_
  refine J_ret ?_
  refine K_lsub (L' := [VisP g vin vfull vout bv M Mx tot, ifM M Mx v22 (pre ++ [setM inn]), own 4 rBool vin inn, own 3 rInt vfull (cntL g.Edges (nth inn)), own 3 rInt vout (cntL g.Edges (outP inn v))]) (LSub.cons (by repeat first | exact .h | apply Sel.skip) (SPs.rfl) (LSub.cons (by repeat first | exact .h | apply Sel.skip) (SPs.rfl) (LSub.cons (by repeat first | exact .h | apply Sel.skip) (SPs.rfl) (LSub.cons (by repeat first | exact .h | apply Sel.skip) (SPs.rfl) (LSub.cons (by repeat first | exact .h | apply Sel.skip) (SPs.rfl) (LSub.nil)))))) ?_
  refine K_retv (rv := .tmp 8) rfl (⟨(v22, pre ++ [setM inn]), fun _ => rfl⟩ : { z : Bool × LL // z.1 = true → z.2 = pre ++ visM g.Edges 0 v inn }) (.tmp Sr) Sr
 ·
  try simp only [NF] at h18
  obtain ⟨n, rfl⟩ : ∃ n', n = n' + 1 := ⟨n - 1, by omega⟩
  have ihn := ih n rfl
  have hvN : v < g.N.toNat := by omega
  have hb0 : ∀ u, u ≠ v → nth (inn.set v true) u = nth inn u := fun u hu => nth_set_ne (fun e => hu e.symm)
  have hb1 : nth (inn.set v true) v = true := by rw [Lg.nth_set (by omega), if_pos rfl]
  have hon := out_next h0v
  refine J_skip ?_
  refine J_seq ?_
  refine Jr ?_
  refine Jl rfl ty119T Sr ?_
  refine Jm rfl ?_
  refine JL_stepX rfl rfl rfl (step_call (by repeat first | exact .h | apply Sel.skip) (blocked_spec g hg vin vfull (cntL g.Edges (nth inn)) v hvN (cntL_len _ _)) ⟨Sr, Sr, trivial⟩ call90) fun v25 => ?_
  refine Js rfl (step_not Sr) ?_
  refine JL_nil ?_
  refine J_cut (X := { z : LL // z = pre ++ if blkdM g.Edges inn v = true then [] else visM g.Edges n (v + 1) (inn.set v true) }) (fun ⟨pre1, hp1⟩ => upd (upd (upd (upd (upd (upd (upd env0 0 (tV (.int .i64 v))) 1 (tPtr rGraph g)) 2 (tPtr (rTyp (tYield prog tLi (okPre tot) M Mx) yld_one) ())) 3 (tSt (g, vin, vfull, EG g))) 4 (tAt bv 0)) 5 (tPtr rV vout)) 6 (tPtr (rTyp (tClo 86 [tSt (g, vin, vfull, EG g), tPtr rV vout]) clo_one) ())) (fun ⟨pre1, hp1⟩ => [VisP g vin vfull vout bv M Mx tot, M pre1, own 4 rBool vin inn, own 3 rInt vfull (cntL g.Edges (nth inn)), own 3 rInt vout (cntL g.Edges (outP inn v))]) ?_ ?_
  ·
   skip
   refine J_cond Sr (fun h26 => ?_) (fun h26 => ?_)
   ·
    try simp only [NF] at h26
    refine J_seq ?_
    refine K_lsub (L' := [VisP g vin vfull vout bv M Mx tot, M pre, own 4 rBool vin inn, own 3 rInt vfull (cntL g.Edges (nth inn)), own 3 rInt vout (cntL g.Edges (outP inn v))]) (LSub.cons (by repeat first | exact .h | apply Sel.skip) (SPs.rfl) (LSub.cons (by repeat first | exact .h | apply Sel.skip) (SPs.rfl) (LSub.cons (by repeat first | exact .h | apply Sel.skip) (SPs.rfl) (LSub.cons (by repeat first | exact .h | apply Sel.skip) (SPs.rfl) (LSub.cons (by repeat first | exact .h | apply Sel.skip) (SPs.rfl) (LSub.nil)))))) ?_
    refine J_region ?_
    refine Jl rfl ty119T Sr ?_
    refine Jm rfl ?_
    refine JL_stepX rfl rfl rfl (step_call (Sel.skip (Sel.skip (Sel.take (Sel.take (Sel.none _))))) (stPut_spec g hg vin vfull inn (cntL g.Edges (nth inn)) v true hvN (by first | omega | (simp; omega)) (cntL_len _ _) (BdL_cnt hed _)) ⟨Sr, Sr, Sr, trivial⟩ call91) fun v29 => ?_
    refine JL_nil ?_
    refine J_seq ?_
    refine K_lsub (L' := [VisP g vin vfull vout bv M Mx tot, M pre, own 4 rBool vin (inn.set v true), own 3 rInt vfull (cntL g.Edges (nth (inn.set v true))), own 3 rInt vout (cntL g.Edges (outP (inn.set v true) (v + 1)))]) (LSub.cons (by repeat first | exact .h | apply Sel.skip) (SPs.rfl) (LSub.cons (by repeat first | exact .h | apply Sel.skip) (SPs.rfl) (LSub.cons (by repeat first | exact .h | apply Sel.skip) (SPs.rfl) (LSub.cons (by repeat first | exact .h | apply Sel.skip) (SPs.of (A := own 3 rInt vfull (updL (if true = true then 1 else -1) (edgesAt g.Edges v) (cntL g.Edges (nth inn)))) (by rw [if_pos rfl, upd_add hg.inc h0v hb1 hb0])) (LSub.cons (by repeat first | exact .h | apply Sel.skip) (SPs.of (A := own 3 rInt vout (cntL g.Edges (outP inn v))) (by rw [out_set (by omega)])) (LSub.nil)))))) ?_
    refine J_region ?_
    refine Js rfl (step_load_box (R := rTyp (tClo 88 (VisA g vin vfull vout bv M Mx tot)) clo_one) ty78T Sr (by repeat first | exact .h | apply Sel.skip)) ?_
    refine Jm rfl ?_
    refine Js rfl (step_add Sr Sr ?sg1) ?_
    case sg1 => unfold in64; omega
    refine JL_stepX rfl rfl rfl (step_callv (aT := [_]) Sr (Sel.all _) (ihn (v + 1) (inn.set v true) pre (by omega) (by simp; omega) (fun u hu => by rw [hb0 u (by omega)]; exact hz0 u (by omega)) (ok_left (by rw [visM, if_neg (by rw [show blkdM g.Edges inn v = false from h26]; simp)] at hok; exact hok))) ⟨Sub.int (by omega), trivial⟩ call88) fun z33 => ?_
    refine Ja rfl ?_
    refine JL_nil ?_
    refine J_seq ?_
    refine K_lsub (L' := [VisP g vin vfull vout bv M Mx tot, ifM M Mx z33.1.1 z33.1.2, own 4 rBool vin (inn.set v true), own 3 rInt vfull (cntL g.Edges (nth (inn.set v true))), own 3 rInt vout (cntL g.Edges (outP (inn.set v true) (v + 1)))]) (LSub.cons (by repeat first | exact .h | apply Sel.skip) (SPs.rfl) (LSub.cons (by repeat first | exact .h | apply Sel.skip) (SPs.rfl) (LSub.cons (by repeat first | exact .h | apply Sel.skip) (SPs.rfl) (LSub.cons (by repeat first | exact .h | apply Sel.skip) (SPs.rfl) (LSub.cons (by repeat first | exact .h | apply Sel.skip) (SPs.rfl) (LSub.nil)))))) ?_
    refine J_region ?_
    refine Jl rfl ty119T Sr ?_
    refine Jm rfl ?_
    refine JL_stepX rfl rfl rfl (step_call (Sel.skip (Sel.skip (Sel.take (Sel.take (Sel.none _))))) (stPut_spec g hg vin vfull (inn.set v true) (cntL g.Edges (nth (inn.set v true))) v false hvN (by first | omega | (simp; omega)) (cntL_len _ _) (BdL_cnt hed _)) ⟨Sr, Sr, Sr, trivial⟩ call91) fun v36 => ?_
    refine JL_nil ?_
    refine J_seq ?_
    refine K_lsub (L' := [VisP g vin vfull vout bv M Mx tot, ifM M Mx z33.1.1 z33.1.2, own 4 rBool vin inn, own 3 rInt vfull (cntL g.Edges (nth inn)), own 3 rInt vout (cntL g.Edges (outP inn v))]) (LSub.cons (by repeat first | exact .h | apply Sel.skip) (SPs.rfl) (LSub.cons (by repeat first | exact .h | apply Sel.skip) (SPs.rfl) (LSub.cons (by repeat first | exact .h | apply Sel.skip) (SPs.of (A := own 4 rBool vin ((inn.set v true).set v false)) (by rw [set_back h0v])) (LSub.cons (by repeat first | exact .h | apply Sel.skip) (SPs.of (A := own 3 rInt vfull (updL (if false = true then 1 else -1) (edgesAt g.Edges v) (cntL g.Edges (nth (inn.set v true))))) (by rw [if_neg (by simp), upd_sub hg.inc h0v hb1 hb0])) (LSub.cons (by repeat first | exact .h | apply Sel.skip) (SPs.of (A := own 3 rInt vout (cntL g.Edges (outP (inn.set v true) (v + 1)))) (by rw [out_set (by omega)])) (LSub.nil)))))) ?_
    refine J_region ?_
    refine Jm rfl ?_
    refine Js rfl (step_not Sr) ?_
    refine JL_nil ?_
    refine J_cond Sr (fun h38 => ?_) (fun h38 => ?_)
    ·
     try simp only [NF] at h38
     refine Jr ?_
     refine Ja rfl ?_
     refine JL_nil ?_
     refine J_ret ?_
     refine K_lsub (L' := [VisP g vin vfull vout bv M Mx tot, ifM M Mx false z33.1.2, own 4 rBool vin inn, own 3 rInt vfull (cntL g.Edges (nth inn)), own 3 rInt vout (cntL g.Edges (outP inn v))]) (LSub.cons (by repeat first | exact .h | apply Sel.skip) (SPs.rfl) (LSub.cons (by repeat first | exact .h | apply Sel.skip) (SPs.of (A := ifM M Mx z33.1.1 z33.1.2) (by rw [h38])) (LSub.cons (by repeat first | exact .h | apply Sel.skip) (SPs.rfl) (LSub.cons (by repeat first | exact .h | apply Sel.skip) (SPs.rfl) (LSub.cons (by repeat first | exact .h | apply Sel.skip) (SPs.rfl) (LSub.nil)))))) ?_
     refine K_retv (rv := .tmp 8) rfl (⟨(false, z33.1.2), fun h => by cases h⟩ : { z : Bool × LL // z.1 = true → z.2 = pre ++ visM g.Edges (n + 1) v inn }) (.tmp Sr) Sr
    ·
     try simp only [NF] at h38
     refine J_skip ?_
     refine K_cut (E := fun _ => env0) ⟨z33.1.2, by rw [z33.2 h38, if_neg (by rw [show blkdM g.Edges inn v = false from h26]; simp)]⟩ (SubE.upd Sr (SubE.upd Sr (SubE.upd Sr (SubE.upd Sr (SubE.upd Sr (SubE.upd Sr (SubE.upd Sr SubE.any))))))) (LSub.cons (by repeat first | exact .h | apply Sel.skip) (SPs.rfl) (LSub.cons (by repeat first | exact .h | apply Sel.skip) (SPs.of (A := ifM M Mx z33.1.1 z33.1.2) (by rw [h38]; rfl)) (LSub.cons (by repeat first | exact .h | apply Sel.skip) (SPs.rfl) (LSub.cons (by repeat first | exact .h | apply Sel.skip) (SPs.rfl) (LSub.cons (by repeat first | exact .h | apply Sel.skip) (SPs.rfl) (LSub.nil))))))
   ·
    try simp only [NF] at h26
    refine J_skip ?_
    refine K_cut (E := fun _ => env0) ⟨pre, by rw [if_pos (show blkdM g.Edges inn v = true from h26)]; simp⟩ (SubE.upd Sr (SubE.upd Sr (SubE.upd Sr (SubE.upd Sr (SubE.upd Sr (SubE.upd Sr (SubE.upd Sr SubE.any))))))) (LSub.cons (by repeat first | exact .h | apply Sel.skip) (SPs.rfl) (LSub.cons (by repeat first | exact .h | apply Sel.skip) (SPs.rfl) (LSub.cons (by repeat first | exact .h | apply Sel.skip) (SPs.rfl) (LSub.cons (by repeat first | exact .h | apply Sel.skip) (SPs.rfl) (LSub.cons (by repeat first | exact .h | apply Sel.skip) (SPs.rfl) (LSub.nil))))))
  ·
   rintro ⟨pre1, hp1⟩
   refine J_seq ?_
   refine Jr ?_
   refine Jl rfl ty119T Sr ?_
   refine Js rfl (step_nilCheckP Sr) ?_
   refine Js rfl (step_fieldAddr so122S Sr rfl) ?_
   refine Jl rfl ty28 Sr ?_
   refine Jm rfl ?_
   refine Js rfl (step_indexAddr_sl (i := v) underlying28 ty27 Sr Sr ?sg1 (gb ?sg2)) ?_
   case sg1 => rfl
   case sg2 => show v < (EG g).length; simp; omega
   refine Jl rfl ty27 Sr ?_
   refine Js rfl (step_len_sl underlying27 Sr) ?_
   refine Jm rfl ?_
   refine JL_nil ?_
   refine J_block ?_
   refine J_loopL (σ := Nat) (fun i => i ≤ (edgesAt g.Edges v).length) (fun i => upd (upd (upd (upd (upd (upd (upd (upd env0 0 (tV (.int .i64 v))) 3 (tSt (g, vin, vfull, EG g))) 4 (tAt bv 0)) 5 (tPtr rV vout)) 6 (tPtr (rTyp (tClo 86 [tSt (g, vin, vfull, EG g), tPtr rV vout]) clo_one) ())) 45 (tSl rInt (edgesAt g.Edges v))) 46 (tV (.int .i64 (edgesAt g.Edges v).length))) 47 (tV (.int .i64 i))) (fun i => [VisP g vin vfull vout bv M Mx tot, M pre1, own 4 rBool vin inn, own 3 rInt vfull (cntL g.Edges (nth inn)), own 3 rInt vout (updL 1 ((edgesAt g.Edges v).take i) (cntL g.Edges (outP inn v)))]) (fun i => (edgesAt g.Edges v).length - i) 0 (Nat.zero_le _) (SubE.upd Sr (SubE.upd (Sub.int (by rw [nth_EG hvN])) (SubE.upd (Sub.sl (nth_EG hvN)) (SubE.upd Sr (SubE.upd Sr (SubE.upd Sr (SubE.upd Sr (SubE.upd Sr SubE.any)))))))) (LSub.cons (by repeat first | exact .h | apply Sel.skip) (SPs.rfl) (LSub.cons (by repeat first | exact .h | apply Sel.skip) (SPs.rfl) (LSub.cons (by repeat first | exact .h | apply Sel.skip) (SPs.rfl) (LSub.cons (by repeat first | exact .h | apply Sel.skip) (SPs.rfl) (LSub.cons (by repeat first | exact .h | apply Sel.skip) (SPs.of (A := own 3 rInt vout (cntL g.Edges (outP inn v))) (by rw [List.take_zero]; rfl)) (LSub.nil)))))) ?_
   rintro i hi
   refine Jr ?_
   refine Js rfl (step_lss Sr Sr) ?_
   refine JL_nil ?_
   refine J_seq ?_
   refine J_cond Sr (fun h48 => ?_) (fun h48 => ?_)
   ·
    try simp only [NF] at h48
    have hlt : i < (edgesAt g.Edges v).length := by omega
    obtain ⟨he0, hel2⟩ := edge_mem (nth_mem hlt)
    have hub := updL_bd (d := 1) (by simp) (v := v) (es := g.Edges) (cntL_len _ _) (BdL_cnt hed (outP inn v)) i (nth (edgesAt g.Edges v) i).toNat
    refine J_skip ?_
    refine J_seq ?_
    refine J_block ?_
    refine Jr ?_
    refine Js rfl (step_indexAddr_sl  underlying27 ty3 Sr Sr rfl (gb ?sg1)) ?_
    case sg1 => exact hlt
    refine Jl rfl ty3 Sr ?_
    refine Ja rfl ?_
    refine JL_nil ?_
    refine J_region ?_
    refine Jl rfl ty27V Sr ?_
    refine Jm rfl ?_
    refine Js rfl (step_indexAddr_own (i := (nth (edgesAt g.Edges v) i).toNat) underlying27 ty3 Sr (by repeat first | exact .h | apply Sel.skip) Sr ?sg1 ?sg2) ?_
    case sg1 => omega
    case sg2 => show _ < (updL _ _ _).length; rw [updL_len, cntL_len]; omega
    refine Js rfl (step_load_own ty3 Sr (by repeat first | exact .h | apply Sel.skip) (gb ?sg1)) ?_
    case sg1 => show _ < (updL _ _ _).length; rw [updL_len, cntL_len]; omega
    refine Js rfl (step_add Sr Sr ?sg1) ?_
    case sg1 => unfold in64; omega
    refine Js rfl (step_indexAddr_own (i := (nth (edgesAt g.Edges v) i).toNat) underlying27 ty3 Sr (by repeat first | exact .h | apply Sel.skip) Sr ?sg1 ?sg2) ?_
    case sg1 => omega
    case sg2 => show _ < (updL _ _ _).length; rw [updL_len, cntL_len]; omega
    refine JL_stepU rfl rfl (step_store_own ty3 Sr Sr (by repeat first | exact .h | apply Sel.skip) ?sg1) fun _ => ?_
    case sg1 => show _ < (updL _ _ _).length; rw [updL_len, cntL_len]; omega
    refine JL_nil ?_
    refine J_region ?_
    refine Js rfl (step_add Sr Sr ?sg1) ?_
    case sg1 => unfold in64; omega
    refine Jm rfl ?_
    refine JL_nil ?_
    refine K_againL (σ := Nat) (s := i) (i + 1) (by first | omega | (dsimp only; omega) | (simp_all; omega)) (by omega) (SubE.upd Sr (SubE.upd Sr (SubE.upd Sr (SubE.upd Sr (SubE.upd Sr (SubE.upd Sr (SubE.upd Sr (SubE.upd Sr SubE.any)))))))) (LSub.cons (by repeat first | exact .h | apply Sel.skip) (SPs.rfl) (LSub.cons (by repeat first | exact .h | apply Sel.skip) (SPs.rfl) (LSub.cons (by repeat first | exact .h | apply Sel.skip) (SPs.rfl) (LSub.cons (by repeat first | exact .h | apply Sel.skip) (SPs.rfl) (LSub.cons (by repeat first | exact .h | apply Sel.skip) (SPs.of (A := own 3 rInt vout ((updL 1 ((edgesAt g.Edges v).take i) (cntL g.Edges (outP inn v))).set (nth (edgesAt g.Edges v) i).toNat (nth (updL 1 ((edgesAt g.Edges v).take i) (cntL g.Edges (outP inn v))) (nth (edgesAt g.Edges v) i).toNat + 1))) (by rw [takeB hlt, updL_snoc])) (LSub.nil))))))
   ·
    try simp only [NF] at h48
    refine J_exit ?_
    refine J_seq ?_
    refine K_lsub (L' := [VisP g vin vfull vout bv M Mx tot, M pre1, own 4 rBool vin inn, own 3 rInt vfull (cntL g.Edges (nth inn)), own 3 rInt vout (cntL g.Edges (outP inn (v + 1)))]) (LSub.cons (by repeat first | exact .h | apply Sel.skip) (SPs.rfl) (LSub.cons (by repeat first | exact .h | apply Sel.skip) (SPs.rfl) (LSub.cons (by repeat first | exact .h | apply Sel.skip) (SPs.rfl) (LSub.cons (by repeat first | exact .h | apply Sel.skip) (SPs.rfl) (LSub.cons (by repeat first | exact .h | apply Sel.skip) (SPs.of (A := own 3 rInt vout (updL 1 ((edgesAt g.Edges v).take i) (cntL g.Edges (outP inn v)))) (by rw [List.take_of_length_le (by omega), upd_add hg.inc (out_self inn v) hon.1 hon.2])) (LSub.nil)))))) ?_
    refine J_region ?_
    refine Ja rfl ?_
    refine JL_nil ?_
    refine J_seq ?_
    refine Jr ?_
    refine Jl rfl ty119T Sr ?_
    refine Js rfl (step_nilCheckP Sr) ?_
    refine Js rfl (step_fieldAddr so122S Sr rfl) ?_
    refine Jl rfl ty95V Sr ?_
    refine Jm rfl ?_
    refine Js rfl (step_add Sr Sr ?sg1) ?_
    case sg1 => unfold in64; omega
    refine Js rfl (step_slice_preL (n := v + 1) underlying95 ty4 Sr Sr (by omega) (by repeat first | exact .h | apply Sel.skip) (by omega)) ?_
    refine Js rfl (step_makeFunc (As := [_, _]) ⟨Sr, Sr, trivial⟩) ?_
    refine JL_lsub (L' := [VisP g vin vfull vout bv M Mx tot, M pre1, own 3 rInt vfull (cntL g.Edges (nth inn)), stars [own 4 rBool vin inn, own 3 rInt vout (cntL g.Edges (outP inn (v + 1)))]]) (LSub.cons (by repeat first | exact .h | apply Sel.skip) (SPs.rfl) (LSub.cons (by repeat first | exact .h | apply Sel.skip) (SPs.rfl) (LSub.cons (by repeat first | exact .h | apply Sel.skip) (SPs.rfl) ((LSub.stars (LSub.cons (by repeat first | exact .h | apply Sel.skip) (SPs.rfl) (LSub.cons (by repeat first | exact .h | apply Sel.skip) (SPs.rfl) (LSub.nil)))))))) ?_
    refine JL_stepX rfl rfl rfl (step_call (by repeat first | exact .h | apply Sel.skip) (every_spec (v + 1) (by omega) 93 [tSt (g, vin, vfull, EG g), tPtr (rTyp (tClo 86 [tSt (g, vin, vfull, EG g), tPtr rV vout]) clo_one) ()] (stars [own 4 rBool vin inn, own 3 rInt vout (cntL g.Edges (outP inn (v + 1)))]) (fun w => nth inn w || possM g.Edges (cntL g.Edges (outP inn (v + 1))) w) (fun w hw => keepF_spec g hg vin vfull vout inn (cntL g.Edges (outP inn (v + 1))) w (by omega) hl (cntL_len _ _)) call93) ⟨Sr, Sr, trivial⟩ call92) fun v66 => ?_
    refine JL_nil ?_
    refine K_lsub (L' := [VisP g vin vfull vout bv M Mx tot, M pre1, own 4 rBool vin inn, own 3 rInt vfull (cntL g.Edges (nth inn)), own 3 rInt vout (cntL g.Edges (outP inn (v + 1)))]) (LSub.trans LSub.unstars (LSub.cons (by repeat first | exact .h | apply Sel.skip) (SPs.rfl) (LSub.cons (by repeat first | exact .h | apply Sel.skip) (SPs.rfl) (LSub.cons (by repeat first | exact .h | apply Sel.skip) (SPs.rfl) (LSub.cons (by repeat first | exact .h | apply Sel.skip) (SPs.rfl) (LSub.cons (by repeat first | exact .h | apply Sel.skip) (SPs.rfl) (LSub.nil))))))) ?_
    refine J_cut (X := { z : Bool × LL // z.1 = true → z.2 = pre1 ++ if keepO g.Edges inn v = true then visM g.Edges n (v + 1) inn else [] }) (fun ⟨⟨b2, pre2⟩, hp2⟩ => upd (upd (upd (upd (upd (upd env0 0 (tV (.int .i64 v))) 3 (tSt (g, vin, vfull, EG g))) 4 (tAt bv 0)) 5 (tPtr rV vout)) 6 (tPtr (rTyp (tClo 86 [tSt (g, vin, vfull, EG g), tPtr rV vout]) clo_one) ())) 12 (tV (.bool b2))) (fun ⟨⟨b2, pre2⟩, hp2⟩ => [VisP g vin vfull vout bv M Mx tot, ifM M Mx b2 pre2, own 4 rBool vin inn, own 3 rInt vfull (cntL g.Edges (nth inn)), own 3 rInt vout (cntL g.Edges (outP inn (v + 1)))]) ?_ ?_
    ·
     skip
     refine J_cond Sr (fun h66 => ?_) (fun h66 => ?_)
     ·
      try simp only [NF] at h66
      refine J_region ?_
      refine Js rfl (step_load_box (R := rTyp (tClo 88 (VisA g vin vfull vout bv M Mx tot)) clo_one) ty78T Sr (by repeat first | exact .h | apply Sel.skip)) ?_
      refine Jm rfl ?_
      refine Js rfl (step_add Sr Sr ?sg1) ?_
      case sg1 => unfold in64; omega
      refine JL_stepX rfl rfl rfl (step_callv (aT := [_]) Sr (Sel.all _) (ihn (v + 1) inn pre1 (by omega) hl (fun u hu => hz0 u (by omega)) (by rw [visM, if_pos (show keepO g.Edges inn v = true from h66), ← List.append_assoc] at hok; rw [hp1]; exact hok)) ⟨Sub.int (by omega), trivial⟩ call88) fun z70 => ?_
      refine Ja rfl ?_
      refine JL_nil ?_
      refine K_cut (E := fun _ => env0) ⟨z70.1, fun h => by rw [z70.2 h, if_pos (show keepO g.Edges inn v = true from h66)]⟩ (SubE.upd Sr (SubE.upd Sr (SubE.upd Sr (SubE.upd Sr (SubE.upd Sr (SubE.upd Sr SubE.any)))))) (LSub.cons (by repeat first | exact .h | apply Sel.skip) (SPs.rfl) (LSub.cons (by repeat first | exact .h | apply Sel.skip) (SPs.rfl) (LSub.cons (by repeat first | exact .h | apply Sel.skip) (SPs.rfl) (LSub.cons (by repeat first | exact .h | apply Sel.skip) (SPs.rfl) (LSub.cons (by repeat first | exact .h | apply Sel.skip) (SPs.rfl) (LSub.nil))))))
     ·
      try simp only [NF] at h66
      refine J_skip ?_
      refine K_cut (E := fun _ => env0) ⟨(true, pre1), fun _ => by rw [if_neg (by rw [show keepO g.Edges inn v = false from h66]; simp)]; simp⟩ (SubE.upd Sr (SubE.upd Sr (SubE.upd Sr (SubE.upd Sr (SubE.upd Sr (SubE.upd Sr SubE.any)))))) (LSub.cons (by repeat first | exact .h | apply Sel.skip) (SPs.rfl) (LSub.cons (by repeat first | exact .h | apply Sel.skip) (SPs.of (A := M pre1) rfl) (LSub.cons (by repeat first | exact .h | apply Sel.skip) (SPs.rfl) (LSub.cons (by repeat first | exact .h | apply Sel.skip) (SPs.rfl) (LSub.cons (by repeat first | exact .h | apply Sel.skip) (SPs.rfl) (LSub.nil))))))
    ·
     rintro ⟨⟨b2, pre2⟩, hp2⟩
     try dsimp only at hp2
     refine J_seq ?_
     refine Jr ?_
     refine Jl rfl ty119T Sr ?_
     refine Js rfl (step_nilCheckP Sr) ?_
     refine Js rfl (step_fieldAddr so122S Sr rfl) ?_
     refine Jl rfl ty28 Sr ?_
     refine Jm rfl ?_
     refine Js rfl (step_indexAddr_sl (i := v) underlying28 ty27 Sr Sr ?sg1 (gb ?sg2)) ?_
     case sg1 => rfl
     case sg2 => show v < (EG g).length; simp; omega
     refine Jl rfl ty27 Sr ?_
     refine Js rfl (step_len_sl underlying27 Sr) ?_
     refine Jm rfl ?_
     refine JL_nil ?_
     refine J_block ?_
     refine J_loopL (σ := Nat) (fun i => i ≤ (edgesAt g.Edges v).length) (fun i => upd (upd (upd (upd (upd env0 5 (tPtr rV vout)) 12 (tV (.bool b2))) 77 (tSl rInt (edgesAt g.Edges v))) 78 (tV (.int .i64 (edgesAt g.Edges v).length))) 79 (tV (.int .i64 i))) (fun i => [VisP g vin vfull vout bv M Mx tot, ifM M Mx b2 pre2, own 4 rBool vin inn, own 3 rInt vfull (cntL g.Edges (nth inn)), own 3 rInt vout (updL (-1) ((edgesAt g.Edges v).take i) (cntL g.Edges (outP inn (v + 1))))]) (fun i => (edgesAt g.Edges v).length - i) 0 (Nat.zero_le _) (SubE.upd Sr (SubE.upd (Sub.int (by rw [nth_EG hvN])) (SubE.upd (Sub.sl (nth_EG hvN)) (SubE.upd Sr (SubE.upd Sr SubE.any))))) (LSub.cons (by repeat first | exact .h | apply Sel.skip) (SPs.rfl) (LSub.cons (by repeat first | exact .h | apply Sel.skip) (SPs.rfl) (LSub.cons (by repeat first | exact .h | apply Sel.skip) (SPs.rfl) (LSub.cons (by repeat first | exact .h | apply Sel.skip) (SPs.rfl) (LSub.cons (by repeat first | exact .h | apply Sel.skip) (SPs.of (A := own 3 rInt vout (cntL g.Edges (outP inn (v + 1)))) (by rw [List.take_zero]; rfl)) (LSub.nil)))))) ?_
     rintro i hi
     refine Jr ?_
     refine Js rfl (step_lss Sr Sr) ?_
     refine JL_nil ?_
     refine J_seq ?_
     refine J_cond Sr (fun h80 => ?_) (fun h80 => ?_)
     ·
      try simp only [NF] at h80
      have hlt : i < (edgesAt g.Edges v).length := by omega
      obtain ⟨he0, hel2⟩ := edge_mem (nth_mem hlt)
      have hub := updL_bd (d := -1) (by simp) (v := v) (es := g.Edges) (cntL_len _ _) (BdL_cnt hed (outP inn (v + 1))) i (nth (edgesAt g.Edges v) i).toNat
      refine J_skip ?_
      refine J_seq ?_
      refine J_block ?_
      refine Jr ?_
      refine Js rfl (step_indexAddr_sl  underlying27 ty3 Sr Sr rfl (gb ?sg1)) ?_
      case sg1 => exact hlt
      refine Jl rfl ty3 Sr ?_
      refine Ja rfl ?_
      refine JL_nil ?_
      refine J_region ?_
      refine Jl rfl ty27V Sr ?_
      refine Jm rfl ?_
      refine Js rfl (step_indexAddr_own (i := (nth (edgesAt g.Edges v) i).toNat) underlying27 ty3 Sr (by repeat first | exact .h | apply Sel.skip) Sr ?sg1 ?sg2) ?_
      case sg1 => omega
      case sg2 => show _ < (updL _ _ _).length; rw [updL_len, cntL_len]; omega
      refine Js rfl (step_load_own ty3 Sr (by repeat first | exact .h | apply Sel.skip) (gb ?sg1)) ?_
      case sg1 => show _ < (updL _ _ _).length; rw [updL_len, cntL_len]; omega
      refine Js rfl (step_sub Sr Sr ?sg1) ?_
      case sg1 => unfold in64; omega
      refine Js rfl (step_indexAddr_own (i := (nth (edgesAt g.Edges v) i).toNat) underlying27 ty3 Sr (by repeat first | exact .h | apply Sel.skip) Sr ?sg1 ?sg2) ?_
      case sg1 => omega
      case sg2 => show _ < (updL _ _ _).length; rw [updL_len, cntL_len]; omega
      refine JL_stepU rfl rfl (step_store_own ty3 Sr Sr (by repeat first | exact .h | apply Sel.skip) ?sg1) fun _ => ?_
      case sg1 => show _ < (updL _ _ _).length; rw [updL_len, cntL_len]; omega
      refine JL_nil ?_
      refine J_region ?_
      refine Js rfl (step_add Sr Sr ?sg1) ?_
      case sg1 => unfold in64; omega
      refine Jm rfl ?_
      refine JL_nil ?_
      refine K_againL (σ := Nat) (s := i) (i + 1) (by first | omega | (dsimp only; omega) | (simp_all; omega)) (by omega) (SubE.upd Sr (SubE.upd Sr (SubE.upd Sr (SubE.upd Sr (SubE.upd Sr SubE.any))))) (LSub.cons (by repeat first | exact .h | apply Sel.skip) (SPs.rfl) (LSub.cons (by repeat first | exact .h | apply Sel.skip) (SPs.rfl) (LSub.cons (by repeat first | exact .h | apply Sel.skip) (SPs.rfl) (LSub.cons (by repeat first | exact .h | apply Sel.skip) (SPs.rfl) (LSub.cons (by repeat first | exact .h | apply Sel.skip) (SPs.of (A := own 3 rInt vout ((updL (-1) ((edgesAt g.Edges v).take i) (cntL g.Edges (outP inn (v + 1)))).set (nth (edgesAt g.Edges v) i).toNat (nth (updL (-1) ((edgesAt g.Edges v).take i) (cntL g.Edges (outP inn (v + 1)))) (nth (edgesAt g.Edges v) i).toNat - 1))) (by rw [takeB hlt, updL_snoc]; rfl)) (LSub.nil))))))
     ·
      try simp only [NF] at h80
      refine J_exit ?_
      refine J_seq ?_
      refine K_lsub (L' := [VisP g vin vfull vout bv M Mx tot, ifM M Mx b2 pre2, own 4 rBool vin inn, own 3 rInt vfull (cntL g.Edges (nth inn)), own 3 rInt vout (cntL g.Edges (outP inn v))]) (LSub.cons (by repeat first | exact .h | apply Sel.skip) (SPs.rfl) (LSub.cons (by repeat first | exact .h | apply Sel.skip) (SPs.rfl) (LSub.cons (by repeat first | exact .h | apply Sel.skip) (SPs.rfl) (LSub.cons (by repeat first | exact .h | apply Sel.skip) (SPs.rfl) (LSub.cons (by repeat first | exact .h | apply Sel.skip) (SPs.of (A := own 3 rInt vout (updL (-1) ((edgesAt g.Edges v).take i) (cntL g.Edges (outP inn (v + 1))))) (by rw [List.take_of_length_le (by omega), upd_sub hg.inc (out_self inn v) hon.1 hon.2])) (LSub.nil)))))) ?_
      refine J_region ?_
      refine Jm rfl ?_
      refine Ja rfl ?_
      refine JL_nil ?_
      refine J_ret ?_
      refine K_retv (rv := .tmp 8) rfl (⟨(b2, pre2), fun h => by rw [hp2 h, hp1, List.append_assoc]; rfl⟩ : { z : Bool × LL // z.1 = true → z.2 = pre ++ visM g.Edges (n + 1) v inn }) (.tmp Sr) Sr
theorem visAll_spec (g : GGraph) (hg : GOk g) (vin vfull vout : Value) (bv : Nat) (M Mx : LL → SP) (tot : LL) : ∀ n, VisS g vin vfull vout bv M Mx tot n
  | 0 => fun v inn pre hvn hl h0 hok => visit_spec g hg vin vfull vout bv M Mx tot 0 v inn pre hvn hl h0 hok fun n' e => by cases e
  | n + 1 => fun v inn pre hvn hl h0 hok => visit_spec g hg vin vfull vout bv M Mx tot (n + 1) v inn pre hvn hl h0 hok fun n' e => by
    have : n' = n := by omega
    subst this
    exact visAll_spec g hg vin vfull vout bv M Mx tot n'
set_option maxHeartbeats 1000000 in
theorem allF_spec (g : GGraph) (hg : GOk g) : ItSpec prog 84 [tPtr rGraph g] [] (tLi) (okPre (allM g.N.toNat g.Edges)) (fun p => p = (allM g.N.toNat g.Edges)) := by
 intro M Mx
 refine Spec.enter func84 rfl rfl fun h0 w0 fr0 => ?_
 have hel := hg.el
 refine Jr ?_
 refine Js rfl (step_box (R := rTyp (tYield prog tLi (okPre (allM g.N.toNat g.Edges)) M Mx) yld_one) (y := ()) Sr) ?_
 refine JL_nil ?_
 refine Jr ?_
 refine Jl rfl ty30 Sr ?_
 refine JL_stepX rfl rfl rfl (step_call (Sel.none _) (begin_spec g hg) ⟨Sr, trivial⟩ call85) fun x8 => ?_
 refine JL_stepX rfl rfl rfl (step_alloc (R := rV) (fun w => zeroValue119 w) (fun _ => ⟨rfl, rfl⟩)) fun b3 => ?_
 refine JL_stepU rfl rfl (step_store_boxR (R := rV) (R' := rTyp (tPtr rSt (g, x8.1, x8.2, EG g)) ptr_one) (z := ()) ty119T rfl Sr Sr (by repeat first | exact .h | apply Sel.skip)) fun _ => ?_
 refine JL_nil ?_
 refine J_seq ?_
 refine K_freeze (t := 3) (by repeat first | exact .h | apply Sel.skip) Frz.box ?_
 refine J_region ?_
 refine Js rfl (step_fieldAddr so30 Sr rfl) ?_
 refine Jl rfl ty28 Sr ?_
 refine Js rfl (step_len_sl underlying28 Sr) ?_
 refine JL_stepX rfl rfl rfl (step_make (n := g.Edges.length) underlying27 el3 Sr Sr rfl (by omega) (by omega)) fun v12 => ?_
 refine JL_stepX rfl rfl rfl (step_alloc (R := rV) (fun w => zeroValue27 w) (fun _ => ⟨rfl, rfl⟩)) fun b4 => ?_
 refine JL_stepU rfl rfl (step_store_box (R := rV) ty27V Sr Sr (by repeat first | exact .h | apply Sel.skip)) fun _ => ?_
 refine JL_nil ?_
 refine J_seq ?_
 refine K_freeze (t := 4) (by repeat first | exact .h | apply Sel.skip) Frz.box ?_
 refine J_region ?_
 refine Js rfl (step_makeFunc (As := [_, _]) ⟨Sr, Sr, trivial⟩) ?_
 refine JL_stepX rfl rfl rfl (step_alloc (R := rV) (fun w => zeroValue78 w) (fun _ => ⟨rfl, rfl⟩)) fun b5 => ?_
 refine JL_stepU rfl rfl (step_store_boxR (R := rV) (R' := rTyp (tClo 86 [tSt (g, x8.1, x8.2, EG g), tPtr rV v12]) clo_one) (z := ()) ty78T rfl Sr Sr (by repeat first | exact .h | apply Sel.skip)) fun _ => ?_
 refine JL_nil ?_
 refine J_seq ?_
 refine K_freeze (t := 5) (by repeat first | exact .h | apply Sel.skip) Frz.box ?_
 refine J_region ?_
 refine JL_stepX rfl rfl rfl (step_alloc (R := rV) (fun w => zeroValue78 w) (fun _ => ⟨rfl, rfl⟩)) fun b6 => ?_
 refine JL_nil ?_
 refine Jr ?_
 refine Js rfl (step_makeFunc (As := [_, _, _, _, _, _]) ⟨Sr, Sr, Sr, Sr, Sr, Sr, trivial⟩) ?_
 refine JL_stepU rfl rfl (step_store_boxR (R := rV) (R' := rTyp (tClo 88 (VisA g x8.1 x8.2 v12 b6 M Mx (allM g.N.toNat g.Edges))) clo_one) (z := ()) ty78T rfl Sr Sr (by repeat first | exact .h | apply Sel.skip)) fun _ => ?_
 refine JL_nil ?_
 refine K_lsub (L' := [VisP g x8.1 x8.2 v12 b6 M Mx (allM g.N.toNat g.Edges), M [], own 4 rBool x8.1 (List.replicate g.N.toNat false), own 3 rInt x8.2 (cntL g.Edges (nth (List.replicate g.N.toNat false))), own 3 rInt v12 (cntL g.Edges (outP (List.replicate g.N.toNat false) 0))]) (LSub.cons (by repeat first | exact .h | apply Sel.skip) (SPs.rfl) (LSub.cons (by repeat first | exact .h | apply Sel.skip) (SPs.rfl) (LSub.cons (by repeat first | exact .h | apply Sel.skip) (SPs.rfl) (LSub.cons (by repeat first | exact .h | apply Sel.skip) (SPs.of (A := own 3 rInt x8.2 (List.replicate g.Edges.length 0)) (by rw [cnt_zero _ (rep_nth _)])) (LSub.cons (by repeat first | exact .h | apply Sel.skip) (SPs.of (A := own 3 rInt v12 (List.replicate g.Edges.length 0)) (by rw [cnt_zero _ (fun u => by simp [outP])])) (LSub.nil)))))) ?_
 refine J_region ?_
 refine Js rfl (step_load_box (R := rTyp (tClo 88 (VisA g x8.1 x8.2 v12 b6 M Mx (allM g.N.toNat g.Edges))) clo_one) ty78T Sr (by repeat first | exact .h | apply Sel.skip)) ?_
 refine JL_stepX rfl rfl rfl (step_callv (aT := [_]) Sr (Sel.all _) (visAll_spec g hg x8.1 x8.2 v12 b6 M Mx (allM g.N.toNat g.Edges) g.N.toNat 0 (List.replicate g.N.toNat false) [] (by omega) (by simp) (fun u _ => rep_nth _ _) (List.prefix_refl _)) ⟨Sr, trivial⟩ call88) fun z16 => ?_
 refine JL_nil ?_
 refine K_drop (Sel.take (Sel.skip (Sel.take (Sel.take (Sel.take (Sel.none _)))))) ?_
 by_cases hz : z16.1.1 = true
 ·
  refine K_endRet (K_itDone (Fin := fun p => p = (allM g.N.toNat g.Edges)) (M := M) (Mx := Mx) (A := []) ?_ (allM g.N.toNat g.Edges) rfl ?_)
  ·
   rfl
  ·
   exact LSub.of (by rw [ifM, if_pos hz, z16.2 hz]; rfl)
 ·
  refine K_endRet (K_itStop (Fin := fun p => p = (allM g.N.toNat g.Edges)) (M := M) (Mx := Mx) (A := []) ?_ z16.1.2 ?_)
  ·
   rfl
  ·
   exact LSub.of (by rw [ifM, if_neg hz]; rfl)
theorem all_spec (g : GGraph) : Fun1 prog 57 [rGraph.ty g] (tClo 84 [tPtr rGraph g]) := by
 refine Spec.enter func57 rfl rfl fun h0 w0 fr0 => ?_
 refine Jr ?_
 refine Js rfl (step_box (R := rGraph) Sr) ?_
 refine Ja rfl ?_
 refine JL_nil ?_
 refine Jr ?_
 refine Js rfl (step_makeFunc (As := [_]) ⟨Sr, trivial⟩) ?_
 refine Ja rfl ?_
 refine JL_nil ?_
 refine J_ret ?_
 exact K_ret1 (t := 2) rfl () Sr
set_option maxHeartbeats 1000000 in
theorem List_spec (g : GGraph) (hg : GOk g) (hN : g.N ≤ 9) (hv : Fun1 prog 39 [rGraph.ty g] (tV (.bool true))) : Fun1 prog 24 [rGraph.ty g] (tTup [tSl (rSl rInt) (allM g.N.toNat g.Edges), tV (.int .i64 0)]) := by
 refine Spec.enter func24 rfl rfl fun h0 w0 fr0 => ?_
 have hvl : (allM g.N.toNat g.Edges).length ≤ 512 := Nat.le_trans (vis_len _ _ _ _) (Nat.pow_le_pow_right (by omega) (show g.N.toNat ≤ 9 by have := hg.n0; omega))
 refine Jr ?_
 refine Js rfl (step_box (R := rGraph) Sr) ?_
 refine JL_stepX rfl rfl rfl (step_alloc (R := rV) (fun w => zeroValue28 w) (fun _ => ⟨rfl, rfl⟩)) fun b2 => ?_
 refine JL_stepX rfl rfl rfl (step_alloc (fun w => zeroValue34 w) zr34) fun b3 => ?_
 refine JL_nil ?_
 refine J_seq ?_
 refine Jr ?_
 refine Jl rfl ty30 Sr ?_
 refine Js rfl (step_call0 hv ⟨Sr, trivial⟩ call39) ?_
 refine Js rfl (step_not Sr) ?_
 refine JL_nil ?_
 refine J_cond Sr (fun h8 => ?_) (fun h8 => ?_)
 ·
  try simp only [NF] at h8
  cases h8
 ·
  try simp only [NF] at h8
  refine J_skip ?_
  refine Jr ?_
  refine JL_stepX rfl rfl rfl (step_alloc (R := rV) (fun w => zeroValue28 w) (fun _ => ⟨rfl, rfl⟩)) fun b4 => ?_
  refine JL_nil ?_
  refine J_seq ?_
  refine Jr ?_
  refine Jl rfl ty30 Sr ?_
  refine Js rfl (step_call0 (all_spec g) ⟨Sr, trivial⟩ call57) ?_
  refine JL_nil ?_
  refine J_block ?_
  refine J_range (A := []) (T := tLi) (Ok := okPre (allM g.N.toNat g.Edges)) (Fin := fun p => p = (allM g.N.toNat g.Edges)) (R := [box b2 28 rV (.slice none 0 0), box b3 34 rInt 0]) (fun p => SP.ex fun vo => stars [box b4 28 rV vo, own 27 (rSl rInt) vo p]) (fun _ _ => SP.pure False) rfl (fun _ => rfl) rfl (allF_spec g hg) Sr call84 (LSub.ex (.slice none 0 0) (LSub.stars (LSub.cons (by repeat first | exact .h | apply Sel.skip) SPs.rfl (LSub.trans LSub.nilown (LSub.cons (by repeat first | exact .h | apply Sel.skip) (SPs.rfl) (LSub.cons (by repeat first | exact .h | apply Sel.skip) (SPs.rfl) (LSub.cons (by repeat first | exact .h | apply Sel.skip) (SPs.rfl) (LSub.nil)))))))) ?round1 ?done1 ?stop1
  case round1 =>
   intro l1 rec1 h2 w2 fr2 pre y hle1 hst1 hpd1 hdj1 hok
   refine K_ex fun vo => K_stars ?_
   refine J_region ?_
   refine Ja rfl ?_
   refine JL_nil ?_
   refine K_begin hst1 hdj1 ?_
   have hpl : pre.length < 512 := by have := hok.length_le; simp at this; omega
   refine J_block ?_
   refine J_seq ?_
   refine Jr ?_
   refine Js rfl (step_load_box ty28V Sr (by repeat first | exact .h | apply Sel.skip)) ?_
   refine Js rfl (step_len_own underlying28 Sr (by repeat first | exact .h | apply Sel.skip)) ?_
   refine Js rfl (step_eql Sr Sr) ?_
   refine JL_nil ?_
   refine J_cond Sr (fun h14 => ?_) (fun h14 => ?_)
   ·
    try simp only [NF] at h14
    exfalso; omega
   ·
    try simp only [NF] at h14
    refine J_skip ?_
    refine J_region ?_
    refine Js rfl (step_load_box ty28V Sr (by repeat first | exact .h | apply Sel.skip)) ?_
    refine Jm rfl ?_
    refine Js rfl (step_literal (ys := [_]) underlying28 el27 ⟨rfl, Sr, trivial⟩ rfl (by decide)) ?_
    refine JL_stepX rfl rfl rfl (step_append underlying28 el27 Sr Sr (by repeat first | exact .h | apply Sel.skip) (by simp; omega) (by simp; omega)) fun v18 => ?_
    refine JL_stepU rfl rfl (step_store_box (R := rV) ty28V Sr Sr (by repeat first | exact .h | apply Sel.skip)) fun _ => ?_
    refine JL_nil ?_
    refine K_roundN hst1 hpd1 ?_
    refine LSub.cons (by repeat first | exact .h | apply Sel.skip) SPs.rfl (LSub.ex _ (LSub.stars (LSub.cons (by repeat first | exact .h | apply Sel.skip) SPs.rfl (LSub.cons (by repeat first | exact .h | apply Sel.skip) SPs.rfl LSub.nil))))
  case done1 =>
   intro D1 xs hfin
   refine K_ex fun vo => K_stars ?_
   have hfin : xs = (allM g.N.toNat g.Edges) := hfin
   subst xs
   refine Jr ?_
   refine Js rfl (step_load_box ty28V Sr (by repeat first | exact .h | apply Sel.skip)) ?_
   refine JL_stepU rfl rfl (step_store_box (R := rV) ty28V Sr Sr (by repeat first | exact .h | apply Sel.skip)) fun _ => ?_
   refine JL_stepU rfl rfl (step_store_box ty34 Sr Sr (by repeat first | exact .h | apply Sel.skip)) fun _ => ?_
   refine JL_nil ?_
   refine J_ret ?_
   refine K_unmark (LSub.cons (by repeat first | exact .h | apply Sel.skip) SPs.rfl LSub.rfl) ?_
   refine K_lsub (L' := [own 27 (rSl rInt) vo (allM g.N.toNat g.Edges), box b2 28 rV vo, box b3 34 rInt 0, box b4 28 rV vo]) (LSub.cons (by repeat first | exact .h | apply Sel.skip) (SPs.rfl) (LSub.cons (by repeat first | exact .h | apply Sel.skip) (SPs.rfl) (LSub.cons (by repeat first | exact .h | apply Sel.skip) (SPs.rfl) (LSub.cons (by repeat first | exact .h | apply Sel.skip) (SPs.rfl) (LSub.nil))))) ?_
   refine K_ret2' (rv := .cell 2 28) (rv' := .cell 3 34) rfl () (Sel.all _) (.cell ty28V Sr (by repeat first | exact .h | apply Sel.skip) Sr) (.cell ty34 Sr (by repeat first | exact .h | apply Sel.skip) Sr) Frz.own (Frz.sub Sr) Sr
  case stop1 =>
   intro D1 c1 xs
   refine K_pure fun h => h.elim
open Go Go.Proofs Go.Proofs.Tryz
def kR (q : GConj) (facts : List GFact) (i j : Nat) : Prop := i < facts.length ∧ j < facts.length ∧ sameM q (nth facts i) (nth facts j) = true
theorem edgK_mem {q : GConj} {facts : List GFact} : PrsG (kR q facts) facts.length (edgK q facts facts.length) := by
  intro e
  unfold edgK pairsI
  rw [List.mem_flatMap]
  constructor
  · rintro ⟨i, hi, he⟩
    obtain ⟨j, hj, rfl⟩ := List.mem_map.1 he
    obtain ⟨h1, h2⟩ := List.mem_filter.1 hj
    have hi := List.mem_range.1 hi
    rw [List.mem_range'_1] at h1
    exact ⟨i, j, by omega, by omega, ⟨hi, by omega, h2⟩, rfl⟩
  · rintro ⟨i, j, hij, hj, ⟨h1, h2, h3⟩, rfl⟩
    exact ⟨i, List.mem_range.2 h1, List.mem_map.2 ⟨j, List.mem_filter.2 ⟨List.mem_range'_1.2 (by omega), h3⟩, rfl⟩⟩
theorem kR_iff {q : GConj} {facts : List GFact} (hfit : fitM q facts = true) {i : Nat} (hi : i < q.Atoms.length) {j x : Nat} (hj : j < facts.length) (tj : (nth facts j).Table = (nth q.Atoms i).Table) :
    kR q facts j x ↔ x < facts.length ∧ (nth facts x).Table = (nth q.Atoms i).Table ∧ kyF (nth q.Atoms i) (nth facts x) = kyF (nth q.Atoms i) (nth facts j) := by
  constructor
  · rintro ⟨_, hx, hs⟩
    obtain ⟨i', hi', t1, t2⟩ := same_tab hs
    have : i' = i := valid_inj (fit_valid hfit) hi' hi (t1.symm.trans tj)
    subst this
    exact ⟨hx, t2, ((same_iff hfit (nth_mem hj) (nth_mem hx) hi t1 t2).1 hs).symm⟩
  · rintro ⟨hx, t2, hk⟩
    exact ⟨hj, hx, (same_iff hfit (nth_mem hj) (nth_mem hx) hi tj t2).2 hk.symm⟩
theorem kR_symm {q : GConj} {facts : List GFact} (hfit : fitM q facts = true) (i j : Nat) (h : kR q facts i j) : kR q facts j i := by
  obtain ⟨a, ha, t1, t2⟩ := same_tab h.2.2
  obtain ⟨h1, h2, h3⟩ := (kR_iff hfit ha h.1 t1).1 h
  exact (kR_iff hfit ha h.2.1 t2).2 ⟨h.1, t1, h3.symm⟩
theorem greatest {P : Nat → Prop} : ∀ {N : Nat}, (∃ x, x < N ∧ P x) → ∃ x, x < N ∧ P x ∧ ∀ y, x < y → y < N → ¬ P y
  | 0, ⟨x, hx, _⟩ => absurd hx (Nat.not_lt_zero _)
  | N + 1, ⟨x, hx, hp⟩ => by
    by_cases h : P N
    · exact ⟨N, Nat.lt_succ_self _, h, fun y h1 h2 => by omega⟩
    · have hxN : x ≠ N := fun e => h (e ▸ hp)
      obtain ⟨y, h1, h2, h3⟩ := greatest (P := P) (N := N) ⟨x, by omega, hp⟩
      refine ⟨y, by omega, h2, fun z hz1 hz2 hz => ?_⟩
      by_cases e : z = N
      · subst e; exact h hz
      · exact h3 z hz1 (by omega) hz
theorem rep_meets {q : GConj} {facts : List GFact} (hfit : fitM q facts = true) {S : List Bool} (hl : S.length = facts.length) (hS : ∀ u, u < facts.length → StpO (edgK q facts facts.length) S u) {i : Nat} (hi : i < q.Atoms.length) {f : GFact} (hf : f ∈ facts) (ht : f.Table = (nth q.Atoms i).Table) :
    ∃ k : Nat, (k : Int) ∈ setM S ∧ k < facts.length ∧ (nth facts k).Table = (nth q.Atoms i).Table ∧ kyF (nth q.Atoms i) (nth facts k) = kyF (nth q.Atoms i) f := by
  obtain ⟨j, hj, rfl⟩ := List.getElem_of_mem hf
  rw [← nth_get hj] at hf ht ⊢
  obtain ⟨x, hx, hp, hgr⟩ := greatest (P := fun x => (nth facts x).Table = (nth q.Atoms i).Table ∧ kyF (nth q.Atoms i) (nth facts x) = kyF (nth q.Atoms i) (nth facts j)) (N := facts.length) ⟨j, hj, ht, rfl⟩
  cases hSx : nth S x with
  | true => exact ⟨x, mem_set.2 ⟨x, rfl, by omega, hSx⟩, hx, hp.1, hp.2⟩
  | false =>
    have h1 := hS x hx
    unfold StpO at h1
    rw [if_neg (by rw [hSx]; simp)] at h1
    rcases (keep_pairs edgK_mem (kR_symm hfit) hx).1 h1 x (Nat.le_refl _) with ⟨h2, _⟩ | ⟨y, hy, hne, hR, hno⟩
    · omega
    · obtain ⟨h3, h4, h5⟩ := (kR_iff hfit hi hx hp.1).1 hR
      have hle : y ≤ x := Classical.byContradiction fun h => hgr y (by omega) hy ⟨h4, h5.trans hp.2⟩
      have hSy : nth S y = true := Classical.byContradiction fun h => hno ⟨hle, fun h6 => h h6.2⟩
      exact ⟨y, mem_set.2 ⟨y, rfl, by omega, hSy⟩, hy, h4, h5.trans hp.2⟩
theorem rep_to {q : GConj} {facts : List GFact} (hfit : fitM q facts = true) (hf : firstM q = true) (h : certB q facts = true) {r : List Int} (hr : r ∈ allM facts.length (edgK q facts facts.length)) : holdsM q facts r = true := by
  obtain ⟨S, hl, rfl, hS⟩ := all_mem.1 hr
  rw [cert_iff hfit hf] at h
  rw [holds_set hfit]
  refine HoldP_perm (eqT q) ((sorted_perm hf).map _) ?_
  refine Cert_hold (eqT q) (all2_map fun a ha => ?_) h
  obtain ⟨i, hi, rfl⟩ := sorted_mem hf ha
  intro b hb
  obtain ⟨b0, hb0, rfl⟩ := List.mem_map.1 hb
  obtain ⟨f, hf1, hf2, hf3⟩ := (blk_grp (nth q.Atoms i) facts b0.2).1 ⟨b0, hb0, rfl⟩
  obtain ⟨k, hk1, hk2, hk3, hk4⟩ := rep_meets hfit hl hS hi hf1 hf2
  refine ⟨bnd (nth q.Atoms i) (nth facts k), List.mem_map.2 ⟨nth facts k, by rw [hf3, mem_grpF]; exact ⟨nth_mem hk2, hk3, hk4⟩, rfl⟩, ?_⟩
  refine List.mem_map.2 ⟨nth facts k, List.mem_filterMap.2 ⟨(k : Int), hk1, ?_⟩, rfl⟩
  rw [if_pos ⟨by omega, by omega, by simpa using hk3⟩]; rfl
/-- The fact with a number is the one that a choice takes, and the first such one. -/
def ChoF (facts : List GFact) (c : GAtom → List GValue → GFact) (a : GAtom) (k : Nat) : Prop := nth facts k = c a (vlsA a (nth facts k)) ∧ ∀ k', k' < k → nth facts k' ≠ nth facts k
open Classical in
noncomputable def choS (q : GConj) (facts : List GFact) (c : GAtom → List GValue → GFact) : List Bool := (List.range facts.length).map fun k => decide (∀ a ∈ q.Atoms, (nth facts k).Table = a.Table → ChoF facts c a k)
open Classical in
theorem choS_nth {q : GConj} {facts : List GFact} {c : GAtom → List GValue → GFact} {k : Nat} (hk : k < facts.length) : nth (choS q facts c) k = true ↔ ∀ a ∈ q.Atoms, (nth facts k).Table = a.Table → ChoF facts c a k := by
  unfold choS
  rw [nth_range_map hk, decide_eq_true_eq]
theorem rep_from {q : GConj} {facts : List GFact} (hfit : fitM q facts = true) (hf : firstM q = true) (h : ∀ r ∈ allM facts.length (edgK q facts facts.length), holdsM q facts r = true) : certB q facts = true := by
  rw [cert_sem hfit hf]
  intro c hc
  have hq := fit_valid hfit
  have hlen : (choS q facts c).length = facts.length := by unfold choS; simp
  have hmem : setM (choS q facts c) ∈ allM facts.length (edgK q facts facts.length) := by
    refine all_mem.2 ⟨choS q facts c, hlen, rfl, fun u hu => ?_⟩
    unfold StpO
    split
    · rename_i hSu
      rw [Bool.eq_false_iff]
      intro hb
      obtain ⟨w, hw, hR, hSw⟩ := (blkd_pairs edgK_mem hu).1 hb
      obtain ⟨i, hi, t1, t2⟩ := same_tab hR.2.2
      obtain ⟨_, _, hk⟩ := (kR_iff hfit hi hR.1 t1).1 hR
      have h1 := (choS_nth hu).1 hSu _ (nth_mem hi) t2
      have h2 := (choS_nth hR.1).1 hSw _ (nth_mem hi) t1
      have hv := (vls_fit hfit hi (nth_mem hR.1) (nth_mem hu) t1 t2).2 hk.symm
      refine h1.2 w hw ?_
      rw [h1.1, h2.1, hv]
    · rename_i hSu
      refine (keep_pairs edgK_mem (kR_symm hfit) hu).2 fun w hw => ?_
      by_cases h1 : w < u ∧ nth (choS q facts c) w = true
      · exact .inl h1
      · right
        have hwN : w < facts.length := by omega
        have hSw : ¬ nth (choS q facts c) w = true := fun h2 => by
          by_cases e : w = u
          · subst e; exact hSu h2
          · exact h1 ⟨by omega, h2⟩
        rw [choS_nth hwN] at hSw
        obtain ⟨a, ha⟩ := Classical.not_forall.1 hSw
        obtain ⟨ham, ha⟩ := Classical.not_imp.1 ha
        obtain ⟨hta, ha⟩ := Classical.not_imp.1 ha
        obtain ⟨i, hi, rfl⟩ := List.getElem_of_mem ham
        rw [← nth_get hi] at hta ha
        obtain ⟨g1, g2, g3⟩ := hc _ (nth_mem hi) _ (nth_mem hwN) hta
        obtain ⟨y, hy, ey⟩ := List.getElem_of_mem g1
        rw [← nth_get hy] at ey
        obtain ⟨x, hxy, ⟨hx, ex⟩, hmin⟩ := least (P := fun x => x < facts.length ∧ nth facts x = c (nth q.Atoms i) (vlsA (nth q.Atoms i) (nth facts w))) (n := y) ⟨hy, ey⟩
        have tx : (nth facts x).Table = (nth q.Atoms i).Table := by rw [ex]; exact g2
        have vx : vlsA (nth q.Atoms i) (nth facts x) = vlsA (nth q.Atoms i) (nth facts w) := by rw [ex]; exact g3
        have hch : ChoF facts c (nth q.Atoms i) x := ⟨by rw [vx]; exact ex, fun k' hk' e => hmin k' hk' ⟨by omega, e.trans ex⟩⟩
        have hSx : nth (choS q facts c) x = true := (choS_nth hx).2 fun a' ha' ht' => by
          obtain ⟨i', hi', rfl⟩ := List.getElem_of_mem ha'
          rw [← nth_get hi'] at ht' ⊢
          have : i' = i := valid_inj hq hi' hi (ht'.symm.trans tx)
          subst this; exact hch
        have hxw : x ≠ w := fun e => by subst e; exact ha hch
        refine ⟨x, hx, hxw, (kR_iff hfit hi hwN hta).2 ⟨hx, tx, (vls_fit hfit hi (nth_mem hx) (nth_mem hwN) tx hta).1 vx⟩, fun ⟨h2, h3⟩ => h3 ⟨?_, hSx⟩⟩
        have : x ≠ u := fun e => by subst e; exact hSu hSx
        omega
  have h1 := (holds_set hfit _).1 (h _ hmem)
  refine HoldP_mono (eqT q) (all2_map fun a ha => ?_) h1
  intro b hb
  obtain ⟨f, hf1, rfl⟩ := List.mem_map.1 hb
  obtain ⟨x, hx, e⟩ := List.mem_filterMap.1 hf1
  obtain ⟨k, rfl, hk, hSk⟩ := mem_set.1 hx
  split at e
  · rename_i h2
    rw [Int.toNat_natCast] at e h2
    have e := Option.some.inj e
    subst e
    have hkl : k < facts.length := by omega
    have h3 := (choS_nth hkl).1 hSk a ha h2.2.2
    refine List.mem_map.2 ⟨nth facts k, mem_tabL.2 ⟨nth_mem hkl, h2.2.2⟩, ?_⟩
    rw [← h3.1]
  · cases e
theorem rep_law {q : GConj} {facts : List GFact} (hfit : fitM q facts = true) (hf : firstM q = true) : certB q facts = (allM facts.length (edgK q facts facts.length)).all (holdsM q facts) := by
  rw [Bool.eq_iff_iff, List.all_eq_true]
  exact ⟨fun h r hr => rep_to hfit hf h hr, rep_from hfit hf⟩
open Go Go.Proofs Go.Proofs.Tryz
theorem pair_sub {i j i' j' : Nat} (h1 : i < j) (h2 : i' < j') (h : i ≠ i' ∨ j ≠ j') : subL [(i : Int), (j : Int)] [(i' : Int), (j' : Int)] = false := by
  rw [Bool.eq_false_iff]
  intro hs
  have hs := subL_iff.1 hs
  have a := hs (i : Int) (by simp)
  have b := hs (j : Int) (by simp)
  simp only [List.mem_cons, List.not_mem_nil, or_false] at a b
  omega
theorem pair_cmp {i j i' j' : Nat} (h : i < i' ∨ (i = i' ∧ j < j')) : cmpL [(i : Int), (j : Int)] [(i' : Int), (j' : Int)] < 0 := by
  unfold cmpL
  rcases cmpN_vals (i : Int) (i' : Int) with ⟨h1, e⟩ | ⟨h1, e⟩ | ⟨h1, e⟩
  · rw [e]; simp
  · rw [e, if_neg (by simp)]
    unfold cmpL
    rcases cmpN_vals (j : Int) (j' : Int) with ⟨h2, e2⟩ | ⟨h2, e2⟩ | ⟨h2, e2⟩
    · rw [e2]; simp
    · omega
    · omega
  · omega
def PrR (x y : List Int) : Prop := cmpL x y < 0 ∧ subL x y = false ∧ subL y x = false
theorem pair_rel {i j i' j' : Nat} (h1 : i < j) (h2 : i' < j') (h : i < i' ∨ (i = i' ∧ j < j')) : PrR [(i : Int), (j : Int)] [(i' : Int), (j' : Int)] :=
  ⟨pair_cmp h, pair_sub h1 h2 (by omega), pair_sub h2 h1 (by omega)⟩
theorem pairsI_mem {q : GConj} {facts : List GFact} {i m : Nat} {e : List Int} (h : e ∈ pairsI q facts i m) : ∃ j : Nat, i < j ∧ j < m ∧ e = [(i : Int), (j : Int)] := by
  unfold pairsI at h
  obtain ⟨j, hj, rfl⟩ := List.mem_map.1 h
  have h1 := List.mem_range'_1.1 (List.mem_filter.1 hj).1
  exact ⟨j, by omega, by omega, rfl⟩
theorem edgK_ok (q : GConj) (facts : List GFact) : okE (edgK q facts facts.length) := by
  have h : (edgK q facts facts.length).Pairwise PrR := by
    unfold edgK
    rw [List.pairwise_flatMap]
    constructor
    · intro i _
      unfold pairsI
      rw [List.pairwise_map]
      refine List.Pairwise.imp_of_mem (R := fun a b => a < b) (fun {a b} ha hb h => ?_) (List.Pairwise.sublist List.filter_sublist (List.pairwise_lt_range'))
      have h1 := List.mem_range'_1.1 (List.mem_filter.1 ha).1
      exact pair_rel (by omega) (by omega) (.inr ⟨rfl, h⟩)
    · refine List.pairwise_lt_range.imp fun {a b} hab x hx y hy => ?_
      obtain ⟨j, h1, _, rfl⟩ := pairsI_mem hx
      obtain ⟨k, h2, _, rfl⟩ := pairsI_mem hy
      exact pair_rel h1 h2 (.inl hab)
  exact ⟨h.imp fun {a b} h => h.1, h.imp fun {a b} h => h.2⟩
theorem edgK_each {q : GConj} {facts : List GFact} {e : List Int} (h : e ∈ edgK q facts facts.length) : Inc e ∧ e ≠ [] ∧ e.length = 2 ∧ ∀ x ∈ e, 0 ≤ x ∧ x < facts.length := by
  obtain ⟨i, j, hij, hj, _, rfl⟩ := (edgK_mem e).1 h
  refine ⟨?_, by simp, rfl, fun x hx => ?_⟩
  · unfold Inc; simp; omega
  · simp only [List.mem_cons, List.not_mem_nil, or_false] at hx
    omega
open Go Go.Proofs Go.Proofs.Tryz
theorem prB_succ (n : Nat) : prB (n + 1) = prB n + n := by
  unfold prB
  match n with
  | 0 => rfl
  | n + 1 =>
    rw [show n + 1 + 1 - 1 = n + 1 by omega, show n + 1 - 1 = n by omega]
    have : (n + 1 + 1) * (n + 1) = (n + 1) * n + 2 * (n + 1) := by rw [Nat.add_mul (n + 1) 1 (n + 1), Nat.mul_add (n + 1) n 1]; omega
    rw [this]; omega
theorem wantB_bput (k : ByteArray) (f : GFact) : ∀ m : List (ByteArray × List GFact), wantB (mput m k ((mget m k).getD [] ++ [f])) = wantB m + ((mget m k).getD []).length
  | [] => by simp [mput, mget, wantB, prB]
  | (c, x) :: m => by
    by_cases h : k = c
    · simp only [mput, mget, if_pos h, Option.getD_some, wantB, List.map_cons, List.sum_cons, List.length_append, List.length_singleton]
      rw [prB_succ]; omega
    · have ih := wantB_bput k f m
      simp only [mput, mget, if_neg h, wantB, List.map_cons, List.sum_cons] at ih ⊢
      omega
def incA (a : GAtom) (l : List GFact) (f : GFact) : Nat := if f.Table = a.Table then l.countP (inG a (kyF a f)) else 0
theorem wantB_step (a : GAtom) {l : List GFact} {i : Nat} (h : i < l.length) : wantB (blkM a (l.take (i + 1))) = wantB (blkM a (l.take i)) + incA a (l.take i) (nth l i) := by
  rw [blkM_snoc h]
  unfold incA
  by_cases ht : (nth l i).Table = a.Table
  · rw [if_pos ht, if_pos ht]
    unfold bput
    rw [wantB_bput, (blk_inv a (l.take i)).gt, List.countP_eq_length_filter]
  · rw [if_neg ht, if_neg ht]; rfl
theorem wantA_step (L : List GAtom) {l : List GFact} {i : Nat} (h : i < l.length) : wantA L (l.take (i + 1)) = wantA L (l.take i) + (L.map fun a => incA a (l.take i) (nth l i)).sum := by
  induction L with
  | nil => rfl
  | cons a L ih =>
    simp only [wantA, List.map_cons, List.sum_cons] at ih ⊢
    rw [wantB_step a h, ih]; omega
theorem inc_none {L : List GAtom} {l : List GFact} {f : GFact} (h : ∀ a ∈ L, f.Table ≠ a.Table) : (L.map fun a => incA a l f).sum = 0 := by
  induction L with
  | nil => rfl
  | cons a L ih =>
    rw [List.map_cons, List.sum_cons, ih fun b hb => h b (by simp [hb])]
    unfold incA
    rw [if_neg (h a (by simp))]
theorem inc_some {L : List GAtom} (hd : L.Pairwise fun a b => a.Table ≠ b.Table) {l : List GFact} {f : GFact} {a0 : GAtom} (ha : a0 ∈ L) (ht : f.Table = a0.Table) : (L.map fun a => incA a l f).sum = l.countP (inG a0 (kyF a0 f)) := by
  induction L with
  | nil => cases ha
  | cons a L ih =>
    obtain ⟨h1, h2⟩ := List.pairwise_cons.1 hd
    rw [List.map_cons, List.sum_cons]
    rcases List.mem_cons.1 ha with rfl | ha
    · rw [inc_none fun b hb e => h1 b hb (ht.symm.trans e)]
      unfold incA
      rw [if_pos ht]; rfl
    · rw [ih h2 ha]
      unfold incA
      rw [if_neg fun e => h1 a0 ha (e.symm.trans ht)]; omega
theorem atoms_dist {q : GConj} (hq : validQ q = true) : q.Atoms.Pairwise fun a b => a.Table ≠ b.Table :=
  List.pairwise_iff_getElem.2 fun i j hi hj hij => by
    have := valid_dist hq hij hj
    rwa [nth_get hi, nth_get hj] at this
theorem range_take {α : Type} [Inhabited α] {l : List α} {n : Nat} (h : n ≤ l.length) : (List.range n).map (nth l) = l.take n :=
  List.ext_getElem (by simp; omega) fun i h1 h2 => by
    have hi : i < n := by simpa using h1
    rw [List.getElem_map, List.getElem_range, List.getElem_take, nth_get (by omega)]
theorem same_inc {q : GConj} {facts : List GFact} (hfit : fitM q facts = true) {n : Nat} (hn : n < facts.length) :
    (List.range n).countP (fun i => sameM q (nth facts i) (nth facts n)) = (q.Atoms.map fun a => incA a (facts.take n) (nth facts n)).sum := by
  have hq := fit_valid hfit
  have e : (List.range n).countP (fun i => sameM q (nth facts i) (nth facts n)) = (facts.take n).countP fun f => sameM q f (nth facts n) := by
    rw [← range_take (by omega), List.countP_map]; rfl
  rw [e]
  by_cases h : ∃ i, i < q.Atoms.length ∧ (nth facts n).Table = (nth q.Atoms i).Table
  · obtain ⟨i, hi, ht⟩ := h
    rw [inc_some (atoms_dist hq) (nth_mem hi) ht]
    refine List.countP_congr fun f hf => ?_
    have hf := List.mem_of_mem_take hf
    unfold inG
    rw [Bool.and_eq_true, decide_eq_true_eq, decide_eq_true_eq]
    constructor
    · intro hs
      obtain ⟨i', hi', t1, t2⟩ := same_tab hs
      have : i' = i := valid_inj hq hi' hi (t2.symm.trans ht)
      subst this
      exact ⟨t1, (same_iff hfit hf (nth_mem hn) hi t1 t2).1 hs⟩
    · rintro ⟨t1, hk⟩
      exact (same_iff hfit hf (nth_mem hn) hi t1 ht).2 hk
  · rw [inc_none fun a ha et => h ?_]
    · refine List.countP_eq_zero.2 fun f _ hs => h ?_
      obtain ⟨i', hi', t1, t2⟩ := same_tab hs
      exact ⟨i', hi', t2⟩
    · obtain ⟨i, hi, rfl⟩ := List.getElem_of_mem ha
      exact ⟨i, hi, by rw [nth_get hi]; exact et⟩
def cntE2 (q : GConj) (facts : List GFact) (n : Nat) : Nat := ((List.range n).map fun i => (pairsI q facts i n).length).sum
theorem sum_add {f g : Nat → Nat} : ∀ l : List Nat, (l.map fun i => f i + g i).sum = (l.map f).sum + (l.map g).sum
  | [] => rfl
  | a :: l => by simp only [List.map_cons, List.sum_cons, sum_add l]; omega
theorem sum_cond (p : Nat → Bool) : ∀ l : List Nat, (l.map fun i => if p i then 1 else 0).sum = l.countP p
  | [] => rfl
  | a :: l => by
    rw [List.map_cons, List.sum_cons, sum_cond p l, List.countP_cons]; omega
theorem cntE2_succ (q : GConj) (facts : List GFact) (n : Nat) : cntE2 q facts (n + 1) = cntE2 q facts n + (List.range n).countP (fun i => sameM q (nth facts i) (nth facts n)) := by
  unfold cntE2
  rw [List.range_succ, List.map_append, List.sum_append, List.map_singleton, List.sum_singleton, pairsI_start, List.length_nil, Nat.add_zero, ← sum_cond, ← sum_add]
  congr 1
  refine List.map_congr_left fun i hi => ?_
  have hi := List.mem_range.1 hi
  rw [pairsI_succ (by omega), List.length_append]
  split <;> rfl
theorem edgK_want {q : GConj} {facts : List GFact} (hfit : fitM q facts = true) : (edgK q facts facts.length).length = wantA q.Atoms facts := by
  have key : ∀ n, n ≤ facts.length → cntE2 q facts n = wantA q.Atoms (facts.take n) := by
    intro n
    induction n with
    | zero =>
      intro _
      have : ∀ L : List GAtom, wantA L [] = 0 := by
        intro L
        induction L with
        | nil => rfl
        | cons a L ih => simp only [wantA, List.map_cons, List.sum_cons] at ih ⊢; rw [ih]; rfl
      rw [List.take_zero, this]; rfl
    | succ n ih =>
      intro hn
      rw [cntE2_succ, ih (by omega), same_inc hfit (by omega), wantA_step _ (by omega)]
  have := key facts.length (Nat.le_refl _)
  rw [List.take_length] at this
  rw [← this]
  unfold edgK cntE2
  rw [List.length_flatMap]
theorem tab_nat (facts : List GFact) (i : Nat) : tabF facts (i : Int) = (nth facts i).Table := by unfold tabF; rw [Int.toNat_natCast]
theorem edgK_ours {q : GConj} {facts : List GFact} (hfit : fitM q facts = true) {e : List Int} (he : e ∈ edgK q facts facts.length) : oursM q facts e = true ∧ edgeOk q facts e = true := by
  have hq := fit_valid hfit
  obtain ⟨i, j, hij, hj, ⟨hi, _, hs⟩, rfl⟩ := (edgK_mem e).1 he
  obtain ⟨a, ha, t1, t2⟩ := same_tab hs
  constructor
  · unfold oursM
    rw [List.any_eq_true]
    refine ⟨(i : Int), by simp, ?_⟩
    unfold hasT
    rw [tab_nat, t1]
    exact atomsM_isSome (l := q.Atoms) (m := []) (.inl (nth_mem ha))
  · unfold edgeOk keyF
    have hk := (same_iff hfit (nth_mem hi) (nth_mem hj) ha t1 t2).1 hs
    show (decide _ && (decide (tabF facts (i : Int) = tabF facts (j : Int)) && decide (keyB (atomAt q (tabF facts (i : Int))) (nth facts (i : Int).toNat) (atomAt q (tabF facts (i : Int))).Key.toNat = keyB (atomAt q (tabF facts (i : Int))) (nth facts (j : Int).toNat) (atomAt q (tabF facts (i : Int))).Key.toNat))) = true
    rw [tab_nat, tab_nat, t1, t2, atomAt_self hq ha, Int.toNat_natCast, Int.toNat_natCast]
    have hk : keyB (nth q.Atoms a) (nth facts i) (nth q.Atoms a).Key.toNat = keyB (nth q.Atoms a) (nth facts j) (nth q.Atoms a).Key.toNat := hk
    rw [hk]; simp
theorem keys_applies {q : GConj} {facts : List GFact} (hfit : fitM q facts = true) : appM true q facts (keysG q facts) = true := by
  unfold appM keysG
  rw [if_pos hfit]
  have h1 : pairsM q facts (edgK q facts facts.length) = wantA q.Atoms facts := by
    unfold pairsM
    rw [← edgK_want hfit]
    exact List.countP_eq_length.2 fun e he => (edgK_ours hfit he).1
  have h2 : ((List.range (edgK q facts facts.length).length).all fun i => !oursM q facts (nth (edgK q facts facts.length) i) || edgeOk q facts (nth (edgK q facts facts.length) i)) = true :=
    rall_t fun k hk => by rw [(edgK_ours hfit (nth_mem hk)).2, Bool.or_true]
  show (fitM q facts && true && decide ((facts.length : Int) = facts.length) && _ && decide (pairsM q facts (edgK q facts facts.length) = wantA q.Atoms facts)) = true
  rw [hfit, h1, h2]; simp
theorem isSet_pair {i j : Nat} {n : Int} (h : i < j) (hj : (j : Int) < n) : isSetM [(i : Int), (j : Int)] n = true := by
  unfold isSetM
  rw [List.all_eq_true]
  intro k hk
  have hk : k < 2 := by simpa using hk
  match k, hk with
  | 0, _ =>
    simp only [Bool.and_eq_true, Bool.or_eq_true, decide_eq_true_eq]
    exact ⟨⟨by show (0 : Int) ≤ i; omega, by show (i : Int) < n; omega⟩, .inl trivial⟩
  | 1, _ =>
    simp only [Bool.and_eq_true, Bool.or_eq_true, decide_eq_true_eq]
    exact ⟨⟨by show (0 : Int) ≤ j; omega, by show (j : Int) < n; omega⟩, .inr (by show (i : Int) < j; omega)⟩
theorem keys_valid {q : GConj} {facts : List GFact} (hfit : fitM q facts = true) (hl : facts.length ≤ 1000) : validG (keysG q facts) = true := by
  unfold validG keysG
  rw [if_pos hfit]
  have h1 : validG1 ⟨facts.length, List.replicate facts.length 0, edgK q facts facts.length⟩ = true := by
    unfold validG1
    rw [Bool.and_eq_true]
    constructor
    · unfold weighedM
      have hb : (List.replicate facts.length (0 : Int)).any costBad = false := by
        rw [List.any_eq_false]
        intro x hx
        have := List.eq_of_mem_replicate hx
        subst this
        decide
      show (decide ((0 : Int) ≤ facts.length) && decide ((facts.length : Int) ≤ 4000) && decide (((List.replicate facts.length (0 : Int)).length : Int) = facts.length) && !((List.replicate facts.length (0 : Int)).any costBad)) = true
      rw [hb]
      simp; omega
    · refine rall_t fun k hk => ?_
      obtain ⟨i, j, hij, hj, _, e⟩ := (edgK_mem _).1 (nth_mem hk)
      have hk : nth (edgK q facts facts.length) k = [(i : Int), (j : Int)] := e
      show (!decide ((nth (edgK q facts facts.length) k).length = 0) && isSetM (nth (edgK q facts facts.length) k) (facts.length : Int)) = true
      rw [hk, isSet_pair hij (by omega)]; rfl
  rw [h1, Bool.true_and]
  exact @decide_eq_true _ (_) (edgK_ok q facts)
theorem edgK_small {q : GConj} {facts : List GFact} (h : facts.length ≤ 9) : (edgK q facts facts.length).length ≤ 40 := by
  have key : ∀ n, cntE2 q facts n ≤ n * (n - 1) / 2 := by
    intro n
    induction n with
    | zero => exact Nat.le_refl _
    | succ n ih =>
      rw [cntE2_succ]
      have h1 := List.countP_le_length (p := fun i => sameM q (nth facts i) (nth facts n)) (l := List.range n)
      rw [List.length_range] at h1
      have h2 := prB_succ n
      unfold prB at h2
      omega
  have h1 := key facts.length
  have h2 : (edgK q facts facts.length).length = cntE2 q facts facts.length := by unfold edgK cntE2; rw [List.length_flatMap]
  rw [h2]
  have h3 : facts.length * (facts.length - 1) ≤ 9 * 8 := Nat.mul_le_mul h (by omega)
  omega
open Go Go.Proofs Go.Proofs.Tryz
theorem keys_edges {q : GConj} {facts : List GFact} (hfit : fitM q facts = true) : (keysG q facts).Edges = edgK q facts facts.length := by unfold keysG; rw [if_pos hfit]
theorem keys_gok {q : GConj} {facts : List GFact} (hfit : fitM q facts = true) (hl : facts.length ≤ 9) : GOk (keysG q facts) where
  n0 := by show (0 : Int) ≤ facts.length; omega
  nb := by show (facts.length : Int) ≤ 1000; omega
  el := by rw [keys_edges hfit]; have := edgK_small (q := q) hl; omega
  ed := fun e he => by
    rw [keys_edges hfit] at he
    have := edgK_each he
    exact ⟨this.1, this.2.2.2⟩
theorem keys_spec39 {q : GConj} {facts : List GFact} (hfit : fitM q facts = true) (hl : facts.length ≤ 9) : Fun1 prog 39 [rGraph.ty (keysG q facts)] (tV (.bool true)) := by
  have h := hValid_spec (keysG q facts) (by rw [keys_edges hfit]; exact edgK_small hl) (fun e he => by
    rw [keys_edges hfit] at he
    have := (edgK_each he).2.2.1
    omega) (by show (facts.length : Int) ≤ 100; omega) (by show (List.replicate facts.length (0 : Int)).length ≤ _; simp; omega) (fun e he hi hb => by
    rw [keys_edges hfit] at he
    have := (edgK_each he).2.2.1
    exact AbvOk.small (by omega) hi hb)
  rw [keys_valid hfit (by omega)] at h
  exact h
theorem keys_bd {q : GConj} {facts : List GFact} (hfit : fitM q facts = true) (hl : facts.length ≤ 9) : true = true → (keysG q facts).Edges.length ≤ 20000 ∧ ∀ e ∈ (keysG q facts).Edges, e.length ≤ 1000000 ∧ ∀ x ∈ e, 0 ≤ x ∧ x < (keysG q facts).N := fun _ => by
  rw [keys_edges hfit]
  refine ⟨by have := edgK_small (q := q) hl; omega, fun e he => ?_⟩
  have := edgK_each he
  exact ⟨by omega, this.2.2.2⟩
abbrev repsL (q : GConj) (facts : List GFact) : LL := allM (keysG q facts).N.toNat (keysG q facts).Edges
theorem reps_eq {q : GConj} {facts : List GFact} (hfit : fitM q facts = true) : repsL q facts = allM facts.length (edgK q facts facts.length) := by
  unfold repsL
  rw [keys_edges hfit]
  show allM ((facts.length : Int)).toNat _ = _
  rw [Int.toNat_natCast]
theorem reps_len {q : GConj} {facts : List GFact} (hfit : fitM q facts = true) {r : List Int} (h : r ∈ repsL q facts) : r.length ≤ facts.length := by
  rw [reps_eq hfit] at h
  obtain ⟨S, hl, rfl, _⟩ := all_mem.1 h
  have := setP_len S S.length
  rw [hl] at this
  unfold setM
  rw [hl]
  exact this
theorem reps_many {q : GConj} {facts : List GFact} (hl : facts.length ≤ 9) : (repsL q facts).length ≤ 512 := Nat.le_trans (vis_len _ _ _ _) (Nat.pow_le_pow_right (by omega) (show ((facts.length : Int)).toNat ≤ 9 by omega))
set_option maxHeartbeats 4000000 in
theorem RewriteRepairs_spec (q : GConj) (facts : List GFact) (hq : q.Atoms.length ≤ 9223372036854775807) : Fun1 prog 10 [rConj.ty q, tSl rFact facts] (tV (.bool true)) := by
 refine Spec.enter func10 rfl rfl fun h0 w0 fr0 => ?_
 refine Jr ?_
 refine Js rfl (step_box (R := rConj) Sr) ?_
 refine Ja rfl ?_
 refine JL_nil ?_
 refine Jr ?_
 refine Js rfl (step_call0 (head_spec) trivial call11) ?_
 refine Ja rfl ?_
 refine JL_nil ?_
 refine J_seq ?_
 refine Jr ?_
 refine Jl rfl ty25 Sr ?_
 refine Jm rfl ?_
 refine Js rfl (step_call0 (Small_spec q facts 9 (by omega) hq) ⟨Sr, Sr, Sr, trivial⟩ call12) ?_
 refine Js rfl (step_not Sr) ?_
 refine JL_nil ?_
 refine J_cond Sr (fun h17 => ?_) (fun h17 => ?_)
 ·
  try simp only [NF] at h17
  refine Jr ?_
  refine Jm rfl ?_
  refine Ja rfl ?_
  refine JL_nil ?_
  refine J_ret ?_
  refine K_ret1 (t := 4) rfl () Sr
 ·
  try simp only [NF] at h17
  have hsb := small_bd h17
  have hfl : facts.length ≤ 9 := by have := hsb.2.1; omega
  refine J_skip ?_
  refine Jr ?_
  refine Jl rfl ty25 Sr ?_
  refine Jm rfl ?_
  refine Js rfl (step_call0 (Certain_spec q facts (by omega)) ⟨Sr, Sr, trivial⟩ call14) ?_
  refine Jm rfl ?_
  refine Js rfl (step_extract Sr rfl) ?_
  refine Js rfl (step_extract Sr rfl) ?_
  refine Ja rfl ?_
  refine Ja rfl ?_
  refine JL_nil ?_
  refine J_seq ?_
  refine Jr ?_
  refine Jm rfl ?_
  refine Js rfl (step_neq Sr Sr) ?_
  refine JL_nil ?_
  refine J_cond Sr (fun h26 => ?_) (fun h26 => ?_)
  ·
   try simp only [NF] at h26
   refine Jr ?_
   refine Jm rfl ?_
   refine Ja rfl ?_
   refine JL_nil ?_
   refine J_ret ?_
   refine K_ret1 (t := 4) rfl () Sr
  ·
   try simp only [NF] at h26
   obtain ⟨hfit, hfm⟩ := certE_zero h26
   have hrm := reps_many (q := q) hfl
   refine J_skip ?_
   refine Jr ?_
   refine Jl rfl ty25 Sr ?_
   refine Jm rfl ?_
   refine Js rfl (step_call0 (refKeys_spec q facts (by omega)) ⟨Sr, Sr, trivial⟩ call23) ?_
   refine JL_stepX rfl rfl rfl (step_alloc (fun w => zeroValue30 w) zr30) fun v8 => ?_
   refine JL_stepU rfl rfl (step_store_box ty30 Sr Sr (by repeat first | exact .h | apply Sel.skip)) fun _ => ?_
   refine JL_freeze (t := 8) (Sel.take (Sel.none _)) Frz.box ?_
   refine JL_nil ?_
   refine Jr ?_
   refine Jl rfl ty30 Sr ?_
   refine Js rfl (step_call0 (List_spec (keysG q facts) (keys_gok hfit hfl) (by show (facts.length : Int) ≤ 9; omega) (keys_spec39 hfit hfl)) ⟨Sr, trivial⟩ call24) ?_
   refine Jm rfl ?_
   refine Js rfl (step_extract Sr rfl) ?_
   refine Js rfl (step_extract Sr rfl) ?_
   refine Ja rfl ?_
   refine Ja rfl ?_
   refine JL_nil ?_
   refine J_seq ?_
   refine Jr ?_
   refine Jm rfl ?_
   refine Js rfl (step_neq Sr Sr) ?_
   refine Jm rfl ?_
   refine JL_stepG rfl rfl rfl (Gd.plain Sr) rfl rfl (fun hw => step_load_ptr ty25 Sr) ?_
   refine JL_stepG rfl rfl rfl (Gd.plain Sr) rfl rfl (fun hw => step_move Sr) ?_
   refine JL_stepG rfl rfl rfl (Gd.plain Sr) rfl rfl (fun hw => step_load_ptr ty30 Sr) ?_
   refine JL_stepG rfl rfl rfl (Gd.plain Sr) rfl rfl (fun hw => step_call0 (Applies_spec q facts (keysG q facts) true (keys_spec39 hfit hfl) (keys_bd hfit hfl) (by omega)) ⟨(Sub.w hw), (Sub.w hw), (Sub.w hw), trivial⟩ call16) ?_
   refine JL_stepG rfl rfl rfl (Gd.plain Sr) rfl rfl (fun hw => step_not (Sub.w hw)) ?_
   refine Js rfl (step_pick_or Sr Sr) ?_
   refine JL_nil ?_
   refine J_cond Sr (fun h44 => ?_) (fun h44 => ?_)
   ·
    try simp only [NF] at h44
    exfalso; rcases h44 with h44 | h44 <;> first | exact h44 rfl | exact h44 trivial | (rw [keys_applies hfit] at h44; cases h44)
   ·
    try simp only [NF] at h44
    refine J_skip ?_
    refine Jr ?_
    refine Ja rfl ?_
    refine JL_nil ?_
    refine J_seq ?_
    refine Jr ?_
    refine Ja rfl ?_
    refine JL_nil ?_
    refine J_block ?_
    refine J_loopL (σ := Nat) (fun i => i ≤ (repsL q facts).length) (fun i => upd (upd (upd (upd (upd (upd (upd (upd env0 1 (tSl rFact facts)) 2 (tPtr rConj q)) 4 (tV (.bool false))) 5 (tV (.bool true))) 6 (tV (.bool (certB q facts)))) 9 (tSl (rSl rInt) (repsL q facts))) 11 (tV (.bool (((repsL q facts).take i).all (holdsM q facts))))) 12 (tV (.int .i64 i))) (fun i => []) (fun i => (repsL q facts).length - i) 0 (Nat.zero_le _) (SubE.upd Sr (SubE.upd Sr (SubE.upd Sr (SubE.upd Sr (SubE.upd Sr (SubE.upd Sr (SubE.upd Sr (SubE.upd Sr SubE.any)))))))) (LSub.rfl) ?_
    rintro i hi
    refine J_seq ?_
    refine Jr ?_
    refine Jm rfl ?_
    refine Jm rfl ?_
    refine Js rfl (step_len_sl underlying28 Sr) ?_
    refine Js rfl (step_lss Sr Sr) ?_
    refine JL_nil ?_
    refine J_cond Sr (fun h48 => ?_) (fun h48 => ?_)
    ·
     try simp only [NF] at h48
     have hlt : i < (repsL q facts).length := by omega
     refine J_skip ?_
     refine J_seq ?_
     refine J_block ?_
     refine J_draw [⟨0, [11], true⟩, ⟨1, [51], true⟩, ⟨2, [2, 52], true⟩, ⟨3, [1, 52], true⟩, ⟨4, [9, 52], true⟩, ⟨5, [12, 52], true⟩, ⟨6, [52, 55, 56], true⟩, ⟨7, [52, 57], true⟩, ⟨8, [52, 53, 54, 58], true⟩, ⟨9, [52, 59], true⟩, ⟨10, [60], true⟩] rfl (by kernel_rfl) ?_
     refine JM_step rfl rfl rfl rfl (fun _ => step_move Sr) ?_
     refine JM_step rfl rfl rfl rfl (fun _ => step_move Sr) ?_
     refine JM_stepG rfl rfl rfl rfl (Gd.plain Sr) rfl rfl (fun hw _ => step_load_ptr ty25 Sr) ?_
     refine JM_stepG rfl rfl rfl rfl (Gd.plain Sr) rfl rfl (fun hw _ => step_move Sr) ?_
     refine JM_stepG rfl rfl rfl rfl (Gd.plain Sr) rfl rfl (fun hw _ => step_move Sr) ?_
     refine JM_stepG rfl rfl rfl rfl (Gd.plain Sr) rfl rfl (fun hw _ => step_move Sr) ?_
     refine JM_stepG rfl rfl rfl rfl (Gd.plain Sr) rfl rfl (fun hw _ => step_indexAddr_sl (i := i) underlying28 ty27 (Sub.w hw) (Sub.w hw) ?sg1 (gb ?sg2)) ?_
     case sg1 => have hwq := hw; (try simp only [beqB_t, beqB_f, NF] at hwq); rfl
     case sg2 => have hwq := hw; (try simp only [beqB_t, beqB_f, NF] at hwq); exact hlt
     refine JM_stepG rfl rfl rfl rfl (Gd.plain Sr) rfl rfl (fun hw _ => step_load_ptr ty27 (Sub.w hw)) ?_
     refine JM_stepG rfl rfl rfl rfl (Gd.plain Sr) rfl rfl (fun hw _ => step_call0 (Holds_spec q facts (nth (repsL q facts) i) (by omega) (by have := reps_len hfit (nth_mem hlt); omega)) ⟨(Sub.w hw), (Sub.w hw), (Sub.w hw), trivial⟩ call18) ?_
     refine JM_step rfl rfl rfl rfl (fun _ => step_pick_and Sr Sr) ?_
     refine JM_step rfl rfl rfl rfl (fun _ => step_assign Sr) ?_
     refine JM_nil ?_
     refine J_region ?_
     refine Jm rfl ?_
     refine Js rfl (step_add Sr Sr ?sg1) ?_
     case sg1 => unfold in64; omega
     refine Ja rfl ?_
     refine JL_nil ?_
     refine K_againL (σ := Nat) (s := i) (i + 1) (by first | omega | (dsimp only; omega) | (simp_all; omega)) hlt (SubE.upd Sr (SubE.upd (Sub.bool (by rw [takeB hlt, List.all_append, List.all_cons, List.all_nil, Bool.and_true]; rfl)) (SubE.upd Sr (SubE.upd Sr (SubE.upd Sr (SubE.upd Sr (SubE.upd Sr (SubE.upd Sr SubE.any)))))))) (LSub.rfl)
    ·
     try simp only [NF] at h48
     refine J_exit ?_
     refine Jr ?_
     refine Jm rfl ?_
     refine Jm rfl ?_
     refine JL_stepG rfl rfl rfl (Gd.plain Sr) rfl rfl (fun hw => step_move Sr) ?_
     refine JL_stepG rfl rfl rfl (Gd.plain Sr) rfl rfl (fun hw => step_move Sr) ?_
     refine JL_stepG rfl rfl rfl (Gd.plain Sr) rfl rfl (fun hw => step_eql_bool underlying4 (Sub.w hw) (Sub.w hw)) ?_
     refine Js rfl (step_pick_and Sr Sr) ?_
     refine Ja rfl ?_
     refine JL_nil ?_
     refine J_ret ?_
     refine K_ret1 (t := 4) rfl () ?_
     refine Sub.bool ?_
     have htk : (repsL q facts).take i = (repsL q facts) := List.take_of_length_le (by omega)
     show (true && decide (((repsL q facts).take i).all (holdsM q facts) = certB q facts)) = true
     rw [htk, reps_eq hfit, rep_law hfit hfm]; simp
end Lg
