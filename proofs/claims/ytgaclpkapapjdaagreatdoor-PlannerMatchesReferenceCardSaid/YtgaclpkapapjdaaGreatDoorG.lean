/- A part of the proof of the law PlannerMatchesReference: contracts of functions that the law reaches, and facts about what they compute. -/
import Derived.Test.YtgaclpkapapjdaaGreatDoorF
set_option linter.unusedVariables false
set_option linter.unusedSimpArgs false
set_option linter.unusedSectionVars false
set_option maxHeartbeats 16000000
namespace Lg
open Go Go.Proofs Go.Proofs.Tryz
theorem zB9 {p : Prop} (h : p := by simp only [List.length_append, List.length_cons, List.length_nil, List.length_map, List.length_take]; omega) : p := h
theorem zM9 {p : Prop} (h : p := by rw [List.length_map]; assumption) : p := h
theorem zE9 {p : Prop} (h : p := by simp only [List.length_append, List.length_cons, List.length_nil]; omega) : p := h
theorem zC9 {p : Prop} (h : p := by simp only [cm, List.length_append, List.length_cons, List.length_nil, List.length_map, List.length_take]; omega) : p := h
theorem wM {r : Int} : eZ r 1 = r := by unfold eZ; simp
def xg (s : GSchema) (st : GStats) : Bool := decide (st.Rows.length = s.Tables.length) && decide (st.Distinct.length = s.Tables.length) && (List.range st.Rows.length).all (ig s st)
theorem iL (s : GSchema) (p : aG) (st : GStats) : bq s p st = (iE s p && xg s st) := by unfold bq xg; simp only [Bool.and_assoc]
theorem Ap {s : GSchema} {st : GStats} {t : Nat} (h1 : 0 <= nth st.Rows t) (h2 : nth st.Rows t <= 1000000000) (h3 : (nth st.Distinct t).length = (nth s.Tables t).Attrs.length) (h4 : ∀ k, k < (nth st.Distinct t).length -> 0 <= nth (nth st.Distinct t) k /\ nth (nth st.Distinct t) k <= nth st.Rows t) : ig s st t = true := by
  unfold ig
  have : (nth st.Distinct t).any (fun n => decide (n < 0) || decide (nth st.Rows t < n)) = false := by
    rw [List.any_eq_false]
    intro v hv
    obtain ⟨i, hi, rfl⟩ := List.getElem_of_mem hv
    have := h4 i hi
    rw [nth_get hi] at this
    simp; omega
  rw [this, h3]
  simp; omega
theorem wN {s : GSchema} {st : GStats} {t : Nat} (h : nth st.Rows t < 0 \/ 1000000000 < nth st.Rows t \/ ¬ (nth st.Distinct t).length = (nth s.Tables t).Attrs.length \/ ∃ k, k < (nth st.Distinct t).length /\ (nth (nth st.Distinct t) k < 0 \/ nth st.Rows t < nth (nth st.Distinct t) k)) : ig s st t = false := by
  unfold ig
  rw [Bool.not_eq_false']
  rcases h with h | h | h | ⟨k, hk, h⟩
  · simp [h]
  · simp [h]
  · have : ¬ (((nth st.Distinct t).length : Int) = (nth s.Tables t).Attrs.length) := by omega
    simp [this]
  · have : (nth st.Distinct t).any (fun n => decide (n < 0) || decide (nth st.Rows t < n)) = true := AX hk (by rcases h with h | h <;> simp [h])
    rw [this]; simp
theorem Aq {s : GSchema} {st : GStats} (h : ¬ st.Rows.length = s.Tables.length \/ ¬ st.Distinct.length = s.Tables.length \/ ∃ t, t < st.Rows.length /\ ig s st t = false) : xg s st = false := by
  unfold xg
  rcases h with h | h | ⟨t, ht, h⟩
  · simp [h]
  · simp [h]
  · rw [eV (f := ig s st) ht h, Bool.and_false]
theorem mM (a b : Int) (h : fe (a * b)) : Fun1 prog 149 [tV (.int .i64 a), tV (.int .i64 b)] (tV (.int .i64 (min 1000000000 (a * b)))) := by
 refine Spec.enter func149 rfl rfl fun h0 w0 fr0 => ?_
 refine Jr (Za (ae (Jr (Zm (Zm ?_)))))
 refine Zs (nS Sr Sr h) (Zs (dh Sr Sr) (Za (ae (aF ?_))))
 exact aK (t := 4) rfl () Sr
theorem eP (n b : Int) (hn : 0 <= n /\ n <= 1000000000) (hb : b <= 1000000000) : Fun1 prog 150 [tV (.int .i64 n), tV (.int .i64 b)] (tV (.int .i64 (eZ n b))) := by
 refine Spec.enter func150 rfl rfl fun h0 w0 fr0 => ?_
 have hq := lC b hn.1
 refine Jr (Za (ae (Jr (Zm (Zs (eY Sr Sr) ?_)))))
 refine Za (ae (Jr (Zm (Zm ?_))))
 refine Zs (aB Sr Sr (by show fe (n + max 1 b); unfold fe; omega)) ?_
 refine Zs (dN Sr Sr (by show fe (n + max 1 b - 1); unfold fe; omega)) ?_
 refine Zm ?_
 refine Zs (lA Sr Sr (by show 0 <= n + max 1 b - 1; omega) (by show 0 < max 1 b; omega) (by unfold eZ at hq; rw [show max b 1 = max 1 b by omega] at hq; generalize (n + max 1 b - 1) / max 1 b = q at hq ⊢; unfold fe; omega)) ?_
 refine Za (ae (aF ?_))
 refine aK (t := 4) rfl () (Sub.int (by unfold eZ; rw [show max b 1 = max 1 b by omega]))
theorem nh (r : Int) (t : GTest) (d : List Int) (hr : 0 <= r /\ r <= 1000000000) (hd : DsOk d) (ht : t.Op = 1 -> mb d.length t) : Fun1 prog 147 [tV (.int .i64 r), be.ty t, tSl bg d] (tV (.int .i64 (eZ r (ma t d)))) := by
 refine Spec.enter func147 rfl rfl fun h0 w0 fr0 => ?_
 refine Jr (Zs (aJ (R := be) Sr) (Za (ae (ar (Jr ?_)))))
 refine Zs (aa gd Sr rfl) (Zl ty3 Sr (Zs (aC Sr Sr) (ae ?_)))
 refine au Sr (fun h10 => ?_) (fun h10 => ?_)
 ·
  try simp only [NF] at h10
  have h10 : t.Op = 2 := h10
  refine Jr (Zm (Za (ae (aF ?_))))
  refine aK (t := 6) rfl () (Sub.int ?_)
  simp [ma, h10, wM]
 try simp only [NF] at h10
 have h10 : ¬ t.Op = 2 := h10
 refine ay (ar (Jr (Zs (aa gd Sr rfl) (Zl ty3 Sr (Zs (bb Sr Sr) ?_)))))
 refine Zm ?_
 refine Zk (aa gd Sr rfl) ?_
 refine Zg (fun hw => ab ty3 (Sub.w hw)) (Zg (fun hw => bb (Sub.w hw) Sr) (Zs (az Sr Sr) (ae ?_)))
 refine au Sr (fun h19 => ?_) (fun h19 => ?_)
 ·
  try simp only [NF] at h19
  have h19 : ¬ t.Op = 1 \/ ¬ t.Add = 0 := h19
  refine Jr (Zm (Zs (ai (eP r 3 hr zG) ⟨Sr, Sr, trivial⟩ call150) (Za (ae (aF ?_)))))
  refine aK (t := 6) rfl () (Sub.int ?_)
  have : ¬ (t.Op = 1 /\ t.Add = 0) := by omega
  rw [show ma t d = 3 by unfold ma; rw [if_neg h10, if_pos zG]]
 try simp only [NF] at h19
 have h19 : t.Op = 1 /\ t.Add = 0 := h19
 have htl : t.Left.Var = 0 -> 0 <= t.Left.Col /\ t.Left.Col < d.length := ht h19.1 t.Left (by simp)
 have htr : t.Right.Var = 0 -> 0 <= t.Right.Col /\ t.Right.Col < d.length := ht h19.1 t.Right (by simp)
 refine ay (Jr (Za (ae (ar (Jr ?_)))))
 refine Zs (aa gd Sr rfl) (Zs (aa fQ Sr rfl) (Zl ty3 Sr (Zs (aC Sr Sr) (ae ?_))))
 refine au Sr (fun h25 => ?_) (fun h25 => ?_)
 ·
  try simp only [NF] at h25
  have h25 : t.Left.Var = 0 := h25
  refine aq (Zm (Zm (Zs (aa gd Sr rfl) (Zs (aa fQ Sr rfl) (Zl ty3 Sr ?_)))))
  refine Zs (ad (i := t.Left.Col.toNat) underlying36 ty3 Sr Sr (by show t.Left.Col = _; have := htl h25; omega) (gb (by show _ < d.length; have := htl h25; omega))) ?_
  refine Zl ty3 Sr (Zs (eY Sr Sr) (Za (ae (ar (Jr ?_)))))
  refine Zs (aa gd Sr rfl) (Zs (aa fQ Sr rfl) (Zl ty3 Sr (Zs (aC Sr Sr) (ae ?_))))
  refine au Sr (fun h37 => ?_) (fun h37 => ?_)
  ·
   try simp only [NF] at h37
   have h37 : t.Right.Var = 0 := h37
   refine aq (Zm (Zm (Zs (aa gd Sr rfl) (Zs (aa fQ Sr rfl) (Zl ty3 Sr ?_)))))
   refine Zs (ad (i := t.Right.Col.toNat) underlying36 ty3 Sr Sr (by show t.Right.Col = _; have := htr h37; omega) (gb (by show _ < d.length; have := htr h37; omega))) ?_
   refine Zl ty3 Sr (Zs (eY Sr Sr) (Za (ae (Jr (Zm ?_)))))
   refine Zm ?_
   refine Zs (ai (eP r _ hr (by first | omega | (have h1 := hd.nth t.Left.Col.toNat; have h2 := hd.nth t.Right.Col.toNat; unfold fm at h1 h2; first | (show max 1 (nth d t.Left.Col.toNat) <= _; omega) | (show max 1 (nth d t.Right.Col.toNat) <= _; omega) | (show max (max 1 (nth d t.Left.Col.toNat)) (nth d t.Right.Col.toNat) <= _; omega)))) ⟨Sr, Sr, trivial⟩ call150) ?_
   refine Za (ae (aF ?_))
   refine aK (t := 6) rfl () (Sub.int ?_)
   rw [show ma t d = [t.Left, t.Right].foldl (rB d) 1 by unfold ma; rw [if_neg h10, if_neg zG]]
   simp [rB, h25, h37]
  try simp only [NF] at h37
  have h37 : ¬ t.Right.Var = 0 := h37
  refine ay (Jr (Zm (Zm ?_)))
  refine Zs (ai (eP r _ hr (by first | omega | (have h1 := hd.nth t.Left.Col.toNat; have h2 := hd.nth t.Right.Col.toNat; unfold fm at h1 h2; first | (show max 1 (nth d t.Left.Col.toNat) <= _; omega) | (show max 1 (nth d t.Right.Col.toNat) <= _; omega) | (show max (max 1 (nth d t.Left.Col.toNat)) (nth d t.Right.Col.toNat) <= _; omega)))) ⟨Sr, Sr, trivial⟩ call150) ?_
  refine Za (ae (aF ?_))
  refine aK (t := 6) rfl () (Sub.int ?_)
  rw [show ma t d = [t.Left, t.Right].foldl (rB d) 1 by unfold ma; rw [if_neg h10, if_neg zG]]
  simp [rB, h25, h37]
 try simp only [NF] at h25
 have h25 : ¬ t.Left.Var = 0 := h25
 refine ay (ar (Jr (Zs (aa gd Sr rfl) (Zs (aa fQ Sr rfl) (Zl ty3 Sr ?_)))))
 refine Zs (aC Sr Sr) (ae ?_)
 refine au Sr (fun h37 => ?_) (fun h37 => ?_)
 ·
  try simp only [NF] at h37
  have h37 : t.Right.Var = 0 := h37
  refine aq (Zm (Zm (Zs (aa gd Sr rfl) (Zs (aa fQ Sr rfl) (Zl ty3 Sr ?_)))))
  refine Zs (ad (i := t.Right.Col.toNat) underlying36 ty3 Sr Sr (by show t.Right.Col = _; have := htr h37; omega) (gb (by show _ < d.length; have := htr h37; omega))) ?_
  refine Zl ty3 Sr (Zs (eY Sr Sr) (Za (ae (Jr (Zm ?_)))))
  refine Zm ?_
  refine Zs (ai (eP r _ hr (by first | omega | (have h1 := hd.nth t.Left.Col.toNat; have h2 := hd.nth t.Right.Col.toNat; unfold fm at h1 h2; first | (show max 1 (nth d t.Left.Col.toNat) <= _; omega) | (show max 1 (nth d t.Right.Col.toNat) <= _; omega) | (show max (max 1 (nth d t.Left.Col.toNat)) (nth d t.Right.Col.toNat) <= _; omega)))) ⟨Sr, Sr, trivial⟩ call150) ?_
  refine Za (ae (aF ?_))
  refine aK (t := 6) rfl () (Sub.int ?_)
  rw [show ma t d = [t.Left, t.Right].foldl (rB d) 1 by unfold ma; rw [if_neg h10, if_neg zG]]
  simp [rB, h25, h37]
 try simp only [NF] at h37
 have h37 : ¬ t.Right.Var = 0 := h37
 refine ay (Jr (Zm (Zm ?_)))
 refine Zs (ai (eP r _ hr (by first | omega | (have h1 := hd.nth t.Left.Col.toNat; have h2 := hd.nth t.Right.Col.toNat; unfold fm at h1 h2; first | (show max 1 (nth d t.Left.Col.toNat) <= _; omega) | (show max 1 (nth d t.Right.Col.toNat) <= _; omega) | (show max (max 1 (nth d t.Left.Col.toNat)) (nth d t.Right.Col.toNat) <= _; omega)))) ⟨Sr, Sr, trivial⟩ call150) ?_
 refine Za (ae (aF ?_))
 refine aK (t := 6) rfl () (Sub.int ?_)
 rw [show ma t d = [t.Left, t.Right].foldl (rB d) 1 by unfold ma; rw [if_neg h10, if_neg zG]]
 simp [rB, h25, h37]
theorem ja (r : Int) (d cols : List Int) (hd : DsOk d) (hc : d9 d.length cols) (hl : cols.length <= 1000000000) : Fun1 prog 148 [tV (.int .i64 r), tSl bg d, tSl bg cols] (tV (.int .i64 (min r (lr d cols)))) := by
 refine Spec.enter func148 rfl rfl fun h0 w0 fr0 => ?_
 refine Jr (Za (ae (Jr (Za (ae ?_)))))
 refine ar (Jr (Za (ae (av ?_))))
 refine aO (σ := Nat) (fun i => i <= cols.length) (fun i => upd (upd (upd (upd (upd (upd cg 0 (tV (.int .i64 r))) 1 (tSl bg d)) 2 (tSl bg cols)) 6 (tV (.int .i64 0))) 7 (tV (.int .i64 (lr d (cols.take i))))) 8 (tV (.int .i64 i))) (fun i => []) (fun i => cols.length - i) 0 (by exact Nat.zero_le _) (zU) (LSub.rfl) ?_
 rintro i hi
 refine ar (Jr (Zm (Zm (Zs (ah underlying36 Sr) (Zs (aA Sr Sr) ?_)))))
 refine ae ?_
 refine au Sr (fun h12 => ?_) (fun h12 => ?_)
 ·
  try simp only [NF] at h12
  have hlt : i < cols.length := by omega
  have hci := hc _ (aH hlt)
  refine ay (ar (av (aq (Zm (Zm ?_)))))
  refine Zm (Zm ?_)
  refine Zs (ad (i := i) underlying36 ty3 Sr Sr (by rfl) (gb (by exact hlt))) ?_
  refine Zl ty3 Sr ?_
  refine Zs (ad (i := (nth cols i).toNat) underlying36 ty3 Sr Sr (by show nth cols i = _; omega) (gb (by show _ < d.length; omega))) ?_
  refine Zl ty3 Sr ?_
  refine Zs (aB Sr Sr (by have h1 := hd.nth (nth cols i).toNat; unfold fm at h1; show fe (nth d (nth cols i).toNat + 1); unfold fe; omega)) ?_
  refine Zs (ai (mM _ _ (by have h1 := mc hd (nth cols i) _ (rD hd (cols.take i)); show fe ((lr d (cols.take i)) * (nth d (nth cols i).toNat + 1)); unfold fe; omega)) ⟨Sr, Sr, trivial⟩ call149) ?_
  refine Za (ae (aq (Zm (Zs (aB Sr Sr z6) (Za ?_)))))
  refine ae ?_
  refine aE (σ := Nat) (s := i) (i + 1) zO zG (.u (SubE.upd (Sub.int (by rw [show lr d (cols.take (i + 1)) = _ from eB hlt]; rfl)) (zU))) (LSub.rfl)
 try simp only [NF] at h12
 obtain rfl : i = cols.length := by omega
 refine aY (Jr (Zm (Zm (Zs (dh Sr Sr) (Za ?_)))))
 refine ae (aF ?_)
 refine aK (t := 6) rfl () (Sub.int (by rw [List.take_length]))
theorem sX (s : GSchema) (st : GStats) (hs : s.Tables.length <= 1000000000) (hd : ∀ d ∈ st.Distinct, d.length <= 1000000000000) : Fun1 prog 94 [aV.ty s, bA.ty st] (tV (.bool (xg s st))) := by
 refine Spec.enter func94 rfl rfl fun h0 w0 fr0 => ?_
 refine Jr (Zs (aJ (R := aV) Sr) (Zs (aJ (R := bA) Sr) (Za (ae (ar ?_)))))
 refine Jr (Zs (aa iO Sr rfl) (Zl bY Sr (Zs (ah underlying36 Sr) (Zs (aa g6 Sr rfl) (Zl g5 Sr ?_)))))
 refine Zs (ah underlying39 Sr) (Zs (bb Sr Sr) (Zm ?_))
 refine Zk (aa iO Sr rfl) ?_
 refine Zg (fun hw => ab nq (Sub.w hw)) (Zg (fun hw => ah underlying58 (Sub.w hw)) ?_)
 refine Zk (aa g6 Sr rfl) ?_
 refine Zg (fun hw => ab g5 (Sub.w hw)) (Zg (fun hw => ah underlying39 (Sub.w hw)) (Zg (fun hw => bb (Sub.w hw) (Sub.w hw)) (Zs (az Sr Sr) (ae ?_))))
 refine au Sr (fun h22 => ?_) (fun h22 => ?_)
 ·
  try simp only [NF] at h22
  have h22 : ¬ st.Rows.length = s.Tables.length \/ ¬ st.Distinct.length = s.Tables.length := by omega
  refine Jr (Za (ae (aF ?_)))
  refine aK (t := 4) rfl () (Sub.bool ?_)
  exact (Aq zG).symm
 try simp only [NF] at h22
 have h22a : st.Rows.length = s.Tables.length := by omega
 have h22b : st.Distinct.length = s.Tables.length := by omega
 refine ay (ar (Jr (Za (ae (av ?_)))))
 refine aO (σ := Nat) (fun t => t <= s.Tables.length /\ ∀ k, k < t -> ig s st k = true) (fun t => upd (upd (upd cg 2 (bx aV s)) 3 (bx bA st)) 5 (tV (.int .i64 t))) (fun t => []) (fun t => s.Tables.length - t) 0 ⟨by omega, fun k hk => absurd hk (Nat.not_lt_zero _)⟩ (zU) (LSub.rfl) ?_
 rintro t ⟨hi, hv⟩
 refine ar (Jr (Zm (Zs (aa g6 Sr rfl) (Zl g5 Sr (Zs (ah underlying39 Sr) ?_)))))
 refine Zs (aA Sr Sr) (ae ?_)
 refine au Sr (fun h27 => ?_) (fun h27 => ?_)
 ·
  try simp only [NF] at h27
  have hlt0 : t < s.Tables.length := by have h27 : (t : Int) < s.Tables.length := h27; omega
  refine ay (ar (av (ar (ar ?_))))
  refine bl [⟨0, [3], true⟩, ⟨1, [30], true⟩, ⟨2, [5], true⟩, ⟨3, [31, 32], true⟩, ⟨4, [33], true⟩, ⟨5, [34], true⟩, ⟨6, [35], true⟩, ⟨7, [3, 36], true⟩, ⟨8, [36, 37], true⟩, ⟨9, [5, 36], true⟩, ⟨10, [36, 38, 39], true⟩, ⟨11, [36, 40], true⟩, ⟨12, [36, 41], true⟩, ⟨13, [36, 42], true⟩, ⟨14, [43], true⟩, ⟨15, [3, 44], true⟩, ⟨16, [44, 45], true⟩, ⟨17, [5, 44], true⟩, ⟨18, [44, 46, 47], true⟩, ⟨19, [44, 48], true⟩, ⟨20, [44, 49], true⟩, ⟨21, [2, 44], true⟩, ⟨22, [44, 51], true⟩, ⟨23, [5, 44], true⟩, ⟨24, [44, 52, 53], true⟩, ⟨25, [44, 54], true⟩, ⟨26, [44, 55], true⟩, ⟨27, [44, 56], true⟩, ⟨28, [44, 50, 57], true⟩, ⟨29, [44, 58], true⟩] rfl (by kernel_rfl) ?_
  refine Zf rfl (aa iO Sr rfl) (Zf rfl (ab bY Sr) (Zv rfl ?_))
  refine Zf rfl (ad (i := t) underlying36 ty3 Sr Sr (by rfl) (gb (by show _ < st.Rows.length; omega))) ?_
  refine Zf rfl (ab ty3 Sr) (Zf rfl (aA Sr Sr) (Zv rfl ?_))
  refine Mk rfl rfl Sr rfl (aa iO Sr rfl) ?_
  refine Mg rfl rfl Sr rfl (fun hw => ab bY (Sub.w hw)) ?_
  refine Mk rfl rfl Sr rfl (al Sr) ?_
  refine Mg rfl rfl Sr rfl (fun hw => ad (i := t) underlying36 ty3 (Sub.w hw) (Sub.w hw) (by rfl) (gb (by have hwq := hw; (try simp only [beqB_t, beqB_f, NF] at hwq); show _ < st.Rows.length; omega))) ?_
  refine Mg rfl rfl Sr rfl (fun hw => ab ty3 (Sub.w hw)) (Mg rfl rfl Sr rfl (fun hw => bD (Sub.w hw) Sr) (Zf rfl (az Sr Sr) (Zv rfl ?_)))
  refine Mk rfl rfl Sr rfl (aa iO Sr rfl) ?_
  refine Mg rfl rfl Sr rfl (fun hw => ab nq (Sub.w hw)) ?_
  refine Mk rfl rfl Sr rfl (al Sr) ?_
  refine Mg rfl rfl Sr rfl (fun hw => ad (i := t) underlying58 bY (Sub.w hw) (Sub.w hw) (by rfl) (gb (by have hwq := hw; (try simp only [beqB_t, beqB_f, NF] at hwq); show _ < st.Distinct.length; omega))) ?_
  refine Mg rfl rfl Sr rfl (fun hw => ab bY (Sub.w hw)) (Mg rfl rfl Sr rfl (fun hw => ah underlying36 (Sub.w hw)) ?_)
  refine Mk rfl rfl Sr rfl (aa g6 Sr rfl) ?_
  refine Mg rfl rfl Sr rfl (fun hw => ab g5 (Sub.w hw)) ?_
  refine Mk rfl rfl Sr rfl (al Sr) ?_
  refine Mg rfl rfl Sr rfl (fun hw => ad (i := t) underlying39 g8 (Sub.w hw) (Sub.w hw) (by rfl) (gb (by have hwq := hw; (try simp only [beqB_t, beqB_f, NF] at hwq); show _ < s.Tables.length; omega))) ?_
  refine Mg rfl rfl Sr rfl (fun hw => aa eu (Sub.w hw) rfl) (Mg rfl rfl Sr rfl (fun hw => ab bQ (Sub.w hw)) (Mg rfl rfl Sr rfl (fun hw => ah underlying44 (Sub.w hw)) (Mg rfl rfl Sr rfl (fun hw => bb (Sub.w hw) (Sub.w hw)) (Zf rfl (az Sr Sr) (bj ?_)))))
  refine au Sr (fun h59 => ?_) (fun h59 => ?_)
  ·
   try simp only [NF] at h59
   have h59 : (nth st.Rows t < 0 \/ 1000000000 < nth st.Rows t) \/ ¬ (((nth st.Distinct t).length : Int) = (nth s.Tables t).Attrs.length) := h59
   refine Jr (Za (ae (aF ?_)))
   refine aK (t := 4) rfl () (Sub.bool ?_)
   exact (Aq (.inr (.inr ⟨t, by omega, wN zG⟩))).symm
  try simp only [NF] at h59
  have h59 : (0 <= nth st.Rows t /\ nth st.Rows t <= 1000000000) /\ (((nth st.Distinct t).length : Int) = (nth s.Tables t).Attrs.length) := h59
  have hdt := hd _ (aH (show t < st.Distinct.length by omega))
  refine ay (Jr (Za (ae (av ?_))))
  refine aO (σ := Nat) (fun c => c <= (nth st.Distinct t).length /\ ∀ k, k < c -> 0 <= nth (nth st.Distinct t) k /\ nth (nth st.Distinct t) k <= nth st.Rows t) (fun c => upd (upd (upd (upd cg 2 (bx aV s)) 3 (bx bA st)) 5 (tV (.int .i64 t))) 6 (tV (.int .i64 c))) (fun c => []) (fun c => (nth st.Distinct t).length - c) 0 ⟨by omega, fun k hk => absurd hk (Nat.not_lt_zero _)⟩ (zU) (LSub.rfl) ?_
  rintro c ⟨hc, hw⟩
  refine ar (Jr (Zm (Zs (aa iO Sr rfl) (Zl nq Sr (Zm ?_)))))
  refine Zs (ad (i := t) underlying58 bY Sr Sr (by rfl) (gb (by show _ < st.Distinct.length; omega))) ?_
  refine Zl bY Sr (Zs (ah underlying36 Sr) (Zs (aA Sr Sr) (ae ?_)))
  refine au Sr (fun h67 => ?_) (fun h67 => ?_)
  ·
   try simp only [NF] at h67
   have hlt : c < (nth st.Distinct t).length := by omega
   refine ay (ar (av (ar ?_)))
   refine bl [⟨0, [3], true⟩, ⟨1, [70], true⟩, ⟨2, [5], true⟩, ⟨3, [71, 72], true⟩, ⟨4, [73], true⟩, ⟨5, [6], true⟩, ⟨6, [74, 75], true⟩, ⟨7, [76], true⟩, ⟨8, [77], true⟩, ⟨9, [78], true⟩, ⟨10, [3, 79], true⟩, ⟨11, [79, 80], true⟩, ⟨12, [5, 79], true⟩, ⟨13, [79, 81, 82], true⟩, ⟨14, [79, 83], true⟩, ⟨15, [6, 79], true⟩, ⟨16, [79, 84, 85], true⟩, ⟨17, [79, 86], true⟩, ⟨18, [3, 79], true⟩, ⟨19, [79, 88], true⟩, ⟨20, [5, 79], true⟩, ⟨21, [79, 89, 90], true⟩, ⟨22, [79, 91], true⟩, ⟨23, [79, 87, 92], true⟩, ⟨24, [79, 93], true⟩] rfl (by kernel_rfl) ?_
   refine Zf rfl (aa iO Sr rfl) (Zf rfl (ab nq Sr) (Zv rfl ?_))
   refine Zf rfl (ad (i := t) underlying58 bY Sr Sr (by rfl) (gb (by show _ < st.Distinct.length; omega))) ?_
   refine Zf rfl (ab bY Sr) (Zv rfl ?_)
   refine Zf rfl (ad (i := c) underlying36 ty3 Sr Sr (by rfl) (gb (by exact hlt))) ?_
   refine Zf rfl (ab ty3 Sr) (Zf rfl (aA Sr Sr) (Zv rfl ?_))
   refine Mk rfl rfl Sr rfl (aa iO Sr rfl) ?_
   refine Mg rfl rfl Sr rfl (fun hw => ab nq (Sub.w hw)) ?_
   refine Mk rfl rfl Sr rfl (al Sr) ?_
   refine Mg rfl rfl Sr rfl (fun hw => ad (i := t) underlying58 bY (Sub.w hw) (Sub.w hw) (by rfl) (gb (by have hwq := hw; (try simp only [beqB_t, beqB_f, NF] at hwq); show _ < st.Distinct.length; omega))) ?_
   refine Mg rfl rfl Sr rfl (fun hw => ab bY (Sub.w hw)) ?_
   refine Mk rfl rfl Sr rfl (al Sr) ?_
   refine Mg rfl rfl Sr rfl (fun hw => ad (i := c) underlying36 ty3 (Sub.w hw) (Sub.w hw) (by rfl) (gb (by have hwq := hw; (try simp only [beqB_t, beqB_f, NF] at hwq); exact hlt))) ?_
   refine Mg rfl rfl Sr rfl (fun hw => ab ty3 (Sub.w hw)) ?_
   refine Mk rfl rfl Sr rfl (aa iO Sr rfl) ?_
   refine Mg rfl rfl Sr rfl (fun hw => ab bY (Sub.w hw)) ?_
   refine Mk rfl rfl Sr rfl (al Sr) ?_
   refine Mg rfl rfl Sr rfl (fun hw => ad (i := t) underlying36 ty3 (Sub.w hw) (Sub.w hw) (by rfl) (gb (by have hwq := hw; (try simp only [beqB_t, beqB_f, NF] at hwq); show _ < st.Rows.length; omega))) ?_
   refine Mg rfl rfl Sr rfl (fun hw => ab ty3 (Sub.w hw)) (Mg rfl rfl Sr rfl (fun hw => bD (Sub.w hw) (Sub.w hw)) (Zf rfl (az Sr Sr) (bj ?_)))
   refine au Sr (fun h94 => ?_) (fun h94 => ?_)
   ·
    try simp only [NF] at h94
    have h94 : nth (nth st.Distinct t) c < 0 \/ nth st.Rows t < nth (nth st.Distinct t) c := h94
    refine Jr (Za (ae (aF ?_)))
    refine aK (t := 4) rfl () (Sub.bool ?_)
    exact (Aq (.inr (.inr ⟨t, by omega, wN (.inr (.inr (.inr ⟨c, hlt, h94⟩)))⟩))).symm
   try simp only [NF] at h94
   have h94 : 0 <= nth (nth st.Distinct t) c /\ nth (nth st.Distinct t) c <= nth st.Rows t := h94
   refine ay (aq (Zm (Zs (aB Sr Sr z6) (Za (ae ?_)))))
   refine aE (σ := Nat) (s := c) (c + 1) zO ?_ (zU) (LSub.rfl)
   refine ⟨by omega, fun k hk => ?_⟩
   by_cases e : k = c
   ·
    rw [e]; exact h94
   exact hw k zG
  try simp only [NF] at h67
  obtain rfl : c = (nth st.Distinct t).length := by omega
  have hrow : ig s st t = true := Ap h59.1.1 h59.1.2 zG hw
  refine aY (aq (Zm (Zs (aB Sr Sr z6) (Za (ae ?_)))))
  refine aE (σ := Nat) (s := t) (t + 1) zO ?_ (zU) (LSub.rfl)
  refine ⟨by omega, fun k hk => ?_⟩
  by_cases e : k = t
  ·
   rw [e]; exact hrow
  exact hv k zG
 try simp only [NF] at h27
 obtain rfl : t = s.Tables.length := by have h27 : (s.Tables.length : Int) <= t := h27; omega
 refine aY (Jr (Za (ae (aF ?_))))
 refine aK (t := 4) rfl () (Sub.bool ?_)
 unfold xg
 rw [h22a, h22b, eU (n := s.Tables.length) hv]; simp
structure GSize where
  Rows : Int
  Distinct : List Int
  Cost : Int
def kG : GSize := { Rows := 0, Distinct := [], Cost := 0 }
instance : Inhabited GSize := ⟨kG⟩
def wO : List (SF GSize) := [⟨Int, 3, bg, GSize.Rows⟩, ⟨List Int, 36, (rSl bg), GSize.Distinct⟩, ⟨Int, 3, bg, GSize.Cost⟩]
abbrev cG : Rp GSize := bG wO
theorem eJ : TyOf prog 156 cG := ⟨fun w => isAgg156 w, fun w => sizeOf156 w⟩
theorem ek : StructOf prog 156 wO := ⟨⟨_, underlying156, ⟨rfl, rfl, ty3, by decide, ⟨rfl, rfl, bY, by decide, ⟨rfl, rfl, ty3, by decide, trivial⟩⟩⟩⟩, eJ⟩
theorem Bv : ∀ h, (cG.ty kG).p h (.agg #[Value.int .i64 0, Value.slice none 0 0, Value.int .i64 0]) := fun _ => ⟨_, ⟨[Value.int .i64 0], _, rfl, rfl, ⟨[Value.slice none 0 0], _, rfl, ⟨_, rfl, none, ⟨0, Nat.le_refl _⟩, rfl, fun q => absurd rfl q⟩, ⟨[Value.int .i64 0], _, rfl, rfl, rfl⟩⟩⟩, rfl⟩
theorem Bw : ElT prog 156 cG 40 kG := ⟨eJ, by decide, t156, (.agg #[Value.int .i64 0, Value.slice none 0 0, Value.int .i64 0]), by kernel_rfl, by kernel_rfl, by kernel_rfl, by kernel_rfl, Bv⟩
structure GSizeW where
  Rows : Int
  Distinct : Value
  Cost : Int
def Bx : GSizeW := { Rows := 0, Distinct := Value.slice none 0 0, Cost := 0 }
def r9 : List (SF GSizeW) := [⟨Int, 3, bg, GSizeW.Rows⟩, ⟨Value, 36, rV, GSizeW.Distinct⟩, ⟨Int, 3, bg, GSizeW.Cost⟩]
abbrev sY : Rp GSizeW := bG r9
theorem oU : TyOf prog 36 rV := ⟨fun w => isAgg36 w, fun w => sizeOf36 w⟩
theorem ze : TyOf prog 156 sY := ⟨fun w => isAgg156 w, fun w => sizeOf156 w⟩
theorem wP : StructOf prog 156 r9 := ⟨⟨_, underlying156, ⟨rfl, rfl, ty3, by decide, ⟨rfl, rfl, oU, by decide, ⟨rfl, rfl, ty3, by decide, trivial⟩⟩⟩⟩, ze⟩
theorem By : ∀ h, (sY.ty Bx).p h (.agg #[Value.int .i64 0, Value.slice none 0 0, Value.int .i64 0]) := fun _ => ⟨_, ⟨[Value.int .i64 0], _, rfl, rfl, ⟨[Value.slice none 0 0], _, rfl, ⟨rfl, rfl⟩, ⟨[Value.int .i64 0], _, rfl, rfl, rfl⟩⟩⟩, rfl⟩
def GSizeW.up (x : GSizeW) (aDistinct : List Int) : GSize := { Rows := x.Rows, Distinct := aDistinct, Cost := x.Cost }
theorem Bz {h h' : PH} {x : GSizeW} (aDistinct : List Int) {cs : List Value} (l : h.le h') (vDistinct : (tSl bg aDistinct).p h' x.Distinct) (r : SF.rel h x r9 cs) : SF.rel h' (x.up aDistinct) wO cs := by
  obtain ⟨c0, _, rfl, r0, c1, _, rfl, r1, c2, _, rfl, r2, rz⟩ := r
  exact ⟨c0, _, rfl, (bg).mono l r0, ⟨c1, _, rfl, ⟨_, r1.1, vDistinct⟩, ⟨c2, _, rfl, (bg).mono l r2, rz⟩⟩⟩
theorem Frz.size {b : Nat} {r c : Int} {v : Value} {d : List Int} {S : List SP} : Frz (Lg.box b 156 sY ⟨r, v, c⟩ :: Lg.own 3 bg v d :: S) (tAt b 0) (bx cG ⟨r, d, c⟩) := En fun h m cs dj st q => Bz (x := ⟨r, v, c⟩) d (Dy _ _) (D6 h m v dj st rfl) q
def gq (k : Gnode) : GSize := ⟨k.size.rows, k.size.distinct, k.size.cost⟩
theorem iT {α β : Type} [Inhabited α] [Inhabited β] {f : α -> β} {l : List α} {i : Nat} (h : i < l.length) : nth (l.map f) i = f (nth l i) := by
  rw [nth_get (by rw [List.length_map]; exact h), nth_get h, List.getElem_map]
def CJ (x : Gplanner) (n : Nat) : Prop := ∀ p : aG, Dep n p -> x6 x p -> NdOk (cd x p) -> Fun1 prog 95 [bO.ty p, bA.ty x.st] (cG.ty (gq (cd x p)))
def wQ (r : Int) (ds z : List Int) : Prop := z.length = ds.length /\ z.map (fun d => min r d) = ds.map fun d => min d r
theorem jo (r : Int) (ds : List Int) : wQ r ds ds := ⟨rfl, List.map_congr_left fun d _ => by omega⟩
theorem Ar {r : Int} (h : r <= 1000000000) (ds : List Int) : wQ r ds (ds.map fun d => min 1000000000 d) := ⟨by simp, by rw [List.map_map]; exact List.map_congr_left fun d _ => by show min r (min 1000000000 d) = min d r; omega⟩
theorem oV (x : Gplanner) (n : Nat) (ih : CJ x n) (p : aG) (hd : Dep (n + 1) p) (he : x6 x p) (hn : NdOk (cd x p)) : Fun1 prog 95 [bO.ty p, bA.ty x.st] (cG.ty (gq (cd x p))) := by
 refine Spec.enter func95 rfl rfl fun h0 w0 fr0 => ?_
 obtain ⟨hm, hek⟩ := iI.1 he
 have hks : ∀ i, i < p.Kids.length -> nth (p.Kids.map (cd x)) i = cd x (nth p.Kids i) := fun i hi => iT hi
 have hat : ∀ i, i < p.Kids.length -> (nth (p.Kids.map (cd x)) i).Plan.Attrs = (nth p.Kids i).Attrs := fun i hi => by rw [hks i hi, cP]
 have hwe := ij x p
 have hkl : (p.Kids.map (cd x)).length = p.Kids.length := List.length_map _
 generalize p.Kids.map (cd x) = ks at hm hks hat hwe hkl
 obtain ⟨q1, q2, q3, q4, q5, q6, q7, q8, q9, q10⟩ := id hm
 have hcb := or q1
 have hrb := ot hm
 have hdl := vI hm
 unfold fm at hcb hrb
 have hdn : (dsM x p ks).length = p.Attrs.length := by have := hn.n; rw [hwe] at this; show (dsM x p ks).length = _; rw [<- List.length_map (f := fun d => min d (cL x p ks))]; exact this
 refine Jr (Zs (aJ (R := bO) Sr) (Zs (aJ (R := bA) Sr) ?_))
 refine Zx (aD (fun w => zeroValue156 w) Bv) fun b4 => ?_
 refine ae (Jr (Za (ae (Jr (Za ?_)))))
 refine ae (ar (Jr (Za (ae (av ?_)))))
 refine aO (σ := Nat × Value) (fun ⟨i, vo⟩ => i <= p.Kids.length) (fun ⟨i, vo⟩ => upd (upd (upd (upd (upd (upd cg 2 (bx bO p)) 3 (bx bA x.st)) 4 (tAt b4 0)) 5 (rV.ty vo)) 6 (tV (.int .i64 (bR (ks.take i))))) 7 (tV (.int .i64 i))) (fun ⟨i, vo⟩ => [own 156 cG vo ((ks.take i).map gq), box b4 156 cG kG]) (fun ⟨i, vo⟩ => p.Kids.length - i) (0, .slice none 0 0) (by exact Nat.zero_le _) (.u (.u (SubE.upd (DG rfl) (zU)))) (LSub.trans (DB (e := 156) (R := cG)) (LSub.of (by rfl))) ?_
 rintro ⟨i, vo⟩ hi
 try dsimp only at hi
 refine ar (Jr (Zm (Zs (aa aX Sr rfl) (Zl dQ Sr (Zs (ah underlying42 Sr) ?_)))))
 refine Zs (aA Sr Sr) (ae ?_)
 refine au Sr (fun h22 => ?_) (fun h22 => ?_)
 ·
  try simp only [NF] at h22
  have hlt : i < p.Kids.length := by omega
  have hlk : i < ks.length := by omega
  have hnl : (nth ((ks.take i).map gq ++ [gq (cd x (nth p.Kids i))]) i) = gq (nth ks i) := by rw [<- hks i hlt, jG (by simp; omega) (by simp; omega)]; simp [Nat.min_eq_left (Nat.le_of_lt hlk)]
  refine ay (ar (av (ar ?_)))
  refine bl [⟨0, [5], true⟩, ⟨1, [2], true⟩, ⟨2, [26], true⟩, ⟨3, [7], true⟩, ⟨4, [27, 28], true⟩, ⟨5, [29], true⟩, ⟨6, [3], true⟩, ⟨7, [30, 31], true⟩, ⟨8, [32], true⟩, ⟨9, [25, 33], false⟩, ⟨10, [34], true⟩] rfl (by kernel_rfl) ?_
  refine Zv rfl (Zf rfl (aa aX Sr rfl) (Zf rfl (ab dQ Sr) (Zv rfl (Zf rfl (ad (i := i) underlying42 eO Sr Sr rfl (gb hlt)) (Zf rfl (ab ba DQ) ?_)))))
  refine Zf rfl (ab gh Sr) ?_
  refine Zf rfl (ai (ih (nth p.Kids i) (hd _ (aH hlt)) (hek _ (aH hlt)) (by rw [<- hks i hlt]; exact q1 _ (aH zG))) ⟨Sr, Sr, trivial⟩ call95) ?_
  refine Zf rfl (ax (ys := [_]) underlying199 Bw ⟨rfl, Sr, trivial⟩ rfl (by decide)) ?_
  refine cB rfl rfl rfl rfl (aL underlying199 Bw Sr Sr zS zB9 zB9) fun v34 => ?_
  refine Zf rfl (aW Sr) (bj (aq (Zm (Zm (Zm ?_)))))
  refine Zs (bd (i := i) underlying199 eJ Sr zS Sr (by rfl) (by simp; omega)) ?_
  refine Zs (bV (i := i) ek Sr rfl zS (by simp; omega)) ?_
  refine Zs (eM (i := i) ty3 Sr rfl zS (gb (by simp; omega))) ?_
  refine Zs (aB Sr Sr (by have h1 := md q1 i; have h2 := (q1 _ (aH (show i < ks.length by omega))).c; unfold fm at h1 h2; rw [hnl]; show fe (bR (ks.take i) + (nth ks i).size.cost); unfold fe; omega)) ?_
  refine Zs (dh Sr Sr) (Za (ae (aq (Zm (Zs (aB Sr Sr z6) ?_)))))
  refine Za (ae ?_)
  refine aE (σ := Nat × Value) (s := (i, vo)) (i + 1, v34) zO (by show i + 1 <= _; omega) (.u (SubE.upd (Sub.int (by rw [pZ hlk, hnl]; rfl)) (zU))) (.c zS (SPs.of (by rw [dM hlk, List.map_append, hks i hlt]; rfl)) (zL))
 try simp only [NF] at h22
 obtain rfl : i = p.Kids.length := by omega
 refine aY (ar ?_)
 refine bF (t := 5) (A' := tSl cG (ks.map gq)) (Sel.take (Dz _)) (DO (by rw [<- hkl, List.take_length])) ?_
 refine bF (t := 6) (A' := tV (.int .i64 (bR ks))) (Dz _) (Frz.sub (Sub.int (by rw [<- hkl, List.take_length]))) ?_
 refine aq (Za (ae (Jr (Za (ae ?_)))))
 refine ar (Jr (Zs (aa aX Sr rfl) (Zl ty3 Sr (ae ?_))))
 refine AO (X := { z : List Int // wQ (cL x p ks) (dsM x p ks) z }) (fun z => upd (upd (upd (upd cg 4 (tAt b4 0)) 6 (tV (.int .i64 (bR ks)))) 8 (tV (.int .i64 (cL x p ks)))) 9 (tSl bg z.1)) (fun z => [box b4 156 cG kG]) ?_ ?_
 ·
  skip
  refine av (Jr (Zs (aC Sr Sr) (Za (ae ?_))))
  refine au Sr (fun h53 => ?_) (fun h53 => ?_)
  ·
   try simp only [NF] at h53
   have hk : p.Kind = 1 := h53
   have hq5 := q5 hk
   refine Jr (Zs (aa iO Sr rfl) (Zl bY Sr (Zs (aa aX Sr rfl) (Zl ty3 Sr ?_))))
   refine Zs (ad (i := p.Table.toNat) underlying36 ty3 Sr Sr (by show p.Table = _; omega) (gb (by show _ < x.st.Rows.length; omega))) ?_
   refine Zl ty3 Sr (Za (ae (aq (Zs (aa iO Sr rfl) (Zl nq Sr ?_)))))
   refine Zs (aa aX Sr rfl) (Zl ty3 Sr ?_)
   refine Zs (ad (i := p.Table.toNat) underlying58 bY Sr Sr (by show p.Table = _; omega) (gb (by show _ < x.st.Distinct.length; omega))) ?_
   refine Zl bY Sr (Za (ae ?_))
   refine iM (E := fun _ => cg) ⟨nth x.st.Distinct p.Table.toNat, by rw [AE hk]; exact jo _ _⟩ (.u (SubE.upd (Sub.int (by rw [vB hk])) (zU))) (LSub.rfl)
  try simp only [NF] at h53
  have hn1 : ¬ p.Kind = 1 := h53
  have hk0 : 0 < ks.length := q6 zG
  have hka := A7 hm zG
  have hkan := hka.n
  have hkaa := hka.a
  have hkar := hka.r
  unfold fm at hkar
  have ha0 : (nth p.Kids 0).Attrs = (nth ks 0).Plan.Attrs := (hat 0 zG).symm
  refine Jr (Zs (aC Sr Sr) (Za (ae ?_)))
  refine au Sr (fun h67 => ?_) (fun h67 => ?_)
  ·
   try simp only [NF] at h67
   have hk : p.Kind = 2 := h67
   refine Jr (Zm ?_)
   refine Zs (bh (B := bx cG (gq (nth ks 0))) (ad (i := 0) underlying199 eJ Sr Sr rfl (gb zM9)) (by rw [iT hk0])) ?_
   refine Zs (aa ek Sr rfl) (Zl ty3 Sr (Za (ae (ar (Jr ?_)))))
   refine Za (ae (av ?_))
   refine aO (σ := Nat) (fun j => j <= p.Tests.length) (fun j => upd (upd (upd (upd (upd (upd (upd cg 2 (bx bO p)) 4 (tAt b4 0)) 5 (tSl cG (ks.map gq))) 6 (tV (.int .i64 (bR ks)))) 8 (tV (.int .i64 (vx (nth ks 0).size.distinct (p.Tests.take j) (nth ks 0).size.rows)))) 9 (tV (.slice none 0 0))) 10 (tV (.int .i64 j))) (fun j => [box b4 156 cG kG]) (fun j => p.Tests.length - j) 0 (by exact Nat.zero_le _) (zU) (zL) ?_
   rintro j hj
   refine ar (Jr (Zm (Zs (aa aX Sr rfl) (Zl iN Sr (Zs (ah underlying43 Sr) ?_)))))
   refine Zs (aA Sr Sr) (ae ?_)
   refine au Sr (fun h77 => ?_) (fun h77 => ?_)
   ·
    try simp only [NF] at h77
    have hlt : j < p.Tests.length := by omega
    refine ay (ar (av ?_))
    refine bl [⟨0, [8], true⟩, ⟨1, [2], true⟩, ⟨2, [81], true⟩, ⟨3, [10], true⟩, ⟨4, [82, 83], true⟩, ⟨5, [84], true⟩, ⟨6, [5], true⟩, ⟨7, [86], true⟩, ⟨8, [87], true⟩, ⟨9, [88], true⟩, ⟨10, [80, 85, 89], true⟩, ⟨11, [90], true⟩] rfl (by kernel_rfl) ?_
    refine Zv rfl (Zf rfl (aa aX Sr rfl) (Zf rfl (ab iN Sr) (Zv rfl ?_)))
    refine Zf rfl (ad (i := j) underlying43 fd Sr Sr (by rfl) (gb (by exact hlt))) ?_
    refine Zf rfl (ab fd Sr) (Zv rfl ?_)
    refine Zf rfl (bh (B := bx cG (gq (nth ks 0))) (ad (i := 0) underlying199 eJ Sr Sr rfl (gb zM9)) (by rw [iT hk0])) ?_
    refine Zf rfl (aa ek Sr rfl) (Zf rfl (ab bY Sr) (Zf rfl (ai (nh _ (nth p.Tests j) (nth ks 0).size.distinct (vz hka.r _) hka.d (fun _ => q7 hk _ (aH hlt))) ⟨Sr, Sr, Sr, trivial⟩ call147) (Zf rfl (aW Sr) (bj (aq ?_)))))
    refine Zm (Zs (aB Sr Sr z6) (Za (ae ?_)))
    refine aE (σ := Nat) (s := j) (j + 1) zO zG (.u (.u (SubE.upd (Sub.int (by rw [show vx (nth ks 0).size.distinct (p.Tests.take (j + 1)) (nth ks 0).size.rows = _ from eB hlt]; rfl)) (zU)))) (zL)
   try simp only [NF] at h77
   obtain rfl : j = p.Tests.length := by omega
   refine aY (aq (Zm ?_))
   refine Zs (bh (B := bx cG (gq (nth ks 0))) (ad (i := 0) underlying199 eJ Sr Sr rfl (gb zM9)) (by rw [iT hk0])) ?_
   refine Zs (aa ek Sr rfl) (Zl bY Sr (Za (ae ?_)))
   refine bF (t := 9) (A' := tSl bg (nth ks 0).size.distinct) (Dz _) (Frz.sub Sr) ?_
   refine iM (E := fun _ => cg) ⟨(nth ks 0).size.distinct, by rw [AF hk]; exact jo _ _⟩ (.u (SubE.upd (Sub.int (by rw [vC hk, List.take_length])) (zU))) (LSub.rfl)
  try simp only [NF] at h67
  have hn2 : ¬ p.Kind = 2 := h67
  refine ar (Jr (Zs (aC Sr Sr) (Za (ae ?_))))
  refine au Sr (fun h95 => ?_) (fun h95 => ?_)
  ·
   try simp only [NF] at h95
   refine ay ?_
   refine au Sr (fun h95 => ?_) (fun h95 => ?_)
   ·
    try simp only [NF] at h95
    refine ar ?_
    refine bl [⟨0, [5], true⟩, ⟨1, [98], true⟩, ⟨2, [99], true⟩, ⟨3, [100], true⟩, ⟨4, [5], true⟩, ⟨5, [102], true⟩, ⟨6, [103], true⟩, ⟨7, [104], true⟩, ⟨8, [2], true⟩, ⟨9, [106], true⟩, ⟨10, [101, 105, 107], true⟩, ⟨11, [108], true⟩] rfl (by kernel_rfl) ?_
    refine Zv rfl ?_
    refine Zf rfl (bh (B := bx cG (gq (nth ks 0))) (ad (i := 0) underlying199 eJ Sr Sr rfl (gb zM9)) (by rw [iT hk0])) ?_
    refine Zf rfl (aa ek Sr rfl) (Zf rfl (ab ty3 Sr) (Zv rfl ?_))
    refine Zf rfl (bh (B := bx cG (gq (nth ks 0))) (ad (i := 0) underlying199 eJ Sr Sr rfl (gb zM9)) (by rw [iT hk0])) ?_
    refine Zf rfl (aa ek Sr rfl) (Zf rfl (ab bY Sr) (Zf rfl (aa aX Sr rfl) (Zf rfl (ab bY Sr) (Zf rfl (ai (ja (nth ks 0).size.rows (nth ks 0).size.distinct p.Cols hka.d (q8 zG) zG) ⟨Sr, Sr, Sr, trivial⟩ call148) (Zf rfl (aW Sr) ?_)))))
    refine bj (ar (Jr (Zs (aa aX Sr rfl) (Zl ty3 Sr (Zs (aC Sr Sr) ?_)))))
    refine Zm ?_
    refine Zk (aa aX Sr rfl) ?_
    refine Zg (fun hw => ab bY (Sub.w hw)) (Zg (fun hw => ah underlying36 (Sub.w hw)) (Zg (fun hw => aC (Sub.w hw) Sr) (Zs (aw Sr Sr) (ae ?_))))
    refine au Sr (fun h117 => ?_) (fun h117 => ?_)
    ·
     try simp only [NF] at h117
     have hc0 : p.Cols.length = 0 := by have := h117.2; omega
     exfalso; have h3 : p.Kind = 3 := h95; have h8 : p.Kind = 8 := h117.1; omega
    try simp only [NF] at h117
    have h117 : ¬ (p.Kind = 8 /\ p.Cols.length = 0) := fun ⟨e1, e2⟩ => by first | exact h117 ⟨e1, by omega⟩ | (rcases h117 with h | h; exact h e1; omega) | (have := h117 e1; omega)
    refine ay (ar (Jr (Za (ae (av ?_)))))
    refine aO (σ := Nat × Value) (fun ⟨c, vd⟩ => c <= p.Cols.length) (fun ⟨c, vd⟩ => upd (upd (upd (upd (upd (upd (upd cg 2 (bx bO p)) 4 (tAt b4 0)) 5 (tSl cG (ks.map gq))) 6 (tV (.int .i64 (bR ks)))) 8 (tV (.int .i64 (min (nth ks 0).size.rows (lr (nth ks 0).size.distinct p.Cols))))) 9 (rV.ty vd)) 11 (tV (.int .i64 c))) (fun ⟨c, vd⟩ => [own 3 bg vd (cm (nth ks 0).size.distinct (p.Cols.take c)), box b4 156 cG kG]) (fun ⟨c, vd⟩ => p.Cols.length - c) (0, .slice none 0 0) (by exact Nat.zero_le _) (.u (SubE.upd (DG rfl) (zU))) (LSub.trans (DB (e := 3) (R := bg)) (LSub.of (by rfl))) ?_
    rintro ⟨c, vd⟩ hc
    try dsimp only at hc
    refine ar (Jr (Zm (Zs (aa aX Sr rfl) (Zl bY Sr (Zs (ah underlying36 Sr) ?_)))))
    refine Zs (aA Sr Sr) (ae ?_)
    refine au Sr (fun h122 => ?_) (fun h122 => ?_)
    ·
     try simp only [NF] at h122
     have hlt : c < p.Cols.length := by omega
     have hci := q8 zG _ (aH hlt)
     refine ay (ar (av ?_))
     refine bl [⟨0, [9], true⟩, ⟨1, [5], true⟩, ⟨2, [126], true⟩, ⟨3, [127], true⟩, ⟨4, [128], true⟩, ⟨5, [2], true⟩, ⟨6, [130], true⟩, ⟨7, [11], true⟩, ⟨8, [131, 132], true⟩, ⟨9, [133], true⟩, ⟨10, [129, 134], true⟩, ⟨11, [135], true⟩, ⟨12, [136], true⟩, ⟨13, [125, 137], false⟩, ⟨14, [138], true⟩] rfl (by kernel_rfl) ?_
     refine Zv rfl (Zv rfl ?_)
     refine Zf rfl (bh (B := bx cG (gq (nth ks 0))) (ad (i := 0) underlying199 eJ Sr Sr rfl (gb zM9)) (by rw [iT hk0])) ?_
     refine Zf rfl (aa ek Sr rfl) (Zf rfl (ab bY Sr) (Zf rfl (aa aX Sr rfl) (Zf rfl (ab bY Sr) (Zv rfl ?_))))
     refine Zf rfl (ad (i := c) underlying36 ty3 Sr Sr (by rfl) (gb (by exact hlt))) ?_
     refine Zf rfl (ab ty3 Sr) ?_
     refine Zf rfl (ad (i := (nth p.Cols c).toNat) underlying36 ty3 Sr Sr (by show nth p.Cols c = _; omega) (gb (by show _ < (nth ks 0).size.distinct.length; omega))) ?_
     refine Zf rfl (ab ty3 Sr) ?_
     refine Zf rfl (ax (ys := [_]) underlying36 el3 ⟨rfl, Sr, trivial⟩ rfl (by decide)) ?_
     refine cB rfl rfl rfl rfl (aL underlying36 el3 Sr Sr zS zC9 zC9) fun v138 => ?_
     refine Zf rfl (aW Sr) (bj (aq (Zm (Zs (aB Sr Sr z6) (Za ?_)))))
     refine ae ?_
     refine aE (σ := Nat × Value) (s := (c, vd)) (c + 1, v138) zO (by show c + 1 <= _; omega) (zU) (.c zS (SPs.of (by rw [ie hlt]; rfl)) (zL))
    try simp only [NF] at h122
    obtain rfl : c = p.Cols.length := by omega
    refine aY (Jr (Zs (aa aX Sr rfl) (Zl ty3 Sr (Zs (aC Sr Sr) (ae ?_)))))
    refine au Sr (fun h141 => ?_) (fun h141 => ?_)
    ·
     try simp only [NF] at h141
     exfalso; have h3 : p.Kind = 3 := h95; have h8 : p.Kind = 8 := h141; omega
    try simp only [NF] at h141
    refine ay ?_
    have hk : p.Kind = 3 := h95
    refine bF (t := 9) (A' := tSl bg (cm (nth ks 0).size.distinct p.Cols)) zS (DO (by rw [List.take_length])) ?_
    refine iM (E := fun _ => cg) ⟨cm (nth ks 0).size.distinct p.Cols, by rw [yQ hk]; exact jo _ _⟩ (.u (SubE.upd (Sub.int (by rw [vE hk]; rfl)) (zU))) (LSub.rfl)
   try simp only [NF] at h95
   first | contradiction | omega | (simp_all; done)
  try simp only [NF] at h95
  first | (have hn3 : ¬ p.Kind = 3 := h95) | (have hn8 : ¬ p.Kind = 8 := h95)
  refine aq (Zs (aC Sr Sr) (Za (ae ?_)))
  refine au Sr (fun h95 => ?_) (fun h95 => ?_)
  ·
   try simp only [NF] at h95
   refine ar ?_
   refine bl [⟨0, [5], true⟩, ⟨1, [98], true⟩, ⟨2, [99], true⟩, ⟨3, [100], true⟩, ⟨4, [5], true⟩, ⟨5, [102], true⟩, ⟨6, [103], true⟩, ⟨7, [104], true⟩, ⟨8, [2], true⟩, ⟨9, [106], true⟩, ⟨10, [101, 105, 107], true⟩, ⟨11, [108], true⟩] rfl (by kernel_rfl) ?_
   refine Zv rfl ?_
   refine Zf rfl (bh (B := bx cG (gq (nth ks 0))) (ad (i := 0) underlying199 eJ Sr Sr rfl (gb zM9)) (by rw [iT hk0])) ?_
   refine Zf rfl (aa ek Sr rfl) (Zf rfl (ab ty3 Sr) (Zv rfl ?_))
   refine Zf rfl (bh (B := bx cG (gq (nth ks 0))) (ad (i := 0) underlying199 eJ Sr Sr rfl (gb zM9)) (by rw [iT hk0])) ?_
   refine Zf rfl (aa ek Sr rfl) (Zf rfl (ab bY Sr) (Zf rfl (aa aX Sr rfl) (Zf rfl (ab bY Sr) (Zf rfl (ai (ja (nth ks 0).size.rows (nth ks 0).size.distinct p.Cols hka.d (q8 zG) zG) ⟨Sr, Sr, Sr, trivial⟩ call148) (Zf rfl (aW Sr) ?_)))))
   refine bj (ar (Jr (Zs (aa aX Sr rfl) (Zl ty3 Sr (Zs (aC Sr Sr) ?_)))))
   refine Zm ?_
   refine Zk (aa aX Sr rfl) ?_
   refine Zg (fun hw => ab bY (Sub.w hw)) (Zg (fun hw => ah underlying36 (Sub.w hw)) (Zg (fun hw => aC (Sub.w hw) Sr) (Zs (aw Sr Sr) (ae ?_))))
   refine au Sr (fun h117 => ?_) (fun h117 => ?_)
   ·
    try simp only [NF] at h117
    have hc0 : p.Cols.length = 0 := by have := h117.2; omega
    refine aq (Za (ae (ar (Jr (Za ?_)))))
    refine ae (av ?_)
    refine aO (σ := Nat × Value) (fun ⟨c, vd⟩ => c <= p.Cols.length) (fun ⟨c, vd⟩ => upd (upd (upd (upd (upd (upd (upd cg 2 (bx bO p)) 4 (tAt b4 0)) 5 (tSl cG (ks.map gq))) 6 (tV (.int .i64 (bR ks)))) 8 (tV (.int .i64 1))) 9 (rV.ty vd)) 11 (tV (.int .i64 c))) (fun ⟨c, vd⟩ => [own 3 bg vd (cm (nth ks 0).size.distinct (p.Cols.take c)), box b4 156 cG kG]) (fun ⟨c, vd⟩ => p.Cols.length - c) (0, .slice none 0 0) (by exact Nat.zero_le _) (.u (SubE.upd (DG rfl) (zU))) (LSub.trans (DB (e := 3) (R := bg)) (LSub.of (by rfl))) ?_
    rintro ⟨c, vd⟩ hc
    try dsimp only at hc
    refine ar (Jr (Zm (Zs (aa aX Sr rfl) (Zl bY Sr (Zs (ah underlying36 Sr) ?_)))))
    refine Zs (aA Sr Sr) (ae ?_)
    refine au Sr (fun h122 => ?_) (fun h122 => ?_)
    ·
     try simp only [NF] at h122
     have hlt : c < p.Cols.length := by omega
     have hci := q8 zG _ (aH hlt)
     refine ay (ar (av ?_))
     refine bl [⟨0, [9], true⟩, ⟨1, [5], true⟩, ⟨2, [126], true⟩, ⟨3, [127], true⟩, ⟨4, [128], true⟩, ⟨5, [2], true⟩, ⟨6, [130], true⟩, ⟨7, [11], true⟩, ⟨8, [131, 132], true⟩, ⟨9, [133], true⟩, ⟨10, [129, 134], true⟩, ⟨11, [135], true⟩, ⟨12, [136], true⟩, ⟨13, [125, 137], false⟩, ⟨14, [138], true⟩] rfl (by kernel_rfl) ?_
     refine Zv rfl (Zv rfl ?_)
     refine Zf rfl (bh (B := bx cG (gq (nth ks 0))) (ad (i := 0) underlying199 eJ Sr Sr rfl (gb zM9)) (by rw [iT hk0])) ?_
     refine Zf rfl (aa ek Sr rfl) (Zf rfl (ab bY Sr) (Zf rfl (aa aX Sr rfl) (Zf rfl (ab bY Sr) (Zv rfl ?_))))
     refine Zf rfl (ad (i := c) underlying36 ty3 Sr Sr (by rfl) (gb (by exact hlt))) ?_
     refine Zf rfl (ab ty3 Sr) ?_
     refine Zf rfl (ad (i := (nth p.Cols c).toNat) underlying36 ty3 Sr Sr (by show nth p.Cols c = _; omega) (gb (by show _ < (nth ks 0).size.distinct.length; omega))) ?_
     refine Zf rfl (ab ty3 Sr) ?_
     refine Zf rfl (ax (ys := [_]) underlying36 el3 ⟨rfl, Sr, trivial⟩ rfl (by decide)) ?_
     refine cB rfl rfl rfl rfl (aL underlying36 el3 Sr Sr zS zC9 zC9) fun v138 => ?_
     refine Zf rfl (aW Sr) (bj (aq (Zm (Zs (aB Sr Sr z6) (Za ?_)))))
     refine ae ?_
     refine aE (σ := Nat × Value) (s := (c, vd)) (c + 1, v138) zO (by show c + 1 <= _; omega) (zU) (.c zS (SPs.of (by rw [ie hlt]; rfl)) (zL))
    try simp only [NF] at h122
    obtain rfl : c = p.Cols.length := by omega
    refine aY (Jr (Zs (aa aX Sr rfl) (Zl ty3 Sr (Zs (aC Sr Sr) (ae ?_)))))
    refine au Sr (fun h141 => ?_) (fun h141 => ?_)
    ·
     try simp only [NF] at h141
     refine aq (Zm (Zm ?_))
     refine Zs (ax (ys := [_]) underlying36 el3 ⟨rfl, Sr, trivial⟩ rfl (by decide)) ?_
     refine Zx (aL underlying36 el3 Sr Sr zS zC9 zC9) fun v145 => ?_
     refine Za (ae ?_)
     have hk : p.Kind = 8 := h95
     refine bF (t := 9) (A' := tSl bg (cm (nth ks 0).size.distinct p.Cols ++ [iS (nth ks 0) p.Cols])) zS (DO (by rw [iS, if_pos hc0, List.take_length])) ?_
     refine iM (E := fun _ => cg) ⟨cm (nth ks 0).size.distinct p.Cols ++ [iS (nth ks 0) p.Cols], by rw [yR hk]; exact jo _ _⟩ (.u (SubE.upd (Sub.int (by rw [pX hk, iS, if_pos hc0])) (zU))) (LSub.rfl)
    try simp only [NF] at h141
    exfalso; exact h141 h95
   try simp only [NF] at h117
   have h117 : ¬ (p.Kind = 8 /\ p.Cols.length = 0) := fun ⟨e1, e2⟩ => by first | exact h117 ⟨e1, by omega⟩ | (rcases h117 with h | h; exact h e1; omega) | (have := h117 e1; omega)
   refine ay (ar (Jr (Za (ae (av ?_)))))
   refine aO (σ := Nat × Value) (fun ⟨c, vd⟩ => c <= p.Cols.length) (fun ⟨c, vd⟩ => upd (upd (upd (upd (upd (upd (upd cg 2 (bx bO p)) 4 (tAt b4 0)) 5 (tSl cG (ks.map gq))) 6 (tV (.int .i64 (bR ks)))) 8 (tV (.int .i64 (min (nth ks 0).size.rows (lr (nth ks 0).size.distinct p.Cols))))) 9 (rV.ty vd)) 11 (tV (.int .i64 c))) (fun ⟨c, vd⟩ => [own 3 bg vd (cm (nth ks 0).size.distinct (p.Cols.take c)), box b4 156 cG kG]) (fun ⟨c, vd⟩ => p.Cols.length - c) (0, .slice none 0 0) (by exact Nat.zero_le _) (.u (SubE.upd (DG rfl) (zU))) (LSub.trans (DB (e := 3) (R := bg)) (LSub.of (by rfl))) ?_
   rintro ⟨c, vd⟩ hc
   try dsimp only at hc
   refine ar (Jr (Zm (Zs (aa aX Sr rfl) (Zl bY Sr (Zs (ah underlying36 Sr) ?_)))))
   refine Zs (aA Sr Sr) (ae ?_)
   refine au Sr (fun h122 => ?_) (fun h122 => ?_)
   ·
    try simp only [NF] at h122
    have hlt : c < p.Cols.length := by omega
    have hci := q8 zG _ (aH hlt)
    refine ay (ar (av ?_))
    refine bl [⟨0, [9], true⟩, ⟨1, [5], true⟩, ⟨2, [126], true⟩, ⟨3, [127], true⟩, ⟨4, [128], true⟩, ⟨5, [2], true⟩, ⟨6, [130], true⟩, ⟨7, [11], true⟩, ⟨8, [131, 132], true⟩, ⟨9, [133], true⟩, ⟨10, [129, 134], true⟩, ⟨11, [135], true⟩, ⟨12, [136], true⟩, ⟨13, [125, 137], false⟩, ⟨14, [138], true⟩] rfl (by kernel_rfl) ?_
    refine Zv rfl (Zv rfl ?_)
    refine Zf rfl (bh (B := bx cG (gq (nth ks 0))) (ad (i := 0) underlying199 eJ Sr Sr rfl (gb zM9)) (by rw [iT hk0])) ?_
    refine Zf rfl (aa ek Sr rfl) (Zf rfl (ab bY Sr) (Zf rfl (aa aX Sr rfl) (Zf rfl (ab bY Sr) (Zv rfl ?_))))
    refine Zf rfl (ad (i := c) underlying36 ty3 Sr Sr (by rfl) (gb (by exact hlt))) ?_
    refine Zf rfl (ab ty3 Sr) ?_
    refine Zf rfl (ad (i := (nth p.Cols c).toNat) underlying36 ty3 Sr Sr (by show nth p.Cols c = _; omega) (gb (by show _ < (nth ks 0).size.distinct.length; omega))) ?_
    refine Zf rfl (ab ty3 Sr) ?_
    refine Zf rfl (ax (ys := [_]) underlying36 el3 ⟨rfl, Sr, trivial⟩ rfl (by decide)) ?_
    refine cB rfl rfl rfl rfl (aL underlying36 el3 Sr Sr zS zC9 zC9) fun v138 => ?_
    refine Zf rfl (aW Sr) (bj (aq (Zm (Zs (aB Sr Sr z6) (Za ?_)))))
    refine ae ?_
    refine aE (σ := Nat × Value) (s := (c, vd)) (c + 1, v138) zO (by show c + 1 <= _; omega) (zU) (.c zS (SPs.of (by rw [ie hlt]; rfl)) (zL))
   try simp only [NF] at h122
   obtain rfl : c = p.Cols.length := by omega
   refine aY (Jr (Zs (aa aX Sr rfl) (Zl ty3 Sr (Zs (aC Sr Sr) (ae ?_)))))
   refine au Sr (fun h141 => ?_) (fun h141 => ?_)
   ·
    try simp only [NF] at h141
    refine aq (Zm (Zm ?_))
    refine Zs (ax (ys := [_]) underlying36 el3 ⟨rfl, Sr, trivial⟩ rfl (by decide)) ?_
    refine Zx (aL underlying36 el3 Sr Sr zS zC9 zC9) fun v145 => ?_
    refine Za (ae ?_)
    have hk : p.Kind = 8 := h95
    have hc0 : ¬ p.Cols.length = 0 := fun e => h117 ⟨hk, e⟩
    refine bF (t := 9) (A' := tSl bg (cm (nth ks 0).size.distinct p.Cols ++ [iS (nth ks 0) p.Cols])) zS (DO (by rw [iS, if_neg hc0, List.take_length]; rfl)) ?_
    refine iM (E := fun _ => cg) ⟨cm (nth ks 0).size.distinct p.Cols ++ [iS (nth ks 0) p.Cols], by rw [yR hk]; exact jo _ _⟩ (.u (SubE.upd (Sub.int (by rw [pX hk, iS, if_neg hc0]; rfl)) (zU))) (LSub.rfl)
   try simp only [NF] at h141
   exfalso; exact h141 h95
  try simp only [NF] at h95
  first | (have hn3 : ¬ p.Kind = 3 := h95) | (have hn8 : ¬ p.Kind = 8 := h95)
  refine Jr (Zs (aC Sr Sr) (Za (ae ?_)))
  refine au Sr (fun h146 => ?_) (fun h146 => ?_)
  ·
   try simp only [NF] at h146
   have hk : p.Kind = 4 := h146
   have hk1 := q9 (.inl hk)
   have hkb := xT hm (.inl hk)
   have hkbn := hkb.n
   have hkba := hkb.a
   have hkbr := hkb.r
   unfold fm at hkbr
   have ha1 : (nth p.Kids 1).Attrs = (nth ks 1).Plan.Attrs := (hat 1 zG).symm
   have hmul := vA hka.r hkb.r
   refine ar ?_
   refine bl [⟨0, [5], true⟩, ⟨1, [148], true⟩, ⟨2, [149], true⟩, ⟨3, [150], true⟩, ⟨4, [5], true⟩, ⟨5, [152], true⟩, ⟨6, [153], true⟩, ⟨7, [154], true⟩, ⟨8, [151, 155], true⟩, ⟨9, [156], true⟩] rfl (by kernel_rfl) ?_
   refine Zv rfl ?_
   refine Zf rfl (bh (B := bx cG (gq (nth ks 0))) (ad (i := 0) underlying199 eJ Sr Sr rfl (gb zM9)) (by rw [iT hk0])) ?_
   refine Zf rfl (aa ek Sr rfl) (Zf rfl (ab ty3 Sr) (Zv rfl ?_))
   refine Zf rfl (bh (B := bx cG (gq (nth ks 1))) (ad (i := 1) underlying199 eJ Sr Sr rfl (gb (by rw [List.length_map]; exact hk1))) (by rw [iT hk1])) ?_
   refine Zf rfl (aa ek Sr rfl) (Zf rfl (ab ty3 Sr) (Zf rfl (ai (mM (nth ks 0).size.rows (nth ks 1).size.rows z6) ⟨Sr, Sr, trivial⟩ call149) (Zf rfl (aW Sr) (bj (Jr ?_)))))
   refine Zx (cx (ys := ([] : List Int)) underlying36 el3 trivial rfl (by decide)) fun v157 => ?_
   refine Zm ?_
   refine Zs (bh (B := bx cG (gq (nth ks 0))) (ad (i := 0) underlying199 eJ Sr Sr rfl (gb zM9)) (by rw [iT hk0])) ?_
   refine Zs (aa ek Sr rfl) (Zl bY Sr ?_)
   refine Zx (aL underlying36 el3 Sr Sr zS (by show (0 + (nth ks 0).size.distinct.length) * 8 <= _; omega) (by show 0 + (nth ks 0).size.distinct.length <= _; omega)) fun v162 => ?_
   refine Za (ae (ar (Jr (Za (ae ?_)))))
   refine av ?_
   refine aO (σ := Nat) (fun j => j <= (nth ks 0).Plan.Attrs.length) (fun j => upd (upd (upd (upd (upd (upd (upd cg 2 (bx bO p)) 4 (tAt b4 0)) 5 (tSl cG (ks.map gq))) 6 (tV (.int .i64 (bR ks)))) 8 (tV (.int .i64 (ic (nth ks 0) (nth ks 1) j)))) 9 (rV.ty v162)) 12 (tV (.int .i64 j))) (fun j => [own 3 bg v162 (nth ks 0).size.distinct, box b4 156 cG kG]) (fun j => (nth ks 0).Plan.Attrs.length - j) 0 (by exact Nat.zero_le _) (zU) (.c zS (SPs.of (by rfl)) (zL)) ?_
   rintro j hj
   refine ar (Jr (Zm (Zs (aa aX Sr rfl) (Zl dQ Sr ?_))))
   refine Zs (ad (i := 0) underlying42 eO Sr Sr rfl (gb (show 0 < p.Kids.length by omega))) ?_
   refine Zs (aa aX DQ rfl) (Zs (bh (B := tSl aS (nth ks 0).Plan.Attrs) (ab bQ Sr) (congrArg (tSl aS) ha0)) (Zs (ah underlying44 Sr) (Zs (aA Sr Sr) (ae ?_))))
   refine au Sr (fun h170 => ?_) (fun h170 => ?_)
   ·
    try simp only [NF] at h170
    have hlt : j < (nth ks 0).Plan.Attrs.length := by omega
    have hcl := iY (nth ks 1).Plan.Attrs (nth (nth ks 0).Plan.Attrs j).Name
    have hjc : oo (nth ks 0) (nth ks 1) j < (nth ks 1).Plan.Attrs.length := hcl.2
    refine ay (ar (av (ar ?_)))
    refine bl [⟨0, [2], true⟩, ⟨1, [173], true⟩, ⟨2, [174], true⟩, ⟨3, [175], true⟩, ⟨4, [176], true⟩, ⟨5, [2], true⟩, ⟨6, [178], true⟩, ⟨7, [179], true⟩, ⟨8, [180], true⟩, ⟨9, [181], true⟩, ⟨10, [12], true⟩, ⟨11, [182, 183], true⟩, ⟨12, [184], true⟩, ⟨13, [185], true⟩, ⟨14, [177, 186], true⟩, ⟨15, [187], true⟩] rfl (by kernel_rfl) ?_
    refine Zf rfl (aa aX Sr rfl) (Zf rfl (ab dQ Sr) ?_)
    refine Zf rfl (ad (i := 1) underlying42 eO Sr Sr rfl (gb (show 1 < p.Kids.length by omega))) ?_
    refine Zf rfl (aa aX DQ rfl) (Zf rfl (bh (B := tSl aS (nth ks 1).Plan.Attrs) (ab bQ Sr) (congrArg (tSl aS) ha1)) (Zf rfl (aa aX Sr rfl) (Zf rfl (ab dQ Sr) ?_)))
    refine Zf rfl (ad (i := 0) underlying42 eO Sr Sr rfl (gb (show 0 < p.Kids.length by omega))) ?_
    refine Zf rfl (aa aX DQ rfl) (Zf rfl (bh (B := tSl aS (nth ks 0).Plan.Attrs) (ab bQ Sr) (congrArg (tSl aS) ha0)) (Zv rfl ?_))
    refine Zf rfl (ad (i := j) underlying44 ct Sr Sr (by rfl) (gb (by exact hlt))) ?_
    refine Zf rfl (aa dH Sr rfl) (Zf rfl (ab ty9 Sr) (Zf rfl (ai (fC (nth ks 1).Plan.Attrs _ zG) ⟨Sr, Sr, trivial⟩ call123) (Zf rfl (aW Sr) (bj (Jr ?_)))))
    refine Zm (Zs (bE Sr Sr) (ae ?_))
    refine au Sr (fun h189 => ?_) (fun h189 => ?_)
    ·
     try simp only [NF] at h189
     have h189 : 0 <= oo (nth ks 0) (nth ks 1) j := h189
     refine bl [⟨0, [8], true⟩, ⟨1, [5], true⟩, ⟨2, [191], true⟩, ⟨3, [192], true⟩, ⟨4, [193], true⟩, ⟨5, [12], true⟩, ⟨6, [194, 195], true⟩, ⟨7, [196], true⟩, ⟨8, [5], true⟩, ⟨9, [198], true⟩, ⟨10, [199], true⟩, ⟨11, [200], true⟩, ⟨12, [13], true⟩, ⟨13, [201, 202], true⟩, ⟨14, [203], true⟩, ⟨15, [197, 204], true⟩, ⟨16, [190, 205], true⟩, ⟨17, [206], true⟩] rfl (by kernel_rfl) ?_
     refine Zv rfl (Zv rfl ?_)
     refine Zf rfl (bh (B := bx cG (gq (nth ks 0))) (ad (i := 0) underlying199 eJ Sr Sr rfl (gb zM9)) (by rw [iT hk0])) ?_
     refine Zf rfl (aa ek Sr rfl) (Zf rfl (ab bY Sr) (Zv rfl ?_))
     refine Zf rfl (ad (i := j) underlying36 ty3 Sr Sr (by rfl) (gb (by show _ < (nth ks 0).size.distinct.length; omega))) ?_
     refine Zf rfl (ab ty3 Sr) (Zv rfl ?_)
     refine Zf rfl (bh (B := bx cG (gq (nth ks 1))) (ad (i := 1) underlying199 eJ Sr Sr rfl (gb (by rw [List.length_map]; exact hk1))) (by rw [iT hk1])) ?_
     refine Zf rfl (aa ek Sr rfl) (Zf rfl (ab bY Sr) (Zv rfl ?_))
     refine Zf rfl (ad (i := (oo (nth ks 0) (nth ks 1) j).toNat) underlying36 ty3 Sr Sr (by show oo (nth ks 0) (nth ks 1) j = _; omega) (gb (by show _ < (nth ks 1).size.distinct.length; omega))) ?_
     refine Zf rfl (ab ty3 Sr) (Zf rfl (eY Sr Sr) ?_)
     refine Zf rfl (ai (eP _ _ (oq hka hkb _) (by have h1 := hka.d.nth j; have h2 := hkb.d.nth (oo (nth ks 0) (nth ks 1) j).toNat; unfold fm at h1 h2; show max (nth (nth ks 0).size.distinct j) (nth (nth ks 1).size.distinct (oo (nth ks 0) (nth ks 1) j).toNat) <= _; omega)) ⟨Sr, Sr, trivial⟩ call150) ?_
     refine Zf rfl (aW Sr) (bj (aq (Zm (Zs (aB Sr Sr z6) (Za ?_)))))
     refine ae ?_
     refine aE (σ := Nat) (s := j) (j + 1) zO zG (.u (.u (SubE.upd (Sub.int (by rw [show ic (nth ks 0) (nth ks 1) (j + 1) = _ from jM, rC, if_pos h189]; rfl)) (zU)))) (zL)
    try simp only [NF] at h189
    have h189 : ¬ 0 <= oo (nth ks 0) (nth ks 1) j := by show ¬ 0 <= columnL _ _; omega
    refine ay (aq (Zm (Zs (aB Sr Sr z6) (Za (ae ?_)))))
    refine aE (σ := Nat) (s := j) (j + 1) zO zG (.u (.u (SubE.upd (Sub.int (by rw [show ic (nth ks 0) (nth ks 1) (j + 1) = _ from jM, rC, if_neg h189]; rfl)) (zU)))) (zL)
   try simp only [NF] at h170
   obtain rfl : j = (nth ks 0).Plan.Attrs.length := by omega
   refine aY (Jr (Za (ae (av ?_))))
   refine aO (σ := Nat × Value) (fun ⟨c, vd⟩ => c <= (nth ks 1).Plan.Attrs.length) (fun ⟨c, vd⟩ => upd (upd (upd (upd (upd (upd (upd cg 2 (bx bO p)) 4 (tAt b4 0)) 5 (tSl cG (ks.map gq))) 6 (tV (.int .i64 (bR ks)))) 8 (tV (.int .i64 (ic (nth ks 0) (nth ks 1) (nth ks 0).Plan.Attrs.length)))) 9 (rV.ty vd)) 14 (tV (.int .i64 c))) (fun ⟨c, vd⟩ => [own 3 bg vd (jDs (nth ks 0) (nth ks 1) c), box b4 156 cG kG]) (fun ⟨c, vd⟩ => (nth ks 1).Plan.Attrs.length - c) (0, v162) (by exact Nat.zero_le _) (zU) (.c zS (SPs.of (by simp [jDs, vy])) (zL)) ?_
   rintro ⟨c, vd⟩ hc
   try dsimp only at hc
   refine ar (Jr (Zm (Zs (aa aX Sr rfl) (Zl dQ Sr ?_))))
   refine Zs (ad (i := 1) underlying42 eO Sr Sr rfl (gb (show 1 < p.Kids.length by omega))) ?_
   refine Zs (aa aX DQ rfl) (Zs (bh (B := tSl aS (nth ks 1).Plan.Attrs) (ab bQ Sr) (congrArg (tSl aS) ha1)) (Zs (ah underlying44 Sr) (Zs (aA Sr Sr) (ae ?_))))
   refine au Sr (fun h214 => ?_) (fun h214 => ?_)
   ·
    try simp only [NF] at h214
    have hlt : c < (nth ks 1).Plan.Attrs.length := by omega
    have hjl := sD (nth ks 0) (nth ks 1) c
    refine ay (ar (av (ar ?_)))
    refine bl [⟨0, [2], true⟩, ⟨1, [217], true⟩, ⟨2, [218], true⟩, ⟨3, [219], true⟩, ⟨4, [220], true⟩, ⟨5, [2], true⟩, ⟨6, [222], true⟩, ⟨7, [223], true⟩, ⟨8, [224], true⟩, ⟨9, [225], true⟩, ⟨10, [14], true⟩, ⟨11, [226, 227], true⟩, ⟨12, [228], true⟩, ⟨13, [229], true⟩, ⟨14, [221, 230], true⟩, ⟨15, [231], true⟩] rfl (by kernel_rfl) ?_
    refine Zf rfl (aa aX Sr rfl) (Zf rfl (ab dQ Sr) ?_)
    refine Zf rfl (ad (i := 0) underlying42 eO Sr Sr rfl (gb (show 0 < p.Kids.length by omega))) ?_
    refine Zf rfl (aa aX DQ rfl) (Zf rfl (bh (B := tSl aS (nth ks 0).Plan.Attrs) (ab bQ Sr) (congrArg (tSl aS) ha0)) (Zf rfl (aa aX Sr rfl) (Zf rfl (ab dQ Sr) ?_)))
    refine Zf rfl (ad (i := 1) underlying42 eO Sr Sr rfl (gb (show 1 < p.Kids.length by omega))) ?_
    refine Zf rfl (aa aX DQ rfl) (Zf rfl (bh (B := tSl aS (nth ks 1).Plan.Attrs) (ab bQ Sr) (congrArg (tSl aS) ha1)) (Zv rfl ?_))
    refine Zf rfl (ad (i := c) underlying44 ct Sr Sr (by rfl) (gb (by exact hlt))) ?_
    refine Zf rfl (aa dH Sr rfl) (Zf rfl (ab ty9 Sr) (Zf rfl (ai (fC (nth ks 0).Plan.Attrs _ zG) ⟨Sr, Sr, trivial⟩ call123) (Zf rfl (aA Sr Sr) (bj ?_))))
    refine au Sr (fun h232 => ?_) (fun h232 => ?_)
    ·
     try simp only [NF] at h232
     refine aq (Zm (Zm ?_))
     refine Zs (bh (B := bx cG (gq (nth ks 1))) (ad (i := 1) underlying199 eJ Sr Sr rfl (gb (by rw [List.length_map]; exact hk1))) (by rw [iT hk1])) ?_
     refine Zs (aa ek Sr rfl) (Zl bY Sr (Zm ?_))
     refine Zs (ad (i := c) underlying36 ty3 Sr Sr (by rfl) (gb (by show _ < (nth ks 1).size.distinct.length; omega))) ?_
     refine Zl ty3 Sr ?_
     refine Zs (ax (ys := [_]) underlying36 el3 ⟨rfl, Sr, trivial⟩ rfl (by decide)) ?_
     refine Zx (aL underlying36 el3 Sr Sr zS (by simp only [jDs, List.length_append, List.length_cons, List.length_nil, List.length_map]; omega) (by simp only [jDs, List.length_append, List.length_cons, List.length_nil, List.length_map]; omega)) fun v242 => ?_
     refine Za (ae (aq (Zm (Zs (aB Sr Sr z6) (Za ?_)))))
     refine ae ?_
     refine aE (σ := Nat × Value) (s := (c, vd)) (c + 1, v242) zO (by show c + 1 <= _; omega) (zU) (.c zS (SPs.of (by rw [A9 h232]; rfl)) (zL))
    try simp only [NF] at h232
    refine ay (aq (Zm (Zs (aB Sr Sr z6) (Za (ae ?_)))))
    refine aE (σ := Nat × Value) (s := (c, vd)) (c + 1, vd) zO (by show c + 1 <= _; omega) (zU) (.c zS (SPs.of (by rw [Ba zG])) (zL))
   try simp only [NF] at h214
   obtain rfl : c = (nth ks 1).Plan.Attrs.length := by omega
   refine aY ?_
   refine bF (t := 9) (A' := tSl bg (jDs (nth ks 0) (nth ks 1) (nth ks 1).Plan.Attrs.length)) zS (DO (rfl)) ?_
   refine iM (E := fun _ => cg) ⟨jDs (nth ks 0) (nth ks 1) (nth ks 1).Plan.Attrs.length, by rw [AG hk]; exact jo _ _⟩ (.u (SubE.upd (Sub.int (by rw [vF hk])) (zU))) (LSub.rfl)
  try simp only [NF] at h146
  have hn4 : ¬ p.Kind = 4 := h146
  refine Jr (Zs (aC Sr Sr) (Za (ae ?_)))
  refine au Sr (fun h243 => ?_) (fun h243 => ?_)
  ·
   try simp only [NF] at h243
   have hk : p.Kind = 5 := h243
   have hk1 := q9 (.inr hk)
   have hkb := xT hm (.inr hk)
   have hkbn := hkb.n
   have hkba := hkb.a
   have hkbr := hkb.r
   unfold fm at hkbr
   have ha1 : (nth p.Kids 1).Attrs = (nth ks 1).Plan.Attrs := (hat 1 zG).symm
   have hq10 := q10 hk
   have hpl : p.Attrs.length = (nth ks 0).size.distinct.length := by rw [<- hdn, zR hk]; simp [uDs]
   refine ar ?_
   refine bl [⟨0, [5], true⟩, ⟨1, [245], true⟩, ⟨2, [246], true⟩, ⟨3, [247], true⟩, ⟨4, [5], true⟩, ⟨5, [249], true⟩, ⟨6, [250], true⟩, ⟨7, [251], true⟩, ⟨8, [248, 252], true⟩, ⟨9, [253], true⟩, ⟨10, [254], true⟩] rfl (by kernel_rfl) ?_
   refine Zv rfl ?_
   refine Zf rfl (bh (B := bx cG (gq (nth ks 0))) (ad (i := 0) underlying199 eJ Sr Sr rfl (gb zM9)) (by rw [iT hk0])) ?_
   refine Zf rfl (aa ek Sr rfl) (Zf rfl (ab ty3 Sr) (Zv rfl ?_))
   refine Zf rfl (bh (B := bx cG (gq (nth ks 1))) (ad (i := 1) underlying199 eJ Sr Sr rfl (gb (by rw [List.length_map]; exact hk1))) (by rw [iT hk1])) ?_
   refine Zf rfl (aa ek Sr rfl) (Zf rfl (ab ty3 Sr) ?_)
   refine Zf rfl (aB Sr Sr (by show fe ((nth ks 0).size.rows + (nth ks 1).size.rows); unfold fe; omega)) ?_
   refine Zf rfl (dh Sr Sr) (Zf rfl (aW Sr) (bj (Jr (Za (ae ?_)))))
   refine av ?_
   refine aO (σ := Nat × Value) (fun ⟨c, vd⟩ => c <= p.Attrs.length) (fun ⟨c, vd⟩ => upd (upd (upd (upd (upd (upd (upd cg 2 (bx bO p)) 4 (tAt b4 0)) 5 (tSl cG (ks.map gq))) 6 (tV (.int .i64 (bR ks)))) 8 (tV (.int .i64 (min 1000000000 ((nth ks 0).size.rows + (nth ks 1).size.rows))))) 9 (rV.ty vd)) 15 (tV (.int .i64 c))) (fun ⟨c, vd⟩ => [own 3 bg vd ((uDs (nth ks 0).size.distinct (nth ks 1).size.distinct c).map fun d => min 1000000000 d), box b4 156 cG kG]) (fun ⟨c, vd⟩ => p.Attrs.length - c) (0, .slice none 0 0) (by exact Nat.zero_le _) (.u (SubE.upd (DG rfl) (zU))) (LSub.trans (DB (e := 3) (R := bg)) (LSub.of (by rfl))) ?_
   rintro ⟨c, vd⟩ hc
   try dsimp only at hc
   refine ar (Jr (Zm (Zs (aa aX Sr rfl) (Zl bQ Sr (Zs (ah underlying44 Sr) ?_)))))
   refine Zs (aA Sr Sr) (ae ?_)
   refine au Sr (fun h259 => ?_) (fun h259 => ?_)
   ·
    try simp only [NF] at h259
    have hlt : c < (nth ks 0).size.distinct.length := by omega
    refine ay (ar (av ?_))
    refine bl [⟨0, [9], true⟩, ⟨1, [5], true⟩, ⟨2, [263], true⟩, ⟨3, [264], true⟩, ⟨4, [265], true⟩, ⟨5, [15], true⟩, ⟨6, [266, 267], true⟩, ⟨7, [268], true⟩, ⟨8, [5], true⟩, ⟨9, [270], true⟩, ⟨10, [271], true⟩, ⟨11, [272], true⟩, ⟨12, [15], true⟩, ⟨13, [273, 274], true⟩, ⟨14, [275], true⟩, ⟨15, [269, 276], true⟩, ⟨16, [277], true⟩, ⟨17, [278], true⟩, ⟨18, [262, 279], false⟩, ⟨19, [280], true⟩] rfl (by kernel_rfl) ?_
    refine Zv rfl (Zv rfl ?_)
    refine Zf rfl (bh (B := bx cG (gq (nth ks 0))) (ad (i := 0) underlying199 eJ Sr Sr rfl (gb zM9)) (by rw [iT hk0])) ?_
    refine Zf rfl (aa ek Sr rfl) (Zf rfl (ab bY Sr) (Zv rfl ?_))
    refine Zf rfl (ad (i := c) underlying36 ty3 Sr Sr (by rfl) (gb (by show _ < (nth ks 0).size.distinct.length; omega))) ?_
    refine Zf rfl (ab ty3 Sr) (Zv rfl ?_)
    refine Zf rfl (bh (B := bx cG (gq (nth ks 1))) (ad (i := 1) underlying199 eJ Sr Sr rfl (gb (by rw [List.length_map]; exact hk1))) (by rw [iT hk1])) ?_
    refine Zf rfl (aa ek Sr rfl) (Zf rfl (ab bY Sr) (Zv rfl ?_))
    refine Zf rfl (ad (i := c) underlying36 ty3 Sr Sr (by rfl) (gb (by show _ < (nth ks 1).size.distinct.length; omega))) ?_
    refine Zf rfl (ab ty3 Sr) ?_
    refine Zf rfl (aB Sr Sr (by have h1 := hka.d.nth c; have h2 := hkb.d.nth c; unfold fm at h1 h2; show fe (nth (nth ks 0).size.distinct c + nth (nth ks 1).size.distinct c); unfold fe; omega)) ?_
    refine Zf rfl (dh Sr Sr) ?_
    refine Zf rfl (ax (ys := [_]) underlying36 el3 ⟨rfl, Sr, trivial⟩ rfl (by decide)) ?_
    refine cB rfl rfl rfl rfl (aL underlying36 el3 Sr Sr zS (by simp only [uDs, List.length_append, List.length_cons, List.length_nil, List.length_map, List.length_range]; omega) (by simp only [uDs, List.length_append, List.length_cons, List.length_nil, List.length_map, List.length_range]; omega)) fun v280 => ?_
    refine Zf rfl (aW Sr) (bj (aq (Zm (Zs (aB Sr Sr z6) (Za ?_)))))
    refine ae ?_
    refine aE (σ := Nat × Value) (s := (c, vd)) (c + 1, v280) zO (by show c + 1 <= _; omega) (zU) (.c zS (SPs.of (by rw [sE, List.map_append]; try rfl)) (zL))
   try simp only [NF] at h259
   obtain rfl : c = p.Attrs.length := by omega
   refine aY ?_
   refine bF (t := 9) (A' := tSl bg ((uDs (nth ks 0).size.distinct (nth ks 1).size.distinct (nth ks 0).size.distinct.length).map fun d => min 1000000000 d)) zS (DO (by rw [hpl])) ?_
   refine iM (E := fun _ => cg) ⟨((uDs (nth ks 0).size.distinct (nth ks 1).size.distinct (nth ks 0).size.distinct.length).map fun d => min 1000000000 d), by rw [zR hk]; exact Ar hrb.2 _⟩ (.u (SubE.upd (Sub.int (by rw [vG hk])) (zU))) (LSub.rfl)
  try simp only [NF] at h243
  have hn5 : ¬ p.Kind = 5 := h243
  refine Jr (Zm ?_)
  refine Zs (bh (B := bx cG (gq (nth ks 0))) (ad (i := 0) underlying199 eJ Sr Sr rfl (gb zM9)) (by rw [iT hk0])) ?_
  refine Zs (aa ek Sr rfl) (Zl ty3 Sr (Za (ae (aq (Zm ?_)))))
  refine Zs (bh (B := bx cG (gq (nth ks 0))) (ad (i := 0) underlying199 eJ Sr Sr rfl (gb zM9)) (by rw [iT hk0])) ?_
  refine Zs (aa ek Sr rfl) (Zl bY Sr (Za (ae ?_)))
  refine iM (E := fun _ => cg) ⟨(nth ks 0).size.distinct, by rw [yS hn1 hn2 hn3 hn4 hn5 hn8]; exact jo _ _⟩ (.u (SubE.upd (Sub.int (by rw [vH hn1 hn2 hn3 hn4 hn5 hn8]; rfl)) (zU))) (LSub.rfl)
 rintro z
 have hzl := z.2.1
 refine Jr (Zm (Zm (Zm ?_)))
 refine Zs (aB Sr Sr (by show fe ((bR ks) + (cL x p ks)); unfold fe; omega)) ?_
 refine Zs (dh Sr Sr) (Zs (aU (x := (⟨(cL x p ks), .slice none 0 0, min 1000000000 ((bR ks) + (cL x p ks))⟩ : GSizeW)) (zs := [[Value.int .i64 0], [Value.slice none 0 0], [Value.int .i64 0]]) wP (fun w => zeroValue156 w) ⟨Sr, Sr, trivial⟩ ⟨⟨Sr, rfl⟩, fun _ => ⟨rfl, rfl⟩, ⟨Sr, rfl⟩, trivial⟩) ?_)
 refine Zx (aD (fun w => zeroValue156 w) By) fun b16 => ?_
 refine Ju (aj ze Sr Sr zS) fun _ => ?_
 refine ae (ar (Jr (Za (ae (av ?_)))))
 refine aO (σ := Nat × Value) (fun ⟨c, vd⟩ => c <= z.1.length) (fun ⟨c, vd⟩ => upd (upd (upd (upd (upd cg 4 (tAt b4 0)) 8 (tV (.int .i64 (cL x p ks)))) 9 (tSl bg z.1)) 16 (tAt b16 0)) 17 (tV (.int .i64 c))) (fun ⟨c, vd⟩ => [box b16 156 sY ⟨(cL x p ks), vd, min 1000000000 ((bR ks) + (cL x p ks))⟩, own 3 bg vd ((z.1.take c).map fun d => min (cL x p ks) d), box b4 156 cG kG]) (fun ⟨c, vd⟩ => z.1.length - c) (0, .slice none 0 0) (by exact Nat.zero_le _) (zU) (LSub.trans (DB (e := 3) (R := bg)) (.r zS (.c zS (SPs.of (by rfl)) (zL)))) ?_
 rintro ⟨c, vd⟩ hc
 try dsimp only at hc
 refine ar (Jr (Zm (Zm (Zs (ah underlying36 Sr) (Zs (aA Sr Sr) ?_)))))
 refine ae ?_
 refine au Sr (fun h290 => ?_) (fun h290 => ?_)
 ·
  try simp only [NF] at h290
  have hlt : c < z.1.length := by omega
  refine ay (ar (av ?_))
  refine bl [⟨0, [16], true⟩, ⟨2, [8], true⟩, ⟨3, [9], true⟩, ⟨4, [17], true⟩, ⟨5, [296, 297], true⟩, ⟨6, [298], true⟩, ⟨7, [295, 299], true⟩, ⟨8, [300], true⟩, ⟨1, [293], false⟩, ⟨9, [294, 301], false⟩, ⟨10, [16], true⟩, ⟨11, [302, 303], false⟩] rfl (by kernel_rfl) ?_
  refine Zf rfl (aP wP Sr rfl) (Zv rfl (Zv rfl (Zv rfl ?_)))
  refine Zf rfl (ad (i := c) underlying36 ty3 Sr Sr (by rfl) (gb (by exact hlt))) ?_
  refine Zf rfl (ab ty3 Sr) (Zf rfl (dh Sr Sr) ?_)
  refine Zf rfl (ax (ys := [_]) underlying36 el3 ⟨rfl, Sr, trivial⟩ rfl (by decide)) ?_
  refine ff rfl rfl rfl rfl (aQ oU Sr rfl zS) ?_
  refine cB rfl rfl rfl rfl (aL underlying36 el3 Sr Sr zS zB9 zB9) fun v302 => ?_
  refine Zf rfl (aP wP Sr rfl) ?_
  refine cV rfl rfl rfl (aI (R := rV) (y' := (⟨(cL x p ks), v302, min 1000000000 ((bR ks) + (cL x p ks))⟩ : GSizeW)) oU Sr Sr zS (by exact ⟨rfl, ⟨fun _ _ q => q, rfl, by intro g hg; simp only [List.mem_cons, List.not_mem_nil, or_false] at hg; subst hg; rfl⟩⟩)) fun _ => ?_
  refine bj (aq (Zm (Zs (aB Sr Sr z6) (Za (ae ?_)))))
  refine aE (σ := Nat × Value) (s := (c, vd)) (c + 1, v302) zO (by show c + 1 <= _; omega) (zU) (.r zS (.c zS (SPs.of (by rw [dM hlt, List.map_append]; rfl)) (zL)))
 try simp only [NF] at h290
 obtain rfl : c = z.1.length := by omega
 refine aY (ar ?_)
 refine bF (t := 16) (A' := bx cG ⟨(cL x p ks), ((z.1.take z.1.length).map fun d => min (cL x p ks) d), min 1000000000 ((bR ks) + (cL x p ks))⟩) (Sel.take (Sel.take (Dz _))) Frz.size ?_
 refine aq (Zl eJ Sr ?_)
 refine Ju (aj eJ Sr Sr zS) fun _ => ?_
 refine ae (aF ?_)
 refine aZ (rv := .cell 4 156) rfl () (Sel.all _) (.cell (R := cG) eJ Sr zS Sr) (Frz.sub (DE ?_))
 rw [List.take_length, z.2.2, hwe]; rfl
theorem lf (x : Gplanner) : ∀ n, CJ x n
  | 0 => fun _ h => h.elim
  | n + 1 => fun p hd he hn => oV x n (lf x n) p hd he hn
def jb (cols : List Int) (c : Int) : Int := nth cols c.toNat
def zf (cols : List Int) (s : GSide) : Prop := s.Var = 0 -> 0 <= s.Col /\ s.Col < cols.length
theorem qH {cols : List Int} {t : GTest} (h : mb cols.length t) : zf cols t.Left /\ zf cols t.Right := ⟨fun e => h t.Left (by simp) e, fun e => h t.Right (by simp) e⟩
structure GPlO where
  Kind : Int
  Table : Int
  Kids : List aG
  Tests : List GTest
  Cols : List Int
  Col : Int
  Agg : Int
  at' : SO GAttr
def fk : List (SF GPlO) := [⟨Int, 3, bg, GPlO.Kind⟩, ⟨Int, 3, bg, GPlO.Table⟩, ⟨List aG, 42, rSl dZ, GPlO.Kids⟩, ⟨List GTest, 43, rSl be, GPlO.Tests⟩, ⟨List Int, 36, rSl bg, GPlO.Cols⟩, ⟨Int, 3, bg, GPlO.Col⟩, ⟨Int, 3, bg, GPlO.Agg⟩, ⟨SO GAttr, 44, rSO aS, GPlO.at'⟩]
abbrev kH : Rp GPlO := bG fk
theorem At : TyOf prog 44 (rSO aS) := ⟨fun w => isAgg44 w, fun w => sizeOf44 w⟩
theorem ni : TyOf prog 46 kH := ⟨fun w => isAgg46 w, fun w => sizeOf46 w⟩
theorem BA : StructOf prog 46 fk := ⟨⟨_, underlying46, ⟨rfl, rfl, ty3, by decide, ⟨rfl, rfl, ty3, by decide, ⟨rfl, rfl, dQ, (by show (1 : Nat) ≠ 0; decide), ⟨rfl, rfl, iN, by decide, ⟨rfl, rfl, bY, by decide, ⟨rfl, rfl, ty3, by decide, ⟨rfl, rfl, ty3, by decide, ⟨rfl, rfl, At, by decide, trivial⟩⟩⟩⟩⟩⟩⟩⟩⟩, ni⟩
def AM : GPlO := ⟨0, 0, [], [], [], 0, 0, .imm []⟩
theorem Au : ∀ h, (kH.ty AM).p h (.agg #[Value.int .i64 0, Value.int .i64 0, Value.slice none 0 0, Value.slice none 0 0, Value.slice none 0 0, Value.int .i64 0, Value.int .i64 0, Value.slice none 0 0]) := fun h => ⟨_, ⟨[_], _, rfl, rfl, [_], _, rfl, rfl, [_], _, rfl, ⟨_, rfl, none, ⟨0, Nat.le_refl _⟩, rfl, fun q => absurd rfl q⟩, [_], _, rfl, ⟨_, rfl, none, ⟨0, Nat.le_refl _⟩, rfl, fun q => absurd rfl q⟩, [_], _, rfl, ⟨_, rfl, none, ⟨0, Nat.le_refl _⟩, rfl, fun q => absurd rfl q⟩, [_], _, rfl, rfl, [_], _, rfl, rfl, [_], _, rfl, ⟨_, rfl, none, ⟨0, Nat.le_refl _⟩, rfl, fun q => absurd rfl q⟩, rfl⟩, rfl⟩
theorem sa {h : PH} {x : GPlO} {at' : List GAttr} {cs : List Value} (r : kH.rel h x cs) (ha : ∀ v, (SO.ty aS x.at').p h v -> (tSl aS at').p h v) : bO.rel h (GPl.mk x.Kind x.Table x.Kids x.Tests x.Cols x.Col x.Agg at') cs := by
  obtain ⟨c0, _, rfl, q0, c1, _, rfl, q1, c2, _, rfl, q2, c3, _, rfl, q3, c4, _, rfl, q4, c5, _, rfl, q5, c6, _, rfl, q6, c7, _, rfl, ⟨v, e, q7⟩, rfl⟩ := r
  exact ⟨_, _, rfl, q0, _, _, rfl, q1, _, _, rfl, q2, _, _, rfl, q3, _, _, rfl, q4, _, _, rfl, q5, _, _, rfl, q6, _, _, rfl, ⟨v, e, ha v q7⟩, rfl⟩
theorem Sub.plO {x : GPlO} {at' : List GAttr} (h : x.at' = .imm at') : Sub (kH.ty x) (bO.ty (GPl.mk x.Kind x.Table x.Kids x.Tests x.Cols x.Col x.Agg at')) := fun hh v ⟨cs, r, e⟩ => ⟨cs, sa r (fun u hu => by rw [h] at hu; exact hu), e⟩
theorem ka (t : GTest) (cols : List Int) (ht : mb cols.length t) : Fun1 prog 233 [be.ty t, tSl bg cols] (be.ty (fi (jb cols) t)) := by
 refine Spec.enter func233 rfl rfl fun h0 w0 fr0 => ?_
 obtain ⟨htl, htr⟩ := qH ht
 refine Jr ?_
 refine Zx (cw (R := be) Sr) fun b2 => ?_
 refine Zx (aD (fun w => zeroValue93 w) zx) fun b4 => ?_
 refine ae (ar (Jr (Zs (ap (o := 0) (o' := 0) gd Sr rfl rfl) (Zs (ap (o := 0) (o' := 0) fQ Sr rfl rfl) ?_))))
 refine Zs (di ty3 Sr zS rfl) ?_
 refine Zs (aC Sr Sr) (ae ?_)
 refine au Sr (fun h8 => ?_) (fun h8 => ?_)
 ·
  try simp only [NF] at h8
  have h8 : t.Left.Var = 0 := h8
  refine aq (Zm (Zs (ap (o := 0) (o' := 0) gd Sr rfl rfl) (Zs (ap (o := 0) (o' := 1) fQ Sr rfl rfl) ?_)))
  refine Zs (di ty3 Sr zS rfl) ?_
  refine Zs (ad (i := t.Left.Col.toNat) underlying36 ty3 Sr Sr (by show t.Left.Col = _; have := htl h8; omega) (gb (by have := htl h8; omega))) ?_
  refine Zl ty3 Sr (Zs (ap (o := 0) (o' := 0) gd Sr rfl rfl) (Zs (ap (o := 0) (o' := 1) fQ Sr rfl rfl) ?_))
  refine Ju (fx (t' := { t with Left := fw (jb cols) t.Left }) ty3 Sr Sr zS zG (by simp [cn, fw, h8, jb])) fun _ => ?_
  refine ae (ar (Jr (Zs (ap (o := 0) (o' := 6) gd Sr rfl rfl) (Zs (ap (o := 6) (o' := 6) fQ Sr rfl rfl) ?_))))
  refine Zs (di ty3 Sr zS rfl) ?_
  refine Zs (aC Sr Sr) (ae ?_)
  refine au Sr (fun h20 => ?_) (fun h20 => ?_)
  ·
   try simp only [NF] at h20
   have h20 : t.Right.Var = 0 := h20
   refine aq (Zm (Zs (ap (o := 0) (o' := 6) gd Sr rfl rfl) (Zs (ap (o := 6) (o' := 7) fQ Sr rfl rfl) ?_)))
   refine Zs (di ty3 Sr zS rfl) ?_
   refine Zs (ad (i := t.Right.Col.toNat) underlying36 ty3 Sr Sr (by show t.Right.Col = _; have := htr h20; omega) (gb (by have := htr h20; omega))) ?_
   refine Zl ty3 Sr (Zs (ap (o := 0) (o' := 6) gd Sr rfl rfl) (Zs (ap (o := 6) (o' := 7) fQ Sr rfl rfl) ?_))
   refine Ju (fx (t' := fi (jb cols) t) ty3 Sr Sr zS zG (by simp [cn, fi, fw, h20, h8, jb])) fun _ => ?_
   refine ae (Jr ?_)
   refine Zs (aN fd Sr zS) ?_
   refine Ju (aj fd Sr Sr zS) fun _ => ?_
   refine ae (aF ?_)
   refine aZ (rv := .cell 4 93) rfl () (Sel.all _) (.cell (R := be) fd Sr zS Sr) (Frz.sub (DE (by simp [fi, fw, h8, h20])))
  try simp only [NF] at h20
  have h20 : ¬ t.Right.Var = 0 := h20
  refine ay (Jr ?_)
  refine Zs (aN fd Sr zS) ?_
  refine Ju (aj fd Sr Sr zS) fun _ => ?_
  refine ae (aF ?_)
  refine aZ (rv := .cell 4 93) rfl () (Sel.all _) (.cell (R := be) fd Sr zS Sr) (Frz.sub (DE (by simp [fi, fw, h8, h20])))
 try simp only [NF] at h8
 have h8 : ¬ t.Left.Var = 0 := h8
 refine ay (ar (Jr (Zs (ap (o := 0) (o' := 6) gd Sr rfl rfl) (Zs (ap (o := 6) (o' := 6) fQ Sr rfl rfl) ?_))))
 refine Zs (di ty3 Sr zS rfl) ?_
 refine Zs (aC Sr Sr) (ae ?_)
 refine au Sr (fun h20 => ?_) (fun h20 => ?_)
 ·
  try simp only [NF] at h20
  have h20 : t.Right.Var = 0 := h20
  refine aq (Zm (Zs (ap (o := 0) (o' := 6) gd Sr rfl rfl) (Zs (ap (o := 6) (o' := 7) fQ Sr rfl rfl) ?_)))
  refine Zs (di ty3 Sr zS rfl) ?_
  refine Zs (ad (i := t.Right.Col.toNat) underlying36 ty3 Sr Sr (by show t.Right.Col = _; have := htr h20; omega) (gb (by have := htr h20; omega))) ?_
  refine Zl ty3 Sr (Zs (ap (o := 0) (o' := 6) gd Sr rfl rfl) (Zs (ap (o := 6) (o' := 7) fQ Sr rfl rfl) ?_))
  refine Ju (fx (t' := fi (jb cols) t) ty3 Sr Sr zS zG (by simp [cn, fi, fw, h20, h8, jb])) fun _ => ?_
  refine ae (Jr ?_)
  refine Zs (aN fd Sr zS) ?_
  refine Ju (aj fd Sr Sr zS) fun _ => ?_
  refine ae (aF ?_)
  refine aZ (rv := .cell 4 93) rfl () (Sel.all _) (.cell (R := be) fd Sr zS Sr) (Frz.sub (DE (by simp [fi, fw, h8, h20])))
 try simp only [NF] at h20
 have h20 : ¬ t.Right.Var = 0 := h20
 refine ay (Jr ?_)
 refine Zs (aN fd Sr zS) ?_
 refine Ju (aj fd Sr Sr zS) fun _ => ?_
 refine ae (aF ?_)
 refine aZ (rv := .cell 4 93) rfl () (Sel.all _) (.cell (R := be) fd Sr zS Sr) (Frz.sub (DE (by simp [fi, fw, h8, h20])))
theorem ui (t : GTest) (cols : List Int) (ht : mb cols.length t) : Fun1 prog 234 [be.ty t, tSl bg cols] (tV (.bool (okT (jb cols) t))) := by
 refine Spec.enter func234 rfl rfl fun h0 w0 fr0 => ?_
 obtain ⟨htl, htr⟩ := qH ht
 refine Jr (Zs (aJ (R := be) Sr) (Za (ae (Jr (Zs (aa gd Sr rfl) ?_)))))
 refine Zs (aa fQ Sr rfl) (Zl ty3 Sr (Zs (bb Sr Sr) (Zm ?_)))
 refine Zk (al Sr) ?_
 refine Zk (aa gd Sr rfl) ?_
 refine Zg (fun hw => aa fQ (Sub.w hw) rfl) (Zg (fun hw => ab ty3 (Sub.w hw)) ?_)
 refine Zg (fun hw => ad (i := t.Left.Col.toNat) underlying36 ty3 (Sub.w hw) (Sub.w hw) (by have hwq := hw; (try simp only [beqB_t, beqB_f, NF] at hwq); show t.Left.Col = _; have hq : t.Left.Var = 0 := (by simpa using hwq); have := htl hq; omega) (gb (by have hwq := hw; (try simp only [beqB_t, beqB_f, NF] at hwq); have hq : t.Left.Var = 0 := (by simpa using hwq); have := htl hq; omega))) ?_
 refine Zg (fun hw => ab ty3 (Sub.w hw)) (Zg (fun hw => bE (Sub.w hw) Sr) (Zs (az Sr Sr) (Zm ?_)))
 refine Zk (aa gd Sr rfl) ?_
 refine Zg (fun hw => aa fQ (Sub.w hw) rfl) (Zg (fun hw => ab ty3 (Sub.w hw)) (Zg (fun hw => bb (Sub.w hw) Sr) (Zg (fun hw => al (Sub.w hw)) ?_)))
 refine Ji rfl Sr rfl (al Sr) ?_
 refine Ji rfl Sr rfl (aa gd Sr rfl) ?_
 refine Jh rfl Sr rfl (fun hw => aa fQ (Sub.w hw) rfl) (Jh rfl Sr rfl (fun hw => ab ty3 (Sub.w hw)) ?_)
 refine Jh rfl Sr rfl (fun hw => ad (i := t.Right.Col.toNat) underlying36 ty3 (Sub.w hw) (Sub.w hw) (by have hwq := hw; (try simp only [beqB_t, beqB_f, NF] at hwq); show t.Right.Col = _; have hq : t.Right.Var = 0 := (by simpa using hwq.2); have := htr hq; omega) (gb (by have hwq := hw; (try simp only [beqB_t, beqB_f, NF] at hwq); have hq : t.Right.Var = 0 := (by simpa using hwq.2); have := htr hq; omega))) ?_
 refine Jh rfl Sr rfl (fun hw => ab ty3 (Sub.w hw)) (Jh rfl Sr rfl (fun hw => bE (Sub.w hw) Sr) (Zg (fun hw => az (Sub.w hw) (D9 hw)) (Zs (aw Sr Sr) (Za (ae ?_)))))
 refine aF ?_
 refine aK (t := 4) rfl () (Sub.bool ?_)
 unfold okT okS jb
 rfl
theorem mN (l : List GTest) (cols : List Int) (ht : TIn cols.length l) (hl : l.length <= 1000000) : Fun1 prog 163 [tSl be l, tSl bg cols] (fA [tSl be (cu (jb cols) l), tSl be (cr (jb cols) l)]) := by
 refine Spec.enter func163 rfl rfl fun h0 w0 fr0 => ?_
 refine Jr (Za (Za (ae (Jr (Za ?_)))))
 refine ae (Jr (Za (ae (ar (Jr ?_)))))
 refine Za (ae (av ?_))
 refine aO (σ := Nat × Value × Value) (fun ⟨i, va, vb⟩ => i <= l.length) (fun ⟨i, va, vb⟩ => upd (upd (upd (upd (upd (upd (upd cg 0 (tSl be l)) 1 (tSl bg cols)) 4 (tV (.slice none 0 0))) 5 (tV (.slice none 0 0))) 6 (rV.ty va)) 7 (rV.ty vb)) 8 (tV (.int .i64 i))) (fun ⟨i, va, vb⟩ => [own 93 be va (cu (jb cols) (l.take i)), own 93 be vb (cr (jb cols) (l.take i))]) (fun ⟨i, va, vb⟩ => l.length - i) (0, .slice none 0 0, .slice none 0 0) (by exact Nat.zero_le _) (.u (SubE.upd (DG rfl) (SubE.upd (DG rfl) (zU)))) (LSub.trans (DB (e := 93) (R := be)) (DB (e := 93) (R := be))) ?_
 rintro ⟨i, va, vb⟩ hi
 try dsimp only at hi
 refine ar (Jr (Zm (Zm (Zs (ah underlying43 Sr) (Zs (aA Sr Sr) ?_)))))
 refine ae ?_
 refine au Sr (fun h12 => ?_) (fun h12 => ?_)
 ·
  try simp only [NF] at h12
  have hlt : i < l.length := by omega
  refine ay (ar (av (Jr (Zm (Zm ?_)))))
  refine Zs (ad (i := i) underlying43 fd Sr Sr (by rfl) (gb (by exact hlt))) ?_
  refine Zl fd Sr (Zm (Zs (ai (ui (nth l i) cols (ht _ (aH hlt))) ⟨Sr, Sr, trivial⟩ call234) (ae ?_)))
  refine au Sr (fun h20 => ?_) (fun h20 => ?_)
  ·
   try simp only [NF] at h20
   have hdi := vW hlt (by simpa using h20)
   refine aq (Zm (Zm (Zm ?_)))
   refine Zs (ad (i := i) underlying43 fd Sr Sr (by rfl) (gb (by exact hlt))) ?_
   refine Zl fd Sr (Zm (Zs (ai (ka (nth l i) cols (ht _ (aH hlt))) ⟨Sr, Sr, trivial⟩ call233) ?_))
   refine Zs (ax (ys := [_]) underlying43 pr ⟨rfl, Sr, trivial⟩ rfl (by decide)) ?_
   refine Zx (aL underlying43 pr Sr Sr zS (by have := d7 (jb cols) (l.take i); simp only [List.length_append, List.length_cons, List.length_nil, List.length_take] at this ⊢; omega) (by have := d7 (jb cols) (l.take i); simp only [List.length_append, List.length_cons, List.length_nil, List.length_take] at this ⊢; omega)) fun v29 => ?_
   refine Za (ae (aq (Zm (Zs (aB Sr Sr z6) (Za ?_)))))
   refine ae ?_
   refine aE (σ := Nat × Value × Value) (s := (i, va, vb)) (i + 1, v29, vb) zO (by show i + 1 <= _; omega) (zU) (.c zS (SPs.of (A := own 93 be v29 (cu (jb cols) (l.take i) ++ [fi (jb cols) (nth l i)])) (by rw [hdi.1])) (.c zS (SPs.of (A := own 93 be vb (cr (jb cols) (l.take i))) (by rw [hdi.2])) (LSub.nil)))
  try simp only [NF] at h20
  have hdi := vX hlt (by simpa using h20)
  refine aq (Zm (Zm (Zm ?_)))
  refine Zs (ad (i := i) underlying43 fd Sr Sr (by rfl) (gb (by exact hlt))) ?_
  refine Zl fd Sr ?_
  refine Zs (ax (ys := [_]) underlying43 pr ⟨rfl, Sr, trivial⟩ rfl (by decide)) ?_
  refine Zx (aL underlying43 pr Sr Sr zS (by have := d7 (jb cols) (l.take i); simp only [List.length_append, List.length_cons, List.length_nil, List.length_take] at this ⊢; omega) (by have := d7 (jb cols) (l.take i); simp only [List.length_append, List.length_cons, List.length_nil, List.length_take] at this ⊢; omega)) fun v36 => ?_
  refine Za (ae (aq (Zm (Zs (aB Sr Sr z6) (Za ?_)))))
  refine ae ?_
  refine aE (σ := Nat × Value × Value) (s := (i, va, vb)) (i + 1, va, v36) zO (by show i + 1 <= _; omega) (zU) (.c zS (SPs.of (A := own 93 be va (cu (jb cols) (l.take i))) (by rw [hdi.1])) (.c zS (SPs.of (A := own 93 be v36 (cr (jb cols) (l.take i) ++ [nth l i])) (by rw [hdi.2])) (LSub.nil)))
 try simp only [NF] at h12
 obtain rfl : i = l.length := by omega
 refine aY (Jr (Zm (Zm (Za (Za ?_)))))
 refine ae (aF ?_)
 refine bJ (rv := .tmp 4) (rv' := .tmp 5) rfl () (Sel.all _) (.tmp Sr) (.tmp Sr) (B := tSl be (cu (jb cols) l)) (B' := tSl be (cr (jb cols) l)) (DO (by rw [List.take_length])) (Frz.skip (DO (by rw [List.take_length]))) Sr
theorem wR (l : List GTest) (cols : List Int) (ht : TIn cols.length l) (hl : l.length <= 1000000) : Fun1 prog 161 [tSl be l, tSl bg cols] (tSl be (l.map (fi (jb cols)))) := by
 refine Spec.enter func161 rfl rfl fun h0 w0 fr0 => ?_
 refine Jr (Za (ae (Jr (Za (ae ?_)))))
 refine ar (Jr (Za (ae (av ?_))))
 refine aO (σ := Nat × Value) (fun ⟨i, vo⟩ => i <= l.length) (fun ⟨i, vo⟩ => upd (upd (upd (upd (upd cg 0 (tSl be l)) 1 (tSl bg cols)) 4 (tV (.slice none 0 0))) 5 (rV.ty vo)) 6 (tV (.int .i64 i))) (fun ⟨i, vo⟩ => [own 93 be vo ((l.take i).map (fi (jb cols)))]) (fun ⟨i, vo⟩ => l.length - i) (0, .slice none 0 0) (by exact Nat.zero_le _) (.u (SubE.upd (DG rfl) (zU))) (DB) ?_
 rintro ⟨i, vo⟩ hi
 try dsimp only at hi
 refine ar (Jr (Zm (Zm (Zs (ah underlying43 Sr) (Zs (aA Sr Sr) ?_)))))
 refine ae ?_
 refine au Sr (fun h10 => ?_) (fun h10 => ?_)
 ·
  try simp only [NF] at h10
  have hlt : i < l.length := by omega
  refine ay (ar (av (aq (Zm (Zm ?_)))))
  refine Zm ?_
  refine Zs (ad (i := i) underlying43 fd Sr Sr (by rfl) (gb (by exact hlt))) ?_
  refine Zl fd Sr (Zm (Zs (ai (ka (nth l i) cols (ht _ (aH hlt))) ⟨Sr, Sr, trivial⟩ call233) ?_))
  refine Zs (ax (ys := [_]) underlying43 pr ⟨rfl, Sr, trivial⟩ rfl (by decide)) ?_
  refine Zx (aL underlying43 pr Sr Sr zS zB9 zB9) fun v21 => ?_
  refine Za (ae (aq (Zm (Zs (aB Sr Sr z6) (Za ?_)))))
  refine ae ?_
  refine aE (σ := Nat × Value) (s := (i, vo)) (i + 1, v21) zO (by show i + 1 <= _; omega) (zU) (.c zS (SPs.of (by rw [dM hlt, List.map_append]; rfl)) (LSub.nil))
 try simp only [NF] at h10
 obtain rfl : i = l.length := by omega
 refine aY (Jr (Zm (Za (ae (aF ?_)))))
 refine aZ (rv := .tmp 4) rfl () (Sel.all _) (.tmp Sr) (DO (by rw [List.take_length]))
def BB (p : aG) (ts : List GTest) : aG := if ts.length = 0 then p else GPl.mk 2 0 [p] ts [] 0 0 p.Attrs
theorem fP (p : aG) (ts : List GTest) : Fun1 prog 159 [bO.ty p, tSl be ts] (bO.ty (BB p ts)) := by
 refine Spec.enter func159 rfl rfl fun h0 w0 fr0 => ?_
 refine Jr (Zs (aJ (R := bO) Sr) ?_)
 refine Zx (aD (fun w => zeroValue46 w) fL) fun b4 => ?_
 refine ae (ar (Jr (Zm (Zs (ah underlying43 Sr) (Zs (aC Sr Sr) ?_)))))
 refine ae ?_
 refine au Sr (fun h7 => ?_) (fun h7 => ?_)
 ·
  try simp only [NF] at h7
  refine Jr (Zl ba Sr ?_)
  refine Ju (aj ba Sr Sr zS) fun _ => ?_
  refine ae (aF ?_)
  refine aZ (rv := .cell 4 46) rfl () (Sel.all _) (.cell (R := bO) ba Sr zS Sr) (Frz.sub (DE (by rw [BB, if_pos zG])))
 try simp only [NF] at h7
 refine ay (Jr (Zl ba Sr ?_))
 refine Zs (ax (ys := [p]) underlying42 jR ⟨rfl, Sr, trivial⟩ rfl (by decide)) ?_
 refine Zm (Zs (aa aX Sr rfl) (Zl bQ Sr (Zs (aU (x := (GPl.mk 2 0 [p] ts [] 0 0 p.Attrs : aG)) (zs := [[Value.int .i64 0], [Value.int .i64 0], [Value.slice none 0 0], [Value.slice none 0 0], [Value.slice none 0 0], [Value.int .i64 0], [Value.int .i64 0], [Value.slice none 0 0]]) aX (fun w => zeroValue46 w) ⟨Sr, DZ, Sr, Sr, trivial⟩ ⟨⟨Sr, rfl⟩, fun _ => rfl, ⟨DZ, rfl⟩, ⟨Sr, rfl⟩, fun _ => ⟨_, rfl, none, ⟨0, Nat.le_refl _⟩, rfl, fun q => absurd rfl q⟩, fun _ => rfl, fun _ => rfl, ⟨Sr, rfl⟩, trivial⟩) ?_)))
 refine Ju (aj ba Sr Sr zS) fun _ => ?_
 refine ae (aF ?_)
 refine aZ (rv := .cell 4 46) rfl () (Sel.all _) (.cell (R := bO) ba Sr zS Sr) (Frz.sub (DE (by rw [BB, if_neg zG])))
theorem lg (l : List GAttr) (cols : List Int) (hc : d9 l.length cols) (hl : cols.length <= 1000000) : Spec (X := Value) prog 162 [tSl aS l, tSl bg cols] ([]) (fun z => rV.ty z) (fun z => [own 89 aS z (bv l cols)]) := by
 refine Spec.enter func162 rfl rfl fun h0 w0 fr0 => ?_
 refine Jr (Za (ae (Jr (Za (ae ?_)))))
 refine ar (Jr (Za (ae (av ?_))))
 refine aO (σ := Nat × Value) (fun ⟨i, vo⟩ => i <= cols.length) (fun ⟨i, vo⟩ => upd (upd (upd (upd (upd cg 0 (tSl aS l)) 1 (tSl bg cols)) 4 (tV (.slice none 0 0))) 5 (rV.ty vo)) 6 (tV (.int .i64 i))) (fun ⟨i, vo⟩ => [own 89 aS vo (bv l (cols.take i))]) (fun ⟨i, vo⟩ => cols.length - i) (0, .slice none 0 0) (by exact Nat.zero_le _) (.u (SubE.upd (DG rfl) (zU))) (DB) ?_
 rintro ⟨i, vo⟩ hi
 try dsimp only at hi
 refine ar (Jr (Zm (Zm (Zs (ah underlying36 Sr) (Zs (aA Sr Sr) ?_)))))
 refine ae ?_
 refine au Sr (fun h10 => ?_) (fun h10 => ?_)
 ·
  try simp only [NF] at h10
  have hlt : i < cols.length := by omega
  have hci := hc _ (aH hlt)
  refine ay (ar (av (aq (Zm (Zm ?_)))))
  refine Zm (Zm ?_)
  refine Zs (ad (i := i) underlying36 ty3 Sr Sr (by rfl) (gb (by exact hlt))) ?_
  refine Zl ty3 Sr ?_
  refine Zs (ad (i := (nth cols i).toNat) underlying44 ct Sr Sr (by show nth cols i = _; omega) (gb (by show _ < l.length; omega))) ?_
  refine Zl ct Sr ?_
  refine Zs (ax (ys := [_]) underlying44 gv ⟨rfl, Sr, trivial⟩ rfl (by decide)) ?_
  refine Zx (aL underlying44 gv Sr Sr zS (by simp only [bv, List.length_append, List.length_cons, List.length_nil, List.length_map, List.length_take]; omega) (by simp only [bv, List.length_append, List.length_cons, List.length_nil, List.length_map, List.length_take]; omega)) fun v22 => ?_
  refine Za (ae (aq (Zm (Zs (aB Sr Sr z6) (Za ?_)))))
  refine ae ?_
  refine aE (σ := Nat × Value) (s := (i, vo)) (i + 1, v22) zO (by show i + 1 <= _; omega) (zU) (.c zS (SPs.of (by unfold bv; rw [dM hlt, List.map_append]; rfl)) (LSub.nil))
 try simp only [NF] at h10
 obtain rfl : i = cols.length := by omega
 refine aY (Jr (Zm (Za (ae (aF ?_)))))
 refine bZ (L' := [own 89 aS vo (bv l cols)]) (.c zS (SPs.of (by rw [List.take_length])) (LSub.nil)) ?_
 refine cW (rv := .tmp 4) rfl vo (.tmp Sr) Sr
def wS (a b : List GAttr) : List Int := a.map fun x => columnL b x.Name
theorem lh (a b : List GAttr) (ha : a.length <= 1000000) (hb : b.length <= 1000000000000) : Fun1 prog 230 [tSl aS a, tSl aS b] (tSl bg (wS a b)) := by
 refine Spec.enter func230 rfl rfl fun h0 w0 fr0 => ?_
 refine Jr (Za (ae (Jr (Za (ae ?_)))))
 refine ar (Jr (Za (ae (av ?_))))
 refine aO (σ := Nat × Value) (fun ⟨i, vo⟩ => i <= a.length) (fun ⟨i, vo⟩ => upd (upd (upd (upd (upd cg 0 (tSl aS a)) 1 (tSl aS b)) 4 (tV (.slice none 0 0))) 5 (rV.ty vo)) 6 (tV (.int .i64 i))) (fun ⟨i, vo⟩ => [own 3 bg vo (wS (a.take i) b)]) (fun ⟨i, vo⟩ => a.length - i) (0, .slice none 0 0) (by exact Nat.zero_le _) (.u (SubE.upd (DG rfl) (zU))) (DB) ?_
 rintro ⟨i, vo⟩ hi
 try dsimp only at hi
 refine ar (Jr (Zm (Zm (Zs (ah underlying44 Sr) (Zs (aA Sr Sr) ?_)))))
 refine ae ?_
 refine au Sr (fun h10 => ?_) (fun h10 => ?_)
 ·
  try simp only [NF] at h10
  have hlt : i < a.length := by omega
  refine ay (ar (av (aq (Zm (Zm ?_)))))
  refine Zm (Zm ?_)
  refine Zs (ad (i := i) underlying44 ct Sr Sr (by rfl) (gb (by exact hlt))) ?_
  refine Zs (aa dH Sr rfl) (Zl ty9 Sr (Zs (ai (fC b _ hb) ⟨Sr, Sr, trivial⟩ call123) ?_))
  refine Zs (ax (ys := [_]) underlying36 el3 ⟨rfl, Sr, trivial⟩ rfl (by decide)) ?_
  refine Zx (aL underlying36 el3 Sr Sr zS (by simp only [wS, List.length_append, List.length_cons, List.length_nil, List.length_map, List.length_take]; omega) (by simp only [wS, List.length_append, List.length_cons, List.length_nil, List.length_map, List.length_take]; omega)) fun v22 => ?_
  refine Za (ae (aq (Zm (Zs (aB Sr Sr z6) (Za ?_)))))
  refine ae ?_
  refine aE (σ := Nat × Value) (s := (i, vo)) (i + 1, v22) zO (by show i + 1 <= _; omega) (zU) (.c zS (SPs.of (by unfold wS; rw [dM hlt, List.map_append]; rfl)) (LSub.nil))
 try simp only [NF] at h10
 obtain rfl : i = a.length := by omega
 refine aY (Jr (Zm (Za (ae (aF ?_)))))
 refine aZ (rv := .tmp 4) rfl () (Sel.all _) (.tmp Sr) (DO (by rw [List.take_length]))
def CK : Ty := ⟨fun _ v => ∃ ao, v = .slice ao 0 0, fun _ h => h⟩
def own0 {α : Type} (e : Nat) (R : Rp α) (v : Value) (xs : List α) : SP where
 p := fun h m => (own e R v xs).p h m \/ (xs = [] /\ m = PH.emp /\ ∃ ao, v = .slice ao 0 0)
 mono := fun l r => r.elim (fun a => .inl ((own e R v xs).mono l a)) .inr
section
variable {C : Cx} {E : Env} {L : List SP} {d : Option Nat} {ty : Nat} {pos : String} {af : Array Edge} {g : Option (Nat × Bool)}
theorem dJ {α : Type} {T e bytes : Nat} {R : Rp α} {z : α} (hu : C.P.underlying T = some (.slice e)) (hE : ElT C.P e R bytes z) :
  bs C ⟨d, .buildSlice T 0 #[], ty, pos, af, g⟩ E L CK :=
 DC (by intro c h; cases h) fun a w h m l sp st fr => by
  obtain ⟨cs, r, hrun⟩ := jc (w := w) (ps := #[]) (ys := ([] : List α)) (len := 0) hu hE trivial rfl (by omega) fr
  refine ⟨(), .slice (some ⟨w.heap.size, 0, none⟩) 0 0, w.alloc (.cells cs.toArray e), h.join (PH.one w.heap.size (.cells cs.toArray e)), m, ?_, HL.imm _ (Dy _ _), sp.allocImm _, (stars L).mono (Dy _ _) st, ⟨_, rfl⟩⟩
  simp only [execOp, Sem.run_bind, hrun, Result.andThen_ok]; rfl
theorem dv {α : Type} {T e bytes : Nat} {R : Rp α} {z : α} {x y : Operand} {ys : List α} (hu : C.P.underlying T = some (.slice e)) (hE : ElT C.P e R bytes z)
  (hx : Sub (opTy E x) CK) (hy : Sub (opTy E y) (tSl R ys)) (hb : ys.length * bytes <= 140737488355328) (hn : ys.length <= 4611686018427387904) :
  Step C ⟨d, .call { callee := .builtin .append, args := #[x, y], argTypes := #[T, T] }, ty, pos, af, g⟩ E L (fun v' : Value => rV.ty v') (fun v' => own0 e R v' ys :: L) :=
 DC (by intro c h; cases h) fun a w h m l sp st fr => by
  obtain ⟨bo, hv⟩ := fr.get hx
  obtain ⟨ao, c, cs, hyv, rs, H⟩ := tSl.cells (fr.get hy)
  obtain ⟨i, zv, hi, hz, hk, hby, hzr⟩ := hE.inf
  have hop : ∀ u w', (Builtin.append_ #[T, T] ty #[.slice bo 0 0, .slice ao ys.length c]).run C.P w = .ok u w' ->
    (execOp a.eval ⟨d, .call { callee := .builtin .append, args := #[x, y], argTypes := #[T, T] }, ty, pos, af, g⟩).run C.P w = .ok (.value u) w' := by
   intro u w' hr
   simp [execOp, resolve, invoke, builtin, hv, hyv, hr]
  have hrl := cY rs
  by_cases hys : ys = []
  · subst hys
    refine ⟨.slice bo 0 0, _, w, h, m, hop _ _ (et w T ty e i hu hi bo ao 0 0 c (by omega)), HL.refl, sp, ⟨PH.emp, m, DP m, (DN m).symm, .inr ⟨rfl, rfl, _, rfl⟩, st⟩, ⟨rfl, rfl⟩⟩
  · obtain ⟨b, off, rfl, HH⟩ := H hys
    have hcell : ∀ j u, cs[j]? = some u -> w.cell? ((⟨b, off, none⟩ : Addr).add j) = some u := fun j u hu' => by rw [cK]; exact HH.cell sp.hw hu'
    have hpos : 0 < ys.length := List.length_pos_iff.2 hys
    have good : ∀ (cap : Nat), ys.length <= cap -> cap <= maxLen ->
      ∃ m', Sep h m' C.r (w.drew.alloc (.cells (cs.toArray ++ Builtin.zeroCells zv.cells (cap - ys.length)) e)) ∧
       (stars (own0 e R (.slice (some ⟨w.heap.size, 0, none⟩) ys.length cap) ys :: L)).p h m' := by
     intro cap hcap hm
     refine ⟨_, sp.drew.allocOwn (w := w.drew) _, _, m, DD (DI sp.mw _), rfl, .inl (.inr ⟨w.heap.size, cap, _, rfl, rfl, hcap, hm, ?_, ?_⟩), st⟩
     · have hzl := R.len (R.cells (hzr h))
       simp only [Array.size_append, List.size_toArray, hrl, size_zeroCells]
       have : zv.cells.size = R.k := by simpa using hzl
       rw [this, <- Nat.add_mul]; congr 1; omega
     · have e1 : (cs.toArray ++ Builtin.zeroCells zv.cells (cap - ys.length)).toList = cs ++ (Builtin.zeroCells zv.cells (cap - ys.length)).toList := by simp
       rw [e1, List.take_append_of_le_length (by simp [hrl]), List.take_of_length_le (by simp [hrl])]
       exact rs
    cases bo with
    | none =>
      have hr := run_append_nil (P := C.P) w T ty e i zv hu hi hz ⟨b, off, none⟩ ys.length c cs (by rw [hk]; exact hrl) hcell hpos (by omega) (by rw [hby]; omega)
      obtain ⟨m', s1, s3⟩ := good (grownCap w ys.length 0 e) (grownCap_ge w _ _ _) (grownCap_le_maxLen w _ _ _ (by unfold maxLen; omega))
      exact ⟨_, _, _, h, m', hop _ _ hr, HL.same (D0 _ _), s1, s3, ⟨rfl, rfl⟩⟩
    | some b0 =>
      have hr := run_append_grow (P := C.P) w T ty e i zv hu hi hz b0 0 0 [] (by simp) (by simp) ⟨b, off, none⟩ ys.length c cs (by rw [hk]; exact hrl) hcell (by omega) (by omega) (by rw [hby]; exact growslice_fits (by omega) (by rw [Nat.zero_add]; exact hb))
      obtain ⟨m', s1, s3⟩ := good (grownCap w (0 + ys.length) 0 e) (by simpa using grownCap_ge w (0 + ys.length) 0 e) (grownCap_le_maxLen w _ _ _ (by unfold maxLen; omega))
      refine ⟨_, _, _, h, m', hop _ _ hr, HL.same (D0 _ _), ?_, ?_, ⟨rfl, rfl⟩⟩
      · simpa using s1
      · simpa using s3
theorem iy {α : Type} {T e bytes : Nat} {R : Rp α} {z : α} {x y : Operand} {v : Value} {xs ys : List α} {S : List SP} (hu : C.P.underlying T = some (.slice e)) (hE : ElT C.P e R bytes z)
  (hx : Sub (opTy E x) (rV.ty v)) (hy : Sub (opTy E y) (tSl R ys)) (sel : Sel L [own0 e R v xs] S) (hb : (xs.length + ys.length) * bytes <= 140737488355328) (hn : xs.length + ys.length <= 4611686018427387904) :
  Step C ⟨d, .call { callee := .builtin .append, args := #[x, y], argTypes := #[T, T] }, ty, pos, af, g⟩ E L (fun v' : Value => rV.ty v') (fun v' => own0 e R v' (xs ++ ys) :: S) :=
 fun a w h m n l sp st fr next Q hk => by
 obtain ⟨m1, m2, d12, rfl, ho, s2⟩ := sel.one.1 st
 rcases ho with ho | ⟨rfl, rfl, ao, rfl⟩
 · refine aL hu hE hx hy (L := own e R v xs :: S) (Sel.take (Dz _)) hb hn a w h _ n l sp ⟨m1, m2, d12, rfl, ho, s2⟩ fr next Q fun u v' w' h' m' l' sp' st' hv => hk u v' w' h' m' l' sp' ?_ hv
   obtain ⟨m3, m4, d34, e, ho', s4⟩ := st'
   exact ⟨m3, m4, d34, e, .inl ho', s4⟩
 · rw [DN] at sp
   refine dv hu hE (L := S) (Sub.trans hx fun _ u hu => ⟨_, hu.1⟩) hy (by simpa using hb) (by simpa using hn) a w h _ n l sp s2 fr next Q fun u v' w' h' m' l' sp' st' hv => hk u v' w' h' m' l' sp' (by simpa using st') hv
end
theorem LSub.own0 {α : Type} {e : Nat} {R : Rp α} {v : Value} {xs : List α} {L : List SP} (hne : xs ≠ []) : LSub (Lg.own0 e R v xs :: L) (own e R v xs :: L) := fun h m ⟨m1, m2, d, e, ho, s⟩ =>
 ⟨m1, m2, d, e, ho.elim id (fun q => absurd q.1 hne), s⟩
theorem Frz.own0V {α : Type} {e : Nat} {R : Rp α} {v : Value} {xs : List α} {S : List SP} : Frz (Lg.own0 e R v xs :: S) (tV v) (tSl R xs) := fun h m u d ⟨m1, m2, d12, em, ho, hs⟩ hu => by
 rcases ho with ho | ⟨rfl, rfl, ao, rfl⟩
 · exact D6 h m u d ⟨m1, m2, d12, em, ho, hs⟩ hu
 · obtain rfl : u = _ := hu
   exact ⟨ao, ⟨0, Nat.le_refl _⟩, rfl, fun q => absurd rfl q⟩
def Cl (a b : aG) : aG := GPl.mk 4 0 [a, b] [] [] 0 0 (bL a.Attrs b.Attrs)
theorem Frz.pl0 {a1 a2 : Int} {a3 : List aG} {a4 : List GTest} {a5 : List Int} {a6 a7 : Int} {v : Value} {at' : List GAttr} {S : List SP} : Frz (Lg.own0 89 aS v at' :: S) (kH.ty ⟨a1, a2, a3, a4, a5, a6, a7, .raw v⟩) (bO.ty (GPl.mk a1 a2 a3 a4 a5 a6 a7 at')) := fun h m u d hs ⟨cs, r, e⟩ => by
  have hv := Frz.own0V h m v d hs rfl
  exact ⟨cs, sa (kH.mono (Dy h m) r) fun u hu => by
    obtain ⟨rfl, _⟩ := (show (rV.ty v).p (h.join m) u from hu)
    exact hv, e⟩
theorem f7 (a b : aG) (ha : a.Attrs.length <= 1000000) (hb : b.Attrs.length <= 1000000) : Fun1 prog 231 [bO.ty a, bO.ty b] (bO.ty (Cl a b)) := by
 refine Spec.enter func231 rfl rfl fun h0 w0 fr0 => ?_
 refine Jr ?_
 refine Zx (cw (R := bO) Sr) fun b2 => ?_
 refine Zx (cw (R := bO) Sr) fun b3 => ?_
 refine Zx (aD (fun w => zeroValue46 w) Au) fun b4 => ?_
 refine ae (ar ?_)
 refine xK [box b4 46 kH AM, box b3 46 bO b, box b2 46 bO a] [⟨0, [2], 1⟩, ⟨1, [3], 1⟩, ⟨2, [7, 8], 0⟩, ⟨3, [], 0⟩, ⟨4, [2], 0⟩, ⟨5, [11], 1⟩] ⟨6, [10, 12], 13, SP.emp, fun v => rV.ty v, fun v => own0 89 aS v a.Attrs⟩ [⟨7, [9, 13], 0⟩] [⟨8, [], 5, SP.emp, fun v => tAt (vN v) 0, fun v => box (vN v) 46 kH AM⟩] [⟨9, [5, 14], 2⟩] (L := []) (LSub.trans (LSub.trans LSub.emp LSub.emp) (DU (List.perm_append_comm (l₁ := [SP.emp, SP.emp]) (l₂ := [box b4 46 kH AM, box b3 46 bO b, box b2 46 bO a])))) rfl (by kernel_rfl) (Nat.le_of_ble_eq_true rfl) ?_
 refine kx rfl rfl rfl rfl (fun _ => aN ba Sr zS) ?_
 refine kx rfl rfl rfl rfl (fun _ => aN ba Sr zS) ?_
 refine bN rfl rfl rfl rfl (fun _ => ax (ys := [a, b]) underlying42 jR ⟨rfl, Sr, rfl, Sr, trivial⟩ rfl (by decide)) ?_
 refine bN rfl rfl rfl rfl (fun _ => dJ (R := aS) underlying44 gv) ?_
 refine bN rfl rfl rfl rfl (fun _ => aP aX Sr rfl) ?_
 refine kx rfl rfl rfl rfl (fun _ => aQ bQ Sr rfl zS) ?_
 refine nE ?_
 refine ⟨⟨_, rfl, rfl, rfl, rfl, fun _ => by refine D7 ?_; exact Eb id (dv underlying44 gv Sr Sr (by show a.Attrs.length * 80 <= _; omega) (by show a.Attrs.length <= _; omega)) (fun _ => rfl) (fun _ => rfl)⟩, fun v13 => ?_⟩
 refine bN rfl rfl rfl rfl (fun _ => aU (x := (⟨4, 0, [a, b], [], [], 0, 0, .raw v13⟩ : GPlO)) (zs := [[Value.int .i64 0], [Value.int .i64 0], [Value.slice none 0 0], [Value.slice none 0 0], [Value.slice none 0 0], [Value.int .i64 0], [Value.int .i64 0], [Value.slice none 0 0]]) BA (fun w => zeroValue46 w) ⟨Sr, DZ, Sr, trivial⟩ ⟨⟨Sr, rfl⟩, fun _ => rfl, ⟨DZ, rfl⟩, fun _ => ⟨_, rfl, none, ⟨0, Nat.le_refl _⟩, rfl, fun q => absurd rfl q⟩, fun _ => ⟨_, rfl, none, ⟨0, Nat.le_refl _⟩, rfl, fun q => absurd rfl q⟩, fun _ => rfl, fun _ => rfl, ⟨Sr, rfl⟩, trivial⟩) ?_
 refine nE ?_
 refine ⟨⟨_, rfl, rfl, rfl, rfl, fun _ => by refine D7 ?_; exact Eb A0 (aD (fun w => zeroValue46 w) Au) (fun _ => rfl) (fun _ => rfl)⟩, fun v5 => ?_⟩
 refine pQ ?_
 refine bI rfl rfl rfl (aj (R := kH) ni Sr Sr zS) fun _ => ?_
 refine cC (ar (Jr (Za (ae (av ?_)))))
 refine aO (σ := Nat × Value) (fun ⟨i, vo⟩ => i <= b.Attrs.length) (fun ⟨i, vo⟩ => upd (upd (upd (upd (upd cg 2 (tAt b2 0)) 3 (tAt b3 0)) 4 (tAt b4 0)) 5 (tAt (vN v5) 0)) 6 (tV (.int .i64 i))) (fun ⟨i, vo⟩ => [box (vN v5) 46 kH (⟨4, 0, [a, b], [], [], 0, 0, .raw vo⟩ : GPlO), own0 89 aS vo (bL a.Attrs (b.Attrs.take i)), box b4 46 kH AM, box b3 46 bO b, box b2 46 bO a]) (fun ⟨i, vo⟩ => b.Attrs.length - i) (0, v13) (by exact Nat.zero_le _) (zU) (.r zS (.c zS (SPs.of (A := own0 89 aS v13 a.Attrs) (by rw [List.take_zero, qc])) (zL))) ?_
 rintro ⟨i, vo⟩ hi
 try dsimp only at hi
 refine ar (Jr (Zm (Zs (aP aX Sr rfl) ?_)))
 refine Zs (aQ bQ Sr rfl zS) ?_
 refine Zs (ah underlying44 Sr) (Zs (aA Sr Sr) (ae ?_))
 refine au Sr (fun h19 => ?_) (fun h19 => ?_)
 ·
  try simp only [NF] at h19
  have hlt : i < b.Attrs.length := by omega
  have hjl := hG a.Attrs (b.Attrs.take i)
  rw [List.length_take] at hjl
  refine ay (ar (av (ar ?_)))
  refine cl [⟨0, [2], 0⟩, ⟨2, [3], 0⟩, ⟨4, [6], 0⟩, ⟨1, [22], 1⟩, ⟨3, [24], 1⟩, ⟨5, [25, 26], 0⟩, ⟨6, [27], 0⟩, ⟨7, [28], 0⟩, ⟨8, [23, 29], 0⟩, ⟨9, [30], 0⟩] rfl (by kernel_rfl) ?_
  refine ZX rfl (aP aX Sr rfl) ?_
  refine ZX rfl (aP aX Sr rfl) ?_
  refine ZX rfl (al Sr) ?_
  refine bW rfl rfl rfl rfl (aQ bQ Sr rfl zS) ?_
  refine bW rfl rfl rfl rfl (aQ bQ Sr rfl zS) ?_
  refine ZX rfl (ad (i := i) underlying44 ct Sr Sr (by rfl) (gb (by exact hlt))) ?_
  refine ZX rfl (aa dH Sr rfl) ?_
  refine ZX rfl (ab ty9 Sr) ?_
  refine ZX rfl (ai (fC _ _ (by show a.Attrs.length <= _; omega)) ⟨Sr, Sr, trivial⟩ call123) ?_
  refine ZX rfl (aA Sr Sr) ?_
  refine cC ?_
  refine au Sr (fun h31 => ?_) (fun h31 => ?_)
  ·
   try simp only [NF] at h31
   refine om [box (vN v5) 46 kH (⟨4, 0, [a, b], [], [], 0, 0, .raw vo⟩ : GPlO), box b4 46 kH AM, box b3 46 bO b, box b2 46 bO a] [⟨0, [5], 0⟩, ⟨1, [32], 1⟩, ⟨2, [3], 0⟩, ⟨3, [34], 1⟩, ⟨4, [6], 0⟩, ⟨5, [35, 36], 0⟩, ⟨6, [37], 0⟩, ⟨7, [38], 0⟩] [⟨8, [33, 39], 40, own0 89 aS vo (bL a.Attrs (b.Attrs.take i)), fun v => rV.ty v, fun v => own0 89 aS v ((bL a.Attrs (b.Attrs.take i)) ++ [nth b.Attrs i])⟩] [⟨9, [5], 0⟩, ⟨10, [40, 41], 2⟩] (L := []) (zL) rfl (by kernel_rfl) (Nat.le_of_ble_eq_true rfl) ?_
   refine bN rfl rfl rfl rfl (fun _ => ap (o := 0) (o' := 7) aX Sr rfl rfl) ?_
   refine kx rfl rfl rfl rfl (fun _ => aQ (b := (vN v5)) (n := 7) (fs := fk) At Sr rfl zS) ?_
   refine bN rfl rfl rfl rfl (fun _ => aP aX Sr rfl) ?_
   refine kx rfl rfl rfl rfl (fun _ => aQ bQ Sr rfl zS) ?_
   refine bN rfl rfl rfl rfl (fun _ => al Sr) ?_
   refine bN rfl rfl rfl rfl (fun _ => ad (i := i) underlying44 ct Sr Sr (by rfl) (gb (by exact hlt))) ?_
   refine bN rfl rfl rfl rfl (fun _ => ab ct Sr) ?_
   refine bN rfl rfl rfl rfl (fun _ => ax (ys := [_]) underlying44 gv ⟨rfl, Sr, trivial⟩ rfl (by decide)) ?_
   refine nE ?_
   refine ⟨⟨_, rfl, rfl, rfl, rfl, fun _ => iy underlying44 gv Sr Sr zS zE9 zE9⟩, fun v40 => ?_⟩
   refine pQ ?_
   refine ZX rfl (ap (o := 0) (o' := 7) aX Sr rfl rfl) ?_
   refine bI rfl rfl rfl (aI (b := (vN v5)) (n := 7) (fs := fk) (R := rV) (y' := (⟨4, 0, [a, b], [], [], 0, 0, .raw v40⟩ : GPlO)) zz Sr Sr zS (by exact ⟨rfl, ⟨rfl, ⟨rfl, ⟨rfl, ⟨rfl, ⟨rfl, ⟨rfl, ⟨fun _ _ q => DR q, rfl, by intro g hg; cases hg⟩⟩⟩⟩⟩⟩⟩⟩)) fun _ => ?_
   refine cC (aq (Zm (Zs (aB Sr Sr z6) (Za (ae ?_)))))
   refine aE (σ := Nat × Value) (s := (i, vo)) (i + 1, v40) zO (by show i + 1 <= _; omega) (zU) (.r zS (.c zS (SPs.of (A := own0 89 aS v40 ((bL a.Attrs (b.Attrs.take i)) ++ [nth b.Attrs i])) (by rw [iK hlt, if_pos h31])) (zL)))
  try simp only [NF] at h31
  refine ay (aq (Zm (Zs (aB Sr Sr z6) (Za (ae ?_)))))
  refine aE (σ := Nat × Value) (s := (i, vo)) (i + 1, vo) zO (by show i + 1 <= _; omega) (zU) (.r zS (.c zS (SPs.of (A := own0 89 aS vo (bL a.Attrs (b.Attrs.take i))) (by rw [iK hlt, if_neg zG])) (zL)))
 try simp only [NF] at h19
 obtain rfl : i = b.Attrs.length := by omega
 refine aY (Jr ?_)
 refine Zs (aN (R := kH) ni Sr zS) ?_
 refine Ju (aj (R := kH) ni Sr Sr zS) fun _ => ?_
 refine ae (aF ?_)
 refine aZ (rv := .cell 4 46) rfl () (Sel.all _) (.cell (R := kH) ni Sr zS Sr) (Frz.skip (Frz.skip (by rw [List.take_length]; exact Frz.pl0)))
def CL (n : Nat) : Prop := ∀ p : aG, Dep n p -> PSz p -> (inputsM n p).length <= 1000000 -> Spec (X := Value) prog 229 [bO.ty p] [] (fun z => rV.ty z) (fun z => [own 46 bO z (inputsM n p)])
theorem qI {n : Nat} {p : aG} {i : Nat} (h : i < p.Kids.length) (hl : (inputsM (n + 1) p).length <= 1000000) : ((p.Kids.take i).flatMap (inK n)).length + (inK n (nth p.Kids i)).length <= 1000000 := by
  have h1 := wi (n := n) h
  have h2 := h1.length_le
  rw [List.length_append] at h2
  rw [mu] at hl
  omega
theorem oW (n : Nat) (ih : CL n) (p : aG) (hd : Dep (n + 1) p) (hz : PSz p) (hl : (inputsM (n + 1) p).length <= 1000000) : Spec (X := Value) prog 229 [bO.ty p] ([]) (fun z => rV.ty z) (fun z => [own 46 bO z (inputsM (n + 1) p)]) := by
 refine Spec.enter func229 rfl rfl fun h0 w0 fr0 => ?_
 have hkl : p.Kids.length <= 9223372036854775807 := (hz 1).1
 refine Jr (Zs (aJ (R := bO) Sr) (Za (ae (Jr (Za ?_)))))
 refine ae (ar (Jr (Za (ae (av ?_)))))
 refine aO (σ := Nat × Value) (fun ⟨i, vo⟩ => i <= p.Kids.length) (fun ⟨i, vo⟩ => upd (upd (upd (upd cg 1 (bx bO p)) 2 (tV (.slice none 0 0))) 3 (rV.ty vo)) 4 (tV (.int .i64 i))) (fun ⟨i, vo⟩ => [own 46 bO vo ((p.Kids.take i).flatMap (inK n))]) (fun ⟨i, vo⟩ => p.Kids.length - i) (0, .slice none 0 0) (by exact Nat.zero_le _) (.u (SubE.upd (DG rfl) (zU))) (DB) ?_
 rintro ⟨i, vo⟩ hi
 try dsimp only at hi
 refine ar (Jr (Zm (Zs (aa aX Sr rfl) (Zl dQ Sr (Zs (ah underlying42 Sr) ?_)))))
 refine Zs (aA Sr Sr) (ae ?_)
 refine au Sr (fun h9 => ?_) (fun h9 => ?_)
 ·
  try simp only [NF] at h9
  have hlt : i < p.Kids.length := by omega
  refine ay (ar (av (Jr (Zs (aa aX Sr rfl) (Zl dQ Sr ?_)))))
  refine Zm (Zs (ad (i := i) underlying42 eO Sr Sr rfl (gb hlt)) (Zs (aa aX DQ rfl) (Zl ty3 Sr (Zs (aC Sr Sr) (ae ?_)))))
  refine au Sr (fun h18 => ?_) (fun h18 => ?_)
  ·
   try simp only [NF] at h18
   have h18 : (nth p.Kids i).Kind = 4 := h18
   refine aq (Zm (Zs (aa aX Sr rfl) (Zl dQ Sr (Zm (Zs (ad (i := i) underlying42 eO Sr Sr rfl (gb hlt)) ?_)))))
   refine Zs (ab ba DQ) ?_
   refine Zx (bz (Dz _) (ih (nth p.Kids i) (hd _ (aH hlt)) (fj hz (aH hlt)).1 (by have := qI hlt hl; rw [rO h18] at this; omega)) ⟨Sr, trivial⟩ call229) fun v25 => ?_
   refine bc (t := 25) (A' := tSl bO (inputsM n (nth p.Kids i))) (Sel.take (Dz _)) Frz.own ?_
   refine Zx (aL underlying42 jR Sr Sr zS (by have := qI hlt hl; rw [rO h18] at this; show (_ + (inputsM n (nth p.Kids i)).length) * 128 <= _; omega) (by have := qI hlt hl; rw [rO h18] at this; omega)) fun v26 => ?_
   refine Za (ae (aq (Zm (Zs (aB Sr Sr z6) (Za ?_)))))
   refine ae ?_
   refine aE (σ := Nat × Value) (s := (i, vo)) (i + 1, v26) zO (by show i + 1 <= _; omega) (zU) (.c zS (SPs.of (by rw [mv hlt, rO h18])) (LSub.nil))
  try simp only [NF] at h18
  have h18 : ¬ (nth p.Kids i).Kind = 4 := h18
  refine aq (Zm (Zs (aa aX Sr rfl) (Zl dQ Sr (Zm (Zs (ad (i := i) underlying42 eO Sr Sr rfl (gb hlt)) ?_)))))
  refine Zs (ab ba DQ) ?_
  refine Zs (ax (ys := [(nth p.Kids i)]) underlying42 jR ⟨rfl, Sr, trivial⟩ rfl (by decide)) ?_
  refine Zx (aL underlying42 jR Sr Sr zS (by have := qI hlt hl; rw [t6 h18] at this; show (_ + [(nth p.Kids i)].length) * 128 <= _; omega) (by have := qI hlt hl; rw [t6 h18] at this; omega)) fun v34 => ?_
  refine Za (ae (aq (Zm (Zs (aB Sr Sr z6) (Za ?_)))))
  refine ae ?_
  refine aE (σ := Nat × Value) (s := (i, vo)) (i + 1, v34) zO (by show i + 1 <= _; omega) (zU) (.c zS (SPs.of (by rw [mv hlt, t6 h18])) (LSub.nil))
 try simp only [NF] at h9
 obtain rfl : i = p.Kids.length := by omega
 refine aY (Jr (Zm (Za (ae (aF ?_)))))
 refine bZ (L' := [own 46 bO vo (inputsM (n + 1) p)]) (.c zS (SPs.of (by rw [List.take_length, mu])) (LSub.nil)) ?_
 refine cW (rv := .tmp 2) rfl vo (.tmp Sr) Sr
theorem li : ∀ n, CL n
  | 0 => fun _ h => h.elim
  | n + 1 => fun p hd hz hl => oW n (li n) p hd hz hl
theorem BC {α β : Type} [Inhabited α] [Inhabited β] {f : α -> β} {l : List α} {i : Nat} (h : i < l.length) : nth (l.map f) i = f (nth l i) := by
 rw [nth_get (by rw [List.length_map]; exact h), nth_get h, List.getElem_map]
def jr (u : List Bool) (n : Nat) : List Nat := (List.range n).filter fun i => !nth u i
def unK (ks : List Gnode) (u : List Bool) (n : Nat) : List Gnode := (jr u n).map (nth ks)
def Av (f : Gnode -> Int) (ks : List Gnode) (u : List Bool) (a : Int) (j : Nat) : Int := if nth u j = false /\ (a < 0 \/ f (nth ks j) < f (nth ks a.toNat)) then j else a
def nxt (f : Gnode -> Int) (ks : List Gnode) (u : List Bool) (i : Nat) : Int := (List.range i).foldl (Av f ks u) (-1)
theorem oX (f : Gnode -> Int) (ks : List Gnode) (u : List Bool) (i : Nat) : nxt f ks u (i + 1) = Av f ks u (nxt f ks u i) i := by unfold nxt; rw [List.range_succ, List.foldl_append]; rfl
theorem iz (f : Gnode -> Int) (l : List Gnode) (n : Nat) : cheapI f l (n + 1) = if f (nth l n) < f (nth l (cheapI f l n)) then n else cheapI f l n := by unfold cheapI; rw [List.range_succ, List.foldl_append]; rfl
theorem kI (f : Gnode -> Int) (l l' : List Gnode) : ∀ m, m <= l.length -> cheapI f (l ++ l') m = cheapI f l m /\ (0 < m -> cheapI f l m < m)
 | 0, _ => ⟨rfl, fun h => absurd h (Nat.lt_irrefl 0)⟩
 | m + 1, h => by
   obtain ⟨h1, h2⟩ := kI f l l' m (by omega)
   have hb : cheapI f l m < l.length := by
    by_cases h0 : 0 < m
    · have := h2 h0; omega
    · obtain rfl : m = 0 := by omega
      show 0 < l.length; omega
   rw [iz, iz, h1, cR (by omega), cR hb]
   refine ⟨rfl, fun _ => ?_⟩
   split
   · omega
   · by_cases h0 : 0 < m
     · have := h2 h0; omega
     · obtain rfl : m = 0 := by omega
       show 0 < 0 + 1; omega
theorem qJ (u : List Bool) (i : Nat) : jr u (i + 1) = jr u i ++ (if nth u i = true then [] else [i]) := by
 unfold jr
 rw [List.range_succ, List.filter_append]
 cases h : nth u i <;> simp [h]
theorem wT (f : Gnode -> Int) (ks : List Gnode) (u : List Bool) : ∀ i, (jr u i = [] -> nxt f ks u i = -1) /\ (0 < (jr u i).length -> nxt f ks u i = (nth (jr u i) (cheapI f (unK ks u i) (unK ks u i).length) : Nat))
 | 0 => ⟨fun _ => rfl, fun h => absurd h (Nat.lt_irrefl 0)⟩
 | i + 1 => by
   obtain ⟨h1, h2⟩ := wT f ks u i
   rw [oX, qJ]
   have hK : unK ks u (i + 1) = unK ks u i ++ (if nth u i = true then [] else [nth ks i]) := by
    unfold unK; rw [qJ, List.map_append]; split <;> rfl
   rw [hK]
   have hkl : (unK ks u i).length = (jr u i).length := List.length_map _
   by_cases hu : nth u i = true
   · simp only [Av, hu, if_true, List.append_nil]
     simpa using ⟨h1, h2⟩
   · have hu' : nth u i = false := by simpa using hu
     rw [show (if nth u i = true then ([] : List Nat) else [i]) = [i] from if_neg hu, show (if nth u i = true then ([] : List Gnode) else [nth ks i]) = [nth ks i] from if_neg hu]
     refine ⟨fun h => absurd (congrArg List.length h) (by simp), fun _ => ?_⟩
     rw [List.length_append, List.length_singleton, iz]
     obtain ⟨e1, e2⟩ := kI f (unK ks u i) [nth ks i] _ (Nat.le_refl _)
     rw [e1]
     have hy : nth (unK ks u i ++ [nth ks i]) (unK ks u i).length = nth ks i := by rw [jG (Nat.le_refl _) (by simp)]; simp [nth]
     rw [hy]
     by_cases h0 : jr u i = []
     · have hz : unK ks u i = [] := by unfold unK; rw [h0]; rfl
       rw [h1 h0, h0, hz]
       simp [Av, hu', nth, cheapI]
     · have hp : 0 < (jr u i).length := List.length_pos_iff.2 h0
       have hc := e2 (by omega)
       rw [h2 hp]
       generalize cheapI f (unK ks u i) (unK ks u i).length = c at hc ⊢
       rw [cR hc]
       have hn : nth (unK ks u i) c = nth ks (nth (jr u i) c) := by unfold unK; exact BC (by omega)
       rw [hn]
       simp only [Av, hu', true_and, Int.toNat_natCast]
       have : ¬ (((nth (jr u i) c : Nat) : Int) < 0) := by omega
       simp only [this, false_or]
       split
       · rw [hkl, jG (Nat.le_refl _) (by simp)]; simp [nth]
       · rw [cR (by omega)]
theorem yp (u : List Bool) (n : Nat) : (jr u n).Nodup := (List.nodup_range).filter _
theorem yq {l : List Nat} (h : l.Nodup) : ∀ {c : Nat}, c < l.length -> l.eraseIdx c = l.filter fun i => decide (i ≠ nth l c) := by
 induction l with
 | nil => intro c hc; simp at hc
 | cons a l ih =>
   intro c hc
   obtain ⟨ha, hl⟩ := List.nodup_cons.1 h
   cases c with
   | zero =>
     have : nth (a :: l) 0 = a := rfl
     rw [this]
     show l = _
     rw [List.filter_cons_of_neg (by simp)]
     symm
     rw [List.filter_eq_self]
     intro b hb
     simp only [ne_eq, decide_not, Bool.not_eq_true', decide_eq_false_iff_not]
     rintro rfl; exact ha hb
   | succ c =>
     have hc' : c < l.length := by simpa using hc
     have e : nth (a :: l) (c + 1) = nth l c := by rw [nth_get (by simpa using hc), nth_get hc']; rfl
     rw [e]
     show a :: l.eraseIdx c = _
     rw [List.filter_cons_of_pos (by
      simp only [ne_eq, decide_not, Bool.not_eq_true', decide_eq_false_iff_not]
      rintro rfl; exact ha (aH hc')), ih hl hc']
theorem mO {α β : Type} (f : α -> β) : ∀ (l : List α) (c : Nat), (l.eraseIdx c).map f = (l.map f).eraseIdx c
 | [], _ => rfl
 | _ :: _, 0 => rfl
 | a :: l, c + 1 => congrArg (f a :: ·) (mO f l c)
theorem zg {u : List Bool} {k n : Nat} (hn : n <= u.length) {c : Nat} (hc : c < (jr u n).length) (hk : nth (jr u n) c = k) : jr (u.set k true) n = (jr u n).eraseIdx c := by
 rw [yq (yp u n) hc, hk]
 unfold jr
 rw [List.filter_filter]
 refine List.filter_congr fun i hi => ?_
 have hi' : i < u.length := by have := List.mem_range.1 hi; omega
 rw [nth_set hi']
 by_cases e : k = i
 · subst e; simp
 · have : ¬ i = k := fun q => e q.symm
   simp [e, this]
theorem wU {n m : Nat} (h : m <= n) : jr (List.replicate n false) m = List.range m := by
 unfold jr
 rw [List.filter_eq_self]
 intro i hi
 have hi' := List.mem_range.1 hi
 rw [nth_get (by simp; omega)]; simp
theorem oY (ks : List Gnode) : (List.range ks.length).map (nth ks) = ks := by
 refine List.ext_getElem (by simp) fun i h1 h2 => ?_
 simp [nth_get h2]
theorem zh {u : List Bool} {n i : Nat} : i ∈ jr u n ↔ i < n /\ nth u i = false := by unfold jr; simp
theorem BD {u : List Bool} {n c : Nat} (hc : c < (jr u n).length) : nth (jr u n) c < n /\ nth u (nth (jr u n) c) = false := zh.1 (aH hc)
theorem Aw {f : Gnode -> Int} {ks : List Gnode} {u : List Bool} (hu : u.length = ks.length) (hr : 0 < (unK ks u ks.length).length) :
  ∃ k : Nat, nxt f ks u ks.length = k /\ k < ks.length /\ nth u k = false /\ (bC f (unK ks u ks.length)).1 = nth ks k /\ (bC f (unK ks u ks.length)).2 = unK ks (u.set k true) ks.length := by
 have hl : (unK ks u ks.length).length = (jr u ks.length).length := List.length_map _
 have hc := gB f _ hr
 have h2 := (wT f ks u ks.length).2 (by omega)
 generalize e : cheapI f (unK ks u ks.length) (unK ks u ks.length).length = c at hc h2
 have hc' : c < (jr u ks.length).length := by omega
 obtain ⟨h3, h4⟩ := BD hc'
 refine ⟨_, h2, h3, h4, ?_, ?_⟩
 · unfold bC; rw [e]; unfold unK; exact BC hc'
 · unfold bC; rw [e]; show (unK ks u ks.length).eraseIdx c = _
   unfold unK; rw [zg (by omega) hc' rfl, mO]
theorem Ax {f : Gnode -> Int} {ks : List Gnode} (hr : 0 < ks.length) : cheapI f ks ks.length < ks.length /\ (bC f ks).1 = nth ks (cheapI f ks ks.length) /\ (bC f ks).2 = unK ks ((List.replicate ks.length false).set (cheapI f ks ks.length) true) ks.length := by
 have hc := gB f _ hr
 refine ⟨hc, rfl, ?_⟩
 have hi : nth (List.range ks.length) (cheapI f ks ks.length) = cheapI f ks ks.length := by rw [nth_get (by simpa using hc)]; simp
 unfold unK
 rw [zg (c := cheapI f ks ks.length) (by simp) (by rw [wU (Nat.le_refl _)]; simpa using hc) (by rw [wU (Nat.le_refl _)]; exact hi), wU (Nat.le_refl _), mO, oY]
 rfl
theorem uj {x : Gplanner} {k : Gnode} (h : NGd x k) : Fun1 prog 95 [bO.ty k.Plan, bA.ty x.st] (cG.ty (gq k)) := by
  have := lf x _ k.Plan (dG _) h.e (by rw [h.w]; exact h.nd)
  rwa [h.w] at this
theorem oZ {f : Gnode -> Int} {ks : List Gnode} {u : List Bool} {i : Nat} (h : 0 <= nxt f ks u i) : (nxt f ks u i).toNat < i /\ nth u (nxt f ks u i).toNat = false := by
  obtain ⟨h1, h2⟩ := wT f ks u i
  by_cases h0 : jr u i = []
  · rw [h1 h0] at h; omega
  · have hp : 0 < (jr u i).length := List.length_pos_iff.2 h0
    have hl : (unK ks u i).length = (jr u i).length := List.length_map _
    have hc := gB f (unK ks u i) (by omega)
    rw [h2 hp, Int.toNat_natCast]
    exact BD (by omega)
theorem qK {ks : List Gnode} {u : List Bool} {i : Nat} (h : i < ks.length) (hu : nth u i = false) : nth ks i ∈ unK ks u ks.length := List.mem_map.2 ⟨i, zh.2 ⟨h, hu⟩, rfl⟩
theorem JnOk.pi {x : Gplanner} {U : List ByteArray} {out : Gnode} {rest : List Gnode} (h : JnOk x 1000 U out rest) {k : Gnode} (hk : k ∈ rest) : PI x 1000 (bw x out k) := kD h.o (h.k _ hk) (h.len hk)
structure ChOk (x : Gplanner) (U : List ByteArray) (ks : List Gnode) : Prop where
  j : JnOk x 1000 U (bC (fun k => k.size.rows) ks).1 (bC (fun k => k.size.rows) ks).2
  k : ∀ k ∈ ks, PI x 1000 k
  n : 0 < ks.length
  m : ks.length <= 4096
theorem sb (x : Gplanner) (U : List ByteArray) (ks : List Gnode) (hc : ChOk x U ks) : Fun1 prog 232 [tSl bO (ks.map Gnode.Plan), bA.ty x.st] (bO.ty (d5 x ks.length (bC (fun k => k.size.rows) ks).1 (bC (fun k => k.size.rows) ks).2).Plan) := by
 refine Spec.enter func232 rfl rfl fun h0 w0 fr0 => ?_
 have hn0 := hc.n
 have hnm := hc.m
 obtain ⟨hfl, hf1, hf2⟩ := Ax (f := (fun k => k.size.rows)) hn0
 have hpl : (ks.map Gnode.Plan).length = ks.length := List.length_map _
 have hrl : (List.replicate ks.length false).length = ks.length := by simp
 refine Jr (Zs (aJ (R := bA) Sr) ?_)
 refine Zx (aD (fun w => zeroValue46 w) fL) fun b4 => ?_
 refine ae (Jr (Za (ae (ar (Jr ?_)))))
 refine Za (ae (av ?_))
 refine aO (σ := Nat) (fun i => 1 <= i /\ i <= ks.length) (fun i => upd (upd (upd (upd (upd cg 0 (tSl bO (ks.map Gnode.Plan))) 3 (bx bA x.st)) 4 (tAt b4 0)) 5 (tV (.int .i64 (cheapI (fun k => k.size.rows) ks i)))) 6 (tV (.int .i64 i))) (fun i => [box b4 46 bO GPl.zero]) (fun i => ks.length - i) 1 ⟨by omega, hn0⟩ (.u (SubE.upd (Sub.int (by simp [cheapI])) (zU))) (LSub.rfl) ?_
 rintro i ⟨hi1, hi⟩
 refine ar (Jr (Zm (Zm (Zs (ah underlying42 Sr) (Zs (aA Sr Sr) ?_)))))
 refine ae ?_
 refine au Sr (fun h15 => ?_) (fun h15 => ?_)
 ·
  try simp only [NF] at h15
  have hlt : i < ks.length := by omega
  have hci : (cheapI (fun k => k.size.rows) ks i) < ks.length := by have := (kI (fun k => k.size.rows) ks [] i zG).2 zG; omega
  refine ay (ar (av (ar ?_)))
  refine bl [⟨0, [0], true⟩, ⟨1, [6], true⟩, ⟨2, [18, 19], true⟩, ⟨3, [20], true⟩, ⟨4, [3], true⟩, ⟨5, [21, 22], true⟩, ⟨6, [23], true⟩, ⟨7, [0], true⟩, ⟨8, [5], true⟩, ⟨9, [25, 26], true⟩, ⟨10, [27], true⟩, ⟨11, [3], true⟩, ⟨12, [28, 29], true⟩, ⟨13, [30], true⟩, ⟨14, [24, 31], true⟩] rfl (by kernel_rfl) ?_
  refine Zv rfl (Zv rfl ?_)
  refine Zf rfl (bh (B := bx bO (nth ks i).Plan) (ad (i := i) underlying42 ba Sr Sr (by rfl) (gb (by rw [List.length_map]; exact hlt))) (by rw [iT (by exact hlt)])) ?_
  refine Zf rfl (ab ba Sr) (Zf rfl (ab gh Sr) (Zf rfl (ai (uj ((hc.k _ (aH hlt)).g)) ⟨Sr, Sr, trivial⟩ call95) (Zf rfl (cI ek Sr rfl) (Zv rfl (Zv rfl ?_)))))
  refine Zf rfl (bh (B := bx bO (nth ks (cheapI (fun k => k.size.rows) ks i)).Plan) (ad (i := (cheapI (fun k => k.size.rows) ks i)) underlying42 ba Sr Sr (by rfl) (gb (by rw [List.length_map]; exact hci))) (by rw [iT (by exact hci)])) ?_
  refine Zf rfl (ab ba Sr) (Zf rfl (ab gh Sr) (Zf rfl (ai (uj ((hc.k _ (aH hci)).g)) ⟨Sr, Sr, trivial⟩ call95) (Zf rfl (cI ek Sr rfl) (Zf rfl (aA Sr Sr) (bj ?_)))))
  refine au Sr (fun h32 => ?_) (fun h32 => ?_)
  ·
   try simp only [NF] at h32
   have h32 : (nth ks i).size.rows < (nth ks (cheapI (fun k => k.size.rows) ks i)).size.rows := h32
   refine aq (Zm (Za (ae (aq (Zm ?_)))))
   refine Zs (aB Sr Sr z6) (Za (ae ?_))
   refine aE (σ := Nat) (s := i) (i + 1) zO ⟨by omega, by show i + 1 <= _; omega⟩ (.u (SubE.upd (Sub.int (by rw [gS, if_pos h32])) (zU))) (LSub.rfl)
  try simp only [NF] at h32
  have h32 : (nth ks (cheapI (fun k => k.size.rows) ks i)).size.rows <= (nth ks i).size.rows := h32
  refine ay (aq (Zm (Zs (aB Sr Sr z6) (Za (ae ?_)))))
  refine aE (σ := Nat) (s := i) (i + 1) zO ⟨by omega, by show i + 1 <= _; omega⟩ (.u (SubE.upd (Sub.int (by rw [gS, if_neg (by show ¬ (nth ks i).size.rows < (nth ks (cheapI (fun k => k.size.rows) ks i)).size.rows; omega)])) (zU))) (LSub.rfl)
 try simp only [NF] at h15
 obtain rfl : i = ks.length := by omega
 refine aY (Jr (Zm (Zm ?_)))
 refine Zs (bh (B := bx bO (nth ks (cheapI (fun k => k.size.rows) ks ks.length)).Plan) (ad (i := (cheapI (fun k => k.size.rows) ks ks.length)) underlying42 ba Sr Sr (by rfl) (gb (by rw [List.length_map]; exact hfl))) (by rw [iT (by exact hfl)])) ?_
 refine Zl ba Sr ?_
 refine Zx (aD (fun w => zeroValue46 w) fL) fun b7 => ?_
 refine Ju (aj ba Sr Sr zS) fun _ => ?_
 refine ae (Jr (Zm (Zs (ah underlying42 Sr) ?_)))
 refine Zx (pd underlying35 el4 Sr Sr (show ((ks.map Gnode.Plan).length : Int) = (ks.length : Nat) by rw [List.length_map]) zG zG) fun v40 => ?_
 refine Za (ae (Jr (Zm (Zm ?_))))
 refine Zs (bd (i := (cheapI (fun k => k.size.rows) ks ks.length)) underlying35 ty4 Sr zS Sr (by rfl) (by simp; exact hfl)) ?_
 refine Ju (dK ty4 Sr Sr zS (by first | assumption | omega)) fun _ => ?_
 refine ae (ar (Jr (Za (ae (av ?_)))))
 refine aO (σ := Nat × Nat × Gnode × List Bool) (fun ⟨m, fuel, out, u⟩ => u.length = ks.length /\ JnOk x 1000 U out (unK ks u ks.length) /\ (unK ks u ks.length).length + m = ks.length /\ (unK ks u ks.length).length <= fuel /\ d5 x fuel out (unK ks u ks.length) = (d5 x ks.length (bC (fun k => k.size.rows) ks).1 (bC (fun k => k.size.rows) ks).2)) (fun ⟨m, fuel, out, u⟩ => upd (upd (upd (upd (upd (upd cg 0 (tSl bO (ks.map Gnode.Plan))) 3 (bx bA x.st)) 4 (tAt b4 0)) 7 (tAt b7 0)) 8 (rV.ty v40)) 9 (tV (.int .i64 m))) (fun ⟨m, fuel, out, u⟩ => [own 4 lk v40 u, box b7 46 bO out.Plan, box b4 46 bO GPl.zero]) (fun ⟨m, fuel, out, u⟩ => ks.length - m) (1, ks.length, (bC (fun k => k.size.rows) ks).1, (List.replicate ks.length false).set (cheapI (fun k => k.size.rows) ks ks.length) true) (by show _ /\ _; rw [<- hf2]; have hcl := eE (f := (fun k => k.size.rows)) hn0; exact ⟨by simp, hc.j, by omega, by omega, rfl⟩) (zU) (zL) ?_
 rintro ⟨m, fuel, out, u⟩ ⟨hul, hjn, hum, huf, hch⟩
 refine ar (Jr (Zm (Zm (Zs (ah underlying42 Sr) (Zs (aA Sr Sr) ?_)))))
 refine ae ?_
 refine au Sr (fun h47 => ?_) (fun h47 => ?_)
 ·
  try simp only [NF] at h47
  have hr0 : 0 < (unK ks u ks.length).length := by omega
  obtain ⟨f, rfl⟩ : ∃ f, fuel = f + 1 := ⟨fuel - 1, by omega⟩
  rw [kE zG] at hch
  refine ay (ar (av (Jr (Za (ae ?_)))))
  refine ar (Jr (Za (ae (av ?_))))
  refine aO (σ := Nat) (fun i => i <= ks.length) (fun i => upd (upd (upd (upd (upd (upd (upd (upd cg 0 (tSl bO (ks.map Gnode.Plan))) 3 (bx bA x.st)) 4 (tAt b4 0)) 7 (tAt b7 0)) 8 (rV.ty v40)) 9 (tV (.int .i64 m))) 10 (tV (.int .i64 (nxt (fun k => (bw x out k).size.rows) ks u i)))) 11 (tV (.int .i64 i))) (fun i => [own 4 lk v40 u, box b7 46 bO out.Plan, box b4 46 bO GPl.zero]) (fun i => ks.length - i) 0 (by exact Nat.zero_le _) (zU) (LSub.rfl) ?_
  rintro i hi
  refine ar (Jr (Zm (Zm (Zs (ah underlying42 Sr) (Zs (aA Sr Sr) ?_)))))
  refine ae ?_
  refine au Sr (fun h53 => ?_) (fun h53 => ?_)
  ·
   try simp only [NF] at h53
   have hlt : i < ks.length := by omega
   refine ay (ar (av (ar ?_)))
   refine cl [⟨0, [8], 0⟩, ⟨1, [11], 0⟩, ⟨2, [56, 57], 1⟩, ⟨3, [58], 1⟩, ⟨4, [59], 0⟩, ⟨5, [60], 0⟩, ⟨6, [10, 61], 0⟩, ⟨7, [61, 62], 0⟩, ⟨8, [61, 63], 0⟩, ⟨10, [0, 64], 0⟩, ⟨11, [11, 64], 0⟩, ⟨12, [64, 66, 67], 0⟩, ⟨13, [64, 68], 0⟩, ⟨15, [3, 64], 0⟩, ⟨19, [0, 64], 0⟩, ⟨20, [10, 64], 0⟩, ⟨21, [64, 75, 76], 0⟩, ⟨22, [64, 77], 0⟩, ⟨24, [3, 64], 0⟩, ⟨9, [7, 64], 1⟩, ⟨14, [64, 65, 69], 0⟩, ⟨16, [64, 70, 71], 0⟩, ⟨17, [64, 72], 0⟩, ⟨18, [7, 64], 1⟩, ⟨23, [64, 74, 78], 0⟩, ⟨25, [64, 79, 80], 0⟩, ⟨26, [64, 81], 0⟩, ⟨27, [64, 73, 82], 0⟩, ⟨28, [61, 64, 83], 0⟩, ⟨29, [61, 84], 0⟩] rfl (by kernel_rfl) ?_
   refine ZX rfl (al Sr) ?_
   refine ZX rfl (al Sr) ?_
   refine bW rfl rfl rfl rfl (bd (i := i) underlying35 ty4 Sr zS Sr (by rfl) zG) ?_
   refine bW rfl rfl rfl rfl (dc ty4 Sr zS (gb (by first | assumption | omega))) ?_
   refine ZX rfl (bf Sr) ?_
   refine ZX rfl (al Sr) ?_
   refine bS rfl rfl rfl rfl (DV Sr) rfl rfl (fun hw _ => al Sr) ?_
   refine bS rfl rfl rfl rfl (DV Sr) rfl rfl (fun hw _ => aA (Sub.w hw) Sr) ?_
   refine bS rfl rfl rfl rfl (DV Sr) rfl rfl (fun hw _ => al (Sub.w hw)) ?_
   refine bS rfl rfl rfl rfl (DK Sr) rfl rfl (fun hw _ => al Sr) ?_
   refine bS rfl rfl rfl rfl (DK Sr) rfl rfl (fun hw _ => al Sr) ?_
   refine bS rfl rfl rfl rfl (DK Sr) rfl rfl (fun hw _ => bh (B := bx bO (nth ks i).Plan) (ad (i := i) underlying42 ba (Sub.w hw) (Sub.w hw) (by rfl) (gb (by rw [List.length_map]; exact hlt))) (by rw [iT (by exact hlt)])) ?_
   refine bS rfl rfl rfl rfl (DK Sr) rfl rfl (fun hw _ => ab ba (Sub.w hw)) ?_
   refine bS rfl rfl rfl rfl (DK Sr) rfl rfl (fun hw _ => ab gh Sr) ?_
   refine bS rfl rfl rfl rfl (DK Sr) rfl rfl (fun hw _ => al Sr) ?_
   refine bS rfl rfl rfl rfl (DK Sr) rfl rfl (fun hw _ => al Sr) ?_
   refine bS rfl rfl rfl rfl (DK Sr) rfl rfl (fun hw _ => bh (B := bx bO (nth ks ((nxt (fun k => (bw x out k).size.rows) ks u i)).toNat).Plan) (ad (i := ((nxt (fun k => (bw x out k).size.rows) ks u i)).toNat) underlying42 ba (Sub.w hw) (Sub.w hw) (by have hwq := hw; simp at hwq; show (nxt (fun k => (bw x out k).size.rows) ks u i) = _; omega) (gb (by rw [List.length_map]; have hwq := hw; simp at hwq; have hn := oZ (f := (fun k => (bw x out k).size.rows)) (ks := ks) (u := u) (i := i) hwq.2; omega))) (by rw [iT (by have hwq := hw; simp at hwq; have hn := oZ (f := (fun k => (bw x out k).size.rows)) (ks := ks) (u := u) (i := i) hwq.2; omega)])) ?_
   refine bS rfl rfl rfl rfl (DK Sr) rfl rfl (fun hw _ => ab ba (Sub.w hw)) ?_
   refine bS rfl rfl rfl rfl (DK Sr) rfl rfl (fun hw _ => ab gh Sr) ?_
   refine sy rfl rfl rfl rfl (DK Sr) rfl rfl (fun hw => aN ba Sr zS) ?_
   refine bS rfl rfl rfl rfl (DK Sr) rfl rfl (fun hw _ => ai (f7 out.Plan (nth ks i).Plan (by have := hjn.o.a; omega) (by have := (hjn.k _ ((by have hwq := hw; simp at hwq; exact qK hlt hwq.1))).a; omega)) ⟨(Sub.w hw), (Sub.w hw), trivial⟩ call231) ?_
   refine bS rfl rfl rfl rfl (DK Sr) rfl rfl (fun hw _ => ai (uj ((hjn.pi (by have hwq := hw; simp at hwq; exact qK hlt hwq.1)).g)) ⟨(Sub.w hw), (Sub.w hw), trivial⟩ call95) ?_
   refine bS rfl rfl rfl rfl (DK Sr) rfl rfl (fun hw _ => cI ek (Sub.w hw) rfl) ?_
   refine sy rfl rfl rfl rfl (DK Sr) rfl rfl (fun hw => aN ba Sr zS) ?_
   refine bS rfl rfl rfl rfl (DK Sr) rfl rfl (fun hw _ => ai (f7 out.Plan (nth ks ((nxt (fun k => (bw x out k).size.rows) ks u i)).toNat).Plan (by have := hjn.o.a; omega) (by have := (hjn.k _ ((by have hwq := hw; simp at hwq; have hn := oZ (f := (fun k => (bw x out k).size.rows)) (ks := ks) (u := u) (i := i) hwq.2; exact qK zG hn.2))).a; omega)) ⟨(Sub.w hw), (Sub.w hw), trivial⟩ call231) ?_
   refine bS rfl rfl rfl rfl (DK Sr) rfl rfl (fun hw _ => ai (uj ((hjn.pi (by have hwq := hw; simp at hwq; have hn := oZ (f := (fun k => (bw x out k).size.rows)) (ks := ks) (u := u) (i := i) hwq.2; exact qK zG hn.2)).g)) ⟨(Sub.w hw), (Sub.w hw), trivial⟩ call95) ?_
   refine bS rfl rfl rfl rfl (DK Sr) rfl rfl (fun hw _ => cI ek (Sub.w hw) rfl) ?_
   refine bS rfl rfl rfl rfl (DK Sr) rfl rfl (fun hw _ => aA (Sub.w hw) (Sub.w hw)) ?_
   refine bS rfl rfl rfl rfl (DV Sr) rfl rfl (fun hw _ => az (Sub.w hw) (D9 hw)) ?_
   refine ZX rfl (aw Sr Sr) ?_
   refine cC ?_
   refine au Sr (fun h85 => ?_) (fun h85 => ?_)
   ·
    try simp only [NF] at h85
    have h85 : nth u i = false /\ ((nxt (fun k => (bw x out k).size.rows) ks u i) < 0 \/ (bw x out (nth ks i)).size.rows < (bw x out (nth ks ((nxt (fun k => (bw x out k).size.rows) ks u i)).toNat)).size.rows) := by simpa [gq] using h85
    refine aq (Zm (Za (ae (aq (Zm ?_)))))
    refine Zs (aB Sr Sr z6) (Za (ae ?_))
    refine aE (σ := Nat) (s := i) (i + 1) zO (by show i + 1 <= _; omega) (.u (SubE.upd (Sub.int (by rw [oX, Av, if_pos h85])) (zU))) (LSub.rfl)
   try simp only [NF] at h85
   simp [gq] at h85
   have h85 : ¬ (nth u i = false /\ ((nxt (fun k => (bw x out k).size.rows) ks u i) < 0 \/ (bw x out (nth ks i)).size.rows < (bw x out (nth ks ((nxt (fun k => (bw x out k).size.rows) ks u i)).toNat)).size.rows)) := fun ⟨q1, q2⟩ => h85.elim (fun h => (by rw [q1] at h; cases h)) (fun h6 => (by rcases q2 with q | q <;> omega))
   refine ay (aq (Zm (Zs (aB Sr Sr z6) (Za (ae ?_)))))
   refine aE (σ := Nat) (s := i) (i + 1) zO (by show i + 1 <= _; omega) (.u (SubE.upd (Sub.int (by rw [oX, Av, if_neg h85])) (zU))) (LSub.rfl)
  try simp only [NF] at h53
  obtain rfl : i = ks.length := by omega
  obtain ⟨k, hk1, hk2, hk3, hk4, hk5⟩ := Aw (f := (fun k => (bw x out k).size.rows)) hul hr0
  have hjx := hjn.next hr0 (fun k => (bw x out k).size.rows)
  have hcl := eE (f := (fun k => (bw x out k).size.rows)) hr0
  rw [hk4, hk5] at hjx hch
  rw [hk5] at hcl
  refine aY (ar ?_)
  refine cl [⟨1, [0], 0⟩, ⟨2, [10], 0⟩, ⟨3, [88, 89], 0⟩, ⟨4, [90], 0⟩, ⟨0, [7], 1⟩, ⟨5, [87, 91], 0⟩, ⟨6, [7, 92], 2⟩] rfl (by kernel_rfl) ?_
  refine ZX rfl (al Sr) ?_
  refine ZX rfl (al Sr) ?_
  refine ZX rfl (bh (B := bx bO (nth ks k).Plan) (ad (i := k) underlying42 ba Sr Sr (by show (nxt (fun k => (bw x out k).size.rows) ks u ks.length) = _; exact hk1) (gb (by rw [List.length_map]; exact hk2))) (by rw [iT (by exact hk2)])) ?_
  refine ZX rfl (ab ba Sr) ?_
  refine bW rfl rfl rfl rfl (aN ba Sr zS) ?_
  refine ZX rfl (ai (f7 out.Plan (nth ks k).Plan (by have := hjn.o.a; omega) (by have := (hjn.k _ ((qK hk2 hk3))).a; omega)) ⟨Sr, Sr, trivial⟩ call231) ?_
  refine bI rfl rfl rfl (aj ba Sr Sr zS) fun _ => ?_
  refine cC (aq (Zm (Zm ?_)))
  refine Zs (bd (i := k) underlying35 ty4 Sr zS Sr (by show (nxt (fun k => (bw x out k).size.rows) ks u ks.length) = _; exact hk1) zG) ?_
  refine Ju (dK ty4 Sr Sr zS (by first | assumption | omega)) fun _ => ?_
  refine ae (aq (Zm (Zs (aB Sr Sr z6) (Za (ae ?_)))))
  refine aE (σ := Nat × Nat × Gnode × List Bool) (s := (m, f + 1, out, u)) (m + 1, f, bw x out (nth ks k), u.set k true) ((by show ks.length - (m + 1) < ks.length - m; omega)) ⟨by simpa using hul, hjx, by omega, by omega, hch⟩ (zU) (zL)
 try simp only [NF] at h47
 have hr0 : (unK ks u ks.length).length = 0 := by omega
 rw [mz hr0] at hch
 refine aY (Jr ?_)
 refine Zs (aN ba Sr zS) ?_
 refine Ju (aj ba Sr Sr zS) fun _ => ?_
 refine ae (aF ?_)
 refine aZ (rv := .cell 4 46) rfl () (Sel.all _) (.cell (R := bO) ba Sr zS Sr) (Frz.sub (DE (by rw [hch])))
def wV (ns : List Gnode) (qs : List aG) : List aG := ns.map Gnode.Plan ++ qs.drop ns.length
theorem sc {ns : List Gnode} {qs : List aG} (h : ns.length <= qs.length) : (wV ns qs).length = qs.length := by simp [wV]; omega
theorem Ay {ns : List Gnode} {qs : List aG} (h : ns.length < qs.length) : nth (wV ns qs) ns.length = nth qs ns.length := by
  rw [nth_get (by rw [sc (by omega)]; exact h), nth_get h]
  simp [wV, List.getElem_append_right]
theorem Az {ns : List Gnode} {qs : List aG} {k : Gnode} (h : ns.length < qs.length) : (wV ns qs).set ns.length k.Plan = wV (ns ++ [k]) qs := by
  unfold wV
  rw [List.set_append_right _ _ (by simp), List.map_append, List.length_append, List.length_singleton, List.length_map, Nat.sub_self, List.append_assoc, List.drop_eq_getElem_cons h]
  rfl
theorem AA {ns : List Gnode} {qs : List aG} (h : ns.length = qs.length) : wV ns qs = ns.map Gnode.Plan := by unfold wV; rw [h, List.drop_length, List.append_nil]
theorem qL {pl pl' : Int -> Int} {k : Nat} (h : ∀ c : Int, 0 <= c -> c < (k : Int) -> pl c = pl' c) {s : GSide} (hs : s.Var = 0 -> 0 <= s.Col /\ s.Col < k) : okS pl s = okS pl' s /\ fw pl s = fw pl' s := by
  by_cases hv : s.Var = 0
  · have := hs hv
    simp [okS, fw, hv, h _ this.1 this.2]
  · simp [okS, fw, hv]
theorem qM {pl pl' : Int -> Int} {k : Nat} (h : ∀ c : Int, 0 <= c -> c < (k : Int) -> pl c = pl' c) {ts : List GTest} (ht : TIn k ts) : cu pl ts = cu pl' ts /\ cr pl ts = cr pl' ts := by
  have h1 : ∀ t ∈ ts, okT pl t = okT pl' t /\ fi pl t = fi pl' t := fun t hm => by
    have a := qL h (s := t.Left) (fun e => ht t hm t.Left (by simp) e)
    have b := qL h (s := t.Right) (fun e => ht t hm t.Right (by simp) e)
    exact ⟨by unfold okT; rw [a.1, b.1], by unfold fi; rw [a.2, b.2]⟩
  refine ⟨?_, ?_⟩
  · unfold cu
    rw [List.filter_congr fun t hm => (h1 t hm).1]
    exact List.map_congr_left fun t hm => (h1 t (List.mem_filter.1 hm).1).2
  · unfold cr
    exact List.filter_congr fun t hm => by rw [(h1 t hm).1]
theorem AB (a b : List GAttr) : (wS a b).length = a.length := by simp [wS]
theorem Cm {p q : aG} {c : Int} (h0 : 0 <= c) (h1 : c < p.Attrs.length) : jb (wS p.Attrs q.Attrs) c = mZ p q c := by
  unfold jb mZ wS
  rw [iT (by omega)]
theorem kb (x : Gplanner) (k : Gnode) (ts : List GTest) : BB k.Plan ts = (fX x k ts).Plan := by
  unfold BB fX
  split <;> rfl
def smB (cols : List Int) (i : Nat) : Bool := (List.range i).all fun j => decide (nth cols j = j)
theorem yr (cols : List Int) (i : Nat) : smB cols (i + 1) = (smB cols i && decide (nth cols i = i)) := by unfold smB; rw [List.range_succ, List.all_append]; simp
theorem AC {s : GSchema} {l : Nat} {p : aG} (h : validM s l p = true) {i : Nat} (hi : i < p.Attrs.length) : columnL p.Attrs (nth p.Attrs i).Name = i := by
  cases l with
  | zero => simp [validM] at h
  | succ l =>
    simp only [validM, Bool.and_eq_true, List.all_eq_true, List.mem_range, ez, decide_eq_true_eq] at h
    exact h.1.2 i hi
theorem sd {x : Gplanner} {b l : Nat} {s : GSchema} {p : aG} {out : Gnode} (hv : validM s l p = true) (h : JnOk x b (nmL p.Attrs) out []) (hp : (nmL p.Attrs).Nodup) (he : ∀ n, n ∈ nmL out.Plan.Attrs ↔ n ∈ nmL p.Attrs) (ha : p.Attrs.length <= 1000) :
    smB (colsOf p out) (colsOf p out).length = eD (colsOf p out) := by
  have hcl : (colsOf p out).length = p.Attrs.length := by simp [colsOf]
  rw [Bool.eq_iff_iff]
  constructor
  · intro q
    simp only [smB, List.all_eq_true, List.mem_range, decide_eq_true_eq] at q
    simp only [eD, List.all_eq_true, List.mem_range, Bool.not_eq_true', decide_eq_false_iff_not]
    intro i hi
    rw [q i (by omega), q (i + 1) (by omega)]
    omega
  · intro q
    have ho := (oA h.o h.n hp he ha).2.1
    rw [show fY x p out = out from if_pos q] at ho
    simp only [smB, List.all_eq_true, List.mem_range, decide_eq_true_eq]
    intro i hi
    rw [hcl] at hi
    rw [show nth (colsOf p out) i = columnL out.Plan.Attrs (nth p.Attrs i).Name from iT hi, vO ho, AC hv hi]
theorem kc (l : List GAttr) (cols : List Int) (hc : d9 l.length cols) (hl : cols.length <= 1000000) : Fun1 prog 162 [tSl aS l, tSl bg cols] (tSl aS (bv l cols)) := (lg l cols hc hl).frz fun z => Frz.own
def wW (x : Gplanner) (n : Nat) : Prop := ∀ (l : Nat) (p : aG) (ts : List GTest), l <= 12 -> Dep n p -> validM x.s l p = true -> PSz p -> TIn p.Attrs.length ts -> ts.length + gQ n p <= 1000 -> Fun1 prog 97 [bO.ty p, tSl be ts, bA.ty x.st] (bO.ty (pushM x n p ts).Plan)
theorem uk (x : Gplanner) (hst : StOk x) (n : Nat) (ih : wW x n) (l : Nat) (p : aG) (ts : List GTest) (hl12 : l <= 12) (hd : Dep (n + 1) p) (hv : validM x.s l p = true) (hz : PSz p) (hk : p.Kind = 4) (ht : TIn p.Attrs.length ts) (hl : ts.length + gQ (n + 1) p <= 1000) : Fun1 prog 160 [bO.ty p, tSl be ts, bA.ty x.st] (bO.ty (fN x p (joinFold (pushM x n) p (inputsM (n + 1) p) ts)).Plan) := by
 refine Spec.enter func160 rfl rfl fun h0 w0 fr0 => ?_
 obtain ⟨i1, i2, i3, i4⟩ := io hd hv hz hk
 have hlv := mC (n := n + 1) hv
 have h2l : 2 ^ l <= 4096 := Nat.le_trans (Nat.pow_le_pow_right zG hl12) (Nat.le_refl (2 ^ 12))
 have hsz := il hz
 refine Jr (Zs (aJ (R := bO) Sr) (Zs (aJ (R := bA) Sr) ?_))
 refine Zx (aD (fun w => zeroValue46 w) fL) fun b6 => ?_
 refine ae (Jr (Zl ba Sr ?_))
 refine Zx (bz (Dz _) (li (n + 1) p hd hz zG) ⟨Sr, trivial⟩ call229) fun v16 => ?_
 refine Za (ae (Jr (Zm (Za (ae ?_)))))
 refine ar (Jr (Za (ae (av ?_))))
 refine aO (σ := Nat) (fun i => i <= (inputsM (n + 1) p).length) (fun i => upd (upd (upd (upd (upd (upd cg 3 (bx bO p)) 5 (bx bA x.st)) 6 (tAt b6 0)) 7 (rV.ty v16)) 8 (tSl be (joinFold (pushM x n) p ((inputsM (n + 1) p).take i) ts).2)) 9 (tV (.int .i64 i))) (fun i => [own 46 bO v16 (wV (joinFold (pushM x n) p ((inputsM (n + 1) p).take i) ts).1 (inputsM (n + 1) p)), box b6 46 bO GPl.zero]) (fun i => (inputsM (n + 1) p).length - i) 0 (by exact Nat.zero_le _) (zU) (zL) ?_
 rintro i hi
 refine ar (Jr (Zm (Zm ?_)))
 refine Zs (cj underlying42 Sr zS) ?_
 refine Zs (aA Sr Sr) (ae ?_)
 refine au Sr (fun h21 => ?_) (fun h21 => ?_)
 ·
  try simp only [NF] at h21
  have hil : (joinFold (pushM x n) p ((inputsM (n + 1) p).take i) ts).1.length = i := (gD hst hd hv hz hk ht hl i hi).1
  have hml := sc (ns := (joinFold (pushM x n) p ((inputsM (n + 1) p).take i) ts).1) (qs := (inputsM (n + 1) p)) zG
  have hlt : i < (inputsM (n + 1) p).length := by omega
  have hyi := aH hlt
  obtain ⟨f1, _, f3, f4, f5⟩ := gD hst hd hv hz hk ht hl i hi
  obtain ⟨q1, _, q3, q4, q5⟩ := i1 _ hyi
  obtain ⟨ly, hly, qv⟩ := hlv.1 _ hyi
  have hya := (il q3).2.2
  have hmy : nth (wV (joinFold (pushM x n) p ((inputsM (n + 1) p).take i) ts).1 (inputsM (n + 1) p)) i = (nth (inputsM (n + 1) p) i) := by have := Ay (ns := (joinFold (pushM x n) p ((inputsM (n + 1) p).take i) ts).1) (qs := (inputsM (n + 1) p)) zG; rw [hil] at this; exact this
  have hti : TIn (nth (inputsM (n + 1) p) i).Attrs.length (cu (mZ p (nth (inputsM (n + 1) p) i)) (joinFold (pushM x n) p ((inputsM (n + 1) p).take i) ts).2) := kW (fun c _ _ _ => (iY _ _).2) f4
  have hdl := d7 (mZ p (nth (inputsM (n + 1) p) i)) (joinFold (pushM x n) p ((inputsM (n + 1) p).take i) ts).2
  have hdv := qM (pl := jb (wS p.Attrs (nth (inputsM (n + 1) p) i).Attrs)) (pl' := mZ p (nth (inputsM (n + 1) p) i)) (fun c h0 h1 => Cm h0 h1) f4
  have hja := ir (pushM x n) p ((inputsM (n + 1) p).take i) (nth (inputsM (n + 1) p) i) ts
  rw [<- dM hlt] at hja
  refine ay (ar (av (Jr (Za (ae ?_)))))
  refine ar ?_
  refine cl [⟨0, [8], 0⟩, ⟨1, [3], 0⟩, ⟨2, [26], 0⟩, ⟨3, [7], 0⟩, ⟨4, [9], 0⟩, ⟨5, [28, 29], 1⟩, ⟨6, [30], 1⟩, ⟨7, [31], 1⟩, ⟨8, [27, 32], 0⟩, ⟨9, [25, 33], 0⟩, ⟨10, [34], 0⟩, ⟨11, [24], 0⟩, ⟨12, [24], 0⟩, ⟨13, [35], 0⟩, ⟨14, [36], 0⟩] rfl (by kernel_rfl) ?_
  refine ZX rfl (al Sr) ?_
  refine ZX rfl (aa aX Sr rfl) ?_
  refine ZX rfl (ab bQ Sr) ?_
  refine ZX rfl (al Sr) ?_
  refine ZX rfl (al Sr) ?_
  refine bW rfl rfl rfl rfl (bd (i := i) underlying42 ba Sr zS Sr (by rfl) zG) ?_
  refine bW rfl rfl rfl rfl (bV (i := i) aX Sr rfl zS zG) ?_
  refine bW rfl rfl rfl rfl (bh (B := tSl aS (nth (inputsM (n + 1) p) i).Attrs) (eM (i := i) bQ Sr rfl zS (gb zG)) (congrArg (tSl aS) (congrArg GPl.Attrs hmy))) ?_
  refine ZX rfl (ai (lh p.Attrs (nth (inputsM (n + 1) p) i).Attrs zG zG) ⟨Sr, Sr, trivial⟩ call230) ?_
  refine ZX rfl (bh (B := fA [tSl be (cu (mZ p (nth (inputsM (n + 1) p) i)) (joinFold (pushM x n) p ((inputsM (n + 1) p).take i) ts).2), tSl be (cr (mZ p (nth (inputsM (n + 1) p) i)) (joinFold (pushM x n) p ((inputsM (n + 1) p).take i) ts).2)]) (ai (mN (joinFold (pushM x n) p ((inputsM (n + 1) p).take i) ts).2 (wS p.Attrs (nth (inputsM (n + 1) p) i).Attrs) (by rw [AB]; exact f4) zG) ⟨Sr, Sr, trivial⟩ call163) (by rw [hdv.1, hdv.2])) ?_
  refine ZX rfl (al Sr) ?_
  refine ZX rfl (aM Sr rfl) ?_
  refine ZX rfl (aM Sr rfl) ?_
  refine ZX rfl (aW Sr) ?_
  refine ZX rfl (aW Sr) ?_
  refine cC ?_
  refine cl [⟨0, [7], 0⟩, ⟨1, [9], 0⟩, ⟨2, [7], 0⟩, ⟨3, [9], 0⟩, ⟨6, [10], 0⟩, ⟨7, [5], 0⟩, ⟨4, [39, 40], 1⟩, ⟨5, [41], 1⟩, ⟨8, [42, 43, 44], 0⟩, ⟨9, [37, 38], 1⟩, ⟨10, [45, 46], 2⟩] rfl (by kernel_rfl) ?_
  refine ZX rfl (al Sr) ?_
  refine ZX rfl (al Sr) ?_
  refine ZX rfl (al Sr) ?_
  refine ZX rfl (al Sr) ?_
  refine ZX rfl (al Sr) ?_
  refine ZX rfl (ab gh Sr) ?_
  refine bW rfl rfl rfl rfl (bd  underlying42 ba Sr zS Sr rfl (by first | assumption | omega)) ?_
  refine bW rfl rfl rfl rfl (bh (B := bO.ty (nth (inputsM (n + 1) p) i)) (dc (i := i) ba Sr zS (gb zG)) (by rw [hmy])) ?_
  refine ZX rfl (ai (ih ly (nth (inputsM (n + 1) p) i) (cu (mZ p (nth (inputsM (n + 1) p) i)) (joinFold (pushM x n) p ((inputsM (n + 1) p).take i) ts).2) zG q1 qv q3 hti zG) ⟨Sr, Sr, Sr, trivial⟩ call97) ?_
  refine bW rfl rfl rfl rfl (bd (i := i) underlying42 ba Sr zS Sr (by rfl) zG) ?_
  refine bI rfl rfl rfl (dK ba Sr Sr zS (by first | assumption | omega)) fun _ => ?_
  refine cC (aq (Zm (Zs (aB Sr Sr z6) (Za (ae ?_)))))
  refine aE (σ := Nat) (s := i) (i + 1) zO (by show i + 1 <= _; omega) (.u (SubE.upd (DE (by show tSl be (cr (mZ p (nth (inputsM (n + 1) p) i)) (joinFold (pushM x n) p ((inputsM (n + 1) p).take i) ts).2) = _; rw [hja])) (zU))) (.c zS (SPs.of (by rw [hja, <- Az zG, hil])) (zL))
 try simp only [NF] at h21
 have hil : (joinFold (pushM x n) p ((inputsM (n + 1) p).take i) ts).1.length = i := (gD hst hd hv hz hk ht hl i hi).1
 have hml := sc (ns := (joinFold (pushM x n) p ((inputsM (n + 1) p).take i) ts).1) (qs := (inputsM (n + 1) p)) zG
 obtain rfl : i = (inputsM (n + 1) p).length := by omega
 rw [List.take_length]
 have hJ := nM hst hd hv hz hk ht hl
 generalize (joinFold (pushM x n) p (inputsM (n + 1) p) ts) = st at hJ ⊢
 have hl0 := hJ.l2
 have hl1 := hJ.l
 have hcl := eE (f := fO) (l := st.1) zG
 have hpl : (st.1.map Gnode.Plan).length = st.1.length := List.length_map _
 refine aY (ar (ar ?_))
 refine bF (t := 7) (A' := tSl bO (st.1.map Gnode.Plan)) (Sel.take (Dz _)) (DO (AA hJ.l)) ?_
 refine aq (Zm (Zs (ah underlying42 Sr) (Zs (aC Sr Sr) (ae ?_))))
 refine au Sr (fun h49 => ?_) (fun h49 => ?_)
 ·
  try simp only [NF] at h49
  have h2 : st.1.length = 2 := by omega
  have hk0 := hJ.k _ (aH (l := st.1) (i := 0) zG)
  have hk1 := hJ.k _ (aH (l := st.1) (i := 1) zG)
  refine ar ?_
  refine bl [⟨0, [7], true⟩, ⟨1, [50], true⟩, ⟨2, [51], true⟩, ⟨3, [7], true⟩, ⟨4, [53], true⟩, ⟨5, [54], true⟩, ⟨6, [52, 55], true⟩, ⟨7, [8], true⟩, ⟨8, [56, 57], true⟩, ⟨9, [6, 58], false⟩] rfl (by kernel_rfl) ?_
  refine Zv rfl ?_
  refine Zf rfl (bh (B := bx bO (nth st.1 0).Plan) (ad (i := 0) underlying42 ba Sr Sr rfl (gb (by rw [List.length_map]; omega))) (by rw [iT zG])) ?_
  refine Zf rfl (ab ba Sr) (Zv rfl ?_)
  refine Zf rfl (bh (B := bx bO (nth st.1 1).Plan) (ad (i := 1) underlying42 ba Sr Sr rfl (gb (by rw [List.length_map]; omega))) (by rw [iT zG])) ?_
  refine Zf rfl (ab ba Sr) ?_
  refine Zf rfl (ai (f7 (nth st.1 0).Plan (nth st.1 1).Plan (by have := hk0.a; omega) (by have := hk1.a; omega)) ⟨Sr, Sr, trivial⟩ call231) ?_
  refine Zv rfl (Zf rfl (ai (fP (bw x (nth st.1 0) (nth st.1 1)).Plan st.2) ⟨Sr, Sr, trivial⟩ call159) ?_)
  refine cV rfl rfl rfl (aj ba Sr Sr zS) fun _ => ?_
  refine bj (aF ?_)
  refine aZ (rv := .cell 6 46) rfl () (Sel.all _) (.cell (R := bO) ba Sr zS Sr) (Frz.sub (DE (by rw [kb x, fN, if_pos h2])))
 try simp only [NF] at h49
 have h2 : ¬ st.1.length = 2 := by omega
 refine ay (Jr (Zm (Zl gh Sr ?_)))
 refine Zs (ai (sb x (nmL p.Attrs) st.1 ⟨hJ.many, hJ.k, by omega, by omega⟩) ⟨Sr, Sr, trivial⟩ call232) ?_
 refine Zx (aD (fun w => zeroValue46 w) fL) fun b11 => ?_
 refine Ju (aj ba Sr Sr zS) fun _ => ?_
 refine ae (ar ?_)
 have hjn := qj x hJ.many (n := st.1.length) (by show _ <= st.1.length; omega)
 have hmem := hJ.mem
 generalize hch : (d5 x st.1.length (bC fO st.1).1 (bC fO st.1).2) = out at hjn hmem ⊢
 have hof := mB hjn hJ.nd hmem hsz.2.2
 have hcol : (colsOf p out).length = p.Attrs.length := by simp [colsOf]
 have hsm := sd hv hjn hJ.nd hmem hsz.2.2
 refine aq (Zs (aa aX Sr rfl) (Zl bQ Sr (Zs (aP aX Sr rfl) ?_)))
 refine Zs (aQ bQ Sr rfl zS) ?_
 refine Zs (ai (lh p.Attrs out.Plan.Attrs zG (by have := hjn.o.a; omega)) ⟨Sr, Sr, trivial⟩ call230) ?_
 refine Za (ae (Jr (Za (ae (ar ?_)))))
 refine Jr (Za (ae (av ?_)))
 refine aO (σ := Nat) (fun i => i <= (colsOf p out).length) (fun i => upd (upd (upd (upd (upd (upd cg 6 (tAt b6 0)) 8 (tSl be st.2)) 11 (tAt b11 0)) 12 (tSl bg (colsOf p out))) 13 (tV (.bool (smB (colsOf p out) i)))) 14 (tV (.int .i64 i))) (fun i => [box b11 46 bO out.Plan, box b6 46 bO GPl.zero]) (fun i => (colsOf p out).length - i) 0 (by exact Nat.zero_le _) (zU) (zL) ?_
 rintro i hi
 refine ar (Jr (Zm (Zm (Zs (ah underlying36 Sr) (Zs (aA Sr Sr) ?_)))))
 refine ae ?_
 refine au Sr (fun h70 => ?_) (fun h70 => ?_)
 ·
  try simp only [NF] at h70
  have hlt : i < (colsOf p out).length := by omega
  refine ay (ar (av (aq (Zm (Zm ?_)))))
  refine Zk (al Sr) ?_
  refine Zk (al Sr) ?_
  refine Zg (fun hw => ad (i := i) underlying36 ty3 (Sub.w hw) (Sub.w hw) (by rfl) (gb (by have hwq := hw; (try simp only [beqB_t, beqB_f, NF] at hwq); exact hlt))) ?_
  refine Zg (fun hw => ab ty3 (Sub.w hw)) ?_
  refine Zk (al Sr) ?_
  refine Zg (fun hw => aC (Sub.w hw) (Sub.w hw)) (Zs (aw Sr Sr) (Za (ae (aq (Zm ?_)))))
  refine Zs (aB Sr Sr z6) (Za (ae ?_))
  refine aE (σ := Nat) (s := i) (i + 1) zO (by show i + 1 <= _; omega) (.u (SubE.upd (Sub.bool (by rw [yr]; try rfl)) (zU))) (zL)
 try simp only [NF] at h70
 obtain rfl : i = (colsOf p out).length := by omega
 refine aY (ar (Jr (Zm (Zs (bf Sr) (ae ?_)))))
 refine au Sr (fun h83 => ?_) (fun h83 => ?_)
 ·
  try simp only [NF] at h83
  have hs : eD (colsOf p out) = false := by rw [<- hsm]; simpa using h83
  have hor : fY x p out = makeM x (GPl.mk 3 0 [] [] (colsOf p out) 0 0 (bv out.Plan.Attrs (colsOf p out))) [out] := if_neg (by simp [hs])
  refine cl [⟨2, [12], 0⟩, ⟨3, [11], 0⟩, ⟨5, [12], 0⟩, ⟨0, [11], 1⟩, ⟨1, [84], 0⟩, ⟨4, [87], 1⟩, ⟨6, [88, 89], 0⟩, ⟨7, [85, 86, 90], 0⟩, ⟨8, [11, 91], 2⟩] rfl (by kernel_rfl) ?_
  refine ZX rfl (al Sr) ?_
  refine ZX rfl (aP aX Sr rfl) ?_
  refine ZX rfl (al Sr) ?_
  refine bW rfl rfl rfl rfl (aN ba Sr zS) ?_
  refine ZX rfl (ax (ys := [out.Plan]) underlying42 jR ⟨rfl, Sr, trivial⟩ rfl (by decide)) ?_
  refine bW rfl rfl rfl rfl (aQ bQ Sr rfl zS) ?_
  refine ZX rfl (ai (kc out.Plan.Attrs (colsOf p out) hof.2.2.1 (by rw [hcol]; omega)) ⟨Sr, Sr, trivial⟩ call162) ?_
  refine ZX rfl (aU (x := ((GPl.mk 3 0 [out.Plan] [] (colsOf p out) 0 0 (bv out.Plan.Attrs (colsOf p out))) : aG)) (zs := [[Value.int .i64 0], [Value.int .i64 0], [Value.slice none 0 0], [Value.slice none 0 0], [Value.slice none 0 0], [Value.int .i64 0], [Value.int .i64 0], [Value.slice none 0 0]]) aX (fun w => zeroValue46 w) ⟨Sr, DZ, Sr, Sr, trivial⟩ ⟨⟨Sr, rfl⟩, fun _ => rfl, ⟨DZ, rfl⟩, fun _ => ⟨_, rfl, none, ⟨0, Nat.le_refl _⟩, rfl, fun q => absurd rfl q⟩, ⟨Sr, rfl⟩, fun _ => rfl, fun _ => rfl, ⟨Sr, rfl⟩, trivial⟩) ?_
  refine bI rfl rfl rfl (aj ba Sr Sr zS) fun _ => ?_
  refine cC (Jr ?_)
  refine Zs (aN ba Sr zS) ?_
  refine Zm ?_
  refine Zs (ai (fP (fY x p out).Plan st.2) ⟨DE (by rw [hor]; rfl), Sr, trivial⟩ call159) ?_
  refine Ju (aj ba Sr Sr zS) fun _ => ?_
  refine ae (aF ?_)
  refine aZ (rv := .cell 6 46) rfl () (Sel.all _) (.cell (R := bO) ba Sr zS Sr) (Frz.sub (DE (by rw [kb x, fN, if_neg h2, hch])))
 try simp only [NF] at h83
 have hs : eD (colsOf p out) = true := by rw [<- hsm]; simpa using h83
 have hor : fY x p out = out := if_pos hs
 refine ay (Jr ?_)
 refine Zs (aN ba Sr zS) ?_
 refine Zm ?_
 refine Zs (ai (fP (fY x p out).Plan st.2) ⟨DE (by rw [hor]; rfl), Sr, trivial⟩ call159) ?_
 refine Ju (aj ba Sr Sr zS) fun _ => ?_
 refine ae (aF ?_)
 refine aZ (rv := .cell 6 46) rfl () (Sel.all _) (.cell (R := bO) ba Sr zS Sr) (Frz.sub (DE (by rw [kb x, fN, if_neg h2, hch])))
theorem Step.freeze {X : Type} {C : Cx} {o : Oper} {E : Env} {L S R : List SP} {A : X -> Ty} {L' : X -> List SP} {t : Nat} {A' : Ty} (sel : Sel L S R) (f : Frz S (E t) A') (h : Step C o (upd E t A') R A L') : Step C o E L A L' :=
 fun a w hp m n l sp st fr next Q hk => by
 obtain ⟨m1, m2, d12, rfl, s1, s2⟩ := sel.stars.1 st
 have hd := PH.disj_join'.1 sp.hm
 have hle := Dy hp m1
 refine h a w (hp.join m1) m2 n (HL.trans l ⟨hle, Same.refl _⟩) (sp.freeze d12) ((stars R).mono hle s2) (fun u => ?_) next Q fun x v w' h' m' l' sp' st' hv => hk x v w' h' m' (HL.trans ⟨hle, Same.refl _⟩ l') sp' st' hv
 unfold upd
 by_cases e : Nat.beq u t = true
 · obtain rfl := Nat.eq_of_beq_eq_true e
   simp only [e, if_true]
   exact f hp m1 _ hd.1 s1 (fr u)
 · simp only [e]
   exact (E u).mono hle (fr u)
theorem Frz.own0 {α : Type} {e : Nat} {R : Rp α} {v : Value} {xs : List α} {S : List SP} : Frz (Lg.own0 e R v xs :: S) (rV.ty v) (tSl R xs) := fun h m u d hs hu => Frz.own0V h m u d hs hu.1
theorem Frz.own0' {α : Type} {e : Nat} {R : Rp α} {v : Value} {xs ys : List α} {S : List SP} (h : xs = ys) : Frz (Lg.own0 e R v xs :: S) (rV.ty v) (tSl R ys) := h ▸ Frz.own0
theorem gG {C : Cx} {o : Oper} {E : Env} {L : List SP} {A B : Ty} (h : bs C o E L A) (s : Sub A B) : bs C o E L B := fun a w hp m n l sp st fr next Q hk =>
  h a w hp m n l sp st fr next Q fun x v w' h' m' l' sp' st' hv => hk x v w' h' m' l' sp' st' (s _ _ hv)
theorem SPs.own0 {α : Type} {e : Nat} {R : Rp α} {v : Value} {xs : List α} (hne : xs ≠ []) : SPs (Lg.own0 e R v xs) (own e R v xs) := fun h m ho => ho.elim id (fun q => absurd q.1 hne)
theorem Ek {b : Nat} {a1 a2 : Int} {a3 : List aG} {a4 : List GTest} {a5 : List Int} {a6 a7 : Int} {v : Value} {at' : List GAttr} : Frz2 [Lg.box b 46 kH ⟨a1, a2, a3, a4, a5, a6, a7, .raw v⟩, Lg.own 89 aS v at'] (Lg.box b 46 bO (GPl.mk a1 a2 a3 a4 a5 a6 a7 at')) :=
  Frz2.box (fs := fk) (S := [Lg.own 89 aS v at']) (x := (⟨a1, a2, a3, a4, a5, a6, a7, .raw v⟩ : GPlO)) fun h m cs d st r => by
    have hv := D6 h m v d st rfl
    refine sa (kH.mono (Dy h m) r) fun u hu => ?_
    obtain ⟨rfl, _⟩ := (show (rV.ty v).p (h.join m) u from hu)
    exact hv
theorem Frz2.plO {b : Nat} {a1 a2 : Int} {a3 : List aG} {a4 : List GTest} {a5 : List Int} {a6 a7 : Int} {v : Value} {at' : List GAttr} : Frz2 [Lg.own 89 aS v at', Lg.box b 46 kH ⟨a1, a2, a3, a4, a5, a6, a7, .raw v⟩] (Lg.box b 46 bO (GPl.mk a1 a2 a3 a4 a5 a6 a7 at')) := fun h m d st =>
  Ek h m d (LSub.swap h m st)
section
variable {x : Gplanner} {n : Nat} {p : aG} {ts : List GTest}
theorem AD {pl : Int -> Int} {k : Nat} (h : ∀ c : Int, 0 <= c -> c < (k : Int) -> 0 <= pl c) (ht : TIn k ts) : ts.map (fi pl) = cu pl ts := by
  unfold cu
  rw [List.filter_eq_self.2 fun t hm => ?_]
  have one : ∀ s : GSide, (s.Var = 0 -> 0 <= s.Col /\ s.Col < k) -> okS pl s = true := fun s hs => by
    unfold okS
    by_cases hv : s.Var = 0
    · have := hs hv; simp [hv, h _ this.1 this.2]
    · simp [hv]
  unfold okT
  rw [one _ (fun e => ht t hm t.Left (by simp) e), one _ (fun e => ht t hm t.Right (by simp) e)]; rfl
theorem Cn {c : Int} (h0 : 0 <= c) (h1 : c < ((p.Cols.length + 1 : Nat) : Int)) : jb (p.Cols ++ [-1]) c = gH p c := by
  unfold jb gH
  by_cases h : c < p.Cols.length
  · rw [if_pos h, cR (by omega)]
  · rw [if_neg h, jG (by omega) (by simp; omega)]
    rw [show c.toNat - p.Cols.length = 0 by omega]; rfl
end
theorem ul {α β : Type} [Inhabited α] {f : α -> β} {l : List α} {i : Nat} (h : i < l.length) : (l.take (i + 1)).map f = (l.take i).map f ++ [f (nth l i)] := by rw [dM h, List.map_append]; rfl
theorem sf (x : Gplanner) (hst : StOk x) (n : Nat) (ih : wW x n) (l : Nat) (p : aG) (ts : List GTest) (hl12 : l <= 12) (hd : Dep (n + 1) p) (hv : validM x.s l p = true) (hz : PSz p) (ht : TIn p.Attrs.length ts) (hl : ts.length + gQ (n + 1) p <= 1000) : Fun1 prog 97 [bO.ty p, tSl be ts, bA.ty x.st] (bO.ty (pushM x (n + 1) p ts).Plan) := by
 refine Spec.enter func97 rfl rfl fun h0 w0 fr0 => ?_
 obtain ⟨l', hll, hkd, hkn, hkv, _⟩ := dE hv
 have hsz := il hz
 have hps : ∀ q ∈ p.Kids, p.Tests.length + gQ n q <= gQ (n + 1) p := fun q hq => jV hq
 have IH : ∀ i, i < p.Kids.length -> ∀ ts', TIn (nth p.Kids i).Attrs.length ts' -> ts'.length <= ts.length + p.Tests.length -> Fun1 prog 97 [bO.ty (nth p.Kids i), tSl be ts', bA.ty x.st] (bO.ty (pushM x n (nth p.Kids i) ts').Plan) := fun i hi ts' h1 h2 => ih l' _ ts' zG (hd _ (aH hi)) (hkv _ (aH hi)) (fj hz (aH hi)).1 h1 (by have := hps _ (aH hi); omega)
 have IP : ∀ i, i < p.Kids.length -> ∀ ts', TIn (nth p.Kids i).Attrs.length ts' -> ts'.length <= ts.length + p.Tests.length -> PI x 1000 (pushM x n (nth p.Kids i) ts') /\ nmL (pushM x n (nth p.Kids i) ts').Plan.Attrs = nmL (nth p.Kids i).Attrs := fun i hi ts' h1 h2 => by
  have h3 := hps _ (aH hi)
  obtain ⟨h4, h5⟩ := mo hst n (hd _ (aH hi)) (hkv _ (aH hi)) (fj hz (aH hi)).1 h1 zG
  exact ⟨h4.le zG, h5⟩
 have hdiv : ∀ pl, (cu pl ts).length <= ts.length /\ (cr pl ts).length <= ts.length := fun pl => by have := d7 pl ts; omega
 refine Jr (Zs (aJ (R := bO) Sr) (Zs (aJ (R := bA) Sr) ?_))
 refine Zx (aD (fun w => zeroValue46 w) fL) fun b6 => ?_
 refine ae (Jr (Zs (aa aX Sr rfl) (Zl ty3 Sr (Zs (aU (x := (⟨p.Kind, 0, [], [], [], 0, 0, .imm []⟩ : GPlO)) (zs := [[Value.int .i64 0], [Value.int .i64 0], [Value.slice none 0 0], [Value.slice none 0 0], [Value.slice none 0 0], [Value.int .i64 0], [Value.int .i64 0], [Value.slice none 0 0]]) BA (fun w => zeroValue46 w) ⟨Sr, trivial⟩ ⟨⟨Sr, rfl⟩, fun _ => rfl, fun _ => ⟨_, rfl, none, ⟨0, Nat.le_refl _⟩, rfl, fun q => absurd rfl q⟩, fun _ => ⟨_, rfl, none, ⟨0, Nat.le_refl _⟩, rfl, fun q => absurd rfl q⟩, fun _ => ⟨_, rfl, none, ⟨0, Nat.le_refl _⟩, rfl, fun q => absurd rfl q⟩, fun _ => rfl, fun _ => rfl, fun _ => ⟨_, rfl, none, ⟨0, Nat.le_refl _⟩, rfl, fun q => absurd rfl q⟩, trivial⟩) ?_))))
 refine Zx (aD (fun w => zeroValue46 w) Au) fun b7 => ?_
 refine Ju (aj (R := kH) ni Sr Sr zS) fun _ => ?_
 refine ae (ar (Jr (Zs (aa aX Sr rfl) (Zl ty3 Sr (ae ?_)))))
 refine av (Jr (Zs (aC Sr Sr) (Za (ae ?_))))
 refine au Sr (fun h19 => ?_) (fun h19 => ?_)
 ·
  try simp only [NF] at h19
  have h19 : p.Kind = 1 := h19
  refine Jr (Zs (aa aX Sr rfl) (Zl ty3 Sr (Zs (ap (o := 0) (o' := 1) aX Sr rfl rfl) ?_)))
  refine Ju (aI (b := b7) (n := 1) (fs := fk) (R := bg) (y' := (⟨p.Kind, p.Table, [], [], [], 0, 0, .imm []⟩ : GPlO)) ty3 Sr Sr zS (by exact ⟨rfl, ⟨fun _ _ q => q, rfl, by intro g hg; simp only [List.mem_cons, List.not_mem_nil, or_false] at hg; rcases hg with rfl | rfl | rfl | rfl | rfl | rfl <;> rfl⟩⟩)) fun _ => ?_
  refine ae (Jr (Zs (aa aX Sr rfl) (Zl bQ Sr (Zs (ap (o := 0) (o' := 7) aX Sr rfl rfl) ?_))))
  refine Ju (aI (b := b7) (n := 7) (fs := fk) (R := (rSl aS)) (y' := (⟨p.Kind, p.Table, [], [], [], 0, 0, .imm p.Attrs⟩ : GPlO)) bQ Sr Sr zS (by exact ⟨rfl, ⟨rfl, ⟨rfl, ⟨rfl, ⟨rfl, ⟨rfl, ⟨rfl, ⟨fun _ _ q => D8 q, rfl, by intro g hg; cases hg⟩⟩⟩⟩⟩⟩⟩⟩)) fun _ => ?_
  refine ae (Jr ?_)
  refine Zs (aN (R := kH) ni Sr zS) ?_
  refine Zm (Zs (ai (fP (GPl.mk p.Kind p.Table [] [] [] 0 0 p.Attrs) ts) ⟨Sub.plO rfl, Sr, trivial⟩ call159) ?_)
  refine Ju (aj ba Sr (by first | exact Sr | exact Sub.plO rfl) zS) fun _ => ?_
  refine ae (aF ?_)
  refine aZ (rv := .cell 6 46) rfl () (Sel.all _) (.cell (R := bO) ba Sr zS Sr) (Frz.sub (DE (congrArg bO.ty ((kb x (makeM x (GPl.mk p.Kind p.Table [] [] [] 0 0 p.Attrs) []) ts).trans (by simp [pushM, h19] <;> rfl)))))
 try simp only [NF] at h19
 refine Jr (Zs (aC Sr Sr) (Za (ae ?_)))
 refine au Sr (fun h30 => ?_) (fun h30 => ?_)
 ·
  try simp only [NF] at h30
  have h30 : p.Kind = 2 := h30
  have hin := qk hv ht h30
  have hk0 := hin.1
  refine ar ?_
  refine cl [⟨0, [3], 0⟩, ⟨1, [32], 0⟩, ⟨2, [33], 0⟩, ⟨3, [34], 0⟩, ⟨4, [], 0⟩, ⟨5, [3], 0⟩, ⟨6, [37], 0⟩, ⟨8, [1], 0⟩, ⟨10, [5], 0⟩, ⟨7, [36, 38], 2⟩, ⟨9, [39, 40], 2⟩, ⟨11, [35, 41, 42], 2⟩, ⟨12, [6, 43], 2⟩] rfl (by kernel_rfl) ?_
  refine ZX rfl (aa aX Sr rfl) ?_
  refine ZX rfl (ab dQ Sr) ?_
  refine ZX rfl (ad (i := 0) underlying42 eO Sr Sr rfl (gb hk0)) ?_
  refine ZX rfl (ab ba DQ) ?_
  refine ZX rfl (dJ (R := be) underlying43 pr) ?_
  refine ZX rfl (aa aX Sr rfl) ?_
  refine ZX rfl (ab iN Sr) ?_
  refine ZX rfl (al Sr) ?_
  refine ZX rfl (ab gh Sr) ?_
  refine dq rfl rfl rfl rfl (dv underlying43 pr Sr Sr (by show p.Tests.length * _ <= _; omega) (by show p.Tests.length <= _; omega)) fun v39 => ?_
  refine dq rfl rfl rfl rfl (iy underlying43 pr Sr Sr zS (by show (p.Tests.length + ts.length) * _ <= _; omega) (by show p.Tests.length + ts.length <= _; omega)) fun v41 => ?_
  refine dq rfl rfl rfl rfl (Step.freeze (t := 41) (A' := tSl be (p.Tests ++ ts)) (Sel.take (Dz _)) Frz.own0 (ai (IH 0 hk0 (p.Tests ++ ts) hin.2 (by rw [List.length_append]; omega)) ⟨Sr, Sr, Sr, trivial⟩ call97)) fun _ => ?_
  refine bI rfl rfl rfl (aj ba Sr (by first | exact Sr | exact Sub.plO rfl) zS) fun _ => ?_
  refine cC (aF ?_)
  refine aZ (rv := .cell 6 46) rfl () (Sel.all _) (.cell (R := bO) ba Sr zS Sr) (Frz.sub (DE (by simp [pushM, h30])))
 try simp only [NF] at h30
 refine Jr (Zs (aC Sr Sr) (Za (ae ?_)))
 refine au Sr (fun h44 => ?_) (fun h44 => ?_)
 ·
  try simp only [NF] at h44
  have h44 : p.Kind = 4 := h44
  refine Jr (Zl ba Sr (Zm (Zl gh Sr (Zs (ai (uk x hst n ih l p ts hl12 hd hv hz h44 ht hl) ⟨Sr, Sr, Sr, trivial⟩ call160) ?_))))
  refine Ju (aj ba Sr (by first | exact Sr | exact Sub.plO rfl) zS) fun _ => ?_
  refine ae (aF ?_)
  refine aZ (rv := .cell 6 46) rfl () (Sel.all _) (.cell (R := bO) ba Sr zS Sr) (Frz.sub (DE (by simp [pushM, h44])))
 try simp only [NF] at h44
 refine Jr (Zs (aC Sr Sr) (Za (ae ?_)))
 refine au Sr (fun h50 => ?_) (fun h50 => ?_)
 ·
  try simp only [NF] at h50
  have h50 : p.Kind = 3 := h50
  have hin := wp hv ht h50
  have hk0 := hin.1
  have hip := IP 0 hk0 _ hin.2.2 (by have := hdiv (pc p); omega)
  have hcl3 := (vk3 hv h50).2.1
  have hda := AD (pl := pc p) (k := p.Attrs.length) (fun c h1 h2 => (hcl3 _ (aH (by have := hin.2.1; omega))).1) ht
  refine ar ?_
  refine cl [⟨0, [3], 0⟩, ⟨1, [52], 0⟩, ⟨2, [53], 0⟩, ⟨3, [54], 0⟩, ⟨4, [1], 0⟩, ⟨5, [3], 0⟩, ⟨6, [57], 0⟩, ⟨7, [56, 58], 0⟩, ⟨8, [5], 0⟩, ⟨9, [55, 59, 60], 0⟩, ⟨10, [], 2⟩, ⟨11, [8, 61], 2⟩] rfl (by kernel_rfl) ?_
  refine ZX rfl (aa aX Sr rfl) ?_
  refine ZX rfl (ab dQ Sr) ?_
  refine ZX rfl (ad (i := 0) underlying42 eO Sr Sr rfl (gb hk0)) ?_
  refine ZX rfl (ab ba DQ) ?_
  refine ZX rfl (al Sr) ?_
  refine ZX rfl (aa aX Sr rfl) ?_
  refine ZX rfl (ab bY Sr) ?_
  refine ZX rfl (bh (B := tSl be (cu (pc p) ts)) (ai (wR ts p.Cols (by rw [<- hin.2.1]; exact ht) zG) ⟨Sr, Sr, trivial⟩ call161) (by rw [<- hda]; rfl)) ?_
  refine ZX rfl (ab gh Sr) ?_
  refine ZX rfl (ai (IH 0 hk0 (cu (pc p) ts) hin.2.2 (by have := hdiv (pc p); omega)) ⟨Sr, Sr, Sr, trivial⟩ call97) ?_
  refine dq rfl rfl rfl rfl (aD (fun w => zeroValue46 w) fL) fun b8 => ?_
  refine bI rfl rfl rfl (aj ba Sr Sr zS) fun _ => ?_
  refine cC ?_
  generalize hkd : (pushM x n (nth p.Kids 0) (cu (pc p) ts)) = kid at hip ⊢
  have hpf := nN hv hz h50 hip.1 hip.2
  refine Jr (Zs (aa aX Sr rfl) (Zl bY Sr (Zs (ap (o := 0) (o' := 4) aX Sr rfl rfl) ?_)))
  refine Ju (aI (b := b7) (n := 4) (fs := fk) (R := (rSl bg)) (y' := (⟨p.Kind, 0, [], [], p.Cols, 0, 0, .imm []⟩ : GPlO)) bY Sr Sr zS (by exact ⟨rfl, ⟨rfl, ⟨rfl, ⟨rfl, ⟨fun _ _ q => q, rfl, by intro g hg; simp only [List.mem_cons, List.not_mem_nil, or_false] at hg; rcases hg with rfl | rfl | rfl <;> rfl⟩⟩⟩⟩⟩)) fun _ => ?_
  refine ae (Jr (Zs (aP aX Sr rfl) ?_))
  refine Zs (aQ bQ Sr rfl zS) ?_
  refine Zs (aa aX Sr rfl) (Zl bY Sr (Zs (ai (kc kid.Plan.Attrs p.Cols hpf.1 zG) ⟨Sr, Sr, trivial⟩ call162) (Zs (ap (o := 0) (o' := 7) aX Sr rfl rfl) ?_)))
  refine Ju (aI (b := b7) (n := 7) (fs := fk) (R := (rSl aS)) (y' := (⟨p.Kind, 0, [], [], p.Cols, 0, 0, .imm (bv kid.Plan.Attrs p.Cols)⟩ : GPlO)) bQ Sr Sr zS (by exact ⟨rfl, ⟨rfl, ⟨rfl, ⟨rfl, ⟨rfl, ⟨rfl, ⟨rfl, ⟨fun _ _ q => D8 q, rfl, by intro g hg; cases hg⟩⟩⟩⟩⟩⟩⟩⟩)) fun _ => ?_
  refine ae (ar (Jr (Zs (aP aX Sr rfl) ?_)))
  refine Zs (aQ ty3 Sr rfl zS) ?_
  refine Zs (aC Sr Sr) (ae ?_)
  refine au Sr (fun h73 => ?_) (fun h73 => ?_)
  ·
   try simp only [NF] at h73
   have h73 : kid.Plan.Kind = 3 := h73
   have hpk := hpf.2.2 h73
   refine Jr (Za (ae (ar (Jr (Za ?_)))))
   refine ae (av ?_)
   refine aO (σ := Nat × Value) (fun ⟨i, vo⟩ => i <= p.Cols.length) (fun ⟨i, vo⟩ => upd (upd (upd (upd (upd (upd (upd (upd cg 1 (tSl be ts)) 3 (bx bO p)) 5 (bx bA x.st)) 6 (tAt b6 0)) 7 (tAt b7 0)) 8 (tAt b8 0)) 9 (rV.ty vo)) 10 (tV (.int .i64 i))) (fun ⟨i, vo⟩ => [own 3 bg vo ((p.Cols.take i).map fun c => nth kid.Plan.Cols c.toNat), box b8 46 bO kid.Plan, box b7 46 kH (⟨p.Kind, 0, [], [], p.Cols, 0, 0, .imm (bv kid.Plan.Attrs p.Cols)⟩ : GPlO), box b6 46 bO GPl.zero]) (fun ⟨i, vo⟩ => p.Cols.length - i) (0, .slice none 0 0) (by exact Nat.zero_le _) (.u (SubE.upd (DG rfl) (zU))) (LSub.trans (DB (e := 3) (R := bg)) (zL)) ?_
   rintro ⟨i, vo⟩ hi
   try dsimp only at hi
   refine ar (Jr (Zm (Zs (aa aX Sr rfl) (Zl bY Sr (Zs (ah underlying36 Sr) ?_)))))
   refine Zs (aA Sr Sr) (ae ?_)
   refine au Sr (fun h78 => ?_) (fun h78 => ?_)
   ·
    try simp only [NF] at h78
    have hlt : i < p.Cols.length := by omega
    have hci := hpk.2.2.1 _ (aH hlt)
    refine ay (ar (av ?_))
    refine om [box b8 46 bO kid.Plan, box b7 46 kH (⟨p.Kind, 0, [], [], p.Cols, 0, 0, .imm (bv kid.Plan.Attrs p.Cols)⟩ : GPlO), box b6 46 bO GPl.zero] [⟨0, [9], 0⟩, ⟨1, [8], 0⟩, ⟨2, [82], 1⟩, ⟨3, [3], 0⟩, ⟨4, [84], 0⟩, ⟨5, [10], 0⟩, ⟨6, [85, 86], 0⟩, ⟨7, [87], 0⟩, ⟨8, [83, 88], 0⟩, ⟨9, [89], 0⟩, ⟨10, [90], 0⟩] [⟨11, [81, 91], 92, own 3 bg vo ((p.Cols.take i).map fun c => nth kid.Plan.Cols c.toNat), fun v => rV.ty v, fun v => own 3 bg v (((p.Cols.take i).map fun c => nth kid.Plan.Cols c.toNat) ++ [nth kid.Plan.Cols (nth p.Cols i).toNat])⟩] [⟨12, [92], 0⟩] (L := []) (zL) rfl (by kernel_rfl) (Nat.le_of_ble_eq_true rfl) ?_
    refine bN rfl rfl rfl rfl (fun _ => al Sr) ?_
    refine bN rfl rfl rfl rfl (fun _ => aP aX Sr rfl) ?_
    refine kx rfl rfl rfl rfl (fun _ => aQ bY Sr rfl zS) ?_
    refine bN rfl rfl rfl rfl (fun _ => aa aX Sr rfl) ?_
    refine bN rfl rfl rfl rfl (fun _ => ab bY Sr) ?_
    refine bN rfl rfl rfl rfl (fun _ => al Sr) ?_
    refine bN rfl rfl rfl rfl (fun _ => ad (i := i) underlying36 ty3 Sr Sr (by rfl) (gb (by exact hlt))) ?_
    refine bN rfl rfl rfl rfl (fun _ => ab ty3 Sr) ?_
    refine bN rfl rfl rfl rfl (fun _ => ad (i := (nth p.Cols i).toNat) underlying36 ty3 Sr Sr (by show nth p.Cols i = _; omega) (gb (by show _ < kid.Plan.Cols.length; omega))) ?_
    refine bN rfl rfl rfl rfl (fun _ => ab ty3 Sr) ?_
    refine bN rfl rfl rfl rfl (fun _ => ax (ys := [nth kid.Plan.Cols (nth p.Cols i).toNat]) underlying36 el3 ⟨rfl, Sr, trivial⟩ rfl (by decide)) ?_
    refine nE ?_
    refine ⟨⟨_, rfl, rfl, rfl, rfl, fun _ => aL underlying36 el3 Sr Sr zS zB9 zB9⟩, fun v92 => ?_⟩
    refine pQ ?_
    refine ZX rfl (aW Sr) ?_
    refine cC (aq (Zm (Zs (aB Sr Sr z6) (Za (ae ?_)))))
    refine aE (σ := Nat × Value) (s := (i, vo)) (i + 1, v92) zO (by show i + 1 <= _; omega) (zU) (.c zS (SPs.of (A := own 3 bg v92 (((p.Cols.take i).map fun c => nth kid.Plan.Cols c.toNat) ++ [nth kid.Plan.Cols (nth p.Cols i).toNat])) (by rw [ul hlt])) (zL))
   try simp only [NF] at h78
   obtain rfl : i = p.Cols.length := by omega
   refine aY (ar ?_)
   refine bF (t := 9) (A' := tSl bg (p.Cols.map fun c => nth kid.Plan.Cols c.toNat)) (Sel.take (Dz _)) (DO (by rw [List.take_length])) ?_
   refine aq (Zm (Zs (ap (o := 0) (o' := 4) aX Sr rfl rfl) ?_))
   refine Ju (aI (b := b7) (n := 4) (fs := fk) (R := (rSl bg)) (y' := (⟨p.Kind, 0, [], [], (p.Cols.map fun c => nth kid.Plan.Cols c.toNat), 0, 0, .imm (bv kid.Plan.Attrs p.Cols)⟩ : GPlO)) bY Sr Sr zS (by exact ⟨rfl, ⟨rfl, ⟨rfl, ⟨rfl, ⟨fun _ _ q => q, rfl, by intro g hg; simp only [List.mem_cons, List.not_mem_nil, or_false] at hg; rcases hg with rfl | rfl | rfl <;> rfl⟩⟩⟩⟩⟩)) fun _ => ?_
   refine ae (aq (Zs (aP aX Sr rfl) ?_))
   refine Zs (aQ dQ Sr rfl zS) ?_
   refine Zs (ad (i := 0) underlying42 eO Sr Sr rfl (gb hpk.1)) (Zs (ab ba DQ) ?_)
   refine Ju (aj ba Sr Sr zS) fun _ => ?_
   refine ae (Jr ?_)
   refine Zs (aN ba Sr zS) ?_
   refine Zs (gG (ax (ys := [(nth kid.Plan.Kids 0)]) underlying42 jR ⟨rfl, Sr, trivial⟩ rfl (by decide)) DZ) ?_
   refine Zs (ap (o := 0) (o' := 2) aX Sr rfl rfl) ?_
   refine Ju (aI (b := b7) (n := 2) (fs := fk) (R := (rSl dZ)) (y' := (⟨p.Kind, 0, [nth kid.Plan.Kids 0], [], (p.Cols.map fun c => nth kid.Plan.Cols c.toNat), 0, 0, .imm (bv kid.Plan.Attrs p.Cols)⟩ : GPlO)) dQ Sr Sr zS (by exact ⟨rfl, ⟨rfl, ⟨fun _ _ q => q, rfl, by intro g hg; simp only [List.mem_cons, List.not_mem_nil, or_false] at hg; rcases hg with rfl | rfl | rfl | rfl | rfl <;> rfl⟩⟩⟩)) fun _ => ?_
   refine ae (Jr ?_)
   refine Zs (aN (R := kH) ni Sr zS) ?_
   refine Ju (aj ba Sr (by first | exact Sr | exact Sub.plO rfl) zS) fun _ => ?_
   refine ae (aF ?_)
   refine aZ (rv := .cell 6 46) rfl () (Sel.all _) (.cell (R := bO) ba Sr zS Sr) (Frz.sub (DE (by simp [pushM, h50, hkd, rI, h73, makeM, cP] <;> rfl)))
  try simp only [NF] at h73
  have h73 : ¬ kid.Plan.Kind = 3 := h73
  refine ay (Jr ?_)
  refine Zs (aN ba Sr zS) ?_
  refine Zs (gG (ax (ys := [kid.Plan]) underlying42 jR ⟨rfl, Sr, trivial⟩ rfl (by decide)) DZ) ?_
  refine Zs (ap (o := 0) (o' := 2) aX Sr rfl rfl) ?_
  refine Ju (aI (b := b7) (n := 2) (fs := fk) (R := (rSl dZ)) (y' := (⟨p.Kind, 0, [kid.Plan], [], p.Cols, 0, 0, .imm (bv kid.Plan.Attrs p.Cols)⟩ : GPlO)) dQ Sr Sr zS (by exact ⟨rfl, ⟨rfl, ⟨fun _ _ q => q, rfl, by intro g hg; simp only [List.mem_cons, List.not_mem_nil, or_false] at hg; rcases hg with rfl | rfl | rfl | rfl | rfl <;> rfl⟩⟩⟩)) fun _ => ?_
  refine ae (Jr ?_)
  refine Zs (aN (R := kH) ni Sr zS) ?_
  refine Ju (aj ba Sr (by first | exact Sr | exact Sub.plO rfl) zS) fun _ => ?_
  refine ae (aF ?_)
  refine aZ (rv := .cell 6 46) rfl () (Sel.all _) (.cell (R := bO) ba Sr zS Sr) (Frz.sub (DE (by simp [pushM, h50, hkd, rI, h73, makeM] <;> rfl)))
 try simp only [NF] at h50
 refine Jr (Zs (aC Sr Sr) (Za (ae ?_)))
 refine au Sr (fun h103 => ?_) (fun h103 => ?_)
 ·
  try simp only [NF] at h103
  have h103 : p.Kind = 8 := h103
  have hin := zc hv ht h103
  have hk0 := hin.1
  have hip := IP 0 hk0 _ hin.2.2 (by have := hdiv (gH p); omega)
  have hdg := qM (pl := jb (p.Cols ++ [-1])) (pl' := gH p) (fun c h0 h1 => Cn h0 (by rw [<- hin.2.1]; exact h1)) ht
  refine Jr (Zm (Zs (dJ (R := bg) underlying36 el3) (Zs (aa aX Sr rfl) (Zl bY Sr ?_))))
  refine Zx (dv underlying36 el3 Sr Sr (by show p.Cols.length * _ <= _; omega) (by show p.Cols.length <= _; omega)) fun v110 => ?_
  refine Zs (ax (ys := [(-1 : Int)]) underlying36 el3 ⟨rfl, Sr, trivial⟩ rfl (by decide)) ?_
  refine Zx (iy underlying36 el3 Sr Sr zS (by simp only [List.length_cons, List.length_nil]; omega) (by simp only [List.length_cons, List.length_nil]; omega)) fun v112 => ?_
  refine bc (t := 112) (A' := tSl bg (p.Cols ++ [-1])) (Sel.take (Dz _)) Frz.own0 ?_
  refine Zs (bh (B := fA [tSl be (cu (gH p) ts), tSl be (cr (gH p) ts)]) (ai (mN ts (p.Cols ++ [-1]) (by rw [List.length_append, List.length_singleton, <- hin.2.1]; exact ht) zG) ⟨Sr, Sr, trivial⟩ call163) (by rw [hdg.1, hdg.2])) ?_
  refine Zm (Zs (aM Sr rfl) (Zs (aM Sr rfl) (Za (Za (ae ?_)))))
  refine ar ?_
  refine cl [⟨0, [3], 0⟩, ⟨1, [116], 0⟩, ⟨2, [117], 0⟩, ⟨3, [118], 0⟩, ⟨4, [11], 0⟩, ⟨5, [5], 0⟩, ⟨6, [119, 120, 121], 0⟩, ⟨7, [], 2⟩, ⟨8, [13, 122], 2⟩] rfl (by kernel_rfl) ?_
  refine ZX rfl (aa aX Sr rfl) ?_
  refine ZX rfl (ab dQ Sr) ?_
  refine ZX rfl (ad (i := 0) underlying42 eO Sr Sr rfl (gb hk0)) ?_
  refine ZX rfl (ab ba DQ) ?_
  refine ZX rfl (al Sr) ?_
  refine ZX rfl (ab gh Sr) ?_
  refine ZX rfl (ai (IH 0 hk0 (cu (gH p) ts) hin.2.2 (by have := hdiv (gH p); omega)) ⟨Sr, Sr, Sr, trivial⟩ call97) ?_
  refine dq rfl rfl rfl rfl (aD (fun w => zeroValue46 w) fL) fun b13 => ?_
  refine bI rfl rfl rfl (aj ba Sr Sr zS) fun _ => ?_
  refine cC ?_
  generalize hkd : (pushM x n (nth p.Kids 0) (cu (gH p) ts)) = kid at hip ⊢
  refine bF (t := 13) zS Frz.box ?_
  have hgf := ql hv hz ht zG h103 hip.1 hip.2
  refine Jr (Zl ba Sr ?_)
  refine Zs (gG (ax (ys := [kid.Plan]) underlying42 jR ⟨rfl, Sr, trivial⟩ rfl (by decide)) DZ) ?_
  refine Zs (ap (o := 0) (o' := 2) aX Sr rfl rfl) ?_
  refine Ju (aI (b := b7) (n := 2) (fs := fk) (R := (rSl dZ)) (y' := (⟨p.Kind, 0, [kid.Plan], [], [], 0, 0, .imm []⟩ : GPlO)) dQ Sr Sr zS (by exact ⟨rfl, ⟨rfl, ⟨fun _ _ q => q, rfl, by intro g hg; simp only [List.mem_cons, List.not_mem_nil, or_false] at hg; rcases hg with rfl | rfl | rfl | rfl | rfl <;> rfl⟩⟩⟩)) fun _ => ?_
  refine ae (Jr (Zs (aa aX Sr rfl) (Zl bY Sr (Zs (ap (o := 0) (o' := 4) aX Sr rfl rfl) ?_))))
  refine Ju (aI (b := b7) (n := 4) (fs := fk) (R := (rSl bg)) (y' := (⟨p.Kind, 0, [kid.Plan], [], p.Cols, 0, 0, .imm []⟩ : GPlO)) bY Sr Sr zS (by exact ⟨rfl, ⟨rfl, ⟨rfl, ⟨rfl, ⟨fun _ _ q => q, rfl, by intro g hg; simp only [List.mem_cons, List.not_mem_nil, or_false] at hg; rcases hg with rfl | rfl | rfl <;> rfl⟩⟩⟩⟩⟩)) fun _ => ?_
  refine ae (Jr (Zs (aa aX Sr rfl) (Zl ty3 Sr (Zs (ap (o := 0) (o' := 5) aX Sr rfl rfl) ?_))))
  refine Ju (aI (b := b7) (n := 5) (fs := fk) (R := bg) (y' := (⟨p.Kind, 0, [kid.Plan], [], p.Cols, p.Col, 0, .imm []⟩ : GPlO)) ty3 Sr Sr zS (by exact ⟨rfl, ⟨rfl, ⟨rfl, ⟨rfl, ⟨rfl, ⟨fun _ _ q => q, rfl, by intro g hg; simp only [List.mem_cons, List.not_mem_nil, or_false] at hg; rcases hg with rfl | rfl <;> rfl⟩⟩⟩⟩⟩⟩)) fun _ => ?_
  refine ae (Jr (Zs (aa aX Sr rfl) (Zl ty3 Sr (Zs (ap (o := 0) (o' := 6) aX Sr rfl rfl) ?_))))
  refine Ju (aI (b := b7) (n := 6) (fs := fk) (R := bg) (y' := (⟨p.Kind, 0, [kid.Plan], [], p.Cols, p.Col, p.Agg, .imm []⟩ : GPlO)) ty3 Sr Sr zS (by exact ⟨rfl, ⟨rfl, ⟨rfl, ⟨rfl, ⟨rfl, ⟨rfl, ⟨fun _ _ q => q, rfl, by intro g hg; simp only [List.mem_cons, List.not_mem_nil, or_false] at hg; subst hg; rfl⟩⟩⟩⟩⟩⟩⟩)) fun _ => ?_
  refine ae (ar ?_)
  refine cl [⟨0, [13], 0⟩, ⟨1, [135], 0⟩, ⟨2, [3], 0⟩, ⟨3, [137], 0⟩, ⟨5, [3], 0⟩, ⟨6, [140], 0⟩, ⟨7, [3], 0⟩, ⟨8, [142], 0⟩, ⟨9, [143], 0⟩, ⟨10, [144], 0⟩, ⟨11, [141, 145], 0⟩, ⟨12, [146], 0⟩, ⟨13, [147], 0⟩, ⟨4, [136, 138], 2⟩, ⟨14, [139, 148], 2⟩, ⟨15, [7], 0⟩, ⟨16, [149, 150], 2⟩] rfl (by kernel_rfl) ?_
  refine ZX rfl (aa aX Sr rfl) ?_
  refine ZX rfl (ab bQ Sr) ?_
  refine ZX rfl (aa aX Sr rfl) ?_
  refine ZX rfl (ab bY Sr) ?_
  refine ZX rfl (aa aX Sr rfl) ?_
  refine ZX rfl (ab bQ Sr) ?_
  refine ZX rfl (aa aX Sr rfl) ?_
  refine ZX rfl (ab bQ Sr) ?_
  refine ZX rfl (ah underlying44 Sr) ?_
  refine ZX rfl (dN Sr Sr (by show fe ((p.Attrs.length : Int) - 1); unfold fe; omega)) ?_
  refine ZX rfl (ad (i := p.Cols.length) underlying44 ct Sr Sr (by show (p.Attrs.length : Int) - 1 = _; have := hin.2.1; omega) (gb (by show _ < p.Attrs.length; have := hin.2.1; omega))) ?_
  refine ZX rfl (ab ct Sr) ?_
  refine ZX rfl (ax (ys := [nth p.Attrs p.Cols.length]) underlying44 gv ⟨rfl, Sr, trivial⟩ rfl (by decide)) ?_
  refine dq rfl rfl rfl rfl (bz (Dz _) (lg kid.Plan.Attrs p.Cols hgf.1 zG) ⟨Sr, Sr, trivial⟩ call162) fun v139 => ?_
  refine dq rfl rfl rfl rfl (aL underlying44 gv Sr Sr zS (by simp [bv]; omega) (by simp [bv]; omega)) fun v149 => ?_
  refine ZX rfl (ap (o := 0) (o' := 7) aX Sr rfl rfl) ?_
  refine bI rfl rfl rfl (aI (b := b7) (n := 7) (fs := fk) (R := rV) (y' := (⟨p.Kind, 0, [kid.Plan], [], p.Cols, p.Col, p.Agg, .raw v149⟩ : GPlO)) zz Sr Sr zS (by exact ⟨rfl, ⟨rfl, ⟨rfl, ⟨rfl, ⟨rfl, ⟨rfl, ⟨rfl, ⟨fun _ _ q => DR q, rfl, by intro g hg; cases hg⟩⟩⟩⟩⟩⟩⟩⟩)) fun _ => ?_
  refine cC ?_
  first | refine jL (Sel.take (Sel.take (Dz _))) Ek ?_ | refine jL (Sel.take (Sel.take (Dz _))) Frz2.plO ?_
  refine Jr ?_
  refine Zs (aN (R := bO) ba Sr zS) ?_
  refine Zm (Zs (ai (fP (GPl.mk p.Kind 0 [kid.Plan] [] p.Cols p.Col p.Agg ((bv kid.Plan.Attrs p.Cols) ++ [nth p.Attrs p.Cols.length])) (cr (gH p) ts)) ⟨Sr, Sr, trivial⟩ call159) ?_)
  refine Ju (aj ba Sr (by first | exact Sr | exact Sub.plO rfl) zS) fun _ => ?_
  refine ae (aF ?_)
  refine aZ (rv := .cell 6 46) rfl () (Sel.all _) (.cell (R := bO) ba Sr zS Sr) (Frz.sub (DE (congrArg bO.ty ((kb x (makeM x (GPl.mk p.Kind 0 [] [] p.Cols p.Col p.Agg ((bv kid.Plan.Attrs p.Cols) ++ [nth p.Attrs p.Cols.length])) [kid]) (cr (gH p) ts)).trans (by simp [pushM, h103, hkd, AH] <;> rfl)))))
 try simp only [NF] at h103
 refine Jr (Zs (aC Sr Sr) (Za (ae ?_)))
 refine au Sr (fun h154 => ?_) (fun h154 => ?_)
 ·
  try simp only [NF] at h154
  have h154 : p.Kind = 7 := h154
  have hvk := vk7 hv h154
  have hk0 : 0 < p.Kids.length := by omega
  have hin : TIn (nth p.Kids 0).Attrs.length ts := by rw [<- hvk.2]; exact ht
  have hip := IP 0 hk0 _ hin zG
  refine ar ?_
  refine cl [⟨0, [3], 0⟩, ⟨1, [156], 0⟩, ⟨2, [157], 0⟩, ⟨3, [158], 0⟩, ⟨4, [1], 0⟩, ⟨5, [5], 0⟩, ⟨6, [159, 160, 161], 0⟩, ⟨7, [162], 0⟩, ⟨8, [7], 0⟩, ⟨9, [163, 164], 2⟩] rfl (by kernel_rfl) ?_
  refine ZX rfl (aa aX Sr rfl) ?_
  refine ZX rfl (ab dQ Sr) ?_
  refine ZX rfl (ad (i := 0) underlying42 eO Sr Sr rfl (gb hk0)) ?_
  refine ZX rfl (ab ba DQ) ?_
  refine ZX rfl (al Sr) ?_
  refine ZX rfl (ab gh Sr) ?_
  refine ZX rfl (ai (IH 0 hk0 ts hin zG) ⟨Sr, Sr, Sr, trivial⟩ call97) ?_
  refine ZX rfl (gG (ax (ys := [(pushM x n (nth p.Kids 0) ts).Plan]) underlying42 jR ⟨rfl, Sr, trivial⟩ rfl (by decide)) DZ) ?_
  refine ZX rfl (ap (o := 0) (o' := 2) aX Sr rfl rfl) ?_
  refine bI rfl rfl rfl (aI (b := b7) (n := 2) (fs := fk) (R := (rSl dZ)) (y' := (⟨p.Kind, 0, [(pushM x n (nth p.Kids 0) ts).Plan], [], [], 0, 0, .imm []⟩ : GPlO)) dQ Sr Sr zS (by exact ⟨rfl, ⟨rfl, ⟨fun _ _ q => q, rfl, by intro g hg; simp only [List.mem_cons, List.not_mem_nil, or_false] at hg; rcases hg with rfl | rfl | rfl | rfl | rfl <;> rfl⟩⟩⟩)) fun _ => ?_
  refine cC ?_
  generalize hkd : (pushM x n (nth p.Kids 0) ts) = kid at hip ⊢
  have hrf := qm hv h154 hip.1 hip.2
  refine Jr (Zs (aa aX Sr rfl) (Zl ty3 Sr (Zs (ap (o := 0) (o' := 5) aX Sr rfl rfl) ?_)))
  refine Ju (aI (b := b7) (n := 5) (fs := fk) (R := bg) (y' := (⟨p.Kind, 0, [kid.Plan], [], [], p.Col, 0, .imm []⟩ : GPlO)) ty3 Sr Sr zS (by exact ⟨rfl, ⟨rfl, ⟨rfl, ⟨rfl, ⟨rfl, ⟨fun _ _ q => q, rfl, by intro g hg; simp only [List.mem_cons, List.not_mem_nil, or_false] at hg; rcases hg with rfl | rfl <;> rfl⟩⟩⟩⟩⟩⟩)) fun _ => ?_
  refine ae (Jr (Zs (dJ (R := aS) underlying44 gv) (Zs (ap (o := 0) (o' := 2) aX Sr rfl rfl) ?_)))
  refine Zs (aQ (b := b7) (n := 2) (fs := fk) dQ Sr rfl zS) ?_
  refine Zs (ad (i := 0) underlying42 eO Sr Sr rfl (gb (show 0 < [kid.Plan].length by simp))) ?_
  refine Zs (aa aX DQ rfl) (Zl bQ Sr ?_)
  refine Zx (dv (ys := kid.Plan.Attrs) underlying44 gv Sr Sr (by have := hip.1.a; omega) (by have := hip.1.a; omega)) fun v174 => ?_
  refine Zs (ap (o := 0) (o' := 7) aX Sr rfl rfl) ?_
  refine Ju (aI (b := b7) (n := 7) (fs := fk) (R := rV) (y' := (⟨p.Kind, 0, [kid.Plan], [], [], p.Col, 0, .raw v174⟩ : GPlO)) zz Sr Sr zS (by exact ⟨rfl, ⟨rfl, ⟨rfl, ⟨rfl, ⟨rfl, ⟨rfl, ⟨rfl, ⟨fun _ _ q => DR q, rfl, by intro g hg; cases hg⟩⟩⟩⟩⟩⟩⟩⟩)) fun _ => ?_
  refine ae ?_
  refine bZ (LSub.cons (B := own 89 aS v174 kid.Plan.Attrs) zS (SPs.own0 (by have := hrf.1; intro q; rw [q] at this; simp at this; omega)) LSub.rfl) ?_
  refine ar ?_
  refine cl [⟨0, [7], 0⟩, ⟨2, [3], 0⟩, ⟨3, [178], 0⟩, ⟨4, [3], 0⟩, ⟨5, [180], 0⟩, ⟨6, [3], 0⟩, ⟨7, [182], 0⟩, ⟨8, [181, 183], 0⟩, ⟨9, [184], 0⟩, ⟨10, [185], 0⟩, ⟨1, [176], 1⟩, ⟨11, [177, 179], 1⟩, ⟨12, [187], 1⟩, ⟨13, [186, 188], 2⟩] rfl (by kernel_rfl) ?_
  refine ZX rfl (ap (o := 0) (o' := 7) aX Sr rfl rfl) ?_
  refine ZX rfl (aa aX Sr rfl) ?_
  refine ZX rfl (ab ty3 Sr) ?_
  refine ZX rfl (aa aX Sr rfl) ?_
  refine ZX rfl (ab bQ Sr) ?_
  refine ZX rfl (aa aX Sr rfl) ?_
  refine ZX rfl (ab ty3 Sr) ?_
  refine ZX rfl (ad (i := p.Col.toNat) underlying44 ct Sr Sr (by show p.Col = _; have := hrf.1; omega) (gb (by show _ < p.Attrs.length; have := hrf.1; omega))) ?_
  refine ZX rfl (aa dH Sr rfl) ?_
  refine ZX rfl (ab ty9 Sr) ?_
  refine bW rfl rfl rfl rfl (aQ (b := b7) (n := 7) (fs := fk) At Sr rfl zS) ?_
  refine bW rfl rfl rfl rfl (bd (i := p.Col.toNat) underlying44 ct Sr zS Sr (by show p.Col = _; have := hrf.1; omega) (by show _ < kid.Plan.Attrs.length; have := hrf.1; omega)) ?_
  refine bW rfl rfl rfl rfl (bV (i := p.Col.toNat) dH Sr rfl zS (by show _ < kid.Plan.Attrs.length; have := hrf.1; omega)) ?_
  refine bI rfl rfl rfl (dg (R := eH) (i := p.Col.toNat) (y := nth kid.Plan.Attrs p.Col.toNat) (y' := { nth kid.Plan.Attrs p.Col.toNat with Name := (nth p.Attrs p.Col.toNat).Name }) ty9 Sr Sr zS (gb (by show _ < kid.Plan.Attrs.length; have := hrf.1; omega)) (by exact ⟨fun _ _ q => q, rfl, by intro g hg; simp only [List.mem_cons, List.not_mem_nil, or_false] at hg; rcases hg with rfl | rfl | rfl <;> rfl⟩)) fun _ => ?_
  refine cC ?_
  first | refine jL (Sel.take (Sel.take (Dz _))) Frz2.plO ?_ | refine jL (Sel.take (Sel.take (Dz _))) Ek ?_
  refine Jr ?_
  refine Zs (aN (R := bO) ba Sr zS) ?_
  refine Ju (aj ba Sr (by first | exact Sr | exact Sub.plO rfl) zS) fun _ => ?_
  refine ae (aF ?_)
  refine aZ (rv := .cell 6 46) rfl () (Sel.all _) (.cell (R := bO) ba Sr zS Sr) (Frz.sub (DE (by simp [pushM, h154, hkd, BQ, makeM] <;> rfl)))
 try simp only [NF] at h154
 have h56 : p.Kind = 5 \/ p.Kind = 6 := by rcases cZ hkd with k | k | k | k | k | k | k | k <;> omega
 have hwk := wk5 hv h56
 have hk0 : 0 < p.Kids.length := by omega
 have hk1 : 1 < p.Kids.length := by omega
 have hin : TIn (nth p.Kids 0).Attrs.length ts := by rw [<- hwk.2.1]; exact ht
 have hin1 : TIn (nth p.Kids 1).Attrs.length ts := by rw [<- hwk.2.2, <- hwk.2.1]; exact ht
 refine ay (ar ?_)
 refine cl [⟨0, [3], 0⟩, ⟨1, [190], 0⟩, ⟨2, [191], 0⟩, ⟨3, [192], 0⟩, ⟨4, [1], 0⟩, ⟨5, [5], 0⟩, ⟨6, [193, 194, 195], 0⟩, ⟨7, [3], 0⟩, ⟨8, [197], 0⟩, ⟨9, [198], 0⟩, ⟨10, [199], 0⟩, ⟨11, [1], 0⟩, ⟨12, [5], 0⟩, ⟨13, [200, 201, 202], 0⟩, ⟨14, [196, 203], 0⟩, ⟨15, [7], 0⟩, ⟨16, [204, 205], 2⟩] rfl (by kernel_rfl) ?_
 refine ZX rfl (aa aX Sr rfl) ?_
 refine ZX rfl (ab dQ Sr) ?_
 refine ZX rfl (ad (i := 0) underlying42 eO Sr Sr rfl (gb hk0)) ?_
 refine ZX rfl (ab ba DQ) ?_
 refine ZX rfl (al Sr) ?_
 refine ZX rfl (ab gh Sr) ?_
 refine ZX rfl (ai (IH 0 hk0 ts hin zG) ⟨Sr, Sr, Sr, trivial⟩ call97) ?_
 refine ZX rfl (aa aX Sr rfl) ?_
 refine ZX rfl (ab dQ Sr) ?_
 refine ZX rfl (ad (i := 1) underlying42 eO Sr Sr rfl (gb hk1)) ?_
 refine ZX rfl (ab ba DQ) ?_
 refine ZX rfl (al Sr) ?_
 refine ZX rfl (ab gh Sr) ?_
 refine ZX rfl (ai (IH 1 hk1 ts hin1 zG) ⟨Sr, Sr, Sr, trivial⟩ call97) ?_
 refine ZX rfl (gG (ax (ys := [(pushM x n (nth p.Kids 0) ts).Plan, (pushM x n (nth p.Kids 1) ts).Plan]) underlying42 jR ⟨rfl, Sr, rfl, Sr, trivial⟩ rfl (by decide)) DZ) ?_
 refine ZX rfl (ap (o := 0) (o' := 2) aX Sr rfl rfl) ?_
 refine bI rfl rfl rfl (aI (b := b7) (n := 2) (fs := fk) (R := (rSl dZ)) (y' := (⟨p.Kind, 0, [(pushM x n (nth p.Kids 0) ts).Plan, (pushM x n (nth p.Kids 1) ts).Plan], [], [], 0, 0, .imm []⟩ : GPlO)) dQ Sr Sr zS (by exact ⟨rfl, ⟨rfl, ⟨fun _ _ q => q, rfl, by intro g hg; simp only [List.mem_cons, List.not_mem_nil, or_false] at hg; rcases hg with rfl | rfl | rfl | rfl | rfl <;> rfl⟩⟩⟩)) fun _ => ?_
 refine cC (Jr (Zs (ap (o := 0) (o' := 2) aX Sr rfl rfl) ?_))
 refine Zs (aQ (b := b7) (n := 2) (fs := fk) dQ Sr rfl zS) ?_
 refine Zs (ad (i := 0) underlying42 eO Sr Sr rfl (gb (show 0 < [(pushM x n (nth p.Kids 0) ts).Plan, (pushM x n (nth p.Kids 1) ts).Plan].length by simp))) ?_
 refine Zs (aa aX DQ rfl) (Zl bQ Sr (Zs (ap (o := 0) (o' := 7) aX Sr rfl rfl) ?_))
 refine Ju (aI (b := b7) (n := 7) (fs := fk) (R := (rSl aS)) (y' := (⟨p.Kind, 0, [(pushM x n (nth p.Kids 0) ts).Plan, (pushM x n (nth p.Kids 1) ts).Plan], [], [], 0, 0, .imm (pushM x n (nth p.Kids 0) ts).Plan.Attrs⟩ : GPlO)) bQ Sr Sr zS (by exact ⟨rfl, ⟨rfl, ⟨rfl, ⟨rfl, ⟨rfl, ⟨rfl, ⟨rfl, ⟨fun _ _ q => D8 q, rfl, by intro g hg; cases hg⟩⟩⟩⟩⟩⟩⟩⟩)) fun _ => ?_
 refine ae (Jr ?_)
 refine Zs (aN (R := kH) ni Sr zS) ?_
 refine Ju (aj ba Sr (by first | exact Sr | exact Sub.plO rfl) zS) fun _ => ?_
 refine ae (aF ?_)
 refine aZ (rv := .cell 6 46) rfl () (Sel.all _) (.cell (R := bO) ba Sr zS Sr) (Frz.sub (DE (by rcases h56 with h56 | h56 <;> simp [pushM, h56, makeM] <;> rfl)))
theorem nP (x : Gplanner) (hst : StOk x) : ∀ n, wW x n
  | 0 => fun _ _ _ _ hd => hd.elim
  | n + 1 => fun l p ts h12 hd hv hz ht hl => sf x hst n (nP x hst n) l p ts h12 hd hv hz ht hl
theorem gT (s : GSchema) (hz : SchSz s) (p : aG) (hp : PSz p) : Fun1 prog 66 [aV.ty s, bO.ty p] (tV (.bool (iE s p))) :=
  Fun1.ex (ι := Nat) (fun n => [aV.ty s, (aR n).ty p]) (fun _ => tV (.bool (iE s p))) fun vs h ha => by
    obtain ⟨v1, v2, rfl, a1, a2⟩ := vU ha
    obtain ⟨n, a2⟩ := jQ a2
    exact ⟨n, ⟨a1, a2, trivial⟩, pL s hz n p (hp n), Sr⟩
section
variable {s : GSchema} {p : aG} {st : GStats}
theorem BE (hr : bq s p st = true) (hsz : ∀ t ∈ s.Tables, t.Attrs.length <= 20) (hp : PSz p) : NGd ⟨s, st⟩ (cd ⟨s, st⟩ p) := by
  obtain ⟨hv, hst⟩ := jO hr
  have h := lD hst (fun t ht => Nat.le_trans (hsz t ht) (by omega)) (dG p) (qq hv) (hp _)
  exact ⟨h.2.1, by rw [cP], by rw [cP]; exact h.1⟩
theorem zi (hr : bq s p st = true) (hsz : ∀ t ∈ s.Tables, t.Attrs.length <= 20) (hp : PSz p) : Fun1 prog 95 [bO.ty p, bA.ty st] (cG.ty (gq (cd ⟨s, st⟩ p))) := by
  have := uj (BE hr hsz hp)
  rwa [cP] at this
end
theorem nj (s : GSchema) (hz : SchSz s) (hsz : ∀ t ∈ s.Tables, t.Attrs.length <= 20) (hts : s.Tables.length <= 1000) (p : aG) (hp : PSz p) (st : GStats) (hds : ∀ d ∈ st.Distinct, d.length <= 1000000000000) : Fun1 prog 39 [aV.ty s, bO.ty p, bA.ty st] (fA [tV (.int .i64 (An s p st)), tV (.int .i64 (tM s p st))]) := by
 refine Spec.enter func39 rfl rfl fun h0 w0 fr0 => ?_
 refine Jr (Zs (aJ (R := aV) Sr) (Zs (aJ (R := bO) Sr) (Zs (aJ (R := bA) Sr) (Za (Za ?_)))))
 refine ae (ar (Jr (Zl fR Sr (Zl ba Sr (Zs (ai (gT s hz p hp) ⟨Sr, Sr, trivial⟩ call66) ?_)))))
 refine Zs (bf Sr) (Zm ?_)
 refine Zk (ab fR Sr) ?_
 refine Zk (ab gh Sr) ?_
 refine Zg (fun hw => ai (sX s st zG hds) ⟨(Sub.w hw), (Sub.w hw), trivial⟩ call94) (Zg (fun hw => bf (Sub.w hw)) (Zs (az Sr Sr) (ae ?_)))
 refine au Sr (fun h17 => ?_) (fun h17 => ?_)
 ·
  try simp only [NF] at h17
  have hf : bq s p st = false := by rw [iL]; cases hv1 : iE s p <;> cases hv2 : xg s st <;> simp_all
  obtain ⟨e1, e2, _⟩ := Cj hf
  refine Jr (Za (Za (ae (aF ?_))))
  refine bJ (rv := .tmp 6) (rv' := .tmp 7) rfl () (Sel.all _) (.tmp Sr) (.tmp Sr) (Frz.sub (Sub.int (by rw [e1]; try rfl))) (Frz.sub (Sub.int (by rw [e2]; try rfl))) Sr
 try simp only [NF] at h17
 have hf : bq s p st = true := by rw [iL]; cases hv1 : iE s p <;> cases hv2 : xg s st <;> simp_all
 have e1 := Ao hf
 have e2 := (Ck hf).1
 refine ay (Jr (Zl ba Sr (Zl gh Sr (Zs (ai (zi hf hsz hp) ⟨Sr, Sr, trivial⟩ call95) (Zs (cI ek Sr rfl) ?_)))))
 refine Za (Za (ae (aF ?_)))
 refine bJ (rv := .tmp 6) (rv' := .tmp 7) rfl () (Sel.all _) (.tmp Sr) (.tmp Sr) (Frz.sub (Sub.int (by rw [e1]; try rfl))) (Frz.sub (Sub.int (by rw [e2]; try rfl))) Sr
theorem o0 (s : GSchema) (hz : SchSz s) (hsz : ∀ t ∈ s.Tables, t.Attrs.length <= 20) (hts : s.Tables.length <= 1000) (p : aG) (hq : QOk s p 1000) (st : GStats) (hds : ∀ d ∈ st.Distinct, d.length <= 1000000000000) : Fun1 prog 41 [aV.ty s, bO.ty p, bA.ty st] (fA [bO.ty (ud s p st), tV (.int .i64 (Ah s p st))]) := by
 refine Spec.enter func41 rfl rfl fun h0 w0 fr0 => ?_
 have hp := hq.z
 refine Jr (Zs (aJ (R := aV) Sr) (Zs (aJ (R := bO) Sr) (Zs (aJ (R := bA) Sr) ?_)))
 refine Zx (aD (fun w => zeroValue46 w) fL) fun b6 => ?_
 refine Za (ae (ar (Jr (Zl fR Sr (Zl ba Sr ?_)))))
 refine Zs (ai (gT s hz p hp) ⟨Sr, Sr, trivial⟩ call66) (Zs (bf Sr) (Zm ?_))
 refine Zk (ab fR Sr) ?_
 refine Zk (ab gh Sr) ?_
 refine Zg (fun hw => ai (sX s st zG hds) ⟨(Sub.w hw), (Sub.w hw), trivial⟩ call94) (Zg (fun hw => bf (Sub.w hw)) (Zs (az Sr Sr) (ae ?_)))
 refine au Sr (fun h18 => ?_) (fun h18 => ?_)
 ·
  try simp only [NF] at h18
  have hf : bq s p st = false := by rw [iL]; cases hv1 : iE s p <;> cases hv2 : xg s st <;> simp_all
  refine Jr (Zs (aU (x := (GPl.zero : aG)) (zs := [[Value.int .i64 0], [Value.int .i64 0], [Value.slice none 0 0], [Value.slice none 0 0], [Value.slice none 0 0], [Value.int .i64 0], [Value.int .i64 0], [Value.slice none 0 0]]) aX (fun w => zeroValue46 w) trivial ⟨fun _ => rfl, fun _ => rfl, fun _ => ⟨_, rfl, none, ⟨0, Nat.le_refl _⟩, rfl, fun q => absurd rfl q⟩, fun _ => ⟨_, rfl, none, ⟨0, Nat.le_refl _⟩, rfl, fun q => absurd rfl q⟩, fun _ => ⟨_, rfl, none, ⟨0, Nat.le_refl _⟩, rfl, fun q => absurd rfl q⟩, fun _ => rfl, fun _ => rfl, fun _ => ⟨_, rfl, none, ⟨0, Nat.le_refl _⟩, rfl, fun q => absurd rfl q⟩, trivial⟩) ?_)
  refine Ju (aj ba Sr Sr zS) fun _ => ?_
  refine Za (ae (aF ?_))
  refine bJ (rv := .cell 6 46) (rv' := .tmp 7) rfl () (Sel.all _) (.cell (R := bO) ba Sr zS Sr) (.tmp Sr) (Frz.sub (DE (by rw [ud, (wt hf).1]))) (Frz.sub (Sub.int (by rw [(wt (n := 0) hf).2]))) Sr
 try simp only [NF] at h18
 have hf : bq s p st = true := by rw [iL]; cases hv1 : iE s p <;> cases hv2 : xg s st <;> simp_all
 obtain ⟨hvl, hst⟩ := jO hf
 have hs := hq.t hvl
 have hpu := sV hf hq (Nat.le_refl _)
 refine ay (Jr (Zl ba Sr (Zl gh Sr ?_)))
 refine Zs (ai (nP (⟨s, st⟩ : Gplanner) hst (depP p) 12 p [] zG (dG p) (qq hvl) hp (fun t ht => by cases ht) (by show 0 + _ <= _; omega)) ⟨Sr, DT, Sr, trivial⟩ call97) ?_
 refine Zx (aD (fun w => zeroValue46 w) fL) fun b8 => ?_
 refine Ju (aj ba Sr Sr zS) fun _ => ?_
 refine bc (t := 8) (Sel.take (Dz _)) Frz.box ?_
 refine ae (ar (ar ?_))
 refine cl [⟨0, [3], 0⟩, ⟨1, [8], 0⟩, ⟨2, [23, 24], 0⟩, ⟨3, [25], 0⟩, ⟨4, [8, 26], 0⟩, ⟨5, [5, 26], 0⟩, ⟨6, [26, 27, 28], 0⟩, ⟨7, [26, 29], 0⟩, ⟨8, [4, 26], 0⟩, ⟨9, [5, 26], 0⟩, ⟨10, [26, 31, 32], 0⟩, ⟨11, [26, 33], 0⟩, ⟨12, [26, 30, 34], 0⟩, ⟨13, [26, 35], 0⟩] rfl (by kernel_rfl) ?_
 refine ZX rfl (ab fR Sr) ?_
 refine ZX rfl (ab ba Sr) ?_
 refine ZX rfl (ai (gT s hz (pushM (⟨s, st⟩ : Gplanner) (depP p) p []).Plan hpu.z) ⟨Sr, Sr, trivial⟩ call66) ?_
 refine ZX rfl (al Sr) ?_
 refine bS rfl rfl rfl rfl (DV Sr) rfl rfl (fun hw _ => ab ba Sr) ?_
 refine bS rfl rfl rfl rfl (DV Sr) rfl rfl (fun hw _ => ab gh Sr) ?_
 refine bS rfl rfl rfl rfl (DV Sr) rfl rfl (fun hw _ => ai (uj hpu.g) ⟨(Sub.w hw), (Sub.w hw), trivial⟩ call95) ?_
 refine bS rfl rfl rfl rfl (DV Sr) rfl rfl (fun hw _ => cI ek (Sub.w hw) rfl) ?_
 refine bS rfl rfl rfl rfl (DV Sr) rfl rfl (fun hw _ => ab ba Sr) ?_
 refine bS rfl rfl rfl rfl (DV Sr) rfl rfl (fun hw _ => ab gh Sr) ?_
 refine bS rfl rfl rfl rfl (DV Sr) rfl rfl (fun hw _ => ai (zi hf hsz hp) ⟨(Sub.w hw), (Sub.w hw), trivial⟩ call95) ?_
 refine bS rfl rfl rfl rfl (DV Sr) rfl rfl (fun hw _ => cI ek (Sub.w hw) rfl) ?_
 refine bS rfl rfl rfl rfl (DV Sr) rfl rfl (fun hw _ => bM (Sub.w hw) (Sub.w hw)) ?_
 refine ZX rfl (aw Sr Sr) ?_
 refine cC ?_
 refine au Sr (fun h36 => ?_) (fun h36 => ?_)
 ·
  try simp only [NF] at h36
  have hal : ¬ (iE s (pushM (⟨s, st⟩ : Gplanner) (depP p) p []).Plan = false \/ (cd (⟨s, st⟩ : Gplanner) p).size.cost < (pushM (⟨s, st⟩ : Gplanner) (depP p) p []).size.cost) := by simp [gq] at h36; intro q; rcases q with q | q; exact absurd h36.1 (by simp [q]); omega
  refine Jr (Zl ba Sr ?_)
  refine Ju (aj ba Sr Sr zS) fun _ => ?_
  refine Za (ae (aF ?_))
  refine bJ (rv := .cell 6 46) (rv' := .tmp 7) rfl () (Sel.all _) (.cell (R := bO) ba Sr zS Sr) (.tmp Sr) (Frz.sub (DE (by rw [ud, oH hf hal]))) (Frz.sub (Sub.int (by rw [wu hf]))) Sr
 try simp only [NF] at h36
 have hal : (iE s (pushM (⟨s, st⟩ : Gplanner) (depP p) p []).Plan = false \/ (cd (⟨s, st⟩ : Gplanner) p).size.cost < (pushM (⟨s, st⟩ : Gplanner) (depP p) p []).size.cost) := by simpa [gq] using h36
 refine ay (Jr (Zl ba Sr ?_))
 refine Ju (aj ba Sr Sr zS) fun _ => ?_
 refine Za (ae (aF ?_))
 refine bJ (rv := .cell 6 46) (rv' := .tmp 7) rfl () (Sel.all _) (.cell (R := bO) ba Sr zS Sr) (.tmp Sr) (Frz.sub (DE (by rw [ud, oG hf hal]))) (Frz.sub (Sub.int (by rw [wu hf]))) Sr
theorem sZ (a b : ByteArray) : Op.bytesLess a.toList b.toList = decide (ofB a < ofB b) := by
  rw [Bool.eq_iff_iff, bytesLess_iff, ByteArray.toList_eq, ByteArray.toList_eq, decide_eq_true_eq]
theorem o4 {C : Cx} {E : Env} {L : List SP} {d : Option Nat} {ty : Nat} {pos : String} {af : Array Edge} {g : Option (Nat × Bool)} {T U : Nat} {x y : Operand} {a b : ByteArray} (hx : Sub (opTy E x) (tV (.string a))) (hy : Sub (opTy E y) (tV (.string b))) :
    bs C ⟨d, .binOp .lss T x y U, ty, pos, af, g⟩ E L (tV (.bool (decide (ofB a < ofB b)))) := by
  have h := pf (C := C) (L := L) (d := d) (ty := ty) (pos := pos) (af := af) (g := g) (T := T) (U := U) hx hy
  rw [sZ] at h; exact h
theorem o5 {C : Cx} {E : Env} {L : List SP} {d : Option Nat} {ty : Nat} {pos : String} {af : Array Edge} {g : Option (Nat × Bool)} {T U : Nat} {x y : Operand} {a b : ByteArray} (hx : Sub (opTy E x) (tV (.string a))) (hy : Sub (opTy E y) (tV (.string b))) :
    bs C ⟨d, .binOp .gtr T x y U, ty, pos, af, g⟩ E L (tV (.bool (decide (ofB b < ofB a)))) := by
  have h := pg (C := C) (L := L) (d := d) (ty := ty) (pos := pos) (af := af) (g := g) (T := T) (U := U) hx hy
  have e : (!(Op.bytesLess a.toList b.toList || a.toList == b.toList)) = decide (ofB b < ofB a) := by
    rw [sZ, toL_eq, Bool.eq_iff_iff]
    simp only [Bool.not_eq_true', Bool.or_eq_false_iff, decide_eq_false_iff_not, decide_eq_true_eq]
    constructor
    · rintro ⟨h1, h2⟩
      exact List.not_le.1 fun h3 => h2 (ofB_inj' (List.le_antisymm h3 (List.not_lt.1 h1)))
    · intro h1
      exact ⟨fun h2 => List.lt_irrefl _ (List.lt_trans h1 h2), fun h2 => by subst h2; exact List.lt_irrefl _ h1⟩
  rw [e] at h; exact h
theorem wX {a b : LV} {i : Nat} (h1 : i < a.length) (h2 : i < b.length) : cmpR (a.drop i) (b.drop i) = if cmpV (nth a i) (nth b i) ≠ 0 then cmpV (nth a i) (nth b i) else cmpR (a.drop (i + 1)) (b.drop (i + 1)) := by
  rw [List.drop_eq_getElem_cons h1, List.drop_eq_getElem_cons h2, nth_get h1, nth_get h2, cmpR]
theorem o6 {a b : LV} {i : Nat} (h1 : i <= a.length) (h2 : i <= b.length) (h : ¬ (i < a.length /\ i < b.length)) : cmpR (a.drop i) (b.drop i) = ordI a.length b.length := by
  have la : (a.drop i).length = a.length - i := List.length_drop ..
  have lb : (b.drop i).length = b.length - i := List.length_drop ..
  unfold ordI
  generalize a.drop i = x at la
  generalize b.drop i = y at lb
  match x, y with
  | [], [] => simp at la lb; rw [if_neg (by omega), if_neg (by omega)]; rfl
  | [], _ :: _ => simp at la lb; rw [if_pos (by omega)]; rfl
  | _ :: _, [] => simp at la lb; rw [if_neg (by omega), if_pos (by omega)]; rfl
  | _ :: _, _ :: _ => simp at la lb; omega
theorem kJ (a b : Int) : Fun1 prog 287 [tV (.int .i64 a), tV (.int .i64 b)] (tV (.int .i64 (ordI a b))) := by
 refine Spec.enter func287 rfl rfl fun h0 w0 fr0 => ?_
 refine Jr (Za (ae (ar (Jr (Zm ?_)))))
 refine Zm (Zs (aA Sr Sr) (ae ?_))
 refine au Sr (fun h7 => ?_) (fun h7 => ?_)
 ·
  try simp only [NF] at h7
  refine Jr (Za (ae (aF ?_)))
  refine aK (t := 4) rfl () (Sub.int (by rw [ordI, if_pos h7]))
 try simp only [NF] at h7
 refine ay (ar (Jr (Zm (Zm (Zs (bD Sr Sr) ?_)))))
 refine ae ?_
 refine au Sr (fun h10 => ?_) (fun h10 => ?_)
 ·
  try simp only [NF] at h10
  refine Jr (Za (ae (aF ?_)))
  refine aK (t := 4) rfl () (Sub.int (by rw [ordI, if_neg zG, if_pos h10]))
 try simp only [NF] at h10
 refine ay (Jr (Za (ae (aF ?_))))
 refine aK (t := 4) rfl () (Sub.int (by rw [ordI, if_neg zG, if_neg zG]))
theorem o7 (a b : GValue) : Fun1 prog 286 [rValue.ty a, rValue.ty b] (tV (.int .i64 (cmpV a b))) := by
 refine Spec.enter func286 rfl rfl fun h0 w0 fr0 => ?_
 refine Jr (Zs (aJ (R := rValue) Sr) (Zs (aJ (R := rValue) Sr) (Za (ae (ar ?_)))))
 refine Jr (Zs (aa eT Sr rfl) (Zl ty3 Sr (Zs (aa eT Sr rfl) (Zl ty3 Sr (Zs (bb Sr Sr) ?_)))))
 refine ae ?_
 refine au Sr (fun h9 => ?_) (fun h9 => ?_)
 ·
  try simp only [NF] at h9
  have h9 : ordI a.Kind b.Kind ≠ 0 := fun q => h9 (AJ.eq.1 q)
  refine Jr (Zs (aa eT Sr rfl) (Zl ty3 Sr (Zs (aa eT Sr rfl) (Zl ty3 Sr (Zs (ai (kJ a.Kind b.Kind) ⟨Sr, Sr, trivial⟩ call287) ?_)))))
  refine Za (ae (aF ?_))
  refine aK (t := 4) rfl () (Sub.int (by unfold cmpV; rw [if_pos h9]))
 try simp only [NF] at h9
 have h9 : ordI a.Kind b.Kind = 0 := AJ.eq.2 (by simpa using h9)
 refine ay (ar (Jr (Zs (aa eT Sr rfl) (Zl ty3 Sr (Zs (aa eT Sr rfl) ?_)))))
 refine Zl ty3 Sr (Zs (bb Sr Sr) (ae ?_))
 refine au Sr (fun h19 => ?_) (fun h19 => ?_)
 ·
  try simp only [NF] at h19
  have h19 : ordI a.N b.N ≠ 0 := fun q => h19 (AJ.eq.1 q)
  refine Jr (Zs (aa eT Sr rfl) (Zl ty3 Sr (Zs (aa eT Sr rfl) (Zl ty3 Sr (Zs (ai (kJ a.N b.N) ⟨Sr, Sr, trivial⟩ call287) ?_)))))
  refine Za (ae (aF ?_))
  refine aK (t := 4) rfl () (Sub.int (by unfold cmpV; rw [if_neg (by simp [h9]), if_pos h19]))
 try simp only [NF] at h19
 have h19 : ordI a.N b.N = 0 := AJ.eq.2 (by simpa using h19)
 refine ay (ar (Jr (Zs (aa eT Sr rfl) (Zl ty9 Sr (Zs (aa eT Sr rfl) ?_)))))
 refine Zl ty9 Sr (Zs (o4 Sr Sr) (ae ?_))
 refine au Sr (fun h29 => ?_) (fun h29 => ?_)
 ·
  try simp only [NF] at h29
  refine Jr (Za (ae (aF ?_)))
  refine aK (t := 4) rfl () (Sub.int (by unfold cmpV; rw [if_neg (by simp [h9]), if_neg (by simp [h19]), ordS, if_pos h29]))
 try simp only [NF] at h29
 refine ay (ar (Jr (Zs (aa eT Sr rfl) (Zl ty9 Sr (Zs (aa eT Sr rfl) ?_)))))
 refine Zl ty9 Sr (Zs (o5 Sr Sr) (ae ?_))
 refine au Sr (fun h34 => ?_) (fun h34 => ?_)
 ·
  try simp only [NF] at h34
  refine Jr (Za (ae (aF ?_)))
  refine aK (t := 4) rfl () (Sub.int (by unfold cmpV; rw [if_neg (by simp [h9]), if_neg (by simp [h19]), ordS, if_neg h29, if_pos h34]))
 try simp only [NF] at h34
 refine ay (Jr (Za (ae (aF ?_))))
 refine aK (t := 4) rfl () (Sub.int (by unfold cmpV; rw [if_neg (by simp [h9]), if_neg (by simp [h19]), ordS, if_neg h29, if_neg h34]))
theorem kK (a b : LV) (ha : a.length <= 1000000000000) (hb : b.length <= 1000000000000) : Fun1 prog 215 [tSl rValue a, tSl rValue b] (tV (.int .i64 (cmpR a b))) := by
 refine Spec.enter func215 rfl rfl fun h0 w0 fr0 => ?_
 refine Jr (Za (ae (ar (Jr (Za ?_)))))
 refine ae (av ?_)
 refine aO (σ := Nat) (fun i => i <= a.length /\ i <= b.length /\ cmpR (a.drop i) (b.drop i) = cmpR a b) (fun i => upd (upd (upd cg 0 (tSl rValue a)) 1 (tSl rValue b)) 5 (tV (.int .i64 i))) (fun i => []) (fun i => a.length - i) 0 ⟨Nat.zero_le _, Nat.zero_le _, rfl⟩ (zU) (LSub.rfl) ?_
 rintro i ⟨hi1, hi2, hi3⟩
 refine ar (Jr (Zm (Zm (Zs (ah underlying22 Sr) (Zs (aA Sr Sr) ?_)))))
 refine Zm ?_
 refine Zk (al Sr) ?_
 refine Zk (al Sr) ?_
 refine Zg (fun hw => ah underlying22 (Sub.w hw)) (Zg (fun hw => aA (Sub.w hw) (Sub.w hw)) (Zs (aw Sr Sr) (ae ?_)))
 refine au Sr (fun h16 => ?_) (fun h16 => ?_)
 ·
  try simp only [NF] at h16
  have hij : i < a.length /\ i < b.length := by simpa using h16
  have hia := hij.1
  have hib := hij.2
  have hst := wX hia hib
  refine ay (ar (av (ar ?_)))
  refine bl [⟨0, [0], true⟩, ⟨1, [5], true⟩, ⟨2, [19, 20], true⟩, ⟨3, [21], true⟩, ⟨4, [1], true⟩, ⟨5, [5], true⟩, ⟨6, [23, 24], true⟩, ⟨7, [25], true⟩, ⟨8, [22, 26], true⟩, ⟨9, [27], true⟩] rfl (by kernel_rfl) ?_
  refine Zv rfl (Zv rfl ?_)
  refine Zf rfl (ad (i := i) underlying22 jp Sr Sr (by rfl) (gb (by exact hia))) ?_
  refine Zf rfl (ab jp Sr) (Zv rfl (Zv rfl ?_))
  refine Zf rfl (ad (i := i) underlying22 jp Sr Sr (by rfl) (gb (by exact hib))) ?_
  refine Zf rfl (ab jp Sr) (Zf rfl (ai (o7 (nth a i) (nth b i)) ⟨Sr, Sr, trivial⟩ call286) (Zf rfl (aW Sr) (bj (Jr (Zm ?_)))))
  refine Zs (bb Sr Sr) (ae ?_)
  refine au Sr (fun h29 => ?_) (fun h29 => ?_)
  ·
   try simp only [NF] at h29
   have h29 : cmpV (nth a i) (nth b i) ≠ 0 := h29
   rw [if_pos h29] at hst
   refine Jr (Zm (Za (ae (aF ?_))))
   refine aK (t := 4) rfl () (Sub.int (by rw [<- hi3, hst]))
  try simp only [NF] at h29
  have h29 : ¬ cmpV (nth a i) (nth b i) ≠ 0 := by simpa using h29
  rw [if_neg h29] at hst
  refine ay (aq (Zm (Zs (aB Sr Sr z6) (Za (ae ?_)))))
  refine aE (σ := Nat) (s := i) (i + 1) zO ⟨by omega, by omega, by rw [<- hst]; exact hi3⟩ (zU) (LSub.rfl)
 try simp only [NF] at h16
 have hij : ¬ (i < a.length /\ i < b.length) := fun q => (by rcases h16 with h | h <;> omega)
 refine aY (Jr (Zm (Zs (ah underlying22 Sr) (Zm (Zs (ah underlying22 Sr) ?_)))))
 refine Zs (ai (kJ a.length b.length) ⟨Sr, Sr, trivial⟩ call287) (Za (ae (aF ?_)))
 refine aK (t := 4) rfl () (Sub.int (by rw [<- hi3, o6 hi1 hi2 hij]))
theorem nQ (a b : LV) (ha : a.length <= 1000000000000) (hb : b.length <= 1000000000000) : Fun1 prog 144 [tSl rValue a, tSl rValue b] (tV (.bool (decide (cmpR a b < 0)))) := by
 refine Spec.enter func144 rfl rfl fun h0 w0 fr0 => ?_
 refine Jr (Za (ae (Jr (Zm (Zm ?_)))))
 refine Zs (ai (kK a b ha hb) ⟨Sr, Sr, trivial⟩ call215) (Zs (aA Sr Sr) (Za (ae (aF ?_))))
 exact aK (t := 4) rfl () Sr
theorem qN (t : GTable) (row : LV) (hl : row.length <= 1000000000000) : Fun1 prog 90 [cc.ty t, tSl rValue row] (tV (.bool (fitsM t row))) := by
 refine Spec.enter func90 rfl rfl fun h0 w0 fr0 => ?_
 refine Jr (Zs (aJ (R := cc) Sr) (Za (ae (ar (Jr ?_)))))
 refine Zm (Zs (ah underlying22 Sr) (Zs (aa eu Sr rfl) (Zl bQ Sr (Zs (ah underlying44 Sr) (Zs (bb Sr Sr) ?_)))))
 refine ae ?_
 refine au Sr (fun h11 => ?_) (fun h11 => ?_)
 ·
  try simp only [NF] at h11
  have hne : ¬ row.length = t.Attrs.length := by intro q; exact h11 zG
  refine Jr (Za (ae (aF ?_)))
  refine aK (t := 4) rfl () (Sub.bool (by unfold fitsM; rw [decide_eq_false hne]; rfl))
 try simp only [NF] at h11
 have heq : row.length = t.Attrs.length := by omega
 refine ay (ar (Jr (Za (ae (av ?_)))))
 refine aO (σ := Nat) (fun i => i <= row.length /\ ∀ j, j < i -> tg (nth t.Attrs j).Kind (nth row j) = true) (fun i => upd (upd (upd cg 1 (tSl rValue row)) 2 (bx cc t)) 5 (tV (.int .i64 i))) (fun i => []) (fun i => row.length - i) 0 ⟨Nat.zero_le _, fun j h => absurd h (Nat.not_lt_zero j)⟩ (zU) (LSub.rfl) ?_
 rintro i ⟨hi, hall⟩
 refine ar (Jr (Zm (Zm (Zs (ah underlying22 Sr) (Zs (aA Sr Sr) ?_)))))
 refine ae ?_
 refine au Sr (fun h15 => ?_) (fun h15 => ?_)
 ·
  try simp only [NF] at h15
  have hlt : i < row.length := by omega
  refine ay (ar (av (ar ?_)))
  refine bl [⟨0, [2], true⟩, ⟨1, [18], true⟩, ⟨2, [5], true⟩, ⟨3, [19, 20], true⟩, ⟨4, [21], true⟩, ⟨5, [22], true⟩, ⟨6, [1], true⟩, ⟨7, [5], true⟩, ⟨8, [24, 25], true⟩, ⟨9, [26], true⟩, ⟨10, [23, 27], true⟩, ⟨11, [28], true⟩] rfl (by kernel_rfl) ?_
  refine Zf rfl (aa eu Sr rfl) (Zf rfl (ab bQ Sr) (Zv rfl ?_))
  refine Zf rfl (ad (i := i) underlying44 ct Sr Sr (by rfl) (gb (by show i < t.Attrs.length; omega))) ?_
  refine Zf rfl (aa dH Sr rfl) (Zf rfl (ab ty3 Sr) (Zv rfl (Zv rfl ?_)))
  refine Zf rfl (ad (i := i) underlying22 jp Sr Sr (by rfl) (gb (by exact hlt))) ?_
  refine Zf rfl (ab jp Sr) (Zf rfl (ai (pC (nth t.Attrs i).Kind (nth row i)) ⟨Sr, Sr, trivial⟩ call143) (Zf rfl (bf Sr) (bj ?_)))
  refine au Sr (fun h29 => ?_) (fun h29 => ?_)
  ·
   try simp only [NF] at h29
   have h29 : tg (nth t.Attrs i).Kind (nth row i) = false := by simpa using h29
   refine Jr (Za (ae (aF ?_)))
   refine aK (t := 4) rfl () (Sub.bool (by
    unfold fitsM
    have : ((List.range row.length).all fun i => tg (nth t.Attrs i).Kind (nth row i)) = false := List.all_eq_false.2 ⟨i, List.mem_range.2 hlt, by simp [h29]⟩
    rw [this, Bool.and_false]))
  try simp only [NF] at h29
  have h29 : tg (nth t.Attrs i).Kind (nth row i) = true := by simpa using h29
  refine ay (aq (Zm (Zs (aB Sr Sr z6) (Za (ae ?_)))))
  refine aE (σ := Nat) (s := i) (i + 1) zO ⟨by omega, fun j hj => by by_cases e : j = i; subst e; exact h29; exact hall j zG⟩ (zU) (LSub.rfl)
 try simp only [NF] at h15
 obtain rfl : i = row.length := by omega
 refine aY (Jr (Za (ae (aF ?_))))
 refine aK (t := 4) rfl () (Sub.bool (by
  unfold fitsM
  have : ((List.range row.length).all fun i => tg (nth t.Attrs i).Kind (nth row i)) = true := List.all_eq_true.2 fun j hj => hall j (List.mem_range.1 hj)
  rw [this, decide_eq_true heq]; rfl))
end Lg
